/- A VERIFIED EVALUATOR, texts E3o, E3p, E3q, E3r, E3s, E3t, E3u, E3v, E3w, E3x, E3y, E3z, E3za in one. -/
import Derived.Test.YtofmpipjklcjhaaDoorM4
import Derived.ChangeBook
import Derived.ChangeStays
import Derived.ChangeArms
import Derived.ChangeMaps5
import Derived.OpenShut
/- E3: REGIONS in the order of the text. -/
namespace Go.E3
open Go Go.E2

variable {K : Nat → Type}

section
variable {X : Codecs K} {sz : Nat → Nat} {C : Cfg Int Bool (List UInt8) Prop (fun c => List (K c))} {base H : Heap} {st : StV K} {fr : Fr} {w : Wd}
variable {tbl : Tbl K} {inv : Nat → List (NV K) → Prop} {meas : Nat → List (NV K) → Nat} {inl : Inl Int Bool (List UInt8) Prop (fun c => List (K c))}
variable {nd : Bool} {all : Array Oper} {Q : Ex → Fr → Heap → Prop}

theorem Rel.put (R : Rel X sz C base st fr H w) {dst : Option Tmp} {p : PV K} {v : V} (r : Rep X sz w p v) : Rel X sz C base (st.put dst p) (fr.put dst v) H w := by
  obtain ⟨h, f, n, ds⟩ := R
  cases dst with
  | none => exact ⟨h, f, n, ds⟩
  | some d =>
    obtain ⟨t, m, c, o, x, kn⟩ := st
    obtain ⟨t', m', ds'⟩ := fr
    have hn : m' = m := n
    subst hn
    simp only [St.put, Fr.put]
    cases hb : Nat.blt d m' with
    | false => simp only [cond_false]; exact ⟨h, f, rfl, ds⟩
    | true =>
      simp only [cond_true]
      refine ⟨⟨h.wf, h.rob, h.g, h.nx, h.b, h.Mlt, h.n, h.one, h.keeps, h.cl, h.cinj, h.cells, h.owns, h.ownn, h.eta, h.einj, h.ce, h.known, h.globs⟩, fun i q hq => ?_, rfl, ds⟩
      simp only [Tree.get_set] at hq
      simp only [Fr.tmp, Tree.get_set]
      by_cases hi : i = d
      · rw [if_pos hi] at hq ⊢
        cases hq
        exact ⟨v, rfl, r⟩
      · rw [if_neg hi] at hq ⊢
        exact f i q hq

theorem Rel.step (ok : CfgOk X sz C) (R : Rel X sz C base st fr H w) {st' : StV K} {H' : Heap} {w' : Wd} (ht : st'.tmps = st.tmps) (hn : st'.n = st.n) (hh : RelH X sz C base st' H' w') (hle : Le w w') : Rel X sz C base st' fr H' w' :=
  ⟨hh, fun i p hp => by
    rw [ht] at hp
    obtain ⟨v, h1, h2⟩ := R.f i p hp
    exact ⟨v, h1, h2.mono ok.len hle⟩, by rw [hn]; exact R.n, R.ds⟩

theorem wantP_sound (R : Rel X sz C base st fr H w) {o : Oper} {k : Bool → StV K → Prop} (h : wantP (stdA X tbl inv meas) o all st k) :
    ∃ b st', wantV o all fr = some b ∧ k b st' ∧ Near st st' ∧ st'.next = st.next ∧ RelH X sz C base st' H w := by
  unfold wantP at h
  split at h
  · rename_i hg
    exact ⟨true, st, want_free hg, h, .refl st, rfl, R.h⟩
  · rename_i j want hg
    split at h
    · rename_i hd
      exact ⟨false, st, by simp only [wantV, hg, hd], h, .refl st, rfl, R.h⟩
    · rename_i d hd
      split at h
      · rename_i b hb
        obtain ⟨v, h1, h2⟩ := R.f d _ hb
        cases h2
        exact ⟨b == want, st, want_is hg hd h1, h, .refl st, rfl, R.h⟩
      · rename_i id neg b pt pf hb
        obtain ⟨v, h1, h2⟩ := R.f d _ hb
        cases h2 with
        | sb q1 q2 q3 =>
          obtain ⟨st', h', hn, hx, R'⟩ := br_sound R.h (.sb q1 q2 q3) h
          exact ⟨b == want, st', want_is hg hd h1, h', hn, hx, R'⟩
      · rename_i hb
        obtain ⟨v, h1, h2⟩ := R.f d _ hb
        obtain ⟨vs, rfl, hr⟩ := h2.tuple_iff
        have := hr.nil_iff; subst this
        exact ⟨false, st, want_undef hg hd h1, h, .refl st, rfl, R.h⟩
      · exact absurd h id

theorem elemsV_str {H : Heap} {s : List UInt8} : elemsV H 1 (.str s) = some (s.length, s.map fun b => .int .u8 b.toNat) := by
  simp only [elemsV, Nat.beq_refl, cond_true]

theorem str_items (ok : CfgOk X sz C) (s : List UInt8) : (X.u8 ▸ s : List (K 0)).length = s.length ∧ RepL X sz w ((X.u8 ▸ s : List (K 0)).flatMap (X.cells 0)) (s.map fun b => V.int .u8 b.toNat) := by
  have key : ∀ (l : List (K 0)), RepL X sz w (l.flatMap (X.cells 0)) ((X.u8 ▸ l : List UInt8).map fun b => V.int .u8 b.toNat) := by
    intro l
    rw [cast_list]
    induction l with
    | nil => exact .nil
    | cons x l ih =>
      rw [List.flatMap_cons, ok.u8, List.singleton_append, List.map_cons, List.map_cons]
      exact .cons (.int fun m hm => by cases hm) ih
  have h2 : (X.u8 ▸ (X.u8 ▸ s : List (K 0)) : List UInt8) = s := by
    have : ∀ {α β : Type} (h : α = β) (s : List β), (h ▸ (h ▸ s : List α) : List β) = s := by intro α β h s; subst h; rfl
    exact this X.u8 s
  have h3 : ∀ {α β : Type} (h : α = β) (s : List β), (h ▸ s : List α).length = s.length := by intro α β h s; subst h; rfl
  refine ⟨h3 X.u8 s, ?_⟩
  have := key (X.u8 ▸ s)
  rw [h2] at this
  exact this

/-- A slice of elements that were still written to. -/
theorem exOp_freeze (ok : CfgOk X sz C) (R : Rel X sz C base st fr H w) {inl : Inl Int Bool (List UInt8) Prop (fun c => List (K c))} {o : Oper} {t : TypeId} {x : Operand} {lo hi mx : Option Operand} {id c : Nat} {n : Int} {k : PV K → StV K → Prop} (ho : o.op = .slice t x lo hi mx)
    (hop : opdP (stdA X tbl inv meas) C st x = some (.mlist id c n)) (h : exOp (stdA X tbl inv meas) C inl o st k) :
    ∃ st' v p w', k p st' ∧ st'.tmps = st.tmps ∧ st'.n = st.n ∧ RelH X sz C base st' H w' ∧ Le w w' ∧ Rep X sz w' p v ∧ evOp C.E o fr H = some (.val v, H) := by
  cases mx with
  | some m => simp only [exOp, ho] at h; exact h.elim
  | none =>
    simp only [exOp, ho] at h
    obtain ⟨ti, hti, hh⟩ := onS_inv h; clear h; have h := hh; clear hh
    obtain ⟨p, h1, hh⟩ := onS_inv h; clear h; have h := hh; clear hh
    obtain ⟨nlo, h2, hh⟩ := onS_inv h; clear h; have h := hh; clear hh
    obtain ⟨nhi, h3, hh⟩ := onS_inv h; clear h; have h := hh; clear hh
    rw [hop] at h1
    cases h1
    obtain ⟨a, ea, ra⟩ := opdP_sound R hop
    obtain ⟨vlo, elo, l1, l2⟩ := optI_sound R h2
    obtain ⟨vhi, ehi, r1, r2⟩ := optI_sound R h3
    unfold freezeP at h
    obtain ⟨l, hl, hh⟩ := onS_inv h; clear h; have h := hh; clear hh
    have hl := lookM_inv hl
    split at h
    · rename_i e hu
      cases hcd : codecIs C e c with
      | false => rw [hcd] at h; exact h.elim
      | true =>
        rw [hcd] at h
        simp only [cond_true] at h
        obtain ⟨hn, hs, hk⟩ := h
        have hn : n = (l.length : Int) := hn
        have hce : C.codec e = some c ∧ ∃ ei, C.E.types e = some ei := by
          unfold codecIs at hcd
          split at hcd
          · rename_i c' ei q1 q2
            rw [← Nat.eq_of_beq_eq_true hcd]
            exact ⟨q1, ei, q2⟩
          · cases hcd
        obtain ⟨hc, ei, hei⟩ := hce
        obtain ⟨w', R', hle, hn', hg', hrep⟩ := freeze_sound ok R.h hl (ok.pos e c hc)
        have rl := hrep none trivial
        cases ra with
        | mlist hi' h0 =>
          have hnn : n.toNat = l.length := by omega
          rw [hnn] at ea
          obtain ⟨u, hu1, hu2⟩ := sub_rep rl l1 l2 r1 r2 hs
          refine ⟨_, u, _, w', hk, rfl, rfl, R', hle, hu2, ?_⟩
          have hsz := ok.size e c ei hc hei
          rw [← hsz] at hu1
          rw [← hsz] at ea
          simp only [evOp, ho, hti, ea, elo, ehi, Option.bind_some, hu, hei, hu1, Option.map_some]
    · exact h.elim

theorem exOp_run (ok : CfgOk X sz C) (ok2 : CfgOk2 X C) (tok : TblOk X sz C tbl) (iok : InlOk X sz C inl) (R : Rel X sz C base st fr H w) {o : Oper} {l : List Oper} {k : PV K → StV K → Prop} (hd : deferOp o.op = false) (hw : wantV o all fr = some true) (h : exOp (stdA X tbl inv meas) C inl o st k)
    (next : ∀ p st' v H' w', k p st' → st'.tmps = st.tmps → st'.n = st.n → RelH X sz C base st' H' w' → Le w w' → Rep X sz w' p v → WpO C.E nd all l (fr.put o.dst v) H' Q) : WpO C.E nd all (o :: l) fr H Q := by
  have hd' : isDefer o = false := hd
  by_cases hfz : ∃ t x lo hi mx id c n, o.op = .slice t x lo hi mx ∧ opdP (stdA X tbl inv meas) C st x = some (.mlist id c n)
  · obtain ⟨t, x, lo, hi, mx, id, c, n, ho, hop⟩ := hfz
    obtain ⟨st', v, p, w', h1, h2, h3, h4, h5, h6, h7⟩ := exOp_freeze ok R ho hop h
    exact wpO_val hd' hw h7 (next p st' v H w' h1 h2 h3 h4 h5 h6)
  by_cases hp : pureOp o.op = true
  · obtain ⟨p, st', v, w', h1, h2, h3, h4, h5, h6⟩ := exOp_pure ok R hp (fun _ _ => rfl) (fun _ _ _ _ => .inl rfl) (fun t x lo hi mx p ho hop id c n he => hfz ⟨t, x, lo, hi, mx, id, c, n, ho, by rw [hop, he]⟩) h
    exact wpO_val hd' hw h6 (next p st' v H w' h1 h2.tmps h2.n h3 h4 h5)
  by_cases hn : newOp o.op = true
  · obtain ⟨p, st', v, row, w', h1, h2, h3, h4, h5, h6, h7⟩ := exOp_new ok R hn h
    exact wpO_val hd' hw (h7 fr H rfl (fun _ _ => rfl)) (next p st' v _ w' h1 h2 h3 h4 h5 h6)
  cases ho : o.op with
  | load t x =>
    simp only [exOp, ho] at h
    obtain ⟨ti, hti, h1⟩ := onS_inv h
    obtain ⟨p, hp', h2⟩ := onS_inv h1
    obtain ⟨v, ev, rv⟩ := opdP_sound R hp'
    obtain ⟨q, h3, nm, gn, off, lim, rfl, _, hl, _⟩ := loadK_sound ok R.h rv h2
    obtain ⟨u, hu, ru⟩ := hl H rfl
    obtain ⟨w', hn', R', hle, r'⟩ := fresh1_sound ok R.h ru
    refine wpO_val hd' hw (v := u) (H' := H) ?_ (next _ _ u H w' h3 hn'.tmps hn'.n R' hle r')
    simp only [evOp, ho, hti, Option.bind_some, ev, hu, Option.map_some]
  | store t a x =>
    simp only [exOp, ho] at h
    obtain ⟨ti, hti, h1⟩ := onS_inv h
    obtain ⟨pa, hpa, h2⟩ := onS_inv h1
    obtain ⟨px, hpx, h3⟩ := onS_inv h2
    obtain ⟨va, ea, ra⟩ := opdP_sound R hpa
    obtain ⟨vx, ex, rx⟩ := opdP_sound R hpx
    obtain ⟨st', id, off, lim, H', w', h4, _, _, _, _, _, _, _, hs, e1, e2, _, R', hle, _⟩ := storeK_sound ok R.h ra rx h3
    refine wpO_skip hd' hw (H' := H') ?_ (next _ _ undefV H' w' h4 e1 e2 R' hle .undef)
    simp only [evOp, ho, hti, Option.bind_some, ea, ex, hs, Option.map_some]
  | call c =>
    simp only [exOp, ho] at h
    obtain ⟨ps, hps, h1⟩ := onS_inv h
    obtain ⟨vs, ev, rv⟩ := opdsP_sound R hps
    split at h1
    · rename_i f hf
      obtain ⟨pf, hpf, h2⟩ := onS_inv h1
      obtain ⟨vf, ef, rf⟩ := opdP_sound R hpf
      obtain ⟨g, us, hc, hcall⟩ := callP_sound ok ok2 tok iok R.h rf rv h2
      refine wpO_call hd' hw (t := .func g) (args := us) (H1 := H) ?_ (hcall.mono fun v H' hA => ?_)
      · simp only [evOp, ho, hf, ef, ev, Option.bind_some, hc, Option.map_some]
      · obtain ⟨p, st', w', a1, a2, a3, a4, a5, a6⟩ := hA
        exact next p st' v H' w' a1 a2 a3 a4 a5 a6
    · rename_i b hf
      have hnp : pureOp o.op = false := by simpa using hp
      simp only [pureOp, ho, hf] at hnp
      unfold builtinP at h1
      split at h1
      · simp at hnp
      · rename_i s x t u hats
        obtain ⟨vs1, vs', rfl, r1, r2⟩ := rv.uncons
        obtain ⟨vx, vs'', rfl, r3, r4⟩ := r2.uncons
        have := r4.nil_iff; subst this
        split at h1
        · rename_i ti ui hti hui
          split at h1
          · rename_i e e' hu1 hu2
            split at h1
            · rename_i c' ei hc hei
              cases hb : (Nat.ble ei.bytes 1024 && !Nat.beq ei.size 0) with
              | false => rw [hb] at h1; exact absurd h1 id
              | true =>
                rw [hb] at h1
                simp only [cond_true] at h1
                simp only [Bool.and_eq_true, Nat.ble_eq] at hb
                split at h1
                · rename_i l' hl
                  have rl := asL_sound r3 hl
                  have hsz := ok.size e c' ei hc hei
                  obtain ⟨items, hel, hit⟩ := elemsV_list ok.len R.h.g rl (ok.pos e c' hc)
                  rw [← hsz] at hel
                  obtain ⟨p, st', v, H', w', a1, a2, a3, a4, a5, a6, a7⟩ := append_sound ok R.h hc hei hb.1 r1 hel hit h1
                  refine wpO_val hd' hw (v := v) (H' := H') ?_ (next p st' v H' w' a1 a2 a3 a5 a6 a7)
                  simp only [evOp, ho, hf, ev, Option.bind_some, builtinV, hats, hti, hui, hu1, hu2, hei, a4, Option.map_some]
                · exact absurd h1 id
            · exact absurd h1 id
          · rename_i e hu1 hu2
            split at h1
            · rename_i ei y hc hei
              cases hb : (Nat.ble ei.bytes 1024 && Nat.beq ei.size 1) with
              | false => rw [hb] at h1; exact absurd h1 id
              | true =>
                rw [hb] at h1
                simp only [cond_true] at h1
                simp only [Bool.and_eq_true, Nat.ble_eq] at hb
                cases r3
                have hs1 := Nat.eq_of_beq_eq_true hb.2
                obtain ⟨hlen, hit⟩ := str_items (w := w) ok y
                have hel : elemsV H ei.size (.str y) = some ((X.u8 ▸ y : List (K 0)).length, y.map fun b => V.int .u8 b.toNat) := by rw [hs1, elemsV_str, hlen]
                obtain ⟨p, st', v, H', w', a1, a2, a3, a4, a5, a6, a7⟩ := append_sound ok R.h hc hei hb.1 r1 hel hit h1
                refine wpO_val hd' hw (v := v) (H' := H') ?_ (next p st' v H' w' a1 a2 a3 a5 a6 a7)
                simp only [evOp, ho, hf, ev, Option.bind_some, builtinV, hats, hti, hui, hu1, hu2, hei, a4, Option.map_some]
            · exact absurd h1 id
          · exact absurd h1 id
        · exact absurd h1 id
      · simp at hnp
      · simp at hnp
      · exact absurd h1 id
    · exact absurd h1 id
  | _ => first
    | (simp [pureOp, ho] at hp; done)
    | (simp [newOp, ho] at hn; done)
    | (simp only [exOp, ho] at h; exact absurd h id)

theorem wpOps_sound (ok : CfgOk X sz C) (ok2 : CfgOk2 X C) (tok : TblOk X sz C tbl) (iok : InlOk X sz C inl) : ∀ {l : List Oper} {st : StV K} {fr : Fr} {H : Heap} {w : Wd} {k : StV K → Prop}, Rel X sz C base st fr H w → wpOps (stdA X tbl inv meas) C inl all l st k →
    WpO C.E nd all l fr H fun ex fr' H' => ex = .normal ∧ ∃ st' w', k st' ∧ Rel X sz C base st' fr' H' w' ∧ Le w w'
  | [], st, fr, H, w, k, R, h => wpO_nil ⟨rfl, st, w, h, R, .refl w⟩
  | o :: l, st, fr, H, w, k, R, h => by
    simp only [wpOps] at h
    cases hd : deferOp o.op with
    | true => rw [hd] at h; exact absurd h id
    | false =>
      rw [hd] at h
      simp only [cond_false] at h
      obtain ⟨b, st1, hw, h1, hn, hnx, R1⟩ := wantP_sound R h
      have R1' : Rel X sz C base st1 fr H w := R.step ok hn.tmps hn.n R1 (.refl w)
      cases b with
      | true =>
        simp only [cond_true] at h1
        refine exOp_run ok ok2 tok iok R1' hd hw h1 fun p st' v H' w' hk ht hn' hh hle hr => ?_
        have R2 := ((R1'.step ok ht hn' hh hle).put (dst := o.dst) hr)
        exact (wpOps_sound ok ok2 tok iok R2 hk).mono fun ex fr' H'' hA => by
          obtain ⟨e, st'', w'', a1, a2, a3⟩ := hA
          exact ⟨e, st'', w'', a1, a2, hle.trans a3⟩
      | false =>
        simp only [cond_false] at h1
        exact wpO_not hd hw (wpOps_sound ok ok2 tok iok (R1'.put (dst := o.dst) .undef) h1)

end
end Go.E3

/- E3: REGIONS that draw their order: footprints. -/
namespace Go.E3
open Go Go.E2

variable {K : Nat → Type}

section
variable {X : Codecs K} {sz : Nat → Nat} {C : Cfg Int Bool (List UInt8) Prop (fun c => List (K c))} {base H : Heap} {st : StV K} {fr : Fr} {w : Wd}
variable {tbl : Tbl K} {inv : Nat → List (NV K) → Prop} {meas : Nat → List (NV K) → Nat} {inl : Inl Int Bool (List UInt8) Prop (fun c => List (K c))}
variable {nd : Bool} {all : Array Oper} {Q : Ex → Fr → Heap → Prop} {b : Array Nat} {i : Nat}

/-- Another memory that holds the same. -/
theorem RelH.congr (R : RelH X sz C base st H w) {J : Heap} (h1 : ∀ n, J.get n = H.get n) (h2 : J.next = H.next) (h3 : J.ro = H.ro) (h4 : J.glob = H.glob) : RelH X sz C base st J w := by
  have hg : J.get = H.get := funext h1
  exact ⟨fun n hn => by rw [h1]; exact R.wf n (by omega), R.rob, R.g.trans hg.symm, R.nx.trans h2.symm, R.b, fun n hn => by rw [h2]; exact R.Mlt n hn, R.n, R.one,
    ⟨by rw [h2]; exact R.keeps.next, by rw [h3]; exact R.keeps.ro, by rw [h4]; exact R.keeps.glob, fun nm hn => by rw [h1]; exact R.keeps.old nm hn⟩,
    fun id h => by rw [h2]; exact R.cl id h, R.cinj, fun id ps h => by rw [h1]; exact R.cells id ps h, R.owns, R.ownn, fun i s nm h hn => by rw [h2]; exact R.eta i s nm h hn, R.einj, R.ce, R.known, R.globs⟩

/-! ### Operands that do not lie in memory -/
theorem touches_glob {E : Env} {o : Oper} (h : touches E o.op = false) (hp : pureOp o.op = true ∨ newOp o.op = true) : ∀ x ∈ o.op.operands.toList, ∀ g, x ≠ .global g := by
  have key : ∀ l : List Operand, (l.any fun x => match x with | .global _ => true | _ => false) = false → ∀ x ∈ l, ∀ g, x ≠ .global g := by
    intro l hl x hx g he
    subst he
    rw [← Bool.not_eq_true, List.any_eq_true] at hl
    exact hl ⟨_, hx, rfl⟩
  cases ho : o.op with
  | load => simp [touches, ho] at h
  | store => simp [touches, ho] at h
  | lookup => simp [touches, ho] at h
  | mapUpdate => simp [touches, ho] at h
  | insert => simp [touches, ho] at h
  | next => simp [touches, ho] at h
  | convert => simp [touches, ho] at h
  | slice t x lo hi mx =>
    rw [ho] at h
    simp only [touches, Bool.or_eq_false_iff] at h
    refine key _ ?_
    rw [← Array.any_toList] at h
    exact h.2
  | call c =>
    rw [ho] at h hp
    have hargs : (c.args.any fun x => match x with | .global _ => true | _ => false) = false ∧ ∃ bi, c.callee = .builtin bi := by
      simp only [pureOp, newOp, Bool.false_eq_true, or_false] at hp
      simp only [touches] at h
      split at hp
      · rename_i hc
        simp only [hc] at h
        refine ⟨?_, _, hc⟩
        split at h
        · split at h
          · cases h
          · cases h
          · exact h
        · cases h
      · rename_i hc
        simp only [hc] at h
        exact ⟨h, _, hc⟩
      · rename_i hc
        simp only [hc] at h
        exact ⟨h, _, hc⟩
      · cases hp
    obtain ⟨h1, bi, h2⟩ := hargs
    have e : (Op.call c).operands.toList = c.args.toList := by
      simp only [Op.operands, Call.operands, h2]
      simp
    rw [e]
    refine key _ ?_
    rw [← Array.any_toList] at h1
    exact h1
  | _ =>
    first
      | (simp [ho, pureOp, newOp] at hp; done)
      | (rw [ho] at h
         refine key _ ?_
         simp only [touches] at h
         rw [← Array.any_toList] at h
         exact h)

theorem opd_restr' {o : Oper} {H' : Heap} {x : Operand} (hx : x ∈ o.op.operands.toList) (hg : ∀ g, x ≠ .global g) : opd { fr with tmps := copyT fr.tmps (o.looksAt all) .nil } H' x = opd fr H x := by
  cases x with
  | tmp t =>
    simp only [opd]
    refine restr_tmp ?_
    simp only [Oper.looksAt, List.mem_append, List.mem_filterMap]
    exact .inl ⟨_, hx, rfl⟩
  | const v => rfl
  | global g => exact absurd rfl (hg g)
  | func f => rfl

/-! ### What is done -/
def fpR (w : Wd) : FP3 → FP → Prop
  | .none, fp => fp = .none
  | .read id, fp => fp = .reads [w.c id] ∧ w.cl id
  | .write id, fp => fp = .writes [w.c id] ∧ w.cl id
  | .stable, fp => ∃ l, fp = .reads l ∧ ∀ n ∈ l, ¬ w.M n ∧ ∃ cs e gen floor frz ex, w.g n = some (.row cs e gen floor frz ex)
  | .call, fp => fp = .call
  | .lone, _ => True

structure DR (B : Nat) (w : Wd) (d3 : Done3) (d : Done) : Prop where
  i : d.i = d3.i
  lo : B ≤ d.lo
  no : d3.makes = false → d.hi = d.lo
  fp : fpR w d3.fp d.fp

theorem fpR.mono {w w' : Wd} (h : Le w w') (hcl : ∀ id, w.cl id → id < w.n) {f : FP3} {fp : FP} (hf : fpR w f fp) : fpR w' f fp := by
  cases f with
  | none => exact hf
  | read id =>
    obtain ⟨h1, h2⟩ := hf
    exact ⟨by rw [h.c id (hcl id h2)]; exact h1, (h.cl id (hcl id h2)).2 h2⟩
  | write id =>
    obtain ⟨h1, h2⟩ := hf
    exact ⟨by rw [h.c id (hcl id h2)]; exact h1, (h.cl id (hcl id h2)).2 h2⟩
  | stable =>
    obtain ⟨l, h1, h2⟩ := hf
    refine ⟨l, h1, fun n hn => ?_⟩
    obtain ⟨hM, cs, e, gen, floor, frz, ex, hg⟩ := h2 n hn
    obtain ⟨hM', cs2, gen', frz', ex', hg'⟩ := h.mem n cs e gen floor frz ex hg hM
    exact ⟨hM', _, _, _, _, _, _, hg'⟩
  | call => exact hf
  | lone => trivial

inductive DRs (B : Nat) (w : Wd) : List Done3 → List Done → Prop
  | nil : DRs B w [] []
  | cons {d3 : Done3} {d : Done} {l3 : List Done3} {l : List Done} (h : DR B w d3 d) (h' : DRs B w l3 l) : DRs B w (d3 :: l3) (d :: l)

theorem DRs.mono {B : Nat} {w w' : Wd} (h : Le w w') (hcl : ∀ id, w.cl id → id < w.n) {l3 : List Done3} {l : List Done} (hd : DRs B w l3 l) : DRs B w' l3 l := by
  induction hd with
  | nil => exact .nil
  | cons h1 _ ih => exact .cons ⟨h1.i, h1.lo, h1.no, h1.fp.mono h hcl⟩ ih

theorem DRs.free {B : Nat} {l3 : List Done3} {l : List Done} (hd : DRs B w l3 l) {P : Done3 → Prop} (hp : ∀ d ∈ l3.filter (fun d => !(b.getD i 0).testBit d.i), P d) : ∀ d ∈ freeOf b i l, ∃ d3, DR B w d3 d ∧ P d3 := by
  unfold freeOf
  induction hd with
  | nil => intro d hd; simp at hd
  | @cons a3 a l3 l h1 _ ih =>
    intro d hd'
    rw [List.filter_cons] at hd' hp
    rw [h1.i] at hd'
    by_cases hb : (!(b.getD i 0).testBit a3.i) = true
    · rw [if_pos hb] at hd' hp
      rcases List.mem_cons.1 hd' with rfl | hd'
      · exact ⟨a3, h1, hp a3 List.mem_cons_self⟩
      · exact ih (fun d hd => hp d (List.mem_cons_of_mem _ hd)) d hd'
    · rw [if_neg hb] at hd' hp
      exact ih hp d hd'

/-- What goes together does not clash. -/
theorem no_clash {B old : Nat} (R : RelH X sz C base st H w) {l3 : List Done3} {l : List Done} (hd : DRs B w l3 l) {f : FP3} {fp : FP} (hlv : ∀ d ∈ l3, ∀ id, d.fp = .write id → w.M (w.c id)) (hlf : ∀ id, f = .write id → w.M (w.c id)) (hf : fpR w f fp)
    (ha : (l3.filter fun d => !(b.getD i 0).testBit d.i).all (fun d => apart3 old d f) = true) : ((freeOf b i l).any fun d => clash d.fp fp) = false := by
  rw [← Bool.not_eq_true, List.any_eq_true]
  rintro ⟨d, hdm, hc⟩
  obtain ⟨⟨j, g, mk⟩, hdr, hap, hin⟩ := hd.free (P := fun d => apart3 old d f = true ∧ d ∈ l3) (fun d hd => ⟨List.all_eq_true.1 ha d hd, (List.mem_filter.1 hd).1⟩) d hdm
  have hg := hdr.fp
  have hlg := hlv _ hin
  simp only at hg
  simp only [apart3, Bool.and_eq_true] at hap
  obtain ⟨hap, _⟩ := hap
  cases g with
  | none => simp only [fpR] at hg; rw [hg] at hc; simp [clash] at hc
  | read i1 =>
    obtain ⟨h1, c1⟩ := hg
    cases f with
    | none => simp only [fpR] at hf; rw [hf, clash_none] at hc; cases hc
    | read i2 => obtain ⟨h2, _⟩ := hf; rw [h1, h2] at hc; simp [clash] at hc
    | stable => obtain ⟨l2, h2, _⟩ := hf; rw [h1, h2] at hc; simp [clash] at hc
    | call => simp only [fpR] at hf; rw [h1, hf] at hc; simp [clash] at hc
    | write i2 =>
      obtain ⟨h2, c2⟩ := hf
      rw [h1, h2] at hc
      simp only [goes, Bool.not_eq_true', ← Bool.not_eq_true, Nat.beq_eq] at hap
      simp only [clash, List.any_cons, List.any_nil, Bool.or_false, Nat.beq_eq] at hc
      exact hap (R.cinj _ _ c1 c2 hc.symm)
    | lone => simp [goes] at hap
  | write i1 =>
    obtain ⟨h1, c1⟩ := hg
    cases f with
    | none => simp only [fpR] at hf; rw [hf, clash_none] at hc; cases hc
    | read i2 =>
      obtain ⟨h2, c2⟩ := hf
      rw [h1, h2] at hc
      simp only [goes, Bool.not_eq_true', ← Bool.not_eq_true, Nat.beq_eq] at hap
      simp only [clash, List.any_cons, List.any_nil, Bool.or_false, Nat.beq_eq] at hc
      exact hap (R.cinj _ _ c1 c2 hc)
    | stable =>
      obtain ⟨l2, h2, c2⟩ := hf
      rw [h1, h2] at hc
      simp only [clash, List.any_cons, List.any_nil, Bool.or_false, List.any_eq_true] at hc
      obtain ⟨n, hn, hb⟩ := hc
      have := Nat.eq_of_beq_eq_true hb
      subst this
      exact (c2 _ hn).1 (hlg _ rfl)
    | call => simp [goes] at hap
    | write i2 =>
      obtain ⟨h2, c2⟩ := hf
      rw [h1, h2] at hc
      simp only [goes, Bool.not_eq_true', ← Bool.not_eq_true, Nat.beq_eq] at hap
      simp only [clash, List.any_cons, List.any_nil, Bool.or_false, Nat.beq_eq] at hc
      exact hap (R.cinj _ _ c1 c2 hc)
    | lone => simp [goes] at hap
  | stable =>
    obtain ⟨l1, h1, c1⟩ := hg
    cases f with
    | none => simp only [fpR] at hf; rw [hf, clash_none] at hc; cases hc
    | read i2 => obtain ⟨h2, _⟩ := hf; rw [h1, h2] at hc; simp [clash] at hc
    | stable => obtain ⟨l2, h2, _⟩ := hf; rw [h1, h2] at hc; simp [clash] at hc
    | call => simp only [fpR] at hf; rw [h1, hf] at hc; simp [clash] at hc
    | write i2 =>
      obtain ⟨h2, c2⟩ := hf
      rw [h1, h2] at hc
      simp only [clash, List.any_cons, List.any_nil, Bool.or_false, List.any_eq_true] at hc
      obtain ⟨n, hn, hb⟩ := hc
      have := Nat.eq_of_beq_eq_true hb
      subst this
      exact (c1 _ hn).1 (hlf _ rfl)
    | lone => simp [goes] at hap
  | call =>
    simp only [fpR] at hg
    cases f with
    | none => simp only [fpR] at hf; rw [hf, clash_none] at hc; cases hc
    | read i2 => obtain ⟨h2, _⟩ := hf; rw [hg, h2] at hc; simp [clash] at hc
    | stable => obtain ⟨l2, h2, _⟩ := hf; rw [hg, h2] at hc; simp [clash] at hc
    | call => simp only [fpR] at hf; rw [hg, hf] at hc; simp [clash] at hc
    | write i2 => simp [goes] at hap
    | lone => simp [goes] at hap
  | lone =>
    cases f with
    | none => simp only [fpR] at hf; rw [hf, clash_none] at hc; cases hc
    | _ => simp [goes] at hap

/-- Names that were not made by what stands in no order to the operation. -/
theorem no_dels {B old nm : Nat} {l3 : List Done3} {l : List Done} (hd : DRs B w l3 l) {f : FP3} (ha : (l3.filter fun d => !(b.getD i 0).testBit d.i).all (fun d => apart3 old d f) = true)
    (hf : (∃ j, (f = .read j ∨ f = .write j) ∧ (j < old → nm < B)) ∨ (∀ j, f ≠ .read j ∧ f ≠ .write j) ∧ f ≠ .none) : nm ∉ (freeOf b i l).flatMap Done.names := by
  intro hm
  obtain ⟨d, hdm, hn⟩ := List.mem_flatMap.1 hm
  obtain ⟨⟨j, g, mk⟩, hdr, hap⟩ := hd.free (fun d hd => List.all_eq_true.1 ha d hd) d hdm
  simp only [apart3, Bool.and_eq_true] at hap
  obtain ⟨_, hap⟩ := hap
  have hr := List.mem_range'_1.1 hn
  cases mk with
  | false =>
    have := hdr.no rfl
    omega
  | true =>
    simp only [Bool.not_true, Bool.false_or] at hap
    rcases hf with ⟨j, hj, hlt⟩ | ⟨h1, h2⟩
    · have : j < old := by
        rcases hj with rfl | rfl <;> simpa [fits, Nat.blt_eq] using hap
      have := hlt this
      have := hdr.lo
      omega
    · cases f <;> simp_all [fits]

theorem dels_nil {B old : Nat} {l3 : List Done3} {l : List Done} (hd : DRs B w l3 l) {f : FP3} (ha : (l3.filter fun d => !(b.getD i 0).testBit d.i).all (fun d => apart3 old d f) = true) (hf : (∀ j, f ≠ .read j ∧ f ≠ .write j) ∧ f ≠ .none) : (freeOf b i l).flatMap Done.names = [] := by
  rw [List.eq_nil_iff_forall_not_mem]
  intro nm
  exact no_dels hd ha (.inr hf)

end
end Go.E3

/- E3: REGIONS that draw their order. -/
namespace Go.E3
open Go Go.E2

variable {K : Nat → Type}

section
variable {E : Env} {all : Array Oper} {fr : Fr} {H : Heap} {Q : Ex → Fr → Heap → Prop} {b : Array Nat} {i : Nat} {l : List Oper} {done : List Done} {o : Oper}

/-- A call in a region that draws its order. -/
theorem wpD_call {fp : FP} {t : Tgt} {args : List V} {K0 : Heap} (hw : wantV o all fr = some true) (hfp : fpOf E o fr = .call) (hfp' : fp = bif loneAt E all b i then .lone else .call) (hcl : ((freeOf b i done).any fun d => clash d.fp fp) = false)
    (hev : evOp E o { fr with tmps := copyT fr.tmps (o.looksAt all) .nil } (tinyH H fp ((freeOf b i done).flatMap Done.names)) = some (.call t args, K0))
    (hc : CallW E t args K0 fun v K1 => H.next ≤ K1.next ∧ WpD E all b (i + 1) l (⟨i, fp, H.next, K1.next⟩ :: done) (fr.put o.dst v) (joinH H K1 fp ((freeOf b i done).flatMap Done.names)) Q) : WpD E all b i (o :: l) done fr H Q := by
  obtain ⟨v, K1, ⟨k1, hr⟩, hlt, ⟨x, ⟨k0, h1⟩, h2⟩⟩ := hc
  refine ⟨x, ⟨max k0 k1, fun k hk => ?_⟩, h2⟩
  have hb : Nat.blt K1.next H.next = false := by
    rw [← Bool.not_eq_true, Nat.blt_eq]
    omega
  have hro : runOpV E (callFn E k) all o { fr with tmps := copyT fr.tmps (o.looksAt all) .nil } (tinyH H fp ((freeOf b i done).flatMap Done.names)) = some (.ret v, K1) := by
    simp only [runOpV, want_restr, hw, hev, hr k (by omega)]
  have h1' := h1 k (by omega)
  subst hfp'
  simp only [freeOf] at h1' hcl hro
  simp only [runDraw, hw, Option.bind_some, cond_true, hfp, hcl, cond_false, hro, hb]
  exact h1'

theorem elemsV_local {H H1 : Heap} {sz : Nat} {x : V} (hs : ∀ n ∈ x.nm, H1.get n = H.get n) : elemsV H1 sz x = elemsV H sz x := by
  cases x with
  | slice nm g off len sz' cap =>
    have := hs nm (by simp [V.nm])
    simp only [elemsV, readCells, this]
  | _ => rfl

theorem writeCells_local {H H1 H' : Heap} {vs : List V} {nm g off lim : Nat} (hro : H1.ro = H.ro) (hs : H1.get nm = H.get nm) (h : writeCells H vs (.ptr nm g off lim) = some H') : ∃ row, H.get nm ≠ none ∧ writeCells H1 vs (.ptr nm g off lim) = some (H1.put nm row) ∧ H' = H.put nm row := by
  simp only [writeCells, hs] at h ⊢
  split at h
  · rename_i cells elem gen floor frz ex hg
    cases hb : (Nat.beq g gen && Nat.ble (off + vs.length) lim && Nat.ble lim cells.length && Nat.ble frz off && vs.all V.oneCell) with
    | false => rw [hb] at h; cases h
    | true =>
      rw [hb] at h
      simp only [cond_true] at h
      obtain ⟨u1, rfl⟩ := upd_some h
      refine ⟨_, by rw [hg]; simp, ?_, rfl⟩
      simp only [cond_true]
      exact heap_upd (by rw [hro]; exact u1)
  · cases h

/-- append at a smaller memory. -/
theorem appendV_local {H H1 H' : Heap} {e sz by_ : Nat} {s x v : V} (hn : H1.next = H.next) (hro : H1.ro = H.ro) (hs : ∀ n, n ∈ s.nm ∨ n ∈ x.nm → H1.get n = H.get n) (h : appendV H e sz by_ s x = some (v, H')) :
    ∃ K', appendV H1 e sz by_ s x = some (v, K') ∧ ((K' = H1 ∧ H' = H) ∨ (∃ row, K' = H1.new row ∧ H' = H.new row) ∨ (∃ nm row, nm ∈ s.nm ∧ H.get nm ≠ none ∧ K' = H1.put nm row ∧ H' = H.put nm row)) := by
  have ex : elemsV H1 sz x = elemsV H sz x := elemsV_local fun n h => hs n (.inr h)
  have es : elemsV H1 sz s = elemsV H sz s := elemsV_local fun n h => hs n (.inl h)
  unfold appendV at h ⊢
  rw [ex, es, hn]
  obtain ⟨⟨n, items⟩, hx, h⟩ := Option.bind_eq_some_iff.1 h
  rw [hx]
  simp only [Option.bind_some]
  cases s with
  | nils =>
    simp only at h ⊢
    cases hb : Nat.beq n 0 with
    | true =>
      rw [hb] at h
      simp only [cond_true, Option.some.injEq, Prod.mk.injEq] at h
      obtain ⟨rfl, rfl⟩ := h
      exact ⟨H1, rfl, .inl ⟨rfl, rfl⟩⟩
    | false =>
      rw [hb] at h
      simp only [cond_false] at h ⊢
      cases hr : (Nat.ble (n * by_) room && Nat.ble n room) with
      | false => rw [hr] at h; cases h
      | true =>
        rw [hr] at h
        simp only [cond_true, Option.some.injEq, Prod.mk.injEq] at h
        obtain ⟨rfl, rfl⟩ := h
        exact ⟨_, rfl, .inr (.inl ⟨_, rfl, rfl⟩)⟩
  | slice nm g off len sz' cap =>
    have hnm := hs nm (.inl (by simp [V.nm]))
    simp only [hnm] at h ⊢
    cases h1 : (!Nat.beq sz sz') with
    | true => rw [h1] at h; cases h
    | false =>
      rw [h1] at h
      simp only [cond_false] at h ⊢
      cases hb : Nat.beq n 0 with
      | true =>
        rw [hb] at h
        simp only [cond_true, Option.some.injEq, Prod.mk.injEq] at h
        obtain ⟨rfl, rfl⟩ := h
        exact ⟨H1, rfl, .inl ⟨rfl, rfl⟩⟩
      | false =>
        rw [hb] at h
        simp only [cond_false] at h ⊢
        cases h2 : (!(Nat.ble ((len + n) * by_) room && Nat.ble (len + n) room)) with
        | true => rw [h2] at h; cases h
        | false =>
          rw [h2] at h
          simp only [cond_false] at h ⊢
          cases h3 : (!items.all V.oneCell) with
          | true => rw [h3] at h; cases h
          | false =>
            rw [h3] at h
            simp only [cond_false] at h ⊢
            split at h
            · rename_i cells e' gen floor frz exx hg
              cases cap with
              | some c =>
                simp only at h ⊢
                cases h4 : Nat.ble (len + n) c with
                | true =>
                  rw [h4] at h
                  simp only [cond_true] at h ⊢
                  obtain ⟨H2, hw, hv⟩ := Option.map_eq_some_iff.1 h
                  cases hv
                  obtain ⟨row, hne, hw1, rfl⟩ := writeCells_local hro hnm hw
                  exact ⟨_, by rw [hw1]; rfl, .inr (.inr ⟨nm, row, by simp [V.nm], hne, rfl, rfl⟩)⟩
                | false =>
                  rw [h4] at h
                  simp only [cond_false] at h ⊢
                  obtain ⟨⟨n2, old⟩, hw, hv⟩ := Option.map_eq_some_iff.1 h
                  cases hv
                  exact ⟨_, by rw [hw]; rfl, .inr (.inl ⟨_, rfl, rfl⟩)⟩
              | none =>
                simp only at h ⊢
                cases h4 : (Nat.beq g gen && Nat.beq (off + len * sz) cells.length && Nat.ble frz cells.length && Nat.ble floor gen && !Nat.beq sz 0 && Nat.beq e' e) with
                | false => rw [h4] at h; cases h
                | true =>
                  rw [h4] at h
                  simp only [cond_true] at h ⊢
                  obtain ⟨H2, hu, hv⟩ := Option.map_eq_some_iff.1 h
                  cases hv
                  obtain ⟨u1, rfl⟩ := upd_some hu
                  rw [heap_upd (by rw [hro]; exact u1)]
                  exact ⟨_, rfl, .inr (.inr ⟨nm, _, by simp [V.nm], by rw [hg]; simp, rfl, rfl⟩)⟩
            · cases h
  | _ => simp only at h; cases h

theorem joinH_get_writes {K1 : Heap} {l dels : List Nat} {n : Nat} : (joinH H K1 (.writes l) dels).get n = if n ∈ (l.filter fun n => Nat.blt n H.next && !dels.any fun m => Nat.beq n m) ++ List.range' H.next (K1.next - H.next) then K1.get n else H.get n := by
  simp only [joinH, Heap.get, get_copyT]

theorem joinH_get_call {K1 : Heap} {dels : List Nat} {n : Nat} : (joinH H K1 .call dels).get n = if n ∈ List.range' H.next (K1.next - H.next) then K1.get n else H.get n := by
  simp only [joinH, Heap.get, get_copyT]

end
end Go.E3

/- E3: REGIONS that draw their order: the theorem. -/
namespace Go.E3
open Go Go.E2

variable {K : Nat → Type}

section
variable {X : Codecs K} {sz : Nat → Nat} {C : Cfg Int Bool (List UInt8) Prop (fun c => List (K c))} {base : Heap}
variable {tbl : Tbl K} {inv : Nat → List (NV K) → Prop} {meas : Nat → List (NV K) → Nat} {inl : Inl Int Bool (List UInt8) Prop (fun c => List (K c))}
variable {all : Array Oper} {b : Array Nat} {B old : Nat}

/-- What is known in the midst of such a region. -/
structure Mid (X : Codecs K) (sz : Nat → Nat) (C : Cfg Int Bool (List UInt8) Prop (fun c => List (K c))) (base : Heap) (B old : Nat) (l3 : List Done3) (done : List Done) (st : StV K) (fr : Fr) (H : Heap) (w : Wd) : Prop where
  R : Rel X sz C base st fr H w
  D : DRs B w l3 done
  hB : B ≤ H.next
  hold : old ≤ st.next
  lt : ∀ id, id < old → w.cl id → w.c id < B
  live : ∀ d ∈ l3, ∀ id, d.fp = .write id → (look st.cells id).isSome = true

theorem RelH.live {st : StV K} {H : Heap} {w : Wd} (R : RelH X sz C base st H w) {id : Nat} (h : (look st.cells id).isSome = true) : w.M (w.c id) := by
  obtain ⟨ct, hc⟩ := Option.isSome_iff_exists.1 h
  exact (R.cells id ct hc).2.1

theorem Mid.wr {l3 : List Done3} {done : List Done} {st : StV K} {fr : Fr} {H : Heap} {w : Wd} (m : Mid X sz C base B old l3 done st fr H w) : ∀ d ∈ l3, ∀ id, d.fp = .write id → w.M (w.c id) :=
  fun d hd id he => m.R.h.live (m.live d hd id he)

theorem Mid.go (ok : CfgOk X sz C) {l3 : List Done3} {done : List Done} {st st' : StV K} {fr : Fr} {H J : Heap} {w w' : Wd} (m : Mid X sz C base B old l3 done st fr H w) {i : Nat} {f : FP3} {mk : Bool} {fp : FP} {hi : Nat} {dst : Option Tmp} {p : PV K} {v : V}
    (ht : st'.tmps = st.tmps) (hn : st'.n = st.n) (hh : RelH X sz C base st' J w') (hle : Le w w') (hr : Rep X sz w' p v) (hJ : H.next ≤ J.next) (hno : mk = false → hi = H.next) (hfp : fpR w' f fp)
    (hlive : ∀ j, (look st.cells j).isSome = true → (look st'.cells j).isSome = true) (hnew : ∀ id, f = .write id → (look st'.cells id).isSome = true) :
    Mid X sz C base B old (⟨i, f, mk⟩ :: l3) (⟨i, fp, H.next, hi⟩ :: done) (st'.put dst p) (fr.put dst v) J w' := by
  have hcl : ∀ id, w.cl id → id < w.n := fun id h => by rw [m.R.h.n]; exact (m.R.h.cl id h).1
  have hpn : ∀ (s : StV K), (s.put dst p).next = s.next := by
    intro s
    unfold St.put
    split
    · obtain ⟨t, n, c, o, x, kn⟩ := s
      simp only
      cases Nat.blt _ n <;> rfl
    · rfl
  have hpc : ∀ (s : StV K), (s.put dst p).cells = s.cells := by
    intro s
    unfold St.put
    split
    · obtain ⟨t, n, c, o, x, kn⟩ := s
      simp only
      cases Nat.blt _ n <;> rfl
    · rfl
  refine ⟨(m.R.step ok ht hn hh hle).put hr, .cons ⟨rfl, m.hB, hno, hfp⟩ (m.D.mono hle hcl), Nat.le_trans m.hB hJ, ?_, fun id hid hc => ?_, fun d hd id he => ?_⟩
  · rw [hpn]
    have := hle.n
    rw [m.R.h.n, hh.n] at this
    exact Nat.le_trans m.hold this
  · have hlt : id < w.n := by rw [m.R.h.n]; exact Nat.lt_of_lt_of_le hid m.hold
    rw [hle.c id hlt]
    exact m.lt id hid ((hle.cl id hlt).1 hc)
  · rw [hpc]
    rcases List.mem_cons.1 hd with rfl | hd
    · exact hnew id he
    · exact hlive id (m.live d hd id he)

theorem opdsR {o : Oper} {fr : Fr} {H H' : Heap} (hng : ∀ x ∈ o.op.operands.toList, ∀ g, x ≠ .global g) : ∀ x ∈ o.op.operands.toList, opd { fr with tmps := copyT fr.tmps (o.looksAt all) .nil } H' x = opd fr H x :=
  fun x hx => opd_restr' hx (hng x hx)

/-- One operation. -/
theorem draw_op (ok : CfgOk X sz C) (ok2 : CfgOk2 X C) (tok : TblOk X sz C tbl) (iok : InlOk X sz C inl) {l3 : List Done3} {done : List Done} {st : StV K} {fr : Fr} {H : Heap} {w : Wd} (m : Mid X sz C base B old l3 done st fr H w) {i : Nat} {o : Oper} {l : List Oper} {Q : Ex → Fr → Heap → Prop}
    {k : PV K → StV K → Prop} {f : FP3} (hw : wantV o all fr = some true) (hf : fp3 (stdA X tbl inv meas) C all b i o st = some f) (ha : (l3.filter fun d => !(b.getD i 0).testBit d.i).all (fun d => apart3 old d f) = true)
    (hkc : ∀ p st', k p st' → ∀ j, (look st.cells j).isSome = true → (look st'.cells j).isSome = true)
    (h : exOp (stdA X tbl inv meas) C inl o st k)
    (next : ∀ p st' v J w' done', k p st' → Le w w' → Mid X sz C base B old (⟨i, f, makes o.op⟩ :: l3) done' (st'.put o.dst p) (fr.put o.dst v) J w' → WpD C.E all b (i + 1) l done' (fr.put o.dst v) J Q) : WpD C.E all b i (o :: l) done fr H Q := by
  have R := m.R
  unfold fp3 at hf
  cases ht : touches C.E o.op with
  | false =>
    rw [ht] at hf
    simp only [Bool.not_false, cond_true] at hf
    have hfn : f = .none ∧ ∀ t x lo hi mx p, o.op = .slice t x lo hi mx → opdP (stdA X tbl inv meas) C st x = some p → ∀ id c n, p ≠ .mlist id c n := by
      split at hf
      · rename_i t x lo hi mx ho
        split at hf
        · cases hf
        · rename_i hno
          cases hf
          refine ⟨rfl, fun t' x' lo' hi' mx' p ho' hp id c n he => ?_⟩
          rw [ho] at ho'
          cases ho'
          subst he
          exact hno _ _ _ hp
      · rename_i hno
        cases hf
        exact ⟨rfl, fun t' x' lo' hi' mx' p ho' => absurd ho' (hno _ _ _ _ _)⟩
    obtain ⟨rfl, hml⟩ := hfn
    have hfp : fpOf C.E o fr = .none := by simp only [fpOf, ht, Bool.not_false, cond_true]
    have hcl := no_clash (fp := .none) R.h m.D (f := .none) m.wr (by simp) rfl ha
    by_cases hp : pureOp o.op = true
    · have hng := touches_glob ht (.inl hp)
      obtain ⟨p, st', v, w', h1, h2, h3, h4, h5, h6⟩ := exOp_pure (fr' := { fr with tmps := copyT fr.tmps (o.looksAt all) .nil }) (H' := tinyH H .none ((freeOf b i done).flatMap Done.names)) ok R hp (opdsR hng)
        (fun s d x ho => by rw [ho] at ht; simp [touches] at ht) hml h
      refine wpD_step (fp := .none) (K := tinyH H .none _) hw hfp (by simp) hcl h6 (.inl rfl) (Nat.le_refl _) ?_
      rw [joinH_none]
      exact next p st' v H w' _ h1 h4 (m.go ok h2.tmps h2.n h3 h4 h5 (Nat.le_refl _) (fun _ => rfl) rfl (hkc _ _ h1) (by simp))
    by_cases hn : newOp o.op = true
    · have hng := touches_glob ht (.inr hn)
      obtain ⟨p, st', v, row, w', h1, h2, h3, h4, h5, h6, h7⟩ := exOp_new ok R hn h
      have hmk : makes o.op = true := by
        cases ho : o.op <;> simp [newOp, ho] at hn <;> rfl
      refine wpD_step (fp := .none) (out := .val v) (v := v) (K := (tinyH H .none ((freeOf b i done).flatMap Done.names)).new row) hw hfp (by simp) hcl (h7 _ _ rfl (opdsR hng)) (.inl rfl) (by rw [heap_new_next]; exact Nat.le_succ _) ?_
      rw [joinH_new]
      exact next p st' v _ w' _ h1 h5 (m.go ok h2 h3 h4 h5 h6 (by rw [heap_new_next]; exact Nat.le_succ _) (fun hc => by rw [hmk] at hc; cases hc) rfl (hkc _ _ h1) (by simp))
    -- nothing else is free of memory
    exfalso
    cases ho : o.op with
    | load => rw [ho] at ht; simp [touches] at ht
    | store => rw [ho] at ht; simp [touches] at ht
    | call c =>
      rw [ho] at ht
      simp only [exOp, ho] at h
      obtain ⟨ps, hps, h1⟩ := onS_inv h
      split at h1
      · rename_i f hc
        simp [touches, hc] at ht
      · rename_i bi hc
        simp only [touches, hc] at ht
        simp only [pureOp, ho, hc] at hp
        unfold builtinP at h1
        split at h1
        all_goals first
          | (simp at hp; done)
          | (simp at ht; done)
          | (exact absurd h1 id)
      · exact absurd h1 id
    | _ => first
      | (simp [pureOp, ho] at hp; done)
      | (simp [newOp, ho] at hn; done)
      | (simp only [exOp, ho] at h; exact absurd h id)
  | true =>
    rw [ht] at hf
    simp only [Bool.not_true, cond_false] at hf
    cases ho : o.op with
    | load t x =>
      rw [ho] at hf
      simp only [exOp, ho] at h
      obtain ⟨ti, hti, h1⟩ := onS_inv h
      obtain ⟨p, hp', h2⟩ := onS_inv h1
      obtain ⟨v, ev, rv⟩ := opdP_sound R hp'
      have hmk : makes (.load t x) = false := rfl
      -- what lies at the name is there in the small memory too
      have run : ∀ nm, v.nm = [nm] → nmsOf fr [x] = [nm] → nm ∉ (freeOf b i done).flatMap Done.names → fpR w f (.reads [nm]) → (∀ id, f ≠ .write id) → (∀ H1 : Heap, H1.glob = H.glob → H1.get nm = H.get nm → opd { fr with tmps := copyT fr.tmps (o.looksAt all) .nil } H1 x = some v) → WpD C.E all b i (o :: l) done fr H Q := by
        intro nm hnm hnms hdel hfR hnw hop
        have hfp : fpOf C.E o fr = .reads [nm] := by
          simp only [fpOf, ho, Op.operands]
          exact congrArg FP.reads hnms
        obtain ⟨q, h3, nm', gn, off, lim, rfl, hlt, hl, _⟩ := loadK_sound ok R.h rv h2
        simp only [V.nm, List.cons.injEq, and_true] at hnm
        subst hnm
        have hget := tinyH_reads (H := H) (l := [nm']) (dels := (freeOf b i done).flatMap Done.names) (List.mem_singleton.2 rfl) hlt hdel
        obtain ⟨u, hu, ru⟩ := hl _ hget
        obtain ⟨w', hn', R', hle, r'⟩ := fresh1_sound ok R.h ru
        have hcl' : ∀ id, w.cl id → id < w.n := fun id h => by rw [R.h.n]; exact (R.h.cl id h).1
        refine wpD_step (fp := .reads [nm']) (out := .val u) (v := u) (K := tinyH H (.reads [nm']) ((freeOf b i done).flatMap Done.names)) hw hfp (by simp) (no_clash R.h m.D m.wr (fun id he => absurd he (hnw id)) hfR ha) ?_ (.inl rfl) (Nat.le_refl _) ?_
        · simp only [evOp, ho, hti, Option.bind_some, hop (tinyH H (.reads [nm']) ((freeOf b i done).flatMap Done.names)) rfl hget, hu, Option.map_some]
        · rw [joinH_reads]
          exact next _ _ u H w' _ h3 hle (m.go ok hn'.tmps hn'.n R' hle r' (Nat.le_refl _) (fun _ => rfl) (hfR.mono hle hcl') (hkc _ _ h3) (fun id he => absurd he (hnw id)))
      obtain ⟨q, _, nm, gn, off, lim, hv, hlt, _, hkind⟩ := loadK_sound ok R.h rv h2
      subst hv
      cases x with
      | tmp d =>
        simp only at hf
        have hd : d ∈ o.looksAt all := by simp [Oper.looksAt, ho, Op.operands]
        have hop : ∀ H1 : Heap, H1.glob = H.glob → H1.get nm = H.get nm → opd { fr with tmps := copyT fr.tmps (o.looksAt all) .nil } H1 (.tmp d) = some (.ptr nm gn off lim) := by
          intro H1 _ _
          simp only [opd, restr_tmp hd]
          exact ev
        have hnms : nmsOf fr [.tmp d] = [nm] := by
          have : fr.tmp d = some (.ptr nm gn off lim) := ev
          simp only [nmsOf, List.flatMap_cons, List.flatMap_nil, nmOf, this, V.nm, List.append_nil]
        split at hf
        · rename_i id o' l' hg
          have hp'' : st.tmps.get d = some p := hp'
          rw [hg] at hp''
          cases hp''
          cases hf
          rcases hkind with ⟨id', he, hnm, ct, hl⟩ | ⟨cs, o2, he, _⟩
          · have hii : id' = id := by
              rcases he with ⟨_, _, he⟩ | ⟨_, _, _, _, he⟩
              · cases he; rfl
              · cases he
            subst hii
            have hc := (R.h.cells _ ct hl).1
            refine run nm rfl hnms (no_dels m.D ha (.inl ⟨_, .inl rfl, fun hlt' => ?_⟩)) ⟨by rw [hnm], hc⟩ (by simp) hop
            rw [hnm]
            exact m.lt _ hlt' hc
          · cases he
        · rename_i id c' i' n' o' hg
          have hp'' : st.tmps.get d = some p := hp'
          rw [hg] at hp''
          cases hp''
          cases hf
          rcases hkind with ⟨id', he, hnm, ct, hl⟩ | ⟨cs, o2, he, _⟩
          · have hii : id' = id := by
              rcases he with ⟨_, _, he⟩ | ⟨_, _, _, _, he⟩
              · cases he
              · cases he; rfl
            subst hii
            have hc := (R.h.cells _ ct hl).1
            refine run nm rfl hnms (no_dels m.D ha (.inl ⟨_, .inl rfl, fun hlt' => ?_⟩)) ⟨by rw [hnm], hc⟩ (by simp) hop
            rw [hnm]
            exact m.lt _ hlt' hc
          · cases he
        · rename_i cs' o' hg
          have hp'' : st.tmps.get d = some p := hp'
          rw [hg] at hp''
          cases hp''
          cases hf
          cases rv with
          | eptr q1 q2 q3 q4 q5 q6 =>
            refine run nm rfl hnms (no_dels m.D ha (.inr ⟨by simp, by simp⟩)) ⟨[nm], rfl, fun n hn => ?_⟩ (by simp) hop
            rw [List.mem_singleton.1 hn]
            exact ⟨q3, _, _, _, _, _, _, q1⟩
        · cases hf
      | global gl =>
        simp only [Option.some.injEq] at hf
        subst hf
        have hglob : ∃ ps, C.glob gl = some ps ∧ p = .eptr ps 0 := by
          simp only [opdP] at hp'
          obtain ⟨ps, h1', h2'⟩ := Option.map_eq_some_iff.1 hp'
          exact ⟨ps, h1', h2'.symm⟩
        obtain ⟨ps, hgl, rfl⟩ := hglob
        obtain ⟨g0, vs, e, fl, fz, ex, g1, g2, g3⟩ := R.h.globs gl ps hgl
        have hgH : H.get gl = some (.row vs e 0 fl fz ex) := by rw [R.h.keeps.old gl g2]; exact g1
        have hb : Nat.blt gl H.glob = true := by rw [Nat.blt_eq, R.h.keeps.glob]; exact g0
        have hv : V.ptr nm gn off lim = .ptr gl 0 0 vs.length := by
          have := ev
          simp only [opd, hb, cond_true, hgH, Option.some.injEq] at this
          exact this.symm
        cases hv
        cases rv with
        | eptr q1 q2 q3 q4 q5 q6 =>
          refine run nm rfl (by simp [nmsOf, nmOf]) (no_dels m.D ha (.inr ⟨by simp, by simp⟩)) ⟨[nm], rfl, fun n hn => ?_⟩ (by simp) ?_
          · rw [List.mem_singleton.1 hn]
            exact ⟨q3, _, _, _, _, _, _, q1⟩
          · intro H1 hg1 hg2
            simp only [opd, hg1, hb, cond_true, hg2, hgH]
      | _ => simp at hf
    | store t a x =>
      rw [ho] at hf
      simp only [exOp, ho] at h
      obtain ⟨ti, hti, h1⟩ := onS_inv h
      obtain ⟨pa, hpa, h2⟩ := onS_inv h1
      obtain ⟨px, hpx, h3⟩ := onS_inv h2
      obtain ⟨va, ea, ra⟩ := opdP_sound R hpa
      obtain ⟨vx, ex, rx⟩ := opdP_sound R hpx
      obtain ⟨st', id, off, lim, H', w', h4, hpf, rfl, hlt, hid, hcl, hbase, hloc, hs, e1, e2, _, R', hle, hsm, hlv0⟩ := storeK_sound ok R.h ra rx h3
      cases a with
      | tmp d =>
        simp only at hf
        have hpd : st.tmps.get d = some pa := hpa
        rw [hpd] at hf
        have hf : (bif (glOf x).isEmpty then some (FP3.write id) else none) = some f := by
          rcases hpf with ⟨_, _, rfl⟩ | ⟨_, _, _, _, rfl⟩
          · exact hf
          · exact hf
        cases hgl : (glOf x).isEmpty with
        | false => rw [hgl] at hf; cases hf
        | true =>
          rw [hgl] at hf
          simp only [cond_true, Option.some.injEq] at hf
          subst hf
          have hlf : ∀ id', FP3.write id = FP3.write id' → w.M (w.c id') := by
            intro id' he
            cases he
            exact R.h.live hlv0
          have hglx : glOf x = [] := by simpa using hgl
          have hd : d ∈ o.looksAt all := by simp [Oper.looksAt, ho, Op.operands]
          have hdf : fr.tmp d = some (.ptr (w.c id) 0 off lim) := ea
          have hfp : fpOf C.E o fr = .writes [w.c id] := by
            have ht' := ht
            rw [ho] at ht'
            simp only [fpOf, ho, ht', Bool.not_true, cond_false, nmOf, hdf, V.nm, hglx, List.append_nil]
          have hfR : fpR w (.write id) (.writes [w.c id]) := ⟨rfl, hcl⟩
          have hcl' : ∀ id, w.cl id → id < w.n := fun id h => by rw [R.h.n]; exact (R.h.cl id h).1
          have hdel := no_dels (nm := w.c id) m.D ha (.inl ⟨id, .inr rfl, fun hlt' => m.lt id hlt' hcl⟩)
          have hget := tinyH_writes (H := H) (l := [w.c id]) (dels := (freeOf b i done).flatMap Done.names) (List.mem_singleton.2 rfl) hlt hdel
          have hro : (tinyH H (.writes [w.c id]) ((freeOf b i done).flatMap Done.names)).ro ≤ w.c id := by
            show H.ro ≤ w.c id
            rw [R.h.keeps.ro]
            exact Nat.le_trans R.h.rob.1 hbase
          obtain ⟨row, hH', hst2⟩ := hloc _ hget hro
          have hmk : makes (.store t (.tmp d) x) = false := rfl
          have hxr : ∀ H0, opd { fr with tmps := copyT fr.tmps (o.looksAt all) .nil } H0 x = some vx := by
            intro H0
            have : opd { fr with tmps := copyT fr.tmps (o.looksAt all) .nil } H0 x = opd fr H x := opd_restr' (by simp [ho, Op.operands]) (by intro g hg; subst hg; simp [glOf] at hglx)
            rw [this]; exact ex
          refine wpD_step (fp := .writes [w.c id]) (out := .skip) (v := undefV) (K := (tinyH H (.writes [w.c id]) ((freeOf b i done).flatMap Done.names)).put (w.c id) row) hw hfp (by simp) (no_clash R.h m.D m.wr hlf hfR ha) ?_ (.inr ⟨rfl, rfl⟩) (Nat.le_refl _) ?_
          · have hop : opd { fr with tmps := copyT fr.tmps (o.looksAt all) .nil } (tinyH H (.writes [w.c id]) ((freeOf b i done).flatMap Done.names)) (.tmp d) = some (.ptr (w.c id) 0 off lim) := by
              simp only [opd, restr_tmp hd]
              exact ea
            simp only [evOp, ho, hti, Option.bind_some, hop, hxr, hst2, Option.map_some]
          · have RJ : RelH X sz C base st' (joinH H ((tinyH H (.writes [w.c id]) ((freeOf b i done).flatMap Done.names)).put (w.c id) row) (.writes [w.c id]) ((freeOf b i done).flatMap Done.names)) w' := by
              refine R'.congr (fun n => ?_) ?_ ?_ ?_
              · rw [joinH_get_writes, hH']
                have hnx : ((tinyH H (.writes [w.c id]) ((freeOf b i done).flatMap Done.names)).put (w.c id) row).next - H.next = 0 := Nat.sub_self _
                rw [hnx]
                simp only [List.range'_zero, List.append_nil, List.mem_filter, List.mem_singleton]
                have hok : (Nat.blt (w.c id) H.next && !((freeOf b i done).flatMap Done.names).any fun m => Nat.beq (w.c id) m) = true := okN_of hlt hdel
                by_cases hn : n = w.c id
                · subst hn
                  rw [if_pos ⟨rfl, hok⟩, heap_put_get, heap_put_get]
                · rw [if_neg (fun hh => hn hh.1), heap_put_ne hn]
              · rw [hH']; rfl
              · rw [hH']; rfl
              · rw [hH']; rfl
            exact next _ _ undefV _ w' _ h4 hle (m.go ok e1 e2 RJ hle .undef (Nat.le_refl _) (fun _ => rfl) (hfR.mono hle hcl') (hkc _ _ h4) (by intro id' he; cases he; rw [hsm]; exact hlv0))
      | _ => simp at hf
    | convert s d x =>
      rw [ho] at hf
      simp only at hf
      have hform : ∃ p, opdP (stdA X tbl inv meas) C st x = some p ∧ ((∃ k l n, p = .int k l n) ∨ ∃ s, p = .str s) ∧ (glOf x).isEmpty = true ∧ f = .stable := by
        split at hf
        · rename_i k' l' n' hx
          cases hg : (glOf x).isEmpty with
          | false => rw [hg] at hf; cases hf
          | true => rw [hg] at hf; cases hf; exact ⟨_, hx, .inl ⟨_, _, _, rfl⟩, rfl, rfl⟩
        · rename_i s' hx
          cases hg : (glOf x).isEmpty with
          | false => rw [hg] at hf; cases hf
          | true => rw [hg] at hf; cases hf; exact ⟨_, hx, .inr ⟨_, rfl⟩, rfl, rfl⟩
        · cases hf
      obtain ⟨p, hpx, hkind, hgl, rfl⟩ := hform
      have hglx : glOf x = [] := by simpa using hgl
      obtain ⟨v, ev, rv⟩ := opdP_sound R hpx
      have hvn : v.nm = [] := by
        rcases hkind with ⟨k', l', n', rfl⟩ | ⟨s', rfl⟩ <;> cases rv <;> rfl
      have hng : ∀ y ∈ o.op.operands.toList, ∀ g, y ≠ .global g := by
        intro y hy g he
        subst he
        simp [ho, Op.operands] at hy
        subst hy
        simp [glOf] at hglx
      have hfp : fpOf C.E o fr = .reads [] := by
        simp only [fpOf, ho, Op.operands]
        refine congrArg FP.reads ?_
        cases x with
        | tmp t =>
          have : fr.tmp t = some v := ev
          simp [nmsOf, nmOf, this, hvn]
        | global g => simp [glOf] at hglx
        | _ => simp [nmsOf, nmOf]
      have hfR : fpR w .stable (.reads []) := ⟨[], rfl, fun n hn => by cases hn⟩
      have hcl' : ∀ id, w.cl id → id < w.n := fun id h => by rw [R.h.n]; exact (R.h.cl id h).1
      obtain ⟨q, st', u, w', h1, h2, h3, h4, h5, h6⟩ := exOp_pure (fr' := { fr with tmps := copyT fr.tmps (o.looksAt all) .nil }) (H' := tinyH H (.reads []) ((freeOf b i done).flatMap Done.names)) ok R (by rw [ho]; rfl) (opdsR hng)
        (fun s' d' x' ho' => by rw [ho] at ho'; cases ho'; exact .inr ⟨p, hpx, hkind⟩) (fun t' x' lo' hi' mx' p' ho' => by rw [ho] at ho'; cases ho') h
      refine wpD_step (fp := .reads []) (out := .val u) (v := u) (K := tinyH H (.reads []) _) hw hfp (by simp) (no_clash R.h m.D m.wr (by simp) hfR ha) h6 (.inl rfl) (Nat.le_refl _) ?_
      rw [joinH_reads]
      exact next q st' u H w' _ h1 h4 (m.go ok h2.tmps h2.n h3 h4 h5 (Nat.le_refl _) (fun _ => rfl) (hfR.mono h4 hcl') (hkc _ _ h1) (by simp))
    | call c =>
      rw [ho] at hf
      simp only [exOp, ho] at h
      obtain ⟨ps, hps, h1⟩ := onS_inv h
      obtain ⟨vs, ev, rv⟩ := opdsP_sound R hps
      have ht' := ht
      rw [ho] at ht'
      have hroB : H.ro = base.ro := R.h.keeps.ro
      split at h1
      · rename_i f' hc
        obtain ⟨pf, hpf, h2⟩ := onS_inv h1
        obtain ⟨vf, ef, rf⟩ := opdP_sound R hpf
        simp only [hc] at hf
        have hfp : fpOf C.E o fr = .call := by
          simp only [fpOf, ho, ht', Bool.not_true, cond_false, hc]
        have hops : ∀ (H1 : Heap), (∀ n, H1.get n = H.get n) → H1.glob = H.glob → ∀ x ∈ o.op.operands.toList, opd { fr with tmps := copyT fr.tmps (o.looksAt all) .nil } H1 x = opd fr H x := by
          intro H1 hg1 hg2 x hx
          cases x with
          | global g => simp only [opd, hg1, hg2]
          | tmp t => exact opd_restr' hx (by simp)
          | const v => rfl
          | func f => rfl
        have hmem : ∀ x ∈ c.args.toList, x ∈ o.op.operands.toList := by
          intro x hx
          simp only [ho, Op.operands, Call.operands, Array.toList_append, List.mem_append]
          exact .inr hx
        have hmemf : f' ∈ o.op.operands.toList := by
          simp only [ho, Op.operands, Call.operands, Array.toList_append, List.mem_append, hc]
          exact .inl (by simp)
        cases hlone : loneAt C.E all b i with
        | true =>
          rw [hlone] at hf
          simp only [cond_true, Option.some.injEq] at hf
          subst hf
          obtain ⟨g, us, hco, hcall⟩ := callP_sound ok ok2 tok iok R.h rf rv h2
          have hdel := dels_nil m.D ha ⟨by simp, by simp⟩
          have hH : tinyH H .lone [] = H := by cases H; rfl
          refine wpD_call (fp := .lone) (t := .func g) (args := us) (K0 := H) hw hfp (by rw [hlone]; rfl) (no_clash (fp := .lone) R.h m.D (f := .lone) m.wr (by simp) trivial ha) ?_ ?_
          · rw [hdel, hH]
            have e1 : opds { fr with tmps := copyT fr.tmps (o.looksAt all) .nil } H c.args.toList = some vs := by
              rw [opds_same fun x hx => hops H (fun _ => rfl) rfl x (hmem x hx)]; exact ev
            have e2 := (hops H (fun _ => rfl) rfl f' hmemf).trans ef
            simp only [evOp, ho, hc, e1, e2, Option.bind_some, hco, Option.map_some]
          · refine hcall.mono fun v H1 hA => ?_
            obtain ⟨p, st', w', a1, a2, a3, a4, a5, a6⟩ := hA
            have hnx : H.next ≤ H1.next := by have := a5.nx; rw [R.h.nx, a4.nx] at this; exact this
            rw [hdel]
            have hJ : RelH X sz C base st' (joinH H H1 .lone []) w' := by
              refine a4.congr (fun n => ?_) rfl ?_ ?_
              · simp only [joinH, Heap.get, copyT]
              · rw [a4.keeps.ro]; exact hroB
              · rw [a4.keeps.glob]; exact R.h.keeps.glob
            exact ⟨hnx, next p st' v _ w' _ a1 a5 (m.go ok a2 a3 hJ a5 a6 hnx (fun hmk => by rw [ho] at hmk; simp [makes, hc] at hmk) trivial (hkc _ _ a1) (by simp))⟩
        | false =>
          rw [hlone] at hf
          simp only [cond_false, hpf, hps] at hf
          split at hf
          · rename_i g first cap args heq1 heq2
            cases heq1
            cases heq2
            cases hfn : fnP (stdA X tbl inv meas) st g (first ++ ps ++ cap) with
            | none => rw [hfn] at hf; cases hf
            | some x =>
              obtain ⟨pre, r⟩ := x
              rw [hfn] at hf
              simp only [Option.isSome_some, cond_true, Option.some.injEq] at hf
              subst hf
              simp only [callP, hfn] at h2
              cases hd : distinct (ownIds r.flat) with
              | false => rw [hd] at h2; exact absurd h2 id
              | true =>
                rw [hd] at h2
                simp only [cond_true] at h2
                obtain ⟨hpre, hk⟩ := h2
                cases rf with
                | @func f2 a c2 va vc hla hlc q1 q2 =>
                have hra : RepL X sz w (first ++ ps ++ cap) (va ++ vs ++ vc) := RepL.append (RepL.append (ps := first) ⟨hla, q1⟩ rv) ⟨hlc, q2⟩
                have hdel := dels_nil m.D ha ⟨by simp, by simp⟩
                let H1 : Heap := tinyH H .call []
                have hg1 : ∀ n, H1.get n = H.get n := fun n => by simp only [H1, tinyH, Heap.get, copyT]
                obtain ⟨form, hcall⟩ := fnP_sound ok2 tok R.h hra hfn hpre (H1 := H1) hg1 rfl rfl (Nat.le_refl _)
                refine wpD_call (fp := .call) (t := .func g) (args := va ++ vs ++ vc) (K0 := H1) hw hfp (by rw [hlone]; rfl) (no_clash (fp := .call) R.h m.D (f := .call) m.wr (by simp) rfl ha) ?_ ?_
                · rw [hdel]
                  have e1 : opds { fr with tmps := copyT fr.tmps (o.looksAt all) .nil } H1 c.args.toList = some vs := by
                    rw [opds_same fun x hx => hops H1 hg1 rfl x (hmem x hx)]; exact ev
                  have e2 := (hops H1 hg1 rfl f' hmemf).trans ef
                  show evOp C.E o _ H1 = _
                  simp only [evOp, ho, hc, e1, e2, Option.bind_some, callOut, Option.map_some]
                · refine hcall.mono fun v H2 hA => ?_
                  obtain ⟨w', a⟩ := hA
                  rw [hdel]
                  have hnx : H.next ≤ H2.next := a.keeps.next
                  obtain ⟨w'', e1, e2, R', hle, r'⟩ := contract_sound ok ok2 R.h form (H1 := H1) hg1 rfl a (J := joinH H H2 .call []) (fun n => by
                    rw [joinH_get_call]
                    split
                    · rfl
                    · rename_i hn
                      have hn' : ¬ (H.next ≤ n ∧ n < H2.next) := by
                        intro hh
                        exact hn (List.mem_range'_1.2 ⟨hh.1, by omega⟩)
                      by_cases hlt : n < H.next
                      · rw [a.keeps.old n hlt, hg1]
                      · rw [R.h.wf n (by omega), a.wf n (by omega)]) rfl rfl rfl
                  exact ⟨hnx, next _ _ v _ w'' _ hk hle (m.go ok e1 e2 R' hle r' hnx (fun hmk => by rw [ho] at hmk; simp [makes, hc] at hmk) rfl (hkc _ _ hk) (by simp))⟩
          · cases hf
      · rename_i bi hc
        have hbi : bi = .append := by
          cases bi <;> first | rfl | (simp [hc] at hf; done)
        subst hbi
        simp only [hc] at hf
        cases hlone : loneAt C.E all b i with
        | false => rw [hlone] at hf; cases hf
        | true =>
          rw [hlone] at hf
          simp only [cond_true, Option.some.injEq] at hf
          subst hf
          have hdel := dels_nil m.D ha ⟨by simp, by simp⟩
          have hfp : fpOf C.E o fr = .writes (nmsOf fr c.args.toList) := by
            simp only [fpOf, ho, ht', Bool.not_true, cond_false, hc]
          have hmem : ∀ x ∈ c.args.toList, x ∈ o.op.operands.toList := by
            intro x hx
            simp only [ho, Op.operands, Call.operands, Array.toList_append, List.mem_append]
            exact .inr hx
          -- names of arguments
          have hnames : ∀ x (p : PV K) v, opdP (stdA X tbl inv meas) C st x = some p → opd fr H x = some v → Rep X sz w p v → ((∃ s, p = .str s) ∨ p = .nils ∨ ∃ c l own, p = .list c l own) → ∀ n ∈ v.nm, n ∈ nmOf fr x := by
            intro x p v h1 h2 h3 h4 n hn
            cases x with
            | tmp t =>
              have h2' : fr.tmp t = some v := h2
              simp only [nmOf, h2']
              exact hn
            | const cv =>
              have hp' : (absV 1000 cv).bind (constP (stdA X tbl inv meas)) = some p := h1
              obtain ⟨u, hu1, hu2⟩ := Option.bind_eq_some_iff.1 hp'
              have h2' : absV 1000 cv = some v := h2
              rw [hu1] at h2'
              cases h2'
              exfalso
              unfold constP at hu2
              split at hu2
              · simp [V.nm] at hn
              · simp [V.nm] at hn
              · cases hpl : plainV v with
                | false => rw [hpl] at hu2; cases hu2
                | true =>
                  cases v <;> simp [plainV] at hpl <;> simp [V.nm] at hn
            | global g =>
              simp only [opdP] at h1
              obtain ⟨q, _, rfl⟩ := Option.map_eq_some_iff.1 h1
              rcases h4 with ⟨_, h4⟩ | h4 | ⟨_, _, _, h4⟩ <;> cases h4
            | func f =>
              simp only [opd, Option.some.injEq] at h2
              subst h2
              simp [V.nm] at hn
          have htiny : ∀ n, n ∈ nmsOf fr c.args.toList → n < H.next → (tinyH H (.writes (nmsOf fr c.args.toList)) []).get n = H.get n := fun n h1 h2 => tinyH_writes h1 h2 (by simp)
          -- the end, once the values are known
          have fin : ∀ (a1 a2 : Operand) (s x : PV K) (v1 v2 : V) (t u : TypeId) (ti ui : TI) (e : TypeId) (ei : TI) (p : PV K) (st' : StV K) (v : V) (H' : Heap) (w' : Wd), c.args.toList = [a1, a2] → opdP (stdA X tbl inv meas) C st a1 = some s → opdP (stdA X tbl inv meas) C st a2 = some x →
              opd fr H a1 = some v1 → opd fr H a2 = some v2 → Rep X sz w s v1 → Rep X sz w x v2 → ((∃ s', s = .str s') ∨ s = .nils ∨ ∃ c l own, s = .list c l own) → ((∃ s', x = .str s') ∨ x = .nils ∨ ∃ c l own, x = .list c l own) →
              c.argTypes.toList = [t, u] → C.E.types t = some ti → C.E.types u = some ui → ti.under = .slice e → ((∃ e', ui.under = .slice e') ∨ ui.under = .string) → C.E.types e = some ei →
              appendV H e ei.size ei.bytes v1 v2 = some (v, H') → k p st' → st'.tmps = st.tmps → st'.n = st.n → RelH X sz C base st' H' w' → Le w w' → Rep X sz w' p v → WpD C.E all b i (o :: l) done fr H Q := by
            intro a1 a2 s x v1 v2 t u ti ui e ei p st' v H' w' hargs o1 o2 e1 e2 r1 r2 k1 k2 hats hti hui hu1 hu2 hei happ hk g1 g2 R' hle hr
            have hin1 : ∀ n ∈ v1.nm, n ∈ nmsOf fr c.args.toList := by
              intro n hn
              rw [hargs]
              simp only [nmsOf, List.flatMap_cons, List.mem_append]
              exact .inl (hnames a1 s v1 o1 e1 r1 k1 n hn)
            have hin2 : ∀ n ∈ v2.nm, n ∈ nmsOf fr c.args.toList := by
              intro n hn
              rw [hargs]
              simp only [nmsOf, List.flatMap_cons, List.flatMap_nil, List.append_nil, List.mem_append]
              exact .inr (hnames a2 x v2 o2 e2 r2 k2 n hn)
            have hlt : ∀ (q : PV K) v0, Rep X sz w q v0 → ((∃ s', q = .str s') ∨ q = .nils ∨ ∃ c l own, q = .list c l own) → ∀ n ∈ v0.nm, n < H.next := by
              intro q v0 hq hk n hn
              rcases hk with ⟨s', rfl⟩ | rfl | ⟨c', l', own, rfl⟩
              · cases hq; simp [V.nm] at hn
              · cases hq; simp [V.nm] at hn
              · rcases list_cases hq with ⟨_, rfl⟩ | ⟨nm, gn, off, cap, cs, e', gen, floor, frz, ex, rfl, hg, _⟩
                · simp [V.nm] at hn
                · simp only [V.nm, List.mem_singleton] at hn
                  subst hn
                  rw [R.h.g] at hg
                  by_cases hlt : n < H.next
                  · exact hlt
                  · rw [R.h.wf n (by omega)] at hg; cases hg
            let T := tinyH H (.writes (nmsOf fr c.args.toList)) []
            obtain ⟨K1, hK1, hcase⟩ := appendV_local (H := H) (H1 := T) rfl rfl (fun n hn => by
              rcases hn with hn | hn
              · exact htiny n (hin1 n hn) (hlt s v1 r1 k1 n hn)
              · exact htiny n (hin2 n hn) (hlt x v2 r2 k2 n hn)) happ
            have hng1 : ∀ g, a1 ≠ .global g := by
              intro g hg
              subst hg
              simp only [opdP] at o1
              obtain ⟨q, _, rfl⟩ := Option.map_eq_some_iff.1 o1
              rcases k1 with ⟨_, h4⟩ | h4 | ⟨_, _, _, h4⟩ <;> cases h4
            have hng2 : ∀ g, a2 ≠ .global g := by
              intro g hg
              subst hg
              simp only [opdP] at o2
              obtain ⟨q, _, rfl⟩ := Option.map_eq_some_iff.1 o2
              rcases k2 with ⟨_, h4⟩ | h4 | ⟨_, _, _, h4⟩ <;> cases h4
            have eo1 : opd { fr with tmps := copyT fr.tmps (o.looksAt all) .nil } T a1 = some v1 := (opd_restr' (hmem a1 (by rw [hargs]; simp)) hng1).trans e1
            have eo2 : opd { fr with tmps := copyT fr.tmps (o.looksAt all) .nil } T a2 = some v2 := (opd_restr' (hmem a2 (by rw [hargs]; simp)) hng2).trans e2
            have hev : evOp C.E o { fr with tmps := copyT fr.tmps (o.looksAt all) .nil } T = some (.val v, K1) := by
              have ea : opds { fr with tmps := copyT fr.tmps (o.looksAt all) .nil } T c.args.toList = some [v1, v2] := by
                rw [hargs]; exact opds_cons eo1 (opds_cons eo2 opds_nil)
              rcases hu2 with ⟨e', hu2⟩ | hu2
              · simp only [evOp, ho, hc, ea, Option.bind_some, builtinV, hats, hti, hui, hu1, hu2, hei, hK1, Option.map_some]
              · simp only [evOp, ho, hc, ea, Option.bind_some, builtinV, hats, hti, hui, hu1, hu2, hei, hK1, Option.map_some]
            have hnx : H.next ≤ H'.next := by have := hle.nx; rw [R.h.nx, R'.nx] at this; exact this
            have hKn : K1.next = H'.next := by
              rcases hcase with ⟨rfl, rfl⟩ | ⟨row, rfl, rfl⟩ | ⟨nm, row, _, _, rfl, rfl⟩
              · rfl
              · rw [heap_new_next, heap_new_next]; rfl
              · rfl
            refine wpD_step (fp := .writes (nmsOf fr c.args.toList)) (out := .val v) (v := v) (K := K1) hw hfp (by simp) (no_clash (fp := .writes (nmsOf fr c.args.toList)) R.h m.D (f := .lone) m.wr (by simp) trivial ha) ?_ (.inl rfl) (by rw [hKn]; exact hnx) ?_
            · rw [hdel]; exact hev
            · rw [hdel]
              have RJ : RelH X sz C base st' (joinH H K1 (.writes (nmsOf fr c.args.toList)) []) w' := by
                refine R'.congr (fun n => ?_) hKn ?_ ?_
                · rw [joinH_get_writes]
                  have hT : ∀ m, m ∈ (nmsOf fr c.args.toList).filter (fun n => Nat.blt n H.next && !([] : List Nat).any fun m => Nat.beq n m) → T.get m = H.get m := by
                    intro m hm
                    simp only [List.mem_filter, Bool.and_eq_true, Nat.blt_eq] at hm
                    exact htiny m hm.1 hm.2.1
                  rcases hcase with ⟨rfl, rfl⟩ | ⟨row, rfl, rfl⟩ | ⟨nm, row, hnm, hne, rfl, rfl⟩
                  · split
                    · rename_i hn
                      rcases List.mem_append.1 hn with hn | hn
                      · exact hT n hn
                      · have := List.mem_range'_1.1 hn
                        have hTn : T.next = H'.next := rfl
                        omega
                    · rfl
                  · have hTn : (T.new row).next = H.next + 1 := heap_new_next
                    split
                    · rename_i hn
                      rcases List.mem_append.1 hn with hn | hn
                      · have h2 : n < H.next := by
                          simp only [List.mem_filter, Bool.and_eq_true, Nat.blt_eq] at hn
                          exact hn.2.1
                        rw [heap_new_ne (H := T) h2, heap_new_ne h2]
                        exact hT n hn
                      · have := List.mem_range'_1.1 hn
                        have : n = H.next := by omega
                        subst this
                        rw [heap_new_get]
                        exact heap_new_get (H := T)
                    · rename_i hn
                      by_cases h2 : n = H.next
                      · exfalso
                        apply hn
                        refine List.mem_append.2 (.inr (List.mem_range'_1.2 ⟨by omega, by omega⟩))
                      · have : (H.new row).get n = H.get n := by
                          obtain ⟨t0, nx0, ro0, gl0⟩ := H
                          simp only [Heap.new, Heap.get, Tree.get_set]
                          rw [if_neg h2]
                        rw [this]
                  · have hnlt : nm < H.next := hlt s v1 r1 k1 nm hnm
                    have hTn : (T.put nm row).next - H.next = 0 := Nat.sub_self _
                    rw [hTn]
                    simp only [List.range'_zero, List.append_nil]
                    by_cases h2 : n = nm
                    · subst h2
                      rw [if_pos, heap_put_get, heap_put_get]
                      simp only [List.mem_filter, Bool.and_eq_true, Nat.blt_eq]
                      exact ⟨hin1 n hnm, hnlt, by simp⟩
                    · rw [heap_put_ne h2, heap_put_ne h2]
                      split
                      · rename_i hn; exact hT n hn
                      · rfl
                · rw [R'.keeps.ro]; exact hroB
                · rw [R'.keeps.glob]; exact R.h.keeps.glob
              exact next p st' v _ w' _ hk hle (m.go ok g1 g2 RJ hle hr (by show H.next ≤ K1.next; rw [hKn]; exact hnx) (fun hmk => by rw [ho] at hmk; simp [makes, hc] at hmk) trivial (hkc _ _ hk) (by simp))
          -- the arguments
          have two : ∀ (l : List Operand) s x, opdsP (stdA X tbl inv meas) C st l = some [s, x] → ∃ a1 a2, l = [a1, a2] ∧ opdP (stdA X tbl inv meas) C st a1 = some s ∧ opdP (stdA X tbl inv meas) C st a2 = some x := by
            intro l s x hl
            match l, hl with
            | [], hl => simp [opdsP] at hl
            | [a1], hl =>
              simp only [opdsP, Option.map_some, Option.bind_eq_some_iff] at hl
              obtain ⟨q, _, hq⟩ := hl
              simp at hq
            | a1 :: a2 :: a3 :: l, hl =>
              simp only [opdsP] at hl
              obtain ⟨q1, _, hq⟩ := Option.bind_eq_some_iff.1 hl
              obtain ⟨q2, hq2, hq3⟩ := Option.map_eq_some_iff.1 hq
              obtain ⟨q4, _, hq5⟩ := Option.bind_eq_some_iff.1 hq2
              obtain ⟨q6, hq6, hq7⟩ := Option.map_eq_some_iff.1 hq5
              obtain ⟨q8, _, hq9⟩ := Option.bind_eq_some_iff.1 hq6
              obtain ⟨q10, _, hq11⟩ := Option.map_eq_some_iff.1 hq9
              subst hq11; subst hq7
              simp at hq3
            | [a1, a2], hl =>
              simp only [opdsP] at hl
              obtain ⟨q1, h1, hq⟩ := Option.bind_eq_some_iff.1 hl
              obtain ⟨q2, hq2, hq3⟩ := Option.map_eq_some_iff.1 hq
              obtain ⟨q4, h4, hq5⟩ := Option.bind_eq_some_iff.1 hq2
              simp only [Option.map_some, Option.some.injEq] at hq5
              subst hq5
              simp only [List.cons.injEq, and_true] at hq3
              obtain ⟨rfl, rfl⟩ := hq3
              exact ⟨a1, a2, rfl, h1, h4⟩
          unfold builtinP at h1
          split at h1
          · contradiction
          · rename_i s x t u _ hats
            obtain ⟨a1, a2, hargs, o1, o2⟩ := two _ _ _ hps
            obtain ⟨v1, vs', rfl, r1, rr⟩ := rv.uncons
            obtain ⟨v2, vs'', rfl, r2, r4⟩ := rr.uncons
            have := r4.nil_iff; subst this
            have hev2 : opd fr H a1 = some v1 ∧ opd fr H a2 = some v2 := by
              rw [hargs] at ev
              simp only [opds] at ev
              obtain ⟨u1, h1', h2'⟩ := Option.bind_eq_some_iff.1 ev
              obtain ⟨u2, h3', h4'⟩ := Option.map_eq_some_iff.1 h2'
              obtain ⟨u3, h5', h6'⟩ := Option.bind_eq_some_iff.1 h3'
              simp only [Option.map_some, Option.some.injEq] at h6'
              subst h6'
              simp only [List.cons.injEq, and_true] at h4'
              obtain ⟨rfl, rfl⟩ := h4'
              exact ⟨h1', h5'⟩
            have form : ∀ (c' : Nat) (q : PV K) l', asL (stdA X tbl inv meas) c' q = some l' → ((∃ s', q = .str s') ∨ q = .nils ∨ ∃ c l own, q = .list c l own) := by
              intro c' q l' hq
              unfold asL at hq
              split at hq
              · exact .inr (.inl rfl)
              · exact .inr (.inr ⟨_, _, _, rfl⟩)
              · cases hq
            split at h1
            · rename_i ti ui hti hui
              split at h1
              · rename_i e e' hu1 hu2
                split at h1
                · rename_i c' ei hcc hei
                  cases hb : (Nat.ble ei.bytes 1024 && !Nat.beq ei.size 0) with
                  | false => rw [hb] at h1; exact absurd h1 id
                  | true =>
                    rw [hb] at h1
                    simp only [cond_true] at h1
                    simp only [Bool.and_eq_true, Nat.ble_eq] at hb
                    split at h1
                    · rename_i l' hl
                      have rl := asL_sound r2 hl
                      have hsz := ok.size e c' ei hcc hei
                      obtain ⟨items, hel, hit⟩ := elemsV_list ok.len R.h.g rl (ok.pos e c' hcc)
                      rw [← hsz] at hel
                      obtain ⟨l0, _, _, _, hl0, _⟩ := appendP_inv R.h h1
                      obtain ⟨p, st', v, H', w', q1, q2, q3, q4, q5, q6, q7⟩ := append_sound ok R.h hcc hei hb.1 r1 hel hit h1
                      exact fin a1 a2 s x v1 v2 t u ti ui e ei p st' v H' w' hargs o1 o2 hev2.1 hev2.2 r1 r2 (form _ _ _ hl0) (form _ _ _ hl) hats hti hui hu1 (.inl ⟨_, hu2⟩) hei q4 q1 q2 q3 q5 q6 q7
                    · exact absurd h1 id
                · exact absurd h1 id
              · rename_i e hu1 hu2
                split at h1
                · rename_i ei y hcc hei
                  cases hb : (Nat.ble ei.bytes 1024 && Nat.beq ei.size 1) with
                  | false => rw [hb] at h1; exact absurd h1 id
                  | true =>
                    rw [hb] at h1
                    simp only [cond_true] at h1
                    simp only [Bool.and_eq_true, Nat.ble_eq] at hb
                    cases r2
                    have hs1 := Nat.eq_of_beq_eq_true hb.2
                    obtain ⟨hlen, hit⟩ := str_items (w := w) ok y
                    have hel : elemsV H ei.size (.str y) = some ((X.u8 ▸ y : List (K 0)).length, y.map fun b => V.int .u8 b.toNat) := by rw [hs1, elemsV_str, hlen]
                    obtain ⟨l0, _, _, _, hl0, _⟩ := appendP_inv R.h h1
                    obtain ⟨p, st', v, H', w', q1, q2, q3, q4, q5, q6, q7⟩ := append_sound ok R.h hcc hei hb.1 r1 hel hit h1
                    exact fin a1 a2 s (.str y) v1 (.str y) t u ti ui e ei p st' v H' w' hargs o1 o2 hev2.1 hev2.2 r1 .str (form _ _ _ hl0) (.inl ⟨_, rfl⟩) hats hti hui hu1 (.inr hu2) hei q4 q1 q2 q3 q5 q6 q7
                · exact absurd h1 id
              · exact absurd h1 id
            · exact absurd h1 id
          · contradiction
          · contradiction
          · exact absurd h1 id
      · exact absurd h1 id
    | _ => rw [ho] at hf; simp at hf

end
end Go.E3

/- E3: REGIONS that draw their order, as a whole; what a piece of code leaves alone. -/
namespace Go.E3
open Go Go.E2

variable {K : Nat → Type}

section
variable {X : Codecs K} {sz : Nat → Nat} {C : Cfg Int Bool (List UInt8) Prop (fun c => List (K c))} {base : Heap}
variable {tbl : Tbl K} {inv : Nat → List (NV K) → Prop} {meas : Nat → List (NV K) → Nat} {inl : Inl Int Bool (List UInt8) Prop (fun c => List (K c))}
variable {all : Array Oper} {b : Array Nat} {B old : Nat}

theorem look_in {α : Type} : ∀ {l : List (Nat × α)} {j : Nat}, (look l j).isSome = true → ∃ a, (j, a) ∈ l
  | [], j, h => by simp [look] at h
  | (i, a) :: l, j, h => by
    simp only [look, cond_eq_ite, Nat.beq_eq] at h
    by_cases hi : i = j
    · subst hi; exact ⟨a, List.mem_cons_self⟩
    · rw [if_neg hi] at h
      obtain ⟨b, hb⟩ := look_in h
      exact ⟨b, List.mem_cons_of_mem _ hb⟩

theorem wpDraw_sound (ok : CfgOk X sz C) (ok2 : CfgOk2 X C) (tok : TblOk X sz C tbl) (iok : InlOk X sz C inl) : ∀ {l : List Oper} {i : Nat} {l3 : List Done3} {done : List Done} {st : StV K} {fr : Fr} {H : Heap} {w : Wd} {k : StV K → Prop},
    Mid X sz C base B old l3 done st fr H w → wpDraw (stdA X tbl inv meas) C inl all b old i l l3 st k →
    WpD C.E all b i l done fr H fun ex fr' H' => ex = .normal ∧ ∃ st' w', k st' ∧ Rel X sz C base st' fr' H' w' ∧ Le w w'
  | [], i, l3, done, st, fr, H, w, k, m, h => wpD_nil ⟨rfl, st, w, h, m.R, .refl w⟩
  | o :: l, i, l3, done, st, fr, H, w, k, m, h => by
    simp only [wpDraw] at h
    cases hd : deferOp o.op with
    | true => rw [hd] at h; exact absurd h id
    | false =>
      rw [hd] at h
      simp only [cond_false] at h
      obtain ⟨bw, st1, hw, h1, hn, hnx, R1⟩ := wantP_sound m.R h
      have m1 : Mid X sz C base B old l3 done st1 fr H w := ⟨m.R.step ok hn.tmps hn.n R1 (.refl w), m.D, m.hB, by rw [hnx]; exact m.hold, m.lt, fun d hd id he => by rw [hn.cells]; exact m.live d hd id he⟩
      cases bw with
      | true =>
        simp only [cond_true] at h1
        split at h1
        · rename_i f hf
          cases ha : (l3.filter fun d => !(b.getD i 0).testBit d.i).all (fun d => apart3 old d f) with
          | false => rw [ha] at h1; exact absurd h1 id
          | true =>
            rw [ha] at h1
            simp only [cond_true] at h1
            have hfz : ∀ {st' : StV K} {Q : Prop}, (bif st1.cells.all (fun x => (look st'.cells x.1).isSome) then Q else False) → st1.cells.all (fun x => (look st'.cells x.1).isSome) = true ∧ Q := by
              intro st' Q hq
              cases hc : st1.cells.all (fun x => (look st'.cells x.1).isSome) with
              | false => rw [hc] at hq; exact hq.elim
              | true => rw [hc] at hq; exact ⟨rfl, hq⟩
            refine draw_op ok ok2 tok iok m1 hw hf ha (fun p st' hk j hj => ?_) h1 fun p st' v J w' done' hk hle m' => ?_
            · obtain ⟨a, hin⟩ := look_in hj
              exact List.all_eq_true.1 (hfz hk).1 _ hin
            have ih := wpDraw_sound ok ok2 tok iok m' (hfz hk).2
            obtain ⟨x, hx, e, st'', w'', a1, a2, a3⟩ := ih
            exact ⟨x, hx, e, st'', w'', a1, a2, hle.trans a3⟩
        · exact absurd h1 id
      | false =>
        simp only [cond_false] at h1
        refine wpD_pass hw ?_
        exact wpDraw_sound ok ok2 tok iok (m1.go (f := .none) (fp := .none) (mk := false) ok rfl rfl R1 (.refl w) .undef (Nat.le_refl _) (fun _ => rfl) rfl (fun _ h => h) (by simp)) h1

end

/-! ### What a piece of code leaves alone -/
theorem put_other {fr : Fr} {dst : Option Tmp} {v : V} {t : Nat} (h : dst ≠ some t) : (fr.put dst v).tmp t = fr.tmp t := by
  cases dst with
  | none => rfl
  | some d =>
    obtain ⟨tt, n, ds⟩ := fr
    simp only [Fr.put]
    cases Nat.blt d n with
    | false => rfl
    | true =>
      simp only [cond_true, Fr.tmp, Tree.get_set]
      rw [if_neg]
      intro he
      exact h (by rw [he])

theorem push_tmp {fr : Fr} {d : D} {t : Nat} : (fr.push d).tmp t = fr.tmp t := by cases fr; rfl

theorem runOps_other {E : Env} {call : Go.E2.Call} {nd : Bool} {all : Array Oper} {t : Nat} : ∀ {l : List Oper} {fr fr' : Fr} {H H' : Heap} {ex : Ex}, (∀ o ∈ l, o.dst ≠ some t) → runOps E call nd all l fr H = some (ex, fr', H') → fr'.tmp t = fr.tmp t
  | [], fr, fr', H, H', ex, _, h => by
    simp only [runOps, Option.some.injEq, Prod.mk.injEq] at h
    rw [h.2.1]
  | o :: l, fr, fr', H, H', ex, hd, h => by
    have h0 := hd o List.mem_cons_self
    have hl : ∀ o ∈ l, o.dst ≠ some t := fun o ho => hd o (List.mem_cons_of_mem _ ho)
    simp only [runOps] at h
    split at h
    · split at h
      · cases hnd : nd with
        | false => rw [hnd] at h; cases h
        | true =>
          rw [hnd] at h
          simp only [cond_true] at h
          obtain ⟨d, _, h2⟩ := Option.bind_eq_some_iff.1 h
          rw [runOps_other hl h2, put_other h0, push_tmp]
      · rw [runOps_other hl h, put_other h0]
      · cases h
    · split at h
      · rw [runOps_other hl h, put_other h0]
      · simp only [Option.some.injEq, Prod.mk.injEq] at h
        rw [h.2.1]
      · cases h

theorem cond_some {α : Type} {c : Bool} {x y : Option α} {r : α} (h : (bif c then x else y) = some r) : (c = false ∧ y = some r) ∨ (c = true ∧ x = some r) := by
  cases c with
  | false => exact .inl ⟨rfl, h⟩
  | true => exact .inr ⟨rfl, h⟩

theorem runDraw_other {E : Env} {call : Go.E2.Call} {all : Array Oper} {b : Array Nat} {t : Nat} : ∀ {l : List Oper} {i : Nat} {done : List Done} {fr fr' : Fr} {H H' : Heap}, (∀ o ∈ l, o.dst ≠ some t) → runDraw E call all b i l done fr H = some (fr', H') → fr'.tmp t = fr.tmp t
  | [], i, done, fr, fr', H, H', _, h => by
    simp only [runDraw, Option.some.injEq, Prod.mk.injEq] at h
    rw [h.1]
  | o :: l, i, done, fr, fr', H, H', hd, h => by
    have h0 := hd o List.mem_cons_self
    have hl : ∀ o ∈ l, o.dst ≠ some t := fun o ho => hd o (List.mem_cons_of_mem _ ho)
    simp only [runDraw] at h
    obtain ⟨wnt, _, h2⟩ := Option.bind_eq_some_iff.1 h
    rcases cond_some h2 with ⟨_, h3⟩ | ⟨_, h3⟩
    · split at h3
      · rcases cond_some h3 with ⟨_, h4⟩ | ⟨_, h4⟩
        · rw [runDraw_other hl h4, put_other h0]
        · cases h4
      · cases h3
    · cases h3

theorem iter_other {σ : Type} {step : σ → Option (Bool × σ)} {P : σ → Prop} (hs : ∀ s b s', P s → step s = some (b, s') → P s') : ∀ {n : Nat} {s s' : σ}, P s → iter step n s = some s' → P s'
  | 0, s, s', _, h => by cases h
  | n + 1, s, s', hp, h => by
    simp only [iter] at h
    split at h
    · rename_i s1 h1
      exact iter_other hs (hs _ _ _ hp h1) h
    · rename_i s1 h1
      cases h
      exact hs _ _ _ hp h1
    · cases h

theorem evCode_other {E : Env} {call : Go.E2.Call} {fn : FuncId} {round : Option Nat} {fuel t : Nat} : ∀ {c : Code} {fr fr' : Fr} {H H' : Heap} {ex : Ex}, t ∉ dsts c → evCode E call fn round fuel c fr H = some (ex, fr', H') → fr'.tmp t = fr.tmp t
  | .skip, fr, fr', H, H', ex, _, h => by simp only [evCode, Option.some.injEq, Prod.mk.injEq] at h; rw [h.2.1]
  | .label _, fr, fr', H, H', ex, _, h => by simp only [evCode, Option.some.injEq, Prod.mk.injEq] at h; rw [h.2.1]
  | .exit _, fr, fr', H, H', ex, _, h => by simp only [evCode, Option.some.injEq, Prod.mk.injEq] at h; rw [h.2.1]
  | .goto _, fr, fr', H, H', ex, _, h => by simp only [evCode, Option.some.injEq, Prod.mk.injEq] at h; rw [h.2.1]
  | .ret, fr, fr', H, H', ex, _, h => by simp only [evCode, Option.some.injEq, Prod.mk.injEq] at h; rw [h.2.1]
  | .refuse _, fr, fr', H, H', ex, _, h => by simp [evCode] at h
  | .seq a b, fr, fr', H, H', ex, hd, h => by
    simp only [dsts, List.mem_append, not_or] at hd
    simp only [evCode] at h
    split at h
    · rename_i fr1 H1 h1
      rw [evCode_other hd.2 h, evCode_other hd.1 h1]
    · exact evCode_other hd.1 h
  | .cond c a b, fr, fr', H, H', ex, hd, h => by
    simp only [dsts, List.mem_append, not_or] at hd
    simp only [evCode] at h
    split at h
    · exact evCode_other hd.1 h
    · exact evCode_other hd.2 h
    · cases h
  | .block id c, fr, fr', H, H', ex, hd, h => by
    simp only [dsts] at hd
    simp only [evCode] at h
    split at h
    · rename_i id' fr1 H1 h1
      simp only [cond_eq_ite] at h
      split at h
      · simp only [Option.some.injEq, Prod.mk.injEq] at h
        rw [← h.2.1, evCode_other hd h1]
      · simp only [Option.some.injEq, Prod.mk.injEq] at h
        rw [← h.2.1, evCode_other hd h1]
    · exact evCode_other hd h
  | .scope c, fr, fr', H, H', ex, hd, h => by
    simp only [dsts] at hd
    simp only [evCode] at h
    split at h
    · cases h
    · exact evCode_other hd h
  | .loop c, fr, fr', H, H', ex, hd, h => by
    simp only [dsts] at hd
    simp only [evCode] at h
    refine iter_other (P := fun s : Ex × Fr × Heap => s.2.1.tmp t = fr.tmp t) (fun s b s' hp hs => ?_) (s := (.normal, fr, H)) rfl h
    split at hs
    · rename_i fr1 H1 h1
      simp only [Option.some.injEq, Prod.mk.injEq] at hs
      rw [← hs.2]
      show fr1.tmp t = _
      rw [evCode_other hd h1]
      exact hp
    · rename_i r _ h1
      simp only [Option.some.injEq, Prod.mk.injEq] at hs
      rw [← hs.2]
      obtain ⟨e1, f1, g1⟩ := r
      show f1.tmp t = _
      rw [evCode_other hd h1]
      exact hp
    · cases hs
  | .region _ ops draw, fr, fr', H, H', ex, hd, h => by
    have hl : ∀ o ∈ ops.toList, o.dst ≠ some t := by
      intro o ho he
      exact hd (by simp only [dsts, List.mem_filterMap]; exact ⟨o, ho, he⟩)
    simp only [evCode] at h
    cases draw with
    | true =>
      simp only [cond_true] at h
      obtain ⟨⟨f1, g1⟩, h1, h2⟩ := Option.map_eq_some_iff.1 h
      simp only [Prod.mk.injEq] at h2
      rw [← h2.2.1]
      exact runDraw_other hl h1
    | false =>
      simp only [cond_false] at h
      exact runOps_other hl h
  | .rangeFunc f ps a b, fr, fr', H, H', ex, hd, h => by
    simp only [evCode] at h
    obtain ⟨z, _, h⟩ := Option.bind_eq_some_iff.1 h
    split at h
    · simp only [cond_eq_ite] at h
      split at h
      · split at h
        · obtain ⟨y, _, h2⟩ := Option.map_eq_some_iff.1 h
          simp only [Prod.mk.injEq] at h2
          rw [← h2.2.1]
          rfl
        · simp only [Option.some.injEq, Prod.mk.injEq] at h
          rw [← h.2.1]
          rfl
        · cases h
      · cases h
    · cases h

theorem put_n {fr : Fr} {dst : Option Tmp} {v : V} : (fr.put dst v).n = fr.n := by
  cases dst with
  | none => rfl
  | some d =>
    obtain ⟨tt, n, ds⟩ := fr
    simp only [Fr.put]
    cases Nat.blt d n <;> rfl

theorem push_n {fr : Fr} {d : D} : (fr.push d).n = fr.n := by cases fr; rfl

theorem runOps_n {E : Env} {call : Go.E2.Call} {nd : Bool} {all : Array Oper} {t : Nat} : ∀ {l : List Oper} {fr fr' : Fr} {H H' : Heap} {ex : Ex}, (∀ o ∈ l, o.dst ≠ some t) → runOps E call nd all l fr H = some (ex, fr', H') → fr'.n = fr.n
  | [], fr, fr', H, H', ex, _, h => by
    simp only [runOps, Option.some.injEq, Prod.mk.injEq] at h
    rw [h.2.1]
  | o :: l, fr, fr', H, H', ex, hd, h => by
    have h0 := hd o List.mem_cons_self
    have hl : ∀ o ∈ l, o.dst ≠ some t := fun o ho => hd o (List.mem_cons_of_mem _ ho)
    simp only [runOps] at h
    split at h
    · split at h
      · cases hnd : nd with
        | false => rw [hnd] at h; cases h
        | true =>
          rw [hnd] at h
          simp only [cond_true] at h
          obtain ⟨d, _, h2⟩ := Option.bind_eq_some_iff.1 h
          rw [runOps_n hl h2, put_n, push_n]
      · rw [runOps_n hl h, put_n]
      · cases h
    · split at h
      · rw [runOps_n hl h, put_n]
      · simp only [Option.some.injEq, Prod.mk.injEq] at h
        rw [h.2.1]
      · cases h

theorem runDraw_n {E : Env} {call : Go.E2.Call} {all : Array Oper} {b : Array Nat} {t : Nat} : ∀ {l : List Oper} {i : Nat} {done : List Done} {fr fr' : Fr} {H H' : Heap}, (∀ o ∈ l, o.dst ≠ some t) → runDraw E call all b i l done fr H = some (fr', H') → fr'.n = fr.n
  | [], i, done, fr, fr', H, H', _, h => by
    simp only [runDraw, Option.some.injEq, Prod.mk.injEq] at h
    rw [h.1]
  | o :: l, i, done, fr, fr', H, H', hd, h => by
    have h0 := hd o List.mem_cons_self
    have hl : ∀ o ∈ l, o.dst ≠ some t := fun o ho => hd o (List.mem_cons_of_mem _ ho)
    simp only [runDraw] at h
    obtain ⟨wnt, _, h2⟩ := Option.bind_eq_some_iff.1 h
    rcases cond_some h2 with ⟨_, h3⟩ | ⟨_, h3⟩
    · split at h3
      · rcases cond_some h3 with ⟨_, h4⟩ | ⟨_, h4⟩
        · rw [runDraw_n hl h4, put_n]
        · cases h4
      · cases h3
    · cases h3

theorem evCode_n {E : Env} {call : Go.E2.Call} {fn : FuncId} {round : Option Nat} {fuel t : Nat} : ∀ {c : Code} {fr fr' : Fr} {H H' : Heap} {ex : Ex}, t ∉ dsts c → evCode E call fn round fuel c fr H = some (ex, fr', H') → fr'.n = fr.n
  | .skip, fr, fr', H, H', ex, _, h => by simp only [evCode, Option.some.injEq, Prod.mk.injEq] at h; rw [h.2.1]
  | .label _, fr, fr', H, H', ex, _, h => by simp only [evCode, Option.some.injEq, Prod.mk.injEq] at h; rw [h.2.1]
  | .exit _, fr, fr', H, H', ex, _, h => by simp only [evCode, Option.some.injEq, Prod.mk.injEq] at h; rw [h.2.1]
  | .goto _, fr, fr', H, H', ex, _, h => by simp only [evCode, Option.some.injEq, Prod.mk.injEq] at h; rw [h.2.1]
  | .ret, fr, fr', H, H', ex, _, h => by simp only [evCode, Option.some.injEq, Prod.mk.injEq] at h; rw [h.2.1]
  | .refuse _, fr, fr', H, H', ex, _, h => by simp [evCode] at h
  | .seq a b, fr, fr', H, H', ex, hd, h => by
    simp only [dsts, List.mem_append, not_or] at hd
    simp only [evCode] at h
    split at h
    · rename_i fr1 H1 h1
      rw [evCode_n hd.2 h, evCode_n hd.1 h1]
    · exact evCode_n hd.1 h
  | .cond c a b, fr, fr', H, H', ex, hd, h => by
    simp only [dsts, List.mem_append, not_or] at hd
    simp only [evCode] at h
    split at h
    · exact evCode_n hd.1 h
    · exact evCode_n hd.2 h
    · cases h
  | .block id c, fr, fr', H, H', ex, hd, h => by
    simp only [dsts] at hd
    simp only [evCode] at h
    split at h
    · rename_i id' fr1 H1 h1
      simp only [cond_eq_ite] at h
      split at h
      · simp only [Option.some.injEq, Prod.mk.injEq] at h
        rw [← h.2.1, evCode_n hd h1]
      · simp only [Option.some.injEq, Prod.mk.injEq] at h
        rw [← h.2.1, evCode_n hd h1]
    · exact evCode_n hd h
  | .scope c, fr, fr', H, H', ex, hd, h => by
    simp only [dsts] at hd
    simp only [evCode] at h
    split at h
    · cases h
    · exact evCode_n hd h
  | .loop c, fr, fr', H, H', ex, hd, h => by
    simp only [dsts] at hd
    simp only [evCode] at h
    refine iter_other (P := fun s : Ex × Fr × Heap => s.2.1.n = fr.n) (fun s b s' hp hs => ?_) (s := (.normal, fr, H)) rfl h
    split at hs
    · rename_i fr1 H1 h1
      simp only [Option.some.injEq, Prod.mk.injEq] at hs
      rw [← hs.2]
      show fr1.n = _
      rw [evCode_n hd h1]
      exact hp
    · rename_i r _ h1
      simp only [Option.some.injEq, Prod.mk.injEq] at hs
      rw [← hs.2]
      obtain ⟨e1, f1, g1⟩ := r
      show f1.n = _
      rw [evCode_n hd h1]
      exact hp
    · cases hs
  | .region _ ops draw, fr, fr', H, H', ex, hd, h => by
    have hl : ∀ o ∈ ops.toList, o.dst ≠ some t := by
      intro o ho he
      exact hd (by simp only [dsts, List.mem_filterMap]; exact ⟨o, ho, he⟩)
    simp only [evCode] at h
    cases draw with
    | true =>
      simp only [cond_true] at h
      obtain ⟨⟨f1, g1⟩, h1, h2⟩ := Option.map_eq_some_iff.1 h
      simp only [Prod.mk.injEq] at h2
      rw [← h2.2.1]
      exact runDraw_n hl h1
    | false =>
      simp only [cond_false] at h
      exact runOps_n hl h
  | .rangeFunc f ps a b, fr, fr', H, H', ex, hd, h => by
    simp only [evCode] at h
    obtain ⟨z, _, h⟩ := Option.bind_eq_some_iff.1 h
    split at h
    · simp only [cond_eq_ite] at h
      split at h
      · split at h
        · obtain ⟨y, _, h2⟩ := Option.map_eq_some_iff.1 h
          simp only [Prod.mk.injEq] at h2
          rw [← h2.2.1]
        · simp only [Option.some.injEq, Prod.mk.injEq] at h
          rw [← h.2.1]
        · cases h
      · cases h
    · cases h

theorem exists_not_mem (l : List Nat) : ∃ t, t ∉ l := by
  have key : ∃ m, ∀ x ∈ l, x < m := by
    induction l with
    | nil => exact ⟨0, fun x hx => by cases hx⟩
    | cons a l ih =>
      obtain ⟨m, hm⟩ := ih
      refine ⟨max m (a + 1), fun x hx => ?_⟩
      rcases List.mem_cons.1 hx with rfl | hx
      · omega
      · have := hm x hx; omega
  obtain ⟨m, hm⟩ := key
  exact ⟨m, fun h => Nat.lt_irrefl _ (hm m h)⟩

theorem Wp.frame {E : Env} {fn : FuncId} {round : Option Nat} {c : Code} {fr : Fr} {H : Heap} {Q : Ex → Fr → Heap → Prop} (h : Wp E fn round c fr H Q) : Wp E fn round c fr H fun ex fr' H' => Q ex fr' H' ∧ (∀ t, t ∉ dsts c → fr'.tmp t = fr.tmp t) ∧ fr'.n = fr.n := by
  obtain ⟨x, ⟨k0, h1⟩, h2⟩ := h
  obtain ⟨e, f, g⟩ := x
  refine ⟨(e, f, g), ⟨k0, h1⟩, h2, fun t ht => evCode_other ht (h1 k0 (Nat.le_refl _)), ?_⟩
  obtain ⟨t, ht⟩ := exists_not_mem (dsts c)
  exact evCode_n ht (h1 k0 (Nat.le_refl _))

end Go.E3

/- E3: WHAT VARIES, at the head of a loop and behind a cut. -/
namespace Go.E3
open Go Go.E2

variable {K : Nat → Type}

/-- The state at a head, in the making: st0, w0 where the loop begins; st2, H2, w2 now; st1, w1 what is made of it; 'pend': lists of their own that are still to come. -/
structure Part (X : Codecs K) (sz : Nat → Nat) (base : Heap) (st0 : StV K) (w0 : Wd) (st2 : StV K) (H2 : Heap) (w2 : Wd) (st1 : StV K) (w1 : Wd) (pend : List Nat) : Prop where
  g : w1.g = w2.g
  M : w1.M = w2.M
  ce : w1.ce = w2.ce
  nx : w1.nx = w2.nx
  c : w1.c = w2.c
  cl : ∀ id, w1.cl id ↔ (w2.cl id ∧ id < st0.next)
  n : w1.n = st1.next
  le : Le w0 w1
  nxt : st0.next ≤ st1.next
  known : st1.known = st0.known
  owns : w1.owns = look st1.owns
  ownn : ∀ i s, look st1.owns i = some s → i < st1.next
  eta : ∀ i s nm, look st1.owns i = some s → w1.eta i = some nm → base.next ≤ nm ∧ nm < H2.next ∧ ¬ w2.M nm
  einj : ∀ i j s s' nm, look st1.owns i = some s → look st1.owns j = some s' → w1.eta i = some nm → w1.eta j = some nm → i = j
  pends : ∀ i2 ∈ pend, (∃ s2, look st2.owns i2 = some s2) ∧ ∀ nm, w2.eta i2 = some nm → ∀ j s, look st1.owns j = some s → w1.eta j ≠ some nm
  pdist : pend.Nodup

section
variable {X : Codecs K} {sz : Nat → Nat} {C : Cfg Int Bool (List UInt8) Prop (fun c => List (K c))} {base H0 H2 : Heap} {st0 st2 : StV K} {w0 w2 : Wd}
variable {tbl : Tbl K} {inv : Nat → List (NV K) → Prop} {meas : Nat → List (NV K) → Nat}

theorem Part.move (ok2 : CfgOk2 X C) {st1 : StV K} {w1 : Wd} {pend : List Nat} (m : Part X sz base st0 w0 st2 H2 w2 st1 w1 pend) {p : PV K} {v : V} (r : Rep X sz w2 p v) (hp : Plain p) : Rep X sz w1 p v :=
  r.plain ok2.plain m.g (fun _ _ _ h => by rw [m.M]; exact h) hp

theorem gens_sound (ok : CfgOk X sz C) (ok2 : CfgOk2 X C) (R2 : RelH X sz C base st2 H2 w2) : ∀ {ks : List SK} {ps p2s : List (PV K)} {vs : List V} {ns : List (NV K)} {pend : List Nat} {st1 : StV K} {w1 : Wd} {G : List (PV K) → List (NV K) → StV K → Prop},
    toNs (stdA X tbl inv meas) st2 ks p2s = some ns → RepL X sz w2 p2s vs → (∀ (i : Nat) (p : PV K), ks[i]? = some .keep → ps[i]? = some p → ∀ w', Le w0 w' → w'.g = w2.g → w'.M = w2.M → Rep X sz w' p (vs.getD i undefV)) →
    Part X sz base st0 w0 st2 H2 w2 st1 w1 (ownIdsK ks p2s ++ pend) → gens (stdA X tbl inv meas) ks ps st1 G →
    ∃ qs st1' w1', G qs ns st1' ∧ Part X sz base st0 w0 st2 H2 w2 st1' w1' pend ∧ Le w1 w1' ∧ RepL X sz w1' qs vs ∧ st1'.tmps = st1.tmps ∧ st1'.n = st1.n ∧ st1'.cells = st1.cells
  | [], [], p2s, vs, ns, pend, st1, w1, G, hN, hr, hK, m, h => by
    cases p2s with
    | nil =>
      simp only [toNs, Option.some.injEq] at hN
      subst hN
      simp only [gens] at h
      have := hr.nil_iff; subst this
      exact ⟨[], st1, w1, h, m, .refl w1, .nil, rfl, rfl, rfl⟩
    | cons _ _ => simp [toNs] at hN
  | [], _ :: _, p2s, vs, ns, pend, st1, w1, G, hN, hr, hK, m, h => absurd h id
  | _ :: _, [], p2s, vs, ns, pend, st1, w1, G, hN, hr, hK, m, h => absurd h id
  | k :: ks, p :: ps, [], vs, ns, pend, st1, w1, G, hN, hr, hK, m, h => by simp [toNs] at hN
  | k :: ks, p :: ps, p2 :: p2s, vs, ns, pend, st1, w1, G, hN, hr, hK, m, h => by
    obtain ⟨v, vs', rfl, r1, r2⟩ := hr.uncons
    simp only [toNs] at hN
    obtain ⟨a, hN1, hN2⟩ := Option.bind_eq_some_iff.1 hN
    obtain ⟨ns', hN3, hN4⟩ := Option.map_eq_some_iff.1 hN2
    subst hN4
    have hK' : ∀ (i : Nat) (p : PV K), ks[i]? = some .keep → ps[i]? = some p → ∀ w', Le w0 w' → w'.g = w2.g → w'.M = w2.M → Rep X sz w' p (vs'.getD i undefV) := by
      intro i q h1 h2 w' h3 h4 h5
      have := hK (i + 1) q (by simpa using h1) (by simpa using h2) w' h3 h4 h5
      simpa using this
    cases k with
    | int kd =>
      simp only [gens] at h
      cases p2 with
      | int k' l n =>
        simp only [toN1] at hN1
        split at hN1
        · rename_i hk
          subst hk
          cases hN1
          cases r1
          have m' : Part X sz base st0 w0 st2 H2 w2 st1 w1 (ownIdsK ks p2s ++ pend) := m
          obtain ⟨qs, st1', w1', g1, g2, g3, g4, g5, g6, g7⟩ := gens_sound ok ok2 R2 hN3 r2 hK' m' (h n)
          exact ⟨_, st1', w1', g1, g2, g3, .cons (.int fun m hm => by cases hm) g4, g5, g6, g7⟩
        · cases hN1
      | _ => simp [toN1] at hN1
    | str =>
      simp only [gens] at h
      cases p2 with
      | str s =>
        simp only [toN1, Option.some.injEq] at hN1
        subst hN1
        cases r1
        obtain ⟨qs, st1', w1', g1, g2, g3, g4, g5, g6, g7⟩ := gens_sound ok ok2 R2 hN3 r2 hK' m (h s)
        exact ⟨_, st1', w1', g1, g2, g3, .cons .str g4, g5, g6, g7⟩
      | _ => simp [toN1] at hN1
    | keep =>
      simp only [gens] at h
      have ha : a = [] := by
        cases p2 <;> simp [toN1] at hN1 <;> exact hN1
      subst ha
      obtain ⟨qs, st1', w1', g1, g2, g3, g4, g5, g6, g7⟩ := gens_sound ok ok2 R2 hN3 r2 hK' m h
      have hq := hK 0 p rfl rfl w1' g2.le g2.g g2.M
      simp only [List.getD_cons_zero] at hq
      exact ⟨_, st1', w1', g1, g2, g3, .cons hq g4, g5, g6, g7⟩
    | bool =>
      simp only [gens] at h
      have hb : ∃ b, a = [.b b] ∧ v = .bool b := by
        cases p2 with
        | lit b => simp only [toN1, Option.some.injEq] at hN1; cases r1; exact ⟨b, hN1.symm, rfl⟩
        | sb id neg b pt pf => simp only [toN1, Option.some.injEq] at hN1; cases r1; exact ⟨b, hN1.symm, rfl⟩
        | _ => simp [toN1] at hN1
      obtain ⟨b, rfl, rfl⟩ := hb
      let w1b : Wd := { w1 with n := st1.next + 1, nu := fun id => if id = st1.next then b else w1.nu id }
      have hle : Le w1 w1b := Le.ext (by rw [m.n]; exact Nat.le_succ _) (fun id hi => if_neg (by rw [m.n] at hi; omega))
      have m' : Part X sz base st0 w0 st2 H2 w2 { st1 with next := st1.next + 1 } w1b (ownIdsK ks p2s ++ pend) :=
        ⟨m.g, m.M, m.ce, m.nx, m.c, m.cl, rfl, m.le.trans hle, Nat.le_succ_of_le m.nxt, m.known, m.owns, fun i s h => Nat.lt_succ_of_lt (m.ownn i s h), m.eta, m.einj, m.pends, m.pdist⟩
      obtain ⟨qs, st1', w1', g1, g2, g3, g4, g5, g6, g7⟩ := gens_sound ok ok2 R2 hN3 r2 hK' m' (h b)
      refine ⟨_, st1', w1', g1, g2, hle.trans g3, .cons ?_ g4, g5, g6, g7⟩
      have : Rep X sz w1b (.sb st1.next false b (b = true) (b = false)) (.bool b) := .sb .rfl .rfl fun _ => ⟨Nat.lt_succ_self _, by show b = ((if st1.next = st1.next then b else w1.nu st1.next) != false); rw [if_pos rfl]; simp⟩
      exact this.mono ok.len g3
    | list c own nb =>
      simp only [gens] at h
      have hl : ∃ l, asL (stdA X tbl inv meas) c p2 = some l ∧ a = [.l c l] ∧ (own = true → isOwn st2 p2 = true) ∧ (nb = true → oddP p2 = true) := by
        have e : toN1 (stdA X tbl inv meas) st2 (.list c own nb) p2 = (bif (own && !isOwn st2 p2) || (nb && !oddP p2) then none else (asL (stdA X tbl inv meas) c p2).map fun l => [.l c l]) := by
          cases p2 <;> rfl
        rw [e] at hN1
        rcases cond_some hN1 with ⟨hb, h2⟩ | ⟨_, h2⟩
        · obtain ⟨l, hl, rfl⟩ := Option.map_eq_some_iff.1 h2
          simp only [Bool.or_eq_false_iff] at hb
          refine ⟨l, hl, rfl, fun ho => ?_, fun ho => ?_⟩
          · have := hb.1
            rw [ho] at this
            simpa using this
          · have := hb.2
            rw [ho] at this
            simpa using this
        · cases h2
      obtain ⟨l, hl, rfl, hown, hodd⟩ := hl
      have rl := asL_sound r1 hl
      cases own with
      | false =>
        have hids : ownIdsK (.list c false nb :: ks) (p2 :: p2s) = ownIdsK ks p2s := by cases p2 <;> rfl
        rw [hids] at m
        have h' : gens (stdA X tbl inv meas) ks ps st1 fun qs ns st' => G (.list c l none :: qs) (.l c l :: ns) st' := h l
        obtain ⟨qs, st1', w1', g1, g2, g3, g4, g5, g6, g7⟩ := gens_sound ok ok2 R2 hN3 r2 hK' m h'
        exact ⟨_, st1', w1', g1, g2, g3, .cons ((m.move ok2 rl .list).mono ok.len g3) g4, g5, g6, g7⟩
      | true =>
        have hown := hown rfl
        have h' : gens (stdA X tbl inv meas) ks ps { st1 with owns := (st1.next, bif nb then 1 else 0) :: st1.owns, next := st1.next + 1 } fun qs ns st' => G (.list c l (some (st1.next, bif nb then 1 else 0)) :: qs) (.l c l :: ns) st' := h l
        generalize hq : (bif nb then 1 else 0 : Nat) = q at h'
        -- whose list it is now
        have hcase : ∃ e0 : Option Nat, (p2 = .nils ∧ e0 = none ∧ ownIdsK (.list c true nb :: ks) (p2 :: p2s) = ownIdsK ks p2s) ∨ (∃ l2 i2 s2, p2 = .list c l2 (some (i2, s2)) ∧ e0 = w2.eta i2 ∧ look st2.owns i2 = some s2 ∧ ownIdsK (.list c true nb :: ks) (p2 :: p2s) = i2 :: ownIdsK ks p2s) := by
          cases p2 with
          | nils => exact ⟨none, .inl ⟨rfl, rfl, rfl⟩⟩
          | list c2 l2 o2 =>
            cases o2 with
            | none => simp [isOwn] at hown
            | some x =>
              obtain ⟨i2, s2⟩ := x
              simp only [isOwn] at hown
              split at hown
              · rename_i s' hs
                have := Nat.eq_of_beq_eq_true hown; subst this
                unfold asL at hl
                simp only at hl
                split at hl
                · rename_i hc
                  subst hc
                  exact ⟨w2.eta i2, .inr ⟨l2, i2, _, rfl, rfl, hs, rfl⟩⟩
                · cases hl
              · cases hown
          | _ => simp [isOwn] at hown
        obtain ⟨e0, hcase⟩ := hcase
        let w1b : Wd := { w1 with n := st1.next + 1, owns := look ((st1.next, q) :: st1.owns), eta := fun j => if j = st1.next then e0 else w1.eta j }
        have hnone : look st1.owns st1.next = none := by
          cases hq : look st1.owns st1.next with
          | none => rfl
          | some s => have := m.ownn _ _ hq; omega
        have hle : Le w1 w1b := by
          refine ⟨by rw [m.n]; exact Nat.le_succ _, fun nm cs e gen floor frz ex hg hM => ⟨hM, [], gen, frz, ex, by rw [List.append_nil]; exact hg⟩, fun _ _ => rfl, fun _ _ => rfl, fun i hi h0 => ?_, fun i s s' hi h0 h1 => ?_, fun i s hi h0 h1 => ?_, rfl, fun _ _ => .rfl, Nat.le_refl _, rfl, fun _ _ h => h⟩
          · rw [m.n] at hi
            rw [m.owns] at h0
            show look ((st1.next, q) :: st1.owns) i = none
            rw [look_cons, if_neg (by omega)]
            exact h0
          · rw [m.n] at hi
            rw [m.owns] at h0
            have h1' : look ((st1.next, q) :: st1.owns) i = some s' := h1
            rw [look_cons, if_neg (by omega), h0] at h1'
            cases h1'
            exact Nat.le_refl _
          · rw [m.n] at hi
            exact ⟨if_neg (by omega), fun _ _ => rfl⟩
        have hfree : ∀ nm, e0 = some nm → (∀ j s, look st1.owns j = some s → w1.eta j ≠ some nm) ∧ base.next ≤ nm ∧ nm < H2.next ∧ ¬ w2.M nm := by
          intro nm hnm
          rcases hcase with ⟨rfl, he, _⟩ | ⟨l2, i2, s2, rfl, he, hs2, hids⟩
          · rw [he] at hnm; cases hnm
          · have := m.pends i2 (by rw [hids]; exact List.mem_append_left _ List.mem_cons_self)
            rw [he] at hnm
            exact ⟨this.2 nm hnm, R2.eta i2 s2 nm hs2 hnm⟩
        have m' : Part X sz base st0 w0 st2 H2 w2 { st1 with owns := (st1.next, q) :: st1.owns, next := st1.next + 1 } w1b (ownIdsK ks p2s ++ pend) := by
          have hsub : ∀ i, i ∈ ownIdsK ks p2s ++ pend → i ∈ ownIdsK (.list c true nb :: ks) (p2 :: p2s) ++ pend := by
            intro i hi
            rcases hcase with ⟨_, _, hids⟩ | ⟨l2, i2, s2, _, _, _, hids⟩
            · rw [hids]; exact hi
            · rw [hids]; exact List.mem_cons_of_mem _ hi
          have hnd : (ownIdsK ks p2s ++ pend).Nodup := by
            have := m.pdist
            rcases hcase with ⟨_, _, hids⟩ | ⟨l2, i2, s2, _, _, _, hids⟩
            · rw [hids] at this; exact this
            · rw [hids, List.cons_append, List.nodup_cons] at this; exact this.2
          refine ⟨m.g, m.M, m.ce, m.nx, m.c, m.cl, rfl, m.le.trans hle, Nat.le_succ_of_le m.nxt, m.known, rfl, fun i s h => ?_, fun i s nm h hn => ?_, fun i j s s' nm h1 h2 e1 e2 => ?_, fun i2 hi2 => ?_, hnd⟩
          · rw [look_cons] at h
            by_cases hi : i = st1.next
            · subst hi; exact Nat.lt_succ_self _
            · rw [if_neg hi] at h; exact Nat.lt_succ_of_lt (m.ownn i s h)
          · rw [look_cons] at h
            by_cases hi : i = st1.next
            · have hn' : e0 = some nm := by
                have : (if i = st1.next then e0 else w1.eta i) = some nm := hn
                rw [if_pos hi] at this
                exact this
              exact (hfree nm hn').2
            · rw [if_neg hi] at h
              have hn' : w1.eta i = some nm := by
                have : (if i = st1.next then e0 else w1.eta i) = some nm := hn
                rw [if_neg hi] at this
                exact this
              exact m.eta i s nm h hn'
          · rw [look_cons] at h1 h2
            have e1' : (if i = st1.next then e0 else w1.eta i) = some nm := e1
            have e2' : (if j = st1.next then e0 else w1.eta j) = some nm := e2
            by_cases hi : i = st1.next <;> by_cases hj : j = st1.next
            · omega
            · rw [if_pos hi] at e1'
              rw [if_neg hj] at e2' h2
              exact absurd e2' ((hfree nm e1').1 j s' h2)
            · rw [if_neg hi] at e1' h1
              rw [if_pos hj] at e2'
              exact absurd e1' ((hfree nm e2').1 i s h1)
            · rw [if_neg hi] at e1' h1
              rw [if_neg hj] at e2' h2
              exact m.einj i j s s' nm h1 h2 e1' e2'
          · obtain ⟨⟨s2, hs2⟩, hp⟩ := m.pends i2 (hsub i2 hi2)
            refine ⟨⟨s2, hs2⟩, fun nm hnm j s hj he => ?_⟩
            rw [look_cons] at hj
            have he' : (if j = st1.next then e0 else w1.eta j) = some nm := he
            by_cases hjn : j = st1.next
            · rw [if_pos hjn] at he'
              rcases hcase with ⟨hp2, he2, _⟩ | ⟨l2, i3, s3, hp2, he2, hs3, hids⟩
              · rw [he2] at he'
                cases he'
              · rw [he2] at he'
                have := R2.einj i2 i3 s2 s3 nm hs2 hs3 hnm he'
                subst this
                have hd := m.pdist
                rw [hids, List.cons_append, List.nodup_cons] at hd
                exact hd.1 hi2
            · rw [if_neg hjn] at he' hj
              exact hp nm hnm j s hj he'
        obtain ⟨qs, st1', w1', g1, g2, g3, g4, g5, g6, g7⟩ := gens_sound ok ok2 R2 hN3 r2 hK' m' h'
        refine ⟨_, st1', w1', g1, g2, hle.trans g3, .cons (Rep.mono ok.len g3 ?_) g4, g5, g6, g7⟩
        have hcur : ∀ cur, w1b.owns st1.next = some cur → q ≤ cur := by
          intro cur hc'
          have : look ((st1.next, q) :: st1.owns) st1.next = some cur := hc'
          rw [look_cons, if_pos rfl] at this
          cases this
          exact Nat.le_refl _
        have hnb : q % 2 = 1 → ∀ v0, Rep X sz w2 p2 v0 → NB v0 := by
          intro h1 v0 r0
          have hnt : nb = true := by
            cases nb with
            | true => rfl
            | false => simp at hq; subst hq; cases h1
          have ho := hodd hnt
          unfold oddP at ho
          split at ho
          · cases r0; trivial
          · have hs := Nat.eq_of_beq_eq_true ho
            cases r0 with
            | nlist hh => exact hh.2.2.2 hs
            | list _ _ _ _ _ _ _ _ hh => exact hh.2.2.2 hs
          · cases ho
        rcases list_cases rl with ⟨rfl, rfl⟩ | ⟨nm, gn, off, cap, cs, e, gen, floor, frz, ex, rfl, hg, hf, hM, hlen, hz, hcap, hcell, _⟩
        · exact .nlist ⟨Nat.lt_succ_self _, hcur, fun _ => trivial, fun _ => trivial⟩
        · have hplain := m.move ok2 rl .list
          rcases list_cases hplain with ⟨_, hh⟩ | ⟨nm', gn', off', cap', cs', e', gen', floor', frz', ex', hh, hg', hf', hM', hlen', hz', hcap'', hcell', _⟩
          · cases hh
          · cases hh
            refine .list hg' hf' hM' rfl hlen' hz hcap'' (fun i hi j p hp => (hcell' i hi j p hp).mono ok.len hle) ⟨Nat.lt_succ_self _, hcur, fun _ => ?_, fun h => hnb h _ r1⟩
            rcases hcase with ⟨rfl, _⟩ | ⟨l2, i2, s2, rfl, he2, hs2, _⟩
            · cases r1
            · have hll : l2 = l := by
                unfold asL at hl
                simp only at hl
                split at hl
                · cases hl; rfl
                · cases hl
              subst hll
              have hclaim : OwnV w2 sz i2 c (.slice nm gn off l2.length (sz c) cap) := by
                rcases list_cases r1 with ⟨_, hh⟩ | ⟨nm3, gn3, off3, cap3, cs3, e3, gen3, floor3, frz3, ex3, hh, _, _, _, _, _, _, _, ho3⟩
                · cases hh
                · rw [hh]; exact ho3.2.2.1 (by rw [R2.owns]; exact hs2)
              simp only [OwnV] at hclaim ⊢
              rcases hclaim with hc | ⟨hc1, hc2, cs4, e4, floor4, frz4, ex4, hg4, hr4⟩
              · exact .inl hc
              · refine .inr ⟨hc1, ?_, cs4, e4, floor4, frz4, ex4, by show w1.g nm = _; rw [m.g]; exact hg4, hr4.1, hr4.2.1, by show w1.ce e4 = _; rw [m.ce]; exact hr4.2.2⟩
                show (if st1.next = st1.next then e0 else w1.eta st1.next) = some nm
                rw [if_pos rfl, he2]
                exact hc2

end
end Go.E3

/- E3: THE HEAD of a loop, and what stands behind a cut. -/
namespace Go.E3
open Go Go.E2

variable {K : Nat → Type}

theorem get_delAll {α : Type} : ∀ {l : List Nat} {t : Tree α} {n : Nat}, (delAll l t).get n = if n ∈ l then none else t.get n
  | [], t, n => by simp [delAll]
  | m :: l, t, n => by
    simp only [delAll]
    rw [get_delAll, Tree.get_del]
    by_cases h1 : n ∈ l
    · simp [h1]
    · by_cases h2 : n = m
      · subst h2; simp [h1]
      · simp [h1, h2]

theorem look_dropAll {α : Type} : ∀ {ids : List Nat} {l : List (Nat × α)} {j : Nat}, look (ids.foldl dropL l) j = if j ∈ ids then none else look l j
  | [], l, j => by simp
  | i :: ids, l, j => by
    simp only [List.foldl_cons]
    rw [look_dropAll, look_dropL]
    by_cases h1 : j ∈ ids
    · simp [h1]
    · by_cases h2 : j = i
      · subst h2; simp [h1]
      · simp [h1, h2]

theorem look_mem {α : Type} : ∀ {l : List (Nat × α)} {n : Nat} {a : α}, look l n = some a → (n, a) ∈ l
  | [], _, _, h => by cases h
  | (i, b) :: l, n, a, h => by
    simp only [look, cond_eq_ite, Nat.beq_eq] at h
    split at h
    · rename_i hi
      subst hi
      cases h
      exact List.mem_cons_self
    · exact List.mem_cons_of_mem _ (look_mem h)

theorem distinct_nodup : ∀ {l : List Nat}, distinct l = true → l.Nodup
  | [], _ => List.nodup_nil
  | i :: l, h => by
    simp only [distinct, Bool.and_eq_true, Bool.not_eq_true'] at h
    rw [List.nodup_cons]
    refine ⟨fun hm => ?_, distinct_nodup h.2⟩
    have := h.1
    rw [← Bool.not_eq_true, List.any_eq_true] at this
    exact this ⟨i, hm, Nat.beq_refl i⟩

section
variable {X : Codecs K} {sz : Nat → Nat} {C : Cfg Int Bool (List UInt8) Prop (fun c => List (K c))} {base H0 H2 : Heap} {st0 st2 : StV K} {w0 w1 w2 : Wd} {fr0 fr2 : Fr}
variable {tbl : Tbl K} {inv : Nat → List (NV K) → Prop} {meas : Nat → List (NV K) → Nat}

/-! ### The same as before -/
theorem Rep.unown {w : Wd} {c : Nat} {l : List (K c)} {own : Option (Nat × Nat)} {v : V} (r : Rep X sz w (.list c l own) v) : Rep X sz w (.list c l none) v ∧ OwnC w sz c own v := by
  cases r with
  | nlist ho => exact ⟨.nlist trivial, ho⟩
  | list hg hf hM hlen hb hz hcap hc ho => exact ⟨.list hg hf hM hlen hb hz hcap hc trivial, ho⟩

theorem Rep.reown {w : Wd} {c : Nat} {l : List (K c)} {own : Option (Nat × Nat)} {v : V} (r : Rep X sz w (.list c l none) v) (h : OwnC w sz c own v) : Rep X sz w (.list c l own) v := by
  cases r with
  | nlist ho => exact .nlist h
  | list hg hf hM hlen hb hz hcap hc ho => exact .list hg hf hM hlen hb hz hcap hc h

theorem isOwn_owns {st : StV K} {w : Wd} (how : ∀ i, w.owns i = look st.owns i) {c : Nat} {l : List (K c)} {i s : Nat} (h : isOwn st (.list c l (some (i, s)) : PV K) = true) : w.owns i = some s := by
  rw [how]
  simp only [isOwn] at h
  split at h
  · rename_i s' hs
    rw [hs, Nat.eq_of_beq_eq_true h]
  · cases h

theorem rep_own_same (ok2 : CfgOk2 X C) (hle : Le w0 w1) (hle2 : Le w0 w2) {c : Nat} {l l' : List (K c)} {i s : Nat} {v0 v : V} (h2 : w2.owns i = some s) (hg : w1.g = w2.g) (hM : w1.M = w2.M) (r0 : Rep X sz w0 (.list c l' (some (i, s))) v0) (r2 : Rep X sz w2 (.list c l (some (i, s))) v) :
    Rep X sz w1 (.list c l (some (i, s))) v := by
  obtain ⟨r2', o2⟩ := r2.unown
  obtain ⟨_, o0⟩ := r0.unown
  refine (r2'.plain ok2.plain hg (fun _ _ _ hm => by rw [hM]; exact hm) .list).reown ⟨Nat.lt_of_lt_of_le o0.1 hle.n, (OwnC.mono hle o0).2.1, fun h1 => ?_, o2.2.2.2⟩
  have hv := o2.2.2.1 h2
  have h0 : w0.owns i = some s := by
    cases h0 : w0.owns i with
    | none => rw [hle.o1 i o0.1 h0] at h1; cases h1
    | some s0 =>
      have a := o0.2.1 s0 h0
      have b := hle.o2 i s0 s o0.1 h0 h1
      rw [Nat.le_antisymm b a]
  obtain ⟨e1, _⟩ := hle.o3 i s o0.1 h0 h1
  obtain ⟨e2, _⟩ := hle2.o3 i s o0.1 h0 h2
  have ec : w1.ce = w2.ce := hle.ce.trans hle2.ce.symm
  cases v with
  | nils => trivial
  | slice nm gn off len z cap =>
    simp only [OwnV] at hv ⊢
    rcases hv with hv | ⟨hcap, he, cs, e, floor, frz, ex, hg', hr⟩
    · exact .inl hv
    · exact .inr ⟨hcap, by rw [e1, ← e2]; exact he, cs, e, floor, frz, ex, by rw [hg]; exact hg', hr.1, hr.2.1, by rw [ec]; exact hr.2.2⟩
  | _ => exact hv

mutual
theorem sameP_sound (hx : ∀ c x, (X.cells c x).length = sz c) (ok2 : CfgOk2 X C) (hle : Le w0 w1) (hle2 : Le w0 w2) (how : ∀ i, w2.owns i = look st2.owns i) (hc : ∀ id, id < w0.n → w1.c id = w2.c id) (hg : w1.g = w2.g) (hM : w1.M = w2.M) : ∀ (p p2 : PV K) {obs : List Prop} {v0 v : V},
    sameP (stdA X tbl inv meas) st2 p p2 = some obs → (∀ q ∈ obs, q) → Rep X sz w0 p v0 → Rep X sz w2 p2 v → Rep X sz w1 p v
  | .int k l a, p2, obs, v0, v, h, ho, r0, r2 => by
    cases p2 with
    | int k' l' b =>
      simp only [sameP] at h
      split at h
      · rename_i hk
        subst hk
        cases h
        have : a = b := ho _ List.mem_cons_self
        subst this
        cases r2
        cases r0 with | int h1 => exact .int h1
      · cases h
    | _ => simp [sameP] at h
  | .lit a, p2, obs, v0, v, h, ho, r0, r2 => by
    cases p2 with
    | lit b =>
      simp only [sameP] at h
      split at h
      · rename_i hk
        subst hk
        cases r2
        exact .lit
      · cases h
    | _ => simp [sameP] at h
  | .sb id neg a pt pf, p2, obs, v0, v, h, ho, r0, r2 => by
    cases p2 with
    | sb id' neg' b pt' pf' =>
      simp only [sameP, Option.some.injEq] at h
      subst h
      have : a = b := ho _ List.mem_cons_self
      subst this
      cases r2
      have := r0.mono hx hle
      cases r0
      exact this
    | _ => simp [sameP] at h
  | .str a, p2, obs, v0, v, h, ho, r0, r2 => by
    cases p2 with
    | str b =>
      simp only [sameP, Option.some.injEq] at h
      subst h
      have : a = b := ho _ List.mem_cons_self
      subst this
      cases r2
      exact .str
    | _ => simp [sameP] at h
  | .list c l o, p2, obs, v0, v, h, ho, r0, r2 => by
    cases o with
    | some x =>
      obtain ⟨i, s⟩ := x
      cases p2 with
      | list c' l' o' =>
        cases o' with
        | none => simp [sameP] at h
        | some y =>
          obtain ⟨i', s'⟩ := y
          simp only [sameP] at h
          rcases cond_some h with ⟨_, h1⟩ | ⟨h1, h2⟩
          · cases h1
          · simp only [Bool.and_eq_true] at h1
            obtain ⟨⟨e1, e2⟩, e3⟩ := h1
            have := Nat.eq_of_beq_eq_true e1
            subst this
            have := Nat.eq_of_beq_eq_true e2
            subst this
            split at h2
            · rename_i hcc
              subst hcc
              cases h2
              have : l = l' := ho _ List.mem_cons_self
              subst this
              exact rep_own_same ok2 hle hle2 (isOwn_owns how e3) hg hM r0 r2
            · cases h2
      | _ => simp [sameP] at h
    | none =>
      cases p2 with
      | list c' l' o' =>
        cases o' with
        | some x => simp [sameP] at h
        | none =>
          simp only [sameP] at h
          split at h
          · rename_i hcc
            subst hcc
            cases h
            have : l = l' := ho _ List.mem_cons_self
            subst this
            exact r2.plain ok2.plain hg (fun _ _ _ hm => by rw [hM]; exact hm) .list
          · cases h
      | _ => simp [sameP] at h
  | .nils, p2, obs, v0, v, h, ho, r0, r2 => by
    cases p2 with
    | nils => cases r2; exact .nils
    | _ => simp [sameP] at h
  | .cell i o l, p2, obs, v0, v, h, ho, r0, r2 => by
    cases p2 with
    | cell i' o' l' =>
      simp only [sameP] at h
      rcases cond_some h with ⟨_, h1⟩ | ⟨h1, _⟩
      · cases h1
      · simp only [Bool.and_eq_true] at h1
        have e1 := Nat.eq_of_beq_eq_true h1.1.1
        have e2 := Nat.eq_of_beq_eq_true h1.1.2
        have e3 := Nat.eq_of_beq_eq_true h1.2
        subst e1; subst e2; subst e3
        cases r0 with
        | cell hi =>
          cases r2 with
          | cell hi2 =>
            rw [← hc i hi]
            exact .cell (Nat.lt_of_lt_of_le hi hle.n)
    | _ => simp [sameP] at h
  | .eptr cs o, p2, obs, v0, v, h, ho, r0, r2 => by cases p2 <;> simp [sameP] at h
  | .mlist i c n, p2, obs, v0, v, h, ho, r0, r2 => by
    cases p2 with
    | mlist i' c' n' =>
      simp only [sameP] at h
      rcases cond_some h with ⟨_, h1⟩ | ⟨h1, h2⟩
      · cases h1
      · simp only [Bool.and_eq_true] at h1
        have := Nat.eq_of_beq_eq_true h1.1
        subst this
        have := Nat.eq_of_beq_eq_true h1.2
        subst this
        cases h2
        have : n = n' := ho _ List.mem_cons_self
        subst this
        have hi : i < w0.n := by cases r0; assumption
        cases r2 with
        | mlist h3 h4 h5 =>
          rw [← hc i hi]
          exact .mlist (Nat.lt_of_lt_of_le hi hle.n) h4 h5
    | _ => simp [sameP] at h
  | .nilp, p2, obs, v0, v, h, ho, r0, r2 => by
    cases p2 with
    | nilp => cases r2; exact .nilp
    | _ => simp [sameP] at h
  | .func f a c, p2, obs, v0, v, h, ho, r0, r2 => by
    cases p2 with
    | func f' a' c' =>
      simp only [sameP] at h
      rcases cond_some h with ⟨_, h1⟩ | ⟨h1, h2⟩
      · cases h1
      · have e1 := Nat.eq_of_beq_eq_true h1
        subst e1
        obtain ⟨x, hx1, hx2⟩ := Option.bind_eq_some_iff.1 h2
        obtain ⟨y, hy1, hy2⟩ := Option.map_eq_some_iff.1 hx2
        subst hy2
        cases r0 with
        | @func _ _ _ va vc q1 q2 q3 q4 =>
          cases r2 with
          | @func _ _ _ va' vc' p1 p2 p3 p4 =>
            have g1 := samePs_sound hx ok2 hle hle2 how hc hg hM a a' hx1 (fun q hq => ho q (List.mem_append_left _ hq)) ⟨q1, q3⟩ ⟨p1, p3⟩
            have g2 := samePs_sound hx ok2 hle hle2 how hc hg hM c c' hy1 (fun q hq => ho q (List.mem_append_right _ hq)) ⟨q2, q4⟩ ⟨p2, p4⟩
            exact .func g1.1 g2.1 g1.2 g2.2
    | _ => simp [sameP] at h
  | .nilf, p2, obs, v0, v, h, ho, r0, r2 => by
    cases p2 with
    | nilf => cases r2; exact .nilf
    | _ => simp [sameP] at h
  | .iface t q, p2, obs, v0, v, h, ho, r0, r2 => by cases p2 <;> simp [sameP] at h
  | .nili, p2, obs, v0, v, h, ho, r0, r2 => by
    cases p2 with
    | nili => cases r2; exact .nili
    | _ => simp [sameP] at h
  | .agg cs, p2, obs, v0, v, h, ho, r0, r2 => by cases p2 <;> simp [sameP] at h
  | .tuple cs, p2, obs, v0, v, h, ho, r0, r2 => by cases p2 <;> simp [sameP] at h
theorem samePs_sound (hx : ∀ c x, (X.cells c x).length = sz c) (ok2 : CfgOk2 X C) (hle : Le w0 w1) (hle2 : Le w0 w2) (how : ∀ i, w2.owns i = look st2.owns i) (hc : ∀ id, id < w0.n → w1.c id = w2.c id) (hg : w1.g = w2.g) (hM : w1.M = w2.M) : ∀ (ps p2s : List (PV K)) {obs : List Prop} {vs0 vs : List V},
    samePs (stdA X tbl inv meas) st2 ps p2s = some obs → (∀ q ∈ obs, q) → RepL X sz w0 ps vs0 → RepL X sz w2 p2s vs → RepL X sz w1 ps vs
  | [], [], obs, vs0, vs, h, ho, r0, r2 => by rw [r2.nil_iff]; exact .nil
  | [], _ :: _, obs, vs0, vs, h, ho, r0, r2 => by simp [samePs] at h
  | _ :: _, [], obs, vs0, vs, h, ho, r0, r2 => by simp [samePs] at h
  | p :: ps, p2 :: p2s, obs, vs0, vs, h, ho, r0, r2 => by
    simp only [samePs] at h
    obtain ⟨x, hx1, hx2⟩ := Option.bind_eq_some_iff.1 h
    obtain ⟨y, hy1, hy2⟩ := Option.map_eq_some_iff.1 hx2
    subst hy2
    obtain ⟨v0, vs0', rfl, a1, a2⟩ := r0.uncons
    obtain ⟨v, vs', rfl, b1, b2⟩ := r2.uncons
    exact .cons (sameP_sound hx ok2 hle hle2 how hc hg hM p p2 hx1 (fun q hq => ho q (List.mem_append_left _ hq)) a1 b1) (samePs_sound hx ok2 hle hle2 how hc hg hM ps p2s hy1 (fun q hq => ho q (List.mem_append_right _ hq)) a2 b2)
end

/-! ### Places that vary -/
/-- What stands there now. -/
def SlotV (fr2 : Fr) (H2 : Heap) (w2 : Wd) : RSlot → List V → Prop
  | .one t _, vs => ∃ v, fr2.tmp t = some v ∧ vs = [v]
  | .agg t _, vs => fr2.tmp t = some (.agg vs)
  | .var id _, vs => w2.M (w2.c id) ∧ ∃ e ex, H2.get (w2.c id) = some (.row vs e 0 0 0 ex)
  | .ml .., _ => False

def Good (w0 w2 w' : Wd) : Prop := Le w0 w' ∧ w'.g = w2.g ∧ w'.M = w2.M ∧ w'.c = w2.c

def KeepOk (X : Codecs K) (sz : Nat → Nat) (st0 : StV K) (fr2 : Fr) (H2 : Heap) (w0 w2 : Wd) (s : RSlot) : Prop :=
  ∀ x, slotPs st0 s = some x → ∀ vs, SlotV fr2 H2 w2 s vs → ∀ (i : Nat) (p : PV K), x.1[i]? = some .keep → x.2[i]? = some p → ∀ w', Le w0 w' → w'.g = w2.g → w'.M = w2.M → Rep X sz w' p (vs.getD i undefV)

def CellOk (X : Codecs K) (sz : Nat → Nat) (H2 : Heap) (w2 w1 : Wd) (id : Nat) (ct : Cont Int Bool (List UInt8) Prop (fun c => List (K c))) : Prop := w2.M (w2.c id) ∧ ∃ vs e ex, H2.get (w2.c id) = some (.row vs e 0 0 0 ex) ∧ TyOk ct e ex ∧ RepL X sz w1 (contPs X ct) vs

theorem slotPs_kinds {A B : StV K} {s : RSlot} {x y : List SK × List (PV K)} (h1 : slotPs A s = some x) (h2 : slotPs B s = some y) : x.1 = y.1 := by
  cases s with
  | one t k =>
    simp only [slotPs] at h1 h2
    obtain ⟨_, _, rfl⟩ := Option.map_eq_some_iff.1 h1
    obtain ⟨_, _, rfl⟩ := Option.map_eq_some_iff.1 h2
    rfl
  | agg t ks =>
    simp only [slotPs] at h1 h2
    split at h1
    · split at h2
      · cases h1; cases h2; rfl
      · cases h2
    · cases h1
  | var id ks =>
    simp only [slotPs] at h1 h2
    obtain ⟨_, _, rfl⟩ := Option.map_eq_some_iff.1 h1
    obtain ⟨_, _, rfl⟩ := Option.map_eq_some_iff.1 h2
    rfl
  | ml id c => simp [slotPs] at h1

theorem slotV_rep (R2 : Rel X sz C base st2 fr2 H2 w2) {s : RSlot} {y : List SK × List (PV K)} (h : slotPs st2 s = some y) : ∃ vs, SlotV fr2 H2 w2 s vs ∧ RepL X sz w2 y.2 vs := by
  cases s with
  | one t k =>
    simp only [slotPs] at h
    obtain ⟨p, h1, rfl⟩ := Option.map_eq_some_iff.1 h
    obtain ⟨v, hv, hr⟩ := R2.f t p h1
    exact ⟨[v], ⟨v, hv, rfl⟩, .cons hr .nil⟩
  | agg t ks =>
    simp only [slotPs] at h
    split at h
    · rename_i cs h1
      cases h
      obtain ⟨v, hv, hr⟩ := R2.f t _ h1
      obtain ⟨vs, rfl, hl⟩ := hr.agg_iff
      exact ⟨vs, hv, hl⟩
    · cases h
  | var id ks =>
    simp only [slotPs] at h
    obtain ⟨ps, h1, rfl⟩ := Option.map_eq_some_iff.1 h
    obtain ⟨_, hM, vs, e, ex, hg, _, hr⟩ := R2.h.cells id _ (lookC_inv h1)
    exact ⟨vs, ⟨hM, e, ex, hg⟩, hr⟩
  | ml id c => simp [slotPs] at h

theorem genSlots_sound (ok : CfgOk X sz C) (ok2 : CfgOk2 X C) (R2 : Rel X sz C base st2 fr2 H2 w2) : ∀ {slots : List RSlot} {ns : List (NV K)} {st1 : StV K} {w1 : Wd} {G : List (NV K) → StV K → Prop},
    slotsN (stdA X tbl inv meas) st2 slots = some ns → (∀ s ∈ slots, KeepOk X sz st0 fr2 H2 w0 w2 s) → Part X sz base st0 w0 st2 H2 w2 st1 w1 (slotOwns st2 slots) → RelF X sz w1 st1.tmps fr2 →
    (∀ id ps, look st1.cells id = some ps → id ∈ viaIds slots ∨ CellOk X sz H2 w2 w1 id ps) → (∀ id, (look st1.cells id).isSome = (look st0.cells id).isSome) → genSlots (stdA X tbl inv meas) st0 slots st1 G →
    ∃ st1' w1', G ns st1' ∧ Part X sz base st0 w0 st2 H2 w2 st1' w1' [] ∧ RelF X sz w1' st1'.tmps fr2 ∧ (∀ id ps, look st1'.cells id = some ps → CellOk X sz H2 w2 w1' id ps) ∧ (∀ id, (look st1'.cells id).isSome = (look st0.cells id).isSome) ∧ st1'.n = st1.n
  | [], ns, st1, w1, G, hN, hK, m, hT, hC, hD, h => by
    simp only [slotsN, Option.some.injEq] at hN
    subst hN
    exact ⟨st1, w1, h, m, hT, fun id ps hl => (hC id ps hl).elim (fun hv => by simp [viaIds] at hv) (fun h => h), hD, rfl⟩
  | s :: slots, ns, st1, w1, G, hN, hK, m, hT, hC, hD, h => by
    by_cases hmm : ∃ id c, s = .ml id c
    · obtain ⟨id, c, rfl⟩ := hmm
      simp only [slotsN] at hN
      obtain ⟨l2, hl2, hN1⟩ := Option.bind_eq_some_iff.1 hN
      obtain ⟨ns', hN3, rfl⟩ := Option.map_eq_some_iff.1 hN1
      simp only [genSlots] at h
      obtain ⟨l0, hl0, h1⟩ := onS_inv h
      have g1 := h1 l2
      have hlk2 := lookM_inv hl2
      obtain ⟨_, hM, vs, e, ex, hg, _, hr⟩ := R2.h.cells id _ hlk2
      have hids : slotOwns st2 (.ml id c :: slots) = slotOwns st2 slots := rfl
      rw [hids] at m
      have hr1 : RepL X sz w1 (contPs X (.ml c l2)) vs := by
        refine ⟨hr.1, fun j p hp => m.move ok2 (hr.2 j p hp) ?_⟩
        obtain ⟨x, _, hx⟩ := List.mem_flatMap.1 (List.mem_of_getElem? hp)
        exact ok2.plain c x p hx
      have m2 : Part X sz base st0 w0 st2 H2 w2 { st1 with cells := putL st1.cells id (.ml c l2) } w1 (slotOwns st2 slots) := ⟨m.g, m.M, m.ce, m.nx, m.c, m.cl, m.n, m.le, m.nxt, m.known, m.owns, m.ownn, m.eta, m.einj, m.pends, m.pdist⟩
      have hC2 : ∀ id' ps, look (putL st1.cells id (.ml c l2)) id' = some ps → id' ∈ viaIds slots ∨ CellOk X sz H2 w2 w1 id' ps := by
        intro id' ps hl
        rw [look_putL] at hl
        by_cases hi : id' = id
        · rw [if_pos hi] at hl
          cases hl
          subst hi
          exact .inr ⟨hM, vs, e, ex, hg, trivial, hr1⟩
        · rw [if_neg hi] at hl
          rcases hC id' ps hl with h1 | h1
          · simp only [viaIds, List.mem_cons] at h1
            rcases h1 with h1 | h1
            · exact absurd h1 hi
            · exact .inl h1
          · exact .inr h1
      have hD2 : ∀ id', (look (putL st1.cells id (.ml c l2)) id').isSome = (look st0.cells id').isSome := by
        intro id'
        rw [look_putL]
        by_cases hi : id' = id
        · rw [if_pos hi, hi, lookM_inv hl0]; rfl
        · rw [if_neg hi]; exact hD id'
      obtain ⟨st3, w3, b1, b2, b3, b4, b5, b6⟩ := genSlots_sound ok ok2 R2 hN3 (fun s' hs' => hK s' (List.mem_cons_of_mem _ hs')) m2 hT hC2 hD2 g1
      exact ⟨st3, w3, b1, b2, b3, b4, b5, b6⟩
    have hml' : ∀ id c, s = .ml id c → False := fun id c he => hmm ⟨id, c, he⟩
    simp only [slotsN] at hN
    obtain ⟨y, hy, hN1⟩ := Option.bind_eq_some_iff.1 hN
    obtain ⟨a, ha, hN2⟩ := Option.bind_eq_some_iff.1 hN1
    obtain ⟨ns', hN3, rfl⟩ := Option.map_eq_some_iff.1 hN2
    simp only [genSlots] at h
    split at h
    · exact absurd h id
    · rename_i x hx
      obtain ⟨vs, hvs, hr⟩ := slotV_rep R2 hy
      have hk := slotPs_kinds hx hy
      rw [← hk] at ha
      have hids : slotOwns st2 (s :: slots) = ownIdsK x.1 y.2 ++ slotOwns st2 slots := by
        simp only [slotOwns, hy]
        rw [hk]
      rw [hids] at m
      obtain ⟨qs, st1', w1', g1, g2, g3, g4, g5, g6, g7⟩ := gens_sound ok ok2 R2.h ha hr (hK s List.mem_cons_self x hx vs hvs) m h
      have hT' : RelF X sz w1' st1'.tmps fr2 := by
        intro i p hp
        rw [g5] at hp
        obtain ⟨v, h1, h2⟩ := hT i p hp
        exact ⟨v, h1, h2.mono ok.len g3⟩
      have hC' : ∀ id ps, look st1'.cells id = some ps → id ∈ viaIds (s :: slots) ∨ CellOk X sz H2 w2 w1' id ps := by
        intro id ps hl
        rw [g7] at hl
        rcases hC id ps hl with h1 | ⟨h0, vs', e, ex, h1, ht, h2⟩
        · exact .inl h1
        · exact .inr ⟨h0, vs', e, ex, h1, ht, h2.mono ok.len g3⟩
      have hD' : ∀ id, (look st1'.cells id).isSome = (look st0.cells id).isSome := by
        intro id
        rw [g7]
        exact hD id
      have hK' : ∀ s' ∈ slots, KeepOk X sz st0 fr2 H2 w0 w2 s' := fun s' hs' => hK s' (List.mem_cons_of_mem _ hs')
      cases s with
      | ml id c => exact absurd ⟨id, c, rfl⟩ hmm
      | one t k =>
        simp only at g1
        split at g1
        · rename_i q
          obtain ⟨v, hv, rfl⟩ := hvs
          obtain ⟨v', _, he, hq, _⟩ := g4.uncons
          cases he
          have m2 : Part X sz base st0 w0 st2 H2 w2 { st1' with tmps := st1'.tmps.set t q } w1' (slotOwns st2 slots) := ⟨g2.g, g2.M, g2.ce, g2.nx, g2.c, g2.cl, g2.n, g2.le, g2.nxt, g2.known, g2.owns, g2.ownn, g2.eta, g2.einj, g2.pends, g2.pdist⟩
          have hT2 : RelF X sz w1' (st1'.tmps.set t q) fr2 := by
            intro i p hp
            rw [Tree.get_set] at hp
            by_cases hi : i = t
            · rw [if_pos hi] at hp
              cases hp
              subst hi
              exact ⟨v, hv, hq⟩
            · rw [if_neg hi] at hp
              exact hT' i p hp
          obtain ⟨st3, w3, b1, b2, b3, b4, b5, b6⟩ := genSlots_sound ok ok2 R2 hN3 hK' m2 hT2 hC' hD' g1
          exact ⟨st3, w3, b1, b2, b3, b4, b5, b6.trans g6⟩
        · exact absurd g1 id
      | agg t ks =>
        simp only at g1
        have m2 : Part X sz base st0 w0 st2 H2 w2 { st1' with tmps := st1'.tmps.set t (.agg qs) } w1' (slotOwns st2 slots) := ⟨g2.g, g2.M, g2.ce, g2.nx, g2.c, g2.cl, g2.n, g2.le, g2.nxt, g2.known, g2.owns, g2.ownn, g2.eta, g2.einj, g2.pends, g2.pdist⟩
        have hT2 : RelF X sz w1' (st1'.tmps.set t (.agg qs)) fr2 := by
          intro i p hp
          rw [Tree.get_set] at hp
          by_cases hi : i = t
          · rw [if_pos hi] at hp
            cases hp
            subst hi
            exact ⟨_, hvs, .agg' g4⟩
          · rw [if_neg hi] at hp
            exact hT' i p hp
        obtain ⟨st3, w3, b1, b2, b3, b4, b5, b6⟩ := genSlots_sound ok ok2 R2 hN3 hK' m2 hT2 hC' hD' g1
        exact ⟨st3, w3, b1, b2, b3, b4, b5, b6.trans g6⟩
      | var id ks =>
        simp only at g1
        have m2 : Part X sz base st0 w0 st2 H2 w2 { st1' with cells := putL st1'.cells id (.cs none qs) } w1' (slotOwns st2 slots) := ⟨g2.g, g2.M, g2.ce, g2.nx, g2.c, g2.cl, g2.n, g2.le, g2.nxt, g2.known, g2.owns, g2.ownn, g2.eta, g2.einj, g2.pends, g2.pdist⟩
        obtain ⟨hM0, e, ex, hg⟩ := hvs
        have hC2 : ∀ id' ps, look (putL st1'.cells id (.cs none qs)) id' = some ps → id' ∈ viaIds slots ∨ CellOk X sz H2 w2 w1' id' ps := by
          intro id' ps hl
          rw [look_putL] at hl
          by_cases hi : id' = id
          · rw [if_pos hi] at hl
            cases hl
            subst hi
            exact .inr ⟨hM0, vs, e, ex, hg, trivial, g4⟩
          · rw [if_neg hi] at hl
            rcases hC' id' ps hl with h1 | h1
            · simp only [viaIds, List.mem_cons] at h1
              rcases h1 with h1 | h1
              · exact absurd h1 hi
              · exact .inl h1
            · exact .inr h1
        have hsome : (look st0.cells id).isSome = true := by
          simp only [slotPs] at hx
          obtain ⟨ps, h1, _⟩ := Option.map_eq_some_iff.1 hx
          rw [lookC_inv h1]; rfl
        have hD2 : ∀ id', (look (putL st1'.cells id (.cs none qs)) id').isSome = (look st0.cells id').isSome := by
          intro id'
          rw [look_putL]
          by_cases hi : id' = id
          · rw [if_pos hi, hi, hsome]; rfl
          · rw [if_neg hi]; exact hD' id'
        obtain ⟨st3, w3, b1, b2, b3, b4, b5, b6⟩ := genSlots_sound ok ok2 R2 hN3 hK' m2 hT' hC2 hD2 g1
        exact ⟨st3, w3, b1, b2, b3, b4, b5, b6.trans g6⟩

theorem ownIdsK_mem (A : AlgV K) : ∀ {ks : List SK} {ps : List (PV K)} {ns : List (NV K)} {i : Nat}, toNs A st2 ks ps = some ns → i ∈ ownIdsK ks ps → ∃ s, look st2.owns i = some s
  | [], ps, ns, i, _, h => by cases ps <;> simp [ownIdsK] at h
  | _ :: _, [], ns, i, h, _ => by simp [toNs] at h
  | k :: ks, p :: ps, ns, i, h, hi => by
    simp only [toNs] at h
    obtain ⟨a, h1, h2⟩ := Option.bind_eq_some_iff.1 h
    obtain ⟨r, h3, _⟩ := Option.map_eq_some_iff.1 h2
    have ih : i ∈ ownIdsK ks ps → ∃ s, look st2.owns i = some s := ownIdsK_mem A h3
    cases k with
    | list c own nb =>
      cases own with
      | false =>
        have e : ownIdsK (.list c false nb :: ks) (p :: ps) = ownIdsK ks ps := by cases p <;> rfl
        rw [e] at hi
        exact ih hi
      | true =>
        cases p with
        | list c' l o =>
          cases o with
          | none => exact ih hi
          | some x =>
            obtain ⟨j, s⟩ := x
            simp only [ownIdsK, List.mem_cons] at hi
            rcases hi with rfl | hi
            · simp only [toN1] at h1
              rcases cond_some h1 with ⟨hb, _⟩ | ⟨_, hb⟩
              · simp only [Bool.true_and] at hb
                simp only [isOwn] at hb
                split at hb
                · rename_i s' hs; exact ⟨s', hs⟩
                · cases hb
              · cases hb
            · exact ih hi
        | _ => exact ih hi
    | _ => exact ih hi

theorem slotOwns_mem (A : AlgV K) : ∀ {slots : List RSlot} {ns : List (NV K)} {i : Nat}, slotsN A st2 slots = some ns → i ∈ slotOwns st2 slots → ∃ s, look st2.owns i = some s
  | [], ns, i, _, h => by simp [slotOwns] at h
  | s :: slots, ns, i, h, hi => by
    by_cases hmm : ∃ id c, s = .ml id c
    · obtain ⟨id, c, rfl⟩ := hmm
      simp only [slotsN] at h
      obtain ⟨y, hy, h1⟩ := Option.bind_eq_some_iff.1 h
      obtain ⟨r, hr, _⟩ := Option.map_eq_some_iff.1 h1
      exact slotOwns_mem A hr hi
    have hml' : ∀ id c, s = .ml id c → False := fun id c he => hmm ⟨id, c, he⟩
    simp only [slotsN] at h
    obtain ⟨y, hy, h1⟩ := Option.bind_eq_some_iff.1 h
    obtain ⟨a, ha, h2⟩ := Option.bind_eq_some_iff.1 h1
    obtain ⟨r, hr, _⟩ := Option.map_eq_some_iff.1 h2
    simp only [slotOwns, hy, List.mem_append] at hi
    rcases hi with hi | hi
    · exact ownIdsK_mem A ha hi
    · exact slotOwns_mem A hr hi

/-- The head of a loop, at whatever state. -/
theorem head_sound (ok : CfgOk X sz C) (ok2 : CfgOk2 X C) (R0 : Rel X sz C base st0 fr0 H0 w0) (R2 : Rel X sz C base st2 fr2 H2 w2) (hle : Le w0 w2) {ds : List Nat} {slots : List RSlot} {ns : List (NV K)} {G : List (NV K) → StV K → Prop}
    (hn : st2.n = st0.n) (hfr : ∀ t, t ∉ ds → fr2.tmp t = fr0.tmp t) (hN : slotsN (stdA X tbl inv meas) st2 slots = some ns) (hK : ∀ s ∈ slots, KeepOk X sz st0 fr2 H2 w0 w2 s)
    (hC : ∀ id ps, look st0.cells id = some ps → id ∈ viaIds slots ∨ ∀ w', Good w0 w2 w' → CellOk X sz H2 w2 w' id ps)
    (hret : ∀ i s, look (headSt st0 ds slots).owns i = some s → look st2.owns i = some s) (hsep : ∀ i ∈ slotOwns st2 slots, look (headSt st0 ds slots).owns i = none) (hdist : distinct (slotOwns st2 slots) = true)
    (h : genSlots (stdA X tbl inv meas) st0 slots (headSt st0 ds slots) G) : ∃ st1 w1, G ns st1 ∧ Rel X sz C base st1 fr2 H2 w1 ∧ Le w0 w1 ∧ st1.n = st0.n := by
  have howns : ∀ i, look (headSt st0 ds slots).owns i = if i ∈ slotOwns st0 slots then none else look st0.owns i := fun i => look_dropAll
  have hsub : ∀ i s, look (headSt st0 ds slots).owns i = some s → look st0.owns i = some s := by
    intro i s hi
    rw [howns] at hi
    split at hi
    · cases hi
    · exact hi
  let w1 : Wd := { w2 with n := st0.next, owns := look (headSt st0 ds slots).owns, cl := fun id => w2.cl id ∧ id < st0.next }
  have hn0 : w0.n = st0.next := R0.h.n
  have hle1 : Le w0 w1 := by
    refine ⟨by rw [hn0]; exact Nat.le_refl _, hle.mem, hle.c, hle.nu, fun i hi h0 => ?_, fun i s s' hi h0 h1 => ?_, fun i s hi h0 h1 => ?_, hle.ce, fun id hi => ⟨fun hh => (hle.cl id hi).1 hh.1, fun hh => ⟨(hle.cl id hi).2 hh, by rw [← hn0]; exact hi⟩⟩, hle.nx, hle.b, hle.Mu⟩
    · rw [R0.h.owns] at h0
      show look (headSt st0 ds slots).owns i = none
      rw [howns, h0]
      split <;> rfl
    · rw [R0.h.owns] at h0
      have := hsub i s' h1
      rw [h0] at this
      cases this
      exact Nat.le_refl _
    · have h2 : w2.owns i = some s := by rw [R2.h.owns]; exact hret i s h1
      exact hle.o3 i s hi h0 h2
  have m : Part X sz base st0 w0 st2 H2 w2 (headSt st0 ds slots) w1 (slotOwns st2 slots) := by
    refine ⟨rfl, rfl, rfl, rfl, rfl, fun _ => .rfl, rfl, hle1, Nat.le_refl _, rfl, rfl, fun i s hi => R0.h.ownn i s (hsub i s hi), fun i s nm hi he => R2.h.eta i s nm (hret i s hi) he, fun i j s s' nm h1 h2 e1 e2 => R2.h.einj i j s s' nm (hret i s h1) (hret j s' h2) e1 e2, fun i2 hi2 => ⟨slotOwns_mem _ hN hi2, fun nm hnm j s hj he => ?_⟩, distinct_nodup hdist⟩
    obtain ⟨s2, hs2⟩ := slotOwns_mem _ hN hi2
    have := R2.h.einj i2 j s2 s nm hs2 (hret j s hj) hnm he
    subst this
    rw [hsep i2 hi2] at hj
    cases hj
  have hT : RelF X sz w1 (headSt st0 ds slots).tmps fr2 := by
    intro t p hp
    have hp' : (delAll ds st0.tmps).get t = some p := hp
    rw [get_delAll] at hp'
    split at hp'
    · cases hp'
    · rename_i ht
      obtain ⟨v, h1, h2⟩ := R0.f t p hp'
      exact ⟨v, by rw [hfr t ht]; exact h1, h2.mono ok.len hle1⟩
  have hgood : Good w0 w2 w1 := ⟨hle1, rfl, rfl, rfl⟩
  obtain ⟨st1, w3, g1, g2, g3, g4, g5, g6⟩ := genSlots_sound ok ok2 R2 hN hK m hT (fun id ps hl => (hC id ps hl).imp_right fun hh => hh w1 hgood) (fun _ => rfl) h
  refine ⟨st1, w3, g1, ⟨?_, g3, ?_, R2.ds⟩, g2.le, g6⟩
  · have hcl0 : ∀ id, (look st1.cells id).isSome = true → w0.cl id ∧ id < st0.next := by
      intro id hs
      rw [g5] at hs
      obtain ⟨ps, hps⟩ := Option.isSome_iff_exists.1 hs
      obtain ⟨q1, q2, _⟩ := R0.h.cells id ps hps
      exact ⟨q1, (R0.h.cl id q1).1⟩
    refine ⟨R2.h.wf, R2.h.rob, g2.g.trans R2.h.g, g2.nx.trans R2.h.nx, g2.le.b.trans R0.h.b, fun n hM => R2.h.Mlt n (by rw [← g2.M]; exact hM), g2.n, Nat.le_trans R0.h.one g2.nxt, R2.h.keeps, fun id hc => ?_, fun id id' h1 h2 he => ?_, fun id ps hl => ?_, fun i => by rw [g2.owns], g2.ownn, fun i s nm h1 h2 => ?_, g2.einj, g2.ce.trans R2.h.ce, fun id b hk => ?_, fun gn ps hg => ?_⟩
    · obtain ⟨c1, c2⟩ := (g2.cl id).1 hc
      obtain ⟨q1, q2, q3⟩ := R2.h.cl id c1
      exact ⟨Nat.lt_of_lt_of_le c2 g2.nxt, by rw [g2.c]; exact q2, by rw [g2.c]; exact q3⟩
    · rw [g2.c] at he
      exact R2.h.cinj id id' ((g2.cl id).1 h1).1 ((g2.cl id').1 h2).1 he
    · obtain ⟨q1, q2⟩ := hcl0 id (by rw [hl]; rfl)
      have hi : id < w0.n := by rw [hn0]; exact q2
      obtain ⟨a0, vs, e, ex, a1, a2⟩ := g4 id ps hl
      refine ⟨(g2.cl id).2 ⟨(hle.cl id hi).2 q1, q2⟩, by rw [g2.c, g2.M]; exact a0, vs, e, ex, by rw [g2.c]; exact a1, a2⟩
    · obtain ⟨q1, q2, q3⟩ := g2.eta i s nm h1 h2
      exact ⟨q1, q2, by rw [g2.M]; exact q3⟩
    · rw [g2.known] at hk
      obtain ⟨q0, q1, q2⟩ := R0.h.known id b hk
      exact ⟨q0, Nat.lt_of_lt_of_le q1 g2.nxt, by rw [g2.le.nu id (by rw [hn0]; exact q1)]; exact q2⟩
    · obtain ⟨q0, vs', e', fl, fz, ex', q1, q2, q3⟩ := R0.h.globs gn ps hg
      exact ⟨q0, vs', e', fl, fz, ex', q1, q2, q3.mono ok.len g2.le⟩
  · rw [R2.n, hn, g6]
    rfl

end
end Go.E3

/- E3: CODE against E2's. -/
namespace Go.E3
open Go Go.E2

variable {K : Nat → Type}

section
variable {X : Codecs K} {sz : Nat → Nat} {C : Cfg Int Bool (List UInt8) Prop (fun c => List (K c))} {base : Heap}
variable {tbl : Tbl K} {inv : Nat → List (NV K) → Prop} {meas : Nat → List (NV K) → Nat} {inl : Inl Int Bool (List UInt8) Prop (fun c => List (K c))}

theorem slotV_eq {fr2 : Fr} {H2 : Heap} {w2 : Wd} {s : RSlot} {vs us : List V} (h1 : SlotV fr2 H2 w2 s vs) (h2 : SlotV fr2 H2 w2 s us) : vs = us := by
  cases s with
  | one t k =>
    obtain ⟨v, a, rfl⟩ := h1
    obtain ⟨u, b, rfl⟩ := h2
    rw [a] at b
    cases b
    rfl
  | agg t ks =>
    have a : fr2.tmp t = some (.agg vs) := h1
    have b : fr2.tmp t = some (.agg us) := h2
    rw [a] at b
    cases b
    rfl
  | var id ks =>
    obtain ⟨_, e, ex, a⟩ := h1
    obtain ⟨_, e', ex', b⟩ := h2
    rw [a] at b
    cases b
    rfl
  | ml id c => exact False.elim h1

theorem keepPs_sound {st0 st2 : StV K} : ∀ {ks : List SK} {as bs : List (PV K)} {obs : List Prop}, keepPs (stdA X tbl inv meas) st2 ks as bs = some obs → (∀ q ∈ obs, q) → ∀ (i : Nat) (p : PV K), ks[i]? = some .keep → as[i]? = some p →
    ∃ p2 o, bs[i]? = some p2 ∧ sameP (stdA X tbl inv meas) st2 p p2 = some o ∧ ∀ q ∈ o, q
  | [], as, bs, obs, h, ho, i, p, hk, ha => by simp at hk
  | k :: ks, [], bs, obs, h, ho, i, p, hk, ha => by simp at ha
  | k :: ks, a :: as, [], obs, h, ho, i, p, hk, ha => by cases k <;> simp [keepPs] at h
  | k :: ks, a :: as, b :: bs, obs, h, ho, i, p, hk, ha => by
    have rest : ∀ obs', keepPs (stdA X tbl inv meas) st2 ks as bs = some obs' → (∀ q ∈ obs', q) → ∀ i', i = i' + 1 → ∃ p2 o, (b :: bs)[i]? = some p2 ∧ sameP (stdA X tbl inv meas) st2 p p2 = some o ∧ ∀ q ∈ o, q := by
      intro obs' h1 h2 i' hi
      subst hi
      obtain ⟨p2, o, e1, e2, e3⟩ := keepPs_sound (st0 := st0) (st2 := st2) h1 h2 i' p (by simpa using hk) (by simpa using ha)
      exact ⟨p2, o, by simpa using e1, e2, e3⟩
    cases k with
    | keep =>
      simp only [keepPs] at h
      obtain ⟨x, hx, h1⟩ := Option.bind_eq_some_iff.1 h
      obtain ⟨y, hy, rfl⟩ := Option.map_eq_some_iff.1 h1
      cases i with
      | zero =>
        simp only [List.getElem?_cons_zero, Option.some.injEq] at ha
        subst ha
        exact ⟨b, x, rfl, hx, fun q hq => ho q (List.mem_append_left _ hq)⟩
      | succ i => exact rest y hy (fun q hq => ho q (List.mem_append_right _ hq)) i rfl
    | _ =>
      have h' : keepPs (stdA X tbl inv meas) st2 ks as bs = some obs := h
      cases i with
      | zero => simp at hk
      | succ i => exact rest obs h' ho i rfl

theorem keepSlots_sound {st0 st2 : StV K} : ∀ {slots : List RSlot} {obs : List Prop}, keepSlots (stdA X tbl inv meas) st0 st2 slots = some obs → (∀ q ∈ obs, q) → ∀ s ∈ slots, (∃ id c, s = .ml id c) ∨ ∃ x y o, slotPs st0 s = some x ∧ slotPs st2 s = some y ∧ keepPs (stdA X tbl inv meas) st2 x.1 x.2 y.2 = some o ∧ ∀ q ∈ o, q
  | [], obs, _, _, s, hs => by cases hs
  | s0 :: slots, obs, h, ho, s, hs => by
    by_cases hmm : ∃ id c, s0 = .ml id c
    · obtain ⟨id, c, rfl⟩ := hmm
      simp only [keepSlots] at h
      rcases List.mem_cons.1 hs with rfl | hs
      · exact .inl ⟨id, c, rfl⟩
      · exact keepSlots_sound h ho s hs
    have hml' : ∀ id c, s0 = .ml id c → False := fun id c he => hmm ⟨id, c, he⟩
    simp only [keepSlots] at h
    obtain ⟨x, hx, h1⟩ := Option.bind_eq_some_iff.1 h
    obtain ⟨y, hy, h2⟩ := Option.bind_eq_some_iff.1 h1
    obtain ⟨a, ha, h3⟩ := Option.bind_eq_some_iff.1 h2
    obtain ⟨r, hr, rfl⟩ := Option.map_eq_some_iff.1 h3
    rcases List.mem_cons.1 hs with rfl | hs
    · exact .inr ⟨x, y, a, hx, hy, ha, fun q hq => ho q (List.mem_append_left _ hq)⟩
    · exact keepSlots_sound hr (fun q hq => ho q (List.mem_append_right _ hq)) s hs

theorem sameCells_sound {vias : List Nat} {st2 : StV K} : ∀ {l : List (Nat × Cont Int Bool (List UInt8) Prop (fun c => List (K c)))} {obs : List Prop}, sameCells (stdA X tbl inv meas) vias st2 l = some obs → (∀ q ∈ obs, q) → ∀ id ct, (id, ct) ∈ l → id ∈ vias ∨ ∃ o, sameCont (stdA X tbl inv meas) st2 id ct = some o ∧ ∀ q ∈ o, q
  | [], obs, _, _, id, ps, h => by cases h
  | (i, cs) :: l, obs, h, ho, id, ps, hm => by
    simp only [sameCells] at h
    rcases cond_some h with ⟨hb, h1⟩ | ⟨hb, h1⟩
    · obtain ⟨x, hx, h3⟩ := Option.bind_eq_some_iff.1 h1
      obtain ⟨y, hy, rfl⟩ := Option.map_eq_some_iff.1 h3
      rcases List.mem_cons.1 hm with he | hm
      · cases he
        exact .inr ⟨x, hx, fun q hq => ho q (List.mem_append_left _ hq)⟩
      · exact sameCells_sound hy (fun q hq => ho q (List.mem_append_right _ hq)) id ps hm
    · rcases List.mem_cons.1 hm with he | hm
      · cases he
        obtain ⟨j, hj, hb2⟩ := List.any_eq_true.1 hb
        have := Nat.eq_of_beq_eq_true hb2
        subst this
        exact .inl hj
      · exact sameCells_sound h1 ho id ps hm

theorem cond_prop {c : Bool} {p : Prop} (h : bif c then p else False) : c = true ∧ p := by
  cases c with
  | false => exact absurd h id
  | true => exact ⟨rfl, h⟩

theorem tyLe_ok {t t' : Option TypeId} {ps qs : List (PV K)} {e : TypeId} {ex : Bool} (h : tyLe t t' = true) (h' : TyOk (.cs t' qs) e ex) : TyOk (.cs t ps) e ex := by
  cases t with
  | none => trivial
  | some a =>
    cases t' with
    | none => cases h
    | some b =>
      have := Nat.eq_of_beq_eq_true h
      subst this
      exact h'

/-- What is shown behind a round. -/
theorem backP_inv {j : Nat} {seen : List (NV K)} {slots : List RSlot} {dec : Option (List (NV K))} {st0 hd st2 : StV K} (h : backP (stdA X tbl inv meas) j seen slots dec st0 hd st2) :
    ∃ ns a b, slotsN (stdA X tbl inv meas) st2 slots = some ns ∧ keepSlots (stdA X tbl inv meas) st0 st2 slots = some a ∧ sameCells (stdA X tbl inv meas) (viaIds slots) st2 st0.cells = some b ∧ (∀ q ∈ a, q) ∧ (∀ q ∈ b, q) ∧
      distinct (slotOwns st2 slots) = true ∧ (∀ i ∈ slotOwns st2 slots, look hd.owns i = none) ∧ (∀ i s, look hd.owns i = some s → look st2.owns i = some s) ∧ inv j (ns ++ seen) ∧ (∀ m, dec = some m → meas j (ns ++ seen) < meas j (m ++ seen)) := by
  unfold backP at h
  split at h
  · rename_i ns a b hN hK hS
    obtain ⟨hb, h⟩ := cond_prop h
    simp only [Bool.and_eq_true] at hb
    obtain ⟨h1, h2⟩ := ands_inv h
    obtain ⟨h3, h4⟩ := ands_inv h2
    refine ⟨ns, a, b, hN, hK, hS, h1, h3, hb.1.1, fun i hi => ?_, fun i s hi => ?_, h4.1, fun m hm => ?_⟩
    · cases hl : look hd.owns i with
      | none => rfl
      | some s =>
        have := List.all_eq_true.1 hb.1.2 i hi
        simp only [Bool.not_eq_true', ← Bool.not_eq_true, List.any_eq_true] at this
        exact absurd ⟨(i, s), look_mem hl, Nat.beq_refl i⟩ this
    · have := List.all_eq_true.1 hb.2 (i, s) (look_mem hi)
      simp only at this
      split at this
      · rename_i s' hs'
        have := Nat.eq_of_beq_eq_true this
        rw [hs', this]
      · cases this
    · subst hm
      exact h4.2
  · exact absurd h id

/-- The head once more, behind a round. -/
theorem head_back (ok : CfgOk X sz C) (ok2 : CfgOk2 X C) {st0 st2 : StV K} {fr0 fr2 : Fr} {H0 H2 : Heap} {w0 w2 : Wd} (R0 : Rel X sz C base st0 fr0 H0 w0) (R2 : Rel X sz C base st2 fr2 H2 w2) (hle : Le w0 w2) {j : Nat} {seen : List (NV K)} {ds : List Nat} {slots : List RSlot} {dec : Option (List (NV K))}
    (hn : fr2.n = fr0.n) (hfr : ∀ t, t ∉ ds → fr2.tmp t = fr0.tmp t) (hb : backP (stdA X tbl inv meas) j seen slots dec st0 (headSt st0 ds slots) st2) :
    ∃ ns, inv j (ns ++ seen) ∧ (∀ m, dec = some m → meas j (ns ++ seen) < meas j (m ++ seen)) ∧ ∀ G : List (NV K) → StV K → Prop, genSlots (stdA X tbl inv meas) st0 slots (headSt st0 ds slots) G → ∃ st1 w1, G ns st1 ∧ Rel X sz C base st1 fr2 H2 w1 ∧ Le w0 w1 ∧ st1.n = st0.n := by
  obtain ⟨ns, a, b, hN, hK, hS, ha, hbb, hd, hsep, hret, hinv, hdec⟩ := backP_inv hb
  refine ⟨ns, hinv, hdec, fun G hG => head_sound ok ok2 R0 R2 hle (by rw [← R2.n, hn, R0.n]) hfr hN (fun s hs => ?_) (fun id ps hl => ?_) hret hsep hd hG⟩
  · rcases keepSlots_sound hK ha s hs with ⟨id, c, rfl⟩ | ⟨x, y, o, hx, hy, ho, hq⟩
    · intro x' hx'
      simp [slotPs] at hx'
    intro x' hx' vs hvs i p hk hp w' h1 h2 h3
    rw [hx] at hx'
    cases hx'
    obtain ⟨p2, o2, hp2, hs2, ho2⟩ := keepPs_sound (st0 := st0) (st2 := st2) ho hq i p hk hp
    obtain ⟨vs0, _, r0⟩ := slotV_rep R0 hx
    obtain ⟨vs2, hvs2, r2⟩ := slotV_rep R2 hy
    have := slotV_eq hvs hvs2
    subst this
    obtain ⟨v0, _, q0⟩ := r0.get hp
    have q2 := r2.2 i p2 hp2
    exact sameP_sound ok.len ok2 h1 hle R2.h.owns (fun id hi => by rw [h1.c id hi, hle.c id hi]) h2 h3 p p2 hs2 ho2 q0 q2
  · rcases sameCells_sound hS hbb id ps (look_mem hl) with h1 | ⟨o, h2, h3⟩
    · exact .inl h1
    · right
      intro w' hg
      obtain ⟨g1, g2, g3, g4⟩ := hg
      obtain ⟨_, _, vs0, _, _, _, ty0, r0⟩ := R0.h.cells id ps hl
      cases ps with
      | cs t ps =>
        simp only [sameCont] at h2
        rcases cond_some h2 with ⟨_, h2⟩ | ⟨hty, h2⟩
        · cases h2
        obtain ⟨dd, h1, h2⟩ := Option.bind_eq_some_iff.1 h2
        obtain ⟨_, hM, vs2, e, ex, hgt, ty2, r2⟩ := R2.h.cells id _ (lookC_inv h1)
        exact ⟨hM, vs2, e, ex, hgt, tyLe_ok hty ty2, samePs_sound ok.len ok2 g1 hle R2.h.owns (fun id hi => by rw [g1.c id hi, hle.c id hi]) g2 g3 ps dd h2 h3 r0 r2⟩
      | ml c l =>
        simp only [sameCont] at h2
        obtain ⟨l', h1, rfl⟩ := Option.map_eq_some_iff.1 h2
        have he : l = l' := h3 _ List.mem_cons_self
        subst he
        obtain ⟨_, hM, vs2, e, ex, hgt, _, r2⟩ := R2.h.cells id _ (lookM_inv h1)
        refine ⟨hM, vs2, e, ex, hgt, trivial, r2.1, fun j p hp => (r2.2 j p hp).plain ok2.plain g2 (fun _ _ _ h => by rw [g3]; exact h) ?_⟩
        obtain ⟨x, _, hx⟩ := List.mem_flatMap.1 (List.mem_of_getElem? hp)
        exact ok2.plain c x p hx

/-- The head for the first time. -/
theorem head_first (ok : CfgOk X sz C) (ok2 : CfgOk2 X C) {st0 : StV K} {fr0 : Fr} {H0 : Heap} {w0 : Wd} (R0 : Rel X sz C base st0 fr0 H0 w0) {ds : List Nat} {slots : List RSlot} {ns : List (NV K)} (hN : slotsN (stdA X tbl inv meas) st0 slots = some ns) (hd : distinct (slotOwns st0 slots) = true)
    {G : List (NV K) → StV K → Prop} (hG : genSlots (stdA X tbl inv meas) st0 slots (headSt st0 ds slots) G) : ∃ st1 w1, G ns st1 ∧ Rel X sz C base st1 fr0 H0 w1 ∧ Le w0 w1 ∧ st1.n = st0.n := by
  have howns : ∀ i, look (headSt st0 ds slots).owns i = if i ∈ slotOwns st0 slots then none else look st0.owns i := fun i => look_dropAll
  refine head_sound ok ok2 R0 R0 (.refl w0) rfl (fun _ _ => rfl) hN (fun s hs => ?_) (fun id ps hl => ?_) (fun i s hi => ?_) (fun i hi => ?_) hd hG
  · intro x hx vs hvs i p hk hp w' h1 h2 h3
    obtain ⟨vs0, hvs0, r0⟩ := slotV_rep R0 hx
    have := slotV_eq hvs hvs0
    subst this
    exact (r0.2 i p hp).mono ok.len h1
  · right
    intro w' hg
    obtain ⟨_, hM, vs0, e, ex, hgt, ty0, r0⟩ := R0.h.cells id ps hl
    exact ⟨hM, vs0, e, ex, hgt, ty0, r0.mono ok.len hg.1⟩
  · rw [howns] at hi
    split at hi
    · cases hi
    · exact hi
  · rw [howns, if_pos hi]

/-! ### Code -/
/-- What a piece of code leaves. -/
abbrev Post (X : Codecs K) (sz : Nat → Nat) (C : Cfg Int Bool (List UInt8) Prop (fun c => List (K c))) (base : Heap) (w : Wd) (k : Ex → StV K → Prop) (ex : Ex) (fr' : Fr) (H' : Heap) : Prop :=
  (∀ l, ex ≠ .goto l) ∧ ∃ st' w', k ex st' ∧ Rel X sz C base st' fr' H' w' ∧ Le w w'

theorem iterW_step {σ : Type} {step : σ → (σ → Prop) → Prop} {n : Nat} {s : σ} (h : iterW step False n s) : ∃ m, n = m + 1 ∧ step s fun s' => iterW step False m s' := by
  cases n with
  | zero => exact absurd h id
  | succ m => exact ⟨m, rfl, h⟩

theorem w2_peel {E : Env} {fn : FuncId} {round : Option Nat} {c : Code} {fr : Fr} {H : Heap} {Q : Ex → Fr → Heap → Prop}
    (h : Wp E fn round c fr H (thenQ (fun fr' H' => ∃ (Inv : Nat → Fr → Heap → Prop) (m : Nat), Inv m fr' H' ∧ ∀ m fr H, Inv m fr H → Wp E fn round c fr H (thenQ (fun fr' H' => ∃ m', m' < m ∧ Inv m' fr' H') Q)) Q)) : Wp E fn round (.loop c) fr H Q := by
  obtain ⟨⟨e, fr1, H1⟩, hk, h2⟩ := h
  cases e with
  | normal =>
    obtain ⟨Inv, m1, hi, hs⟩ := h2
    refine w2_loop (fun m fr' H' => (m = m1 + 1 ∧ fr' = fr ∧ H' = H) ∨ (m ≤ m1 ∧ Inv m fr' H')) (m := m1 + 1) (.inl ⟨rfl, rfl, rfl⟩) ?_
    rintro m fr' H' (⟨rfl, rfl, rfl⟩ | ⟨hm, hi⟩)
    · exact ⟨_, hk, m1, Nat.lt_succ_self _, .inr ⟨Nat.le_refl _, hi⟩⟩
    · refine (hs m fr' H' hi).mono fun ex fr2 H2 hA => ?_
      cases ex with
      | normal =>
        obtain ⟨m', h1, h2⟩ := hA
        exact ⟨m', h1, .inr ⟨by omega, h2⟩⟩
      | _ => exact hA
  | _ =>
    refine w2_loop (fun m fr' H' => fr' = fr ∧ H' = H) (m := 0) ⟨rfl, rfl⟩ ?_
    rintro m fr' H' ⟨rfl, rfl⟩
    exact ⟨_, hk, h2⟩

/-- A loop at its head: what holds there. -/
theorem headP_sound (ok : CfgOk X sz C) (ok2 : CfgOk2 X C) {fn : Nat} {c : Code} {j : Nat} {slots sees : List Slot} {st : StV K} {fr : Fr} {H : Heap} {w : Wd} {k : Ex → StV K → Prop} {body : StV K → (Ex → StV K → Prop) → Prop}
    (hbody : ∀ {st : StV K} {fr : Fr} {H : Heap} {w : Wd} {k : Ex → StV K → Prop}, Rel X sz C base st fr H w → body st k → Wp C.E fn none c fr H (Post X sz C base w k))
    (R : Rel X sz C base st fr H w) (h : headP (stdA X tbl inv meas) j slots sees (dsts c) st body k) :
    ∃ (Inv : Nat → Fr → Heap → Prop) (m : Nat), Inv m fr H ∧ ∀ m fr' H', Inv m fr' H' → Wp C.E fn none c fr' H' (thenQ (fun fr' H' => ∃ m', m' < m ∧ Inv m' fr' H') (Post X sz C base w k)) := by
  unfold headP at h
  obtain ⟨rs, hrs, h1⟩ := onS_inv h
  obtain ⟨ns0, hns, h1⟩ := onS_inv h1
  obtain ⟨seen, _, h2⟩ := onS_inv h1
  cases hd : distinct (slotOwns st rs) with
  | false => rw [hd] at h2; exact absurd h2 id
  | true =>
    rw [hd] at h2
    simp only [cond_true] at h2
    obtain ⟨hinv0, hG⟩ := h2
    let Body : List (NV K) → StV K → Prop := fun ns st1 => inv j (ns ++ seen) → body st1 fun ex st2 => match ex with
        | .normal => backP (stdA X tbl inv meas) j seen rs (some ns) st (headSt st (dsts c) rs) st2
        | ex => k ex st2
    refine ⟨fun m fr' H' => ∃ ns st1 w1, m = meas j (ns ++ seen) ∧ inv j (ns ++ seen) ∧ Body ns st1 ∧ Rel X sz C base st1 fr' H' w1 ∧ Le w w1 ∧ fr'.n = fr.n ∧ ∀ t, t ∉ dsts c → fr'.tmp t = fr.tmp t, meas j (ns0 ++ seen), ?_, ?_⟩
    · obtain ⟨st1, w1, g1, g2, g3, g4⟩ := head_first ok ok2 R hns hd hG
      exact ⟨ns0, st1, w1, rfl, hinv0, g1, g2, g3, rfl, fun _ _ => rfl⟩
    · rintro m fr' H' ⟨ns, st1, w1, rfl, hinv, hB, R1, hle1, hn1, hf1⟩
      refine (Go.E3.Wp.frame (hbody R1 (hB hinv))).mono fun ex fr2 H2 hA => ?_
      obtain ⟨⟨hgo, st2, w2, hk, R2, hle2⟩, hfr2, hnn2⟩ := hA
      cases ex with
      | normal =>
        obtain ⟨ns', hinv', hdec, hh⟩ := head_back ok ok2 R R2 (hle1.trans hle2) (hnn2.trans hn1) (fun t ht => (hfr2 t ht).trans (hf1 t ht)) hk
        obtain ⟨st3, w3, g1, g2, g3, _⟩ := hh _ hG
        exact ⟨meas j (ns' ++ seen), hdec ns rfl, ns', st3, w3, rfl, hinv', g1, g2, g3, hnn2.trans hn1, fun t ht => (hfr2 t ht).trans (hf1 t ht)⟩
      | _ => exact ⟨hgo, st2, w2, hk, R2, hle1.trans hle2⟩

theorem wpCode_sound (ok : CfgOk X sz C) (ok2 : CfgOk2 X C) (tok : TblOk X sz C tbl) (iok : InlOk X sz C inl) {fn : Nat} : ∀ {c : Code} {p : Nat} {st : StV K} {fr : Fr} {H : Heap} {w : Wd} {k : Ex → StV K → Prop},
    Rel X sz C base st fr H w → wpCode (stdA X tbl inv meas) C inl fn p c st k → Wp C.E fn none c fr H (Post X sz C base w k)
  | .skip, p, st, fr, H, w, k, R, h => w2_skip ⟨by simp, st, w, h, R, .refl w⟩
  | .label _, p, st, fr, H, w, k, R, h => w2_label ⟨by simp, st, w, h, R, .refl w⟩
  | .exit _, p, st, fr, H, w, k, R, h => w2_exit ⟨by simp, st, w, h, R, .refl w⟩
  | .ret, p, st, fr, H, w, k, R, h => w2_ret ⟨by simp, st, w, h, R, .refl w⟩
  | .goto _, p, st, fr, H, w, k, R, h => absurd h id
  | .refuse _, p, st, fr, H, w, k, R, h => absurd h id
  | .rangeFunc .., p, st, fr, H, w, k, R, h => absurd h id
  | .cond c a b, p, st, fr, H, w, k, R, h => by
    simp only [wpCode] at h
    split at h
    · rename_i pc hc
      obtain ⟨v, ev, rv⟩ := opdP_sound R hc
      obtain ⟨t, rfl⟩ := br_bool rv h
      obtain ⟨st1, h1, hn, _, R1⟩ := br_sound R.h rv h
      have R1' := R.near ok hn R1 (.refl w)
      refine w2_cond ev ?_
      cases t with
      | true => exact wpCode_sound ok ok2 tok iok R1' h1
      | false => exact wpCode_sound ok ok2 tok iok R1' h1
    · exact absurd h id
  | .block id c, p, st, fr, H, w, k, R, h => by
    simp only [wpCode] at h
    refine w2_block ((wpCode_sound ok ok2 tok iok R h).mono fun ex fr' H' hA => ?_)
    obtain ⟨hg, st', w', hk, R', hle⟩ := hA
    cases ex with
    | exit id' =>
      simp only at hk
      simp only [blockQ]
      cases hb : Nat.beq id' id with
      | true =>
        rw [hb] at hk
        simp only [cond_true] at hk
        have := Nat.eq_of_beq_eq_true hb
        subst this
        exact blockQ_hit ⟨by simp, st', w', hk, R', hle⟩
      | false =>
        rw [hb] at hk
        simp only [cond_false] at hk
        have hne : ¬ id' = id := by
          intro he
          subst he
          simp at hb
        exact blockQ_miss hne ⟨by simp, st', w', hk, R', hle⟩
    | _ => exact ⟨hg, st', w', hk, R', hle⟩
  | .scope c, p, st, fr, H, w, k, R, h => by
    simp only [wpCode] at h
    refine w2_scope ((wpCode_sound ok ok2 tok iok R h).mono fun ex fr' H' hA => ⟨hA.1, hA⟩)
  | .region id ops draw, p, st, fr, H, w, k, R, h => by
    simp only [wpCode] at h
    cases draw with
    | true =>
      simp only [cond_true] at h
      refine w2_drawn ?_
      have m : Mid X sz C base H.next st.next [] [] st fr H w := ⟨R, .nil, Nat.le_refl _, Nat.le_refl _, fun id _ hc => (R.h.cl id hc).2.1, fun d hd => by cases hd⟩
      obtain ⟨x, hx, e, st', w', a1, a2, a3⟩ := wpDraw_sound (b := Region.before ops) (i := 0) ok ok2 tok iok m h
      exact ⟨x, hx, by simp, st', w', a1, a2, a3⟩
    | false =>
      simp only [cond_false] at h
      refine w2_region ((wpOps_sound ok ok2 tok iok R h).mono fun ex fr' H' hA => ?_)
      obtain ⟨rfl, st', w', a1, a2, a3⟩ := hA
      exact ⟨by simp, st', w', a1, a2, a3⟩
  | .seq a b, p, st, fr, H, w, k, R, h => by
    simp only [wpCode] at h
    split at h
    · rename_i j slots sees hann
      obtain ⟨rs, hrs, h1⟩ := onS_inv h
      obtain ⟨seen, _, h1⟩ := onS_inv h1
      obtain ⟨ha, hg⟩ := h1
      refine w2_seq ((Go.E3.Wp.frame (wpCode_sound ok ok2 tok iok R ha)).mono fun ex fr' H' hA => ?_)
      obtain ⟨⟨hgo, st', w', hk, R', hle⟩, hfr, hnn⟩ := hA
      cases ex with
      | normal =>
        obtain ⟨ns, hinv, _, hh⟩ := head_back ok ok2 R R' hle hnn hfr hk
        obtain ⟨st1, w1, g1, g2, g3, _⟩ := hh _ hg
        refine (wpCode_sound ok ok2 tok iok g2 (g1 hinv)).mono fun ex fr2 H2 hB => ?_
        obtain ⟨q1, st3, w3, q2, q3, q4⟩ := hB
        exact ⟨q1, st3, w3, q2, q3, g3.trans q4⟩
      | _ => exact ⟨hgo, st', w', hk, R', hle⟩
    · refine w2_seq ((wpCode_sound ok ok2 tok iok R h).mono fun ex fr' H' hA => ?_)
      obtain ⟨hg, st', w', hk, R', hle⟩ := hA
      cases ex with
      | normal =>
        refine (wpCode_sound ok ok2 tok iok R' hk).mono fun ex fr2 H2 hB => ?_
        obtain ⟨q1, st3, w3, q2, q3, q4⟩ := hB
        exact ⟨q1, st3, w3, q2, q3, hle.trans q4⟩
      | _ => exact ⟨hg, st', w', hk, R', hle⟩
  | .loop c, p, st, fr, H, w, k, R, h => by
    simp only [wpCode] at h
    split at h
    · rename_i j slots sees hann
      obtain ⟨Inv, m, h0, hs⟩ := headP_sound ok ok2 (fun R h => wpCode_sound ok ok2 tok iok R h) R h
      exact w2_loop Inv h0 hs
    · rename_i j slots sees hann
      refine w2_peel ((wpCode_sound ok ok2 tok iok R h).mono fun ex fr' H' hA => ?_)
      obtain ⟨hg, st1, w1, hk, R1, hle1⟩ := hA
      cases ex with
      | normal =>
        obtain ⟨Inv, m, h0, hs⟩ := headP_sound ok ok2 (fun R h => wpCode_sound ok ok2 tok iok R h) R1 hk
        refine ⟨Inv, m, h0, fun m fr2 H2 hi => (hs m fr2 H2 hi).mono fun ex fr3 H3 hB => ?_⟩
        cases ex with
        | normal => exact hB
        | _ =>
          obtain ⟨q1, st3, w3, q2, q3, q4⟩ := hB
          exact ⟨q1, st3, w3, q2, q3, hle1.trans q4⟩
      | _ => exact ⟨hg, st1, w1, hk, R1, hle1⟩
    · rename_i n hann
      refine w2_loop (fun m fr' H' => ∃ st1 w1, iterW (fun s g => wpCode (stdA X tbl inv meas) C inl fn (2 * p) c s fun ex st1 => match ex with
        | .normal => g st1
        | ex => k ex st1) False m st1 ∧ Rel X sz C base st1 fr' H' w1 ∧ Le w w1) (m := n) ⟨st, w, h, R, .refl w⟩ ?_
      rintro m fr' H' ⟨st1, w1, hit, R1, hle1⟩
      obtain ⟨m', rfl, hit'⟩ := iterW_step hit
      refine (wpCode_sound ok ok2 tok iok R1 hit').mono fun ex fr2 H2 hA => ?_
      obtain ⟨hg, st2, w2, hk, R2, hle2⟩ := hA
      cases ex with
      | normal => exact ⟨m', Nat.lt_succ_self _, st2, w2, hk, R2, hle1.trans hle2⟩
      | _ => exact ⟨hg, st2, w2, hk, R2, hle1.trans hle2⟩
    · exact absurd h id

end
end Go.E3

/- E3: FUNCTIONS against E2's: what the conditions of a function show. -/
namespace Go.E3
open Go Go.E2

variable {K : Nat → Type}

def ownPairs : List (PV K) → List (PV K) → List (Nat × Nat)
  | .list _ _ (some (i, _)) :: ps, .list _ _ (some (j, _)) :: rs => (j, i) :: ownPairs ps rs
  | _ :: ps, _ :: rs => ownPairs ps rs
  | _, _ => []

/-- A part of an answer that tells the truth. -/
def RT : PV K → Prop
  | .sb id _ b pt pf => id = 0 ∧ (pt ↔ b = true) ∧ (pf ↔ b = false)
  | .int _ l _ => l = none
  | .list _ _ (some (_, s)) => s = 0
  | _ => True

section
variable {X : Codecs K} {sz : Nat → Nat} {C : Cfg Int Bool (List UInt8) Prop (fun c => List (K c))} {base H : Heap} {st : StV K} {w : Wd}
variable {tbl : Tbl K} {inv : Nat → List (NV K) → Prop} {meas : Nat → List (NV K) → Nat} {inl : Inl Int Bool (List UInt8) Prop (fun c => List (K c))}

theorem resultsP_sound {fr : Fr} (R : Rel X sz C base st fr H w) : ∀ {rs : List ResultVar} {ps : List (PV K)}, resultsP (stdA X tbl inv meas) C st rs = some ps → ∃ vs, resultsV C.E fr H rs = some vs ∧ RepL X sz w ps vs
  | [], ps, h => by
    simp only [resultsP, Option.some.injEq] at h
    subst h
    exact ⟨[], rfl, .nil⟩
  | .tmp t :: rs, ps, h => by
    simp only [resultsP] at h
    obtain ⟨p, h1, h2⟩ := Option.bind_eq_some_iff.1 h
    obtain ⟨qs, h3, rfl⟩ := Option.map_eq_some_iff.1 h2
    obtain ⟨v, e1, r1⟩ := R.f t p h1
    obtain ⟨vs, e2, r2⟩ := resultsP_sound R h3
    exact ⟨v :: vs, by simp only [resultsV, e1, Option.bind_some, e2, Option.map_some], .cons r1 r2⟩
  | .cell a t :: rs, ps, h => by
    simp only [resultsP] at h
    obtain ⟨ti, h0, h1⟩ := Option.bind_eq_some_iff.1 h
    obtain ⟨pa, h2, h3⟩ := Option.bind_eq_some_iff.1 h1
    obtain ⟨p, h4, h5⟩ := Option.bind_eq_some_iff.1 h3
    obtain ⟨qs, h6, rfl⟩ := Option.map_eq_some_iff.1 h5
    obtain ⟨va, e1, r1⟩ := R.f a pa h2
    obtain ⟨nm, gn, off, lim, rfl, _, hl, _⟩ := load_sound R.h r1 h4
    obtain ⟨u, hu, ru⟩ := hl H rfl
    obtain ⟨vs, e2, r2⟩ := resultsP_sound R h6
    exact ⟨u :: vs, by simp only [resultsV, h0, e1, hu, Option.bind_some, e2, Option.map_some], .cons ru r2⟩

theorem oneOf_rep {ps : List (PV K)} {vs : List V} (r : RepL X sz w ps vs) : Rep X sz w (oneOfP ps) (oneOf vs) := by
  match ps, r with
  | [], r => rw [r.nil_iff]; exact .undef
  | [p], r =>
    obtain ⟨v, vs', rfl, r1, r2⟩ := r.uncons
    have := r2.nil_iff; subst this
    exact r1
  | p :: q :: ps, r =>
    obtain ⟨v, vs', rfl, r1, r2⟩ := r.uncons
    obtain ⟨u, vs'', rfl, r3, r4⟩ := r2.uncons
    exact .tuple' (.cons r1 (.cons r3 r4))

theorem thaw_sound (ok : CfgOk X sz C) {base H : Heap} : ∀ {ps : List (PV K)} {vs : List V} {st : StV K} {w : Wd} {k : List (PV K) → StV K → Prop}, RelH X sz C base st H w → RepL X sz w ps vs → thaw (stdA X tbl inv meas) ps st k →
    ∃ qs st' w', k qs st' ∧ RelH X sz C base st' H w' ∧ Le w w' ∧ RepL X sz w' qs vs
  | [], vs, st, w, k, R, r, h => ⟨[], st, w, h, R, .refl w, r⟩
  | p :: ps, vs, st, w, k, R, r, h => by
    obtain ⟨v, vs', rfl, r1, r2⟩ := r.uncons
    by_cases hmm : ∃ id c n, p = .mlist id c n
    · obtain ⟨id, c, n, rfl⟩ := hmm
      simp only [thaw] at h
      obtain ⟨l, hl, hn, h⟩ := onS_inv h
      have hn : n = (l.length : Int) := hn
      have hl := lookM_inv hl
      cases r1 with
      | mlist hi h0 hz =>
        obtain ⟨w1, R1, hle1, hn1, hg1, hrep⟩ := freeze_sound ok R hl hz
        have hB : Bump { st with cells := dropL st.cells id } { st with cells := dropL st.cells id, owns := (st.next, 0) :: st.owns, next := st.next + 1 } st.next 0 := by
          have hnone : look st.owns st.next = none := by
            cases hl : look st.owns st.next with
            | none => rfl
            | some g => have := R.ownn _ _ hl; omega
          exact ⟨rfl, rfl, rfl, rfl, fun j => look_cons, Nat.le_succ _, Nat.lt_succ_self _, fun g hg => (by have hg : look st.owns st.next = some g := hg; rw [hnone] at hg; cases hg), fun _ => Nat.le_refl _⟩
        obtain ⟨w2, R2, hle2, ow, et, hn2, _⟩ := same_sound (named := false) ok R1 hB (by simp)
        have rl := (hrep none trivial).mono ok.len hle2
        have ho : OwnC w2 sz c (some (st.next, 0)) (.slice (w.c id) 0 0 l.length (sz c) (some l.length)) :=
          ⟨by rw [hn2]; exact Nat.lt_succ_self _, fun cur hc' => (by rw [ow] at hc'; cases hc'; exact Nat.le_refl _), fun _ => .inl rfl, fun h => by cases h⟩
        have rl2 : Rep X sz w2 (.list c l (some (st.next, 0))) (.slice (w.c id) 0 0 l.length (sz c) (some l.length)) := by
          cases rl with
          | list hg hf hM hlen hb hz hcap hc _ => exact .list hg hf hM hlen hb hz hcap hc ho
        have hnn : n.toNat = l.length := by omega
        obtain ⟨qs, st', w', a1, a2, a3, a4⟩ := thaw_sound ok R2 ((r2.mono ok.len hle1).mono ok.len hle2) h
        refine ⟨_, st', w', a1, a2, (hle1.trans hle2).trans a3, .cons ?_ a4⟩
        rw [hnn]
        exact rl2.mono ok.len a3
    · have hml' : ∀ id c n, p = .mlist id c n → False := fun id c n he => hmm ⟨id, c, n, he⟩
      simp only [thaw] at h
      obtain ⟨qs, st', w', a1, a2, a3, a4⟩ := thaw_sound ok R r2 h
      exact ⟨_, st', w', a1, a2, a3, .cons (r1.mono ok.len a3) a4⟩

theorem bstr_nil {X : Codecs K} : (X.u8 ▸ ([] : List (K 0)) : List UInt8) = [] := by
  rw [cast_list]
  rfl

/-- (*strings.Builder).String. -/
theorem primP_sound (ok : CfgOk X sz C) (pok : PrimOk C) {f : Nat} (hf : C.prim f = true) {args : List (PV K)} {st : StV K} {k : PV K → StV K → Prop} (h : primP (stdA X tbl inv meas) args st k) {base H : Heap} {w : Wd} {vs : List V}
    (R : RelH X sz C base st H w) (ra : RepL X sz w args vs) : CallW C.E (.func f) vs H fun v H' => ∃ p st' w', k p st' ∧ st'.tmps = st.tmps ∧ st'.n = st.n ∧ RelH X sz C base st' H' w' ∧ Le w w' ∧ Rep X sz w' p v := by
  unfold primP at h
  split at h
  · rename_i id off lim
    obtain ⟨a, us, rfl, r1, r2⟩ := ra.uncons
    have := r2.nil_iff; subst this
    obtain ⟨cs, hcs, h1⟩ := onS_inv h
    clear h
    obtain ⟨hcl, hMc, vs, e, ex, hg, _, hr⟩ := R.cells id _ (lookC_inv hcs)
    have hr : RepL X sz w cs vs := hr
    cases r1 with
    | cell hid =>
      obtain ⟨hb, h2⟩ := cond_prop h1
      clear h1
      simp only [Bool.and_eq_true, Nat.ble_eq] at hb
      obtain ⟨hb1, hb2⟩ := hb
      have hb2' : lim ≤ vs.length := by rw [← hr.1]; exact hb2
      obtain ⟨pk1, pk2⟩ := pok f hf H (w.c id) off lim vs e ex R.wf hg hb1 hb2'
      have hget : ∀ q, cs[off + 1]? = some q → ∃ u, vs[off + 1]? = some u ∧ Rep X sz w q u := fun q hq => hr.get hq
      split at h2
      · rename_i hq
        obtain ⟨u, hu, ru⟩ := hget _ hq
        cases ru
        refine (pk1 hu).mono fun v H' hA => ?_
        obtain ⟨rfl, rfl⟩ := hA
        exact ⟨_, st, w, h2, rfl, rfl, R, .refl w, .str⟩
      · rename_i c l i s hq
        split at h2
        · rename_i hc
          subst hc
          obtain ⟨ho, h3, h4⟩ := cond_prop h2
          clear h2
          simp only [Bool.and_eq_true] at ho
          have hodd := Nat.eq_of_beq_eq_true ho.2
          have hlook := isOwn_owns R.owns ho.1
          obtain ⟨u, hu, ru⟩ := hget _ hq
          have hlk : look st.owns i = some s := by rw [← R.owns]; exact hlook
          have hs1 : sz 0 = 1 := by rw [← ok.len 0 (X.dflt 0), ok.u8]; rfl
          obtain ⟨ru0, ro⟩ := ru.unown
          have hnb := ro.2.2.2 hodd
          have hov := ro.2.2.1 hlook
          rcases list_cases ru with ⟨rfl, rfl⟩ | ⟨nm, gn, o2, cap, cells, el, gen, floor, frz, eb, rfl, hgn, hf2, hM2, hlen, _, hcap, hcell, _⟩
          · refine (pk1 hu).mono fun v H' hA => ?_
            obtain ⟨rfl, rfl⟩ := hA
            have e0 : (stdA X tbl inv meas).bstr ([] : List (K 0)) = [] := bstr_nil (X := X)
            have h4' : k (.str ((stdA X tbl inv meas).bstr ([] : List (K 0)))) { st with owns := dropL st.owns i } := h4
            rw [e0] at h4'
            -- nobody writes to it any more
            obtain ⟨w', R', hle⟩ := drop_sound ok R i
            exact ⟨_, _, w', h4', rfl, rfl, R', hle, .str⟩
          · obtain ⟨rfl, rfl, hpos⟩ := hnb
            simp only [OwnV] at hov
            rcases hov with hov | ⟨_, het, cells', el', floor', frz', eb', hg', htop, hfrz, hce⟩
            · cases hov
            · rw [hgn] at hg'
              cases hg'
              rw [R.g] at hgn
              rw [hs1] at htop hlen hu
              obtain ⟨hbase, hnext, hnM⟩ := R.eta i s nm hlk het
              obtain ⟨ecs, ee1, ee2⟩ := elemsV_list ok.len R.g ru0 (by rw [hs1]; exact Nat.one_pos)
              rw [hs1] at ee1
              have hecs : ecs = cells := by
                have b1 : Nat.ble floor gn = true := by rw [Nat.ble_eq]; exact hf2
                have b2 : Nat.ble (0 + l.length * 1) (0 + l.length * 1) = true := by rw [Nat.ble_eq]; exact Nat.le_refl _
                have b3 : Nat.ble (0 + l.length * 1) cells.length = true := by rw [Nat.ble_eq]; exact hlen
                simp only [elemsV, Nat.beq_refl, cond_true, readCells, hgn, b1, b2, b3, Bool.and_self, Option.map_eq_some_iff, Prod.mk.injEq, true_and] at ee1
                obtain ⟨_, ee1, rfl⟩ := ee1
                obtain ⟨rfl, _⟩ := noHoles_some ee1
                rw [List.drop_zero, List.take_of_length_le]
                omega
              subst hecs
              have hbytes := bytes_sound ok ee2
              have hle' : l.length ≤ 140737488355328 := by
                have : (l.length : Int) ≤ 140737488355328 := h3
                omega
              refine (pk2 nm gn l.length ecs el floor frz eb _ hu hgn (by omega) hf2 hpos hle' (by rw [← R.ce]; exact hce) hbytes ee2.noHole (by rw [R.keeps.ro]; exact Nat.le_trans R.rob.1 hbase) (fun he => hnM (by rw [he]; exact hMc))).mono fun v H' hA => ?_
              obtain ⟨rfl, rfl⟩ := hA
              obtain ⟨w', R', hle⟩ := shut_sound ok R hlk het (max frz l.length) hgn
              exact ⟨_, _, w', h4, rfl, rfl, R', hle, .str⟩
        · exact h2.elim
      · exact h2.elim
  · exact h.elim

theorem wpBody_sound (ok : CfgOk X sz C) (ok2 : CfgOk2 X C) (tok : TblOk X sz C tbl) (hq : Quiet3 C) (iok : InlOk X sz C inl) {f : Nat} {args : List (PV K)} {st : StV K} {k : PV K → StV K → Prop} (h : wpBody (stdA X tbl inv meas) C inl f args st k) {base H : Heap} {w : Wd} {vs : List V}
    (R : RelH X sz C base st H w) (ra : RepL X sz w args vs) : CallW C.E (.func f) vs H fun v H' => ∃ p st' w', k p st' ∧ st'.tmps = st.tmps ∧ st'.n = st.n ∧ RelH X sz C base st' H' w' ∧ Le w w' ∧ Rep X sz w' p v := by
  unfold wpBody at h
  cases hans : C.ans f with
  | true => rw [hans] at h; exact absurd h id
  | false =>
    rw [hans] at h
    simp only [cond_false] at h
    have hs := hq.1 f hans
    cases hprim : C.prim f with
    | true =>
      rw [hprim] at h
      simp only [cond_true] at h
      exact primP_sound ok hq.2 hprim h R ra
    | false =>
    rw [hprim] at h
    simp only [cond_false] at h
    split at h
    · rename_i fi hfi
      split at h
      · rename_i c hc
        have R1 : Rel X sz C base { st with tmps := Tree.ofList args, n := max args.length fi.ntmps } { tmps := enterTmps vs, n := max vs.length fi.ntmps, defers := [] } H w := by
          refine ⟨⟨R.wf, R.rob, R.g, R.nx, R.b, R.Mlt, R.n, R.one, R.keeps, R.cl, R.cinj, R.cells, R.owns, R.ownn, R.eta, R.einj, R.ce, R.known, R.globs⟩, fun i p hp => ?_, by rw [ra.1], rfl⟩
          have hp' : (Tree.ofList args).get i = some p := hp
          rw [Tree.get_ofList] at hp'
          obtain ⟨v, h1, h2⟩ := ra.get hp'
          exact ⟨v, enter_tmp h1, h2⟩
        refine callW_body hs hfi hc ((wpCode_sound ok ok2 tok iok R1 h).mono fun ex fr' H' hA => ?_)
        obtain ⟨_, st1, w1, hk, R2, hle⟩ := hA
        have key : onS False (resultsP (stdA X tbl inv meas) C st1 fi.results) (fun vs => thaw (stdA X tbl inv meas) vs st1 fun vs st2 => k (oneOfP vs) { st2 with tmps := st.tmps, n := st.n }) → ∃ H'', marksOnly fr'.defers H' = some H'' ∧ ∃ vs, resultsV C.E fr' H'' fi.results = some vs ∧ ∃ p st' w', k p st' ∧ st'.tmps = st.tmps ∧ st'.n = st.n ∧ RelH X sz C base st' H'' w' ∧ Le w w' ∧ Rep X sz w' p (oneOf vs) := by
          intro hm
          obtain ⟨qs, hps, hm⟩ := onS_inv hm
          obtain ⟨us, e1, e2⟩ := resultsP_sound R2 hps
          obtain ⟨qs', st2, w2, hm, R3, hle3, e3⟩ := thaw_sound ok R2.h e2 hm
          exact ⟨H', ends0 R2.ds, us, e1, _, _, w2, hm, rfl, rfl, ⟨R3.wf, R3.rob, R3.g, R3.nx, R3.b, R3.Mlt, R3.n, R3.one, R3.keeps, R3.cl, R3.cinj, R3.cells, R3.owns, R3.ownn, R3.eta, R3.einj, R3.ce, R3.known, R3.globs⟩, hle.trans hle3, oneOf_rep e3⟩
        cases ex with
        | normal => exact ⟨.inl rfl, key hk⟩
        | ret => exact ⟨.inr rfl, key hk⟩
        | _ => exact absurd hk id
      · rename_i hc
        split at h
        · rename_i x hext
          obtain ⟨v, vs', rfl, r1, r2⟩ := ra.uncons
          have := r2.nil_iff; subst this
          exact callW_ext hs hfi hc (v := v) (by simp only [hext, extV]) ⟨x, st, w, h, rfl, rfl, R, .refl w, r1⟩
        · exact absurd h id
    · exact absurd h id

theorem wpInl_ok (ok : CfgOk X sz C) (ok2 : CfgOk2 X C) (tok : TblOk X sz C tbl) (hq : Quiet3 C) : ∀ n, InlOk X sz C (wpInl (stdA X tbl inv meas) C n)
  | 0 => fun g args st k h => absurd h id
  | n + 1 => fun g args st k h base H w vs R ra => wpBody_sound ok ok2 tok hq (wpInl_ok ok ok2 tok hq n) h R ra

/-! ### The answer -/
theorem ownPairs_own : ∀ {ps rs : List (PV K)} {obs : List Prop}, meetsL (stdA X tbl inv meas) st ps rs = some obs → ∀ j i, (j, i) ∈ ownPairs ps rs → ∃ s, look st.owns i = some s
  | [], rs, obs, h, j, i, hm => by cases rs <;> simp [ownPairs] at hm
  | _ :: _, [], obs, h, j, i, hm => by simp [meetsL] at h
  | p :: ps, r :: rs, obs, h, j, i, hm => by
    simp only [meetsL] at h
    obtain ⟨x, h1, h2⟩ := Option.bind_eq_some_iff.1 h
    obtain ⟨y, h3, _⟩ := Option.map_eq_some_iff.1 h2
    have ih := ownPairs_own h3 j i
    cases p with
    | list c l o =>
      cases o with
      | none => cases r <;> exact ih hm
      | some a =>
        obtain ⟨i', s'⟩ := a
        cases r with
        | list c' l' o' =>
          cases o' with
          | none => exact ih hm
          | some b =>
            obtain ⟨j', s2⟩ := b
            simp only [ownPairs, List.mem_cons] at hm
            rcases hm with hm | hm
            · cases hm
              simp only [meets, Option.isSome_some, Bool.true_and] at h1
              rcases cond_some h1 with ⟨hb, _⟩ | ⟨_, hb⟩
              · simp only [Bool.not_eq_false', isOwn] at hb
                split at hb
                · rename_i s3 hs3; exact ⟨s3, hs3⟩
                · cases hb
              · cases hb
            · exact ih hm
        | _ => exact ih hm
    | _ => cases r <;> exact ih hm

theorem ownPairs_snd : ∀ {ps rs : List (PV K)}, (ownPairs ps rs).map (·.2) = ownOut ps rs
  | [], rs => by cases rs <;> simp [ownPairs, ownOut]
  | p :: ps, [] => by cases p <;> simp [ownPairs, ownOut]
  | p :: ps, r :: rs => by
    have ih := ownPairs_snd (ps := ps) (rs := rs)
    cases p with
    | list c l o =>
      cases o with
      | none => cases r <;> simp only [ownPairs, ownOut, ih]
      | some a =>
        cases r with
        | list c' l' o' =>
          cases o' with
          | none => simp only [ownPairs, ownOut, ih]
          | some b => simp only [ownPairs, ownOut, List.map_cons, ih]
        | _ => simp only [ownPairs, ownOut, ih]
    | _ => cases r <;> simp only [ownPairs, ownOut, ih]

theorem ownPairs_fst : ∀ {ps rs : List (PV K)}, ((ownPairs ps rs).map (·.1)).Sublist (ownIds rs)
  | [], rs => by cases rs <;> simp [ownPairs]
  | p :: ps, [] => by cases p <;> simp [ownPairs]
  | p :: ps, r :: rs => by
    have ih := ownPairs_fst (ps := ps) (rs := rs)
    cases r with
    | list c' l' o' =>
      cases o' with
      | none => cases p with
        | list c l o => cases o <;> exact ih
        | _ => exact ih
      | some b =>
        cases p with
        | list c l o =>
          cases o with
          | none => exact ih.trans (List.sublist_cons_self _ _)
          | some a => exact ih.cons_cons _
        | _ => exact ih.trans (List.sublist_cons_self _ _)
    | _ => cases p with
      | list c l o => cases o <;> exact ih
      | _ => exact ih

theorem look_of_mem : ∀ {l : List (Nat × Nat)} {j i : Nat}, (l.map (·.1)).Nodup → (j, i) ∈ l → look l j = some i
  | [], j, i, _, h => by cases h
  | (a, b) :: l, j, i, hn, h => by
    simp only [List.map_cons, List.nodup_cons] at hn
    simp only [look, cond_eq_ite, Nat.beq_eq]
    rcases List.mem_cons.1 h with h | h
    · cases h
      rw [if_pos rfl]
    · rw [if_neg]
      · exact look_of_mem hn.2 h
      · intro he
        subst he
        exact hn.1 (List.mem_map.2 ⟨_, h, rfl⟩)

theorem meetsL_sound (ok2 : CfgOk2 X C) (R : RelH X sz C base st H w) {w' : Wd} (hg : w'.g = w.g) (hM' : ∀ nm x, w.g nm = some x → ¬ w.M nm → ¬ w'.M nm) (hce : w'.ce = w.ce) (ho : ∀ i, w'.owns i = some 0) : ∀ {ps rs : List (PV K)} {obs : List Prop} {vs : List V},
    meetsL (stdA X tbl inv meas) st ps rs = some obs → (∀ q ∈ obs, q) → RepL X sz w ps vs → (∀ r ∈ rs, RT r) → (∀ j i, (j, i) ∈ ownPairs ps rs → w'.eta j = w.eta i) → (∀ j ∈ ownIds rs, j < w'.n) → RepL X sz w' rs vs
  | [], [], obs, vs, h, hq, r, ht, he, hn => by rw [r.nil_iff]; exact .nil
  | [], _ :: _, obs, vs, h, hq, r, ht, he, hn => by simp [meetsL] at h
  | _ :: _, [], obs, vs, h, hq, r, ht, he, hn => by simp [meetsL] at h
  | p :: ps, q :: rs, obs, vs, h, hq, r, ht, he, hn => by
    obtain ⟨v, vs', rfl, r1, r2⟩ := r.uncons
    simp only [meetsL] at h
    obtain ⟨x, h1, h2⟩ := Option.bind_eq_some_iff.1 h
    obtain ⟨y, h3, rfl⟩ := Option.map_eq_some_iff.1 h2
    have hsubP : ∀ j i, (j, i) ∈ ownPairs ps rs → (j, i) ∈ ownPairs (p :: ps) (q :: rs) := by
      intro j i hm
      cases p with
      | list c l o =>
        cases o with
        | none => cases q <;> exact hm
        | some a =>
          cases q with
          | list c' l' o' =>
            cases o' with
            | none => exact hm
            | some b => exact List.mem_cons_of_mem _ hm
          | _ => exact hm
      | _ => cases q <;> exact hm
    have hsubI : ∀ j ∈ ownIds rs, j ∈ ownIds (q :: rs) := by
      intro j hm
      cases q with
      | list c' l' o' =>
        cases o' with
        | none => exact hm
        | some b => exact List.mem_cons_of_mem _ hm
      | _ => exact hm
    have ih := meetsL_sound ok2 R hg hM' hce ho h3 (fun q hq' => hq q (List.mem_append_right _ hq')) r2 (fun r hr => ht r (List.mem_cons_of_mem _ hr)) (fun j i hm => he j i (hsubP j i hm)) (fun j hj => hn j (hsubI j hj))
    refine .cons ?_ ih
    have hx : ∀ a ∈ x, a := fun a ha => hq a (List.mem_append_left _ ha)
    have hT := ht q List.mem_cons_self
    cases q with
    | int k' l' b =>
      cases p with
      | int k l a =>
        simp only [meets] at h1
        split at h1
        · rename_i hk
          subst hk
          cases h1
          have : a = b := hx _ List.mem_cons_self
          subst this
          cases r1
          have : l' = none := hT
          subst this
          exact .int fun m hm => by cases hm
        · cases h1
      | _ => simp [meets] at h1
    | sb id neg b pt pf =>
      obtain ⟨t1, t2, t3⟩ : id = 0 ∧ (pt ↔ b = true) ∧ (pf ↔ b = false) := hT
      have : v = .bool b := by
        cases p with
        | lit a =>
          simp only [meets, Option.some.injEq] at h1
          subst h1
          have : a = b := hx _ List.mem_cons_self
          subst this
          cases r1
          rfl
        | sb id' neg' a pt' pf' =>
          simp only [meets, Option.some.injEq] at h1
          subst h1
          have : a = b := hx _ List.mem_cons_self
          subst this
          cases r1
          rfl
        | _ => simp [meets] at h1
      subst this
      exact .sb t2 t3 fun h0 => absurd t1 h0
    | str b =>
      cases p with
      | str a =>
        simp only [meets, Option.some.injEq] at h1
        subst h1
        have : a = b := hx _ List.mem_cons_self
        subst this
        cases r1
        exact .str
      | _ => simp [meets] at h1
    | list c l o =>
      have hm : ∃ l', asL (stdA X tbl inv meas) c p = some l' ∧ l' = l ∧ (o.isSome = true → isOwn st p = true) := by
        have e : meets (stdA X tbl inv meas) st p (.list c l o) = (bif o.isSome && !isOwn st p then none else (asL (stdA X tbl inv meas) c p).map fun l' => [(stdA X tbl inv meas).eqL c l' l]) := by
          cases p <;> rfl
        rw [e] at h1
        rcases cond_some h1 with ⟨hb, h4⟩ | ⟨_, hb⟩
        · obtain ⟨l', hl, rfl⟩ := Option.map_eq_some_iff.1 h4
          refine ⟨l', hl, hx _ List.mem_cons_self, fun hs => ?_⟩
          rw [hs] at hb
          simpa using hb
        · cases hb
      obtain ⟨l', hl, rfl, hown⟩ := hm
      have rl := asL_sound r1 hl
      have rp := rl.plain ok2.plain hg hM' .list
      cases o with
      | none => exact rp
      | some b =>
        obtain ⟨j, s⟩ := b
        have hs0 : s = 0 := hT
        subst hs0
        have hown := hown rfl
        have hj : j < w'.n := hn j (by simp [ownIds])
        have hcur : ∀ cur, w'.owns j = some cur → 0 ≤ cur := fun _ _ => Nat.zero_le _
        rcases list_cases rp with ⟨rfl, rfl⟩ | ⟨nm, gn, off, cap, cs, e, gen, floor, frz, ex, rfl, hg', hf, hM2, hlen, hz, hcap, hcell, _⟩
        · exact .nlist ⟨hj, hcur, fun _ => trivial, fun _ => trivial⟩
        · refine .list hg' hf hM2 rfl hlen hz hcap hcell ⟨hj, hcur, fun _ => ?_, fun h => by cases h⟩
          cases p with
          | list c2 l2 o2 =>
            cases o2 with
            | none => simp [isOwn] at hown
            | some a =>
              obtain ⟨i, s2⟩ := a
              have hcl : c2 = c := by
                unfold asL at hl
                simp only at hl
                split at hl
                · assumption
                · cases hl
              subst hcl
              have hls : look st.owns i = some s2 := by
                simp only [isOwn] at hown
                split at hown
                · rename_i s3 hs3
                  rw [hs3, Nat.eq_of_beq_eq_true hown]
                · cases hown
              have hll : l2.length = l'.length := by
                unfold asL at hl
                simp only at hl
                split at hl
                · cases hl; rfl
                · cases hl
              have hclaim : OwnV w sz i c2 (.slice nm gn off l'.length (sz c2) cap) := by
                rcases list_cases r1 with ⟨_, hh⟩ | ⟨nm3, gn3, off3, cap3, cs3, e3, gen3, floor3, frz3, ex3, hh, _, _, _, _, _, _, _, ho3⟩
                · cases hh
                · rw [hh]; exact ho3.2.2.1 (by rw [R.owns]; exact hls)
              have heta : w'.eta j = w.eta i := he j i (by simp [ownPairs])
              simp only [OwnV] at hclaim ⊢
              rcases hclaim with hc | ⟨hc1, hc2, cs4, e4, floor4, frz4, ex4, hg4, hr4⟩
              · exact .inl hc
              · exact .inr ⟨hc1, by rw [heta]; exact hc2, cs4, e4, floor4, frz4, ex4, by rw [hg]; exact hg4, hr4.1, hr4.2.1, by rw [hce]; exact hr4.2.2⟩
          | nils => cases r1
          | _ => simp [isOwn] at hown
    | _ => cases p <;> simp [meets] at h1

theorem flatV_rep {ps : List (PV K)} {vs : List V} (r : RepL X sz w ps vs) : RepL X sz w (ps.flatMap P.cellsOf) (vs.flatMap V.cells) := by
  induction ps generalizing vs with
  | nil => rw [r.nil_iff]; exact .nil
  | cons p ps ih =>
    obtain ⟨v, vs', rfl, r1, r2⟩ := r.uncons
    exact r1.cells.append (ih r2)

theorem alike1_split {w' : Wd} {p r : PV K} {v : V} {cs : List (PV K)} {us : List V} (ha : alike1 p r = true) (rp : Rep X sz w p v) (h : RepL X sz w' (r.cellsOf ++ cs) (v.cells ++ us)) : Rep X sz w' r v ∧ RepL X sz w' cs us := by
  have sp : ∀ {a : List (PV K)} {b : List V}, a.length = b.length → RepL X sz w' (a ++ cs) (b ++ us) → RepL X sz w' a b ∧ RepL X sz w' cs us := by
    intro a b hl hr
    have h1 := hr.take a.length
    have h2 := hr.drop a.length
    rw [List.take_left' rfl] at h1
    rw [List.drop_left' rfl] at h2
    rw [hl, List.take_left' rfl] at h1
    rw [hl, List.drop_left' rfl] at h2
    exact ⟨h1, h2⟩
  cases p with
  | agg a =>
    obtain ⟨vs, rfl, rl⟩ := rp.agg_iff
    cases r with
    | agg b =>
      simp only [alike1] at ha
      have hl := Nat.eq_of_beq_eq_true ha
      obtain ⟨q1, q2⟩ := sp (a := b) (b := vs) (by rw [← hl, rl.1]) h
      exact ⟨.agg' q1, q2⟩
    | _ => simp [alike1] at ha
  | tuple a => cases r <;> simp [alike1] at ha
  | _ =>
    have hv := rp.cellsOf (by intro ps hh; cases hh)
    cases r with
    | agg b => simp [alike1] at ha
    | tuple b => simp [alike1] at ha
    | _ =>
      obtain ⟨q1, q2⟩ := sp (a := P.cellsOf _) (b := v.cells) (by rw [hv.2]; rfl) h
      rw [hv.2] at q1
      obtain ⟨u, us', he, e1, e2⟩ := RepL.uncons q1
      simp only [List.cons.injEq] at he
      obtain ⟨rfl, rfl⟩ := he
      exact ⟨e1, q2⟩

theorem alikes_rep {w' : Wd} : ∀ {ps rs : List (PV K)} {vs : List V}, alikes ps rs = true → RepL X sz w ps vs → RepL X sz w' (rs.flatMap P.cellsOf) (vs.flatMap V.cells) → RepL X sz w' rs vs
  | [], [], vs, _, r, _ => by rw [r.nil_iff]; exact .nil
  | [], _ :: _, vs, h, _, _ => by simp [alikes] at h
  | _ :: _, [], vs, h, _, _ => by simp [alikes] at h
  | p :: ps, q :: rs, vs, h, r, h2 => by
    obtain ⟨v, vs', rfl, r1, r2⟩ := r.uncons
    simp only [alikes, Bool.and_eq_true] at h
    rw [List.flatMap_cons, List.flatMap_cons] at h2
    obtain ⟨a1, a2⟩ := alike1_split h.1 r1 h2
    exact .cons a1 (alikes_rep h.2 r2 a2)

theorem flat_one' {p : PV K} (h : ∀ ps, p ≠ .tuple ps) : p.flat = p.cellsOf := by
  cases p with
  | tuple ps => exact absurd rfl (h ps)
  | _ => rfl

theorem shape_rep {w' : Wd} {p r : PV K} {v : V} (hs : shapeOk p r = true) (rp : Rep X sz w p v) (h : ∀ us, RepL X sz w p.flat us → RepL X sz w' r.flat us) : Rep X sz w' r v := by
  by_cases hp : ∃ ps, p = .tuple ps
  · obtain ⟨ps, rfl⟩ := hp
    obtain ⟨vs, rfl, rl⟩ := rp.tuple_iff
    by_cases hr : ∃ rs, r = .tuple rs
    · obtain ⟨rs, rfl⟩ := hr
      have hs' : alikes ps rs = true := hs
      exact .tuple' (alikes_rep hs' rl (h _ (flatV_rep rl)))
    · exfalso
      cases r with
      | tuple rs => exact hr ⟨rs, rfl⟩
      | _ => cases hs
  · by_cases hr : ∃ rs, r = .tuple rs
    · exfalso
      obtain ⟨rs, rfl⟩ := hr
      cases p with
      | tuple ps => exact hp ⟨ps, rfl⟩
      | _ => cases hs
    · have hs' : alike1 p r = true := by
        cases p with
        | tuple ps => exact absurd ⟨ps, rfl⟩ hp
        | _ => cases r with
          | tuple rs => exact absurd ⟨rs, rfl⟩ hr
          | _ => exact hs
      have h1 := h v.cells (by rw [flat_one' (fun ps he => hp ⟨ps, he⟩)]; exact rp.cells)
      rw [flat_one' (fun rs he => hr ⟨rs, he⟩)] at h1
      exact (alike1_split (cs := []) (us := []) hs' rp (by simpa using h1)).1

/-- What the conditions of a function show. -/
theorem fn_of_top (ok : CfgOk X sz C) (ok2 : CfgOk2 X C) (tok : TblOk X sz C tbl) (hq : Quiet3 C) {depth f : Nat} {args : List (PV K)} {r : PV K} (hpl : ∀ p ∈ args, Plain p) (hT : ∀ p ∈ r.flat, RT p) (h : wpTop (stdA X tbl inv meas) C depth f args r) : FnOk X sz C f args r := by
  intro H M vs S ra
  unfold wpTop at h
  have hle1 : Le (wd0 H M C.codec) { wd0 H M C.codec with n := 1 } := Le.ext (w := wd0 H M C.codec) (m := 1) (nu' := fun _ => false) (Nat.zero_le _) (fun _ _ => rfl)
  have ra1 := ra.mono ok.len hle1
  obtain ⟨nu', g1, g2, g3⟩ := freshD_sound ok.len ra1 (Nat.le_refl 1)
  let w0 : Wd := { wd0 H M C.codec with n := (freshD args 1).2, nu := nu' }
  have hle0 : Le (wd0 H M C.codec) w0 := Le.ext (w := wd0 H M C.codec) (Nat.zero_le _) (fun id hi => by have : id < 0 := hi; omega)
  have R0 : RelH X sz C H { tmps := .nil, n := 0, cells := [], owns := [], next := (freshD args 1).2, known := [] } H w0 := by
    refine ⟨S.wf, S.ro, rfl, rfl, rfl, S.Mlt, rfl, g2, .refl H, fun _ hc => False.elim hc, fun _ _ hc => False.elim hc, fun id ps hl => (by cases hl), fun _ => rfl, fun i s hl => (by cases hl), fun i s nm hl => (by cases hl), fun i j s s' nm hl => (by cases hl), rfl, fun id b hl => (by cases hl), fun gn ps hg => ?_⟩
    obtain ⟨q0, vs', e', fl, fz, ex', q1, q2, q3⟩ := S.globs gn ps hg
    exact ⟨q0, vs', e', fl, fz, ex', q1, q2, q3.mono ok.len hle0⟩
  refine (wpBody_sound ok ok2 tok hq (wpInl_ok ok ok2 tok hq depth) h R0 g3).mono fun v H' hA => ?_
  obtain ⟨p, st', w', hk, _, _, R, hle, rp⟩ := hA
  unfold ends at hk
  obtain ⟨hb, hk⟩ := cond_prop hk
  simp only [Bool.and_eq_true] at hb
  split at hk
  · rename_i l hl
    obtain ⟨hobs, _⟩ := ands_inv hk
    let pairs := ownPairs p.flat r.flat
    have hnd : (pairs.map (·.1)).Nodup := (distinct_nodup hb.2).sublist ownPairs_fst
    have hnd2 : (pairs.map (·.2)).Nodup := by rw [ownPairs_snd]; exact distinct_nodup hb.1.2
    let w2 : Wd := { g := H'.get, M := fun n => if n < H.next then M n else w'.M n, c := fun _ => 0, nu := fun _ => false, n := idsMax (ownIds r.flat), owns := fun _ => some 0, eta := fun j => (look pairs j).bind w'.eta, ce := C.codec, cl := fun _ => False, nx := H'.next, b := H.next }
    have heta : ∀ j i, (j, i) ∈ pairs → w2.eta j = w'.eta i := by
      intro j i hm
      show (look pairs j).bind w'.eta = _
      rw [look_of_mem hnd hm]
      rfl
    have hinv : ∀ j nm, w2.eta j = some nm → ∃ i, (j, i) ∈ pairs ∧ w'.eta i = some nm := by
      intro j nm he
      obtain ⟨i, h1, h2⟩ := Option.bind_eq_some_iff.1 he
      exact ⟨i, look_mem h1, h2⟩
    have hold := R.keeps
    refine ⟨w2, R.keeps, R.wf, rfl, fun n hn => ?_, fun n hn => ?_, rfl, rfl, fun _ => rfl, fun j nm he => ?_, fun j1 j2 nm e1 e2 => ?_, ?_⟩
    · show (if n < H.next then M n else w'.M n) ↔ M n
      rw [if_pos hn]
    · have hn' : (if n < H.next then M n else w'.M n) := hn
      split at hn'
      · rename_i hlt; exact Nat.lt_of_lt_of_le hlt R.keeps.next
      · exact R.Mlt n hn'
    · obtain ⟨i, h1, h2⟩ := hinv j nm he
      obtain ⟨s, hs⟩ := ownPairs_own hl j i h1
      obtain ⟨b1, b2, b3⟩ := R.eta i s nm hs h2
      refine ⟨b1, b2, ?_⟩
      show ¬ (if nm < H.next then M nm else w'.M nm)
      rw [if_neg (by omega)]
      exact b3
    · obtain ⟨i1, a1, b1⟩ := hinv j1 nm e1
      obtain ⟨i2, a2, b2⟩ := hinv j2 nm e2
      obtain ⟨s1, hs1⟩ := ownPairs_own hl j1 i1 a1
      obtain ⟨s2, hs2⟩ := ownPairs_own hl j2 i2 a2
      have := R.einj i1 i2 s1 s2 nm hs1 hs2 b1 b2
      subst this
      have key : ∀ (l : List (Nat × Nat)), (l.map (·.2)).Nodup → (j1, i1) ∈ l → (j2, i1) ∈ l → j1 = j2 := by
        intro l
        induction l with
        | nil => intro _ h; cases h
        | cons x l ih =>
          intro hn h1 h2
          simp only [List.map_cons, List.nodup_cons] at hn
          rcases List.mem_cons.1 h1 with h1 | h1 <;> rcases List.mem_cons.1 h2 with h2 | h2
          · rw [← h1] at h2; cases h2; rfl
          · exact absurd (List.mem_map.2 ⟨_, h2, by rw [← h1]⟩) hn.1
          · exact absurd (List.mem_map.2 ⟨_, h1, by rw [← h2]⟩) hn.1
          · exact ih hn.2 h1 h2
      exact key pairs hnd2 a1 a2
    · refine shape_rep hb.1.1 rp fun us hus => ?_
      exact meetsL_sound ok2 R (w' := w2) R.g.symm (fun nm x _ hm => by
        show ¬ (if nm < H.next then M nm else w'.M nm)
        split
        · rename_i hlt; exact fun h0 => hm (hle.Mu nm hlt h0)
        · exact hm) R.ce.symm (fun _ => rfl) hl hobs hus hT heta (fun j hj => (idsMax_le _ 0).2 j hj)
  · exact absurd hk id

end
end Go.E3

/- E3: TOOLS for claims: tables by lists, list elements of a claim's own types. -/
namespace Go.E3
open Go Go.E2

variable {K : Nat → Type}

def annOf : List (Nat × Nat × Ann) → Nat → Nat → Option Ann
  | [], _, _ => none
  | (f, p, a) :: l, g, q => bif Nat.beq f g && Nat.beq p q then some a else annOf l g q

abbrev Ct (K : Nat → Type) := List Sh × (List (NV K) → Option (Prop × PV K))

def tblOf : List (Nat × Ct K) → Tbl K
  | [], _ => none
  | (f, c) :: l, g => bif Nat.beq f g then some c else tblOf l g

section
variable {X : Codecs K} {sz : Nat → Nat} {C : Cfg Int Bool (List UInt8) Prop (fun c => List (K c))}

def CtOk (X : Codecs K) (sz : Nat → Nat) (C : Cfg Int Bool (List UInt8) Prop (fun c => List (K c))) (f : Nat) (c : Ct K) : Prop :=
  ∀ ns pre r, c.2 ns = some (pre, r) → pre → ∃ args, canonS c.1 ns = some args ∧ FnOk X sz C f args r ∧ Form r

theorem tblOk_nil : TblOk X sz C (tblOf []) := fun f shs res ns pre r h => by cases h

theorem tblOk_cons {f : Nat} {c : Ct K} {l : List (Nat × Ct K)} (h : CtOk X sz C f c) (hl : TblOk X sz C (tblOf l)) : TblOk X sz C (tblOf ((f, c) :: l)) := by
  intro g shs res ns pre r h1 h2 h3
  simp only [tblOf, cond_eq_ite, Nat.beq_eq] at h1
  split at h1
  · rename_i hf
    subst hf
    cases h1
    exact h ns pre r h2 h3
  · exact hl g shs res ns pre r h1 h2 h3

theorem CfgOk.ann (h : CfgOk X sz C) (a : Nat → Nat → Option Ann) : CfgOk X sz { C with ann := a } := ⟨h.len, h.pos, h.size, h.inj, h.one, h.u8, h.pack⟩
theorem CfgOk2.ann (h : CfgOk2 X C) (a : Nat → Nat → Option Ann) : CfgOk2 X { C with ann := a } := ⟨h.plain, h.glob⟩

theorem FnOk.ann {f : Nat} {args : List (PV K)} {r : PV K} (h : FnOk X sz C f args r) (a : Nat → Nat → Option Ann) : FnOk X sz { C with ann := a } f args r := by
  intro H M vs S ra
  refine (h H M vs ⟨S.wf, S.ro, S.Mlt, S.globs⟩ ra).mono fun v H' hA => ?_
  obtain ⟨w', b⟩ := hA
  exact ⟨w', b.keeps, b.wf, b.g, b.M, b.Mlt, b.ce, b.n, b.owns, b.eta, b.einj, b.rep⟩

theorem FnOk.unann {f : Nat} {args : List (PV K)} {r : PV K} {a : Nat → Nat → Option Ann} (h : FnOk X sz { C with ann := a } f args r) : FnOk X sz C f args r := by
  intro H M vs S ra
  refine (h H M vs ⟨S.wf, S.ro, S.Mlt, S.globs⟩ ra).mono fun v H' hA => ?_
  obtain ⟨w', b⟩ := hA
  exact ⟨w', b.keeps, b.wf, b.g, b.M, b.Mlt, b.ce, b.n, b.owns, b.eta, b.einj, b.rep⟩

/-- A function's contract from its condition. -/
theorem fn_ok (ok : CfgOk X sz C) (ok2 : CfgOk2 X C) {l : List (Nat × Ct K)} (tok : TblOk X sz C (tblOf l)) (hq : Quiet3 C) {inv : Nat → List (NV K) → Prop} {meas : Nat → List (NV K) → Nat} {ann : List (Nat × Nat × Ann)} {depth f : Nat} {args : List (PV K)} {r : PV K} {VC : Prop}
    (hpl : ∀ p ∈ args, Plain p) (hT : ∀ p ∈ r.flat, RT p) (hvc : wpTop (stdA X (tblOf l) inv meas) { C with ann := annOf ann } depth f args r = VC) (h : VC) : FnOk X sz C f args r :=
  fn_of_top (C := { C with ann := annOf ann }) (tbl := tblOf l) (inv := inv) (meas := meas) (ok.ann _) (ok2.ann _) (fun f shs res ns pre r h1 h2 h3 => by
    obtain ⟨as, e1, e2, e3⟩ := tok f shs res ns pre r h1 h2 h3
    exact ⟨as, e1, e2.ann _, e3⟩) hq hpl hT (hvc.symm ▸ h) |>.unann

/-! ### Forms, by computation -/
def plain1 : PV K → Bool
  | .int .. | .lit _ | .str _ | .nils | .nilp | .nilf | .nili => true
  | .sb 0 _ _ _ _ => true
  | .list _ _ none => true
  | .func _ [] [] => true
  | _ => false
def plainB : PV K → Bool
  | .agg ps => ps.all plain1
  | p => plain1 p
theorem plain1_ok {p : PV K} (h : plain1 p = true) : Plain p := by
  unfold plain1 at h
  split at h <;> first | (cases h; done) | constructor
theorem plainB_ok {p : PV K} (h : plainB p = true) : Plain p := by
  unfold plainB at h
  split at h
  · exact .agg fun p hp => plain1_ok (List.all_eq_true.1 h p hp)
  · exact plain1_ok h
theorem plains_ok {ps : List (PV K)} (h : ps.all plainB = true) : ∀ p ∈ ps, Plain p := fun p hp => plainB_ok (List.all_eq_true.1 h p hp)

def simpleB : PV K → Bool
  | .int .. | .lit _ | .str _ => true
  | .sb 0 _ _ _ _ => true
  | .list _ _ none => true
  | .list _ _ (some (_, 0)) => true
  | _ => false
def form1B : PV K → Bool
  | .agg ps => ps.all simpleB
  | p => simpleB p
def formB : PV K → Bool
  | .tuple l => l.all form1B
  | p => form1B p
theorem simpleB_ok {p : PV K} (h : simpleB p = true) : Simple p := by
  unfold simpleB at h
  split at h <;> first | (cases h; done) | constructor
theorem form1B_ok {p : PV K} (h : form1B p = true) : Form1 p := by
  unfold form1B at h
  split at h
  · exact .agg fun p hp => simpleB_ok (List.all_eq_true.1 h p hp)
  · exact .one (simpleB_ok h)
theorem formB_ok {p : PV K} (h : formB p = true) : Form p := by
  unfold formB at h
  split at h
  · exact .tuple fun p hp => form1B_ok (List.all_eq_true.1 h p hp)
  · exact .one (form1B_ok h)

/-! ### Cells of a claim's own types -/
def getI (k : IntKind) : PV K → Option Int
  | .int k' _ n => if k = k' then some n else none
  | _ => none
def getB : PV K → Option Bool
  | .lit b => some b
  | .sb _ _ b _ _ => some b
  | _ => none
def getS : PV K → Option (List UInt8)
  | .str s => some s
  | _ => none
def getL (c : Nat) : PV K → Option (List (K c))
  | .nils => some []
  | .list c' l _ => if h : c' = c then some (h ▸ l) else none
  | _ => none

variable {w : Wd}
theorem getI_rep {k : IntKind} {p : PV K} {n : Int} {v : V} (h : getI k p = some n) (r : Rep X sz w p v) : Rep X sz w (.int k none n) v := by
  unfold getI at h
  split at h
  · split at h
    · rename_i hk; subst hk; cases h; cases r; exact .int fun m hm => by cases hm
    · cases h
  · cases h
theorem getB_rep {p : PV K} {b : Bool} {v : V} (h : getB p = some b) (r : Rep X sz w p v) : Rep X sz w (.sb 0 false b (b = true) (b = false)) v := by
  unfold getB at h
  split at h
  · cases h; cases r; exact .sb .rfl .rfl fun h0 => absurd rfl h0
  · cases h; cases r; exact .sb .rfl .rfl fun h0 => absurd rfl h0
  · cases h
theorem getS_rep {p : PV K} {s : List UInt8} {v : V} (h : getS p = some s) (r : Rep X sz w p v) : Rep X sz w (.str s) v := by
  unfold getS at h
  split at h
  · cases h; exact r
  · cases h
theorem getL_rep (tbl : Tbl K) (inv : Nat → List (NV K) → Prop) (meas : Nat → List (NV K) → Nat) {c : Nat} {p : PV K} {l : List (K c)} {v : V} (h : getL c p = some l) (r : Rep X sz w p v) : Rep X sz w (.list c l none) v := by
  have : asL (stdA X tbl inv meas) c p = some l := by
    cases p <;> exact h
  exact asL_sound r this
theorem getL_rep' {c : Nat} {p : PV K} {l : List (K c)} {v : V} (h : getL c p = some l) (r : Rep X sz w p v) : Rep X sz w (.list c l none) v := getL_rep (fun _ => none) (fun _ _ => True) (fun _ _ => 0) h r

theorem rep_cons {p q : PV K} {ps qs : List (PV K)} {vs : List V} (h : ∀ v, Rep X sz w p v → Rep X sz w q v) (hl : ∀ us, RepL X sz w ps us → RepL X sz w qs us) (r : RepL X sz w (p :: ps) vs) : RepL X sz w (q :: qs) vs := by
  obtain ⟨v, vs', rfl, r1, r2⟩ := r.uncons
  exact .cons (h v r1) (hl vs' r2)
end
end Go.E3

/- E3: FUNCTIONS WITHOUT A BODY as contracts. -/
namespace Go.E3
open Go Go.E2

variable {K : Nat → Type}

/-- The first place at which a byte stands, or -1. -/
def idxB (s : List UInt8) (c : Int) : Int := match s.findIdx? (fun b => b == c.toNat.toUInt8) with | some i => (i : Int) | none => -1

/-- How often a byte stands there. -/
def cntB (s : List UInt8) (c : Int) : Int := ((s.countP (fun b => b == c.toNat.toUInt8) : Nat) : Int)

section
variable {X : Codecs K} {sz : Nat → Nat} {C : Cfg Int Bool (List UInt8) Prop (fun c => List (K c))}

/-- A function that leaves the memory as it is and makes nothing. -/
theorem fn_ext (ok2 : CfgOk2 X C) (hq : Quiet3 C) {f : Nat} {fi : FI} {args : List (PV K)} {r : PV K} (hans : C.ans f = false) (hf : C.E.funcs f = some fi) (hb : fi.body = none) (hp : Plain r) (hr : ownIds r.flat = [])
    (h : ∀ H M vs, Start X sz C H M → RepL X sz (wd0 H M C.codec) args vs → ∃ v, extV fi.ext vs = some v ∧ Rep X sz (wd0 H M C.codec) r v) : FnOk X sz C f args r := by
  intro H M vs S ra
  obtain ⟨v, hv, rv⟩ := h H M vs S ra
  let w' : Wd := { wd0 H M C.codec with owns := fun _ => some 0 }
  have rv' : Rep X sz w' r v := Rep.plain (w := wd0 H M C.codec) (w' := w') ok2.plain rfl (fun _ _ _ h => h) rv hp
  refine callW_ext (hq.1 f hans) hf hb hv ⟨w', ?_⟩
  refine ⟨.refl H, S.wf, rfl, fun n _ => .rfl, S.Mlt, rfl, ?_, fun _ => rfl, fun i nm he => (by cases he), fun i j nm he => (by cases he), rv'⟩
  rw [hr]
  rfl

/-- A function without arguments whose calls a fact answers. -/
theorem fn_const (ok2 : CfgOk2 X C) {f : Nat} {r : PV K} {v : V} (hp : Plain r) (hr : ownIds r.flat = []) (h : ∀ H, H.glob = C.ng → CallW C.E (.func f) [] H fun u H' => u = v ∧ H' = H) (hv : ∀ H M, Rep X sz (wd0 H M C.codec) r v) : FnOk X sz C f [] r := by
  intro H M vs S ra
  have := ra.nil_iff; subst this
  refine (h H S.ro.2).mono fun u H' hA => ?_
  obtain ⟨rfl, rfl⟩ := hA
  let w' : Wd := { wd0 H' M C.codec with owns := fun _ => some 0 }
  have rv' : Rep X sz w' r u := Rep.plain (w := wd0 H' M C.codec) (w' := w') ok2.plain rfl (fun _ _ _ h => h) (hv H' M) hp
  refine ⟨w', ?_⟩
  refine ⟨.refl H', S.wf, rfl, fun n _ => .rfl, S.Mlt, rfl, ?_, fun _ => rfl, fun i nm he => (by cases he), fun i j nm he => (by cases he), rv'⟩
  rw [hr]
  rfl

theorem index_ok (ok2 : CfgOk2 X C) (hq : Quiet3 C) {f : Nat} {fi : FI} (hans : C.ans f = false) (hf : C.E.funcs f = some fi) (hb : fi.body = none) (he : fi.ext = 1) (s : List UInt8) (c : Int) :
    FnOk X sz C f [.str s, .int .u8 none c] (.int .i64 none (idxB s c)) := by
  refine fn_ext ok2 hq hans hf hb .int rfl fun H M vs S ra => ?_
  obtain ⟨v, vs', rfl, r1, r2⟩ := ra.uncons
  obtain ⟨u, vs'', rfl, r3, r4⟩ := r2.uncons
  have := r4.nil_iff; subst this
  cases r1; cases r3
  exact ⟨.int .i64 (idxB s c), by rw [he]; rfl, .int fun m hm => by cases hm⟩

theorem count_ok (ok2 : CfgOk2 X C) (hq : Quiet3 C) {f : Nat} {fi : FI} (hans : C.ans f = false) (hf : C.E.funcs f = some fi) (hb : fi.body = none) (he : fi.ext = 2) (s : List UInt8) (c : Int) :
    FnOk X sz C f [.str s, .int .u8 none c] (.int .i64 none (cntB s c)) := by
  refine fn_ext ok2 hq hans hf hb .int rfl fun H M vs S ra => ?_
  obtain ⟨v, vs', rfl, r1, r2⟩ := ra.uncons
  obtain ⟨u, vs'', rfl, r3, r4⟩ := r2.uncons
  have := r4.nil_iff; subst this
  cases r1; cases r3
  exact ⟨.int .i64 (cntB s c), by rw [he]; rfl, .int fun m hm => by cases hm⟩

theorem ext_info {f e : Nat} (h : (C.E.funcs f).map (fun fi => (fi.body.isNone, fi.ext)) = some (true, e)) : ∃ fi, C.E.funcs f = some fi ∧ fi.body = none ∧ fi.ext = e := by
  obtain ⟨fi, h1, h2⟩ := Option.map_eq_some_iff.1 h
  simp only [Prod.mk.injEq, Option.isNone_iff_eq_none] at h2
  exact ⟨fi, h1, h2.1, h2.2⟩

theorem index_ok' (ok2 : CfgOk2 X C) (hq : Quiet3 C) {f : Nat} (hans : C.ans f = false) (hf : (C.E.funcs f).map (fun fi => (fi.body.isNone, fi.ext)) = some (true, 1)) (s : List UInt8) (c : Int) :
    FnOk X sz C f [.str s, .int .u8 none c] (.int .i64 none (idxB s c)) := by
  obtain ⟨fi, h1, h2, h3⟩ := ext_info hf
  exact index_ok ok2 hq hans h1 h2 h3 s c

theorem count_ok' (ok2 : CfgOk2 X C) (hq : Quiet3 C) {f : Nat} (hans : C.ans f = false) (hf : (C.E.funcs f).map (fun fi => (fi.body.isNone, fi.ext)) = some (true, 2)) (s : List UInt8) (c : Int) :
    FnOk X sz C f [.str s, .int .u8 none c] (.int .i64 none (cntB s c)) := by
  obtain ⟨fi, h1, h2, h3⟩ := ext_info hf
  exact count_ok ok2 hq hans h1 h2 h3 s c

end
end Go.E3

/- E3: ARGUMENTS THAT LIE IN MEMORY: slices whose elements are numbers, conditions, texts, structs of such. -/
namespace Go.E3
open Go Go.E2

variable {K : Nat → Type}

/-! ### The whole memory, block by block -/
/-- A cell's value, where one is known. -/
def absW : Value → V
  | .int k n => .int k n
  | .bool b => .bool b
  | .string s => .str s.data.toList
  | _ => .tuple [.map 0]

theorem absW_rel (G : Ghost) (W : World) (x : Value) : isHole (absW x) = true ∨ Go.E2.Rel G W (absW x) x := by
  cases x with
  | int k n => right; simp [absW, Go.E2.Rel]
  | bool b => right; simp [absW, Go.E2.Rel]
  | string s => right; simp [absW, Go.E2.Rel]
  | _ => exact .inl rfl

theorem relC_map (G : Ghost) (W : World) : ∀ l : List Value, RelC G W (l.map absW) l
  | [] => by simp [RelC]
  | x :: l => by
    simp only [List.map_cons, RelC]
    exact ⟨x, l, rfl, absW_rel G W x, relC_map G W l⟩

def objW (W : World) (b : Nat) : Option (Nat × O) :=
  match W.heap[b]? with
  | some (.cells arr e fz) => some (b, .row (arr.toList.map absW) e 0 0 fz.2 false)
  | _ => none

def objsW (W : World) : List (Nat × O) := (List.range W.heap.size).filterMap (objW W)

theorem objW_some {W : World} {b : Nat} {x : Nat × O} (h : objW W b = some x) : ∃ arr e fz, W.heap[b]? = some (.cells arr e fz) ∧ x = (b, .row (arr.toList.map absW) e 0 0 fz.2 false) := by
  unfold objW at h
  split at h
  · rename_i arr e fz hb
    exact ⟨arr, e, fz, hb, (Option.some.inj h).symm⟩
  · cases h

theorem objsW_mem {W : World} {b : Nat} {o : O} (h : (b, o) ∈ objsW W) : ∃ arr e fz, W.heap[b]? = some (.cells arr e fz) ∧ o = .row (arr.toList.map absW) e 0 0 fz.2 false := by
  obtain ⟨b', _, h2⟩ := List.mem_filterMap.1 h
  obtain ⟨arr, e, fz, h3, h4⟩ := objW_some h2
  cases h4
  exact ⟨arr, e, fz, h3, rfl⟩

def heapW (W : World) (ng : Nat) : Heap := { objs := treeOf (objsW W), next := W.heap.size, ro := W.heap.size, glob := ng }

theorem heapW_get {W : World} {ng b : Nat} {arr : Array Value} {e : TypeId} {fz : Nat × Nat} (h : W.heap[b]? = some (.cells arr e fz)) : (heapW W ng).get b = some (.row (arr.toList.map absW) e 0 0 fz.2 false) := by
  have hm : (b, O.row (arr.toList.map absW) e 0 0 fz.2 false) ∈ objsW W := by
    refine List.mem_filterMap.2 ⟨b, List.mem_range.2 (lt_of_heap h), ?_⟩
    unfold objW
    rw [h]
  obtain ⟨o, ho⟩ := get_treeOf_mem hm
  obtain ⟨arr', e', fz', h', rfl⟩ := objsW_mem (get_treeOf _ _ _ ho)
  rw [h] at h'
  cases h'
  exact ho

theorem heapW_some {W : World} {ng b : Nat} {o : O} (h : (heapW W ng).get b = some o) : ∃ arr e fz, W.heap[b]? = some (.cells arr e fz) ∧ o = .row (arr.toList.map absW) e 0 0 fz.2 false :=
  objsW_mem (get_treeOf _ _ _ h)

def ghostW (W : World) : Ghost := fun nm g => if g = 0 then (match W.heap[nm]? with
  | some (.cells arr _ _) => some (nm, 0, arr.size)
  | _ => none) else none

theorem ghostW_some {W : World} {nm g : Nat} {x : Nat × Nat × Nat} (h : ghostW W nm g = some x) : g = 0 ∧ ∃ arr e fz, W.heap[nm]? = some (.cells arr e fz) ∧ x = (nm, 0, arr.size) := by
  unfold ghostW at h
  split at h
  · rename_i hg
    split at h
    · rename_i arr e fz hb
      exact ⟨hg, arr, e, fz, hb, (Option.some.inj h).symm⟩
    · cases h
  · cases h

theorem ghostW_of {W : World} {b : Nat} {arr : Array Value} {e : TypeId} {fz : Nat × Nat} (h : W.heap[b]? = some (.cells arr e fz)) : ghostW W b 0 = some (b, 0, arr.size) := by
  unfold ghostW
  rw [if_pos rfl, h]

theorem simW {W : World} {ng : Nat} (hng : ng ≤ W.heap.size) : Sim (heapW W ng) (ghostW W) W := by
  refine ⟨fun nm g b sh n h => ?_, fun nm g b sh n nm' g' sh' n' h h' => ?_, fun nm o _ ho => ?_, Nat.le_refl _, hng, fun g o _ ho => ?_⟩
  · obtain ⟨_, arr, e, fz, hb, hx⟩ := ghostW_some h
    cases hx
    exact ⟨lt_of_heap hb, lt_of_heap hb⟩
  · obtain ⟨_, _, _, _, _, hx⟩ := ghostW_some h
    obtain ⟨_, _, _, _, _, hx'⟩ := ghostW_some h'
    cases hx
    cases hx'
    exact ⟨rfl, rfl⟩
  · obtain ⟨arr, e, fz, hb, rfl⟩ := heapW_some ho
    refine ⟨Nat.le_refl _, fun h => (by cases h), fun g b sh n hg => ?_⟩
    obtain ⟨rfl, arr', e', fz', hb', hx⟩ := ghostW_some hg
    rw [hb] at hb'
    cases hb'
    cases hx
    refine ⟨Nat.le_refl _, Nat.zero_le _, by simp, fun _ => by simp, fun h => (by cases h), fun _ => ⟨arr, fz, hb, by simp, ?_, fun _ i h1 h2 => by omega, fun h => (by cases h)⟩⟩
    rw [List.drop_zero, Nat.sub_zero, List.take_of_length_le (by simp), List.take_of_length_le (by simp)]
    exact relC_map _ _ _
  · obtain ⟨arr, e, fz, hb, _⟩ := heapW_some ho
    exact ⟨_, ghostW_of hb⟩

/-- What a step that writes to nothing that was there leaves as it was. -/
theorem extW_same {W w' : World} {G' : Ghost} (h : Ext W.heap.size (ghostW W) W G' w') : ∀ b, b < W.heap.size → w'.heap[b]? = W.heap[b]? := by
  intro b hb
  cases hc : ghostW W b 0 with
  | some x =>
    obtain ⟨_, arr, e, fz, _, rfl⟩ := ghostW_some hc
    exact h.ro b 0 b 0 _ hb hc
  | none =>
    refine (h.frg b hb fun nm g sh n hg => ?_).1
    obtain ⟨rfl, arr, e, fz, hb', hx⟩ := ghostW_some hg
    cases hx
    rw [ghostW_of hb'] at hc
    cases hc

/-! ### What is read -/
inductive Leaf4 where
  | int (k : IntKind)
  | bool
  | str
  | list (c : Nat)

def Leaf4.flat : Leaf4 → Bool
  | .list _ => false
  | _ => true

def tileFs (P : Program) (g : TypeId → Option (List Leaf4)) : List Field → Nat → Option (List Leaf4)
  | [], _ => some []
  | f :: fs, off => (g f.type).bind fun l => bif Nat.beq f.offset off && Nat.beq l.length (P.cellsOf f.type) then (tileFs P g fs (off + l.length)).map fun r => l ++ r else none

/-- The cells of a type, where they are numbers, conditions, texts, slices of elements with a number. -/
def tileT (P : Program) (cd : TypeId → Option Nat) : Nat → TypeId → Option (List Leaf4)
  | 0, _ => none
  | d + 1, t => match P.underlying t with
    | some (.int k) => some [.int k]
    | some .bool => some [.bool]
    | some .string => some [.str]
    | some (.slice e) => (cd e).map fun c => [.list c]
    | some (.struct fs) => (tileFs P (tileT P cd d) fs.toList 0).bind fun l => bif Nat.beq l.length (P.cellsOf t) then some l else none
    | _ => none

section
variable {Hd : Type} {enc : TypeId × Value → Hd} {P : Program} {W : World} {cd : TypeId → Option Nat}

def LeafRead (enc : TypeId × Value → Hd) (P : Program) (W : World) (cd : TypeId → Option Nat) : Leaf4 → Value → Prop
  | .int k, x => ∃ n, x = .int k n ∧ (Lit.int k n).wf = true
  | .bool, x => ∃ b, x = .bool b
  | .str, x => ∃ s, x = .string s ∧ s.size ≤ maxLen
  | .list c, x => x = .slice none 0 0 ∨ ∃ e a len cap, cd e = some c ∧ x = .slice (some a) len cap ∧ len ≤ cap ∧ cap ≤ maxLen ∧
      ∀ i, i < cap → ∃ cs m r, W.cells? 0 (a.add (i * P.cellsOf e)) (P.cellsOf e) = some cs ∧ DataW.trod enc P W 0 (fun _ => true) true m e cs = some r

theorem tileFs_read {Q : Leaf4 → Value → Prop} {cs : List Value} {g : TypeId → Option (List Leaf4)} : ∀ {fs : List Field} {off : Nat} {ls : List Leaf4}, tileFs P g fs off = some ls →
    (∀ f ∈ fs, ∀ l, g f.type = some l → l.length = P.cellsOf f.type → ∀ (i : Nat) leaf x, l[i]? = some leaf → ((cs.drop f.offset).take (P.cellsOf f.type))[i]? = some x → Q leaf x) →
    ∀ (i : Nat) leaf x, ls[i]? = some leaf → cs[off + i]? = some x → Q leaf x
  | [], off, ls, h, _, i, leaf, x, hl, _ => by
    simp only [tileFs, Option.some.injEq] at h
    subst h
    simp at hl
  | f :: fs, off, ls, h, hR, i, leaf, x, hl, hx => by
    simp only [tileFs] at h
    obtain ⟨l, h1, h2⟩ := Option.bind_eq_some_iff.1 h
    rcases cond_some h2 with ⟨_, h3⟩ | ⟨h3, h4⟩
    · cases h3
    · simp only [Bool.and_eq_true, Nat.beq_eq] at h3
      obtain ⟨rfl, hlen⟩ := h3
      obtain ⟨r, h5, rfl⟩ := Option.map_eq_some_iff.1 h4
      by_cases hi : i < l.length
      · rw [List.getElem?_append_left hi] at hl
        refine hR f List.mem_cons_self l h1 hlen i leaf x hl ?_
        rw [List.getElem?_take_of_lt (by omega), List.getElem?_drop]
        exact hx
      · rw [List.getElem?_append_right (by omega)] at hl
        refine tileFs_read h5 (fun f' hf' => hR f' (List.mem_cons_of_mem _ hf')) (i - l.length) leaf x hl ?_
        rw [show f.offset + l.length + (i - l.length) = f.offset + i by omega]
        exact hx

theorem trod_tile : ∀ (d : Nat) {n : Nat} {t : TypeId} {cs : List Value} {r : DataW Hd × List MemPlace} {ls : List Leaf4}, DataW.trod enc P W 0 (fun _ => true) true n t cs = some r → tileT P cd d t = some ls →
    cs.length = ls.length ∧ ∀ (i : Nat) leaf x, ls[i]? = some leaf → cs[i]? = some x → LeafRead enc P W cd leaf x
  | 0, n, t, cs, r, ls, h, ht => by cases ht
  | d + 1, n, t, cs, r, ls, h, ht => by
    have one : ∀ {leaf : Leaf4} {x : Value}, LeafRead enc P W cd leaf x → [x].length = [leaf].length ∧ ∀ (i : Nat) l y, [leaf][i]? = some l → [x][i]? = some y → LeafRead enc P W cd l y := by
      intro leaf x hr
      refine ⟨rfl, fun i l y h1 h2 => ?_⟩
      cases i with
      | zero => simp only [List.getElem?_cons_zero, Option.some.injEq] at h1 h2; subst h1; subst h2; exact hr
      | succ i => simp at h1
    simp only [tileT] at ht
    split at ht
    · rename_i k hu
      cases ht
      obtain ⟨m, rfl, _, hw⟩ := DataW.trod_int hu h
      exact one ⟨m, rfl, hw⟩
    · rename_i hu
      cases ht
      obtain ⟨b, rfl, _⟩ := DataW.trod_bool hu h
      exact one ⟨b, rfl⟩
    · rename_i hu
      cases ht
      obtain ⟨s, rfl, _, hs⟩ := DataW.trod_string hu h
      exact one ⟨s, rfl, hs⟩
    · rename_i e hu
      obtain ⟨c, hc, rfl⟩ := Option.map_eq_some_iff.1 ht
      rcases DataW.trod_slice hu h with ⟨rfl, _⟩ | ⟨a, len, cap, elems, rest, m, _, rfl, _, _, hl, hm, hel, he1, he2, _⟩
      · exact one (.inl rfl)
      · refine one (.inr ⟨e, a, len, cap, hc, rfl, hl, hm, fun i hi => ?_⟩)
        obtain ⟨hr1, hr2⟩ := he2 rfl
        by_cases hil : i < len
        · have := he1 i hil
          rw [List.getElem?_eq_getElem (by omega)] at this
          obtain ⟨cs', h1, h2⟩ := Option.bind_eq_some_iff.1 this
          exact ⟨cs', m, _, h1, h2⟩
        · have := hr2 (i - len) (by omega)
          rw [List.getElem?_eq_getElem (by omega), show len + (i - len) = i by omega] at this
          obtain ⟨cs', h1, h2⟩ := Option.bind_eq_some_iff.1 this
          exact ⟨cs', m, _, h1, h2⟩
    · rename_i fs hu
      obtain ⟨l, h1, h2⟩ := Option.bind_eq_some_iff.1 ht
      rcases cond_some h2 with ⟨_, h3⟩ | ⟨h3, h4⟩
      · cases h3
      · cases h4
        have hlen := Nat.eq_of_beq_eq_true h3
        obtain ⟨xs, m, _, _, hl, hxs, hf⟩ := DataW.trod_struct hu h
        refine ⟨by omega, fun i leaf x hi hx => ?_⟩
        refine tileFs_read (Q := LeafRead enc P W cd) (off := 0) h1 (fun f hfm l' hg hgl j lf y hj hy => ?_) i leaf x hi (by simpa using hx)
        obtain ⟨q, hq, rfl⟩ := List.mem_iff_getElem.1 hfm
        have h5 := hf q fs.toList[q] (by simp at hq ⊢)
        rw [List.getElem?_eq_getElem (by simp at hq; omega)] at h5
        exact (trod_tile d h5 hg).2 j lf y hj hy
    · cases ht

/-! ### As E3 has it -/
def LeafN (good : ∀ c, K c → Prop) : Leaf4 → PV K → Prop
  | .int k, p => ∃ n, p = .int k none n ∧ k.min ≤ n ∧ n ≤ k.max
  | .bool, p => ∃ b, p = .sb 0 false b (b = true) (b = false)
  | .str, p => ∃ s : List UInt8, p = .str s ∧ s.length ≤ maxLen
  | .list c, p => ∃ l : List (K c), p = .list c l none ∧ l.length ≤ maxLen ∧ ∀ x ∈ l, good c x

def LeavesN (good : ∀ c, K c → Prop) : List Leaf4 → List (PV K) → Prop
  | [], ps => ps = []
  | l :: ls, ps => ∃ p qs, ps = p :: qs ∧ LeafN good l p ∧ LeavesN good ls qs

variable {good : ∀ c, K c → Prop}

variable {X : Codecs K} {sz : Nat → Nat} {w : Wd}

theorem leaf_flat {leaf : Leaf4} {x : Value} (hf : leaf.flat = true) (h : LeafRead enc P W cd leaf x) : ∃ p : PV K, LeafN good leaf p ∧ Rep X sz w p (absW x) := by
  cases leaf with
  | int k =>
    obtain ⟨n, rfl, hw⟩ := h
    simp only [Lit.wf, Bool.and_eq_true, decide_eq_true_eq] at hw
    exact ⟨_, ⟨n, rfl, hw⟩, .int fun m hm => by cases hm⟩
  | bool =>
    obtain ⟨b, rfl⟩ := h
    exact ⟨_, ⟨b, rfl⟩, .sb .rfl .rfl fun h0 => absurd rfl h0⟩
  | str =>
    obtain ⟨s, rfl, hs⟩ := h
    exact ⟨_, ⟨s.data.toList, rfl, by simpa using hs⟩, .str⟩
  | list c => cases hf

theorem leaves_flat : ∀ {ls : List Leaf4} {cs : List Value}, ls.all Leaf4.flat = true → cs.length = ls.length → (∀ (i : Nat) leaf x, ls[i]? = some leaf → cs[i]? = some x → LeafRead enc P W cd leaf x) →
    ∃ ps : List (PV K), LeavesN good ls ps ∧ RepL X sz w ps (cs.map absW)
  | [], [], _, _, _ => ⟨[], rfl, .nil⟩
  | [], _ :: _, _, h, _ => by simp at h
  | _ :: _, [], _, h, _ => by simp at h
  | l :: ls, x :: cs, hf, hl, hr => by
    simp only [List.all_cons, Bool.and_eq_true] at hf
    obtain ⟨p, h1, h2⟩ := leaf_flat (X := X) (sz := sz) (w := w) hf.1 (hr 0 l x rfl rfl)
    obtain ⟨ps, h3, h4⟩ := leaves_flat (cs := cs) hf.2 (by simpa using hl) fun i leaf y h5 h6 => hr (i + 1) leaf y (by simpa using h5) (by simpa using h6)
    exact ⟨p :: ps, ⟨p, ps, rfl, h1, h3⟩, .cons h2 h4⟩

theorem list_of_all {α : Type} {Q : Nat → α → Prop} : ∀ {n : Nat}, (∀ i, i < n → ∃ x, Q i x) → ∃ l : List α, l.length = n ∧ ∀ (i : Nat) (h : i < l.length), Q i (l[i]'h)
  | 0, _ => ⟨[], rfl, fun i h => by simp at h⟩
  | n + 1, h => by
    obtain ⟨l, h1, h2⟩ := list_of_all (n := n) fun i hi => h i (by omega)
    obtain ⟨x, hx⟩ := h n (by omega)
    refine ⟨l ++ [x], by simp [h1], fun i hi => ?_⟩
    by_cases hin : i < l.length
    · rw [List.getElem_append_left hin]; exact h2 i hin
    · have : i = n := by simp at hi; omega
      subst this
      rw [List.getElem_append_right (by omega)]
      simpa [h1] using hx

theorem rowAt_off {f : TypeId → Bool} : ∀ {d : Nat} {e : TypeId} {count off n : Nat}, rowAt P f d e count off n = true → off ≤ count * P.cellsOf e
  | 0, _, _, _, _, h => by simp [rowAt] at h
  | d + 1, e, count, off, n, h => by
    unfold rowAt at h
    by_cases hs : P.cellsOf e = 0
    · simp [hs] at h
    · simp only [hs, if_false, Bool.or_eq_true, Bool.and_eq_true, beq_iff_eq, decide_eq_true_eq] at h
      have hd := Nat.div_add_mod off (P.cellsOf e)
      have hm := Nat.mod_lt off (Nat.pos_of_ne_zero hs)
      rcases h with ⟨⟨h1, h2⟩, _⟩ | ⟨h1, _⟩
      · have := Nat.mul_le_mul_right (P.cellsOf e) (show off / P.cellsOf e ≤ count by omega)
        rw [Nat.mul_comm] at hd
        omega
      · have := Nat.mul_le_mul_right (P.cellsOf e) (show off / P.cellsOf e + 1 ≤ count by omega)
        rw [Nat.add_mul, Nat.one_mul] at this
        rw [Nat.mul_comm] at hd
        omega

theorem liesAt_off : ∀ {d : Nat} {e : TypeId} {count off : Nat} {u : TypeId} {n : Nat}, liesAt P d e count off u n = true → off ≤ count * P.cellsOf e
  | 0, _, _, _, _, _, h => by simp [liesAt] at h
  | d + 1, e, count, off, u, n, h => by
    unfold liesAt at h
    simp only [Bool.or_eq_true] at h
    rcases h with h | h
    · exact rowAt_off h
    · split at h
      · exact liesAt_off h
      · cases h

/-- A cell that is a slice, as the wide fence has it. -/
theorem slice_ok {base : Nat} {u : TypeId} {a : Addr} {len cap : Nat} (h : Cell.okWide P W .any base u (.slice (some a) len cap)) :
    a.spot = none ∧ ∃ arr e fz, W.heap[a.block]? = some (.cells arr e fz) ∧ a.off ≤ arr.size := by
  have h' : Cell.ok P W .any base u (.slice (some a) len cap) := by
    unfold Cell.okWide at h
    split at h <;> first | exact h | (rename_i hx; cases hx)
  unfold Cell.ok at h'
  split at h' <;> try (first | exact h'.elim | (rename_i hx; cases hx; done))
  rename_i e a' len' cap' _ hx
  cases hx
  obtain ⟨_, _, _, h1, row, cells, h2, h3⟩ := h'
  refine ⟨h1, ?_⟩
  simp only [World.shape?] at h2
  split at h2
  · rename_i arr el fz hb
    cases h2
    refine ⟨arr, _, fz, hb, Nat.le_trans (liesAt_off h3) ?_⟩
    exact Nat.div_mul_le_self _ _
  · cases h2

/-- What is asked of the numbers of lists' elements. -/
structure ArgOk (good : ∀ c, K c → Prop) (X : Codecs K) (sz : Nat → Nat) (P : Program) (cd : TypeId → Option Nat) (depth : Nat) : Prop where
  elem : ∀ e c, cd e = some c → ∃ ls, tileT P cd depth e = some ls ∧ ls.all Leaf4.flat = true ∧ ls.length = sz c ∧ P.cellsOf e = sz c ∧ 0 < sz c ∧ ∀ ps : List (PV K), LeavesN good ls ps → ∃ pre x, X.pack c ps = some (pre, x) ∧ pre ∧ good c x

theorem list_read {C : Cfg Int Bool (List UInt8) Prop (fun c => List (K c))} (ok : CfgOk X sz C) {depth ng : Nat} (ao : ArgOk good X sz P cd depth) {base : Nat} {u : TypeId} {c : Nat} {x : Value} {M : Nat → Prop} (hM : ∀ n, ¬ M n) (hc : Cell.okWide P W .any base u x) (h : LeafRead enc P W cd (.list c) x) :
    ∃ (p : PV K) (v : V), LeafN good (.list c) p ∧ Rep X sz (wd0 (heapW W ng) M C.codec) p v ∧ Go.E2.Rel (ghostW W) W v x := by
  rcases h with rfl | ⟨e, a, len, cap, he, rfl, hl, hcap, hr⟩
  · exact ⟨.list c [] none, .nils, ⟨[], rfl, Nat.zero_le _, fun x hx => by cases hx⟩, .nlist trivial, by simp [Go.E2.Rel]⟩
  · obtain ⟨hsp, arr, el, fz, hb, hoff⟩ := slice_ok hc
    obtain ⟨b, off, spot⟩ := a
    simp only at hsp hb hoff
    subst hsp
    obtain ⟨ls, h1, h2, h3, h4, h5, h6⟩ := ao.elem e c he
    rw [h4] at hr
    -- the elements
    have hcell : ∀ i, i < cap → ∃ cs : List Value, cs.length = sz c ∧ (∀ j, j < sz c → arr[off + i * sz c + j]? = cs[j]?) ∧ ∃ y : K c, good c y ∧ RepL X sz (wd0 (heapW W ng) M C.codec) (X.cells c y) (cs.map absW) := by
      intro i hi
      obtain ⟨cs, m, r, h7, h8⟩ := hr i hi
      obtain ⟨_, h9, h10⟩ := World.cells?_some h7
      obtain ⟨h11, h12⟩ := trod_tile depth h8 h1
      obtain ⟨ps, h13, h14⟩ := leaves_flat (X := X) (sz := sz) (w := wd0 (heapW W ng) M C.codec) h2 h11 h12
      obtain ⟨pre, y, h15, h16, h17⟩ := h6 ps h13
      refine ⟨cs, h9, fun j hj => ?_, y, h17, ok.pack c ps pre y h15 h16 _ _ h14⟩
      have hadd : ((⟨b, off, none⟩ : Addr).add (i * sz c)).add j = ⟨b, off + i * sz c + j, none⟩ := by
        unfold Addr.add
        by_cases h0 : i * sz c = 0
        · rw [if_pos h0, h0]
          by_cases hj0 : j = 0
          · rw [if_pos hj0, hj0]; simp
          · rw [if_neg hj0]; simp
        · rw [if_neg h0]
          by_cases hj0 : j = 0
          · rw [if_pos hj0, hj0]; simp
          · rw [if_neg hj0]
      have := h10 j hj
      rw [hadd] at this
      simp only [World.cell?, hb] at this
      simpa using this
    have hsz : off + cap * sz c ≤ arr.size := by
      cases cap with
      | zero => simpa using hoff
      | succ q =>
        obtain ⟨cs, g1, g2, _⟩ := hcell q (Nat.lt_succ_self q)
        have := g2 (sz c - 1) (by omega)
        rw [List.getElem?_eq_getElem (by omega)] at this
        have := (Array.getElem?_eq_some_iff.1 this).1
        rw [Nat.add_mul, Nat.one_mul]
        omega
    have hlm : len * sz c ≤ cap * sz c := Nat.mul_le_mul_right _ hl
    obtain ⟨l, g1, g2⟩ := list_of_all (Q := fun i (y : K c) => ∃ cs : List Value, cs.length = sz c ∧ (∀ j, j < sz c → arr[off + i * sz c + j]? = cs[j]?) ∧ good c y ∧ RepL X sz (wd0 (heapW W ng) M C.codec) (X.cells c y) (cs.map absW)) (n := len) fun i hi => by
      obtain ⟨cs, q1, q2, y, q4, q3⟩ := hcell i (by omega)
      exact ⟨y, cs, q1, q2, q4, q3⟩
    refine ⟨.list c l none, .slice b 0 off len (sz c) (some cap), ⟨l, rfl, by omega, fun y hy => ?_⟩, ?_, ?_⟩
    · obtain ⟨i, hi, rfl⟩ := List.mem_iff_getElem.1 hy
      obtain ⟨cs, q1, q2, q4, q3⟩ := g2 i hi
      exact q4
    · refine .list (heapW_get hb) (Nat.le_refl _) (hM b) g1.symm (by simp; omega) h5 (fun k hk => by cases hk; exact hl) (fun i hi j p hp => ?_) trivial
      obtain ⟨cs, q1, q2, q4, q3⟩ := g2 i hi
      have hj : j < sz c := by rw [← ok.len c (l[i]'hi)]; exact (List.getElem?_eq_some_iff.1 hp).1
      have := q3.2 j p hp
      rw [List.getD_eq_getElem?_getD, List.getElem?_map] at this ⊢
      rw [Array.getElem?_toList, q2 j hj]
      exact this
    · simp only [Go.E2.Rel]
      exact ⟨b, 0, arr.size, off, cap, el, arr.size, ghostW_of hb, rfl, hl, Nat.zero_le _, by omega, .inl rfl, fun k hk => by cases hk; exact ⟨rfl, hsz⟩, by simp only [World.shape?, hb], hsz⟩

theorem flat_rel {leaf : Leaf4} {x : Value} (hf : leaf.flat = true) (h : LeafRead enc P W cd leaf x) (G : Ghost) : Go.E2.Rel G W (absW x) x := by
  cases leaf with
  | int k => obtain ⟨n, rfl, _⟩ := h; simp [absW, Go.E2.Rel]
  | bool => obtain ⟨b, rfl⟩ := h; simp [absW, Go.E2.Rel]
  | str => obtain ⟨s, rfl, _⟩ := h; simp [absW, Go.E2.Rel]
  | list c => cases hf

theorem leaf_read {C : Cfg Int Bool (List UInt8) Prop (fun c => List (K c))} (ok : CfgOk X sz C) {depth ng : Nat} (ao : ArgOk good X sz P cd depth) {base : Nat} {u : TypeId} {leaf : Leaf4} {x : Value} {M : Nat → Prop} (hM : ∀ n, ¬ M n) (hc : Cell.okWide P W .any base u x) (h : LeafRead enc P W cd leaf x) :
    ∃ (p : PV K) (v : V), LeafN good leaf p ∧ Rep X sz (wd0 (heapW W ng) M C.codec) p v ∧ Go.E2.Rel (ghostW W) W v x := by
  cases hf : leaf.flat with
  | true =>
    obtain ⟨p, h1, h2⟩ := leaf_flat (X := X) (sz := sz) (w := wd0 (heapW W ng) M C.codec) hf h
    exact ⟨p, absW x, h1, h2, flat_rel hf h _⟩
  | false =>
    cases leaf with
    | list c => exact list_read ok ao hM hc h
    | _ => cases hf

theorem leaves_read {C : Cfg Int Bool (List UInt8) Prop (fun c => List (K c))} (ok : CfgOk X sz C) {depth ng : Nat} (ao : ArgOk good X sz P cd depth) {base : Nat} {M : Nat → Prop} (hM : ∀ n, ¬ M n) : ∀ {ls : List Leaf4} {cs : List Value}, cs.length = ls.length →
    (∀ (i : Nat) x, cs[i]? = some x → ∃ u, Cell.okWide P W .any base u x) → (∀ (i : Nat) leaf x, ls[i]? = some leaf → cs[i]? = some x → LeafRead enc P W cd leaf x) →
    ∃ (ps : List (PV K)) (vs : List V), LeavesN good ls ps ∧ RepL X sz (wd0 (heapW W ng) M C.codec) ps vs ∧ Go.E2.RelL (ghostW W) W vs cs
  | [], [], _, _, _ => ⟨[], [], rfl, .nil, by simp [Go.E2.RelL]⟩
  | [], _ :: _, h, _, _ => by simp at h
  | _ :: _, [], h, _, _ => by simp at h
  | l :: ls, x :: cs, hl, hc, hr => by
    obtain ⟨u, hu⟩ := hc 0 x rfl
    obtain ⟨p, v, h1, h2, h3⟩ := leaf_read (ng := ng) ok ao hM hu (hr 0 l x rfl rfl)
    obtain ⟨ps, vs, h4, h5, h6⟩ := leaves_read (ng := ng) ok ao hM (cs := cs) (ls := ls) (by simpa using hl) (fun i y hy => hc (i + 1) y (by simpa using hy)) fun i leaf y h7 h8 => hr (i + 1) leaf y (by simpa using h7) (by simpa using h8)
    exact ⟨p :: ps, v :: vs, ⟨p, ps, rfl, h1, h4⟩, .cons h2 h5, Go.E2.RelL.cons h3 h6⟩

/-- An argument of one cell. -/
theorem arg_one {C : Cfg Int Bool (List UInt8) Prop (fun c => List (K c))} (ok : CfgOk X sz C) {depth ng : Nat} (ao : ArgOk good X sz P cd depth) {base : Nat} {M : Nat → Prop} (hM : ∀ n, ¬ M n) {t : TypeId} {v : Value} {d : DataW Hd} {ps : List MemPlace} {leaf : Leaf4}
    (ht : (match P.underlying t with | some (.struct _) | some (.array _ _) => false | _ => true) = true) (hl : tileT P cd depth t = some [leaf]) (hv : Value.okWide P W .any base t v) (hd : DataW.Trod enc P W 0 (fun _ => true) true t v d ps) :
    ∃ (p : PV K) (u : V), LeafN good leaf p ∧ Rep X sz (wd0 (heapW W ng) M C.codec) p u ∧ Go.E2.Rel (ghostW W) W u v := by
  obtain ⟨n, hn⟩ := hd
  obtain ⟨h1, h2⟩ := trod_tile depth hn hl
  have hcell : Cell.okWide P W .any base t v := by
    unfold Value.okWide at hv
    split at hv
    · rename_i h; simp [h] at ht
    · rename_i h; simp [h] at ht
    · exact hv
  have hcs : v.cells.toList = [v] := by
    cases v with
    | agg cs =>
      exfalso
      unfold Cell.okWide at hcell
      split at hcell <;> first | (rename_i hx; cases hx; done) | skip
      unfold Cell.ok at hcell
      split at hcell <;> first | (rename_i hx; cases hx; done) | exact hcell
    | _ => rfl
  exact leaf_read ok ao hM hcell (h2 0 leaf v rfl (by rw [hcs]; rfl))

/-- An argument that is a struct. -/
theorem arg_struct {C : Cfg Int Bool (List UInt8) Prop (fun c => List (K c))} (ok : CfgOk X sz C) {depth ng : Nat} (ao : ArgOk good X sz P cd depth) {base : Nat} {M : Nat → Prop} (hM : ∀ n, ¬ M n) {t : TypeId} {v : Value} {d : DataW Hd} {ps : List MemPlace} {ls : List Leaf4} {fs : Array Field}
    (ht : P.underlying t = some (.struct fs)) (hl : tileT P cd depth t = some ls) (hv : Value.okWide P W .any base t v) (hd : DataW.Trod enc P W 0 (fun _ => true) true t v d ps) :
    ∃ (ps : List (PV K)) (u : V), LeavesN good ls ps ∧ Rep X sz (wd0 (heapW W ng) M C.codec) (.agg ps) u ∧ Go.E2.Rel (ghostW W) W u v := by
  obtain ⟨n, hn⟩ := hd
  obtain ⟨h1, h2⟩ := trod_tile depth hn hl
  unfold Value.okWide at hv
  rw [ht] at hv
  obtain ⟨cs, rfl, _, ts, _, _, hts⟩ := hv
  have hcs : (Value.agg cs).cells.toList = cs.toList := rfl
  rw [hcs] at h1 h2
  obtain ⟨qs, vs, h3, h4, h5⟩ := leaves_read (ng := ng) ok ao hM h1 (fun i x hx => by
    obtain ⟨u, _, hu⟩ := hts i x (by simpa using hx)
    exact ⟨u, hu⟩) h2
  exact ⟨qs, .agg vs, h3, .agg h4.1 h4.2, by simp only [Go.E2.Rel]; exact ⟨cs, rfl, h5⟩⟩

theorem good_lt {p : MemPlace} (h : Go.Good W p) : p.block < W.heap.size := by
  cases p with
  | cell b off =>
    obtain ⟨v, hv, _⟩ := h
    simp only [World.cell?] at hv
    split at hv
    · rename_i hb; exact lt_of_heap hb
    · cases hv
  | map b =>
    obtain ⟨es, clock, hb⟩ := h
    exact lt_of_heap hb

/-- The arguments read as they did. -/
theorem trod_again {w' : World} {t : TypeId} {v : Value} {d : DataW Hd} {ps : List MemPlace} (hlaid : laidOutB P = true) (hrec : P.readableRec t = true) (hrow : t < P.types.size) (h : DataW.Trod enc P W 0 (fun _ => true) true t v d ps) (hs : ∀ b, b < W.heap.size → w'.heap[b]? = W.heap[b]?)
    (sp : Nat → Bool) (hsp : ∀ b, b < W.heap.size → sp b = true) : DataW.Trod enc P w' 0 sp true t v d ps := by
  obtain ⟨n, hn⟩ := h
  have K := kids_book hlaid hrec
  have hgood := DataW.trod_good K (fun h => by cases h) n t _ _ ⟨hrow, book_self t⟩ hn
  refine ⟨n, DataW.trod_stays K (book_sized hrec) (fun h => by cases h) ⟨hrow, book_self t⟩ hn (fun p hp => ?_) (fun p hp => hsp _ ?_)⟩
  · have hlt : p.block < W.heap.size := good_lt (hgood p hp)
    cases p with
    | cell b off => simp only [World.sameAt, World.cell?, hs b hlt]
    | map b => exact hs b hlt
  · exact good_lt (hgood p hp)
end

end Go.E3

/- E3: (*strings.Builder).String, BY ITS TEXT: a check of the body, and what the body does. -/
namespace Go.E3
open Go Go.E2

def isT (t : Nat) : Operand → Bool
  | .tmp x => Nat.beq x t
  | _ => false
theorem isT_eq {t : Nat} {x : Operand} (h : isT t x = true) : x = .tmp t := by
  cases x <;> simp only [isT, Bool.false_eq_true] at h
  rw [Nat.eq_of_beq_eq_true h]

def isMoveO (t : Nat) : Op → Bool
  | .move x => isT t x
  | _ => false
def isAssignO (t : Nat) : Op → Bool
  | .assign x => isT t x
  | _ => false
def isAssignE : Op → Bool
  | .assign (.const c) => match absV 1000 c with
    | some (.str []) => true
    | _ => false
  | _ => false
def isNilO (t : Nat) : Op → Bool
  | .nilCheck x => isT t x
  | _ => false
def isFA (tB t k : Nat) : Op → Bool
  | .fieldAddr a x i => Nat.beq a tB && isT t x && Nat.beq i k
  | _ => false
def isLoadO (tS t : Nat) : Op → Bool
  | .load a x => Nat.beq a tS && isT t x
  | _ => false
def isBu (b : Builtin → Bool) (ts : List Nat) (tys : List Nat) : Op → Bool
  | .call c => (match c.callee with
    | .builtin x => b x
    | _ => false) && Nat.beq c.args.toList.length ts.length && ((c.args.toList.zip ts).all fun p => isT p.2 p.1) && listEq Nat.beq c.argTypes.toList tys
  | _ => false
 where listEq (f : Nat → Nat → Bool) : List Nat → List Nat → Bool
  | [], [] => true
  | a :: l, b :: m => f a b && listEq f l m
  | _, _ => false

theorem listEq_eq : ∀ {a b : List Nat}, isBu.listEq Nat.beq a b = true → a = b
  | [], [], _ => rfl
  | a :: l, b :: m, h => by
    simp only [isBu.listEq, Bool.and_eq_true] at h
    rw [Nat.eq_of_beq_eq_true h.1, listEq_eq h.2]
  | [], _ :: _, h => by simp [isBu.listEq] at h
  | _ :: _, [], h => by simp [isBu.listEq] at h

theorem isMoveO_eq {t : Nat} {op : Op} (h : isMoveO t op = true) : op = .move (.tmp t) := by
  cases op <;> simp only [isMoveO, Bool.false_eq_true] at h
  rw [isT_eq h]
theorem isAssignO_eq {t : Nat} {op : Op} (h : isAssignO t op = true) : op = .assign (.tmp t) := by
  cases op <;> simp only [isAssignO, Bool.false_eq_true] at h
  rw [isT_eq h]
theorem isAssignE_eq {op : Op} (h : isAssignE op = true) : ∃ c, op = .assign (.const c) ∧ absV 1000 c = some (.str []) := by
  unfold isAssignE at h
  split at h
  · split at h
    · exact ⟨_, rfl, by assumption⟩
    · cases h
  · cases h
theorem isNilO_eq {t : Nat} {op : Op} (h : isNilO t op = true) : op = .nilCheck (.tmp t) := by
  cases op <;> simp only [isNilO, Bool.false_eq_true] at h
  rw [isT_eq h]
theorem isFA_eq {tB t k : Nat} {op : Op} (h : isFA tB t k op = true) : op = .fieldAddr tB (.tmp t) k := by
  cases op <;> simp only [isFA, Bool.false_eq_true, Bool.and_eq_true] at h
  rw [isT_eq h.1.2, Nat.eq_of_beq_eq_true h.1.1, Nat.eq_of_beq_eq_true h.2]
theorem isLoadO_eq {tS t : Nat} {op : Op} (h : isLoadO tS t op = true) : op = .load tS (.tmp t) := by
  cases op <;> simp only [isLoadO, Bool.false_eq_true, Bool.and_eq_true] at h
  rw [isT_eq h.2, Nat.eq_of_beq_eq_true h.1]
theorem isBu1 {b : Builtin → Bool} {t ty : Nat} {op : Op} (h : isBu b [t] [ty] op = true) : ∃ c x, op = .call c ∧ c.callee = .builtin x ∧ b x = true ∧ c.args.toList = [.tmp t] ∧ c.argTypes.toList = [ty] := by
  cases op <;> simp only [isBu, Bool.false_eq_true, Bool.and_eq_true] at h
  rename_i c
  obtain ⟨⟨⟨h1, h2⟩, h3⟩, h4⟩ := h
  cases hc : c.callee with
  | builtin x =>
    rw [hc] at h1
    refine ⟨c, x, rfl, hc, h1, ?_, listEq_eq h4⟩
    match ha : c.args.toList with
    | [] => rw [ha] at h2; simp at h2
    | [a] =>
      rw [ha] at h3
      simp only [List.zip_cons_cons, List.zip_nil_left, List.all_cons, List.all_nil, Bool.and_true] at h3
      rw [isT_eq h3]
    | a :: b :: l => rw [ha] at h2; simp at h2
  | value f => rw [hc] at h1; cases h1
  | invoke r m => rw [hc] at h1; cases h1
theorem isBu2 {b : Builtin → Bool} {t t' ty ty' : Nat} {op : Op} (h : isBu b [t, t'] [ty, ty'] op = true) : ∃ c x, op = .call c ∧ c.callee = .builtin x ∧ b x = true ∧ c.args.toList = [.tmp t, .tmp t'] ∧ c.argTypes.toList = [ty, ty'] := by
  cases op <;> simp only [isBu, Bool.false_eq_true, Bool.and_eq_true] at h
  rename_i c
  obtain ⟨⟨⟨h1, h2⟩, h3⟩, h4⟩ := h
  cases hc : c.callee with
  | builtin x =>
    rw [hc] at h1
    refine ⟨c, x, rfl, hc, h1, ?_, listEq_eq h4⟩
    match ha : c.args.toList with
    | [] => rw [ha] at h2; simp at h2
    | [a] => rw [ha] at h2; simp at h2
    | [a, a'] =>
      rw [ha] at h3
      simp only [List.zip_cons_cons, List.zip_nil_left, List.all_cons, List.all_nil, Bool.and_true, Bool.and_eq_true] at h3
      rw [isT_eq h3.1, isT_eq h3.2]
    | a :: b :: d :: l => rw [ha] at h2; simp at h2
  | value f => rw [hc] at h1; cases h1
  | invoke r m => rw [hc] at h1; cases h1

def opIs (d : Nat) (p : Op → Bool) (o : Oper) : Bool :=
  (match o.dst with
  | some e => Nat.beq e d
  | none => false) && (match o.guard with
  | none => true
  | some _ => false) && p o.op
theorem opIs_eq {d : Nat} {p : Op → Bool} {o : Oper} (h : opIs d p o = true) : o.dst = some d ∧ o.guard = none ∧ p o.op = true := by
  simp only [opIs, Bool.and_eq_true] at h
  obtain ⟨⟨h1, h2⟩, h3⟩ := h
  refine ⟨?_, ?_, h3⟩
  · split at h1
    · rename_i e he
      rw [he, Nat.eq_of_beq_eq_true h1]
    · cases h1
  · split at h2
    · assumption
    · cases h2

def strOps (tB tS tQ tI : Nat) : List Oper → Bool
  | [a, b, c, d, e, f, g, h, i, j, k, l] =>
    opIs 3 (isMoveO 0) a && opIs 4 (isNilO 3) b && opIs 5 (isFA tB 4 1) c && opIs 6 (isLoadO tS 5) d && opIs 7 (isBu (fun | .unsafeSliceData => true | _ => false) [6] [tS]) e &&
    opIs 8 (isMoveO 0) f && opIs 9 (isNilO 8) g && opIs 10 (isFA tB 9 1) h && opIs 11 (isLoadO tS 10) i && opIs 12 (isBu (fun | .len => true | _ => false) [11] [tS]) j &&
    opIs 13 (isBu (fun | .unsafeString => true | _ => false) [7, 12] [tQ, tI]) k && opIs 2 (isAssignO 13) l
  | _ => false

def strTys (E : Env) (tB tS tQ tU : Nat) : Bool :=
  (match E.types tB with
  | some ti => match fieldOf ti 1 with
    | some f => Nat.beq f.offset 1 && (match E.types f.type with
      | some fi => !Nat.beq fi.size 0
      | none => false)
    | none => false
  | none => false) &&
  (match E.types tS with
  | some ti => Nat.beq ti.size 1 && !ti.isAgg && (match ti.under with
    | .slice u => Nat.beq u tU
    | _ => false)
  | none => false) &&
  (match E.types tQ with
  | some ti => match ti.under with
    | .pointer u => Nat.beq u tU
    | _ => false
  | none => false) &&
  (match E.types tU with
  | some ti => Nat.beq ti.size 1
  | none => false)

def strChk (E : Env) (F tB tS tQ tI tU : Nat) : Bool :=
  match E.funcs F with
  | some fi => (match fi.results with
    | [.tmp 2] => true
    | _ => false) && Nat.beq fi.ntmps 14 && strTys E tB tS tQ tU &&
    (match fi.body with
    | some (.seq (.region _ a false) (.seq (.region _ ops true) .ret)) => (match a.toList with
      | [o] => opIs 2 isAssignE o
      | _ => false) && strOps tB tS tQ tI ops.toList && ((List.range 10).all fun i => ((Region.before ops).getD 10 0).testBit i)
    | _ => false)
  | none => false

section
variable {E : Env} {fn : FuncId} {round : Option Nat} {all : Array Oper} {b : Array Nat} {i : Nat} {l : List Oper} {done : List Done} {o : Oper} {fr : Fr} {H : Heap} {Q : Ex → Fr → Heap → Prop} {B : Nat}

def CalmI (B i : Nat) (done : List Done) : Prop := E2.Calm B done ∧ ∀ d ∈ done, d.i < i

theorem calmI_nil : CalmI B 0 [] := ⟨calm_nil, fun d h => by cases h⟩
theorem calmI_cons {fp : FP} {lo hi : Nat} (h : CalmI B i done) (hf : fp = .none ∨ ∃ l, fp = .reads l) (hl : B ≤ lo) : CalmI B (i + 1) (⟨i, fp, lo, hi⟩ :: done) := by
  refine ⟨calm_cons hf hl h.1, fun d hd => ?_⟩
  rcases List.mem_cons.1 hd with rfl | hd
  · exact Nat.lt_succ_self _
  · exact Nat.lt_succ_of_lt (h.2 d hd)

theorem looks_mem {t : Nat} (h : Operand.tmp t ∈ o.op.operands.toList) : t ∈ o.looksAt all := by
  unfold Oper.looksAt
  exact List.mem_append_left _ (List.mem_filterMap.2 ⟨_, h, rfl⟩)

theorem wpD_dry {v : V} {d : Nat} (hc : CalmI B i done) (hB : B ≤ H.next) (hT : touches E o.op = false) (hg : o.guard = none) (hd : o.dst = some d) (hn : d < fr.n)
    (hev : ∀ fr' H', (∀ t, Operand.tmp t ∈ o.op.operands.toList → fr'.tmp t = fr.tmp t) → evOp E o fr' H' = some (.val v, H'))
    (k : ∀ done' fr', CalmI B (i + 1) done' → Upd fr d v fr' → WpD E all b (i + 1) l done' fr' H Q) : WpD E all b i (o :: l) done fr H Q := by
  refine wpD_step (fp := .none) (out := .val v) (K := tinyH H .none _) (want_free hg) (by simp only [fpOf, hT, Bool.not_false, cond_true]) (by simp) (calm_clash hc.1 (.inl rfl)) (hev _ _ fun t ht => restr_tmp (looks_mem ht)) (.inl rfl) (Nat.le_refl _) ?_
  rw [joinH_none, hd]
  exact k _ _ (calmI_cons hc (.inl rfl) hB) (put_upd hn)

theorem wpD_ld {t : TypeId} {ti : TI} {s d nm g off lim : Nat} {v : V} (hc : CalmI B i done) (hB : B ≤ H.next) (ho : o.op = .load t (.tmp s)) (ht : E.types t = some ti) (hp : fr.tmp s = some (.ptr nm g off lim)) (hnm : nm < B) (hg : o.guard = none) (hd : o.dst = some d) (hn : d < fr.n) (h : loadV H ti (.ptr nm g off lim) = some v)
    (k : ∀ done' fr', CalmI B (i + 1) done' → Upd fr d v fr' → WpD E all b (i + 1) l done' fr' H Q) : WpD E all b i (o :: l) done fr H Q := by
  have hfp : fpOf E o fr = .reads [nm] := by
    simp only [fpOf, ho, touches, Bool.not_true, cond_false, nmsOf, Op.operands, List.flatMap_cons, List.flatMap_nil, nmOf, hp, V.nm, List.append_nil]
  have hm : s ∈ o.looksAt all := by simp [Oper.looksAt, ho, Op.operands]
  refine wpD_step (fp := .reads [nm]) (out := .val v) (K := tinyH H (.reads [nm]) ((freeOf b i done).flatMap Done.names)) (want_free hg) hfp (by simp) (calm_clash hc.1 (.inr ⟨_, rfl⟩)) ?_ (.inl rfl) (Nat.le_refl _) ?_
  · have hg := tinyH_reads (H := H) (l := [nm]) (dels := (freeOf b i done).flatMap Done.names) (List.mem_singleton.2 rfl) (by omega) (calm_dels hc.1 hnm)
    have hl : loadV (tinyH H (.reads [nm]) ((freeOf b i done).flatMap Done.names)) ti (.ptr nm g off lim) = some v := by
      rw [← h]
      simp only [loadV, readCells, hg]
    simp only [evOp, ho, ht, Option.bind_some, opd, restr_tmp hm, hp, hl, Option.map_some]
  · rw [joinH_reads, hd]
    exact k _ _ (calmI_cons hc (.inr ⟨_, rfl⟩) hB) (put_upd hn)

/-- What all before it are ordered to. -/
theorem freeOf_nil (hc : CalmI B i done) (hb : ((List.range i).all fun j => (b.getD i 0).testBit j) = true) : freeOf b i done = [] := by
  unfold freeOf
  rw [List.filter_eq_nil_iff]
  intro d hd
  rw [List.all_eq_true] at hb
  rw [hb d.i (List.mem_range.2 (hc.2 d hd))]
  simp
end

theorem strTys_eq {E : Env} {tB tS tQ tU : Nat} (h : strTys E tB tS tQ tU = true) :
    (∃ ti f fi, E.types tB = some ti ∧ fieldOf ti 1 = some f ∧ f.offset = 1 ∧ E.types f.type = some fi ∧ Nat.beq fi.size 0 = false) ∧
    (∃ ti, E.types tS = some ti ∧ ti.size = 1 ∧ ti.isAgg = false ∧ ti.under = .slice tU) ∧
    (∃ ti, E.types tQ = some ti ∧ ti.under = .pointer tU) ∧ ∃ ti, E.types tU = some ti ∧ ti.size = 1 := by
  simp only [strTys, Bool.and_eq_true] at h
  obtain ⟨⟨⟨h1, h2⟩, h3⟩, h4⟩ := h
  refine ⟨?_, ?_, ?_, ?_⟩
  · split at h1
    · rename_i ti hti
      split at h1
      · rename_i f hf
        simp only [Bool.and_eq_true] at h1
        obtain ⟨a1, a2⟩ := h1
        split at a2
        · rename_i fi hfi
          exact ⟨ti, f, fi, hti, hf, Nat.eq_of_beq_eq_true a1, hfi, by simpa using a2⟩
        · cases a2
      · cases h1
    · cases h1
  · split at h2
    · rename_i ti hti
      simp only [Bool.and_eq_true, Bool.not_eq_true'] at h2
      obtain ⟨⟨a1, a2⟩, a3⟩ := h2
      split at a3
      · rename_i u hu
        exact ⟨ti, hti, Nat.eq_of_beq_eq_true a1, a2, by rw [hu, Nat.eq_of_beq_eq_true a3]⟩
      · cases a3
    · cases h2
  · split at h3
    · rename_i ti hti
      split at h3
      · rename_i u hu
        exact ⟨ti, hti, by rw [hu, Nat.eq_of_beq_eq_true h3]⟩
      · cases h3
    · cases h3
  · split at h4
    · rename_i ti hti
      exact ⟨ti, hti, Nat.eq_of_beq_eq_true h4⟩
    · cases h4

theorem call_mem {c : Go.Call} {b : Builtin} {x : Operand} (hc : c.callee = .builtin b) (h : x ∈ c.args.toList) : x ∈ (Op.call c).operands.toList := by
  simp only [Op.operands, Call.operands, hc]
  simpa using h

theorem load_cell {H : Heap} {ti : TI} {nm off lim : Nat} {vs : List V} {e : TypeId} {ex : Bool} {x : V} (hs : ti.size = 1) (ha : ti.isAgg = false) (hg : H.get nm = some (.row vs e 0 0 0 ex)) (h1 : off + 2 ≤ lim) (h2 : lim ≤ vs.length) (hx : vs[off + 1]? = some x) (hnh : isHole x = false) : loadV H ti (.ptr nm 0 (off + 1) lim) = some x := by
  have b2 : Nat.ble (off + 1 + 1) lim = true := by rw [Nat.ble_eq]; omega
  have b3 : Nat.ble lim vs.length = true := by rw [Nat.ble_eq]; exact h2
  have hd : (vs.drop (off + 1)).take 1 = [x] := by
    have hlt : off + 1 < vs.length := by omega
    rw [List.drop_eq_getElem_cons hlt]
    simp only [List.take_succ_cons, List.take_zero, List.cons.injEq, and_true]
    rw [List.getElem?_eq_getElem hlt] at hx
    exact Option.some.inj hx
  have hn : noHoles [x] = some [x] := noHoles_all fun v hv => by
    rw [List.mem_singleton.1 hv]
    exact hnh
  simp only [loadV, readCells, hg, hs, b2, b3, hd, hn, ha, Nat.ble_eq, Nat.le_refl, Nat.ble, Bool.and_self, Bool.true_and, cond_true, cond_false, Option.bind_some]

section
variable {E : Env} {F tB tS tQ tI tU : Nat}

theorem str_walk (hq : E.spec F = none) (hc : strChk E F tB tS tQ tI tU = true) {H H' : Heap} {nm off lim : Nat} {vs : List V} {e : TypeId} {ex : Bool} (wf : ∀ n, H.next ≤ n → H.get n = none) (hg : H.get nm = some (.row vs e 0 0 0 ex)) (h1 : off + 2 ≤ lim) (h2 : lim ≤ vs.length) {x p s : V} {n : Int} (hx : vs[off + 1]? = some x) (hnh : isHole x = false)
    (hsd : ∀ H0, builtinV E .unsafeSliceData [tS] [x] H0 = some (.val p, H0)) (hlen : ∀ H0, builtinV E .len [tS] [x] H0 = some (.val (.int .i64 n), H0))
    (hus : ∃ K, builtinV E .unsafeString [tQ, tI] [p, .int .i64 n] (tinyH H (.writes p.nm) []) = some (.val s, K) ∧ H.next ≤ K.next ∧ joinH H K (.writes p.nm) [] = H') :
    CallW E (.func F) [.ptr nm 0 off lim] H fun v K => v = s ∧ K = H' := by
  have hnm : nm < H.next := by
    by_cases h : nm < H.next
    · exact h
    · rw [wf nm (by omega)] at hg
      cases hg
  unfold strChk at hc
  cases hf : E.funcs F with
  | none => rw [hf] at hc; cases hc
  | some fi =>
  rw [hf] at hc
  simp only [Bool.and_eq_true] at hc
  obtain ⟨⟨⟨c1, c2⟩, c3⟩, c4⟩ := hc
  have c2 := Nat.eq_of_beq_eq_true c2
  obtain ⟨⟨tib, fd, fdi, b1, b2, b3, b4, b5⟩, ⟨tis, s1, s2, s3, s4⟩, -, -⟩ := strTys_eq c3
  split at c1
  · rename_i hres
    split at c4
    · rename_i id0 oa id1 ops hb
      simp only [Bool.and_eq_true] at c4
      obtain ⟨⟨d1, d2⟩, d3⟩ := c4
      split at d1
      · rename_i o0 ho0
        obtain ⟨e1, e2, e3⟩ := opIs_eq d1
        obtain ⟨cc, e3, e4⟩ := isAssignE_eq e3
        unfold strOps at d2
        split at d2
        · rename_i q0 q1 q2 q3 q4 q5 q6 q7 q8 q9 q10 q11 hops
          simp only [Bool.and_eq_true] at d2
          obtain ⟨⟨⟨⟨⟨⟨⟨⟨⟨⟨⟨f0, f1⟩, f2⟩, f3⟩, f4⟩, f5⟩, f6⟩, f7⟩, f8⟩, f9⟩, f10⟩, f11⟩ := d2
          obtain ⟨g0a, g0b, g0⟩ := opIs_eq f0
          obtain ⟨g1a, g1b, g1⟩ := opIs_eq f1
          obtain ⟨g2a, g2b, g2⟩ := opIs_eq f2
          obtain ⟨g3a, g3b, g3⟩ := opIs_eq f3
          obtain ⟨g4a, g4b, g4⟩ := opIs_eq f4
          obtain ⟨g5a, g5b, g5⟩ := opIs_eq f5
          obtain ⟨g6a, g6b, g6⟩ := opIs_eq f6
          obtain ⟨g7a, g7b, g7⟩ := opIs_eq f7
          obtain ⟨g8a, g8b, g8⟩ := opIs_eq f8
          obtain ⟨g9a, g9b, g9⟩ := opIs_eq f9
          obtain ⟨g10a, g10b, g10⟩ := opIs_eq f10
          obtain ⟨g11a, g11b, g11⟩ := opIs_eq f11
          have g0 := isMoveO_eq g0
          have g1 := isNilO_eq g1
          have g2 := isFA_eq g2
          have g3 := isLoadO_eq g3
          obtain ⟨k4, y4, g4, g4c, g4d, g4e, g4f⟩ := isBu1 g4
          have g5 := isMoveO_eq g5
          have g6 := isNilO_eq g6
          have g7 := isFA_eq g7
          have g8 := isLoadO_eq g8
          obtain ⟨k9, y9, g9, g9c, g9d, g9e, g9f⟩ := isBu1 g9
          obtain ⟨k10, y10, g10, g10c, g10d, g10e, g10f⟩ := isBu2 g10
          have g11 := isAssignO_eq g11
          have y4 : y4 = .unsafeSliceData := by cases y4 <;> first | rfl | cases g4d
          have y9 : y9 = .len := by cases y9 <;> first | rfl | cases g9d
          have y10 : y10 = .unsafeString := by cases y10 <;> first | rfl | cases g10d
          subst y4 y9 y10
          have hld := load_cell s2 s3 hg h1 h2 hx hnh
          have hfn : ∀ fr' : Fr, fr'.n = max 1 fi.ntmps → fr'.n = 14 := fun fr' h => by rw [h, c2]; rfl
          refine callW_body hq hf hb ?_
          refine w2_seq (w2_region ?_)
          rw [ho0]
          have n0 : ({ tmps := enterTmps [.ptr nm 0 off lim], n := max [V.ptr nm 0 off lim].length fi.ntmps, defers := [] } : Fr).n = 14 := by simp only [c2]; rfl
          refine wpO_do (d := 2) (v := .str []) (H' := H) (by simp only [isDefer, e3]) (want_free e2) e1 (by rw [n0]; decide) (ev_assign e3 (opd_const e4)) fun fr1 u1 => wpO_nil (thenQ_go (w2_seq (w2_drawn ?_)))
          have t0 : fr1.tmp 0 = some (.ptr nm 0 off lim) := (u1.other 0 rfl).trans (enter_tmp rfl)
          have n1 : fr1.n = 14 := u1.n.trans n0
          have m1 : fr1.defers = [] := u1.ds
          clear u1
          rw [hops]
          have ci0 : CalmI H.next 0 [] := calmI_nil
          have tT : ∀ (z : Op) (t : Nat), z.operands.toList = [.tmp t] → (z.operands.any fun | .global _ => true | _ => false) = false := by
            intro z t hz
            rw [← Array.any_toList, hz]
            rfl
          have t0_1 := t0
          refine wpD_dry (d := 3) (v := .ptr nm 0 off lim) ci0 (Nat.le_refl _) (by simp only [touches, g0]; first | exact tT _ _ rfl | rfl) g0b g0a (by rw [n1]; decide) (fun fr' H' hh => ev_move g0 (opd_tmp ((hh 0 (by rw [g0]; simp [Op.operands])).trans t0_1))) fun dn1 fr2 ci1 u2 => ?_
          have t0_2 : fr2.tmp 0 = some (.ptr nm 0 off lim) := (u2.other 0 rfl).trans t0_1
          have t3_2 : fr2.tmp 3 = some (.ptr nm 0 off lim) := u2.get
          have n2 : fr2.n = 14 := u2.n.trans n1
          have m2 : fr2.defers = [] := u2.ds.trans m1
          clear u2
          refine wpD_dry (d := 4) (v := .ptr nm 0 off lim) ci1 (Nat.le_refl _) (by simp only [touches, g1]; first | exact tT _ _ rfl | rfl) g1b g1a (by rw [n2]; decide) (fun fr' H' hh => by simp only [evOp, g1, (opd_tmp ((hh 3 (by rw [g1]; simp [Op.operands])).trans t3_2))]) fun dn2 fr3 ci2 u3 => ?_
          have t0_3 : fr3.tmp 0 = some (.ptr nm 0 off lim) := (u3.other 0 rfl).trans t0_2
          have t3_3 : fr3.tmp 3 = some (.ptr nm 0 off lim) := (u3.other 3 rfl).trans t3_2
          have t4_3 : fr3.tmp 4 = some (.ptr nm 0 off lim) := u3.get
          have n3 : fr3.n = 14 := u3.n.trans n2
          have m3 : fr3.defers = [] := u3.ds.trans m2
          clear u3
          refine wpD_dry (d := 5) (v := .ptr nm 0 (off + 1) lim) ci2 (Nat.le_refl _) (by simp only [touches, g2]; first | exact tT _ _ rfl | rfl) g2b g2a (by rw [n3]; decide) (fun fr' H' hh => by have h0 := ev_fieldAddr (H := H') g2 b1 b2 b4 b5 (opd_tmp ((hh 4 (by rw [g2]; simp [Op.operands])).trans t4_3)); rw [b3] at h0; exact h0) fun dn3 fr4 ci3 u4 => ?_
          have t0_4 : fr4.tmp 0 = some (.ptr nm 0 off lim) := (u4.other 0 rfl).trans t0_3
          have t3_4 : fr4.tmp 3 = some (.ptr nm 0 off lim) := (u4.other 3 rfl).trans t3_3
          have t4_4 : fr4.tmp 4 = some (.ptr nm 0 off lim) := (u4.other 4 rfl).trans t4_3
          have t5_4 : fr4.tmp 5 = some (.ptr nm 0 (off + 1) lim) := u4.get
          have n4 : fr4.n = 14 := u4.n.trans n3
          have m4 : fr4.defers = [] := u4.ds.trans m3
          clear u4
          refine wpD_ld (ti := tis) (s := 5) (d := 6) (v := x) ci3 (Nat.le_refl _) g3 s1 t5_4 hnm g3b g3a (by rw [n4]; decide) hld fun dn4 fr5 ci4 u5 => ?_
          have t0_5 : fr5.tmp 0 = some (.ptr nm 0 off lim) := (u5.other 0 rfl).trans t0_4
          have t3_5 : fr5.tmp 3 = some (.ptr nm 0 off lim) := (u5.other 3 rfl).trans t3_4
          have t4_5 : fr5.tmp 4 = some (.ptr nm 0 off lim) := (u5.other 4 rfl).trans t4_4
          have t5_5 : fr5.tmp 5 = some (.ptr nm 0 (off + 1) lim) := (u5.other 5 rfl).trans t5_4
          have t6_5 : fr5.tmp 6 = some (x) := u5.get
          have n5 : fr5.n = 14 := u5.n.trans n4
          have m5 : fr5.defers = [] := u5.ds.trans m4
          clear u5
          refine wpD_dry (d := 7) (v := p) ci4 (Nat.le_refl _) (by simp only [touches, g4, g4c]; rw [← Array.any_toList, g4e]; rfl) g4b g4a (by rw [n5]; decide) (fun fr' H' hh => by simp only [evOp, g4, g4c, g4e, g4f, opds, (opd_tmp ((hh 6 (by rw [g4]; exact call_mem g4c (by rw [g4e]; simp))).trans t6_5)), Option.bind_some, Option.map_some, hsd]) fun dn5 fr6 ci5 u6 => ?_
          have t0_6 : fr6.tmp 0 = some (.ptr nm 0 off lim) := (u6.other 0 rfl).trans t0_5
          have t3_6 : fr6.tmp 3 = some (.ptr nm 0 off lim) := (u6.other 3 rfl).trans t3_5
          have t4_6 : fr6.tmp 4 = some (.ptr nm 0 off lim) := (u6.other 4 rfl).trans t4_5
          have t5_6 : fr6.tmp 5 = some (.ptr nm 0 (off + 1) lim) := (u6.other 5 rfl).trans t5_5
          have t6_6 : fr6.tmp 6 = some (x) := (u6.other 6 rfl).trans t6_5
          have t7_6 : fr6.tmp 7 = some (p) := u6.get
          have n6 : fr6.n = 14 := u6.n.trans n5
          have m6 : fr6.defers = [] := u6.ds.trans m5
          clear u6
          refine wpD_dry (d := 8) (v := .ptr nm 0 off lim) ci5 (Nat.le_refl _) (by simp only [touches, g5]; first | exact tT _ _ rfl | rfl) g5b g5a (by rw [n6]; decide) (fun fr' H' hh => ev_move g5 (opd_tmp ((hh 0 (by rw [g5]; simp [Op.operands])).trans t0_6))) fun dn6 fr7 ci6 u7 => ?_
          have t0_7 : fr7.tmp 0 = some (.ptr nm 0 off lim) := (u7.other 0 rfl).trans t0_6
          have t3_7 : fr7.tmp 3 = some (.ptr nm 0 off lim) := (u7.other 3 rfl).trans t3_6
          have t4_7 : fr7.tmp 4 = some (.ptr nm 0 off lim) := (u7.other 4 rfl).trans t4_6
          have t5_7 : fr7.tmp 5 = some (.ptr nm 0 (off + 1) lim) := (u7.other 5 rfl).trans t5_6
          have t6_7 : fr7.tmp 6 = some (x) := (u7.other 6 rfl).trans t6_6
          have t7_7 : fr7.tmp 7 = some (p) := (u7.other 7 rfl).trans t7_6
          have t8_7 : fr7.tmp 8 = some (.ptr nm 0 off lim) := u7.get
          have n7 : fr7.n = 14 := u7.n.trans n6
          have m7 : fr7.defers = [] := u7.ds.trans m6
          clear u7
          refine wpD_dry (d := 9) (v := .ptr nm 0 off lim) ci6 (Nat.le_refl _) (by simp only [touches, g6]; first | exact tT _ _ rfl | rfl) g6b g6a (by rw [n7]; decide) (fun fr' H' hh => by simp only [evOp, g6, (opd_tmp ((hh 8 (by rw [g6]; simp [Op.operands])).trans t8_7))]) fun dn7 fr8 ci7 u8 => ?_
          have t0_8 : fr8.tmp 0 = some (.ptr nm 0 off lim) := (u8.other 0 rfl).trans t0_7
          have t3_8 : fr8.tmp 3 = some (.ptr nm 0 off lim) := (u8.other 3 rfl).trans t3_7
          have t4_8 : fr8.tmp 4 = some (.ptr nm 0 off lim) := (u8.other 4 rfl).trans t4_7
          have t5_8 : fr8.tmp 5 = some (.ptr nm 0 (off + 1) lim) := (u8.other 5 rfl).trans t5_7
          have t6_8 : fr8.tmp 6 = some (x) := (u8.other 6 rfl).trans t6_7
          have t7_8 : fr8.tmp 7 = some (p) := (u8.other 7 rfl).trans t7_7
          have t8_8 : fr8.tmp 8 = some (.ptr nm 0 off lim) := (u8.other 8 rfl).trans t8_7
          have t9_8 : fr8.tmp 9 = some (.ptr nm 0 off lim) := u8.get
          have n8 : fr8.n = 14 := u8.n.trans n7
          have m8 : fr8.defers = [] := u8.ds.trans m7
          clear u8
          refine wpD_dry (d := 10) (v := .ptr nm 0 (off + 1) lim) ci7 (Nat.le_refl _) (by simp only [touches, g7]; first | exact tT _ _ rfl | rfl) g7b g7a (by rw [n8]; decide) (fun fr' H' hh => by have h0 := ev_fieldAddr (H := H') g7 b1 b2 b4 b5 (opd_tmp ((hh 9 (by rw [g7]; simp [Op.operands])).trans t9_8)); rw [b3] at h0; exact h0) fun dn8 fr9 ci8 u9 => ?_
          have t0_9 : fr9.tmp 0 = some (.ptr nm 0 off lim) := (u9.other 0 rfl).trans t0_8
          have t3_9 : fr9.tmp 3 = some (.ptr nm 0 off lim) := (u9.other 3 rfl).trans t3_8
          have t4_9 : fr9.tmp 4 = some (.ptr nm 0 off lim) := (u9.other 4 rfl).trans t4_8
          have t5_9 : fr9.tmp 5 = some (.ptr nm 0 (off + 1) lim) := (u9.other 5 rfl).trans t5_8
          have t6_9 : fr9.tmp 6 = some (x) := (u9.other 6 rfl).trans t6_8
          have t7_9 : fr9.tmp 7 = some (p) := (u9.other 7 rfl).trans t7_8
          have t8_9 : fr9.tmp 8 = some (.ptr nm 0 off lim) := (u9.other 8 rfl).trans t8_8
          have t9_9 : fr9.tmp 9 = some (.ptr nm 0 off lim) := (u9.other 9 rfl).trans t9_8
          have t10_9 : fr9.tmp 10 = some (.ptr nm 0 (off + 1) lim) := u9.get
          have n9 : fr9.n = 14 := u9.n.trans n8
          have m9 : fr9.defers = [] := u9.ds.trans m8
          clear u9
          refine wpD_ld (ti := tis) (s := 10) (d := 11) (v := x) ci8 (Nat.le_refl _) g8 s1 t10_9 hnm g8b g8a (by rw [n9]; decide) hld fun dn9 fr10 ci9 u10 => ?_
          have t0_10 : fr10.tmp 0 = some (.ptr nm 0 off lim) := (u10.other 0 rfl).trans t0_9
          have t3_10 : fr10.tmp 3 = some (.ptr nm 0 off lim) := (u10.other 3 rfl).trans t3_9
          have t4_10 : fr10.tmp 4 = some (.ptr nm 0 off lim) := (u10.other 4 rfl).trans t4_9
          have t5_10 : fr10.tmp 5 = some (.ptr nm 0 (off + 1) lim) := (u10.other 5 rfl).trans t5_9
          have t6_10 : fr10.tmp 6 = some (x) := (u10.other 6 rfl).trans t6_9
          have t7_10 : fr10.tmp 7 = some (p) := (u10.other 7 rfl).trans t7_9
          have t8_10 : fr10.tmp 8 = some (.ptr nm 0 off lim) := (u10.other 8 rfl).trans t8_9
          have t9_10 : fr10.tmp 9 = some (.ptr nm 0 off lim) := (u10.other 9 rfl).trans t9_9
          have t10_10 : fr10.tmp 10 = some (.ptr nm 0 (off + 1) lim) := (u10.other 10 rfl).trans t10_9
          have t11_10 : fr10.tmp 11 = some (x) := u10.get
          have n10 : fr10.n = 14 := u10.n.trans n9
          have m10 : fr10.defers = [] := u10.ds.trans m9
          clear u10
          refine wpD_dry (d := 12) (v := .int .i64 n) ci9 (Nat.le_refl _) (by obtain ⟨u1, u2, u3, u4, u5⟩ := tis; simp only at s4; subst s4; simp only [touches, g9, g9c, g9f, s1]; rw [← Array.any_toList, g9e]; rfl) g9b g9a (by rw [n10]; decide) (fun fr' H' hh => by simp only [evOp, g9, g9c, g9e, g9f, opds, (opd_tmp ((hh 11 (by rw [g9]; exact call_mem g9c (by rw [g9e]; simp))).trans t11_10)), Option.bind_some, Option.map_some, hlen]) fun dn10 fr11 ci10 u11 => ?_
          have t0_11 : fr11.tmp 0 = some (.ptr nm 0 off lim) := (u11.other 0 rfl).trans t0_10
          have t3_11 : fr11.tmp 3 = some (.ptr nm 0 off lim) := (u11.other 3 rfl).trans t3_10
          have t4_11 : fr11.tmp 4 = some (.ptr nm 0 off lim) := (u11.other 4 rfl).trans t4_10
          have t5_11 : fr11.tmp 5 = some (.ptr nm 0 (off + 1) lim) := (u11.other 5 rfl).trans t5_10
          have t6_11 : fr11.tmp 6 = some (x) := (u11.other 6 rfl).trans t6_10
          have t7_11 : fr11.tmp 7 = some (p) := (u11.other 7 rfl).trans t7_10
          have t8_11 : fr11.tmp 8 = some (.ptr nm 0 off lim) := (u11.other 8 rfl).trans t8_10
          have t9_11 : fr11.tmp 9 = some (.ptr nm 0 off lim) := (u11.other 9 rfl).trans t9_10
          have t10_11 : fr11.tmp 10 = some (.ptr nm 0 (off + 1) lim) := (u11.other 10 rfl).trans t10_10
          have t11_11 : fr11.tmp 11 = some (x) := (u11.other 11 rfl).trans t11_10
          have t12_11 : fr11.tmp 12 = some (.int .i64 n) := u11.get
          have n11 : fr11.n = 14 := u11.n.trans n10
          have m11 : fr11.defers = [] := u11.ds.trans m10
          clear u11
          obtain ⟨K, hk1, hk2, hk3⟩ := hus
          have hfree : freeOf (Region.before ops) (0 + 1 + 1 + 1 + 1 + 1 + 1 + 1 + 1 + 1 + 1) dn10 = [] := freeOf_nil ci10 d3
          have m7 : Operand.tmp 7 ∈ q10.op.operands.toList := by rw [g10]; exact call_mem g10c (by rw [g10e]; simp)
          have m12 : Operand.tmp 12 ∈ q10.op.operands.toList := by rw [g10]; exact call_mem g10c (by rw [g10e]; simp)
          refine wpD_step (fp := .writes p.nm) (out := .val s) (K := K) (want_free g10b) ?_ (by simp) (by rw [hfree]; rfl) ?_ (.inl rfl) hk2 ?_
          · simp only [fpOf, touches, g10, g10c, Bool.not_true, cond_false, nmsOf, g10e, List.flatMap_cons, List.flatMap_nil, nmOf, t7_11, t12_11, V.nm, List.append_nil]
          · rw [hfree]
            simp only [evOp, g10, g10c, g10e, g10f, opds, opd_tmp ((restr_tmp (looks_mem m7)).trans t7_11), opd_tmp ((restr_tmp (looks_mem m12)).trans t12_11), Option.bind_some, Option.map_some, List.flatMap_nil]
            exact hk1
          · rw [hfree, List.flatMap_nil, hk3, g10a]
            have u12 := put_upd (v := s) (fr := fr11) (d := 13) (by rw [n11]; decide)
            have t13 := u12.get
            have n12 := u12.n.trans n11
            have m12 := u12.ds.trans m11
            generalize fr11.put (some 13) s = fr12 at *
            refine wpD_step (fp := .none) (out := .val s) (K := tinyH H' .none ?dels) (want_free g11b) (by simp only [fpOf, touches, g11, Op.operands]; rw [← Array.any_toList]; rfl) (by simp) ?g1 ?g2 (.inl rfl) (Nat.le_refl _) ?g3
            case g2 => exact ev_assign g11 (opd_tmp ((restr_tmp (looks_mem (by rw [g11]; simp [Op.operands]))).trans t13))
            case g1 =>
              rw [← Bool.not_eq_true, List.any_eq_true]
              rintro ⟨d, _, hcl⟩
              rw [clash_none] at hcl
              cases hcl
            case g3 =>
              rw [joinH_none, g11a]
              have u13 := put_upd (v := s) (fr := fr12) (d := 2) (by rw [n12]; decide)
              refine wpD_nil (thenQ_go (w2_ret ⟨.inr rfl, ?_⟩))
              refine ⟨_, ends0 (u13.ds.trans m12), [s], ?_, rfl, rfl⟩
              rw [hres]
              exact res_tmp u13.get res_nil
        · cases d2
      · cases d1
    · cases c4
  · cases c1
end

theorem joinH_one {H : Heap} {bn : Nat} {x : O} (h : bn < H.next) : joinH H ((tinyH H (.writes [bn]) []).put bn x) (.writes [bn]) [] = H.put bn x := by
  have hb : Nat.blt bn H.next = true := by rw [Nat.blt_eq]; exact h
  have hf : [bn].filter (fun n => Nat.blt n H.next && !([] : List Nat).any fun m => Nat.beq n m) = [bn] := by
    simp only [List.filter_cons, hb, List.any_nil, Bool.not_false, Bool.and_self, if_true, List.filter_nil]
  have hg : ((tinyH H (.writes [bn]) []).put bn x).objs.get bn = some x := heap_put_get
  have hn : ((tinyH H (.writes [bn]) []).put bn x).next = H.next := rfl
  simp only [joinH, hn, hf, Nat.sub_self, List.range'_zero, List.append_nil, copyT, hg]
  rfl

theorem joinH_no {H : Heap} : joinH H (tinyH H (.writes []) []) (.writes []) [] = H := by
  have hn : (tinyH H (.writes []) []).next = H.next := rfl
  simp only [joinH, hn, List.filter_nil, Nat.sub_self, List.range'_zero, List.append_nil, copyT]

/-- What PrimOk asks for, of a function whose text is this. -/
theorem prim_of {K : Nat → Type} {C : Cfg Int Bool (List UInt8) Prop (fun c => List (K c))} {F tB tS tQ tI tU : Nat} (hpr : C.prim = fun f => Nat.beq f F) (hq : C.E.spec F = none) (hc : strChk C.E F tB tS tQ tI tU = true) (hu : ∀ el, C.codec el = some 0 → el = tU) : PrimOk C := by
  intro f hf
  rw [hpr] at hf
  have hf := Nat.eq_of_beq_eq_true hf
  subst hf
  intro H nm off lim vs e ex wf hg h1 h2
  have htys : strTys C.E tB tS tQ tU = true := by
    have h := hc
    unfold strChk at h
    split at h
    · simp only [Bool.and_eq_true] at h
      exact h.1.2
    · cases h
  obtain ⟨-, ⟨tis, s1, s2, s3, s4⟩, ⟨tq, q1, q2⟩, ⟨tu, v1, v2⟩⟩ := strTys_eq htys
  refine ⟨fun hx => ?_, fun bn g len cells el floor frz eb l hx hgb hlen hfl hpos hle hcod hby hho hro hne => ?_⟩
  · refine str_walk (p := .nilp) (n := 0) hq hc wf hg h1 h2 hx rfl (fun H0 => rfl) (fun H0 => ?_) ⟨tinyH H (.writes []) [], ?_, Nat.le_refl _, joinH_no⟩
    · simp only [builtinV, s1, Option.bind_some, s4, goIntV]
      rfl
    · simp only [builtinV, V.nm, if_true]
  · have hel := hu el hcod
    subst hel
    have hbn : bn < H.next := by
      by_cases h : bn < H.next
      · exact h
      · rw [wf bn (by omega)] at hgb
        cases hgb
    have hb : Nat.blt 0 len = true := by rw [Nat.blt_eq]; exact hpos
    have hbb : Nat.blt bn H.next = true := by rw [Nat.blt_eq]; exact hbn
    have hf : [bn].filter (fun n => Nat.blt n H.next && !([] : List Nat).any fun m => Nat.beq n m) = [bn] := by
      simp only [List.filter_cons, hbb, List.any_nil, Bool.not_false, Bool.and_self, if_true, List.filter_nil]
    have hgt : (tinyH H (.writes [bn]) []).get bn = some (.row cells el g floor frz eb) := by
      rw [← hgb]
      simp only [tinyH, hf, Heap.get, get_copyT, List.mem_singleton, if_true]
    have hup : (tinyH H (.writes [bn]) []).upd bn (.row cells el g floor (max frz len) eb) = some ((tinyH H (.writes [bn]) []).put bn (.row cells el g floor (max frz len) eb)) := heap_upd hro
    refine str_walk (p := .ptr bn g 0 (0 + len * 1)) (n := len) (H' := H.put bn (.row cells el g floor (max frz len) eb)) hq hc wf hg h1 h2 hx rfl (fun H0 => ?_) (fun H0 => ?_) ⟨(tinyH H (.writes [bn]) []).put bn (.row cells el g floor (max frz len) eb), ?_, Nat.le_refl _, joinH_one hbn⟩
    · simp only [builtinV, hb, cond_true]
    · simp only [builtinV, s1, Option.bind_some, s4, goIntV]
    · have b1 : Nat.ble floor g = true := by rw [Nat.ble_eq]; exact hfl
      have b2 : Nat.ble (0 + len) (0 + len * 1) = true := by rw [Nat.ble_eq]; omega
      have b3 : Nat.ble (0 + len * 1) cells.length = true := by rw [Nat.ble_eq]; omega
      have hcond : el = el ∧ tu.size = 1 ∧ (0 : Int) < (len : Int) ∧ (len : Int) ≤ 140737488355328 ∧ g = g := ⟨rfl, v2, by omega, by omega, rfl⟩
      have htk : (cells.drop 0).take len = cells := by
        rw [List.drop_zero, List.take_of_length_le (by omega)]
      have hrd : readCells (tinyH H (.writes [bn]) []) len (.ptr bn g 0 (0 + len * 1)) = some cells := by
        simp only [readCells, hgt, b1, b2, b3, Bool.and_self, cond_true, htk]
        exact noHoles_all hho
      simp only [builtinV, V.nm, q1, q2, hgt, Option.bind_some, v1, hcond, and_self, if_true, Int.toNat_natCast, hrd, hby, hup, Option.map_some]

/-- The law's answer where arguments lie in memory. -/
theorem post_true_mem {P : Program} {Hd : Type} {enc : TypeId × Value → Hd} {g : Func} {s : Go.ChangeSpec} {apart fresh handsOn : Bool} {W w' : World} {args : Array Value} {ds gs : List (DataW Hd)} {before : List MemPlace} {t : TypeId}
    (hW : DataW.Whole enc P g.params.toList s.vars apart W args.toList ds gs before) (hv : s.vars = []) (ht : g.resultTypes = #[t]) (hu : P.underlying t = some .bool)
    (hfn : s.fn Hd ds = { results := [.lit (.bool true)], args := ds }) (hargs : ∃ pa, DataW.TrodAll enc P w' 0 (fun b => decide (b < W.heap.size)) true g.params.toList args.toList ds pa) (hk : ∀ may, W.keptBut w' may) :
    s.post enc P g apart fresh handsOn false W args (.bool true) w' := by
  have hW' := hW
  obtain ⟨p, q, hA, hV, rfl, _, _⟩ := hW
  rw [hv] at hV
  obtain ⟨rfl, rfl⟩ := Go.ChangeShapes.trodVars_none hV
  obtain ⟨pa, hpa⟩ := hargs
  refine ⟨ds, [], p ++ [], [], pa, [], hW', ?_, ?_, ?_, hk _, fun h => by cases h⟩
  · rw [ht, List.append_nil, hfn]
    exact Go.ChangeShapes.trodAll_mk1 (Go.RowKit.shut_bool hu true)
  · rw [List.append_nil, hfn]
    exact hpa
  · rw [hv, List.append_nil, hfn]
    rfl
end Go.E3
