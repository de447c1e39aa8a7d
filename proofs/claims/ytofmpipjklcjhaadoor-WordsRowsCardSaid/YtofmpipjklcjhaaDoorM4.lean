/- A VERIFIED EVALUATOR, texts E3p, E3q, E3r, E3s, E3t, E3u, E3v, E3w, E3x, E3y, L3a in one. -/
import Derived.Test.YtofmpipjklcjhaaDoorM3
/- E3: REGIONS that draw their order: footprints. -/
namespace Go.E3
open Go Go.E2

variable {K : Nat → Type}

section
variable {X : Codecs K} {sz : Nat → Nat} {C : Cfg Int Bool (List UInt8) Prop (fun c => List (K c))} {base H : Heap} {st : StV K} {fr : Fr} {w : Wd}
variable {tbl : Tbl K} {inv : Nat → List (NV K) → Prop} {meas : Nat → List (NV K) → Nat} {inl : Inl Int Bool (List UInt8) Prop (fun c => List (K c))}
variable {nd : Bool} {all : Array Oper} {Q : Ex → Fr → Heap → Prop} {b : Array Nat} {i : Nat}

/-- Another memory that holds the same. -/
theorem RelH.congr (R : RelH X sz C base st H w) {J : Heap} (h1 : ∀ n, J.get n = H.get n) (h2 : J.next = H.next) (h3 : J.ro = H.ro) (h4 : J.glob = H.glob) : RelH X sz C base st J w := by
  have hg : J.get = H.get := funext h1
  exact ⟨fun n hn => by rw [h1]; exact R.wf n (by omega), R.rob, R.g.trans hg.symm, R.nx.trans h2.symm, R.b, fun n hn => by rw [h2]; exact R.Mlt n hn, R.n, R.one,
    ⟨by rw [h2]; exact R.keeps.next, by rw [h3]; exact R.keeps.ro, by rw [h4]; exact R.keeps.glob, fun nm hn => by rw [h1]; exact R.keeps.old nm hn⟩,
    fun id h => by rw [h2]; exact R.cl id h, R.cinj, fun id ps h => by rw [h1]; exact R.cells id ps h, R.owns, R.ownn, fun i s nm h hn => by rw [h2]; exact R.eta i s nm h hn, R.einj, R.ce, R.known, R.globs⟩

/-! ### Operands that do not lie in memory -/
theorem touches_glob {E : Env} {o : Oper} (h : touches E o.op = false) (hp : pureOp o.op = true ∨ newOp o.op = true) : ∀ x ∈ o.op.operands.toList, ∀ g, x ≠ .global g := by
  have key : ∀ l : List Operand, (l.any fun x => match x with | .global _ => true | _ => false) = false → ∀ x ∈ l, ∀ g, x ≠ .global g := by
    intro l hl x hx g he
    subst he
    rw [← Bool.not_eq_true, List.any_eq_true] at hl
    exact hl ⟨_, hx, rfl⟩
  cases ho : o.op with
  | load => simp [touches, ho] at h
  | store => simp [touches, ho] at h
  | lookup => simp [touches, ho] at h
  | mapUpdate => simp [touches, ho] at h
  | insert => simp [touches, ho] at h
  | next => simp [touches, ho] at h
  | convert => simp [touches, ho] at h
  | slice t x lo hi mx =>
    rw [ho] at h
    simp only [touches, Bool.or_eq_false_iff] at h
    refine key _ ?_
    rw [← Array.any_toList] at h
    exact h.2
  | call c =>
    rw [ho] at h hp
    have hargs : (c.args.any fun x => match x with | .global _ => true | _ => false) = false ∧ ∃ bi, c.callee = .builtin bi := by
      simp only [pureOp, newOp, Bool.false_eq_true, or_false] at hp
      simp only [touches] at h
      split at hp
      · rename_i hc
        simp only [hc] at h
        refine ⟨?_, _, hc⟩
        split at h
        · split at h
          · cases h
          · cases h
          · exact h
        · cases h
      · rename_i hc
        simp only [hc] at h
        exact ⟨h, _, hc⟩
      · rename_i hc
        simp only [hc] at h
        exact ⟨h, _, hc⟩
      · cases hp
    obtain ⟨h1, bi, h2⟩ := hargs
    have e : (Op.call c).operands.toList = c.args.toList := by
      simp only [Op.operands, Call.operands, h2]
      simp
    rw [e]
    refine key _ ?_
    rw [← Array.any_toList] at h1
    exact h1
  | _ =>
    first
      | (simp [ho, pureOp, newOp] at hp; done)
      | (rw [ho] at h
         refine key _ ?_
         simp only [touches] at h
         rw [← Array.any_toList] at h
         exact h)

theorem opd_restr' {o : Oper} {H' : Heap} {x : Operand} (hx : x ∈ o.op.operands.toList) (hg : ∀ g, x ≠ .global g) : opd { fr with tmps := copyT fr.tmps (o.looksAt all) .nil } H' x = opd fr H x := by
  cases x with
  | tmp t =>
    simp only [opd]
    refine restr_tmp ?_
    simp only [Oper.looksAt, List.mem_append, List.mem_filterMap]
    exact .inl ⟨_, hx, rfl⟩
  | const v => rfl
  | global g => exact absurd rfl (hg g)
  | func f => rfl

/-! ### What is done -/
def fpR (w : Wd) : FP3 → FP → Prop
  | .none, fp => fp = .none
  | .read id, fp => fp = .reads [w.c id] ∧ w.cl id
  | .write id, fp => fp = .writes [w.c id] ∧ w.cl id
  | .stable, fp => ∃ l, fp = .reads l ∧ ∀ n ∈ l, ¬ w.M n ∧ ∃ cs e gen floor frz ex, w.g n = some (.row cs e gen floor frz ex)
  | .call, fp => fp = .call
  | .lone, _ => True

structure DR (B : Nat) (w : Wd) (d3 : Done3) (d : Done) : Prop where
  i : d.i = d3.i
  lo : B ≤ d.lo
  no : d3.makes = false → d.hi = d.lo
  fp : fpR w d3.fp d.fp

theorem fpR.mono {w w' : Wd} (h : Le w w') (hcl : ∀ id, w.cl id → id < w.n) {f : FP3} {fp : FP} (hf : fpR w f fp) : fpR w' f fp := by
  cases f with
  | none => exact hf
  | read id =>
    obtain ⟨h1, h2⟩ := hf
    exact ⟨by rw [h.c id (hcl id h2)]; exact h1, (h.cl id (hcl id h2)).2 h2⟩
  | write id =>
    obtain ⟨h1, h2⟩ := hf
    exact ⟨by rw [h.c id (hcl id h2)]; exact h1, (h.cl id (hcl id h2)).2 h2⟩
  | stable =>
    obtain ⟨l, h1, h2⟩ := hf
    refine ⟨l, h1, fun n hn => ?_⟩
    obtain ⟨hM, cs, e, gen, floor, frz, ex, hg⟩ := h2 n hn
    obtain ⟨hM', cs2, gen', frz', ex', hg'⟩ := h.mem n cs e gen floor frz ex hg hM
    exact ⟨hM', _, _, _, _, _, _, hg'⟩
  | call => exact hf
  | lone => trivial

inductive DRs (B : Nat) (w : Wd) : List Done3 → List Done → Prop
  | nil : DRs B w [] []
  | cons {d3 : Done3} {d : Done} {l3 : List Done3} {l : List Done} (h : DR B w d3 d) (h' : DRs B w l3 l) : DRs B w (d3 :: l3) (d :: l)

theorem DRs.mono {B : Nat} {w w' : Wd} (h : Le w w') (hcl : ∀ id, w.cl id → id < w.n) {l3 : List Done3} {l : List Done} (hd : DRs B w l3 l) : DRs B w' l3 l := by
  induction hd with
  | nil => exact .nil
  | cons h1 _ ih => exact .cons ⟨h1.i, h1.lo, h1.no, h1.fp.mono h hcl⟩ ih

theorem DRs.free {B : Nat} {l3 : List Done3} {l : List Done} (hd : DRs B w l3 l) {P : Done3 → Prop} (hp : ∀ d ∈ l3.filter (fun d => !(b.getD i 0).testBit d.i), P d) : ∀ d ∈ freeOf b i l, ∃ d3, DR B w d3 d ∧ P d3 := by
  unfold freeOf
  induction hd with
  | nil => intro d hd; simp at hd
  | @cons a3 a l3 l h1 _ ih =>
    intro d hd'
    rw [List.filter_cons] at hd' hp
    rw [h1.i] at hd'
    by_cases hb : (!(b.getD i 0).testBit a3.i) = true
    · rw [if_pos hb] at hd' hp
      rcases List.mem_cons.1 hd' with rfl | hd'
      · exact ⟨a3, h1, hp a3 List.mem_cons_self⟩
      · exact ih (fun d hd => hp d (List.mem_cons_of_mem _ hd)) d hd'
    · rw [if_neg hb] at hd' hp
      exact ih hp d hd'

/-- What goes together does not clash. -/
theorem no_clash {B old : Nat} (R : RelH X sz C base st H w) {l3 : List Done3} {l : List Done} (hd : DRs B w l3 l) {f : FP3} {fp : FP} (hlv : ∀ d ∈ l3, ∀ id, d.fp = .write id → w.M (w.c id)) (hlf : ∀ id, f = .write id → w.M (w.c id)) (hf : fpR w f fp)
    (ha : (l3.filter fun d => !(b.getD i 0).testBit d.i).all (fun d => apart3 old d f) = true) : ((freeOf b i l).any fun d => clash d.fp fp) = false := by
  rw [← Bool.not_eq_true, List.any_eq_true]
  rintro ⟨d, hdm, hc⟩
  obtain ⟨⟨j, g, mk⟩, hdr, hap, hin⟩ := hd.free (P := fun d => apart3 old d f = true ∧ d ∈ l3) (fun d hd => ⟨List.all_eq_true.1 ha d hd, (List.mem_filter.1 hd).1⟩) d hdm
  have hg := hdr.fp
  have hlg := hlv _ hin
  simp only at hg
  simp only [apart3, Bool.and_eq_true] at hap
  obtain ⟨hap, _⟩ := hap
  cases g with
  | none => simp only [fpR] at hg; rw [hg] at hc; simp [clash] at hc
  | read i1 =>
    obtain ⟨h1, c1⟩ := hg
    cases f with
    | none => simp only [fpR] at hf; rw [hf, clash_none] at hc; cases hc
    | read i2 => obtain ⟨h2, _⟩ := hf; rw [h1, h2] at hc; simp [clash] at hc
    | stable => obtain ⟨l2, h2, _⟩ := hf; rw [h1, h2] at hc; simp [clash] at hc
    | call => simp only [fpR] at hf; rw [h1, hf] at hc; simp [clash] at hc
    | write i2 =>
      obtain ⟨h2, c2⟩ := hf
      rw [h1, h2] at hc
      simp only [goes, Bool.not_eq_true', ← Bool.not_eq_true, Nat.beq_eq] at hap
      simp only [clash, List.any_cons, List.any_nil, Bool.or_false, Nat.beq_eq] at hc
      exact hap (R.cinj _ _ c1 c2 hc.symm)
    | lone => simp [goes] at hap
  | write i1 =>
    obtain ⟨h1, c1⟩ := hg
    cases f with
    | none => simp only [fpR] at hf; rw [hf, clash_none] at hc; cases hc
    | read i2 =>
      obtain ⟨h2, c2⟩ := hf
      rw [h1, h2] at hc
      simp only [goes, Bool.not_eq_true', ← Bool.not_eq_true, Nat.beq_eq] at hap
      simp only [clash, List.any_cons, List.any_nil, Bool.or_false, Nat.beq_eq] at hc
      exact hap (R.cinj _ _ c1 c2 hc)
    | stable =>
      obtain ⟨l2, h2, c2⟩ := hf
      rw [h1, h2] at hc
      simp only [clash, List.any_cons, List.any_nil, Bool.or_false, List.any_eq_true] at hc
      obtain ⟨n, hn, hb⟩ := hc
      have := Nat.eq_of_beq_eq_true hb
      subst this
      exact (c2 _ hn).1 (hlg _ rfl)
    | call => simp [goes] at hap
    | write i2 =>
      obtain ⟨h2, c2⟩ := hf
      rw [h1, h2] at hc
      simp only [goes, Bool.not_eq_true', ← Bool.not_eq_true, Nat.beq_eq] at hap
      simp only [clash, List.any_cons, List.any_nil, Bool.or_false, Nat.beq_eq] at hc
      exact hap (R.cinj _ _ c1 c2 hc)
    | lone => simp [goes] at hap
  | stable =>
    obtain ⟨l1, h1, c1⟩ := hg
    cases f with
    | none => simp only [fpR] at hf; rw [hf, clash_none] at hc; cases hc
    | read i2 => obtain ⟨h2, _⟩ := hf; rw [h1, h2] at hc; simp [clash] at hc
    | stable => obtain ⟨l2, h2, _⟩ := hf; rw [h1, h2] at hc; simp [clash] at hc
    | call => simp only [fpR] at hf; rw [h1, hf] at hc; simp [clash] at hc
    | write i2 =>
      obtain ⟨h2, c2⟩ := hf
      rw [h1, h2] at hc
      simp only [clash, List.any_cons, List.any_nil, Bool.or_false, List.any_eq_true] at hc
      obtain ⟨n, hn, hb⟩ := hc
      have := Nat.eq_of_beq_eq_true hb
      subst this
      exact (c1 _ hn).1 (hlf _ rfl)
    | lone => simp [goes] at hap
  | call =>
    simp only [fpR] at hg
    cases f with
    | none => simp only [fpR] at hf; rw [hf, clash_none] at hc; cases hc
    | read i2 => obtain ⟨h2, _⟩ := hf; rw [hg, h2] at hc; simp [clash] at hc
    | stable => obtain ⟨l2, h2, _⟩ := hf; rw [hg, h2] at hc; simp [clash] at hc
    | call => simp only [fpR] at hf; rw [hg, hf] at hc; simp [clash] at hc
    | write i2 => simp [goes] at hap
    | lone => simp [goes] at hap
  | lone =>
    cases f with
    | none => simp only [fpR] at hf; rw [hf, clash_none] at hc; cases hc
    | _ => simp [goes] at hap

/-- Names that were not made by what stands in no order to the operation. -/
theorem no_dels {B old nm : Nat} {l3 : List Done3} {l : List Done} (hd : DRs B w l3 l) {f : FP3} (ha : (l3.filter fun d => !(b.getD i 0).testBit d.i).all (fun d => apart3 old d f) = true)
    (hf : (∃ j, (f = .read j ∨ f = .write j) ∧ (j < old → nm < B)) ∨ (∀ j, f ≠ .read j ∧ f ≠ .write j) ∧ f ≠ .none) : nm ∉ (freeOf b i l).flatMap Done.names := by
  intro hm
  obtain ⟨d, hdm, hn⟩ := List.mem_flatMap.1 hm
  obtain ⟨⟨j, g, mk⟩, hdr, hap⟩ := hd.free (fun d hd => List.all_eq_true.1 ha d hd) d hdm
  simp only [apart3, Bool.and_eq_true] at hap
  obtain ⟨_, hap⟩ := hap
  have hr := List.mem_range'_1.1 hn
  cases mk with
  | false =>
    have := hdr.no rfl
    omega
  | true =>
    simp only [Bool.not_true, Bool.false_or] at hap
    rcases hf with ⟨j, hj, hlt⟩ | ⟨h1, h2⟩
    · have : j < old := by
        rcases hj with rfl | rfl <;> simpa [fits, Nat.blt_eq] using hap
      have := hlt this
      have := hdr.lo
      omega
    · cases f <;> simp_all [fits]

theorem dels_nil {B old : Nat} {l3 : List Done3} {l : List Done} (hd : DRs B w l3 l) {f : FP3} (ha : (l3.filter fun d => !(b.getD i 0).testBit d.i).all (fun d => apart3 old d f) = true) (hf : (∀ j, f ≠ .read j ∧ f ≠ .write j) ∧ f ≠ .none) : (freeOf b i l).flatMap Done.names = [] := by
  rw [List.eq_nil_iff_forall_not_mem]
  intro nm
  exact no_dels hd ha (.inr hf)

end
end Go.E3

/- E3: REGIONS that draw their order. -/
namespace Go.E3
open Go Go.E2

variable {K : Nat → Type}

section
variable {E : Env} {all : Array Oper} {fr : Fr} {H : Heap} {Q : Ex → Fr → Heap → Prop} {b : Array Nat} {i : Nat} {l : List Oper} {done : List Done} {o : Oper}

/-- A call in a region that draws its order. -/
theorem wpD_call {fp : FP} {t : Tgt} {args : List V} {K0 : Heap} (hw : wantV o all fr = some true) (hfp : fpOf E o fr = .call) (hfp' : fp = bif loneAt E all b i then .lone else .call) (hcl : ((freeOf b i done).any fun d => clash d.fp fp) = false)
    (hev : evOp E o { fr with tmps := copyT fr.tmps (o.looksAt all) .nil } (tinyH H fp ((freeOf b i done).flatMap Done.names)) = some (.call t args, K0))
    (hc : CallW E t args K0 fun v K1 => H.next ≤ K1.next ∧ WpD E all b (i + 1) l (⟨i, fp, H.next, K1.next⟩ :: done) (fr.put o.dst v) (joinH H K1 fp ((freeOf b i done).flatMap Done.names)) Q) : WpD E all b i (o :: l) done fr H Q := by
  obtain ⟨v, K1, ⟨k1, hr⟩, hlt, ⟨x, ⟨k0, h1⟩, h2⟩⟩ := hc
  refine ⟨x, ⟨max k0 k1, fun k hk => ?_⟩, h2⟩
  have hb : Nat.blt K1.next H.next = false := by
    rw [← Bool.not_eq_true, Nat.blt_eq]
    omega
  have hro : runOpV E (callFn E k) all o { fr with tmps := copyT fr.tmps (o.looksAt all) .nil } (tinyH H fp ((freeOf b i done).flatMap Done.names)) = some (.ret v, K1) := by
    simp only [runOpV, want_restr, hw, hev, hr k (by omega)]
  have h1' := h1 k (by omega)
  subst hfp'
  simp only [freeOf] at h1' hcl hro
  simp only [runDraw, hw, Option.bind_some, cond_true, hfp, hcl, cond_false, hro, hb]
  exact h1'

theorem elemsV_local {H H1 : Heap} {sz : Nat} {x : V} (hs : ∀ n ∈ x.nm, H1.get n = H.get n) : elemsV H1 sz x = elemsV H sz x := by
  cases x with
  | slice nm g off len sz' cap =>
    have := hs nm (by simp [V.nm])
    simp only [elemsV, readCells, this]
  | _ => rfl

theorem writeCells_local {H H1 H' : Heap} {vs : List V} {nm g off lim : Nat} (hro : H1.ro = H.ro) (hs : H1.get nm = H.get nm) (h : writeCells H vs (.ptr nm g off lim) = some H') : ∃ row, H.get nm ≠ none ∧ writeCells H1 vs (.ptr nm g off lim) = some (H1.put nm row) ∧ H' = H.put nm row := by
  simp only [writeCells, hs] at h ⊢
  split at h
  · rename_i cells elem gen floor frz ex hg
    cases hb : (Nat.beq g gen && Nat.ble (off + vs.length) lim && Nat.ble lim cells.length && Nat.ble frz off && vs.all V.oneCell) with
    | false => rw [hb] at h; cases h
    | true =>
      rw [hb] at h
      simp only [cond_true] at h
      obtain ⟨u1, rfl⟩ := upd_some h
      refine ⟨_, by rw [hg]; simp, ?_, rfl⟩
      simp only [cond_true]
      exact heap_upd (by rw [hro]; exact u1)
  · cases h

/-- append at a smaller memory. -/
theorem appendV_local {H H1 H' : Heap} {e sz by_ : Nat} {s x v : V} (hn : H1.next = H.next) (hro : H1.ro = H.ro) (hs : ∀ n, n ∈ s.nm ∨ n ∈ x.nm → H1.get n = H.get n) (h : appendV H e sz by_ s x = some (v, H')) :
    ∃ K', appendV H1 e sz by_ s x = some (v, K') ∧ ((K' = H1 ∧ H' = H) ∨ (∃ row, K' = H1.new row ∧ H' = H.new row) ∨ (∃ nm row, nm ∈ s.nm ∧ H.get nm ≠ none ∧ K' = H1.put nm row ∧ H' = H.put nm row)) := by
  have ex : elemsV H1 sz x = elemsV H sz x := elemsV_local fun n h => hs n (.inr h)
  have es : elemsV H1 sz s = elemsV H sz s := elemsV_local fun n h => hs n (.inl h)
  unfold appendV at h ⊢
  rw [ex, es, hn]
  obtain ⟨⟨n, items⟩, hx, h⟩ := Option.bind_eq_some_iff.1 h
  rw [hx]
  simp only [Option.bind_some]
  cases s with
  | nils =>
    simp only at h ⊢
    cases hb : Nat.beq n 0 with
    | true =>
      rw [hb] at h
      simp only [cond_true, Option.some.injEq, Prod.mk.injEq] at h
      obtain ⟨rfl, rfl⟩ := h
      exact ⟨H1, rfl, .inl ⟨rfl, rfl⟩⟩
    | false =>
      rw [hb] at h
      simp only [cond_false] at h ⊢
      cases hr : (Nat.ble (n * by_) room && Nat.ble n room) with
      | false => rw [hr] at h; cases h
      | true =>
        rw [hr] at h
        simp only [cond_true, Option.some.injEq, Prod.mk.injEq] at h
        obtain ⟨rfl, rfl⟩ := h
        exact ⟨_, rfl, .inr (.inl ⟨_, rfl, rfl⟩)⟩
  | slice nm g off len sz' cap =>
    have hnm := hs nm (.inl (by simp [V.nm]))
    simp only [hnm] at h ⊢
    cases h1 : (!Nat.beq sz sz') with
    | true => rw [h1] at h; cases h
    | false =>
      rw [h1] at h
      simp only [cond_false] at h ⊢
      cases hb : Nat.beq n 0 with
      | true =>
        rw [hb] at h
        simp only [cond_true, Option.some.injEq, Prod.mk.injEq] at h
        obtain ⟨rfl, rfl⟩ := h
        exact ⟨H1, rfl, .inl ⟨rfl, rfl⟩⟩
      | false =>
        rw [hb] at h
        simp only [cond_false] at h ⊢
        cases h2 : (!(Nat.ble ((len + n) * by_) room && Nat.ble (len + n) room)) with
        | true => rw [h2] at h; cases h
        | false =>
          rw [h2] at h
          simp only [cond_false] at h ⊢
          cases h3 : (!items.all V.oneCell) with
          | true => rw [h3] at h; cases h
          | false =>
            rw [h3] at h
            simp only [cond_false] at h ⊢
            split at h
            · rename_i cells e' gen floor frz exx hg
              cases cap with
              | some c =>
                simp only at h ⊢
                cases h4 : Nat.ble (len + n) c with
                | true =>
                  rw [h4] at h
                  simp only [cond_true] at h ⊢
                  obtain ⟨H2, hw, hv⟩ := Option.map_eq_some_iff.1 h
                  cases hv
                  obtain ⟨row, hne, hw1, rfl⟩ := writeCells_local hro hnm hw
                  exact ⟨_, by rw [hw1]; rfl, .inr (.inr ⟨nm, row, by simp [V.nm], hne, rfl, rfl⟩)⟩
                | false =>
                  rw [h4] at h
                  simp only [cond_false] at h ⊢
                  obtain ⟨⟨n2, old⟩, hw, hv⟩ := Option.map_eq_some_iff.1 h
                  cases hv
                  exact ⟨_, by rw [hw]; rfl, .inr (.inl ⟨_, rfl, rfl⟩)⟩
              | none =>
                simp only at h ⊢
                cases h4 : (Nat.beq g gen && Nat.beq (off + len * sz) cells.length && Nat.ble frz cells.length && Nat.ble floor gen && !Nat.beq sz 0 && Nat.beq e' e) with
                | false => rw [h4] at h; cases h
                | true =>
                  rw [h4] at h
                  simp only [cond_true] at h ⊢
                  obtain ⟨H2, hu, hv⟩ := Option.map_eq_some_iff.1 h
                  cases hv
                  obtain ⟨u1, rfl⟩ := upd_some hu
                  rw [heap_upd (by rw [hro]; exact u1)]
                  exact ⟨_, rfl, .inr (.inr ⟨nm, _, by simp [V.nm], by rw [hg]; simp, rfl, rfl⟩)⟩
            · cases h
  | _ => simp only at h; cases h

theorem joinH_get_writes {K1 : Heap} {l dels : List Nat} {n : Nat} : (joinH H K1 (.writes l) dels).get n = if n ∈ (l.filter fun n => Nat.blt n H.next && !dels.any fun m => Nat.beq n m) ++ List.range' H.next (K1.next - H.next) then K1.get n else H.get n := by
  simp only [joinH, Heap.get, get_copyT]

theorem joinH_get_call {K1 : Heap} {dels : List Nat} {n : Nat} : (joinH H K1 .call dels).get n = if n ∈ List.range' H.next (K1.next - H.next) then K1.get n else H.get n := by
  simp only [joinH, Heap.get, get_copyT]

end
end Go.E3

/- E3: REGIONS that draw their order: the theorem. -/
namespace Go.E3
open Go Go.E2

variable {K : Nat → Type}

section
variable {X : Codecs K} {sz : Nat → Nat} {C : Cfg Int Bool (List UInt8) Prop (fun c => List (K c))} {base : Heap}
variable {tbl : Tbl K} {inv : Nat → List (NV K) → Prop} {meas : Nat → List (NV K) → Nat} {inl : Inl Int Bool (List UInt8) Prop (fun c => List (K c))}
variable {all : Array Oper} {b : Array Nat} {B old : Nat}

/-- What is known in the midst of such a region. -/
structure Mid (X : Codecs K) (sz : Nat → Nat) (C : Cfg Int Bool (List UInt8) Prop (fun c => List (K c))) (base : Heap) (B old : Nat) (l3 : List Done3) (done : List Done) (st : StV K) (fr : Fr) (H : Heap) (w : Wd) : Prop where
  R : Rel X sz C base st fr H w
  D : DRs B w l3 done
  hB : B ≤ H.next
  hold : old ≤ st.next
  lt : ∀ id, id < old → w.cl id → w.c id < B
  live : ∀ d ∈ l3, ∀ id, d.fp = .write id → (look st.cells id).isSome = true

theorem RelH.live {st : StV K} {H : Heap} {w : Wd} (R : RelH X sz C base st H w) {id : Nat} (h : (look st.cells id).isSome = true) : w.M (w.c id) := by
  obtain ⟨ct, hc⟩ := Option.isSome_iff_exists.1 h
  exact (R.cells id ct hc).2.1

theorem Mid.wr {l3 : List Done3} {done : List Done} {st : StV K} {fr : Fr} {H : Heap} {w : Wd} (m : Mid X sz C base B old l3 done st fr H w) : ∀ d ∈ l3, ∀ id, d.fp = .write id → w.M (w.c id) :=
  fun d hd id he => m.R.h.live (m.live d hd id he)

theorem Mid.go (ok : CfgOk X sz C) {l3 : List Done3} {done : List Done} {st st' : StV K} {fr : Fr} {H J : Heap} {w w' : Wd} (m : Mid X sz C base B old l3 done st fr H w) {i : Nat} {f : FP3} {mk : Bool} {fp : FP} {hi : Nat} {dst : Option Tmp} {p : PV K} {v : V}
    (ht : st'.tmps = st.tmps) (hn : st'.n = st.n) (hh : RelH X sz C base st' J w') (hle : Le w w') (hr : Rep X sz w' p v) (hJ : H.next ≤ J.next) (hno : mk = false → hi = H.next) (hfp : fpR w' f fp)
    (hlive : ∀ j, (look st.cells j).isSome = true → (look st'.cells j).isSome = true) (hnew : ∀ id, f = .write id → (look st'.cells id).isSome = true) :
    Mid X sz C base B old (⟨i, f, mk⟩ :: l3) (⟨i, fp, H.next, hi⟩ :: done) (st'.put dst p) (fr.put dst v) J w' := by
  have hcl : ∀ id, w.cl id → id < w.n := fun id h => by rw [m.R.h.n]; exact (m.R.h.cl id h).1
  have hpn : ∀ (s : StV K), (s.put dst p).next = s.next := by
    intro s
    unfold St.put
    split
    · obtain ⟨t, n, c, o, x, kn⟩ := s
      simp only
      cases Nat.blt _ n <;> rfl
    · rfl
  have hpc : ∀ (s : StV K), (s.put dst p).cells = s.cells := by
    intro s
    unfold St.put
    split
    · obtain ⟨t, n, c, o, x, kn⟩ := s
      simp only
      cases Nat.blt _ n <;> rfl
    · rfl
  refine ⟨(m.R.step ok ht hn hh hle).put hr, .cons ⟨rfl, m.hB, hno, hfp⟩ (m.D.mono hle hcl), Nat.le_trans m.hB hJ, ?_, fun id hid hc => ?_, fun d hd id he => ?_⟩
  · rw [hpn]
    have := hle.n
    rw [m.R.h.n, hh.n] at this
    exact Nat.le_trans m.hold this
  · have hlt : id < w.n := by rw [m.R.h.n]; exact Nat.lt_of_lt_of_le hid m.hold
    rw [hle.c id hlt]
    exact m.lt id hid ((hle.cl id hlt).1 hc)
  · rw [hpc]
    rcases List.mem_cons.1 hd with rfl | hd
    · exact hnew id he
    · exact hlive id (m.live d hd id he)

theorem opdsR {o : Oper} {fr : Fr} {H H' : Heap} (hng : ∀ x ∈ o.op.operands.toList, ∀ g, x ≠ .global g) : ∀ x ∈ o.op.operands.toList, opd { fr with tmps := copyT fr.tmps (o.looksAt all) .nil } H' x = opd fr H x :=
  fun x hx => opd_restr' hx (hng x hx)

/-- One operation. -/
theorem draw_op (ok : CfgOk X sz C) (ok2 : CfgOk2 X C) (tok : TblOk X sz C tbl) (iok : InlOk X sz C inl) {l3 : List Done3} {done : List Done} {st : StV K} {fr : Fr} {H : Heap} {w : Wd} (m : Mid X sz C base B old l3 done st fr H w) {i : Nat} {o : Oper} {l : List Oper} {Q : Ex → Fr → Heap → Prop}
    {k : PV K → StV K → Prop} {f : FP3} (hw : wantV o all fr = some true) (hf : fp3 (stdA X tbl inv meas) C all b i o st = some f) (ha : (l3.filter fun d => !(b.getD i 0).testBit d.i).all (fun d => apart3 old d f) = true)
    (hkc : ∀ p st', k p st' → ∀ j, (look st.cells j).isSome = true → (look st'.cells j).isSome = true)
    (h : exOp (stdA X tbl inv meas) C inl o st k)
    (next : ∀ p st' v J w' done', k p st' → Le w w' → Mid X sz C base B old (⟨i, f, makes o.op⟩ :: l3) done' (st'.put o.dst p) (fr.put o.dst v) J w' → WpD C.E all b (i + 1) l done' (fr.put o.dst v) J Q) : WpD C.E all b i (o :: l) done fr H Q := by
  have R := m.R
  unfold fp3 at hf
  cases ht : touches C.E o.op with
  | false =>
    rw [ht] at hf
    simp only [Bool.not_false, cond_true] at hf
    have hfn : f = .none ∧ ∀ t x lo hi mx p, o.op = .slice t x lo hi mx → opdP (stdA X tbl inv meas) C st x = some p → ∀ id c n, p ≠ .mlist id c n := by
      split at hf
      · rename_i t x lo hi mx ho
        split at hf
        · cases hf
        · rename_i hno
          cases hf
          refine ⟨rfl, fun t' x' lo' hi' mx' p ho' hp id c n he => ?_⟩
          rw [ho] at ho'
          cases ho'
          subst he
          exact hno _ _ _ hp
      · rename_i hno
        cases hf
        exact ⟨rfl, fun t' x' lo' hi' mx' p ho' => absurd ho' (hno _ _ _ _ _)⟩
    obtain ⟨rfl, hml⟩ := hfn
    have hfp : fpOf C.E o fr = .none := by simp only [fpOf, ht, Bool.not_false, cond_true]
    have hcl := no_clash (fp := .none) R.h m.D (f := .none) m.wr (by simp) rfl ha
    by_cases hp : pureOp o.op = true
    · have hng := touches_glob ht (.inl hp)
      obtain ⟨p, st', v, w', h1, h2, h3, h4, h5, h6⟩ := exOp_pure (fr' := { fr with tmps := copyT fr.tmps (o.looksAt all) .nil }) (H' := tinyH H .none ((freeOf b i done).flatMap Done.names)) ok R hp (opdsR hng)
        (fun s d x ho => by rw [ho] at ht; simp [touches] at ht) hml h
      refine wpD_step (fp := .none) (K := tinyH H .none _) hw hfp (by simp) hcl h6 (.inl rfl) (Nat.le_refl _) ?_
      rw [joinH_none]
      exact next p st' v H w' _ h1 h4 (m.go ok h2.tmps h2.n h3 h4 h5 (Nat.le_refl _) (fun _ => rfl) rfl (hkc _ _ h1) (by simp))
    by_cases hn : newOp o.op = true
    · have hng := touches_glob ht (.inr hn)
      obtain ⟨p, st', v, row, w', h1, h2, h3, h4, h5, h6, h7⟩ := exOp_new ok R hn h
      have hmk : makes o.op = true := by
        cases ho : o.op <;> simp [newOp, ho] at hn <;> rfl
      refine wpD_step (fp := .none) (out := .val v) (v := v) (K := (tinyH H .none ((freeOf b i done).flatMap Done.names)).new row) hw hfp (by simp) hcl (h7 _ _ rfl (opdsR hng)) (.inl rfl) (by rw [heap_new_next]; exact Nat.le_succ _) ?_
      rw [joinH_new]
      exact next p st' v _ w' _ h1 h5 (m.go ok h2 h3 h4 h5 h6 (by rw [heap_new_next]; exact Nat.le_succ _) (fun hc => by rw [hmk] at hc; cases hc) rfl (hkc _ _ h1) (by simp))
    -- nothing else is free of memory
    exfalso
    cases ho : o.op with
    | load => rw [ho] at ht; simp [touches] at ht
    | store => rw [ho] at ht; simp [touches] at ht
    | call c =>
      rw [ho] at ht
      simp only [exOp, ho] at h
      obtain ⟨ps, hps, h1⟩ := onS_inv h
      split at h1
      · rename_i f hc
        simp [touches, hc] at ht
      · rename_i bi hc
        simp only [touches, hc] at ht
        simp only [pureOp, ho, hc] at hp
        unfold builtinP at h1
        split at h1
        all_goals first
          | (simp at hp; done)
          | (simp at ht; done)
          | (exact absurd h1 id)
      · exact absurd h1 id
    | _ => first
      | (simp [pureOp, ho] at hp; done)
      | (simp [newOp, ho] at hn; done)
      | (simp only [exOp, ho] at h; exact absurd h id)
  | true =>
    rw [ht] at hf
    simp only [Bool.not_true, cond_false] at hf
    cases ho : o.op with
    | load t x =>
      rw [ho] at hf
      simp only [exOp, ho] at h
      obtain ⟨ti, hti, h1⟩ := onS_inv h
      obtain ⟨p, hp', h2⟩ := onS_inv h1
      obtain ⟨v, ev, rv⟩ := opdP_sound R hp'
      have hmk : makes (.load t x) = false := rfl
      -- what lies at the name is there in the small memory too
      have run : ∀ nm, v.nm = [nm] → nmsOf fr [x] = [nm] → nm ∉ (freeOf b i done).flatMap Done.names → fpR w f (.reads [nm]) → (∀ id, f ≠ .write id) → (∀ H1 : Heap, H1.glob = H.glob → H1.get nm = H.get nm → opd { fr with tmps := copyT fr.tmps (o.looksAt all) .nil } H1 x = some v) → WpD C.E all b i (o :: l) done fr H Q := by
        intro nm hnm hnms hdel hfR hnw hop
        have hfp : fpOf C.E o fr = .reads [nm] := by
          simp only [fpOf, ho, Op.operands]
          exact congrArg FP.reads hnms
        obtain ⟨q, h3, nm', gn, off, lim, rfl, hlt, hl, _⟩ := loadK_sound ok R.h rv h2
        simp only [V.nm, List.cons.injEq, and_true] at hnm
        subst hnm
        have hget := tinyH_reads (H := H) (l := [nm']) (dels := (freeOf b i done).flatMap Done.names) (List.mem_singleton.2 rfl) hlt hdel
        obtain ⟨u, hu, ru⟩ := hl _ hget
        obtain ⟨w', hn', R', hle, r'⟩ := fresh1_sound ok R.h ru
        have hcl' : ∀ id, w.cl id → id < w.n := fun id h => by rw [R.h.n]; exact (R.h.cl id h).1
        refine wpD_step (fp := .reads [nm']) (out := .val u) (v := u) (K := tinyH H (.reads [nm']) ((freeOf b i done).flatMap Done.names)) hw hfp (by simp) (no_clash R.h m.D m.wr (fun id he => absurd he (hnw id)) hfR ha) ?_ (.inl rfl) (Nat.le_refl _) ?_
        · simp only [evOp, ho, hti, Option.bind_some, hop (tinyH H (.reads [nm']) ((freeOf b i done).flatMap Done.names)) rfl hget, hu, Option.map_some]
        · rw [joinH_reads]
          exact next _ _ u H w' _ h3 hle (m.go ok hn'.tmps hn'.n R' hle r' (Nat.le_refl _) (fun _ => rfl) (hfR.mono hle hcl') (hkc _ _ h3) (fun id he => absurd he (hnw id)))
      obtain ⟨q, _, nm, gn, off, lim, hv, hlt, _, hkind⟩ := loadK_sound ok R.h rv h2
      subst hv
      cases x with
      | tmp d =>
        simp only at hf
        have hd : d ∈ o.looksAt all := by simp [Oper.looksAt, ho, Op.operands]
        have hop : ∀ H1 : Heap, H1.glob = H.glob → H1.get nm = H.get nm → opd { fr with tmps := copyT fr.tmps (o.looksAt all) .nil } H1 (.tmp d) = some (.ptr nm gn off lim) := by
          intro H1 _ _
          simp only [opd, restr_tmp hd]
          exact ev
        have hnms : nmsOf fr [.tmp d] = [nm] := by
          have : fr.tmp d = some (.ptr nm gn off lim) := ev
          simp only [nmsOf, List.flatMap_cons, List.flatMap_nil, nmOf, this, V.nm, List.append_nil]
        split at hf
        · rename_i id o' l' hg
          have hp'' : st.tmps.get d = some p := hp'
          rw [hg] at hp''
          cases hp''
          cases hf
          rcases hkind with ⟨id', he, hnm, ct, hl⟩ | ⟨cs, o2, he, _⟩
          · have hii : id' = id := by
              rcases he with ⟨_, _, he⟩ | ⟨_, _, _, _, he⟩
              · cases he; rfl
              · cases he
            subst hii
            have hc := (R.h.cells _ ct hl).1
            refine run nm rfl hnms (no_dels m.D ha (.inl ⟨_, .inl rfl, fun hlt' => ?_⟩)) ⟨by rw [hnm], hc⟩ (by simp) hop
            rw [hnm]
            exact m.lt _ hlt' hc
          · cases he
        · rename_i id c' i' n' o' hg
          have hp'' : st.tmps.get d = some p := hp'
          rw [hg] at hp''
          cases hp''
          cases hf
          rcases hkind with ⟨id', he, hnm, ct, hl⟩ | ⟨cs, o2, he, _⟩
          · have hii : id' = id := by
              rcases he with ⟨_, _, he⟩ | ⟨_, _, _, _, he⟩
              · cases he
              · cases he; rfl
            subst hii
            have hc := (R.h.cells _ ct hl).1
            refine run nm rfl hnms (no_dels m.D ha (.inl ⟨_, .inl rfl, fun hlt' => ?_⟩)) ⟨by rw [hnm], hc⟩ (by simp) hop
            rw [hnm]
            exact m.lt _ hlt' hc
          · cases he
        · rename_i cs' o' hg
          have hp'' : st.tmps.get d = some p := hp'
          rw [hg] at hp''
          cases hp''
          cases hf
          cases rv with
          | eptr q1 q2 q3 q4 q5 q6 =>
            refine run nm rfl hnms (no_dels m.D ha (.inr ⟨by simp, by simp⟩)) ⟨[nm], rfl, fun n hn => ?_⟩ (by simp) hop
            rw [List.mem_singleton.1 hn]
            exact ⟨q3, _, _, _, _, _, _, q1⟩
        · cases hf
      | global gl =>
        simp only [Option.some.injEq] at hf
        subst hf
        have hglob : ∃ ps, C.glob gl = some ps ∧ p = .eptr ps 0 := by
          simp only [opdP] at hp'
          obtain ⟨ps, h1', h2'⟩ := Option.map_eq_some_iff.1 hp'
          exact ⟨ps, h1', h2'.symm⟩
        obtain ⟨ps, hgl, rfl⟩ := hglob
        obtain ⟨g0, vs, e, fl, fz, ex, g1, g2, g3⟩ := R.h.globs gl ps hgl
        have hgH : H.get gl = some (.row vs e 0 fl fz ex) := by rw [R.h.keeps.old gl g2]; exact g1
        have hb : Nat.blt gl H.glob = true := by rw [Nat.blt_eq, R.h.keeps.glob]; exact g0
        have hv : V.ptr nm gn off lim = .ptr gl 0 0 vs.length := by
          have := ev
          simp only [opd, hb, cond_true, hgH, Option.some.injEq] at this
          exact this.symm
        cases hv
        cases rv with
        | eptr q1 q2 q3 q4 q5 q6 =>
          refine run nm rfl (by simp [nmsOf, nmOf]) (no_dels m.D ha (.inr ⟨by simp, by simp⟩)) ⟨[nm], rfl, fun n hn => ?_⟩ (by simp) ?_
          · rw [List.mem_singleton.1 hn]
            exact ⟨q3, _, _, _, _, _, _, q1⟩
          · intro H1 hg1 hg2
            simp only [opd, hg1, hb, cond_true, hg2, hgH]
      | _ => simp at hf
    | store t a x =>
      rw [ho] at hf
      simp only [exOp, ho] at h
      obtain ⟨ti, hti, h1⟩ := onS_inv h
      obtain ⟨pa, hpa, h2⟩ := onS_inv h1
      obtain ⟨px, hpx, h3⟩ := onS_inv h2
      obtain ⟨va, ea, ra⟩ := opdP_sound R hpa
      obtain ⟨vx, ex, rx⟩ := opdP_sound R hpx
      obtain ⟨st', id, off, lim, H', w', h4, hpf, rfl, hlt, hid, hcl, hbase, hloc, hs, e1, e2, _, R', hle, hsm, hlv0⟩ := storeK_sound ok R.h ra rx h3
      cases a with
      | tmp d =>
        simp only at hf
        have hpd : st.tmps.get d = some pa := hpa
        rw [hpd] at hf
        have hf : (bif (glOf x).isEmpty then some (FP3.write id) else none) = some f := by
          rcases hpf with ⟨_, _, rfl⟩ | ⟨_, _, _, _, rfl⟩
          · exact hf
          · exact hf
        cases hgl : (glOf x).isEmpty with
        | false => rw [hgl] at hf; cases hf
        | true =>
          rw [hgl] at hf
          simp only [cond_true, Option.some.injEq] at hf
          subst hf
          have hlf : ∀ id', FP3.write id = FP3.write id' → w.M (w.c id') := by
            intro id' he
            cases he
            exact R.h.live hlv0
          have hglx : glOf x = [] := by simpa using hgl
          have hd : d ∈ o.looksAt all := by simp [Oper.looksAt, ho, Op.operands]
          have hdf : fr.tmp d = some (.ptr (w.c id) 0 off lim) := ea
          have hfp : fpOf C.E o fr = .writes [w.c id] := by
            have ht' := ht
            rw [ho] at ht'
            simp only [fpOf, ho, ht', Bool.not_true, cond_false, nmOf, hdf, V.nm, hglx, List.append_nil]
          have hfR : fpR w (.write id) (.writes [w.c id]) := ⟨rfl, hcl⟩
          have hcl' : ∀ id, w.cl id → id < w.n := fun id h => by rw [R.h.n]; exact (R.h.cl id h).1
          have hdel := no_dels (nm := w.c id) m.D ha (.inl ⟨id, .inr rfl, fun hlt' => m.lt id hlt' hcl⟩)
          have hget := tinyH_writes (H := H) (l := [w.c id]) (dels := (freeOf b i done).flatMap Done.names) (List.mem_singleton.2 rfl) hlt hdel
          have hro : (tinyH H (.writes [w.c id]) ((freeOf b i done).flatMap Done.names)).ro ≤ w.c id := by
            show H.ro ≤ w.c id
            rw [R.h.keeps.ro]
            exact Nat.le_trans R.h.rob.1 hbase
          obtain ⟨row, hH', hst2⟩ := hloc _ hget hro
          have hmk : makes (.store t (.tmp d) x) = false := rfl
          have hxr : ∀ H0, opd { fr with tmps := copyT fr.tmps (o.looksAt all) .nil } H0 x = some vx := by
            intro H0
            have : opd { fr with tmps := copyT fr.tmps (o.looksAt all) .nil } H0 x = opd fr H x := opd_restr' (by simp [ho, Op.operands]) (by intro g hg; subst hg; simp [glOf] at hglx)
            rw [this]; exact ex
          refine wpD_step (fp := .writes [w.c id]) (out := .skip) (v := undefV) (K := (tinyH H (.writes [w.c id]) ((freeOf b i done).flatMap Done.names)).put (w.c id) row) hw hfp (by simp) (no_clash R.h m.D m.wr hlf hfR ha) ?_ (.inr ⟨rfl, rfl⟩) (Nat.le_refl _) ?_
          · have hop : opd { fr with tmps := copyT fr.tmps (o.looksAt all) .nil } (tinyH H (.writes [w.c id]) ((freeOf b i done).flatMap Done.names)) (.tmp d) = some (.ptr (w.c id) 0 off lim) := by
              simp only [opd, restr_tmp hd]
              exact ea
            simp only [evOp, ho, hti, Option.bind_some, hop, hxr, hst2, Option.map_some]
          · have RJ : RelH X sz C base st' (joinH H ((tinyH H (.writes [w.c id]) ((freeOf b i done).flatMap Done.names)).put (w.c id) row) (.writes [w.c id]) ((freeOf b i done).flatMap Done.names)) w' := by
              refine R'.congr (fun n => ?_) ?_ ?_ ?_
              · rw [joinH_get_writes, hH']
                have hnx : ((tinyH H (.writes [w.c id]) ((freeOf b i done).flatMap Done.names)).put (w.c id) row).next - H.next = 0 := Nat.sub_self _
                rw [hnx]
                simp only [List.range'_zero, List.append_nil, List.mem_filter, List.mem_singleton]
                have hok : (Nat.blt (w.c id) H.next && !((freeOf b i done).flatMap Done.names).any fun m => Nat.beq (w.c id) m) = true := okN_of hlt hdel
                by_cases hn : n = w.c id
                · subst hn
                  rw [if_pos ⟨rfl, hok⟩, heap_put_get, heap_put_get]
                · rw [if_neg (fun hh => hn hh.1), heap_put_ne hn]
              · rw [hH']; rfl
              · rw [hH']; rfl
              · rw [hH']; rfl
            exact next _ _ undefV _ w' _ h4 hle (m.go ok e1 e2 RJ hle .undef (Nat.le_refl _) (fun _ => rfl) (hfR.mono hle hcl') (hkc _ _ h4) (by intro id' he; cases he; rw [hsm]; exact hlv0))
      | _ => simp at hf
    | convert s d x =>
      rw [ho] at hf
      simp only at hf
      have hform : ∃ p, opdP (stdA X tbl inv meas) C st x = some p ∧ ((∃ k l n, p = .int k l n) ∨ ∃ s, p = .str s) ∧ (glOf x).isEmpty = true ∧ f = .stable := by
        split at hf
        · rename_i k' l' n' hx
          cases hg : (glOf x).isEmpty with
          | false => rw [hg] at hf; cases hf
          | true => rw [hg] at hf; cases hf; exact ⟨_, hx, .inl ⟨_, _, _, rfl⟩, rfl, rfl⟩
        · rename_i s' hx
          cases hg : (glOf x).isEmpty with
          | false => rw [hg] at hf; cases hf
          | true => rw [hg] at hf; cases hf; exact ⟨_, hx, .inr ⟨_, rfl⟩, rfl, rfl⟩
        · cases hf
      obtain ⟨p, hpx, hkind, hgl, rfl⟩ := hform
      have hglx : glOf x = [] := by simpa using hgl
      obtain ⟨v, ev, rv⟩ := opdP_sound R hpx
      have hvn : v.nm = [] := by
        rcases hkind with ⟨k', l', n', rfl⟩ | ⟨s', rfl⟩ <;> cases rv <;> rfl
      have hng : ∀ y ∈ o.op.operands.toList, ∀ g, y ≠ .global g := by
        intro y hy g he
        subst he
        simp [ho, Op.operands] at hy
        subst hy
        simp [glOf] at hglx
      have hfp : fpOf C.E o fr = .reads [] := by
        simp only [fpOf, ho, Op.operands]
        refine congrArg FP.reads ?_
        cases x with
        | tmp t =>
          have : fr.tmp t = some v := ev
          simp [nmsOf, nmOf, this, hvn]
        | global g => simp [glOf] at hglx
        | _ => simp [nmsOf, nmOf]
      have hfR : fpR w .stable (.reads []) := ⟨[], rfl, fun n hn => by cases hn⟩
      have hcl' : ∀ id, w.cl id → id < w.n := fun id h => by rw [R.h.n]; exact (R.h.cl id h).1
      obtain ⟨q, st', u, w', h1, h2, h3, h4, h5, h6⟩ := exOp_pure (fr' := { fr with tmps := copyT fr.tmps (o.looksAt all) .nil }) (H' := tinyH H (.reads []) ((freeOf b i done).flatMap Done.names)) ok R (by rw [ho]; rfl) (opdsR hng)
        (fun s' d' x' ho' => by rw [ho] at ho'; cases ho'; exact .inr ⟨p, hpx, hkind⟩) (fun t' x' lo' hi' mx' p' ho' => by rw [ho] at ho'; cases ho') h
      refine wpD_step (fp := .reads []) (out := .val u) (v := u) (K := tinyH H (.reads []) _) hw hfp (by simp) (no_clash R.h m.D m.wr (by simp) hfR ha) h6 (.inl rfl) (Nat.le_refl _) ?_
      rw [joinH_reads]
      exact next q st' u H w' _ h1 h4 (m.go ok h2.tmps h2.n h3 h4 h5 (Nat.le_refl _) (fun _ => rfl) (hfR.mono h4 hcl') (hkc _ _ h1) (by simp))
    | call c =>
      rw [ho] at hf
      simp only [exOp, ho] at h
      obtain ⟨ps, hps, h1⟩ := onS_inv h
      obtain ⟨vs, ev, rv⟩ := opdsP_sound R hps
      have ht' := ht
      rw [ho] at ht'
      have hroB : H.ro = base.ro := R.h.keeps.ro
      split at h1
      · rename_i f' hc
        obtain ⟨pf, hpf, h2⟩ := onS_inv h1
        obtain ⟨vf, ef, rf⟩ := opdP_sound R hpf
        simp only [hc] at hf
        have hfp : fpOf C.E o fr = .call := by
          simp only [fpOf, ho, ht', Bool.not_true, cond_false, hc]
        have hops : ∀ (H1 : Heap), (∀ n, H1.get n = H.get n) → H1.glob = H.glob → ∀ x ∈ o.op.operands.toList, opd { fr with tmps := copyT fr.tmps (o.looksAt all) .nil } H1 x = opd fr H x := by
          intro H1 hg1 hg2 x hx
          cases x with
          | global g => simp only [opd, hg1, hg2]
          | tmp t => exact opd_restr' hx (by simp)
          | const v => rfl
          | func f => rfl
        have hmem : ∀ x ∈ c.args.toList, x ∈ o.op.operands.toList := by
          intro x hx
          simp only [ho, Op.operands, Call.operands, Array.toList_append, List.mem_append]
          exact .inr hx
        have hmemf : f' ∈ o.op.operands.toList := by
          simp only [ho, Op.operands, Call.operands, Array.toList_append, List.mem_append, hc]
          exact .inl (by simp)
        cases hlone : loneAt C.E all b i with
        | true =>
          rw [hlone] at hf
          simp only [cond_true, Option.some.injEq] at hf
          subst hf
          obtain ⟨g, us, hco, hcall⟩ := callP_sound ok ok2 tok iok R.h rf rv h2
          have hdel := dels_nil m.D ha ⟨by simp, by simp⟩
          have hH : tinyH H .lone [] = H := by cases H; rfl
          refine wpD_call (fp := .lone) (t := .func g) (args := us) (K0 := H) hw hfp (by rw [hlone]; rfl) (no_clash (fp := .lone) R.h m.D (f := .lone) m.wr (by simp) trivial ha) ?_ ?_
          · rw [hdel, hH]
            have e1 : opds { fr with tmps := copyT fr.tmps (o.looksAt all) .nil } H c.args.toList = some vs := by
              rw [opds_same fun x hx => hops H (fun _ => rfl) rfl x (hmem x hx)]; exact ev
            have e2 := (hops H (fun _ => rfl) rfl f' hmemf).trans ef
            simp only [evOp, ho, hc, e1, e2, Option.bind_some, hco, Option.map_some]
          · refine hcall.mono fun v H1 hA => ?_
            obtain ⟨p, st', w', a1, a2, a3, a4, a5, a6⟩ := hA
            have hnx : H.next ≤ H1.next := by have := a5.nx; rw [R.h.nx, a4.nx] at this; exact this
            rw [hdel]
            have hJ : RelH X sz C base st' (joinH H H1 .lone []) w' := by
              refine a4.congr (fun n => ?_) rfl ?_ ?_
              · simp only [joinH, Heap.get, copyT]
              · rw [a4.keeps.ro]; exact hroB
              · rw [a4.keeps.glob]; exact R.h.keeps.glob
            exact ⟨hnx, next p st' v _ w' _ a1 a5 (m.go ok a2 a3 hJ a5 a6 hnx (fun hmk => by rw [ho] at hmk; simp [makes, hc] at hmk) trivial (hkc _ _ a1) (by simp))⟩
        | false =>
          rw [hlone] at hf
          simp only [cond_false, hpf, hps] at hf
          split at hf
          · rename_i g first cap args heq1 heq2
            cases heq1
            cases heq2
            cases hfn : fnP (stdA X tbl inv meas) st g (first ++ ps ++ cap) with
            | none => rw [hfn] at hf; cases hf
            | some x =>
              obtain ⟨pre, r⟩ := x
              rw [hfn] at hf
              simp only [Option.isSome_some, cond_true, Option.some.injEq] at hf
              subst hf
              simp only [callP, hfn] at h2
              cases hd : distinct (ownIds r.flat) with
              | false => rw [hd] at h2; exact absurd h2 id
              | true =>
                rw [hd] at h2
                simp only [cond_true] at h2
                obtain ⟨hpre, hk⟩ := h2
                cases rf with
                | @func f2 a c2 va vc hla hlc q1 q2 =>
                have hra : RepL X sz w (first ++ ps ++ cap) (va ++ vs ++ vc) := RepL.append (RepL.append (ps := first) ⟨hla, q1⟩ rv) ⟨hlc, q2⟩
                have hdel := dels_nil m.D ha ⟨by simp, by simp⟩
                let H1 : Heap := tinyH H .call []
                have hg1 : ∀ n, H1.get n = H.get n := fun n => by simp only [H1, tinyH, Heap.get, copyT]
                obtain ⟨form, hcall⟩ := fnP_sound ok2 tok R.h hra hfn hpre (H1 := H1) hg1 rfl rfl (Nat.le_refl _)
                refine wpD_call (fp := .call) (t := .func g) (args := va ++ vs ++ vc) (K0 := H1) hw hfp (by rw [hlone]; rfl) (no_clash (fp := .call) R.h m.D (f := .call) m.wr (by simp) rfl ha) ?_ ?_
                · rw [hdel]
                  have e1 : opds { fr with tmps := copyT fr.tmps (o.looksAt all) .nil } H1 c.args.toList = some vs := by
                    rw [opds_same fun x hx => hops H1 hg1 rfl x (hmem x hx)]; exact ev
                  have e2 := (hops H1 hg1 rfl f' hmemf).trans ef
                  show evOp C.E o _ H1 = _
                  simp only [evOp, ho, hc, e1, e2, Option.bind_some, callOut, Option.map_some]
                · refine hcall.mono fun v H2 hA => ?_
                  obtain ⟨w', a⟩ := hA
                  rw [hdel]
                  have hnx : H.next ≤ H2.next := a.keeps.next
                  obtain ⟨w'', e1, e2, R', hle, r'⟩ := contract_sound ok ok2 R.h form (H1 := H1) hg1 rfl a (J := joinH H H2 .call []) (fun n => by
                    rw [joinH_get_call]
                    split
                    · rfl
                    · rename_i hn
                      have hn' : ¬ (H.next ≤ n ∧ n < H2.next) := by
                        intro hh
                        exact hn (List.mem_range'_1.2 ⟨hh.1, by omega⟩)
                      by_cases hlt : n < H.next
                      · rw [a.keeps.old n hlt, hg1]
                      · rw [R.h.wf n (by omega), a.wf n (by omega)]) rfl rfl rfl
                  exact ⟨hnx, next _ _ v _ w'' _ hk hle (m.go ok e1 e2 R' hle r' hnx (fun hmk => by rw [ho] at hmk; simp [makes, hc] at hmk) rfl (hkc _ _ hk) (by simp))⟩
          · cases hf
      · rename_i bi hc
        have hbi : bi = .append := by
          cases bi <;> first | rfl | (simp [hc] at hf; done)
        subst hbi
        simp only [hc] at hf
        cases hlone : loneAt C.E all b i with
        | false => rw [hlone] at hf; cases hf
        | true =>
          rw [hlone] at hf
          simp only [cond_true, Option.some.injEq] at hf
          subst hf
          have hdel := dels_nil m.D ha ⟨by simp, by simp⟩
          have hfp : fpOf C.E o fr = .writes (nmsOf fr c.args.toList) := by
            simp only [fpOf, ho, ht', Bool.not_true, cond_false, hc]
          have hmem : ∀ x ∈ c.args.toList, x ∈ o.op.operands.toList := by
            intro x hx
            simp only [ho, Op.operands, Call.operands, Array.toList_append, List.mem_append]
            exact .inr hx
          -- names of arguments
          have hnames : ∀ x (p : PV K) v, opdP (stdA X tbl inv meas) C st x = some p → opd fr H x = some v → Rep X sz w p v → ((∃ s, p = .str s) ∨ p = .nils ∨ ∃ c l own, p = .list c l own) → ∀ n ∈ v.nm, n ∈ nmOf fr x := by
            intro x p v h1 h2 h3 h4 n hn
            cases x with
            | tmp t =>
              have h2' : fr.tmp t = some v := h2
              simp only [nmOf, h2']
              exact hn
            | const cv =>
              have hp' : (absV 1000 cv).bind (constP (stdA X tbl inv meas)) = some p := h1
              obtain ⟨u, hu1, hu2⟩ := Option.bind_eq_some_iff.1 hp'
              have h2' : absV 1000 cv = some v := h2
              rw [hu1] at h2'
              cases h2'
              exfalso
              unfold constP at hu2
              split at hu2
              · simp [V.nm] at hn
              · simp [V.nm] at hn
              · cases hpl : plainV v with
                | false => rw [hpl] at hu2; cases hu2
                | true =>
                  cases v <;> simp [plainV] at hpl <;> simp [V.nm] at hn
            | global g =>
              simp only [opdP] at h1
              obtain ⟨q, _, rfl⟩ := Option.map_eq_some_iff.1 h1
              rcases h4 with ⟨_, h4⟩ | h4 | ⟨_, _, _, h4⟩ <;> cases h4
            | func f =>
              simp only [opd, Option.some.injEq] at h2
              subst h2
              simp [V.nm] at hn
          have htiny : ∀ n, n ∈ nmsOf fr c.args.toList → n < H.next → (tinyH H (.writes (nmsOf fr c.args.toList)) []).get n = H.get n := fun n h1 h2 => tinyH_writes h1 h2 (by simp)
          -- the end, once the values are known
          have fin : ∀ (a1 a2 : Operand) (s x : PV K) (v1 v2 : V) (t u : TypeId) (ti ui : TI) (e : TypeId) (ei : TI) (p : PV K) (st' : StV K) (v : V) (H' : Heap) (w' : Wd), c.args.toList = [a1, a2] → opdP (stdA X tbl inv meas) C st a1 = some s → opdP (stdA X tbl inv meas) C st a2 = some x →
              opd fr H a1 = some v1 → opd fr H a2 = some v2 → Rep X sz w s v1 → Rep X sz w x v2 → ((∃ s', s = .str s') ∨ s = .nils ∨ ∃ c l own, s = .list c l own) → ((∃ s', x = .str s') ∨ x = .nils ∨ ∃ c l own, x = .list c l own) →
              c.argTypes.toList = [t, u] → C.E.types t = some ti → C.E.types u = some ui → ti.under = .slice e → ((∃ e', ui.under = .slice e') ∨ ui.under = .string) → C.E.types e = some ei →
              appendV H e ei.size ei.bytes v1 v2 = some (v, H') → k p st' → st'.tmps = st.tmps → st'.n = st.n → RelH X sz C base st' H' w' → Le w w' → Rep X sz w' p v → WpD C.E all b i (o :: l) done fr H Q := by
            intro a1 a2 s x v1 v2 t u ti ui e ei p st' v H' w' hargs o1 o2 e1 e2 r1 r2 k1 k2 hats hti hui hu1 hu2 hei happ hk g1 g2 R' hle hr
            have hin1 : ∀ n ∈ v1.nm, n ∈ nmsOf fr c.args.toList := by
              intro n hn
              rw [hargs]
              simp only [nmsOf, List.flatMap_cons, List.mem_append]
              exact .inl (hnames a1 s v1 o1 e1 r1 k1 n hn)
            have hin2 : ∀ n ∈ v2.nm, n ∈ nmsOf fr c.args.toList := by
              intro n hn
              rw [hargs]
              simp only [nmsOf, List.flatMap_cons, List.flatMap_nil, List.append_nil, List.mem_append]
              exact .inr (hnames a2 x v2 o2 e2 r2 k2 n hn)
            have hlt : ∀ (q : PV K) v0, Rep X sz w q v0 → ((∃ s', q = .str s') ∨ q = .nils ∨ ∃ c l own, q = .list c l own) → ∀ n ∈ v0.nm, n < H.next := by
              intro q v0 hq hk n hn
              rcases hk with ⟨s', rfl⟩ | rfl | ⟨c', l', own, rfl⟩
              · cases hq; simp [V.nm] at hn
              · cases hq; simp [V.nm] at hn
              · rcases list_cases hq with ⟨_, rfl⟩ | ⟨nm, gn, off, cap, cs, e', gen, floor, frz, ex, rfl, hg, _⟩
                · simp [V.nm] at hn
                · simp only [V.nm, List.mem_singleton] at hn
                  subst hn
                  rw [R.h.g] at hg
                  by_cases hlt : n < H.next
                  · exact hlt
                  · rw [R.h.wf n (by omega)] at hg; cases hg
            let T := tinyH H (.writes (nmsOf fr c.args.toList)) []
            obtain ⟨K1, hK1, hcase⟩ := appendV_local (H := H) (H1 := T) rfl rfl (fun n hn => by
              rcases hn with hn | hn
              · exact htiny n (hin1 n hn) (hlt s v1 r1 k1 n hn)
              · exact htiny n (hin2 n hn) (hlt x v2 r2 k2 n hn)) happ
            have hng1 : ∀ g, a1 ≠ .global g := by
              intro g hg
              subst hg
              simp only [opdP] at o1
              obtain ⟨q, _, rfl⟩ := Option.map_eq_some_iff.1 o1
              rcases k1 with ⟨_, h4⟩ | h4 | ⟨_, _, _, h4⟩ <;> cases h4
            have hng2 : ∀ g, a2 ≠ .global g := by
              intro g hg
              subst hg
              simp only [opdP] at o2
              obtain ⟨q, _, rfl⟩ := Option.map_eq_some_iff.1 o2
              rcases k2 with ⟨_, h4⟩ | h4 | ⟨_, _, _, h4⟩ <;> cases h4
            have eo1 : opd { fr with tmps := copyT fr.tmps (o.looksAt all) .nil } T a1 = some v1 := (opd_restr' (hmem a1 (by rw [hargs]; simp)) hng1).trans e1
            have eo2 : opd { fr with tmps := copyT fr.tmps (o.looksAt all) .nil } T a2 = some v2 := (opd_restr' (hmem a2 (by rw [hargs]; simp)) hng2).trans e2
            have hev : evOp C.E o { fr with tmps := copyT fr.tmps (o.looksAt all) .nil } T = some (.val v, K1) := by
              have ea : opds { fr with tmps := copyT fr.tmps (o.looksAt all) .nil } T c.args.toList = some [v1, v2] := by
                rw [hargs]; exact opds_cons eo1 (opds_cons eo2 opds_nil)
              rcases hu2 with ⟨e', hu2⟩ | hu2
              · simp only [evOp, ho, hc, ea, Option.bind_some, builtinV, hats, hti, hui, hu1, hu2, hei, hK1, Option.map_some]
              · simp only [evOp, ho, hc, ea, Option.bind_some, builtinV, hats, hti, hui, hu1, hu2, hei, hK1, Option.map_some]
            have hnx : H.next ≤ H'.next := by have := hle.nx; rw [R.h.nx, R'.nx] at this; exact this
            have hKn : K1.next = H'.next := by
              rcases hcase with ⟨rfl, rfl⟩ | ⟨row, rfl, rfl⟩ | ⟨nm, row, _, _, rfl, rfl⟩
              · rfl
              · rw [heap_new_next, heap_new_next]; rfl
              · rfl
            refine wpD_step (fp := .writes (nmsOf fr c.args.toList)) (out := .val v) (v := v) (K := K1) hw hfp (by simp) (no_clash (fp := .writes (nmsOf fr c.args.toList)) R.h m.D (f := .lone) m.wr (by simp) trivial ha) ?_ (.inl rfl) (by rw [hKn]; exact hnx) ?_
            · rw [hdel]; exact hev
            · rw [hdel]
              have RJ : RelH X sz C base st' (joinH H K1 (.writes (nmsOf fr c.args.toList)) []) w' := by
                refine R'.congr (fun n => ?_) hKn ?_ ?_
                · rw [joinH_get_writes]
                  have hT : ∀ m, m ∈ (nmsOf fr c.args.toList).filter (fun n => Nat.blt n H.next && !([] : List Nat).any fun m => Nat.beq n m) → T.get m = H.get m := by
                    intro m hm
                    simp only [List.mem_filter, Bool.and_eq_true, Nat.blt_eq] at hm
                    exact htiny m hm.1 hm.2.1
                  rcases hcase with ⟨rfl, rfl⟩ | ⟨row, rfl, rfl⟩ | ⟨nm, row, hnm, hne, rfl, rfl⟩
                  · split
                    · rename_i hn
                      rcases List.mem_append.1 hn with hn | hn
                      · exact hT n hn
                      · have := List.mem_range'_1.1 hn
                        have hTn : T.next = H'.next := rfl
                        omega
                    · rfl
                  · have hTn : (T.new row).next = H.next + 1 := heap_new_next
                    split
                    · rename_i hn
                      rcases List.mem_append.1 hn with hn | hn
                      · have h2 : n < H.next := by
                          simp only [List.mem_filter, Bool.and_eq_true, Nat.blt_eq] at hn
                          exact hn.2.1
                        rw [heap_new_ne (H := T) h2, heap_new_ne h2]
                        exact hT n hn
                      · have := List.mem_range'_1.1 hn
                        have : n = H.next := by omega
                        subst this
                        rw [heap_new_get]
                        exact heap_new_get (H := T)
                    · rename_i hn
                      by_cases h2 : n = H.next
                      · exfalso
                        apply hn
                        refine List.mem_append.2 (.inr (List.mem_range'_1.2 ⟨by omega, by omega⟩))
                      · have : (H.new row).get n = H.get n := by
                          obtain ⟨t0, nx0, ro0, gl0⟩ := H
                          simp only [Heap.new, Heap.get, Tree.get_set]
                          rw [if_neg h2]
                        rw [this]
                  · have hnlt : nm < H.next := hlt s v1 r1 k1 nm hnm
                    have hTn : (T.put nm row).next - H.next = 0 := Nat.sub_self _
                    rw [hTn]
                    simp only [List.range'_zero, List.append_nil]
                    by_cases h2 : n = nm
                    · subst h2
                      rw [if_pos, heap_put_get, heap_put_get]
                      simp only [List.mem_filter, Bool.and_eq_true, Nat.blt_eq]
                      exact ⟨hin1 n hnm, hnlt, by simp⟩
                    · rw [heap_put_ne h2, heap_put_ne h2]
                      split
                      · rename_i hn; exact hT n hn
                      · rfl
                · rw [R'.keeps.ro]; exact hroB
                · rw [R'.keeps.glob]; exact R.h.keeps.glob
              exact next p st' v _ w' _ hk hle (m.go ok g1 g2 RJ hle hr (by show H.next ≤ K1.next; rw [hKn]; exact hnx) (fun hmk => by rw [ho] at hmk; simp [makes, hc] at hmk) trivial (hkc _ _ hk) (by simp))
          -- the arguments
          have two : ∀ (l : List Operand) s x, opdsP (stdA X tbl inv meas) C st l = some [s, x] → ∃ a1 a2, l = [a1, a2] ∧ opdP (stdA X tbl inv meas) C st a1 = some s ∧ opdP (stdA X tbl inv meas) C st a2 = some x := by
            intro l s x hl
            match l, hl with
            | [], hl => simp [opdsP] at hl
            | [a1], hl =>
              simp only [opdsP, Option.map_some, Option.bind_eq_some_iff] at hl
              obtain ⟨q, _, hq⟩ := hl
              simp at hq
            | a1 :: a2 :: a3 :: l, hl =>
              simp only [opdsP] at hl
              obtain ⟨q1, _, hq⟩ := Option.bind_eq_some_iff.1 hl
              obtain ⟨q2, hq2, hq3⟩ := Option.map_eq_some_iff.1 hq
              obtain ⟨q4, _, hq5⟩ := Option.bind_eq_some_iff.1 hq2
              obtain ⟨q6, hq6, hq7⟩ := Option.map_eq_some_iff.1 hq5
              obtain ⟨q8, _, hq9⟩ := Option.bind_eq_some_iff.1 hq6
              obtain ⟨q10, _, hq11⟩ := Option.map_eq_some_iff.1 hq9
              subst hq11; subst hq7
              simp at hq3
            | [a1, a2], hl =>
              simp only [opdsP] at hl
              obtain ⟨q1, h1, hq⟩ := Option.bind_eq_some_iff.1 hl
              obtain ⟨q2, hq2, hq3⟩ := Option.map_eq_some_iff.1 hq
              obtain ⟨q4, h4, hq5⟩ := Option.bind_eq_some_iff.1 hq2
              simp only [Option.map_some, Option.some.injEq] at hq5
              subst hq5
              simp only [List.cons.injEq, and_true] at hq3
              obtain ⟨rfl, rfl⟩ := hq3
              exact ⟨a1, a2, rfl, h1, h4⟩
          unfold builtinP at h1
          split at h1
          · contradiction
          · rename_i s x t u _ hats
            obtain ⟨a1, a2, hargs, o1, o2⟩ := two _ _ _ hps
            obtain ⟨v1, vs', rfl, r1, rr⟩ := rv.uncons
            obtain ⟨v2, vs'', rfl, r2, r4⟩ := rr.uncons
            have := r4.nil_iff; subst this
            have hev2 : opd fr H a1 = some v1 ∧ opd fr H a2 = some v2 := by
              rw [hargs] at ev
              simp only [opds] at ev
              obtain ⟨u1, h1', h2'⟩ := Option.bind_eq_some_iff.1 ev
              obtain ⟨u2, h3', h4'⟩ := Option.map_eq_some_iff.1 h2'
              obtain ⟨u3, h5', h6'⟩ := Option.bind_eq_some_iff.1 h3'
              simp only [Option.map_some, Option.some.injEq] at h6'
              subst h6'
              simp only [List.cons.injEq, and_true] at h4'
              obtain ⟨rfl, rfl⟩ := h4'
              exact ⟨h1', h5'⟩
            have form : ∀ (c' : Nat) (q : PV K) l', asL (stdA X tbl inv meas) c' q = some l' → ((∃ s', q = .str s') ∨ q = .nils ∨ ∃ c l own, q = .list c l own) := by
              intro c' q l' hq
              unfold asL at hq
              split at hq
              · exact .inr (.inl rfl)
              · exact .inr (.inr ⟨_, _, _, rfl⟩)
              · cases hq
            split at h1
            · rename_i ti ui hti hui
              split at h1
              · rename_i e e' hu1 hu2
                split at h1
                · rename_i c' ei hcc hei
                  cases hb : (Nat.ble ei.bytes 1024 && !Nat.beq ei.size 0) with
                  | false => rw [hb] at h1; exact absurd h1 id
                  | true =>
                    rw [hb] at h1
                    simp only [cond_true] at h1
                    simp only [Bool.and_eq_true, Nat.ble_eq] at hb
                    split at h1
                    · rename_i l' hl
                      have rl := asL_sound r2 hl
                      have hsz := ok.size e c' ei hcc hei
                      obtain ⟨items, hel, hit⟩ := elemsV_list ok.len R.h.g rl (ok.pos e c' hcc)
                      rw [← hsz] at hel
                      obtain ⟨l0, _, _, _, hl0, _⟩ := appendP_inv R.h h1
                      obtain ⟨p, st', v, H', w', q1, q2, q3, q4, q5, q6, q7⟩ := append_sound ok R.h hcc hei hb.1 r1 hel hit h1
                      exact fin a1 a2 s x v1 v2 t u ti ui e ei p st' v H' w' hargs o1 o2 hev2.1 hev2.2 r1 r2 (form _ _ _ hl0) (form _ _ _ hl) hats hti hui hu1 (.inl ⟨_, hu2⟩) hei q4 q1 q2 q3 q5 q6 q7
                    · exact absurd h1 id
                · exact absurd h1 id
              · rename_i e hu1 hu2
                split at h1
                · rename_i ei y hcc hei
                  cases hb : (Nat.ble ei.bytes 1024 && Nat.beq ei.size 1) with
                  | false => rw [hb] at h1; exact absurd h1 id
                  | true =>
                    rw [hb] at h1
                    simp only [cond_true] at h1
                    simp only [Bool.and_eq_true, Nat.ble_eq] at hb
                    cases r2
                    have hs1 := Nat.eq_of_beq_eq_true hb.2
                    obtain ⟨hlen, hit⟩ := str_items (w := w) ok y
                    have hel : elemsV H ei.size (.str y) = some ((X.u8 ▸ y : List (K 0)).length, y.map fun b => V.int .u8 b.toNat) := by rw [hs1, elemsV_str, hlen]
                    obtain ⟨l0, _, _, _, hl0, _⟩ := appendP_inv R.h h1
                    obtain ⟨p, st', v, H', w', q1, q2, q3, q4, q5, q6, q7⟩ := append_sound ok R.h hcc hei hb.1 r1 hel hit h1
                    exact fin a1 a2 s (.str y) v1 (.str y) t u ti ui e ei p st' v H' w' hargs o1 o2 hev2.1 hev2.2 r1 .str (form _ _ _ hl0) (.inl ⟨_, rfl⟩) hats hti hui hu1 (.inr hu2) hei q4 q1 q2 q3 q5 q6 q7
                · exact absurd h1 id
              · exact absurd h1 id
            · exact absurd h1 id
          · contradiction
          · contradiction
          · exact absurd h1 id
      · exact absurd h1 id
    | _ => rw [ho] at hf; simp at hf

end
end Go.E3

/- E3: REGIONS that draw their order, as a whole; what a piece of code leaves alone. -/
namespace Go.E3
open Go Go.E2

variable {K : Nat → Type}

section
variable {X : Codecs K} {sz : Nat → Nat} {C : Cfg Int Bool (List UInt8) Prop (fun c => List (K c))} {base : Heap}
variable {tbl : Tbl K} {inv : Nat → List (NV K) → Prop} {meas : Nat → List (NV K) → Nat} {inl : Inl Int Bool (List UInt8) Prop (fun c => List (K c))}
variable {all : Array Oper} {b : Array Nat} {B old : Nat}

theorem look_in {α : Type} : ∀ {l : List (Nat × α)} {j : Nat}, (look l j).isSome = true → ∃ a, (j, a) ∈ l
  | [], j, h => by simp [look] at h
  | (i, a) :: l, j, h => by
    simp only [look, cond_eq_ite, Nat.beq_eq] at h
    by_cases hi : i = j
    · subst hi; exact ⟨a, List.mem_cons_self⟩
    · rw [if_neg hi] at h
      obtain ⟨b, hb⟩ := look_in h
      exact ⟨b, List.mem_cons_of_mem _ hb⟩

theorem wpDraw_sound (ok : CfgOk X sz C) (ok2 : CfgOk2 X C) (tok : TblOk X sz C tbl) (iok : InlOk X sz C inl) : ∀ {l : List Oper} {i : Nat} {l3 : List Done3} {done : List Done} {st : StV K} {fr : Fr} {H : Heap} {w : Wd} {k : StV K → Prop},
    Mid X sz C base B old l3 done st fr H w → wpDraw (stdA X tbl inv meas) C inl all b old i l l3 st k →
    WpD C.E all b i l done fr H fun ex fr' H' => ex = .normal ∧ ∃ st' w', k st' ∧ Rel X sz C base st' fr' H' w' ∧ Le w w'
  | [], i, l3, done, st, fr, H, w, k, m, h => wpD_nil ⟨rfl, st, w, h, m.R, .refl w⟩
  | o :: l, i, l3, done, st, fr, H, w, k, m, h => by
    simp only [wpDraw] at h
    cases hd : deferOp o.op with
    | true => rw [hd] at h; exact absurd h id
    | false =>
      rw [hd] at h
      simp only [cond_false] at h
      obtain ⟨bw, st1, hw, h1, hn, hnx, R1⟩ := wantP_sound m.R h
      have m1 : Mid X sz C base B old l3 done st1 fr H w := ⟨m.R.step ok hn.tmps hn.n R1 (.refl w), m.D, m.hB, by rw [hnx]; exact m.hold, m.lt, fun d hd id he => by rw [hn.cells]; exact m.live d hd id he⟩
      cases bw with
      | true =>
        simp only [cond_true] at h1
        split at h1
        · rename_i f hf
          cases ha : (l3.filter fun d => !(b.getD i 0).testBit d.i).all (fun d => apart3 old d f) with
          | false => rw [ha] at h1; exact absurd h1 id
          | true =>
            rw [ha] at h1
            simp only [cond_true] at h1
            have hfz : ∀ {st' : StV K} {Q : Prop}, (bif st1.cells.all (fun x => (look st'.cells x.1).isSome) then Q else False) → st1.cells.all (fun x => (look st'.cells x.1).isSome) = true ∧ Q := by
              intro st' Q hq
              cases hc : st1.cells.all (fun x => (look st'.cells x.1).isSome) with
              | false => rw [hc] at hq; exact hq.elim
              | true => rw [hc] at hq; exact ⟨rfl, hq⟩
            refine draw_op ok ok2 tok iok m1 hw hf ha (fun p st' hk j hj => ?_) h1 fun p st' v J w' done' hk hle m' => ?_
            · obtain ⟨a, hin⟩ := look_in hj
              exact List.all_eq_true.1 (hfz hk).1 _ hin
            have ih := wpDraw_sound ok ok2 tok iok m' (hfz hk).2
            obtain ⟨x, hx, e, st'', w'', a1, a2, a3⟩ := ih
            exact ⟨x, hx, e, st'', w'', a1, a2, hle.trans a3⟩
        · exact absurd h1 id
      | false =>
        simp only [cond_false] at h1
        refine wpD_pass hw ?_
        exact wpDraw_sound ok ok2 tok iok (m1.go (f := .none) (fp := .none) (mk := false) ok rfl rfl R1 (.refl w) .undef (Nat.le_refl _) (fun _ => rfl) rfl (fun _ h => h) (by simp)) h1

end

/-! ### What a piece of code leaves alone -/
theorem put_other {fr : Fr} {dst : Option Tmp} {v : V} {t : Nat} (h : dst ≠ some t) : (fr.put dst v).tmp t = fr.tmp t := by
  cases dst with
  | none => rfl
  | some d =>
    obtain ⟨tt, n, ds⟩ := fr
    simp only [Fr.put]
    cases Nat.blt d n with
    | false => rfl
    | true =>
      simp only [cond_true, Fr.tmp, Tree.get_set]
      rw [if_neg]
      intro he
      exact h (by rw [he])

theorem push_tmp {fr : Fr} {d : D} {t : Nat} : (fr.push d).tmp t = fr.tmp t := by cases fr; rfl

theorem runOps_other {E : Env} {call : Go.E2.Call} {nd : Bool} {all : Array Oper} {t : Nat} : ∀ {l : List Oper} {fr fr' : Fr} {H H' : Heap} {ex : Ex}, (∀ o ∈ l, o.dst ≠ some t) → runOps E call nd all l fr H = some (ex, fr', H') → fr'.tmp t = fr.tmp t
  | [], fr, fr', H, H', ex, _, h => by
    simp only [runOps, Option.some.injEq, Prod.mk.injEq] at h
    rw [h.2.1]
  | o :: l, fr, fr', H, H', ex, hd, h => by
    have h0 := hd o List.mem_cons_self
    have hl : ∀ o ∈ l, o.dst ≠ some t := fun o ho => hd o (List.mem_cons_of_mem _ ho)
    simp only [runOps] at h
    split at h
    · split at h
      · cases hnd : nd with
        | false => rw [hnd] at h; cases h
        | true =>
          rw [hnd] at h
          simp only [cond_true] at h
          obtain ⟨d, _, h2⟩ := Option.bind_eq_some_iff.1 h
          rw [runOps_other hl h2, put_other h0, push_tmp]
      · rw [runOps_other hl h, put_other h0]
      · cases h
    · split at h
      · rw [runOps_other hl h, put_other h0]
      · simp only [Option.some.injEq, Prod.mk.injEq] at h
        rw [h.2.1]
      · cases h

theorem cond_some {α : Type} {c : Bool} {x y : Option α} {r : α} (h : (bif c then x else y) = some r) : (c = false ∧ y = some r) ∨ (c = true ∧ x = some r) := by
  cases c with
  | false => exact .inl ⟨rfl, h⟩
  | true => exact .inr ⟨rfl, h⟩

theorem runDraw_other {E : Env} {call : Go.E2.Call} {all : Array Oper} {b : Array Nat} {t : Nat} : ∀ {l : List Oper} {i : Nat} {done : List Done} {fr fr' : Fr} {H H' : Heap}, (∀ o ∈ l, o.dst ≠ some t) → runDraw E call all b i l done fr H = some (fr', H') → fr'.tmp t = fr.tmp t
  | [], i, done, fr, fr', H, H', _, h => by
    simp only [runDraw, Option.some.injEq, Prod.mk.injEq] at h
    rw [h.1]
  | o :: l, i, done, fr, fr', H, H', hd, h => by
    have h0 := hd o List.mem_cons_self
    have hl : ∀ o ∈ l, o.dst ≠ some t := fun o ho => hd o (List.mem_cons_of_mem _ ho)
    simp only [runDraw] at h
    obtain ⟨wnt, _, h2⟩ := Option.bind_eq_some_iff.1 h
    rcases cond_some h2 with ⟨_, h3⟩ | ⟨_, h3⟩
    · split at h3
      · rcases cond_some h3 with ⟨_, h4⟩ | ⟨_, h4⟩
        · rw [runDraw_other hl h4, put_other h0]
        · cases h4
      · cases h3
    · cases h3

theorem iter_other {σ : Type} {step : σ → Option (Bool × σ)} {P : σ → Prop} (hs : ∀ s b s', P s → step s = some (b, s') → P s') : ∀ {n : Nat} {s s' : σ}, P s → iter step n s = some s' → P s'
  | 0, s, s', _, h => by cases h
  | n + 1, s, s', hp, h => by
    simp only [iter] at h
    split at h
    · rename_i s1 h1
      exact iter_other hs (hs _ _ _ hp h1) h
    · rename_i s1 h1
      cases h
      exact hs _ _ _ hp h1
    · cases h

theorem evCode_other {E : Env} {call : Go.E2.Call} {fn : FuncId} {round : Option Nat} {fuel t : Nat} : ∀ {c : Code} {fr fr' : Fr} {H H' : Heap} {ex : Ex}, t ∉ dsts c → evCode E call fn round fuel c fr H = some (ex, fr', H') → fr'.tmp t = fr.tmp t
  | .skip, fr, fr', H, H', ex, _, h => by simp only [evCode, Option.some.injEq, Prod.mk.injEq] at h; rw [h.2.1]
  | .label _, fr, fr', H, H', ex, _, h => by simp only [evCode, Option.some.injEq, Prod.mk.injEq] at h; rw [h.2.1]
  | .exit _, fr, fr', H, H', ex, _, h => by simp only [evCode, Option.some.injEq, Prod.mk.injEq] at h; rw [h.2.1]
  | .goto _, fr, fr', H, H', ex, _, h => by simp only [evCode, Option.some.injEq, Prod.mk.injEq] at h; rw [h.2.1]
  | .ret, fr, fr', H, H', ex, _, h => by simp only [evCode, Option.some.injEq, Prod.mk.injEq] at h; rw [h.2.1]
  | .refuse _, fr, fr', H, H', ex, _, h => by simp [evCode] at h
  | .seq a b, fr, fr', H, H', ex, hd, h => by
    simp only [dsts, List.mem_append, not_or] at hd
    simp only [evCode] at h
    split at h
    · rename_i fr1 H1 h1
      rw [evCode_other hd.2 h, evCode_other hd.1 h1]
    · exact evCode_other hd.1 h
  | .cond c a b, fr, fr', H, H', ex, hd, h => by
    simp only [dsts, List.mem_append, not_or] at hd
    simp only [evCode] at h
    split at h
    · exact evCode_other hd.1 h
    · exact evCode_other hd.2 h
    · cases h
  | .block id c, fr, fr', H, H', ex, hd, h => by
    simp only [dsts] at hd
    simp only [evCode] at h
    split at h
    · rename_i id' fr1 H1 h1
      simp only [cond_eq_ite] at h
      split at h
      · simp only [Option.some.injEq, Prod.mk.injEq] at h
        rw [← h.2.1, evCode_other hd h1]
      · simp only [Option.some.injEq, Prod.mk.injEq] at h
        rw [← h.2.1, evCode_other hd h1]
    · exact evCode_other hd h
  | .scope c, fr, fr', H, H', ex, hd, h => by
    simp only [dsts] at hd
    simp only [evCode] at h
    split at h
    · cases h
    · exact evCode_other hd h
  | .loop c, fr, fr', H, H', ex, hd, h => by
    simp only [dsts] at hd
    simp only [evCode] at h
    refine iter_other (P := fun s : Ex × Fr × Heap => s.2.1.tmp t = fr.tmp t) (fun s b s' hp hs => ?_) (s := (.normal, fr, H)) rfl h
    split at hs
    · rename_i fr1 H1 h1
      simp only [Option.some.injEq, Prod.mk.injEq] at hs
      rw [← hs.2]
      show fr1.tmp t = _
      rw [evCode_other hd h1]
      exact hp
    · rename_i r _ h1
      simp only [Option.some.injEq, Prod.mk.injEq] at hs
      rw [← hs.2]
      obtain ⟨e1, f1, g1⟩ := r
      show f1.tmp t = _
      rw [evCode_other hd h1]
      exact hp
    · cases hs
  | .region _ ops draw, fr, fr', H, H', ex, hd, h => by
    have hl : ∀ o ∈ ops.toList, o.dst ≠ some t := by
      intro o ho he
      exact hd (by simp only [dsts, List.mem_filterMap]; exact ⟨o, ho, he⟩)
    simp only [evCode] at h
    cases draw with
    | true =>
      simp only [cond_true] at h
      obtain ⟨⟨f1, g1⟩, h1, h2⟩ := Option.map_eq_some_iff.1 h
      simp only [Prod.mk.injEq] at h2
      rw [← h2.2.1]
      exact runDraw_other hl h1
    | false =>
      simp only [cond_false] at h
      exact runOps_other hl h
  | .rangeFunc f ps a b, fr, fr', H, H', ex, hd, h => by
    simp only [evCode] at h
    obtain ⟨z, _, h⟩ := Option.bind_eq_some_iff.1 h
    split at h
    · simp only [cond_eq_ite] at h
      split at h
      · split at h
        · obtain ⟨y, _, h2⟩ := Option.map_eq_some_iff.1 h
          simp only [Prod.mk.injEq] at h2
          rw [← h2.2.1]
          rfl
        · simp only [Option.some.injEq, Prod.mk.injEq] at h
          rw [← h.2.1]
          rfl
        · cases h
      · cases h
    · cases h

theorem put_n {fr : Fr} {dst : Option Tmp} {v : V} : (fr.put dst v).n = fr.n := by
  cases dst with
  | none => rfl
  | some d =>
    obtain ⟨tt, n, ds⟩ := fr
    simp only [Fr.put]
    cases Nat.blt d n <;> rfl

theorem push_n {fr : Fr} {d : D} : (fr.push d).n = fr.n := by cases fr; rfl

theorem runOps_n {E : Env} {call : Go.E2.Call} {nd : Bool} {all : Array Oper} {t : Nat} : ∀ {l : List Oper} {fr fr' : Fr} {H H' : Heap} {ex : Ex}, (∀ o ∈ l, o.dst ≠ some t) → runOps E call nd all l fr H = some (ex, fr', H') → fr'.n = fr.n
  | [], fr, fr', H, H', ex, _, h => by
    simp only [runOps, Option.some.injEq, Prod.mk.injEq] at h
    rw [h.2.1]
  | o :: l, fr, fr', H, H', ex, hd, h => by
    have h0 := hd o List.mem_cons_self
    have hl : ∀ o ∈ l, o.dst ≠ some t := fun o ho => hd o (List.mem_cons_of_mem _ ho)
    simp only [runOps] at h
    split at h
    · split at h
      · cases hnd : nd with
        | false => rw [hnd] at h; cases h
        | true =>
          rw [hnd] at h
          simp only [cond_true] at h
          obtain ⟨d, _, h2⟩ := Option.bind_eq_some_iff.1 h
          rw [runOps_n hl h2, put_n, push_n]
      · rw [runOps_n hl h, put_n]
      · cases h
    · split at h
      · rw [runOps_n hl h, put_n]
      · simp only [Option.some.injEq, Prod.mk.injEq] at h
        rw [h.2.1]
      · cases h

theorem runDraw_n {E : Env} {call : Go.E2.Call} {all : Array Oper} {b : Array Nat} {t : Nat} : ∀ {l : List Oper} {i : Nat} {done : List Done} {fr fr' : Fr} {H H' : Heap}, (∀ o ∈ l, o.dst ≠ some t) → runDraw E call all b i l done fr H = some (fr', H') → fr'.n = fr.n
  | [], i, done, fr, fr', H, H', _, h => by
    simp only [runDraw, Option.some.injEq, Prod.mk.injEq] at h
    rw [h.1]
  | o :: l, i, done, fr, fr', H, H', hd, h => by
    have h0 := hd o List.mem_cons_self
    have hl : ∀ o ∈ l, o.dst ≠ some t := fun o ho => hd o (List.mem_cons_of_mem _ ho)
    simp only [runDraw] at h
    obtain ⟨wnt, _, h2⟩ := Option.bind_eq_some_iff.1 h
    rcases cond_some h2 with ⟨_, h3⟩ | ⟨_, h3⟩
    · split at h3
      · rcases cond_some h3 with ⟨_, h4⟩ | ⟨_, h4⟩
        · rw [runDraw_n hl h4, put_n]
        · cases h4
      · cases h3
    · cases h3

theorem evCode_n {E : Env} {call : Go.E2.Call} {fn : FuncId} {round : Option Nat} {fuel t : Nat} : ∀ {c : Code} {fr fr' : Fr} {H H' : Heap} {ex : Ex}, t ∉ dsts c → evCode E call fn round fuel c fr H = some (ex, fr', H') → fr'.n = fr.n
  | .skip, fr, fr', H, H', ex, _, h => by simp only [evCode, Option.some.injEq, Prod.mk.injEq] at h; rw [h.2.1]
  | .label _, fr, fr', H, H', ex, _, h => by simp only [evCode, Option.some.injEq, Prod.mk.injEq] at h; rw [h.2.1]
  | .exit _, fr, fr', H, H', ex, _, h => by simp only [evCode, Option.some.injEq, Prod.mk.injEq] at h; rw [h.2.1]
  | .goto _, fr, fr', H, H', ex, _, h => by simp only [evCode, Option.some.injEq, Prod.mk.injEq] at h; rw [h.2.1]
  | .ret, fr, fr', H, H', ex, _, h => by simp only [evCode, Option.some.injEq, Prod.mk.injEq] at h; rw [h.2.1]
  | .refuse _, fr, fr', H, H', ex, _, h => by simp [evCode] at h
  | .seq a b, fr, fr', H, H', ex, hd, h => by
    simp only [dsts, List.mem_append, not_or] at hd
    simp only [evCode] at h
    split at h
    · rename_i fr1 H1 h1
      rw [evCode_n hd.2 h, evCode_n hd.1 h1]
    · exact evCode_n hd.1 h
  | .cond c a b, fr, fr', H, H', ex, hd, h => by
    simp only [dsts, List.mem_append, not_or] at hd
    simp only [evCode] at h
    split at h
    · exact evCode_n hd.1 h
    · exact evCode_n hd.2 h
    · cases h
  | .block id c, fr, fr', H, H', ex, hd, h => by
    simp only [dsts] at hd
    simp only [evCode] at h
    split at h
    · rename_i id' fr1 H1 h1
      simp only [cond_eq_ite] at h
      split at h
      · simp only [Option.some.injEq, Prod.mk.injEq] at h
        rw [← h.2.1, evCode_n hd h1]
      · simp only [Option.some.injEq, Prod.mk.injEq] at h
        rw [← h.2.1, evCode_n hd h1]
    · exact evCode_n hd h
  | .scope c, fr, fr', H, H', ex, hd, h => by
    simp only [dsts] at hd
    simp only [evCode] at h
    split at h
    · cases h
    · exact evCode_n hd h
  | .loop c, fr, fr', H, H', ex, hd, h => by
    simp only [dsts] at hd
    simp only [evCode] at h
    refine iter_other (P := fun s : Ex × Fr × Heap => s.2.1.n = fr.n) (fun s b s' hp hs => ?_) (s := (.normal, fr, H)) rfl h
    split at hs
    · rename_i fr1 H1 h1
      simp only [Option.some.injEq, Prod.mk.injEq] at hs
      rw [← hs.2]
      show fr1.n = _
      rw [evCode_n hd h1]
      exact hp
    · rename_i r _ h1
      simp only [Option.some.injEq, Prod.mk.injEq] at hs
      rw [← hs.2]
      obtain ⟨e1, f1, g1⟩ := r
      show f1.n = _
      rw [evCode_n hd h1]
      exact hp
    · cases hs
  | .region _ ops draw, fr, fr', H, H', ex, hd, h => by
    have hl : ∀ o ∈ ops.toList, o.dst ≠ some t := by
      intro o ho he
      exact hd (by simp only [dsts, List.mem_filterMap]; exact ⟨o, ho, he⟩)
    simp only [evCode] at h
    cases draw with
    | true =>
      simp only [cond_true] at h
      obtain ⟨⟨f1, g1⟩, h1, h2⟩ := Option.map_eq_some_iff.1 h
      simp only [Prod.mk.injEq] at h2
      rw [← h2.2.1]
      exact runDraw_n hl h1
    | false =>
      simp only [cond_false] at h
      exact runOps_n hl h
  | .rangeFunc f ps a b, fr, fr', H, H', ex, hd, h => by
    simp only [evCode] at h
    obtain ⟨z, _, h⟩ := Option.bind_eq_some_iff.1 h
    split at h
    · simp only [cond_eq_ite] at h
      split at h
      · split at h
        · obtain ⟨y, _, h2⟩ := Option.map_eq_some_iff.1 h
          simp only [Prod.mk.injEq] at h2
          rw [← h2.2.1]
        · simp only [Option.some.injEq, Prod.mk.injEq] at h
          rw [← h.2.1]
        · cases h
      · cases h
    · cases h

theorem exists_not_mem (l : List Nat) : ∃ t, t ∉ l := by
  have key : ∃ m, ∀ x ∈ l, x < m := by
    induction l with
    | nil => exact ⟨0, fun x hx => by cases hx⟩
    | cons a l ih =>
      obtain ⟨m, hm⟩ := ih
      refine ⟨max m (a + 1), fun x hx => ?_⟩
      rcases List.mem_cons.1 hx with rfl | hx
      · omega
      · have := hm x hx; omega
  obtain ⟨m, hm⟩ := key
  exact ⟨m, fun h => Nat.lt_irrefl _ (hm m h)⟩

theorem Wp.frame {E : Env} {fn : FuncId} {round : Option Nat} {c : Code} {fr : Fr} {H : Heap} {Q : Ex → Fr → Heap → Prop} (h : Wp E fn round c fr H Q) : Wp E fn round c fr H fun ex fr' H' => Q ex fr' H' ∧ (∀ t, t ∉ dsts c → fr'.tmp t = fr.tmp t) ∧ fr'.n = fr.n := by
  obtain ⟨x, ⟨k0, h1⟩, h2⟩ := h
  obtain ⟨e, f, g⟩ := x
  refine ⟨(e, f, g), ⟨k0, h1⟩, h2, fun t ht => evCode_other ht (h1 k0 (Nat.le_refl _)), ?_⟩
  obtain ⟨t, ht⟩ := exists_not_mem (dsts c)
  exact evCode_n ht (h1 k0 (Nat.le_refl _))

end Go.E3

/- E3: WHAT VARIES, at the head of a loop and behind a cut. -/
namespace Go.E3
open Go Go.E2

variable {K : Nat → Type}

/-- The state at a head, in the making: st0, w0 where the loop begins; st2, H2, w2 now; st1, w1 what is made of it; 'pend': lists of their own that are still to come. -/
structure Part (X : Codecs K) (sz : Nat → Nat) (base : Heap) (st0 : StV K) (w0 : Wd) (st2 : StV K) (H2 : Heap) (w2 : Wd) (st1 : StV K) (w1 : Wd) (pend : List Nat) : Prop where
  g : w1.g = w2.g
  M : w1.M = w2.M
  ce : w1.ce = w2.ce
  nx : w1.nx = w2.nx
  c : w1.c = w2.c
  cl : ∀ id, w1.cl id ↔ (w2.cl id ∧ id < st0.next)
  n : w1.n = st1.next
  le : Le w0 w1
  nxt : st0.next ≤ st1.next
  known : st1.known = st0.known
  owns : w1.owns = look st1.owns
  ownn : ∀ i s, look st1.owns i = some s → i < st1.next
  eta : ∀ i s nm, look st1.owns i = some s → w1.eta i = some nm → base.next ≤ nm ∧ nm < H2.next ∧ ¬ w2.M nm
  einj : ∀ i j s s' nm, look st1.owns i = some s → look st1.owns j = some s' → w1.eta i = some nm → w1.eta j = some nm → i = j
  pends : ∀ i2 ∈ pend, (∃ s2, look st2.owns i2 = some s2) ∧ ∀ nm, w2.eta i2 = some nm → ∀ j s, look st1.owns j = some s → w1.eta j ≠ some nm
  pdist : pend.Nodup

section
variable {X : Codecs K} {sz : Nat → Nat} {C : Cfg Int Bool (List UInt8) Prop (fun c => List (K c))} {base H0 H2 : Heap} {st0 st2 : StV K} {w0 w2 : Wd}
variable {tbl : Tbl K} {inv : Nat → List (NV K) → Prop} {meas : Nat → List (NV K) → Nat}

theorem Part.move (ok2 : CfgOk2 X C) {st1 : StV K} {w1 : Wd} {pend : List Nat} (m : Part X sz base st0 w0 st2 H2 w2 st1 w1 pend) {p : PV K} {v : V} (r : Rep X sz w2 p v) (hp : Plain p) : Rep X sz w1 p v :=
  r.plain ok2.plain m.g (fun _ _ _ h => by rw [m.M]; exact h) hp

theorem gens_sound (ok : CfgOk X sz C) (ok2 : CfgOk2 X C) (R2 : RelH X sz C base st2 H2 w2) : ∀ {ks : List SK} {ps p2s : List (PV K)} {vs : List V} {ns : List (NV K)} {pend : List Nat} {st1 : StV K} {w1 : Wd} {G : List (PV K) → List (NV K) → StV K → Prop},
    toNs (stdA X tbl inv meas) st2 ks p2s = some ns → RepL X sz w2 p2s vs → (∀ (i : Nat) (p : PV K), ks[i]? = some .keep → ps[i]? = some p → ∀ w', Le w0 w' → w'.g = w2.g → w'.M = w2.M → Rep X sz w' p (vs.getD i undefV)) →
    Part X sz base st0 w0 st2 H2 w2 st1 w1 (ownIdsK ks p2s ++ pend) → gens (stdA X tbl inv meas) ks ps st1 G →
    ∃ qs st1' w1', G qs ns st1' ∧ Part X sz base st0 w0 st2 H2 w2 st1' w1' pend ∧ Le w1 w1' ∧ RepL X sz w1' qs vs ∧ st1'.tmps = st1.tmps ∧ st1'.n = st1.n ∧ st1'.cells = st1.cells
  | [], [], p2s, vs, ns, pend, st1, w1, G, hN, hr, hK, m, h => by
    cases p2s with
    | nil =>
      simp only [toNs, Option.some.injEq] at hN
      subst hN
      simp only [gens] at h
      have := hr.nil_iff; subst this
      exact ⟨[], st1, w1, h, m, .refl w1, .nil, rfl, rfl, rfl⟩
    | cons _ _ => simp [toNs] at hN
  | [], _ :: _, p2s, vs, ns, pend, st1, w1, G, hN, hr, hK, m, h => absurd h id
  | _ :: _, [], p2s, vs, ns, pend, st1, w1, G, hN, hr, hK, m, h => absurd h id
  | k :: ks, p :: ps, [], vs, ns, pend, st1, w1, G, hN, hr, hK, m, h => by simp [toNs] at hN
  | k :: ks, p :: ps, p2 :: p2s, vs, ns, pend, st1, w1, G, hN, hr, hK, m, h => by
    obtain ⟨v, vs', rfl, r1, r2⟩ := hr.uncons
    simp only [toNs] at hN
    obtain ⟨a, hN1, hN2⟩ := Option.bind_eq_some_iff.1 hN
    obtain ⟨ns', hN3, hN4⟩ := Option.map_eq_some_iff.1 hN2
    subst hN4
    have hK' : ∀ (i : Nat) (p : PV K), ks[i]? = some .keep → ps[i]? = some p → ∀ w', Le w0 w' → w'.g = w2.g → w'.M = w2.M → Rep X sz w' p (vs'.getD i undefV) := by
      intro i q h1 h2 w' h3 h4 h5
      have := hK (i + 1) q (by simpa using h1) (by simpa using h2) w' h3 h4 h5
      simpa using this
    cases k with
    | int kd =>
      simp only [gens] at h
      cases p2 with
      | int k' l n =>
        simp only [toN1] at hN1
        split at hN1
        · rename_i hk
          subst hk
          cases hN1
          cases r1
          have m' : Part X sz base st0 w0 st2 H2 w2 st1 w1 (ownIdsK ks p2s ++ pend) := m
          obtain ⟨qs, st1', w1', g1, g2, g3, g4, g5, g6, g7⟩ := gens_sound ok ok2 R2 hN3 r2 hK' m' (h n)
          exact ⟨_, st1', w1', g1, g2, g3, .cons (.int fun m hm => by cases hm) g4, g5, g6, g7⟩
        · cases hN1
      | _ => simp [toN1] at hN1
    | str =>
      simp only [gens] at h
      cases p2 with
      | str s =>
        simp only [toN1, Option.some.injEq] at hN1
        subst hN1
        cases r1
        obtain ⟨qs, st1', w1', g1, g2, g3, g4, g5, g6, g7⟩ := gens_sound ok ok2 R2 hN3 r2 hK' m (h s)
        exact ⟨_, st1', w1', g1, g2, g3, .cons .str g4, g5, g6, g7⟩
      | _ => simp [toN1] at hN1
    | keep =>
      simp only [gens] at h
      have ha : a = [] := by
        cases p2 <;> simp [toN1] at hN1 <;> exact hN1
      subst ha
      obtain ⟨qs, st1', w1', g1, g2, g3, g4, g5, g6, g7⟩ := gens_sound ok ok2 R2 hN3 r2 hK' m h
      have hq := hK 0 p rfl rfl w1' g2.le g2.g g2.M
      simp only [List.getD_cons_zero] at hq
      exact ⟨_, st1', w1', g1, g2, g3, .cons hq g4, g5, g6, g7⟩
    | bool =>
      simp only [gens] at h
      have hb : ∃ b, a = [.b b] ∧ v = .bool b := by
        cases p2 with
        | lit b => simp only [toN1, Option.some.injEq] at hN1; cases r1; exact ⟨b, hN1.symm, rfl⟩
        | sb id neg b pt pf => simp only [toN1, Option.some.injEq] at hN1; cases r1; exact ⟨b, hN1.symm, rfl⟩
        | _ => simp [toN1] at hN1
      obtain ⟨b, rfl, rfl⟩ := hb
      let w1b : Wd := { w1 with n := st1.next + 1, nu := fun id => if id = st1.next then b else w1.nu id }
      have hle : Le w1 w1b := Le.ext (by rw [m.n]; exact Nat.le_succ _) (fun id hi => if_neg (by rw [m.n] at hi; omega))
      have m' : Part X sz base st0 w0 st2 H2 w2 { st1 with next := st1.next + 1 } w1b (ownIdsK ks p2s ++ pend) :=
        ⟨m.g, m.M, m.ce, m.nx, m.c, m.cl, rfl, m.le.trans hle, Nat.le_succ_of_le m.nxt, m.known, m.owns, fun i s h => Nat.lt_succ_of_lt (m.ownn i s h), m.eta, m.einj, m.pends, m.pdist⟩
      obtain ⟨qs, st1', w1', g1, g2, g3, g4, g5, g6, g7⟩ := gens_sound ok ok2 R2 hN3 r2 hK' m' (h b)
      refine ⟨_, st1', w1', g1, g2, hle.trans g3, .cons ?_ g4, g5, g6, g7⟩
      have : Rep X sz w1b (.sb st1.next false b (b = true) (b = false)) (.bool b) := .sb .rfl .rfl fun _ => ⟨Nat.lt_succ_self _, by show b = ((if st1.next = st1.next then b else w1.nu st1.next) != false); rw [if_pos rfl]; simp⟩
      exact this.mono ok.len g3
    | list c own =>
      simp only [gens] at h
      have hl : ∃ l, asL (stdA X tbl inv meas) c p2 = some l ∧ a = [.l c l] ∧ (own = true → isOwn st2 p2 = true) := by
        have e : toN1 (stdA X tbl inv meas) st2 (.list c own) p2 = (bif own && !isOwn st2 p2 then none else (asL (stdA X tbl inv meas) c p2).map fun l => [.l c l]) := by
          cases p2 <;> rfl
        rw [e] at hN1
        rcases cond_some hN1 with ⟨hb, h2⟩ | ⟨_, h2⟩
        · obtain ⟨l, hl, rfl⟩ := Option.map_eq_some_iff.1 h2
          refine ⟨l, hl, rfl, fun ho => ?_⟩
          rw [ho] at hb
          simpa using hb
        · cases h2
      obtain ⟨l, hl, rfl, hown⟩ := hl
      have rl := asL_sound r1 hl
      cases own with
      | false =>
        have hids : ownIdsK (.list c false :: ks) (p2 :: p2s) = ownIdsK ks p2s := by cases p2 <;> rfl
        rw [hids] at m
        have h' : gens (stdA X tbl inv meas) ks ps st1 fun qs ns st' => G (.list c l none :: qs) (.l c l :: ns) st' := h l
        obtain ⟨qs, st1', w1', g1, g2, g3, g4, g5, g6, g7⟩ := gens_sound ok ok2 R2 hN3 r2 hK' m h'
        exact ⟨_, st1', w1', g1, g2, g3, .cons ((m.move ok2 rl .list).mono ok.len g3) g4, g5, g6, g7⟩
      | true =>
        have hown := hown rfl
        have h' : gens (stdA X tbl inv meas) ks ps { st1 with owns := (st1.next, 0) :: st1.owns, next := st1.next + 1 } fun qs ns st' => G (.list c l (some (st1.next, 0)) :: qs) (.l c l :: ns) st' := h l
        -- whose list it is now
        have hcase : ∃ e0 : Option Nat, (p2 = .nils ∧ e0 = none ∧ ownIdsK (.list c true :: ks) (p2 :: p2s) = ownIdsK ks p2s) ∨ (∃ l2 i2 s2, p2 = .list c l2 (some (i2, s2)) ∧ e0 = w2.eta i2 ∧ look st2.owns i2 = some s2 ∧ ownIdsK (.list c true :: ks) (p2 :: p2s) = i2 :: ownIdsK ks p2s) := by
          cases p2 with
          | nils => exact ⟨none, .inl ⟨rfl, rfl, rfl⟩⟩
          | list c2 l2 o2 =>
            cases o2 with
            | none => simp [isOwn] at hown
            | some x =>
              obtain ⟨i2, s2⟩ := x
              simp only [isOwn] at hown
              split at hown
              · rename_i s' hs
                have := Nat.eq_of_beq_eq_true hown; subst this
                unfold asL at hl
                simp only at hl
                split at hl
                · rename_i hc
                  subst hc
                  exact ⟨w2.eta i2, .inr ⟨l2, i2, _, rfl, rfl, hs, rfl⟩⟩
                · cases hl
              · cases hown
          | _ => simp [isOwn] at hown
        obtain ⟨e0, hcase⟩ := hcase
        let w1b : Wd := { w1 with n := st1.next + 1, owns := look ((st1.next, 0) :: st1.owns), eta := fun j => if j = st1.next then e0 else w1.eta j }
        have hnone : look st1.owns st1.next = none := by
          cases hq : look st1.owns st1.next with
          | none => rfl
          | some s => have := m.ownn _ _ hq; omega
        have hle : Le w1 w1b := by
          refine ⟨by rw [m.n]; exact Nat.le_succ _, fun nm cs e gen floor frz ex hg hM => ⟨hM, [], gen, frz, ex, by rw [List.append_nil]; exact hg⟩, fun _ _ => rfl, fun _ _ => rfl, fun i hi h0 => ?_, fun i s s' hi h0 h1 => ?_, fun i s hi h0 h1 => ?_, rfl, fun _ _ => .rfl, Nat.le_refl _, rfl, fun _ _ h => h⟩
          · rw [m.n] at hi
            rw [m.owns] at h0
            show look ((st1.next, 0) :: st1.owns) i = none
            rw [look_cons, if_neg (by omega)]
            exact h0
          · rw [m.n] at hi
            rw [m.owns] at h0
            have h1' : look ((st1.next, 0) :: st1.owns) i = some s' := h1
            rw [look_cons, if_neg (by omega), h0] at h1'
            cases h1'
            exact Nat.le_refl _
          · rw [m.n] at hi
            exact ⟨if_neg (by omega), fun _ _ => rfl⟩
        have hfree : ∀ nm, e0 = some nm → (∀ j s, look st1.owns j = some s → w1.eta j ≠ some nm) ∧ base.next ≤ nm ∧ nm < H2.next ∧ ¬ w2.M nm := by
          intro nm hnm
          rcases hcase with ⟨rfl, he, _⟩ | ⟨l2, i2, s2, rfl, he, hs2, hids⟩
          · rw [he] at hnm; cases hnm
          · have := m.pends i2 (by rw [hids]; exact List.mem_append_left _ List.mem_cons_self)
            rw [he] at hnm
            exact ⟨this.2 nm hnm, R2.eta i2 s2 nm hs2 hnm⟩
        have m' : Part X sz base st0 w0 st2 H2 w2 { st1 with owns := (st1.next, 0) :: st1.owns, next := st1.next + 1 } w1b (ownIdsK ks p2s ++ pend) := by
          have hsub : ∀ i, i ∈ ownIdsK ks p2s ++ pend → i ∈ ownIdsK (.list c true :: ks) (p2 :: p2s) ++ pend := by
            intro i hi
            rcases hcase with ⟨_, _, hids⟩ | ⟨l2, i2, s2, _, _, _, hids⟩
            · rw [hids]; exact hi
            · rw [hids]; exact List.mem_cons_of_mem _ hi
          have hnd : (ownIdsK ks p2s ++ pend).Nodup := by
            have := m.pdist
            rcases hcase with ⟨_, _, hids⟩ | ⟨l2, i2, s2, _, _, _, hids⟩
            · rw [hids] at this; exact this
            · rw [hids, List.cons_append, List.nodup_cons] at this; exact this.2
          refine ⟨m.g, m.M, m.ce, m.nx, m.c, m.cl, rfl, m.le.trans hle, Nat.le_succ_of_le m.nxt, m.known, rfl, fun i s h => ?_, fun i s nm h hn => ?_, fun i j s s' nm h1 h2 e1 e2 => ?_, fun i2 hi2 => ?_, hnd⟩
          · rw [look_cons] at h
            by_cases hi : i = st1.next
            · subst hi; exact Nat.lt_succ_self _
            · rw [if_neg hi] at h; exact Nat.lt_succ_of_lt (m.ownn i s h)
          · rw [look_cons] at h
            by_cases hi : i = st1.next
            · have hn' : e0 = some nm := by
                have : (if i = st1.next then e0 else w1.eta i) = some nm := hn
                rw [if_pos hi] at this
                exact this
              exact (hfree nm hn').2
            · rw [if_neg hi] at h
              have hn' : w1.eta i = some nm := by
                have : (if i = st1.next then e0 else w1.eta i) = some nm := hn
                rw [if_neg hi] at this
                exact this
              exact m.eta i s nm h hn'
          · rw [look_cons] at h1 h2
            have e1' : (if i = st1.next then e0 else w1.eta i) = some nm := e1
            have e2' : (if j = st1.next then e0 else w1.eta j) = some nm := e2
            by_cases hi : i = st1.next <;> by_cases hj : j = st1.next
            · omega
            · rw [if_pos hi] at e1'
              rw [if_neg hj] at e2' h2
              exact absurd e2' ((hfree nm e1').1 j s' h2)
            · rw [if_neg hi] at e1' h1
              rw [if_pos hj] at e2'
              exact absurd e1' ((hfree nm e2').1 i s h1)
            · rw [if_neg hi] at e1' h1
              rw [if_neg hj] at e2' h2
              exact m.einj i j s s' nm h1 h2 e1' e2'
          · obtain ⟨⟨s2, hs2⟩, hp⟩ := m.pends i2 (hsub i2 hi2)
            refine ⟨⟨s2, hs2⟩, fun nm hnm j s hj he => ?_⟩
            rw [look_cons] at hj
            have he' : (if j = st1.next then e0 else w1.eta j) = some nm := he
            by_cases hjn : j = st1.next
            · rw [if_pos hjn] at he'
              rcases hcase with ⟨hp2, he2, _⟩ | ⟨l2, i3, s3, hp2, he2, hs3, hids⟩
              · rw [he2] at he'
                cases he'
              · rw [he2] at he'
                have := R2.einj i2 i3 s2 s3 nm hs2 hs3 hnm he'
                subst this
                have hd := m.pdist
                rw [hids, List.cons_append, List.nodup_cons] at hd
                exact hd.1 hi2
            · rw [if_neg hjn] at he' hj
              exact hp nm hnm j s hj he'
        obtain ⟨qs, st1', w1', g1, g2, g3, g4, g5, g6, g7⟩ := gens_sound ok ok2 R2 hN3 r2 hK' m' h'
        refine ⟨_, st1', w1', g1, g2, hle.trans g3, .cons (Rep.mono ok.len g3 ?_) g4, g5, g6, g7⟩
        have hcur : ∀ cur, w1b.owns st1.next = some cur → 0 ≤ cur := fun _ _ => Nat.zero_le _
        rcases list_cases rl with ⟨rfl, rfl⟩ | ⟨nm, gn, off, cap, cs, e, gen, floor, frz, ex, rfl, hg, hf, hM, hlen, hz, hcap, hcell, _⟩
        · exact .nlist ⟨Nat.lt_succ_self _, hcur, fun _ => trivial⟩
        · have hplain := m.move ok2 rl .list
          rcases list_cases hplain with ⟨_, hh⟩ | ⟨nm', gn', off', cap', cs', e', gen', floor', frz', ex', hh, hg', hf', hM', hlen', hz', hcap'', hcell', _⟩
          · cases hh
          · cases hh
            refine .list hg' hf' hM' rfl hlen' hz hcap'' (fun i hi j p hp => (hcell' i hi j p hp).mono ok.len hle) ⟨Nat.lt_succ_self _, hcur, fun _ => ?_⟩
            rcases hcase with ⟨rfl, _⟩ | ⟨l2, i2, s2, rfl, he2, hs2, _⟩
            · cases r1
            · have hll : l2 = l := by
                unfold asL at hl
                simp only at hl
                split at hl
                · cases hl; rfl
                · cases hl
              subst hll
              have hclaim : OwnV w2 sz i2 c (.slice nm gn off l2.length (sz c) cap) := by
                rcases list_cases r1 with ⟨_, hh⟩ | ⟨nm3, gn3, off3, cap3, cs3, e3, gen3, floor3, frz3, ex3, hh, _, _, _, _, _, _, _, ho3⟩
                · cases hh
                · rw [hh]; exact ho3.2.2 (by rw [R2.owns]; exact hs2)
              simp only [OwnV] at hclaim ⊢
              rcases hclaim with hc | ⟨hc1, hc2, cs4, e4, floor4, frz4, ex4, hg4, hr4⟩
              · exact .inl hc
              · refine .inr ⟨hc1, ?_, cs4, e4, floor4, frz4, ex4, by show w1.g nm = _; rw [m.g]; exact hg4, hr4.1, hr4.2.1, by show w1.ce e4 = _; rw [m.ce]; exact hr4.2.2⟩
                show (if st1.next = st1.next then e0 else w1.eta st1.next) = some nm
                rw [if_pos rfl, he2]
                exact hc2

end
end Go.E3

/- E3: THE HEAD of a loop, and what stands behind a cut. -/
namespace Go.E3
open Go Go.E2

variable {K : Nat → Type}

theorem get_delAll {α : Type} : ∀ {l : List Nat} {t : Tree α} {n : Nat}, (delAll l t).get n = if n ∈ l then none else t.get n
  | [], t, n => by simp [delAll]
  | m :: l, t, n => by
    simp only [delAll]
    rw [get_delAll, Tree.get_del]
    by_cases h1 : n ∈ l
    · simp [h1]
    · by_cases h2 : n = m
      · subst h2; simp [h1]
      · simp [h1, h2]

theorem look_dropAll {α : Type} : ∀ {ids : List Nat} {l : List (Nat × α)} {j : Nat}, look (ids.foldl dropL l) j = if j ∈ ids then none else look l j
  | [], l, j => by simp
  | i :: ids, l, j => by
    simp only [List.foldl_cons]
    rw [look_dropAll, look_dropL]
    by_cases h1 : j ∈ ids
    · simp [h1]
    · by_cases h2 : j = i
      · subst h2; simp [h1]
      · simp [h1, h2]

theorem look_mem {α : Type} : ∀ {l : List (Nat × α)} {n : Nat} {a : α}, look l n = some a → (n, a) ∈ l
  | [], _, _, h => by cases h
  | (i, b) :: l, n, a, h => by
    simp only [look, cond_eq_ite, Nat.beq_eq] at h
    split at h
    · rename_i hi
      subst hi
      cases h
      exact List.mem_cons_self
    · exact List.mem_cons_of_mem _ (look_mem h)

theorem distinct_nodup : ∀ {l : List Nat}, distinct l = true → l.Nodup
  | [], _ => List.nodup_nil
  | i :: l, h => by
    simp only [distinct, Bool.and_eq_true, Bool.not_eq_true'] at h
    rw [List.nodup_cons]
    refine ⟨fun hm => ?_, distinct_nodup h.2⟩
    have := h.1
    rw [← Bool.not_eq_true, List.any_eq_true] at this
    exact this ⟨i, hm, Nat.beq_refl i⟩

section
variable {X : Codecs K} {sz : Nat → Nat} {C : Cfg Int Bool (List UInt8) Prop (fun c => List (K c))} {base H0 H2 : Heap} {st0 st2 : StV K} {w0 w1 w2 : Wd} {fr0 fr2 : Fr}
variable {tbl : Tbl K} {inv : Nat → List (NV K) → Prop} {meas : Nat → List (NV K) → Nat}

/-! ### The same as before -/
theorem Rep.unown {w : Wd} {c : Nat} {l : List (K c)} {own : Option (Nat × Nat)} {v : V} (r : Rep X sz w (.list c l own) v) : Rep X sz w (.list c l none) v ∧ OwnC w sz c own v := by
  cases r with
  | nlist ho => exact ⟨.nlist trivial, ho⟩
  | list hg hf hM hlen hb hz hcap hc ho => exact ⟨.list hg hf hM hlen hb hz hcap hc trivial, ho⟩

theorem Rep.reown {w : Wd} {c : Nat} {l : List (K c)} {own : Option (Nat × Nat)} {v : V} (r : Rep X sz w (.list c l none) v) (h : OwnC w sz c own v) : Rep X sz w (.list c l own) v := by
  cases r with
  | nlist ho => exact .nlist h
  | list hg hf hM hlen hb hz hcap hc ho => exact .list hg hf hM hlen hb hz hcap hc h

theorem isOwn_owns {st : StV K} {w : Wd} (how : ∀ i, w.owns i = look st.owns i) {c : Nat} {l : List (K c)} {i s : Nat} (h : isOwn st (.list c l (some (i, s)) : PV K) = true) : w.owns i = some s := by
  rw [how]
  simp only [isOwn] at h
  split at h
  · rename_i s' hs
    rw [hs, Nat.eq_of_beq_eq_true h]
  · cases h

theorem rep_own_same (ok2 : CfgOk2 X C) (hle : Le w0 w1) (hle2 : Le w0 w2) {c : Nat} {l l' : List (K c)} {i s : Nat} {v0 v : V} (h2 : w2.owns i = some s) (hg : w1.g = w2.g) (hM : w1.M = w2.M) (r0 : Rep X sz w0 (.list c l' (some (i, s))) v0) (r2 : Rep X sz w2 (.list c l (some (i, s))) v) :
    Rep X sz w1 (.list c l (some (i, s))) v := by
  obtain ⟨r2', o2⟩ := r2.unown
  obtain ⟨_, o0⟩ := r0.unown
  refine (r2'.plain ok2.plain hg (fun _ _ _ hm => by rw [hM]; exact hm) .list).reown ⟨Nat.lt_of_lt_of_le o0.1 hle.n, (OwnC.mono hle o0).2.1, fun h1 => ?_⟩
  have hv := o2.2.2 h2
  have h0 : w0.owns i = some s := by
    cases h0 : w0.owns i with
    | none => rw [hle.o1 i o0.1 h0] at h1; cases h1
    | some s0 =>
      have a := o0.2.1 s0 h0
      have b := hle.o2 i s0 s o0.1 h0 h1
      rw [Nat.le_antisymm b a]
  obtain ⟨e1, _⟩ := hle.o3 i s o0.1 h0 h1
  obtain ⟨e2, _⟩ := hle2.o3 i s o0.1 h0 h2
  have ec : w1.ce = w2.ce := hle.ce.trans hle2.ce.symm
  cases v with
  | nils => trivial
  | slice nm gn off len z cap =>
    simp only [OwnV] at hv ⊢
    rcases hv with hv | ⟨hcap, he, cs, e, floor, frz, ex, hg', hr⟩
    · exact .inl hv
    · exact .inr ⟨hcap, by rw [e1, ← e2]; exact he, cs, e, floor, frz, ex, by rw [hg]; exact hg', hr.1, hr.2.1, by rw [ec]; exact hr.2.2⟩
  | _ => exact hv

mutual
theorem sameP_sound (hx : ∀ c x, (X.cells c x).length = sz c) (ok2 : CfgOk2 X C) (hle : Le w0 w1) (hle2 : Le w0 w2) (how : ∀ i, w2.owns i = look st2.owns i) (hc : ∀ id, id < w0.n → w1.c id = w2.c id) (hg : w1.g = w2.g) (hM : w1.M = w2.M) : ∀ (p p2 : PV K) {obs : List Prop} {v0 v : V},
    sameP (stdA X tbl inv meas) st2 p p2 = some obs → (∀ q ∈ obs, q) → Rep X sz w0 p v0 → Rep X sz w2 p2 v → Rep X sz w1 p v
  | .int k l a, p2, obs, v0, v, h, ho, r0, r2 => by
    cases p2 with
    | int k' l' b =>
      simp only [sameP] at h
      split at h
      · rename_i hk
        subst hk
        cases h
        have : a = b := ho _ List.mem_cons_self
        subst this
        cases r2
        cases r0 with | int h1 => exact .int h1
      · cases h
    | _ => simp [sameP] at h
  | .lit a, p2, obs, v0, v, h, ho, r0, r2 => by
    cases p2 with
    | lit b =>
      simp only [sameP] at h
      split at h
      · rename_i hk
        subst hk
        cases r2
        exact .lit
      · cases h
    | _ => simp [sameP] at h
  | .sb id neg a pt pf, p2, obs, v0, v, h, ho, r0, r2 => by
    cases p2 with
    | sb id' neg' b pt' pf' =>
      simp only [sameP, Option.some.injEq] at h
      subst h
      have : a = b := ho _ List.mem_cons_self
      subst this
      cases r2
      have := r0.mono hx hle
      cases r0
      exact this
    | _ => simp [sameP] at h
  | .str a, p2, obs, v0, v, h, ho, r0, r2 => by
    cases p2 with
    | str b =>
      simp only [sameP, Option.some.injEq] at h
      subst h
      have : a = b := ho _ List.mem_cons_self
      subst this
      cases r2
      exact .str
    | _ => simp [sameP] at h
  | .list c l o, p2, obs, v0, v, h, ho, r0, r2 => by
    cases o with
    | some x =>
      obtain ⟨i, s⟩ := x
      cases p2 with
      | list c' l' o' =>
        cases o' with
        | none => simp [sameP] at h
        | some y =>
          obtain ⟨i', s'⟩ := y
          simp only [sameP] at h
          rcases cond_some h with ⟨_, h1⟩ | ⟨h1, h2⟩
          · cases h1
          · simp only [Bool.and_eq_true] at h1
            obtain ⟨⟨e1, e2⟩, e3⟩ := h1
            have := Nat.eq_of_beq_eq_true e1
            subst this
            have := Nat.eq_of_beq_eq_true e2
            subst this
            split at h2
            · rename_i hcc
              subst hcc
              cases h2
              have : l = l' := ho _ List.mem_cons_self
              subst this
              exact rep_own_same ok2 hle hle2 (isOwn_owns how e3) hg hM r0 r2
            · cases h2
      | _ => simp [sameP] at h
    | none =>
      cases p2 with
      | list c' l' o' =>
        cases o' with
        | some x => simp [sameP] at h
        | none =>
          simp only [sameP] at h
          split at h
          · rename_i hcc
            subst hcc
            cases h
            have : l = l' := ho _ List.mem_cons_self
            subst this
            exact r2.plain ok2.plain hg (fun _ _ _ hm => by rw [hM]; exact hm) .list
          · cases h
      | _ => simp [sameP] at h
  | .nils, p2, obs, v0, v, h, ho, r0, r2 => by
    cases p2 with
    | nils => cases r2; exact .nils
    | _ => simp [sameP] at h
  | .cell i o l, p2, obs, v0, v, h, ho, r0, r2 => by
    cases p2 with
    | cell i' o' l' =>
      simp only [sameP] at h
      rcases cond_some h with ⟨_, h1⟩ | ⟨h1, _⟩
      · cases h1
      · simp only [Bool.and_eq_true] at h1
        have e1 := Nat.eq_of_beq_eq_true h1.1.1
        have e2 := Nat.eq_of_beq_eq_true h1.1.2
        have e3 := Nat.eq_of_beq_eq_true h1.2
        subst e1; subst e2; subst e3
        cases r0 with
        | cell hi =>
          cases r2 with
          | cell hi2 =>
            rw [← hc i hi]
            exact .cell (Nat.lt_of_lt_of_le hi hle.n)
    | _ => simp [sameP] at h
  | .eptr cs o, p2, obs, v0, v, h, ho, r0, r2 => by cases p2 <;> simp [sameP] at h
  | .mlist i c n, p2, obs, v0, v, h, ho, r0, r2 => by
    cases p2 with
    | mlist i' c' n' =>
      simp only [sameP] at h
      rcases cond_some h with ⟨_, h1⟩ | ⟨h1, h2⟩
      · cases h1
      · simp only [Bool.and_eq_true] at h1
        have := Nat.eq_of_beq_eq_true h1.1
        subst this
        have := Nat.eq_of_beq_eq_true h1.2
        subst this
        cases h2
        have : n = n' := ho _ List.mem_cons_self
        subst this
        have hi : i < w0.n := by cases r0; assumption
        cases r2 with
        | mlist h3 h4 h5 =>
          rw [← hc i hi]
          exact .mlist (Nat.lt_of_lt_of_le hi hle.n) h4 h5
    | _ => simp [sameP] at h
  | .nilp, p2, obs, v0, v, h, ho, r0, r2 => by
    cases p2 with
    | nilp => cases r2; exact .nilp
    | _ => simp [sameP] at h
  | .func f a c, p2, obs, v0, v, h, ho, r0, r2 => by
    cases p2 with
    | func f' a' c' =>
      simp only [sameP] at h
      rcases cond_some h with ⟨_, h1⟩ | ⟨h1, h2⟩
      · cases h1
      · have e1 := Nat.eq_of_beq_eq_true h1
        subst e1
        obtain ⟨x, hx1, hx2⟩ := Option.bind_eq_some_iff.1 h2
        obtain ⟨y, hy1, hy2⟩ := Option.map_eq_some_iff.1 hx2
        subst hy2
        cases r0 with
        | @func _ _ _ va vc q1 q2 q3 q4 =>
          cases r2 with
          | @func _ _ _ va' vc' p1 p2 p3 p4 =>
            have g1 := samePs_sound hx ok2 hle hle2 how hc hg hM a a' hx1 (fun q hq => ho q (List.mem_append_left _ hq)) ⟨q1, q3⟩ ⟨p1, p3⟩
            have g2 := samePs_sound hx ok2 hle hle2 how hc hg hM c c' hy1 (fun q hq => ho q (List.mem_append_right _ hq)) ⟨q2, q4⟩ ⟨p2, p4⟩
            exact .func g1.1 g2.1 g1.2 g2.2
    | _ => simp [sameP] at h
  | .nilf, p2, obs, v0, v, h, ho, r0, r2 => by
    cases p2 with
    | nilf => cases r2; exact .nilf
    | _ => simp [sameP] at h
  | .iface t q, p2, obs, v0, v, h, ho, r0, r2 => by cases p2 <;> simp [sameP] at h
  | .nili, p2, obs, v0, v, h, ho, r0, r2 => by
    cases p2 with
    | nili => cases r2; exact .nili
    | _ => simp [sameP] at h
  | .agg cs, p2, obs, v0, v, h, ho, r0, r2 => by cases p2 <;> simp [sameP] at h
  | .tuple cs, p2, obs, v0, v, h, ho, r0, r2 => by cases p2 <;> simp [sameP] at h
theorem samePs_sound (hx : ∀ c x, (X.cells c x).length = sz c) (ok2 : CfgOk2 X C) (hle : Le w0 w1) (hle2 : Le w0 w2) (how : ∀ i, w2.owns i = look st2.owns i) (hc : ∀ id, id < w0.n → w1.c id = w2.c id) (hg : w1.g = w2.g) (hM : w1.M = w2.M) : ∀ (ps p2s : List (PV K)) {obs : List Prop} {vs0 vs : List V},
    samePs (stdA X tbl inv meas) st2 ps p2s = some obs → (∀ q ∈ obs, q) → RepL X sz w0 ps vs0 → RepL X sz w2 p2s vs → RepL X sz w1 ps vs
  | [], [], obs, vs0, vs, h, ho, r0, r2 => by rw [r2.nil_iff]; exact .nil
  | [], _ :: _, obs, vs0, vs, h, ho, r0, r2 => by simp [samePs] at h
  | _ :: _, [], obs, vs0, vs, h, ho, r0, r2 => by simp [samePs] at h
  | p :: ps, p2 :: p2s, obs, vs0, vs, h, ho, r0, r2 => by
    simp only [samePs] at h
    obtain ⟨x, hx1, hx2⟩ := Option.bind_eq_some_iff.1 h
    obtain ⟨y, hy1, hy2⟩ := Option.map_eq_some_iff.1 hx2
    subst hy2
    obtain ⟨v0, vs0', rfl, a1, a2⟩ := r0.uncons
    obtain ⟨v, vs', rfl, b1, b2⟩ := r2.uncons
    exact .cons (sameP_sound hx ok2 hle hle2 how hc hg hM p p2 hx1 (fun q hq => ho q (List.mem_append_left _ hq)) a1 b1) (samePs_sound hx ok2 hle hle2 how hc hg hM ps p2s hy1 (fun q hq => ho q (List.mem_append_right _ hq)) a2 b2)
end

/-! ### Places that vary -/
/-- What stands there now. -/
def SlotV (fr2 : Fr) (H2 : Heap) (w2 : Wd) : RSlot → List V → Prop
  | .one t _, vs => ∃ v, fr2.tmp t = some v ∧ vs = [v]
  | .agg t _, vs => fr2.tmp t = some (.agg vs)
  | .var id _, vs => w2.M (w2.c id) ∧ ∃ e ex, H2.get (w2.c id) = some (.row vs e 0 0 0 ex)
  | .ml .., _ => False

def Good (w0 w2 w' : Wd) : Prop := Le w0 w' ∧ w'.g = w2.g ∧ w'.M = w2.M ∧ w'.c = w2.c

def KeepOk (X : Codecs K) (sz : Nat → Nat) (st0 : StV K) (fr2 : Fr) (H2 : Heap) (w0 w2 : Wd) (s : RSlot) : Prop :=
  ∀ x, slotPs st0 s = some x → ∀ vs, SlotV fr2 H2 w2 s vs → ∀ (i : Nat) (p : PV K), x.1[i]? = some .keep → x.2[i]? = some p → ∀ w', Le w0 w' → w'.g = w2.g → w'.M = w2.M → Rep X sz w' p (vs.getD i undefV)

def CellOk (X : Codecs K) (sz : Nat → Nat) (H2 : Heap) (w2 w1 : Wd) (id : Nat) (ct : Cont Int Bool (List UInt8) Prop (fun c => List (K c))) : Prop := w2.M (w2.c id) ∧ ∃ vs e ex, H2.get (w2.c id) = some (.row vs e 0 0 0 ex) ∧ RepL X sz w1 (contPs X ct) vs

theorem slotPs_kinds {A B : StV K} {s : RSlot} {x y : List SK × List (PV K)} (h1 : slotPs A s = some x) (h2 : slotPs B s = some y) : x.1 = y.1 := by
  cases s with
  | one t k =>
    simp only [slotPs] at h1 h2
    obtain ⟨_, _, rfl⟩ := Option.map_eq_some_iff.1 h1
    obtain ⟨_, _, rfl⟩ := Option.map_eq_some_iff.1 h2
    rfl
  | agg t ks =>
    simp only [slotPs] at h1 h2
    split at h1
    · split at h2
      · cases h1; cases h2; rfl
      · cases h2
    · cases h1
  | var id ks =>
    simp only [slotPs] at h1 h2
    obtain ⟨_, _, rfl⟩ := Option.map_eq_some_iff.1 h1
    obtain ⟨_, _, rfl⟩ := Option.map_eq_some_iff.1 h2
    rfl
  | ml id c => simp [slotPs] at h1

theorem slotV_rep (R2 : Rel X sz C base st2 fr2 H2 w2) {s : RSlot} {y : List SK × List (PV K)} (h : slotPs st2 s = some y) : ∃ vs, SlotV fr2 H2 w2 s vs ∧ RepL X sz w2 y.2 vs := by
  cases s with
  | one t k =>
    simp only [slotPs] at h
    obtain ⟨p, h1, rfl⟩ := Option.map_eq_some_iff.1 h
    obtain ⟨v, hv, hr⟩ := R2.f t p h1
    exact ⟨[v], ⟨v, hv, rfl⟩, .cons hr .nil⟩
  | agg t ks =>
    simp only [slotPs] at h
    split at h
    · rename_i cs h1
      cases h
      obtain ⟨v, hv, hr⟩ := R2.f t _ h1
      obtain ⟨vs, rfl, hl⟩ := hr.agg_iff
      exact ⟨vs, hv, hl⟩
    · cases h
  | var id ks =>
    simp only [slotPs] at h
    obtain ⟨ps, h1, rfl⟩ := Option.map_eq_some_iff.1 h
    obtain ⟨_, hM, vs, e, ex, hg, hr⟩ := R2.h.cells id _ (lookC_inv h1)
    exact ⟨vs, ⟨hM, e, ex, hg⟩, hr⟩
  | ml id c => simp [slotPs] at h

theorem genSlots_sound (ok : CfgOk X sz C) (ok2 : CfgOk2 X C) (R2 : Rel X sz C base st2 fr2 H2 w2) : ∀ {slots : List RSlot} {ns : List (NV K)} {st1 : StV K} {w1 : Wd} {G : List (NV K) → StV K → Prop},
    slotsN (stdA X tbl inv meas) st2 slots = some ns → (∀ s ∈ slots, KeepOk X sz st0 fr2 H2 w0 w2 s) → Part X sz base st0 w0 st2 H2 w2 st1 w1 (slotOwns st2 slots) → RelF X sz w1 st1.tmps fr2 →
    (∀ id ps, look st1.cells id = some ps → id ∈ viaIds slots ∨ CellOk X sz H2 w2 w1 id ps) → (∀ id, (look st1.cells id).isSome = (look st0.cells id).isSome) → genSlots (stdA X tbl inv meas) st0 slots st1 G →
    ∃ st1' w1', G ns st1' ∧ Part X sz base st0 w0 st2 H2 w2 st1' w1' [] ∧ RelF X sz w1' st1'.tmps fr2 ∧ (∀ id ps, look st1'.cells id = some ps → CellOk X sz H2 w2 w1' id ps) ∧ (∀ id, (look st1'.cells id).isSome = (look st0.cells id).isSome) ∧ st1'.n = st1.n
  | [], ns, st1, w1, G, hN, hK, m, hT, hC, hD, h => by
    simp only [slotsN, Option.some.injEq] at hN
    subst hN
    exact ⟨st1, w1, h, m, hT, fun id ps hl => (hC id ps hl).elim (fun hv => by simp [viaIds] at hv) (fun h => h), hD, rfl⟩
  | s :: slots, ns, st1, w1, G, hN, hK, m, hT, hC, hD, h => by
    by_cases hmm : ∃ id c, s = .ml id c
    · obtain ⟨id, c, rfl⟩ := hmm
      simp only [slotsN] at hN
      obtain ⟨l2, hl2, hN1⟩ := Option.bind_eq_some_iff.1 hN
      obtain ⟨ns', hN3, rfl⟩ := Option.map_eq_some_iff.1 hN1
      simp only [genSlots] at h
      obtain ⟨l0, hl0, h1⟩ := onS_inv h
      have g1 := h1 l2
      have hlk2 := lookM_inv hl2
      obtain ⟨_, hM, vs, e, ex, hg, hr⟩ := R2.h.cells id _ hlk2
      have hids : slotOwns st2 (.ml id c :: slots) = slotOwns st2 slots := rfl
      rw [hids] at m
      have hr1 : RepL X sz w1 (contPs X (.ml c l2)) vs := by
        refine ⟨hr.1, fun j p hp => m.move ok2 (hr.2 j p hp) ?_⟩
        obtain ⟨x, _, hx⟩ := List.mem_flatMap.1 (List.mem_of_getElem? hp)
        exact ok2.plain c x p hx
      have m2 : Part X sz base st0 w0 st2 H2 w2 { st1 with cells := putL st1.cells id (.ml c l2) } w1 (slotOwns st2 slots) := ⟨m.g, m.M, m.ce, m.nx, m.c, m.cl, m.n, m.le, m.nxt, m.known, m.owns, m.ownn, m.eta, m.einj, m.pends, m.pdist⟩
      have hC2 : ∀ id' ps, look (putL st1.cells id (.ml c l2)) id' = some ps → id' ∈ viaIds slots ∨ CellOk X sz H2 w2 w1 id' ps := by
        intro id' ps hl
        rw [look_putL] at hl
        by_cases hi : id' = id
        · rw [if_pos hi] at hl
          cases hl
          subst hi
          exact .inr ⟨hM, vs, e, ex, hg, hr1⟩
        · rw [if_neg hi] at hl
          rcases hC id' ps hl with h1 | h1
          · simp only [viaIds, List.mem_cons] at h1
            rcases h1 with h1 | h1
            · exact absurd h1 hi
            · exact .inl h1
          · exact .inr h1
      have hD2 : ∀ id', (look (putL st1.cells id (.ml c l2)) id').isSome = (look st0.cells id').isSome := by
        intro id'
        rw [look_putL]
        by_cases hi : id' = id
        · rw [if_pos hi, hi, lookM_inv hl0]; rfl
        · rw [if_neg hi]; exact hD id'
      obtain ⟨st3, w3, b1, b2, b3, b4, b5, b6⟩ := genSlots_sound ok ok2 R2 hN3 (fun s' hs' => hK s' (List.mem_cons_of_mem _ hs')) m2 hT hC2 hD2 g1
      exact ⟨st3, w3, b1, b2, b3, b4, b5, b6⟩
    have hml' : ∀ id c, s = .ml id c → False := fun id c he => hmm ⟨id, c, he⟩
    simp only [slotsN] at hN
    obtain ⟨y, hy, hN1⟩ := Option.bind_eq_some_iff.1 hN
    obtain ⟨a, ha, hN2⟩ := Option.bind_eq_some_iff.1 hN1
    obtain ⟨ns', hN3, rfl⟩ := Option.map_eq_some_iff.1 hN2
    simp only [genSlots] at h
    split at h
    · exact absurd h id
    · rename_i x hx
      obtain ⟨vs, hvs, hr⟩ := slotV_rep R2 hy
      have hk := slotPs_kinds hx hy
      rw [← hk] at ha
      have hids : slotOwns st2 (s :: slots) = ownIdsK x.1 y.2 ++ slotOwns st2 slots := by
        simp only [slotOwns, hy]
        rw [hk]
      rw [hids] at m
      obtain ⟨qs, st1', w1', g1, g2, g3, g4, g5, g6, g7⟩ := gens_sound ok ok2 R2.h ha hr (hK s List.mem_cons_self x hx vs hvs) m h
      have hT' : RelF X sz w1' st1'.tmps fr2 := by
        intro i p hp
        rw [g5] at hp
        obtain ⟨v, h1, h2⟩ := hT i p hp
        exact ⟨v, h1, h2.mono ok.len g3⟩
      have hC' : ∀ id ps, look st1'.cells id = some ps → id ∈ viaIds (s :: slots) ∨ CellOk X sz H2 w2 w1' id ps := by
        intro id ps hl
        rw [g7] at hl
        rcases hC id ps hl with h1 | ⟨h0, vs', e, ex, h1, h2⟩
        · exact .inl h1
        · exact .inr ⟨h0, vs', e, ex, h1, h2.mono ok.len g3⟩
      have hD' : ∀ id, (look st1'.cells id).isSome = (look st0.cells id).isSome := by
        intro id
        rw [g7]
        exact hD id
      have hK' : ∀ s' ∈ slots, KeepOk X sz st0 fr2 H2 w0 w2 s' := fun s' hs' => hK s' (List.mem_cons_of_mem _ hs')
      cases s with
      | ml id c => exact absurd ⟨id, c, rfl⟩ hmm
      | one t k =>
        simp only at g1
        split at g1
        · rename_i q
          obtain ⟨v, hv, rfl⟩ := hvs
          obtain ⟨v', _, he, hq, _⟩ := g4.uncons
          cases he
          have m2 : Part X sz base st0 w0 st2 H2 w2 { st1' with tmps := st1'.tmps.set t q } w1' (slotOwns st2 slots) := ⟨g2.g, g2.M, g2.ce, g2.nx, g2.c, g2.cl, g2.n, g2.le, g2.nxt, g2.known, g2.owns, g2.ownn, g2.eta, g2.einj, g2.pends, g2.pdist⟩
          have hT2 : RelF X sz w1' (st1'.tmps.set t q) fr2 := by
            intro i p hp
            rw [Tree.get_set] at hp
            by_cases hi : i = t
            · rw [if_pos hi] at hp
              cases hp
              subst hi
              exact ⟨v, hv, hq⟩
            · rw [if_neg hi] at hp
              exact hT' i p hp
          obtain ⟨st3, w3, b1, b2, b3, b4, b5, b6⟩ := genSlots_sound ok ok2 R2 hN3 hK' m2 hT2 hC' hD' g1
          exact ⟨st3, w3, b1, b2, b3, b4, b5, b6.trans g6⟩
        · exact absurd g1 id
      | agg t ks =>
        simp only at g1
        have m2 : Part X sz base st0 w0 st2 H2 w2 { st1' with tmps := st1'.tmps.set t (.agg qs) } w1' (slotOwns st2 slots) := ⟨g2.g, g2.M, g2.ce, g2.nx, g2.c, g2.cl, g2.n, g2.le, g2.nxt, g2.known, g2.owns, g2.ownn, g2.eta, g2.einj, g2.pends, g2.pdist⟩
        have hT2 : RelF X sz w1' (st1'.tmps.set t (.agg qs)) fr2 := by
          intro i p hp
          rw [Tree.get_set] at hp
          by_cases hi : i = t
          · rw [if_pos hi] at hp
            cases hp
            subst hi
            exact ⟨_, hvs, .agg' g4⟩
          · rw [if_neg hi] at hp
            exact hT' i p hp
        obtain ⟨st3, w3, b1, b2, b3, b4, b5, b6⟩ := genSlots_sound ok ok2 R2 hN3 hK' m2 hT2 hC' hD' g1
        exact ⟨st3, w3, b1, b2, b3, b4, b5, b6.trans g6⟩
      | var id ks =>
        simp only at g1
        have m2 : Part X sz base st0 w0 st2 H2 w2 { st1' with cells := putL st1'.cells id (.cs qs) } w1' (slotOwns st2 slots) := ⟨g2.g, g2.M, g2.ce, g2.nx, g2.c, g2.cl, g2.n, g2.le, g2.nxt, g2.known, g2.owns, g2.ownn, g2.eta, g2.einj, g2.pends, g2.pdist⟩
        obtain ⟨hM0, e, ex, hg⟩ := hvs
        have hC2 : ∀ id' ps, look (putL st1'.cells id (.cs qs)) id' = some ps → id' ∈ viaIds slots ∨ CellOk X sz H2 w2 w1' id' ps := by
          intro id' ps hl
          rw [look_putL] at hl
          by_cases hi : id' = id
          · rw [if_pos hi] at hl
            cases hl
            subst hi
            exact .inr ⟨hM0, vs, e, ex, hg, g4⟩
          · rw [if_neg hi] at hl
            rcases hC' id' ps hl with h1 | h1
            · simp only [viaIds, List.mem_cons] at h1
              rcases h1 with h1 | h1
              · exact absurd h1 hi
              · exact .inl h1
            · exact .inr h1
        have hsome : (look st0.cells id).isSome = true := by
          simp only [slotPs] at hx
          obtain ⟨ps, h1, _⟩ := Option.map_eq_some_iff.1 hx
          rw [lookC_inv h1]; rfl
        have hD2 : ∀ id', (look (putL st1'.cells id (.cs qs)) id').isSome = (look st0.cells id').isSome := by
          intro id'
          rw [look_putL]
          by_cases hi : id' = id
          · rw [if_pos hi, hi, hsome]; rfl
          · rw [if_neg hi]; exact hD' id'
        obtain ⟨st3, w3, b1, b2, b3, b4, b5, b6⟩ := genSlots_sound ok ok2 R2 hN3 hK' m2 hT' hC2 hD2 g1
        exact ⟨st3, w3, b1, b2, b3, b4, b5, b6.trans g6⟩

theorem ownIdsK_mem (A : AlgV K) : ∀ {ks : List SK} {ps : List (PV K)} {ns : List (NV K)} {i : Nat}, toNs A st2 ks ps = some ns → i ∈ ownIdsK ks ps → ∃ s, look st2.owns i = some s
  | [], ps, ns, i, _, h => by cases ps <;> simp [ownIdsK] at h
  | _ :: _, [], ns, i, h, _ => by simp [toNs] at h
  | k :: ks, p :: ps, ns, i, h, hi => by
    simp only [toNs] at h
    obtain ⟨a, h1, h2⟩ := Option.bind_eq_some_iff.1 h
    obtain ⟨r, h3, _⟩ := Option.map_eq_some_iff.1 h2
    have ih : i ∈ ownIdsK ks ps → ∃ s, look st2.owns i = some s := ownIdsK_mem A h3
    cases k with
    | list c own =>
      cases own with
      | false =>
        have e : ownIdsK (.list c false :: ks) (p :: ps) = ownIdsK ks ps := by cases p <;> rfl
        rw [e] at hi
        exact ih hi
      | true =>
        cases p with
        | list c' l o =>
          cases o with
          | none => exact ih hi
          | some x =>
            obtain ⟨j, s⟩ := x
            simp only [ownIdsK, List.mem_cons] at hi
            rcases hi with rfl | hi
            · simp only [toN1] at h1
              rcases cond_some h1 with ⟨hb, _⟩ | ⟨_, hb⟩
              · simp only [Bool.true_and, Bool.not_eq_false'] at hb
                simp only [isOwn] at hb
                split at hb
                · rename_i s' hs; exact ⟨s', hs⟩
                · cases hb
              · cases hb
            · exact ih hi
        | _ => exact ih hi
    | _ => exact ih hi

theorem slotOwns_mem (A : AlgV K) : ∀ {slots : List RSlot} {ns : List (NV K)} {i : Nat}, slotsN A st2 slots = some ns → i ∈ slotOwns st2 slots → ∃ s, look st2.owns i = some s
  | [], ns, i, _, h => by simp [slotOwns] at h
  | s :: slots, ns, i, h, hi => by
    by_cases hmm : ∃ id c, s = .ml id c
    · obtain ⟨id, c, rfl⟩ := hmm
      simp only [slotsN] at h
      obtain ⟨y, hy, h1⟩ := Option.bind_eq_some_iff.1 h
      obtain ⟨r, hr, _⟩ := Option.map_eq_some_iff.1 h1
      exact slotOwns_mem A hr hi
    have hml' : ∀ id c, s = .ml id c → False := fun id c he => hmm ⟨id, c, he⟩
    simp only [slotsN] at h
    obtain ⟨y, hy, h1⟩ := Option.bind_eq_some_iff.1 h
    obtain ⟨a, ha, h2⟩ := Option.bind_eq_some_iff.1 h1
    obtain ⟨r, hr, _⟩ := Option.map_eq_some_iff.1 h2
    simp only [slotOwns, hy, List.mem_append] at hi
    rcases hi with hi | hi
    · exact ownIdsK_mem A ha hi
    · exact slotOwns_mem A hr hi

/-- The head of a loop, at whatever state. -/
theorem head_sound (ok : CfgOk X sz C) (ok2 : CfgOk2 X C) (R0 : Rel X sz C base st0 fr0 H0 w0) (R2 : Rel X sz C base st2 fr2 H2 w2) (hle : Le w0 w2) {ds : List Nat} {slots : List RSlot} {ns : List (NV K)} {G : List (NV K) → StV K → Prop}
    (hn : st2.n = st0.n) (hfr : ∀ t, t ∉ ds → fr2.tmp t = fr0.tmp t) (hN : slotsN (stdA X tbl inv meas) st2 slots = some ns) (hK : ∀ s ∈ slots, KeepOk X sz st0 fr2 H2 w0 w2 s)
    (hC : ∀ id ps, look st0.cells id = some ps → id ∈ viaIds slots ∨ ∀ w', Good w0 w2 w' → CellOk X sz H2 w2 w' id ps)
    (hret : ∀ i s, look (headSt st0 ds slots).owns i = some s → look st2.owns i = some s) (hsep : ∀ i ∈ slotOwns st2 slots, look (headSt st0 ds slots).owns i = none) (hdist : distinct (slotOwns st2 slots) = true)
    (h : genSlots (stdA X tbl inv meas) st0 slots (headSt st0 ds slots) G) : ∃ st1 w1, G ns st1 ∧ Rel X sz C base st1 fr2 H2 w1 ∧ Le w0 w1 ∧ st1.n = st0.n := by
  have howns : ∀ i, look (headSt st0 ds slots).owns i = if i ∈ slotOwns st0 slots then none else look st0.owns i := fun i => look_dropAll
  have hsub : ∀ i s, look (headSt st0 ds slots).owns i = some s → look st0.owns i = some s := by
    intro i s hi
    rw [howns] at hi
    split at hi
    · cases hi
    · exact hi
  let w1 : Wd := { w2 with n := st0.next, owns := look (headSt st0 ds slots).owns, cl := fun id => w2.cl id ∧ id < st0.next }
  have hn0 : w0.n = st0.next := R0.h.n
  have hle1 : Le w0 w1 := by
    refine ⟨by rw [hn0]; exact Nat.le_refl _, hle.mem, hle.c, hle.nu, fun i hi h0 => ?_, fun i s s' hi h0 h1 => ?_, fun i s hi h0 h1 => ?_, hle.ce, fun id hi => ⟨fun hh => (hle.cl id hi).1 hh.1, fun hh => ⟨(hle.cl id hi).2 hh, by rw [← hn0]; exact hi⟩⟩, hle.nx, hle.b, hle.Mu⟩
    · rw [R0.h.owns] at h0
      show look (headSt st0 ds slots).owns i = none
      rw [howns, h0]
      split <;> rfl
    · rw [R0.h.owns] at h0
      have := hsub i s' h1
      rw [h0] at this
      cases this
      exact Nat.le_refl _
    · have h2 : w2.owns i = some s := by rw [R2.h.owns]; exact hret i s h1
      exact hle.o3 i s hi h0 h2
  have m : Part X sz base st0 w0 st2 H2 w2 (headSt st0 ds slots) w1 (slotOwns st2 slots) := by
    refine ⟨rfl, rfl, rfl, rfl, rfl, fun _ => .rfl, rfl, hle1, Nat.le_refl _, rfl, rfl, fun i s hi => R0.h.ownn i s (hsub i s hi), fun i s nm hi he => R2.h.eta i s nm (hret i s hi) he, fun i j s s' nm h1 h2 e1 e2 => R2.h.einj i j s s' nm (hret i s h1) (hret j s' h2) e1 e2, fun i2 hi2 => ⟨slotOwns_mem _ hN hi2, fun nm hnm j s hj he => ?_⟩, distinct_nodup hdist⟩
    obtain ⟨s2, hs2⟩ := slotOwns_mem _ hN hi2
    have := R2.h.einj i2 j s2 s nm hs2 (hret j s hj) hnm he
    subst this
    rw [hsep i2 hi2] at hj
    cases hj
  have hT : RelF X sz w1 (headSt st0 ds slots).tmps fr2 := by
    intro t p hp
    have hp' : (delAll ds st0.tmps).get t = some p := hp
    rw [get_delAll] at hp'
    split at hp'
    · cases hp'
    · rename_i ht
      obtain ⟨v, h1, h2⟩ := R0.f t p hp'
      exact ⟨v, by rw [hfr t ht]; exact h1, h2.mono ok.len hle1⟩
  have hgood : Good w0 w2 w1 := ⟨hle1, rfl, rfl, rfl⟩
  obtain ⟨st1, w3, g1, g2, g3, g4, g5, g6⟩ := genSlots_sound ok ok2 R2 hN hK m hT (fun id ps hl => (hC id ps hl).imp_right fun hh => hh w1 hgood) (fun _ => rfl) h
  refine ⟨st1, w3, g1, ⟨?_, g3, ?_, R2.ds⟩, g2.le, g6⟩
  · have hcl0 : ∀ id, (look st1.cells id).isSome = true → w0.cl id ∧ id < st0.next := by
      intro id hs
      rw [g5] at hs
      obtain ⟨ps, hps⟩ := Option.isSome_iff_exists.1 hs
      obtain ⟨q1, q2, _⟩ := R0.h.cells id ps hps
      exact ⟨q1, (R0.h.cl id q1).1⟩
    refine ⟨R2.h.wf, R2.h.rob, g2.g.trans R2.h.g, g2.nx.trans R2.h.nx, g2.le.b.trans R0.h.b, fun n hM => R2.h.Mlt n (by rw [← g2.M]; exact hM), g2.n, Nat.le_trans R0.h.one g2.nxt, R2.h.keeps, fun id hc => ?_, fun id id' h1 h2 he => ?_, fun id ps hl => ?_, fun i => by rw [g2.owns], g2.ownn, fun i s nm h1 h2 => ?_, g2.einj, g2.ce.trans R2.h.ce, fun id b hk => ?_, fun gn ps hg => ?_⟩
    · obtain ⟨c1, c2⟩ := (g2.cl id).1 hc
      obtain ⟨q1, q2, q3⟩ := R2.h.cl id c1
      exact ⟨Nat.lt_of_lt_of_le c2 g2.nxt, by rw [g2.c]; exact q2, by rw [g2.c]; exact q3⟩
    · rw [g2.c] at he
      exact R2.h.cinj id id' ((g2.cl id).1 h1).1 ((g2.cl id').1 h2).1 he
    · obtain ⟨q1, q2⟩ := hcl0 id (by rw [hl]; rfl)
      have hi : id < w0.n := by rw [hn0]; exact q2
      obtain ⟨a0, vs, e, ex, a1, a2⟩ := g4 id ps hl
      refine ⟨(g2.cl id).2 ⟨(hle.cl id hi).2 q1, q2⟩, by rw [g2.c, g2.M]; exact a0, vs, e, ex, by rw [g2.c]; exact a1, a2⟩
    · obtain ⟨q1, q2, q3⟩ := g2.eta i s nm h1 h2
      exact ⟨q1, q2, by rw [g2.M]; exact q3⟩
    · rw [g2.known] at hk
      obtain ⟨q0, q1, q2⟩ := R0.h.known id b hk
      exact ⟨q0, Nat.lt_of_lt_of_le q1 g2.nxt, by rw [g2.le.nu id (by rw [hn0]; exact q1)]; exact q2⟩
    · obtain ⟨q0, vs', e', fl, fz, ex', q1, q2, q3⟩ := R0.h.globs gn ps hg
      exact ⟨q0, vs', e', fl, fz, ex', q1, q2, q3.mono ok.len g2.le⟩
  · rw [R2.n, hn, g6]
    rfl

end
end Go.E3

/- E3: CODE against E2's. -/
namespace Go.E3
open Go Go.E2

variable {K : Nat → Type}

section
variable {X : Codecs K} {sz : Nat → Nat} {C : Cfg Int Bool (List UInt8) Prop (fun c => List (K c))} {base : Heap}
variable {tbl : Tbl K} {inv : Nat → List (NV K) → Prop} {meas : Nat → List (NV K) → Nat} {inl : Inl Int Bool (List UInt8) Prop (fun c => List (K c))}

theorem slotV_eq {fr2 : Fr} {H2 : Heap} {w2 : Wd} {s : RSlot} {vs us : List V} (h1 : SlotV fr2 H2 w2 s vs) (h2 : SlotV fr2 H2 w2 s us) : vs = us := by
  cases s with
  | one t k =>
    obtain ⟨v, a, rfl⟩ := h1
    obtain ⟨u, b, rfl⟩ := h2
    rw [a] at b
    cases b
    rfl
  | agg t ks =>
    have a : fr2.tmp t = some (.agg vs) := h1
    have b : fr2.tmp t = some (.agg us) := h2
    rw [a] at b
    cases b
    rfl
  | var id ks =>
    obtain ⟨_, e, ex, a⟩ := h1
    obtain ⟨_, e', ex', b⟩ := h2
    rw [a] at b
    cases b
    rfl
  | ml id c => exact False.elim h1

theorem keepPs_sound {st0 st2 : StV K} : ∀ {ks : List SK} {as bs : List (PV K)} {obs : List Prop}, keepPs (stdA X tbl inv meas) st2 ks as bs = some obs → (∀ q ∈ obs, q) → ∀ (i : Nat) (p : PV K), ks[i]? = some .keep → as[i]? = some p →
    ∃ p2 o, bs[i]? = some p2 ∧ sameP (stdA X tbl inv meas) st2 p p2 = some o ∧ ∀ q ∈ o, q
  | [], as, bs, obs, h, ho, i, p, hk, ha => by simp at hk
  | k :: ks, [], bs, obs, h, ho, i, p, hk, ha => by simp at ha
  | k :: ks, a :: as, [], obs, h, ho, i, p, hk, ha => by cases k <;> simp [keepPs] at h
  | k :: ks, a :: as, b :: bs, obs, h, ho, i, p, hk, ha => by
    have rest : ∀ obs', keepPs (stdA X tbl inv meas) st2 ks as bs = some obs' → (∀ q ∈ obs', q) → ∀ i', i = i' + 1 → ∃ p2 o, (b :: bs)[i]? = some p2 ∧ sameP (stdA X tbl inv meas) st2 p p2 = some o ∧ ∀ q ∈ o, q := by
      intro obs' h1 h2 i' hi
      subst hi
      obtain ⟨p2, o, e1, e2, e3⟩ := keepPs_sound (st0 := st0) (st2 := st2) h1 h2 i' p (by simpa using hk) (by simpa using ha)
      exact ⟨p2, o, by simpa using e1, e2, e3⟩
    cases k with
    | keep =>
      simp only [keepPs] at h
      obtain ⟨x, hx, h1⟩ := Option.bind_eq_some_iff.1 h
      obtain ⟨y, hy, rfl⟩ := Option.map_eq_some_iff.1 h1
      cases i with
      | zero =>
        simp only [List.getElem?_cons_zero, Option.some.injEq] at ha
        subst ha
        exact ⟨b, x, rfl, hx, fun q hq => ho q (List.mem_append_left _ hq)⟩
      | succ i => exact rest y hy (fun q hq => ho q (List.mem_append_right _ hq)) i rfl
    | _ =>
      have h' : keepPs (stdA X tbl inv meas) st2 ks as bs = some obs := h
      cases i with
      | zero => simp at hk
      | succ i => exact rest obs h' ho i rfl

theorem keepSlots_sound {st0 st2 : StV K} : ∀ {slots : List RSlot} {obs : List Prop}, keepSlots (stdA X tbl inv meas) st0 st2 slots = some obs → (∀ q ∈ obs, q) → ∀ s ∈ slots, (∃ id c, s = .ml id c) ∨ ∃ x y o, slotPs st0 s = some x ∧ slotPs st2 s = some y ∧ keepPs (stdA X tbl inv meas) st2 x.1 x.2 y.2 = some o ∧ ∀ q ∈ o, q
  | [], obs, _, _, s, hs => by cases hs
  | s0 :: slots, obs, h, ho, s, hs => by
    by_cases hmm : ∃ id c, s0 = .ml id c
    · obtain ⟨id, c, rfl⟩ := hmm
      simp only [keepSlots] at h
      rcases List.mem_cons.1 hs with rfl | hs
      · exact .inl ⟨id, c, rfl⟩
      · exact keepSlots_sound h ho s hs
    have hml' : ∀ id c, s0 = .ml id c → False := fun id c he => hmm ⟨id, c, he⟩
    simp only [keepSlots] at h
    obtain ⟨x, hx, h1⟩ := Option.bind_eq_some_iff.1 h
    obtain ⟨y, hy, h2⟩ := Option.bind_eq_some_iff.1 h1
    obtain ⟨a, ha, h3⟩ := Option.bind_eq_some_iff.1 h2
    obtain ⟨r, hr, rfl⟩ := Option.map_eq_some_iff.1 h3
    rcases List.mem_cons.1 hs with rfl | hs
    · exact .inr ⟨x, y, a, hx, hy, ha, fun q hq => ho q (List.mem_append_left _ hq)⟩
    · exact keepSlots_sound hr (fun q hq => ho q (List.mem_append_right _ hq)) s hs

theorem sameCells_sound {vias : List Nat} {st2 : StV K} : ∀ {l : List (Nat × Cont Int Bool (List UInt8) Prop (fun c => List (K c)))} {obs : List Prop}, sameCells (stdA X tbl inv meas) vias st2 l = some obs → (∀ q ∈ obs, q) → ∀ id ct, (id, ct) ∈ l → id ∈ vias ∨ ∃ o, sameCont (stdA X tbl inv meas) st2 id ct = some o ∧ ∀ q ∈ o, q
  | [], obs, _, _, id, ps, h => by cases h
  | (i, cs) :: l, obs, h, ho, id, ps, hm => by
    simp only [sameCells] at h
    rcases cond_some h with ⟨hb, h1⟩ | ⟨hb, h1⟩
    · obtain ⟨x, hx, h3⟩ := Option.bind_eq_some_iff.1 h1
      obtain ⟨y, hy, rfl⟩ := Option.map_eq_some_iff.1 h3
      rcases List.mem_cons.1 hm with he | hm
      · cases he
        exact .inr ⟨x, hx, fun q hq => ho q (List.mem_append_left _ hq)⟩
      · exact sameCells_sound hy (fun q hq => ho q (List.mem_append_right _ hq)) id ps hm
    · rcases List.mem_cons.1 hm with he | hm
      · cases he
        obtain ⟨j, hj, hb2⟩ := List.any_eq_true.1 hb
        have := Nat.eq_of_beq_eq_true hb2
        subst this
        exact .inl hj
      · exact sameCells_sound h1 ho id ps hm

theorem cond_prop {c : Bool} {p : Prop} (h : bif c then p else False) : c = true ∧ p := by
  cases c with
  | false => exact absurd h id
  | true => exact ⟨rfl, h⟩

/-- What is shown behind a round. -/
theorem backP_inv {j : Nat} {seen : List (NV K)} {slots : List RSlot} {dec : Option (List (NV K))} {st0 hd st2 : StV K} (h : backP (stdA X tbl inv meas) j seen slots dec st0 hd st2) :
    ∃ ns a b, slotsN (stdA X tbl inv meas) st2 slots = some ns ∧ keepSlots (stdA X tbl inv meas) st0 st2 slots = some a ∧ sameCells (stdA X tbl inv meas) (viaIds slots) st2 st0.cells = some b ∧ (∀ q ∈ a, q) ∧ (∀ q ∈ b, q) ∧
      distinct (slotOwns st2 slots) = true ∧ (∀ i ∈ slotOwns st2 slots, look hd.owns i = none) ∧ (∀ i s, look hd.owns i = some s → look st2.owns i = some s) ∧ inv j (ns ++ seen) ∧ (∀ m, dec = some m → meas j (ns ++ seen) < meas j (m ++ seen)) := by
  unfold backP at h
  split at h
  · rename_i ns a b hN hK hS
    obtain ⟨hb, h⟩ := cond_prop h
    simp only [Bool.and_eq_true] at hb
    obtain ⟨h1, h2⟩ := ands_inv h
    obtain ⟨h3, h4⟩ := ands_inv h2
    refine ⟨ns, a, b, hN, hK, hS, h1, h3, hb.1.1, fun i hi => ?_, fun i s hi => ?_, h4.1, fun m hm => ?_⟩
    · cases hl : look hd.owns i with
      | none => rfl
      | some s =>
        have := List.all_eq_true.1 hb.1.2 i hi
        simp only [Bool.not_eq_true', ← Bool.not_eq_true, List.any_eq_true] at this
        exact absurd ⟨(i, s), look_mem hl, Nat.beq_refl i⟩ this
    · have := List.all_eq_true.1 hb.2 (i, s) (look_mem hi)
      simp only at this
      split at this
      · rename_i s' hs'
        have := Nat.eq_of_beq_eq_true this
        rw [hs', this]
      · cases this
    · subst hm
      exact h4.2
  · exact absurd h id

/-- The head once more, behind a round. -/
theorem head_back (ok : CfgOk X sz C) (ok2 : CfgOk2 X C) {st0 st2 : StV K} {fr0 fr2 : Fr} {H0 H2 : Heap} {w0 w2 : Wd} (R0 : Rel X sz C base st0 fr0 H0 w0) (R2 : Rel X sz C base st2 fr2 H2 w2) (hle : Le w0 w2) {j : Nat} {seen : List (NV K)} {ds : List Nat} {slots : List RSlot} {dec : Option (List (NV K))}
    (hn : fr2.n = fr0.n) (hfr : ∀ t, t ∉ ds → fr2.tmp t = fr0.tmp t) (hb : backP (stdA X tbl inv meas) j seen slots dec st0 (headSt st0 ds slots) st2) :
    ∃ ns, inv j (ns ++ seen) ∧ (∀ m, dec = some m → meas j (ns ++ seen) < meas j (m ++ seen)) ∧ ∀ G : List (NV K) → StV K → Prop, genSlots (stdA X tbl inv meas) st0 slots (headSt st0 ds slots) G → ∃ st1 w1, G ns st1 ∧ Rel X sz C base st1 fr2 H2 w1 ∧ Le w0 w1 ∧ st1.n = st0.n := by
  obtain ⟨ns, a, b, hN, hK, hS, ha, hbb, hd, hsep, hret, hinv, hdec⟩ := backP_inv hb
  refine ⟨ns, hinv, hdec, fun G hG => head_sound ok ok2 R0 R2 hle (by rw [← R2.n, hn, R0.n]) hfr hN (fun s hs => ?_) (fun id ps hl => ?_) hret hsep hd hG⟩
  · rcases keepSlots_sound hK ha s hs with ⟨id, c, rfl⟩ | ⟨x, y, o, hx, hy, ho, hq⟩
    · intro x' hx'
      simp [slotPs] at hx'
    intro x' hx' vs hvs i p hk hp w' h1 h2 h3
    rw [hx] at hx'
    cases hx'
    obtain ⟨p2, o2, hp2, hs2, ho2⟩ := keepPs_sound (st0 := st0) (st2 := st2) ho hq i p hk hp
    obtain ⟨vs0, _, r0⟩ := slotV_rep R0 hx
    obtain ⟨vs2, hvs2, r2⟩ := slotV_rep R2 hy
    have := slotV_eq hvs hvs2
    subst this
    obtain ⟨v0, _, q0⟩ := r0.get hp
    have q2 := r2.2 i p2 hp2
    exact sameP_sound ok.len ok2 h1 hle R2.h.owns (fun id hi => by rw [h1.c id hi, hle.c id hi]) h2 h3 p p2 hs2 ho2 q0 q2
  · rcases sameCells_sound hS hbb id ps (look_mem hl) with h1 | ⟨o, h2, h3⟩
    · exact .inl h1
    · right
      intro w' hg
      obtain ⟨g1, g2, g3, g4⟩ := hg
      obtain ⟨_, _, vs0, _, _, _, r0⟩ := R0.h.cells id ps hl
      cases ps with
      | cs ps =>
        simp only [sameCont] at h2
        obtain ⟨dd, h1, h2⟩ := Option.bind_eq_some_iff.1 h2
        obtain ⟨_, hM, vs2, e, ex, hgt, r2⟩ := R2.h.cells id _ (lookC_inv h1)
        exact ⟨hM, vs2, e, ex, hgt, samePs_sound ok.len ok2 g1 hle R2.h.owns (fun id hi => by rw [g1.c id hi, hle.c id hi]) g2 g3 ps dd h2 h3 r0 r2⟩
      | ml c l =>
        simp only [sameCont] at h2
        obtain ⟨l', h1, rfl⟩ := Option.map_eq_some_iff.1 h2
        have he : l = l' := h3 _ List.mem_cons_self
        subst he
        obtain ⟨_, hM, vs2, e, ex, hgt, r2⟩ := R2.h.cells id _ (lookM_inv h1)
        refine ⟨hM, vs2, e, ex, hgt, r2.1, fun j p hp => (r2.2 j p hp).plain ok2.plain g2 (fun _ _ _ h => by rw [g3]; exact h) ?_⟩
        obtain ⟨x, _, hx⟩ := List.mem_flatMap.1 (List.mem_of_getElem? hp)
        exact ok2.plain c x p hx

/-- The head for the first time. -/
theorem head_first (ok : CfgOk X sz C) (ok2 : CfgOk2 X C) {st0 : StV K} {fr0 : Fr} {H0 : Heap} {w0 : Wd} (R0 : Rel X sz C base st0 fr0 H0 w0) {ds : List Nat} {slots : List RSlot} {ns : List (NV K)} (hN : slotsN (stdA X tbl inv meas) st0 slots = some ns) (hd : distinct (slotOwns st0 slots) = true)
    {G : List (NV K) → StV K → Prop} (hG : genSlots (stdA X tbl inv meas) st0 slots (headSt st0 ds slots) G) : ∃ st1 w1, G ns st1 ∧ Rel X sz C base st1 fr0 H0 w1 ∧ Le w0 w1 ∧ st1.n = st0.n := by
  have howns : ∀ i, look (headSt st0 ds slots).owns i = if i ∈ slotOwns st0 slots then none else look st0.owns i := fun i => look_dropAll
  refine head_sound ok ok2 R0 R0 (.refl w0) rfl (fun _ _ => rfl) hN (fun s hs => ?_) (fun id ps hl => ?_) (fun i s hi => ?_) (fun i hi => ?_) hd hG
  · intro x hx vs hvs i p hk hp w' h1 h2 h3
    obtain ⟨vs0, hvs0, r0⟩ := slotV_rep R0 hx
    have := slotV_eq hvs hvs0
    subst this
    exact (r0.2 i p hp).mono ok.len h1
  · right
    intro w' hg
    obtain ⟨_, hM, vs0, e, ex, hgt, r0⟩ := R0.h.cells id ps hl
    exact ⟨hM, vs0, e, ex, hgt, r0.mono ok.len hg.1⟩
  · rw [howns] at hi
    split at hi
    · cases hi
    · exact hi
  · rw [howns, if_pos hi]

/-! ### Code -/
/-- What a piece of code leaves. -/
abbrev Post (X : Codecs K) (sz : Nat → Nat) (C : Cfg Int Bool (List UInt8) Prop (fun c => List (K c))) (base : Heap) (w : Wd) (k : Ex → StV K → Prop) (ex : Ex) (fr' : Fr) (H' : Heap) : Prop :=
  (∀ l, ex ≠ .goto l) ∧ ∃ st' w', k ex st' ∧ Rel X sz C base st' fr' H' w' ∧ Le w w'

theorem iterW_step {σ : Type} {step : σ → (σ → Prop) → Prop} {n : Nat} {s : σ} (h : iterW step False n s) : ∃ m, n = m + 1 ∧ step s fun s' => iterW step False m s' := by
  cases n with
  | zero => exact absurd h id
  | succ m => exact ⟨m, rfl, h⟩

theorem w2_peel {E : Env} {fn : FuncId} {round : Option Nat} {c : Code} {fr : Fr} {H : Heap} {Q : Ex → Fr → Heap → Prop}
    (h : Wp E fn round c fr H (thenQ (fun fr' H' => ∃ (Inv : Nat → Fr → Heap → Prop) (m : Nat), Inv m fr' H' ∧ ∀ m fr H, Inv m fr H → Wp E fn round c fr H (thenQ (fun fr' H' => ∃ m', m' < m ∧ Inv m' fr' H') Q)) Q)) : Wp E fn round (.loop c) fr H Q := by
  obtain ⟨⟨e, fr1, H1⟩, hk, h2⟩ := h
  cases e with
  | normal =>
    obtain ⟨Inv, m1, hi, hs⟩ := h2
    refine w2_loop (fun m fr' H' => (m = m1 + 1 ∧ fr' = fr ∧ H' = H) ∨ (m ≤ m1 ∧ Inv m fr' H')) (m := m1 + 1) (.inl ⟨rfl, rfl, rfl⟩) ?_
    rintro m fr' H' (⟨rfl, rfl, rfl⟩ | ⟨hm, hi⟩)
    · exact ⟨_, hk, m1, Nat.lt_succ_self _, .inr ⟨Nat.le_refl _, hi⟩⟩
    · refine (hs m fr' H' hi).mono fun ex fr2 H2 hA => ?_
      cases ex with
      | normal =>
        obtain ⟨m', h1, h2⟩ := hA
        exact ⟨m', h1, .inr ⟨by omega, h2⟩⟩
      | _ => exact hA
  | _ =>
    refine w2_loop (fun m fr' H' => fr' = fr ∧ H' = H) (m := 0) ⟨rfl, rfl⟩ ?_
    rintro m fr' H' ⟨rfl, rfl⟩
    exact ⟨_, hk, h2⟩

/-- A loop at its head: what holds there. -/
theorem headP_sound (ok : CfgOk X sz C) (ok2 : CfgOk2 X C) {fn : Nat} {c : Code} {j : Nat} {slots sees : List Slot} {st : StV K} {fr : Fr} {H : Heap} {w : Wd} {k : Ex → StV K → Prop} {body : StV K → (Ex → StV K → Prop) → Prop}
    (hbody : ∀ {st : StV K} {fr : Fr} {H : Heap} {w : Wd} {k : Ex → StV K → Prop}, Rel X sz C base st fr H w → body st k → Wp C.E fn none c fr H (Post X sz C base w k))
    (R : Rel X sz C base st fr H w) (h : headP (stdA X tbl inv meas) j slots sees (dsts c) st body k) :
    ∃ (Inv : Nat → Fr → Heap → Prop) (m : Nat), Inv m fr H ∧ ∀ m fr' H', Inv m fr' H' → Wp C.E fn none c fr' H' (thenQ (fun fr' H' => ∃ m', m' < m ∧ Inv m' fr' H') (Post X sz C base w k)) := by
  unfold headP at h
  obtain ⟨rs, hrs, h1⟩ := onS_inv h
  obtain ⟨ns0, hns, h1⟩ := onS_inv h1
  obtain ⟨seen, _, h2⟩ := onS_inv h1
  cases hd : distinct (slotOwns st rs) with
  | false => rw [hd] at h2; exact absurd h2 id
  | true =>
    rw [hd] at h2
    simp only [cond_true] at h2
    obtain ⟨hinv0, hG⟩ := h2
    let Body : List (NV K) → StV K → Prop := fun ns st1 => inv j (ns ++ seen) → body st1 fun ex st2 => match ex with
        | .normal => backP (stdA X tbl inv meas) j seen rs (some ns) st (headSt st (dsts c) rs) st2
        | ex => k ex st2
    refine ⟨fun m fr' H' => ∃ ns st1 w1, m = meas j (ns ++ seen) ∧ inv j (ns ++ seen) ∧ Body ns st1 ∧ Rel X sz C base st1 fr' H' w1 ∧ Le w w1 ∧ fr'.n = fr.n ∧ ∀ t, t ∉ dsts c → fr'.tmp t = fr.tmp t, meas j (ns0 ++ seen), ?_, ?_⟩
    · obtain ⟨st1, w1, g1, g2, g3, g4⟩ := head_first ok ok2 R hns hd hG
      exact ⟨ns0, st1, w1, rfl, hinv0, g1, g2, g3, rfl, fun _ _ => rfl⟩
    · rintro m fr' H' ⟨ns, st1, w1, rfl, hinv, hB, R1, hle1, hn1, hf1⟩
      refine (Go.E3.Wp.frame (hbody R1 (hB hinv))).mono fun ex fr2 H2 hA => ?_
      obtain ⟨⟨hgo, st2, w2, hk, R2, hle2⟩, hfr2, hnn2⟩ := hA
      cases ex with
      | normal =>
        obtain ⟨ns', hinv', hdec, hh⟩ := head_back ok ok2 R R2 (hle1.trans hle2) (hnn2.trans hn1) (fun t ht => (hfr2 t ht).trans (hf1 t ht)) hk
        obtain ⟨st3, w3, g1, g2, g3, _⟩ := hh _ hG
        exact ⟨meas j (ns' ++ seen), hdec ns rfl, ns', st3, w3, rfl, hinv', g1, g2, g3, hnn2.trans hn1, fun t ht => (hfr2 t ht).trans (hf1 t ht)⟩
      | _ => exact ⟨hgo, st2, w2, hk, R2, hle1.trans hle2⟩

theorem wpCode_sound (ok : CfgOk X sz C) (ok2 : CfgOk2 X C) (tok : TblOk X sz C tbl) (iok : InlOk X sz C inl) {fn : Nat} : ∀ {c : Code} {p : Nat} {st : StV K} {fr : Fr} {H : Heap} {w : Wd} {k : Ex → StV K → Prop},
    Rel X sz C base st fr H w → wpCode (stdA X tbl inv meas) C inl fn p c st k → Wp C.E fn none c fr H (Post X sz C base w k)
  | .skip, p, st, fr, H, w, k, R, h => w2_skip ⟨by simp, st, w, h, R, .refl w⟩
  | .label _, p, st, fr, H, w, k, R, h => w2_label ⟨by simp, st, w, h, R, .refl w⟩
  | .exit _, p, st, fr, H, w, k, R, h => w2_exit ⟨by simp, st, w, h, R, .refl w⟩
  | .ret, p, st, fr, H, w, k, R, h => w2_ret ⟨by simp, st, w, h, R, .refl w⟩
  | .goto _, p, st, fr, H, w, k, R, h => absurd h id
  | .refuse _, p, st, fr, H, w, k, R, h => absurd h id
  | .rangeFunc .., p, st, fr, H, w, k, R, h => absurd h id
  | .cond c a b, p, st, fr, H, w, k, R, h => by
    simp only [wpCode] at h
    split at h
    · rename_i pc hc
      obtain ⟨v, ev, rv⟩ := opdP_sound R hc
      obtain ⟨t, rfl⟩ := br_bool rv h
      obtain ⟨st1, h1, hn, _, R1⟩ := br_sound R.h rv h
      have R1' := R.near ok hn R1 (.refl w)
      refine w2_cond ev ?_
      cases t with
      | true => exact wpCode_sound ok ok2 tok iok R1' h1
      | false => exact wpCode_sound ok ok2 tok iok R1' h1
    · exact absurd h id
  | .block id c, p, st, fr, H, w, k, R, h => by
    simp only [wpCode] at h
    refine w2_block ((wpCode_sound ok ok2 tok iok R h).mono fun ex fr' H' hA => ?_)
    obtain ⟨hg, st', w', hk, R', hle⟩ := hA
    cases ex with
    | exit id' =>
      simp only at hk
      simp only [blockQ]
      cases hb : Nat.beq id' id with
      | true =>
        rw [hb] at hk
        simp only [cond_true] at hk
        have := Nat.eq_of_beq_eq_true hb
        subst this
        exact blockQ_hit ⟨by simp, st', w', hk, R', hle⟩
      | false =>
        rw [hb] at hk
        simp only [cond_false] at hk
        have hne : ¬ id' = id := by
          intro he
          subst he
          simp at hb
        exact blockQ_miss hne ⟨by simp, st', w', hk, R', hle⟩
    | _ => exact ⟨hg, st', w', hk, R', hle⟩
  | .scope c, p, st, fr, H, w, k, R, h => by
    simp only [wpCode] at h
    refine w2_scope ((wpCode_sound ok ok2 tok iok R h).mono fun ex fr' H' hA => ⟨hA.1, hA⟩)
  | .region id ops draw, p, st, fr, H, w, k, R, h => by
    simp only [wpCode] at h
    cases draw with
    | true =>
      simp only [cond_true] at h
      refine w2_drawn ?_
      have m : Mid X sz C base H.next st.next [] [] st fr H w := ⟨R, .nil, Nat.le_refl _, Nat.le_refl _, fun id _ hc => (R.h.cl id hc).2.1, fun d hd => by cases hd⟩
      obtain ⟨x, hx, e, st', w', a1, a2, a3⟩ := wpDraw_sound (b := Region.before ops) (i := 0) ok ok2 tok iok m h
      exact ⟨x, hx, by simp, st', w', a1, a2, a3⟩
    | false =>
      simp only [cond_false] at h
      refine w2_region ((wpOps_sound ok ok2 tok iok R h).mono fun ex fr' H' hA => ?_)
      obtain ⟨rfl, st', w', a1, a2, a3⟩ := hA
      exact ⟨by simp, st', w', a1, a2, a3⟩
  | .seq a b, p, st, fr, H, w, k, R, h => by
    simp only [wpCode] at h
    split at h
    · rename_i j slots sees hann
      obtain ⟨rs, hrs, h1⟩ := onS_inv h
      obtain ⟨seen, _, h1⟩ := onS_inv h1
      obtain ⟨ha, hg⟩ := h1
      refine w2_seq ((Go.E3.Wp.frame (wpCode_sound ok ok2 tok iok R ha)).mono fun ex fr' H' hA => ?_)
      obtain ⟨⟨hgo, st', w', hk, R', hle⟩, hfr, hnn⟩ := hA
      cases ex with
      | normal =>
        obtain ⟨ns, hinv, _, hh⟩ := head_back ok ok2 R R' hle hnn hfr hk
        obtain ⟨st1, w1, g1, g2, g3, _⟩ := hh _ hg
        refine (wpCode_sound ok ok2 tok iok g2 (g1 hinv)).mono fun ex fr2 H2 hB => ?_
        obtain ⟨q1, st3, w3, q2, q3, q4⟩ := hB
        exact ⟨q1, st3, w3, q2, q3, g3.trans q4⟩
      | _ => exact ⟨hgo, st', w', hk, R', hle⟩
    · refine w2_seq ((wpCode_sound ok ok2 tok iok R h).mono fun ex fr' H' hA => ?_)
      obtain ⟨hg, st', w', hk, R', hle⟩ := hA
      cases ex with
      | normal =>
        refine (wpCode_sound ok ok2 tok iok R' hk).mono fun ex fr2 H2 hB => ?_
        obtain ⟨q1, st3, w3, q2, q3, q4⟩ := hB
        exact ⟨q1, st3, w3, q2, q3, hle.trans q4⟩
      | _ => exact ⟨hg, st', w', hk, R', hle⟩
  | .loop c, p, st, fr, H, w, k, R, h => by
    simp only [wpCode] at h
    split at h
    · rename_i j slots sees hann
      obtain ⟨Inv, m, h0, hs⟩ := headP_sound ok ok2 (fun R h => wpCode_sound ok ok2 tok iok R h) R h
      exact w2_loop Inv h0 hs
    · rename_i j slots sees hann
      refine w2_peel ((wpCode_sound ok ok2 tok iok R h).mono fun ex fr' H' hA => ?_)
      obtain ⟨hg, st1, w1, hk, R1, hle1⟩ := hA
      cases ex with
      | normal =>
        obtain ⟨Inv, m, h0, hs⟩ := headP_sound ok ok2 (fun R h => wpCode_sound ok ok2 tok iok R h) R1 hk
        refine ⟨Inv, m, h0, fun m fr2 H2 hi => (hs m fr2 H2 hi).mono fun ex fr3 H3 hB => ?_⟩
        cases ex with
        | normal => exact hB
        | _ =>
          obtain ⟨q1, st3, w3, q2, q3, q4⟩ := hB
          exact ⟨q1, st3, w3, q2, q3, hle1.trans q4⟩
      | _ => exact ⟨hg, st1, w1, hk, R1, hle1⟩
    · rename_i n hann
      refine w2_loop (fun m fr' H' => ∃ st1 w1, iterW (fun s g => wpCode (stdA X tbl inv meas) C inl fn (2 * p) c s fun ex st1 => match ex with
        | .normal => g st1
        | ex => k ex st1) False m st1 ∧ Rel X sz C base st1 fr' H' w1 ∧ Le w w1) (m := n) ⟨st, w, h, R, .refl w⟩ ?_
      rintro m fr' H' ⟨st1, w1, hit, R1, hle1⟩
      obtain ⟨m', rfl, hit'⟩ := iterW_step hit
      refine (wpCode_sound ok ok2 tok iok R1 hit').mono fun ex fr2 H2 hA => ?_
      obtain ⟨hg, st2, w2, hk, R2, hle2⟩ := hA
      cases ex with
      | normal => exact ⟨m', Nat.lt_succ_self _, st2, w2, hk, R2, hle1.trans hle2⟩
      | _ => exact ⟨hg, st2, w2, hk, R2, hle1.trans hle2⟩
    · exact absurd h id

end
end Go.E3

/- E3: FUNCTIONS against E2's: what the conditions of a function show. -/
namespace Go.E3
open Go Go.E2

variable {K : Nat → Type}

def ownPairs : List (PV K) → List (PV K) → List (Nat × Nat)
  | .list _ _ (some (i, _)) :: ps, .list _ _ (some (j, _)) :: rs => (j, i) :: ownPairs ps rs
  | _ :: ps, _ :: rs => ownPairs ps rs
  | _, _ => []

/-- A part of an answer that tells the truth. -/
def RT : PV K → Prop
  | .sb id _ b pt pf => id = 0 ∧ (pt ↔ b = true) ∧ (pf ↔ b = false)
  | .int _ l _ => l = none
  | .list _ _ (some (_, s)) => s = 0
  | _ => True

section
variable {X : Codecs K} {sz : Nat → Nat} {C : Cfg Int Bool (List UInt8) Prop (fun c => List (K c))} {base H : Heap} {st : StV K} {w : Wd}
variable {tbl : Tbl K} {inv : Nat → List (NV K) → Prop} {meas : Nat → List (NV K) → Nat} {inl : Inl Int Bool (List UInt8) Prop (fun c => List (K c))}

theorem resultsP_sound {fr : Fr} (R : Rel X sz C base st fr H w) : ∀ {rs : List ResultVar} {ps : List (PV K)}, resultsP (stdA X tbl inv meas) C st rs = some ps → ∃ vs, resultsV C.E fr H rs = some vs ∧ RepL X sz w ps vs
  | [], ps, h => by
    simp only [resultsP, Option.some.injEq] at h
    subst h
    exact ⟨[], rfl, .nil⟩
  | .tmp t :: rs, ps, h => by
    simp only [resultsP] at h
    obtain ⟨p, h1, h2⟩ := Option.bind_eq_some_iff.1 h
    obtain ⟨qs, h3, rfl⟩ := Option.map_eq_some_iff.1 h2
    obtain ⟨v, e1, r1⟩ := R.f t p h1
    obtain ⟨vs, e2, r2⟩ := resultsP_sound R h3
    exact ⟨v :: vs, by simp only [resultsV, e1, Option.bind_some, e2, Option.map_some], .cons r1 r2⟩
  | .cell a t :: rs, ps, h => by
    simp only [resultsP] at h
    obtain ⟨ti, h0, h1⟩ := Option.bind_eq_some_iff.1 h
    obtain ⟨pa, h2, h3⟩ := Option.bind_eq_some_iff.1 h1
    obtain ⟨p, h4, h5⟩ := Option.bind_eq_some_iff.1 h3
    obtain ⟨qs, h6, rfl⟩ := Option.map_eq_some_iff.1 h5
    obtain ⟨va, e1, r1⟩ := R.f a pa h2
    obtain ⟨nm, gn, off, lim, rfl, _, hl, _⟩ := load_sound R.h r1 h4
    obtain ⟨u, hu, ru⟩ := hl H rfl
    obtain ⟨vs, e2, r2⟩ := resultsP_sound R h6
    exact ⟨u :: vs, by simp only [resultsV, h0, e1, hu, Option.bind_some, e2, Option.map_some], .cons ru r2⟩

theorem oneOf_rep {ps : List (PV K)} {vs : List V} (r : RepL X sz w ps vs) : Rep X sz w (oneOfP ps) (oneOf vs) := by
  match ps, r with
  | [], r => rw [r.nil_iff]; exact .undef
  | [p], r =>
    obtain ⟨v, vs', rfl, r1, r2⟩ := r.uncons
    have := r2.nil_iff; subst this
    exact r1
  | p :: q :: ps, r =>
    obtain ⟨v, vs', rfl, r1, r2⟩ := r.uncons
    obtain ⟨u, vs'', rfl, r3, r4⟩ := r2.uncons
    exact .tuple' (.cons r1 (.cons r3 r4))

theorem thaw_sound (ok : CfgOk X sz C) {base H : Heap} : ∀ {ps : List (PV K)} {vs : List V} {st : StV K} {w : Wd} {k : List (PV K) → StV K → Prop}, RelH X sz C base st H w → RepL X sz w ps vs → thaw (stdA X tbl inv meas) ps st k →
    ∃ qs st' w', k qs st' ∧ RelH X sz C base st' H w' ∧ Le w w' ∧ RepL X sz w' qs vs
  | [], vs, st, w, k, R, r, h => ⟨[], st, w, h, R, .refl w, r⟩
  | p :: ps, vs, st, w, k, R, r, h => by
    obtain ⟨v, vs', rfl, r1, r2⟩ := r.uncons
    by_cases hmm : ∃ id c n, p = .mlist id c n
    · obtain ⟨id, c, n, rfl⟩ := hmm
      simp only [thaw] at h
      obtain ⟨l, hl, hn, h⟩ := onS_inv h
      have hn : n = (l.length : Int) := hn
      have hl := lookM_inv hl
      cases r1 with
      | mlist hi h0 hz =>
        obtain ⟨w1, R1, hle1, hn1, hg1, hrep⟩ := freeze_sound ok R hl hz
        have hB : Bump { st with cells := dropL st.cells id } { st with cells := dropL st.cells id, owns := (st.next, 0) :: st.owns, next := st.next + 1 } st.next 0 := by
          have hnone : look st.owns st.next = none := by
            cases hl : look st.owns st.next with
            | none => rfl
            | some g => have := R.ownn _ _ hl; omega
          exact ⟨rfl, rfl, rfl, rfl, fun j => look_cons, Nat.le_succ _, Nat.lt_succ_self _, fun g hg => (by have hg : look st.owns st.next = some g := hg; rw [hnone] at hg; cases hg), fun _ => Nat.le_refl _⟩
        obtain ⟨w2, R2, hle2, ow, et, hn2, _⟩ := same_sound (named := false) ok R1 hB (by simp)
        have rl := (hrep none trivial).mono ok.len hle2
        have ho : OwnC w2 sz c (some (st.next, 0)) (.slice (w.c id) 0 0 l.length (sz c) (some l.length)) :=
          ⟨by rw [hn2]; exact Nat.lt_succ_self _, fun cur hc' => (by rw [ow] at hc'; cases hc'; exact Nat.le_refl _), fun _ => .inl rfl⟩
        have rl2 : Rep X sz w2 (.list c l (some (st.next, 0))) (.slice (w.c id) 0 0 l.length (sz c) (some l.length)) := by
          cases rl with
          | list hg hf hM hlen hb hz hcap hc _ => exact .list hg hf hM hlen hb hz hcap hc ho
        have hnn : n.toNat = l.length := by omega
        obtain ⟨qs, st', w', a1, a2, a3, a4⟩ := thaw_sound ok R2 ((r2.mono ok.len hle1).mono ok.len hle2) h
        refine ⟨_, st', w', a1, a2, (hle1.trans hle2).trans a3, .cons ?_ a4⟩
        rw [hnn]
        exact rl2.mono ok.len a3
    · have hml' : ∀ id c n, p = .mlist id c n → False := fun id c n he => hmm ⟨id, c, n, he⟩
      simp only [thaw] at h
      obtain ⟨qs, st', w', a1, a2, a3, a4⟩ := thaw_sound ok R r2 h
      exact ⟨_, st', w', a1, a2, a3, .cons (r1.mono ok.len a3) a4⟩

theorem wpBody_sound (ok : CfgOk X sz C) (ok2 : CfgOk2 X C) (tok : TblOk X sz C tbl) (hq : Quiet3 C) (iok : InlOk X sz C inl) {f : Nat} {args : List (PV K)} {st : StV K} {k : PV K → StV K → Prop} (h : wpBody (stdA X tbl inv meas) C inl f args st k) {base H : Heap} {w : Wd} {vs : List V}
    (R : RelH X sz C base st H w) (ra : RepL X sz w args vs) : CallW C.E (.func f) vs H fun v H' => ∃ p st' w', k p st' ∧ st'.tmps = st.tmps ∧ st'.n = st.n ∧ RelH X sz C base st' H' w' ∧ Le w w' ∧ Rep X sz w' p v := by
  unfold wpBody at h
  cases hans : C.ans f with
  | true => rw [hans] at h; exact absurd h id
  | false =>
    rw [hans] at h
    simp only [cond_false] at h
    have hs := hq f hans
    split at h
    · rename_i fi hfi
      split at h
      · rename_i c hc
        have R1 : Rel X sz C base { st with tmps := Tree.ofList args, n := max args.length fi.ntmps } { tmps := enterTmps vs, n := max vs.length fi.ntmps, defers := [] } H w := by
          refine ⟨⟨R.wf, R.rob, R.g, R.nx, R.b, R.Mlt, R.n, R.one, R.keeps, R.cl, R.cinj, R.cells, R.owns, R.ownn, R.eta, R.einj, R.ce, R.known, R.globs⟩, fun i p hp => ?_, by rw [ra.1], rfl⟩
          have hp' : (Tree.ofList args).get i = some p := hp
          rw [Tree.get_ofList] at hp'
          obtain ⟨v, h1, h2⟩ := ra.get hp'
          exact ⟨v, enter_tmp h1, h2⟩
        refine callW_body hs hfi hc ((wpCode_sound ok ok2 tok iok R1 h).mono fun ex fr' H' hA => ?_)
        obtain ⟨_, st1, w1, hk, R2, hle⟩ := hA
        have key : onS False (resultsP (stdA X tbl inv meas) C st1 fi.results) (fun vs => thaw (stdA X tbl inv meas) vs st1 fun vs st2 => k (oneOfP vs) { st2 with tmps := st.tmps, n := st.n }) → ∃ H'', marksOnly fr'.defers H' = some H'' ∧ ∃ vs, resultsV C.E fr' H'' fi.results = some vs ∧ ∃ p st' w', k p st' ∧ st'.tmps = st.tmps ∧ st'.n = st.n ∧ RelH X sz C base st' H'' w' ∧ Le w w' ∧ Rep X sz w' p (oneOf vs) := by
          intro hm
          obtain ⟨qs, hps, hm⟩ := onS_inv hm
          obtain ⟨us, e1, e2⟩ := resultsP_sound R2 hps
          obtain ⟨qs', st2, w2, hm, R3, hle3, e3⟩ := thaw_sound ok R2.h e2 hm
          exact ⟨H', ends0 R2.ds, us, e1, _, _, w2, hm, rfl, rfl, ⟨R3.wf, R3.rob, R3.g, R3.nx, R3.b, R3.Mlt, R3.n, R3.one, R3.keeps, R3.cl, R3.cinj, R3.cells, R3.owns, R3.ownn, R3.eta, R3.einj, R3.ce, R3.known, R3.globs⟩, hle.trans hle3, oneOf_rep e3⟩
        cases ex with
        | normal => exact ⟨.inl rfl, key hk⟩
        | ret => exact ⟨.inr rfl, key hk⟩
        | _ => exact absurd hk id
      · rename_i hc
        split at h
        · rename_i x hext
          obtain ⟨v, vs', rfl, r1, r2⟩ := ra.uncons
          have := r2.nil_iff; subst this
          exact callW_ext hs hfi hc (v := v) (by simp only [hext, extV]) ⟨x, st, w, h, rfl, rfl, R, .refl w, r1⟩
        · exact absurd h id
    · exact absurd h id

theorem wpInl_ok (ok : CfgOk X sz C) (ok2 : CfgOk2 X C) (tok : TblOk X sz C tbl) (hq : Quiet3 C) : ∀ n, InlOk X sz C (wpInl (stdA X tbl inv meas) C n)
  | 0 => fun g args st k h => absurd h id
  | n + 1 => fun g args st k h base H w vs R ra => wpBody_sound ok ok2 tok hq (wpInl_ok ok ok2 tok hq n) h R ra

/-! ### The answer -/
theorem ownPairs_own : ∀ {ps rs : List (PV K)} {obs : List Prop}, meetsL (stdA X tbl inv meas) st ps rs = some obs → ∀ j i, (j, i) ∈ ownPairs ps rs → ∃ s, look st.owns i = some s
  | [], rs, obs, h, j, i, hm => by cases rs <;> simp [ownPairs] at hm
  | _ :: _, [], obs, h, j, i, hm => by simp [meetsL] at h
  | p :: ps, r :: rs, obs, h, j, i, hm => by
    simp only [meetsL] at h
    obtain ⟨x, h1, h2⟩ := Option.bind_eq_some_iff.1 h
    obtain ⟨y, h3, _⟩ := Option.map_eq_some_iff.1 h2
    have ih := ownPairs_own h3 j i
    cases p with
    | list c l o =>
      cases o with
      | none => cases r <;> exact ih hm
      | some a =>
        obtain ⟨i', s'⟩ := a
        cases r with
        | list c' l' o' =>
          cases o' with
          | none => exact ih hm
          | some b =>
            obtain ⟨j', s2⟩ := b
            simp only [ownPairs, List.mem_cons] at hm
            rcases hm with hm | hm
            · cases hm
              simp only [meets, Option.isSome_some, Bool.true_and] at h1
              rcases cond_some h1 with ⟨hb, _⟩ | ⟨_, hb⟩
              · simp only [Bool.not_eq_false', isOwn] at hb
                split at hb
                · rename_i s3 hs3; exact ⟨s3, hs3⟩
                · cases hb
              · cases hb
            · exact ih hm
        | _ => exact ih hm
    | _ => cases r <;> exact ih hm

theorem ownPairs_snd : ∀ {ps rs : List (PV K)}, (ownPairs ps rs).map (·.2) = ownOut ps rs
  | [], rs => by cases rs <;> simp [ownPairs, ownOut]
  | p :: ps, [] => by cases p <;> simp [ownPairs, ownOut]
  | p :: ps, r :: rs => by
    have ih := ownPairs_snd (ps := ps) (rs := rs)
    cases p with
    | list c l o =>
      cases o with
      | none => cases r <;> simp only [ownPairs, ownOut, ih]
      | some a =>
        cases r with
        | list c' l' o' =>
          cases o' with
          | none => simp only [ownPairs, ownOut, ih]
          | some b => simp only [ownPairs, ownOut, List.map_cons, ih]
        | _ => simp only [ownPairs, ownOut, ih]
    | _ => cases r <;> simp only [ownPairs, ownOut, ih]

theorem ownPairs_fst : ∀ {ps rs : List (PV K)}, ((ownPairs ps rs).map (·.1)).Sublist (ownIds rs)
  | [], rs => by cases rs <;> simp [ownPairs]
  | p :: ps, [] => by cases p <;> simp [ownPairs]
  | p :: ps, r :: rs => by
    have ih := ownPairs_fst (ps := ps) (rs := rs)
    cases r with
    | list c' l' o' =>
      cases o' with
      | none => cases p with
        | list c l o => cases o <;> exact ih
        | _ => exact ih
      | some b =>
        cases p with
        | list c l o =>
          cases o with
          | none => exact ih.trans (List.sublist_cons_self _ _)
          | some a => exact ih.cons_cons _
        | _ => exact ih.trans (List.sublist_cons_self _ _)
    | _ => cases p with
      | list c l o => cases o <;> exact ih
      | _ => exact ih

theorem look_of_mem : ∀ {l : List (Nat × Nat)} {j i : Nat}, (l.map (·.1)).Nodup → (j, i) ∈ l → look l j = some i
  | [], j, i, _, h => by cases h
  | (a, b) :: l, j, i, hn, h => by
    simp only [List.map_cons, List.nodup_cons] at hn
    simp only [look, cond_eq_ite, Nat.beq_eq]
    rcases List.mem_cons.1 h with h | h
    · cases h
      rw [if_pos rfl]
    · rw [if_neg]
      · exact look_of_mem hn.2 h
      · intro he
        subst he
        exact hn.1 (List.mem_map.2 ⟨_, h, rfl⟩)

theorem meetsL_sound (ok2 : CfgOk2 X C) (R : RelH X sz C base st H w) {w' : Wd} (hg : w'.g = w.g) (hM' : ∀ nm x, w.g nm = some x → ¬ w.M nm → ¬ w'.M nm) (hce : w'.ce = w.ce) (ho : ∀ i, w'.owns i = some 0) : ∀ {ps rs : List (PV K)} {obs : List Prop} {vs : List V},
    meetsL (stdA X tbl inv meas) st ps rs = some obs → (∀ q ∈ obs, q) → RepL X sz w ps vs → (∀ r ∈ rs, RT r) → (∀ j i, (j, i) ∈ ownPairs ps rs → w'.eta j = w.eta i) → (∀ j ∈ ownIds rs, j < w'.n) → RepL X sz w' rs vs
  | [], [], obs, vs, h, hq, r, ht, he, hn => by rw [r.nil_iff]; exact .nil
  | [], _ :: _, obs, vs, h, hq, r, ht, he, hn => by simp [meetsL] at h
  | _ :: _, [], obs, vs, h, hq, r, ht, he, hn => by simp [meetsL] at h
  | p :: ps, q :: rs, obs, vs, h, hq, r, ht, he, hn => by
    obtain ⟨v, vs', rfl, r1, r2⟩ := r.uncons
    simp only [meetsL] at h
    obtain ⟨x, h1, h2⟩ := Option.bind_eq_some_iff.1 h
    obtain ⟨y, h3, rfl⟩ := Option.map_eq_some_iff.1 h2
    have hsubP : ∀ j i, (j, i) ∈ ownPairs ps rs → (j, i) ∈ ownPairs (p :: ps) (q :: rs) := by
      intro j i hm
      cases p with
      | list c l o =>
        cases o with
        | none => cases q <;> exact hm
        | some a =>
          cases q with
          | list c' l' o' =>
            cases o' with
            | none => exact hm
            | some b => exact List.mem_cons_of_mem _ hm
          | _ => exact hm
      | _ => cases q <;> exact hm
    have hsubI : ∀ j ∈ ownIds rs, j ∈ ownIds (q :: rs) := by
      intro j hm
      cases q with
      | list c' l' o' =>
        cases o' with
        | none => exact hm
        | some b => exact List.mem_cons_of_mem _ hm
      | _ => exact hm
    have ih := meetsL_sound ok2 R hg hM' hce ho h3 (fun q hq' => hq q (List.mem_append_right _ hq')) r2 (fun r hr => ht r (List.mem_cons_of_mem _ hr)) (fun j i hm => he j i (hsubP j i hm)) (fun j hj => hn j (hsubI j hj))
    refine .cons ?_ ih
    have hx : ∀ a ∈ x, a := fun a ha => hq a (List.mem_append_left _ ha)
    have hT := ht q List.mem_cons_self
    cases q with
    | int k' l' b =>
      cases p with
      | int k l a =>
        simp only [meets] at h1
        split at h1
        · rename_i hk
          subst hk
          cases h1
          have : a = b := hx _ List.mem_cons_self
          subst this
          cases r1
          have : l' = none := hT
          subst this
          exact .int fun m hm => by cases hm
        · cases h1
      | _ => simp [meets] at h1
    | sb id neg b pt pf =>
      obtain ⟨t1, t2, t3⟩ : id = 0 ∧ (pt ↔ b = true) ∧ (pf ↔ b = false) := hT
      have : v = .bool b := by
        cases p with
        | lit a =>
          simp only [meets, Option.some.injEq] at h1
          subst h1
          have : a = b := hx _ List.mem_cons_self
          subst this
          cases r1
          rfl
        | sb id' neg' a pt' pf' =>
          simp only [meets, Option.some.injEq] at h1
          subst h1
          have : a = b := hx _ List.mem_cons_self
          subst this
          cases r1
          rfl
        | _ => simp [meets] at h1
      subst this
      exact .sb t2 t3 fun h0 => absurd t1 h0
    | str b =>
      cases p with
      | str a =>
        simp only [meets, Option.some.injEq] at h1
        subst h1
        have : a = b := hx _ List.mem_cons_self
        subst this
        cases r1
        exact .str
      | _ => simp [meets] at h1
    | list c l o =>
      have hm : ∃ l', asL (stdA X tbl inv meas) c p = some l' ∧ l' = l ∧ (o.isSome = true → isOwn st p = true) := by
        have e : meets (stdA X tbl inv meas) st p (.list c l o) = (bif o.isSome && !isOwn st p then none else (asL (stdA X tbl inv meas) c p).map fun l' => [(stdA X tbl inv meas).eqL c l' l]) := by
          cases p <;> rfl
        rw [e] at h1
        rcases cond_some h1 with ⟨hb, h4⟩ | ⟨_, hb⟩
        · obtain ⟨l', hl, rfl⟩ := Option.map_eq_some_iff.1 h4
          refine ⟨l', hl, hx _ List.mem_cons_self, fun hs => ?_⟩
          rw [hs] at hb
          simpa using hb
        · cases hb
      obtain ⟨l', hl, rfl, hown⟩ := hm
      have rl := asL_sound r1 hl
      have rp := rl.plain ok2.plain hg hM' .list
      cases o with
      | none => exact rp
      | some b =>
        obtain ⟨j, s⟩ := b
        have hs0 : s = 0 := hT
        subst hs0
        have hown := hown rfl
        have hj : j < w'.n := hn j (by simp [ownIds])
        have hcur : ∀ cur, w'.owns j = some cur → 0 ≤ cur := fun _ _ => Nat.zero_le _
        rcases list_cases rp with ⟨rfl, rfl⟩ | ⟨nm, gn, off, cap, cs, e, gen, floor, frz, ex, rfl, hg', hf, hM2, hlen, hz, hcap, hcell, _⟩
        · exact .nlist ⟨hj, hcur, fun _ => trivial⟩
        · refine .list hg' hf hM2 rfl hlen hz hcap hcell ⟨hj, hcur, fun _ => ?_⟩
          cases p with
          | list c2 l2 o2 =>
            cases o2 with
            | none => simp [isOwn] at hown
            | some a =>
              obtain ⟨i, s2⟩ := a
              have hcl : c2 = c := by
                unfold asL at hl
                simp only at hl
                split at hl
                · assumption
                · cases hl
              subst hcl
              have hls : look st.owns i = some s2 := by
                simp only [isOwn] at hown
                split at hown
                · rename_i s3 hs3
                  rw [hs3, Nat.eq_of_beq_eq_true hown]
                · cases hown
              have hll : l2.length = l'.length := by
                unfold asL at hl
                simp only at hl
                split at hl
                · cases hl; rfl
                · cases hl
              have hclaim : OwnV w sz i c2 (.slice nm gn off l'.length (sz c2) cap) := by
                rcases list_cases r1 with ⟨_, hh⟩ | ⟨nm3, gn3, off3, cap3, cs3, e3, gen3, floor3, frz3, ex3, hh, _, _, _, _, _, _, _, ho3⟩
                · cases hh
                · rw [hh]; exact ho3.2.2 (by rw [R.owns]; exact hls)
              have heta : w'.eta j = w.eta i := he j i (by simp [ownPairs])
              simp only [OwnV] at hclaim ⊢
              rcases hclaim with hc | ⟨hc1, hc2, cs4, e4, floor4, frz4, ex4, hg4, hr4⟩
              · exact .inl hc
              · exact .inr ⟨hc1, by rw [heta]; exact hc2, cs4, e4, floor4, frz4, ex4, by rw [hg]; exact hg4, hr4.1, hr4.2.1, by rw [hce]; exact hr4.2.2⟩
          | nils => cases r1
          | _ => simp [isOwn] at hown
    | _ => cases p <;> simp [meets] at h1

theorem flatV_rep {ps : List (PV K)} {vs : List V} (r : RepL X sz w ps vs) : RepL X sz w (ps.flatMap P.cellsOf) (vs.flatMap V.cells) := by
  induction ps generalizing vs with
  | nil => rw [r.nil_iff]; exact .nil
  | cons p ps ih =>
    obtain ⟨v, vs', rfl, r1, r2⟩ := r.uncons
    exact r1.cells.append (ih r2)

theorem alike1_split {w' : Wd} {p r : PV K} {v : V} {cs : List (PV K)} {us : List V} (ha : alike1 p r = true) (rp : Rep X sz w p v) (h : RepL X sz w' (r.cellsOf ++ cs) (v.cells ++ us)) : Rep X sz w' r v ∧ RepL X sz w' cs us := by
  have sp : ∀ {a : List (PV K)} {b : List V}, a.length = b.length → RepL X sz w' (a ++ cs) (b ++ us) → RepL X sz w' a b ∧ RepL X sz w' cs us := by
    intro a b hl hr
    have h1 := hr.take a.length
    have h2 := hr.drop a.length
    rw [List.take_left' rfl] at h1
    rw [List.drop_left' rfl] at h2
    rw [hl, List.take_left' rfl] at h1
    rw [hl, List.drop_left' rfl] at h2
    exact ⟨h1, h2⟩
  cases p with
  | agg a =>
    obtain ⟨vs, rfl, rl⟩ := rp.agg_iff
    cases r with
    | agg b =>
      simp only [alike1] at ha
      have hl := Nat.eq_of_beq_eq_true ha
      obtain ⟨q1, q2⟩ := sp (a := b) (b := vs) (by rw [← hl, rl.1]) h
      exact ⟨.agg' q1, q2⟩
    | _ => simp [alike1] at ha
  | tuple a => cases r <;> simp [alike1] at ha
  | _ =>
    have hv := rp.cellsOf (by intro ps hh; cases hh)
    cases r with
    | agg b => simp [alike1] at ha
    | tuple b => simp [alike1] at ha
    | _ =>
      obtain ⟨q1, q2⟩ := sp (a := P.cellsOf _) (b := v.cells) (by rw [hv.2]; rfl) h
      rw [hv.2] at q1
      obtain ⟨u, us', he, e1, e2⟩ := RepL.uncons q1
      simp only [List.cons.injEq] at he
      obtain ⟨rfl, rfl⟩ := he
      exact ⟨e1, q2⟩

theorem alikes_rep {w' : Wd} : ∀ {ps rs : List (PV K)} {vs : List V}, alikes ps rs = true → RepL X sz w ps vs → RepL X sz w' (rs.flatMap P.cellsOf) (vs.flatMap V.cells) → RepL X sz w' rs vs
  | [], [], vs, _, r, _ => by rw [r.nil_iff]; exact .nil
  | [], _ :: _, vs, h, _, _ => by simp [alikes] at h
  | _ :: _, [], vs, h, _, _ => by simp [alikes] at h
  | p :: ps, q :: rs, vs, h, r, h2 => by
    obtain ⟨v, vs', rfl, r1, r2⟩ := r.uncons
    simp only [alikes, Bool.and_eq_true] at h
    rw [List.flatMap_cons, List.flatMap_cons] at h2
    obtain ⟨a1, a2⟩ := alike1_split h.1 r1 h2
    exact .cons a1 (alikes_rep h.2 r2 a2)

theorem flat_one' {p : PV K} (h : ∀ ps, p ≠ .tuple ps) : p.flat = p.cellsOf := by
  cases p with
  | tuple ps => exact absurd rfl (h ps)
  | _ => rfl

theorem shape_rep {w' : Wd} {p r : PV K} {v : V} (hs : shapeOk p r = true) (rp : Rep X sz w p v) (h : ∀ us, RepL X sz w p.flat us → RepL X sz w' r.flat us) : Rep X sz w' r v := by
  by_cases hp : ∃ ps, p = .tuple ps
  · obtain ⟨ps, rfl⟩ := hp
    obtain ⟨vs, rfl, rl⟩ := rp.tuple_iff
    by_cases hr : ∃ rs, r = .tuple rs
    · obtain ⟨rs, rfl⟩ := hr
      have hs' : alikes ps rs = true := hs
      exact .tuple' (alikes_rep hs' rl (h _ (flatV_rep rl)))
    · exfalso
      cases r with
      | tuple rs => exact hr ⟨rs, rfl⟩
      | _ => cases hs
  · by_cases hr : ∃ rs, r = .tuple rs
    · exfalso
      obtain ⟨rs, rfl⟩ := hr
      cases p with
      | tuple ps => exact hp ⟨ps, rfl⟩
      | _ => cases hs
    · have hs' : alike1 p r = true := by
        cases p with
        | tuple ps => exact absurd ⟨ps, rfl⟩ hp
        | _ => cases r with
          | tuple rs => exact absurd ⟨rs, rfl⟩ hr
          | _ => exact hs
      have h1 := h v.cells (by rw [flat_one' (fun ps he => hp ⟨ps, he⟩)]; exact rp.cells)
      rw [flat_one' (fun rs he => hr ⟨rs, he⟩)] at h1
      exact (alike1_split (cs := []) (us := []) hs' rp (by simpa using h1)).1

/-- What the conditions of a function show. -/
theorem fn_of_top (ok : CfgOk X sz C) (ok2 : CfgOk2 X C) (tok : TblOk X sz C tbl) (hq : Quiet3 C) {depth f : Nat} {args : List (PV K)} {r : PV K} (hpl : ∀ p ∈ args, Plain p) (hT : ∀ p ∈ r.flat, RT p) (h : wpTop (stdA X tbl inv meas) C depth f args r) : FnOk X sz C f args r := by
  intro H M vs S ra
  unfold wpTop at h
  have hle1 : Le (wd0 H M C.codec) { wd0 H M C.codec with n := 1 } := Le.ext (w := wd0 H M C.codec) (m := 1) (nu' := fun _ => false) (Nat.zero_le _) (fun _ _ => rfl)
  have ra1 := ra.mono ok.len hle1
  obtain ⟨nu', g1, g2, g3⟩ := freshD_sound ok.len ra1 (Nat.le_refl 1)
  let w0 : Wd := { wd0 H M C.codec with n := (freshD args 1).2, nu := nu' }
  have hle0 : Le (wd0 H M C.codec) w0 := Le.ext (w := wd0 H M C.codec) (Nat.zero_le _) (fun id hi => by have : id < 0 := hi; omega)
  have R0 : RelH X sz C H { tmps := .nil, n := 0, cells := [], owns := [], next := (freshD args 1).2, known := [] } H w0 := by
    refine ⟨S.wf, S.ro, rfl, rfl, rfl, S.Mlt, rfl, g2, .refl H, fun _ hc => False.elim hc, fun _ _ hc => False.elim hc, fun id ps hl => (by cases hl), fun _ => rfl, fun i s hl => (by cases hl), fun i s nm hl => (by cases hl), fun i j s s' nm hl => (by cases hl), rfl, fun id b hl => (by cases hl), fun gn ps hg => ?_⟩
    obtain ⟨q0, vs', e', fl, fz, ex', q1, q2, q3⟩ := S.globs gn ps hg
    exact ⟨q0, vs', e', fl, fz, ex', q1, q2, q3.mono ok.len hle0⟩
  refine (wpBody_sound ok ok2 tok hq (wpInl_ok ok ok2 tok hq depth) h R0 g3).mono fun v H' hA => ?_
  obtain ⟨p, st', w', hk, _, _, R, hle, rp⟩ := hA
  unfold ends at hk
  obtain ⟨hb, hk⟩ := cond_prop hk
  simp only [Bool.and_eq_true] at hb
  split at hk
  · rename_i l hl
    obtain ⟨hobs, _⟩ := ands_inv hk
    let pairs := ownPairs p.flat r.flat
    have hnd : (pairs.map (·.1)).Nodup := (distinct_nodup hb.2).sublist ownPairs_fst
    have hnd2 : (pairs.map (·.2)).Nodup := by rw [ownPairs_snd]; exact distinct_nodup hb.1.2
    let w2 : Wd := { g := H'.get, M := fun n => if n < H.next then M n else w'.M n, c := fun _ => 0, nu := fun _ => false, n := idsMax (ownIds r.flat), owns := fun _ => some 0, eta := fun j => (look pairs j).bind w'.eta, ce := C.codec, cl := fun _ => False, nx := H'.next, b := H.next }
    have heta : ∀ j i, (j, i) ∈ pairs → w2.eta j = w'.eta i := by
      intro j i hm
      show (look pairs j).bind w'.eta = _
      rw [look_of_mem hnd hm]
      rfl
    have hinv : ∀ j nm, w2.eta j = some nm → ∃ i, (j, i) ∈ pairs ∧ w'.eta i = some nm := by
      intro j nm he
      obtain ⟨i, h1, h2⟩ := Option.bind_eq_some_iff.1 he
      exact ⟨i, look_mem h1, h2⟩
    have hold := R.keeps
    refine ⟨w2, R.keeps, R.wf, rfl, fun n hn => ?_, fun n hn => ?_, rfl, rfl, fun _ => rfl, fun j nm he => ?_, fun j1 j2 nm e1 e2 => ?_, ?_⟩
    · show (if n < H.next then M n else w'.M n) ↔ M n
      rw [if_pos hn]
    · have hn' : (if n < H.next then M n else w'.M n) := hn
      split at hn'
      · rename_i hlt; exact Nat.lt_of_lt_of_le hlt R.keeps.next
      · exact R.Mlt n hn'
    · obtain ⟨i, h1, h2⟩ := hinv j nm he
      obtain ⟨s, hs⟩ := ownPairs_own hl j i h1
      obtain ⟨b1, b2, b3⟩ := R.eta i s nm hs h2
      refine ⟨b1, b2, ?_⟩
      show ¬ (if nm < H.next then M nm else w'.M nm)
      rw [if_neg (by omega)]
      exact b3
    · obtain ⟨i1, a1, b1⟩ := hinv j1 nm e1
      obtain ⟨i2, a2, b2⟩ := hinv j2 nm e2
      obtain ⟨s1, hs1⟩ := ownPairs_own hl j1 i1 a1
      obtain ⟨s2, hs2⟩ := ownPairs_own hl j2 i2 a2
      have := R.einj i1 i2 s1 s2 nm hs1 hs2 b1 b2
      subst this
      have key : ∀ (l : List (Nat × Nat)), (l.map (·.2)).Nodup → (j1, i1) ∈ l → (j2, i1) ∈ l → j1 = j2 := by
        intro l
        induction l with
        | nil => intro _ h; cases h
        | cons x l ih =>
          intro hn h1 h2
          simp only [List.map_cons, List.nodup_cons] at hn
          rcases List.mem_cons.1 h1 with h1 | h1 <;> rcases List.mem_cons.1 h2 with h2 | h2
          · rw [← h1] at h2; cases h2; rfl
          · exact absurd (List.mem_map.2 ⟨_, h2, by rw [← h1]⟩) hn.1
          · exact absurd (List.mem_map.2 ⟨_, h1, by rw [← h2]⟩) hn.1
          · exact ih hn.2 h1 h2
      exact key pairs hnd2 a1 a2
    · refine shape_rep hb.1.1 rp fun us hus => ?_
      exact meetsL_sound ok2 R (w' := w2) R.g.symm (fun nm x _ hm => by
        show ¬ (if nm < H.next then M nm else w'.M nm)
        split
        · rename_i hlt; exact fun h0 => hm (hle.Mu nm hlt h0)
        · exact hm) R.ce.symm (fun _ => rfl) hl hobs hus hT heta (fun j hj => (idsMax_le _ 0).2 j hj)
  · exact absurd hk id

end
end Go.E3

/- E3: TOOLS for claims: tables by lists, list elements of a claim's own types. -/
namespace Go.E3
open Go Go.E2

variable {K : Nat → Type}

def annOf : List (Nat × Nat × Ann) → Nat → Nat → Option Ann
  | [], _, _ => none
  | (f, p, a) :: l, g, q => bif Nat.beq f g && Nat.beq p q then some a else annOf l g q

abbrev Ct (K : Nat → Type) := List Sh × (List (NV K) → Option (Prop × PV K))

def tblOf : List (Nat × Ct K) → Tbl K
  | [], _ => none
  | (f, c) :: l, g => bif Nat.beq f g then some c else tblOf l g

section
variable {X : Codecs K} {sz : Nat → Nat} {C : Cfg Int Bool (List UInt8) Prop (fun c => List (K c))}

def CtOk (X : Codecs K) (sz : Nat → Nat) (C : Cfg Int Bool (List UInt8) Prop (fun c => List (K c))) (f : Nat) (c : Ct K) : Prop :=
  ∀ ns pre r, c.2 ns = some (pre, r) → pre → ∃ args, canonS c.1 ns = some args ∧ FnOk X sz C f args r ∧ Form r

theorem tblOk_nil : TblOk X sz C (tblOf []) := fun f shs res ns pre r h => by cases h

theorem tblOk_cons {f : Nat} {c : Ct K} {l : List (Nat × Ct K)} (h : CtOk X sz C f c) (hl : TblOk X sz C (tblOf l)) : TblOk X sz C (tblOf ((f, c) :: l)) := by
  intro g shs res ns pre r h1 h2 h3
  simp only [tblOf, cond_eq_ite, Nat.beq_eq] at h1
  split at h1
  · rename_i hf
    subst hf
    cases h1
    exact h ns pre r h2 h3
  · exact hl g shs res ns pre r h1 h2 h3

theorem CfgOk.ann (h : CfgOk X sz C) (a : Nat → Nat → Option Ann) : CfgOk X sz { C with ann := a } := ⟨h.len, h.pos, h.size, h.inj, h.one, h.u8, h.pack⟩
theorem CfgOk2.ann (h : CfgOk2 X C) (a : Nat → Nat → Option Ann) : CfgOk2 X { C with ann := a } := ⟨h.plain, h.glob⟩

theorem FnOk.ann {f : Nat} {args : List (PV K)} {r : PV K} (h : FnOk X sz C f args r) (a : Nat → Nat → Option Ann) : FnOk X sz { C with ann := a } f args r := by
  intro H M vs S ra
  refine (h H M vs ⟨S.wf, S.ro, S.Mlt, S.globs⟩ ra).mono fun v H' hA => ?_
  obtain ⟨w', b⟩ := hA
  exact ⟨w', b.keeps, b.wf, b.g, b.M, b.Mlt, b.ce, b.n, b.owns, b.eta, b.einj, b.rep⟩

theorem FnOk.unann {f : Nat} {args : List (PV K)} {r : PV K} {a : Nat → Nat → Option Ann} (h : FnOk X sz { C with ann := a } f args r) : FnOk X sz C f args r := by
  intro H M vs S ra
  refine (h H M vs ⟨S.wf, S.ro, S.Mlt, S.globs⟩ ra).mono fun v H' hA => ?_
  obtain ⟨w', b⟩ := hA
  exact ⟨w', b.keeps, b.wf, b.g, b.M, b.Mlt, b.ce, b.n, b.owns, b.eta, b.einj, b.rep⟩

/-- A function's contract from its condition. -/
theorem fn_ok (ok : CfgOk X sz C) (ok2 : CfgOk2 X C) {l : List (Nat × Ct K)} (tok : TblOk X sz C (tblOf l)) (hq : Quiet3 C) {inv : Nat → List (NV K) → Prop} {meas : Nat → List (NV K) → Nat} {ann : List (Nat × Nat × Ann)} {depth f : Nat} {args : List (PV K)} {r : PV K} {VC : Prop}
    (hpl : ∀ p ∈ args, Plain p) (hT : ∀ p ∈ r.flat, RT p) (hvc : wpTop (stdA X (tblOf l) inv meas) { C with ann := annOf ann } depth f args r = VC) (h : VC) : FnOk X sz C f args r :=
  fn_of_top (C := { C with ann := annOf ann }) (tbl := tblOf l) (inv := inv) (meas := meas) (ok.ann _) (ok2.ann _) (fun f shs res ns pre r h1 h2 h3 => by
    obtain ⟨as, e1, e2, e3⟩ := tok f shs res ns pre r h1 h2 h3
    exact ⟨as, e1, e2.ann _, e3⟩) hq hpl hT (hvc.symm ▸ h) |>.unann

/-! ### Forms, by computation -/
def plain1 : PV K → Bool
  | .int .. | .lit _ | .str _ | .nils | .nilp | .nilf | .nili => true
  | .sb 0 _ _ _ _ => true
  | .list _ _ none => true
  | .func _ [] [] => true
  | _ => false
def plainB : PV K → Bool
  | .agg ps => ps.all plain1
  | p => plain1 p
theorem plain1_ok {p : PV K} (h : plain1 p = true) : Plain p := by
  unfold plain1 at h
  split at h <;> first | (cases h; done) | constructor
theorem plainB_ok {p : PV K} (h : plainB p = true) : Plain p := by
  unfold plainB at h
  split at h
  · exact .agg fun p hp => plain1_ok (List.all_eq_true.1 h p hp)
  · exact plain1_ok h
theorem plains_ok {ps : List (PV K)} (h : ps.all plainB = true) : ∀ p ∈ ps, Plain p := fun p hp => plainB_ok (List.all_eq_true.1 h p hp)

def simpleB : PV K → Bool
  | .int .. | .lit _ | .str _ => true
  | .sb 0 _ _ _ _ => true
  | .list _ _ none => true
  | .list _ _ (some (_, 0)) => true
  | _ => false
def form1B : PV K → Bool
  | .agg ps => ps.all simpleB
  | p => simpleB p
def formB : PV K → Bool
  | .tuple l => l.all form1B
  | p => form1B p
theorem simpleB_ok {p : PV K} (h : simpleB p = true) : Simple p := by
  unfold simpleB at h
  split at h <;> first | (cases h; done) | constructor
theorem form1B_ok {p : PV K} (h : form1B p = true) : Form1 p := by
  unfold form1B at h
  split at h
  · exact .agg fun p hp => simpleB_ok (List.all_eq_true.1 h p hp)
  · exact .one (simpleB_ok h)
theorem formB_ok {p : PV K} (h : formB p = true) : Form p := by
  unfold formB at h
  split at h
  · exact .tuple fun p hp => form1B_ok (List.all_eq_true.1 h p hp)
  · exact .one (form1B_ok h)

/-! ### Cells of a claim's own types -/
def getI (k : IntKind) : PV K → Option Int
  | .int k' _ n => if k = k' then some n else none
  | _ => none
def getB : PV K → Option Bool
  | .lit b => some b
  | .sb _ _ b _ _ => some b
  | _ => none
def getS : PV K → Option (List UInt8)
  | .str s => some s
  | _ => none
def getL (c : Nat) : PV K → Option (List (K c))
  | .nils => some []
  | .list c' l _ => if h : c' = c then some (h ▸ l) else none
  | _ => none

variable {w : Wd}
theorem getI_rep {k : IntKind} {p : PV K} {n : Int} {v : V} (h : getI k p = some n) (r : Rep X sz w p v) : Rep X sz w (.int k none n) v := by
  unfold getI at h
  split at h
  · split at h
    · rename_i hk; subst hk; cases h; cases r; exact .int fun m hm => by cases hm
    · cases h
  · cases h
theorem getB_rep {p : PV K} {b : Bool} {v : V} (h : getB p = some b) (r : Rep X sz w p v) : Rep X sz w (.sb 0 false b (b = true) (b = false)) v := by
  unfold getB at h
  split at h
  · cases h; cases r; exact .sb .rfl .rfl fun h0 => absurd rfl h0
  · cases h; cases r; exact .sb .rfl .rfl fun h0 => absurd rfl h0
  · cases h
theorem getS_rep {p : PV K} {s : List UInt8} {v : V} (h : getS p = some s) (r : Rep X sz w p v) : Rep X sz w (.str s) v := by
  unfold getS at h
  split at h
  · cases h; exact r
  · cases h
theorem getL_rep (tbl : Tbl K) (inv : Nat → List (NV K) → Prop) (meas : Nat → List (NV K) → Nat) {c : Nat} {p : PV K} {l : List (K c)} {v : V} (h : getL c p = some l) (r : Rep X sz w p v) : Rep X sz w (.list c l none) v := by
  have : asL (stdA X tbl inv meas) c p = some l := by
    cases p <;> exact h
  exact asL_sound r this
theorem getL_rep' {c : Nat} {p : PV K} {l : List (K c)} {v : V} (h : getL c p = some l) (r : Rep X sz w p v) : Rep X sz w (.list c l none) v := getL_rep (fun _ => none) (fun _ _ => True) (fun _ _ => 0) h r

theorem rep_cons {p q : PV K} {ps qs : List (PV K)} {vs : List V} (h : ∀ v, Rep X sz w p v → Rep X sz w q v) (hl : ∀ us, RepL X sz w ps us → RepL X sz w qs us) (r : RepL X sz w (p :: ps) vs) : RepL X sz w (q :: qs) vs := by
  obtain ⟨v, vs', rfl, r1, r2⟩ := r.uncons
  exact .cons (h v r1) (hl vs' r2)
end
end Go.E3

/- E3: FUNCTIONS WITHOUT A BODY as contracts. -/
namespace Go.E3
open Go Go.E2

variable {K : Nat → Type}

/-- The first place at which a byte stands, or -1. -/
def idxB (s : List UInt8) (c : Int) : Int := match s.findIdx? (fun b => b == c.toNat.toUInt8) with | some i => (i : Int) | none => -1

/-- How often a byte stands there. -/
def cntB (s : List UInt8) (c : Int) : Int := ((s.countP (fun b => b == c.toNat.toUInt8) : Nat) : Int)

section
variable {X : Codecs K} {sz : Nat → Nat} {C : Cfg Int Bool (List UInt8) Prop (fun c => List (K c))}

/-- A function that leaves the memory as it is and makes nothing. -/
theorem fn_ext (ok2 : CfgOk2 X C) (hq : Quiet3 C) {f : Nat} {fi : FI} {args : List (PV K)} {r : PV K} (hans : C.ans f = false) (hf : C.E.funcs f = some fi) (hb : fi.body = none) (hp : Plain r) (hr : ownIds r.flat = [])
    (h : ∀ H M vs, Start X sz C H M → RepL X sz (wd0 H M C.codec) args vs → ∃ v, extV fi.ext vs = some v ∧ Rep X sz (wd0 H M C.codec) r v) : FnOk X sz C f args r := by
  intro H M vs S ra
  obtain ⟨v, hv, rv⟩ := h H M vs S ra
  let w' : Wd := { wd0 H M C.codec with owns := fun _ => some 0 }
  have rv' : Rep X sz w' r v := Rep.plain (w := wd0 H M C.codec) (w' := w') ok2.plain rfl (fun _ _ _ h => h) rv hp
  refine callW_ext (hq f hans) hf hb hv ⟨w', ?_⟩
  refine ⟨.refl H, S.wf, rfl, fun n _ => .rfl, S.Mlt, rfl, ?_, fun _ => rfl, fun i nm he => (by cases he), fun i j nm he => (by cases he), rv'⟩
  rw [hr]
  rfl

/-- A function without arguments whose calls a fact answers. -/
theorem fn_const (ok2 : CfgOk2 X C) {f : Nat} {r : PV K} {v : V} (hp : Plain r) (hr : ownIds r.flat = []) (h : ∀ H, H.glob = C.ng → CallW C.E (.func f) [] H fun u H' => u = v ∧ H' = H) (hv : ∀ H M, Rep X sz (wd0 H M C.codec) r v) : FnOk X sz C f [] r := by
  intro H M vs S ra
  have := ra.nil_iff; subst this
  refine (h H S.ro.2).mono fun u H' hA => ?_
  obtain ⟨rfl, rfl⟩ := hA
  let w' : Wd := { wd0 H' M C.codec with owns := fun _ => some 0 }
  have rv' : Rep X sz w' r u := Rep.plain (w := wd0 H' M C.codec) (w' := w') ok2.plain rfl (fun _ _ _ h => h) (hv H' M) hp
  refine ⟨w', ?_⟩
  refine ⟨.refl H', S.wf, rfl, fun n _ => .rfl, S.Mlt, rfl, ?_, fun _ => rfl, fun i nm he => (by cases he), fun i j nm he => (by cases he), rv'⟩
  rw [hr]
  rfl

theorem index_ok (ok2 : CfgOk2 X C) (hq : Quiet3 C) {f : Nat} {fi : FI} (hans : C.ans f = false) (hf : C.E.funcs f = some fi) (hb : fi.body = none) (he : fi.ext = 1) (s : List UInt8) (c : Int) :
    FnOk X sz C f [.str s, .int .u8 none c] (.int .i64 none (idxB s c)) := by
  refine fn_ext ok2 hq hans hf hb .int rfl fun H M vs S ra => ?_
  obtain ⟨v, vs', rfl, r1, r2⟩ := ra.uncons
  obtain ⟨u, vs'', rfl, r3, r4⟩ := r2.uncons
  have := r4.nil_iff; subst this
  cases r1; cases r3
  exact ⟨.int .i64 (idxB s c), by rw [he]; rfl, .int fun m hm => by cases hm⟩

theorem count_ok (ok2 : CfgOk2 X C) (hq : Quiet3 C) {f : Nat} {fi : FI} (hans : C.ans f = false) (hf : C.E.funcs f = some fi) (hb : fi.body = none) (he : fi.ext = 2) (s : List UInt8) (c : Int) :
    FnOk X sz C f [.str s, .int .u8 none c] (.int .i64 none (cntB s c)) := by
  refine fn_ext ok2 hq hans hf hb .int rfl fun H M vs S ra => ?_
  obtain ⟨v, vs', rfl, r1, r2⟩ := ra.uncons
  obtain ⟨u, vs'', rfl, r3, r4⟩ := r2.uncons
  have := r4.nil_iff; subst this
  cases r1; cases r3
  exact ⟨.int .i64 (cntB s c), by rw [he]; rfl, .int fun m hm => by cases hm⟩

theorem ext_info {f e : Nat} (h : (C.E.funcs f).map (fun fi => (fi.body.isNone, fi.ext)) = some (true, e)) : ∃ fi, C.E.funcs f = some fi ∧ fi.body = none ∧ fi.ext = e := by
  obtain ⟨fi, h1, h2⟩ := Option.map_eq_some_iff.1 h
  simp only [Prod.mk.injEq, Option.isNone_iff_eq_none] at h2
  exact ⟨fi, h1, h2.1, h2.2⟩

theorem index_ok' (ok2 : CfgOk2 X C) (hq : Quiet3 C) {f : Nat} (hans : C.ans f = false) (hf : (C.E.funcs f).map (fun fi => (fi.body.isNone, fi.ext)) = some (true, 1)) (s : List UInt8) (c : Int) :
    FnOk X sz C f [.str s, .int .u8 none c] (.int .i64 none (idxB s c)) := by
  obtain ⟨fi, h1, h2, h3⟩ := ext_info hf
  exact index_ok ok2 hq hans h1 h2 h3 s c

theorem count_ok' (ok2 : CfgOk2 X C) (hq : Quiet3 C) {f : Nat} (hans : C.ans f = false) (hf : (C.E.funcs f).map (fun fi => (fi.body.isNone, fi.ext)) = some (true, 2)) (s : List UInt8) (c : Int) :
    FnOk X sz C f [.str s, .int .u8 none c] (.int .i64 none (cntB s c)) := by
  obtain ⟨fi, h1, h2, h3⟩ := ext_info hf
  exact count_ok ok2 hq hans h1 h2 h3 s c

end
end Go.E3

/- PLAIN LEAN FOR CONDITIONS: elements, bytes, parts of lists by numbers; places up to which something holds; cuts at a byte. No program in sight. -/
namespace Go.E3

/-! ### Elements -/
theorem bx_bd (s : List UInt8) (i : Int) : 0 ≤ bx s i ∧ bx s i ≤ 255 := by
  unfold bx
  have := (s.getD i.toNat 0).toNat_lt
  omega

theorem ix_get {α : Type} [Inhabited α] {l : List α} {i : Nat} (h : i < l.length) : ix l (i : Int) = l[i] := by
  simp [ix, List.getD_eq_getElem?_getD, h]

theorem ix_cons_zero {α : Type} [Inhabited α] {a : α} {l : List α} : ix (a :: l) 0 = a := rfl
theorem ix_cons_succ {α : Type} [Inhabited α] {a : α} {l : List α} {i : Int} (h : 0 ≤ i) : ix (a :: l) (i + 1) = ix l i := by
  have : (i + 1).toNat = i.toNat + 1 := by omega
  simp [ix, this]

theorem ix_append_left {α : Type} [Inhabited α] {l m : List α} {i : Int} (h0 : 0 ≤ i) (h : i < ln l) : ix (l ++ m) i = ix l i := by
  have : i.toNat < l.length := by simp only [ln] at h; omega
  simp [ix, List.getD_eq_getElem?_getD, List.getElem?_append_left this]

theorem fr_zero {α : Type} (l : List α) : fr l 0 = l := rfl
theorem upto_zero {α : Type} (l : List α) : upto l 0 = [] := rfl
theorem fr_all {α : Type} {l : List α} {i : Int} (h : ln l ≤ i) : fr l i = [] := by
  apply List.drop_of_length_le; simp only [ln] at h; omega
theorem upto_all {α : Type} {l : List α} {i : Int} (h : ln l ≤ i) : upto l i = l := by
  apply List.take_of_length_le; simp only [ln] at h; omega
theorem fr_cons {α : Type} [Inhabited α] {l : List α} {i : Int} (h0 : 0 ≤ i) (h : i < ln l) : fr l i = ix l i :: fr l (i + 1) := by
  have hi : i.toNat < l.length := by simp only [ln] at h; omega
  have e : (i + 1).toNat = i.toNat + 1 := by omega
  unfold fr ix
  rw [List.drop_eq_getElem_cons hi, e, List.getD_eq_getElem?_getD, List.getElem?_eq_getElem hi]
  rfl
theorem upto_succ {α : Type} [Inhabited α] {l : List α} {i : Int} (h0 : 0 ≤ i) (h : i < ln l) : upto l (i + 1) = upto l i ++ [ix l i] := by
  have hi : i.toNat < l.length := by simp only [ln] at h; omega
  have e : (i + 1).toNat = i.toNat + 1 := by omega
  unfold upto ix
  rw [e, List.take_add_one, List.getD_eq_getElem?_getD, List.getElem?_eq_getElem hi]
  rfl
theorem ln_fr {α : Type} {l : List α} {i : Int} (h0 : 0 ≤ i) (h : i ≤ ln l) : ln (fr l i) = ln l - i := by
  simp only [ln, fr, List.length_drop] at *; omega
theorem ln_upto {α : Type} {l : List α} {i : Int} (h0 : 0 ≤ i) (h : i ≤ ln l) : ln (upto l i) = i := by
  simp only [ln, upto, List.length_take] at *; omega
theorem ln_sub {α : Type} {l : List α} {i j : Int} (h0 : 0 ≤ i) (h1 : i ≤ j) (h : j ≤ ln l) : ln (sub l i j) = j - i := by
  simp only [ln, sub, List.length_drop, List.length_take] at *; omega
theorem ln_nonneg {α : Type} (l : List α) : 0 ≤ ln l := Int.natCast_nonneg _
theorem ln_append {α : Type} (l m : List α) : ln (l ++ m) = ln l + ln m := by simp [ln]
theorem ln_cons {α : Type} (a : α) (l : List α) : ln (a :: l) = ln l + 1 := by simp [ln]
theorem ln_nil {α : Type} : ln ([] : List α) = 0 := rfl
theorem ln_nil_le {α : Type} : ln ([] : List α) ≤ 0 := Int.le_refl _
theorem ln_zero {α : Type} {l : List α} (h : ln l ≤ 0) : l = [] := by
  cases l with
  | nil => rfl
  | cons a l => simp only [ln, List.length_cons] at h; omega
theorem short_app {α : Type} {l m : List α} (h : ln l + ln m ≤ 1000000000) : Short (l.length + m.length) := by simp only [ln, Short] at *; omega
theorem short_snoc {α : Type} {l : List α} {a : α} (h : ln l + 1 ≤ 1000000000) : Short (l.length + [a].length) := by simp only [ln, Short, List.length_cons, List.length_nil] at *; omega
theorem ln_snoc {α : Type} (l : List α) (a : α) : ln (l ++ [a]) = ln l + 1 := by simp [ln]
/-- One place more. -/
theorem sub_fr {α : Type} {l : List α} {i j : Int} (h0 : 0 ≤ i) (h1 : i ≤ j) : sub l i j = upto (fr l i) (j - i) := by
  simp only [sub, fr, upto]
  rw [List.take_drop]
  have : i.toNat + (j - i).toNat = j.toNat := by omega
  rw [this]
theorem fr_fr {α : Type} {l : List α} {i j : Int} (h0 : 0 ≤ i) (h1 : 0 ≤ j) : fr (fr l i) j = fr l (i + j) := by
  simp only [fr, List.drop_drop]
  have : i.toNat + j.toNat = (i + j).toNat := by omega
  rw [this]
theorem bx_fr {s : List UInt8} {i j : Int} (h0 : 0 ≤ i) (h1 : 0 ≤ j) : bx (fr s i) j = bx s (i + j) := by
  have : i.toNat + j.toNat = (i + j).toNat := by omega
  simp only [bx, fr, List.getD_eq_getElem?_getD, List.getElem?_drop, this]
theorem ix_fr {α : Type} [Inhabited α] {s : List α} {i j : Int} (h0 : 0 ≤ i) (h1 : 0 ≤ j) : ix (fr s i) j = ix s (i + j) := by
  have : i.toNat + j.toNat = (i + j).toNat := by omega
  simp only [ix, fr, List.getD_eq_getElem?_getD, List.getElem?_drop, this]
theorem bx_sub {s : List UInt8} {i j k : Int} (h0 : 0 ≤ i) (hk : 0 ≤ k) (h1 : i + k < j) : bx (sub s i j) k = bx s (i + k) := by
  have : i.toNat + k.toNat = (i + k).toNat := by omega
  simp only [bx, sub, List.getD_eq_getElem?_getD, List.getElem?_drop, this]
  rw [List.getElem?_take_of_lt (by omega)]
theorem bx_ix (s : List UInt8) (i : Int) : bx s i = ((ix s i).toNat : Int) := rfl
theorem byte_eq_of {a b : UInt8} (h : (a.toNat : Int) = b.toNat) : a = b := UInt8.toNat_inj.1 (by omega)

theorem mem_ix {α : Type} [Inhabited α] {l : List α} {a : α} (h : a ∈ l) : ∃ i : Int, 0 ≤ i ∧ i < ln l ∧ ix l i = a := by
  obtain ⟨i, hi, rfl⟩ := List.mem_iff_getElem.1 h
  exact ⟨i, by omega, by simp only [ln]; omega, ix_get hi⟩
theorem ix_mem {α : Type} [Inhabited α] {l : List α} {i : Int} (h0 : 0 ≤ i) (h : i < ln l) : ix l i ∈ l := by
  have hi : i.toNat < l.length := by simp only [ln] at h; omega
  have : ix l i = l[i.toNat] := by simp [ix, List.getD_eq_getElem?_getD, hi]
  rw [this]; exact List.getElem_mem hi

theorem list_ext_ix {α : Type} [Inhabited α] {l m : List α} (h : ln l = ln m) (he : ∀ i, 0 ≤ i → i < ln l → ix l i = ix m i) : l = m := by
  apply List.ext_getElem (by simp only [ln] at h; omega)
  intro i h1 h2
  have := he i (by omega) (by simp only [ln]; omega)
  rwa [ix_get h1, ix_get h2] at this

/-! ### The first place from i on at which p does not hold -/
def runTo (p : Int → Bool) (s : List UInt8) (i : Int) : Int := if h : 0 ≤ i ∧ i < ln s ∧ p (bx s i) = true then runTo p s (i + 1) else i
 termination_by (ln s - i).toNat
 decreasing_by omega

theorem runTo_ge {p : Int → Bool} {s : List UInt8} {i : Int} : i ≤ runTo p s i := by
  fun_induction runTo p s i with
  | case1 i h ih => omega
  | case2 i h => omega
theorem runTo_le {p : Int → Bool} {s : List UInt8} {i : Int} (hi : i ≤ ln s) : runTo p s i ≤ ln s := by
  fun_induction runTo p s i with
  | case1 i h ih => exact ih (by omega)
  | case2 i h => exact hi
theorem runTo_step {p : Int → Bool} {s : List UInt8} {i : Int} (h0 : 0 ≤ i) (h : i < ln s) (hp : p (bx s i) = true) : runTo p s i = runTo p s (i + 1) := by
  rw [runTo, dif_pos ⟨h0, h, hp⟩]
theorem runTo_stop {p : Int → Bool} {s : List UInt8} {i : Int} (h : ln s ≤ i ∨ p (bx s i) = false) : runTo p s i = i := by
  rw [runTo, dif_neg]
  rintro ⟨_, h1, h2⟩
  rcases h with h | h
  · omega
  · rw [h2] at h; cases h
theorem runTo_gt {p : Int → Bool} {s : List UInt8} {i : Int} (h0 : 0 ≤ i) (h : i < ln s) (hp : p (bx s i) = true) : i + 1 ≤ runTo p s i := by
  rw [runTo_step h0 h hp]; exact runTo_ge
theorem runTo_end {p : Int → Bool} {s : List UInt8} {i : Int} (h0 : 0 ≤ i) (h : runTo p s i < ln s) : p (bx s (runTo p s i)) = false := by
  fun_induction runTo p s i with
  | case1 i hi ih => exact ih (by omega) h
  | case2 i hi => 
    rw [← Bool.not_eq_true]
    exact fun hp => hi ⟨h0, h, hp⟩
theorem runTo_all {p : Int → Bool} {s : List UInt8} {i : Int} : ∀ j, i ≤ j → j < runTo p s i → p (bx s j) = true := by
  fun_induction runTo p s i with
  | case1 i hi ih =>
    intro j h1 h2
    by_cases h : j = i
    · rw [h]; exact hi.2.2
    · exact ih j (by omega) h2
  | case2 i hi => intro j h1 h2; omega
/-- How it is found. -/
theorem runTo_eq {p : Int → Bool} {s : List UInt8} {i k : Int} (h0 : 0 ≤ i) (hk : i ≤ k) (hl : k ≤ ln s) (ha : ∀ j, i ≤ j → j < k → p (bx s j) = true) (he : k = ln s ∨ p (bx s k) = false) : runTo p s i = k := by
  fun_induction runTo p s i with
  | case1 i hi ih =>
    by_cases h : i = k
    · subst h
      rcases he with he | he
      · omega
      · rw [hi.2.2] at he; cases he
    · exact ih (by omega) (by omega) fun j h1 h2 => ha j (by omega) h2
  | case2 i hi =>
    by_cases h : i = k
    · exact h
    · exact absurd ⟨h0, by omega, ha i (by omega) (by omega)⟩ hi

/-! ### The first place of a byte -/
theorem byte_is {b : UInt8} {c : Int} (h0 : 0 ≤ c) (h1 : c < 256) : (b == c.toNat.toUInt8) = decide ((b.toNat : Int) = c) := by
  rw [Bool.eq_iff_iff, beq_iff_eq, decide_eq_true_eq]
  have e : c.toNat.toUInt8.toNat = c.toNat := by
    simp [Nat.toUInt8, UInt8.toNat_ofNat']
    omega
  constructor
  · rintro rfl
    omega
  · intro h
    apply UInt8.toNat_inj.1
    omega

theorem idxB_none {s : List UInt8} {c : Int} (h0 : 0 ≤ c) (h1 : c < 256) (h : idxB s c < 0) : ∀ i, 0 ≤ i → i < ln s → bx s i ≠ c := by
  unfold idxB at h
  split at h
  · omega
  · rename_i hi
    rw [List.findIdx?_eq_none_iff] at hi
    intro i h2 h3 he
    have := hi (ix s i) (ix_mem h2 h3)
    rw [byte_is h0 h1, ← bx_ix, he] at this
    simp at this

theorem idxB_some {s : List UInt8} {c : Int} (h0 : 0 ≤ c) (h1 : c < 256) (h : 0 ≤ idxB s c) : idxB s c < ln s ∧ bx s (idxB s c) = c ∧ ∀ i, 0 ≤ i → i < idxB s c → bx s i ≠ c := by
  unfold idxB at h ⊢
  split at h
  · rename_i i hi
    rw [List.findIdx?_eq_some_iff_getElem] at hi
    obtain ⟨h2, h3, h4⟩ := hi
    rw [byte_is h0 h1] at h3
    refine ⟨by simp only [ln]; omega, ?_, fun j hj0 hj he => ?_⟩
    · rw [bx_ix, ix_get h2]; simpa using h3
    · have hj' : j.toNat < i := by omega
      have := h4 j.toNat hj'
      rw [byte_is h0 h1] at this
      have hx : bx s j = ((s[j.toNat]'(by omega)).toNat : Int) := by
        rw [bx_ix]
        have := ix_get (l := s) (i := j.toNat) (by omega)
        rw [show ((j.toNat : Nat) : Int) = j by omega] at this
        rw [this]
      rw [hx] at he
      simp [he] at this
  · omega
theorem idxB_ge (s : List UInt8) (c : Int) : -1 ≤ idxB s c := by
  unfold idxB
  split <;> omega
theorem idxB_lt (s : List UInt8) (c : Int) : idxB s c < ln s ∨ idxB s c = -1 := by
  unfold idxB
  split
  · rename_i i hi
    rw [List.findIdx?_eq_some_iff_getElem] at hi
    obtain ⟨h2, _⟩ := hi
    left; simp only [ln]; omega
  · right; rfl

/-! ### A text cut at each byte of a kind -/
def splitI (c : Int) : List UInt8 → List (List UInt8)
  | [] => [[]]
  | b :: l => if (b.toNat : Int) = c then [] :: splitI c l else match splitI c l with
    | [] => [[b]]
    | x :: xs => (b :: x) :: xs

theorem splitI_ne (c : Int) (s : List UInt8) : splitI c s ≠ [] := by
  cases s with
  | nil => simp [splitI]
  | cons b l =>
    unfold splitI
    split
    · simp
    · split <;> simp

theorem splitI_none {c : Int} : ∀ {s : List UInt8}, (∀ b ∈ s, (b.toNat : Int) ≠ c) → splitI c s = [s]
  | [], _ => rfl
  | b :: l, h => by
    rw [splitI, if_neg (h b List.mem_cons_self), splitI_none fun x hx => h x (List.mem_cons_of_mem _ hx)]

theorem splitI_cut {c : Int} {b : UInt8} (hb : (b.toNat : Int) = c) : ∀ {s t : List UInt8}, (∀ x ∈ s, (x.toNat : Int) ≠ c) → splitI c (s ++ b :: t) = s :: splitI c t
  | [], t, _ => by rw [List.nil_append, splitI, if_pos hb]
  | a :: l, t, h => by
    rw [List.cons_append, splitI, if_neg (h a List.mem_cons_self), splitI_cut hb fun x hx => h x (List.mem_cons_of_mem _ hx)]

/-- The first piece from a place on, and the others. -/
theorem splitI_fr {c : Int} {s : List UInt8} {i k : Int} (h0 : 0 ≤ i) (hk : i ≤ k) (hl : k ≤ ln s) (ha : ∀ j, i ≤ j → j < k → bx s j ≠ c) (he : k = ln s ∨ bx s k = c) :
    splitI c (fr s i) = if k = ln s then [sub s i k] else sub s i k :: splitI c (fr s (k + 1)) := by
  have hmem : ∀ x ∈ sub s i k, (x.toNat : Int) ≠ c := by
    intro x hx
    obtain ⟨j, h1, h2, rfl⟩ := mem_ix hx
    rw [ln_sub h0 hk hl] at h2
    have := bx_sub (s := s) (i := i) (j := k) (k := j) h0 h1 (by omega)
    rw [← bx_ix, this]
    exact ha _ (by omega) (by omega)
  have hs : sub s i k ++ fr s k = fr s i := by
    rw [sub_fr h0 hk]
    have : fr s k = fr (fr s i) (k - i) := by rw [fr_fr h0 (by omega)]; congr 1; omega
    rw [this]
    exact List.take_append_drop _ _
  by_cases hkl : k = ln s
  · rw [if_pos hkl, ← hs, fr_all (l := s) (i := k) (by omega), List.append_nil, splitI_none hmem]
  · rw [if_neg hkl, ← hs, fr_cons (by omega : 0 ≤ k) (by omega), splitI_cut ?_ hmem]
    rcases he with he | he
    · exact absurd he hkl
    · rw [← bx_ix]; exact he

theorem splitI_len (c : Int) : ∀ s : List UInt8, ln (splitI c s) = (s.countP (fun b => decide ((b.toNat : Int) = c)) : Nat) + 1
  | [] => rfl
  | b :: l => by
    have ih := splitI_len c l
    unfold splitI
    split
    · rename_i h
      rw [ln_cons, ih, List.countP_cons_of_pos (by simpa using h)]
      omega
    · rename_i h
      rw [List.countP_cons_of_neg (by simpa using h)]
      split
      · rename_i hn; exact absurd hn (splitI_ne c l)
      · rename_i x xs hx
        rw [hx] at ih
        rw [ln_cons] at ih ⊢
        exact ih

theorem cntB_eq {s : List UInt8} {c : Int} (h0 : 0 ≤ c) (h1 : c < 256) : cntB s c = (s.countP (fun b => decide ((b.toNat : Int) = c)) : Nat) := by
  unfold cntB
  simp only [byte_is h0 h1]

theorem cntB_bd (s : List UInt8) (c : Int) : 0 ≤ cntB s c ∧ cntB s c ≤ ln s := by
  unfold cntB ln
  have := List.countP_le_length (p := fun b => b == c.toNat.toUInt8) (l := s)
  omega

theorem ln_splitI {s : List UInt8} {c : Int} (h0 : 0 ≤ c) (h1 : c < 256) : ln (splitI c s) = cntB s c + 1 := by
  rw [splitI_len, cntB_eq h0 h1]

theorem splitI_step {s : List UInt8} {c : Int} (h0 : 0 ≤ c) (h1 : c < 256) (h : 0 ≤ idxB s c) : splitI c s = upto s (idxB s c) :: splitI c (fr s (idxB s c + 1)) := by
  obtain ⟨a, b, d⟩ := idxB_some h0 h1 h
  have := splitI_fr (c := c) (s := s) (i := 0) (k := idxB s c) (Int.le_refl 0) h (by omega) (fun j h2 h3 => d j h2 h3) (.inr b)
  rw [fr_zero, if_neg (by omega), sub_fr (Int.le_refl 0) h, fr_zero, Int.sub_zero] at this
  exact this
theorem splitI_last {s : List UInt8} {c : Int} (h0 : 0 ≤ c) (h1 : c < 256) (h : idxB s c < 0) : splitI c s = [s] := by
  refine splitI_none fun b hb => ?_
  obtain ⟨i, h2, h3, rfl⟩ := mem_ix hb
  exact idxB_none h0 h1 h i h2 h3
theorem splitI_pos (c : Int) (s : List UInt8) : 1 ≤ ln (splitI c s) := by
  rw [splitI_len]; omega
theorem splitI_one {s : List UInt8} {c : Int} (h0 : 0 ≤ c) (h1 : c < 256) (h : ln (splitI c s) ≤ 1) : splitI c s = [s] := by
  by_cases hi : idxB s c < 0
  · exact splitI_last h0 h1 hi
  · rw [splitI_step h0 h1 (by omega), ln_cons] at h
    have := splitI_pos c (fr s (idxB s c + 1))
    omega
theorem upto_set {α : Type} {l : List α} {i : Int} {a : α} (h0 : 0 ≤ i) (h : i < ln l) : upto (l.set i.toNat a) (i + 1) = upto l i ++ [a] := by
  have hi : i.toNat < l.length := by simp only [ln] at h; omega
  have e : (i + 1).toNat = i.toNat + 1 := by omega
  unfold upto
  rw [e, List.take_add_one, List.take_set_of_le (Nat.le_refl _), List.getElem?_set_self hi]
  rfl
theorem ln_set {α : Type} {l : List α} {i : Nat} {a : α} : ln (l.set i a) = ln l := by simp [ln]
theorem ln_replicate {α : Type} {n : Int} {a : α} (h : 0 ≤ n) : ln (List.replicate n.toNat a) = n := by simp only [ln, List.length_replicate]; omega
theorem splitI_mem_len {c : Int} : ∀ {s x : List UInt8}, x ∈ splitI c s → ln x ≤ ln s
  | [], x, h => by simp [splitI] at h; subst h; exact Int.le_refl _
  | b :: l, x, h => by
    rw [ln_cons]
    unfold splitI at h
    split at h
    · rcases List.mem_cons.1 h with rfl | h
      · have := ln_nonneg l; rw [ln_nil]; omega
      · have := splitI_mem_len h; omega
    · split at h
      · rename_i hn; exact absurd hn (splitI_ne c l)
      · rename_i y ys hy
        rcases List.mem_cons.1 h with rfl | h
        · have : y ∈ splitI c l := by rw [hy]; exact List.mem_cons_self
          have := splitI_mem_len this
          rw [ln_cons]; omega
        · have : x ∈ splitI c l := by rw [hy]; exact List.mem_cons_of_mem _ h
          have := splitI_mem_len this
          omega

end Go.E3
