/- E2: ONE OPERATION: what E2 makes of it the model makes of it. -/
import Derived.Test.YtjbefleabibmmaaGreatDoorE2w
namespace Go.E2
open Go

section
variable {P : Program} {sp : Nat → Option (List V → Heap → Option (CR × Heap))} {o : Oper} {a : Act} {H : Heap} {G : Ghost} {w : World} {fr : Fr}

theorem plainEq_guard {d : Nat} {t : TypeId} {fs : Array Field} (h : plainEq P (d + 1) t = true) (hu : P.underlying t = some (.struct fs)) : P.eqGuardType P.depth t = false := by
  simp only [plainEq, hu, Bool.and_eq_true, Bool.not_eq_true'] at h
  exact h.1.2

theorem eqGuard_ok {op : BinOp} {t : TypeId} {x y : Operand} {p q v : V} {rx ry : Value} {E : Env} (hE : E = envOf P sp) (hx : Rel G w p rx) (hy : Rel G w q ry) (h : binOpV E op t p q = some v)
    (hc : p ≠ .nili ∨ q ≠ .nili ∨ (∃ c, x = .const c) ∨ (∃ c, y = .const c)) : ∀ w', (eqGuard op t x y rx ry).run P w' = .ok () w' := by
  intro w'
  subst hE
  by_cases hop : op = .eql ∨ op = .neq
  case neg =>
    clear h
    unfold eqGuard
    cases op <;> first | (simp; done) | exact (hop (.inl rfl)).elim | exact (hop (.inr rfl)).elim
  have hnil : ∀ {u : V}, Rel G w u .nilIface → u = .nili := by
    intro u hu
    cases u <;> simp only [Rel, reduceCtorEq, false_and, and_false, exists_false] at hu
    all_goals first
      | rfl
      | (simp at hu; done)
      | grind
  have hagg : ∀ {u : V} {xs : Array Value}, Rel G w u (.agg xs) → ∃ cs, u = .agg cs := by
    intro u xs hu
    cases u <;> simp only [Rel, reduceCtorEq, false_and, and_false, exists_false] at hu
    all_goals first
      | exact ⟨_, rfl⟩
      | (simp at hu; done)
      | grind
  have hgu : eqGuard op t x y rx ry = eqGuard .eql t x y rx ry := by
    rcases hop with rfl | rfl <;> rfl
  rw [hgu]
  unfold eqGuard
  simp only [Bool.not_true, Bool.false_eq_true, if_false]
  split
  · have h1 := hnil hx
    have h2 := hnil hy
    rcases hc with hc | hc | ⟨c, hc⟩ | ⟨c, hc⟩
    · exact (hc h1).elim
    · exact (hc h2).elim
    · subst hc; simp
    · subst hc; simp
  · obtain ⟨xs, rfl⟩ := hagg hx
    obtain ⟨ys, rfl⟩ := hagg hy
    have key : ∃ b, eqV (envOf P sp) 1000 t (.agg xs) (.agg ys) = some b := by
      rcases hop with rfl | rfl
      · simp only [binOpV, Option.map_eq_some_iff] at h; obtain ⟨b, hb, _⟩ := h; exact ⟨b, hb⟩
      · simp only [binOpV, Option.map_eq_some_iff] at h; obtain ⟨b, hb, _⟩ := h; exact ⟨b, hb⟩
    obtain ⟨b, hb⟩ := key
    have hg : P.eqGuardType P.depth t = false := by
      simp only [eqV] at hb
      split at hb
      · cases hb
      · rename_i ti ht
        have hus := (typeOf_some ht).1
        split at hb <;> first
          | (cases hb; done)
          | skip
        all_goals first
          | (rename_i h2 h3; cases h2; done)
          | (rename_i h1 h2 h3; cases h2; done)
          | skip
        rename_i fs xs' ys' hti h2 h3
        rw [cond_eq_ite] at hb
        split at hb
        · rename_i hok
          exact plainEq_guard (d := 19) hok (hti ▸ hus)
        · cases hb
    simp [hg]
  · simp

theorem RelM.length : ∀ {es : List (V × V × Nat)} {l : List MapEntry}, RelM G w es l → es.length = l.length
  | [], _, h => by simp only [RelM] at h; subst h; rfl
  | (k, v, b) :: es, _, h => by
    simp only [RelM] at h
    obtain ⟨x, xs, rfl, _, _, _, h⟩ := h
    simp [RelM.length h]

theorem min_sound : ∀ (l : List V) (x v : V) (rx : Value) (rl : List Value), Rel G w x rx → RelL G w l rl → minV false x l = some v → ∃ rv, (rl.foldlM Builtin.min2 rx).run P w = .ok rv w ∧ Rel G w v rv
  | [], x, v, rx, rl, hx, hl, h => by
    simp only [RelL] at hl
    subst hl
    simp only [minV, Option.some.injEq] at h
    subst h
    exact ⟨rx, by simp, hx⟩
  | u :: l, x, v, rx, rl, hx, hl, h => by
    simp only [RelL] at hl
    obtain ⟨ru, rl', rfl, hu, hl⟩ := hl
    unfold minV at h
    split at h
    · rename_i heq; cases heq
    · rename_i k p k' q rest heq
      cases heq
      simp only [Rel] at hx hu
      subst hx; subst hu
      obtain ⟨rv, h1, h2⟩ := min_sound l _ v (.int k (if q < p then q else p)) rl' (by simp [Rel]) hl h
      exact ⟨rv, by simp only [List.foldlM_cons, Builtin.min2, Sem.run_bind, Sem.run_pure, Result.andThen_ok]; exact h1, h2⟩
    · cases h

theorem max_sound : ∀ (l : List V) (x v : V) (rx : Value) (rl : List Value), Rel G w x rx → RelL G w l rl → minV true x l = some v → ∃ rv, (rl.foldlM Builtin.max2 rx).run P w = .ok rv w ∧ Rel G w v rv
  | [], x, v, rx, rl, hx, hl, h => by
    simp only [RelL] at hl
    subst hl
    simp only [minV, Option.some.injEq] at h
    subst h
    exact ⟨rx, by simp, hx⟩
  | u :: l, x, v, rx, rl, hx, hl, h => by
    simp only [RelL] at hl
    obtain ⟨ru, rl', rfl, hu, hl⟩ := hl
    unfold minV at h
    split at h
    · rename_i heq; cases heq
    · rename_i k p k' q rest heq
      cases heq
      simp only [Rel] at hx hu
      subst hx; subst hu
      obtain ⟨rv, h1, h2⟩ := max_sound l _ v (.int k (if q > p then q else p)) rl' (by simp [Rel]) hl h
      exact ⟨rv, by simp only [List.foldlM_cons, Builtin.max2, Sem.run_bind, Sem.run_pure, Result.andThen_ok]; exact h1, h2⟩
    · cases h

theorem usd_nil {ats : Array TypeId} {ty : TypeId} {l c : Nat} : (Builtin.unsafeSliceData_ ats ty #[.slice none l c]).run P w = .ok (.pointer none) w := rfl

theorem usd_some {ats : Array TypeId} {ty : TypeId} {ad : Addr} {l c : Nat} (h : c ≠ 0) : (Builtin.unsafeSliceData_ ats ty #[.slice (some ad) l c]).run P w = .ok (.pointer (some ad)) w := by
  change Sem.run P (if c ≠ 0 then pure (Value.pointer (some ad)) else _) w = _
  rw [if_pos h]
  rfl

theorem evBuiltin_sound (hs : Sim H G w) (e : SimFr G w fr a) {c : Go.Call} {b : Builtin} (ho : o.op = .call c) (hc : c.callee = .builtin b) {args : List V} {out : Out} {H' : Heap} (hargs : opds fr H c.args.toList = some args)
    (h : builtinV (envOf P sp) b c.argTypes.toList args H = some (out, H')) : OpOk P o a H G w H' out := by
  unfold builtinV at h
  split at h
  · -- len
    split at h
    · rename_i t hat
      simp only [envOf, Option.bind_eq_some_iff] at h
      obtain ⟨ti, ht, h⟩ := h
      have hus := (typeOf_some ht).1
      split at h
      · rename_i n el hti
        cases h
        exact op_len hs e ho hc hargs hat (fun rx hx ty => by rw [hti] at hus; simp [Builtin.len_, run_underlying hus])
      · rename_i s hti
        cases h
        refine op_len hs e ho hc hargs hat (fun rx hx ty => ?_)
        simp only [Rel] at hx
        subst hx
        rw [hti] at hus
        have hsz : (ByteArray.mk s.toArray).size = s.length := by simp [ByteArray.size]
        simp [Builtin.len_, run_underlying hus, hsz]
      · rename_i el hti
        cases h
        refine op_len hs e ho hc hargs hat (fun rx hx ty => ?_)
        simp only [Rel] at hx
        subst hx
        rw [hti] at hus
        simp [Builtin.len_, run_underlying hus]
      · rename_i el nm g off len sz cap hti
        cases h
        refine op_len hs e ho hc hargs hat (fun rx hx ty => ?_)
        simp only [Rel] at hx
        obtain ⟨b, sh, n, ro, c, e', m, _, rfl, _⟩ := hx
        rw [hti] at hus
        simp [Builtin.len_, run_underlying hus]
      · rename_i kt et hti
        cases h
        refine op_len hs e ho hc hargs hat (fun rx hx ty => ?_)
        simp only [Rel] at hx
        subst hx
        rw [hti] at hus
        simp [Builtin.len_, run_underlying hus]
      · rename_i kt et nm hti
        split at h
        · rename_i es ck hom
          cases h
          refine op_len hs e ho hc hargs hat (fun rx hx ty => ?_)
          simp only [Rel] at hx
          obtain ⟨b, sh, n, h1, rfl⟩ := hx
          obtain ⟨_, res, h2, h3⟩ := hs.obj nm _ (hs.lt _ _ _ _ _ h1).2 hom 0 b sh n h1
          rw [hti] at hus
          have hl : es.length = res.size := by simpa using h3.length
          simp [Builtin.len_, run_underlying hus, getObj, Sem.run, h2, hl]
        · cases h
      · cases h
    · cases h
  · -- append
    split at h
    · rename_i t u hat
      simp only [envOf, Option.bind_eq_some_iff] at h
      obtain ⟨ti, ht, ui, hu, h⟩ := h
      split at h
      · rename_i el e' hti hui
        simp only [Option.bind_eq_some_iff, Option.map_eq_some_iff, Prod.mk.injEq] at h
        obtain ⟨ei, hel, ⟨v, H1⟩, h1, rfl, rfl⟩ := h
        exact op_append hs e ho hc hargs hat ht hu hti (.inl ⟨_, hui⟩) hel h1
      · rename_i el hti hui
        simp only [Option.bind_eq_some_iff, Option.map_eq_some_iff, Prod.mk.injEq] at h
        obtain ⟨ei, hel, ⟨v, H1⟩, h1, rfl, rfl⟩ := h
        exact op_append hs e ho hc hargs hat ht hu hti (.inr hui) hel h1
      · cases h
    · cases h
  · -- copy
    split at h
    · rename_i t u hat
      simp only [envOf, Option.bind_eq_some_iff] at h
      obtain ⟨ti, ht, h⟩ := h
      split at h
      · rename_i el hti
        simp only [Option.bind_eq_some_iff] at h
        obtain ⟨ei, hel, h⟩ := h
        split at h
        · rename_i nm g off len sz cap nm' g' off' len' sz' cap'
          rw [cond_eq_ite] at h
          split at h
          · rename_i hb
            simp only [Bool.and_eq_true, Nat.beq_eq] at hb
            obtain ⟨b1, b2⟩ := hb
            subst b1; subst b2
            simp only [Option.bind_eq_some_iff, Option.map_eq_some_iff, Prod.mk.injEq] at h
            obtain ⟨r, hr, H1, h1, rfl, rfl⟩ := h
            exact op_copy hs e ho hc hargs hat ht hti hel hr h1
          · cases h
        · cases h
      · cases h
    · cases h
  · -- clear
    split at h
    · rename_i t hat
      simp only [envOf, Option.bind_eq_some_iff] at h
      obtain ⟨ti, ht, h⟩ := h
      split at h
      · rename_i el hti
        split at h
        · simp only [Option.some.injEq, Prod.mk.injEq] at h
          obtain ⟨rfl, rfl⟩ := h
          exact op_clear0 hs e ho hc hargs hat ht hti (.inl rfl)
        · rename_i nm g off len sz cap
          simp only [Option.bind_eq_some_iff] at h
          obtain ⟨ei, hel, h⟩ := h
          rw [cond_eq_ite] at h
          split at h
          · rename_i hb
            rw [Nat.beq_eq] at hb
            subst hb
            split at h
            · rename_i h0
              simp only [Option.some.injEq, Prod.mk.injEq] at h
              obtain ⟨rfl, rfl⟩ := h
              subst h0
              exact op_clear0 hs e ho hc hargs hat ht hti (.inr ⟨_, _, _, _, _, rfl⟩)
            · rename_i h0
              simp only [Option.map_eq_some_iff, Prod.mk.injEq] at h
              obtain ⟨H1, h1, rfl, rfl⟩ := h
              exact op_clear hs e ho hc hargs hat ht hti hel h0 h1
          · cases h
        · cases h
      · cases h
    · cases h
  · -- unsafeSliceData
    obtain ⟨hr, cs, hrun⟩ := op_builtin (P := P) hs e ho hc hargs
    obtain ⟨rx, hra, hx⟩ := one_arg hr
    rw [hra] at hrun
    split at h
    · cases h
      simp only [Rel] at hx
      subst hx
      exact OpOk.pure hs (x := .pointer none) (by rw [hrun]; simp only [builtin, Sem.run_bind, usd_nil, Result.andThen_ok, Sem.run_pure]) (by simp [Rel])
    · rename_i nm g off len sz cap
      rw [cond_eq_ite] at h
      split at h
      · rename_i hlen
        rw [Nat.blt_eq] at hlen
        cases h
        simp only [Rel] at hx
        obtain ⟨b, sh, n, ro, c, e', m, e1, rfl, e3, e4, e5, e6, e7, e8, e9⟩ := hx
        have hc0 : c ≠ 0 := by omega
        refine OpOk.pure hs (x := .pointer (some ⟨b, ro, none⟩)) (by rw [hrun]; simp only [builtin, Sem.run_bind, usd_some hc0, Result.andThen_ok, Sem.run_pure]) ?_
        simp only [Rel]
        refine ⟨b, sh, n, e1, e4, e5, ?_⟩
        have : ro = off - sh := by omega
        rw [this]
      · cases h
    · cases h
  · -- unsafeString
    split at h
    · rename_i pt it hat
      split at h
      · split at h
        · rename_i hn
          subst hn
          cases h
          exact op_unsafeStringNil hs e ho hc hargs hat
        · cases h
      · rename_i n nm g lim
        simp only [envOf, Option.bind_eq_some_iff] at h
        obtain ⟨ti, ht, h⟩ := h
        split at h
        · rename_i el cells elem gen floor frz exact hti hob
          simp only [Option.bind_eq_some_iff] at h
          obtain ⟨ei, hel, h⟩ := h
          split at h
          · rename_i hb
            obtain ⟨b1, b2, b3, b4, b5⟩ := hb
            subst b1; subst b5
            simp only [Option.bind_eq_some_iff, Option.map_eq_some_iff, Prod.mk.injEq] at h
            obtain ⟨cs, hcs, l, hl, H1, hu, rfl, rfl⟩ := h
            exact op_unsafeString hs e ho hc hargs hat ht hti hel b2 hob b3 b4 hcs hl hu
          · cases h
        · cases h
      · cases h
    · cases h
  · -- min
    simp only [Option.map_eq_some_iff, Prod.mk.injEq] at h
    obtain ⟨v, h1, rfl, rfl⟩ := h
    obtain ⟨hr, cs, hrun⟩ := op_builtin (P := P) hs e ho hc hargs
    simp only [RelL] at hr
    obtain ⟨rx, rl, hra, hx, hl⟩ := hr
    obtain ⟨rv, h2, h3⟩ := min_sound (P := P) _ _ _ _ _ hx hl h1
    refine OpOk.pure hs (x := rv) ?_ h3
    rw [hrun]
    simp only [builtin, Builtin.min_, hra, Sem.run_bind, h2, Result.andThen_ok, Sem.run_pure]
  · -- max
    simp only [Option.map_eq_some_iff, Prod.mk.injEq] at h
    obtain ⟨v, h1, rfl, rfl⟩ := h
    obtain ⟨hr, cs, hrun⟩ := op_builtin (P := P) hs e ho hc hargs
    simp only [RelL] at hr
    obtain ⟨rx, rl, hra, hx, hl⟩ := hr
    obtain ⟨rv, h2, h3⟩ := max_sound (P := P) _ _ _ _ _ hx hl h1
    refine OpOk.pure hs (x := rv) ?_ h3
    rw [hrun]
    simp only [builtin, Builtin.max_, hra, Sem.run_bind, h2, Result.andThen_ok, Sem.run_pure]
  · cases h

theorem run_shape (b : Nat) : (shape b).run P w = .ok (w.shape? b) w := rfl

theorem run_viewAt {b : Nat} {x} (h : w.shape? b = some x) : (viewAt b).run P w = .ok none w := by
  simp [viewAt, h]

theorem run_seenAt {ad : Addr} {x} (h : w.shape? ad.block = some x) : (Conv.seenAt ad).run P w = .ok ad w := by
  simp [Conv.seenAt, run_viewAt h]

theorem run_cellsIn {b : Nat} {t : TypeId} {k : Nat} (h : w.shape? b = some (t, k)) : (cellsIn b).run P w = .ok (some k) w := by
  simp [cellsIn, h]

theorem op_convToUnsafe (hs : Sim H G w) (e : SimFr G w fr a) {src dst el : TypeId} {si di ei : TI} (hsi : typeOf P src = some si) (hdi : typeOf P dst = some di) (hel : typeOf P el = some ei) (hus : si.under = .pointer el)
    (hud : di.under = .unsafePointer) {x : Operand} (ho : o.op = .convert src dst x) {nm g off lim : Nat} (hp : opd fr H x = some (.ptr nm g off lim)) {cells : List V} {elem : TypeId} {gen floor frz : Nat} {exact : Bool}
    (hob : H.get nm = some (.row cells elem gen floor frz exact)) (h1 : floor ≤ g) (h2 : 0 < ei.size) (h3 : off + 1 ≤ lim) : OpOk P o a H G w H (.val (.ptr nm g off lim)) := by
  have hr := opd_sound hs e hp
  have hr' := hr
  simp only [Rel] at hr
  obtain ⟨b, sh, n, hg, q1, q2, hv⟩ := hr
  obtain ⟨_, _, q⟩ := hs.obj nm _ (hs.lt _ _ _ _ _ hg).2 hob
  obtain ⟨_, _, _, _, _, q5⟩ := q g b sh n hg
  obtain ⟨arr, fz, a1, a2, _⟩ := q5 h1
  have hsh : w.shape? b = some (elem, arr.size) := by simp only [World.shape?, a1]
  have hu1 : P.underlying src = some (.pointer el) := hus ▸ (typeOf_some hsi).1
  have hu2 : P.underlying dst = some .unsafePointer := hud ▸ (typeOf_some hdi).1
  refine OpOk.pure hs (x := .pointer (some ⟨b, off - sh, none⟩)) ?_ (hv ▸ hr')
  have hsz := run_sizeOf' (P := P) hel
  have hne : ¬ ei.size = 0 := by omega
  have hlt : ¬ arr.size ≤ off - sh := by omega
  simp [execOp, ho, hv, convert, run_underlying hu1, run_underlying hu2, Conv.unsafePointer, run_seenAt (P := P) (ad := ⟨b, off - sh, none⟩) hsh, run_cellsIn (P := P) hsh, hsz, hne, hlt]

theorem op_convFromUnsafe (hs : Sim H G w) (e : SimFr G w fr a) {src dst el : TypeId} {si di ei li : TI} (hsi : typeOf P src = some si) (hdi : typeOf P dst = some di) (hel : typeOf P el = some ei) (hus : si.under = .unsafePointer)
    (hud : di.under = .pointer el) {x : Operand} (ho : o.op = .convert src dst x) {nm g off lim : Nat} (hp : opd fr H x = some (.ptr nm g off lim)) {cells : List V} {elem : TypeId} {gen floor frz : Nat}
    (hob : H.get nm = some (.row cells elem gen floor frz true)) (hli : typeOf P elem = some li) (h1 : floor ≤ g) (h2 : 0 < ei.size) (h3 : liesAt P P.depth elem (cells.length / li.size) off el 1 = true) : OpOk P o a H G w H (.val (.ptr nm g off lim)) := by
  have hr := opd_sound hs e hp
  have hr' := hr
  simp only [Rel] at hr
  obtain ⟨b, sh, n, hg, q1, q2, hv⟩ := hr
  obtain ⟨_, _, q⟩ := hs.obj nm _ (hs.lt _ _ _ _ _ hg).2 hob
  obtain ⟨_, _, _, _, q4, q5⟩ := q g b sh n hg
  obtain ⟨arr, fz, a1, a2, _, _, a5⟩ := q5 h1
  have hsh : w.shape? b = some (elem, arr.size) := by simp only [World.shape?, a1]
  have hu1 : P.underlying src = some .unsafePointer := hus ▸ (typeOf_some hsi).1
  have hu2 : P.underlying dst = some (.pointer el) := hud ▸ (typeOf_some hdi).1
  have h0 : off - sh = off := by have := q4 rfl; omega
  refine OpOk.pure hs (x := .pointer (some ⟨b, off - sh, none⟩)) ?_ (hv ▸ hr')
  have hsz := run_sizeOf' (P := P) hel
  have hne : ¬ ei.size = 0 := by omega
  have hc : P.cellsOf elem = li.size := by
    obtain ⟨_, _, i, z, hi, hs', _⟩ := typeOf_some hli
    simp [Program.cellsOf, hi, hs']
  have hva : (variablesAt ⟨b, off - sh, none⟩ el 1).run P w = .ok true w := by
    simp [variablesAt, program, Sem.run, hsh, hc, h0, a5 rfl, h3]
  simp [execOp, ho, hv, convert, run_underlying hu1, run_underlying hu2, Conv.unsafePointer, run_seenAt (P := P) (ad := ⟨b, off - sh, none⟩) hsh, hsz, hne, hva]

theorem evOp_sound (hs : Sim H G w) (e : SimFr G w fr a) {out : Out} {H' : Heap} (h : evOp (envOf P sp) o fr H = some (out, H')) : OpOk P o a H G w H' out := by
  unfold evOp at h
  split at h
  · -- move
    rename_i x ho
    simp only [Option.map_eq_some_iff, Prod.mk.injEq] at h
    obtain ⟨v, h1, rfl, rfl⟩ := h
    exact op_move hs e (.inl ho) h1
  · rename_i x ho
    simp only [Option.map_eq_some_iff, Prod.mk.injEq] at h
    obtain ⟨v, h1, rfl, rfl⟩ := h
    exact op_move hs e (.inr ho) h1
  · -- pick
    rename_i c x y ho
    split at h
    · rename_i b hb
      simp only [Option.map_eq_some_iff, Prod.mk.injEq] at h
      obtain ⟨v, h1, rfl, rfl⟩ := h
      exact op_pick hs e ho hb h1
    · cases h
  · -- alloc
    rename_i t ho
    simp only [envOf, Option.map_eq_some_iff, Prod.mk.injEq] at h
    obtain ⟨ti, ht, rfl, rfl⟩ := h
    exact op_alloc hs ho ht
  · -- box
    rename_i t x ho
    simp only [Option.bind_eq_some_iff, Option.some.injEq, Prod.mk.injEq] at h
    obtain ⟨v, h1, rfl, rfl⟩ := h
    exact op_box hs e ho h1
  · -- build
    rename_i t parts ho
    simp only [envOf, Option.bind_eq_some_iff] at h
    obtain ⟨ti, ht, vs, hv, h⟩ := h
    split at h
    · rename_i fs hti
      simp only [cond_eq_ite, Bool.not_eq_true'] at h
      split at h
      · cases h
      · rename_i hall
        simp only [Option.map_eq_some_iff, Prod.mk.injEq] at h
        obtain ⟨v, ⟨cs, h1, rfl⟩, rfl, rfl⟩ := h
        refine op_buildStruct hs e ht hti ho hv (fun f hf => ?_) h1
        have hall' : fs.toList.all (fun f => (typeOf P f.type).isSome) = true := by
          cases hq : fs.toList.all (fun f => (typeOf P f.type).isSome) with
          | true => rfl
          | false => exact absurd hq hall
        have := List.all_eq_true.1 hall' f hf
        exact Option.isSome_iff_exists.1 this
    · rename_i n el hti
      simp only [Option.bind_eq_some_iff, Option.map_eq_some_iff, Prod.mk.injEq] at h
      obtain ⟨ei, hel, v, ⟨cs, h1, rfl⟩, rfl, rfl⟩ := h
      exact op_buildArray hs e ht hti hel ho hv h1
    · cases h
  · -- buildSlice
    rename_i t len parts ho
    simp only [envOf, Option.bind_eq_some_iff] at h
    obtain ⟨ti, ht, vs, hv, h⟩ := h
    split at h
    · rename_i el hti
      simp only [Option.bind_eq_some_iff, cond_eq_ite, Nat.ble_eq] at h
      obtain ⟨ei, hel, h⟩ := h
      split at h
      · rename_i hb
        simp only [Option.map_eq_some_iff, Prod.mk.injEq] at h
        obtain ⟨cs, h1, rfl, rfl⟩ := h
        exact op_buildSlice hs e ht hti hel ho hv hb h1
      · cases h
    · cases h
  · -- load
    rename_i t x ho
    simp only [envOf, Option.bind_eq_some_iff, Option.map_eq_some_iff, Prod.mk.injEq] at h
    obtain ⟨ti, ht, p, hp, v, h1, rfl, rfl⟩ := h
    exact op_load hs e ht ho hp h1
  · -- store
    rename_i t x y ho
    simp only [envOf, Option.bind_eq_some_iff, Option.map_eq_some_iff, Prod.mk.injEq] at h
    obtain ⟨ti, ht, p, hp, v, hv, H1, h1, rfl, rfl⟩ := h
    exact op_store hs e ht ho hp hv h1
  · -- nilCheck
    rename_i x ho
    split at h <;> try (cases h; done)
    rename_i v n1 n2 n3 n4 hv
    cases h
    refine op_nilCheck hs e ho hv ?_
    split
    · exact (n1 rfl).elim
    · exact (n2 rfl).elim
    · exact (n3 rfl).elim
    · exact (n4 _ _ _ rfl).elim
    · trivial
  · -- binOp
    rename_i op t x y t' ho
    simp only [Option.bind_eq_some_iff] at h
    obtain ⟨p, hp, q, hq, h⟩ := h
    have key : ∀ v, binOpV (envOf P sp) op t p q = some v → (p ≠ .nili ∨ q ≠ .nili ∨ (∃ c, x = .const c) ∨ (∃ c, y = .const c)) → OpOk P o a H G w H (.val v) :=
      fun v hv hc => op_binOp rfl rfl hs e ho hp hq (eqGuard_ok rfl (opd_sound hs e hp) (opd_sound hs e hq) hv hc) hv
    split at h
    · split at h
      · simp only [Option.map_eq_some_iff, Prod.mk.injEq] at h
        obtain ⟨v, h1, rfl, rfl⟩ := h
        exact key v h1 (.inr (.inr (.inl ⟨_, rfl⟩)))
      · simp only [Option.map_eq_some_iff, Prod.mk.injEq] at h
        obtain ⟨v, h1, rfl, rfl⟩ := h
        exact key v h1 (.inr (.inr (.inr ⟨_, rfl⟩)))
      · cases h
    · rename_i hn
      simp only [Option.map_eq_some_iff, Prod.mk.injEq] at h
      obtain ⟨v, h1, rfl, rfl⟩ := h
      refine key v h1 ?_
      by_cases hpn : p = .nili
      · by_cases hqn : q = .nili
        · exact (hn hpn hqn).elim
        · exact .inr (.inl hqn)
      · exact .inl hpn
  · -- unOp
    rename_i op t x ho
    simp only [Option.bind_eq_some_iff, Option.map_eq_some_iff, Prod.mk.injEq] at h
    obtain ⟨p, hp, v, h1, rfl, rfl⟩ := h
    exact op_unOp hs e ho hp h1
  · -- convert
    rename_i src dst x ho
    simp only [envOf, Option.bind_eq_some_iff] at h
    obtain ⟨si, hsi, di, hdi, p, hp, h⟩ := h
    split at h
    · rename_i k0 k k' n hus hud
      cases h
      exact op_convInt hs e hsi hdi hus hud ho hp
    · rename_i s hus hud
      cases h
      exact op_convStr hs e hsi hdi hus hud ho hp
    · rename_i el hus hud
      split at h
      · cases h
      · rename_i hps
        simp only [Option.bind_eq_some_iff] at h
        obtain ⟨ei, hel, h⟩ := h
        split at h
        · rename_i hue
          simp only [Option.bind_eq_some_iff, Option.map_eq_some_iff, Prod.mk.injEq] at h
          obtain ⟨r, hr, l, hl, rfl, rfl⟩ := h
          exact op_convBytes hs e hsi hdi hel hus hue hud ho hp (fun s hq => hps s hq) hr hl
        · cases h
    · rename_i el nm g off lim hus hud
      simp only [Option.bind_eq_some_iff] at h
      obtain ⟨ei, hel, h⟩ := h
      split at h
      · rename_i c1 c2 c3 floor c4 c5 hob
        rw [cond_eq_ite] at h
        split at h
        · rename_i hb
          simp only [Bool.and_eq_true, Nat.ble_eq, Nat.blt_eq] at hb
          cases h
          exact op_convToUnsafe hs e hsi hdi hel hus hud ho hp hob hb.1.1 hb.1.2 hb.2
        · cases h
      · cases h
    · rename_i el nm g off lim hus hud
      simp only [Option.bind_eq_some_iff] at h
      obtain ⟨ei, hel, h⟩ := h
      split at h
      · rename_i cells elem c3 floor c4 hob
        simp only [Option.bind_eq_some_iff] at h
        obtain ⟨li, hli, h⟩ := h
        rw [cond_eq_ite] at h
        split at h
        · rename_i hb
          simp only [Bool.and_eq_true, Nat.ble_eq, Nat.blt_eq] at hb
          cases h
          exact op_convFromUnsafe hs e hsi hdi hel hus hud ho hp hob hli hb.1.1 hb.1.2 hb.2
        · cases h
      · cases h
    · cases h
  · -- makeInterface
    rename_i t x ho
    simp only [envOf, Option.bind_eq_some_iff] at h
    obtain ⟨ti, ht, h⟩ := h
    split at h
    · cases h
    · rename_i hni
      simp only [Option.map_eq_some_iff, Prod.mk.injEq] at h
      obtain ⟨v, ⟨p, hp, rfl⟩, rfl, rfl⟩ := h
      exact op_makeInterface hs e ht (fun ms hm => hni ms hm) ho hp
  · -- makeFunc
    rename_i fn first captured ho
    simp only [Option.bind_eq_some_iff, Option.map_eq_some_iff, Prod.mk.injEq] at h
    obtain ⟨p, hp, q, hq, rfl, rfl⟩ := h
    exact op_makeFunc hs e ho hp hq
  · -- makeMap
    rename_i t r ho
    simp only [envOf, Option.bind_eq_some_iff] at h
    obtain ⟨ti, ht, h⟩ := h
    split at h
    · rename_i kt et hti
      cases h
      exact op_makeMap hs e ht hti ho (fun x hx => by cases hx)
    · rename_i kt et x hti
      simp only [Option.bind_eq_some_iff] at h
      obtain ⟨p, hp, h⟩ := h
      split at h
      · cases h
        exact op_makeMap hs e ht hti ho (fun x hx => by cases hx; exact ⟨_, _, hp⟩)
      · cases h
    · cases h
  · -- makeSlice
    rename_i t x y ho
    simp only [envOf, Option.bind_eq_some_iff] at h
    obtain ⟨ti, ht, p, hp, q, hq, h⟩ := h
    split at h
    · rename_i el l c hti
      simp only [Option.bind_eq_some_iff] at h
      obtain ⟨ei, hel, h⟩ := h
      split at h
      · rename_i hb
        cases h
        exact op_makeSlice hs e ht hti hel ho hp hq hb.1 hb.2.1 hb.2.2.1 hb.2.2.2
      · cases h
    · cases h
  · -- slice
    rename_i t x lo hi ho
    simp only [envOf, Option.bind_eq_some_iff] at h
    obtain ⟨ti, ht, p, hp, vlo, hlo, vhi, hhi, h⟩ := h
    split at h
    · rename_i el hti
      split at h
      · cases h
      · rename_i hstr
        simp only [Option.bind_eq_some_iff, Option.map_eq_some_iff, Prod.mk.injEq] at h
        obtain ⟨ei, hel, v, h1, rfl, rfl⟩ := h
        exact op_sliceSl hs e ht hti hel ho hp hlo hhi (fun s hs => hstr s hs) h1
    · rename_i hti
      split at h
      · simp only [Option.map_eq_some_iff, Prod.mk.injEq] at h
        obtain ⟨v, h1, rfl, rfl⟩ := h
        exact op_sliceStr hs e ht hti ho hp hlo hhi h1
      · cases h
    · rename_i n el hti
      simp only [Option.bind_eq_some_iff] at h
      obtain ⟨ei, hel, h⟩ := h
      split at h
      · split at h
        · rename_i c1 c2 c3 floor c4 c5 hob
          rw [cond_eq_ite] at h
          split at h
          · rename_i hb
            simp only [Bool.and_eq_true, Nat.ble_eq] at hb
            simp only [Option.map_eq_some_iff, Prod.mk.injEq] at h
            obtain ⟨v, h1, rfl, rfl⟩ := h
            exact op_sliceArr hs e ht hti hel ho hp hlo hhi hob hb.1 hb.2 h1
          · cases h
        · cases h
      · cases h
    · cases h
  · -- slice, three indexes
    rename_i t x lo hi mx ho
    simp only [envOf, Option.bind_eq_some_iff] at h
    obtain ⟨ti, ht, p, hp, vlo, hlo, vhi, hhi, vmx, hmx, h⟩ := h
    split at h
    · rename_i el nm g off len sz cap hti
      simp only [Option.bind_eq_some_iff, Option.map_eq_some_iff, Prod.mk.injEq] at h
      obtain ⟨ei, hel, v, h1, rfl, rfl⟩ := h
      exact op_sliceSl3 hs e ht hti hel ho hp hlo hhi hmx h1
    · cases h
  · -- fieldAddr
    rename_i s x k ho
    simp only [envOf, Option.bind_eq_some_iff, cond_eq_ite, Nat.beq_eq] at h
    obtain ⟨ti, ht, f, hf, fi, hfi, h⟩ := h
    split at h
    · cases h
    · rename_i hz
      simp only [Option.bind_eq_some_iff] at h
      obtain ⟨p, hp, h⟩ := h
      split at h
      · cases h
        exact op_fieldAddr hs e ht ho hf hfi hz hp rfl
      · cases h
  · -- field
    rename_i t x k ho
    simp only [envOf, Option.bind_eq_some_iff] at h
    obtain ⟨ti, ht, f, hf, fi, hfi, p, hp, h⟩ := h
    split at h
    · simp only [Option.map_eq_some_iff, Prod.mk.injEq] at h
      obtain ⟨v, h1, rfl, rfl⟩ := h
      exact op_field hs e ht hf hfi ho hp h1
    · cases h
  · -- indexAddr
    rename_i t x i ho
    simp only [envOf, Option.bind_eq_some_iff] at h
    obtain ⟨ti, ht, p, hp, q, hq, h⟩ := h
    split at h
    · rename_i el hti
      simp only [Option.bind_eq_some_iff, Option.map_eq_some_iff, Prod.mk.injEq] at h
      obtain ⟨ei, hel, v, h1, rfl, rfl⟩ := h
      exact op_indexAddr hs e ht hti hel ho hp hq h1
    · rename_i n el hti
      simp only [Option.bind_eq_some_iff] at h
      obtain ⟨ei, hel, h⟩ := h
      split at h
      · split at h
        · rename_i hb
          cases h
          exact op_indexAddrArr hs e ht hti hel ho hp hq hb.1 hb.2 rfl
        · cases h
      · cases h
    · cases h
  · -- index
    rename_i t x i ho
    simp only [envOf, Option.bind_eq_some_iff] at h
    obtain ⟨ti, ht, p, hp, q, hq, h⟩ := h
    split at h
    · rename_i hti
      split at h
      · rename_i hb
        simp only [Option.map_eq_some_iff, Prod.mk.injEq] at h
        obtain ⟨b, h1, rfl, rfl⟩ := h
        exact op_indexStr hs e ht hti ho hp hq hb h1
      · cases h
    · rename_i n el cs k j hti
      simp only [Option.bind_eq_some_iff] at h
      obtain ⟨ei, hel, h⟩ := h
      split at h
      · rename_i hb
        simp only [Option.map_eq_some_iff, Prod.mk.injEq] at h
        obtain ⟨v, h1, rfl, rfl⟩ := h
        exact op_indexArr hs e ht hti hel ho hp hq hb h1
      · cases h
    · cases h
  · -- extract
    rename_i t i ho
    simp only [Option.bind_eq_some_iff] at h
    obtain ⟨p, hp, h⟩ := h
    split at h
    · simp only [Option.map_eq_some_iff, Prod.mk.injEq] at h
      obtain ⟨v, h1, rfl, rfl⟩ := h
      exact op_extract hs e ho hp h1
    · cases h
  · -- call
    rename_i c ho
    simp only [Option.bind_eq_some_iff] at h
    obtain ⟨args, hargs, h⟩ := h
    split at h
    · rename_i f hc
      simp only [Option.bind_eq_some_iff, Option.map_eq_some_iff, Prod.mk.injEq] at h
      obtain ⟨fv, hf, out', h1, rfl, rfl⟩ := h
      cases out' with
      | call tgt vs => exact op_call hs e ho hc hargs hf h1
      | _ => unfold callOut at h1; split at h1 <;> cases h1
    · rename_i b hc
      exact evBuiltin_sound hs e ho hc hargs h
    · cases h
  · -- lookup
    rename_i t m k ok ho
    simp only [envOf, Option.bind_eq_some_iff] at h
    obtain ⟨ti, ht, p, hp, q, hq, h⟩ := h
    split at h
    · rename_i kt et hti
      simp only [Option.bind_eq_some_iff, Option.map_eq_some_iff] at h
      obtain ⟨ki, hk, ei, he, r, hr, h⟩ := h
      have := op_lookup hs e ht hti hk he ho hr hp hq
      cases r with
      | none => cases h; exact this
      | some y => cases h; exact this
    · cases h
  · -- mapUpdate
    rename_i t m k x ho
    simp only [envOf, Option.bind_eq_some_iff] at h
    obtain ⟨ti, ht, p, hp, q, hq, u, hu, h⟩ := h
    split at h
    · rename_i kt et nm hti
      simp only [Option.bind_eq_some_iff] at h
      obtain ⟨ki, hk, h⟩ := h
      split at h
      · rename_i es ck hom
        simp only [Option.bind_eq_some_iff] at h
        obtain ⟨r, hr, h⟩ := h
        split at h
        · simp only [Option.map_eq_some_iff, Prod.mk.injEq] at h
          obtain ⟨H1, h1, rfl, rfl⟩ := h
          exact op_mapUpdate hs e ht hti hk (.inl ho) hp hq hu hom hr h1
        · simp only [Option.map_eq_some_iff, Prod.mk.injEq] at h
          obtain ⟨H1, h1, rfl, rfl⟩ := h
          exact op_mapUpdate hs e ht hti hk (.inl ho) hp hq hu hom hr h1
      · cases h
    · cases h
  · -- insert
    rename_i t m k x ho
    simp only [envOf, Option.bind_eq_some_iff] at h
    obtain ⟨ti, ht, p, hp, q, hq, u, hu, h⟩ := h
    split at h
    · rename_i kt et nm hti
      simp only [Option.bind_eq_some_iff] at h
      obtain ⟨ki, hk, h⟩ := h
      split at h
      · rename_i es ck hom
        simp only [Option.bind_eq_some_iff] at h
        obtain ⟨r, hr, h⟩ := h
        split at h
        · simp only [Option.map_eq_some_iff, Prod.mk.injEq] at h
          obtain ⟨H1, h1, rfl, rfl⟩ := h
          exact op_mapUpdate hs e ht hti hk (.inr ho) hp hq hu hom hr h1
        · simp only [Option.map_eq_some_iff, Prod.mk.injEq] at h
          obtain ⟨H1, h1, rfl, rfl⟩ := h
          exact op_mapUpdate hs e ht hti hk (.inr ho) hp hq hu hom hr h1
      · cases h
    · cases h
  · -- typeAssert
    rename_i x xt t ok ho
    simp only [envOf, Option.bind_eq_some_iff] at h
    obtain ⟨ti, ht, h⟩ := h
    split at h
    · cases h
    · rename_i hni
      simp only [Option.bind_eq_some_iff, Option.map_eq_some_iff, Prod.mk.injEq] at h
      obtain ⟨p, hp, v, h1, rfl, rfl⟩ := h
      exact op_typeAssert hs e ht (fun ms hm => hni ms hm) ho hp h1
  · -- panic
    rename_i x ho
    simp only [Option.bind_eq_some_iff] at h
    obtain ⟨p, hp, h⟩ := h
    split at h
    · cases h
      have h1 := opd_sound hs e hp
      have h1' := h1
      simp only [Rel] at h1'
      obtain ⟨y, h2, h3⟩ := h1'
      refine ⟨rfl, a.eval x, ?_, h1⟩
      simp only [execOp, ho, Sem.run_bind, h2, Instr.panic, goPanic]
      rfl
    · cases h
  · -- range
    rename_i t x ho
    simp only [envOf, Option.bind_eq_some_iff] at h
    obtain ⟨ti, ht, p, hp, h⟩ := h
    split at h
    · rename_i s hti
      cases h
      exact op_range hs e ht hti ho hp
    · cases h
  · -- next
    rename_i x ho
    simp only [Option.bind_eq_some_iff] at h
    obtain ⟨p, hp, h⟩ := h
    split at h
    · split at h
      · rename_i s pos hom
        exact op_next hs e ho hp hom h
      · cases h
    · cases h
  · cases h

end
end Go.E2
