/- E2: single operations on maps against the model's. -/
import Derived.Test.YtjbefleabibmmaaGreatDoorE2m
namespace Go.E2
open Go

section
variable {P : Program} {o : Oper} {a : Act} {H : Heap} {G : Ghost} {w : World} {fr : Fr}

theorem beq_bytes (x y : List UInt8) : ((⟨x.toArray⟩ : ByteArray) == ⟨y.toArray⟩) = (x == y) := by
  have h0 : ((⟨x.toArray⟩ : ByteArray) == ⟨y.toArray⟩) = (x.toArray == y.toArray) := rfl
  rw [h0, Bool.eq_iff_iff, beq_iff_eq, beq_iff_eq]
  exact ⟨fun h => by simpa using congrArg Array.toList h, fun h => by rw [h]⟩

theorem sameNow_sound {kd : TypeDesc} {x y : V} {rx ry : Value} (hx : Rel G w x rx) (hy : Rel G w y ry) {b : Bool} (h : sameNowV kd x y = some b) : Instr.sameNow kd rx ry = some b ∧ (b = true → ry = rx ∧ Instr.sameBits 10000 ry rx = true) := by
  unfold sameNowV at h
  split at h
  · rename_i k i k' j
    simp only [Rel] at hx hy
    subst hx; subst hy
    split at h
    · rename_i hk
      subst hk
      cases h
      refine ⟨by simp [Instr.sameNow], fun hb => ?_⟩
      simp only [beq_iff_eq] at hb
      subst hb
      exact ⟨rfl, by simp [Instr.sameBits]⟩
    · cases h
  · rename_i s t
    simp only [Rel] at hx hy
    subst hx; subst hy
    cases h
    refine ⟨by simp only [Instr.sameNow, beq_bytes], fun hb => ?_⟩
    simp only [beq_iff_eq] at hb
    subst hb
    exact ⟨rfl, by simp [Instr.sameBits, beq_bytes]⟩
  · rename_i s t
    simp only [Rel] at hx hy
    subst hx; subst hy
    cases h
    refine ⟨by simp [Instr.sameNow], fun hb => ?_⟩
    simp only [beq_iff_eq] at hb
    subst hb
    exact ⟨rfl, by simp [Instr.sameBits]⟩
  · cases h

/-- Where a key is found. -/
theorem findV_sound {kd : TypeDesc} {k : V} {rk : Value} (hk : Rel G w k rk) : ∀ (es : List (V × V × Nat)) (l : List MapEntry) (i : Nat) (r : Option (Nat × V)), RelM G w es l → findV kd k es i = some r →
    (r = none ∧ Instr.findNow kd rk l i = some none) ∨ ∃ j v x e, r = some (j, v) ∧ Instr.findNow kd rk l i = some (some (j, x)) ∧ Rel G w v x ∧ i ≤ j ∧ l[j - i]? = some e ∧ Instr.sameBits 10000 e.key rk = true
  | [], l, i, r, hm, h => by
    simp only [RelM] at hm
    subst hm
    simp only [findV, Option.some.injEq] at h
    subst h
    exact .inl ⟨rfl, rfl⟩
  | (k', v, b) :: es, l, i, r, hm, h => by
    simp only [RelM] at hm
    obtain ⟨e, l', rfl, h1, h2, _, h3⟩ := hm
    simp only [findV] at h
    split at h
    · rename_i hs
      cases h
      obtain ⟨q1, q2⟩ := sameNow_sound hk h1 hs
      refine .inr ⟨i, v, e.val, e, rfl, by simp only [Instr.findNow, q1], h2, Nat.le_refl _, by simp, (q2 rfl).1 ▸ (q2 rfl).2⟩
    · rename_i hs
      obtain ⟨q1, _⟩ := sameNow_sound hk h1 hs
      rcases findV_sound hk es l' (i + 1) r h3 h with ⟨r1, r2⟩ | ⟨j, v', x, e', r1, r2, r3, r4, r5, r6⟩
      · exact .inl ⟨r1, by simp only [Instr.findNow, q1]; exact r2⟩
      · refine .inr ⟨j, v', x, e', r1, by simp only [Instr.findNow, q1]; exact r2, r3, by omega, ?_, r6⟩
        rw [show j - i = (j - (i + 1)) + 1 by omega, List.getElem?_cons_succ]
        exact r5
    · cases h

theorem run_checkKey {kt : TypeId} {kd : TypeDesc} (hu : P.underlying kt = some kd) (hp : plainKey kd = true) (e : Bool) (n : Nat) (v : Value) : (Instr.checkKey e (n + 1) kt v).run P w = .ok () w := by
  cases kd <;> simp [plainKey] at hp <;> simp [Instr.checkKey, run_underlying hu]

theorem run_findKey {kt : TypeId} {kd : TypeDesc} (hu : P.underlying kt = some kd) {rk : Value} {l : List MapEntry} {r : Option (Nat × Value)} (h : Instr.findNow kd rk l 0 = some r) : (Instr.findKey kt rk l).run P w = .ok r w := by
  simp [Instr.findKey, run_underlying hu, h]

theorem flatSame_sound : ∀ {xs ys : List V} {l l' : List Value} (n : Nat), flatSame xs ys = true → RelL G w xs l → RelL G w ys l' → l'.length = l.length ∧ ((l'.zip l).all fun (x, y) => Instr.sameBits n x y) = true
  | [], [], l, l', n, _, h1, h2 => by
    simp only [RelL] at h1 h2
    subst h1; subst h2
    exact ⟨rfl, rfl⟩
  | .int k a :: xs, .int k' b :: ys, l, l', n, h, h1, h2 => by
    simp only [flatSame, Bool.and_eq_true, decide_eq_true_eq, beq_iff_eq] at h
    obtain ⟨⟨rfl, rfl⟩, h⟩ := h
    simp only [RelL, Rel] at h1 h2
    obtain ⟨x, xs', rfl, rfl, h1⟩ := h1
    obtain ⟨y, ys', rfl, rfl, h2⟩ := h2
    obtain ⟨q1, q2⟩ := flatSame_sound n h h1 h2
    exact ⟨by simp [q1], by simp only [List.zip_cons_cons, List.all_cons, q2, Bool.and_true]; simp [Instr.sameBits]⟩
  | .bool a :: xs, .bool b :: ys, l, l', n, h, h1, h2 => by
    simp only [flatSame, Bool.and_eq_true, beq_iff_eq] at h
    obtain ⟨rfl, h⟩ := h
    simp only [RelL, Rel] at h1 h2
    obtain ⟨x, xs', rfl, rfl, h1⟩ := h1
    obtain ⟨y, ys', rfl, rfl, h2⟩ := h2
    obtain ⟨q1, q2⟩ := flatSame_sound n h h1 h2
    exact ⟨by simp [q1], by simp only [List.zip_cons_cons, List.all_cons, q2, Bool.and_true]; simp [Instr.sameBits]⟩
  | .str a :: xs, .str b :: ys, l, l', n, h, h1, h2 => by
    simp only [flatSame, Bool.and_eq_true, beq_iff_eq] at h
    obtain ⟨rfl, h⟩ := h
    simp only [RelL, Rel] at h1 h2
    obtain ⟨x, xs', rfl, rfl, h1⟩ := h1
    obtain ⟨y, ys', rfl, rfl, h2⟩ := h2
    obtain ⟨q1, q2⟩ := flatSame_sound n h h1 h2
    exact ⟨by simp [q1], by simp only [List.zip_cons_cons, List.all_cons, q2, Bool.and_true]; simp [Instr.sameBits, beq_bytes]⟩

theorem checkKey_fields {n : Nat} {e : Bool} {cs : List V} {rcs : Array Value} (hcs : RelL G w cs rcs.toList) (w' : World) : ∀ (fs : List Field), (fs.all fun f => match typeOf P f.type with
  | some fi => plainKey fi.under && (partV fi cs f.offset).isSome
  | none => false) = true → (forIn fs PUnit.unit (fun f _ => if f.name ≠ "_" then (do
      let v ← part f.type rcs f.offset
      Instr.checkKey e (n + 1) f.type v
      pure (ForInStep.yield PUnit.unit)) else pure (ForInStep.yield PUnit.unit)) : Sem PUnit).run P w' = .ok PUnit.unit w'
  | [], _ => by simp
  | f :: fs, h => by
    simp only [List.all_cons, Bool.and_eq_true] at h
    obtain ⟨h0, h1⟩ := h
    have ih := checkKey_fields (n := n) (e := e) hcs w' fs h1
    split at h0
    · rename_i fi hfi
      simp only [Bool.and_eq_true, Option.isSome_iff_exists] at h0
      obtain ⟨hp, v, hv⟩ := h0
      obtain ⟨y, q1, _⟩ := part_sound hfi hcs hv
      have q2 := run_checkKey (w := w') (typeOf_some hfi).1 hp e n y
      simp only [List.forIn_cons, Sem.run_bind]
      by_cases hn : f.name = "_"
      · simp only [hn, ne_eq, not_true_eq_false, if_false, Sem.run_pure, Result.andThen_ok]
        exact ih
      · simp only [hn, ne_eq, not_false_eq_true, if_true, Sem.run_bind, q1, q2, Sem.run_pure, Result.andThen_ok]
        exact ih
    · cases h0

theorem findA_sound {sp : Nat → Option (List V → Heap → Option (CR × Heap))} {kt : TypeId} {ks : List V} {rks : Array Value} (hk : RelL G w ks rks.toList) : ∀ (es : List (V × V × Nat)) (l : List MapEntry) (i : Nat) (r : Option (Nat × V)), RelM G w es l → findA (envOf P sp) kt ks es i = some r →
    (r = none ∧ (Instr.findAsking kt (.agg rks) l i).run P w = .ok none w) ∨ ∃ j v x e, r = some (j, v) ∧ (Instr.findAsking kt (.agg rks) l i).run P w = .ok (some (j, x)) w ∧ Rel G w v x ∧ i ≤ j ∧ l[j - i]? = some e ∧ Instr.sameBits 10000 e.key (.agg rks) = true
  | [], l, i, r, hm, h => by
    simp only [RelM] at hm
    subst hm
    simp only [findA, Option.some.injEq] at h
    subst h
    exact .inl ⟨rfl, by simp [Instr.findAsking]⟩
  | (k', v, b) :: es, l, i, r, hm, h => by
    simp only [RelM] at hm
    obtain ⟨e, l', rfl, h1, h2, _, h3⟩ := hm
    have hka : Rel G w (.agg ks) (.agg rks) := by simp only [Rel]; exact ⟨_, rfl, hk⟩
    simp only [findA] at h
    split at h
    · rename_i hs
      have q1 : (Op.equal kt (.agg rks) e.key).run P w = .ok true w := eq_sound (E := envOf P sp) rfl rfl 1000 Op.maxDepth kt _ _ _ _ true (by simp [Op.maxDepth]) hs hka h1 w
      split at h
      · rename_i ys
        rw [cond_eq_ite] at h
        split at h
        · rename_i hfs
          cases h
          simp only [Rel] at h1
          obtain ⟨ry, hry, h1⟩ := h1
          obtain ⟨f1, f2⟩ := flatSame_sound 9999 hfs hk h1
          refine .inr ⟨i, v, e.val, e, rfl, by simp only [Instr.findAsking, Sem.run_bind, q1, Result.andThen_ok, if_true, Sem.run_pure], h2, Nat.le_refl _, by simp, ?_⟩
          rw [hry]
          simp only [Array.length_toList] at f1
          simp only [Instr.sameBits, f1, f2, beq_self_eq_true, Bool.and_self]
        · cases h
      · cases h
    · rename_i hs
      have q1 : (Op.equal kt (.agg rks) e.key).run P w = .ok false w := eq_sound (E := envOf P sp) rfl rfl 1000 Op.maxDepth kt _ _ _ _ false (by simp [Op.maxDepth]) hs hka h1 w
      rcases findA_sound hk es l' (i + 1) r h3 h with ⟨r1, r2⟩ | ⟨j, v', x, e', r1, r2, r3, r4, r5, r6⟩
      · exact .inl ⟨r1, by simp only [Instr.findAsking, Sem.run_bind, q1, Result.andThen_ok, Bool.false_eq_true, if_false]; exact r2⟩
      · refine .inr ⟨j, v', x, e', r1, by simp only [Instr.findAsking, Sem.run_bind, q1, Result.andThen_ok, Bool.false_eq_true, if_false]; exact r2, r3, by omega, ?_, r6⟩
        rw [show j - i = (j - (i + 1)) + 1 by omega, List.getElem?_cons_succ]
        exact r5
    · cases h

/-- Where a map has a key, in the model too. -/
theorem find_sound {sp : Nat → Option (List V → Heap → Option (CR × Heap))} {kt : TypeId} {kd : TypeDesc} (hu : P.underlying kt = some kd) {k : V} {rk : Value} (hk : Rel G w k rk) {es : List (V × V × Nat)} {l : List MapEntry} {r : Option (Nat × V)} (hm : RelM G w es l) (h : findIn (envOf P sp) kt kd k es = some r) :
    (∀ e, (Instr.checkKey e 10000 kt rk).run P w = .ok () w) ∧ ((r = none ∧ (Instr.findKey kt rk l).run P w = .ok none w) ∨ ∃ j v x e, r = some (j, v) ∧ (Instr.findKey kt rk l).run P w = .ok (some (j, x)) w ∧ Rel G w v x ∧ l[j]? = some e ∧ Instr.sameBits 10000 e.key rk = true) := by
  unfold findIn at h
  rw [cond_eq_ite] at h
  split at h
  · rename_i hp
    refine ⟨fun e => run_checkKey hu hp e 9999 rk, ?_⟩
    rcases findV_sound hk es l 0 r hm h with ⟨r1, r2⟩ | ⟨j, v', x, e', r1, r2, r3, r4, r5, r6⟩
    · exact .inl ⟨r1, run_findKey hu r2⟩
    · exact .inr ⟨j, v', x, e', r1, run_findKey hu r2, r3, by simpa using r5, r6⟩
  · split at h
    · rename_i fs cs _
      rw [cond_eq_ite] at h
      split at h
      · rename_i hkf
        simp only [Rel] at hk
        obtain ⟨rcs, rfl, hk⟩ := hk
        refine ⟨fun e => ?_, ?_⟩
        · rw [show (10000 : Nat) = 9998 + 1 + 1 from rfl, Instr.checkKey]
          simp only [Sem.run_bind, run_underlying hu, Result.andThen_ok]
          rw [← Array.forIn_toList]
          have := checkKey_fields (P := P) (n := 9998) (e := e) hk w fs.toList hkf
          rw [this]
          rfl
        · have hfk : ∀ x, (Instr.findAsking kt (.agg rcs) l 0).run P w = .ok x w → (Instr.findKey kt (.agg rcs) l).run P w = .ok x w := by
            intro x hx
            cases l with
            | nil =>
              have h0 : x = none := by
                simp [Instr.findAsking] at hx
                exact hx.symm
              subst h0
              simp [Instr.findKey, run_underlying hu, Instr.findNow]
            | cons e l =>
              simp only [Instr.findKey, Sem.run_bind, run_underlying hu, Result.andThen_ok, Instr.findNow, Instr.sameNow]
              exact hx
          rcases findA_sound hk es l 0 r hm h with ⟨r1, r2⟩ | ⟨j, v', x, e', r1, r2, r3, r4, r5, r6⟩
          · exact .inl ⟨r1, hfk _ r2⟩
          · exact .inr ⟨j, v', x, e', r1, hfk _ r2, r3, by simpa using r5, r6⟩
      · cases h
    · cases h

theorem op_makeMap (hs : Sim H G w) (e : SimFr G w fr a) {t kt et : TypeId} {ti : TI} (ht : typeOf P t = some ti) (hti : ti.under = .map kt et) {r : Option Operand} (ho : o.op = .makeMap t r) (hr : ∀ x, r = some x → ∃ k n, opd fr H x = some (.int k n)) :
    OpOk P o a H G w (H.new (.map [] 0)) (.val (.map H.next)) := by
  have hus : P.underlying t = some (.map kt et) := hti ▸ (typeOf_some ht).1
  have hstep := hs.new (.map [] 0) (.map #[] 0) 0 (fun _ g b sh n hg => by
    simp only [addG] at hg
    by_cases h0 : g = 0
    · rw [if_pos ⟨trivial, h0⟩] at hg
      cases hg
      exact ⟨h0, #[], heap_push_self _ _, by simp [RelM]⟩
    · rw [if_neg (fun x => h0 x.2), hs.fresh] at hg; cases hg)
  refine ⟨.map (some w.heap.size), _, _, ?_, hstep, ?_⟩
  · cases r with
    | none => simp [execOp, ho, Instr.makeMap]; rfl
    | some x =>
      obtain ⟨k, n, hx⟩ := hr x rfl
      have h1 := opd_sound hs e hx
      simp only [Rel] at h1
      simp [execOp, ho, Instr.makeMap, h1, run_underlying hus, asInt, asIntOf]; rfl
  · simp only [Rel]
    exact ⟨w.heap.size, 0, 0, addG_self _ _ _ _, rfl⟩

theorem op_lookup {sp : Nat → Option (List V → Heap → Option (CR × Heap))} (hs : Sim H G w) (e : SimFr G w fr a) {t kt et : TypeId} {ti ki ei : TI} (ht : typeOf P t = some ti) (hti : ti.under = .map kt et) (hk : typeOf P kt = some ki) (he : typeOf P et = some ei) {x y : Operand} {ok : Bool} (ho : o.op = .lookup t x y ok) {m k : V}
    {r : Option (Nat × V)} (h : (match m with
        | .nilm => findIn (envOf P sp) kt ki.under k []
        | .map nm => match H.get nm with
          | some (.map es _) => findIn (envOf P sp) kt ki.under k es
          | _ => none
        | _ => none : Option (Option (Nat × V))) = some r) (hx : opd fr H x = some m) (hy : opd fr H y = some k) : OpOk P o a H G w H (match r with
          | some (_, x) => .val (if ok then .tuple [x, .bool true] else x)
          | none => .val (if ok then .tuple [ei.zero, .bool false] else ei.zero)) := by
  have hus : P.underlying t = some (.map kt et) := hti ▸ (typeOf_some ht).1
  have huk := (typeOf_some hk).1
  have rm := opd_sound hs e hx
  have rk := opd_sound hs e hy
  obtain ⟨z, hz, _, hzr⟩ := run_zeroValue' he w
  obtain ⟨rmv, hrm⟩ : ∃ rmv, rmv = a.eval x := ⟨_, rfl⟩
  obtain ⟨rkv, hrk⟩ : ∃ rkv, rkv = a.eval y := ⟨_, rfl⟩
  rw [← hrm] at rm
  rw [← hrk] at rk
  have hex : execOp a.eval o = (do let v ← Instr.lookup t rmv rkv ok; pure (.value v)) := by simp only [execOp, ho, hrm, hrk]
  have main : ∀ (es : List (V × V × Nat)) (res : Array MapEntry), RelM G w es res.toList → findIn (envOf P sp) kt ki.under k es = some r →
      (∀ r', (Instr.findKey kt rkv res.toList).run P w = .ok r' w → (∀ e, (Instr.checkKey e 10000 kt rkv).run P w = .ok () w) → (Instr.lookup t rmv rkv ok).run P w = .ok (match r' with
          | some (_, v) => if ok then .tuple #[v, .bool true] else v
          | none => if ok then .tuple #[z, .bool false] else z) w) →
      OpOk P o a H G w H (match r with
          | some (_, x) => .val (if ok then .tuple [x, .bool true] else x)
          | none => .val (if ok then .tuple [ei.zero, .bool false] else ei.zero)) := by
    intro es res hm hf hrun
    obtain ⟨hp, hf⟩ := find_sound huk rk hm hf
    rcases hf with ⟨rfl, r2⟩ | ⟨j, v, x', e', rfl, r2, r3, _⟩
    · have h1 := hrun _ r2 hp
      refine OpOk.pure hs (x := if ok then .tuple #[z, .bool false] else z) (by rw [hex]; simp only [Sem.run_bind, h1, Result.andThen_ok, Sem.run_pure]) ?_
      cases ok with
      | true =>
        simp only [if_true, Rel]
        exact ⟨_, rfl, RelL.cons (hzr G w) (RelL.cons (by simp only [Rel]) RelL.nil)⟩
      | false => exact hzr G w
    · have h1 := hrun _ r2 hp
      refine OpOk.pure hs (x := if ok then .tuple #[x', .bool true] else x') (by rw [hex]; simp only [Sem.run_bind, h1, Result.andThen_ok, Sem.run_pure]) ?_
      cases ok with
      | true =>
        simp only [if_true, Rel]
        exact ⟨_, rfl, RelL.cons r3 (RelL.cons (by simp only [Rel]) RelL.nil)⟩
      | false => exact r3
  cases m with
  | nilm =>
    simp only [Rel] at rm
    refine main [] #[] (by simp [RelM]) h (fun r' hr' hp => ?_)
    subst rm
    have hck := hp true
    have hr'' : (Instr.findKey kt rkv []).run P w = .ok r' w := hr'
    simp only [Instr.lookup, Sem.run_bind, run_underlying hus, Result.andThen_ok, Sem.run_pure, hck, hr'', List.isEmpty_toArray, List.isEmpty_nil]
    cases r' with
    | none => simp [hz]; try (cases ok <;> rfl)
    | some q => obtain ⟨q1, q2⟩ := q; simp; try (cases ok <;> rfl)
  | map nm =>
    simp only at h
    split at h
    · rename_i es ck hom
      simp only [Rel] at rm
      obtain ⟨b, sh, n, hg, rfl⟩ := rm
      obtain ⟨_, res, hb, hrm'⟩ := hs.obj nm _ (hs.lt _ _ _ _ _ hg).2 hom 0 b sh n hg
      refine main es res hrm' h (fun r' hr' hp => ?_)
      have hck := hp res.isEmpty
      have hgo : (getObj b).run P w = .ok (.map res ck) w := by simp [getObj, Sem.run, hb]
      simp only [Instr.lookup, Sem.run_bind, run_underlying hus, Result.andThen_ok, Sem.run_pure, hgo, hck, hr']
      cases r' with
      | none => simp [hz]; try (cases ok <;> rfl)
      | some q => obtain ⟨q1, q2⟩ := q; simp; try (cases ok <;> rfl)
    · cases h
  | _ => cases h

theorem RelM.append {es es' : List (V × V × Nat)} : ∀ {l l' : List MapEntry}, RelM G w es l → RelM G w es' l' → RelM G w (es ++ es') (l ++ l') := by
  induction es with
  | nil => intro l l' h h'; simp only [RelM] at h; subst h; exact h'
  | cons e es ih =>
    intro l l' h h'
    obtain ⟨k, v, b⟩ := e
    simp only [RelM] at h
    obtain ⟨x, xs, rfl, h1, h2, h3, h4⟩ := h
    simp only [List.cons_append, RelM]
    exact ⟨x, xs ++ l', rfl, h1, h2, h3, ih h4 h'⟩

theorem RelM.modify {k x : V} {rk rx : Value} (hk : Rel G w k rk) (hx : Rel G w x rx) : ∀ {es : List (V × V × Nat)} {l : List MapEntry} (i : Nat), RelM G w es l → RelM G w (es.modify i fun e => (k, x, e.2.2)) (l.modify i fun e => { e with key := rk, val := rx })
  | [], l, i, h => by simp only [RelM] at h; subst h; cases i <;> simp [RelM]
  | (k', v, b) :: es, l, 0, h => by
    simp only [RelM] at h
    obtain ⟨y, ys, rfl, h1, h2, h3, h4⟩ := h
    simp only [List.modify_zero_cons, RelM]
    exact ⟨_, ys, rfl, hk, hx, h3, h4⟩
  | (k', v, b) :: es, l, i + 1, h => by
    simp only [RelM] at h
    obtain ⟨y, ys, rfl, h1, h2, h3, h4⟩ := h
    simp only [List.modify_succ_cons, RelM]
    exact ⟨y, _, rfl, h1, h2, h3, RelM.modify hk hx i h4⟩

theorem op_mapUpdate {sp : Nat → Option (List V → Heap → Option (CR × Heap))} (hs : Sim H G w) (e : SimFr G w fr a) {t kt et : TypeId} {ti ki : TI} (ht : typeOf P t = some ti) (hti : ti.under = .map kt et) (hk : typeOf P kt = some ki) {x y z : Operand} (ho : o.op = .mapUpdate t x y z ∨ o.op = .insert t x y z) {nm : Nat} {k v : V}
    (hx : opd fr H x = some (.map nm)) (hy : opd fr H y = some k) (hz : opd fr H z = some v) {es : List (V × V × Nat)} {ck : Nat} (hom : H.get nm = some (.map es ck)) {r : Option (Nat × V)} (h : findIn (envOf P sp) kt ki.under k es = some r) {H' : Heap}
    (hu : (match r with
      | some (i, _) => H.upd nm (.map (es.modify i fun e => (k, v, e.2.2)) ck)
      | none => H.upd nm (.map (es ++ [(k, v, ck)]) (ck + 1))) = some H') : OpOk P o a H G w H' .skip := by
  have hus : P.underlying t = some (.map kt et) := hti ▸ (typeOf_some ht).1
  have huk := (typeOf_some hk).1
  have rm := opd_sound hs e hx
  have rk := opd_sound hs e hy
  have rv := opd_sound hs e hz
  obtain ⟨rkv, hrk⟩ : ∃ rkv, rkv = a.eval y := ⟨_, rfl⟩
  obtain ⟨rvv, hrv⟩ : ∃ rvv, rvv = a.eval z := ⟨_, rfl⟩
  rw [← hrk] at rk
  rw [← hrv] at rv
  simp only [Rel] at rm
  obtain ⟨b, sh, n, hg, hrm⟩ := rm
  have hex : execOp a.eval o = (do Instr.mapUpdate t (.map (some b)) rkv rvv; pure .skip) := by
    rcases ho with ho | ho <;> simp only [execOp, ho, hrm, hrk, hrv]
  have hobj := hs.obj nm _ (hs.lt _ _ _ _ _ hg).2 hom
  obtain ⟨_, res, hb, hrel⟩ := hobj 0 b sh n hg
  obtain ⟨hp, hf⟩ := find_sound huk rk hrel h
  have hck := hp false
  have hgo : (getObj b).run P w = .ok (.map res ck) w := by simp [getObj, Sem.run, hb]
  have hset : ∀ ob, (setObj b ob).run P w = .ok () (setW w b ob) := fun ob => by simp [setObj, Sem.run, hb, setW]
  have hnc : w.shape? b = none := by simp only [World.shape?, hb]
  have fin : ∀ (es' : List (V × V × Nat)) (res' : Array MapEntry) (ck' : Nat), RelM G w es' res'.toList → H.upd nm (.map es' ck') = some H' → (Instr.mapUpdate t (.map (some b)) rkv rvv).run P w = .ok () (setW w b (.map res' ck')) → OpOk P o a H G w H' .skip := by
    intro es' res' ck' hr' hu' hrun
    obtain ⟨u1, rfl⟩ := upd_some hu'
    refine ⟨setW w b (.map res' ck'), G, by rw [hex]; simp only [Sem.run_bind, hrun, Result.andThen_ok, Sem.run_pure], hs.setObj _ hom hg u1 _ hb hnc (fun hext g' b' sh' m' hg' => ?_)⟩
    obtain ⟨f0, res2, f1, _⟩ := hobj g' b' sh' m' hg'
    subst f0
    rw [hg] at hg'
    cases hg'
    exact ⟨rfl, res', heap_setW_self hb, hr'.ext hext⟩
  rcases hf with ⟨rfl, r2⟩ | ⟨j, v', x', e', rfl, r2, r3, r5, r6⟩
  · refine fin _ (res.push { key := rkv, val := rvv, born := ck }) _ ?_ hu ?_
    · rw [Array.toList_push]
      exact hrel.append (by simp only [RelM]; exact ⟨_, [], rfl, rk, rv, rfl, rfl⟩)
    · simp only [Instr.mapUpdate, Sem.run_bind, run_underlying hus, Result.andThen_ok, hgo, hck, r2, hset]
  · refine fin _ (res.modify j fun e => { e with key := rkv, val := rvv }) _ ?_ hu ?_
    · rw [Array.toList_modify]
      exact RelM.modify rk rv j hrel
    · have hkey : ((res[j]?).map (·.key)).getD rkv = e'.key := by
        rw [Array.getElem?_toList] at r5
        rw [r5]; rfl
      have hst : (Instr.keyThatStays e'.key rkv).run P w = .ok rkv w := by
        simp only [Instr.keyThatStays, r6, if_true, Sem.run_pure]
      simp only [Instr.mapUpdate, Sem.run_bind, run_underlying hus, Result.andThen_ok, hgo, hck, r2, hkey, hst, hset]

/-- A range over a text begins. -/
theorem op_range (hs : Sim H G w) (e : SimFr G w fr a) {t : TypeId} {ti : TI} (ht : typeOf P t = some ti) (hti : ti.under = .string) {x : Operand} (ho : o.op = .range t x) {s : List UInt8} (hx : opd fr H x = some (.str s)) :
    OpOk P o a H G w (H.new (.siter s 0)) (.val (.ptr H.next 0 0 0)) := by
  have hus : P.underlying t = some .string := hti ▸ (typeOf_some ht).1
  have hstep := hs.new (.siter s 0) (.stringIter ⟨s.toArray⟩ 0) 0 (fun _ g b sh n hg => by
    simp only [addG] at hg
    by_cases h0 : g = 0
    · rw [if_pos ⟨trivial, h0⟩] at hg
      cases hg
      exact ⟨h0, heap_push_self _ _⟩
    · rw [if_neg (fun x => h0 x.2), hs.fresh] at hg; cases hg)
  have h1 := opd_sound hs e hx
  simp only [Rel] at h1
  refine ⟨.pointer (some ⟨w.heap.size, 0, none⟩), _, _, ?_, hstep, rel_newPtr⟩
  simp [execOp, ho, Instr.range, h1, run_underlying hus]
  rfl

/-- A round of a range over a text. -/
theorem op_next (hs : Sim H G w) (e : SimFr G w fr a) {x : Operand} (ho : o.op = .next x true) {nm g lim : Nat} (hx : opd fr H x = some (.ptr nm g 0 lim)) {s : List UInt8} {pos : Nat} (hom : H.get nm = some (.siter s pos)) {out : Out} {H' : Heap} (h : nextV H nm s pos = some (out, H')) :
    OpOk P o a H G w H' out := by
  have rm := opd_sound hs e hx
  simp only [Rel] at rm
  obtain ⟨b, sh, n, hg, h0, _, hrm⟩ := rm
  have hobj := hs.obj nm _ (hs.lt _ _ _ _ _ hg).2 hom
  obtain ⟨rfl, hb⟩ := hobj g b sh n hg
  have hsh : 0 - sh = 0 := by omega
  rw [hsh] at hrm
  have hgo : (getObj b).run P w = .ok (.stringIter ⟨s.toArray⟩ pos) w := by simp [getObj, Sem.run, hb]
  have hset : ∀ ob, (setObj b ob).run P w = .ok () (setW w b ob) := fun ob => by simp [setObj, Sem.run, hb, setW]
  have hnc : w.shape? b = none := by simp only [World.shape?, hb]
  have hsz : (⟨s.toArray⟩ : ByteArray).size = s.length := rfl
  have hex : execOp a.eval o = (do let v ← Instr.next (.pointer (some ⟨b, 0, none⟩)) true o.type; pure (.value v)) := by simp only [execOp, ho, hrm]
  unfold nextV at h
  rw [cond_eq_ite] at h
  split at h
  · rename_i hlt
    have hlt' : pos < s.length := by simpa using hlt
    obtain ⟨⟨c, wd⟩, hd⟩ : ∃ d, d = Utf8.decode ⟨s.toArray⟩ pos := ⟨_, rfl⟩
    rw [← hd] at h
    simp only [Option.map_eq_some_iff, Prod.mk.injEq] at h
    obtain ⟨H1, hu, rfl, rfl⟩ := h
    obtain ⟨u1, rfl⟩ := upd_some hu
    refine ⟨.tuple #[.bool true, goInt pos, .int .i32 c], setW w b (.stringIter ⟨s.toArray⟩ (pos + wd)), G, ?_, hs.setObj _ hom hg u1 _ hb hnc (fun hext g' b' sh' m' hg' => ?_), ?_⟩
    · rw [hex]
      simp only [Instr.next, Sem.run_bind, hgo, Result.andThen_ok, hsz, hlt', if_true, ← hd, hset, Sem.run_pure]
    · obtain ⟨f0, f1⟩ := hobj g' b' sh' m' hg'
      subst f0
      rw [hg] at hg'
      cases hg'
      exact ⟨rfl, heap_setW_self hb⟩
    · simp only [Rel]
      exact ⟨_, rfl, by simp [RelL, Rel, goIntV, goInt]⟩
  · rename_i hlt
    have hlt' : ¬ pos < s.length := by simpa using hlt
    cases h
    refine OpOk.pure hs (x := .tuple #[.bool false]) ?_ (by simp only [Rel]; exact ⟨_, rfl, by simp [RelL, Rel]⟩)
    rw [hex]
    simp only [Instr.next, Sem.run_bind, hgo, Result.andThen_ok, hsz, hlt', if_false, Sem.run_pure]

/-- A slice of an array, through its address. -/
theorem op_sliceArr (hs : Sim H G w) (e : SimFr G w fr a) {t el : TypeId} {len : Nat} {ti ei : TI} (ht : typeOf P t = some ti) (hu : ti.under = .array len el) (hel : typeOf P el = some ei) {x : Operand} {lo hi : Option Operand} (ho : o.op = .slice t x lo hi none) {nm g off lim : Nat} {vlo vhi : Option V} {v : V}
    (hp : opd fr H x = some (.ptr nm g off lim)) (h1 : opdO fr H lo = some vlo) (h2 : opdO fr H hi = some vhi) {cells : List V} {elem : TypeId} {gen floor frz : Nat} {exact : Bool} (hob : H.get nm = some (.row cells elem gen floor frz exact)) (hfl : floor ≤ g) (hlim : off + len * ei.size ≤ lim)
    (h : sliceV ei.size (.slice nm g off len ei.size (some len)) vlo vhi none = some v) : OpOk P o a H G w H (.val v) := by
  have hx := opd_sound hs e hp
  have hus : P.underlying t = some (.array len el) := hu ▸ (typeOf_some ht).1
  have r1 := opdO_sound hs e h1
  have r2 := opdO_sound hs e h2
  simp only [Rel] at hx
  obtain ⟨b, sh, n, q1, q4, q5, q2⟩ := hx
  obtain ⟨_, _, q⟩ := hs.obj nm _ (hs.lt _ _ _ _ _ q1).2 hob
  obtain ⟨_, k2, _, _, _, k5⟩ := q g b sh n q1
  obtain ⟨arr, fz, a1, a2, _⟩ := k5 hfl
  have q8 : w.shape? b = some (elem, arr.size) := by simp only [World.shape?, a1]
  have hbeq : Nat.beq ei.size ei.size = true := by rw [Nat.beq_eq]
  simp only [sliceV, hbeq, Bool.not_true, cond_false, Option.getD_some, Option.map_some, Option.bind_eq_some_iff, Option.map_eq_some_iff] at h
  obtain ⟨hh, h3, l, h4, rfl⟩ := h
  obtain ⟨b1, b2, b3⟩ := run_sliceBounds2 (P := P) (isSlice := false) (cap := len) r1 r2 h3 h4 (Nat.le_refl _) (Nat.le_refl _)
  have hs1 : l * ei.size ≤ hh * ei.size := Nat.mul_le_mul_right _ b1
  have hs2 : hh * ei.size ≤ len * ei.size := Nat.mul_le_mul_right _ b2
  have hs3 : (hh - l) * ei.size = hh * ei.size - l * ei.size := Nat.sub_mul _ _ _
  have hs4 : (len - l) * ei.size = len * ei.size - l * ei.size := Nat.sub_mul _ _ _
  have hcaps : ∀ k, some (len - l) = some k → len - l = k ∧ off + l * ei.size + k * ei.size ≤ n := by
    intro k hk
    cases hk
    exact ⟨rfl, by omega⟩
  refine OpOk.pure hs (x := .slice (some (if len = l then ⟨b, off - sh, none⟩ else ⟨b, off - sh + l * ei.size, none⟩)) (hh - l) (len - l)) ?_ ?_
  · simp only [execOp, ho, Option.map_none, Sem.run_bind, q2, Instr.sliceAt, run_underlying hus, Result.andThen_ok, Instr.sureAddr, b3, run_sizeOf' hel, Sem.run_pure, addr_add]
  · by_cases hcl : len = l
    · rw [if_pos hcl]
      simp only [Rel]
      exact ⟨b, sh, n, off - sh, len - l, elem, arr.size, q1, rfl, by omega, by omega, by omega, .inr (by omega), hcaps, q8, by omega⟩
    · rw [if_neg hcl]
      simp only [Rel]
      exact ⟨b, sh, n, off - sh + l * ei.size, len - l, elem, arr.size, q1, rfl, by omega, by omega, by omega, .inl (by omega), hcaps, q8, by omega⟩

/-- A slice taken shorter. -/
theorem Rel.shorter {nm g off len sz : Nat} {cap : Option Nat} {ad : Addr} {c m : Nat} (h : Rel G w (.slice nm g off len sz cap) (.slice (some ad) len c)) (hm : m ≤ len) : Rel G w (.slice nm g off m sz cap) (.slice (some ad) m c) := by
  simp only [Rel] at h ⊢
  obtain ⟨b, sh, n, ro, c', e, k, q1, q2, q3, q4, q5, q6, q7, q8, q9⟩ := h
  cases q2
  have : m * sz ≤ len * sz := Nat.mul_le_mul_right _ hm
  exact ⟨b, sh, n, ro, c, e, k, q1, rfl, by omega, q4, by omega, q6, q7, q8, q9⟩

/-- copy. -/
theorem op_copy (hs : Sim H G w) (e : SimFr G w fr a) {c : Go.Call} (ho : o.op = .call c) (hc : c.callee = .builtin .copy) {t u el : TypeId} {ti ei : TI} {nm g off len nm' g' off' len' : Nat} {cap cap' : Option Nat}
    (hargs : opds fr H c.args.toList = some [.slice nm g off len ei.size cap, .slice nm' g' off' len' ei.size cap']) (hat : c.argTypes.toList = [t, u]) (ht : typeOf P t = some ti) (hti : ti.under = .slice el) (hel : typeOf P el = some ei) {r : Nat × List V}
    (hr : elemsV H ei.size (.slice nm' g' off' (min len' len) ei.size cap') = some r) {H' : Heap} (hw : (if min len' len = 0 then some H else writeCells H r.2 (.ptr nm g off (off + len * ei.size))) = some H') :
    OpOk P o a H G w H' (.val (goIntV (min len' len))) := by
  obtain ⟨hra, cs', hb⟩ := op_builtin hs e ho hc hargs (P := P)
  obtain ⟨rx, ry, h1, h2, h3⟩ := two_args hra
  rw [h1, toArr hat] at hb
  have hus : P.underlying t = some (.slice el) := hti ▸ (typeOf_some ht).1
  have h2' := h2
  have h3' := h3
  simp only [Rel] at h2' h3'
  obtain ⟨b, sh, n, ro, cc, e1, k, q1, rfl, q3, q4, q5, q6, q7, q8, q9⟩ := h2'
  obtain ⟨b', sh', n', ro', cc', e1', k', q1', rfl, q3', q4', q5', q6', q7', q8', q9'⟩ := h3'
  obtain ⟨rl, m1, m2, m3⟩ := elems_sound hs (h3.shorter (Nat.min_le_left len' len)) hr
  obtain ⟨m4, m5⟩ := m3 w rfl
  have hn : r.1 = min len' len := by
    simp only [Builtin.lenOf] at m4
    have := congrArg (fun x => match x with | Result.ok n _ => n | _ => 0) m4
    simpa using this.symm
  rw [hn] at m5
  have hmin : Nat.min len' len = min len' len := rfl
  have hfc : (Builtin.firstCells ei.size (min len' len) (.slice (some ⟨b', ro', none⟩) len' cc')).run P w = .ok rl.toArray w := m5
  have hrest : (Builtin.copy_ #[t, u] o.type #[.slice (some ⟨b, ro, none⟩) len cc, .slice (some ⟨b', ro', none⟩) len' cc']).run P w = ((storeCells ⟨b, ro, none⟩ rl).run P w).andThen fun _ w' => .ok (goInt ((min len' len : Nat) : Int)) w' := by
    simp [Builtin.copy_, run_underlying hus, Builtin.lenOf, run_sizeOf' hel, hmin, hfc]
  by_cases h0 : min len' len = 0
  · rw [if_pos h0] at hw
    cases hw
    have hrl : rl = [] := by
      have := m1.length
      rw [m2, hn, h0, Nat.zero_mul] at this
      exact List.length_eq_zero_iff.1 this.symm
    subst hrl
    refine OpOk.pure hs (x := goInt ((min len' len : Nat) : Int)) ?_ (by simp only [goIntV, Rel]; rfl)
    rw [hb]
    simp only [builtin, Sem.run_bind, hrest, storeCells, Sem.run_pure, Result.andThen_ok]
  · rw [if_neg h0] at hw
    have hp : Rel G w (.ptr nm g off (off + len * ei.size)) (.pointer (some ⟨b, ro, none⟩)) := by
      simp only [Rel]
      have : ro = off - sh := by omega
      exact ⟨b, sh, n, q1, q4, q5, by rw [this]⟩
    obtain ⟨ad, w', e2, e3, e4⟩ := writeCells_sound hs hp m1 hw P
    cases e2
    refine ⟨goInt ((min len' len : Nat) : Int), w', G, ?_, e4, by simp only [goIntV, Rel]; rfl⟩
    rw [hb]
    simp only [builtin, Sem.run_bind, hrest, e3, Sem.run_pure, Result.andThen_ok]


/-- clear of a slice that has nothing. -/
theorem op_clear0 (hs : Sim H G w) (e : SimFr G w fr a) {c : Go.Call} (ho : o.op = .call c) (hc : c.callee = .builtin .clear) {x : V} (hargs : opds fr H c.args.toList = some [x]) {t el : TypeId} {ti : TI} (hat : c.argTypes.toList = [t]) (ht : typeOf P t = some ti) (hti : ti.under = .slice el)
    (hx : x = .nils ∨ ∃ nm g off sz cap, x = .slice nm g off 0 sz cap) : OpOk P o a H G w H (.val (.tuple [])) := by
  obtain ⟨hra, cs', hb⟩ := op_builtin hs e ho hc hargs (P := P)
  obtain ⟨rx, h1, h2⟩ := one_arg hra
  rw [h1, toArr hat] at hb
  have hus : P.underlying t = some (.slice el) := hti ▸ (typeOf_some ht).1
  refine OpOk.pure hs (x := .tuple #[]) ?_ (by simp only [Rel]; exact ⟨_, rfl, RelL.nil⟩)
  rw [hb]
  rcases hx with rfl | ⟨nm, g, off, sz, cap, rfl⟩
  · simp only [Rel] at h2
    subst h2
    simp [builtin, Builtin.clear_, run_underlying hus]
  · simp only [Rel] at h2
    obtain ⟨b, sh, n, ro, cc, e1, k, q1, rfl, _⟩ := h2
    simp [builtin, Builtin.clear_, run_underlying hus]

/-- clear. -/
theorem op_clear (hs : Sim H G w) (e : SimFr G w fr a) {c : Go.Call} (ho : o.op = .call c) (hc : c.callee = .builtin .clear) {nm g off len : Nat} {cap : Option Nat} {t el : TypeId} {ti ei : TI} (hargs : opds fr H c.args.toList = some [.slice nm g off len ei.size cap]) (hat : c.argTypes.toList = [t]) (ht : typeOf P t = some ti) (hti : ti.under = .slice el)
    (hel : typeOf P el = some ei) (h0 : ¬ len = 0) {H' : Heap} (hw : writeCells H (List.replicate len ei.zero.cells).flatten (.ptr nm g off (off + len * ei.size)) = some H') : OpOk P o a H G w H' (.val (.tuple [])) := by
  obtain ⟨hra, cs', hb⟩ := op_builtin hs e ho hc hargs (P := P)
  obtain ⟨rx, h1, h2⟩ := one_arg hra
  rw [h1, toArr hat] at hb
  have hus : P.underlying t = some (.slice el) := hti ▸ (typeOf_some ht).1
  obtain ⟨z, hz, _, hzr⟩ := run_zeroValue' hel w
  have hz0 := zero_cells (relL_cells (hzr G w)) len
  simp only [Rel] at h2
  obtain ⟨b, sh, n, ro, cc, e1, k, q1, rfl, q3, q4, q5, q6, q7, q8, q9⟩ := h2
  have hsz : 0 ≤ len * ei.size := Nat.zero_le _
  obtain ⟨m, rfl⟩ : ∃ m, len = m + 1 := ⟨len - 1, by omega⟩
  have hp : Rel G w (.ptr nm g off (off + (m + 1) * ei.size)) (.pointer (some ⟨b, ro, none⟩)) := by
    simp only [Rel]
    have : ro = off - sh := by omega
    exact ⟨b, sh, n, q1, q4, q5, by rw [this]⟩
  obtain ⟨ad, w', e2, e3, e4⟩ := writeCells_sound hs hp hz0 hw P
  cases e2
  refine ⟨.tuple #[], w', G, ?_, e4, by simp only [Rel]; exact ⟨_, rfl, RelL.nil⟩⟩
  rw [hb]
  have e3' : (storeCells ⟨b, ro, none⟩ (Builtin.zeroCells z.cells (m + 1)).toList).run P w = .ok () w' := e3
  simp [builtin, Builtin.clear_, run_underlying hus, hz, e3']

/-- x.(t), t no interface type. -/
theorem op_typeAssert (hs : Sim H G w) (e : SimFr G w fr a) {t xt : TypeId} {ti : TI} (ht : typeOf P t = some ti) (hni : ∀ ms, ti.under ≠ .interface ms) {x : Operand} {ok : Bool} (ho : o.op = .typeAssert x xt t ok) {p v : V} (hp : opd fr H x = some p) (h : assertV t ti.zero ok p = some v) :
    OpOk P o a H G w H (.val v) := by
  have hx := opd_sound hs e hp
  have hus := (typeOf_some ht).1
  obtain ⟨z, hz, _, hzr⟩ := run_zeroValue' ht w
  obtain ⟨rx, hrx⟩ : ∃ rx, rx = a.eval x := ⟨_, rfl⟩
  rw [← hrx] at hx
  have hex : execOp a.eval o = (do let v ← Instr.typeAssert rx xt t ok; pure (.value v)) := by simp only [execOp, ho, hrx]
  have htup : ∀ {q : V} {rq : Value} {b : Bool}, Rel G w q rq → Rel G w (.tuple [q, .bool b]) (.tuple #[rq, .bool b]) := by
    intro q rq b hq
    simp only [Rel]
    exact ⟨_, rfl, RelL.cons hq (RelL.cons (by simp only [Rel]) RelL.nil)⟩
  have fin : ∀ {r : Value}, (Instr.typeAssert rx xt t ok).run P w = .ok r w → Rel G w v r → OpOk P o a H G w H (.val v) := by
    intro r hr hv
    exact OpOk.pure hs (by rw [hex]; simp only [Sem.run_bind, hr, Result.andThen_ok, Sem.run_pure]) hv
  cases p with
  | nili =>
    simp only [Rel] at hx
    cases ok with
    | false => simp [assertV] at h
    | true =>
      simp only [assertV, cond_true, Option.some.injEq] at h
      subst h
      refine fin (r := .tuple #[z, .bool false]) ?_ (htup (hzr G w))
      subst hx
      cases hu : ti.under with
      | interface ms => exact absurd hu (hni ms)
      | _ => rw [hu] at hus; simp [Instr.typeAssert, run_underlying hus, hz]
  | iface u y =>
    simp only [Rel] at hx
    obtain ⟨ry, rfl, hy⟩ := hx
    simp only [assertV, cond_eq_ite, Nat.beq_eq] at h
    by_cases hut : u = t
    · rw [if_pos hut] at h
      cases h
      refine fin (r := if ok then .tuple #[ry, .bool true] else ry) ?_ ?_
      · cases hu : ti.under with
        | interface ms => exact absurd hu (hni ms)
        | _ => rw [hu] at hus; simp [Instr.typeAssert, run_underlying hus, hut]
      · cases ok with
        | true => exact htup hy
        | false => exact hy
    · rw [if_neg hut] at h
      cases ok with
      | false => simp at h
      | true =>
        simp only [if_true, Option.some.injEq] at h
        subst h
        refine fin (r := .tuple #[z, .bool false]) ?_ (htup (hzr G w))
        cases hu : ti.under with
        | interface ms => exact absurd hu (hni ms)
        | _ => rw [hu] at hus; simp [Instr.typeAssert, run_underlying hus, hut, hz]
  | _ => simp [assertV] at h

end
end Go.E2
