/- E2: A REGION THAT DRAWS ITS ORDER, whole. -/
import Derived.Test.YtjbefleabibmmaaGreatDoorE2q
namespace Go.E2
open Go

/-! ### Who stands before whom -/
def valB (acc : Array Nat) (o : Oper) : Nat := o.after.foldl (fun s e => if Region.binds .any e then s ||| 2 ^ e.on ||| acc.getD e.on 0 else s) 0

theorem valB_list (acc : Array Nat) (o : Oper) : valB acc o = o.after.toList.foldl (fun s e => if Region.binds .any e then s ||| 2 ^ e.on ||| acc.getD e.on 0 else s) 0 := by
  unfold valB; rw [Array.foldl_toList]

theorem bits_foldl (acc : Array Nat) (k : Nat) : ∀ (l : List Edge) (s : Nat), (l.foldl (fun s e => if Region.binds .any e then s ||| 2 ^ e.on ||| acc.getD e.on 0 else s) s).testBit k = true →
    s.testBit k = true ∨ ∃ e ∈ l, Region.binds .any e = true ∧ (k = e.on ∨ (acc.getD e.on 0).testBit k = true)
  | [], s, h => .inl h
  | e :: l, s, h => by
    simp only [List.foldl_cons] at h
    rcases bits_foldl acc k l _ h with h1 | ⟨e', he, h1⟩
    · by_cases hb : Region.binds .any e = true
      · rw [if_pos hb, Nat.testBit_or, Nat.testBit_or, Bool.or_eq_true, Bool.or_eq_true] at h1
        rcases h1 with (h1 | h1) | h1
        · exact .inl h1
        · rw [Nat.testBit_two_pow, decide_eq_true_eq] at h1
          exact .inr ⟨e, List.mem_cons_self, hb, .inl h1.symm⟩
        · exact .inr ⟨e, List.mem_cons_self, hb, .inr h1⟩
      · rw [if_neg hb] at h1; exact .inl h1
    · exact .inr ⟨e', List.mem_cons_of_mem _ he, h1⟩

theorem foldl_same (acc acc' : Array Nat) : ∀ (l : List Edge) (s : Nat), (∀ e ∈ l, Region.binds .any e = true → acc.getD e.on 0 = acc'.getD e.on 0) →
    l.foldl (fun s e => if Region.binds .any e then s ||| 2 ^ e.on ||| acc.getD e.on 0 else s) s = l.foldl (fun s e => if Region.binds .any e then s ||| 2 ^ e.on ||| acc'.getD e.on 0 else s) s
  | [], _, _ => rfl
  | e :: l, s, h => by
    simp only [List.foldl_cons]
    by_cases hb : Region.binds .any e = true
    · rw [h e List.mem_cons_self hb]
      exact foldl_same acc acc' l _ (fun e' he => h e' (List.mem_cons_of_mem _ he))
    · rw [if_neg hb, if_neg hb]
      exact foldl_same acc acc' l _ (fun e' he => h e' (List.mem_cons_of_mem _ he))

theorem valB_same {acc acc' : Array Nat} {o : Oper} (h : ∀ e ∈ o.after, Region.binds .any e = true → acc.getD e.on 0 = acc'.getD e.on 0) : valB acc o = valB acc' o := by
  rw [valB_list, valB_list]
  exact foldl_same _ _ _ _ (fun e he => h e (Array.mem_toList_iff.1 he))

theorem before_good {all : Array Oper} (hb : ∀ (j : Nat) (o : Oper), all[j]? = some o → ∀ e ∈ o.after, Region.binds .any e = true → e.on < j) : ∀ (l : List Oper) (acc : Array Nat), all.toList.drop acc.size = l →
    (∀ j o, j < acc.size → all[j]? = some o → acc.getD j 0 = valB acc o) →
    ∀ j o, all[j]? = some o → (l.foldl (fun acc o => acc.push (valB acc o)) acc).getD j 0 = valB (l.foldl (fun acc o => acc.push (valB acc o)) acc) o
  | [], acc, hl, hg, j, o, ho => by
    have : all.size ≤ acc.size := by
      have := congrArg List.length hl
      simp at this; omega
    have hj : j < all.size := by
      rw [Array.getElem?_eq_some_iff] at ho; exact ho.1
    exact hg j o (by omega) ho
  | x :: l, acc, hl, hg, j, o, ho => by
    simp only [List.foldl_cons]
    have hx : all[acc.size]? = some x := by
      have : all.toList[acc.size]? = some x := by
        have h0 : (all.toList.drop acc.size)[0]? = some x := by rw [hl]; rfl
        simpa using h0
      simpa using this
    have hold : ∀ j, j < acc.size → (acc.push (valB acc x)).getD j 0 = acc.getD j 0 := by
      intro j hj
      simp [Array.getElem?_push_lt hj, Array.getElem?_eq_getElem hj]
    refine before_good hb l (acc.push (valB acc x)) ?_ (fun j o hj ho => ?_) j o ho
    · rw [Array.size_push, ← List.drop_drop (i := 1) (j := acc.size)]
      rw [hl]; rfl
    · rw [Array.size_push] at hj
      have hsame : ∀ e ∈ o.after, Region.binds .any e = true → acc.getD e.on 0 = (acc.push (valB acc x)).getD e.on 0 := fun e he hbd => (hold _ (by have := hb j o ho e he hbd; omega)).symm
      by_cases hlt : j < acc.size
      · rw [hold j hlt, hg j o hlt ho]; exact valB_same hsame
      · have hje : j = acc.size := by omega
        subst hje
        rw [hx] at ho
        cases ho
        have : (acc.push (valB acc x)).getD acc.size 0 = valB acc x := by simp
        rw [this]; exact valB_same hsame

theorem before_bit {all : Array Oper} (hb : ∀ (j : Nat) (o : Oper), all[j]? = some o → ∀ e ∈ o.after, Region.binds .any e = true → e.on < j) {j k : Nat} {o : Oper} (ho : all[j]? = some o) (h : ((Region.before all).getD j 0).testBit k = true) :
    ∃ e ∈ o.after, Region.binds .any e = true ∧ (k = e.on ∨ ((Region.before all).getD e.on 0).testBit k = true) := by
  have he : Region.before all = all.toList.foldl (fun acc o => acc.push (valB acc o)) #[] := by
    unfold Region.before
    rw [← Array.foldl_toList]; rfl
  have hg := before_good hb all.toList #[] (by simp) (fun j o hj => by simp at hj) j o ho
  rw [← he] at hg
  rw [hg, valB_list] at h
  rcases bits_foldl _ _ _ _ h with h1 | ⟨e, h1, h2⟩
  · simp at h1
  · exact ⟨e, Array.mem_toList_iff.1 h1, h2⟩

section
variable {P : Program} {sp : Nat → Option (List V → Heap → Option (CR × Heap))} {call : Call} {all : Array Oper} {fr0 : Fr} {H0 : Heap} {G0 : Ghost} {w0 : World} {N : Nat} {F : Fence} {n : Nat} {Q : Exit → Act → World → Prop}

theorem ready_iff {listed : Array Bool} {i : Nat} : i ∈ Region.ready .any all listed ↔ i < all.size ∧ listed.getD i true = false ∧ ∃ o, all[i]? = some o ∧ ∀ e ∈ o.after, Region.binds .any e = true → listed.getD e.on false = true := by
  unfold Region.ready
  rw [List.mem_filter, List.mem_range]
  constructor
  · rintro ⟨h1, h2⟩
    rw [Bool.and_eq_true, Bool.not_eq_true'] at h2
    obtain ⟨h2, h3⟩ := h2
    refine ⟨h1, h2, ?_⟩
    have ho : all[i]? = some all[i] := Array.getElem?_eq_getElem h1
    refine ⟨_, ho, fun e he hb => ?_⟩
    rw [ho, Option.map_some, Option.getD_some, Array.all_eq_true'] at h3
    have := h3 e he
    rw [hb] at this
    simpa using this
  · rintro ⟨h1, h2, o, ho, h3⟩
    refine ⟨h1, ?_⟩
    rw [Bool.and_eq_true, Bool.not_eq_true']
    refine ⟨h2, ?_⟩
    rw [ho, Option.map_some, Option.getD_some, Array.all_eq_true']
    intro e he
    by_cases hb : Region.binds .any e = true
    · rw [h3 e he hb]; simp
    · simp [hb]

/-- In whatever order. -/
theorem any_sound (hc : CallOk P call) (hF : WideF F) (hg0 : H0.glob ≤ H0.ro) (hb : ∀ (j : Nat) (o : Oper), all[j]? = some o → ∀ e ∈ o.after, Region.binds .any e = true → e.on < j) (sfin : Loc → Val)
    (hQ : ∀ G a w, Mid fr0 H0 G0 w0 N [] sfin G a w → Q .normal a w) :
    ∀ (m : Nat) (R : List It) (listed : Array Bool) (s : Loc → Val) (G : Ghost) (a : Act) (w : World), R.length = m → listed.size = all.size → (∀ i, i < all.size → (listed.getD i true = false ↔ ∃ t ∈ R, t.i = i)) →
      (∀ j k, j < all.size → listed.getD j true = true → ((Region.before all).getD j 0).testBit k = true → listed.getD k true = true) →
      (∀ t ∈ R, ItOk (envOf P sp) call all fr0 H0 t ∧ t.K'.next ≤ N) → R.Pairwise (Rl (Region.before all) all) → validRW (R.map (It.rw all)) s → runRW (R.map (It.rw all)) s = sfin → Mid fr0 H0 G0 w0 N R s G a w →
      wpAnyIn F n P .any all Q m listed a w := by
  intro m
  induction m with
  | zero =>
    intro R listed s G a w hlen hsz hli hdc hok hpw hval hrun hmid
    have hR : R = [] := List.eq_nil_of_length_eq_zero hlen
    subst hR
    refine ⟨?_, ?_⟩
    · rw [List.eq_nil_iff_forall_not_mem]
      intro i hi
      obtain ⟨h1, h2, _⟩ := ready_iff.1 hi
      obtain ⟨t, ht, _⟩ := (hli i h1).1 h2
      cases ht
    · have : s = sfin := hrun
      subst this
      exact hQ _ _ _ hmid
  | succ m ih =>
    intro R listed s G a w hlen hsz hli hdc hok hpw hval hrun hmid
    have hlt : ∀ t ∈ R, t.i < all.size := fun t ht => by
      have := (hok t ht).1.op
      rw [Array.getElem?_eq_some_iff] at this
      exact this.1
    refine ⟨fun hnil => ?_, fun i hi => ?_⟩
    · exfalso
      obtain ⟨r, R', rfl⟩ : ∃ r R', R = r :: R' := by
        cases R with
        | nil => simp at hlen
        | cons r R' => exact ⟨r, R', rfl⟩
      have hr := hlt r List.mem_cons_self
      have hmem : r.i ∈ Region.ready .any all listed := by
        refine ready_iff.2 ⟨hr, (hli r.i hr).2 ⟨r, List.mem_cons_self, rfl⟩, r.o, (hok r List.mem_cons_self).1.op, fun e he hbd => ?_⟩
        have hon := hb _ _ (hok r List.mem_cons_self).1.op e he hbd
        have hnot : ¬ listed.getD e.on true = false := by
          intro hq
          obtain ⟨t, ht, hti⟩ := (hli e.on (by omega)).1 hq
          rcases List.mem_cons.1 ht with rfl | ht
          · omega
          · have := ((List.pairwise_cons.1 hpw).1 t ht).1; omega
        have hlt' : e.on < listed.size := by omega
        simp only [Array.getD_eq_getD_getElem?, Array.getElem?_eq_getElem hlt', Option.getD_some] at hnot ⊢
        simpa using hnot
      rw [hnil] at hmem
      cases hmem
    · obtain ⟨h1, h2, o, ho, h3⟩ := ready_iff.1 hi
      obtain ⟨t, ht, hti⟩ := (hli i h1).1 h2
      obtain ⟨A, B, rfl⟩ := List.append_of_mem ht
      obtain ⟨hokt, hN⟩ := hok t ht
      have hop := hokt.op
      rw [hti, ho] at hop
      cases hop
      rw [List.pairwise_append] at hpw
      obtain ⟨pA, pB, pAB⟩ := hpw
      obtain ⟨pB1, pB2⟩ := List.pairwise_cons.1 pB
      have hA : ∀ k ∈ A, k.K'.next ≤ t.K.next ∧ (k.rw all).dis (t.rw all) := by
        intro k hk
        obtain ⟨q1, q2, q3⟩ := pAB k hk t List.mem_cons_self
        refine ⟨q2, q3.resolve_left (fun hord => ?_)⟩
        unfold ordB at hord
        rw [hti] at hord
        obtain ⟨e, he, hbind, hor⟩ := before_bit hb ho hord
        have hl := h3 e he hbind
        have hon := hb _ _ ho e he hbind
        have hlt' : e.on < listed.size := by omega
        have hl' : listed.getD e.on true = true := by
          simp only [Array.getD_eq_getD_getElem?, Array.getElem?_eq_getElem hlt', Option.getD_some] at hl ⊢; exact hl
        have hkl : listed.getD k.i true = true := by
          rcases hor with h | h
          · rw [h]; exact hl'
          · exact hdc e.on k.i (by omega) hl' h
        have hkf := (hli k.i (hlt k (List.mem_append.2 (.inl hk)))).2 ⟨k, List.mem_append.2 (.inl hk), rfl⟩
        rw [hkl] at hkf
        cases hkf
      have hB : ∀ k ∈ B, t.K'.next ≤ k.K.next := fun k hk => (pB1 k hk).2.1
      rw [List.map_append, List.map_cons] at hval hrun
      obtain ⟨v1, v2, v3⟩ := takeRW (A.map (It.rw all)) (t.rw all) (B.map (It.rw all)) s (fun x hx => by
        obtain ⟨k, hk, rfl⟩ := List.mem_map.1 hx
        exact (hA k hk).2) hval
      obtain ⟨ms, mf⟩ := hmid.sim hg0 hokt hN v1
      have hmem : ∀ k, k ∈ A ++ B → k ∈ A ++ t :: B := by
        intro k hk
        rcases List.mem_append.1 hk with h | h
        · exact List.mem_append.2 (.inl h)
        · exact List.mem_append.2 (.inr (List.mem_cons_of_mem _ h))
      have hnoti : ∀ k ∈ A ++ B, k.i ≠ t.i := by
        intro k hk
        rcases List.mem_append.1 hk with h | h
        · have := (pAB k h t List.mem_cons_self).1; omega
        · have := (pB1 k h).1; omega
      unfold wpOpIn
      rw [ho]
      refine runOp_sound hc hF ms mf hokt.run (fun v y w' G' hv st hy => ?_) (fun w' G' ch rch hx => by cases hx)
      cases hv
      refine ih (A ++ B) (listed.setIfInBounds i true) ((t.rw all).app s) _ _ w' (by simp at hlen ⊢; omega) (by simp [hsz]) (fun j hj => ?_) (fun j k hj hjl hbit => ?_) (fun k hk => hok k (hmem k hk)) ?_ (by rw [List.map_append]; exact v2)
        (by rw [List.map_append, v3]; exact hrun) (hmid.step hokt hN v1 hA hB st hy)
      · by_cases hji : j = i
        · subst hji
          have : (listed.setIfInBounds j true).getD j true = true := by simp [Array.getElem?_setIfInBounds_self]; split <;> simp
          rw [this]
          refine ⟨fun h => (Bool.noConfusion h), fun ⟨k, hk, hki⟩ => (hnoti k hk (by omega)).elim⟩
        · have : (listed.setIfInBounds i true).getD j true = listed.getD j true := by
            simp [Array.getElem?_setIfInBounds_ne (Ne.symm hji)]
          rw [this, hli j hj]
          constructor
          · rintro ⟨k, hk, rfl⟩
            rcases List.mem_append.1 hk with h | h
            · exact ⟨k, List.mem_append.2 (.inl h), rfl⟩
            · rcases List.mem_cons.1 h with rfl | h
              · exact (hji hti).elim
              · exact ⟨k, List.mem_append.2 (.inr h), rfl⟩
          · rintro ⟨k, hk, rfl⟩
            exact ⟨k, hmem k hk, rfl⟩
      · have hset : ∀ x, listed.getD x true = true → (listed.setIfInBounds i true).getD x true = true := by
          intro x hx
          by_cases hxi : x = i
          · subst hxi; simp [Array.getElem?_setIfInBounds_self]; split <;> simp
          · simpa [Array.getElem?_setIfInBounds_ne (Ne.symm hxi)] using hx
        by_cases hji : j = i
        · subst hji
          obtain ⟨e, he, hbind, hor⟩ := before_bit hb ho hbit
          have hl := h3 e he hbind
          have hon := hb _ _ ho e he hbind
          have hlt' : e.on < listed.size := by omega
          have hl' : listed.getD e.on true = true := by
            simp only [Array.getD_eq_getD_getElem?, Array.getElem?_eq_getElem hlt', Option.getD_some] at hl ⊢; exact hl
          rcases hor with h | h
          · rw [h]; exact hset _ hl'
          · exact hset _ (hdc e.on k (by omega) hl' h)
        · rw [show (listed.setIfInBounds i true).getD j true = listed.getD j true by simp [Array.getElem?_setIfInBounds_ne (Ne.symm hji)]] at hjl
          exact hset _ (hdc j k hj hjl hbit)
      · exact List.pairwise_append.2 ⟨pA, pB2, fun x hx y hy => pAB x hx y (List.mem_cons_of_mem _ hy)⟩

theorem zip_all {l : List Oper} {p : Oper × Nat → Bool} (h : l.zipIdx.all p = true) {i : Nat} {o : Oper} (ho : l[i]? = some o) : p (o, i) = true :=
  List.all_eq_true.1 h (o, i) (List.mem_zipIdx_iff_getElem?.2 ho)

/-- A REGION THAT DRAWS ITS ORDER. -/
theorem drawOk (hc : CallOk P call) (hm : P.follows .mixedOrders = true) : DrawOk P sp call := by
  intro ops fr H fr' H' h hst G w a F n id Q hF hs e hQ
  have hstat : ∀ j o, ops[j]? = some o → (∀ e ∈ o.after, Region.binds .any e = true → e.on < j) ∧ ∀ k p, ops[k]? = some p → k < j → ((Region.before ops).getD j 0).testBit k = false → p.apart ops o = true := by
    intro j o ho
    have h1 := zip_all hst (by simpa using ho : ops.toList[j]? = some o)
    simp only [Bool.and_eq_true] at h1
    refine ⟨fun e he hbd => ?_, fun k p hp hk hbit => ?_⟩
    · have := Array.all_eq_true'.1 h1.1.1 e he
      rw [hbd] at this
      simpa using this
    · have h2 := zip_all h1.2 (by simpa using hp : ops.toList[k]? = some p)
      simp only [Bool.or_eq_true, Nat.ble_eq, hbit, Bool.false_eq_true, or_false] at h2
      exact h2.resolve_left (by omega)
  have hb : ∀ (j : Nat) (o : Oper), ops[j]? = some o → ∀ e ∈ o.after, Region.binds .any e = true → e.on < j := fun j o ho => (hstat j o ho).1
  obtain ⟨s, hsd⟩ : ∃ s : Loc → Val, s = fun l => match l with
    | .inl x => (fr.tmps.get x, none, H.next)
    | .inr nm => (none, if nm < H.next then H.get nm else none, H.next) := ⟨_, rfl⟩
  have hrep : Rep s fr H := by
    subst hsd
    exact ⟨fun x => ⟨rfl, Nat.le_refl _⟩, fun nm hnm => ⟨by simp only; rw [if_pos hnm], Nat.le_refl _⟩⟩
  obtain ⟨its, e1, e2, e3, e4, _, e6, e7, e8, e9, e10, e11⟩ := runDraw_items (fun k j p o hp ho hk hbit => (hstat j o ho).2 k p hp hk hbit) ops.toList 0 [] [] fr H fr' H' s h (fun k => by simp) (by simp) (by simp) (by simp) rfl rfl (Nat.le_refl _) rfl rfl hs.ro hrep
  obtain ⟨w1, hw1⟩ : ∃ w1 : World, w1 = { w with drawn := w.drawn + 1 } := ⟨_, rfl⟩
  have st0 : Step H G w H G w1 := Step.same hs (by rw [hw1]) (by rw [hw1]; exact ⟨rfl, rfl⟩)
  have es := e.ext st0.ext
  refine wpIn_region_any hm ?_
  rw [← hw1]
  have hlen : its.length = ops.size := by
    have := congrArg List.length e1; simpa using this
  have hup : Up G w1 (restr G H.next) w1 := ⟨fun nm g x hx => restr_of (st0.sim.lt nm g x.1 x.2.1 x.2.2 hx).2 hx, fun _ _ h => h⟩
  have hmid : Mid fr H G w1 H'.next its s G a w1 := by
    refine ⟨fun nm g b sh n hg => (st0.sim.lt _ _ _ _ _ hg).1, st0.sim.inj, fun t ht nm g h1 h2 => ?_, fun nm g x hx => ?_, fun x v hx => ?_, fun nm o ho _ => ?_, es.n, RelDs.up hup es.dfr, fun g o hg ho => ?_, fun nm hn => ?_, Ext.refl _ _ _, fun _ _ _ h _ => h, fun nm hn h0 => ?_⟩
    · cases hq : G nm g with
      | none => rfl
      | some x => have := (st0.sim.lt nm g x.1 x.2.1 x.2.2 hq).2; have := (e2 t ht).1.start; omega
    · have := (st0.sim.lt nm g x.1 x.2.1 x.2.2 hx).2; omega
    · subst hsd; exact Rel.up hup (es.tmps x v hx)
    · subst hsd
      simp only at ho ⊢
      by_cases hlt : nm < H.next
      · rw [if_pos hlt] at ho
        exact ⟨hlt, (st0.sim.obj nm o hlt ho).up hup (fun g x hx => (restr_some hx).2) (fun _ _ _ _ _ => rfl)⟩
      · rw [if_neg hlt] at ho; cases ho
    · subst hsd
      simp only at ho
      have := hs.glob; have := hs.ro
      rw [if_pos (by omega)] at ho
      exact st0.sim.globs g o hg ho
    · subst hsd
      have := hs.ro
      simp only
      rw [if_pos (by omega)]
    · subst hsd
      refine ⟨?_, fun _ _ _ _ _ => rfl, fun _ _ h => h⟩
      simp only
      rw [if_pos hn]
      exact h0
  refine any_sound hc hF hs.glob hb (runRW (its.map (It.rw ops)) s) (fun G' a' w' m => ?_) ops.size its (Array.replicate ops.size false) s G a w1 hlen (by simp) (fun i hi => ?_) (fun j k hj hjl _ => ?_) e2 e6 e3 rfl hmid
  · have hup' : ∀ B, Up (restr G' B) w' G' w' := fun B => ⟨fun nm g x hx => (restr_some hx).2, fun _ _ h => h⟩
    have hroN := hs.ro
    refine hQ _ _ _ ⟨G', st0.trans ⟨m.ext, ⟨fun nm g b sh n hg => ⟨m.lt _ _ _ _ _ hg, m.top _ _ _ hg⟩, m.inj, fun nm o hlt ho => ?_, by rw [e9]; exact Nat.le_trans hroN e11, by rw [e9, e10]; exact hs.glob, fun g o hg ho => ?_⟩, e11, e9, e10, fun nm hn => ?_, m.newG, fun nm hn h0 => ?_⟩, ⟨fun x v hx => ?_, by rw [m.n, e7], ?_⟩, rfl⟩
    · have hr := (e4.2 nm hlt).1
      obtain ⟨q1, q2⟩ := m.obj nm o (hr.trans ho) hlt
      exact q2.up (hup' _) (fun g x hx => restr_of q1 hx) (fun _ _ _ _ _ => rfl)
    · rw [e10] at hg
      have := hs.glob
      have hr := (e4.2 g (by omega)).1
      exact m.globs g o hg (hr.trans ho)
    · rw [← (e4.2 nm (by omega)).1]; exact m.keep nm hn
    · obtain ⟨q1, q2, q3⟩ := m.frame nm hn h0
      exact ⟨by rw [← (e4.2 nm (by omega)).1]; exact q1, q2, q3⟩
    · exact Rel.up (hup' _) (m.tmp x v ((e4.1 x).1.trans hx))
    · rw [e8]; exact RelDs.up (hup' _) m.dfr
  · have : (Array.replicate ops.size false).getD i true = false := by simp [hi]
    rw [this]
    refine ⟨fun _ => ?_, fun _ => rfl⟩
    have hm : i ∈ its.map (·.i) := by rw [e1, List.mem_range'_1]; simp; exact hi
    obtain ⟨t, ht, hti⟩ := List.mem_map.1 hm
    exact ⟨t, ht, hti⟩
  · have : (Array.replicate ops.size false).getD j true = false := by simp [hj]
    rw [this] at hjl
    cases hjl

end
end Go.E2
