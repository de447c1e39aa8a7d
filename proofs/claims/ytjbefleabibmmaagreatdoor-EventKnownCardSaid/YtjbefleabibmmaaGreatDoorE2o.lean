/- E2: CODE: what E2 makes of it the model makes of it. -/
import Derived.Test.YtjbefleabibmmaaGreatDoorE2n
import Derived.TacticsIn
import Derived.LoopNIn
import Derived.RangeFuncLeaves
import Derived.RangeFuncCalls
namespace Go.E2
open Go

def WideF (F : Fence) : Prop := (∀ f, F.fn f) ∧ F.depth = none

theorem WideF.inRound {F : Fence} (h : WideF F) (l : Nat) : WideF (F.inRound l) := h

def RelPE (G : Ghost) (w : World) (p : PE) (q : PanicEntry) : Prop := Rel G w p.v q.v ∧ p.recovered = q.recovered ∧ p.goexit = q.goexit

def RelCh (G : Ghost) (w : World) : List PE → List PanicEntry → Prop
  | [], l => l = []
  | p :: ps, l => ∃ q qs, l = q :: qs ∧ RelPE G w p q ∧ RelCh G w ps qs

def RelEx (G : Ghost) (w : World) : Ex → Exit → Prop
  | .normal, e => e = .normal
  | .exit id, e => e = .exit id
  | .goto l, e => e = .goto l
  | .ret, e => e = .ret
  | .panic ch, e => ∃ rch, e = .panic rch ∧ RelCh G w ch rch

/-- What stands behind a piece of code. -/
def Post (H : Heap) (G : Ghost) (w : World) (x : Ex × Fr × Heap) : Exit → Act → World → Prop :=
  fun e a' w' => ∃ G', Step H G w x.2.2 G' w' ∧ SimFr G' w' x.2.1 a' ∧ RelEx G' w' x.1 e

def RelEnd (G : Ghost) (w : World) : CR → Ending → Prop
  | .ret v, e => ∃ x, e = .returned x ∧ Rel G w v x
  | .panic ch, e => ∃ rch, e = .panicked rch ∧ RelCh G w ch rch

/-- A call that E2 answers is answered so by the model. -/
def CallOk (P : Program) (c : Call) : Prop :=
  ∀ tgt args H r H', c tgt args H = some (r, H') → ∀ G w t rargs, Sim H G w → RelTgt G w tgt args t rargs →
    (∃ x w' G' v, (invoke t rargs).run P w = .ok (.value x) w' ∧ Step H G w H' G' w' ∧ r = .ret v ∧ Rel G' w' v x) ∨
    (∃ f rargs', (invoke t rargs).run P w = .ok (.enter f rargs') w ∧ ∀ F n, WideF F → CallsIn F n P f rargs' w fun e w' => ∃ G', Step H G w H' G' w' ∧ RelEnd G' w' r e) ∨
    (∃ l f tmps assign body, (invoke t rargs).run P w = .ok (.round l f tmps assign body) w ∧ ∀ F n, WideF F → RoundIn F n P l f tmps assign body w fun e w' => ∃ G', Step H G w H' G' w' ∧ RelEnd G' w' r e)

section
variable {P : Program} {sp : Nat → Option (List V → Heap → Option (CR × Heap))} {call : Call} {H : Heap} {G : Ghost} {w : World} {fr : Fr} {a : Act} {F : Fence} {n : Nat}

theorem no_bool {v : V} {b : Bool} (h : Rel G w v (.bool b)) (hn : ∀ b', v ≠ .bool b') : False := by
  cases v <;> simp only [Rel, reduceCtorEq, false_and, and_false, exists_false] at h
  all_goals first
    | exact hn _ rfl
    | (split at h <;> simp at h; done)
    | grind

theorem want_sound {o : Oper} {all : Array Oper} (e : SimFr G w fr a) {b : Bool} (h : wantV o all fr = some b) : Region.wanted o (yielded all a.tmps) = b := by
  unfold Region.wanted
  unfold wantV at h
  cases hg : o.guard with
  | none => rw [hg] at h; simp at h; simp [h]
  | some g =>
    obtain ⟨j, want⟩ := g
    rw [hg] at h
    simp only at h ⊢
    cases hd : (all[j]?).bind (·.dst) with
    | none => rw [hd] at h; simp at h; simp [yielded, hd, h]
    | some t =>
      rw [hd] at h
      simp only at h
      split at h
      · rename_i b' hv
        have ht := tmp_sound e hv
        simp only [yielded, hd, Option.bind_some]
        simp only [Rel] at ht
        have hsome : a.tmps[t]? = some (.bool b') := by
          cases hq : a.tmps[t]? with
          | none => rw [Array.getD_eq_getD_getElem?, hq] at ht; simp [undef] at ht
          | some y => rw [Array.getD_eq_getD_getElem?, hq] at ht; simpa using ht
        simpa [hsome] using h
      · rename_i v hnb hv
        have ht := tmp_sound e hv
        simp only [yielded, hd, Option.bind_some]
        cases h
        have hno : ∀ b, a.tmps[t]? ≠ some (.bool b) := by
          intro b hq
          have hx : a.tmps.getD t undef = .bool b := by rw [Array.getD_eq_getD_getElem?, hq]; rfl
          rw [hx] at ht
          exact no_bool ht (fun b' hb' => hnb b' (by rw [hb']))
        cases hq : a.tmps[t]? with
        | none => simp
        | some y =>
          cases y <;> first
            | (exact absurd hq (hno _))
            | simp
      · cases h

theorem about_ok (hF : WideF F) {o : Oper} : ∀ f, o.about P w a.eval = some f → F.fn f := fun f _ => hF.1 f

/-- One operation, with whatever stands behind it. -/
theorem runOp_sound (hc : CallOk P call) (hF : WideF F) (hs : Sim H G w) (e : SimFr G w fr a) {all : Array Oper} {o : Oper} {r : CR} {H' : Heap} (h : runOpV (envOf P sp) call all o fr H = some (r, H'))
    {K : Act → World → Prop} {Q : Exit → Act → World → Prop} (hK : ∀ v y w' G', r = .ret v → Step H G w H' G' w' → Rel G' w' v y → K (a.put o.dst y) w')
    (hQ : ∀ w' G' ch rch, r = .panic ch → Step H G w H' G' w' → RelCh G' w' ch rch → Q (.panic rch) a w') :
    if Region.wanted o (yielded all a.tmps) then o.wpIn F n P a w K Q else (∀ f, o.about P w a.eval = some f → F.fn f) ∧ K (a.put o.dst undef) w := by
  unfold runOpV at h
  split at h
  · rename_i hw
    rw [want_sound e hw, if_pos rfl]
    have hnd : ∀ c, evOp (envOf P sp) o fr H ≠ none → o.op ≠ .defer c := by
      intro c hne ho
      apply hne
      simp only [evOp, ho]
    split at h
    · rename_i v H1 hev
      cases h
      obtain ⟨y, w', G', h1, h2, h3⟩ := evOp_sound hs e hev
      refine ⟨about_ok hF, ?_⟩
      rw [Oper.semAt_eq _ _ _ (fun c => hnd c (by rw [hev]; simp)), h1]
      exact hK _ _ _ _ rfl h2 h3
    · rename_i H1 hev
      cases h
      obtain ⟨w', G', h1, h2⟩ := evOp_sound hs e hev
      refine ⟨about_ok hF, ?_⟩
      rw [Oper.semAt_eq _ _ _ (fun c => hnd c (by rw [hev]; simp)), h1]
      exact hK _ _ _ _ rfl h2 rel_undef
    · rename_i tgt args H1 hev
      obtain ⟨rfl, t, rargs, h1, h2⟩ := evOp_sound hs e hev
      refine ⟨about_ok hF, ?_⟩
      rw [Oper.semAt_eq _ _ _ (fun c => hnd c (by rw [hev]; simp)), h1]
      have hd : F.depth.isSome = true → 1 ≤ n := by rw [hF.2]; simp
      rcases hc _ _ _ _ _ h _ _ _ _ hs h2 with ⟨y, w', G', v', r1, r2, r3, r4⟩ | ⟨f, rargs', r1, r2⟩ | ⟨l, f, tmps, assign, body, r1, r2⟩
      · subst r3
        rw [r1]
        exact hK _ _ _ _ rfl r2 r4
      · rw [r1]
        refine ⟨hd, (r2 F (n - 1) hF).mono fun en w' hen => ?_⟩
        obtain ⟨G', s1, s2⟩ := hen
        cases r with
        | ret v => obtain ⟨y, rfl, s2⟩ := s2; exact hK _ _ _ _ rfl s1 s2
        | panic ch => obtain ⟨rch, rfl, s2⟩ := s2; exact hQ _ _ _ _ rfl s1 s2
      · rw [r1]
        refine ⟨hd, (r2 F (n - 1) hF).mono fun en w' hen => ?_⟩
        obtain ⟨G', s1, s2⟩ := hen
        cases r with
        | ret v => obtain ⟨y, rfl, s2⟩ := s2; exact hK _ _ _ _ rfl s1 s2
        | panic ch => obtain ⟨rch, rfl, s2⟩ := s2; exact hQ _ _ _ _ rfl s1 s2
    · rename_i v H1 hev
      cases h
      obtain ⟨rfl, y, h1, h2⟩ := evOp_sound hs e hev
      refine ⟨about_ok hF, ?_⟩
      rw [Oper.semAt_eq _ _ _ (fun c => hnd c (by rw [hev]; simp)), h1]
      refine hQ w G _ _ rfl (Step.refl hs) ?_
      simp only [RelCh, RelPE]
      exact ⟨_, _, rfl, ⟨h2, rfl, rfl⟩, rfl⟩
    · cases h
  · rename_i hw
    rw [want_sound e hw]
    simp only [Bool.false_eq_true, if_false]
    cases h
    exact ⟨about_ok hF, hK _ _ _ _ rfl (Step.refl hs) rel_undef⟩
  · cases h

theorem Post.trans {H' : Heap} {G' : Ghost} {w' : World} (h : Step H G w H' G' w') {x : Ex × Fr × Heap} {ex : Exit} {a' : Act} {w'' : World} (hp : Post H' G' w' x ex a' w'') : Post H G w x ex a' w'' := by
  obtain ⟨G'', s1, s2, s3⟩ := hp
  exact ⟨G'', h.trans s1, s2, s3⟩

theorem defer_sound (hs : Sim H G w) (e : SimFr G w fr a) {c : Go.Call} {d : D} (h : deferV fr H c = some d) (ty : TypeId) : ∃ rd, (resolve a.eval c ty).run P w = .ok rd w ∧ RelDf G w d rd := by
  unfold deferV at h
  split at h
  · rename_i f hc
    simp only [Option.bind_eq_some_iff] at h
    obtain ⟨args, hargs, fv, hf, h⟩ := h
    split at h
    · rename_i g first captured
      cases h
      have h1 := opds_sound hs e hargs
      have h2 := opd_sound hs e hf
      simp only [Rel] at h2
      obtain ⟨fn', ra, rc, h3, h4, h5, h6⟩ := h2
      simp only [RelFn] at h4
      subst h4
      refine ⟨{ target := .fn (.func g) rc, args := ra ++ c.args.map a.eval }, ?_, .func g, rc, rfl, rfl, h6, ?_⟩
      · simp [resolve, hc, h3, Deferred.ofValue]
      · rw [Array.toList_append]
        exact h5.append (by simpa using h1)
    · cases h
  · cases h

theorem runOps_sound (hc : CallOk P call) (hF : WideF F) {nd : Bool} (hnd : nd = true → F.round = none) {all : Array Oper} : ∀ (l : List Oper) (H : Heap) (G : Ghost) (w : World) (fr : Fr) (a : Act) (x : Ex × Fr × Heap) (Q : Exit → Act → World → Prop), Sim H G w → SimFr G w fr a →
    runOps (envOf P sp) call nd all l fr H = some x → (∀ e a' w', Post H G w x e a' w' → Q e a' w') → wpListIn F n P all Q l a w
  | [], H, G, w, fr, a, x, Q, hs, e, h, hQ => by
    simp only [runOps, Option.some.injEq] at h
    subst h
    exact hQ _ _ _ ⟨G, Step.refl hs, e, rfl⟩
  | o :: l, H, G, w, fr, a, x, Q, hs, e, h, hQ => by
    simp only [runOps] at h
    split at h
    · rename_i c ho
      simp only [wpListIn]
      split at h
      · rename_i hw
        rw [want_sound e hw, if_pos rfl]
        cases nd with
        | false => simp at h
        | true =>
          simp only [cond_true, Option.bind_eq_some_iff] at h
          obtain ⟨d, hd, h⟩ := h
          obtain ⟨rd, r1, r2⟩ := defer_sound (P := P) hs e hd o.type
          refine ⟨about_ok hF, ?_⟩
          have hex : (o.semAt F.round a.eval).run P w = .ok (.defer rd) w := by
            rw [hnd rfl, Oper.semAt_none]
            simp only [execOp, ho, Sem.run_bind, r1, Result.andThen_ok, Sem.run_pure]
          rw [hex, Oper.uponIn_defer]
          have e' : SimFr G w (fr.push d) { a with defers := rd :: a.defers } := by
            obtain ⟨t, k, ds⟩ := fr
            exact ⟨e.tmps, e.n, by simp only [Fr.push, RelDs]; exact ⟨rd, a.defers, rfl, e.dfr, r2⟩⟩
          exact runOps_sound hc hF hnd l H G w _ _ x Q hs (e'.put _ rel_undef) h hQ
      · rename_i hw
        rw [want_sound e hw]
        simp only [Bool.false_eq_true, if_false]
        exact ⟨about_ok hF, runOps_sound hc hF hnd l H G w _ _ x Q hs (e.put _ rel_undef) h hQ⟩
      · cases h
    · split at h
      · rename_i v H' h1
        refine runOp_sound hc hF hs e h1 (fun v' y w' G' hv s1 s2 => ?_) (fun w' G' ch rch hx => by cases hx)
        cases hv
        exact runOps_sound hc hF hnd l H' G' w' _ _ x Q s1.sim ((e.ext s1.ext).put _ s2) h (fun e a'' w'' hp => hQ _ _ _ (hp.trans s1))
      · rename_i ch H' h1
        cases h
        refine runOp_sound hc hF hs e h1 (fun v' y w' G' hv => by cases hv) (fun w' G' ch' rch hx s1 s2 => ?_)
        cases hx
        exact hQ _ _ _ ⟨G', s1, e.ext s1.ext, ⟨rch, rfl, s2⟩⟩
      · cases h

/-- What a region's operations come to where their order is drawn. -/
def DrawOk (P : Program) (sp : Nat → Option (List V → Heap → Option (CR × Heap))) (call : Call) : Prop :=
  ∀ (ops : Array Oper) (fr : Fr) (H : Heap) (fr' : Fr) (H' : Heap), runDraw (envOf P sp) call ops (Region.before ops) 0 ops.toList [] fr H = some (fr', H') → drawStatic ops = true →
    ∀ (G : Ghost) (w : World) (a : Act) (F : Fence) (n : Nat) (id : Nat) (Q : Exit → Act → World → Prop), WideF F → Sim H G w → SimFr G w fr a → (∀ e a' w', Post H G w (.normal, fr', H') e a' w' → Q e a' w') → (Code.region id ops true).wpIn F n P Q a w

def RelRound (G : Ghost) : Option Nat → Option Nat → Prop
  | none, r => r = none
  | some l, r => ∃ b sh n, G l 0 = some (b, sh, n) ∧ r = some b

theorem RelRound.sub {G G' : Ghost} (h : ∀ nm g x, G nm g = some x → G' nm g = some x) {r r' : Option Nat} (e : RelRound G r r') : RelRound G' r r' := by
  cases r with
  | none => exact e
  | some l => obtain ⟨b, sh, n, e1, e2⟩ := e; exact ⟨b, sh, n, h _ _ _ e1, e2⟩

theorem stepR_scope {b : Frame} {k : List Item} {cs : List Frame} {c : Code} : step P (lone (b.atR a (.code (.scope c) :: k)) cs w) = .next (lone (b.atR a (.code c :: .inScope c :: k)) cs w) :=
  step_lone_go (by simp [stepG, stepG.exec, Frame.atR])

theorem stepR_inScope {b : Frame} {k : List Item} {cs : List Frame} {c : Code} : step P (lone (b.atR a (.inScope c :: k)) cs w) = .next (lone (b.atR a k) cs w) :=
  step_lone_go (by simp [stepG, stepG.exec, Frame.atR])

/-- A scope that no jump to a label leaves. -/
def noGoto (Q : Exit → Act → World → Prop) : Exit → Act → World → Prop
  | .goto _, _, _ => False
  | e, a, w => Q e a w

theorem wpIn_scope {c : Code} {Q : Exit → Act → World → Prop} (h : c.wpIn F n P (noGoto Q) a w) : (Code.scope c).wpIn F n P Q a w := by
  intro b k cs hro hb hr
  have h0 : (lone (b.atR a (.code (.scope c) :: k)) cs w).fenced P F := fenced_calm hb hr rfl
  obtain ⟨e, a₁, w₁, hq, harr⟩ := h b (.inScope c :: k) cs hro hb hr
  cases e with
  | normal => exact ⟨.normal, a₁, w₁, hq, .head h0 stepR_scope (StepsIn.trans harr (.one (fenced_calm hb hr rfl) stepR_inScope))⟩
  | exit id =>
    refine ⟨.exit id, a₁, w₁, hq, fun k' hk => .head h0 stepR_scope (harr.1 k' (by simp [exitTo, hk])), fun hr' hk => ?_⟩
    obtain ⟨k₁, h1, h2⟩ := harr.2 hr' (by simp [exitTo, hk])
    exact ⟨k₁, h1, .head h0 stepR_scope h2⟩
  | goto l => exact hq.elim
  | ret => exact ⟨.ret, a₁, w₁, hq, .of_steps (.one h0 stepR_scope) harr⟩
  | panic ch => exact ⟨.panic ch, a₁, w₁, hq, .of_steps (.one h0 stepR_scope) harr⟩
  | outgrown => exact ⟨.outgrown, a₁, w₁, hq, .of_steps (b := b) (k := k) (cs := cs) (e := .outgrown) (.one h0 stepR_scope) harr⟩

/-! ### A range over a function -/
theorem RelDs.append {ds : List Dfr} : ∀ {l : List Deferred} {ds' : List Dfr} {l' : List Deferred}, RelDs G w ds l → RelDs G w ds' l' → RelDs G w (ds ++ ds') (l ++ l') := by
  induction ds with
  | nil => intro l ds' l' h h'; simp only [RelDs] at h; subst h; exact h'
  | cons d ds ih =>
    intro l ds' l' h h'
    cases d with
    | mark nm =>
      simp only [RelDs] at h
      obtain ⟨x, xs, rfl, h1, h2⟩ := h
      simp only [List.cons_append, RelDs]
      exact ⟨x, xs ++ l', rfl, ih h1 h', h2⟩
    | call d =>
      simp only [RelDs] at h
      obtain ⟨x, xs, rfl, h1, h2⟩ := h
      simp only [List.cons_append, RelDs]
      exact ⟨x, xs ++ l', rfl, ih h1 h', h2⟩

theorem loop_nocells {b : Nat} {L : Loop} (h : w.heap[b]? = some (.loop L)) : w.shape? b = none := by simp only [World.shape?, h]

theorem run_getObj_loop {b : Nat} {L : Loop} (h : w.heap[b]? = some (.loop L)) : (getObj b).run P w = .ok (.loop L) w := by simp [getObj, Sem.run, h]

theorem run_setObj_loop {b : Nat} {L : Loop} {o : Obj} (h : w.heap[b]? = some (.loop L)) : (setObj b o).run P w = .ok () (setW w b o) := by simp [setObj, Sem.run, h, setW]

theorem run_getLoop {b : Nat} {L : Loop} (h : w.heap[b]? = some (.loop L)) : (Instr.getLoop b).run P w = .ok L w := by simp [Instr.getLoop, run_getObj_loop h]

/-- What stands in a loop's record, turned in its state and pending jump. -/
theorem Sim.setLoop (hs : Sim H G w) {l : Nat} {st st' : LoopState} {pend pend' : Option Code} {lt : Tree V} {ln : Nat} {lp : List Tmp} {la lb : Code} {ld : Nat} (ho : H.get l = some (.loop st pend lt ln lp la lb ld)) {b sh n : Nat} (hg : G l 0 = some (b, sh, n))
    {H' : Heap} (hu : H.upd l (.loop st' pend' lt ln lp la lb ld) = some H') : ∃ L, w.heap[b]? = some (.loop L) ∧ L.state = st ∧ L.pending = pend ∧ Step H G w H' G (setW w b (.loop { L with state := st', pending := pend' })) := by
  obtain ⟨u1, rfl⟩ := upd_some hu
  have hob := hs.obj l _ (hs.lt _ _ _ _ _ hg).2 ho
  obtain ⟨_, L, e1, e2, e3, e4, e5, e6, e7, e7', e8, e9, db, dsh, dn, e10, e11⟩ := hob 0 b sh n hg
  refine ⟨L, e1, e2, e3, hs.setObj _ ho hg u1 _ e1 (loop_nocells e1) (fun hext g' b' sh' m' hg' => ?_)⟩
  obtain ⟨f0, L2, f1, _⟩ := hob g' b' sh' m' hg'
  subst f0
  rw [hg] at hg'
  cases hg'
  exact ⟨rfl, _, heap_setW_self e1, rfl, rfl, e4, e5, e6, e7, e7', e8, e9.ext hext, db, dsh, dn, e10, e11⟩

theorem endLoop_sound (hs : Sim H G w) {l b sh n : Nat} (hg : G l 0 = some (b, sh, n)) {ex : Ex} {H' : Heap} (h : endLoopV H l = some (ex, H')) :
    ∃ jump w', (Instr.endLoop b).run P w = .ok jump w' ∧ Step H G w H' G w' ∧ pendingEx jump = some ex := by
  unfold endLoopV at h
  split at h
  · rename_i st pending lt ln lp la lb ld ho
    split at h
    · cases h
    · rename_i hnb
      simp only [Option.bind_eq_some_iff, Option.map_eq_some_iff, Prod.mk.injEq] at h
      obtain ⟨H1, hu, ex', hp, rfl, rfl⟩ := h
      obtain ⟨L, e1, e2, e3, st1⟩ := hs.setLoop ho hg hu
      subst e3
      refine ⟨L.pending, _, ?_, st1, hp⟩
      have hb : ¬ (L.state == .busy) = true := by
        rw [e2]
        cases st <;> first
          | (exact (hnb rfl).elim)
          | decide
      simp only [Instr.endLoop, Sem.run_bind, run_getLoop e1, Result.andThen_ok, hb, Bool.false_eq_true, if_false, run_setObj_loop e1, Sem.run_pure]
  · cases h

theorem enter_sound (hs : Sim H G w) {round : Option Nat} (hro : RelRound G round F.round) {mark : List Dfr} {H1 : Heap} {dn : Nat} (h : enterV round H = some (mark, H1, dn)) :
    ∃ G1 w1 rmark db dsh dm, Step H G w H1 G1 w1 ∧ RelDs G1 w1 mark rmark ∧ G1 dn 0 = some (db, dsh, dm) ∧
      ∀ fn tmps ps assign body, (Instr.enterLoop fn tmps ps assign body F.round).run P w = .ok (w1.heap.size, rmark) (push w1 (.loop { state := .ready, pending := none, fn, tmps, params := ps, assign, body, defers := db })) := by
  unfold enterV at h
  split at h
  · cases h
    simp only [RelRound] at hro
    have st := hs.new .dfr (.deferred (some [])) 0 (fun _ g b sh n hg => by
      simp only [addG] at hg
      by_cases h0 : g = 0
      · rw [if_pos ⟨trivial, h0⟩] at hg
        cases hg
        exact ⟨h0, heap_push_self _ _⟩
      · rw [if_neg (fun x => h0 x.2), hs.fresh] at hg; cases hg)
    refine ⟨_, _, [{ target := .collected w.heap.size, args := #[] }], w.heap.size, 0, 0, st, ?_, addG_self _ _ _ _, fun fn tmps ps assign body => ?_⟩
    · simp only [RelDs]
      exact ⟨_, _, rfl, rfl, w.heap.size, 0, 0, addG_self _ _ _ _, rfl⟩
    · rw [hro]
      simp only [Instr.enterLoop, Sem.run_bind, run_newObj, Sem.run_pure, Result.andThen_ok]
      rfl
  · rename_i l
    split at h
    · rename_i d ho
      cases h
      obtain ⟨b, sh, n, hg, hr⟩ := hro
      obtain ⟨_, L, e1, e2, e3, e4, e5, e6, e7, e7', e8, e9, db, dsh, dm, e10, e11⟩ := hs.obj l _ (hs.lt _ _ _ _ _ hg).2 ho 0 b sh n hg
      refine ⟨G, w, [], db, dsh, dm, Step.refl hs, by simp only [RelDs], e10, fun fn tmps ps assign body => ?_⟩
      rw [hr]
      simp only [Instr.enterLoop, Sem.run_bind, run_getLoop e1, run_newObj, Sem.run_pure, Result.andThen_ok, e11]
      rfl
    · cases h

/-- The record of a loop, new. -/
theorem Sim.newLoop (hs : Sim H G w) {fr : Fr} {a : Act} (e : SimFr G w fr a) {ps : Array Tmp} {assign body : Code} (h1 : codeOk assign = true) (h2 : codeOk body = true) {dn db dsh dm : Nat} (hd : G dn 0 = some (db, dsh, dm)) (fn : FuncId) :
    Step H G w (H.new (.loop .ready none fr.tmps fr.n ps.toList assign body dn)) (addG G H.next 0 (w.heap.size, 0, 0)) (push w (.loop { state := .ready, pending := none, fn, tmps := a.tmps, params := ps, assign, body, defers := db })) := by
  refine hs.new _ _ 0 (fun hext g b sh n hg => ?_)
  simp only [addG] at hg
  by_cases h0 : g = 0
  · rw [if_pos ⟨trivial, h0⟩] at hg
    cases hg
    exact ⟨h0, _, heap_push_self _ _, rfl, rfl, rfl, rfl, rfl, h1, h2, e.n, e.tmps.ext hext, db, dsh, dm, hext.sub _ _ _ hd, rfl⟩
  · rw [if_neg (fun x => h0 x.2), hs.fresh] at hg; cases hg

theorem funcs_body {f : Nat} (h : hasBody (envOf P sp) f = true) : ∃ fn c, P.funcs[f]? = some fn ∧ (fn.name == "runtime.NumGoroutine") = false ∧ fn.body = some c := by
  simp only [hasBody, envOf, funcOf] at h
  cases hf : P.funcs[f]? with
  | none => rw [hf] at h; simp at h
  | some fn =>
    rw [hf] at h
    simp only [cond_eq_ite] at h
    by_cases hn : (fn.name == "runtime.NumGoroutine") = true
    · rw [if_pos hn] at h; simp at h
    · rw [if_neg hn] at h
      cases hb : fn.body with
      | none => rw [hb] at h; simp at h
      | some c => exact ⟨fn, c, rfl, by simpa using hn, hb⟩

theorem run_callFunc_body {f : FuncId} {fn : Func} {c : Code} (hf : P.funcs[f]? = some fn) (hname : (fn.name == "runtime.NumGoroutine") = false) (hb : fn.body = some c) (args : Array Value) (w : World) :
    (callFunc f args).run P w = .ok (.enter f args) w := by
  have h1 : fn.name ≠ "runtime.NumGoroutine" := by simpa using hname
  simp [callFunc, hf, h1, hb]

theorem callOut_func {fv : V} {l : List V} {g : FuncId} {args : List V} (h : callOut fv l = some (.call (.func g) args)) : ∃ first captured, fv = .func (.func g) first captured ∧ args = first ++ l ++ captured := by
  unfold callOut at h
  split at h
  · simp only [Option.some.injEq, Out.call.injEq, Tgt.func.injEq] at h
    obtain ⟨rfl, rfl⟩ := h
    exact ⟨_, _, rfl, rfl⟩
  · simp at h
  · cases h

/-- Behind the function that was ranged over: what it has left to be done. -/
theorem rangeRet_sound {H3 H4 : Heap} {G3 : Ghost} {w3 : World} (st : Step H G w H3 G3 w3) {l b sh m : Nat} (hg : G3 l 0 = some (b, sh, m)) {fr' : Fr} {a' : Act} (hfr : SimFr G3 w3 fr' a') {ex : Ex} (hend : endLoopV H3 l = some (ex, H4))
    {Q : Exit → Act → World → Prop} (hQ : ∀ e a' w', Post H G w (ex, fr', H4) e a' w' → Q e a' w') :
    ∃ jump w4, (Instr.endLoop b).run P w3 = .ok jump w4 ∧ (match jump with
       | none => Q .normal a' w4
       | some c => c.wpIn F n P Q a' w4) := by
  obtain ⟨jump, w4, hrun, st4, hp⟩ := endLoop_sound (P := P) st.sim hg hend
  refine ⟨jump, w4, hrun, ?_⟩
  have stA := st.trans st4
  have hfr' := hfr.ext st4.ext
  cases jump with
  | none =>
    simp only [pendingEx, Option.some.injEq] at hp
    subst hp
    exact hQ _ _ _ ⟨G3, stA, hfr', rfl⟩
  | some c =>
    cases c with
    | ret =>
      simp only [pendingEx, Option.some.injEq] at hp
      subst hp
      exact wpIn_ret (hQ _ _ _ ⟨G3, stA, hfr', rfl⟩)
    | exit id =>
      simp only [pendingEx, Option.some.injEq] at hp
      subst hp
      exact wpIn_exit (hQ _ _ _ ⟨G3, stA, hfr', rfl⟩)
    | _ => simp [pendingEx] at hp

theorem rangeFunc_sound (hc : CallOk P call) {fn0 : FuncId} {fuel : Nat} {f : Operand} {params : Array Tmp} {assign body : Code} (hok : codeOk (.rangeFunc f params assign body) = true) {round : Option Nat} {x : Ex × Fr × Heap} {Q : Exit → Act → World → Prop}
    (hF : WideF F) (hro : RelRound G round F.round) (hs : Sim H G w) (e : SimFr G w fr a) (h : evCode (envOf P sp) call fn0 round fuel (.rangeFunc f params assign body) fr H = some x) (hQ : ∀ e a' w', Post H G w x e a' w' → Q e a' w') :
    (Code.rangeFunc f params assign body).wpIn F n P Q a w := by
  simp only [evCode, Option.bind_eq_some_iff] at h
  obtain ⟨⟨mark, H1, dn⟩, hen, h⟩ := h
  simp only at h
  split at h
  · rename_i g args hcall
    simp only [Option.bind_eq_some_iff] at hcall
    obtain ⟨fv, hfv, hout⟩ := hcall
    obtain ⟨first, captured, rfl, rfl⟩ := callOut_func hout
    rw [cond_eq_ite] at h
    split at h
    · rename_i hbody
      obtain ⟨gn, gc, hg1, hg2, hg3⟩ := funcs_body hbody
      obtain ⟨G1, w1, rmark, db, dsh, dm, st1, hmark, hdn, henter⟩ := enter_sound (P := P) hs hro hen
      have hc1 : codeOk assign = true ∧ codeOk body = true := by
        simp only [codeOk, Bool.and_eq_true] at hok
        exact hok
      have hval := opd_sound hs e hfv
      simp only [Rel] at hval
      obtain ⟨fn', ra, rc, h3, h4, h5, h6⟩ := hval
      simp only [RelFn] at h4
      subst h4
      refine wpIn_rangeFunc fun fn _ => ?_
      have st2 := st1.sim.newLoop (e.ext st1.ext) (ps := params) hc1.1 hc1.2 hdn fn
      have hent := henter fn a.tmps params assign body
      have hself : addG G1 H1.next 0 (w1.heap.size, 0, 0) H1.next 0 = some (w1.heap.size, 0, 0) := addG_self _ _ _ _
      generalize addG G1 H1.next 0 (w1.heap.size, 0, 0) = G2 at st2 hself
      generalize push w1 (.loop { state := .ready, pending := none, fn, tmps := a.tmps, params, assign, body, defers := db }) = w2 at st2 hent
      generalize H1.new (.loop .ready none fr.tmps fr.n params.toList assign body dn) = H2 at st2 h
      generalize w1.heap.size = lb at hent hself
      have st12 := st1.trans st2
      obtain ⟨y, hy⟩ : ∃ y : Value, y = .func (.yield lb) #[] #[] := ⟨_, rfl⟩
      have hyield : Rel G2 w2 (.func (.yield H1.next) [] []) y := by
        rw [hy]
        simp only [Rel, RelFn]
        exact ⟨_, _, _, rfl, ⟨_, _, _, hself, rfl⟩, RelL.nil, RelL.nil⟩
      have hargs : RelL G2 w2 (first ++ [.func (.yield H1.next) [] []] ++ captured) ((ra ++ #[y]).toList ++ rc.toList) := by
        rw [Array.toList_append]
        exact ((h5.ext st12.ext).append (RelL.cons hyield RelL.nil)).append (h6.ext st12.ext)
      have hinv : (invoke (.fn (.func g) rc) (ra ++ #[y])).run P w2 = .ok (.enter g (ra ++ #[y] ++ rc)) w2 := by
        have h0 : (invoke (.fn (.func g) rc) (ra ++ #[y])).run P w2 = (callFunc g (ra ++ #[y] ++ rc)).run P w2 := rfl
        rw [h0, run_callFunc_body hg1 hg2 hg3]
      have hres : (resolve a.eval (rangeCall f lb) 0).run P w2 = .ok (⟨.fn (.func g) rc, ra ++ #[y]⟩ : Deferred) w2 := by
        have hm : (rangeCall f lb).args.map a.eval = #[y] := by simp [hy, Act.eval]
        have h0 : resolve a.eval (rangeCall f lb) 0 = Deferred.ofValue (a.eval f) ((rangeCall f lb).args.map a.eval) := rfl
        rw [hm] at h0
        rw [h0, h3]
        simp [Deferred.ofValue]
      refine ⟨lb, rmark, w2, ⟨.fn (.func g) rc, ra ++ #[y]⟩, w2, g, ra ++ #[y] ++ rc, w2, hent, hres, fun f' _ => hF.1 f', hinv, by rw [hF.2]; simp, ?_⟩
      have hfr : ∀ H3 G3 w3, Step H2 G2 w2 H3 G3 w3 → SimFr G3 w3 { fr with defers := mark ++ fr.defers } { a with defers := rmark ++ a.defers } := by
        intro H3 G3 w3 st3
        have ef := (e.ext st12.ext).ext st3.ext
        exact ⟨ef.tmps, ef.n, ((hmark.ext st2.ext).ext st3.ext).append ef.dfr⟩
      have fin : ∀ r H3, call (.func g) (first ++ [.func (.yield H1.next) [] []] ++ captured) H2 = some (r, H3) → CallsIn F (n - 1) P g (ra ++ #[y] ++ rc) w2 fun e w' => ∃ G', Step H2 G2 w2 H3 G' w' ∧ RelEnd G' w' r e := by
        intro r H3 hr
        rcases hc _ _ _ _ _ hr _ _ (.fn (.func g) rc) (ra ++ #[y]) st2.sim ⟨rc, rfl, hargs⟩ with ⟨y', w', G', v', r1, _⟩ | ⟨f', rargs', r1, r2⟩ | ⟨l', f', t', a', b', r1, _⟩
        · rw [hinv] at r1; cases r1
        · rw [hinv] at r1; cases r1; exact r2 F (n - 1) hF
        · rw [hinv] at r1; cases r1
      split at h
      · rename_i v H3 hr
        simp only [Option.map_eq_some_iff] at h
        obtain ⟨⟨ex, H4⟩, hend, rfl⟩ := h
        refine (fin _ _ hr).mono fun en w3 hen => ?_
        obtain ⟨G3, st3, se⟩ := hen
        obtain ⟨y', rfl, _⟩ := se
        exact rangeRet_sound (st12.trans st3) (st3.ext.sub _ _ _ hself) (hfr H3 G3 w3 st3) hend hQ
      · rename_i ch H3 hr
        cases h
        refine (fin _ _ hr).mono fun en w3 hen => ?_
        obtain ⟨G3, st3, se⟩ := hen
        obtain ⟨rch, rfl, hch⟩ := se
        exact hQ _ _ _ ⟨G3, st12.trans st3, hfr H3 G3 w3 st3, rch, rfl, hch⟩
      · cases h
    · cases h
  · cases h

theorem evCode_sound (hc : CallOk P call) (hd : DrawOk P sp call) (fn : FuncId) (fuel : Nat) : ∀ (c : Code) (_ : codeOk c = true) (round : Option Nat) (H : Heap) (G : Ghost) (w : World) (fr : Fr) (a : Act) (x : Ex × Fr × Heap) (F : Fence) (n : Nat) (Q : Exit → Act → World → Prop),
    WideF F → RelRound G round F.round → Sim H G w → SimFr G w fr a → evCode (envOf P sp) call fn round fuel c fr H = some x → (∀ e a' w', Post H G w x e a' w' → Q e a' w') → c.wpIn F n P Q a w
  | .skip, hok, round, H, G, w, fr, a, x, F, n, Q, hF, hro, hs, e, h, hQ => by
    simp only [evCode, Option.some.injEq] at h; subst h
    exact wpIn_skip (hQ _ _ _ ⟨G, Step.refl hs, e, rfl⟩)
  | .label l, hok, round, H, G, w, fr, a, x, F, n, Q, hF, hro, hs, e, h, hQ => by
    simp only [evCode, Option.some.injEq] at h; subst h
    exact wpIn_label (hQ _ _ _ ⟨G, Step.refl hs, e, rfl⟩)
  | .exit id, hok, round, H, G, w, fr, a, x, F, n, Q, hF, hro, hs, e, h, hQ => by
    simp only [evCode, Option.some.injEq] at h; subst h
    exact wpIn_exit (hQ _ _ _ ⟨G, Step.refl hs, e, rfl⟩)
  | .goto l, hok, round, H, G, w, fr, a, x, F, n, Q, hF, hro, hs, e, h, hQ => by
    simp only [evCode, Option.some.injEq] at h; subst h
    exact wpIn_goto (hQ _ _ _ ⟨G, Step.refl hs, e, rfl⟩)
  | .ret, hok, round, H, G, w, fr, a, x, F, n, Q, hF, hro, hs, e, h, hQ => by
    simp only [evCode, Option.some.injEq] at h; subst h
    exact wpIn_ret (hQ _ _ _ ⟨G, Step.refl hs, e, rfl⟩)
  | .seq c d, hok, round, H, G, w, fr, a, x, F, n, Q, hF, hro, hs, e, h, hQ => by
    simp only [evCode] at h
    split at h
    · rename_i fr' H' h1
      refine wpIn_seq (evCode_sound hc hd fn fuel c (Bool.and_eq_true_iff.1 hok).1 round H G w fr a _ F n _ hF hro hs e h1 (fun e1 a1 w1 hp => ?_))
      obtain ⟨G', s1, s2, s3⟩ := hp
      cases s3
      exact evCode_sound hc hd fn fuel d (Bool.and_eq_true_iff.1 hok).2 round H' G' w1 fr' a1 x F n Q hF (hro.sub s1.ext.sub) s1.sim s2 h (fun e2 a2 w2 hp => hQ _ _ _ (hp.trans s1))
    · rename_i y hne
      refine wpIn_seq (evCode_sound hc hd fn fuel c (Bool.and_eq_true_iff.1 hok).1 round H G w fr a _ F n _ hF hro hs e h (fun e1 a1 w1 hp => ?_))
      obtain ⟨ex, fr', H'⟩ := x
      cases ex with
      | normal => exact (hne _ _ h).elim
      | _ =>
        have hq := hQ e1 a1 w1 hp
        obtain ⟨G', s1, s2, s3⟩ := hp
        first
          | (cases s3; exact hq)
          | (obtain ⟨rch, rfl, _⟩ := s3; exact hq)
  | .cond c x y, hok, round, H, G, w, fr, a, z, F, n, Q, hF, hro, hs, e, h, hQ => by
    simp only [evCode] at h
    split at h
    · rename_i hb
      have hv := opd_sound hs e hb
      simp only [Rel] at hv
      exact wpIn_cond hv (evCode_sound hc hd fn fuel x (Bool.and_eq_true_iff.1 hok).1 round H G w fr a z F n Q hF hro hs e h hQ)
    · rename_i hb
      have hv := opd_sound hs e hb
      simp only [Rel] at hv
      exact wpIn_cond hv (evCode_sound hc hd fn fuel y (Bool.and_eq_true_iff.1 hok).2 round H G w fr a z F n Q hF hro hs e h hQ)
    · cases h
  | .block id c, hok, round, H, G, w, fr, a, x, F, n, Q, hF, hro, hs, e, h, hQ => by
    simp only [evCode] at h
    split at h
    · rename_i id' fr' H' h1
      refine wpIn_block (evCode_sound hc hd fn fuel c hok round H G w fr a _ F n _ hF hro hs e h1 (fun e1 a1 w1 hp => ?_))
      obtain ⟨G', s1, s2, s3⟩ := hp
      cases s3
      simp only [Exit.inBlock]
      rw [cond_eq_ite] at h
      simp only [Nat.beq_eq] at h
      split at h
      · rename_i hid
        cases h
        rw [if_pos hid]
        exact hQ _ _ _ ⟨G', s1, s2, rfl⟩
      · rename_i hid
        cases h
        rw [if_neg hid]
        exact hQ _ _ _ ⟨G', s1, s2, rfl⟩
    · rename_i y hne
      refine wpIn_block (evCode_sound hc hd fn fuel c hok round H G w fr a _ F n _ hF hro hs e h (fun e1 a1 w1 hp => ?_))
      obtain ⟨ex, fr', H'⟩ := x
      have hq := hQ e1 a1 w1 hp
      obtain ⟨G', s1, s2, s3⟩ := hp
      cases ex with
      | exit id' => exact (hne _ _ _ h).elim
      | panic ch => obtain ⟨rch, rfl, _⟩ := s3; exact hq
      | _ => cases s3; exact hq
  | .scope c, hok, round, H, G, w, fr, a, x, F, n, Q, hF, hro, hs, e, h, hQ => by
    simp only [evCode] at h
    split at h
    · cases h
    · rename_i y hne
      refine wpIn_scope (evCode_sound hc hd fn fuel c hok round H G w fr a _ F n _ hF hro hs e h (fun e1 a1 w1 hp => ?_))
      obtain ⟨ex, fr', H'⟩ := x
      have hq := hQ e1 a1 w1 hp
      obtain ⟨G', s1, s2, s3⟩ := hp
      cases ex with
      | goto l => exact (hne _ _ _ h).elim
      | panic ch => obtain ⟨rch, rfl, _⟩ := s3; exact hq
      | _ => cases s3; exact hq
  | .loop c, hok, round, H, G, w, fr, a, x, F, n, Q, hF, hro, hs, e, h, hQ => by
    simp only [evCode] at h
    refine wpIn_loop_rounds fuel ?_
    have key : ∀ (m : Nat) (H1 : Heap) (G1 : Ghost) (w1 : World) (fr1 : Fr) (a1 : Act) (s0 : Ex), Step H G w H1 G1 w1 → SimFr G1 w1 fr1 a1 →
        iter (fun (s : Ex × Fr × Heap) => match evCode (envOf P sp) call fn round fuel c s.2.1 s.2.2 with
          | some (.normal, fr', H') => some (true, .normal, fr', H')
          | some r => some (false, r)
          | none => none) m (s0, fr1, H1) = some x → Code.roundsIn F n P c Q m a1 w1 := by
      intro m
      induction m with
      | zero => intro H1 G1 w1 fr1 a1 s0 _ _ hi; simp [iter] at hi
      | succ m ih =>
        intro H1 G1 w1 fr1 a1 s0 st e1 hi
        simp only [iter] at hi
        rw [roundsIn_succ]
        split at hi
        · rename_i s' hstep
          split at hstep
          · rename_i fr' H' h1
            cases hstep
            refine evCode_sound hc hd fn fuel c hok round H1 G1 w1 fr1 a1 _ F n _ hF (hro.sub st.ext.sub) st.sim e1 h1 (fun e2 a2 w2 hp => ?_)
            obtain ⟨G', s1, s2, s3⟩ := hp
            cases s3
            exact ih H' G' w2 fr' a2 _ (st.trans s1) s2 hi
          · cases hstep
          · cases hstep
        · rename_i s' hstep
          cases hi
          split at hstep
          · cases hstep
          · rename_i r hne h1
            cases hstep
            refine evCode_sound hc hd fn fuel c hok round H1 G1 w1 fr1 a1 _ F n _ hF (hro.sub st.ext.sub) st.sim e1 h1 (fun e2 a2 w2 hp => ?_)
            have hq := hQ e2 a2 w2 (hp.trans st)
            obtain ⟨ex, fr', H'⟩ := x
            obtain ⟨G', s1, s2, s3⟩ := hp
            cases ex with
            | normal => exact (hne _ _ rfl).elim
            | panic ch => obtain ⟨rch, rfl, _⟩ := s3; exact hq
            | _ => cases s3; exact hq
          · cases hstep
        · cases hi
    exact key fuel H G w fr a .normal (Step.refl hs) e h
  | .region id ops draw, hok, round, H, G, w, fr, a, x, F, n, Q, hF, hro, hs, e, h, hQ => by
    simp only [evCode, cond_eq_ite] at h
    cases draw with
    | false =>
      simp only [Bool.false_eq_true, if_false] at h
      refine wpIn_region_list (runOps_sound hc hF (fun hr => ?_) ops.toList H G w fr a x Q hs e h hQ)
      cases round with
      | none => exact hro
      | some l => cases hr
    | true =>
      simp only [if_true, Option.map_eq_some_iff] at h
      obtain ⟨⟨fr', H'⟩, h1, rfl⟩ := h
      exact hd ops fr H fr' H' h1 (by simpa [codeOk] using hok) G w a F n id Q hF hs e hQ
  | .rangeFunc f params assign body, hok, round, H, G, w, fr, a, x, F, n, Q, hF, hro, hs, e, h, hQ => rangeFunc_sound hc hok hF hro hs e h hQ
  | .refuse s, hok, round, H, G, w, fr, a, x, F, n, Q, hF, hro, hs, e, h, hQ => by
    simp [evCode] at h

end
end Go.E2
