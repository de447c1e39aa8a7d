/- E2: CODE: what E2 makes of it the model makes of it. -/
import Derived.Test.YtchmjfblflimoaaDoorE2n
import Derived.TacticsIn
import Derived.LoopNIn
import Derived.RangeFuncLeaves
import Derived.RangeFuncCalls
namespace Go.E2
open Go

def WideF (F : Fence) : Prop := (∀ f, F.fn f) ∧ F.depth = none

theorem WideF.inRound {F : Fence} (h : WideF F) (l : Nat) : WideF (F.inRound l) := h

def RelPE (G : Ghost) (w : World) (p : PE) (q : PanicEntry) : Prop := Rel G w p.v q.v ∧ p.recovered = q.recovered ∧ p.goexit = q.goexit

def RelCh (G : Ghost) (w : World) : List PE → List PanicEntry → Prop
  | [], l => l = []
  | p :: ps, l => ∃ q qs, l = q :: qs ∧ RelPE G w p q ∧ RelCh G w ps qs

def RelEx (G : Ghost) (w : World) : Ex → Exit → Prop
  | .normal, e => e = .normal
  | .exit id, e => e = .exit id
  | .goto l, e => e = .goto l
  | .ret, e => e = .ret
  | .panic ch, e => ∃ rch, e = .panic rch ∧ RelCh G w ch rch

/-- What stands behind a piece of code. -/
def Post (H : Heap) (G : Ghost) (w : World) (x : Ex × Fr × Heap) : Exit → Act → World → Prop :=
  fun e a' w' => ∃ G', Step H G w x.2.2 G' w' ∧ SimFr G' w' x.2.1 a' ∧ RelEx G' w' x.1 e

def RelEnd (G : Ghost) (w : World) : CR → Ending → Prop
  | .ret v, e => ∃ x, e = .returned x ∧ Rel G w v x
  | .panic ch, e => ∃ rch, e = .panicked rch ∧ RelCh G w ch rch

/-- A call that E2 answers is answered so by the model. -/
def CallOk (P : Program) (c : Call) : Prop :=
  ∀ tgt args H r H', c tgt args H = some (r, H') → ∀ G w t rargs, Sim H G w → RelTgt G w tgt args t rargs →
    (∃ x w' G' v, (invoke t rargs).run P w = .ok (.value x) w' ∧ Step H G w H' G' w' ∧ r = .ret v ∧ Rel G' w' v x) ∨
    (∃ f rargs', (invoke t rargs).run P w = .ok (.enter f rargs') w ∧ ∀ F n, WideF F → CallsIn F n P f rargs' w fun e w' => ∃ G', Step H G w H' G' w' ∧ RelEnd G' w' r e) ∨
    (∃ l f tmps assign body, (invoke t rargs).run P w = .ok (.round l f tmps assign body) w ∧ ∀ F n, WideF F → RoundIn F n P l f tmps assign body w fun e w' => ∃ G', Step H G w H' G' w' ∧ RelEnd G' w' r e)

section
variable {P : Program} {sp : Nat → Option (List V → Heap → Option (CR × Heap))} {call : Call} {H : Heap} {G : Ghost} {w : World} {fr : Fr} {a : Act} {F : Fence} {n : Nat}

theorem no_bool {v : V} {b : Bool} (h : Rel G w v (.bool b)) (hn : ∀ b', v ≠ .bool b') : False := by
  cases v <;> simp only [Rel, reduceCtorEq, false_and, and_false, exists_false, exists_const] at h
  all_goals first
    | exact hn _ rfl
    | (split at h <;> simp at h; done)
    | grind

theorem want_sound {o : Oper} {all : Array Oper} (e : SimFr G w fr a) {b : Bool} (h : wantV o all fr = some b) : Region.wanted o (yielded all a.tmps) = b := by
  unfold Region.wanted
  unfold wantV at h
  cases hg : o.guard with
  | none => rw [hg] at h; simp at h; simp [h]
  | some g =>
    obtain ⟨j, want⟩ := g
    rw [hg] at h
    simp only at h ⊢
    cases hd : (all[j]?).bind (·.dst) with
    | none => rw [hd] at h; simp at h; simp [yielded, hd, h]
    | some t =>
      rw [hd] at h
      simp only at h
      split at h
      · rename_i b' hv
        have ht := tmp_sound e hv
        simp only [yielded, hd, Option.bind_some]
        simp only [Rel] at ht
        have hsome : a.tmps[t]? = some (.bool b') := by
          cases hq : a.tmps[t]? with
          | none => rw [Array.getD_eq_getD_getElem?, hq] at ht; simp [undef] at ht
          | some y => rw [Array.getD_eq_getD_getElem?, hq] at ht; simpa using ht
        simpa [hsome] using h
      · rename_i v hnb hv
        have ht := tmp_sound e hv
        simp only [yielded, hd, Option.bind_some]
        cases h
        have hno : ∀ b, a.tmps[t]? ≠ some (.bool b) := by
          intro b hq
          have hx : a.tmps.getD t undef = .bool b := by rw [Array.getD_eq_getD_getElem?, hq]; rfl
          rw [hx] at ht
          exact no_bool ht (fun b' hb' => hnb b' (by rw [hb']))
        cases hq : a.tmps[t]? with
        | none => simp
        | some y =>
          cases y <;> first
            | (exact absurd hq (hno _))
            | simp
      · cases h

theorem about_ok (hF : WideF F) {o : Oper} : ∀ f, o.about P w a.eval = some f → F.fn f := fun f _ => hF.1 f

/-- One operation, with whatever stands behind it. -/
theorem runOp_sound (hc : CallOk P call) (hF : WideF F) (hs : Sim H G w) (e : SimFr G w fr a) {all : Array Oper} {o : Oper} {r : CR} {H' : Heap} (h : runOpV (envOf P sp) call all o fr H = some (r, H'))
    {K : Act → World → Prop} {Q : Exit → Act → World → Prop} (hK : ∀ v y w' G', r = .ret v → Step H G w H' G' w' → Rel G' w' v y → K (a.put o.dst y) w')
    (hQ : ∀ w' G' ch rch, r = .panic ch → Step H G w H' G' w' → RelCh G' w' ch rch → Q (.panic rch) a w') :
    if Region.wanted o (yielded all a.tmps) then o.wpIn F n P a w K Q else (∀ f, o.about P w a.eval = some f → F.fn f) ∧ K (a.put o.dst undef) w := by
  unfold runOpV at h
  split at h
  · rename_i hw
    rw [want_sound e hw, if_pos rfl]
    have hnd : ∀ c, evOp (envOf P sp) o fr H ≠ none → o.op ≠ .defer c := by
      intro c hne ho
      apply hne
      simp only [evOp, ho]
    split at h
    · rename_i v H1 hev
      cases h
      obtain ⟨y, w', G', h1, h2, h3⟩ := evOp_sound hs e hev
      refine ⟨about_ok hF, ?_⟩
      rw [Oper.semAt_eq _ _ _ (fun c => hnd c (by rw [hev]; simp)), h1]
      exact hK _ _ _ _ rfl h2 h3
    · rename_i H1 hev
      cases h
      obtain ⟨w', G', h1, h2⟩ := evOp_sound hs e hev
      refine ⟨about_ok hF, ?_⟩
      rw [Oper.semAt_eq _ _ _ (fun c => hnd c (by rw [hev]; simp)), h1]
      exact hK _ _ _ _ rfl h2 rel_undef
    · rename_i tgt args H1 hev
      obtain ⟨rfl, t, rargs, h1, h2⟩ := evOp_sound hs e hev
      refine ⟨about_ok hF, ?_⟩
      rw [Oper.semAt_eq _ _ _ (fun c => hnd c (by rw [hev]; simp)), h1]
      have hd : F.depth.isSome = true → 1 ≤ n := by rw [hF.2]; simp
      rcases hc _ _ _ _ _ h _ _ _ _ hs h2 with ⟨y, w', G', v', r1, r2, r3, r4⟩ | ⟨f, rargs', r1, r2⟩ | ⟨l, f, tmps, assign, body, r1, r2⟩
      · subst r3
        rw [r1]
        exact hK _ _ _ _ rfl r2 r4
      · rw [r1]
        refine ⟨hd, (r2 F (n - 1) hF).mono fun en w' hen => ?_⟩
        obtain ⟨G', s1, s2⟩ := hen
        cases r with
        | ret v => obtain ⟨y, rfl, s2⟩ := s2; exact hK _ _ _ _ rfl s1 s2
        | panic ch => obtain ⟨rch, rfl, s2⟩ := s2; exact hQ _ _ _ _ rfl s1 s2
      · rw [r1]
        refine ⟨hd, (r2 F (n - 1) hF).mono fun en w' hen => ?_⟩
        obtain ⟨G', s1, s2⟩ := hen
        cases r with
        | ret v => obtain ⟨y, rfl, s2⟩ := s2; exact hK _ _ _ _ rfl s1 s2
        | panic ch => obtain ⟨rch, rfl, s2⟩ := s2; exact hQ _ _ _ _ rfl s1 s2
    · rename_i v H1 hev
      cases h
      obtain ⟨rfl, y, h1, h2⟩ := evOp_sound hs e hev
      refine ⟨about_ok hF, ?_⟩
      rw [Oper.semAt_eq _ _ _ (fun c => hnd c (by rw [hev]; simp)), h1]
      refine hQ w G _ _ rfl (Step.refl hs) ?_
      simp only [RelCh, RelPE]
      exact ⟨_, _, rfl, ⟨h2, rfl, rfl⟩, rfl⟩
    · cases h
  · rename_i hw
    rw [want_sound e hw]
    simp only [Bool.false_eq_true, if_false]
    cases h
    exact ⟨about_ok hF, hK _ _ _ _ rfl (Step.refl hs) rel_undef⟩
  · cases h

theorem Post.trans {H' : Heap} {G' : Ghost} {w' : World} (h : Step H G w H' G' w') {x : Ex × Fr × Heap} {ex : Exit} {a' : Act} {w'' : World} (hp : Post H' G' w' x ex a' w'') : Post H G w x ex a' w'' := by
  obtain ⟨G'', s1, s2, s3⟩ := hp
  exact ⟨G'', h.trans s1, s2, s3⟩

theorem runOps_sound (hc : CallOk P call) (hF : WideF F) {all : Array Oper} : ∀ (l : List Oper) (H : Heap) (G : Ghost) (w : World) (fr : Fr) (a : Act) (x : Ex × Fr × Heap) (Q : Exit → Act → World → Prop), Sim H G w → SimFr G w fr a →
    runOps (envOf P sp) call all l fr H = some x → (∀ e a' w', Post H G w x e a' w' → Q e a' w') → wpListIn F n P all Q l a w
  | [], H, G, w, fr, a, x, Q, hs, e, h, hQ => by
    simp only [runOps, Option.some.injEq] at h
    subst h
    exact hQ _ _ _ ⟨G, Step.refl hs, e, rfl⟩
  | o :: l, H, G, w, fr, a, x, Q, hs, e, h, hQ => by
    simp only [runOps] at h
    split at h
    · rename_i v H' h1
      refine runOp_sound hc hF hs e h1 (fun v' y w' G' hv s1 s2 => ?_) (fun w' G' ch rch hx => by cases hx)
      cases hv
      exact runOps_sound hc hF l H' G' w' _ _ x Q s1.sim ((e.ext s1.ext).put _ s2) h (fun e a'' w'' hp => hQ _ _ _ (hp.trans s1))
    · rename_i ch H' h1
      cases h
      refine runOp_sound hc hF hs e h1 (fun v' y w' G' hv => by cases hv) (fun w' G' ch' rch hx s1 s2 => ?_)
      cases hx
      exact hQ _ _ _ ⟨G', s1, e.ext s1.ext, ⟨rch, rfl, s2⟩⟩
    · cases h

/-- What a region's operations come to where their order is drawn. -/
def DrawOk (P : Program) (sp : Nat → Option (List V → Heap → Option (CR × Heap))) (call : Call) : Prop :=
  ∀ (ops : Array Oper) (fr : Fr) (H : Heap) (fr' : Fr) (H' : Heap), runDraw (envOf P sp) call ops (Region.before ops) 0 ops.toList [] fr H = some (fr', H') → drawStatic ops = true →
    ∀ (G : Ghost) (w : World) (a : Act) (F : Fence) (n : Nat) (id : Nat) (Q : Exit → Act → World → Prop), WideF F → Sim H G w → SimFr G w fr a → (∀ e a' w', Post H G w (.normal, fr', H') e a' w' → Q e a' w') → (Code.region id ops true).wpIn F n P Q a w

def RelRound (G : Ghost) : Option Nat → Option Nat → Prop
  | none, r => r = none
  | some l, r => ∃ b sh n, G l 0 = some (b, sh, n) ∧ r = some b

theorem RelRound.sub {G G' : Ghost} (h : ∀ nm g x, G nm g = some x → G' nm g = some x) {r r' : Option Nat} (e : RelRound G r r') : RelRound G' r r' := by
  cases r with
  | none => exact e
  | some l => obtain ⟨b, sh, n, e1, e2⟩ := e; exact ⟨b, sh, n, h _ _ _ e1, e2⟩

theorem stepR_scope {b : Frame} {k : List Item} {cs : List Frame} {c : Code} : step P (lone (b.atR a (.code (.scope c) :: k)) cs w) = .next (lone (b.atR a (.code c :: .inScope c :: k)) cs w) :=
  step_lone_go (by simp [stepG, stepG.exec, Frame.atR])

theorem stepR_inScope {b : Frame} {k : List Item} {cs : List Frame} {c : Code} : step P (lone (b.atR a (.inScope c :: k)) cs w) = .next (lone (b.atR a k) cs w) :=
  step_lone_go (by simp [stepG, stepG.exec, Frame.atR])

/-- A scope that no jump to a label leaves. -/
def noGoto (Q : Exit → Act → World → Prop) : Exit → Act → World → Prop
  | .goto _, _, _ => False
  | e, a, w => Q e a w

theorem wpIn_scope {c : Code} {Q : Exit → Act → World → Prop} (h : c.wpIn F n P (noGoto Q) a w) : (Code.scope c).wpIn F n P Q a w := by
  intro b k cs hro hb hr
  have h0 : (lone (b.atR a (.code (.scope c) :: k)) cs w).fenced P F := fenced_calm hb hr rfl
  obtain ⟨e, a₁, w₁, hq, harr⟩ := h b (.inScope c :: k) cs hro hb hr
  cases e with
  | normal => exact ⟨.normal, a₁, w₁, hq, .head h0 stepR_scope (StepsIn.trans harr (.one (fenced_calm hb hr rfl) stepR_inScope))⟩
  | exit id =>
    refine ⟨.exit id, a₁, w₁, hq, fun k' hk => .head h0 stepR_scope (harr.1 k' (by simp [exitTo, hk])), fun hr' hk => ?_⟩
    obtain ⟨k₁, h1, h2⟩ := harr.2 hr' (by simp [exitTo, hk])
    exact ⟨k₁, h1, .head h0 stepR_scope h2⟩
  | goto l => exact hq.elim
  | ret => exact ⟨.ret, a₁, w₁, hq, .of_steps (.one h0 stepR_scope) harr⟩
  | panic ch => exact ⟨.panic ch, a₁, w₁, hq, .of_steps (.one h0 stepR_scope) harr⟩
  | outgrown => exact ⟨.outgrown, a₁, w₁, hq, .of_steps (b := b) (k := k) (cs := cs) (e := .outgrown) (.one h0 stepR_scope) harr⟩

theorem evCode_sound (hc : CallOk P call) (hd : DrawOk P sp call) (fn : FuncId) (fuel : Nat) : ∀ (c : Code) (_ : codeOk c = true) (round : Option Nat) (H : Heap) (G : Ghost) (w : World) (fr : Fr) (a : Act) (x : Ex × Fr × Heap) (F : Fence) (n : Nat) (Q : Exit → Act → World → Prop),
    WideF F → RelRound G round F.round → Sim H G w → SimFr G w fr a → evCode (envOf P sp) call fn round fuel c fr H = some x → (∀ e a' w', Post H G w x e a' w' → Q e a' w') → c.wpIn F n P Q a w
  | .skip, hok, round, H, G, w, fr, a, x, F, n, Q, hF, hro, hs, e, h, hQ => by
    simp only [evCode, Option.some.injEq] at h; subst h
    exact wpIn_skip (hQ _ _ _ ⟨G, Step.refl hs, e, rfl⟩)
  | .label l, hok, round, H, G, w, fr, a, x, F, n, Q, hF, hro, hs, e, h, hQ => by
    simp only [evCode, Option.some.injEq] at h; subst h
    exact wpIn_label (hQ _ _ _ ⟨G, Step.refl hs, e, rfl⟩)
  | .exit id, hok, round, H, G, w, fr, a, x, F, n, Q, hF, hro, hs, e, h, hQ => by
    simp only [evCode, Option.some.injEq] at h; subst h
    exact wpIn_exit (hQ _ _ _ ⟨G, Step.refl hs, e, rfl⟩)
  | .goto l, hok, round, H, G, w, fr, a, x, F, n, Q, hF, hro, hs, e, h, hQ => by
    simp only [evCode, Option.some.injEq] at h; subst h
    exact wpIn_goto (hQ _ _ _ ⟨G, Step.refl hs, e, rfl⟩)
  | .ret, hok, round, H, G, w, fr, a, x, F, n, Q, hF, hro, hs, e, h, hQ => by
    simp only [evCode, Option.some.injEq] at h; subst h
    exact wpIn_ret (hQ _ _ _ ⟨G, Step.refl hs, e, rfl⟩)
  | .seq c d, hok, round, H, G, w, fr, a, x, F, n, Q, hF, hro, hs, e, h, hQ => by
    simp only [evCode] at h
    split at h
    · rename_i fr' H' h1
      refine wpIn_seq (evCode_sound hc hd fn fuel c (Bool.and_eq_true_iff.1 hok).1 round H G w fr a _ F n _ hF hro hs e h1 (fun e1 a1 w1 hp => ?_))
      obtain ⟨G', s1, s2, s3⟩ := hp
      cases s3
      exact evCode_sound hc hd fn fuel d (Bool.and_eq_true_iff.1 hok).2 round H' G' w1 fr' a1 x F n Q hF (hro.sub s1.ext.sub) s1.sim s2 h (fun e2 a2 w2 hp => hQ _ _ _ (hp.trans s1))
    · rename_i y hne
      refine wpIn_seq (evCode_sound hc hd fn fuel c (Bool.and_eq_true_iff.1 hok).1 round H G w fr a _ F n _ hF hro hs e h (fun e1 a1 w1 hp => ?_))
      obtain ⟨ex, fr', H'⟩ := x
      cases ex with
      | normal => exact (hne _ _ h).elim
      | _ =>
        have hq := hQ e1 a1 w1 hp
        obtain ⟨G', s1, s2, s3⟩ := hp
        first
          | (cases s3; exact hq)
          | (obtain ⟨rch, rfl, _⟩ := s3; exact hq)
  | .cond c x y, hok, round, H, G, w, fr, a, z, F, n, Q, hF, hro, hs, e, h, hQ => by
    simp only [evCode] at h
    split at h
    · rename_i hb
      have hv := opd_sound hs e hb
      simp only [Rel] at hv
      exact wpIn_cond hv (evCode_sound hc hd fn fuel x (Bool.and_eq_true_iff.1 hok).1 round H G w fr a z F n Q hF hro hs e h hQ)
    · rename_i hb
      have hv := opd_sound hs e hb
      simp only [Rel] at hv
      exact wpIn_cond hv (evCode_sound hc hd fn fuel y (Bool.and_eq_true_iff.1 hok).2 round H G w fr a z F n Q hF hro hs e h hQ)
    · cases h
  | .block id c, hok, round, H, G, w, fr, a, x, F, n, Q, hF, hro, hs, e, h, hQ => by
    simp only [evCode] at h
    split at h
    · rename_i id' fr' H' h1
      refine wpIn_block (evCode_sound hc hd fn fuel c hok round H G w fr a _ F n _ hF hro hs e h1 (fun e1 a1 w1 hp => ?_))
      obtain ⟨G', s1, s2, s3⟩ := hp
      cases s3
      simp only [Exit.inBlock]
      rw [cond_eq_ite] at h
      simp only [Nat.beq_eq] at h
      split at h
      · rename_i hid
        cases h
        rw [if_pos hid]
        exact hQ _ _ _ ⟨G', s1, s2, rfl⟩
      · rename_i hid
        cases h
        rw [if_neg hid]
        exact hQ _ _ _ ⟨G', s1, s2, rfl⟩
    · rename_i y hne
      refine wpIn_block (evCode_sound hc hd fn fuel c hok round H G w fr a _ F n _ hF hro hs e h (fun e1 a1 w1 hp => ?_))
      obtain ⟨ex, fr', H'⟩ := x
      have hq := hQ e1 a1 w1 hp
      obtain ⟨G', s1, s2, s3⟩ := hp
      cases ex with
      | exit id' => exact (hne _ _ _ h).elim
      | panic ch => obtain ⟨rch, rfl, _⟩ := s3; exact hq
      | _ => cases s3; exact hq
  | .scope c, hok, round, H, G, w, fr, a, x, F, n, Q, hF, hro, hs, e, h, hQ => by
    simp only [evCode] at h
    split at h
    · cases h
    · rename_i y hne
      refine wpIn_scope (evCode_sound hc hd fn fuel c hok round H G w fr a _ F n _ hF hro hs e h (fun e1 a1 w1 hp => ?_))
      obtain ⟨ex, fr', H'⟩ := x
      have hq := hQ e1 a1 w1 hp
      obtain ⟨G', s1, s2, s3⟩ := hp
      cases ex with
      | goto l => exact (hne _ _ _ h).elim
      | panic ch => obtain ⟨rch, rfl, _⟩ := s3; exact hq
      | _ => cases s3; exact hq
  | .loop c, hok, round, H, G, w, fr, a, x, F, n, Q, hF, hro, hs, e, h, hQ => by
    simp only [evCode] at h
    refine wpIn_loop_rounds fuel ?_
    have key : ∀ (m : Nat) (H1 : Heap) (G1 : Ghost) (w1 : World) (fr1 : Fr) (a1 : Act) (s0 : Ex), Step H G w H1 G1 w1 → SimFr G1 w1 fr1 a1 →
        iter (fun (s : Ex × Fr × Heap) => match evCode (envOf P sp) call fn round fuel c s.2.1 s.2.2 with
          | some (.normal, fr', H') => some (true, .normal, fr', H')
          | some r => some (false, r)
          | none => none) m (s0, fr1, H1) = some x → Code.roundsIn F n P c Q m a1 w1 := by
      intro m
      induction m with
      | zero => intro H1 G1 w1 fr1 a1 s0 _ _ hi; simp [iter] at hi
      | succ m ih =>
        intro H1 G1 w1 fr1 a1 s0 st e1 hi
        simp only [iter] at hi
        rw [roundsIn_succ]
        split at hi
        · rename_i s' hstep
          split at hstep
          · rename_i fr' H' h1
            cases hstep
            refine evCode_sound hc hd fn fuel c hok round H1 G1 w1 fr1 a1 _ F n _ hF (hro.sub st.ext.sub) st.sim e1 h1 (fun e2 a2 w2 hp => ?_)
            obtain ⟨G', s1, s2, s3⟩ := hp
            cases s3
            exact ih H' G' w2 fr' a2 _ (st.trans s1) s2 hi
          · cases hstep
          · cases hstep
        · rename_i s' hstep
          cases hi
          split at hstep
          · cases hstep
          · rename_i r hne h1
            cases hstep
            refine evCode_sound hc hd fn fuel c hok round H1 G1 w1 fr1 a1 _ F n _ hF (hro.sub st.ext.sub) st.sim e1 h1 (fun e2 a2 w2 hp => ?_)
            have hq := hQ e2 a2 w2 (hp.trans st)
            obtain ⟨ex, fr', H'⟩ := x
            obtain ⟨G', s1, s2, s3⟩ := hp
            cases ex with
            | normal => exact (hne _ _ rfl).elim
            | panic ch => obtain ⟨rch, rfl, _⟩ := s3; exact hq
            | _ => cases s3; exact hq
          · cases hstep
        · cases hi
    exact key fuel H G w fr a .normal (Step.refl hs) e h
  | .region id ops draw, hok, round, H, G, w, fr, a, x, F, n, Q, hF, hro, hs, e, h, hQ => by
    simp only [evCode, cond_eq_ite] at h
    cases draw with
    | false =>
      simp only [Bool.false_eq_true, if_false] at h
      exact wpIn_region_list (runOps_sound hc hF ops.toList H G w fr a x Q hs e h hQ)
    | true =>
      simp only [if_true, Option.map_eq_some_iff] at h
      obtain ⟨⟨fr', H'⟩, h1, rfl⟩ := h
      exact hd ops fr H fr' H' h1 (by simpa [codeOk] using hok) G w a F n id Q hF hs e hQ
  | .rangeFunc f params assign body, hok, round, H, G, w, fr, a, x, F, n, Q, hF, hro, hs, e, h, hQ => by
    simp [evCode] at h
  | .refuse s, hok, round, H, G, w, fr, a, x, F, n, Q, hF, hro, hs, e, h, hQ => by
    simp [evCode] at h

end
end Go.E2
