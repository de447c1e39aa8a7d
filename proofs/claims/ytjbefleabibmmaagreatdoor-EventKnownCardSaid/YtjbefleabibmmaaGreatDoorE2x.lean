/- E2: DEFERRED CALLS: what E2 makes of a function that is deferred, and of what is recovered in it, the model makes of it. -/
import Derived.Test.YtjbefleabibmmaaGreatDoorE2r
import Derived.RecoverIn
import Derived.Laws.Externs
namespace Go.E2
open Go

def RelMd (G : Ghost) (w : World) : Md → FrameMode → Prop
  | .returning, u => u = .returning
  | .panicking v, u => ∃ x, u = .panicking [{ v := x, recovered := false }] ∧ Rel G w v x
  | .recovered v, u => ∃ x, u = .panicking [{ v := x, recovered := true }] ∧ Rel G w v x

theorem RelMd.ext {r : Nat} {G G' : Ghost} {w w' : World} (h : Ext r G w G' w') {md : Md} {u : FrameMode} (e : RelMd G w md u) : RelMd G' w' md u := by
  cases md with
  | returning => exact e
  | panicking v => obtain ⟨x, e1, e2⟩ := e; exact ⟨x, e1, e2.ext h⟩
  | recovered v => obtain ⟨x, e1, e2⟩ := e; exact ⟨x, e1, e2.ext h⟩

theorem RelMd.settle {G : Ghost} {w : World} {md : Md} {u : FrameMode} (e : RelMd G w md u) : RelMd G w (settleV md) (Go.settle u) := by
  cases md with
  | returning => subst e; rfl
  | panicking v => obtain ⟨x, rfl, e2⟩ := e; exact ⟨x, rfl, e2⟩
  | recovered v => obtain ⟨x, rfl, e2⟩ := e; rfl

theorem RelMd.ne_run {G : Ghost} {w : World} {md : Md} {u : FrameMode} (e : RelMd G w md u) : u ≠ .run := by
  cases md with
  | returning => subst e; simp
  | panicking v => obtain ⟨x, rfl, e2⟩ := e; simp
  | recovered v => obtain ⟨x, rfl, e2⟩ := e; simp

section
variable {P : Program} {sp : Nat → Option (List V → Heap → Option (CR × Heap))} {call : Call} {H : Heap} {G : Ghost} {w : World} {fr : Fr} {a : Act} {F : Fence} {n : Nat}

/-- What stands behind a piece of a deferred function's code. -/
def PostS (H : Heap) (G : Ghost) (w : World) (x : Ex × Md × Fr × Heap) (c₀ : Frame) (cs : List Frame) : Exit → Act → List Frame → World → Prop :=
  fun e a' cs' w' => ∃ u', cs' = { c₀ with mode := u' } :: cs ∧ ∃ G', Step H G w x.2.2.2 G' w' ∧ SimFr G' w' x.2.2.1 a' ∧ RelEx G' w' x.1 e ∧ RelMd G' w' x.2.1 u'

theorem PostS.trans {H' : Heap} {G' : Ghost} {w' : World} (h : Step H G w H' G' w') {x : Ex × Md × Fr × Heap} {c₀ : Frame} {u : FrameMode} {cs : List Frame} {ex : Exit} {a' : Act} {cs' : List Frame} {w'' : World} (hp : PostS H' G' w' x { c₀ with mode := u } cs ex a' cs' w'') : PostS H G w x c₀ cs ex a' cs' w'' := by
  obtain ⟨u', s0, G'', s1, s2, s3, s4⟩ := hp
  exact ⟨u', s0, G'', h.trans s1, s2, s3, s4⟩

theorem recover_run {o : Oper} (h : isRecover o = true) : (execOp a.eval o).run P w = .ok .recover w := by
  unfold isRecover at h
  split at h
  · rename_i c ho
    split at h
    · rename_i hc
      simp only [execOp, ho, resolve, hc, Sem.run_bind, Sem.run_pure, Result.andThen_ok, invoke, builtin]
    · cases h
  · cases h

theorem runOpsS_sound (hF : WideF F) {all : Array Oper} {c₀ : Frame} {cs : List Frame} {x : Ex × Md × Fr × Heap} {Q : Exit → Act → List Frame → World → Prop} : ∀ (l : List Oper) (k : Nat) (_ : ∀ j, l[j]? = all[k + j]?) (H : Heap) (G : Ghost) (w : World) (md : Md) (u : FrameMode) (fr : Fr) (a : Act), Sim H G w → SimFr G w fr a → RelMd G w md u →
    runOpsS (envOf P sp) all l md fr H = some x → (∀ e a' cs' w', PostS H G w x c₀ cs e a' cs' w' → Q e a' cs' w') → wpOpsSIn F n P all Q (List.range' k l.length) a ({ c₀ with mode := u } :: cs) w
  | [], k, hl, H, G, w, md, u, fr, a, hs, e, hm, h, hQ => by
    simp only [runOpsS, Option.some.injEq] at h
    subst h
    exact hQ _ _ _ _ ⟨u, rfl, G, Step.refl hs, e, rfl, hm⟩
  | o :: l, k, hl, H, G, w, md, u, fr, a, hs, e, hm, h, hQ => by
    have h0 : all[k]? = some o := by simpa using (hl 0).symm
    have hl' : ∀ j, l[j]? = all[k + 1 + j]? := fun j => by have := hl (j + 1); simpa [Nat.add_assoc, Nat.add_comm 1 j] using this
    simp only [runOpsS] at h
    simp only [List.length_cons, List.range'_succ, wpOpsSIn, h0]
    refine ⟨about_ok hF, ?_⟩
    split at h
    · rename_i hw
      rw [want_sound e hw, if_pos rfl]
      rw [cond_eq_ite] at h
      split at h
      · rename_i hr
        rw [recover_run (P := P) hr]
        cases md with
        | returning =>
          simp only [RelMd] at hm
          subst hm
          simp only [recoverD]
          exact runOpsS_sound hF l (k + 1) hl' H G w .returning .returning _ _ hs (e.put _ (by simp only [Rel])) rfl h hQ
        | recovered v =>
          obtain ⟨y, rfl, hv⟩ := hm
          simp only [recoverD]
          exact runOpsS_sound hF l (k + 1) hl' H G w (.recovered v) _ _ _ hs (e.put _ (by simp only [Rel])) ⟨y, rfl, hv⟩ h hQ
        | panicking v =>
          obtain ⟨y, rfl, hv⟩ := hm
          simp only [recoverD]
          exact runOpsS_sound hF l (k + 1) hl' H G w (.recovered v) _ _ _ hs (e.put _ hv) ⟨y, rfl, hv⟩ h hQ
      · split at h
        · rename_i v H' hev
          obtain ⟨y, w', G', h1, h2, h3⟩ := evOp_sound hs e hev
          rw [h1]
          exact runOpsS_sound hF l (k + 1) hl' H' G' w' md u _ _ h2.sim ((e.ext h2.ext).put _ h3) (hm.ext h2.ext) h (fun e' a' cs' w'' hp => hQ _ _ _ _ (hp.trans h2 (u := u)))
        · rename_i H' hev
          obtain ⟨w', G', h1, h2⟩ := evOp_sound hs e hev
          rw [h1]
          exact runOpsS_sound hF l (k + 1) hl' H' G' w' md u _ _ h2.sim ((e.ext h2.ext).put _ rel_undef) (hm.ext h2.ext) h (fun e' a' cs' w'' hp => hQ _ _ _ _ (hp.trans h2 (u := u)))
        · cases h
    · rename_i hw
      rw [want_sound e hw]
      simp only [Bool.false_eq_true, if_false]
      exact runOpsS_sound hF l (k + 1) hl' H G w md u _ _ hs (e.put _ rel_undef) hm h hQ
    · cases h

theorem evLeafS_sound (hc : CallOk P call) (hd : DrawOk P sp call) (fn : FuncId) (fuel : Nat) (c : Code) (hok : codeOk c = true) (H : Heap) (G : Ghost) (w : World) (md : Md) (u : FrameMode) (fr : Fr) (a : Act) (x : Ex × Md × Fr × Heap) (F : Fence) (n : Nat) (Q : Exit → Act → List Frame → World → Prop) (c₀ : Frame) (cs : List Frame)
    (hF : WideF F) (hro : F.round = none) (hs : Sim H G w) (e : SimFr G w fr a) (hm : RelMd G w md u) (h : evLeafS (envOf P sp) call fn fuel c md fr H = some x) (hQ : ∀ e a' cs' w', PostS H G w x c₀ cs e a' cs' w' → Q e a' cs' w') : c.wpSIn F n P Q a ({ c₀ with mode := u } :: cs) w := by
  unfold evLeafS at h
  rw [cond_eq_ite] at h
  split at h
  · split at h
    · rename_i id ops _
      refine wpSIn_region ?_
      have := runOpsS_sound (n := n) (Q := Q) hF ops.toList 0 (by simp) H G w md u fr a hs e hm h hQ
      rw [List.range_eq_range', ← Array.length_toList]
      exact this
    · cases h
  · obtain ⟨z, hz, rfl⟩ := Option.map_eq_some_iff.1 h
    refine wpSIn_of_wpIn hro ?_
    refine evCode_sound hc hd fn fuel c hok none H G w fr a z F n _ hF hro hs e hz (fun ex a' w' hp => ?_)
    obtain ⟨G', s1, s2, s3⟩ := hp
    exact hQ _ _ _ _ ⟨u, rfl, G', s1, s2, s3, hm.ext s1.ext⟩

theorem evCodeS_sound (hc : CallOk P call) (hd : DrawOk P sp call) (fn : FuncId) (fuel : Nat) : ∀ (c : Code) (_ : codeOk c = true) (H : Heap) (G : Ghost) (w : World) (md : Md) (u : FrameMode) (fr : Fr) (a : Act) (x : Ex × Md × Fr × Heap) (F : Fence) (n : Nat) (Q : Exit → Act → List Frame → World → Prop) (c₀ : Frame) (cs : List Frame),
    WideF F → F.round = none → Sim H G w → SimFr G w fr a → RelMd G w md u → evCodeS (envOf P sp) call fn fuel c md fr H = some x → (∀ e a' cs' w', PostS H G w x c₀ cs e a' cs' w' → Q e a' cs' w') → c.wpSIn F n P Q a ({ c₀ with mode := u } :: cs) w
  | .seq c d, hok, H, G, w, md, u, fr, a, x, F, n, Q, c₀, cs, hF, hro, hs, e, hm, h, hQ => by
    simp only [evCodeS] at h
    split at h
    · rename_i md' fr' H' h1
      refine wpSIn_seq (evCodeS_sound hc hd fn fuel c (Bool.and_eq_true_iff.1 hok).1 H G w md u fr a _ F n _ c₀ cs hF hro hs e hm h1 (fun e1 a1 cs1 w1 hp => ?_))
      obtain ⟨u1, rfl, G', s1, s2, s3, s4⟩ := hp
      cases s3
      exact evCodeS_sound hc hd fn fuel d (Bool.and_eq_true_iff.1 hok).2 H' G' w1 md' u1 fr' a1 x F n Q c₀ cs hF hro s1.sim s2 s4 h (fun e2 a2 cs2 w2 hp => hQ _ _ _ _ (hp.trans s1 (u := c₀.mode)))
    · rename_i y hne
      refine wpSIn_seq (evCodeS_sound hc hd fn fuel c (Bool.and_eq_true_iff.1 hok).1 H G w md u fr a _ F n _ c₀ cs hF hro hs e hm h (fun e1 a1 cs1 w1 hp => ?_))
      obtain ⟨ex, md', fr', H'⟩ := x
      cases ex with
      | normal => exact (hne _ _ _ h).elim
      | _ =>
        have hq := hQ e1 a1 cs1 w1 hp
        obtain ⟨u1, rfl, G', s1, s2, s3, s4⟩ := hp
        first
          | (cases s3; exact hq)
          | (obtain ⟨rch, rfl, _⟩ := s3; exact hq)
  | .cond c x y, hok, H, G, w, md, u, fr, a, z, F, n, Q, c₀, cs, hF, hro, hs, e, hm, h, hQ => by
    simp only [evCodeS] at h
    split at h
    · rename_i hb
      have hv := opd_sound hs e hb
      simp only [Rel] at hv
      exact wpSIn_cond hv (evCodeS_sound hc hd fn fuel x (Bool.and_eq_true_iff.1 hok).1 H G w md u fr a z F n Q c₀ cs hF hro hs e hm h hQ)
    · rename_i hb
      have hv := opd_sound hs e hb
      simp only [Rel] at hv
      exact wpSIn_cond hv (evCodeS_sound hc hd fn fuel y (Bool.and_eq_true_iff.1 hok).2 H G w md u fr a z F n Q c₀ cs hF hro hs e hm h hQ)
    · cases h
  | .skip, hok, H, G, w, md, u, fr, a, x, F, n, Q, c₀, cs, hF, hro, hs, e, hm, h, hQ => evLeafS_sound hc hd fn fuel _ hok H G w md u fr a x F n Q c₀ cs hF hro hs e hm h hQ
  | .label l, hok, H, G, w, md, u, fr, a, x, F, n, Q, c₀, cs, hF, hro, hs, e, hm, h, hQ => evLeafS_sound hc hd fn fuel _ hok H G w md u fr a x F n Q c₀ cs hF hro hs e hm h hQ
  | .exit id, hok, H, G, w, md, u, fr, a, x, F, n, Q, c₀, cs, hF, hro, hs, e, hm, h, hQ => evLeafS_sound hc hd fn fuel _ hok H G w md u fr a x F n Q c₀ cs hF hro hs e hm h hQ
  | .goto l, hok, H, G, w, md, u, fr, a, x, F, n, Q, c₀, cs, hF, hro, hs, e, hm, h, hQ => evLeafS_sound hc hd fn fuel _ hok H G w md u fr a x F n Q c₀ cs hF hro hs e hm h hQ
  | .ret, hok, H, G, w, md, u, fr, a, x, F, n, Q, c₀, cs, hF, hro, hs, e, hm, h, hQ => evLeafS_sound hc hd fn fuel _ hok H G w md u fr a x F n Q c₀ cs hF hro hs e hm h hQ
  | .block id c, hok, H, G, w, md, u, fr, a, x, F, n, Q, c₀, cs, hF, hro, hs, e, hm, h, hQ => evLeafS_sound hc hd fn fuel _ hok H G w md u fr a x F n Q c₀ cs hF hro hs e hm h hQ
  | .loop c, hok, H, G, w, md, u, fr, a, x, F, n, Q, c₀, cs, hF, hro, hs, e, hm, h, hQ => evLeafS_sound hc hd fn fuel _ hok H G w md u fr a x F n Q c₀ cs hF hro hs e hm h hQ
  | .scope c, hok, H, G, w, md, u, fr, a, x, F, n, Q, c₀, cs, hF, hro, hs, e, hm, h, hQ => evLeafS_sound hc hd fn fuel _ hok H G w md u fr a x F n Q c₀ cs hF hro hs e hm h hQ
  | .region id ops draw, hok, H, G, w, md, u, fr, a, x, F, n, Q, c₀, cs, hF, hro, hs, e, hm, h, hQ => evLeafS_sound hc hd fn fuel _ hok H G w md u fr a x F n Q c₀ cs hF hro hs e hm h hQ
  | .rangeFunc f ps as body, hok, H, G, w, md, u, fr, a, x, F, n, Q, c₀, cs, hF, hro, hs, e, hm, h, hQ => evLeafS_sound hc hd fn fuel _ hok H G w md u fr a x F n Q c₀ cs hF hro hs e hm h hQ
  | .refuse s, hok, H, G, w, md, u, fr, a, x, F, n, Q, c₀, cs, hF, hro, hs, e, hm, h, hQ => evLeafS_sound hc hd fn fuel _ hok H G w md u fr a x F n Q c₀ cs hF hro hs e hm h hQ

end
end Go.E2
