/- E2: A REGION THAT DRAWS ITS ORDER: what holds between two of its operations, and how one operation keeps it. -/
import Derived.Test.YtjbefleabibmmaaGreatDoorE2p
namespace Go.E2
open Go

def restr (G : Ghost) (B : Nat) : Ghost := fun nm g => if nm < B then G nm g else none

theorem restr_some {G : Ghost} {B nm g : Nat} {x} (h : restr G B nm g = some x) : nm < B ∧ G nm g = some x := by
  unfold restr at h
  by_cases hb : nm < B
  · rw [if_pos hb] at h; exact ⟨hb, h⟩
  · rw [if_neg hb] at h; cases h

theorem restr_of {G : Ghost} {B nm g : Nat} {x} (hb : nm < B) (h : G nm g = some x) : restr G B nm g = some x := by
  unfold restr; rw [if_pos hb]; exact h

structure Mid (fr0 : Fr) (H0 : Heap) (G0 : Ghost) (w0 : World) (N : Nat) (R : List It) (s : Loc → Val) (G : Ghost) (a : Act) (w : World) : Prop where
  lt : ∀ nm g b sh n, G nm g = some (b, sh, n) → b < w.heap.size
  inj : ∀ nm g b sh n nm' g' sh' n', G nm g = some (b, sh, n) → G nm' g' = some (b, sh', n') → nm = nm' ∧ sh = sh'
  free : ∀ t ∈ R, ∀ nm g, t.K.next ≤ nm → nm < t.K'.next → G nm g = none
  top : ∀ nm g x, G nm g = some x → nm < N
  tmp : ∀ x v, (s (.inl x)).1 = some v → Rel (restr G (s (.inl x)).2.2) w v (a.tmps.getD x undef)
  obj : ∀ nm o, (s (.inr nm)).2.1 = some o → nm < N → nm < (s (.inr nm)).2.2 ∧ ObjSim (restr G (s (.inr nm)).2.2) w nm o
  n : a.tmps.size = fr0.n
  dfr : RelDs (restr G H0.next) w fr0.defers a.defers
  globs : ∀ g o, g < H0.glob → (s (.inr g)).2.1 = some o → ∃ n, G g 0 = some (g, 0, n)
  keep : ∀ nm, nm < H0.ro → (s (.inr nm)).2.1 = H0.get nm
  ext : Ext H0.ro G0 w0 G w
  newG : ∀ nm g x, G nm g = some x → nm < H0.ro → G0 nm g = some x
  frame : ∀ nm, nm < H0.next → H0.get nm = none → (s (.inr nm)).2.1 = none ∧ (∀ g b sh n, G0 nm g = some (b, sh, n) → w.heap[b]? = w0.heap[b]?) ∧ ∀ g x, G nm g = some x → G0 nm g = some x

section
variable {E : Env} {call : Call} {all : Array Oper} {fr0 : Fr} {H0 : Heap} {G0 : Ghost} {w0 : World} {N : Nat} {s : Loc → Val} {G : Ghost} {a : Act} {w : World} {t : It}

theorem restr_up {B B' : Nat} (h : B ≤ B') : Up (restr G B) w (restr G B') w :=
  ⟨fun _ _ _ hx => restr_of (Nat.lt_of_lt_of_le (restr_some hx).1 h) (restr_some hx).2, fun _ _ h => h⟩

/-- What an operation finds. -/
theorem Mid.sim {R : List It} (m : Mid fr0 H0 G0 w0 N R s G a w) (hg0 : H0.glob ≤ H0.ro) (ok : ItOk E call all fr0 H0 t) (hN : t.K'.next ≤ N) (hf : (t.rw all).finds s) :
    Sim t.K (restr G t.K.next) w ∧ SimFr (restr G t.K.next) w t.f a := by
  have hval : ∀ nm, nm < t.K.next → t.K.get nm ≠ none → (s (.inr nm)).2.1 = t.K.get nm ∧ (s (.inr nm)).2.2 ≤ t.K.next := by
    intro nm hlt hne
    have hd := ok.dom nm hlt hne
    have := hf (.inr nm) (fun y => t.K.get nm = y.2.1 ∧ y.2.2 ≤ t.K.next) (by simp only [It.rw]; rw [if_pos hd])
    exact ⟨this.1.symm, this.2⟩
  refine ⟨⟨fun nm g b sh n hg => ⟨m.lt _ _ _ _ _ (restr_some hg).2, (restr_some hg).1⟩, fun nm g b sh n nm' g' sh' n' h1 h2 => m.inj _ _ _ _ _ _ _ _ _ (restr_some h1).2 (restr_some h2).2, fun nm o hlt ho => ?_, ok.roN, ?_, fun g o hg ho => ?_⟩, ⟨fun x v hx => ?_, by rw [m.n, ok.n], ?_⟩⟩
  · obtain ⟨h1, h2⟩ := hval nm hlt (by rw [ho]; simp)
    obtain ⟨h3, h4⟩ := m.obj nm o (h1.trans ho) (by have := ok.le; omega)
    exact h4.up (restr_up h2) (fun g x hx => restr_of h3 (restr_some hx).2) (fun _ _ _ _ _ => rfl)
  · rw [ok.glob]; exact Nat.le_trans hg0 ok.ro
  · rw [ok.glob] at hg
    have hlt : g < t.K.next := by have := ok.ro; have := ok.roN; omega
    obtain ⟨h1, h2⟩ := hval g hlt (by rw [ho]; simp)
    obtain ⟨n, hn⟩ := m.globs g o hg (h1.trans ho)
    exact ⟨n, restr_of hlt hn⟩
  · have hl := ok.looks x (by rw [hx]; simp)
    have := hf (.inl x) (fun y => t.f.tmps.get x = y.1 ∧ y.2.2 ≤ t.K.next) (by simp only [It.rw]; rw [if_pos hl])
    exact Rel.up (restr_up this.2) (m.tmp x v (this.1.symm.trans hx))
  · rw [ok.dfr]
    exact RelDs.up (restr_up ok.start) m.dfr

/-- The ghost behind an operation. -/
def joinG (G G1 : Ghost) (hi : Nat) : Ghost := fun nm g => if nm < hi then G1 nm g else G nm g

theorem joinG_lt {G G1 : Ghost} {hi nm g : Nat} (h : nm < hi) : joinG G G1 hi nm g = G1 nm g := by unfold joinG; rw [if_pos h]
theorem joinG_ge {G G1 : Ghost} {hi nm g : Nat} (h : ¬ nm < hi) : joinG G G1 hi nm g = G nm g := by unfold joinG; rw [if_neg h]

theorem Mid.step {A B : List It} (m : Mid fr0 H0 G0 w0 N (A ++ t :: B) s G a w) (ok : ItOk E call all fr0 H0 t) (hN : t.K'.next ≤ N) (hf : (t.rw all).finds s)
    (hA : ∀ k ∈ A, k.K'.next ≤ t.K.next ∧ (k.rw all).dis (t.rw all)) (hB : ∀ k ∈ B, t.K'.next ≤ k.K.next) {G1 : Ghost} {w1 : World} (st : Step t.K (restr G t.K.next) w t.K' G1 w1)
    {y : Value} (hy : Rel G1 w1 t.v y) : Mid fr0 H0 G0 w0 N (A ++ B) ((t.rw all).app s) (joinG G G1 t.K'.next) (a.put t.o.dst y) w1 := by
  have hle := ok.le
  have hG1 : ∀ nm g x, G1 nm g = some x → nm < t.K'.next := fun nm g x hx => (st.sim.lt nm g x.1 x.2.1 x.2.2 hx).2
  have hmid : ∀ nm g, t.K.next ≤ nm → nm < t.K'.next → G nm g = none := m.free t (by simp)
  -- what was stays
  have hsub : ∀ nm g x, G nm g = some x → joinG G G1 t.K'.next nm g = some x := by
    intro nm g x hx
    by_cases h : nm < t.K'.next
    · rw [joinG_lt h]
      by_cases h' : nm < t.K.next
      · exact st.ext.sub _ _ _ (restr_of h' hx)
      · rw [hmid nm g (by omega) h] at hx; cases hx
    · rw [joinG_ge h]; exact hx
  have hfor : ∀ nm g b sh n, ¬ nm < t.K.next → G nm g = some (b, sh, n) → w1.heap[b]? = w.heap[b]? ∧ foreign G1 b := by
    intro nm g b sh n hn hg
    refine st.ext.frg b (m.lt _ _ _ _ _ hg) (fun nm' g' sh' n' h' => ?_)
    have := restr_some h'
    have := (m.inj _ _ _ _ _ _ _ _ _ hg this.2).1
    omega
  -- names not written keep their ghosts and their blocks
  have hquiet : ∀ nm, ¬ ((t.K.next ≤ nm ∧ nm < t.K'.next) ∨ (t.mayWrite = true ∧ t.dom nm = true)) →
      (∀ g x, joinG G G1 t.K'.next nm g = some x → G nm g = some x) ∧ ∀ g b sh n, G nm g = some (b, sh, n) → w1.heap[b]? = w.heap[b]? := by
    intro nm hnw
    by_cases h1 : nm < t.K.next
    · have hr : (∀ g x, G1 nm g = some x → restr G t.K.next nm g = some x) ∧ ∀ g b sh n, restr G t.K.next nm g = some (b, sh, n) → w1.heap[b]? = w.heap[b]? := by
        cases hmw : t.mayWrite with
        | false =>
          have hro := ok.roM hmw
          exact ⟨fun g x hx => st.newG nm g x hx (by omega), fun g b sh n hg => st.ext.ro nm g b sh n (by omega) hg⟩
        | true =>
          have hnone : t.K.get nm = none := by
            by_cases hq : t.K.get nm = none
            · exact hq
            · exact (hnw (.inr ⟨hmw, ok.dom nm h1 hq⟩)).elim
          obtain ⟨_, f2, f3⟩ := st.frame nm h1 hnone
          exact ⟨f3, f2⟩
      refine ⟨fun g x hx => ?_, fun g b sh n hg => hr.2 g b sh n (restr_of h1 hg)⟩
      rw [joinG_lt (by omega)] at hx
      exact (restr_some (hr.1 g x hx)).2
    · have h2 : ¬ nm < t.K'.next := fun h2 => hnw (.inl ⟨by omega, h2⟩)
      exact ⟨fun g x hx => by rw [joinG_ge h2] at hx; exact hx, fun g b sh n hg => (hfor nm g b sh n h1 hg).1⟩
  have hupB : ∀ B, Up (restr G B) w (restr (joinG G G1 t.K'.next) B) w1 := fun B =>
    ⟨fun nm g x hx => restr_of (restr_some hx).1 (hsub _ _ _ (restr_some hx).2), st.ext.shp⟩
  have hupN : Up G1 w1 (restr (joinG G G1 t.K'.next) t.K'.next) w1 :=
    ⟨fun nm g x hx => restr_of (hG1 _ _ _ hx) (by rw [joinG_lt (hG1 _ _ _ hx)]; exact hx), fun _ _ h => h⟩
  have hback : ∀ nm g x, restr (joinG G G1 t.K'.next) t.K'.next nm g = some x → G1 nm g = some x := by
    intro nm g x hx
    have := restr_some hx
    rw [joinG_lt this.1] at this
    exact this.2
  have hrd : ∀ nm, t.dom nm = true → t.K.get nm = (s (.inr nm)).2.1 ∧ (s (.inr nm)).2.2 ≤ t.K.next := by
    intro nm hd
    exact hf (.inr nm) (fun y => t.K.get nm = y.2.1 ∧ y.2.2 ≤ t.K.next) (by simp only [It.rw]; rw [if_pos hd])
  have hwr : ∀ nm, (t.K.next ≤ nm ∧ nm < t.K'.next) ∨ (t.mayWrite = true ∧ t.dom nm = true) → ((t.rw all).app s) (.inr nm) = (none, t.K'.get nm, t.K'.next) := by
    intro nm h; simp only [RW.app, It.rw]; rw [if_pos h, Option.getD_some]
  have hnw : ∀ nm, ¬ ((t.K.next ≤ nm ∧ nm < t.K'.next) ∨ (t.mayWrite = true ∧ t.dom nm = true)) → ((t.rw all).app s) (.inr nm) = s (.inr nm) := by
    intro nm h; simp only [RW.app, It.rw]; rw [if_neg h, Option.getD_none]
  refine ⟨fun nm g b sh n hg => ?_, fun nm g b sh n nm' g' sh' n' h1 h2 => ?_, fun k hk nm g h1 h2 => ?_, fun nm g x hx => ?_, fun x v hx => ?_, fun nm o ho hnN => ?_, ?_, ?_, fun g o hg ho => ?_, fun nm hn => ?_, ?_, fun nm g x hx hn => ?_, fun nm hn h0 => ?_⟩
  · -- lt
    by_cases h : nm < t.K'.next
    · rw [joinG_lt h] at hg; exact (st.sim.lt _ _ _ _ _ hg).1
    · rw [joinG_ge h] at hg; exact Nat.lt_of_lt_of_le (m.lt _ _ _ _ _ hg) st.ext.size
  · -- inj
    by_cases h : nm < t.K'.next
    · rw [joinG_lt h] at h1
      by_cases h' : nm' < t.K'.next
      · rw [joinG_lt h'] at h2; exact st.sim.inj _ _ _ _ _ _ _ _ _ h1 h2
      · rw [joinG_ge h'] at h2; exact ((hfor nm' g' b sh' n' (by omega) h2).2 _ _ _ _ h1).elim
    · rw [joinG_ge h] at h1
      by_cases h' : nm' < t.K'.next
      · rw [joinG_lt h'] at h2; exact ((hfor nm g b sh n (by omega) h1).2 _ _ _ _ h2).elim
      · rw [joinG_ge h'] at h2; exact m.inj _ _ _ _ _ _ _ _ _ h1 h2
  · -- free
    have hkf : G nm g = none := by
      refine m.free k ?_ nm g h1 h2
      rcases List.mem_append.1 hk with h | h
      · exact List.mem_append.2 (.inl h)
      · exact List.mem_append.2 (.inr (List.mem_cons_of_mem _ h))
    have hnot : ¬ ((t.K.next ≤ nm ∧ nm < t.K'.next) ∨ (t.mayWrite = true ∧ t.dom nm = true)) := by
      rcases List.mem_append.1 hk with h | h
      · obtain ⟨q1, q2⟩ := hA k h
        rintro (q | q)
        · omega
        · have := ((q2 (.inr nm)).1 (by simp only [It.rw]; rw [if_pos (.inl ⟨h1, h2⟩)]; simp)).2
          simp only [It.rw] at this
          rw [if_pos (.inr q)] at this
          cases this
      · have q1 := hB k h
        rintro (q | q)
        · omega
        · have := (It.dom_lt q.2).1; omega
    cases hq : joinG G G1 t.K'.next nm g with
    | none => rfl
    | some x => rw [(hquiet nm hnot).1 g x hq] at hkf; cases hkf
  · -- top
    by_cases h : nm < t.K'.next
    · omega
    · rw [joinG_ge h] at hx; exact m.top _ _ _ hx
  · -- tmp
    simp only [RW.app, It.rw] at hx ⊢
    by_cases hd : t.o.dst = some x ∧ x < t.f.n
    · rw [if_pos hd] at hx ⊢
      simp only [Option.getD_some, Option.some.injEq] at hx ⊢
      subst hx
      have hlt : x < a.tmps.size := by rw [m.n, ← ok.n]; exact hd.2
      have e : (a.put t.o.dst y).tmps.getD x undef = y := by
        simp only [Act.put, hd.1]
        simp [Array.getElem?_setIfInBounds_self_of_lt hlt]
      rw [e]
      exact Rel.up hupN hy
    · rw [if_neg hd] at hx ⊢
      simp only [Option.getD_none] at hx ⊢
      have e : (a.put t.o.dst y).tmps.getD x undef = a.tmps.getD x undef := by
        cases hdst : t.o.dst with
        | none => rfl
        | some d =>
          simp only [Act.put]
          by_cases hxd : x = d
          · subst hxd
            have : ¬ x < a.tmps.size := by rw [m.n, ← ok.n]; exact fun q => hd ⟨hdst, q⟩
            rw [Array.setIfInBounds_eq_of_size_le (Nat.le_of_not_lt this)]
          · simp [Array.getElem?_setIfInBounds_ne (Ne.symm hxd)]
      rw [e]
      exact Rel.up (hupB _) (m.tmp x v hx)
  · -- obj
    by_cases hw : (t.K.next ≤ nm ∧ nm < t.K'.next) ∨ (t.mayWrite = true ∧ t.dom nm = true)
    · rw [hwr nm hw] at ho ⊢
      have hlt : nm < t.K'.next := by
        rcases hw with h | h
        · exact h.2
        · have := (It.dom_lt h.2).1; omega
      exact ⟨hlt, (st.sim.obj nm o hlt ho).up hupN (fun g x hx => hback _ _ _ hx) (fun _ _ _ _ _ => rfl)⟩
    · rw [hnw nm hw] at ho ⊢
      obtain ⟨q1, q2⟩ := m.obj nm o ho hnN
      obtain ⟨q3, q4⟩ := hquiet nm hw
      exact ⟨q1, q2.up (hupB _) (fun g x hx => restr_of q1 (q3 g x (restr_some hx).2)) (fun g b sh n hg => q4 g b sh n (restr_some hg).2)⟩
  · have : (a.put t.o.dst y).tmps.size = a.tmps.size := by
      cases t.o.dst <;> simp [Act.put]
    rw [this]; exact m.n
  · have : (a.put t.o.dst y).defers = a.defers := by
      cases t.o.dst <;> rfl
    rw [this]; exact RelDs.up (hupB _) m.dfr
  · -- globs
    by_cases hw : (t.K.next ≤ g ∧ g < t.K'.next) ∨ (t.mayWrite = true ∧ t.dom g = true)
    · rw [hwr g hw] at ho
      have hgk : g < t.K'.glob := by rw [st.glob, ok.glob]; exact hg
      obtain ⟨n, hn⟩ := st.sim.globs g o hgk ho
      exact ⟨n, by rw [joinG_lt (hG1 _ _ _ hn)]; exact hn⟩
    · rw [hnw g hw] at ho
      obtain ⟨n, hn⟩ := m.globs g o hg ho
      exact ⟨n, hsub _ _ _ hn⟩
  · -- keep
    have hro := ok.ro
    have hroN := ok.roN
    by_cases hw : (t.K.next ≤ nm ∧ nm < t.K'.next) ∨ (t.mayWrite = true ∧ t.dom nm = true)
    · rw [hwr nm hw]
      simp only
      rw [st.keep nm (by omega)]
      rcases hw with h | h
      · omega
      · rw [(hrd nm h.2).1]; exact m.keep nm hn
    · rw [hnw nm hw]; exact m.keep nm hn
  · -- ext
    have hro := ok.ro
    have hroN := ok.roN
    refine m.ext.trans ⟨hsub, fun b hb hfb => ?_, st.ext.size, st.ext.shp, fun nm g b sh n hn hg => ?_, st.ext.out⟩
    · have := st.ext.frg b hb (fun nm g sh n h => hfb _ _ _ _ (restr_some h).2)
      refine ⟨this.1, fun nm g sh n h => ?_⟩
      by_cases hlt : nm < t.K'.next
      · rw [joinG_lt hlt] at h; exact this.2 _ _ _ _ h
      · rw [joinG_ge hlt] at h; exact hfb _ _ _ _ h
    · exact st.ext.ro nm g b sh n (by omega) (restr_of (by omega) hg)
  · -- newG
    have hro := ok.ro
    have hroN := ok.roN
    rw [joinG_lt (by omega)] at hx
    exact m.newG nm g x (restr_some (st.newG nm g x hx (by omega))).2 hn
  · -- frame
    obtain ⟨q1, q2, q3⟩ := m.frame nm hn h0
    have hst := ok.start
    have hlt : nm < t.K.next := by omega
    have hnone : t.K.get nm = none := by
      by_cases hq : t.K.get nm = none
      · exact hq
      · have := ok.dom nm hlt hq
        rw [(hrd nm this).1, q1] at hq
        exact (hq rfl).elim
    obtain ⟨f1, f2, f3⟩ := st.frame nm hlt hnone
    refine ⟨?_, fun g b sh n hg => ?_, fun g x hx => ?_⟩
    · by_cases hw : (t.K.next ≤ nm ∧ nm < t.K'.next) ∨ (t.mayWrite = true ∧ t.dom nm = true)
      · rw [hwr nm hw]; exact f1
      · rw [hnw nm hw]; exact q1
    · exact (f2 g b sh n (restr_of hlt (m.ext.sub _ _ _ hg))).trans (q2 g b sh n hg)
    · rw [joinG_lt (by omega)] at hx
      exact q3 g x (restr_some (f3 g x hx)).2

end
end Go.E2
