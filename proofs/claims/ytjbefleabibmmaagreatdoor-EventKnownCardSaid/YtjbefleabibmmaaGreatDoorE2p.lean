/- E2: OPERATIONS IN ANY ORDER. First the plain law of lists: who is apart from whom may be taken out; then the operations of a region that draws its order as such a list. -/
import Derived.Test.YtjbefleabibmmaaGreatDoorE2o
namespace Go.E2
open Go

theorem put_eq (fr : Fr) (dst : Option Tmp) (v : V) : fr.put dst v = match dst with
    | some d => bif Nat.blt d fr.n then { fr with tmps := fr.tmps.set d v } else fr
    | none => fr := by
  obtain ⟨t, n, ds⟩ := fr
  cases dst <;> rfl

theorem put_n (fr : Fr) (dst : Option Tmp) (v : V) : (fr.put dst v).n = fr.n := by
  rw [put_eq]
  cases dst with
  | none => rfl
  | some d => simp only [cond_eq_ite]; split <;> rfl

theorem put_defers (fr : Fr) (dst : Option Tmp) (v : V) : (fr.put dst v).defers = fr.defers := by
  rw [put_eq]
  cases dst with
  | none => rfl
  | some d => simp only [cond_eq_ite]; split <;> rfl

/-! ### Lists of what reads and writes places -/
structure RW (L X : Type) where
  rd : L → Option (X → Prop)
  wr : L → Option X

section
variable {L X : Type}

def RW.app (o : RW L X) (s : L → X) : L → X := fun l => (o.wr l).getD (s l)

def runRW : List (RW L X) → (L → X) → L → X
  | [], s => s
  | o :: R, s => runRW R (o.app s)

def RW.finds (o : RW L X) (s : L → X) : Prop := ∀ l p, o.rd l = some p → p (s l)

def validRW : List (RW L X) → (L → X) → Prop
  | [], _ => True
  | o :: R, s => o.finds s ∧ validRW R (o.app s)

def RW.dis (p q : RW L X) : Prop := ∀ l, (p.wr l ≠ none → q.rd l = none ∧ q.wr l = none) ∧ (q.wr l ≠ none → p.rd l = none ∧ p.wr l = none)

theorem RW.app_none {o : RW L X} {s : L → X} {l : L} (h : o.wr l = none) : o.app s l = s l := by simp [RW.app, h]

theorem RW.dis.comm {p q : RW L X} (h : p.dis q) (s : L → X) : p.app (q.app s) = q.app (p.app s) := by
  funext l
  cases hp : p.wr l with
  | none => rw [RW.app_none hp]; simp only [RW.app, hp, Option.getD_none]
  | some x =>
    have hq := ((h l).1 (by rw [hp]; simp)).2
    rw [RW.app_none (o := q) hq]; simp only [RW.app, hp, hq, Option.getD_some]

theorem RW.dis.finds {p q : RW L X} (h : p.dis q) {s : L → X} : p.finds (q.app s) ↔ p.finds s := by
  constructor
  · intro hf l pr hl
    have hq : q.wr l = none := by
      cases hq : q.wr l with
      | none => rfl
      | some x => have := ((h l).2 (by rw [hq]; simp)).1; rw [this] at hl; cases hl
    have := hf l pr hl
    rwa [RW.app_none hq] at this
  · intro hf l pr hl
    have hq : q.wr l = none := by
      cases hq : q.wr l with
      | none => rfl
      | some x => have := ((h l).2 (by rw [hq]; simp)).1; rw [this] at hl; cases hl
    rw [RW.app_none hq]
    exact hf l pr hl

theorem RW.dis.symm {p q : RW L X} (h : p.dis q) : q.dis p := fun l => ⟨(h l).2, (h l).1⟩

/-- TAKEN OUT: whom those ahead of it are apart from. -/
theorem takeRW : ∀ (A : List (RW L X)) (i : RW L X) (B : List (RW L X)) (s : L → X), (∀ a ∈ A, a.dis i) → validRW (A ++ i :: B) s →
    i.finds s ∧ validRW (A ++ B) (i.app s) ∧ runRW (A ++ B) (i.app s) = runRW (A ++ i :: B) s
  | [], i, B, s, _, h => ⟨h.1, h.2, rfl⟩
  | a :: A, i, B, s, hd, h => by
    obtain ⟨h1, h2⟩ := h
    obtain ⟨e1, e2, e3⟩ := takeRW A i B (a.app s) (fun x hx => hd x (List.mem_cons_of_mem _ hx)) h2
    have ha := hd a List.mem_cons_self
    refine ⟨(ha.symm.finds).1 e1, ⟨(ha.finds).2 h1, ?_⟩, ?_⟩
    · rw [ha.comm]; exact e2
    · simp only [List.cons_append, runRW]
      rw [ha.comm]; exact e3

end

/-! ### The operations of a region -/
abbrev Loc := Nat ⊕ Nat
abbrev Val := Option V × Option O × Nat

structure It where
  i : Nat
  o : Oper
  f : Fr
  K : Heap
  v : V
  K' : Heap
  fp : FP
  dels : List Nat

def okN (next : Nat) (dels : List Nat) (n : Nat) : Bool := Nat.blt n next && !dels.any fun m => Nat.beq n m

def It.dom (t : It) (nm : Nat) : Bool :=
  match t.fp with
  | .none => false
  | .reads l | .writes l => (l.any fun m => Nat.beq nm m) && okN t.K.next t.dels nm
  | .call | .lone => okN t.K.next t.dels nm

def It.mayWrite (t : It) : Bool :=
  match t.fp with
  | .writes _ | .lone => true
  | _ => false

def It.rw (all : Array Oper) (t : It) : RW Loc Val where
  rd := fun
    | .inl x => if x ∈ t.o.looksAt all then some fun y => t.f.tmps.get x = y.1 ∧ y.2.2 ≤ t.K.next else none
    | .inr nm => if t.dom nm = true then some fun y => t.K.get nm = y.2.1 ∧ y.2.2 ≤ t.K.next else none
  wr := fun
    | .inl x => if t.o.dst = some x ∧ x < t.f.n then some (some t.v, none, t.K'.next) else none
    | .inr nm => if (t.K.next ≤ nm ∧ nm < t.K'.next) ∨ (t.mayWrite = true ∧ t.dom nm = true) then some (none, t.K'.get nm, t.K'.next) else none

/-- What is known of one operation of the run in the order of the text. -/
structure ItOk (E : Env) (call : Call) (all : Array Oper) (fr : Fr) (H : Heap) (t : It) : Prop where
  run : runOpV E call all t.o t.f t.K = some (.ret t.v, t.K')
  op : all[t.i]? = some t.o
  le : t.K.next ≤ t.K'.next
  start : H.next ≤ t.K.next
  ro : H.ro ≤ t.K.ro
  roN : t.K.ro ≤ t.K.next
  roM : t.mayWrite = false → t.K.ro = t.K.next
  glob : t.K.glob = H.glob
  dom : ∀ nm, nm < t.K.next → t.K.get nm ≠ none → t.dom nm = true
  looks : ∀ x, t.f.tmps.get x ≠ none → x ∈ t.o.looksAt all
  n : t.f.n = fr.n
  dfr : t.f.defers = fr.defers
  dels : ∀ nm ∈ t.dels, nm < t.K.next

def Rep (s : Loc → Val) (fr : Fr) (H : Heap) : Prop :=
  (∀ x, (s (.inl x)).1 = fr.tmps.get x ∧ (s (.inl x)).2.2 ≤ H.next) ∧ ∀ nm, nm < H.next → (s (.inr nm)).2.1 = H.get nm ∧ (s (.inr nm)).2.2 ≤ H.next

def ordB (b : Array Nat) (p q : It) : Prop := (b.getD q.i 0).testBit p.i = true

theorem okN_lt {next : Nat} {dels : List Nat} {n : Nat} (h : okN next dels n = true) : n < next := by
  simp only [okN, Bool.and_eq_true, Nat.blt_eq] at h; exact h.1

theorem okN_not {next : Nat} {dels : List Nat} {n : Nat} (h : okN next dels n = true) : n ∉ dels := by
  simp only [okN, Bool.and_eq_true, Bool.not_eq_true', List.any_eq_false, Nat.beq_eq] at h
  intro hm
  exact h.2 n hm rfl

theorem okN_of {next : Nat} {dels : List Nat} {n : Nat} (h : n < next) (hd : n ∉ dels) : okN next dels n = true := by
  simp only [okN, Bool.and_eq_true, Bool.not_eq_true', List.any_eq_false, Nat.beq_eq, Nat.blt_eq]
  refine ⟨h, fun m hm he => hd (he ▸ hm)⟩

theorem It.dom_lt {t : It} {nm : Nat} (h : t.dom nm = true) : nm < t.K.next ∧ nm ∉ t.dels := by
  unfold It.dom at h
  split at h
  · cases h
  · have := (Bool.and_eq_true_iff.1 h).2; exact ⟨okN_lt this, okN_not this⟩
  · have := (Bool.and_eq_true_iff.1 h).2; exact ⟨okN_lt this, okN_not this⟩
  · exact ⟨okN_lt h, okN_not h⟩
  · exact ⟨okN_lt h, okN_not h⟩

/-- What was told of an operation that is done. -/
def DoneOf (d : Done) (t : It) : Prop := d.i = t.i ∧ d.fp = t.fp ∧ d.lo = t.K.next ∧ d.hi = t.K'.next

theorem clash_dom {p q : It} (h : clash p.fp q.fp = false) {nm : Nat} (hp : p.dom nm = true) (hq : q.dom nm = true) : p.mayWrite = false ∧ q.mayWrite = false := by
  have key : ∀ (w l : List Nat), (w.any fun n => l.any fun m => Nat.beq n m) = false → (w.any fun m => Nat.beq nm m) = true → (l.any fun m => Nat.beq nm m) = true → False := by
    intro w l hcl h1 h2
    obtain ⟨m, hm, he⟩ := List.any_eq_true.1 h1
    rw [Nat.beq_eq] at he
    subst he
    rw [List.any_eq_false] at hcl
    exact hcl nm hm h2
  have ne : ∀ (w : List Nat), (!w.isEmpty) = false → (w.any fun m => Nat.beq nm m) = true → False := by
    intro w hw h1
    cases w with
    | nil => simp at h1
    | cons a w => simp at hw
  unfold It.dom at hp hq
  unfold It.mayWrite
  cases hpf : p.fp <;> cases hqf : q.fp <;> simp only [hpf, hqf, clash, Bool.and_eq_true] at h hp hq ⊢ <;> first
    | exact ⟨rfl, rfl⟩
    | (cases h; done)
    | (cases hp; done)
    | (cases hq; done)
    | exact (key _ _ h hp.1 hq.1).elim
    | exact (key _ _ h hq.1 hp.1).elim
    | exact (ne _ h hp.1).elim
    | exact (ne _ h hq.1).elim
    | trivial

/-- Unordered operations are apart. -/
theorem dis_of {all : Array Oper} {p q : It} (hap : p.o.apart all q.o = true) (hcl : clash p.fp q.fp = false) (hle : p.K'.next ≤ q.K.next) (hpl : p.K.next ≤ p.K'.next)
    (hdel : ∀ nm, p.K.next ≤ nm → nm < p.K'.next → nm ∈ q.dels) : (p.rw all).dis (q.rw all) := by
  obtain ⟨a1, a2, a3⟩ := Oper.apart_spec hap
  intro l
  cases l with
  | inl x =>
    simp only [It.rw]
    refine ⟨fun h => ?_, fun h => ?_⟩
    · have hd : p.o.dst = some x := by
        by_cases hx : p.o.dst = some x ∧ x < p.f.n
        · exact hx.1
        · rw [if_neg hx] at h; exact (h rfl).elim
      rw [if_neg (a1 x hd), if_neg (fun hx => a2 x hd hx.1)]
      exact ⟨rfl, rfl⟩
    · have hd : q.o.dst = some x := by
        by_cases hx : q.o.dst = some x ∧ x < q.f.n
        · exact hx.1
        · rw [if_neg hx] at h; exact (h rfl).elim
      rw [if_neg (a3 x hd), if_neg (fun hx => a2 x hx.1 hd)]
      exact ⟨rfl, rfl⟩
  | inr nm =>
    simp only [It.rw]
    refine ⟨fun h => ?_, fun h => ?_⟩
    · have hw : (p.K.next ≤ nm ∧ nm < p.K'.next) ∨ (p.mayWrite = true ∧ p.dom nm = true) := by
        by_cases hx : (p.K.next ≤ nm ∧ nm < p.K'.next) ∨ (p.mayWrite = true ∧ p.dom nm = true)
        · exact hx
        · rw [if_neg hx] at h; exact (h rfl).elim
      have hnd : ¬ q.dom nm = true := by
        intro hq
        rcases hw with hw | hw
        · exact (It.dom_lt hq).2 (hdel nm hw.1 hw.2)
        · have := (clash_dom hcl hw.2 hq).1; rw [hw.1] at this; cases this
      have hlt : nm < q.K.next := by
        rcases hw with hw | hw
        · omega
        · have := (It.dom_lt hw.2).1; omega
      rw [if_neg hnd, if_neg (by intro hx; rcases hx with hx | hx; · omega
                                 · exact hnd hx.2)]
      exact ⟨rfl, rfl⟩
    · have hw : (q.K.next ≤ nm ∧ nm < q.K'.next) ∨ (q.mayWrite = true ∧ q.dom nm = true) := by
        by_cases hx : (q.K.next ≤ nm ∧ nm < q.K'.next) ∨ (q.mayWrite = true ∧ q.dom nm = true)
        · exact hx
        · rw [if_neg hx] at h; exact (h rfl).elim
      have hnd : ¬ p.dom nm = true := by
        intro hp
        rcases hw with hw | hw
        · have := (It.dom_lt hp).1; omega
        · have := (clash_dom hcl hp hw.2).2; rw [hw.1] at this; cases this
      have hnn : ¬ (p.K.next ≤ nm ∧ nm < p.K'.next) := by
        intro hp
        rcases hw with hw | hw
        · omega
        · exact (It.dom_lt hw.2).2 (hdel nm hp.1 hp.2)
      rw [if_neg hnd, if_neg (by intro hx; rcases hx with hx | hx; · exact hnn hx
                                 · exact hnd hx.2)]
      exact ⟨rfl, rfl⟩

/-- What two operations of the run have to do with each other, the first ahead in the text. -/
def Rl (b : Array Nat) (all : Array Oper) (p q : It) : Prop := p.i < q.i ∧ p.K'.next ≤ q.K.next ∧ (ordB b p q ∨ (p.rw all).dis (q.rw all))

theorem tinyH_next (H : Heap) (fp : FP) (dels : List Nat) : (tinyH H fp dels).next = H.next := by unfold tinyH; split <;> rfl
theorem tinyH_glob (H : Heap) (fp : FP) (dels : List Nat) : (tinyH H fp dels).glob = H.glob := by unfold tinyH; split <;> rfl

theorem mem_any {l : List Nat} {n : Nat} : (l.any fun m => Nat.beq n m) = true ↔ n ∈ l := by
  rw [List.any_eq_true]
  constructor
  · rintro ⟨m, hm, he⟩; rw [Nat.beq_eq] at he; exact he ▸ hm
  · intro h; exact ⟨n, h, by simp⟩

theorem tinyH_get (H : Heap) (fp : FP) (dels : List Nat) (i : Nat) (o : Oper) (f : Fr) (v : V) (K' : Heap) (nm : Nat) (hn : nm < H.next) :
    (tinyH H fp dels).get nm = if (It.mk i o f (tinyH H fp dels) v K' fp dels).dom nm = true then H.get nm else none := by
  unfold It.dom
  simp only [tinyH_next]
  cases fp with
  | none => simp [tinyH, Heap.get, Tree.get]
  | reads l =>
    simp only [tinyH, Heap.get, get_copyT, Tree.get]
    by_cases h : nm ∈ l ∧ okN H.next dels nm = true
    · rw [if_pos (by rw [List.mem_filter]; exact h), if_pos (by rw [Bool.and_eq_true]; exact ⟨mem_any.2 h.1, h.2⟩)]
    · rw [if_neg (by rw [List.mem_filter]; exact h), if_neg (by rw [Bool.and_eq_true]; exact fun q => h ⟨mem_any.1 q.1, q.2⟩)]
  | writes l =>
    simp only [tinyH, Heap.get, get_copyT, Tree.get]
    by_cases h : nm ∈ l ∧ okN H.next dels nm = true
    · rw [if_pos (by rw [List.mem_filter]; exact h), if_pos (by rw [Bool.and_eq_true]; exact ⟨mem_any.2 h.1, h.2⟩)]
    · rw [if_neg (by rw [List.mem_filter]; exact h), if_neg (by rw [Bool.and_eq_true]; exact fun q => h ⟨mem_any.1 q.1, q.2⟩)]
  | call =>
    simp only [tinyH, Heap.get, get_copyT, Tree.get]
    by_cases h : nm ∈ dels
    · rw [if_pos h, if_neg (fun q => okN_not q h)]
    · rw [if_neg h, if_pos (okN_of hn h)]
  | lone =>
    simp only [tinyH, Heap.get, get_copyT, Tree.get]
    by_cases h : nm ∈ dels
    · rw [if_pos h, if_neg (fun q => okN_not q h)]
    · rw [if_neg h, if_pos (okN_of hn h)]

theorem mem_range {a b n : Nat} : n ∈ List.range' a (b - a) ↔ a ≤ n ∧ n < b := by
  rw [List.mem_range'_1]; omega

theorem joinH_get (H K' : Heap) (fp : FP) (dels : List Nat) (i : Nat) (o : Oper) (f : Fr) (v : V) (nm : Nat) (hn : nm < K'.next) (hd : ∀ nm ∈ dels, nm < H.next) :
    (joinH H K' fp dels).get nm = if (H.next ≤ nm ∧ nm < K'.next) ∨ ((It.mk i o f (tinyH H fp dels) v K' fp dels).mayWrite = true ∧ (It.mk i o f (tinyH H fp dels) v K' fp dels).dom nm = true) then K'.get nm else H.get nm := by
  unfold It.dom It.mayWrite
  simp only [tinyH_next]
  have base : ∀ (q : Prop) [Decidable q], (q ↔ nm ∈ List.range' H.next (K'.next - H.next)) → (copyT K'.objs (List.range' H.next (K'.next - H.next)) H.objs).get nm = if q then K'.get nm else H.get nm := by
    intro q _ hq
    rw [get_copyT]
    by_cases h : q
    · rw [if_pos h, if_pos (hq.1 h)]; rfl
    · rw [if_neg h, if_neg (fun x => h (hq.2 x))]; rfl
  cases fp with
  | none => exact base _ (by rw [mem_range]; simp)
  | reads l => exact base _ (by rw [mem_range]; simp)
  | call => exact base _ (by rw [mem_range]; simp)
  | writes l =>
    simp only [joinH, Heap.get, get_copyT, List.mem_append, mem_range, true_and]
    have : (nm ∈ l.filter (fun n => Nat.blt n H.next && !dels.any fun m => Nat.beq n m)) ↔ ((l.any fun m => Nat.beq nm m) && okN H.next dels nm) = true := by
      rw [List.mem_filter]
      exact ⟨fun q => Bool.and_eq_true_iff.2 ⟨mem_any.2 q.1, q.2⟩, fun q => ⟨mem_any.1 (Bool.and_eq_true_iff.1 q).1, (Bool.and_eq_true_iff.1 q).2⟩⟩
    by_cases h1 : H.next ≤ nm ∧ nm < K'.next
    · rw [if_pos (.inr h1), if_pos (.inl h1)]
    · by_cases h2 : ((l.any fun m => Nat.beq nm m) && okN H.next dels nm) = true
      · rw [if_pos (.inl (this.2 h2)), if_pos (.inr h2)]
      · rw [if_neg (by rintro (q | q); · exact h2 (this.1 q)
                       · exact h1 q), if_neg (by rintro (q | q); · exact h1 q
                                                 · exact h2 q)]
  | lone =>
    simp only [joinH, Heap.get, get_copyT, true_and]
    by_cases h : nm ∈ dels
    · have := hd nm h
      rw [if_pos h, if_neg (by rintro (q | q); · omega
                               · exact okN_not q h)]
    · rw [if_neg h]
      by_cases h1 : H.next ≤ nm
      · rw [if_pos (.inl ⟨h1, hn⟩)]
      · rw [if_pos (.inr (okN_of (by omega) h))]

/-- The run in the order of the text, as a list. -/
theorem runDraw_items {E : Env} {call : Call} {all : Array Oper} {b : Array Nat} {fr0 : Fr} {H0 : Heap}
    (hst : ∀ k j p o, all[k]? = some p → all[j]? = some o → k < j → (b.getD j 0).testBit k = false → p.apart all o = true) :
    ∀ (rest : List Oper) (i : Nat) (done : List Done) (prev : List It) (fr : Fr) (H : Heap) (fr' : Fr) (H' : Heap) (s : Loc → Val),
      runDraw E call all b i rest done fr H = some (fr', H') → (∀ k, rest[k]? = all[i + k]?) →
      (∀ p ∈ prev, ∃ d ∈ done, DoneOf d p) → (∀ d ∈ done, d.hi ≤ H.next) → (∀ p ∈ prev, p.i < i ∧ p.K'.next ≤ H.next ∧ p.K.next ≤ p.K'.next ∧ all[p.i]? = some p.o) →
      fr.n = fr0.n → fr.defers = fr0.defers → H0.next ≤ H.next → H.ro = H0.ro → H.glob = H0.glob → H.ro ≤ H.next → Rep s fr H →
      ∃ its : List It, its.map (·.i) = List.range' i rest.length ∧ (∀ t ∈ its, ItOk E call all fr0 H0 t ∧ t.K'.next ≤ H'.next) ∧ validRW (its.map (It.rw all)) s ∧ Rep (runRW (its.map (It.rw all)) s) fr' H' ∧
        (∀ p ∈ prev, ∀ q ∈ its, Rl b all p q) ∧ its.Pairwise (Rl b all) ∧ fr'.n = fr0.n ∧ fr'.defers = fr0.defers ∧ H'.ro = H0.ro ∧ H'.glob = H0.glob ∧ H.next ≤ H'.next
  | [], i, done, prev, fr, H, fr', H', s, h, hall, hp, hdn, hpv, hn, hdf, hnx, hro, hgl, hrn, hrep => by
    simp only [runDraw, Option.some.injEq, Prod.mk.injEq] at h
    obtain ⟨rfl, rfl⟩ := h
    exact ⟨[], rfl, by simp, trivial, hrep, by simp, .nil, hn, hdf, hro, hgl, Nat.le_refl _⟩
  | o :: rest, i, done, prev, fr, H, fr', H', s, h, hall, hp, hdn, hpv, hn, hdf, hnx, hro, hgl, hrn, hrep => by
    simp only [runDraw, Option.bind_eq_some_iff] at h
    obtain ⟨wnt, hw, h⟩ := h
    generalize hfp : (bif wnt then (match fpOf E o fr with
      | .call => bif loneAt E all b i then FP.lone else .call
      | x => x) else .none) = fp at h
    generalize hfree : (done.filter fun d => !(b.getD i 0).testBit d.i) = free at h
    rw [cond_eq_ite] at h
    split at h
    · cases h
    · rename_i hcl
      generalize hdels : free.flatMap Done.names = dels at h
      split at h
      · rename_i v K' hrun
        rw [cond_eq_ite] at h
        split at h
        · cases h
        · rename_i hle
          have hle : H.next ≤ K'.next := by
            rw [Nat.blt_eq] at hle; omega
          have hdl : ∀ nm ∈ dels, nm < H.next := by
            intro nm hm
            rw [← hdels, List.mem_flatMap] at hm
            obtain ⟨d, hd, hm⟩ := hm
            rw [← hfree, List.mem_filter] at hd
            have := hdn d hd.1
            unfold Done.names at hm
            rw [mem_range] at hm
            omega
          obtain ⟨t, ht⟩ : ∃ t : It, t = ⟨i, o, { fr with tmps := copyT fr.tmps (o.looksAt all) .nil }, tinyH H fp dels, v, K', fp, dels⟩ := ⟨_, rfl⟩
          have hop : all[i]? = some o := by have := hall 0; simpa using this.symm
          have hok : ItOk E call all fr0 H0 t := by
            subst ht
            refine ⟨hrun, hop, by rw [tinyH_next]; exact hle, by rw [tinyH_next]; exact hnx, ?_, ?_, ?_, by rw [tinyH_glob]; exact hgl, fun nm hlt hnm => ?_, fun x hx => ?_, hn, hdf, by rw [tinyH_next]; exact hdl⟩
            · unfold tinyH; split <;> simp <;> omega
            · unfold tinyH; split <;> simp <;> omega
            · unfold It.mayWrite tinyH
              cases fp <;> simp
            · rw [tinyH_next] at hlt
              rw [tinyH_get H fp dels i o { fr with tmps := copyT fr.tmps (o.looksAt all) .nil } v K' nm hlt] at hnm
              by_cases hm : (It.mk i o { fr with tmps := copyT fr.tmps (o.looksAt all) .nil } (tinyH H fp dels) v K' fp dels).dom nm = true
              · exact hm
              · rw [if_neg hm] at hnm; exact (hnm rfl).elim
            · rw [get_copyT] at hx
              by_cases hm : x ∈ o.looksAt all
              · exact hm
              · rw [if_neg hm] at hx; simp [Tree.get] at hx
          have hrw : Rep ((t.rw all).app s) (fr.put o.dst v) (joinH H K' fp dels) := by
            refine ⟨fun x => ?_, fun nm hnm => ?_⟩
            · have hs := hrep.1 x
              simp only [RW.app, It.rw]
              subst ht
              simp only
              by_cases hx : o.dst = some x ∧ x < fr.n
              · rw [if_pos hx]
                simp only [put_eq, hx.1, cond_eq_ite, Nat.blt_eq, hx.2, if_true, Option.getD_some, Tree.get_set]
                exact ⟨trivial, Nat.le_refl _⟩
              · rw [if_neg hx, Option.getD_none]
                refine ⟨hs.1.trans ?_, Nat.le_trans hs.2 hle⟩
                rw [put_eq]
                split
                · rename_i d hd
                  rw [cond_eq_ite]
                  split
                  · rename_i hlt
                    rw [Nat.blt_eq] at hlt
                    simp only [Tree.get_set]
                    rw [if_neg (fun (q : x = d) => hx ⟨by rw [hd, q], by rw [q]; exact hlt⟩)]
                  · rfl
                · rfl
            · have hg := joinH_get H K' fp dels i o { fr with tmps := copyT fr.tmps (o.looksAt all) .nil } v nm hnm hdl
              rw [hg]
              simp only [RW.app, It.rw]
              subst ht
              simp only [tinyH_next]
              split
              · exact ⟨rfl, Nat.le_refl _⟩
              · rename_i hx
                have hlt : nm < H.next := by
                  by_cases h1 : nm < H.next
                  · exact h1
                  · exact (hx (.inl ⟨by omega, hnm⟩)).elim
                have hs := hrep.2 nm hlt
                rw [Option.getD_none]
                exact ⟨hs.1, Nat.le_trans hs.2 hle⟩
          have hfind : (t.rw all).finds s := by
            intro l p hl
            cases l with
            | inl x =>
              simp only [It.rw] at hl
              split at hl
              · rename_i hx
                cases hl
                have hs := hrep.1 x
                subst ht
                simp only at hx
                simp only [get_copyT, if_pos hx, tinyH_next]
                exact ⟨hs.1.symm, hs.2⟩
              · cases hl
            | inr nm =>
              simp only [It.rw] at hl
              split at hl
              · rename_i hx
                cases hl
                have hlt := (It.dom_lt hx).1
                subst ht
                simp only [tinyH_next] at hlt
                have hs := hrep.2 nm hlt
                rw [tinyH_get H fp dels i o { fr with tmps := copyT fr.tmps (o.looksAt all) .nil } v K' nm hlt, if_pos hx]
                simp only [tinyH_next]
                exact ⟨hs.1.symm, hs.2⟩
              · cases hl
          have hprev : ∀ p ∈ prev, Rl b all p t := by
            intro p hpm
            obtain ⟨a1, a2, a3, a4⟩ := hpv p hpm
            obtain ⟨d, hd, d1, d2, d3, d4⟩ := hp p hpm
            subst ht
            refine ⟨a1, by rw [tinyH_next]; exact a2, ?_⟩
            by_cases hbit : (b.getD i 0).testBit p.i = true
            · exact .inl hbit
            · right
              have hbit : (b.getD i 0).testBit p.i = false := by simpa using hbit
              have hdf : d ∈ free := by
                rw [← hfree, List.mem_filter]
                exact ⟨hd, by rw [d1, hbit]; rfl⟩
              refine dis_of (hst _ _ _ _ a4 hop a1 hbit) ?_ (by rw [tinyH_next]; exact a2) a3 (fun nm h1 h2 => ?_)
              · have := List.any_eq_false.1 (by simpa using hcl) d hdf
                rw [d2] at this
                simpa using this
              · show nm ∈ dels
                rw [← hdels, List.mem_flatMap]
                exact ⟨d, hdf, by unfold Done.names; rw [mem_range, d3, d4]; exact ⟨h1, h2⟩⟩
          obtain ⟨its, e1, e2, e3, e4, e5, e6, e7, e8, e9, e10, e11⟩ := runDraw_items hst rest (i + 1) (⟨i, fp, H.next, K'.next⟩ :: done) (t :: prev) (fr.put o.dst v) (joinH H K' fp dels) fr' H' ((t.rw all).app s) h
            (fun k => by have := hall (k + 1); simpa [Nat.add_assoc, Nat.add_comm 1 k] using this)
            (by
              intro p hpm
              rcases List.mem_cons.1 hpm with rfl | hpm
              · exact ⟨_, List.mem_cons_self, by subst ht; exact ⟨rfl, rfl, by rw [tinyH_next], rfl⟩⟩
              · obtain ⟨d, hd, hdo⟩ := hp p hpm
                exact ⟨d, List.mem_cons_of_mem _ hd, hdo⟩)
            (by
              intro d hd
              rcases List.mem_cons.1 hd with rfl | hd
              · exact Nat.le_refl _
              · exact Nat.le_trans (hdn d hd) hle)
            (by
              intro p hpm
              rcases List.mem_cons.1 hpm with rfl | hpm
              · subst ht; exact ⟨Nat.lt_succ_self _, Nat.le_refl _, by rw [tinyH_next]; exact hle, hop⟩
              · obtain ⟨a1, a2, a3, a4⟩ := hpv p hpm
                exact ⟨Nat.lt_succ_of_lt a1, Nat.le_trans a2 hle, a3, a4⟩)
            ((put_n _ _ _).trans hn) ((put_defers _ _ _).trans hdf)
            (Nat.le_trans hnx hle) hro hgl (Nat.le_trans hrn hle) hrw
          refine ⟨t :: its, ?_, ?_, ⟨hfind, e3⟩, e4, ?_, ?_, e7, e8, e9, e10, Nat.le_trans hle e11⟩
          · simp only [List.map_cons, e1, List.length_cons, List.range'_succ]
            subst ht; rfl
          · intro q hq
            rcases List.mem_cons.1 hq with rfl | hq
            · refine ⟨hok, ?_⟩
              subst ht; exact e11
            · exact e2 q hq
          · intro p hpm q hq
            rcases List.mem_cons.1 hq with rfl | hq
            · exact hprev p hpm
            · exact e5 p (List.mem_cons_of_mem _ hpm) q hq
          · exact List.Pairwise.cons (fun q hq => e5 t List.mem_cons_self q hq) e6
      · cases h

end Go.E2
