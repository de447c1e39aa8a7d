/- E2: FACTS WHOSE NAMES MAY BE OTHERS: what one call comes to, written out with names of its own, and asked for under whatever names. -/
import Derived.Test.YtjbefleabibmmaaGreatDoorE2v
namespace Go.E2
open Go

def assoc : List (Nat × Nat) → Nat → Option Nat
  | [], _ => none
  | (a, b) :: l, nm => bif Nat.beq a nm then some b else assoc l nm

theorem assoc_mem : ∀ {l : List (Nat × Nat)} {a b : Nat}, assoc l a = some b → (a, b) ∈ l
  | [], a, b, h => by simp [assoc] at h
  | (c, d) :: l, a, b, h => by
    simp only [assoc, cond_eq_ite, Nat.beq_eq] at h
    split at h
    · rename_i hc
      cases h
      rw [hc]
      exact List.mem_cons_self
    · exact List.mem_cons_of_mem _ (assoc_mem h)

def inv : List (Nat × Nat) → Nat → Option Nat
  | [], _ => none
  | (a, b) :: l, k => bif Nat.beq b k then some a else inv l k

theorem inv_mem : ∀ {l : List (Nat × Nat)} {a b : Nat}, inv l b = some a → (a, b) ∈ l
  | [], a, b, h => by simp [inv] at h
  | (c, d) :: l, a, b, h => by
    simp only [inv, cond_eq_ite, Nat.beq_eq] at h
    split at h
    · rename_i hc
      cases h
      rw [hc]
      exact List.mem_cons_self
    · exact List.mem_cons_of_mem _ (inv_mem h)

theorem inv_none : ∀ {l : List (Nat × Nat)} {b : Nat}, inv l b = none → ∀ a, (a, b) ∉ l
  | [], b, h, a, hm => by cases hm
  | (c, d) :: l, b, h, a, hm => by
    simp only [inv, cond_eq_ite, Nat.beq_eq] at h
    split at h
    · cases h
    · rename_i hc
      rcases List.mem_cons.1 hm with he | hm
      · cases he; exact hc rfl
      · exact inv_none h a hm

def nodupB : List Nat → Bool
  | [] => true
  | a :: l => (l.all fun b => !Nat.beq a b) && nodupB l

/-- Each name once, on both sides. -/
def oneOne : List (Nat × Nat) → Bool
  | [] => true
  | (a, b) :: l => (l.all fun x => !Nat.beq a x.1 && !Nat.beq b x.2) && oneOne l

theorem oneOne_mem : ∀ {l : List (Nat × Nat)}, oneOne l = true → ∀ {a b a' b' : Nat}, (a, b) ∈ l → (a', b') ∈ l → (a = a' ↔ b = b')
  | [], _, a, b, a', b', h, _ => by cases h
  | (c, d) :: l, ho, a, b, a', b', h, h' => by
    simp only [oneOne, Bool.and_eq_true, List.all_eq_true] at ho
    obtain ⟨h1, h2⟩ := ho
    have hne : ∀ x ∈ l, c ≠ x.1 ∧ d ≠ x.2 := by
      intro x hx
      have := h1 x hx
      simp only [Bool.not_eq_true'] at this
      refine ⟨fun he => ?_, fun he => ?_⟩
      · rw [he] at this; have := this.1; rw [← Bool.not_eq_true, Nat.beq_eq] at this; exact this rfl
      · rw [he] at this; have := this.2; rw [← Bool.not_eq_true, Nat.beq_eq] at this; exact this rfl
    rcases List.mem_cons.1 h with he | hm
    · cases he
      rcases List.mem_cons.1 h' with he' | hm'
      · cases he'; simp
      · exact ⟨fun e => absurd e (hne _ hm').1, fun e => absurd e (hne _ hm').2⟩
    · rcases List.mem_cons.1 h' with he' | hm'
      · cases he'
        exact ⟨fun e => absurd e.symm (hne _ hm).1, fun e => absurd e.symm (hne _ hm).2⟩
      · exact oneOne_mem h2 hm hm'

theorem assoc_of_mem {l : List (Nat × Nat)} (ho : oneOne l = true) {a b : Nat} (h : (a, b) ∈ l) : assoc l a = some b := by
  cases hq : assoc l a with
  | none =>
    exfalso
    have : ∀ {l : List (Nat × Nat)}, assoc l a = none → (a, b) ∉ l := by
      intro l
      induction l with
      | nil => intro _ hm; cases hm
      | cons x l ih =>
        obtain ⟨c, d⟩ := x
        intro hn hm
        simp only [assoc, cond_eq_ite, Nat.beq_eq] at hn
        split at hn
        · cases hn
        · rename_i hc
          rcases List.mem_cons.1 hm with he | hm
          · cases he; exact hc rfl
          · exact ih hn hm
    exact this hq h
  | some b' =>
    have := assoc_mem hq
    rw [(oneOne_mem ho this h).1 rfl]

theorem inv_of_mem {l : List (Nat × Nat)} (ho : oneOne l = true) {a b : Nat} (h : (a, b) ∈ l) : inv l b = some a := by
  cases hq : inv l b with
  | none => exact absurd h (inv_none hq a)
  | some a' =>
    have := inv_mem hq
    rw [(oneOne_mem ho this h).2 rfl]

/-! ### Values under other names -/
mutual
def renV (m : Nat → Option Nat) : V → Option V
  | .ptr nm g off lim => (m nm).map fun k => .ptr k g off lim
  | .slice nm g off len sz cap => (m nm).map fun k => .slice k g off len sz cap
  | .func (.func f) a c => (renL m a).bind fun a' => (renL m c).map fun c' => .func (.func f) a' c'
  | .func .. => none
  | .iface t v => (renV m v).map fun v' => .iface t v'
  | .agg l => (renL m l).map .agg
  | .tuple l => (renL m l).map .tuple
  | .map nm => (m nm).map .map
  | .int k n => some (.int k n)
  | .bool b => some (.bool b)
  | .str s => some (.str s)
  | .nilp => some .nilp
  | .nils => some .nils
  | .nilf => some .nilf
  | .nili => some .nili
  | .nilm => some .nilm
def renL (m : Nat → Option Nat) : List V → Option (List V)
  | [] => some []
  | v :: l => (renV m v).bind fun v' => (renL m l).map fun l' => v' :: l'
end

def renM (m : Nat → Option Nat) : List (V × V × Nat) → Option (List (V × V × Nat))
  | [] => some []
  | (k, v, b) :: l => (renV m k).bind fun k' => (renV m v).bind fun v' => (renM m l).map fun l' => (k', v', b) :: l'

def renO (m : Nat → Option Nat) : O → Option O
  | .row cells e g f z x => (renL m cells).map fun c => .row c e g f z x
  | .map es clock => (renM m es).map fun es' => .map es' clock
  | _ => none

section
variable {m : Nat → Option Nat} {G1 G2 : Ghost} {w : World}

mutual
theorem Rel.ren (hm : ∀ nm k, m nm = some k → ∀ g, G2 k g = G1 nm g) : ∀ {v v' : V}, renV m v = some v' → ∀ {x : Value}, Rel G1 w v x ↔ Rel G2 w v' x
  | .int _ _, v', h, x | .bool _, v', h, x | .str _, v', h, x | .nilp, v', h, x | .nils, v', h, x | .nilf, v', h, x | .nili, v', h, x | .nilm, v', h, x => by
    simp only [renV, Option.some.injEq] at h
    subst h
    simp only [Rel]
  | .ptr nm g off lim, v', h, x => by
    simp only [renV, Option.map_eq_some_iff] at h
    obtain ⟨k, hk, rfl⟩ := h
    simp only [Rel, hm nm k hk]
  | .slice nm g off len sz cap, v', h, x => by
    simp only [renV, Option.map_eq_some_iff] at h
    obtain ⟨k, hk, rfl⟩ := h
    simp only [Rel, hm nm k hk]
  | .map nm, v', h, x => by
    simp only [renV, Option.map_eq_some_iff] at h
    obtain ⟨k, hk, rfl⟩ := h
    simp only [Rel, hm nm k hk]
  | .func fn a c, v', h, x => by
    cases fn with
    | func f =>
      simp only [renV, Option.bind_eq_some_iff, Option.map_eq_some_iff] at h
      obtain ⟨a', ha, c', hc, rfl⟩ := h
      simp only [Rel, RelFn]
      constructor
      · rintro ⟨fn', ra, rc, e1, e2, e3, e4⟩
        exact ⟨fn', ra, rc, e1, e2, (RelL.ren hm ha).1 e3, (RelL.ren hm hc).1 e4⟩
      · rintro ⟨fn', ra, rc, e1, e2, e3, e4⟩
        exact ⟨fn', ra, rc, e1, e2, (RelL.ren hm ha).2 e3, (RelL.ren hm hc).2 e4⟩
    | _ => simp [renV] at h
  | .iface t v, v', h, x => by
    simp only [renV, Option.map_eq_some_iff] at h
    obtain ⟨u, hu, rfl⟩ := h
    simp only [Rel]
    constructor
    · rintro ⟨y, e1, e2⟩; exact ⟨y, e1, (Rel.ren hm hu).1 e2⟩
    · rintro ⟨y, e1, e2⟩; exact ⟨y, e1, (Rel.ren hm hu).2 e2⟩
  | .agg l, v', h, x => by
    simp only [renV, Option.map_eq_some_iff] at h
    obtain ⟨u, hu, rfl⟩ := h
    simp only [Rel]
    constructor
    · rintro ⟨y, e1, e2⟩; exact ⟨y, e1, (RelL.ren hm hu).1 e2⟩
    · rintro ⟨y, e1, e2⟩; exact ⟨y, e1, (RelL.ren hm hu).2 e2⟩
  | .tuple l, v', h, x => by
    simp only [renV, Option.map_eq_some_iff] at h
    obtain ⟨u, hu, rfl⟩ := h
    simp only [Rel]
    constructor
    · rintro ⟨y, e1, e2⟩; exact ⟨y, e1, (RelL.ren hm hu).1 e2⟩
    · rintro ⟨y, e1, e2⟩; exact ⟨y, e1, (RelL.ren hm hu).2 e2⟩
theorem RelL.ren (hm : ∀ nm k, m nm = some k → ∀ g, G2 k g = G1 nm g) : ∀ {l l' : List V}, renL m l = some l' → ∀ {xs : List Value}, RelL G1 w l xs ↔ RelL G2 w l' xs
  | [], l', h, xs => by
    simp only [renL, Option.some.injEq] at h
    subst h
    simp only [RelL]
  | v :: l, l', h, xs => by
    simp only [renL, Option.bind_eq_some_iff, Option.map_eq_some_iff] at h
    obtain ⟨v', hv, l1, hl, rfl⟩ := h
    simp only [RelL]
    constructor
    · rintro ⟨x, ys, e1, e2, e3⟩; exact ⟨x, ys, e1, (Rel.ren hm hv).1 e2, (RelL.ren hm hl).1 e3⟩
    · rintro ⟨x, ys, e1, e2, e3⟩; exact ⟨x, ys, e1, (Rel.ren hm hv).2 e2, (RelL.ren hm hl).2 e3⟩
end

theorem map_ren {v v' : V} (h : renV m v = some v') : (∃ n, v = .map n) ↔ (∃ n, v' = .map n) := by
  cases v with
  | map n =>
    simp only [renV, Option.map_eq_some_iff] at h
    obtain ⟨k, _, rfl⟩ := h
    exact ⟨fun _ => ⟨_, rfl⟩, fun _ => ⟨_, rfl⟩⟩
  | func fn a c =>
    cases fn with
    | func f =>
      simp only [renV, Option.bind_eq_some_iff, Option.map_eq_some_iff] at h
      obtain ⟨_, _, _, _, rfl⟩ := h
      exact ⟨fun ⟨_, h⟩ => (by cases h), fun ⟨_, h⟩ => (by cases h)⟩
    | _ => simp [renV] at h
  | _ =>
    simp only [renV, Option.map_eq_some_iff, Option.some.injEq] at h
    first
    | (subst h; exact ⟨fun ⟨_, h⟩ => (by cases h), fun ⟨_, h⟩ => (by cases h)⟩)
    | (obtain ⟨_, _, rfl⟩ := h; exact ⟨fun ⟨_, h⟩ => (by cases h), fun ⟨_, h⟩ => (by cases h)⟩)

theorem hole_ren {v v' : V} (h : renV m v = some v') : isHole v = isHole v' := by
  rw [Bool.eq_iff_iff, isHole_iff, isHole_iff]
  constructor
  · rintro ⟨n, rfl⟩
    simp only [renV, renL, Option.map_eq_some_iff, Option.bind_eq_some_iff] at h
    obtain ⟨_, ⟨_, ⟨k, hk, rfl⟩, _, h1, rfl⟩, rfl⟩ := h
    cases h1
    exact ⟨k, rfl⟩
  · rintro ⟨n, rfl⟩
    cases v with
    | tuple l =>
      simp only [renV, Option.map_eq_some_iff, V.tuple.injEq] at h
      obtain ⟨u, hu, rfl⟩ := h
      cases l with
      | nil => simp [renL] at hu
      | cons x l =>
        simp only [renL, Option.bind_eq_some_iff, Option.map_eq_some_iff, List.cons.injEq] at hu
        obtain ⟨y, hy, l1, hl, rfl, rfl⟩ := hu
        obtain ⟨q, rfl⟩ := (map_ren hy).2 ⟨n, rfl⟩
        cases l with
        | nil => exact ⟨q, rfl⟩
        | cons _ _ =>
          simp only [renL, Option.bind_eq_some_iff, Option.map_eq_some_iff] at hl
          obtain ⟨_, _, _, _, hl⟩ := hl
          cases hl
    | func fn a c =>
      cases fn with
      | func f =>
        simp only [renV, Option.bind_eq_some_iff, Option.map_eq_some_iff] at h
        obtain ⟨_, _, _, _, h⟩ := h
        cases h
      | _ => simp [renV] at h
    | _ => simp [renV] at h

theorem RelC.ren (hm : ∀ nm k, m nm = some k → ∀ g, G2 k g = G1 nm g) : ∀ {l l' : List V}, renL m l = some l' → ∀ {xs : List Value}, RelC G1 w l xs ↔ RelC G2 w l' xs
  | [], l', h, xs => by
    simp only [renL, Option.some.injEq] at h
    subst h
    simp only [RelC]
  | v :: l, l', h, xs => by
    simp only [renL, Option.bind_eq_some_iff, Option.map_eq_some_iff] at h
    obtain ⟨v', hv, l1, hl, rfl⟩ := h
    simp only [RelC, hole_ren hv]
    constructor
    · rintro ⟨x, ys, e1, e2, e3⟩; exact ⟨x, ys, e1, e2.imp id (Rel.ren hm hv).1, (RelC.ren hm hl).1 e3⟩
    · rintro ⟨x, ys, e1, e2, e3⟩; exact ⟨x, ys, e1, e2.imp id (Rel.ren hm hv).2, (RelC.ren hm hl).2 e3⟩

theorem RelM.ren (hm : ∀ nm k, m nm = some k → ∀ g, G2 k g = G1 nm g) : ∀ {l l' : List (V × V × Nat)}, renM m l = some l' → ∀ {xs : List MapEntry}, RelM G1 w l xs ↔ RelM G2 w l' xs
  | [], l', h, xs => by
    simp only [renM, Option.some.injEq] at h
    subst h
    simp only [RelM]
  | (k, v, b) :: l, l', h, xs => by
    simp only [renM, Option.bind_eq_some_iff, Option.map_eq_some_iff] at h
    obtain ⟨k', hk, v', hv, l1, hl, rfl⟩ := h
    simp only [RelM]
    constructor
    · rintro ⟨x, ys, e1, e2, e3, e4, e5⟩; exact ⟨x, ys, e1, (Rel.ren hm hk).1 e2, (Rel.ren hm hv).1 e3, e4, (RelM.ren hm hl).1 e5⟩
    · rintro ⟨x, ys, e1, e2, e3, e4, e5⟩; exact ⟨x, ys, e1, (Rel.ren hm hk).2 e2, (Rel.ren hm hv).2 e3, e4, (RelM.ren hm hl).2 e5⟩

theorem renL_length : ∀ {l l' : List V}, renL m l = some l' → l'.length = l.length
  | [], l', h => by simp only [renL, Option.some.injEq] at h; subst h; rfl
  | v :: l, l', h => by
    simp only [renL, Option.bind_eq_some_iff, Option.map_eq_some_iff] at h
    obtain ⟨v', hv, l1, hl, rfl⟩ := h
    simp [renL_length hl]

theorem renL_take : ∀ {l l' : List V} (n : Nat), renL m l = some l' → renL m (l.take n) = some (l'.take n)
  | [], l', n, h => by simp only [renL, Option.some.injEq] at h; subst h; simp [renL]
  | v :: l, l', 0, h => by simp [renL]
  | v :: l, l', n + 1, h => by
    simp only [renL, Option.bind_eq_some_iff, Option.map_eq_some_iff] at h
    obtain ⟨v', hv, l1, hl, rfl⟩ := h
    simp [renL, hv, renL_take n hl]

theorem renL_drop : ∀ {l l' : List V} (n : Nat), renL m l = some l' → renL m (l.drop n) = some (l'.drop n)
  | [], l', n, h => by simp only [renL, Option.some.injEq] at h; subst h; simp [renL]
  | v :: l, l', 0, h => by simpa using h
  | v :: l, l', n + 1, h => by
    simp only [renL, Option.bind_eq_some_iff, Option.map_eq_some_iff] at h
    obtain ⟨v', hv, l1, hl, rfl⟩ := h
    simpa using renL_drop n hl

theorem ObjSim.ren (hm : ∀ nm k, m nm = some k → ∀ g, G2 k g = G1 nm g) {nm k : Nat} (hk : m nm = some k) {o o' : O} (h : renO m o = some o') : ObjSim G1 w nm o ↔ ObjSim G2 w k o' := by
  cases o with
  | row cells e gen f z ex =>
    simp only [renO, Option.map_eq_some_iff] at h
    obtain ⟨c, hc, rfl⟩ := h
    have hcells : ∀ n sh, ∀ {xs}, RelC G1 w ((cells.take n).drop sh) xs ↔ RelC G2 w ((c.take n).drop sh) xs := fun n sh => RelC.ren hm (renL_drop sh (renL_take n hc))
    simp only [ObjSim, hm nm k hk, renL_length hc, hcells]
  | map es clock =>
    simp only [renO, Option.map_eq_some_iff] at h
    obtain ⟨c, hc, rfl⟩ := h
    have hes : ∀ {xs}, RelM G1 w es xs ↔ RelM G2 w c xs := RelM.ren hm hc
    simp only [ObjSim, hm nm k hk, hes]
  | _ => simp [renO] at h
end

/-! ### A fact, asked for under other names -/
def addName (ρ : List (Nat × Nat)) (a b : Nat) : Option (List (Nat × Nat)) := match assoc ρ a with
  | some b' => bif Nat.beq b' b then some ρ else none
  | none => some ((a, b) :: ρ)

mutual
/-- Which name stands for which (a guess, held against all below); none where it cannot be. -/
def matchV : V → V → List (Nat × Nat) → Option (List (Nat × Nat))
  | .ptr a _ _ _, .ptr b _ _ _, ρ | .map a, .map b, ρ => addName ρ a b
  | .slice a _ _ n _ _, .slice b _ _ n' _ _, ρ => bif Nat.beq n n' then addName ρ a b else none
  | .int _ a, .int _ b, ρ => bif a == b then some ρ else none
  | .bool a, .bool b, ρ => bif a == b then some ρ else none
  | .str a, .str b, ρ => bif a == b then some ρ else none
  | .func _ a c, .func _ a' c', ρ => match matchL a a' ρ with
    | some ρ' => matchL c c' ρ'
    | none => none
  | .iface _ v, .iface _ v', ρ => matchV v v' ρ
  | .agg l, .agg l', ρ | .tuple l, .tuple l', ρ => matchL l l' ρ
  | _, _, ρ => some ρ
def matchL : List V → List V → List (Nat × Nat) → Option (List (Nat × Nat))
  | v :: l, v' :: l', ρ => match matchV v v' ρ with
    | some ρ' => matchL l l' ρ'
    | none => none
  | [], [], ρ => some ρ
  | _, _, _ => none
end

def matchM : List (V × V × Nat) → List (V × V × Nat) → List (Nat × Nat) → Option (List (Nat × Nat))
  | (k, v, _) :: l, (k', v', _) :: l', ρ => match matchV k k' ρ with
    | some ρ' => match matchV v v' ρ' with
      | some ρ'' => matchM l l' ρ''
      | none => none
    | none => none
  | [], [], ρ => some ρ
  | _, _, _ => none

def matchO : O → O → List (Nat × Nat) → Option (List (Nat × Nat))
  | .row c _ g _ _ _, .row c' _ g' _ _ _, ρ => bif Nat.beq g g' then matchL c c' ρ else none
  | .map es _, .map es' _, ρ => matchM es es' ρ
  | _, _, _ => none

def matchPre (H : Heap) : List (Nat × O) → List (Nat × Nat) → Option (List (Nat × Nat))
  | [], ρ => some ρ
  | (nm, o) :: l, ρ => match assoc ρ nm with
    | some k => match H.get k with
      | some o' => match matchO o o' ρ with
        | some ρ' => matchPre H l ρ'
        | none => none
      | none => none
    | none => none

def eqMB : List (V × V × Nat) → List (V × V × Nat) → Bool
  | [], [] => true
  | (k, v, b) :: l, (k', v', b') :: l' => eqVB k k' && eqVB v v' && Nat.beq b b' && eqMB l l'
  | _, _ => false

theorem eqMB_eq : ∀ {a b : List (V × V × Nat)}, eqMB a b = true → a = b
  | [], [], _ => rfl
  | (k, v, b) :: l, (k', v', b') :: l', h => by
    simp only [eqMB, Bool.and_eq_true, Nat.beq_eq] at h
    obtain ⟨⟨⟨h1, h2⟩, rfl⟩, h3⟩ := h
    rw [eqVB_eq h1, eqVB_eq h2, eqMB_eq h3]

def eqOB2 : O → O → Bool
  | .map es c, .map es' c' => eqMB es es' && Nat.beq c c'
  | o, o' => eqOB o o'

theorem eqOB2_eq {a b : O} (h : eqOB2 a b = true) : a = b := by
  unfold eqOB2 at h
  split at h
  · simp only [Bool.and_eq_true, Nat.beq_eq] at h
    rw [eqMB_eq h.1, h.2]
  · exact eqOB_eq h

/-- Does memory hold a fact's objects, under these names? -/
def holdsR (m : Nat → Option Nat) (H : Heap) (l : List (Nat × O)) : Bool :=
  l.all fun x => match m x.1, renO m x.2 with
    | some k, some o => match H.get k with
      | some o' => eqOB2 o o'
      | none => false
    | _, _ => false

def holdsB2 (H : Heap) (l : List (Nat × O)) : Bool :=
  l.all fun x => match H.get x.1 with
    | some o => eqOB2 o x.2
    | none => false

theorem holds_of2 {H : Heap} {l : List (Nat × O)} (h : holdsB2 H l = true) {k : Nat} {o : O} (hk : (k, o) ∈ l) : H.get k = some o := by
  have := List.all_eq_true.1 h (k, o) hk
  simp only at this
  split at this
  · rename_i u hu
    rw [hu, eqOB2_eq this]
  · cases this

theorem holdsR_of {m : Nat → Option Nat} {H : Heap} {l : List (Nat × O)} (h : holdsR m H l = true) {nm : Nat} {o : O} (hk : (nm, o) ∈ l) : ∃ k o', m nm = some k ∧ renO m o = some o' ∧ H.get k = some o' := by
  have := List.all_eq_true.1 h (nm, o) hk
  simp only at this
  split at this
  · rename_i k o' h1 h2
    split at this
    · rename_i u hu
      exact ⟨k, o', h1, h2, by rw [hu, eqOB2_eq this]⟩
    · cases this
  · cases this

/-- The names a fact has, and those that its call makes. -/
def Fact.names (F : Fact) (ρ : List (Nat × Nat)) (next : Nat) (nm : Nat) : Option Nat :=
  bif Nat.ble F.next nm then (bif Nat.blt nm F.next' then some (nm - F.next + next) else none) else assoc ρ nm

def renPost (m : Nat → Option Nat) : List (Nat × O) → Option (List (Nat × O))
  | [] => some []
  | (nm, o) :: l => (m nm).bind fun k => (renO m o).bind fun o' => (renPost m l).map fun l' => (k, o') :: l'

theorem renPost_mem {m : Nat → Option Nat} : ∀ {l l' : List (Nat × O)}, renPost m l = some l' → ∀ {k : Nat} {o' : O}, (k, o') ∈ l' → ∃ nm o, (nm, o) ∈ l ∧ m nm = some k ∧ renO m o = some o'
  | [], l', h, k, o', hm => by simp only [renPost, Option.some.injEq] at h; subst h; cases hm
  | (nm, o) :: l, l', h, k, o', hm => by
    simp only [renPost, Option.bind_eq_some_iff, Option.map_eq_some_iff] at h
    obtain ⟨k1, h1, o1, h2, l1, h3, rfl⟩ := h
    rcases List.mem_cons.1 hm with he | hm
    · cases he
      exact ⟨nm, o, List.mem_cons_self, h1, h2⟩
    · obtain ⟨nm', o2, q1, q2⟩ := renPost_mem h3 hm
      exact ⟨nm', o2, List.mem_cons_of_mem _ q1, q2⟩

def Fact.guess (F : Fact) (args : List V) (H : Heap) : Option (List (Nat × Nat)) :=
  match matchL F.args args ((F.pre.filter fun x => Nat.blt x.1 F.glob).map fun x => (x.1, x.1)) with
  | some ρ => matchPre H F.pre ρ
  | none => none

/-- Are these names good for this fact? -/
def Fact.fits (F : Fact) (ρ : List (Nat × Nat)) (args : List V) (H : Heap) : Bool :=
  (match renL (assoc ρ) F.args with
    | some a => eqLB a args
    | none => false) && Nat.beq H.glob F.glob && holdsR (assoc ρ) H F.pre && oneOne ρ &&
  ρ.all fun x => Nat.blt x.1 F.next && Nat.blt x.2 H.next && (!Nat.blt x.1 F.glob || Nat.beq x.2 x.1) && (!Nat.ble F.ro x.1 || Nat.ble H.ro x.2)

def Fact.delsR (F : Fact) (ρ : List (Nat × Nat)) (next : Nat) : List Nat :=
  ((F.pre.filter fun x => Nat.ble F.ro x.1).filterMap fun x => assoc ρ x.1) ++ List.range' next (F.next' - F.next)

def Fact.tryR (F : Fact) (args : List V) (H : Heap) : Option (CR × Heap) :=
  match H with
  | ⟨t, n, r, g⟩ =>
    match F.guess args ⟨t, n, r, g⟩ with
    | some ρ => bif F.fits ρ args ⟨t, n, r, g⟩ then
        (renV (F.names ρ n) F.ret).bind fun v => (renPost (F.names ρ n) F.post).map fun l => (.ret v, ⟨copyT (treeOf l) (F.delsR ρ n) t, n + (F.next' - F.next), r, g⟩)
      else none
    | none => none

/-- Is it what a run comes to? -/
def Fact.ok2 (F : Fact) (E : Env) (n : Nat) : Bool :=
  match callFn E n (.func F.f) F.args F.heap with
  | some (.ret v, H) => eqVB v F.ret && Nat.beq H.next F.next' && Nat.ble F.next F.next' && Nat.ble F.ro F.next && Nat.ble F.glob F.ro && holdsB2 H F.post
  | _ => false

theorem get_treeOf_mem {α : Type} : ∀ {l : List (Nat × α)} {k : Nat} {v : α}, (k, v) ∈ l → ∃ v', (treeOf l).get k = some v'
  | [], k, v, h => by cases h
  | (k', v') :: l, k, v, h => by
    simp only [treeOf, Tree.get_set]
    by_cases hk : k = k'
    · rw [if_pos hk]; exact ⟨_, rfl⟩
    · rw [if_neg hk]
      rcases List.mem_cons.1 h with he | hm
      · cases he; exact absurd rfl hk
      · exact get_treeOf_mem hm

section
variable {P : Program} {sp : Nat → Option (List V → Heap → Option (CR × Heap))} {n : Nat}

/-- The ghost of a fact's own names. -/
def ghost0 (G : Ghost) (ρ : List (Nat × Nat)) : Ghost := fun nm g => match assoc ρ nm with
  | some k => G k g
  | none => none

/-- The ghost behind a fact's call. -/
def ghost1 (G G1 : Ghost) (ρ : List (Nat × Nat)) (F : Fact) (next : Nat) : Ghost := fun k g =>
  if k < next then (match inv ρ k with
    | some nm => G1 nm g
    | none => G k g) else if k - next + F.next < F.next' then G1 (k - next + F.next) g else none

structure Fits (F : Fact) (ρ : List (Nat × Nat)) (args : List V) (H : Heap) : Prop where
  args : renL (assoc ρ) F.args = some args
  glob : H.glob = F.glob
  pre : holdsR (assoc ρ) H F.pre = true
  one : oneOne ρ = true
  lt : ∀ a b, (a, b) ∈ ρ → a < F.next ∧ b < H.next
  same : ∀ a b, (a, b) ∈ ρ → a < F.glob → b = a
  ro : ∀ a b, (a, b) ∈ ρ → F.ro ≤ a → H.ro ≤ b

theorem fits_of {F : Fact} {ρ : List (Nat × Nat)} {args : List V} {H : Heap} (h : F.fits ρ args H = true) : Fits F ρ args H := by
  simp only [Fact.fits, Bool.and_eq_true, Nat.beq_eq, List.all_eq_true] at h
  obtain ⟨⟨⟨⟨h1, h2⟩, h3⟩, h4⟩, h5⟩ := h
  have h6 : ∀ a b, (a, b) ∈ ρ → (a < F.next ∧ b < H.next) ∧ (a < F.glob → b = a) ∧ (F.ro ≤ a → H.ro ≤ b) := by
    intro a b hm
    have := h5 (a, b) hm
    simp only [Nat.blt_eq, Bool.or_eq_true, Bool.not_eq_true', Nat.beq_eq, Nat.ble_eq] at this
    obtain ⟨⟨⟨q1, q2⟩, q3⟩, q4⟩ := this
    refine ⟨⟨q1, q2⟩, fun hl => ?_, fun hl => ?_⟩
    · rcases q3 with q3 | q3
      · rw [← Bool.not_eq_true, Nat.blt_eq] at q3; exact absurd hl q3
      · exact q3
    · rcases q4 with q4 | q4
      · rw [← Bool.not_eq_true, Nat.ble_eq] at q4; exact absurd hl q4
      · exact q4
  refine ⟨?_, h2, h3, h4, fun a b hm => (h6 a b hm).1, fun a b hm => (h6 a b hm).2.1, fun a b hm => (h6 a b hm).2.2⟩
  split at h1
  · rename_i u hu
    rw [hu, eqLB_eq h1]
  · cases h1

theorem ghost0_some {G : Ghost} {ρ : List (Nat × Nat)} {nm g : Nat} {x : Nat × Nat × Nat} (h : ghost0 G ρ nm g = some x) : ∃ k, (nm, k) ∈ ρ ∧ G k g = some x := by
  unfold ghost0 at h
  split at h
  · rename_i k hk
    exact ⟨k, assoc_mem hk, h⟩
  · cases h

theorem sim_fact {F : Fact} {ρ : List (Nat × Nat)} {args : List V} {H : Heap} {G : Ghost} {w : World} (hs : Sim H G w) (hf : Fits F ρ args H) (hro : F.ro ≤ F.next) (hgl : F.glob ≤ F.ro) : Sim F.heap (ghost0 G ρ) w := by
  have hm0 : ∀ nm k, assoc ρ nm = some k → ∀ g, G k g = ghost0 G ρ nm g := by
    intro nm k hk g
    simp only [ghost0, hk]
  refine ⟨fun nm g b sh n h => ?_, fun nm g b sh n nm' g' sh' n' h h' => ?_, fun nm o hl ho => ?_, hro, hgl, fun g o hg ho => ?_⟩
  · obtain ⟨k, h1, h2⟩ := ghost0_some h
    exact ⟨(hs.lt _ _ _ _ _ h2).1, (hf.lt _ _ h1).1⟩
  · obtain ⟨k, h1, h2⟩ := ghost0_some h
    obtain ⟨k', h1', h2'⟩ := ghost0_some h'
    obtain ⟨q1, q2⟩ := hs.inj _ _ _ _ _ _ _ _ _ h2 h2'
    exact ⟨(oneOne_mem hf.one h1 h1').2 q1, q2⟩
  · obtain ⟨k, o', q1, q2, q3⟩ := holdsR_of hf.pre (get_treeOf _ _ _ ho)
    exact (ObjSim.ren hm0 q1 q2).2 (hs.obj k o' (hf.lt _ _ (assoc_mem q1)).2 q3)
  · obtain ⟨k, o', q1, q2, q3⟩ := holdsR_of hf.pre (get_treeOf _ _ _ ho)
    have hk := hf.same _ _ (assoc_mem q1) hg
    subst hk
    obtain ⟨m, hm⟩ := hs.globs k o' (by rw [hf.glob]; exact hg) q3
    exact ⟨m, by rw [← hm0 k k q1]; exact hm⟩

/-- A fact's step, from its names to those that are. -/
theorem Fact.stepR {F : Fact} {ρ : List (Nat × Nat)} {args : List V} {H H1 : Heap} {G G1 : Ghost} {w w' : World} (hs : Sim H G w) (hf : Fits F ρ args H) (hle : F.next ≤ F.next') (st : Step F.heap (ghost0 G ρ) w H1 G1 w') (hn : H1.next = F.next') (hpost : holdsB2 H1 F.post = true)
    {l : List (Nat × O)} (hl : renPost (F.names ρ H.next) F.post = some l) : Step H G w { H with objs := copyT (treeOf l) (F.delsR ρ H.next) H.objs, next := H.next + (F.next' - F.next) } (ghost1 G G1 ρ F H.next) w' ∧
      ∀ nm k, F.names ρ H.next nm = some k → ∀ g, ghost1 G G1 ρ F H.next k g = G1 nm g := by
  have hget : ∀ nm, ({ H with objs := copyT (treeOf l) (F.delsR ρ H.next) H.objs, next := H.next + (F.next' - F.next) } : Heap).get nm = if nm ∈ F.delsR ρ H.next then (treeOf l).get nm else H.get nm := fun nm => get_copyT _ _ _ _
  have hm1 : ∀ nm k, F.names ρ H.next nm = some k → ∀ g, ghost1 G G1 ρ F H.next k g = G1 nm g := by
    intro nm k hk g
    simp only [Fact.names, cond_eq_ite, Nat.ble_eq, Nat.blt_eq] at hk
    split at hk
    · rename_i h1
      split at hk
      · rename_i h2
        cases hk
        have e1 : ¬ (nm - F.next + H.next < H.next) := by omega
        have e2 : nm - F.next + H.next - H.next + F.next = nm := by omega
        simp only [ghost1, if_neg e1, e2, if_pos h2]
      · cases hk
    · have hmem := assoc_mem hk
      simp only [ghost1, if_pos (hf.lt _ _ hmem).2, inv_of_mem hf.one hmem]
  -- a name of H's that the fact has, and one that it has not
  have hin : ∀ k nm, inv ρ k = some nm → (nm, k) ∈ ρ ∧ ∀ g, ghost0 G ρ nm g = G k g := by
    intro k nm h
    have hmem := inv_mem h
    exact ⟨hmem, fun g => by simp only [ghost0, assoc_of_mem hf.one hmem]⟩
  have hout : ∀ k g b sh n, inv ρ k = none → G k g = some (b, sh, n) → foreign (ghost0 G ρ) b := by
    intro k g b sh n hk hg nm' g' sh' n' h0
    obtain ⟨k', q1, q2⟩ := ghost0_some h0
    obtain ⟨q3, _⟩ := hs.inj _ _ _ _ _ _ _ _ _ hg q2
    subst q3
    exact inv_none hk _ q1
  have hkeep : ∀ k g b sh n, inv ρ k = none → G k g = some (b, sh, n) → w'.heap[b]? = w.heap[b]? := fun k g b sh n hk hg => (st.ext.frg b (hs.lt _ _ _ _ _ hg).1 (hout k g b sh n hk hg)).1
  have hG' : ∀ k g x, ghost1 G G1 ρ F H.next k g = some x → (k < H.next ∧ ((∃ nm, inv ρ k = some nm ∧ G1 nm g = some x) ∨ (inv ρ k = none ∧ G k g = some x))) ∨ (H.next ≤ k ∧ k - H.next + F.next < F.next' ∧ G1 (k - H.next + F.next) g = some x) := by
    intro k g x h
    simp only [ghost1] at h
    split at h
    · rename_i hk
      refine .inl ⟨hk, ?_⟩
      split at h
      · rename_i nm hnm; exact .inl ⟨nm, hnm, h⟩
      · rename_i hnm; exact .inr ⟨hnm, h⟩
    · rename_i hk
      split at h
      · rename_i h2; exact .inr ⟨by omega, h2, h⟩
      · cases h
  have hdel : ∀ k, k ∈ F.delsR ρ H.next → (∃ nm o, (nm, o) ∈ F.pre ∧ F.ro ≤ nm ∧ (nm, k) ∈ ρ) ∨ (H.next ≤ k ∧ k < H.next + (F.next' - F.next)) := by
    intro k hk
    rcases List.mem_append.1 hk with hk | hk
    · obtain ⟨x, hx, hx2⟩ := List.mem_filterMap.1 hk
      obtain ⟨hx3, hx4⟩ := List.mem_filter.1 hx
      exact .inl ⟨x.1, x.2, hx3, by simpa using hx4, assoc_mem hx2⟩
    · exact .inr (by have := List.mem_range'_1.1 hk; omega)
  have hdel2 : ∀ nm k o, (nm, o) ∈ F.pre → F.ro ≤ nm → (nm, k) ∈ ρ → k ∈ F.delsR ρ H.next := by
    intro nm k o h1 h2 h3
    refine List.mem_append_left _ (List.mem_filterMap.2 ⟨(nm, o), List.mem_filter.2 ⟨h1, by simpa using h2⟩, assoc_of_mem hf.one h3⟩)
  have hlow : ∀ k, k < H.ro → k ∉ F.delsR ρ H.next := by
    intro k hr hd
    rcases hdel k hd with ⟨nm, o, h1, h2, h3⟩ | ⟨h1, _⟩
    · have := hf.ro _ _ h3 h2; omega
    · have := hs.ro; omega
  have hsub : ∀ k g x, G k g = some x → ghost1 G G1 ρ F H.next k g = some x := by
    intro k g x hx
    obtain ⟨b, sh, m⟩ := x
    have hk := (hs.lt _ _ _ _ _ hx).2
    simp only [ghost1, if_pos hk]
    split
    · rename_i nm hnm
      exact st.ext.sub _ _ _ (by rw [(hin k nm hnm).2]; exact hx)
    · exact hx
  have hpreN : ∀ nm, F.heap.get nm = none ∨ ∃ o, (nm, o) ∈ F.pre := by
    intro nm
    cases hq : F.heap.get nm with
    | none => exact .inl rfl
    | some o => exact .inr ⟨o, get_treeOf _ _ _ hq⟩
  -- what is not to be put in anew is as it was
  have hold : ∀ k, k < H.next → k ∉ F.delsR ρ H.next → (∀ g x, ghost1 G G1 ρ F H.next k g = some x → G k g = some x) ∧ ∀ g b sh n, G k g = some (b, sh, n) → w'.heap[b]? = w.heap[b]? := by
    intro k hk hd
    cases hq : inv ρ k with
    | none =>
      refine ⟨fun g x hx => ?_, fun g b sh m hg => hkeep k g b sh m hq hg⟩
      simp only [ghost1, if_pos hk, hq] at hx
      exact hx
    | some nm =>
      obtain ⟨hmem, h0⟩ := hin k nm hq
      have hgo : ∀ g, ghost1 G G1 ρ F H.next k g = G1 nm g := fun g => by simp only [ghost1, if_pos hk, hq]
      rcases hpreN nm with hnone | ⟨o, ho⟩
      · obtain ⟨_, q2, q3⟩ := st.frame nm (hf.lt _ _ hmem).1 hnone
        exact ⟨fun g x hx => by rw [← h0]; exact q3 g x (by rw [← hgo]; exact hx), fun g b sh m hg => q2 g b sh m (by rw [h0]; exact hg)⟩
      · by_cases hr : F.ro ≤ nm
        · exact absurd (hdel2 nm k o ho hr hmem) hd
        · have hr : nm < F.ro := by omega
          exact ⟨fun g x hx => by rw [← h0]; exact st.newG nm g x (by rw [← hgo]; exact hx) hr, fun g b sh m hg => st.ext.ro nm g b sh m hr (by rw [h0]; exact hg)⟩
  have hext : Ext H.ro G w (ghost1 G G1 ρ F H.next) w' := by
    refine ⟨hsub, fun b hb hfb => ?_, st.ext.size, st.ext.shp, fun k g b sh m hr hg => ?_, st.ext.out⟩
    · have hf0 : foreign (ghost0 G ρ) b := by
        intro nm g sh m h0
        obtain ⟨k, _, q2⟩ := ghost0_some h0
        exact hfb k g sh m q2
      obtain ⟨q1, q2⟩ := st.ext.frg b hb hf0
      refine ⟨q1, fun k g sh m hg => ?_⟩
      rcases hG' k g _ hg with ⟨_, ⟨nm, _, h1⟩ | ⟨_, h1⟩⟩ | ⟨_, _, h1⟩
      · exact q2 _ _ _ _ h1
      · exact hfb _ _ _ _ h1
      · exact q2 _ _ _ _ h1
    · exact (hold k (hs.lt _ _ _ _ _ hg).2 (hlow k hr)).2 g b sh m hg
  refine ⟨⟨hext, ⟨fun k g b sh m hg => ?_, fun k g b sh m k' g' sh' m' hg hg' => ?_, fun k o hk ho => ?_, ?_, hs.glob, fun g o hg ho => ?_⟩, by simp only; omega, rfl, rfl, fun k hr => ?_, fun k g x hx hr => ?_, fun k hk hnone => ?_⟩, hm1⟩
  · rcases hG' k g _ hg with ⟨hk, ⟨nm, _, h1⟩ | ⟨_, h1⟩⟩ | ⟨hk, hk2, h1⟩
    · exact ⟨(st.sim.lt _ _ _ _ _ h1).1, by simp only; omega⟩
    · exact ⟨Nat.lt_of_lt_of_le (hs.lt _ _ _ _ _ h1).1 st.ext.size, by simp only; omega⟩
    · exact ⟨(st.sim.lt _ _ _ _ _ h1).1, by simp only; omega⟩
  · have mixed : ∀ {k nm g g' sh sh' m m'}, G1 nm g = some (b, sh, m) → inv ρ k = none → G k g' = some (b, sh', m') → False := by
      intro k nm g g' sh sh' m m' h1 h2 h3
      exact (st.ext.frg b (hs.lt _ _ _ _ _ h3).1 (hout k g' b sh' m' h2 h3)).2 _ _ _ _ h1
    rcases hG' k g _ hg with ⟨hk, ⟨nm, hi, h1⟩ | ⟨hi, h1⟩⟩ | ⟨hk, hk2, h1⟩ <;> rcases hG' k' g' _ hg' with ⟨hk', ⟨nm', hi', h1'⟩ | ⟨hi', h1'⟩⟩ | ⟨hk', hk2', h1'⟩
    · obtain ⟨q1, q2⟩ := st.sim.inj _ _ _ _ _ _ _ _ _ h1 h1'
      exact ⟨(oneOne_mem hf.one (inv_mem hi) (inv_mem hi')).1 q1, q2⟩
    · exact (mixed h1 hi' h1').elim
    · obtain ⟨q1, q2⟩ := st.sim.inj _ _ _ _ _ _ _ _ _ h1 h1'
      have := (hf.lt _ _ (inv_mem hi)).1
      omega
    · exact (mixed h1' hi h1).elim
    · exact hs.inj _ _ _ _ _ _ _ _ _ h1 h1'
    · exact (mixed h1' hi h1).elim
    · obtain ⟨q1, q2⟩ := st.sim.inj _ _ _ _ _ _ _ _ _ h1 h1'
      have := (hf.lt _ _ (inv_mem hi')).1
      omega
    · exact (mixed h1 hi' h1').elim
    · obtain ⟨q1, q2⟩ := st.sim.inj _ _ _ _ _ _ _ _ _ h1 h1'
      exact ⟨by omega, q2⟩
  · rw [hget] at ho
    split at ho
    · obtain ⟨nm, o1, p1, p2, p3⟩ := renPost_mem hl (get_treeOf _ _ _ ho)
      have hlt : nm < H1.next := by
        rw [hn]
        simp only [Fact.names, cond_eq_ite, Nat.ble_eq, Nat.blt_eq] at p2
        split at p2
        · split at p2
          · assumption
          · cases p2
        · have := (hf.lt _ _ (assoc_mem p2)).1; omega
      exact (ObjSim.ren hm1 p2 p3).1 (st.sim.obj nm o1 hlt (holds_of2 hpost p1))
    · rename_i hd
      have hk' : k < H.next := by
        by_cases hkn : k < H.next
        · exact hkn
        · exfalso
          apply hd
          refine List.mem_append_right _ (List.mem_range'_1.2 ⟨by omega, ?_⟩)
          simp only at hk
          exact hk
      obtain ⟨q1, q2⟩ := hold k hk' hd
      exact (hs.obj k o hk' ho).ext hext q1 q2
  · have := hs.ro
    simp only
    omega
  · simp only at hg
    rw [hget, if_neg (hlow g (by have := hs.glob; omega))] at ho
    obtain ⟨m, hm⟩ := hs.globs g o hg ho
    exact ⟨m, hsub _ _ _ hm⟩
  · rw [hget, if_neg (hlow k hr)]
  · exact (hold k (by have := hs.ro; omega) (hlow k hr)).1 g x hx
  · have hd : k ∉ F.delsR ρ H.next := by
      intro hd
      rcases hdel k hd with ⟨nm, o, h1, h2, h3⟩ | ⟨h1, _⟩
      · obtain ⟨k', o', q1, q2, q3⟩ := holdsR_of hf.pre h1
        rw [assoc_of_mem hf.one h3] at q1
        cases q1
        rw [hnone] at q3
        cases q3
      · omega
    obtain ⟨q1, q2⟩ := hold k hk hd
    exact ⟨by rw [hget, if_neg hd]; exact hnone, q2, q1⟩

theorem Fact.soundR {F : Fact} (hc : CallOk P (callFn (envOf P sp) n)) {fn : Func} {c : Code} (hf : P.funcs[F.f]? = some fn) (hname : (fn.name == "runtime.NumGoroutine") = false) (hb : fn.body = some c) (h : F.ok2 (envOf P sp) n = true)
    {args : List V} {H H' : Heap} {r : CR} (ht : F.tryR args H = some (r, H')) {G : Ghost} {w : World} {rargs : Array Value} (hs : Sim H G w) (hr : RelL G w args rargs.toList) {K : Fence} {m : Nat} (hK : WideF K) :
    CallsIn K m P F.f rargs w fun e w' => ∃ G', Step H G w H' G' w' ∧ RelEnd G' w' r e := by
  unfold Fact.tryR at ht
  obtain ⟨t, k, r0, g⟩ := H
  simp only at ht
  split at ht
  rotate_left
  · cases ht
  rename_i ρ _
  simp only [cond_eq_ite] at ht
  split at ht
  · rename_i hfit
    have hfit := fits_of hfit
    simp only [Option.bind_eq_some_iff, Option.map_eq_some_iff, Prod.mk.injEq] at ht
    obtain ⟨v', hv', l, hl, rfl, rfl⟩ := ht
    unfold Fact.ok2 at h
    split at h
    · rename_i v H1 hrun
      simp only [Bool.and_eq_true, Nat.beq_eq, Nat.ble_eq] at h
      obtain ⟨⟨⟨⟨⟨c1, c2⟩, c3⟩, c5⟩, c6⟩, c4⟩ := h
      have hv := eqVB_eq c1
      subst hv
      have hsF := sim_fact hs hfit c5 c6
      have hm0 : ∀ nm k', assoc ρ nm = some k' → ∀ g', G k' g' = ghost0 G ρ nm g' := by
        intro nm k' hk g'
        simp only [ghost0, hk]
      have hargs : RelL (ghost0 G ρ) w F.args rargs.toList := (RelL.ren hm0 hfit.args).2 hr
      have hinv : (invoke (.fn (.func F.f) #[]) rargs).run P w = .ok (.enter F.f rargs) w := by
        have h0 : (invoke (.fn (.func F.f) #[]) rargs).run P w = (callFunc F.f (rargs ++ #[])).run P w := rfl
        rw [h0, Array.append_empty, run_callFunc_body hf hname hb]
      have hmain : CallsIn K m P F.f rargs w fun e w' => ∃ G', Step F.heap (ghost0 G ρ) w H1 G' w' ∧ RelEnd G' w' (.ret F.ret) e := by
        rcases hc (.func F.f) F.args F.heap _ H1 hrun (ghost0 G ρ) w (.fn (.func F.f) #[]) rargs hsF ⟨#[], rfl, by simpa using hargs⟩ with ⟨x, w', G', v, h1, _⟩ | ⟨f', rargs', h1, h2⟩ | ⟨l, f', t', a', b', h1, _⟩
        · rw [hinv] at h1; cases h1
        · rw [hinv] at h1; cases h1; exact h2 K m hK
        · rw [hinv] at h1; cases h1
      refine hmain.mono fun e w' ⟨G1, st, se⟩ => ?_
      obtain ⟨st', hm1⟩ := Fact.stepR hs hfit c3 st c2 c4 hl
      obtain ⟨x, rfl, hx⟩ := se
      exact ⟨_, st', x, rfl, (Rel.ren hm1 hv').1 hx⟩
    · cases h
  · cases ht

/-- A FACT, over others, under whatever names. -/
def tryAllR : List Fact → Nat → List V → Heap → Option (CR × Heap)
  | [], _, _, _ => none
  | F :: l, f, args, H => bif Nat.beq F.f f then (match F.tryR args H with
      | some r => some r
      | none => tryAllR l f args H) else tryAllR l f args H

/-- The calls that facts answer. -/
def specR (l : List Fact) (f : Nat) : Option (List V → Heap → Option (CR × Heap)) :=
  bif l.any (fun F => Nat.beq F.f f) then some (tryAllR l f) else none

theorem tryAllR_good : ∀ {l : List Fact} (_ : ∀ F ∈ l, SpecOk P F.f F.tryR) (f : Nat), SpecOk P f (tryAllR l f)
  | [], _, f => fun args H r H' ht => by simp [tryAllR] at ht
  | F :: l, hl, f => fun args H r H' ht => by
    simp only [tryAllR, cond_eq_ite] at ht
    split at ht
    · rename_i hf
      rw [Nat.beq_eq] at hf
      subst hf
      split at ht
      · rename_i r' ht'
        cases ht
        exact hl F List.mem_cons_self args H r H' ht'
      · exact tryAllR_good (fun F' h => hl F' (List.mem_cons_of_mem _ h)) F.f args H r H' ht
    · exact tryAllR_good (fun F' h => hl F' (List.mem_cons_of_mem _ h)) f args H r H' ht

theorem factsR_ok (hm : P.follows .mixedOrders = true) (hok : progOk P = true) {l : List Fact} (hl : ∀ F ∈ l, SpecOk P F.f F.tryR) (k : Nat) : CallOk P (callFn (envOf P (specR l)) k) := by
  refine callFn_sound hm (extOk hok) (code_of hok) (fun f s hsp => ?_) k
  unfold specR at hsp
  rw [cond_eq_ite] at hsp
  split at hsp
  · cases hsp
    exact tryAllR_good hl f
  · cases hsp

theorem goodR_nil : ∀ F ∈ ([] : List Fact), SpecOk P F.f F.tryR := fun F h => by cases h

theorem goodR_cons {F : Fact} {l : List Fact} (h : SpecOk P F.f F.tryR) (hl : ∀ F ∈ l, SpecOk P F.f F.tryR) : ∀ F' ∈ F :: l, SpecOk P F'.f F'.tryR := by
  intro F' hF
  rcases List.mem_cons.1 hF with rfl | hF
  · exact h
  · exact hl F' hF

theorem goodR_fact (hm : P.follows .mixedOrders = true) (hok : progOk P = true) {l : List Fact} (hl : ∀ F ∈ l, SpecOk P F.f F.tryR) {F : Fact} (hb : hasBody (envOf P fun _ => none) F.f = true) (h : F.ok2 (envOf P (specR l)) n = true) : SpecOk P F.f F.tryR := by
  intro args H r H' ht G w rargs hs hr
  obtain ⟨fn, c, h1, h2, h3⟩ := funcs_body hb
  exact ⟨fn, c, h1, h2, h3, fun K m hK => Fact.soundR (factsR_ok hm hok hl n) h1 h2 h3 h ht hs hr hK⟩

/-- A law without arguments that answers true, over facts. -/
def runsTrueR (P : Program) (l : List Fact) (n f : Nat) (H : Heap) : Bool :=
  match callFn (envOf P (specR l)) n (.func f) [] H with
  | some (.ret (.bool b), _) => b
  | _ => false

theorem runsTrueR_calls (hm : P.follows .mixedOrders = true) (hok : progOk P = true) {l : List Fact} (hl : ∀ F ∈ l, SpecOk P F.f F.tryR) {f : FuncId} {fn : Func} {c : Code} (hf : P.funcs[f]? = some fn) (hname : (fn.name == "runtime.NumGoroutine") = false) (hb : fn.body = some c) {k : Nat} {H : Heap} {G : Ghost} {W : World}
    (hs : Sim H G W) (h : runsTrueR P l k f H = true) : Calls P f #[] W fun e w' => e = .returned (.bool true) ∧ ∃ G', Ext H.ro G W G' w' := by
  unfold runsTrueR at h
  split at h
  · rename_i b H' hrun
    subst h
    refine ((factsR_ok hm hok hl k).calls hf hname hb hrun hs (rargs := #[]) RelL.nil).mono fun e w' ⟨G', st, se⟩ => ?_
    obtain ⟨v, rfl, hv⟩ := se
    simp only [Rel] at hv
    subst hv
    exact ⟨rfl, G', st.ext⟩
  · cases h

/-! ### A call that is asked for whatever else there is in memory -/
/-- A fact of a call that looks at listed variables alone: what it leaves behind is forgotten. -/
def Fact.tryC (F : Fact) (args : List V) (H : Heap) : Option (CR × Heap) :=
  bif F.fits (F.pre.map fun x => (x.1, x.1)) args H && Nat.beq F.ro F.next && eqVB F.ret ((renV (fun _ => none) F.ret).getD (.tuple [.nilp])) then some (.ret F.ret, H) else none

theorem Fact.stepC {F : Fact} {ρ : List (Nat × Nat)} {args : List V} {H H1 : Heap} {G G1 : Ghost} {w w' : World} (hs : Sim H G w) (hf : Fits F ρ args H) (hro : F.ro = F.next) (st : Step F.heap (ghost0 G ρ) w H1 G1 w') : Step H G w H G w' := by
  have hsame : ∀ k g b sh n, G k g = some (b, sh, n) → w'.heap[b]? = w.heap[b]? := by
    intro k g b sh n hg
    cases hq : inv ρ k with
    | some nm =>
      have hmem := inv_mem hq
      refine st.ext.ro nm g b sh n (show nm < F.ro by rw [hro]; exact (hf.lt _ _ hmem).1) ?_
      simp only [ghost0, assoc_of_mem hf.one hmem]
      exact hg
    | none =>
      refine (st.ext.frg b (hs.lt _ _ _ _ _ hg).1 ?_).1
      intro nm' g' sh' n' h0
      obtain ⟨k', q1, q2⟩ := ghost0_some h0
      obtain ⟨q3, _⟩ := hs.inj _ _ _ _ _ _ _ _ _ hg q2
      subst q3
      exact inv_none hq _ q1
  have hext : Ext H.ro G w G w' := by
    refine ⟨fun _ _ _ h => h, fun b hb hfb => ⟨(st.ext.frg b hb ?_).1, hfb⟩, st.ext.size, st.ext.shp, fun k g b sh m _ hg => hsame k g b sh m hg, st.ext.out⟩
    intro nm g sh m h0
    obtain ⟨k, _, q2⟩ := ghost0_some h0
    exact hfb k g sh m q2
  exact ⟨hext, ⟨fun k g b sh m hg => ⟨Nat.lt_of_lt_of_le (hs.lt _ _ _ _ _ hg).1 st.ext.size, (hs.lt _ _ _ _ _ hg).2⟩, hs.inj, fun k o hk ho => (hs.obj k o hk ho).ext hext (fun _ _ h => h) (fun g b sh m hg => hsame k g b sh m hg), hs.ro, hs.glob, hs.globs⟩,
    Nat.le_refl _, rfl, rfl, fun _ _ => rfl, fun _ _ _ h _ => h, fun k _ h => ⟨h, fun g b sh m hg => hsame k g b sh m hg, fun _ _ h => h⟩⟩

theorem Fact.soundC {F : Fact} (hc : CallOk P (callFn (envOf P sp) n)) {fn : Func} {c : Code} (hf : P.funcs[F.f]? = some fn) (hname : (fn.name == "runtime.NumGoroutine") = false) (hb : fn.body = some c) (h : F.ok2 (envOf P sp) n = true)
    {args : List V} {H H' : Heap} {r : CR} (ht : F.tryC args H = some (r, H')) {G : Ghost} {w : World} {rargs : Array Value} (hs : Sim H G w) (hr : RelL G w args rargs.toList) {K : Fence} {m : Nat} (hK : WideF K) :
    CallsIn K m P F.f rargs w fun e w' => ∃ G', Step H G w H' G' w' ∧ RelEnd G' w' r e := by
  unfold Fact.tryC at ht
  simp only [cond_eq_ite, Bool.and_eq_true, Nat.beq_eq] at ht
  split at ht
  · rename_i hb0
    obtain ⟨⟨hfit, hro⟩, hret⟩ := hb0
    cases ht
    have hfit := fits_of hfit
    generalize (F.pre.map fun x => (x.1, x.1)) = ρ at hfit
    unfold Fact.ok2 at h
    split at h
    · rename_i v H1 hrun
      simp only [Bool.and_eq_true, Nat.beq_eq, Nat.ble_eq] at h
      obtain ⟨⟨⟨⟨⟨c1, c2⟩, c3⟩, c5⟩, c6⟩, c4⟩ := h
      have hv := eqVB_eq c1
      subst hv
      have hsF := sim_fact hs hfit c5 c6
      have hm0 : ∀ nm k', assoc ρ nm = some k' → ∀ g', G k' g' = ghost0 G ρ nm g' := by
        intro nm k' hk g'
        simp only [ghost0, hk]
      have hargs : RelL (ghost0 G ρ) w F.args rargs.toList := (RelL.ren hm0 hfit.args).2 hr
      have hinv : (invoke (.fn (.func F.f) #[]) rargs).run P w = .ok (.enter F.f rargs) w := by
        have h0 : (invoke (.fn (.func F.f) #[]) rargs).run P w = (callFunc F.f (rargs ++ #[])).run P w := rfl
        rw [h0, Array.append_empty, run_callFunc_body hf hname hb]
      have hmain : CallsIn K m P F.f rargs w fun e w' => ∃ G', Step F.heap (ghost0 G ρ) w H1 G' w' ∧ RelEnd G' w' (.ret F.ret) e := by
        rcases hc (.func F.f) F.args F.heap _ H1 hrun (ghost0 G ρ) w (.fn (.func F.f) #[]) rargs hsF ⟨#[], rfl, by simpa using hargs⟩ with ⟨x, w', G', v, h1, _⟩ | ⟨f', rargs', h1, h2⟩ | ⟨l, f', t', a', b', h1, _⟩
        · rw [hinv] at h1; cases h1
        · rw [hinv] at h1; cases h1; exact h2 K m hK
        · rw [hinv] at h1; cases h1
      refine hmain.mono fun e w' ⟨G1, st, se⟩ => ?_
      obtain ⟨x, rfl, hx⟩ := se
      refine ⟨G, Fact.stepC hs hfit hro st, x, rfl, ?_⟩
      cases hq : renV (fun _ => none) F.ret with
      | none =>
        rw [hq] at hret
        have he := eqVB_eq hret
        simp only [Option.getD_none] at he
        rw [he] at hx ⊢
        simp only [Rel, RelL] at hx ⊢
        exact hx
      | some u =>
        rw [hq] at hret
        have he := eqVB_eq hret
        simp only [Option.getD_some] at he
        rw [← he] at hq
        exact (Rel.ren (m := fun _ => none) (G2 := G) (fun _ _ h => by cases h) hq).1 hx
    · cases h
  · cases ht

theorem goodC_fact (hm : P.follows .mixedOrders = true) (hok : progOk P = true) {l : List Fact} (hl : ∀ F ∈ l, SpecOk P F.f F.tryR) {F : Fact} (hb : hasBody (envOf P fun _ => none) F.f = true) (h : F.ok2 (envOf P (specR l)) n = true) : SpecOk P F.f F.tryC := by
  intro args H r H' ht G w rargs hs hr
  obtain ⟨fn, c, h1, h2, h3⟩ := funcs_body hb
  exact ⟨fn, c, h1, h2, h3, fun K m hK => Fact.soundC (factsR_ok hm hok hl n) h1 h2 h3 h ht hs hr hK⟩

end
end Go.E2
