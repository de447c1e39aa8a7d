/- E2's memory and values against the model's: the relation, and what keeps it. -/
import Derived.Test.YtjbefleabibmmaaGreatDoorE2a
import Derived.RangeFuncIn
import Derived.OrdersIn
import Derived.WalkKit
namespace Go.E2
open Go

/-! ### Tables -/
theorem Tree.get_nil {α : Type} (m : Nat) : (Tree.nil : Tree α).get m = none := rfl
theorem Tree.get_node {α : Type} (v : Option α) (l r : Tree α) (m : Nat) :
    (Tree.node v l r).get m = if m = 0 then v else if m % 2 = 1 then l.get (m / 2) else r.get (m / 2 - 1) := by
  simp only [Tree.get, cond_eq_ite, Nat.beq_eq]

theorem Tree.setF_succ {α : Type} (a : α) (f : Nat) (t : Tree α) (n : Nat) :
    ∃ v l r, (∀ m, t.get m = (Tree.node v l r).get m) ∧ Tree.setF a (f + 1) t n = (if n = 0 then .node (some a) l r
      else if n % 2 = 1 then .node v (Tree.setF a f l (n / 2)) r else .node v l (Tree.setF a f r (n / 2 - 1))) := by
  cases t with
  | nil => exact ⟨none, .nil, .nil, fun m => by rw [Tree.get_node]; simp [Tree.get], by simp only [Tree.setF, cond_eq_ite, Nat.beq_eq]⟩
  | node v l r => exact ⟨v, l, r, fun _ => rfl, by simp only [Tree.setF, cond_eq_ite, Nat.beq_eq]⟩

theorem Tree.get_setF {α : Type} (a : α) : ∀ (f : Nat) (t : Tree α) (n m : Nat), n < f →
    (Tree.setF a f t n).get m = if m = n then some a else t.get m := by
  intro f
  induction f with
  | zero => intro t n m h; omega
  | succ f ih =>
    intro t n m h
    obtain ⟨v, l, r, hg, e⟩ := Tree.setF_succ a f t n
    rw [e, hg m]
    by_cases h0 : n = 0
    · subst h0
      simp only [if_true, Tree.get_node]
      by_cases hm : m = 0 <;> simp [hm]
    · simp only [h0, if_false]
      by_cases h1 : n % 2 = 1
      · simp only [h1, if_true, Tree.get_node]
        rw [ih l (n / 2) (m / 2) (by omega)]
        by_cases hm0 : m = 0
        · subst hm0; simp; intro h; omega
        · simp only [hm0, if_false]
          by_cases hm1 : m % 2 = 1
          · simp only [hm1, if_true]
            by_cases he : m = n
            · subst he; simp
            · have : ¬ m / 2 = n / 2 := by omega
              simp [he, this]
          · have : ¬ m = n := by omega
            simp [hm1, this]
      · simp only [h1, if_false, Tree.get_node]
        rw [ih r (n / 2 - 1) (m / 2 - 1) (by omega)]
        by_cases hm0 : m = 0
        · subst hm0; simp; intro h; omega
        · simp only [hm0, if_false]
          by_cases hm1 : m % 2 = 1
          · have : ¬ m = n := by omega
            simp [hm1, this]
          · simp only [hm1, if_false]
            by_cases he : m = n
            · subst he; simp
            · have : ¬ m / 2 - 1 = n / 2 - 1 := by omega
              simp [he, this]

theorem Tree.get_set {α : Type} (t : Tree α) (n : Nat) (a : α) (m : Nat) : (t.set n a).get m = if m = n then some a else t.get m :=
  Tree.get_setF a (n + 1) t n m (by omega)

theorem Tree.get_ofList_aux {α : Type} : ∀ (l : List α) (t : Tree α) (k : Nat) (m : Nat),
    ((l.foldl (fun (s : Tree α × Nat) a => (s.1.set s.2 a, s.2 + 1)) (t, k)).1).get m = if k ≤ m ∧ m < k + l.length then l[m - k]? else t.get m := by
  intro l
  induction l with
  | nil => intro t k m; simp; intro h1 h2; omega
  | cons a l ih =>
    intro t k m
    simp only [List.foldl_cons, List.length_cons]
    rw [ih]
    by_cases h1 : k + 1 ≤ m ∧ m < k + 1 + l.length
    · have h2 : k ≤ m ∧ m < k + (l.length + 1) := by omega
      rw [if_pos h1, if_pos h2]
      have : m - k = (m - (k + 1)) + 1 := by omega
      rw [this, List.getElem?_cons_succ]
    · rw [if_neg h1, Tree.get_set]
      by_cases h3 : m = k
      · subst h3; simp
      · have h2 : ¬ (k ≤ m ∧ m < k + (l.length + 1)) := by omega
        rw [if_neg h2, if_neg h3]

theorem Tree.get_ofList {α : Type} (l : List α) (m : Nat) : (Tree.ofList l).get m = l[m]? := by
  unfold Tree.ofList
  rw [Tree.get_ofList_aux]
  by_cases h : m < l.length
  · simp [h]
  · simp only [Nat.zero_le, true_and, Nat.zero_add, h, if_false, Tree.get]
    exact (List.getElem?_eq_none (by omega)).symm

/-! ### The relation -/
/-- Which block of the model's memory bears a name at one of its states of growth: the block, from which cell of the name on, up to which. -/
abbrev Ghost := Nat → Nat → Option (Nat × Nat × Nat)

def foreign (G : Ghost) (b : Nat) : Prop := ∀ nm g sh n, G nm g ≠ some (b, sh, n)

def RelFn (G : Ghost) (f f' : Fn) : Prop :=
  match f with
  | .yield l => ∃ b sh n, G l 0 = some (b, sh, n) ∧ f' = .yield b
  | f => f' = f

mutual
def Rel (G : Ghost) (w : World) : V → Value → Prop
  | .int k n, v => v = .int k n
  | .bool b, v => v = .bool b
  | .str s, v => v = .string ⟨s.toArray⟩
  | .ptr nm g off lim, v => ∃ b sh n, G nm g = some (b, sh, n) ∧ sh ≤ off ∧ lim ≤ n ∧ v = .pointer (some ⟨b, off - sh, none⟩)
  | .nilp, v => v = .pointer none
  | .slice nm g off len sz cap, v => ∃ b sh n ro c e m, G nm g = some (b, sh, n) ∧ v = .slice (some ⟨b, ro, none⟩) len c ∧ len ≤ c ∧ sh ≤ off ∧
      off + len * sz ≤ n ∧ (ro + sh = off ∨ c = 0) ∧ (∀ k, cap = some k → c = k ∧ off + k * sz ≤ n) ∧ w.shape? b = some (e, m) ∧ ro + c * sz ≤ m
  | .nils, v => v = .slice none 0 0
  | .func fn first captured, v => ∃ fn' a c, v = .func fn' a c ∧ RelFn G fn fn' ∧ RelL G w first a.toList ∧ RelL G w captured c.toList
  | .nilf, v => v = .nilFunc
  | .iface t x, v => ∃ y, v = .iface t y ∧ Rel G w x y
  | .nili, v => v = .nilIface
  | .agg cs, v => ∃ a, v = .agg a ∧ RelL G w cs a.toList
  | .tuple vs, v => ∃ a, v = .tuple a ∧ RelL G w vs a.toList
  | .map nm, v => ∃ b sh n, G nm 0 = some (b, sh, n) ∧ v = .map (some b)
  | .nilm, v => v = .map none
def RelL (G : Ghost) (w : World) : List V → List Value → Prop
  | [], l => l = []
  | v :: vs, l => ∃ x xs, l = x :: xs ∧ Rel G w v x ∧ RelL G w vs xs
end

theorem RelL.length {G : Ghost} {w : World} : ∀ {vs : List V} {l : List Value}, RelL G w vs l → vs.length = l.length
  | [], _, h => by simp [RelL] at h; simp [h]
  | v :: vs, _, h => by
    simp only [RelL] at h
    obtain ⟨x, xs, rfl, _, h2⟩ := h
    simp [RelL.length h2]

theorem RelL.cons {G : Ghost} {w : World} {v : V} {vs : List V} {x : Value} {xs : List Value} (h1 : Rel G w v x) (h2 : RelL G w vs xs) : RelL G w (v :: vs) (x :: xs) := by
  simp only [RelL]; exact ⟨x, xs, rfl, h1, h2⟩

theorem RelL.nil {G : Ghost} {w : World} : RelL G w [] [] := by simp [RelL]

theorem RelL.cons_iff {G : Ghost} {w : World} {v : V} {vs : List V} {x : Value} {xs : List Value} : RelL G w (v :: vs) (x :: xs) ↔ Rel G w v x ∧ RelL G w vs xs := by
  simp only [RelL]
  constructor
  · rintro ⟨y, ys, h, h1, h2⟩
    cases h
    exact ⟨h1, h2⟩
  · rintro ⟨h1, h2⟩
    exact ⟨x, xs, rfl, h1, h2⟩

theorem RelL.append {G : Ghost} {w : World} : ∀ {vs : List V} {l : List Value} {vs' : List V} {l' : List Value}, RelL G w vs l → RelL G w vs' l' → RelL G w (vs ++ vs') (l ++ l')
  | [], _, _, _, h, h' => by simp [RelL] at h; simpa [h] using h'
  | v :: vs, _, _, _, h, h' => by
    simp only [RelL] at h
    obtain ⟨x, xs, rfl, h1, h2⟩ := h
    exact RelL.cons h1 (RelL.append h2 h')

theorem RelL.take {G : Ghost} {w : World} : ∀ {vs : List V} {l : List Value} (n : Nat), RelL G w vs l → RelL G w (vs.take n) (l.take n)
  | [], _, n, h => by simp [RelL] at h; simp [h, RelL]
  | v :: vs, _, 0, h => by simp [RelL]
  | v :: vs, _, n + 1, h => by
    simp only [RelL] at h
    obtain ⟨x, xs, rfl, h1, h2⟩ := h
    exact RelL.cons h1 (RelL.take n h2)

theorem RelL.drop {G : Ghost} {w : World} : ∀ {vs : List V} {l : List Value} (n : Nat), RelL G w vs l → RelL G w (vs.drop n) (l.drop n)
  | [], _, n, h => by simp [RelL] at h; simp [h, RelL]
  | v :: vs, _, 0, h => by simpa using h
  | v :: vs, _, n + 1, h => by
    simp only [RelL] at h
    obtain ⟨x, xs, rfl, h1, h2⟩ := h
    simpa using RelL.drop n h2

theorem RelL.get {G : Ghost} {w : World} : ∀ {vs : List V} {l : List Value} {i : Nat} {v : V}, RelL G w vs l → vs[i]? = some v → ∃ x, l[i]? = some x ∧ Rel G w v x
  | [], _, _, _, _, h => by simp at h
  | u :: vs, _, 0, _, h, hi => by
    simp only [RelL] at h
    obtain ⟨x, xs, rfl, h1, h2⟩ := h
    simp at hi; subst hi
    exact ⟨x, rfl, h1⟩
  | u :: vs, _, i + 1, _, h, hi => by
    simp only [RelL] at h
    obtain ⟨x, xs, rfl, h1, h2⟩ := h
    have hh := RelL.get (i := i) h2 (by simpa using hi)
    simpa using hh

/-- What a stretch of the model's run does to what is related. -/
structure Ext (r : Nat) (G : Ghost) (w : World) (G' : Ghost) (w' : World) : Prop where
  sub : ∀ nm g x, G nm g = some x → G' nm g = some x
  frg : ∀ b, b < w.heap.size → foreign G b → w'.heap[b]? = w.heap[b]? ∧ foreign G' b
  size : w.heap.size ≤ w'.heap.size
  shp : ∀ b x, w.shape? b = some x → w'.shape? b = some x
  ro : ∀ nm g b sh n, nm < r → G nm g = some (b, sh, n) → w'.heap[b]? = w.heap[b]?
  out : w'.os = w.os ∧ w'.output = w.output

theorem Ext.refl (r : Nat) (G : Ghost) (w : World) : Ext r G w G w :=
  ⟨fun _ _ _ h => h, fun _ _ h => ⟨rfl, h⟩, Nat.le_refl _, fun _ _ h => h, fun _ _ _ _ _ _ _ => rfl, rfl, rfl⟩

theorem Ext.trans {r : Nat} {G G' G'' : Ghost} {w w' w'' : World} (h : Ext r G w G' w') (h' : Ext r G' w' G'' w'') : Ext r G w G'' w'' :=
  ⟨fun nm g x e => h'.sub nm g x (h.sub nm g x e),
   fun b hb hf => by
    have h1 := h.frg b hb hf
    have h2 := h'.frg b (Nat.lt_of_lt_of_le hb h.size) h1.2
    exact ⟨h2.1.trans h1.1, h2.2⟩,
   Nat.le_trans h.size h'.size, fun b x e => h'.shp b x (h.shp b x e),
   fun nm g b sh n hr e => (h'.ro nm g b sh n hr (h.sub _ _ _ e)).trans (h.ro nm g b sh n hr e), h'.out.1.trans h.out.1, h'.out.2.trans h.out.2⟩

theorem Ext.mono {r r' : Nat} {G G' : Ghost} {w w' : World} (h : Ext r G w G' w') (hr : r' ≤ r) : Ext r' G w G' w' :=
  ⟨h.sub, h.frg, h.size, h.shp, fun nm g b sh n h1 e => h.ro nm g b sh n (Nat.lt_of_lt_of_le h1 hr) e, h.out⟩

/-- What is enough for a value to stay related. -/
structure Up (G : Ghost) (w : World) (G' : Ghost) (w' : World) : Prop where
  sub : ∀ nm g x, G nm g = some x → G' nm g = some x
  shp : ∀ b x, w.shape? b = some x → w'.shape? b = some x

theorem Ext.up {r : Nat} {G G' : Ghost} {w w' : World} (h : Ext r G w G' w') : Up G w G' w' := ⟨h.sub, h.shp⟩

theorem RelFn.ext {G G' : Ghost} (hs : ∀ nm g x, G nm g = some x → G' nm g = some x) {f f' : Fn} (h : RelFn G f f') : RelFn G' f f' := by
  unfold RelFn at *
  cases f with
  | yield l => obtain ⟨b, sh, n, e, r⟩ := h; exact ⟨b, sh, n, hs _ _ _ e, r⟩
  | _ => exact h

theorem lt_of_heap {w : World} {b : Nat} {o : Obj} (h : w.heap[b]? = some o) : b < w.heap.size := by
  rw [Array.getElem?_eq_some_iff] at h
  exact h.1

mutual
theorem Rel.up {G G' : Ghost} {w w' : World} (h : Up G w G' w') : ∀ {v : V} {x : Value}, Rel G w v x → Rel G' w' v x
  | .int _ _, _, e | .bool _, _, e | .str _, _, e | .nilp, _, e | .nils, _, e | .nilf, _, e | .nili, _, e | .nilm, _, e => by simpa [Rel] using e
  | .ptr nm g off lim, _, e => by
    simp only [Rel] at e ⊢
    obtain ⟨b, sh, n, e1, e2⟩ := e
    exact ⟨b, sh, n, h.sub _ _ _ e1, e2⟩
  | .slice nm g off len sz cap, _, e => by
    simp only [Rel] at e ⊢
    obtain ⟨b, sh, n, ro, c, el, m, e1, e2, e3, e4, e5, e6, e7, e8, e9⟩ := e
    exact ⟨b, sh, n, ro, c, el, m, h.sub _ _ _ e1, e2, e3, e4, e5, e6, e7, h.shp _ _ e8, e9⟩
  | .func fn first captured, _, e => by
    simp only [Rel] at e ⊢
    obtain ⟨fn', a, c, e1, e2, e3, e4⟩ := e
    exact ⟨fn', a, c, e1, e2.ext h.sub, RelL.up h e3, RelL.up h e4⟩
  | .iface t x, _, e => by
    simp only [Rel] at e ⊢
    obtain ⟨y, e1, e2⟩ := e
    exact ⟨y, e1, Rel.up h e2⟩
  | .agg cs, _, e => by
    simp only [Rel] at e ⊢
    obtain ⟨a, e1, e2⟩ := e
    exact ⟨a, e1, RelL.up h e2⟩
  | .tuple cs, _, e => by
    simp only [Rel] at e ⊢
    obtain ⟨a, e1, e2⟩ := e
    exact ⟨a, e1, RelL.up h e2⟩
  | .map nm, _, e => by
    simp only [Rel] at e ⊢
    obtain ⟨b, sh, n, e1, e2⟩ := e
    exact ⟨b, sh, n, h.sub _ _ _ e1, e2⟩
theorem RelL.up {G G' : Ghost} {w w' : World} (h : Up G w G' w') : ∀ {vs : List V} {l : List Value}, RelL G w vs l → RelL G' w' vs l
  | [], _, e => by simpa [RelL] using e
  | v :: vs, _, e => by
    simp only [RelL] at e ⊢
    obtain ⟨x, xs, e1, e2, e3⟩ := e
    exact ⟨x, xs, e1, Rel.up h e2, RelL.up h e3⟩
end

theorem Rel.ext {r : Nat} {G G' : Ghost} {w w' : World} (h : Ext r G w G' w') {v : V} {x : Value} (e : Rel G w v x) : Rel G' w' v x := Rel.up h.up e
theorem RelL.ext {r : Nat} {G G' : Ghost} {w w' : World} (h : Ext r G w G' w') {vs : List V} {l : List Value} (e : RelL G w vs l) : RelL G' w' vs l := RelL.up h.up e

/-- Cells, of some of which nothing is known. -/
def RelC (G : Ghost) (w : World) : List V → List Value → Prop
  | [], l => l = []
  | v :: vs, l => ∃ x xs, l = x :: xs ∧ (isHole v = true ∨ Rel G w v x) ∧ RelC G w vs xs

theorem RelL.c {G : Ghost} {w : World} : ∀ {vs : List V} {l : List Value}, RelL G w vs l → RelC G w vs l
  | [], _, h => by simp [RelL] at h; simp [RelC, h]
  | v :: vs, _, h => by
    simp only [RelL] at h
    obtain ⟨x, xs, rfl, h1, h2⟩ := h
    simp only [RelC]
    exact ⟨x, xs, rfl, .inr h1, h2.c⟩

theorem RelC.l {G : Ghost} {w : World} : ∀ {vs : List V} {l : List Value}, RelC G w vs l → vs.any isHole = false → RelL G w vs l
  | [], _, h, _ => by simp [RelC] at h; simp [RelL, h]
  | v :: vs, _, h, hn => by
    simp only [RelC] at h
    obtain ⟨x, xs, rfl, h1, h2⟩ := h
    simp only [List.any_cons, Bool.or_eq_false_iff] at hn
    simp only [RelL]
    refine ⟨x, xs, rfl, h1.resolve_left (by rw [hn.1]; exact Bool.false_ne_true), h2.l hn.2⟩

theorem RelC.length {G : Ghost} {w : World} : ∀ {vs : List V} {l : List Value}, RelC G w vs l → vs.length = l.length
  | [], _, h => by simp [RelC] at h; simp [h]
  | v :: vs, _, h => by
    simp only [RelC] at h
    obtain ⟨x, xs, rfl, _, h2⟩ := h
    simp [RelC.length h2]

theorem RelC.append {G : Ghost} {w : World} : ∀ {vs : List V} {l : List Value} {vs' : List V} {l' : List Value}, RelC G w vs l → RelC G w vs' l' → RelC G w (vs ++ vs') (l ++ l')
  | [], _, _, _, h, h' => by simp [RelC] at h; simpa [h] using h'
  | v :: vs, _, _, _, h, h' => by
    simp only [RelC] at h
    obtain ⟨x, xs, rfl, h1, h2⟩ := h
    simp only [List.cons_append, RelC]
    exact ⟨x, _, rfl, h1, RelC.append h2 h'⟩

theorem RelC.take {G : Ghost} {w : World} : ∀ {vs : List V} {l : List Value} (n : Nat), RelC G w vs l → RelC G w (vs.take n) (l.take n)
  | [], _, n, h => by simp [RelC] at h; simp [h, RelC]
  | v :: vs, _, 0, h => by simp [RelC]
  | v :: vs, _, n + 1, h => by
    simp only [RelC] at h
    obtain ⟨x, xs, rfl, h1, h2⟩ := h
    simp only [List.take_succ_cons, RelC]
    exact ⟨x, _, rfl, h1, RelC.take n h2⟩

theorem RelC.drop {G : Ghost} {w : World} : ∀ {vs : List V} {l : List Value} (n : Nat), RelC G w vs l → RelC G w (vs.drop n) (l.drop n)
  | [], _, n, h => by simp [RelC] at h; simp [h, RelC]
  | v :: vs, _, 0, h => by simpa using h
  | v :: vs, _, n + 1, h => by
    simp only [RelC] at h
    obtain ⟨x, xs, rfl, h1, h2⟩ := h
    simpa using RelC.drop n h2

theorem RelC.up {G G' : Ghost} {w w' : World} (h : Up G w G' w') : ∀ {vs : List V} {l : List Value}, RelC G w vs l → RelC G' w' vs l
  | [], _, e => by simpa [RelC] using e
  | v :: vs, _, e => by
    simp only [RelC] at e ⊢
    obtain ⟨x, xs, e1, e2, e3⟩ := e
    exact ⟨x, xs, e1, e2.imp id (Rel.up h), RelC.up h e3⟩

theorem RelC.ext {r : Nat} {G G' : Ghost} {w w' : World} (h : Ext r G w G' w') {vs : List V} {l : List Value} (e : RelC G w vs l) : RelC G' w' vs l := RelC.up h.up e

theorem noHoles_some {cs ds : List V} (h : noHoles cs = some ds) : ds = cs ∧ cs.any isHole = false := by
  unfold noHoles at h
  cases hc : cs.any isHole with
  | true => rw [hc] at h; cases h
  | false => rw [hc] at h; cases h; exact ⟨rfl, rfl⟩

theorem isHole_iff {v : V} : isHole v = true ↔ ∃ n, v = .tuple [.map n] := by
  unfold isHole
  split
  · exact ⟨fun _ => ⟨_, rfl⟩, fun _ => rfl⟩
  · rename_i h
    exact ⟨fun h => (by cases h), fun ⟨n, hn⟩ => absurd hn (h n)⟩

theorem noHoles_all {cs : List V} (h : ∀ v ∈ cs, isHole v = false) : noHoles cs = some cs := by
  unfold noHoles
  have : cs.any isHole = false := by
    rw [← Bool.not_eq_true, List.any_eq_true]
    rintro ⟨v, hv, h1⟩
    rw [h v hv] at h1
    cases h1
  rw [this]
  rfl

theorem noHoles_sub {cs : List V} (h : cs.any isHole = false) (a b : Nat) : noHoles ((cs.drop a).take b) = some ((cs.drop a).take b) := by
  refine noHoles_all fun v hv => ?_
  rw [← Bool.not_eq_true]
  intro h1
  have := List.any_eq_true.2 ⟨v, List.mem_of_mem_drop (List.mem_of_mem_take hv), h1⟩
  rw [h] at this
  cases this

/-! ### Places taken out, places put in -/
theorem Tree.get_del {α : Type} : ∀ (t : Tree α) (n m : Nat), (t.del n).get m = if m = n then none else t.get m
  | .nil, n, m => by simp [Tree.del, Tree.get]
  | .node v l r, n, m => by
    simp only [Tree.del, cond_eq_ite, Nat.beq_eq]
    by_cases hn : n = 0
    · subst hn
      simp only [if_true, Tree.get, cond_eq_ite, Nat.beq_eq]
      by_cases hm : m = 0 <;> simp [hm]
    · rw [if_neg hn]
      by_cases hp : n % 2 = 1
      · rw [if_pos hp]
        simp only [Tree.get, cond_eq_ite, Nat.beq_eq, Tree.get_del l]
        by_cases hm : m = 0
        · simp [hm, Ne.symm hn]
        · by_cases hq : m % 2 = 1
          · simp only [hm, if_false, hq, if_true]
            by_cases he : m = n
            · subst he; simp
            · have : ¬ m / 2 = n / 2 := by omega
              simp [he, this]
          · have he : m ≠ n := by intro he; subst he; exact hq hp
            simp [hm, hq, he]
      · rw [if_neg hp]
        simp only [Tree.get, cond_eq_ite, Nat.beq_eq, Tree.get_del r]
        by_cases hm : m = 0
        · simp [hm, Ne.symm hn]
        · by_cases hq : m % 2 = 1
          · have he : m ≠ n := by intro he; subst he; exact hp hq
            simp [hm, hq, he]
          · simp only [hm, if_false, hq]
            by_cases he : m = n
            · subst he; simp
            · have : ¬ m / 2 - 1 = n / 2 - 1 := by omega
              simp [he, this]

theorem get_copyT {α : Type} (src : Tree α) : ∀ (l : List Nat) (t : Tree α) (m : Nat), (copyT src l t).get m = if m ∈ l then src.get m else t.get m
  | [], t, m => by simp [copyT]
  | n :: l, t, m => by
    simp only [copyT]
    rw [get_copyT src l]
    by_cases h : m ∈ l
    · simp [h]
    · simp only [h, if_false, List.mem_cons, or_false]
      by_cases he : m = n
      · subst he
        cases hs : src.get m with
        | none => simp [Tree.get_del]
        | some a => simp [Tree.get_set]
      · rw [if_neg he]
        cases hs : src.get n with
        | none => simp [Tree.get_del, he]
        | some a => simp [Tree.get_set, he]

end Go.E2
