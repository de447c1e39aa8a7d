/- A VERIFIED EVALUATOR, texts E3z, E3za, E3zb, L3a in one. -/
import Derived.Test.YtlkfjinaiepocaaDoorM5
import Derived.ChangeBook
import Derived.ChangeStays
import Derived.ChangeArms
import Derived.ChangeMaps5
import Derived.OpenShut
/- E3: ARGUMENTS THAT LIE IN MEMORY: slices whose elements are numbers, conditions, texts, structs of such. -/
namespace Go.E3
open Go Go.E2
variable {K : Nat → Type}
def absW : Value → V
  | .int k n => .int k n
  | .bool b => .bool b
  | .string s => .str s.data.toList
  | _ => .tuple [.map 0]
theorem absW_rel (G : Ghost) (W : World) (x : Value) : isHole (absW x) = true ∨ Go.E2.Rel G W (absW x) x := by
  cases x with
  | int k n => right; simp [absW, Go.E2.Rel]
  | bool b => right; simp [absW, Go.E2.Rel]
  | string s => right; simp [absW, Go.E2.Rel]
  | _ => exact .inl rfl
theorem relC_map (G : Ghost) (W : World) : ∀ l : List Value, RelC G W (l.map absW) l
  | [] => by simp [RelC]
  | x :: l => by
    simp only [List.map_cons, RelC]
    exact ⟨x, l, rfl, absW_rel G W x, relC_map G W l⟩
def objW (W : World) (b : Nat) : Option (Nat × O) :=
  match W.heap[b]? with
  | some (.cells arr e fz) => some (b, .row (arr.toList.map absW) e 0 0 fz.2 false)
  | _ => none
def objsW (W : World) : List (Nat × O) := (List.range W.heap.size).filterMap (objW W)
theorem objW_some {W : World} {b : Nat} {x : Nat × O} (h : objW W b = some x) : ∃ arr e fz, W.heap[b]? = some (.cells arr e fz) ∧ x = (b, .row (arr.toList.map absW) e 0 0 fz.2 false) := by
  unfold objW at h
  split at h
  · rename_i arr e fz hb
    exact ⟨arr, e, fz, hb, (Option.some.inj h).symm⟩
  · cases h
theorem objsW_mem {W : World} {b : Nat} {o : O} (h : (b, o) ∈ objsW W) : ∃ arr e fz, W.heap[b]? = some (.cells arr e fz) ∧ o = .row (arr.toList.map absW) e 0 0 fz.2 false := by
  obtain ⟨b', _, h2⟩ := List.mem_filterMap.1 h
  obtain ⟨arr, e, fz, h3, h4⟩ := objW_some h2
  cases h4
  exact ⟨arr, e, fz, h3, rfl⟩
def heapW (W : World) (ng : Nat) : Heap := { objs := treeOf (objsW W), next := W.heap.size, ro := W.heap.size, glob := ng }
theorem heapW_get {W : World} {ng b : Nat} {arr : Array Value} {e : TypeId} {fz : Nat × Nat} (h : W.heap[b]? = some (.cells arr e fz)) : (heapW W ng).get b = some (.row (arr.toList.map absW) e 0 0 fz.2 false) := by
  have hm : (b, O.row (arr.toList.map absW) e 0 0 fz.2 false) ∈ objsW W := by
    refine List.mem_filterMap.2 ⟨b, List.mem_range.2 (lt_of_heap h), ?_⟩
    unfold objW
    rw [h]
  obtain ⟨o, ho⟩ := get_treeOf_mem hm
  obtain ⟨arr', e', fz', h', rfl⟩ := objsW_mem (get_treeOf _ _ _ ho)
  rw [h] at h'
  cases h'
  exact ho
theorem heapW_some {W : World} {ng b : Nat} {o : O} (h : (heapW W ng).get b = some o) : ∃ arr e fz, W.heap[b]? = some (.cells arr e fz) ∧ o = .row (arr.toList.map absW) e 0 0 fz.2 false :=
  objsW_mem (get_treeOf _ _ _ h)
def ghostW (W : World) : Ghost := fun nm g => if g = 0 then (match W.heap[nm]? with
  | some (.cells arr _ _) => some (nm, 0, arr.size)
  | _ => none) else none
theorem ghostW_some {W : World} {nm g : Nat} {x : Nat × Nat × Nat} (h : ghostW W nm g = some x) : g = 0 ∧ ∃ arr e fz, W.heap[nm]? = some (.cells arr e fz) ∧ x = (nm, 0, arr.size) := by
  unfold ghostW at h
  split at h
  · rename_i hg
    split at h
    · rename_i arr e fz hb
      exact ⟨hg, arr, e, fz, hb, (Option.some.inj h).symm⟩
    · cases h
  · cases h
theorem ghostW_of {W : World} {b : Nat} {arr : Array Value} {e : TypeId} {fz : Nat × Nat} (h : W.heap[b]? = some (.cells arr e fz)) : ghostW W b 0 = some (b, 0, arr.size) := by
  unfold ghostW
  rw [if_pos rfl, h]
theorem simW {W : World} {ng : Nat} (hng : ng ≤ W.heap.size) : Sim (heapW W ng) (ghostW W) W := by
  refine ⟨fun nm g b sh n h => ?_, fun nm g b sh n nm' g' sh' n' h h' => ?_, fun nm o _ ho => ?_, Nat.le_refl _, hng, fun g o _ ho => ?_⟩
  · obtain ⟨_, arr, e, fz, hb, hx⟩ := ghostW_some h
    cases hx
    exact ⟨lt_of_heap hb, lt_of_heap hb⟩
  · obtain ⟨_, _, _, _, _, hx⟩ := ghostW_some h
    obtain ⟨_, _, _, _, _, hx'⟩ := ghostW_some h'
    cases hx
    cases hx'
    exact ⟨rfl, rfl⟩
  · obtain ⟨arr, e, fz, hb, rfl⟩ := heapW_some ho
    refine ⟨Nat.le_refl _, fun h => (by cases h), fun g b sh n hg => ?_⟩
    obtain ⟨rfl, arr', e', fz', hb', hx⟩ := ghostW_some hg
    rw [hb] at hb'
    cases hb'
    cases hx
    refine ⟨Nat.le_refl _, Nat.zero_le _, by simp, fun _ => by simp, fun h => (by cases h), fun _ => ⟨arr, fz, hb, by simp, ?_, fun _ i h1 h2 => by omega, fun h => (by cases h)⟩⟩
    rw [List.drop_zero, Nat.sub_zero, List.take_of_length_le (by simp), List.take_of_length_le (by simp)]
    exact relC_map _ _ _
  · obtain ⟨arr, e, fz, hb, _⟩ := heapW_some ho
    exact ⟨_, ghostW_of hb⟩
theorem extW_same {W w' : World} {G' : Ghost} (h : Ext W.heap.size (ghostW W) W G' w') : ∀ b, b < W.heap.size → w'.heap[b]? = W.heap[b]? := by
  intro b hb
  cases hc : ghostW W b 0 with
  | some x =>
    obtain ⟨_, arr, e, fz, _, rfl⟩ := ghostW_some hc
    exact h.ro b 0 b 0 _ hb hc
  | none =>
    refine (h.frg b hb fun nm g sh n hg => ?_).1
    obtain ⟨rfl, arr, e, fz, hb', hx⟩ := ghostW_some hg
    cases hx
    rw [ghostW_of hb'] at hc
    cases hc
inductive Leaf4 where
  | int (k : IntKind)
  | bool
  | str
  | list (c : Nat)
def Leaf4.flat : Leaf4 → Bool
  | .list _ => false
  | _ => true
def tileFs (P : Program) (g : TypeId → Option (List Leaf4)) : List Field → Nat → Option (List Leaf4)
  | [], _ => some []
  | f :: fs, off => (g f.type).bind fun l => bif Nat.beq f.offset off && Nat.beq l.length (P.cellsOf f.type) then (tileFs P g fs (off + l.length)).map fun r => l ++ r else none
def tileT (P : Program) (cd : TypeId → Option Nat) : Nat → TypeId → Option (List Leaf4)
  | 0, _ => none
  | d + 1, t => match P.underlying t with
    | some (.int k) => some [.int k]
    | some .bool => some [.bool]
    | some .string => some [.str]
    | some (.slice e) => (cd e).map fun c => [.list c]
    | some (.struct fs) => (tileFs P (tileT P cd d) fs.toList 0).bind fun l => bif Nat.beq l.length (P.cellsOf t) then some l else none
    | _ => none
section
variable {Hd : Type} {enc : TypeId × Value → Hd} {P : Program} {W : World} {cd : TypeId → Option Nat}
def LeafRead (enc : TypeId × Value → Hd) (P : Program) (W : World) (cd : TypeId → Option Nat) : Leaf4 → Value → Prop
  | .int k, x => ∃ n, x = .int k n ∧ (Lit.int k n).wf = true
  | .bool, x => ∃ b, x = .bool b
  | .str, x => ∃ s, x = .string s ∧ s.size ≤ maxLen
  | .list c, x => x = .slice none 0 0 ∨ ∃ e a len cap, cd e = some c ∧ x = .slice (some a) len cap ∧ len ≤ cap ∧ cap ≤ maxLen ∧
      ∀ i, i < cap → ∃ cs m r, W.cells? 0 (a.add (i * P.cellsOf e)) (P.cellsOf e) = some cs ∧ DataW.trod enc P W 0 (fun _ => true) true m e cs = some r
theorem tileFs_read {Q : Leaf4 → Value → Prop} {cs : List Value} {g : TypeId → Option (List Leaf4)} : ∀ {fs : List Field} {off : Nat} {ls : List Leaf4}, tileFs P g fs off = some ls →
    (∀ f ∈ fs, ∀ l, g f.type = some l → l.length = P.cellsOf f.type → ∀ (i : Nat) leaf x, l[i]? = some leaf → ((cs.drop f.offset).take (P.cellsOf f.type))[i]? = some x → Q leaf x) →
    ∀ (i : Nat) leaf x, ls[i]? = some leaf → cs[off + i]? = some x → Q leaf x
  | [], off, ls, h, _, i, leaf, x, hl, _ => by
    simp only [tileFs, Option.some.injEq] at h
    subst h
    simp at hl
  | f :: fs, off, ls, h, hR, i, leaf, x, hl, hx => by
    simp only [tileFs] at h
    obtain ⟨l, h1, h2⟩ := Option.bind_eq_some_iff.1 h
    rcases cond_some h2 with ⟨_, h3⟩ | ⟨h3, h4⟩
    · cases h3
    · simp only [Bool.and_eq_true, Nat.beq_eq] at h3
      obtain ⟨rfl, hlen⟩ := h3
      obtain ⟨r, h5, rfl⟩ := Option.map_eq_some_iff.1 h4
      by_cases hi : i < l.length
      · rw [List.getElem?_append_left hi] at hl
        refine hR f List.mem_cons_self l h1 hlen i leaf x hl ?_
        rw [List.getElem?_take_of_lt (by omega), List.getElem?_drop]
        exact hx
      · rw [List.getElem?_append_right (by omega)] at hl
        refine tileFs_read h5 (fun f' hf' => hR f' (List.mem_cons_of_mem _ hf')) (i - l.length) leaf x hl ?_
        rw [show f.offset + l.length + (i - l.length) = f.offset + i by omega]
        exact hx
theorem trod_tile : ∀ (d : Nat) {n : Nat} {t : TypeId} {cs : List Value} {r : DataW Hd × List MemPlace} {ls : List Leaf4}, DataW.trod enc P W 0 (fun _ => true) true n t cs = some r → tileT P cd d t = some ls →
    cs.length = ls.length ∧ ∀ (i : Nat) leaf x, ls[i]? = some leaf → cs[i]? = some x → LeafRead enc P W cd leaf x
  | 0, n, t, cs, r, ls, h, ht => by cases ht
  | d + 1, n, t, cs, r, ls, h, ht => by
    have one : ∀ {leaf : Leaf4} {x : Value}, LeafRead enc P W cd leaf x → [x].length = [leaf].length ∧ ∀ (i : Nat) l y, [leaf][i]? = some l → [x][i]? = some y → LeafRead enc P W cd l y := by
      intro leaf x hr
      refine ⟨rfl, fun i l y h1 h2 => ?_⟩
      cases i with
      | zero => simp only [List.getElem?_cons_zero, Option.some.injEq] at h1 h2; subst h1; subst h2; exact hr
      | succ i => simp at h1
    simp only [tileT] at ht
    split at ht
    · rename_i k hu
      cases ht
      obtain ⟨m, rfl, _, hw⟩ := DataW.trod_int hu h
      exact one ⟨m, rfl, hw⟩
    · rename_i hu
      cases ht
      obtain ⟨b, rfl, _⟩ := DataW.trod_bool hu h
      exact one ⟨b, rfl⟩
    · rename_i hu
      cases ht
      obtain ⟨s, rfl, _, hs⟩ := DataW.trod_string hu h
      exact one ⟨s, rfl, hs⟩
    · rename_i e hu
      obtain ⟨c, hc, rfl⟩ := Option.map_eq_some_iff.1 ht
      rcases DataW.trod_slice hu h with ⟨rfl, _⟩ | ⟨a, len, cap, elems, rest, m, _, rfl, _, _, hl, hm, hel, he1, he2, _⟩
      · exact one (.inl rfl)
      · refine one (.inr ⟨e, a, len, cap, hc, rfl, hl, hm, fun i hi => ?_⟩)
        obtain ⟨hr1, hr2⟩ := he2 rfl
        by_cases hil : i < len
        · have := he1 i hil
          rw [List.getElem?_eq_getElem (by omega)] at this
          obtain ⟨cs', h1, h2⟩ := Option.bind_eq_some_iff.1 this
          exact ⟨cs', m, _, h1, h2⟩
        · have := hr2 (i - len) (by omega)
          rw [List.getElem?_eq_getElem (by omega), show len + (i - len) = i by omega] at this
          obtain ⟨cs', h1, h2⟩ := Option.bind_eq_some_iff.1 this
          exact ⟨cs', m, _, h1, h2⟩
    · rename_i fs hu
      obtain ⟨l, h1, h2⟩ := Option.bind_eq_some_iff.1 ht
      rcases cond_some h2 with ⟨_, h3⟩ | ⟨h3, h4⟩
      · cases h3
      · cases h4
        have hlen := Nat.eq_of_beq_eq_true h3
        obtain ⟨xs, m, _, _, hl, hxs, hf⟩ := DataW.trod_struct hu h
        refine ⟨by omega, fun i leaf x hi hx => ?_⟩
        refine tileFs_read (Q := LeafRead enc P W cd) (off := 0) h1 (fun f hfm l' hg hgl j lf y hj hy => ?_) i leaf x hi (by simpa using hx)
        obtain ⟨q, hq, rfl⟩ := List.mem_iff_getElem.1 hfm
        have h5 := hf q fs.toList[q] (by simp at hq ⊢)
        rw [List.getElem?_eq_getElem (by simp at hq; omega)] at h5
        exact (trod_tile d h5 hg).2 j lf y hj hy
    · cases ht
def LeafN (good : ∀ c, K c → Prop) : Leaf4 → PV K → Prop
  | .int k, p => ∃ n, p = .int k none n ∧ k.min ≤ n ∧ n ≤ k.max
  | .bool, p => ∃ b, p = .sb 0 false b (b = true) (b = false)
  | .str, p => ∃ s : List UInt8, p = .str s ∧ s.length ≤ maxLen
  | .list c, p => ∃ l : List (K c), p = .list c l none ∧ l.length ≤ maxLen ∧ ∀ x ∈ l, good c x
def LeavesN (good : ∀ c, K c → Prop) : List Leaf4 → List (PV K) → Prop
  | [], ps => ps = []
  | l :: ls, ps => ∃ p qs, ps = p :: qs ∧ LeafN good l p ∧ LeavesN good ls qs
variable {good : ∀ c, K c → Prop}
variable {X : Codecs K} {sz : Nat → Nat} {w : Wd}
theorem leaf_flat {leaf : Leaf4} {x : Value} (hf : leaf.flat = true) (h : LeafRead enc P W cd leaf x) : ∃ p : PV K, LeafN good leaf p ∧ Rep X sz w p (absW x) := by
  cases leaf with
  | int k =>
    obtain ⟨n, rfl, hw⟩ := h
    simp only [Lit.wf, Bool.and_eq_true, decide_eq_true_eq] at hw
    exact ⟨_, ⟨n, rfl, hw⟩, .int fun m hm => by cases hm⟩
  | bool =>
    obtain ⟨b, rfl⟩ := h
    exact ⟨_, ⟨b, rfl⟩, .sb .rfl .rfl fun h0 => absurd rfl h0⟩
  | str =>
    obtain ⟨s, rfl, hs⟩ := h
    exact ⟨_, ⟨s.data.toList, rfl, by simpa using hs⟩, .str⟩
  | list c => cases hf
theorem leaves_flat : ∀ {ls : List Leaf4} {cs : List Value}, ls.all Leaf4.flat = true → cs.length = ls.length → (∀ (i : Nat) leaf x, ls[i]? = some leaf → cs[i]? = some x → LeafRead enc P W cd leaf x) →
    ∃ ps : List (PV K), LeavesN good ls ps ∧ RepL X sz w ps (cs.map absW)
  | [], [], _, _, _ => ⟨[], rfl, .nil⟩
  | [], _ :: _, _, h, _ => by simp at h
  | _ :: _, [], _, h, _ => by simp at h
  | l :: ls, x :: cs, hf, hl, hr => by
    simp only [List.all_cons, Bool.and_eq_true] at hf
    obtain ⟨p, h1, h2⟩ := leaf_flat (X := X) (sz := sz) (w := w) hf.1 (hr 0 l x rfl rfl)
    obtain ⟨ps, h3, h4⟩ := leaves_flat (cs := cs) hf.2 (by simpa using hl) fun i leaf y h5 h6 => hr (i + 1) leaf y (by simpa using h5) (by simpa using h6)
    exact ⟨p :: ps, ⟨p, ps, rfl, h1, h3⟩, .cons h2 h4⟩
theorem list_of_all {α : Type} {Q : Nat → α → Prop} : ∀ {n : Nat}, (∀ i, i < n → ∃ x, Q i x) → ∃ l : List α, l.length = n ∧ ∀ (i : Nat) (h : i < l.length), Q i (l[i]'h)
  | 0, _ => ⟨[], rfl, fun i h => by simp at h⟩
  | n + 1, h => by
    obtain ⟨l, h1, h2⟩ := list_of_all (n := n) fun i hi => h i (by omega)
    obtain ⟨x, hx⟩ := h n (by omega)
    refine ⟨l ++ [x], by simp [h1], fun i hi => ?_⟩
    by_cases hin : i < l.length
    · rw [List.getElem_append_left hin]; exact h2 i hin
    · have : i = n := by simp at hi; omega
      subst this
      rw [List.getElem_append_right (by omega)]
      simpa [h1] using hx
theorem rowAt_off {f : TypeId → Bool} : ∀ {d : Nat} {e : TypeId} {count off n : Nat}, rowAt P f d e count off n = true → off ≤ count * P.cellsOf e
  | 0, _, _, _, _, h => by simp [rowAt] at h
  | d + 1, e, count, off, n, h => by
    unfold rowAt at h
    by_cases hs : P.cellsOf e = 0
    · simp [hs] at h
    · simp only [hs, if_false, Bool.or_eq_true, Bool.and_eq_true, beq_iff_eq, decide_eq_true_eq] at h
      have hd := Nat.div_add_mod off (P.cellsOf e)
      have hm := Nat.mod_lt off (Nat.pos_of_ne_zero hs)
      rcases h with ⟨⟨h1, h2⟩, _⟩ | ⟨h1, _⟩
      · have := Nat.mul_le_mul_right (P.cellsOf e) (show off / P.cellsOf e ≤ count by omega)
        rw [Nat.mul_comm] at hd
        omega
      · have := Nat.mul_le_mul_right (P.cellsOf e) (show off / P.cellsOf e + 1 ≤ count by omega)
        rw [Nat.add_mul, Nat.one_mul] at this
        rw [Nat.mul_comm] at hd
        omega
theorem liesAt_off : ∀ {d : Nat} {e : TypeId} {count off : Nat} {u : TypeId} {n : Nat}, liesAt P d e count off u n = true → off ≤ count * P.cellsOf e
  | 0, _, _, _, _, _, h => by simp [liesAt] at h
  | d + 1, e, count, off, u, n, h => by
    unfold liesAt at h
    simp only [Bool.or_eq_true] at h
    rcases h with h | h
    · exact rowAt_off h
    · split at h
      · exact liesAt_off h
      · cases h
theorem slice_ok {base : Nat} {u : TypeId} {a : Addr} {len cap : Nat} (h : Cell.okWide P W .any base u (.slice (some a) len cap)) :
    a.spot = none ∧ ∃ arr e fz, W.heap[a.block]? = some (.cells arr e fz) ∧ a.off ≤ arr.size := by
  have h' : Cell.ok P W .any base u (.slice (some a) len cap) := by
    unfold Cell.okWide at h
    split at h <;> first | exact h | (rename_i hx; cases hx)
  unfold Cell.ok at h'
  split at h' <;> try (first | exact h'.elim | (rename_i hx; cases hx; done))
  rename_i e a' len' cap' _ hx
  cases hx
  obtain ⟨_, _, _, h1, row, cells, h2, h3⟩ := h'
  refine ⟨h1, ?_⟩
  simp only [World.shape?] at h2
  split at h2
  · rename_i arr el fz hb
    cases h2
    refine ⟨arr, _, fz, hb, Nat.le_trans (liesAt_off h3) ?_⟩
    exact Nat.div_mul_le_self _ _
  · cases h2
structure ArgOk (good : ∀ c, K c → Prop) (X : Codecs K) (sz : Nat → Nat) (P : Program) (cd : TypeId → Option Nat) (depth : Nat) : Prop where
  elem : ∀ e c, cd e = some c → ∃ ls, tileT P cd depth e = some ls ∧ ls.all Leaf4.flat = true ∧ ls.length = sz c ∧ P.cellsOf e = sz c ∧ 0 < sz c ∧ ∀ ps : List (PV K), LeavesN good ls ps → ∃ pre x, X.pack c ps = some (pre, x) ∧ pre ∧ good c x
theorem list_read {C : Cfg Int Bool (List UInt8) Prop (fun c => List (K c))} (ok : CfgOk X sz C) {depth ng : Nat} (ao : ArgOk good X sz P cd depth) {base : Nat} {u : TypeId} {c : Nat} {x : Value} {M : Nat → Prop} (hM : ∀ n, ¬ M n) (hc : Cell.okWide P W .any base u x) (h : LeafRead enc P W cd (.list c) x) :
    ∃ (p : PV K) (v : V), LeafN good (.list c) p ∧ Rep X sz (wd0 (heapW W ng) M C.codec) p v ∧ Go.E2.Rel (ghostW W) W v x := by
  rcases h with rfl | ⟨e, a, len, cap, he, rfl, hl, hcap, hr⟩
  · exact ⟨.list c [] none, .nils, ⟨[], rfl, Nat.zero_le _, fun x hx => by cases hx⟩, .nlist trivial, by simp [Go.E2.Rel]⟩
  · obtain ⟨hsp, arr, el, fz, hb, hoff⟩ := slice_ok hc
    obtain ⟨b, off, spot⟩ := a
    simp only at hsp hb hoff
    subst hsp
    obtain ⟨ls, h1, h2, h3, h4, h5, h6⟩ := ao.elem e c he
    rw [h4] at hr
    -- the elements
    have hcell : ∀ i, i < cap → ∃ cs : List Value, cs.length = sz c ∧ (∀ j, j < sz c → arr[off + i * sz c + j]? = cs[j]?) ∧ ∃ y : K c, good c y ∧ RepL X sz (wd0 (heapW W ng) M C.codec) (X.cells c y) (cs.map absW) := by
      intro i hi
      obtain ⟨cs, m, r, h7, h8⟩ := hr i hi
      obtain ⟨_, h9, h10⟩ := World.cells?_some h7
      obtain ⟨h11, h12⟩ := trod_tile depth h8 h1
      obtain ⟨ps, h13, h14⟩ := leaves_flat (X := X) (sz := sz) (w := wd0 (heapW W ng) M C.codec) h2 h11 h12
      obtain ⟨pre, y, h15, h16, h17⟩ := h6 ps h13
      refine ⟨cs, h9, fun j hj => ?_, y, h17, ok.pack c ps pre y h15 h16 _ _ h14⟩
      have hadd : ((⟨b, off, none⟩ : Addr).add (i * sz c)).add j = ⟨b, off + i * sz c + j, none⟩ := by
        unfold Addr.add
        by_cases h0 : i * sz c = 0
        · rw [if_pos h0, h0]
          by_cases hj0 : j = 0
          · rw [if_pos hj0, hj0]; simp
          · rw [if_neg hj0]; simp
        · rw [if_neg h0]
          by_cases hj0 : j = 0
          · rw [if_pos hj0, hj0]; simp
          · rw [if_neg hj0]
      have := h10 j hj
      rw [hadd] at this
      simp only [World.cell?, hb] at this
      simpa using this
    have hsz : off + cap * sz c ≤ arr.size := by
      cases cap with
      | zero => simpa using hoff
      | succ q =>
        obtain ⟨cs, g1, g2, _⟩ := hcell q (Nat.lt_succ_self q)
        have := g2 (sz c - 1) (by omega)
        rw [List.getElem?_eq_getElem (by omega)] at this
        have := (Array.getElem?_eq_some_iff.1 this).1
        rw [Nat.add_mul, Nat.one_mul]
        omega
    have hlm : len * sz c ≤ cap * sz c := Nat.mul_le_mul_right _ hl
    obtain ⟨l, g1, g2⟩ := list_of_all (Q := fun i (y : K c) => ∃ cs : List Value, cs.length = sz c ∧ (∀ j, j < sz c → arr[off + i * sz c + j]? = cs[j]?) ∧ good c y ∧ RepL X sz (wd0 (heapW W ng) M C.codec) (X.cells c y) (cs.map absW)) (n := len) fun i hi => by
      obtain ⟨cs, q1, q2, y, q4, q3⟩ := hcell i (by omega)
      exact ⟨y, cs, q1, q2, q4, q3⟩
    refine ⟨.list c l none, .slice b 0 off len (sz c) (some cap), ⟨l, rfl, by omega, fun y hy => ?_⟩, ?_, ?_⟩
    · obtain ⟨i, hi, rfl⟩ := List.mem_iff_getElem.1 hy
      obtain ⟨cs, q1, q2, q4, q3⟩ := g2 i hi
      exact q4
    · refine .list (heapW_get hb) (Nat.le_refl _) (hM b) g1.symm (by simp; omega) h5 (fun k hk => by cases hk; exact hl) (fun i hi j p hp => ?_) trivial
      obtain ⟨cs, q1, q2, q4, q3⟩ := g2 i hi
      have hj : j < sz c := by rw [← ok.len c (l[i]'hi)]; exact (List.getElem?_eq_some_iff.1 hp).1
      have := q3.2 j p hp
      rw [List.getD_eq_getElem?_getD, List.getElem?_map] at this ⊢
      rw [Array.getElem?_toList, q2 j hj]
      exact this
    · simp only [Go.E2.Rel]
      exact ⟨b, 0, arr.size, off, cap, el, arr.size, ghostW_of hb, rfl, hl, Nat.zero_le _, by omega, .inl rfl, fun k hk => by cases hk; exact ⟨rfl, hsz⟩, by simp only [World.shape?, hb], hsz⟩
theorem flat_rel {leaf : Leaf4} {x : Value} (hf : leaf.flat = true) (h : LeafRead enc P W cd leaf x) (G : Ghost) : Go.E2.Rel G W (absW x) x := by
  cases leaf with
  | int k => obtain ⟨n, rfl, _⟩ := h; simp [absW, Go.E2.Rel]
  | bool => obtain ⟨b, rfl⟩ := h; simp [absW, Go.E2.Rel]
  | str => obtain ⟨s, rfl, _⟩ := h; simp [absW, Go.E2.Rel]
  | list c => cases hf
theorem leaf_read {C : Cfg Int Bool (List UInt8) Prop (fun c => List (K c))} (ok : CfgOk X sz C) {depth ng : Nat} (ao : ArgOk good X sz P cd depth) {base : Nat} {u : TypeId} {leaf : Leaf4} {x : Value} {M : Nat → Prop} (hM : ∀ n, ¬ M n) (hc : Cell.okWide P W .any base u x) (h : LeafRead enc P W cd leaf x) :
    ∃ (p : PV K) (v : V), LeafN good leaf p ∧ Rep X sz (wd0 (heapW W ng) M C.codec) p v ∧ Go.E2.Rel (ghostW W) W v x := by
  cases hf : leaf.flat with
  | true =>
    obtain ⟨p, h1, h2⟩ := leaf_flat (X := X) (sz := sz) (w := wd0 (heapW W ng) M C.codec) hf h
    exact ⟨p, absW x, h1, h2, flat_rel hf h _⟩
  | false =>
    cases leaf with
    | list c => exact list_read ok ao hM hc h
    | _ => cases hf
theorem leaves_read {C : Cfg Int Bool (List UInt8) Prop (fun c => List (K c))} (ok : CfgOk X sz C) {depth ng : Nat} (ao : ArgOk good X sz P cd depth) {base : Nat} {M : Nat → Prop} (hM : ∀ n, ¬ M n) : ∀ {ls : List Leaf4} {cs : List Value}, cs.length = ls.length →
    (∀ (i : Nat) x, cs[i]? = some x → ∃ u, Cell.okWide P W .any base u x) → (∀ (i : Nat) leaf x, ls[i]? = some leaf → cs[i]? = some x → LeafRead enc P W cd leaf x) →
    ∃ (ps : List (PV K)) (vs : List V), LeavesN good ls ps ∧ RepL X sz (wd0 (heapW W ng) M C.codec) ps vs ∧ Go.E2.RelL (ghostW W) W vs cs
  | [], [], _, _, _ => ⟨[], [], rfl, .nil, by simp [Go.E2.RelL]⟩
  | [], _ :: _, h, _, _ => by simp at h
  | _ :: _, [], h, _, _ => by simp at h
  | l :: ls, x :: cs, hl, hc, hr => by
    obtain ⟨u, hu⟩ := hc 0 x rfl
    obtain ⟨p, v, h1, h2, h3⟩ := leaf_read (ng := ng) ok ao hM hu (hr 0 l x rfl rfl)
    obtain ⟨ps, vs, h4, h5, h6⟩ := leaves_read (ng := ng) ok ao hM (cs := cs) (ls := ls) (by simpa using hl) (fun i y hy => hc (i + 1) y (by simpa using hy)) fun i leaf y h7 h8 => hr (i + 1) leaf y (by simpa using h7) (by simpa using h8)
    exact ⟨p :: ps, v :: vs, ⟨p, ps, rfl, h1, h4⟩, .cons h2 h5, Go.E2.RelL.cons h3 h6⟩
theorem arg_one {C : Cfg Int Bool (List UInt8) Prop (fun c => List (K c))} (ok : CfgOk X sz C) {depth ng : Nat} (ao : ArgOk good X sz P cd depth) {base : Nat} {M : Nat → Prop} (hM : ∀ n, ¬ M n) {t : TypeId} {v : Value} {d : DataW Hd} {ps : List MemPlace} {leaf : Leaf4}
    (ht : (match P.underlying t with | some (.struct _) | some (.array _ _) => false | _ => true) = true) (hl : tileT P cd depth t = some [leaf]) (hv : Value.okWide P W .any base t v) (hd : DataW.Trod enc P W 0 (fun _ => true) true t v d ps) :
    ∃ (p : PV K) (u : V), LeafN good leaf p ∧ Rep X sz (wd0 (heapW W ng) M C.codec) p u ∧ Go.E2.Rel (ghostW W) W u v := by
  obtain ⟨n, hn⟩ := hd
  obtain ⟨h1, h2⟩ := trod_tile depth hn hl
  have hcell : Cell.okWide P W .any base t v := by
    unfold Value.okWide at hv
    split at hv
    · rename_i h; simp [h] at ht
    · rename_i h; simp [h] at ht
    · exact hv
  have hcs : v.cells.toList = [v] := by
    cases v with
    | agg cs =>
      exfalso
      unfold Cell.okWide at hcell
      split at hcell <;> first | (rename_i hx; cases hx; done) | skip
      unfold Cell.ok at hcell
      split at hcell <;> first | (rename_i hx; cases hx; done) | exact hcell
    | _ => rfl
  exact leaf_read ok ao hM hcell (h2 0 leaf v rfl (by rw [hcs]; rfl))
theorem arg_struct {C : Cfg Int Bool (List UInt8) Prop (fun c => List (K c))} (ok : CfgOk X sz C) {depth ng : Nat} (ao : ArgOk good X sz P cd depth) {base : Nat} {M : Nat → Prop} (hM : ∀ n, ¬ M n) {t : TypeId} {v : Value} {d : DataW Hd} {ps : List MemPlace} {ls : List Leaf4} {fs : Array Field}
    (ht : P.underlying t = some (.struct fs)) (hl : tileT P cd depth t = some ls) (hv : Value.okWide P W .any base t v) (hd : DataW.Trod enc P W 0 (fun _ => true) true t v d ps) :
    ∃ (ps : List (PV K)) (u : V), LeavesN good ls ps ∧ Rep X sz (wd0 (heapW W ng) M C.codec) (.agg ps) u ∧ Go.E2.Rel (ghostW W) W u v := by
  obtain ⟨n, hn⟩ := hd
  obtain ⟨h1, h2⟩ := trod_tile depth hn hl
  unfold Value.okWide at hv
  rw [ht] at hv
  obtain ⟨cs, rfl, _, ts, _, _, hts⟩ := hv
  have hcs : (Value.agg cs).cells.toList = cs.toList := rfl
  rw [hcs] at h1 h2
  obtain ⟨qs, vs, h3, h4, h5⟩ := leaves_read (ng := ng) ok ao hM h1 (fun i x hx => by
    obtain ⟨u, _, hu⟩ := hts i x (by simpa using hx)
    exact ⟨u, hu⟩) h2
  exact ⟨qs, .agg vs, h3, .agg h4.1 h4.2, by simp only [Go.E2.Rel]; exact ⟨cs, rfl, h5⟩⟩
theorem good_lt {p : MemPlace} (h : Go.Good W p) : p.block < W.heap.size := by
  cases p with
  | cell b off =>
    obtain ⟨v, hv, _⟩ := h
    simp only [World.cell?] at hv
    split at hv
    · rename_i hb; exact lt_of_heap hb
    · cases hv
  | map b =>
    obtain ⟨es, clock, hb⟩ := h
    exact lt_of_heap hb
theorem trod_again {w' : World} {t : TypeId} {v : Value} {d : DataW Hd} {ps : List MemPlace} (hlaid : laidOutB P = true) (hrec : P.readableRec t = true) (hrow : t < P.types.size) (h : DataW.Trod enc P W 0 (fun _ => true) true t v d ps) (hs : ∀ b, b < W.heap.size → w'.heap[b]? = W.heap[b]?)
    (sp : Nat → Bool) (hsp : ∀ b, b < W.heap.size → sp b = true) : DataW.Trod enc P w' 0 sp true t v d ps := by
  obtain ⟨n, hn⟩ := h
  have K := kids_book hlaid hrec
  have hgood := DataW.trod_good K (fun h => by cases h) n t _ _ ⟨hrow, book_self t⟩ hn
  refine ⟨n, DataW.trod_stays K (book_sized hrec) (fun h => by cases h) ⟨hrow, book_self t⟩ hn (fun p hp => ?_) (fun p hp => hsp _ ?_)⟩
  · have hlt : p.block < W.heap.size := good_lt (hgood p hp)
    cases p with
    | cell b off => simp only [World.sameAt, World.cell?, hs b hlt]
    | map b => exact hs b hlt
  · exact good_lt (hgood p hp)
end
end Go.E3
/- E3: (*strings.Builder).String, BY ITS TEXT: a check of the body, and what the body does. -/
namespace Go.E3
open Go Go.E2
section
variable {E : Env} {fn : FuncId} {round : Option Nat} {all : Array Oper} {b : Array Nat} {i : Nat} {l : List Oper} {done : List Done} {o : Oper} {fr : Fr} {H : Heap} {Q : Ex → Fr → Heap → Prop} {B : Nat}
end
section
variable {E : Env} {F tB tS tQ tI tU : Nat}
end
theorem post_true_mem {P : Program} {Hd : Type} {enc : TypeId × Value → Hd} {g : Func} {s : Go.ChangeSpec} {apart fresh handsOn : Bool} {W w' : World} {args : Array Value} {ds gs : List (DataW Hd)} {before : List MemPlace} {t : TypeId}
    (hW : DataW.Whole enc P g.params.toList s.vars apart W args.toList ds gs before) (hv : s.vars = []) (ht : g.resultTypes = #[t]) (hu : P.underlying t = some .bool)
    (hfn : s.fn Hd ds = { results := [.lit (.bool true)], args := ds }) (hargs : ∃ pa, DataW.TrodAll enc P w' 0 (fun b => decide (b < W.heap.size)) true g.params.toList args.toList ds pa) (hk : ∀ may, W.keptBut w' may) :
    s.post enc P g apart fresh handsOn false W args (.bool true) w' := by
  have hW' := hW
  obtain ⟨p, q, hA, hV, rfl, _, _⟩ := hW
  rw [hv] at hV
  obtain ⟨rfl, rfl⟩ := Go.ChangeShapes.trodVars_none hV
  obtain ⟨pa, hpa⟩ := hargs
  refine ⟨ds, [], p ++ [], [], pa, [], hW', ?_, ?_, ?_, hk _, fun h => by cases h⟩
  · rw [ht, List.append_nil, hfn]
    exact Go.ChangeShapes.trodAll_mk1 (Go.RowKit.shut_bool hu true)
  · rw [List.append_nil, hfn]
    exact hpa
  · rw [hv, List.append_nil, hfn]
    rfl
end Go.E3
/- E3: A CLOSED CALL that looks at listed variables, as a contract. -/
namespace Go.E2
open Go
def Fact.closedOk (F : Fact) : Bool :=
  F.args.isEmpty && (F.pre.all fun x => match assoc (F.pre.map fun x => (x.1, x.1)) x.1, renO (assoc (F.pre.map fun x => (x.1, x.1))) x.2 with
    | some k, some o => Nat.beq k x.1 && eqOB2 o x.2
    | _, _ => false) && oneOne (F.pre.map fun x => (x.1, x.1)) && (F.pre.all fun x => Nat.blt x.1 F.next) && Nat.beq F.ro F.next && eqVB F.ret ((renV (fun _ => none) F.ret).getD (.tuple [.nilp]))
theorem tryC_of {F : Fact} {H : Heap} (hc : F.closedOk = true) (hg : H.glob = F.glob) (ho : ∀ x ∈ F.pre, H.get x.1 = some x.2 ∧ x.1 < H.next) : F.tryC [] H = some (.ret F.ret, H) := by
  simp only [Fact.closedOk, Bool.and_eq_true] at hc
  obtain ⟨⟨⟨⟨⟨c1, c2⟩, c3⟩, c4⟩, c5⟩, c6⟩ := hc
  have ha : F.args = [] := List.isEmpty_iff.1 c1
  have hfit : F.fits (F.pre.map fun x => (x.1, x.1)) [] H = true := by
    simp only [Fact.fits, Bool.and_eq_true]
    refine ⟨⟨⟨⟨?_, ?_⟩, ?_⟩, c3⟩, ?_⟩
    · rw [ha]; rfl
    · rw [hg]; exact Nat.beq_refl _
    · unfold holdsR
      rw [List.all_eq_true]
      intro x hx
      have := List.all_eq_true.1 c2 x hx
      split at this
      · rename_i k o h1 h2
        simp only [Bool.and_eq_true] at this
        have hk := Nat.eq_of_beq_eq_true this.1
        subst hk
        simp only [h1, h2, (ho x hx).1]
        exact this.2
      · cases this
    · rw [List.all_eq_true]
      intro x hx
      obtain ⟨y, hy, rfl⟩ := List.mem_map.1 hx
      have h1 := List.all_eq_true.1 c4 y hy
      have h2 : Nat.blt y.1 H.next = true := by rw [Nat.blt_eq]; exact (ho y hy).2
      have h3 : Nat.ble F.ro y.1 = false := by
        rw [← Bool.not_eq_true, Nat.ble_eq, Nat.eq_of_beq_eq_true c5]
        rw [Nat.blt_eq] at h1
        omega
      simp only [h1, h2, h3, Nat.beq_refl, Bool.and_true, Bool.or_true, Bool.not_false, Bool.true_or]
  simp only [Fact.tryC, hfit, c5, c6, Bool.and_true, cond_true]
end Go.E2
namespace Go.E3
open Go Go.E2
theorem look_of_nodup {α : Type} : ∀ {l : List (Nat × α)}, distinct (l.map (·.1)) = true → ∀ {x : Nat × α}, x ∈ l → look l x.1 = some x.2
  | [], _, x, hx => by cases hx
  | y :: l, h, x, hx => by
    simp only [List.map_cons, distinct, Bool.and_eq_true, Bool.not_eq_true'] at h
    simp only [look, cond_eq_ite, Nat.beq_eq]
    rcases List.mem_cons.1 hx with rfl | hx
    · rw [if_pos rfl]
    · rw [if_neg]
      · exact look_of_nodup h.2 hx
      · intro he
        have h1 := h.1
        rw [← Bool.not_eq_true, List.any_eq_true] at h1
        exact h1 ⟨x.1, List.mem_map.2 ⟨x, hx, rfl⟩, by rw [he]; exact Nat.beq_refl _⟩
end Go.E3
/- PLAIN LEAN FOR CONDITIONS: elements, bytes, parts of lists by numbers; places up to which something holds; cuts at a byte. No program in sight. -/
namespace Go.E3
theorem ix_get {α : Type} [Inhabited α] {l : List α} {i : Nat} (h : i < l.length) : ix l (i : Int) = l[i] := by
  simp [ix, List.getD_eq_getElem?_getD, h]
theorem ix_cons_succ {α : Type} [Inhabited α] {a : α} {l : List α} {i : Int} (h : 0 ≤ i) : ix (a :: l) (i + 1) = ix l i := by
  have : (i + 1).toNat = i.toNat + 1 := by omega
  simp [ix, this]
theorem fr_zero {α : Type} (l : List α) : fr l 0 = l := rfl
theorem fr_all {α : Type} {l : List α} {i : Int} (h : ln l ≤ i) : fr l i = [] := by
  apply List.drop_of_length_le; simp only [ln] at h; omega
theorem fr_cons {α : Type} [Inhabited α] {l : List α} {i : Int} (h0 : 0 ≤ i) (h : i < ln l) : fr l i = ix l i :: fr l (i + 1) := by
  have hi : i.toNat < l.length := by simp only [ln] at h; omega
  have e : (i + 1).toNat = i.toNat + 1 := by omega
  unfold fr ix
  rw [List.drop_eq_getElem_cons hi, e, List.getD_eq_getElem?_getD, List.getElem?_eq_getElem hi]
  rfl
theorem ln_fr {α : Type} {l : List α} {i : Int} (h0 : 0 ≤ i) (h : i ≤ ln l) : ln (fr l i) = ln l - i := by
  simp only [ln, fr, List.length_drop] at *; omega
theorem ln_upto {α : Type} {l : List α} {i : Int} (h0 : 0 ≤ i) (h : i ≤ ln l) : ln (upto l i) = i := by
  simp only [ln, upto, List.length_take] at *; omega
theorem ln_sub {α : Type} {l : List α} {i j : Int} (h0 : 0 ≤ i) (h1 : i ≤ j) (h : j ≤ ln l) : ln (sub l i j) = j - i := by
  simp only [ln, sub, List.length_drop, List.length_take] at *; omega
theorem ln_nonneg {α : Type} (l : List α) : 0 ≤ ln l := Int.natCast_nonneg _
theorem ln_append {α : Type} (l m : List α) : ln (l ++ m) = ln l + ln m := by simp [ln]
theorem ln_cons {α : Type} (a : α) (l : List α) : ln (a :: l) = ln l + 1 := by simp [ln]
theorem ln_nil {α : Type} : ln ([] : List α) = 0 := rfl
theorem short_app {α : Type} {l m : List α} (h : ln l + ln m ≤ 1000000000) : Short (l.length + m.length) := by simp only [ln, Short] at *; omega
theorem short_snoc {α : Type} {l : List α} {a : α} (h : ln l + 1 ≤ 1000000000) : Short (l.length + [a].length) := by simp only [ln, Short, List.length_cons, List.length_nil] at *; omega
theorem ln_snoc {α : Type} (l : List α) (a : α) : ln (l ++ [a]) = ln l + 1 := by simp [ln]
theorem sub_fr {α : Type} {l : List α} {i j : Int} (h0 : 0 ≤ i) (h1 : i ≤ j) : sub l i j = upto (fr l i) (j - i) := by
  simp only [sub, fr, upto]
  rw [List.take_drop]
  have : i.toNat + (j - i).toNat = j.toNat := by omega
  rw [this]
theorem fr_fr {α : Type} {l : List α} {i j : Int} (h0 : 0 ≤ i) (h1 : 0 ≤ j) : fr (fr l i) j = fr l (i + j) := by
  simp only [fr, List.drop_drop]
  have : i.toNat + j.toNat = (i + j).toNat := by omega
  rw [this]
theorem ix_fr {α : Type} [Inhabited α] {s : List α} {i j : Int} (h0 : 0 ≤ i) (h1 : 0 ≤ j) : ix (fr s i) j = ix s (i + j) := by
  have : i.toNat + j.toNat = (i + j).toNat := by omega
  simp only [ix, fr, List.getD_eq_getElem?_getD, List.getElem?_drop, this]
theorem mem_ix {α : Type} [Inhabited α] {l : List α} {a : α} (h : a ∈ l) : ∃ i : Int, 0 ≤ i ∧ i < ln l ∧ ix l i = a := by
  obtain ⟨i, hi, rfl⟩ := List.mem_iff_getElem.1 h
  exact ⟨i, by omega, by simp only [ln]; omega, ix_get hi⟩
theorem ix_mem {α : Type} [Inhabited α] {l : List α} {i : Int} (h0 : 0 ≤ i) (h : i < ln l) : ix l i ∈ l := by
  have hi : i.toNat < l.length := by simp only [ln] at h; omega
  have : ix l i = l[i.toNat] := by simp [ix, List.getD_eq_getElem?_getD, hi]
  rw [this]; exact List.getElem_mem hi
theorem list_ext_ix {α : Type} [Inhabited α] {l m : List α} (h : ln l = ln m) (he : ∀ i, 0 ≤ i → i < ln l → ix l i = ix m i) : l = m := by
  apply List.ext_getElem (by simp only [ln] at h; omega)
  intro i h1 h2
  have := he i (by omega) (by simp only [ln]; omega)
  rwa [ix_get h1, ix_get h2] at this
end Go.E3
