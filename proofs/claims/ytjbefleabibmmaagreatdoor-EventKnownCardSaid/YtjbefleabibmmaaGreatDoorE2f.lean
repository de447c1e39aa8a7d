/- E2: append against the model's. -/
import Derived.Test.YtjbefleabibmmaaGreatDoorE2e
namespace Go.E2
open Go

section
variable {P : Program}

theorem elems_sound {H : Heap} {G : Ghost} {w : World} (hs : Sim H G w) {sz n : Nat} {x : V} {rx : Value} {cs : List V} (hx : Rel G w x rx) (h : elemsV H sz x = some (n, cs)) :
    ∃ l, RelL G w cs l ∧ cs.length = n * sz ∧ ∀ w', w'.heap = w.heap → (Builtin.lenOf rx).run P w' = .ok n w' ∧ (Builtin.firstCells sz n rx).run P w' = .ok l.toArray w' := by
  cases x with
  | nils =>
    simp only [elemsV, Option.some.injEq, Prod.mk.injEq] at h
    obtain ⟨rfl, rfl⟩ := h
    simp only [Rel] at hx
    subst hx
    exact ⟨[], RelL.nil, by simp, fun w' _ => ⟨by simp [Builtin.lenOf], by simp [Builtin.firstCells]⟩⟩
  | slice nm g off len sz' cap =>
    simp only [elemsV, cond_eq_ite, Nat.beq_eq] at h
    split at h
    · rename_i hsz
      subst hsz
      simp only [Option.map_eq_some_iff, Prod.mk.injEq] at h
      obtain ⟨cs', h1, rfl, rfl⟩ := h
      simp only [Rel] at hx
      obtain ⟨b, sh, m, ro, c, e, mm, e1, rfl, e2, e3, e4, e5, e6, e7, e8⟩ := hx
      have hp : Rel G w (.ptr nm g off (off + len * sz)) (.pointer (some ⟨b, off - sh, none⟩)) := by
        simp only [Rel]; exact ⟨b, sh, m, e1, e3, e4, rfl⟩
      obtain ⟨a, l, ha, hh, hr, hl⟩ := readCells_sound hs hp h1
      cases ha
      have hl' := hr.length
      refine ⟨l, hr, hl, fun w' hw' => ⟨by simp [Builtin.lenOf], ?_⟩⟩
      simp only [Builtin.firstCells]
      rcases e5 with e5 | e5
      · have : ro = off - sh := by omega
        subst this
        have hrun := (hh.of_heap hw').run P
        rw [← hl', hl] at hrun
        exact hrun
      · have h0 : len = 0 := by omega
        subst h0
        simp only [Nat.zero_mul] at hl
        have : l = [] := List.length_eq_zero_iff.1 (by omega)
        subst this
        simp [loadCells, loadCellsFrom]
    · cases h
  | str s =>
    simp only [elemsV, cond_eq_ite, Nat.beq_eq] at h
    split at h
    · rename_i hc
      subst hc
      simp only [Option.some.injEq, Prod.mk.injEq] at h
      obtain ⟨rfl, rfl⟩ := h
      simp only [Rel] at hx
      subst hx
      refine ⟨s.map fun b => .int .u8 b.toNat, ?_, by simp, fun w' hw' => ⟨by simp [Builtin.lenOf, ByteArray.size], ?_⟩⟩
      · clear hs
        induction s with
        | nil => exact RelL.nil
        | cons a s ih => exact RelL.cons (by simp [Rel]) ih
      · have e1 : (ByteArray.extract ⟨s.toArray⟩ 0 s.length) = (⟨s.toArray⟩ : ByteArray) := by
          have := ByteArray.extract_zero_size (b := ⟨s.toArray⟩)
          simpa [ByteArray.size] using this
        simp [Builtin.firstCells, e1]
    · cases h
  | _ => simp [elemsV] at h

/-- append where there is room. -/
theorem run_append_fits {w w' : World} {t u ty e : TypeId} {du : TypeDesc} {i : TypeInfo} (ht : P.underlying t = some (.slice e)) (hu : P.underlying u = some du) (hdu : (∃ e', du = .slice e') ∨ du = .string)
    (hi : P.info? e = some i) {base : Option Addr} {sLen sCap n : Nat} {x : Value} {l : List Value} (hlen : (Builtin.lenOf x).run P w = .ok n w) (hf : (Builtin.firstCells i.size n x).run P w = .ok l.toArray w)
    (hroom : sLen + n ≤ sCap) (hst : ∀ a, base = some a → (storeCells (a.add (sLen * i.size)) l).run P w = .ok () w') (hno : base = none → w' = w) :
    (Builtin.append_ #[t, u] ty #[.slice base sLen sCap, x]).run P w = .ok (.slice base (sLen + n) sCap) w' := by
  rcases hdu with ⟨e', rfl⟩ | rfl
  all_goals
    cases base with
    | none =>
      have := hno rfl
      subst this
      simp [Builtin.append_, run_underlying ht, run_underlying hu, sizeOf, typeInfo, hi, hlen, hf, hroom]
    | some a =>
      simp [Builtin.append_, run_underlying ht, run_underlying hu, sizeOf, typeInfo, hi, hlen, hf, hroom, hst a rfl]

/-- append into a new row. -/
theorem run_append_grows {w : World} {t u ty e : TypeId} {du : TypeDesc} {i : TypeInfo} {z : Value} (ht : P.underlying t = some (.slice e)) (hu : P.underlying u = some du) (hdu : (∃ e', du = .slice e') ∨ du = .string)
    (hi : P.info? e = some i) (hz0 : i.zero = some z) {base : Option Addr} {sLen sCap n : Nat} {x : Value} {l old : List Value}
    (hlen : ∀ w', w'.heap = w.heap → (Builtin.lenOf x).run P w' = .ok n w' ∧ (Builtin.firstCells i.size n x).run P w' = .ok l.toArray w')
    (hold : ∀ w', w'.heap = w.heap → (Builtin.firstCells i.size sLen (.slice base sLen sCap)).run P w' = .ok old.toArray w')
    (hg : sCap < sLen + n) (hb : (sLen + n) * i.bytes ≤ room) (hm : sLen + n ≤ room) :
    ∃ (w1 : World) (C : Nat) (rest : List Value), w1.heap = w.heap ∧ (w1.os = w.os ∧ w1.output = w.output) ∧ sLen + n ≤ C ∧ rest.length = (C - (sLen + n)) * z.cells.size ∧
    (Builtin.append_ #[t, u] ty #[.slice base sLen sCap, x]).run P w = .ok (.slice (some ⟨w.heap.size, 0, none⟩) (sLen + n) C) (push w1 (.cells ((old ++ l) ++ rest).toArray e)) := by
  have hn : ¬ (sLen + n ≤ sCap) := by omega
  have h63' : ¬ (9223372036854775807 < ((sLen : Int) + (n : Int))) := by unfold room at hm; omega
  have h48 := growslice_fits (bytes := i.bytes) hg hb
  have h48' : ¬ (281474976710656 < Builtin.nextslicecap (sLen + n) sCap * i.bytes) := by omega
  have h1 := hlen w rfl
  have h2 := (hlen w.drew rfl).2
  have h3 := hold w.drew rfl
  refine ⟨w.drew, grownCap w (sLen + n) sCap e, (Builtin.zeroCells z.cells (grownCap w (sLen + n) sCap e - (sLen + n))).toList, rfl, ⟨rfl, rfl⟩, grownCap_ge w _ _ _, by simp [Builtin.zeroCells], ?_⟩
  have ea : ∀ (A : Array Value), ((old ++ l) ++ A.toList).toArray = old.toArray ++ l.toArray ++ A := by intro A; apply Array.ext'; simp
  rw [ea]
  rcases hdu with ⟨e', rfl⟩ | rfl
  all_goals
    simp [Builtin.append_, run_underlying ht, run_underlying hu, sizeOf, typeInfo, zeroValue, hi, hz0, h1.1, hn, h63', h48', Question.forced, newRow, h2, h3, grownCap]
    show w.drew.alloc _ = w.drew.alloc _
    congr 2
    apply Array.ext'
    simp

theorem Step.pushSame {H : Heap} {G : Ghost} {w w1 : World} (hs : Sim H G w) (e : w1.heap = w.heap) (eo : w1.os = w.os ∧ w1.output = w.output) {H' : Heap} {G' : Ghost} {w' : World} (h : ∀ (_ : Sim H G w1), Step H G w1 H' G' w') : Step H G w H' G' w' :=
  (Step.same hs e eo).trans (h (Step.same hs e eo).sim)

theorem writeCells_row {H H' : Heap} {vs : List V} {nm g off lim : Nat} (h : writeCells H vs (.ptr nm g off lim) = some H') {cells : List V} {elem : TypeId} {gen floor frz : Nat} {exact : Bool}
    (ho : H.get nm = some (.row cells elem gen floor frz exact)) : g = gen ∧ off + vs.length ≤ lim ∧ lim ≤ cells.length := by
  simp only [writeCells, ho, cond_eq_ite, Bool.and_eq_true, Nat.ble_eq, Nat.beq_eq] at h
  split at h
  · rename_i hc
    exact ⟨hc.1.1.1.1, hc.1.1.1.2, hc.1.1.2⟩
  · cases h

theorem grown_bound {z : Value} {size need C : Nat} {rest cells : List Value} (hz : z.cells.size = size) (hr : rest.length = (C - need) * z.cells.size) (hc : cells.length = need * size) (hC : need ≤ C) :
    0 + C * size ≤ (cells ++ rest).toArray.size := by
  simp only [List.size_toArray, List.length_append, hr, hc, hz, Nat.zero_add]
  rw [← Nat.add_mul]
  exact Nat.mul_le_mul_right _ (by omega)

section grow
variable {H : Heap} {G : Ghost} {w : World} {nm g b sh m : Nat}

theorem grow_free (hs : Sim H G w) {cells : List V} {e : TypeId} {floor frz : Nat} {exact : Bool} (ho : H.get nm = some (.row cells e g floor frz exact)) : G nm (g + 1) = none := by
  cases hq : G nm (g + 1) with
  | none => rfl
  | some x =>
    obtain ⟨x1, x2, x3⟩ := x
    obtain ⟨q1, q0, q2⟩ := hs.obj nm _ (hs.lt _ _ _ _ _ hq).2 ho
    have := (q2 _ _ _ _ hq).1
    omega

theorem addG_sub (h : G nm (g + 1) = none) (x : Nat × Nat × Nat) (nm' g' : Nat) (y) (hy : G nm' g' = some y) : addG G nm (g + 1) x nm' g' = some y := by
  simp only [addG]
  by_cases hq : nm' = nm ∧ g' = g + 1
  · rw [hq.1, hq.2, h] at hy; cases hy
  · rw [if_neg hq]; exact hy

theorem addG_back (x : Nat × Nat × Nat) (nm' g' : Nat) (y) (hy : addG G nm (g + 1) x nm' g' = some y) (hne : nm' ≠ nm) : G nm' g' = some y := by
  simp only [addG] at hy
  rw [if_neg (fun q => hne q.1)] at hy
  exact hy

theorem addG_case (x : Nat × Nat × Nat) (g' : Nat) (y) (hy : addG G nm (g + 1) x nm g' = some y) : (g' = g + 1 ∧ y = x) ∨ G nm g' = some y := by
  simp only [addG] at hy
  by_cases hq : g' = g + 1
  · rw [if_pos ⟨trivial, hq⟩] at hy; cases hy; exact .inl ⟨hq, rfl⟩
  · rw [if_neg (fun q => hq q.2)] at hy; exact .inr hy

/-- A name grows within its block. -/
theorem Sim.growIn (hs : Sim H G w) {cells items : List V} {e : TypeId} {floor frz : Nat} {exact : Bool} (ho : H.get nm = some (.row cells e g floor frz exact)) (hg : G nm g = some (b, sh, m))
    {l : List Value} (hl : RelL G w items l) {arr arr' : Array Value} {fz : Nat × Nat} (a1 : w.heap[b]? = some (.cells arr e fz))
    (harr' : arr'.toList = arr.toList.take (m - sh) ++ l ++ arr.toList.drop (m - sh + l.length)) (hsz2 : arr'.size = arr.size) (hfit : m - sh + l.length ≤ arr.size) (hro : H.ro ≤ nm) :
    Step H G w { H with objs := H.objs.set nm (.row (cells ++ items) e (g + 1) floor frz false) } (addG G nm (g + 1) (b, sh, m + items.length)) (w.setRow b arr') := by
  obtain ⟨q1, q0, q2⟩ := hs.obj nm _ (hs.lt _ _ _ _ _ hg).2 ho
  obtain ⟨r1, r2, r3, r4, r4', r5⟩ := q2 g b sh m hg
  obtain ⟨arr0, fz0, a1', a2, a3, a4, a5⟩ := r5 q1
  rw [a1] at a1'
  cases a1'
  have hm := r4 rfl
  have hll := hl.length
  have hlt := hs.lt _ _ _ _ _ hg
  have hrow := setRow_heap w b arr arr' e fz a1
  have hszw : (w.setRow b arr').heap.size = w.heap.size := by unfold World.setRow; simp
  have hfre := grow_free hs ho
  refine hs.turn nm _ (fun nm' => get_upd nm') (Nat.le_refl _) (fun _ h _ => h) rfl rfl hro hlt.2 (.inr (by rw [ho]; simp)) (addG_sub hfre _) (addG_back _) (by rw [hszw]; exact Nat.le_refl _) (fun g' b' sh' n' hg' => ?_) (fun g1 b1 s1 n1 g2 s2 n2 h1 h2 hb1 => ?_)
    (fun b' hb' hne => heap_setRow_ne (fun q => hne g sh m (q ▸ hg))) (fun b' x hx => ?_) (fun hext => ?_)
  · rcases addG_case _ _ _ hg' with ⟨rfl, hy⟩ | hy
    · cases hy; exact ⟨by rw [hszw]; exact hlt.1, .inr ⟨_, _, hg⟩⟩
    · exact ⟨by rw [hszw]; exact (hs.lt _ _ _ _ _ hy).1, .inr ⟨_, _, hy⟩⟩
  · rcases addG_case _ _ _ h1 with ⟨rfl, hy⟩ | hy
    · cases hy; omega
    · have := (hs.lt _ _ _ _ _ hy).1; omega
  · by_cases hbb : b' = b
    · subst hbb
      simp only [World.shape?, a1, hrow, hsz2] at hx ⊢
      exact hx
    · simp only [World.shape?, heap_setRow_ne hbb] at hx ⊢; exact hx
  · refine ⟨by omega, by simp, fun g' b' sh' n' hg' => ?_⟩
    rcases addG_case _ _ _ hg' with ⟨rfl, hy⟩ | hy
    · cases hy
      refine ⟨Nat.le_refl _, by omega, by simp; omega, fun _ => by simp; omega, by simp, fun _ => ⟨arr', fz, hrow, by omega, ?_, fun _ => a4 rfl, by simp⟩⟩
      rw [List.take_of_length_le (by simp; omega), harr', List.drop_append_of_le_length (by omega)]
      have ea : (arr.toList.take (m - sh) ++ l ++ arr.toList.drop (m - sh + l.length)).take (m + items.length - sh) = arr.toList.take (m - sh) ++ l := by
        rw [List.take_append_of_le_length (by simp; omega), List.take_of_length_le (by simp; omega)]
      rw [ea]
      rw [List.take_of_length_le (by omega)] at a3
      exact (RelC.ext hext a3).append (RelL.ext hext hl).c
    · obtain ⟨s1, s2, s3, s4, s4', s5⟩ := q2 g' b' sh' n' hy
      refine ⟨by omega, s2, by simp; omega, fun q => by omega, by simp, fun hfl => ?_⟩
      obtain ⟨arr1, fz1, b1, b2, b3, b4, b5⟩ := s5 hfl
      rw [List.take_append_of_le_length s3]
      have hA : n' - sh ≤ m - sh := Nat.sub_le_sub_right (by rw [hm]; exact s3) sh
      have hne : g' ≠ g + 1 := Nat.ne_of_lt (Nat.lt_succ_of_le s1)
      have hA2 : n' - sh ≤ (arr.toList.take (m - sh)).length := by rw [List.length_take, Array.length_toList]; exact Nat.le_min.2 ⟨hA, Nat.le_trans hA a2⟩
      by_cases hbb : b' = b
      · subst hbb
        have hss := (hs.inj _ _ _ _ _ _ _ _ _ hg hy).2
        subst hss
        rw [a1] at b1
        cases b1
        refine ⟨arr', fz, hrow, by rw [hsz2]; exact b2, ?_, fun q => absurd q hne, by simp⟩
        have ea : arr'.toList.take (n' - sh) = arr.toList.take (n' - sh) := by
          rw [harr', List.append_assoc, List.take_append_of_le_length hA2, List.take_take, Nat.min_eq_left hA]
        rw [ea]
        exact RelC.ext hext b3
      · exact ⟨arr1, fz1, (heap_setRow_ne hbb).trans b1, b2, RelC.ext hext b3, fun q => absurd q hne, by simp⟩

/-- A name grows into a new block. -/
theorem Sim.growNew (hs : Sim H G w) {cells items : List V} {e : TypeId} {floor frz off : Nat} {exact : Bool} (ho : H.get nm = some (.row cells e g floor frz exact)) (hg : nm < H.next)
    {l ol : List Value} (hl : RelL G w items l) (hol : RelC G w (cells.drop off) ol) (hoff : off ≤ cells.length) (rest : List Value) (hro : H.ro ≤ nm) :
    Step H G w { H with objs := H.objs.set nm (.row (cells ++ items) e (g + 1) floor frz false) } (addG G nm (g + 1) (w.heap.size, off, cells.length + items.length)) (push w (.cells ((ol ++ l) ++ rest).toArray e)) := by
  obtain ⟨q1, q0, q2⟩ := hs.obj nm _ hg ho
  have hll := hl.length
  have holl := hol.length
  simp only [List.length_drop] at holl
  have hfre := grow_free hs ho
  refine hs.turn nm _ (fun nm' => get_upd nm') (Nat.le_refl _) (fun _ h _ => h) rfl rfl hro hg (.inr (by rw [ho]; simp)) (addG_sub hfre _) (addG_back _) (by rw [size_push]; omega) (fun g' b' sh' n' hg' => ?_) (fun g1 b1 s1 n1 g2 s2 n2 h1 h2 hb1 => ?_)
    (fun b' hb' _ => heap_push_lt hb') (fun b' x hx => shape_push hx) (fun hext => ?_)
  · rcases addG_case _ _ _ hg' with ⟨rfl, hy⟩ | hy
    · cases hy; exact ⟨by rw [size_push]; omega, .inl (Nat.le_refl _)⟩
    · exact ⟨by rw [size_push]; have := (hs.lt _ _ _ _ _ hy).1; omega, .inr ⟨_, _, hy⟩⟩
  · rcases addG_case _ _ _ h1 with ⟨rfl, hy⟩ | hy
    · rcases addG_case _ _ _ h2 with ⟨rfl, hy2⟩ | hy2
      · cases hy; cases hy2; rfl
      · have := (hs.lt _ _ _ _ _ hy2).1; omega
    · have := (hs.lt _ _ _ _ _ hy).1; omega
  · refine ⟨by omega, by simp, fun g' b' sh' n' hg' => ?_⟩
    rcases addG_case _ _ _ hg' with ⟨rfl, hy⟩ | hy
    · cases hy
      refine ⟨Nat.le_refl _, by omega, by simp, fun _ => by simp, by simp, fun _ => ⟨_, (0, 0), heap_push_self _ _, by simp; omega, ?_, fun _ i _ h2 => by simp at h2, by simp⟩⟩
      rw [List.take_of_length_le (by simp), List.drop_append_of_le_length hoff]
      have ea : (((ol ++ l) ++ rest).toArray.toList).take (cells.length + items.length - off) = ol ++ l := by
        simp only []
        rw [List.take_append_of_le_length (by simp; omega), List.take_of_length_le (by simp; omega)]
      rw [ea]
      exact (RelC.ext hext hol).append (RelL.ext hext hl).c
    · obtain ⟨s1, s2, s3, s4, s4', s5⟩ := q2 g' b' sh' n' hy
      refine ⟨by omega, s2, by simp; omega, fun q => by omega, by simp, fun hfl => ?_⟩
      obtain ⟨arr1, fz1, b1, b2, b3, b4, b5⟩ := s5 hfl
      rw [List.take_append_of_le_length s3]
      exact ⟨arr1, fz1, (heap_push_lt (hs.lt _ _ _ _ _ hy).1).trans b1, b2, RelC.ext hext b3, fun q => absurd q (Nat.ne_of_lt (Nat.lt_succ_of_le s1)), by simp⟩
end grow

/-- A slice's elements as they lie, of some of which nothing may be known. -/
theorem elems_raw {H : Heap} {G : Ghost} {w : World} (hs : Sim H G w) {nm g off len sz gen floor frz : Nat} {cap : Option Nat} {rx : Value} {cells : List V} {e : TypeId} {exact : Bool} (hx : Rel G w (.slice nm g off len sz cap) rx)
    (ho : H.get nm = some (.row cells e gen floor frz exact)) (hf : floor ≤ g) (hc : off + len * sz = cells.length) :
    ∃ ol, RelC G w (cells.drop off) ol ∧ (cells.drop off).length = len * sz ∧ ∀ w', w'.heap = w.heap → (Builtin.firstCells sz len rx).run P w' = .ok ol.toArray w' := by
  simp only [Rel] at hx
  obtain ⟨b, sh, m, ro, c, e', mm, e1, rfl, e2, e3, e4, e5, e6, e7, e8⟩ := hx
  have hp : Rel G w (.ptr nm g off (off + len * sz)) (.pointer (some ⟨b, off - sh, none⟩)) := by
    simp only [Rel]; exact ⟨b, sh, m, e1, e3, e4, rfl⟩
  obtain ⟨a, l, ha, hh, hr, hl⟩ := readRaw_sound hs hp ho hf (Nat.le_refl _) (Nat.le_of_eq hc)
  cases ha
  have hl' := hr.length
  have ht : (cells.drop off).take (len * sz) = cells.drop off := List.take_of_length_le (by simp; omega)
  rw [ht] at hr hl hl'
  refine ⟨l, hr, hl, fun w' hw' => ?_⟩
  simp only [Builtin.firstCells]
  rcases e5 with e5 | e5
  · have : ro = off - sh := by omega
    subst this
    have hrun := (hh.of_heap hw').run P
    rw [← hl', hl] at hrun
    exact hrun
  · have h0 : len = 0 := by omega
    subst h0
    simp only [Nat.zero_mul] at hl
    have : l = [] := List.length_eq_zero_iff.1 (by omega)
    subst this
    simp [loadCells, loadCellsFrom]

theorem append_family {H : Heap} {G : Ghost} {w : World} (hs : Sim H G w) {t u ty e : Nat} {du : TypeDesc} {i : TypeInfo} {z : Value} (ht : P.underlying t = some (.slice e)) (hu : P.underlying u = some du) (hdu : (∃ e', du = .slice e') ∨ du = .string)
    (hi : P.info? e = some i) (hz0 : i.zero = some z) (hzc : z.cells.size = i.size) {nm g off len n b sh m ro c e' mm floor frz : Nat} {exact : Bool} {cells items : List V} {rx : Value} {l : List Value}
    (ho : H.get nm = some (.row cells e g floor frz exact)) (e1 : G nm g = some (b, sh, m)) (hl : RelL G w items l) (hone : items.all V.oneCell = true) (hll : items.length = n * i.size)
    (hrun : ∀ w', w'.heap = w.heap → (Builtin.lenOf rx).run P w' = .ok n w' ∧ (Builtin.firstCells i.size n rx).run P w' = .ok l.toArray w')
    (hold : ∃ ol, RelC G w (cells.drop off) ol ∧ (cells.drop off).length = len * i.size ∧ ∀ w', w'.heap = w.heap → (Builtin.firstCells i.size len (.slice (some ⟨b, ro, none⟩) len c)).run P w' = .ok ol.toArray w')
    (hn : n ≠ 0) (c2 : off + len * i.size = cells.length) (c3 : frz ≤ cells.length) (e2 : len ≤ c) (e3 : sh ≤ off) (e5 : ro + sh = off ∨ c = 0) (e7 : w.shape? b = some (e', mm)) (e8 : ro + c * i.size ≤ mm)
    (hb1 : (len + n) * i.bytes ≤ room) (hb2 : len + n ≤ room) (u1 : H.ro ≤ nm) :
    ∃ rv w' G', (Builtin.append_ #[t, u] ty #[.slice (some ⟨b, ro, none⟩) len c, rx]).run P w = .ok rv w' ∧
      Step H G w { H with objs := H.objs.set nm (.row (cells ++ items) e (g + 1) floor frz false) } G' w' ∧ Rel G' w' (.slice nm (g + 1) off (len + n) i.size none) rv := by
  have hob := hs.obj nm _ (hs.lt _ _ _ _ _ e1).2 ho
  have hm : m = cells.length := (hob.2.2 g b sh m e1).2.2.2.1 rfl
  have hsm : sh ≤ m := (hob.2.2 g b sh m e1).2.1
  obtain ⟨arr, fz, a1, a2, _, a4, _⟩ := (hob.2.2 g b sh m e1).2.2.2.2.2 hob.1
  clear hob
  have hmul : (len + n) * i.size = len * i.size + n * i.size := Nat.add_mul _ _ _
  have hlt := hs.lt _ _ _ _ _ e1
  have hll' := hl.length
  have hshape : mm = arr.size := by
    simp only [World.shape?, a1, Option.some.injEq, Prod.mk.injEq] at e7
    exact e7.2.symm
  by_cases hfit : len + n ≤ c
  · clear hb1 hb2
    have hro' : ro = off - sh := by rcases e5 with e5 | e5 <;> omega
    have hcap : (len + n) * i.size ≤ c * i.size := Nat.mul_le_mul_right _ hfit
    have hpos : off - sh + len * i.size = m - sh := by omega
    have hfits : m - sh + l.length ≤ arr.size := by omega
    have hst := run_storeCells_list P b (m - sh) e fz l 0 arr w a1 (fun j hj _ f2 => a4 rfl j (by omega) f2) (by omega) (RelL.oneCell hl hone)
    simp only [Nat.add_zero] at hst
    have hstep := hs.growIn ho e1 hl (arr' := (arr.toList.take (m - sh) ++ l ++ arr.toList.drop (m - sh + l.length)).toArray) a1 rfl (by simp; omega) hfits u1
    refine ⟨_, _, _, run_append_fits ht hu hdu hi (hrun w rfl).1 (hrun w rfl).2 hfit (fun a ha => ?_) (fun h => by cases h), hstep, ?_⟩
    · cases ha
      rw [addr_add, hro', hpos]
      exact hst
    · have e7' := hstep.ext.shp _ _ e7
      simp only [Rel]
      exact ⟨b, sh, m + items.length, ro, c, e', mm, addG_self _ _ _ _, rfl, hfit, e3, by omega, e5, (fun k hk => by cases hk), e7', e8⟩
  · obtain ⟨ol, o1, o2, o3⟩ := hold
    obtain ⟨w1, C, rest, hw1, hwo, hC, hrest, hr⟩ := run_append_grows (w := w) (ty := ty) ht hu hdu hi hz0 (base := some ⟨b, ro, none⟩) (sLen := len) (sCap := c) (x := rx) (l := l) (old := ol) hrun o3 (by omega) hb1 hb2
    clear hb1 hb2
    have hstep := Step.pushSame hs hw1 hwo (fun hs1 => hs1.growNew ho hlt.2 (RelL.same hw1 hl) (RelC.same hw1 o1) (by omega) rest u1)
    have hsz1 : w1.heap.size = w.heap.size := by rw [hw1]
    refine ⟨_, _, _, hr, hstep, ?_⟩
    have hol := o1.length
    simp only [Rel]
    exact ⟨w1.heap.size, off, cells.length + items.length, 0, C, e, _, addG_self _ _ _ _, by rw [hsz1], hC, Nat.le_refl _, by omega, .inl (by omega), (fun k hk => by cases hk), shape_new, grown_bound hzc hrest (by simp; omega) hC⟩

/-- APPEND. -/
theorem append_sound {H H' : Heap} {G : Ghost} {w : World} (hs : Sim H G w) {t u ty e : Nat} {du : TypeDesc} {ei : TI} (ht : P.underlying t = some (.slice e)) (hu : P.underlying u = some du) (hdu : (∃ e', du = .slice e') ∨ du = .string)
    (he : typeOf P e = some ei) {s x v : V} {rs rx : Value} (hrs : Rel G w s rs) (hrx : Rel G w x rx) (h : appendV H e ei.size ei.bytes s x = some (v, H')) :
    ∃ rv w' G', (Builtin.append_ #[t, u] ty #[rs, rx]).run P w = .ok rv w' ∧ Step H G w H' G' w' ∧ Rel G' w' v rv := by
  obtain ⟨hue, _, i, z, hi, hsz, hby, hz0, _, _, hzc⟩ := typeOf_some he
  simp only [appendV, Option.bind_eq_some_iff] at h
  obtain ⟨⟨n, items⟩, h1, h⟩ := h
  obtain ⟨l, hl, hll, hrun⟩ := elems_sound hs hrx h1
  have hll' := hl.length
  simp only at h
  rw [← hsz] at hrun
  cases s with
  | nils =>
    simp only [Rel] at hrs
    subst hrs
    simp only [cond_eq_ite, Nat.beq_eq, Bool.and_eq_true, Nat.ble_eq] at h
    split at h
    · rename_i hn
      subst hn
      cases h
      exact ⟨_, w, G, run_append_fits ht hu hdu hi (hrun w rfl).1 (hrun w rfl).2 (Nat.le_refl _) (fun _ h => by cases h) (fun _ => rfl), Step.refl hs, by simp [Rel]⟩
    · rename_i hn
      split at h
      · rename_i hc
        cases h
        obtain ⟨w1, C, rest, hw1, hwo, hC, hrest, hr⟩ := run_append_grows (w := w) (ty := ty) ht hu hdu hi hz0 (base := none) (sLen := 0) (sCap := 0) (x := rx) (l := l) (old := []) hrun (fun w' _ => by simp [Builtin.firstCells]) (by omega) (by rw [Nat.zero_add, hby]; exact hc.1) (by rw [Nat.zero_add]; exact hc.2)
        simp only [Nat.zero_add, List.nil_append] at hr hC hrest
        have hstep := Step.pushSame hs hw1 hwo (fun hs1 => hs1.newRow (RelL.same hw1 hl) rest e false (by simp))
        have hsz1 : w1.heap.size = w.heap.size := by rw [hw1]
        refine ⟨_, _, _, hr, hstep, ?_⟩
        simp only [Rel]
        exact ⟨w1.heap.size, 0, items.length, 0, C, e, _, addG_self _ _ _ _, by rw [hsz1], hC, Nat.le_refl _, by rw [Nat.zero_add, hll]; exact Nat.le_refl _, .inl rfl, (fun k hk => by cases hk), shape_new, grown_bound hzc hrest (by omega) hC⟩
      · cases h
  | slice nm g off len sz' cap =>
    have hrs0 := hrs
    simp only [Rel] at hrs
    obtain ⟨b, sh, m, ro, c, e', mm, e1, rfl, e2, e3, e4, e5, e6, e7, e8⟩ := hrs
    simp only [cond_eq_ite, Nat.beq_eq, Bool.not_eq_true', Bool.and_eq_true, Nat.ble_eq, Bool.and_eq_false_iff] at h
    split at h
    · cases h
    rename_i hz1
    have hz1 : ei.size = sz' := by
      by_cases hq : ei.size = sz'
      · exact hq
      · exact absurd (by rw [← Bool.not_eq_true, Nat.beq_eq]; exact hq) hz1
    subst hz1
    split at h
    · rename_i hn
      subst hn
      cases h
      have hl0 : l = [] := List.length_eq_zero_iff.1 (by rw [← hll', hll]; simp)
      subst hl0
      exact ⟨_, w, G, run_append_fits ht hu hdu hi (hrun w rfl).1 (hrun w rfl).2 e2 (fun _ _ => by simp [storeCells]) (fun h => by cases h), Step.refl hs, hrs0⟩
    rename_i hn
    split at h
    · cases h
    rename_i hb
    have hb : (len + n) * ei.bytes ≤ room ∧ len + n ≤ room := by
      constructor <;> (apply Nat.le_of_not_lt; intro hlt; apply hb)
      · left; rw [← Bool.not_eq_true, Nat.ble_eq]; omega
      · right; rw [← Bool.not_eq_true, Nat.ble_eq]; omega
    split at h
    · cases h
    rename_i hone
    have hone : items.all V.oneCell = true := by
      cases hq : items.all V.oneCell with
      | true => rfl
      | false => exact absurd hq hone
    have hold : ∀ cs, elemsV H ei.size (.slice nm g off len ei.size cap) = some (len, cs) → ∃ ol, RelL G w cs ol ∧ cs.length = len * ei.size ∧ ∀ w', w'.heap = w.heap → (Builtin.firstCells i.size len (.slice (some ⟨b, ro, none⟩) len c)).run P w' = .ok ol.toArray w' := by
      intro cs hcs
      obtain ⟨ol, o1, o2, o3⟩ := elems_sound (P := P) hs hrs0 hcs
      exact ⟨ol, o1, o2, fun w' hw' => by rw [hsz]; exact (o3 w' hw').2⟩
    split at h
    · rename_i cells e'' gen floor frz exact ho
      obtain ⟨q1, q0, q2⟩ := hs.obj nm _ (hs.lt _ _ _ _ _ e1).2 ho
      obtain ⟨r1, r2, r3, r4, r4', r5⟩ := q2 g b sh m e1
      split at h
      · -- a known capacity
        rename_i k
        obtain ⟨hk, hkn⟩ := e6 k rfl
        subst hk
        split at h
        · rename_i hfit
          simp only [Option.map_eq_some_iff, Prod.mk.injEq] at h
          obtain ⟨H1, h2, rfl, rfl⟩ := h
          have hcpos : c ≠ 0 := by omega
          have hro' : ro = off - sh := by rcases e5 with e5 | e5 <;> omega
          obtain ⟨p1, p2, p3⟩ := writeCells_row h2 ho
          have hm := r4 p1
          have hmul : (len + n) * ei.size = len * ei.size + n * ei.size := Nat.add_mul _ _ _
          have hp : Rel G w (.ptr nm g (off + len * ei.size) (off + (len + n) * ei.size)) (.pointer (some ⟨b, off + len * ei.size - sh, none⟩)) := by
            simp only [Rel]
            exact ⟨b, sh, m, e1, by omega, by omega, rfl⟩
          obtain ⟨a, w', ha, hst, hstep⟩ := writeCells_sound hs hp hl h2 P
          cases ha
          refine ⟨_, w', G, run_append_fits ht hu hdu hi (hrun w rfl).1 (hrun w rfl).2 hfit (fun a ha => ?_) (fun h => by cases h), hstep, ?_⟩
          · cases ha
            rw [addr_add, hsz, hro', show off - sh + len * ei.size = off + len * ei.size - sh by omega]
            exact hst
          · refine Rel.ext hstep.ext ?_
            simp only [Rel]
            exact ⟨b, sh, m, ro, c, e', mm, e1, rfl, hfit, e3, by omega, e5, e6, e7, e8⟩
        · rename_i hfit
          simp only [Option.map_eq_some_iff, Prod.mk.injEq] at h
          obtain ⟨⟨len', old⟩, h2, rfl, rfl⟩ := h
          have hlen' : len' = len := by
            simp only [elemsV, cond_eq_ite, Nat.beq_eq, if_true, Option.map_eq_some_iff, Prod.mk.injEq] at h2
            obtain ⟨_, _, h3, _⟩ := h2
            exact h3.symm
          subst hlen'
          obtain ⟨ol, o1, o2, o3⟩ := hold old h2
          obtain ⟨w1, C, rest, hw1, hwo, hC, hrest, hr⟩ := run_append_grows (w := w) (ty := ty) ht hu hdu hi hz0 (base := some ⟨b, ro, none⟩) (sLen := len') (sCap := c) (x := rx) (l := l) (old := ol) hrun o3 (by omega) (by rw [hby]; exact hb.1) hb.2
          have hstep := Step.pushSame hs hw1 hwo (fun hs1 => hs1.newRow (RelL.same hw1 (o1.append hl)) rest e false (by simp))
          have hsz1 : w1.heap.size = w.heap.size := by rw [hw1]
          refine ⟨_, _, _, hr, hstep, ?_⟩
          have hol := o1.length
          have hmul : (len' + n) * ei.size = len' * ei.size + n * ei.size := Nat.add_mul _ _ _
          simp only [Rel]
          exact ⟨w1.heap.size, 0, (old ++ items).length, 0, C, e, _, addG_self _ _ _ _, by rw [hsz1], hC, Nat.le_refl _, by simp; omega, .inl rfl, (fun k hk => by cases hk), shape_new, grown_bound hzc hrest (by simp; omega) hC⟩
      · -- an unknown capacity: the family grows
        split at h
        · rename_i hc
          obtain ⟨⟨⟨⟨⟨c1, c2⟩, c3⟩, c4⟩, c5⟩, c6⟩ := hc
          subst c1
          subst c6
          have c5 : ei.size ≠ 0 := by
            intro h0
            rw [h0] at c5
            simp at c5
          simp only [Option.map_eq_some_iff, Prod.mk.injEq] at h
          obtain ⟨H1, h2, rfl, rfl⟩ := h
          obtain ⟨u1, rfl⟩ := upd_some h2
          have hraw := elems_raw (P := P) hs hrs0 ho q1 c2
          rw [← hsz] at *
          exact append_family hs ht hu hdu hi hz0 hzc ho e1 hl hone hll hrun hraw hn c2 c3 e2 e3 e5 e7 e8 (by rw [hby]; exact hb.1) hb.2 u1
        · cases h
    · cases h
  | _ => simp at h

end
end Go.E2
