/- E2: single operations against the model's, seventh part. -/
import Derived.Test.YtjbefleabibmmaaGreatDoorE2l
import Derived.Lib.UnsafeStr
import Derived.Laws.BytesArg
namespace Go.E2
open Go

section
variable {P : Program} {o : Oper} {a : Act} {H : Heap} {G : Ghost} {w : World} {fr : Fr}

theorem zero_size {el : TypeId} {ei : TI} (hel : typeOf P el = some ei) {z : Value} (hzi : (P.info? el).bind (·.zero) = some z) : z.cells.size = ei.size := by
  obtain ⟨_, _, i, z', hi, _, _, hz', _, _, hh⟩ := typeOf_some hel
  rw [hi] at hzi
  simp only [Option.bind_some, hz', Option.some.injEq] at hzi
  rw [← hzi]; exact hh

theorem op_makeSlice (hs : Sim H G w) (e : SimFr G w fr a) {t el : TypeId} {ti ei : TI} (ht : typeOf P t = some ti) (hu : ti.under = .slice el) (hel : typeOf P el = some ei) {x y : Operand} (ho : o.op = .makeSlice t x y) {l c : Int}
    (hx : opd fr H x = some (.int .i64 l)) (hy : opd fr H y = some (.int .i64 c)) (h0 : 0 ≤ l) (h1 : l ≤ c) (h2 : c * (ei.bytes : Int) ≤ 281474976710656) (h3 : c ≤ 281474976710656) :
    OpOk P o a H G w (newRowV H (List.replicate c.toNat ei.zero.cells).flatten el) (.val (.slice H.next 0 0 l.toNat ei.size (some c.toNat))) := by
  obtain ⟨z, hz, hzi, hr⟩ := run_zeroValue' hel w
  have hzs := zero_size hel hzi
  have hus : P.underlying t = some (.slice el) := hu ▸ (typeOf_some ht).1
  have r1 := opd_sound hs e hx
  have r2 := opd_sound hs e hy
  simp only [Rel] at r1 r2
  have hz0 := zero_cells (relL_cells (hr G w)) c.toNat
  rw [hzs] at hz0
  have hstep := hs.newRow hz0 [] el true (fun _ => rfl)
  simp only [List.append_nil, Array.toArray_toList] at hstep
  have hzl : ei.zero.cells.length = ei.size := (typeOf_some hel).2.2.choose_spec.choose_spec.2.2.2.2.2.1
  have hlen : (List.replicate c.toNat ei.zero.cells).flatten.length = c.toNat * ei.size := by rw [flatten_len, hzl]
  obtain ⟨_, _, i, z', hi, _, hby, _⟩ := typeOf_some hel
  have hw1 : IntKind.i64.wrap l = l := IntWalk.i64_in _ (by omega)
  have hw2 : IntKind.i64.wrap c = c := IntWalk.i64_in _ (by omega)
  have hlb : (i.bytes : Int) * l ≤ 281474976710656 := by
    have : (i.bytes : Int) * l ≤ (i.bytes : Int) * c := Int.mul_le_mul_of_nonneg_left h1 (by omega)
    rw [hby] at this ⊢
    rw [Int.mul_comm] at h2
    omega
  have hcb : (i.bytes : Int) * c ≤ 281474976710656 := by rw [hby, Int.mul_comm]; exact h2
  refine ⟨.slice (some ⟨w.heap.size, 0, none⟩) l.toNat c.toNat, _, _, ?_, hstep, ?_⟩
  · have n1 : ¬ (c < 0) := by omega
    have n2 : ¬ (281474976710656 < (i.bytes : Int) * c) := by omega
    have n3 : ¬ (l < 0) := by omega
    have n4 : ¬ (c < l) := by omega
    by_cases hk : c.toNat * ei.size = 0
    · simp [execOp, ho, Instr.makeSlice, run_underlying hus, r1, r2, asInt, asIntOf, typeInfo, hi, hw1, hw2, n1, n2, n3, n4, run_sizeOf' hel, hk, run_newRow, Array.range_zero']
    · simp [execOp, ho, Instr.makeSlice, run_underlying hus, r1, r2, asInt, asIntOf, typeInfo, hi, hw1, hw2, n1, n2, n3, n4, run_sizeOf' hel, hk, run_newRow, hz, hzs]
  · exact rel_newSlice rfl (by omega) hlen.symm (by rw [hlen]; simp)

theorem one_arg {c : Go.Call} {x : V} (hr : RelL G w [x] (c.args.map a.eval).toList) : ∃ rx, c.args.map a.eval = #[rx] ∧ Rel G w x rx := by
  simp only [RelL] at hr
  obtain ⟨rx, xs, h1, h2, rfl⟩ := hr
  exact ⟨rx, by apply Array.ext'; simpa using h1, h2⟩

theorem two_args {c : Go.Call} {x y : V} (hr : RelL G w [x, y] (c.args.map a.eval).toList) : ∃ rx ry, c.args.map a.eval = #[rx, ry] ∧ Rel G w x rx ∧ Rel G w y ry := by
  simp only [RelL] at hr
  obtain ⟨rx, xs, h1, h2, ry, ys, rfl, h3, rfl⟩ := hr
  exact ⟨rx, ry, by apply Array.ext'; simpa using h1, h2, h3⟩

theorem toArr {α : Type} {x : Array α} {l : List α} (h : x.toList = l) : x = l.toArray := by apply Array.ext'; simpa using h

theorem op_len (hs : Sim H G w) (e : SimFr G w fr a) {c : Go.Call} (ho : o.op = .call c) (hc : c.callee = .builtin .len) {x : V} {t : TypeId} {n : Nat} (hargs : opds fr H c.args.toList = some [x]) (hat : c.argTypes.toList = [t])
    (hrun : ∀ rx, Rel G w x rx → ∀ ty, (Builtin.len_ #[t] ty #[rx]).run P w = .ok (goInt n) w) : OpOk P o a H G w H (.val (goIntV n)) := by
  obtain ⟨hr, cs, hb⟩ := op_builtin hs e ho hc hargs (P := P)
  obtain ⟨rx, h1, h2⟩ := one_arg hr
  rw [h1, toArr hat] at hb
  refine OpOk.pure hs (x := goInt n) ?_ (by simp [goIntV, goInt, Rel])
  rw [hb]
  simp only [builtin, Sem.run_bind, hrun rx h2, Result.andThen_ok, Sem.run_pure]

theorem op_append (hs : Sim H G w) (e : SimFr G w fr a) {c : Go.Call} (ho : o.op = .call c) (hc : c.callee = .builtin .append) {s x v : V} {H' : Heap} {t u el : TypeId} {ti ui ei : TI} (hargs : opds fr H c.args.toList = some [s, x]) (hat : c.argTypes.toList = [t, u])
    (ht : typeOf P t = some ti) (hu : typeOf P u = some ui) (hti : ti.under = .slice el) (hui : (∃ e', ui.under = .slice e') ∨ ui.under = .string) (hel : typeOf P el = some ei) (h : appendV H el ei.size ei.bytes s x = some (v, H')) : OpOk P o a H G w H' (.val v) := by
  obtain ⟨hr, cs, hb⟩ := op_builtin hs e ho hc hargs (P := P)
  obtain ⟨rx, ry, h1, h2, h3⟩ := two_args hr
  rw [h1, toArr hat] at hb
  obtain ⟨rv, w', G', e1, e2, e3⟩ := append_sound (ty := o.type) hs (hti ▸ (typeOf_some ht).1) (typeOf_some hu).1 hui hel h2 h3 h
  refine ⟨rv, w', G', ?_, e2, e3⟩
  rw [hb]
  simp only [builtin, Sem.run_bind, e1, Result.andThen_ok, Sem.run_pure]

theorem bytesOfV_rel {G : Ghost} {w : World} : ∀ {cs : List V} {l : List UInt8} {rl : List Value}, RelL G w cs rl → bytesOfV cs = some l → rl = l.map fun b => Value.int .u8 b.toNat
  | [], l, rl, hr, h => by
    simp only [RelL] at hr
    simp only [bytesOfV, Option.some.injEq] at h
    subst h; subst hr; rfl
  | v :: cs, l, rl, hr, h => by
    simp only [RelL] at hr
    obtain ⟨x, xs, rfl, h1, h2⟩ := hr
    unfold bytesOfV at h
    split at h
    · rename_i heq; cases heq
    · rename_i n vs heq
      cases heq
      split at h
      · rename_i hb
        simp only [Option.map_eq_some_iff] at h
        obtain ⟨l', h3, rfl⟩ := h
        simp only [Rel] at h1
        subst h1
        rw [bytesOfV_rel h2 h3]
        simp only [List.map_cons, List.cons.injEq, Value.int.injEq, true_and, and_true]
        rw [UInt8.toNat_ofNat']
        omega
      · cases h
    · cases h

theorem heap_freeze_ne {w : World} {b b' : Nat} {n : Nat} (h : b' ≠ b) : (w.freeze ⟨b, 0, none⟩ n).heap[b']? = w.heap[b']? := by
  unfold World.freeze
  split
  · rfl
  · simp only [Array.getElem?_modify]
    rw [if_neg (fun e => h e.symm)]

theorem ne_nil_of {l : List UInt8} {n : Int} (h : l.length = n.toNat) (h0 : 0 < n) : l ≠ [] := by
  intro hq
  subst hq
  simp at h
  omega

theorem int_len {l : List UInt8} {n : Int} (h : l.length = n.toNat) (h0 : 0 < n) : n = (l.length : Int) := by omega

theorem len_small {l : List UInt8} {n : Int} (h : l.length = n.toNat) (h1 : n ≤ 140737488355328) : l.length ≤ 9223372036854775807 := by omega

theorem toNat_ne {n : Int} (h0 : 0 < n) : n.toNat ≠ 0 := by omega

/-- (a small fact) -/
theorem le_three {n m k : Nat} {a b : Nat} (h1 : a = n) (h2 : n ≤ m) (h3 : m - 0 ≤ k) (h4 : b = a) : b ≤ k := by omega

/-- FREEZING the first cells of a name's newest block. -/
theorem Sim.freeze (hs : Sim H G w) {nm g b n : Nat} {cells : List V} {elem : TypeId} {floor frz : Nat} {exact : Bool}
    (ho : H.get nm = some (.row cells elem g floor frz exact)) (hg : G nm g = some (b, 0, n)) (hro : H.ro ≤ nm) {arr : Array Value} {fz : Nat × Nat} (a1 : w.heap[b]? = some (.cells arr elem fz)) {m : Nat} (hm : m ≠ 0) :
    Step H G w { H with objs := H.objs.set nm (.row cells elem g floor (max frz m) exact) } G (w.freeze ⟨b, 0, none⟩ m) := by
  obtain ⟨q1, q0, q2⟩ := hs.obj nm _ (hs.lt _ _ _ _ _ hg).2 ho
  have hsz : (w.freeze ⟨b, 0, none⟩ m).heap.size = w.heap.size := by unfold World.freeze; split <;> simp
  have hb : ∃ fz', (w.freeze ⟨b, 0, none⟩ m).heap[b]? = some (.cells arr elem fz') ∧ ∀ i, m ≤ i → i < fz'.2 → i < fz.2 := by
    unfold World.freeze
    rw [if_neg hm]
    obtain ⟨lo, hi⟩ := fz
    refine ⟨if (lo == hi) = true then (0, 0 + m) else (min lo 0, max hi (0 + m)), by simp only [Array.getElem?_modify, if_true, a1, Option.map_some], fun i h1 h2 => ?_⟩
    split at h2
    · simp only at h2; omega
    · simp only at h2 ⊢; omega
  obtain ⟨fz', hb1, hb2⟩ := hb
  refine hs.turn nm _ (fun m => get_upd m) (Nat.le_refl _) (fun _ h _ => h) rfl rfl hro (hs.lt _ _ _ _ _ hg).2 (.inr (by rw [ho]; simp)) (fun _ _ _ h => h) (fun _ _ _ h _ => h) (by rw [hsz]; exact Nat.le_refl _)
    (fun g' b' sh' n' hg' => ⟨by rw [hsz]; exact (hs.lt _ _ _ _ _ hg').1, .inr ⟨_, _, hg'⟩⟩) (fun _ _ _ _ _ _ _ h1 h2 _ => (hs.inj _ _ _ _ _ _ _ _ _ h1 h2).2) (fun b' hb' hne => heap_freeze_ne (fun e => hne g 0 n (e ▸ hg))) ?_ ?_ (by unfold World.freeze; split <;> exact ⟨rfl, rfl⟩)
  · intro b' x hx
    by_cases hbb : b' = b
    · subst hbb
      simp only [World.shape?, a1, hb1] at hx ⊢
      exact hx
    · simp only [World.shape?, heap_freeze_ne hbb] at hx ⊢; exact hx
  · intro hext
    refine ⟨q1, q0, fun g' b' sh' n' hg' => ?_⟩
    obtain ⟨s1, s2, s3, s4, s4', s5⟩ := q2 g' b' sh' n' hg'
    refine ⟨s1, s2, s3, s4, s4', fun hfl => ?_⟩
    obtain ⟨arr1, fz1, t1, t2, t3, t4, t5⟩ := s5 hfl
    by_cases hbb : b' = b
    · subst hbb
      have hsh : (0 : Nat) = sh' := (hs.inj _ _ _ _ _ _ _ _ _ hg hg').2
      subst hsh
      rw [a1] at t1
      cases t1
      exact ⟨arr, fz', hb1, t2, RelC.ext hext t3, fun hgg i h1 h2 => t4 hgg i (by omega) (hb2 i (by omega) h2), t5⟩
    · exact ⟨arr1, fz1, (heap_freeze_ne hbb).trans t1, t2, RelC.ext hext t3, fun hgg i h1 h2 => t4 hgg i (by omega) h2, t5⟩

theorem op_unsafeString (hs : Sim H G w) (e : SimFr G w fr a) {c : Go.Call} (ho : o.op = .call c) (hc : c.callee = .builtin .unsafeString) {nm g lim : Nat} {n : Int} {pt it elem : TypeId} {ti ei : TI} {cells : List V} {floor frz : Nat} {exact : Bool}
    (hargs : opds fr H c.args.toList = some [.ptr nm g 0 lim, .int .i64 n]) (hat : c.argTypes.toList = [pt, it]) (ht : typeOf P pt = some ti) (hti : ti.under = .pointer elem) (hel : typeOf P elem = some ei) (hsz : ei.size = 1)
    (hob : H.get nm = some (.row cells elem g floor frz exact)) (hn0 : 0 < n) (hn1 : n ≤ 140737488355328) {cs : List V} (hcs : readCells H n.toNat (.ptr nm g 0 lim) = some cs) {l : List UInt8} (hl : bytesOfV cs = some l) {H' : Heap} (hu : H.upd nm (.row cells elem g floor (max frz n.toNat) exact) = some H') :
    OpOk P o a H G w H' (.val (.str l)) := by
  obtain ⟨hr, cs', hb⟩ := op_builtin hs e ho hc hargs (P := P)
  obtain ⟨rx, ry, h1, h2, h3⟩ := two_args hr
  rw [h1, toArr hat] at hb
  obtain ⟨ad, rl, hp, hh, hrl, hlen⟩ := readCells_sound hs h2 hcs
  simp only [Rel] at h2 h3
  obtain ⟨b, sh, m, hg, q1, q2, hv⟩ := h2
  subst h3
  have hsh : sh = 0 := by omega
  subst hsh
  rw [hv] at hp
  cases hp
  obtain ⟨u1, rfl⟩ := upd_some hu
  obtain ⟨p1, p0, p2⟩ := hs.obj nm _ (hs.lt _ _ _ _ _ hg).2 hob
  obtain ⟨_, _, _, _, _, p5⟩ := p2 g b 0 m hg
  obtain ⟨arr, fz, a1, a2, _, _, _⟩ := p5 p1
  have hrl' := bytesOfV_rel hrl hl
  have hll : l.length = n.toNat := by
    have := hrl.length
    rw [hrl', List.length_map] at this
    omega
  have hshp : w.shape? b = some (elem, arr.size) := by simp only [World.shape?, a1]
  have hcc : P.cellsOf elem = 1 := by
    obtain ⟨_, _, i, z, hi, hs', _⟩ := typeOf_some hel
    simp [Program.cellsOf, hi, hs', hsz]
  have hlm : n.toNat ≤ m := by
    clear p5 p2 a1 hcc
    simp only [readCells, hob, cond_eq_ite, Bool.and_eq_true, Nat.ble_eq] at hcs
    split at hcs
    · rename_i hq
      exact Nat.le_trans (Nat.zero_add n.toNat ▸ hq.1.2) q2
    · cases hcs
  have hle : l.length ≤ arr.size := le_three rfl hlm a2 hll
  have hne : l ≠ [] := ne_nil_of hll hn0
  have hnl : (n : Int) = (l.length : Int) := int_len hll hn0
  have hrun := Lib.run_unsafeString_row (P := P) w pt it o.type elem (hti ▸ (typeOf_some ht).1) hcc b arr.size hshp l hne hle (len_small hll hn1) (fun j x hj => by
    have := hh j (.int .u8 x.toNat) (by rw [hrl']; simp [hj])
    exact this)
  refine ⟨.string ⟨l.toArray⟩, _, G, ?_, hs.freeze hob hg u1 a1 (m := n.toNat) (toNat_ne hn0), by simp only [Rel]⟩
  rw [hb, hv, hnl]
  simp only [builtin, Sem.run_bind, hrun, Result.andThen_ok, Sem.run_pure, Nat.sub_zero]
  rfl

theorem op_unsafeStringNil (hs : Sim H G w) (e : SimFr G w fr a) {c : Go.Call} (ho : o.op = .call c) (hc : c.callee = .builtin .unsafeString) {pt it : TypeId}
    (hargs : opds fr H c.args.toList = some [.nilp, .int .i64 0]) (hat : c.argTypes.toList = [pt, it]) : OpOk P o a H G w H (.val (.str [])) := by
  obtain ⟨hr, cs', hb⟩ := op_builtin hs e ho hc hargs (P := P)
  obtain ⟨rx, ry, h1, h2, h3⟩ := two_args hr
  rw [h1, toArr hat] at hb
  simp only [Rel] at h2 h3
  subst h2; subst h3
  refine OpOk.pure hs (x := .string .empty) ?_ (by simp only [Rel]; rfl)
  rw [hb]
  simp only [builtin, Sem.run_bind, Lib.run_unsafeString_none, Result.andThen_ok, Sem.run_pure]

/-- A slice of bytes made a string. -/
theorem op_convBytes (hs : Sim H G w) (e : SimFr G w fr a) {src dst el : TypeId} {si di ei : TI} (hsi : typeOf P src = some si) (hdi : typeOf P dst = some di) (hel : typeOf P el = some ei) (hus : si.under = .slice el) (hue : ei.under = .int .u8)
    (hud : di.under = .string) {x : Operand} (ho : o.op = .convert src dst x) {p : V} (hp : opd fr H x = some p) (hps : ∀ s, p ≠ .str s) {r : Nat × List V} (hr : elemsV H 1 p = some r) {l : List UInt8} (hl : bytesOfV r.2 = some l) : OpOk P o a H G w H (.val (.str l)) := by
  have hrel := opd_sound hs e hp
  have hu1 : P.underlying src = some (.slice el) := hus ▸ (typeOf_some hsi).1
  have hu2 : P.underlying dst = some .string := hud ▸ (typeOf_some hdi).1
  have hu3 : P.underlying el = some (.int .u8) := hue ▸ (typeOf_some hel).1
  obtain ⟨n, cs⟩ := r
  have hex : execOp a.eval o = (do let v ← convert src dst (a.eval x); pure (.value v)) := by simp only [execOp, ho]
  generalize a.eval x = rx at hrel hex
  obtain ⟨rl, h1, h2, h3⟩ := elems_sound hs hrel hr
  have h4 := (h3 w rfl).2
  have hrl := bytesOfV_rel h1 hl
  cases p with
  | str s => exact (hps s rfl).elim
  | nils =>
    simp only [Rel] at hrel
    simp only [elemsV, Option.some.injEq, Prod.mk.injEq] at hr
    obtain ⟨rfl, rfl⟩ := hr
    simp only [bytesOfV, Option.some.injEq] at hl
    subst hl
    refine OpOk.pure hs (x := .string .empty) ?_ (by simp only [Rel]; rfl)
    simp only [hex, Sem.run_bind, hrel, run_convert_bytes_nil w src el hu1 hu3 0 0 dst hu2, Result.andThen_ok, Sem.run_pure]
  | slice nm g off len sz cap =>
    have hrel' := hrel
    simp only [Rel] at hrel'
    obtain ⟨b, sh, m, ro, c, e', k, e1, e2, _⟩ := hrel'
    subst e2
    have hlen : n = len := by
      simp only [elemsV, cond_eq_ite, Nat.beq_eq] at hr
      split at hr
      · simp only [Option.map_eq_some_iff, Prod.mk.injEq] at hr; obtain ⟨_, _, h, _⟩ := hr; exact h.symm
      · cases hr
    subst hlen
    have hlc : (loadCells ⟨b, ro, none⟩ n).run P w = .ok ((l.map fun x => (x.toNat : Int)).map (Value.int .u8)).toArray w := by
      simp only [Builtin.firstCells, Nat.mul_one] at h4
      rw [h4, hrl]
      simp [List.map_map]
    have hstr : (⟨ByteArray.empty.data ++ ((l.map fun x => (x.toNat : Int)).map fun n => UInt8.ofNat n.toNat).toArray⟩ : ByteArray) = ⟨l.toArray⟩ := by
      apply ByteArray.ext
      have hm : (l.map fun x => (x.toNat : Int)).map (fun n => UInt8.ofNat n.toNat) = l := by
        rw [List.map_map]
        conv => rhs; rw [← List.map_id l]
        refine List.map_congr_left fun x _ => ?_
        simp
      rw [hm]
      show #[] ++ l.toArray = l.toArray
      simp
    refine OpOk.pure hs (x := .string ⟨l.toArray⟩) ?_ (by simp only [Rel])
    simp only [hex, Sem.run_bind, run_convert_bytes_string w src dst el _ _ _ hu1 hu3 hu2, run_bytesToString w _ _ _ _ hlc, Result.andThen_ok, Sem.run_pure, foldl_push_bytes, hstr]
  | _ => simp [elemsV] at hr

end
end Go.E2
