/- E2: single operations against the model's, fourth part. -/
import Derived.Test.YtjbefleabibmmaaGreatDoorE2i
namespace Go.E2
open Go

section
variable {P : Program} {o : Oper} {a : Act} {H : Heap} {G : Ghost} {w : World} {fr : Fr}

/-! ### Operators -/
def plainVal : Value → Bool
  | .int .. | .float .. | .complex .. | .string _ => false
  | _ => true

theorem run_eql_any {t : TypeId} {x y : Value} (hx : plainVal x = true) : binOp .eql t x y = (do pure (.bool (← Op.equal t x y))) := by
  cases x <;> first
    | (simp [plainVal] at hx; done)
    | (cases y <;> rfl)

theorem run_neq_any {t : TypeId} {x y : Value} (hx : plainVal x = true) : binOp .neq t x y = (do pure (.bool (!(← Op.equal t x y)))) := by
  cases x <;> first
    | (simp [plainVal] at hx; done)
    | (cases y <;> rfl)

theorem rel_plain {x : V} {rx : Value} (hx : Rel G w x rx) (h1 : ∀ k n, x ≠ .int k n) (h2 : ∀ s, x ≠ .str s) : plainVal rx = true := by
  cases x with
  | int k n => exact absurd rfl (h1 k n)
  | str s => exact absurd rfl (h2 s)
  | ptr nm g off lim => simp only [Rel] at hx; obtain ⟨b, sh, n, _, _, _, rfl⟩ := hx; rfl
  | slice nm g off len sz cap => simp only [Rel] at hx; obtain ⟨b, sh, n, ro, c, e, m, _, rfl, _⟩ := hx; rfl
  | func f a b => simp only [Rel] at hx; obtain ⟨_, _, _, rfl, _⟩ := hx; rfl
  | iface t y => simp only [Rel] at hx; obtain ⟨y', rfl, _⟩ := hx; rfl
  | agg cs => simp only [Rel] at hx; obtain ⟨y', rfl, _⟩ := hx; rfl
  | tuple cs => simp only [Rel] at hx; obtain ⟨y', rfl, _⟩ := hx; rfl
  | map nm => simp only [Rel] at hx; obtain ⟨b, sh, n, _, rfl⟩ := hx; rfl
  | _ => simp only [Rel] at hx; subst hx; rfl

theorem eq_left {E : Env} {d : Nat} {t : TypeId} {x y : V} {b : Bool} (h : eqV E d t x y = some b) :
    (∃ k n k' n', x = .int k n ∧ y = .int k' n') ∨ (∃ s s', x = .str s ∧ y = .str s') ∨ ((∀ k n, x ≠ .int k n) ∧ (∀ s, x ≠ .str s)) := by
  cases d with
  | zero => simp [eqV] at h
  | succ d =>
    unfold eqV at h
    split at h
    · cases h
    · split at h <;> first
        | (exfalso; cases h; done)
        | exact .inl ⟨_, _, _, _, rfl, rfl⟩
        | exact .inr (.inl ⟨_, _, rfl, rfl⟩)
        | exact .inr (.inr ⟨fun _ _ => by simp, fun _ => by simp⟩)
        | (cases h; done)

theorem binOp_sound {E : Env} (hE : E.types = typeOf P) (hok : E.eqOk = plainEq P 20) {op : BinOp} {t : TypeId} {x y v : V} {rx ry : Value} (hx : Rel G w x rx) (hy : Rel G w y ry) (h : binOpV E op t x y = some v) :
    ∃ z, (∀ w', (binOp op t rx ry).run P w' = .ok z w') ∧ Rel G w v z := by
  unfold binOpV at h
  split at h
  · simp only [Rel] at hx hy
    subst hx; subst hy
    exact shift_sound t (.inl rfl) h
  · simp only [Rel] at hx hy
    subst hx; subst hy
    exact shift_sound t (.inr rfl) h
  · simp only [Rel] at hx hy
    subst hx; subst hy
    split at h
    · rename_i hk
      subst hk
      exact int_sound t h
    · cases h
  · simp only [Rel] at hx hy
    subst hx; subst hy
    exact str_sound t h
  · rename_i hn1 hn2
    simp only [Option.map_eq_some_iff] at h
    obtain ⟨b, h1, rfl⟩ := h
    rcases eq_left h1 with ⟨k, n, k', n', rfl, rfl⟩ | ⟨s, s', rfl, rfl⟩ | ⟨h2, h3⟩
    · exact (hn1 _ _ _ _ rfl rfl).elim
    · exact (hn2 _ _ rfl rfl).elim
    · rw [run_eql_any (rel_plain hx h2 h3)]
      have := eq_sound hE hok 1000 Op.maxDepth t _ _ _ _ b (by simp [Op.maxDepth]) h1 hx hy
      exact ⟨.bool b, fun w' => by simp [Op.equal, this], by simp [Rel]⟩
  · rename_i hn1 hn2
    simp only [Option.map_eq_some_iff] at h
    obtain ⟨b, h1, rfl⟩ := h
    rcases eq_left h1 with ⟨k, n, k', n', rfl, rfl⟩ | ⟨s, s', rfl, rfl⟩ | ⟨h2, h3⟩
    · exact (hn1 _ _ _ _ rfl rfl).elim
    · exact (hn2 _ _ rfl rfl).elim
    · rw [run_neq_any (rel_plain hx h2 h3)]
      have := eq_sound hE hok 1000 Op.maxDepth t _ _ _ _ b (by simp [Op.maxDepth]) h1 hx hy
      exact ⟨.bool (!b), fun w' => by simp [Op.equal, this], by simp [Rel]⟩
  · cases h

theorem op_unOp (hs : Sim H G w) (e : SimFr G w fr a) {op : UnOp} {t : TypeId} {x : Operand} (ho : o.op = .unOp op t x) {p v : V} (hp : opd fr H x = some p) (h : unOpV op p = some v) : OpOk P o a H G w H (.val v) := by
  have h1 := opd_sound hs e hp
  unfold unOpV at h
  split at h <;> try (cases h; done)
  all_goals
    cases h
    simp only [Rel] at h1
    refine OpOk.pure hs (by simp [execOp, ho, h1, Op.unary, Op.intArith, Op.intBits]; rfl) (by simp [Rel])

theorem op_convInt (hs : Sim H G w) (e : SimFr G w fr a) {src dst : TypeId} {si di : TI} (hsi : typeOf P src = some si) (hdi : typeOf P dst = some di) {k0 k : IntKind} (hus : si.under = .int k0) (hud : di.under = .int k) {x : Operand} (ho : o.op = .convert src dst x)
    {k' : IntKind} {n : Int} (hp : opd fr H x = some (.int k' n)) : OpOk P o a H G w H (.val (.int k (k.wrap n))) := by
  have h1 := opd_sound hs e hp
  simp only [Rel] at h1
  have hu1 : P.underlying src = some (.int k0) := hus ▸ (typeOf_some hsi).1
  have hu2 : P.underlying dst = some (.int k) := hud ▸ (typeOf_some hdi).1
  refine OpOk.pure hs (x := .int k (k.wrap n)) ?_ (by simp [Rel])
  simp [execOp, ho, h1, convert, run_underlying hu1, run_underlying hu2, Conv.intToInt]

theorem op_convStr (hs : Sim H G w) (e : SimFr G w fr a) {src dst : TypeId} {si di : TI} (hsi : typeOf P src = some si) (hdi : typeOf P dst = some di) (hus : si.under = .string) (hud : di.under = .string) {x : Operand} (ho : o.op = .convert src dst x)
    {s : List UInt8} (hp : opd fr H x = some (.str s)) : OpOk P o a H G w H (.val (.str s)) := by
  have h1 := opd_sound hs e hp
  have h1' := h1
  simp only [Rel] at h1
  have hu1 : P.underlying src = some .string := hus ▸ (typeOf_some hsi).1
  have hu2 : P.underlying dst = some .string := hud ▸ (typeOf_some hdi).1
  refine OpOk.pure hs (x := a.eval x) ?_ h1'
  rw [h1]
  simp [execOp, ho, h1, convert, run_underlying hu1, run_underlying hu2]

theorem op_makeInterface (hs : Sim H G w) (e : SimFr G w fr a) {t : TypeId} {ti : TI} (ht : typeOf P t = some ti) (hni : ∀ ms, ti.under ≠ .interface ms) {x : Operand} (ho : o.op = .makeInterface t x) {p : V} (hp : opd fr H x = some p) : OpOk P o a H G w H (.val (.iface t p)) := by
  have h1 := opd_sound hs e hp
  refine OpOk.pure hs (x := .iface t (a.eval x)) ?_ (by simp only [Rel]; exact ⟨_, rfl, h1⟩)
  have hu := (typeOf_some ht).1
  simp only [execOp, ho, Instr.makeInterface, Sem.run_bind, run_underlying hu, Result.andThen_ok]
  generalize hd : ti.under = d
  rw [hd] at hni
  cases d <;> first | (exact absurd rfl (hni _)) | simp

theorem op_makeFunc (hs : Sim H G w) (e : SimFr G w fr a) {f : FuncId} {first captured : Array Operand} (ho : o.op = .makeFunc (.func f) first captured) {p q : List V} (hp : opds fr H first.toList = some p) (hq : opds fr H captured.toList = some q) :
    OpOk P o a H G w H (.val (.func (.func f) p q)) := by
  refine OpOk.pure hs (x := .func (.func f) (first.map a.eval) (captured.map a.eval)) (by simp [execOp, ho, Instr.makeFunc]) ?_
  simp only [Rel]
  exact ⟨_, _, _, rfl, rfl, by simpa using opds_sound hs e hp, by simpa using opds_sound hs e hq⟩

/-! ### Parts -/
theorem op_extract (hs : Sim H G w) (e : SimFr G w fr a) {x : Operand} {i : Nat} (ho : o.op = .extract x i) {vs : List V} {v : V} (hp : opd fr H x = some (.tuple vs)) (h : vs[i]? = some v) : OpOk P o a H G w H (.val v) := by
  have h1 := opd_sound hs e hp
  simp only [Rel] at h1
  obtain ⟨arr, h1, h2⟩ := h1
  obtain ⟨y, h3, h4⟩ := h2.get h
  refine OpOk.pure hs (x := y) ?_ h4
  have : arr[i]? = some y := by simpa using h3
  simp [execOp, ho, h1, Instr.extract, this]

theorem op_field (hs : Sim H G w) (e : SimFr G w fr a) {t : TypeId} {ti fi : TI} (ht : typeOf P t = some ti) {k : Nat} {f : Field} (hf : fieldOf ti k = some f) (hfi : typeOf P f.type = some fi) {x : Operand} (ho : o.op = .field t x k) {cs : List V} {v : V}
    (hp : opd fr H x = some (.agg cs)) (h : partV fi cs f.offset = some v) : OpOk P o a H G w H (.val v) := by
  have h1 := opd_sound hs e hp
  simp only [Rel] at h1
  obtain ⟨arr, h1, h2⟩ := h1
  obtain ⟨fs, hu, hk, hus⟩ := run_struct ht hf
  obtain ⟨y, h3, h4⟩ := part_sound hfi h2 h
  refine OpOk.pure hs (x := y) ?_ h4
  simp [execOp, ho, h1, Instr.field, run_underlying hus, hk, asAgg, h3]

theorem op_indexStr (hs : Sim H G w) (e : SimFr G w fr a) {t : TypeId} {ti : TI} (ht : typeOf P t = some ti) (hu : ti.under = .string) {x i : Operand} (ho : o.op = .index t x i) {s : List UInt8} {k : IntKind} {j : Int} {b : UInt8}
    (hp : opd fr H x = some (.str s)) (hq : opd fr H i = some (.int k j)) (hj : 0 ≤ j) (h : s[j.toNat]? = some b) : OpOk P o a H G w H (.val (.int .u8 b.toNat)) := by
  have h1 := opd_sound hs e hp
  have h2 := opd_sound hs e hq
  simp only [Rel] at h1 h2
  have hus : P.underlying t = some .string := hu ▸ (typeOf_some ht).1
  refine OpOk.pure hs (x := .int .u8 b.toNat) ?_ (by simp [Rel])
  have hg : (ByteArray.mk s.toArray)[j.toNat]? = some b := by
    have hlt : j.toNat < s.length := by
      rw [List.getElem?_eq_some_iff] at h; exact h.1
    rw [List.getElem?_eq_getElem hlt] at h
    have hlt' : j.toNat < (ByteArray.mk s.toArray).size := by simpa [ByteArray.size] using hlt
    rw [getElem?_pos (ByteArray.mk s.toArray) j.toNat hlt']
    exact h
  simp [execOp, ho, h1, h2, Instr.index, asIntOf, run_underlying hus, hj, hg]

theorem op_indexArr (hs : Sim H G w) (e : SimFr G w fr a) {t el : TypeId} {n : Nat} {ti ei : TI} (ht : typeOf P t = some ti) (hu : ti.under = .array n el) (hel : typeOf P el = some ei) {x i : Operand} (ho : o.op = .index t x i) {cs : List V} {k : IntKind} {j : Int} {v : V}
    (hp : opd fr H x = some (.agg cs)) (hq : opd fr H i = some (.int k j)) (hj : 0 ≤ j ∧ j < n) (h : partV ei cs (j.toNat * ei.size) = some v) : OpOk P o a H G w H (.val v) := by
  have h1 := opd_sound hs e hp
  have h2 := opd_sound hs e hq
  simp only [Rel] at h1 h2
  obtain ⟨arr, h1, h1'⟩ := h1
  have hus : P.underlying t = some (.array n el) := hu ▸ (typeOf_some ht).1
  obtain ⟨y, h3, h4⟩ := part_sound hel h1' h
  refine OpOk.pure hs (x := y) ?_ h4
  simp [execOp, ho, h1, h2, Instr.index, asIntOf, run_underlying hus, hj, run_sizeOf' hel, h3]

/-! ### Calls -/
theorem op_call (hs : Sim H G w) (e : SimFr G w fr a) {c : Go.Call} {f : Operand} (ho : o.op = .call c) (hc : c.callee = .value f) {args : List V} {fv : V} {tgt : Tgt} {vs : List V} (hargs : opds fr H c.args.toList = some args) (hf : opd fr H f = some fv)
    (h : callOut fv args = some (.call tgt vs)) : OpOk P o a H G w H (.call tgt vs) := by
  have h1 := opds_sound hs e hargs
  have h2 := opd_sound hs e hf
  have hargs' : (c.args.map a.eval).toList = c.args.toList.map a.eval := by simp
  cases fv with
  | func fn first captured =>
    simp only [Rel] at h2
    obtain ⟨fn', ra, rc, h3, h4, h5, h6⟩ := h2
    cases fn with
    | func g =>
      simp only [callOut, Option.some.injEq, Out.call.injEq] at h
      obtain ⟨rfl, rfl⟩ := h
      simp only [RelFn] at h4
      subst h4
      refine ⟨rfl, .fn (.func g) rc, ra ++ c.args.map a.eval, ?_, rc, rfl, ?_⟩
      · simp [execOp, ho, resolve, hc, h3, Deferred.ofValue]
      · rw [Array.toList_append, hargs']
        exact (h5.append h1).append h6
    | yield l =>
      simp only [callOut, Option.some.injEq, Out.call.injEq] at h
      obtain ⟨rfl, rfl⟩ := h
      obtain ⟨b, sh, n, h7, rfl⟩ := h4
      refine ⟨rfl, .fn (.yield b) rc, ra ++ c.args.map a.eval, ?_, rc, b, sh, n, rfl, h7, ?_⟩
      · simp [execOp, ho, resolve, hc, h3, Deferred.ofValue]
      · rw [Array.toList_append, hargs']
        exact h5.append h1
    | _ => simp [callOut] at h
  | _ => simp [callOut] at h

theorem op_binOp {E : Env} (hE : E.types = typeOf P) (hok : E.eqOk = plainEq P 20) (hs : Sim H G w) (e : SimFr G w fr a) {op : BinOp} {t t' : TypeId} {x y : Operand} (ho : o.op = .binOp op t x y t') {p q v : V} (hp : opd fr H x = some p) (hq : opd fr H y = some q)
    (hg : ∀ w', (eqGuard op t x y (a.eval x) (a.eval y)).run P w' = .ok () w') (h : binOpV E op t p q = some v) : OpOk P o a H G w H (.val v) := by
  obtain ⟨z, h1, h2⟩ := binOp_sound hE hok (opd_sound hs e hp) (opd_sound hs e hq) h
  refine OpOk.pure hs (x := z) ?_ h2
  simp [execOp, ho, hg, h1]

theorem op_builtin (hs : Sim H G w) (e : SimFr G w fr a) {c : Go.Call} {b : Builtin} (ho : o.op = .call c) (hc : c.callee = .builtin b) {args : List V} (hargs : opds fr H c.args.toList = some args) :
    RelL G w args (c.args.map a.eval).toList ∧ ∃ cs, (execOp a.eval o).run P w = (builtin b c.argTypes o.type cs (c.args.map a.eval)).run P w := by
  refine ⟨by simpa using opds_sound hs e hargs, (c.args.map fun | .const _ => true | _ => false), ?_⟩
  simp only [execOp, ho, resolve, hc, Sem.run_bind, Sem.run_pure, Result.andThen_ok, invoke]
  rfl

end
end Go.E2
