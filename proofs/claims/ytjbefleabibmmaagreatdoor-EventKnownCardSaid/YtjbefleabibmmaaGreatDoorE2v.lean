/- E2: A LONG RUN IN PIECES, with states written out between them; the package-level variables that a row lists, as names of E2's. -/
import Derived.Test.YtjbefleabibmmaaGreatDoorE2u
import Derived.Deep.DeepHandedRow
namespace Go.E2
open Go Go.ChangeShapes

/-! ### Values held against values -/
mutual
def eqVB : V → V → Bool
  | .int k a, .int k' b => decide (k = k') && decide (a = b)
  | .bool a, .bool b => a == b
  | .str a, .str b => a == b
  | .ptr a b c d, .ptr a' b' c' d' => Nat.beq a a' && Nat.beq b b' && Nat.beq c c' && Nat.beq d d'
  | .nilp, .nilp => true
  | .slice a b c d e f, .slice a' b' c' d' e' f' => Nat.beq a a' && Nat.beq b b' && Nat.beq c c' && Nat.beq d d' && Nat.beq e e' && (f == f')
  | .nils, .nils => true
  | .func (.func f) a c, .func (.func f') a' c' => Nat.beq f f' && eqLB a a' && eqLB c c'
  | .nilf, .nilf => true
  | .iface t v, .iface t' v' => Nat.beq t t' && eqVB v v'
  | .nili, .nili => true
  | .agg l, .agg l' => eqLB l l'
  | .tuple l, .tuple l' => eqLB l l'
  | .map a, .map b => Nat.beq a b
  | .nilm, .nilm => true
  | _, _ => false
def eqLB : List V → List V → Bool
  | [], [] => true
  | v :: l, v' :: l' => eqVB v v' && eqLB l l'
  | _, _ => false
end

mutual
theorem eqVB_eq : ∀ {a b : V}, eqVB a b = true → a = b
  | .int k a, .int k' b, h => by simp only [eqVB, Bool.and_eq_true, decide_eq_true_eq] at h; rw [h.1, h.2]
  | .bool a, .bool b, h => by simp only [eqVB, beq_iff_eq] at h; rw [h]
  | .str a, .str b, h => by simp only [eqVB, beq_iff_eq] at h; rw [h]
  | .ptr a b c d, .ptr a' b' c' d', h => by simp only [eqVB, Bool.and_eq_true, Nat.beq_eq] at h; obtain ⟨⟨⟨rfl, rfl⟩, rfl⟩, rfl⟩ := h; rfl
  | .nilp, .nilp, _ => rfl
  | .slice a b c d e f, .slice a' b' c' d' e' f', h => by simp only [eqVB, Bool.and_eq_true, Nat.beq_eq, beq_iff_eq] at h; obtain ⟨⟨⟨⟨⟨rfl, rfl⟩, rfl⟩, rfl⟩, rfl⟩, rfl⟩ := h; rfl
  | .nils, .nils, _ => rfl
  | .func (.func f) a c, .func (.func f') a' c', h => by
    simp only [eqVB, Bool.and_eq_true, Nat.beq_eq] at h
    rw [h.1.1, eqLB_eq h.1.2, eqLB_eq h.2]
  | .nilf, .nilf, _ => rfl
  | .iface t v, .iface t' v', h => by
    simp only [eqVB, Bool.and_eq_true, Nat.beq_eq] at h
    rw [h.1, eqVB_eq h.2]
  | .nili, .nili, _ => rfl
  | .agg l, .agg l', h => by simp only [eqVB] at h; rw [eqLB_eq h]
  | .tuple l, .tuple l', h => by simp only [eqVB] at h; rw [eqLB_eq h]
  | .map a, .map b, h => by simp only [eqVB, Nat.beq_eq] at h; rw [h]
  | .nilm, .nilm, _ => rfl
theorem eqLB_eq : ∀ {a b : List V}, eqLB a b = true → a = b
  | [], [], _ => rfl
  | v :: l, v' :: l', h => by
    simp only [eqLB, Bool.and_eq_true] at h
    rw [eqVB_eq h.1, eqLB_eq h.2]
end

def eqOB : O → O → Bool
  | .row c e g f z x, .row c' e' g' f' z' x' => eqLB c c' && Nat.beq e e' && Nat.beq g g' && Nat.beq f f' && Nat.beq z z' && (x == x')
  | .siter s p, .siter s' p' => (s == s') && Nat.beq p p'
  | _, _ => false

theorem eqOB_eq {a b : O} (h : eqOB a b = true) : a = b := by
  unfold eqOB at h
  split at h
  · simp only [Bool.and_eq_true, Nat.beq_eq, beq_iff_eq] at h
    obtain ⟨⟨⟨⟨⟨h1, rfl⟩, rfl⟩, rfl⟩, rfl⟩, rfl⟩ := h
    rw [eqLB_eq h1]
  · simp only [Bool.and_eq_true, Nat.beq_eq, beq_iff_eq] at h
    obtain ⟨rfl, rfl⟩ := h
    rfl
  · cases h

/-! ### States written out -/
def treeOf {α : Type} : List (Nat × α) → Tree α
  | [] => .nil
  | (k, v) :: l => (treeOf l).set k v

theorem get_treeOf {α : Type} : ∀ (l : List (Nat × α)) (k : Nat) (v : α), (treeOf l).get k = some v → (k, v) ∈ l
  | [], k, v, h => by simp [treeOf, Tree.get] at h
  | (k', v') :: l, k, v, h => by
    simp only [treeOf, Tree.get_set] at h
    by_cases hk : k = k'
    · rw [if_pos hk] at h
      cases h
      rw [hk]
      exact List.mem_cons_self
    · rw [if_neg hk] at h
      exact List.mem_cons_of_mem _ (get_treeOf l k v h)

theorem Sim.forget {H H' : Heap} {G : Ghost} {w : World} (hs : Sim H G w) (h1 : H'.next = H.next) (h2 : H'.ro = H.ro) (h3 : H'.glob = H.glob) (h4 : ∀ k o, H'.get k = some o → H.get k = some o) : Sim H' G w :=
  ⟨fun nm g b sh n h => by rw [h1]; exact hs.lt nm g b sh n h, hs.inj, fun nm o hl ho => hs.obj nm o (h1 ▸ hl) (h4 _ _ ho), by rw [h1, h2]; exact hs.ro, by rw [h2, h3]; exact hs.glob, fun g o hg ho => hs.globs g o (h3 ▸ hg) (h4 _ _ ho)⟩

/-- WHAT ONE CALL COMES TO, written out: at such arguments, such objects, such a next name. -/
structure Fact where
  f : Nat
  args : List V
  pre : List (Nat × O)
  next : Nat
  ro : Nat
  glob : Nat
  ret : V
  post : List (Nat × O)
  next' : Nat

def Fact.heap (F : Fact) : Heap := { objs := treeOf F.pre, next := F.next, ro := F.ro, glob := F.glob }

def holdsB (H : Heap) (l : List (Nat × O)) : Bool :=
  l.all fun x => match H.get x.1 with
    | some o => eqOB o x.2
    | none => false

theorem holds_of {H : Heap} {l : List (Nat × O)} (h : holdsB H l = true) {k : Nat} {o : O} (hk : (k, o) ∈ l) : H.get k = some o := by
  have := List.all_eq_true.1 h (k, o) hk
  simp only at this
  split at this
  · rename_i u hu
    rw [hu, eqOB_eq this]
  · cases this

/-- Is it what a run comes to? -/
def Fact.ok (F : Fact) (E : Env) (n : Nat) : Bool :=
  match callFn E n (.func F.f) F.args F.heap with
  | some (.ret v, H) => eqVB v F.ret && Nat.beq H.next F.next' && Nat.ble F.next F.next' && holdsB H F.post
  | _ => false

/-- The names that a fact may turn. -/
def Fact.dels (F : Fact) : List Nat := (F.pre.map (·.1)).filter (fun k => Nat.ble F.ro k) ++ List.range' F.next (F.next' - F.next)

def Fact.try (F : Fact) (args : List V) (H : Heap) : Option (CR × Heap) :=
  match H with
  | ⟨t, k, r, g⟩ => bif eqLB args F.args && Nat.beq k F.next && Nat.beq r F.ro && Nat.beq g F.glob && holdsB ⟨t, k, r, g⟩ F.pre then
      some (.ret F.ret, ⟨copyT (treeOf F.post) F.dels t, F.next', r, g⟩) else none

def tryAll : List Fact → Nat → List V → Heap → Option (CR × Heap)
  | [], _, _, _ => none
  | F :: l, f, args, H => bif Nat.beq F.f f then (match F.try args H with
      | some r => some r
      | none => tryAll l f args H) else tryAll l f args H

/-- The calls that facts answer. -/
def specOf (l : List Fact) (f : Nat) : Option (List V → Heap → Option (CR × Heap)) :=
  bif l.any (fun F => Nat.beq F.f f) then some (tryAll l f) else none

section
variable {P : Program} {sp : Nat → Option (List V → Heap → Option (CR × Heap))} {n : Nat}

/-- A fact's step, from the objects that it names to all that there are. -/
theorem Fact.step {F : Fact} {H H1 : Heap} {G G' : Ghost} {w w' : World} (hs : Sim H G w) (h1 : H.next = F.next) (h2 : H.ro = F.ro) (h3 : H.glob = F.glob) (hpre : holdsB H F.pre = true) (st : Step F.heap G w H1 G' w') (hn : H1.next = F.next') (hle : F.next ≤ F.next')
    (hpost : holdsB H1 F.post = true) : Step H G w { H with objs := copyT (treeOf F.post) F.dels H.objs, next := F.next' } G' w' := by
  have hget : ∀ nm, ({ H with objs := copyT (treeOf F.post) F.dels H.objs, next := F.next' } : Heap).get nm = if nm ∈ F.dels then (treeOf F.post).get nm else H.get nm := fun nm => get_copyT _ _ _ _
  have hsub : ∀ nm o, F.heap.get nm = some o → H.get nm = some o := fun nm o h => holds_of hpre (get_treeOf _ _ _ h)
  have hmem : ∀ nm, F.ro ≤ nm → nm < F.next → nm ∉ F.dels → F.heap.get nm = none := by
    intro nm hr _ hd
    cases hq : F.heap.get nm with
    | none => rfl
    | some o =>
      exfalso
      apply hd
      refine List.mem_append_left _ (List.mem_filter.2 ⟨?_, by simpa using hr⟩)
      exact List.mem_map.2 ⟨(nm, o), get_treeOf _ _ _ hq, rfl⟩
  have hlow : ∀ nm, nm < F.ro → nm ∉ F.dels := by
    intro nm hr hd
    rcases List.mem_append.1 hd with hd | hd
    · have := (List.mem_filter.1 hd).2
      rw [Nat.ble_eq] at this
      omega
    · have := (List.mem_range'_1.1 hd).1
      have hro := st.sim.ro
      have := hs.ro
      omega
  have hext : Ext H.ro G w G' w' := by
    have h := st.ext
    rw [show F.heap.ro = H.ro from h2.symm] at h
    exact h
  refine ⟨hext, ⟨fun nm g b sh m hg => ?_, st.sim.inj, fun nm o hl ho => ?_, ?_, ?_, fun g o hg ho => ?_⟩, by simp only; rw [h1]; exact hle, rfl, rfl, fun nm hr => ?_, fun nm g x hx hr => st.newG nm g x hx (show nm < F.ro by rw [← h2]; exact hr), fun nm hl hnone => ?_⟩
  · have := st.sim.lt nm g b sh m hg
    rw [hn] at this
    exact this
  · rw [hget] at ho
    split at ho
    · have := holds_of hpost (get_treeOf _ _ _ ho)
      exact st.sim.obj nm o (by rw [hn]; exact hl) this
    · rename_i hd
      by_cases hlt : nm < F.next
      · by_cases hr : nm < F.ro
        · have hob := hs.obj nm o (by rw [h1]; exact hlt) ho
          refine hob.ext hext (fun g x hx => st.newG nm g x hx hr) (fun g b sh m hg => st.ext.ro nm g b sh m hr hg)
        · obtain ⟨_, q2, q3⟩ := st.frame nm hlt (hmem nm (by omega) hlt hd)
          exact (hs.obj nm o (by rw [h1]; exact hlt) ho).ext hext q3 q2
      · exfalso
        apply hd
        refine List.mem_append_right _ (List.mem_range'_1.2 ⟨by omega, ?_⟩)
        simp only at hl
        omega
  · simp only
    have := hs.ro
    omega
  · exact hs.glob
  · simp only at hg
    rw [hget, if_neg (hlow g (by have := hs.glob; omega))] at ho
    obtain ⟨m, hm⟩ := hs.globs g o hg ho
    exact ⟨m, st.ext.sub _ _ _ hm⟩
  · rw [hget, if_neg (hlow nm (by rw [← h2]; exact hr))]
  · have hl' : nm < F.next := by rw [← h1]; exact hl
    have hf : F.heap.get nm = none := by
      cases hq : F.heap.get nm with
      | none => rfl
      | some o => rw [hsub nm o hq] at hnone; cases hnone
    obtain ⟨_, q2, q3⟩ := st.frame nm hl' hf
    refine ⟨?_, q2, q3⟩
    rw [hget]
    split
    · rename_i hd
      rcases List.mem_append.1 hd with hd | hd
      · obtain ⟨x, hx, rfl⟩ := List.mem_map.1 (List.mem_filter.1 hd).1
        rw [holds_of hpre (show (x.1, x.2) ∈ F.pre from hx)] at hnone
        cases hnone
      · have := (List.mem_range'_1.1 hd).1
        omega
    · exact hnone

theorem Fact.sound {F : Fact} (hc : CallOk P (callFn (envOf P sp) n)) {fn : Func} {c : Code} (hf : P.funcs[F.f]? = some fn) (hname : (fn.name == "runtime.NumGoroutine") = false) (hb : fn.body = some c) (h : F.ok (envOf P sp) n = true)
    {args : List V} {H H' : Heap} {r : CR} (ht : F.try args H = some (r, H')) {G : Ghost} {w : World} {rargs : Array Value} (hs : Sim H G w) (hr : RelL G w args rargs.toList) {K : Fence} {m : Nat} (hK : WideF K) :
    CallsIn K m P F.f rargs w fun e w' => ∃ G', Step H G w H' G' w' ∧ RelEnd G' w' r e := by
  unfold Fact.try at ht
  obtain ⟨t, k, r0, g⟩ := H
  simp only [cond_eq_ite, Bool.and_eq_true, Nat.beq_eq] at ht
  split at ht
  · rename_i hb0
    obtain ⟨⟨⟨⟨b1, b2⟩, b3⟩, b4⟩, b5⟩ := hb0
    cases ht
    have ha := eqLB_eq b1
    subst ha
    unfold Fact.ok at h
    split at h
    · rename_i v H1 hrun
      simp only [Bool.and_eq_true, Nat.beq_eq, Nat.ble_eq] at h
      obtain ⟨⟨⟨c1, c2⟩, c3⟩, c4⟩ := h
      have hv := eqVB_eq c1
      subst hv
      have hsF : Sim F.heap G w := hs.forget b2.symm b3.symm b4.symm (fun nm o ho => holds_of b5 (get_treeOf _ _ _ ho))
      have hinv : (invoke (.fn (.func F.f) #[]) rargs).run P w = .ok (.enter F.f rargs) w := by
        have h0 : (invoke (.fn (.func F.f) #[]) rargs).run P w = (callFunc F.f (rargs ++ #[])).run P w := rfl
        rw [h0, Array.append_empty, run_callFunc_body hf hname hb]
      have hmain : CallsIn K m P F.f rargs w fun e w' => ∃ G', Step F.heap G w H1 G' w' ∧ RelEnd G' w' (.ret F.ret) e := by
        rcases hc (.func F.f) F.args F.heap _ H1 hrun G w (.fn (.func F.f) #[]) rargs hsF ⟨#[], rfl, by simpa using hr⟩ with ⟨x, w', G', v, h1, _⟩ | ⟨f', rargs', h1, h2⟩ | ⟨l, f', t', a', b', h1, _⟩
        · rw [hinv] at h1; cases h1
        · rw [hinv] at h1; cases h1; exact h2 K m hK
        · rw [hinv] at h1; cases h1
      refine hmain.mono fun e w' ⟨G', st, se⟩ => ⟨G', ?_, se⟩
      exact Fact.step hs b2 b3 b4 b5 st c2 c3 c4
    · cases h
  · cases ht

/-- What facts answer, asked one after the other. -/
theorem tryAll_good : ∀ {l : List Fact} (_ : ∀ F ∈ l, SpecOk P F.f F.try) (f : Nat), SpecOk P f (tryAll l f)
  | [], _, f => fun args H r H' ht => by simp [tryAll] at ht
  | F :: l, hl, f => fun args H r H' ht => by
    simp only [tryAll, cond_eq_ite] at ht
    split at ht
    · rename_i hf
      rw [Nat.beq_eq] at hf
      subst hf
      split at ht
      · rename_i r' ht'
        cases ht
        exact hl F List.mem_cons_self args H r H' ht'
      · exact tryAll_good (fun F' h => hl F' (List.mem_cons_of_mem _ h)) F.f args H r H' ht
    · exact tryAll_good (fun F' h => hl F' (List.mem_cons_of_mem _ h)) f args H r H' ht

theorem facts_ok (hm : P.follows .mixedOrders = true) (hok : progOk P = true) {l : List Fact} (hl : ∀ F ∈ l, SpecOk P F.f F.try) (k : Nat) : CallOk P (callFn (envOf P (specOf l)) k) := by
  refine callFn_sound hm (extOk hok) (code_of hok) (fun f s hsp => ?_) k
  unfold specOf at hsp
  rw [cond_eq_ite] at hsp
  split at hsp
  · cases hsp
    exact tryAll_good hl f
  · cases hsp

theorem good_nil : ∀ F ∈ ([] : List Fact), SpecOk P F.f F.try := fun F h => by cases h

theorem good_cons {F : Fact} {l : List Fact} (h : SpecOk P F.f F.try) (hl : ∀ F ∈ l, SpecOk P F.f F.try) : ∀ F' ∈ F :: l, SpecOk P F'.f F'.try := by
  intro F' hF
  rcases List.mem_cons.1 hF with rfl | hF
  · exact h
  · exact hl F' hF

/-- A FACT, over others. -/
theorem good_fact (hm : P.follows .mixedOrders = true) (hok : progOk P = true) {l : List Fact} (hl : ∀ F ∈ l, SpecOk P F.f F.try) {F : Fact} (hb : hasBody (envOf P fun _ => none) F.f = true) (h : F.ok (envOf P (specOf l)) n = true) : SpecOk P F.f F.try := by
  intro args H r H' ht G w rargs hs hr
  obtain ⟨fn, c, h1, h2, h3⟩ := funcs_body hb
  exact ⟨fn, c, h1, h2, h3, fun K m hK => Fact.sound (facts_ok hm hok hl n) h1 h2 h3 h ht hs hr hK⟩

/-- A law without arguments that answers true, over facts. -/
def runsTrueOn (P : Program) (l : List Fact) (n f : Nat) (H : Heap) : Bool :=
  match callFn (envOf P (specOf l)) n (.func f) [] H with
  | some (.ret (.bool b), _) => b
  | _ => false

theorem runsTrueOn_calls (hm : P.follows .mixedOrders = true) (hok : progOk P = true) {l : List Fact} (hl : ∀ F ∈ l, SpecOk P F.f F.try) {f : FuncId} {fn : Func} {c : Code} (hf : P.funcs[f]? = some fn) (hname : (fn.name == "runtime.NumGoroutine") = false) (hb : fn.body = some c) {k : Nat} {H : Heap} {G : Ghost} {W : World}
    (hs : Sim H G W) (h : runsTrueOn P l k f H = true) : Calls P f #[] W fun e w' => e = .returned (.bool true) ∧ ∃ G', Ext H.ro G W G' w' := by
  unfold runsTrueOn at h
  split at h
  · rename_i b H' hrun
    subst h
    refine ((facts_ok hm hok hl k).calls hf hname hb hrun hs (rargs := #[]) RelL.nil).mono fun e w' ⟨G', st, se⟩ => ?_
    obtain ⟨v, rfl, hv⟩ := se
    simp only [Rel] at hv
    subst hv
    exact ⟨rfl, G', st.ext⟩
  · cases h

theorem Ext.keptBut {r : Nat} {G G' : Ghost} {W w' : World} (h : Ext r G W G' w') (hr : ∀ nm g x, G nm g = some x → nm < r) (may : MemPlace → Prop) : W.keptBut w' may := by
  refine ⟨h.out.1, h.out.2, fun i hi => ?_⟩
  have h1 : w'.heap[i]? = W.heap[i]? := by
    by_cases hf : foreign G i
    · exact (h.frg i hi hf).1
    · simp only [foreign, Classical.not_forall, Classical.not_not] at hf
      obtain ⟨nm, g, sh, m, hg⟩ := hf
      exact h.ro nm g i sh m (hr _ _ _ hg) hg
  rw [h1]
  split
  · rename_i h2 h3
    rw [h2] at h3
    cases h3
    exact ⟨rfl, rfl, rfl, fun _ _ => rfl⟩
  · rename_i h2 h3
    rw [h2] at h3
    cases h3
    exact .inr ⟨rfl, rfl⟩
  · rfl

end

/-! ### Variables that are listed with what they hold -/
/-- Do fields lie one behind the other, from a cell on up to another? -/
def contigB (P : Program) : List Field → Nat → Nat → Bool
  | [], o, tot => Nat.beq o tot
  | f :: fs, o, tot => Nat.beq f.offset o && contigB P fs (o + P.cellsOf f.type) tot

def flatV (P : Program) : Nat → TypeId → DataW Unit → Option (List Value)
  | 0, _, _ => none
  | n + 1, t, d => match P.underlying t, d with
    | some .bool, .lit (.bool b) => some [.bool b]
    | some (.int _), .lit (.int k i) => some [.int k i]
    | some .string, .lit (.string s) => some [.string ⟨s.toArray⟩]
    | some (.struct fs), .agg ds => bif contigB P fs.toList 0 (P.cellsOf t) && Nat.beq fs.toList.length ds.length then ((fs.toList.zip ds).mapM fun x => flatV P n x.1.type x.2).map List.flatten else none
    | some (.array m e), .agg ds => bif Nat.beq (P.cellsOf t) (m * P.cellsOf e) && Nat.beq ds.length m then (ds.mapM (flatV P n e)).map List.flatten else none
    | _, _ => none

section
variable {P : Program} {w : World} {base : Nat} {spare : Nat → Bool} {held : Bool}

theorem fields_flat {fuel n : Nat} {cs : List Value} (ih : ∀ t cs d p vs, DataW.trod (fun _ => ()) P w base spare held fuel t cs = some (d, p) → flatV P n t d = some vs → cs = vs) {tot : Nat} (hl : cs.length = tot) :
    ∀ (fs : List Field) (o : Nat) (ds : List (DataW Unit)) (xs : List (DataW Unit × List MemPlace)) (vss : List (List Value)), contigB P fs o tot = true → fs.length = ds.length →
    (fs.mapM fun f => DataW.trod (fun _ => ()) P w base spare held fuel f.type ((cs.drop f.offset).take (P.cellsOf f.type))) = some xs → xs.map (·.1) = ds → ((fs.zip ds).mapM fun x => flatV P n x.1.type x.2) = some vss → cs.drop o = vss.flatten
  | [], o, ds, xs, vss, hc, hlen, hx, hd, hv => by
    simp only [contigB, Nat.beq_eq] at hc
    simp only [List.zip_nil_left, List.mapM_nil, Option.pure_def, Option.some.injEq] at hv
    subst hv
    rw [List.drop_of_length_le (by omega)]
    rfl
  | f :: fs, o, ds, xs, vss, hc, hlen, hx, hd, hv => by
    simp only [contigB, Bool.and_eq_true, Nat.beq_eq] at hc
    simp only [List.mapM_cons, Option.bind_eq_bind, Option.bind_eq_some_iff, Option.pure_def, Option.some.injEq] at hx
    obtain ⟨⟨d, p⟩, h1, xs', h2, rfl⟩ := hx
    simp only [List.map_cons] at hd
    subst hd
    simp only [List.zip_cons_cons, List.mapM_cons, Option.bind_eq_bind, Option.bind_eq_some_iff, Option.pure_def, Option.some.injEq] at hv
    obtain ⟨vs, h3, vss', h4, rfl⟩ := hv
    have e1 := ih _ _ _ _ _ h1 h3
    have e2 := fields_flat ih hl fs (o + P.cellsOf f.type) _ xs' vss' hc.2 (by simpa using hlen) h2 rfl h4
    rw [hc.1] at e1
    rw [List.flatten_cons, ← e1, ← e2, ← List.drop_drop, List.take_append_drop]

theorem elems_flat {fuel n : Nat} {cs : List Value} {e : TypeId} (ih : ∀ t cs d p vs, DataW.trod (fun _ => ()) P w base spare held fuel t cs = some (d, p) → flatV P n t d = some vs → cs = vs) :
    ∀ (l : List Nat) (o : Nat) (ds : List (DataW Unit)) (xs : List (DataW Unit × List MemPlace)) (vss : List (List Value)), l = List.range' o ds.length → cs.length = (o + ds.length) * P.cellsOf e →
    (l.mapM fun i => DataW.trod (fun _ => ()) P w base spare held fuel e ((cs.drop (i * P.cellsOf e)).take (P.cellsOf e))) = some xs → xs.map (·.1) = ds → (ds.mapM (flatV P n e)) = some vss → cs.drop (o * P.cellsOf e) = vss.flatten
  | [], o, ds, xs, vss, hl, hlen, hx, hd, hv => by
    have : ds = [] := by
      cases ds with
      | nil => rfl
      | cons d ds => simp [List.range'_succ] at hl
    subst this
    simp only [List.mapM_nil, Option.pure_def, Option.some.injEq] at hv
    subst hv
    rw [List.drop_of_length_le (by rw [hlen]; simp)]
    rfl
  | i :: l, o, ds, xs, vss, hl, hlen, hx, hd, hv => by
    simp only [List.mapM_cons, Option.bind_eq_bind, Option.bind_eq_some_iff, Option.pure_def, Option.some.injEq] at hx
    obtain ⟨⟨d, p⟩, h1, xs', h2, rfl⟩ := hx
    simp only [List.map_cons] at hd
    subst hd
    simp only [List.length_cons, List.length_map, List.range'_succ, List.cons.injEq] at hl
    obtain ⟨rfl, hl⟩ := hl
    simp only [List.mapM_cons, Option.bind_eq_bind, Option.bind_eq_some_iff, Option.pure_def, Option.some.injEq] at hv
    obtain ⟨vs, h3, vss', h4, rfl⟩ := hv
    have e1 := ih _ _ _ _ _ h1 h3
    have e2 := elems_flat ih l (i + 1) _ xs' vss' (by simpa using hl) (by rw [hlen]; congr 1; simp; omega) h2 rfl h4
    rw [List.flatten_cons, ← e1, ← e2, Nat.add_mul, Nat.one_mul, ← List.drop_drop, List.take_append_drop]

theorem flat_trod : ∀ (n fuel : Nat) (t : TypeId) (cs : List Value) (d : DataW Unit) (p : List MemPlace) (vs : List Value), DataW.trod (fun _ => ()) P w base spare held fuel t cs = some (d, p) → flatV P n t d = some vs → cs = vs
  | 0, _, _, _, _, _, _, _, h => by simp [flatV] at h
  | _ + 1, 0, _, _, _, _, _, h, _ => by simp [DataW.trod] at h
  | n + 1, fuel + 1, t, cs, d, p, vs, h, hv => by
    simp only [flatV] at hv
    split at hv
    · rename_i b hu
      cases hv
      match cs, h with
      | [], h => simp [DataW.trod, hu] at h
      | [v], h =>
        cases v <;> simp [DataW.trod, hu] at h
        rw [h.1]
      | v :: u :: l, h => simp [DataW.trod, hu] at h
    · rename_i k0 k i hu
      cases hv
      match cs, h with
      | [], h => simp [DataW.trod, hu] at h
      | [v], h =>
        cases v <;> simp [DataW.trod, hu] at h
        obtain ⟨⟨h1, _⟩, ⟨h2, h3⟩, _⟩ := h
        rw [h1, h2, h3]
      | v :: u :: l, h => simp [DataW.trod, hu] at h
    · rename_i s0 hu
      cases hv
      match cs, h with
      | [], h => simp [DataW.trod, hu] at h
      | [v], h =>
        cases v <;> simp [DataW.trod, hu] at h
        obtain ⟨_, h2, _⟩ := h
        rw [← h2]
      | v :: u :: l, h => simp [DataW.trod, hu] at h
    · rename_i fs ds hu
      simp only [DataW.trod, hu] at h
      split at h
      · rename_i hl
        obtain ⟨xs, hm, hx⟩ := Option.map_eq_some_iff.1 h
        simp only [Prod.mk.injEq, DataW.agg.injEq] at hx
        rw [cond_eq_ite] at hv
        split at hv
        · rename_i hb
          simp only [Bool.and_eq_true, Nat.beq_eq] at hb
          obtain ⟨vss, hv1, rfl⟩ := Option.map_eq_some_iff.1 hv
          have := fields_flat (fun t cs d p vs h1 h2 => flat_trod n fuel t cs d p vs h1 h2) hl fs.toList 0 ds xs vss hb.1 hb.2 hm hx.1 hv1
          simpa using this
        · cases hv
      · cases h
    · rename_i m e ds hu
      simp only [DataW.trod, hu] at h
      split at h
      · rename_i hl
        obtain ⟨xs, hm, hx⟩ := Option.map_eq_some_iff.1 h
        simp only [Prod.mk.injEq, DataW.agg.injEq] at hx
        rw [cond_eq_ite] at hv
        split at hv
        · rename_i hb
          simp only [Bool.and_eq_true, Nat.beq_eq] at hb
          obtain ⟨vss, hv1, rfl⟩ := Option.map_eq_some_iff.1 hv
          have := elems_flat (fun t cs d p vs h1 h2 => flat_trod n fuel t cs d p vs h1 h2) (List.range m) 0 ds xs vss (by rw [List.range_eq_range', hb.2]) (by rw [hl, hb.1, hb.2, Nat.zero_add]) hm hx.1 hv1
          simpa using this
        · cases hv
      · cases h
    · cases hv

theorem mem_row0 {g n : Nat} (h : 0 < n) : MemPlace.cell g 0 ∈ MemPlace.row ⟨g, 0, none⟩ n := by
  simp only [MemPlace.row, List.mem_map, List.mem_range]
  exact ⟨0, h, rfl⟩

/-- WHAT A ROW's LIST SAYS OF ONE VARIABLE: its cells, none of them frozen. -/
theorem laid_cells : ∀ {laid : List (String × DataW Unit)} {ps : List MemPlace} (_ : DataW.LaidVars P w laid ps) (_ : ∀ b off, MemPlace.cell b off ∈ ps → ∃ c t, w.heap[b]? = some (.cells c t (0, 0))) {name : String} {d : DataW Unit} (_ : (name, d) ∈ laid)
    {g : Nat} {t : TypeId} (_ : P.globalNamed name = some g) (_ : (P.globals[g]?).map (·.type) = some t) {n : Nat} {vs : List Value} (_ : flatV P n t d = some vs) (_ : vs ≠ []), ∃ t', w.heap[g]? = some (.cells vs.toArray t' (0, 0))
  | [], _, _, _, _, _, hm, _, _, _, _, _, _, _, _ => by cases hm
  | (n0, d0) :: rest, ps, hl, hz, name, d, hm, g, t, hg, ht, n, vs, hv, hne => by
    obtain ⟨g', t', cs, fuel, p, q, h1, h2, h3, h4, h5, rfl⟩ := hl
    rcases List.mem_cons.1 hm with heq | hm
    · cases heq
      rw [hg] at h1
      cases h1
      rw [ht] at h2
      cases h2
      have hcs := flat_trod n fuel t cs.toList _ p vs h4 hv
      simp only [World.var?, hg, Option.bind_some] at h3
      split at h3
      · rename_i c t'' fz hh
        cases h3
        have h0 : 0 < cs.size := by
          rcases Nat.eq_zero_or_pos cs.size with h0 | h0
          · exfalso
            apply hne
            rw [← hcs]
            simpa using h0
          · exact h0
        obtain ⟨c', t3, h6⟩ := hz g 0 (by
          refine List.mem_append_left _ (List.mem_append_left _ ?_)
          exact mem_row0 h0)
        rw [hh] at h6
        cases h6
        have hcv : cs = vs.toArray := by apply Array.ext'; simpa using hcs
        rw [hcv] at hh
        exact ⟨_, hh⟩
      · cases h3
    · exact laid_cells h5 (fun b off hb => hz b off (List.mem_append_right _ hb)) hm hg ht hv hne

/-! ### The start -/
def startH (gs : List (Nat × O)) (ng : Nat) : Heap := { objs := treeOf gs, next := ng, ro := ng, glob := ng }

def startG (gs : List (Nat × O)) : Ghost := fun nm g => if g = 0 then (match (treeOf gs).get nm with
  | some (.row cells _ _ _ _ _) => some (nm, 0, cells.length)
  | _ => none) else none

theorem startG_some {gs : List (Nat × O)} {nm g : Nat} {x : Nat × Nat × Nat} (h : startG gs nm g = some x) : g = 0 ∧ ∃ cells e ge fl fz ex, (treeOf gs).get nm = some (.row cells e ge fl fz ex) ∧ x = (nm, 0, cells.length) := by
  unfold startG at h
  split at h
  · rename_i h0
    split at h
    · rename_i cells e ge fl fz ex hq
      cases h
      exact ⟨h0, cells, e, ge, fl, fz, ex, hq, rfl⟩
    · cases h
  · cases h

theorem sim_start {gs : List (Nat × O)} {ng : Nat} {W : World} (hg : ∀ x ∈ gs, x.1 < ng ∧ ∃ cells e vs, x.2 = .row cells e 0 0 0 false ∧ absL 1000 vs = some cells ∧ W.heap[x.1]? = some (.cells vs.toArray e (0, 0))) : Sim (startH gs ng) (startG gs) W := by
  refine ⟨fun nm g b sh n h => ?_, fun nm g b sh n nm' g' sh' n' h h' => ?_, fun nm o _ ho => ?_, Nat.le_refl _, Nat.le_refl _, fun g o _ ho => ?_⟩
  · obtain ⟨_, cells, e, ge, fl, fz, ex, hq, hx⟩ := startG_some h
    cases hx
    obtain ⟨h1, _, _, vs, _, _, h2⟩ := hg _ (get_treeOf _ _ _ hq)
    exact ⟨lt_of_heap h2, h1⟩
  · obtain ⟨_, _, _, _, _, _, _, _, hx⟩ := startG_some h
    obtain ⟨_, _, _, _, _, _, _, _, hx'⟩ := startG_some h'
    cases hx
    cases hx'
    exact ⟨rfl, rfl⟩
  · have ho' : (treeOf gs).get nm = some o := ho
    obtain ⟨_, cells, e, vs, h3, h4, h2⟩ := hg _ (get_treeOf _ _ _ ho')
    simp only at h3 h2
    subst h3
    refine ⟨Nat.le_refl _, fun h => (by cases h), fun g b sh n hgg => ?_⟩
    obtain ⟨rfl, cells', e', ge, fl, fz, ex, hq, hx⟩ := startG_some hgg
    rw [ho'] at hq
    cases hq
    cases hx
    have hrel := absL_sound (startG gs) W 1000 vs cells h4
    have hlen := hrel.length
    refine ⟨Nat.le_refl _, Nat.zero_le _, Nat.le_refl _, fun _ => rfl, fun h => (by cases h), fun _ => ⟨_, _, h2, by simpa using Nat.le_of_eq hlen, ?_, fun _ i _ hi => absurd hi (Nat.not_lt_zero _), fun h => (by cases h)⟩⟩
    simp only [List.drop_zero, Nat.sub_zero]
    rw [List.take_of_length_le (Nat.le_refl _), List.take_of_length_le (by simpa using Nat.le_of_eq hlen.symm)]
    exact hrel.c
  · have ho' : (treeOf gs).get g = some o := ho
    obtain ⟨_, cells, e, vs, h3, h4, h2⟩ := hg _ (get_treeOf _ _ _ ho')
    simp only at h3
    subst h3
    exact ⟨cells.length, by unfold startG; rw [if_pos rfl, ho']⟩

theorem startG_lt {gs : List (Nat × O)} {ng : Nat} (hg : ∀ x ∈ gs, x.1 < ng) : ∀ nm g x, startG gs nm g = some x → nm < ng := by
  intro nm g x h
  obtain ⟨_, cells, e, ge, fl, fz, ex, hq, _⟩ := startG_some h
  exact hg _ (get_treeOf _ _ _ hq)

end
end Go.E2
