/- E2's memory against the model's: what holds of every name, and how a step keeps it. -/
import Derived.Test.YtjbefleabibmmaaGreatDoorE2b
namespace Go.E2
open Go

def RelT (G : Ghost) (w : World) (t : Tree V) (arr : Array Value) : Prop := ∀ k v, t.get k = some v → Rel G w v (arr.getD k undef)

def RelM (G : Ghost) (w : World) : List (V × V × Nat) → List MapEntry → Prop
  | [], l => l = []
  | (k, v, b) :: es, l => ∃ x xs, l = x :: xs ∧ Rel G w k x.key ∧ Rel G w v x.val ∧ x.born = b ∧ RelM G w es xs

/-- What is asked of the block that bears a name. -/
def ObjSim (G : Ghost) (w : World) (nm : Nat) (o : O) : Prop :=
  match o with
  | .row cells elem gen floor frz exact => floor ≤ gen ∧ (exact = true → gen = 0) ∧ ∀ g b sh n, G nm g = some (b, sh, n) →
      g ≤ gen ∧ sh ≤ n ∧ n ≤ cells.length ∧ (g = gen → n = cells.length) ∧ (exact = true → sh = 0) ∧
      (floor ≤ g → ∃ arr fz, w.heap[b]? = some (.cells arr elem fz) ∧ n - sh ≤ arr.size ∧ RelC G w ((cells.take n).drop sh) (arr.toList.take (n - sh)) ∧
        (g = gen → ∀ i, frz ≤ i + sh → i < fz.2 → False) ∧ (exact = true → arr.size = cells.length))
  | .map es clock => ∀ g b sh n, G nm g = some (b, sh, n) → g = 0 ∧ ∃ res, w.heap[b]? = some (.map res clock) ∧ RelM G w es res.toList
  | .siter s pos => ∀ g b sh n, G nm g = some (b, sh, n) → g = 0 ∧ w.heap[b]? = some (.stringIter ⟨s.toArray⟩ pos)
  | .miter .. => ∀ g x, G nm g ≠ some x
  | .loop st pending tmps n params assign body defers => ∀ g b sh m, G nm g = some (b, sh, m) → g = 0 ∧
      ∃ L, w.heap[b]? = some (.loop L) ∧ L.state = st ∧ L.pending = pending ∧ L.params.toList = params ∧ L.assign = assign ∧ L.body = body ∧ codeOk assign = true ∧ codeOk body = true ∧
        L.tmps.size = n ∧ RelT G w tmps L.tmps ∧ ∃ db dsh dn, G defers 0 = some (db, dsh, dn) ∧ L.defers = db
  | .dfr => ∀ g b sh n, G nm g = some (b, sh, n) → g = 0 ∧ w.heap[b]? = some (.deferred (some []))
  | .gone => True

structure Sim (H : Heap) (G : Ghost) (w : World) : Prop where
  lt : ∀ nm g b sh n, G nm g = some (b, sh, n) → b < w.heap.size ∧ nm < H.next
  inj : ∀ nm g b sh n nm' g' sh' n', G nm g = some (b, sh, n) → G nm' g' = some (b, sh', n') → nm = nm' ∧ sh = sh'
  obj : ∀ nm o, nm < H.next → H.get nm = some o → ObjSim G w nm o
  ro : H.ro ≤ H.next
  glob : H.glob ≤ H.ro
  globs : ∀ g o, g < H.glob → H.get g = some o → ∃ n, G g 0 = some (g, 0, n)

theorem RelT.up {G G' : Ghost} {w w' : World} (h : Up G w G' w') {t : Tree V} {arr : Array Value} (e : RelT G w t arr) : RelT G' w' t arr :=
  fun k v hv => Rel.up h (e k v hv)

theorem RelT.ext {r : Nat} {G G' : Ghost} {w w' : World} (h : Ext r G w G' w') {t : Tree V} {arr : Array Value} (e : RelT G w t arr) : RelT G' w' t arr := e.up h.up

theorem RelM.up {G G' : Ghost} {w w' : World} (h : Up G w G' w') : ∀ {es : List (V × V × Nat)} {l : List MapEntry}, RelM G w es l → RelM G' w' es l
  | [], _, e => by simpa [RelM] using e
  | (k, v, b) :: es, _, e => by
    simp only [RelM] at e ⊢
    obtain ⟨x, xs, e1, e2, e3, e4, e5⟩ := e
    exact ⟨x, xs, e1, Rel.up h e2, Rel.up h e3, e4, RelM.up h e5⟩

theorem RelM.ext {r : Nat} {G G' : Ghost} {w w' : World} (h : Ext r G w G' w') {es : List (V × V × Nat)} {l : List MapEntry} (e : RelM G w es l) : RelM G' w' es l := e.up h.up

/-- What has a name whose blocks are as they were. -/
theorem ObjSim.up {G G' : Ghost} {w w' : World} {nm : Nat} {o : O} (h : Up G w G' w') (hG : ∀ g x, G' nm g = some x → G nm g = some x)
    (hw : ∀ g b sh n, G nm g = some (b, sh, n) → w'.heap[b]? = w.heap[b]?) (e : ObjSim G w nm o) : ObjSim G' w' nm o := by
  cases o with
  | row cells elem gen floor frz exact =>
    refine ⟨e.1, e.2.1, fun g b sh n hg => ?_⟩
    have hg' := hG _ _ hg
    obtain ⟨e1, e2, e3, e4, e4', e5⟩ := e.2.2 g b sh n hg'
    refine ⟨e1, e2, e3, e4, e4', fun hf => ?_⟩
    obtain ⟨arr, fz, a1, a2, a3, a4⟩ := e5 hf
    exact ⟨arr, fz, (hw _ _ _ _ hg').trans a1, a2, RelC.up h a3, a4⟩
  | map es clock =>
    intro g b sh n hg
    have hg' := hG _ _ hg
    obtain ⟨e0, res, e1, e2⟩ := e g b sh n hg'
    exact ⟨e0, res, (hw _ _ _ _ hg').trans e1, RelM.up h e2⟩
  | siter s pos =>
    intro g b sh n hg
    have hg' := hG _ _ hg
    exact ⟨(e g b sh n hg').1, (hw _ _ _ _ hg').trans (e g b sh n hg').2⟩
  | miter m a b c => intro g x hx; exact e g x (hG _ _ hx)
  | loop st pending tmps n params assign body defers =>
    intro g b sh m hg
    have hg' := hG _ _ hg
    obtain ⟨e0, L, e1, e2, e3, e4, e5, e6, e7, e7', e8, e9, db, dsh, dn, e10, e11⟩ := e g b sh m hg'
    exact ⟨e0, L, (hw _ _ _ _ hg').trans e1, e2, e3, e4, e5, e6, e7, e7', e8, e9.up h, db, dsh, dn, h.sub _ _ _ e10, e11⟩
  | dfr =>
    intro g b sh n hg
    have hg' := hG _ _ hg
    exact ⟨(e g b sh n hg').1, (hw _ _ _ _ hg').trans (e g b sh n hg').2⟩
  | gone => trivial

theorem ObjSim.ext {r : Nat} {G G' : Ghost} {w w' : World} {nm : Nat} {o : O} (h : Ext r G w G' w') (hG : ∀ g x, G' nm g = some x → G nm g = some x)
    (hw : ∀ g b sh n, G nm g = some (b, sh, n) → w'.heap[b]? = w.heap[b]?) (e : ObjSim G w nm o) : ObjSim G' w' nm o := e.up h.up hG hw

/-- One step of a run: what is kept, and what is new. -/
structure Step (H : Heap) (G : Ghost) (w : World) (H' : Heap) (G' : Ghost) (w' : World) : Prop where
  ext : Ext H.ro G w G' w'
  sim : Sim H' G' w'
  next : H.next ≤ H'.next
  ro : H'.ro = H.ro
  glob : H'.glob = H.glob
  keep : ∀ nm, nm < H.ro → H'.get nm = H.get nm
  newG : ∀ nm g x, G' nm g = some x → nm < H.ro → G nm g = some x
  frame : ∀ nm, nm < H.next → H.get nm = none → H'.get nm = none ∧ (∀ g b sh n, G nm g = some (b, sh, n) → w'.heap[b]? = w.heap[b]?) ∧ ∀ g x, G' nm g = some x → G nm g = some x

theorem Step.refl {H : Heap} {G : Ghost} {w : World} (h : Sim H G w) : Step H G w H G w :=
  ⟨Ext.refl _ _ _, h, Nat.le_refl _, rfl, rfl, fun _ _ => rfl, fun _ _ _ h _ => h, fun _ _ h => ⟨h, fun _ _ _ _ _ => rfl, fun _ _ h => h⟩⟩

theorem Step.trans {H H' H'' : Heap} {G G' G'' : Ghost} {w w' w'' : World} (h : Step H G w H' G' w') (h' : Step H' G' w' H'' G'' w'') : Step H G w H'' G'' w'' := by
  refine ⟨h.ext.trans (h.ro ▸ h'.ext), h'.sim, Nat.le_trans h.next h'.next, h'.ro.trans h.ro, h'.glob.trans h.glob, fun nm hn => ?_, fun nm g x hx hn => ?_, fun nm hn h0 => ?_⟩
  · rw [h'.keep nm (h.ro.symm ▸ hn), h.keep nm hn]
  · exact h.newG nm g x (h'.newG nm g x hx (h.ro.symm ▸ hn)) hn
  · obtain ⟨a1, a2, a3⟩ := h.frame nm hn h0
    obtain ⟨b1, b2, b3⟩ := h'.frame nm (Nat.lt_of_lt_of_le hn h.next) a1
    exact ⟨b1, fun g b sh n hg => (b2 g b sh n (h.ext.sub _ _ _ hg)).trans (a2 g b sh n hg), fun g x hx => a3 g x (b3 g x hx)⟩

/-- ONE NAME's CONTENT TURNS (or one name is new): all else is kept. -/
theorem Sim.turn {H H' : Heap} {G G' : Ghost} {w w' : World} (hs : Sim H G w) (nm0 : Nat) (o : O)
    (hH : ∀ nm, H'.get nm = if nm = nm0 then some o else H.get nm) (hnext : H.next ≤ H'.next) (hnx : ∀ nm, nm < H'.next → nm ≠ nm0 → nm < H.next) (hro : H'.ro = H.ro) (hglob : H'.glob = H.glob) (hro0 : H.ro ≤ nm0) (hn0 : nm0 < H'.next) (hfr : H.next ≤ nm0 ∨ H.get nm0 ≠ none)
    (hGs : ∀ nm g x, G nm g = some x → G' nm g = some x) (hGn : ∀ nm g x, G' nm g = some x → nm ≠ nm0 → G nm g = some x)
    (hsize : w.heap.size ≤ w'.heap.size)
    (hnew : ∀ g b sh n, G' nm0 g = some (b, sh, n) → b < w'.heap.size ∧ (w.heap.size ≤ b ∨ ∃ g' n', G nm0 g' = some (b, sh, n')))
    (hone : ∀ g b sh n g' sh' n', G' nm0 g = some (b, sh, n) → G' nm0 g' = some (b, sh', n') → w.heap.size ≤ b → sh = sh')
    (hw : ∀ b, b < w.heap.size → (∀ g sh n, G nm0 g ≠ some (b, sh, n)) → w'.heap[b]? = w.heap[b]?)
    (hshp : ∀ b x, w.shape? b = some x → w'.shape? b = some x)
    (hobj : Ext H.ro G w G' w' → ObjSim G' w' nm0 o) (hout : w'.os = w.os ∧ w'.output = w.output := by exact ⟨rfl, rfl⟩) : Step H G w H' G' w' := by
  have hfor : ∀ b, b < w.heap.size → foreign G b → foreign G' b := by
    intro b hb hf nm g sh n hg
    by_cases h0 : nm = nm0
    · subst h0
      rcases (hnew g b sh n hg).2 with h1 | ⟨g', n', h1⟩
      · omega
      · exact hf _ _ _ _ h1
    · exact hf _ _ _ _ (hGn _ _ _ hg h0)
  have hext : Ext H.ro G w G' w' := by
    refine ⟨hGs, fun b hb hf => ⟨hw b hb (fun g sh n => hf nm0 g sh n), hfor b hb hf⟩, hsize, hshp, fun nm g b sh n hr hg => ?_, hout⟩
    have hlt := hs.lt nm g b sh n hg
    refine hw b hlt.1 (fun g' sh' n' h' => ?_)
    have := (hs.inj nm g b sh n nm0 g' sh' n' hg h').1
    omega
  refine ⟨hext, ⟨fun nm g b sh n hg => ?_, fun nm g b sh n nm' g' sh' n' h1 h2 => ?_, fun nm o' hlt' ho => ?_, by rw [hro]; exact Nat.le_trans hs.ro hnext, by rw [hglob, hro]; exact hs.glob, fun g o' hg ho => ?_⟩, hnext, hro, hglob, fun nm hn => ?_, fun nm g x hx hn => ?_, fun nm hn hnone => ?_⟩
  · by_cases h0 : nm = nm0
    · subst h0; exact ⟨(hnew g b sh n hg).1, hn0⟩
    · have := hs.lt _ _ _ _ _ (hGn _ _ _ hg h0)
      exact ⟨Nat.lt_of_lt_of_le this.1 hsize, Nat.lt_of_lt_of_le this.2 hnext⟩
  · by_cases h0 : nm = nm0
    · by_cases h0' : nm' = nm0
      · subst h0; subst h0'
        refine ⟨rfl, ?_⟩
        rcases (hnew g b sh n h1).2 with h3 | ⟨g3, n3, h3⟩
        · exact hone _ _ _ _ _ _ _ h1 h2 h3
        · rcases (hnew g' b sh' n' h2).2 with h4 | ⟨g4, n4, h4⟩
          · have := (hs.lt _ _ _ _ _ h3).1; omega
          · exact (hs.inj _ _ _ _ _ _ _ _ _ h3 h4).2
      · exfalso
        subst h0
        have hb := hGn _ _ _ h2 h0'
        rcases (hnew g b sh n h1).2 with h3 | ⟨g3, n3, h3⟩
        · have := (hs.lt _ _ _ _ _ hb).1; omega
        · exact h0' (hs.inj _ _ _ _ _ _ _ _ _ hb h3).1
    · by_cases h0' : nm' = nm0
      · exfalso
        subst h0'
        have hb := hGn _ _ _ h1 h0
        rcases (hnew g' b sh' n' h2).2 with h3 | ⟨g3, n3, h3⟩
        · have := (hs.lt _ _ _ _ _ hb).1; omega
        · exact h0 (hs.inj _ _ _ _ _ _ _ _ _ hb h3).1
      · exact hs.inj _ _ _ _ _ _ _ _ _ (hGn _ _ _ h1 h0) (hGn _ _ _ h2 h0')
  · rw [hH] at ho
    by_cases h0 : nm = nm0
    · subst h0
      rw [if_pos rfl] at ho
      cases ho
      exact hobj hext
    · rw [if_neg h0] at ho
      refine (hs.obj nm o' (hnx nm hlt' h0) ho).ext hext (fun g x hx => hGn _ _ _ hx h0) (fun g b sh n hg => ?_)
      exact hw b (hs.lt _ _ _ _ _ hg).1 (fun g' sh' n' h' => h0 (hs.inj _ _ _ _ _ _ _ _ _ hg h').1)
  · rw [hglob] at hg
    have := hs.glob
    rw [hH, if_neg (by omega)] at ho
    obtain ⟨n, hn⟩ := hs.globs g o' hg ho
    exact ⟨n, hGs _ _ _ hn⟩
  · rw [hH, if_neg (by omega)]
  · exact hGn _ _ _ hx (by omega)
  · have h0 : nm ≠ nm0 := by
      intro h0
      subst h0
      rcases hfr with h1 | h1
      · omega
      · exact h1 hnone
    refine ⟨by rw [hH, if_neg h0]; exact hnone, fun g b sh n hg => ?_, fun g x hx => hGn _ _ _ hx h0⟩
    exact hw b (hs.lt _ _ _ _ _ hg).1 (fun g' sh' n' h' => h0 (hs.inj _ _ _ _ _ _ _ _ _ hg h').1)

/-! ### A new block -/
def addG (G : Ghost) (nm g : Nat) (x : Nat × Nat × Nat) : Ghost := fun nm' g' => if nm' = nm ∧ g' = g then some x else G nm' g'

theorem addG_self (G : Ghost) (nm g : Nat) (x) : addG G nm g x nm g = some x := by simp [addG]

def push (w : World) (o : Obj) : World := { w with heap := w.heap.push o }

theorem heap_push_self (w : World) (o : Obj) : (push w o).heap[w.heap.size]? = some o := Array.getElem?_push_size

theorem size_push (w : World) (o : Obj) : (push w o).heap.size = w.heap.size + 1 := Array.size_push _

theorem shape_push {w : World} {o : Obj} {b : Nat} {x} (h : w.shape? b = some x) : (push w o).shape? b = some x := by
  unfold World.shape? at *
  simp only [push]
  by_cases hb : b < w.heap.size
  · rw [Array.getElem?_push_lt hb, ← Array.getElem?_eq_getElem hb]; exact h
  · rw [Array.getElem?_eq_none (by omega)] at h; simp at h

theorem heap_push_lt {w : World} {o : Obj} {b : Nat} (hb : b < w.heap.size) : (push w o).heap[b]? = w.heap[b]? := by
  simp only [push]
  rw [Array.getElem?_push_lt hb, ← Array.getElem?_eq_getElem hb]

theorem Heap.get_new (H : Heap) (o : O) (nm : Nat) : (H.new o).get nm = if nm = H.next then some o else H.get nm := by
  simp only [Heap.get, Heap.new, Tree.get_set]

theorem Sim.fresh {H : Heap} {G : Ghost} {w : World} (hs : Sim H G w) (g : Nat) : G H.next g = none := by
  cases h : G H.next g with
  | none => rfl
  | some x => have := (hs.lt _ _ _ _ _ h).2; omega

/-- A NEW NAME for a new block. -/
theorem Sim.new {H : Heap} {G : Ghost} {w : World} (hs : Sim H G w) (o : O) (ob : Obj) (n : Nat)
    (hobj : Ext H.ro G w (addG G H.next 0 (w.heap.size, 0, n)) (push w ob) → ObjSim (addG G H.next 0 (w.heap.size, 0, n)) (push w ob) H.next o) :
    Step H G w (H.new o) (addG G H.next 0 (w.heap.size, 0, n)) (push w ob) := by
  refine hs.turn H.next o (Heap.get_new H o) (by simp [Heap.new]) (fun nm h1 h2 => by simp only [Heap.new] at h1; omega) rfl rfl hs.ro (by simp [Heap.new]) (.inl (Nat.le_refl _)) (fun nm g x hx => ?_) (fun nm g x hx h0 => ?_) (by simp [size_push])
    (fun g b sh m hg => ?_) (fun g b sh m g' sh' m' h1 h2 _ => ?_) (fun b hb _ => heap_push_lt hb) (fun b x h => shape_push h) hobj
  · simp only [addG]
    by_cases h : nm = H.next ∧ g = 0
    · rw [h.1, hs.fresh] at hx; simp at hx
    · rw [if_neg h]; exact hx
  · simp only [addG] at hx
    rw [if_neg (by omega)] at hx
    exact hx
  · simp only [addG] at hg
    by_cases h : g = 0
    · rw [if_pos ⟨trivial, h⟩] at hg
      cases hg
      exact ⟨by simp [size_push], .inl (Nat.le_refl _)⟩
    · rw [if_neg (fun x => h x.2), hs.fresh] at hg; simp at hg
  · simp only [addG] at h1 h2
    by_cases h : g = 0
    · by_cases h' : g' = 0
      · rw [if_pos ⟨trivial, h⟩] at h1
        rw [if_pos ⟨trivial, h'⟩] at h2
        cases h1; cases h2; rfl
      · rw [if_neg (fun x => h' x.2), hs.fresh] at h2; simp at h2
    · rw [if_neg (fun x => h x.2), hs.fresh] at h1; simp at h1

/-! ### A block that is no row of cells, turned -/
def setW (w : World) (b : Nat) (ob : Obj) : World := { w with heap := w.heap.setIfInBounds b ob }

theorem heap_setW_self {w : World} {b : Nat} {ob ob' : Obj} (h : w.heap[b]? = some ob) : (setW w b ob').heap[b]? = some ob' := by
  have hb : b < w.heap.size := by rw [Array.getElem?_eq_some_iff] at h; exact h.1
  simp only [setW]
  exact Array.getElem?_setIfInBounds_self_of_lt hb

theorem heap_setW_ne {w : World} {b b' : Nat} {ob : Obj} (h : b' ≠ b) : (setW w b ob).heap[b']? = w.heap[b']? := by
  simp only [setW]
  exact Array.getElem?_setIfInBounds_ne (Ne.symm h)

theorem Sim.setObj {H : Heap} {G : Ghost} {w : World} (hs : Sim H G w) {nm b sh n : Nat} {o : O} (o' : O) (ho : H.get nm = some o) (hg : G nm 0 = some (b, sh, n)) (hro : H.ro ≤ nm) {ob : Obj} (ob' : Obj) (hb : w.heap[b]? = some ob)
    (hnc : w.shape? b = none) (hobj : Ext H.ro G w G (setW w b ob') → ObjSim G (setW w b ob') nm o') :
    Step H G w { H with objs := H.objs.set nm o' } G (setW w b ob') := by
  have hsz : (setW w b ob').heap.size = w.heap.size := by simp [setW]
  refine hs.turn nm o' (fun m => by simp only [Heap.get, Tree.get_set]) (Nat.le_refl _) (fun _ h _ => h) rfl rfl hro (hs.lt _ _ _ _ _ hg).2 (.inr (by rw [ho]; simp)) (fun _ _ _ h => h) (fun _ _ _ h _ => h) (by rw [hsz]; exact Nat.le_refl _)
    (fun g' b' sh' n' hg' => ⟨by rw [hsz]; exact (hs.lt _ _ _ _ _ hg').1, .inr ⟨_, _, hg'⟩⟩) (fun _ _ _ _ _ _ _ h1 h2 _ => (hs.inj _ _ _ _ _ _ _ _ _ h1 h2).2) (fun b' _ hne => heap_setW_ne (fun e => hne 0 sh n (e ▸ hg))) (fun b' x hx => ?_) hobj
  by_cases hbb : b' = b
  · subst hbb
    rw [hnc] at hx
    cases hx
  · simp only [World.shape?, heap_setW_ne hbb] at hx ⊢
    exact hx

end Go.E2
