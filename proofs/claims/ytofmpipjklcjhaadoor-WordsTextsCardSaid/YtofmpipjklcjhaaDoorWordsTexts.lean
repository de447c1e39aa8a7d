/- THE LAW WordsTexts of the chapter 2: the call returns true and nothing that was there before it is turned, whatever the arguments. No condition beyond its row's own. -/
import Derived.Test.YtofmpipjklcjhaaDoorCards
import Derived.Test.YtofmpipjklcjhaaDoorTie
import Derived.Test.YtofmpipjklcjhaaDoorFns
import Derived.Test.YtofmpipjklcjhaaDoorM6
import Derived.WalkKit
import Derived.ProofKit
import Derived.OpenShut
import Derived.ChangeMaps5
import Derived.Deep.DeepHandedRow
namespace Go.Proofs.YtofmpipjklcjhaaDoor.wordsTexts
open Go.ChangeShapes Go.WideShapes Go.ChangeAt Go.RowKit Go.ChangeMaps
set_option maxRecDepth 100000

theorem own : ownKnob Tryd.prog.godebug = none := by kernel_rfl
theorem tables : E2.qcd Tryd.prog = true := by kernel_rfl
def qdw : E2.Fact := { f := 7, args := [], pre := [], next := 0, ro := 0, glob := 0, ret := .bool true, post := [], next' := 53 }
theorem q3x : E2.Fact.ok2 qdw (E2.qp Tryd.prog (E2.qq4 [])) 1000 = true := by kernel_rfl
theorem q09 : E2.k6 Tryd.prog qdw.f qdw.qr6 := E2.qyr Tryd.checked.mixed tables E2.q1t (by kernel_rfl) q3x

/-- The calls that are answered by a fact: that of 'awake'. -/
def sp (f : Nat) : Option (List E2.V → E2.Heap → Option (E2.CR × E2.Heap)) := if f = 7 then some qdw.qr6 else none
theorem zav : E3.q3k (cfg sp) := fun f hf => by
  show sp f = none
  unfold sp
  rw [if_neg]
  rintro rfl
  cases hf
theorem quiet : E3.zy (cfg sp) := ⟨zav, E3.q8g (C := cfg sp) (F := 29) (tB := 59) (tS := 57) (tQ := 79) (tI := 3) (tU := 5) rfl rfl (by kernel_rfl) fun el h => by
  have := E3.qdi h
  simp only [qip, List.mem_cons, Prod.mk.injEq, List.not_mem_nil, or_false] at this
  rcases this with ⟨h1, h2⟩ | ⟨h1, h2⟩ | ⟨h1, h2⟩ | ⟨h1, h2⟩ | ⟨h1, h2⟩ <;> first | exact h1 | cases h2⟩
theorem zev : ∀ f s, sp f = some s → E2.k6 Tryd.prog f s := by
  intro f s h
  unfold sp at h
  split at h
  · rename_i hf
    cases h
    subst hf
    exact q09
  · cases h
theorem q3y (H : E2.Heap) (hg : H.glob = 0) : qdw.qr6 [] H = some (.ret (.bool true), H) := by
  have h1 : qdw.fits [] [] H = true := by
    have hb : Nat.beq H.glob qdw.glob = true := by rw [hg]; rfl
    simp only [E2.Fact.fits, hb, Bool.and_true]
    rfl
  have h2 : (qdw.pre.map fun x => (x.1, x.1)) = [] := rfl
  have h3 : Nat.beq qdw.ro qdw.next = true := rfl
  have h4 : E2.qg8 qdw.ret ((E2.qc9 (fun _ => none) qdw.ret).getD (.tuple [.nilp])) = true := rfl
  simp only [E2.Fact.qr6, h2, h1, h3, h4, Bool.and_true, cond_true]
  rfl
theorem q08 (H : E2.Heap) (hg : H.glob = (cfg sp).ng) : E2.qau (cfg sp).E (.func 7) [] H fun v H' => v = .bool true ∧ H' = H := E2.qyf (s := qdw.qr6) rfl (q3y H hg) ⟨rfl, rfl⟩
theorem q6w : E3.qda XK szK (cfg sp) 7 [] q13 := E3.q4h qco (v := .bool true) .sb rfl (fun H hg _ => q08 H hg) fun H M => .sb .rfl .rfl fun h0 => absurd rfl h0
theorem q6x : E3.qid XK szK (cfg sp) 7 ct7 := by
  intro ns pre r h hp
  unfold ct7 at h
  dsimp only at h
  split at h
  · cases h
    exact ⟨_, rfl, q6w, E3.j5 rfl⟩
  · cases h

/-! ### The argument: rows -/
def good : ∀ c, KT c → Prop := fun _ _ => True
def cdA : Nat → Option Nat := E3.look [(46, 6), (43, 5)]
theorem zbd : E3.FlatOk good XK szK Tryd.prog cdA 8 5 := by
  refine ⟨fun e h => ?_⟩
  have := E3.qdi h
  simp only [List.mem_cons, Prod.mk.injEq, List.not_mem_nil, or_false] at this
  rcases this with ⟨_, h⟩ | ⟨rfl, _⟩
  · cases h
  refine ⟨[.int .i64, .str, .bool], by kernel_rfl, rfl, rfl, by kernel_rfl, by decide, fun ps h => ?_⟩
  obtain ⟨p0, q0, rfl, ⟨n, rfl, _⟩, p1, q1, rfl, ⟨t, rfl, _⟩, p2, q2, rfl, ⟨b, rfl⟩, rfl⟩ := h
  exact ⟨True, ⟨n, t, b⟩, rfl, trivial, trivial⟩
theorem zc5 : E3.NestOk good XK szK Tryd.prog cdA 8 3 6 := by
  refine ⟨fun e h => ?_⟩
  have := E3.qdi h
  simp only [List.mem_cons, Prod.mk.injEq, List.not_mem_nil, or_false] at this
  obtain rfl : e = 46 := by
    rcases this with ⟨h, _⟩ | ⟨_, h⟩
    · exact h
    · cases h
  refine ⟨[.int .i64, .list 5], by kernel_rfl, fun leaf hl => ?_, rfl, by kernel_rfl, by decide, fun ps h => ?_⟩
  · simp only [List.mem_cons, List.not_mem_nil, or_false] at hl
    rcases hl with rfl | rfl
    · exact .inl rfl
    · exact .inr ⟨5, rfl, rfl, zbd⟩
  · obtain ⟨p0, q0, rfl, ⟨n, rfl, _⟩, p1, q1, rfl, ⟨l, rfl, _, _⟩, rfl⟩ := h
    exact ⟨True, ⟨n, l⟩, rfl, trivial, trivial⟩

theorem body : ∃ c, Tryd.f4.body = some c := ⟨_, rfl⟩

theorem contract (H : Type) (enc : TypeId × Value → H) (W : World) (base : Nat) (args : Array Value) (ds gs : List (DataW H)) (before : List MemPlace)
    (hval : ∀ (j : Nat) t v, Tryd.f4.params[j]? = some t → args[j]? = some v → Value.okWide Tryd.prog W .any base t v)
    (hW : DataW.Whole enc Tryd.prog Tryd.f4.params.toList Rows.wordsTextsSpec.vars false W args.toList ds gs before) :
    Calls Tryd.prog 4 args W fun e W' => ∃ v, e = .returned v ∧ Rows.wordsTextsSpec.post enc Tryd.prog Tryd.f4 false true false false W args v W' := by
  have hW' := hW
  obtain ⟨p, q, hA0, _⟩ := hW
  have hA : DataW.TrodAll enc Tryd.prog W 0 (fun _ => true) true Tryd.f4.params.toList args.toList ds p := hA0
  rw [Tryd.params4] at hA hval
  obtain ⟨v1, d1, ha, rfl, h1⟩ := trodAll_one hA
  subst ha
  obtain ⟨cd, hcd⟩ := body
  have hM : ∀ n : Nat, ¬ (fun _ : Nat => False) n := fun n h => h
  have hsim := E3.zeu (W := W) (S := 3) (ng := 0) (Nat.zero_le _)
  have hlt : ∀ nm g x, E3.qa1 W nm g = some x → nm < (E3.qeo W 3 0).ro := by
    intro nm g x h
    obtain ⟨_, arr, e, fz, hb, _⟩ := E3.je h
    exact (Array.getElem?_eq_some_iff.1 hb).1
  obtain ⟨pv1, u1, hleaf1, hrep1, hrelu1⟩ := E3.q3w (C := cfg sp) (ng := 0) (M := fun _ => False) qg6 zc5 hM (t := 23) (by kernel_rfl) (by kernel_rfl) (hval 0 23 v1 rfl rfl) h1
  obtain ⟨l1, rfl, hll1, hgl1⟩ := hleaf1
  have hrel : E2.qh (E3.qa1 W) W [u1] (#[v1] : Array Value).toList := E2.qh.cons hrelu1 E2.qh.nil
  have hstart : E3.Start XK szK (cfg sp) (E3.qeo W 3 0) (fun _ => False) := by
    refine ⟨fun n hn => ?_, ⟨Nat.le_refl _, rfl, fun gn o h => by cases h⟩, fun n h => h.elim, fun gn ps h => by cases h⟩
    cases hg : (E3.qeo W 3 0).get n with
    | none => rfl
    | some o =>
      obtain ⟨arr, e, fz, hb, _⟩ := E3.qkh hg
      exact absurd (Array.getElem?_eq_some_iff.1 hb).1 (Nat.not_lt.2 hn)
  have hrun := qn0 quiet q6x l1 _ _ [u1] hstart (.cons hrep1 .nil)
  refine (E2.qvx Tryd.checked.mixed tables zev Tryd.func4 (by kernel_rfl) hcd hsim hrel hrun).mono fun e W' ⟨v, H', x, G', hR, he, hx, st⟩ => ?_
  obtain ⟨w', hR⟩ := hR
  have hr := hR.rep
  obtain rfl : v = .bool true := by cases hr; rfl
  simp only [E2.Rel] at hx
  subst hx
  subst he
  have hsame : ∀ b, b < W.heap.size → W'.heap[b]? = W.heap[b]? := E3.q1n st.ext
  refine ⟨_, rfl, E3.qrx (t := 4) hW' rfl rfl Tryd.underlying4 rfl ⟨p, ?_⟩ (fun may => st.ext.keptBut hlt may)⟩
  rw [Tryd.params4]
  exact trodAll_mk1 (E3.qzw (by kernel_rfl) (by kernel_rfl) (Nat.le_of_ble_eq_true (by kernel_rfl)) h1 hsame _ fun b hb => decide_eq_true hb)

/-- What an integer table reads as, laid out as cells. -/
def cellsOf : Nat → DataW Unit → List Value
  | n + 1, .agg l => l.flatMap (cellsOf n)
  | _ + 1, .lit (.int k i) => [.int k i]
  | _, _ => []

/-- A WORLD FOR THE WITNESS: the settled one, the tables as their initialisers lay them. -/
def lay (g : Nat) (cs : List Value) (heap : Array Obj) : Array Obj :=
  heap.modify g fun
    | .cells _ t frozen => .cells cs.toArray t frozen
    | o => o
def wit : Array Value := #[.slice none 0 0]
noncomputable def qmv (os : Os) : World :=
  { World.holding Tryd.prog os ⟨#[], wit, []⟩ with heap := lay 2 (cellsOf 8 Rows.laid_unicode_utf8_acceptRanges) (lay 1 (cellsOf 8 Rows.laid_unicode_utf8_first) ((World.holding Tryd.prog os ⟨#[], wit, []⟩).heap)) }
theorem q4z (os : Os) : laidMet Tryd.prog Rows.wordsTextsRow.laid ((qmv os).forCall (fun _ _ => 0) ⟨#[], wit, []⟩).memory :=
  laidMet_of_run' 8 (by kernel_rfl) (by kernel_rfl)
theorem reads (os : Os) {H : Type} (enc : TypeId × Value → H) : ∃ places, DataW.whole enc Tryd.prog ((qmv os).forCall (fun _ _ => 0) ⟨#[], wit, []⟩).memory Tryd.f4.params.toList Rows.wordsTextsSpec.vars false wit.toList 8 = some ([.nil], [], places) :=
  ⟨[], by kernel_rfl⟩

theorem lifted (os : Os) (started : os.Started) (H : Type) (enc : TypeId × Value → H) (F : Stop.Interp) :
    ReturnsInHanded {} Tryd.checked os 4 .any ((OpenSpec.ofChange Rows.wordsTextsSpec).preRow enc Tryd.prog Tryd.f4 Rows.wordsTextsRow.domain false Rows.wordsTextsRow.laid) (((OpenSpec.ofChange Rows.wordsTextsSpec).at F).post enc Tryd.prog Tryd.f4 false true false false) := by
  obtain ⟨places, hx⟩ := reads os enc
  refine returnsInHanded_of_row (C := Tryd.checked) (s := OpenSpec.ofChange Rows.wordsTextsSpec) own started (by kernel_rfl) Tryd.func4
    (witness_row_at (enc := enc) (C := Tryd.checked) false (qmv os) wit rfl (by kernel_rfl) (by kernel_rfl) (by kernel_rfl)
      (OpenSpec.preRow_of_cond 8 hx (by kernel_rfl) (fun k hk => by cases hk) (by kernel_rfl) (q4z os))) ?_
  intro W base args ds gs before hval hW _ _ _ hL _ _
  exact contract H enc W base args ds gs before hval hW

theorem said : Rows.WordsTextsSaid :=
  OpenClaim.holds_of_cond 4 Tryd.f4 rfl rfl rfl rfl rfl rfl rfl ⟨rfl, rfl, rfl, rfl, rfl⟩ rfl rfl rfl rfl rfl (by kernel_rfl) Tryd.func4 (by kernel_rfl)
    (of_decide_eq_true (by kernel_rfl)) (by unfold Func.isWrapper; first | (rw [if_pos (by decide +kernel)]; kernel_rfl) | (rw [if_neg (by decide +kernel)]; exact ⟨rfl, rfl⟩))
    (fun os started H enc _ F => by rw [OpenClaim.pre_eq_preRow]; exact lifted os started H enc F)

/-- No parameter wants a stand-in; the program's own looks. -/
theorem plain (f : FuncId) (fn : Func) (hf : Tryd.pinned.checked.prog.funcNamed "tactus/tactuslaw02.WordsTexts" = some f) (hfn : Tryd.pinned.checked.prog.funcs[f]? = some fn) :
    false = Tryd.pinned.checked.prog.looks [] ∧ ∀ (j : Nat) t, fn.params[j]? = some t → Tryd.pinned.checked.prog.wantsStandIn t = false := by
  obtain rfl : f = 4 := Option.some.inj ((show Tryd.prog.funcNamed "tactus/tactuslaw02.WordsTexts" = some 4 by kernel_rfl).symm.trans hf) |>.symm
  obtain rfl : fn = Tryd.f4 := (Option.some.inj (Tryd.func4.symm.trans hfn)).symm
  refine ⟨by kernel_rfl, fun j t ht => ?_⟩
  rw [Tryd.params4] at ht
  have q0 : Tryd.pinned.checked.prog.wantsStandIn 23 = false := by kernel_rfl
  rcases j with _ | j
  · obtain rfl : 23 = t := by simpa using ht
    exact q0
  · simp at ht

/-- THE CARD. -/
theorem card : Rows.WordsTextsCardSaid :=
  Claim7.holds_tied_plain_at .later [] _ _ _ _ said (fun _ h => by cases h) (by kernel_rfl) (fun _ h => by cases h) wordsTexts_row_tie rfl ⟨rfl, rfl⟩ (by kernel_rfl) rfl plain (by kernel_rfl)
#print axioms card
end Go.Proofs.YtofmpipjklcjhaaDoor.wordsTexts
