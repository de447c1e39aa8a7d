/- THE LAW BookTurns of the chapter 39: the call returns true and nothing that was there before it is turned, whatever the arguments. No condition beyond its row's own: the listed variables read as the program's text lays them. -/
import Derived.Test.YtlkfjinaiepocaaDoorCards
import Derived.Test.YtlkfjinaiepocaaDoorTie
import Derived.Test.YtlkfjinaiepocaaDoorFns
import Derived.Test.YtlkfjinaiepocaaDoorM6
import Derived.Test.YtlkfjinaiepocaaDoorBookAwakeRun
import Derived.WalkKit
import Derived.ProofKit
import Derived.OpenShut
import Derived.ChangeMaps5
import Derived.Deep.DeepHandedRow
namespace Go.Proofs.YtlkfjinaiepocaaDoor.bookTurns
open Go.ChangeShapes Go.WideShapes Go.ChangeAt Go.RowKit Go.ChangeMaps
set_option maxRecDepth 100000

theorem own : ownKnob Tryd.prog.godebug = none := by kernel_rfl
theorem qw6 : bookAwake.qn4.qrd = true := by kernel_rfl
theorem q27 : E2.j8 Tryd.prog bookAwake.qn4.f bookAwake.qn4.qzc := E2.qz4 Tryd.checked.mixed bookAwake.tables bookAwake.zdp (by kernel_rfl) bookAwake.q5s

/-- The calls that are answered by a fact: that of 'awake'. -/
def sp (f : Nat) : Option (List E2.V → E2.Heap → Option (E2.CR × E2.Heap)) := if f = 28 then some bookAwake.qn4.qzc else none
theorem zcy : E3.q5i (cfg sp) := fun f hf => by
  show sp f = none
  unfold sp
  rw [if_neg]
  rintro rfl
  cases hf
theorem quiet : E3.zn (cfg sp) := ⟨zcy, fun f h => by cases h⟩
theorem zey : ∀ f s, sp f = some s → E2.j8 Tryd.prog f s := by
  intro f s h
  unfold sp at h
  split at h
  · rename_i hf
    cases h
    subst hf
    exact q27
  · cases h
theorem q26 (H : E2.Heap) (hg : H.ze = (cfg sp).ng) (ho : ∀ gn o, (cfg sp).gobj gn = some o → H.get gn = some o ∧ gn < H.next) : E2.qck (cfg sp).E (.func 28) [] H fun v H' => v = .bool true ∧ H' = H :=
  E2.qzv (s := bookAwake.qn4.qzc) rfl (E2.zax qw6 hg fun x hx => ho x.1 x.2 (E3.qlf (by kernel_rfl) hx)) ⟨rfl, rfl⟩
theorem q8y : E3.qcn XK szK (cfg sp) 28 [] q3q := E3.q59 qar (v := .bool true) .sb rfl q26 fun H M => .sb .rfl .rfl fun h0 => absurd rfl h0
theorem q8z : E3.qfw XK szK (cfg sp) 28 q85 := by
  intro ns pre r h hp
  unfold q85 at h
  dsimp only at h
  split at h
  · cases h
    exact ⟨_, rfl, q8y, E3.kj rfl⟩
  · cases h

/-! ### The listed variables -/
theorem qzx {a b : Array Value} {t t' : TypeId} {f f' : Nat × Nat} (h : some (Obj.cells a t f) = some (Obj.cells b t' f')) : t = t' := by
  cases h
  rfl
theorem globals : Tryd.prog.globals.size = 1 := by kernel_rfl
theorem q4b : (Rows.bookTurnsRow.laid.filter fun x => x.2.handleName?.isSome) = [] := by kernel_rfl
noncomputable def qj0 : List Value := (E2.qjn Tryd.prog 10 116 Rows.laid_tactus_sign_uses).getD []
theorem zdf : E2.qjn Tryd.prog 10 116 Rows.laid_tactus_sign_uses = some qj0 := by kernel_rfl
theorem zdz : qj0 ≠ [] := by
  intro h
  have : qj0.isEmpty = false := by kernel_rfl
  rw [h] at this
  cases this
theorem zct : Tryd.prog.globalNamed "tactus/sign.uses" = some 0 := by kernel_rfl
theorem zc6 : (Tryd.prog.globals[0]?).map (·.type) = some 116 := by kernel_rfl
theorem zdv : ((((begin Tryd.prog (fun _ _ => 0) default).world).heap[0]?).bind Obj.row?).map (·.2) = some 116 := by kernel_rfl
theorem q96 : ("tactus/sign.uses", Rows.laid_tactus_sign_uses) ∈ Rows.bookTurnsRow.laid := by
  exact List.mem_of_getElem? (i := 0) rfl
theorem zbl {W : World} (hL : laidMet Tryd.prog Rows.bookTurnsRow.laid W) (hsh : W.ShapedOpen Tryd.prog) : W.heap[0]? = some (.cells qj0.toArray 116 (0, 0)) := by
  obtain ⟨ps, h1, _, h2⟩ := hL
  obtain ⟨t', h3⟩ := E2.qr2 h1 (fun b off hb => (h2 b off hb).1) (name := "tactus/sign.uses") (d := Rows.laid_tactus_sign_uses) q96 zct zc6 zdf zdz
  have h4 := zdv
  obtain ⟨⟨zero, t⟩, h5, h6⟩ := Option.map_eq_some_iff.1 h4
  simp only at h6
  subst h6
  obtain ⟨cs, h7, _⟩ := hsh.1 0 zero 116 (by rw [globals]; decide) h5
  have h9 := qzx (h3.symm.trans h7)
  rw [h9] at h3
  exact h3
theorem q70 {W : World} (hsh : W.ShapedOpen Tryd.prog) : 1 ≤ W.heap.size := by
  obtain ⟨⟨zero, t⟩, h5, h6⟩ := Option.map_eq_some_iff.1 zdv
  obtain ⟨cs, h7, _⟩ := hsh.1 0 zero t (by rw [globals]; decide) h5
  exact (Array.getElem?_eq_some_iff.1 h7).1
theorem qap : bookAwake.ze = [(0, .row (qj0.map E3.qf6) 116 0 0 0 false)] := by kernel_rfl
theorem toText {W : World} (hL : laidMetH Tryd.prog Rows.bookTurnsRow.laid W) : laidMet Tryd.prog Rows.bookTurnsRow.laid W := by
  unfold laidMetH at hL
  rw [q4b] at hL
  exact hL
/-- The variables lie there. -/
theorem laid {W : World} (hL : laidMetH Tryd.prog Rows.bookTurnsRow.laid W) (hsh : W.ShapedOpen Tryd.prog) (gn : Nat) (o : E2.O) (h : (cfg sp).gobj gn = some o) : (E3.qd2 W 1).get gn = some o ∧ gn < (E3.qd2 W 1).next := by
  have hm := E3.qfr (show E3.look bookAwake.ze gn = some o from h)
  have hsz := q70 hsh
  rw [qap] at hm
  simp only [List.mem_cons, Prod.mk.injEq, List.not_mem_nil, or_false] at hm
  obtain ⟨rfl, rfl⟩ := hm
  exact ⟨E3.qog (zbl (toText hL) hsh), show 0 < W.heap.size by omega⟩
/-- The fields that are used, as truth values. -/
noncomputable def zbq : List Bool := qj0.map fun
  | .bool b => b
  | _ => false
theorem zd5 : qx5 0 = some (zbq.map E3.P.lit) := by kernel_rfl
theorem zd6 : qj0.map E3.qf6 = zbq.map E2.V.bool := by kernel_rfl
theorem constants {W : World} (hL : laidMetH Tryd.prog Rows.bookTurnsRow.laid W) (hsh : W.ShapedOpen Tryd.prog) (gn : Nat) (ps : List (E3.PV KT)) (h : (cfg sp).ze gn = some ps) :
    gn < (E3.qd2 W 1).ze ∧ ∃ vs e fl fz ex, (E3.qd2 W 1).get gn = some (.row vs e 0 fl fz ex) ∧ gn < (E3.qd2 W 1).next ∧ E3.Rep XK szK (E3.wd0 (E3.qd2 W 1) (fun _ => False) (cfg sp).codec) (.eptr ps 0) (.ptr gn 0 0 vs.length) := by
  have h' : qx5 gn = some ps := h
  have hg : gn = 0 := by
    rcases gn with _ | gn
    · rfl
    · cases h'
  subst hg
  rw [zd5] at h'
  cases h'
  have hrow : (E3.qd2 W 1).get 0 = some (.row (qj0.map E3.qf6) 116 0 0 0 false) := E3.qog (zbl (toText hL) hsh)
  rw [zd6] at hrow
  refine ⟨Nat.lt_succ_self 0, _, _, _, _, _, hrow, show 0 < W.heap.size from q70 hsh, ?_⟩
  refine E3.Rep.eptr (d := 0) (off := 0) hrow (Nat.le_refl 0) (fun h => h) (by rw [List.length_map, List.length_map]; exact Nat.le_of_eq (Nat.zero_add _)) (Nat.le_refl _) (fun j p hp => ?_)
  rw [List.getElem?_map] at hp
  obtain ⟨b, hb, rfl⟩ := Option.map_eq_some_iff.1 hp
  rw [Nat.zero_add, List.getD_eq_getElem?_getD, List.getElem?_map, hb]
  exact .lit

/-! ### The first argument: a list of numbers -/
def qig : ∀ c, KT c → Prop
  | 1 => fun n => E3.I64 n
  | _ => fun _ => True
def cdA : Nat → Option Nat := E3.look [(3, 1)]
theorem q5r : E3.ArgOk qig XK szK Tryd.prog cdA 8 := by
  refine ⟨fun e c h => ?_⟩
  have := E3.qfr h
  simp only [List.mem_cons, Prod.mk.injEq, List.not_mem_nil, or_false] at this
  obtain ⟨rfl, rfl⟩ := this
  refine ⟨[.int .i64], by kernel_rfl, rfl, rfl, by kernel_rfl, by decide, fun ps h => ?_⟩
  obtain ⟨p, qs, rfl, ⟨n, rfl, h1, h2⟩, rfl⟩ := h
  exact ⟨True, n, rfl, trivial, h1, h2⟩

theorem body : ∃ c, Tryd.f6.body = some c := ⟨_, rfl⟩

theorem contract (H : Type) (enc : TypeId × Value → H) (W : World) (base : Nat) (args : Array Value) (ds gs : List (DataW H)) (before : List MemPlace)
    (hval : ∀ (j : Nat) t v, Tryd.f6.params[j]? = some t → args[j]? = some v → Value.okWide Tryd.prog W .any base t v)
    (hW : DataW.Whole enc Tryd.prog Tryd.f6.params.toList Rows.bookTurnsSpec.vars false W args.toList ds gs before) (hL : laidMetH Tryd.prog Rows.bookTurnsRow.laid W) (hsh : W.ShapedOpen Tryd.prog) :
    Calls Tryd.prog 6 args W fun e W' => ∃ v, e = .returned v ∧ Rows.bookTurnsSpec.post enc Tryd.prog Tryd.f6 false true false false W args v W' := by
  have hW' := hW
  obtain ⟨p, q, hA0, _⟩ := hW
  have hA : DataW.TrodAll enc Tryd.prog W 0 (fun _ => true) true Tryd.f6.params.toList args.toList ds p := hA0
  rw [Tryd.params6] at hA hval
  obtain ⟨v1, v2, v3, d1, d2, d3, p1, p2, p3, ha, rfl, rfl, h1, h2, h3⟩ := trodAll_three hA
  subst ha
  obtain ⟨cd, hcd⟩ := body
  have hM : ∀ n : Nat, ¬ (fun _ : Nat => False) n := fun n h => h
  have hsim := E3.zex (W := W) (ng := 1) (q70 hsh)
  have hlt : ∀ nm g x, E3.qfz W nm g = some x → nm < (E3.qd2 W 1).ro := by
    intro nm g x h
    obtain ⟨_, arr, e, fz, hb, _⟩ := E3.qcs h
    exact (Array.getElem?_eq_some_iff.1 hb).1
  obtain ⟨pv, u, hleaf, hrep, hrelu⟩ := E3.qvj (C := cfg sp) (ng := 1) (M := fun _ => False) qbv q5r hM (t := 45) (leaf := .list 1) (by kernel_rfl) (by kernel_rfl) (hval 0 45 v1 rfl rfl) h1
  obtain ⟨l, rfl, hll, hgl⟩ := hleaf
  obtain ⟨qv, u2, hleaf2, hrep2, hrelu2⟩ := E3.qvj (C := cfg sp) (ng := 1) (M := fun _ => False) qbv q5r hM (t := 3) (leaf := .int .i64) (by kernel_rfl) (by kernel_rfl) (hval 1 3 v2 rfl rfl) h2
  obtain ⟨w, rfl, hw⟩ := hleaf2
  obtain ⟨rv, u3, hleaf3, hrep3, hrelu3⟩ := E3.qvj (C := cfg sp) (ng := 1) (M := fun _ => False) qbv q5r hM (t := 3) (leaf := .int .i64) (by kernel_rfl) (by kernel_rfl) (hval 2 3 v3 rfl rfl) h3
  obtain ⟨hh, rfl, hhh⟩ := hleaf3
  have hrel : E2.qi (E3.qfz W) W [u, u2, u3] (#[v1, v2, v3] : Array Value).toList := E2.qi.cons hrelu (E2.qi.cons hrelu2 (E2.qi.cons hrelu3 E2.qi.nil))
  have hstart : E3.Start XK szK (cfg sp) (E3.qd2 W 1) (fun _ => False) := by
    refine ⟨fun n hn => ?_, ⟨Nat.le_refl _, rfl, laid hL hsh⟩, fun n h => h.elim, constants hL hsh⟩
    cases hg : (E3.qd2 W 1).get n with
    | none => rfl
    | some o =>
      obtain ⟨arr, e, fz, hb, _⟩ := E3.qlz hg
      exact absurd (Array.getElem?_eq_some_iff.1 hb).1 (Nat.not_lt.2 hn)
  have hrun := qyc quiet q8z l w hh ⟨⟨Int.le_trans (Int.ofNat_le.2 hll) (by decide), hgl⟩, hw, hhh⟩ _ _ [u, u2, u3] hstart (.cons hrep (.cons hrep2 (.cons hrep3 .nil)))
  refine (E2.qxd Tryd.checked.mixed bookAwake.tables zey Tryd.func6 (by kernel_rfl) hcd hsim hrel hrun).mono fun e W' ⟨v, H', x, G', hR, he, hx, st⟩ => ?_
  obtain ⟨w', hR⟩ := hR
  have hr := hR.rep
  obtain rfl : v = .bool true := by cases hr; rfl
  simp only [E2.Rel] at hx
  subst hx
  subst he
  have hsame : ∀ b, b < W.heap.size → W'.heap[b]? = W.heap[b]? := E3.q3g st.ext
  refine ⟨_, rfl, E3.qtm (t := 4) hW' rfl rfl Tryd.underlying4 rfl ⟨p1 ++ (p2 ++ p3), ?_⟩ (fun may => st.ext.keptBut hlt may)⟩
  rw [Tryd.params6]
  exact trodAll_mk3 (E3.qme (by kernel_rfl) (by kernel_rfl) (Nat.le_of_ble_eq_true (by kernel_rfl)) h1 hsame _ fun b hb => decide_eq_true hb) (E3.qme (by kernel_rfl) (by kernel_rfl) (Nat.le_of_ble_eq_true (by kernel_rfl)) h2 hsame _ fun b hb => decide_eq_true hb) (E3.qme (by kernel_rfl) (by kernel_rfl) (Nat.le_of_ble_eq_true (by kernel_rfl)) h3 hsame _ fun b hb => decide_eq_true hb)

/-- A WORLD FOR THE WITNESS: the settled one, the tables as their initialisers lay them. -/
def zbf : Nat → DataW Unit → List Value
  | n + 1, .agg l => l.flatMap (zbf n)
  | _ + 1, .lit (.int k i) => [.int k i]
  | _ + 1, .lit (.bool b) => [.bool b]
  | _ + 1, .lit (.string s) => [.string ⟨s.toArray⟩]
  | _, _ => []
def lay (g : Nat) (cs : List Value) (heap : Array Obj) : Array Obj :=
  heap.modify g fun
    | .cells _ t frozen => .cells cs.toArray t frozen
    | o => o
def wit : Array Value := #[.slice none 0 0, .int .i64 0, .int .i64 0]
noncomputable def qoj (os : Os) : World :=
  { World.holding Tryd.prog os ⟨#[], wit, []⟩ with heap := lay 0 (zbf 8 Rows.laid_tactus_sign_uses) ((World.holding Tryd.prog os ⟨#[], wit, []⟩).heap) }
theorem q6n (os : Os) : laidMet Tryd.prog Rows.bookTurnsRow.laid ((qoj os).forCall (fun _ _ => 0) ⟨#[], wit, []⟩).memory :=
  laidMet_of_run' 8 (by kernel_rfl) (by kernel_rfl)
theorem reads (os : Os) {H : Type} (enc : TypeId × Value → H) : ∃ places, DataW.whole enc Tryd.prog ((qoj os).forCall (fun _ _ => 0) ⟨#[], wit, []⟩).memory Tryd.f6.params.toList Rows.bookTurnsSpec.vars false wit.toList 8 = some ([.nil, .lit (.int .i64 0), .lit (.int .i64 0)], [], places) :=
  ⟨[], by kernel_rfl⟩

theorem lifted (os : Os) (started : os.Started) (H : Type) (enc : TypeId × Value → H) (F : Stop.Interp) :
    ReturnsInHanded {} Tryd.checked os 6 .any ((OpenSpec.ofChange Rows.bookTurnsSpec).preRow enc Tryd.prog Tryd.f6 Rows.bookTurnsRow.domain false Rows.bookTurnsRow.laid) (((OpenSpec.ofChange Rows.bookTurnsSpec).at F).post enc Tryd.prog Tryd.f6 false true false false) := by
  obtain ⟨places, hx⟩ := reads os enc
  refine returnsInHanded_of_row (C := Tryd.checked) (s := OpenSpec.ofChange Rows.bookTurnsSpec) own started (by kernel_rfl) Tryd.func6
    (witness_row_at (enc := enc) (C := Tryd.checked) false (qoj os) wit rfl (by kernel_rfl) (by kernel_rfl) (by kernel_rfl)
      (OpenSpec.preRow_of_cond 8 hx (by kernel_rfl) (fun k hk => by cases hk) (by kernel_rfl) (q6n os))) ?_
  intro W base args ds gs before hval hW _ _ _ hL hsh _
  exact contract H enc W base args ds gs before hval hW hL hsh

theorem said : Rows.BookTurnsSaid :=
  OpenClaim.holds_of_cond 6 Tryd.f6 rfl rfl rfl rfl rfl rfl rfl ⟨rfl, rfl, rfl, rfl, rfl⟩ rfl rfl rfl rfl rfl (by kernel_rfl) Tryd.func6 (by kernel_rfl)
    (of_decide_eq_true (by kernel_rfl)) (by unfold Func.isWrapper; first | (rw [if_pos (by decide +kernel)]; kernel_rfl) | (rw [if_neg (by decide +kernel)]; exact ⟨rfl, rfl⟩))
    (fun os started H enc _ F => by rw [OpenClaim.pre_eq_preRow]; exact lifted os started H enc F)

/-- No parameter wants a stand-in; the program's own looks. -/
theorem plain (f : FuncId) (fn : Func) (hf : Tryd.pinned.checked.prog.funcNamed "tactus/tactuslaw39.BookTurns" = some f) (hfn : Tryd.pinned.checked.prog.funcs[f]? = some fn) :
    false = Tryd.pinned.checked.prog.looks [] ∧ ∀ (j : Nat) t, fn.params[j]? = some t → Tryd.pinned.checked.prog.wantsStandIn t = false := by
  obtain rfl : f = 6 := Option.some.inj ((show Tryd.prog.funcNamed "tactus/tactuslaw39.BookTurns" = some 6 by kernel_rfl).symm.trans hf) |>.symm
  obtain rfl : fn = Tryd.f6 := (Option.some.inj (Tryd.func6.symm.trans hfn)).symm
  refine ⟨by kernel_rfl, fun j t ht => ?_⟩
  rw [Tryd.params6] at ht
  have q0 : Tryd.pinned.checked.prog.wantsStandIn 45 = false := by kernel_rfl
  have q1 : Tryd.pinned.checked.prog.wantsStandIn 3 = false := by kernel_rfl
  rcases j with _ | _ | _ | j
  · obtain rfl : 45 = t := by simpa using ht
    exact q0
  · obtain rfl : 3 = t := by simpa using ht
    exact q1
  · obtain rfl : 3 = t := by simpa using ht
    exact q1
  · simp at ht

/-- THE CARD. -/
theorem card : Rows.BookTurnsCardSaid :=
  Claim7.holds_tied_plain_at .later [] _ _ _ _ said (fun _ h => by cases h) (by kernel_rfl) (fun _ h => by cases h) bookTurns_row_tie rfl ⟨rfl, rfl⟩ (by kernel_rfl) rfl plain (by kernel_rfl)
#print axioms card
end Go.Proofs.YtlkfjinaiepocaaDoor.bookTurns
