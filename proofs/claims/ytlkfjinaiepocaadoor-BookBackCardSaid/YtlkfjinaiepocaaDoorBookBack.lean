/- THE LAW BookBack of the chapter 39: the call returns true and nothing that was there before it is turned, whatever the arguments. No condition beyond its row's own: the listed variables read as the program's text lays them. -/
import Derived.Test.YtlkfjinaiepocaaDoorCards
import Derived.Test.YtlkfjinaiepocaaDoorTie
import Derived.Test.YtlkfjinaiepocaaDoorFns
import Derived.Test.YtlkfjinaiepocaaDoorM6
import Derived.Test.YtlkfjinaiepocaaDoorBookAwakeRun
import Derived.WalkKit
import Derived.ProofKit
import Derived.OpenShut
import Derived.ChangeMaps5
import Derived.Deep.DeepHandedRow
namespace Go.Proofs.YtlkfjinaiepocaaDoor.bookBack
open Go.ChangeShapes Go.WideShapes Go.ChangeAt Go.RowKit Go.ChangeMaps
set_option maxRecDepth 100000

theorem own : ownKnob Tryd.prog.godebug = none := by kernel_rfl
theorem qw2 : bookAwake.qnp.qq0 = true := by kernel_rfl
theorem q20 : E2.jw Tryd.prog bookAwake.qnp.f bookAwake.qnp.qy7 := E2.qzy Tryd.checked.mixed bookAwake.tables bookAwake.zdn (by kernel_rfl) bookAwake.q5m

/-- The calls that are answered by a fact: that of 'awake'. -/
def sp (f : Nat) : Option (List E2.V → E2.Heap → Option (E2.CR × E2.Heap)) := if f = 28 then some bookAwake.qnp.qy7 else none
theorem zcv : E3.q5d (cfg sp) := fun f hf => by
  show sp f = none
  unfold sp
  rw [if_neg]
  rintro rfl
  cases hf
theorem quiet : E3.zg (cfg sp) := ⟨zcv, fun f h => by cases h⟩
theorem zeu : ∀ f s, sp f = some s → E2.jw Tryd.prog f s := by
  intro f s h
  unfold sp at h
  split at h
  · rename_i hf
    cases h
    subst hf
    exact q20
  · cases h
theorem q2z (H : E2.Heap) (hg : H.zd = (cfg sp).ng) (ho : ∀ gn o, (cfg sp).gobj gn = some o → H.get gn = some o ∧ gn < H.next) : E2.qb9 (cfg sp).E (.func 28) [] H fun v H' => v = .bool true ∧ H' = H :=
  E2.qzp (s := bookAwake.qnp.qy7) rfl (E2.zau qw2 hg fun x hx => ho x.1 x.2 (E3.qk2 (by kernel_rfl) hx)) ⟨rfl, rfl⟩
theorem q8s : E3.qb6 XK szK (cfg sp) 28 [] q3j := E3.q53 jx (v := .bool true) .sb rfl q2z fun H M => .sb .rfl .rfl fun h0 => absurd rfl h0
theorem q8t : E3.qek XK szK (cfg sp) 28 q81 := by
  intro ns pre r h hp
  unfold q81 at h
  dsimp only at h
  split at h
  · cases h
    exact ⟨_, rfl, q8s, E3.z4 rfl⟩
  · cases h

/-! ### The listed variables -/
theorem qzr {a b : Array Value} {t t' : TypeId} {f f' : Nat × Nat} (h : some (Obj.cells a t f) = some (Obj.cells b t' f')) : t = t' := by
  cases h
  rfl
theorem globals : Tryd.prog.globals.size = 1 := by kernel_rfl
theorem q32 : (Rows.bookBackRow.laid.filter fun x => x.2.handleName?.isSome) = [] := by kernel_rfl
noncomputable def qjn : List Value := (E2.qja Tryd.prog 10 116 Rows.laid_tactus_sign_uses).getD []
theorem zdd : E2.qja Tryd.prog 10 116 Rows.laid_tactus_sign_uses = some qjn := by kernel_rfl
theorem zdx : qjn ≠ [] := by
  intro h
  have : qjn.isEmpty = false := by kernel_rfl
  rw [h] at this
  cases this
theorem zcq : Tryd.prog.globalNamed "tactus/sign.uses" = some 0 := by kernel_rfl
theorem zc4 : (Tryd.prog.globals[0]?).map (·.type) = some 116 := by kernel_rfl
theorem zdt : ((((begin Tryd.prog (fun _ _ => 0) default).world).heap[0]?).bind Obj.row?).map (·.2) = some 116 := by kernel_rfl
theorem q92 : ("tactus/sign.uses", Rows.laid_tactus_sign_uses) ∈ Rows.bookBackRow.laid := by
  exact List.mem_of_getElem? (i := 0) rfl
theorem zbh {W : World} (hL : laidMet Tryd.prog Rows.bookBackRow.laid W) (hsh : W.ShapedOpen Tryd.prog) : W.heap[0]? = some (.cells qjn.toArray 116 (0, 0)) := by
  obtain ⟨ps, h1, _, h2⟩ := hL
  obtain ⟨t', h3⟩ := E2.qrq h1 (fun b off hb => (h2 b off hb).1) (name := "tactus/sign.uses") (d := Rows.laid_tactus_sign_uses) q92 zcq zc4 zdd zdx
  have h4 := zdt
  obtain ⟨⟨zero, t⟩, h5, h6⟩ := Option.map_eq_some_iff.1 h4
  simp only at h6
  subst h6
  obtain ⟨cs, h7, _⟩ := hsh.1 0 zero 116 (by rw [globals]; decide) h5
  have h9 := qzr (h3.symm.trans h7)
  rw [h9] at h3
  exact h3
theorem q7u {W : World} (hsh : W.ShapedOpen Tryd.prog) : 1 ≤ W.heap.size := by
  obtain ⟨⟨zero, t⟩, h5, h6⟩ := Option.map_eq_some_iff.1 zdt
  obtain ⟨cs, h7, _⟩ := hsh.1 0 zero t (by rw [globals]; decide) h5
  exact (Array.getElem?_eq_some_iff.1 h7).1
theorem qah : bookAwake.zd = [(0, .row (qjn.map E3.qft) 116 0 0 0 false)] := by kernel_rfl
theorem toText {W : World} (hL : laidMetH Tryd.prog Rows.bookBackRow.laid W) : laidMet Tryd.prog Rows.bookBackRow.laid W := by
  unfold laidMetH at hL
  rw [q32] at hL
  exact hL
/-- The variables lie there. -/
theorem laid {W : World} (hL : laidMetH Tryd.prog Rows.bookBackRow.laid W) (hsh : W.ShapedOpen Tryd.prog) (gn : Nat) (o : E2.O) (h : (cfg sp).gobj gn = some o) : (E3.qds W 1).get gn = some o ∧ gn < (E3.qds W 1).next := by
  have hm := E3.qfh (show E3.look bookAwake.zd gn = some o from h)
  have hsz := q7u hsh
  rw [qah] at hm
  simp only [List.mem_cons, Prod.mk.injEq, List.not_mem_nil, or_false] at hm
  obtain ⟨rfl, rfl⟩ := hm
  exact ⟨E3.qn2 (zbh (toText hL) hsh), show 0 < W.heap.size by omega⟩
/-- The fields that are used, as truth values. -/
noncomputable def zbm : List Bool := qjn.map fun
  | .bool b => b
  | _ => false
theorem zd3 : qx1 0 = some (zbm.map E3.P.lit) := by kernel_rfl
theorem zd4 : qjn.map E3.qft = zbm.map E2.V.bool := by kernel_rfl
theorem constants {W : World} (hL : laidMetH Tryd.prog Rows.bookBackRow.laid W) (hsh : W.ShapedOpen Tryd.prog) (gn : Nat) (ps : List (E3.PV KT)) (h : (cfg sp).zd gn = some ps) :
    gn < (E3.qds W 1).zd ∧ ∃ vs e fl fz ex, (E3.qds W 1).get gn = some (.row vs e 0 fl fz ex) ∧ gn < (E3.qds W 1).next ∧ E3.Rep XK szK (E3.wd0 (E3.qds W 1) (fun _ => False) (cfg sp).codec) (.eptr ps 0) (.ptr gn 0 0 vs.length) := by
  have h' : qx1 gn = some ps := h
  have hg : gn = 0 := by
    rcases gn with _ | gn
    · rfl
    · cases h'
  subst hg
  rw [zd3] at h'
  cases h'
  have hrow : (E3.qds W 1).get 0 = some (.row (qjn.map E3.qft) 116 0 0 0 false) := E3.qn2 (zbh (toText hL) hsh)
  rw [zd4] at hrow
  refine ⟨Nat.lt_succ_self 0, _, _, _, _, _, hrow, show 0 < W.heap.size from q7u hsh, ?_⟩
  refine E3.Rep.eptr (d := 0) (off := 0) hrow (Nat.le_refl 0) (fun h => h) (by rw [List.length_map, List.length_map]; exact Nat.le_of_eq (Nat.zero_add _)) (Nat.le_refl _) (fun j p hp => ?_)
  rw [List.getElem?_map] at hp
  obtain ⟨b, hb, rfl⟩ := Option.map_eq_some_iff.1 hp
  rw [Nat.zero_add, List.getD_eq_getElem?_getD, List.getElem?_map, hb]
  exact .lit

/-! ### The first argument: a list of numbers -/
def qh1 : ∀ c, KT c → Prop
  | 1 => fun n => E3.I64 n
  | _ => fun _ => True
def cdA : Nat → Option Nat := E3.look [(3, 1)]
theorem q5l : E3.ArgOk qh1 XK szK Tryd.prog cdA 8 := by
  refine ⟨fun e c h => ?_⟩
  have := E3.qfh h
  simp only [List.mem_cons, Prod.mk.injEq, List.not_mem_nil, or_false] at this
  obtain ⟨rfl, rfl⟩ := this
  refine ⟨[.int .i64], by kernel_rfl, rfl, rfl, by kernel_rfl, by decide, fun ps h => ?_⟩
  obtain ⟨p, qs, rfl, ⟨n, rfl, h1, h2⟩, rfl⟩ := h
  exact ⟨True, n, rfl, trivial, h1, h2⟩

theorem body : ∃ c, Tryd.f5.body = some c := ⟨_, rfl⟩

theorem contract (H : Type) (enc : TypeId × Value → H) (W : World) (base : Nat) (args : Array Value) (ds gs : List (DataW H)) (before : List MemPlace)
    (hval : ∀ (j : Nat) t v, Tryd.f5.params[j]? = some t → args[j]? = some v → Value.okWide Tryd.prog W .any base t v)
    (hW : DataW.Whole enc Tryd.prog Tryd.f5.params.toList Rows.bookBackSpec.vars false W args.toList ds gs before) (hL : laidMetH Tryd.prog Rows.bookBackRow.laid W) (hsh : W.ShapedOpen Tryd.prog) :
    Calls Tryd.prog 5 args W fun e W' => ∃ v, e = .returned v ∧ Rows.bookBackSpec.post enc Tryd.prog Tryd.f5 false true false false W args v W' := by
  have hW' := hW
  obtain ⟨p, q, hA0, _⟩ := hW
  have hA : DataW.TrodAll enc Tryd.prog W 0 (fun _ => true) true Tryd.f5.params.toList args.toList ds p := hA0
  rw [Tryd.params5] at hA hval
  obtain ⟨v1, v2, v3, d1, d2, d3, p1, p2, p3, ha, rfl, rfl, h1, h2, h3⟩ := trodAll_three hA
  subst ha
  obtain ⟨cd, hcd⟩ := body
  have hM : ∀ n : Nat, ¬ (fun _ : Nat => False) n := fun n h => h
  have hsim := E3.zet (W := W) (ng := 1) (q7u hsh)
  have hlt : ∀ nm g x, E3.qfn W nm g = some x → nm < (E3.qds W 1).ro := by
    intro nm g x h
    obtain ⟨_, arr, e, fz, hb, _⟩ := E3.qcf h
    exact (Array.getElem?_eq_some_iff.1 hb).1
  obtain ⟨pv, u, hleaf, hrep, hrelu⟩ := E3.qvc (C := cfg sp) (ng := 1) (M := fun _ => False) qa9 q5l hM (t := 45) (leaf := .list 1) (by kernel_rfl) (by kernel_rfl) (hval 0 45 v1 rfl rfl) h1
  obtain ⟨l, rfl, hll, hgl⟩ := hleaf
  obtain ⟨qv, u2, hleaf2, hrep2, hrelu2⟩ := E3.qvc (C := cfg sp) (ng := 1) (M := fun _ => False) qa9 q5l hM (t := 3) (leaf := .int .i64) (by kernel_rfl) (by kernel_rfl) (hval 1 3 v2 rfl rfl) h2
  obtain ⟨w, rfl, hw⟩ := hleaf2
  obtain ⟨rv, u3, hleaf3, hrep3, hrelu3⟩ := E3.qvc (C := cfg sp) (ng := 1) (M := fun _ => False) qa9 q5l hM (t := 3) (leaf := .int .i64) (by kernel_rfl) (by kernel_rfl) (hval 2 3 v3 rfl rfl) h3
  obtain ⟨hh, rfl, hhh⟩ := hleaf3
  have hrel : E2.qh (E3.qfn W) W [u, u2, u3] (#[v1, v2, v3] : Array Value).toList := E2.qh.cons hrelu (E2.qh.cons hrelu2 (E2.qh.cons hrelu3 E2.qh.nil))
  have hstart : E3.Start XK szK (cfg sp) (E3.qds W 1) (fun _ => False) := by
    refine ⟨fun n hn => ?_, ⟨Nat.le_refl _, rfl, laid hL hsh⟩, fun n h => h.elim, constants hL hsh⟩
    cases hg : (E3.qds W 1).get n with
    | none => rfl
    | some o =>
      obtain ⟨arr, e, fz, hb, _⟩ := E3.qlm hg
      exact absurd (Array.getElem?_eq_some_iff.1 hb).1 (Nat.not_lt.2 hn)
  have hrun := qz3 quiet q8t l w hh ⟨⟨Int.le_trans (Int.ofNat_le.2 hll) (by decide), hgl⟩, hw, hhh⟩ _ _ [u, u2, u3] hstart (.cons hrep (.cons hrep2 (.cons hrep3 .nil)))
  refine (E2.qw9 Tryd.checked.mixed bookAwake.tables zeu Tryd.func5 (by kernel_rfl) hcd hsim hrel hrun).mono fun e W' ⟨v, H', x, G', hR, he, hx, st⟩ => ?_
  obtain ⟨w', hR⟩ := hR
  have hr := hR.rep
  obtain rfl : v = .bool true := by cases hr; rfl
  simp only [E2.Rel] at hx
  subst hx
  subst he
  have hsame : ∀ b, b < W.heap.size → W'.heap[b]? = W.heap[b]? := E3.q29 st.ext
  refine ⟨_, rfl, E3.qtb (t := 4) hW' rfl rfl Tryd.underlying4 rfl ⟨p1 ++ (p2 ++ p3), ?_⟩ (fun may => st.ext.keptBut hlt may)⟩
  rw [Tryd.params5]
  exact trodAll_mk3 (E3.ql2 (by kernel_rfl) (by kernel_rfl) (Nat.le_of_ble_eq_true (by kernel_rfl)) h1 hsame _ fun b hb => decide_eq_true hb) (E3.ql2 (by kernel_rfl) (by kernel_rfl) (Nat.le_of_ble_eq_true (by kernel_rfl)) h2 hsame _ fun b hb => decide_eq_true hb) (E3.ql2 (by kernel_rfl) (by kernel_rfl) (Nat.le_of_ble_eq_true (by kernel_rfl)) h3 hsame _ fun b hb => decide_eq_true hb)

/-- A WORLD FOR THE WITNESS: the settled one, the tables as their initialisers lay them. -/
def zbb : Nat → DataW Unit → List Value
  | n + 1, .agg l => l.flatMap (zbb n)
  | _ + 1, .lit (.int k i) => [.int k i]
  | _ + 1, .lit (.bool b) => [.bool b]
  | _ + 1, .lit (.string s) => [.string ⟨s.toArray⟩]
  | _, _ => []
def lay (g : Nat) (cs : List Value) (heap : Array Obj) : Array Obj :=
  heap.modify g fun
    | .cells _ t frozen => .cells cs.toArray t frozen
    | o => o
def wit : Array Value := #[.slice none 0 0, .int .i64 0, .int .i64 0]
noncomputable def qn5 (os : Os) : World :=
  { World.holding Tryd.prog os ⟨#[], wit, []⟩ with heap := lay 0 (zbb 8 Rows.laid_tactus_sign_uses) ((World.holding Tryd.prog os ⟨#[], wit, []⟩).heap) }
theorem q6h (os : Os) : laidMet Tryd.prog Rows.bookBackRow.laid ((qn5 os).forCall (fun _ _ => 0) ⟨#[], wit, []⟩).memory :=
  laidMet_of_run' 8 (by kernel_rfl) (by kernel_rfl)
theorem reads (os : Os) {H : Type} (enc : TypeId × Value → H) : ∃ places, DataW.whole enc Tryd.prog ((qn5 os).forCall (fun _ _ => 0) ⟨#[], wit, []⟩).memory Tryd.f5.params.toList Rows.bookBackSpec.vars false wit.toList 8 = some ([.nil, .lit (.int .i64 0), .lit (.int .i64 0)], [], places) :=
  ⟨[], by kernel_rfl⟩

theorem lifted (os : Os) (started : os.Started) (H : Type) (enc : TypeId × Value → H) (F : Stop.Interp) :
    ReturnsInHanded {} Tryd.checked os 5 .any ((OpenSpec.ofChange Rows.bookBackSpec).preRow enc Tryd.prog Tryd.f5 Rows.bookBackRow.domain false Rows.bookBackRow.laid) (((OpenSpec.ofChange Rows.bookBackSpec).at F).post enc Tryd.prog Tryd.f5 false true false false) := by
  obtain ⟨places, hx⟩ := reads os enc
  refine returnsInHanded_of_row (C := Tryd.checked) (s := OpenSpec.ofChange Rows.bookBackSpec) own started (by kernel_rfl) Tryd.func5
    (witness_row_at (enc := enc) (C := Tryd.checked) false (qn5 os) wit rfl (by kernel_rfl) (by kernel_rfl) (by kernel_rfl)
      (OpenSpec.preRow_of_cond 8 hx (by kernel_rfl) (fun k hk => by cases hk) (by kernel_rfl) (q6h os))) ?_
  intro W base args ds gs before hval hW _ _ _ hL hsh _
  exact contract H enc W base args ds gs before hval hW hL hsh

theorem said : Rows.BookBackSaid :=
  OpenClaim.holds_of_cond 5 Tryd.f5 rfl rfl rfl rfl rfl rfl rfl ⟨rfl, rfl, rfl, rfl, rfl⟩ rfl rfl rfl rfl rfl (by kernel_rfl) Tryd.func5 (by kernel_rfl)
    (of_decide_eq_true (by kernel_rfl)) (by unfold Func.isWrapper; first | (rw [if_pos (by decide +kernel)]; kernel_rfl) | (rw [if_neg (by decide +kernel)]; exact ⟨rfl, rfl⟩))
    (fun os started H enc _ F => by rw [OpenClaim.pre_eq_preRow]; exact lifted os started H enc F)

/-- No parameter wants a stand-in; the program's own looks. -/
theorem plain (f : FuncId) (fn : Func) (hf : Tryd.pinned.checked.prog.funcNamed "tactus/tactuslaw39.BookBack" = some f) (hfn : Tryd.pinned.checked.prog.funcs[f]? = some fn) :
    false = Tryd.pinned.checked.prog.looks [] ∧ ∀ (j : Nat) t, fn.params[j]? = some t → Tryd.pinned.checked.prog.wantsStandIn t = false := by
  obtain rfl : f = 5 := Option.some.inj ((show Tryd.prog.funcNamed "tactus/tactuslaw39.BookBack" = some 5 by kernel_rfl).symm.trans hf) |>.symm
  obtain rfl : fn = Tryd.f5 := (Option.some.inj (Tryd.func5.symm.trans hfn)).symm
  refine ⟨by kernel_rfl, fun j t ht => ?_⟩
  rw [Tryd.params5] at ht
  have q0 : Tryd.pinned.checked.prog.wantsStandIn 45 = false := by kernel_rfl
  have q1 : Tryd.pinned.checked.prog.wantsStandIn 3 = false := by kernel_rfl
  rcases j with _ | _ | _ | j
  · obtain rfl : 45 = t := by simpa using ht
    exact q0
  · obtain rfl : 3 = t := by simpa using ht
    exact q1
  · obtain rfl : 3 = t := by simpa using ht
    exact q1
  · simp at ht

/-- THE CARD. -/
theorem card : Rows.BookBackCardSaid :=
  Claim7.holds_tied_plain_at .later [] _ _ _ _ said (fun _ h => by cases h) (by kernel_rfl) (fun _ h => by cases h) bookBack_row_tie rfl ⟨rfl, rfl⟩ (by kernel_rfl) rfl plain (by kernel_rfl)
#print axioms card
end Go.Proofs.YtlkfjinaiepocaaDoor.bookBack
