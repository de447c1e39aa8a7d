/- THE FUNCTIONS on times and voices meet their contracts. Made by program (vc.py). -/
import Derived.Test.YtjbefleabibmmaaGreatDoorOks
namespace Go.Proofs.YtjbefleabibmmaaGreatDoor
open Go Go.E2 Go.E3
set_option maxRecDepth 100000
variable {sp : Nat → Option (List V → Heap → Option (CR × Heap))}

theorem divisor_fnR (hq : Quiet3 (cfg sp)) : ∀ (m : Nat) (a0 : Int) (a1 : Int), (Int.toNat a1) = m → (0 ≤ a0 ∧ 0 ≤ a1 ∧ a0 ≤ 4611686018427387904 ∧ a1 ≤ 4611686018427387904) → FnOk XK szK (cfg sp) 83 [.int .i64 none (a0), .int .i64 none (a1)] (divisor_res a0 a1) := by
  intro m
  induction m using Nat.strongRecOn with
  | _ m ih =>
    intro a0 a1 hm hp
    have hc : CtOk XK szK (cfg sp) 83 (ctR83 a0 a1) := by
      intro ns pre r h hp2
      unfold ctR83 at h
      dsimp only at h
      split at h
      · cases h
        exact ⟨_, rfl, ih _ (by rw [← hm]; exact hp2.2) _ _ rfl hp2.1, formB_ok rfl⟩
      · cases h
    exact fn_ok cfgOk cfgOk2 (tblOk_cons hc (tblOk_nil)) hq (plains_ok rfl) (by simp [P.flat, P.cellsOf, RT]) (divisor_vc a0 a1) (divisor_ok a0 a1 hp)
theorem divisor_fn (hq : Quiet3 (cfg sp)) (a0 : Int) (a1 : Int) (hp : (0 ≤ a0 ∧ 0 ≤ a1 ∧ a0 ≤ 4611686018427387904 ∧ a1 ≤ 4611686018427387904)) : FnOk XK szK (cfg sp) 83 [.int .i64 none (a0), .int .i64 none (a1)] (divisor_res a0 a1) := divisor_fnR hq _ a0 a1 rfl hp
theorem ct83_ok (hq : Quiet3 (cfg sp)) : CtOk XK szK (cfg sp) 83 ct83 := by
  intro ns pre r h hp
  unfold ct83 at h
  dsimp only at h
  split at h
  · cases h
    exact ⟨_, rfl, divisor_fn hq _ _ hp, formB_ok rfl⟩
  · cases h
theorem gcdR_fn (hq : Quiet3 (cfg sp)) (a0 : Int) (a1 : Int) (hp : (0 ≤ a0 ∧ 0 ≤ a1 ∧ a0 ≤ 4611686018427387904 ∧ a1 ≤ 4611686018427387904)) : FnOk XK szK (cfg sp) 84 [.int .i64 none (a0), .int .i64 none (a1)] (gcdR_res a0 a1) :=
  fn_ok cfgOk cfgOk2 (tblOk_nil) hq (plains_ok rfl) (by simp [P.flat, P.cellsOf, RT]) (gcdR_vc a0 a1) (gcdR_ok a0 a1 hp)
theorem ct84_ok (hq : Quiet3 (cfg sp)) : CtOk XK szK (cfg sp) 84 ct84 := by
  intro ns pre r h hp
  unfold ct84 at h
  dsimp only at h
  split at h
  · cases h
    exact ⟨_, rfl, gcdR_fn hq _ _ hp, formB_ok rfl⟩
  · cases h
theorem CheckS_fn (hq : Quiet3 (cfg sp)) (a0 : Int) (a1 : Int) : FnOk XK szK (cfg sp) 49 [.agg [.int .i64 none (a0), .int .i64 none (a1)]] (CheckS_res a0 a1) :=
  fn_ok cfgOk cfgOk2 (tblOk_cons (ct83_ok hq) (tblOk_nil)) hq (plains_ok rfl) (by simp [P.flat, P.cellsOf, RT]) (CheckS_vc a0 a1) (CheckS_ok a0 a1 )
theorem ct49_ok (hq : Quiet3 (cfg sp)) : CtOk XK szK (cfg sp) 49 ct49 := by
  intro ns pre r h hp
  unfold ct49 at h
  dsimp only at h
  split at h
  · cases h
    exact ⟨_, rfl, CheckS_fn hq _ _, formB_ok rfl⟩
  · cases h
theorem CheckR_fn (hq : Quiet3 (cfg sp)) (a0 : Int) (a1 : Int) : FnOk XK szK (cfg sp) 53 [.agg [.int .i64 none (a0), .int .i64 none (a1)]] (CheckR_res a0 a1) :=
  fn_ok cfgOk cfgOk2 (tblOk_cons (ct84_ok hq) (tblOk_nil)) hq (plains_ok rfl) (by simp [P.flat, P.cellsOf, RT]) (CheckR_vc a0 a1) (CheckR_ok a0 a1 )
theorem ct53_ok (hq : Quiet3 (cfg sp)) : CtOk XK szK (cfg sp) 53 ct53 := by
  intro ns pre r h hp
  unfold ct53 at h
  dsimp only at h
  split at h
  · cases h
    exact ⟨_, rfl, CheckR_fn hq _ _, formB_ok rfl⟩
  · cases h
theorem firstS_fn (hq : Quiet3 (cfg sp)) (a0 : List Time) (hp : (ln a0 ≤ 1000000000)) : FnOk XK szK (cfg sp) 51 [.list 9 (a0) none] (firstS_res a0) :=
  fn_ok cfgOk cfgOk2 (tblOk_cons (ct49_ok hq) (tblOk_nil)) hq (plains_ok rfl) (by simp [P.flat, P.cellsOf, RT]) (firstS_vc a0) (firstS_ok a0 hp)
theorem ct51_ok (hq : Quiet3 (cfg sp)) : CtOk XK szK (cfg sp) 51 ct51 := by
  intro ns pre r h hp
  unfold ct51 at h
  dsimp only at h
  split at h
  · cases h
    exact ⟨_, rfl, firstS_fn hq _ hp, formB_ok rfl⟩
  · cases h
theorem MakeS_fn (hq : Quiet3 (cfg sp)) (a0 : Int) (a1 : Int) (hp : (0 ≤ a0 ∧ 1 ≤ a1 ∧ a0 ≤ 4611686018427387904 ∧ a1 ≤ 4611686018427387904)) : FnOk XK szK (cfg sp) 52 [.int .i64 none (a0), .int .i64 none (a1)] (MakeS_res a0 a1) :=
  fn_ok cfgOk cfgOk2 (tblOk_cons (ct83_ok hq) (tblOk_nil)) hq (plains_ok rfl) (by simp [P.flat, P.cellsOf, RT]) (MakeS_vc a0 a1) (MakeS_ok a0 a1 hp)
theorem ct52_ok (hq : Quiet3 (cfg sp)) : CtOk XK szK (cfg sp) 52 ct52 := by
  intro ns pre r h hp
  unfold ct52 at h
  dsimp only at h
  split at h
  · cases h
    exact ⟨_, rfl, MakeS_fn hq _ _ hp, formB_ok rfl⟩
  · cases h
theorem ofR_fn (hq : Quiet3 (cfg sp)) (a0 : Int) (a1 : Int) (hp : (0 ≤ a0 ∧ 1 ≤ a1 ∧ a0 ≤ 4611686018427387904 ∧ a1 ≤ 4611686018427387904)) : FnOk XK szK (cfg sp) 56 [.int .i64 none (a0), .int .i64 none (a1)] (ofR_res a0 a1) :=
  fn_ok cfgOk cfgOk2 (tblOk_cons (ct84_ok hq) (tblOk_nil)) hq (plains_ok rfl) (by simp [P.flat, P.cellsOf, RT]) (ofR_vc a0 a1) (ofR_ok a0 a1 hp)
theorem ct56_ok (hq : Quiet3 (cfg sp)) : CtOk XK szK (cfg sp) 56 ct56 := by
  intro ns pre r h hp
  unfold ct56 at h
  dsimp only at h
  split at h
  · cases h
    exact ⟨_, rfl, ofR_fn hq _ _ hp, formB_ok rfl⟩
  · cases h
theorem AddS_fn (hq : Quiet3 (cfg sp)) (a0 : Int) (a1 : Int) (a2 : Int) (a3 : Int) : FnOk XK szK (cfg sp) 27 [.agg [.int .i64 none (a0), .int .i64 none (a1)], .agg [.int .i64 none (a2), .int .i64 none (a3)]] (AddS_res a0 a1 a2 a3) :=
  fn_ok cfgOk cfgOk2 (tblOk_cons (ct51_ok hq) (tblOk_cons (ct52_ok hq) (tblOk_nil))) hq (plains_ok rfl) (by simp [P.flat, P.cellsOf, RT]) (AddS_vc a0 a1 a2 a3) (AddS_ok a0 a1 a2 a3 )
theorem ct27_ok (hq : Quiet3 (cfg sp)) : CtOk XK szK (cfg sp) 27 ct27 := by
  intro ns pre r h hp
  unfold ct27 at h
  dsimp only at h
  split at h
  · cases h
    exact ⟨_, rfl, AddS_fn hq _ _ _ _, formB_ok rfl⟩
  · cases h
theorem AddR_fn (hq : Quiet3 (cfg sp)) (a0 : Int) (a1 : Int) (a2 : Int) (a3 : Int) : FnOk XK szK (cfg sp) 29 [.agg [.int .i64 none (a0), .int .i64 none (a1)], .agg [.int .i64 none (a2), .int .i64 none (a3)]] (AddR_res a0 a1 a2 a3) :=
  fn_ok cfgOk cfgOk2 (tblOk_cons (ct53_ok hq) (tblOk_cons (ct56_ok hq) (tblOk_nil))) hq (plains_ok rfl) (by simp [P.flat, P.cellsOf, RT]) (AddR_vc a0 a1 a2 a3) (AddR_ok a0 a1 a2 a3 )
theorem ct29_ok (hq : Quiet3 (cfg sp)) : CtOk XK szK (cfg sp) 29 ct29 := by
  intro ns pre r h hp
  unfold ct29 at h
  dsimp only at h
  split at h
  · cases h
    exact ⟨_, rfl, AddR_fn hq _ _ _ _, formB_ok rfl⟩
  · cases h
theorem CompareS_fn (hq : Quiet3 (cfg sp)) (a0 : Int) (a1 : Int) (a2 : Int) (a3 : Int) : FnOk XK szK (cfg sp) 30 [.agg [.int .i64 none (a0), .int .i64 none (a1)], .agg [.int .i64 none (a2), .int .i64 none (a3)]] (CompareS_res a0 a1 a2 a3) :=
  fn_ok cfgOk cfgOk2 (tblOk_cons (ct51_ok hq) (tblOk_nil)) hq (plains_ok rfl) (by simp [P.flat, P.cellsOf, RT]) (CompareS_vc a0 a1 a2 a3) (CompareS_ok a0 a1 a2 a3 )
theorem ct30_ok (hq : Quiet3 (cfg sp)) : CtOk XK szK (cfg sp) 30 ct30 := by
  intro ns pre r h hp
  unfold ct30 at h
  dsimp only at h
  split at h
  · cases h
    exact ⟨_, rfl, CompareS_fn hq _ _ _ _, formB_ok rfl⟩
  · cases h
theorem CompareR_fn (hq : Quiet3 (cfg sp)) (a0 : Int) (a1 : Int) (a2 : Int) (a3 : Int) : FnOk XK szK (cfg sp) 33 [.agg [.int .i64 none (a0), .int .i64 none (a1)], .agg [.int .i64 none (a2), .int .i64 none (a3)]] (CompareR_res a0 a1 a2 a3) :=
  fn_ok cfgOk cfgOk2 (tblOk_cons (ct53_ok hq) (tblOk_nil)) hq (plains_ok rfl) (by simp [P.flat, P.cellsOf, RT]) (CompareR_vc a0 a1 a2 a3) (CompareR_ok a0 a1 a2 a3 )
theorem ct33_ok (hq : Quiet3 (cfg sp)) : CtOk XK szK (cfg sp) 33 ct33 := by
  intro ns pre r h hp
  unfold ct33 at h
  dsimp only at h
  split at h
  · cases h
    exact ⟨_, rfl, CompareR_fn hq _ _ _ _, formB_ok rfl⟩
  · cases h
theorem At1_fn (hq : Quiet3 (cfg sp)) (a0 : Int) (a1 : Int) (a2 : Int) (a3 : Int) (a4 : Int) (a5 : Int) (a6 : Int) (a7 : Bool) (a8 : Int) (a9 : Int) (a10 : Int) (a11 : Int) : FnOk XK szK (cfg sp) 32 [.agg [.int .i64 none (a0), .int .i64 none (a1), .int .i64 none (a2), .int .i64 none (a3), .int .i64 none (a4), .int .i64 none (a5), .int .i64 none (a6), .sb 0 false (a7) (a7 = true) (a7 = false), .int .i64 none (a8), .int .i64 none (a9)], .agg [.int .i64 none (a10), .int .i64 none (a11)]] (At1_res a0 a1 a2 a3 a4 a5 a6 a7 a8 a9 a10 a11) :=
  fn_ok cfgOk cfgOk2 (tblOk_cons (ct30_ok hq) (tblOk_nil)) hq (plains_ok rfl) (by simp [P.flat, P.cellsOf, RT]) (At1_vc a0 a1 a2 a3 a4 a5 a6 a7 a8 a9 a10 a11) (At1_ok a0 a1 a2 a3 a4 a5 a6 a7 a8 a9 a10 a11 )
theorem ct32_ok (hq : Quiet3 (cfg sp)) : CtOk XK szK (cfg sp) 32 ct32 := by
  intro ns pre r h hp
  unfold ct32 at h
  dsimp only at h
  split at h
  · cases h
    exact ⟨_, rfl, At1_fn hq _ _ _ _ _ _ _ _ _ _ _ _, formB_ok rfl⟩
  · cases h
theorem CheckP_fn (hq : Quiet3 (cfg sp)) (a0 : Int) (a1 : Int) (a2 : Int) : FnOk XK szK (cfg sp) 50 [.agg [.int .i64 none (a0), .int .i64 none (a1), .int .i64 none (a2)]] (CheckP_res a0 a1 a2) :=
  fn_ok cfgOk cfgOk2 (tblOk_nil) hq (plains_ok rfl) (by simp [P.flat, P.cellsOf, RT]) (CheckP_vc a0 a1 a2) (CheckP_ok a0 a1 a2 )
theorem ct50_ok (hq : Quiet3 (cfg sp)) : CtOk XK szK (cfg sp) 50 ct50 := by
  intro ns pre r h hp
  unfold ct50 at h
  dsimp only at h
  split at h
  · cases h
    exact ⟨_, rfl, CheckP_fn hq _ _ _, formB_ok rfl⟩
  · cases h
theorem CheckPR_fn (hq : Quiet3 (cfg sp)) (a0 : Int) (a1 : Int) (a2 : Int) : FnOk XK szK (cfg sp) 54 [.agg [.int .i64 none (a0), .int .i64 none (a1), .int .i64 none (a2)]] (CheckPR_res a0 a1 a2) :=
  fn_ok cfgOk cfgOk2 (tblOk_nil) hq (plains_ok rfl) (by simp [P.flat, P.cellsOf, RT]) (CheckPR_vc a0 a1 a2) (CheckPR_ok a0 a1 a2 )
theorem ct54_ok (hq : Quiet3 (cfg sp)) : CtOk XK szK (cfg sp) 54 ct54 := by
  intro ns pre r h hp
  unfold ct54 at h
  dsimp only at h
  split at h
  · cases h
    exact ⟨_, rfl, CheckPR_fn hq _ _ _, formB_ok rfl⟩
  · cases h
theorem oneS_fn (hq : Quiet3 (cfg sp)) (a0 : Int) (a1 : Int) (a2 : Int) (a3 : Int) (a4 : Int) (a5 : Int) (a6 : Int) (a7 : Bool) (a8 : Int) (a9 : Int) : FnOk XK szK (cfg sp) 26 [.agg [.int .i64 none (a0), .int .i64 none (a1), .int .i64 none (a2), .int .i64 none (a3), .int .i64 none (a4), .int .i64 none (a5), .int .i64 none (a6), .sb 0 false (a7) (a7 = true) (a7 = false), .int .i64 none (a8), .int .i64 none (a9)]] (oneS_res a0 a1 a2 a3 a4 a5 a6 a7 a8 a9) :=
  fn_ok cfgOk cfgOk2 (tblOk_cons (ct49_ok hq) (tblOk_cons (ct50_ok hq) (tblOk_nil))) hq (plains_ok rfl) (by simp [P.flat, P.cellsOf, RT]) (oneS_vc a0 a1 a2 a3 a4 a5 a6 a7 a8 a9) (oneS_ok a0 a1 a2 a3 a4 a5 a6 a7 a8 a9 )
theorem ct26_ok (hq : Quiet3 (cfg sp)) : CtOk XK szK (cfg sp) 26 ct26 := by
  intro ns pre r h hp
  unfold ct26 at h
  dsimp only at h
  split at h
  · cases h
    exact ⟨_, rfl, oneS_fn hq _ _ _ _ _ _ _ _ _ _, formB_ok rfl⟩
  · cases h
theorem oneR__fn (hq : Quiet3 (cfg sp)) (a0 : Int) (a1 : Int) (a2 : Int) (a3 : Int) (a4 : Int) (a5 : Int) (a6 : Int) (a7 : Bool) (a8 : Int) (a9 : Int) (a10 : Int) (a11 : Int) : FnOk XK szK (cfg sp) 28 [.agg [.int .i64 none (a0), .int .i64 none (a1), .int .i64 none (a2), .int .i64 none (a3), .int .i64 none (a4), .int .i64 none (a5), .int .i64 none (a6), .sb 0 false (a7) (a7 = true) (a7 = false), .int .i64 none (a8), .int .i64 none (a9)], .agg [.int .i64 none (a10), .int .i64 none (a11)]] (oneR__res a0 a1 a2 a3 a4 a5 a6 a7 a8 a9 a10 a11) :=
  fn_ok cfgOk cfgOk2 (tblOk_cons (ct53_ok hq) (tblOk_cons (ct54_ok hq) (tblOk_cons (ct29_ok hq) (tblOk_nil)))) hq (plains_ok rfl) (by simp [P.flat, P.cellsOf, RT]) (oneR__vc a0 a1 a2 a3 a4 a5 a6 a7 a8 a9 a10 a11) (oneR__ok a0 a1 a2 a3 a4 a5 a6 a7 a8 a9 a10 a11 )
theorem ct28_ok (hq : Quiet3 (cfg sp)) : CtOk XK szK (cfg sp) 28 ct28 := by
  intro ns pre r h hp
  unfold ct28 at h
  dsimp only at h
  split at h
  · cases h
    exact ⟨_, rfl, oneR__fn hq _ _ _ _ _ _ _ _ _ _ _ _, formB_ok rfl⟩
  · cases h
theorem CheckE_fn (hq : Quiet3 (cfg sp)) (a0 : List Event) (hp : (ln a0 ≤ 1000000000)) : FnOk XK szK (cfg sp) 7 [.list 11 (a0) none] (CheckE_res a0) :=
  fn_ok cfgOk cfgOk2 (tblOk_cons (ct26_ok hq) (tblOk_cons (ct27_ok hq) (tblOk_nil))) hq (plains_ok rfl) (by simp [P.flat, P.cellsOf, RT]) (CheckE_vc a0) (CheckE_ok a0 hp)
theorem ct7_ok (hq : Quiet3 (cfg sp)) : CtOk XK szK (cfg sp) 7 ct7 := by
  intro ns pre r h hp
  unfold ct7 at h
  dsimp only at h
  split at h
  · cases h
    exact ⟨_, rfl, CheckE_fn hq _ hp, formB_ok rfl⟩
  · cases h
theorem CheckER_fn (hq : Quiet3 (cfg sp)) (a0 : List Event) (hp : (ln a0 ≤ 1000000000)) : FnOk XK szK (cfg sp) 8 [.list 11 (a0) none] (CheckER_res a0) :=
  fn_ok cfgOk cfgOk2 (tblOk_cons (ct28_ok hq) (tblOk_cons (ct29_ok hq) (tblOk_nil))) hq (plains_ok rfl) (by simp [P.flat, P.cellsOf, RT]) (CheckER_vc a0) (CheckER_ok a0 hp)
theorem ct8_ok (hq : Quiet3 (cfg sp)) : CtOk XK szK (cfg sp) 8 ct8 := by
  intro ns pre r h hp
  unfold ct8 at h
  dsimp only at h
  split at h
  · cases h
    exact ⟨_, rfl, CheckER_fn hq _ hp, formB_ok rfl⟩
  · cases h
theorem EndE_fn (hq : Quiet3 (cfg sp)) (a0 : List Event) (hp : (ln a0 ≤ 1000000000)) : FnOk XK szK (cfg sp) 9 [.list 11 (a0) none] (EndE_res a0) :=
  fn_ok cfgOk cfgOk2 (tblOk_cons (ct7_ok hq) (tblOk_cons (ct27_ok hq) (tblOk_nil))) hq (plains_ok rfl) (by simp [P.flat, P.cellsOf, RT]) (EndE_vc a0) (EndE_ok a0 hp)
theorem ct9_ok (hq : Quiet3 (cfg sp)) : CtOk XK szK (cfg sp) 9 ct9 := by
  intro ns pre r h hp
  unfold ct9 at h
  dsimp only at h
  split at h
  · cases h
    exact ⟨_, rfl, EndE_fn hq _ hp, formB_ok rfl⟩
  · cases h
theorem EndER_fn (hq : Quiet3 (cfg sp)) (a0 : List Event) (hp : (ln a0 ≤ 1000000000)) : FnOk XK szK (cfg sp) 10 [.list 11 (a0) none] (EndER_res a0) :=
  fn_ok cfgOk cfgOk2 (tblOk_cons (ct8_ok hq) (tblOk_cons (ct29_ok hq) (tblOk_nil))) hq (plains_ok rfl) (by simp [P.flat, P.cellsOf, RT]) (EndER_vc a0) (EndER_ok a0 hp)
theorem ct10_ok (hq : Quiet3 (cfg sp)) : CtOk XK szK (cfg sp) 10 ct10 := by
  intro ns pre r h hp
  unfold ct10 at h
  dsimp only at h
  split at h
  · cases h
    exact ⟨_, rfl, EndER_fn hq _ hp, formB_ok rfl⟩
  · cases h
theorem AtE_fn (hq : Quiet3 (cfg sp)) (a0 : List Event) (a1 : Int) (a2 : Int) (hp : (ln a0 ≤ 1000000000)) : FnOk XK szK (cfg sp) 11 [.list 11 (a0) none, .agg [.int .i64 none (a1), .int .i64 none (a2)]] (AtE_res a0 a1 a2) :=
  fn_ok cfgOk cfgOk2 (tblOk_cons (ct9_ok hq) (tblOk_cons (ct30_ok hq) (tblOk_cons (ct32_ok hq) (tblOk_nil)))) hq (plains_ok rfl) (by simp [P.flat, P.cellsOf, RT]) (AtE_vc a0 a1 a2) (AtE_ok a0 a1 a2 hp)
theorem ct11_ok (hq : Quiet3 (cfg sp)) : CtOk XK szK (cfg sp) 11 ct11 := by
  intro ns pre r h hp
  unfold ct11 at h
  dsimp only at h
  split at h
  · cases h
    exact ⟨_, rfl, AtE_fn hq _ _ _ hp, formB_ok rfl⟩
  · cases h
theorem AtER_fn (hq : Quiet3 (cfg sp)) (a0 : List Event) (a1 : Int) (a2 : Int) (hp : (ln a0 ≤ 1000000000)) : FnOk XK szK (cfg sp) 12 [.list 11 (a0) none, .agg [.int .i64 none (a1), .int .i64 none (a2)]] (AtER_res a0 a1 a2) :=
  fn_ok cfgOk cfgOk2 (tblOk_cons (ct10_ok hq) (tblOk_cons (ct33_ok hq) (tblOk_nil))) hq (plains_ok rfl) (by simp [P.flat, P.cellsOf, RT]) (AtER_vc a0 a1 a2) (AtER_ok a0 a1 a2 hp)
theorem ct12_ok (hq : Quiet3 (cfg sp)) : CtOk XK szK (cfg sp) 12 ct12 := by
  intro ns pre r h hp
  unfold ct12 at h
  dsimp only at h
  split at h
  · cases h
    exact ⟨_, rfl, AtER_fn hq _ _ _ hp, formB_ok rfl⟩
  · cases h
theorem SameEvents_fn (hq : Quiet3 (cfg sp)) (a0 : List Event) (a1 : List Event) (hp : (ln a0 ≤ 1000000000)) : FnOk XK szK (cfg sp) 13 [.list 11 (a0) none, .list 11 (a1) none] (SameEvents_res a0 a1) :=
  fn_ok cfgOk cfgOk2 (tblOk_nil) hq (plains_ok rfl) (by simp [P.flat, P.cellsOf, RT]) (SameEvents_vc a0 a1) (SameEvents_ok a0 a1 hp)
theorem ct13_ok (hq : Quiet3 (cfg sp)) : CtOk XK szK (cfg sp) 13 ct13 := by
  intro ns pre r h hp
  unfold ct13 at h
  dsimp only at h
  split at h
  · cases h
    exact ⟨_, rfl, SameEvents_fn hq _ _ hp, formB_ok rfl⟩
  · cases h
theorem OwnEvents_fn (hq : Quiet3 (cfg sp)) (a0 : List Event) (hp : (ln a0 ≤ 100000000)) : FnOk XK szK (cfg sp) 6 [.list 11 (a0) none] (OwnEvents_res a0) :=
  fn_ok cfgOk cfgOk2 (tblOk_nil) hq (plains_ok rfl) (by simp [P.flat, P.cellsOf, RT]) (OwnEvents_vc a0) (OwnEvents_ok a0 hp)
theorem ct6_ok (hq : Quiet3 (cfg sp)) : CtOk XK szK (cfg sp) 6 ct6 := by
  intro ns pre r h hp
  unfold ct6 at h
  dsimp only at h
  split at h
  · cases h
    exact ⟨_, rfl, OwnEvents_fn hq _ hp, formB_ok rfl⟩
  · cases h
theorem lawChecks_fn (hq : Quiet3 (cfg sp)) (hf5 : CtOk XK szK (cfg sp) 5 ct5) (a0 : List Event) (a1 : Int) (a2 : Int) (hp : (ln a0 ≤ 9223372036854775807)) : FnOk XK szK (cfg sp) 3 [.list 11 (a0) none, .agg [.int .i64 none (a1), .int .i64 none (a2)]] (lawChecks_res a0 a1 a2) :=
  fn_ok cfgOk cfgOk2 (tblOk_cons hf5 (tblOk_cons (ct6_ok hq) (tblOk_cons (ct7_ok hq) (tblOk_cons (ct8_ok hq) (tblOk_cons (ct9_ok hq) (tblOk_cons (ct10_ok hq) (tblOk_cons (ct11_ok hq) (tblOk_cons (ct12_ok hq) (tblOk_cons (ct13_ok hq) (tblOk_nil)))))))))) hq (plains_ok rfl) (by simp [P.flat, P.cellsOf, RT]) (lawChecks_vc a0 a1 a2) (lawChecks_ok a0 a1 a2 hp)
theorem ct3_ok (hq : Quiet3 (cfg sp)) (hf5 : CtOk XK szK (cfg sp) 5 ct5) : CtOk XK szK (cfg sp) 3 ct3 := by
  intro ns pre r h hp
  unfold ct3 at h
  dsimp only at h
  split at h
  · cases h
    exact ⟨_, rfl, lawChecks_fn hq hf5 _ _ _ hp, formB_ok rfl⟩
  · cases h
end Go.Proofs.YtjbefleabibmmaaGreatDoor
