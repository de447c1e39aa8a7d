/- THE FUNCTIONS on signs, parts, books meet their contracts. Made by program (vc.py). -/
import Derived.Test.YtlkfjinaiepocaaDoorOks
namespace Go.Proofs.YtlkfjinaiepocaaDoor
open Go Go.E2 Go.E3
set_option maxRecDepth 100000
variable {sp : Nat → Option (List V → Heap → Option (CR × Heap))}

theorem NameW_fn (hq : Quiet3 (cfg sp)) (a0 : List UInt8) (hp : (ln a0 ≤ 9223372036854775806)) : FnOk XK szK (cfg sp) 49 [.str (a0)] (NameW_res a0) :=
  fn_ok cfgOk cfgOk2 (tblOk_nil) hq (plains_ok rfl) (by simp [P.flat, P.cellsOf, RT]) (NameW_vc a0) (NameW_ok a0 hp)
theorem ct49_ok (hq : Quiet3 (cfg sp)) : CtOk XK szK (cfg sp) 49 ct49 := by
  intro ns pre r h hp
  unfold ct49 at h
  dsimp only at h
  split at h
  · cases h
    exact ⟨_, rfl, NameW_fn hq _ hp, formB_ok rfl⟩
  · cases h
theorem CheckM_fn (hq : Quiet3 (cfg sp)) (a0 : Int) (a1 : Int) (a2 : Int) (a3 : Int) : FnOk XK szK (cfg sp) 80 [.agg [.int .i64 none (a0), .int .i64 none (a1), .int .i64 none (a2), .int .i64 none (a3)]] (CheckM_res a0 a1 a2 a3) :=
  fn_ok cfgOk cfgOk2 (tblOk_nil) hq (plains_ok rfl) (by simp [P.flat, P.cellsOf, RT]) (CheckM_vc a0 a1 a2 a3) (CheckM_ok a0 a1 a2 a3 )
theorem ct80_ok (hq : Quiet3 (cfg sp)) : CtOk XK szK (cfg sp) 80 ct80 := by
  intro ns pre r h hp
  unfold ct80 at h
  dsimp only at h
  split at h
  · cases h
    exact ⟨_, rfl, CheckM_fn hq _ _ _ _, formB_ok rfl⟩
  · cases h
theorem OneS_fn (hq : Quiet3 (cfg sp)) (a0 : Int) (a1 : Int) (a2 : Int) (a3 : Int) (a4 : Bool) (a5 : Int) (a6 : Bool) (a7 : Bool) (a8 : Int) (a9 : Int) (a10 : Int) (a11 : Int) (a12 : Bool) (a13 : Int) (a14 : Int) (a15 : Int) (a16 : Int) : FnOk XK szK (cfg sp) 60 [.agg [.int .i64 none (a0), .int .i64 none (a1), .int .i64 none (a2), .int .i64 none (a3), .sb 0 false (a4) (a4 = true) (a4 = false), .int .i64 none (a5), .sb 0 false (a6) (a6 = true) (a6 = false), .sb 0 false (a7) (a7 = true) (a7 = false), .int .i64 none (a8), .int .i64 none (a9), .int .i64 none (a10), .int .i64 none (a11), .sb 0 false (a12) (a12 = true) (a12 = false), .int .i64 none (a13), .int .i64 none (a14), .int .i64 none (a15), .int .i64 none (a16)]] (OneS_res a0 a1 a2 a3 a4 a5 a6 a7 a8 a9 a10 a11 a12 a13 a14 a15 a16) :=
  fn_ok cfgOk cfgOk2 (tblOk_cons (ct80_ok hq) (tblOk_nil)) hq (plains_ok rfl) (by simp [P.flat, P.cellsOf, RT]) (OneS_vc a0 a1 a2 a3 a4 a5 a6 a7 a8 a9 a10 a11 a12 a13 a14 a15 a16) (OneS_ok a0 a1 a2 a3 a4 a5 a6 a7 a8 a9 a10 a11 a12 a13 a14 a15 a16 )
theorem ct60_ok (hq : Quiet3 (cfg sp)) : CtOk XK szK (cfg sp) 60 ct60 := by
  intro ns pre r h hp
  unfold ct60 at h
  dsimp only at h
  split at h
  · cases h
    exact ⟨_, rfl, OneS_fn hq _ _ _ _ _ _ _ _ _ _ _ _ _ _ _ _ _, formB_ok rfl⟩
  · cases h
theorem CheckSg_fn (hq : Quiet3 (cfg sp)) (a0 : List UInt8) (a1 : List Sign) (hp : (ln a0 ≤ 1000000000 ∧ ln a1 ≤ 1000000000)) : FnOk XK szK (cfg sp) 34 [.agg [.str (a0), .list 4 (a1) none]] (CheckSg_res a0 a1) :=
  fn_ok cfgOk cfgOk2 (tblOk_cons (ct49_ok hq) (tblOk_cons (ct60_ok hq) (tblOk_nil))) hq (plains_ok rfl) (by simp [P.flat, P.cellsOf, RT]) (CheckSg_vc a0 a1) (CheckSg_ok a0 a1 hp)
theorem ct34_ok (hq : Quiet3 (cfg sp)) : CtOk XK szK (cfg sp) 34 ct34 := by
  intro ns pre r h hp
  unfold ct34 at h
  dsimp only at h
  split at h
  · cases h
    exact ⟨_, rfl, CheckSg_fn hq _ _ hp, formB_ok rfl⟩
  · cases h
theorem NameR_fn (hq : Quiet3 (cfg sp)) (a0 : List UInt8) (hp : (ln a0 ≤ 9223372036854775806)) : FnOk XK szK (cfg sp) 52 [.str (a0)] (NameR_res a0) :=
  fn_ok cfgOk cfgOk2 (tblOk_nil) hq (plains_ok rfl) (by simp [P.flat, P.cellsOf, RT]) (NameR_vc a0) (NameR_ok a0 hp)
theorem ct52_ok (hq : Quiet3 (cfg sp)) : CtOk XK szK (cfg sp) 52 ct52 := by
  intro ns pre r h hp
  unfold ct52 at h
  dsimp only at h
  split at h
  · cases h
    exact ⟨_, rfl, NameR_fn hq _ hp, formB_ok rfl⟩
  · cases h
theorem CheckMR_fn (hq : Quiet3 (cfg sp)) (a0 : Int) (a1 : Int) (a2 : Int) (a3 : Int) : FnOk XK szK (cfg sp) 84 [.agg [.int .i64 none (a0), .int .i64 none (a1), .int .i64 none (a2), .int .i64 none (a3)]] (CheckMR_res a0 a1 a2 a3) :=
  fn_ok cfgOk cfgOk2 (tblOk_nil) hq (plains_ok rfl) (by simp [P.flat, P.cellsOf, RT]) (CheckMR_vc a0 a1 a2 a3) (CheckMR_ok a0 a1 a2 a3 )
theorem ct84_ok (hq : Quiet3 (cfg sp)) : CtOk XK szK (cfg sp) 84 ct84 := by
  intro ns pre r h hp
  unfold ct84 at h
  dsimp only at h
  split at h
  · cases h
    exact ⟨_, rfl, CheckMR_fn hq _ _ _ _, formB_ok rfl⟩
  · cases h
theorem used_fn (hq : Quiet3 (cfg sp)) (a0 : Int) (a1 : Int) (a2 : Int) (a3 : Int) (a4 : Bool) (a5 : Int) (a6 : Bool) (a7 : Bool) (a8 : Int) (a9 : Int) (a10 : Int) (a11 : Int) (a12 : Bool) (a13 : Int) (a14 : Int) (a15 : Int) (a16 : Int) : FnOk XK szK (cfg sp) 83 [.agg [.int .i64 none (a0), .int .i64 none (a1), .int .i64 none (a2), .int .i64 none (a3), .sb 0 false (a4) (a4 = true) (a4 = false), .int .i64 none (a5), .sb 0 false (a6) (a6 = true) (a6 = false), .sb 0 false (a7) (a7 = true) (a7 = false), .int .i64 none (a8), .int .i64 none (a9), .int .i64 none (a10), .int .i64 none (a11), .sb 0 false (a12) (a12 = true) (a12 = false), .int .i64 none (a13), .int .i64 none (a14), .int .i64 none (a15), .int .i64 none (a16)]] (used_res a0 a1 a2 a3 a4 a5 a6 a7 a8 a9 a10 a11 a12 a13 a14 a15 a16) :=
  fn_ok cfgOk cfgOk2 (tblOk_nil) hq (plains_ok rfl) (by simp [P.flat, P.cellsOf, RT]) (used_vc a0 a1 a2 a3 a4 a5 a6 a7 a8 a9 a10 a11 a12 a13 a14 a15 a16) (used_ok a0 a1 a2 a3 a4 a5 a6 a7 a8 a9 a10 a11 a12 a13 a14 a15 a16 )
theorem ct83_ok (hq : Quiet3 (cfg sp)) : CtOk XK szK (cfg sp) 83 ct83 := by
  intro ns pre r h hp
  unfold ct83 at h
  dsimp only at h
  split at h
  · cases h
    exact ⟨_, rfl, used_fn hq _ _ _ _ _ _ _ _ _ _ _ _ _ _ _ _ _, formB_ok rfl⟩
  · cases h
theorem ranges_fn (hq : Quiet3 (cfg sp)) (a0 : Int) (a1 : Int) (a2 : Int) (a3 : Int) (a4 : Bool) (a5 : Int) (a6 : Bool) (a7 : Bool) (a8 : Int) (a9 : Int) (a10 : Int) (a11 : Int) (a12 : Bool) (a13 : Int) (a14 : Int) (a15 : Int) (a16 : Int) : FnOk XK szK (cfg sp) 85 [.agg [.int .i64 none (a0), .int .i64 none (a1), .int .i64 none (a2), .int .i64 none (a3), .sb 0 false (a4) (a4 = true) (a4 = false), .int .i64 none (a5), .sb 0 false (a6) (a6 = true) (a6 = false), .sb 0 false (a7) (a7 = true) (a7 = false), .int .i64 none (a8), .int .i64 none (a9), .int .i64 none (a10), .int .i64 none (a11), .sb 0 false (a12) (a12 = true) (a12 = false), .int .i64 none (a13), .int .i64 none (a14), .int .i64 none (a15), .int .i64 none (a16)]] (ranges_res a0 a1 a2 a3 a4 a5 a6 a7 a8 a9 a10 a11 a12 a13 a14 a15 a16) :=
  fn_ok cfgOk cfgOk2 (tblOk_nil) hq (plains_ok rfl) (by simp [P.flat, P.cellsOf, RT]) (ranges_vc a0 a1 a2 a3 a4 a5 a6 a7 a8 a9 a10 a11 a12 a13 a14 a15 a16) (ranges_ok a0 a1 a2 a3 a4 a5 a6 a7 a8 a9 a10 a11 a12 a13 a14 a15 a16 )
theorem ct85_ok (hq : Quiet3 (cfg sp)) : CtOk XK szK (cfg sp) 85 ct85 := by
  intro ns pre r h hp
  unfold ct85 at h
  dsimp only at h
  split at h
  · cases h
    exact ⟨_, rfl, ranges_fn hq _ _ _ _ _ _ _ _ _ _ _ _ _ _ _ _ _, formB_ok rfl⟩
  · cases h
theorem OneR_fn (hq : Quiet3 (cfg sp)) (a0 : Int) (a1 : Int) (a2 : Int) (a3 : Int) (a4 : Bool) (a5 : Int) (a6 : Bool) (a7 : Bool) (a8 : Int) (a9 : Int) (a10 : Int) (a11 : Int) (a12 : Bool) (a13 : Int) (a14 : Int) (a15 : Int) (a16 : Int) : FnOk XK szK (cfg sp) 63 [.agg [.int .i64 none (a0), .int .i64 none (a1), .int .i64 none (a2), .int .i64 none (a3), .sb 0 false (a4) (a4 = true) (a4 = false), .int .i64 none (a5), .sb 0 false (a6) (a6 = true) (a6 = false), .sb 0 false (a7) (a7 = true) (a7 = false), .int .i64 none (a8), .int .i64 none (a9), .int .i64 none (a10), .int .i64 none (a11), .sb 0 false (a12) (a12 = true) (a12 = false), .int .i64 none (a13), .int .i64 none (a14), .int .i64 none (a15), .int .i64 none (a16)]] (OneR_res a0 a1 a2 a3 a4 a5 a6 a7 a8 a9 a10 a11 a12 a13 a14 a15 a16) :=
  fn_ok cfgOk cfgOk2 (tblOk_cons (ct83_ok hq) (tblOk_cons (ct84_ok hq) (tblOk_cons (ct85_ok hq) (tblOk_nil)))) hq (plains_ok rfl) (by simp [P.flat, P.cellsOf, RT]) (OneR_vc a0 a1 a2 a3 a4 a5 a6 a7 a8 a9 a10 a11 a12 a13 a14 a15 a16) (OneR_ok a0 a1 a2 a3 a4 a5 a6 a7 a8 a9 a10 a11 a12 a13 a14 a15 a16 )
theorem ct63_ok (hq : Quiet3 (cfg sp)) : CtOk XK szK (cfg sp) 63 ct63 := by
  intro ns pre r h hp
  unfold ct63 at h
  dsimp only at h
  split at h
  · cases h
    exact ⟨_, rfl, OneR_fn hq _ _ _ _ _ _ _ _ _ _ _ _ _ _ _ _ _, formB_ok rfl⟩
  · cases h
theorem CheckSR_fn (hq : Quiet3 (cfg sp)) (a0 : List UInt8) (a1 : List Sign) (hp : (ln a0 ≤ 1000000000 ∧ ln a1 ≤ 1000000000)) : FnOk XK szK (cfg sp) 43 [.agg [.str (a0), .list 4 (a1) none]] (CheckSR_res a0 a1) :=
  fn_ok cfgOk cfgOk2 (tblOk_cons (ct52_ok hq) (tblOk_cons (ct63_ok hq) (tblOk_nil))) hq (plains_ok rfl) (by simp [P.flat, P.cellsOf, RT]) (CheckSR_vc a0 a1) (CheckSR_ok a0 a1 hp)
theorem ct43_ok (hq : Quiet3 (cfg sp)) : CtOk XK szK (cfg sp) 43 ct43 := by
  intro ns pre r h hp
  unfold ct43 at h
  dsimp only at h
  split at h
  · cases h
    exact ⟨_, rfl, CheckSR_fn hq _ _ hp, formB_ok rfl⟩
  · cases h
theorem LightPart_fn (hq : Quiet3 (cfg sp)) (a0 : List UInt8) (a1 : List Sign) (a2 : Int) (hp : (ln a0 ≤ 9223372036854775807 ∧ ln a1 ≤ 9223372036854775807)) : FnOk XK szK (cfg sp) 7 [.agg [.str (a0), .list 4 (a1) none], .int .i64 none (a2)] (LightPart_res a0 a1 a2) :=
  fn_ok cfgOk cfgOk2 (tblOk_nil) hq (plains_ok rfl) (by simp [P.flat, P.cellsOf, RT]) (LightPart_vc a0 a1 a2) (LightPart_ok a0 a1 a2 hp)
theorem ct7_ok (hq : Quiet3 (cfg sp)) : CtOk XK szK (cfg sp) 7 ct7 := by
  intro ns pre r h hp
  unfold ct7 at h
  dsimp only at h
  split at h
  · cases h
    exact ⟨_, rfl, LightPart_fn hq _ _ _ hp, formB_ok rfl⟩
  · cases h
theorem OwnSigns_fn (hq : Quiet3 (cfg sp)) (a0 : List Sign) (hp : (ln a0 ≤ 10000000)) : FnOk XK szK (cfg sp) 33 [.list 4 (a0) none] (OwnSigns_res a0) :=
  fn_ok cfgOk cfgOk2 (tblOk_nil) hq (plains_ok rfl) (by simp [P.flat, P.cellsOf, RT]) (OwnSigns_vc a0) (OwnSigns_ok a0 hp)
theorem ct33_ok (hq : Quiet3 (cfg sp)) : CtOk XK szK (cfg sp) 33 ct33 := by
  intro ns pre r h hp
  unfold ct33 at h
  dsimp only at h
  split at h
  · cases h
    exact ⟨_, rfl, OwnSigns_fn hq _ hp, formB_ok rfl⟩
  · cases h
theorem OwnPart_fn (hq : Quiet3 (cfg sp)) (a0 : List UInt8) (a1 : List Sign) (hp : (ln a1 ≤ 10000000)) : FnOk XK szK (cfg sp) 9 [.agg [.str (a0), .list 4 (a1) none]] (OwnPart_res a0 a1) :=
  fn_ok cfgOk cfgOk2 (tblOk_cons (ct33_ok hq) (tblOk_nil)) hq (plains_ok rfl) (by simp [P.flat, P.cellsOf, RT]) (OwnPart_vc a0 a1) (OwnPart_ok a0 a1 hp)
theorem ct9_ok (hq : Quiet3 (cfg sp)) : CtOk XK szK (cfg sp) 9 ct9 := by
  intro ns pre r h hp
  unfold ct9 at h
  dsimp only at h
  split at h
  · cases h
    exact ⟨_, rfl, OwnPart_fn hq _ _ hp, formB_ok rfl⟩
  · cases h
theorem SameSigns_fn (hq : Quiet3 (cfg sp)) (a0 : List Sign) (a1 : List Sign) (hp : (ln a0 ≤ 10000000)) : FnOk XK szK (cfg sp) 32 [.list 4 (a0) none, .list 4 (a1) none] (SameSigns_res a0 a1) :=
  fn_ok cfgOk cfgOk2 (tblOk_nil) hq (plains_ok rfl) (by simp [P.flat, P.cellsOf, RT]) (SameSigns_vc a0 a1) (SameSigns_ok a0 a1 hp)
theorem ct32_ok (hq : Quiet3 (cfg sp)) : CtOk XK szK (cfg sp) 32 ct32 := by
  intro ns pre r h hp
  unfold ct32 at h
  dsimp only at h
  split at h
  · cases h
    exact ⟨_, rfl, SameSigns_fn hq _ _ hp, formB_ok rfl⟩
  · cases h
theorem SamePart_fn (hq : Quiet3 (cfg sp)) (a0 : List UInt8) (a1 : List Sign) (a2 : List UInt8) (a3 : List Sign) (hp : (ln a1 ≤ 10000000)) : FnOk XK szK (cfg sp) 13 [.agg [.str (a0), .list 4 (a1) none], .agg [.str (a2), .list 4 (a3) none]] (SamePart_res a0 a1 a2 a3) :=
  fn_ok cfgOk cfgOk2 (tblOk_cons (ct32_ok hq) (tblOk_nil)) hq (plains_ok rfl) (by simp [P.flat, P.cellsOf, RT]) (SamePart_vc a0 a1 a2 a3) (SamePart_ok a0 a1 a2 a3 hp)
theorem ct13_ok (hq : Quiet3 (cfg sp)) : CtOk XK szK (cfg sp) 13 ct13 := by
  intro ns pre r h hp
  unfold ct13 at h
  dsimp only at h
  split at h
  · cases h
    exact ⟨_, rfl, SamePart_fn hq _ _ _ _ hp, formB_ok rfl⟩
  · cases h
theorem sameStaff_fn (hq : Quiet3 (cfg sp)) (a0 : List Sign) (a1 : Int) (a2 : Bool) (a3 : Int) (a4 : List Sign) (a5 : Int) (a6 : Bool) (a7 : Int) (hp : (ln a0 ≤ 10000000)) : FnOk XK szK (cfg sp) 48 [.agg [.list 4 (a0) none, .int .i64 none (a1), .sb 0 false (a2) (a2 = true) (a2 = false), .int .i64 none (a3)], .agg [.list 4 (a4) none, .int .i64 none (a5), .sb 0 false (a6) (a6 = true) (a6 = false), .int .i64 none (a7)]] (sameStaff_res a0 a1 a2 a3 a4 a5 a6 a7) :=
  fn_ok cfgOk cfgOk2 (tblOk_cons (ct32_ok hq) (tblOk_nil)) hq (plains_ok rfl) (by simp [P.flat, P.cellsOf, RT]) (sameStaff_vc a0 a1 a2 a3 a4 a5 a6 a7) (sameStaff_ok a0 a1 a2 a3 a4 a5 a6 a7 hp)
theorem ct48_ok (hq : Quiet3 (cfg sp)) : CtOk XK szK (cfg sp) 48 ct48 := by
  intro ns pre r h hp
  unfold ct48 at h
  dsimp only at h
  split at h
  · cases h
    exact ⟨_, rfl, sameStaff_fn hq _ _ _ _ _ _ _ _ hp, formB_ok rfl⟩
  · cases h
theorem sameBk_fn (hq : Quiet3 (cfg sp)) (a0 : List UInt8) (a1 : List Page) (a2 : List UInt8) (a3 : List Page) (hp : (ln a1 ≤ 500 ∧ okB a1)) : FnOk XK szK (cfg sp) 12 [.agg [.str (a0), .list 8 (a1) none], .agg [.str (a2), .list 8 (a3) none]] (sameBk_res a0 a1 a2 a3) :=
  fn_ok cfgOk cfgOk2 (tblOk_cons (ct48_ok hq) (tblOk_nil)) hq (plains_ok rfl) (by simp [P.flat, P.cellsOf, RT]) (sameBk_vc a0 a1 a2 a3) (sameBk_ok a0 a1 a2 a3 hp)
theorem ct12_ok (hq : Quiet3 (cfg sp)) : CtOk XK szK (cfg sp) 12 ct12 := by
  intro ns pre r h hp
  unfold ct12 at h
  dsimp only at h
  split at h
  · cases h
    exact ⟨_, rfl, sameBk_fn hq _ _ _ _ hp, formB_ok rfl⟩
  · cases h
theorem Clone_fn (hq : Quiet3 (cfg sp)) (a0 : List Sign) (hp : (ln a0 ≤ 10000000)) : FnOk XK szK (cfg sp) 42 [.list 4 (a0) none] (Clone_res a0) :=
  fn_ok cfgOk cfgOk2 (tblOk_nil) hq (plains_ok rfl) (by simp [P.flat, P.cellsOf, RT]) (Clone_vc a0) (Clone_ok a0 hp)
theorem ct42_ok (hq : Quiet3 (cfg sp)) : CtOk XK szK (cfg sp) 42 ct42 := by
  intro ns pre r h hp
  unfold ct42 at h
  dsimp only at h
  split at h
  · cases h
    exact ⟨_, rfl, Clone_fn hq _ hp, formB_ok rfl⟩
  · cases h
theorem lead_fn (hq : Quiet3 (cfg sp)) (a0 : List Sign) (a1 : List Sign) (hp : (ln a0 ≤ 1 ∧ ln a1 ≤ 1)) : FnOk XK szK (cfg sp) 38 [.agg [.list 4 (a0) none, .list 4 (a1) none]] (lead_res a0 a1) :=
  fn_ok cfgOk cfgOk2 (tblOk_cons (ct42_ok hq) (tblOk_nil)) hq (plains_ok rfl) (by simp [P.flat, P.cellsOf, RT]) (lead_vc a0 a1) (lead_ok a0 a1 hp)
theorem ct38_ok (hq : Quiet3 (cfg sp)) : CtOk XK szK (cfg sp) 38 ct38 := by
  intro ns pre r h hp
  unfold ct38 at h
  dsimp only at h
  split at h
  · cases h
    exact ⟨_, rfl, lead_fn hq _ _ hp, formB_ok rfl⟩
  · cases h
theorem after_fn (hq : Quiet3 (cfg sp)) (a0 : List Sign) (a1 : List Sign) (a2 : Int) (a3 : Int) (a4 : Int) (a5 : Int) (a6 : Bool) (a7 : Int) (a8 : Bool) (a9 : Bool) (a10 : Int) (a11 : Int) (a12 : Int) (a13 : Int) (a14 : Bool) (a15 : Int) (a16 : Int) (a17 : Int) (a18 : Int) : FnOk XK szK (cfg sp) 40 [.agg [.list 4 (a0) none, .list 4 (a1) none], .agg [.int .i64 none (a2), .int .i64 none (a3), .int .i64 none (a4), .int .i64 none (a5), .sb 0 false (a6) (a6 = true) (a6 = false), .int .i64 none (a7), .sb 0 false (a8) (a8 = true) (a8 = false), .sb 0 false (a9) (a9 = true) (a9 = false), .int .i64 none (a10), .int .i64 none (a11), .int .i64 none (a12), .int .i64 none (a13), .sb 0 false (a14) (a14 = true) (a14 = false), .int .i64 none (a15), .int .i64 none (a16), .int .i64 none (a17), .int .i64 none (a18)]] (after_res a0 a1 a2 a3 a4 a5 a6 a7 a8 a9 a10 a11 a12 a13 a14 a15 a16 a17 a18) :=
  fn_ok cfgOk cfgOk2 (tblOk_nil) hq (plains_ok rfl) (by simp [P.flat, P.cellsOf, RT]) (after_vc a0 a1 a2 a3 a4 a5 a6 a7 a8 a9 a10 a11 a12 a13 a14 a15 a16 a17 a18) (after_ok a0 a1 a2 a3 a4 a5 a6 a7 a8 a9 a10 a11 a12 a13 a14 a15 a16 a17 a18 )
theorem ct40_ok (hq : Quiet3 (cfg sp)) : CtOk XK szK (cfg sp) 40 ct40 := by
  intro ns pre r h hp
  unfold ct40 at h
  dsimp only at h
  split at h
  · cases h
    exact ⟨_, rfl, after_fn hq _ _ _ _ _ _ _ _ _ _ _ _ _ _ _ _ _ _ _, formB_ok rfl⟩
  · cases h
theorem catch__fn (hq : Quiet3 (cfg sp)) (a0 : List Sign) (hp : (ln a0 ≤ 1000000000)) : FnOk XK szK (cfg sp) 41 [.list 4 (a0) none] (catch__res a0) :=
  fn_ok cfgOk cfgOk2 (tblOk_nil) hq (plains_ok rfl) (by simp [P.flat, P.cellsOf, RT]) (catch__vc a0) (catch__ok a0 hp)
theorem ct41_ok (hq : Quiet3 (cfg sp)) : CtOk XK szK (cfg sp) 41 ct41 := by
  intro ns pre r h hp
  unfold ct41 at h
  dsimp only at h
  split at h
  · cases h
    exact ⟨_, rfl, catch__fn hq _ hp, formB_ok rfl⟩
  · cases h
theorem fill_fn (hq : Quiet3 (cfg sp)) (a0 : List Sign) (a1 : Int) (a2 : Bool) (hp : (ln a0 ≤ 500)) : FnOk XK szK (cfg sp) 39 [.list 4 (a0) none, .int .i64 none (a1), .sb 0 false (a2) (a2 = true) (a2 = false)] (fill_res a0 a1 a2) :=
  fn_ok cfgOk cfgOk2 (tblOk_nil) hq (plains_ok rfl) (by simp [P.flat, P.cellsOf, RT]) (fill_vc a0 a1 a2) (fill_ok a0 a1 a2 hp)
theorem ct39_ok (hq : Quiet3 (cfg sp)) : CtOk XK szK (cfg sp) 39 ct39 := by
  intro ns pre r h hp
  unfold ct39 at h
  dsimp only at h
  split at h
  · cases h
    exact ⟨_, rfl, fill_fn hq _ _ _ hp, formB_ok rfl⟩
  · cases h
theorem MakeB_fn (hq : Quiet3 (cfg sp)) (a0 : List UInt8) (a1 : List Sign) (a2 : Int) (a3 : Int) (hp : (ln a0 ≤ 1000000000 ∧ ln a1 ≤ 500)) : FnOk XK szK (cfg sp) 10 [.agg [.str (a0), .list 4 (a1) none], .int .i64 none (a2), .int .i64 none (a3)] (MakeB_res a0 a1 a2 a3) :=
  fn_ok cfgOk cfgOk2 (tblOk_cons (ct34_ok hq) (tblOk_cons (ct38_ok hq) (tblOk_cons (ct39_ok hq) (tblOk_cons (ct40_ok hq) (tblOk_cons (ct41_ok hq) (tblOk_cons (ct42_ok hq) (tblOk_nil))))))) hq (plains_ok rfl) (by simp [P.flat, P.cellsOf, RT]) (MakeB_vc a0 a1 a2 a3) (MakeB_ok a0 a1 a2 a3 hp)
theorem ct10_ok (hq : Quiet3 (cfg sp)) : CtOk XK szK (cfg sp) 10 ct10 := by
  intro ns pre r h hp
  unfold ct10 at h
  dsimp only at h
  split at h
  · cases h
    exact ⟨_, rfl, MakeB_fn hq _ _ _ _ hp, formB_ok rfl⟩
  · cases h
theorem groupsR_fn (hq : Quiet3 (cfg sp)) (a0 : List Sign) (hp : (ln a0 ≤ 1000000000)) : FnOk XK szK (cfg sp) 45 [.list 4 (a0) none] (groupsR_res a0) :=
  fn_ok cfgOk cfgOk2 (tblOk_nil) hq (plains_ok rfl) (by simp [P.flat, P.cellsOf, RT]) (groupsR_vc a0) (groupsR_ok a0 hp)
theorem ct45_ok (hq : Quiet3 (cfg sp)) : CtOk XK szK (cfg sp) 45 ct45 := by
  intro ns pre r h hp
  unfold ct45 at h
  dsimp only at h
  split at h
  · cases h
    exact ⟨_, rfl, groupsR_fn hq _ hp, formB_ok rfl⟩
  · cases h
theorem leadR_fn (hq : Quiet3 (cfg sp)) (a0 : List Sign) (a1 : Int) (hp : (0 ≤ a1 ∧ a1 ≤ ln a0 ∧ ln a0 ≤ 1000000000)) : FnOk XK szK (cfg sp) 46 [.list 4 (a0) none, .int .i64 none (a1)] (leadR_res a0 a1) :=
  fn_ok cfgOk cfgOk2 (tblOk_nil) hq (plains_ok rfl) (by simp [P.flat, P.cellsOf, RT]) (leadR_vc a0 a1) (leadR_ok a0 a1 hp)
theorem ct46_ok (hq : Quiet3 (cfg sp)) : CtOk XK szK (cfg sp) 46 ct46 := by
  intro ns pre r h hp
  unfold ct46 at h
  dsimp only at h
  split at h
  · cases h
    exact ⟨_, rfl, leadR_fn hq _ _ hp, formB_ok rfl⟩
  · cases h
theorem custos_fn (hq : Quiet3 (cfg sp)) (a0 : List Sign) (a1 : Int) (hp : (0 ≤ a1 ∧ a1 ≤ ln a0 ∧ ln a0 ≤ 1000000000)) : FnOk XK szK (cfg sp) 47 [.list 4 (a0) none, .int .i64 none (a1)] (custos_res a0 a1) :=
  fn_ok cfgOk cfgOk2 (tblOk_nil) hq (plains_ok rfl) (by simp [P.flat, P.cellsOf, RT]) (custos_vc a0 a1) (custos_ok a0 a1 hp)
theorem ct47_ok (hq : Quiet3 (cfg sp)) : CtOk XK szK (cfg sp) 47 ct47 := by
  intro ns pre r h hp
  unfold ct47 at h
  dsimp only at h
  split at h
  · cases h
    exact ⟨_, rfl, custos_fn hq _ _ hp, formB_ok rfl⟩
  · cases h
theorem turn_fn (hq : Quiet3 (cfg sp)) (a0 : List Sign) (hp : (ln a0 ≤ 1000000000)) : FnOk XK szK (cfg sp) 44 [.list 4 (a0) none] (turn_res a0) :=
  fn_ok cfgOk cfgOk2 (tblOk_nil) hq (plains_ok rfl) (by simp [P.flat, P.cellsOf, RT]) (turn_vc a0) (turn_ok a0 hp)
theorem ct44_ok (hq : Quiet3 (cfg sp)) : CtOk XK szK (cfg sp) 44 ct44 := by
  intro ns pre r h hp
  unfold ct44 at h
  dsimp only at h
  split at h
  · cases h
    exact ⟨_, rfl, turn_fn hq _ hp, formB_ok rfl⟩
  · cases h
theorem MakeR_fn (hq : Quiet3 (cfg sp)) (a0 : List UInt8) (a1 : List Sign) (a2 : Int) (a3 : Int) (hp : (ln a0 ≤ 1000000000 ∧ ln a1 ≤ 500)) : FnOk XK szK (cfg sp) 11 [.agg [.str (a0), .list 4 (a1) none], .int .i64 none (a2), .int .i64 none (a3)] (MakeR_res a0 a1 a2 a3) :=
  fn_ok cfgOk cfgOk2 (tblOk_cons (ct43_ok hq) (tblOk_cons (ct44_ok hq) (tblOk_cons (ct45_ok hq) (tblOk_cons (ct46_ok hq) (tblOk_cons (ct47_ok hq) (tblOk_nil)))))) hq (plains_ok rfl) (by simp [P.flat, P.cellsOf, RT]) (MakeR_vc a0 a1 a2 a3) (MakeR_ok a0 a1 a2 a3 hp)
theorem ct11_ok (hq : Quiet3 (cfg sp)) : CtOk XK szK (cfg sp) 11 ct11 := by
  intro ns pre r h hp
  unfold ct11 at h
  dsimp only at h
  split at h
  · cases h
    exact ⟨_, rfl, MakeR_fn hq _ _ _ _ hp, formB_ok rfl⟩
  · cases h
theorem lawMakes_fn (hq : Quiet3 (cfg sp)) (hf8 : CtOk XK szK (cfg sp) 8 ct8) (a0 : List UInt8) (a1 : List Sign) (a2 : Int) (a3 : Int) (hp : (ln a0 ≤ 9223372036854775807 ∧ ln a1 ≤ 9223372036854775807)) : FnOk XK szK (cfg sp) 3 [.agg [.str (a0), .list 4 (a1) none], .int .i64 none (a2), .int .i64 none (a3)] (lawMakes_res a0 a1 a2 a3) :=
  fn_ok cfgOk cfgOk2 (tblOk_cons (ct7_ok hq) (tblOk_cons hf8 (tblOk_cons (ct9_ok hq) (tblOk_cons (ct10_ok hq) (tblOk_cons (ct11_ok hq) (tblOk_cons (ct12_ok hq) (tblOk_cons (ct13_ok hq) (tblOk_nil)))))))) hq (plains_ok rfl) (by simp [P.flat, P.cellsOf, RT]) (lawMakes_vc a0 a1 a2 a3) (lawMakes_ok a0 a1 a2 a3 hp)
theorem ct3_ok (hq : Quiet3 (cfg sp)) (hf8 : CtOk XK szK (cfg sp) 8 ct8) : CtOk XK szK (cfg sp) 3 ct3 := by
  intro ns pre r h hp
  unfold ct3 at h
  dsimp only at h
  split at h
  · cases h
    exact ⟨_, rfl, lawMakes_fn hq hf8 _ _ _ _ hp, formB_ok rfl⟩
  · cases h
end Go.Proofs.YtlkfjinaiepocaaDoor
