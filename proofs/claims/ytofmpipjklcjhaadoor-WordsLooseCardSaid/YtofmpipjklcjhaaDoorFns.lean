/- THE FUNCTIONS of the chapter 2 meet their contracts. Made by program (vc.py). -/
import Derived.Test.YtofmpipjklcjhaaDoorOks
namespace Go.Proofs.YtofmpipjklcjhaaDoor
open Go Go.E2 Go.E3
set_option maxRecDepth 100000
variable {sp : Nat → Option (List V → Heap → Option (CR × Heap))}

theorem ct57_ok (hq : Quiet3 (cfg sp)) : CtOk XK szK (cfg sp) 57 ct57 := by
  intro ns pre r h hp
  unfold ct57 at h
  dsimp only at h
  split at h
  · cases h
    exact ⟨_, rfl, index_ok' cfgOk2 hq (f := 57) rfl (by kernel_rfl) _ _, formB_ok rfl⟩
  · cases h
theorem ct55_ok (hq : Quiet3 (cfg sp)) : CtOk XK szK (cfg sp) 55 ct55 := by
  intro ns pre r h hp
  unfold ct55 at h
  dsimp only at h
  split at h
  · cases h
    exact ⟨_, rfl, count_ok' cfgOk2 hq (f := 55) rfl (by kernel_rfl) _ _, formB_ok rfl⟩
  · cases h
theorem class_fn (hq : Quiet3 (cfg sp)) (a0 : Int) (hp : (U8 a0)) : FnOk XK szK (cfg sp) 39 [.int .u8 none (a0)] (class_res a0) :=
  fn_ok cfgOk cfgOk2 (tblOk_nil) hq (plains_ok rfl) (by simp [P.flat, P.cellsOf, RT]) (class_vc a0) (class_ok a0 hp)
theorem ct39_ok (hq : Quiet3 (cfg sp)) : CtOk XK szK (cfg sp) 39 ct39 := by
  intro ns pre r h hp
  unfold ct39 at h
  dsimp only at h
  split at h
  · cases h
    exact ⟨_, rfl, class_fn hq _ hp, formB_ok rfl⟩
  · cases h
theorem quoted_fn (hq : Quiet3 (cfg sp)) (a0 : List UInt8) (hp : (ln a0 ≤ 1000000000)) : FnOk XK szK (cfg sp) 25 [.str (a0)] (quoted_res a0) :=
  fn_ok cfgOk cfgOk2 (tblOk_cons (ct39_ok hq) (tblOk_nil)) hq (plains_ok rfl) (by simp [P.flat, P.cellsOf, RT]) (quoted_vc a0) (quoted_ok a0 hp)
theorem ct25_ok (hq : Quiet3 (cfg sp)) : CtOk XK szK (cfg sp) 25 ct25 := by
  intro ns pre r h hp
  unfold ct25 at h
  dsimp only at h
  split at h
  · cases h
    exact ⟨_, rfl, quoted_fn hq _ hp, formB_ok rfl⟩
  · cases h
theorem genSplit_fn (hq : Quiet3 (cfg sp)) (a0 : List UInt8) (a1 : List UInt8) (a2 : Int) (a3 : Int) (hp : (ln a1 = 1 ∧ (a2 : Int) = 0 ∧ (a3 : Int) = -1 ∧ ln a0 ≤ 100000000)) : FnOk XK szK (cfg sp) 37 [.str (a0), .str (a1), .int .i64 none (a2), .int .i64 none (a3)] (genSplit_res a0 a1 a2 a3) :=
  fn_ok cfgOk cfgOk2 (tblOk_cons (ct55_ok hq) (tblOk_cons (ct57_ok hq) (tblOk_nil))) hq (plains_ok rfl) (by simp [P.flat, P.cellsOf, RT]) (genSplit_vc a0 a1 a2 a3) (genSplit_ok a0 a1 a2 a3 hp)
theorem ct37_ok (hq : Quiet3 (cfg sp)) : CtOk XK szK (cfg sp) 37 ct37 := by
  intro ns pre r h hp
  unfold ct37 at h
  dsimp only at h
  split at h
  · cases h
    exact ⟨_, rfl, genSplit_fn hq _ _ _ _ hp, formB_ok rfl⟩
  · cases h
theorem Split_fn (hq : Quiet3 (cfg sp)) (a0 : List UInt8) (a1 : List UInt8) (hp : (ln a1 = 1 ∧ ln a0 ≤ 100000000)) : FnOk XK szK (cfg sp) 21 [.str (a0), .str (a1)] (Split_res a0 a1) :=
  fn_ok cfgOk cfgOk2 (tblOk_cons (ct37_ok hq) (tblOk_nil)) hq (plains_ok rfl) (by simp [P.flat, P.cellsOf, RT]) (Split_vc a0 a1) (Split_ok a0 a1 hp)
theorem ct21_ok (hq : Quiet3 (cfg sp)) : CtOk XK szK (cfg sp) 21 ct21 := by
  intro ns pre r h hp
  unfold ct21 at h
  dsimp only at h
  split at h
  · cases h
    exact ⟨_, rfl, Split_fn hq _ _ hp, formB_ok rfl⟩
  · cases h
theorem RowsW_fn (hq : Quiet3 (cfg sp)) (a0 : List UInt8) : FnOk XK szK (cfg sp) 8 [.str (a0)] (RowsW_res a0) :=
  fn_ok cfgOk cfgOk2 (tblOk_cons (ct21_ok hq) (tblOk_cons (ct39_ok hq) (tblOk_cons (ct57_ok hq) (tblOk_cons (ct25_ok hq) (tblOk_nil))))) hq (plains_ok rfl) (by simp [P.flat, P.cellsOf, RT]) (RowsW_vc a0) (RowsW_ok a0 )
theorem ct8_ok (hq : Quiet3 (cfg sp)) : CtOk XK szK (cfg sp) 8 ct8 := by
  intro ns pre r h hp
  unfold ct8 at h
  dsimp only at h
  split at h
  · cases h
    exact ⟨_, rfl, RowsW_fn hq _, formB_ok rfl⟩
  · cases h
theorem sameR__fn (hq : Quiet3 (cfg sp)) (a0 : List Row) (a1 : List Row) (a2 : Bool) (hp : (ln a0 ≤ 1000000000 ∧ (∀ r ∈ a0, ln r.Words ≤ 1000000000))) : FnOk XK szK (cfg sp) 10 [.list 6 (a0) none, .list 6 (a1) none, .sb 0 false (a2) (a2 = true) (a2 = false)] (sameR__res a0 a1 a2) :=
  fn_ok cfgOk cfgOk2 (tblOk_nil) hq (plains_ok rfl) (by simp [P.flat, P.cellsOf, RT]) (sameR__vc a0 a1 a2) (sameR__ok a0 a1 a2 hp)
theorem ct10_ok (hq : Quiet3 (cfg sp)) : CtOk XK szK (cfg sp) 10 ct10 := by
  intro ns pre r h hp
  unfold ct10 at h
  dsimp only at h
  split at h
  · cases h
    exact ⟨_, rfl, sameR__fn hq _ _ _ hp, formB_ok rfl⟩
  · cases h
theorem plainW_fn (hq : Quiet3 (cfg sp)) (a0 : List UInt8) (hp : (ln a0 ≤ 1000000000)) : FnOk XK szK (cfg sp) 26 [.str (a0)] (plainW_res a0) :=
  fn_ok cfgOk cfgOk2 (tblOk_cons (ct39_ok hq) (tblOk_nil)) hq (plains_ok rfl) (by simp [P.flat, P.cellsOf, RT]) (plainW_vc a0) (plainW_ok a0 hp)
theorem ct26_ok (hq : Quiet3 (cfg sp)) : CtOk XK szK (cfg sp) 26 ct26 := by
  intro ns pre r h hp
  unfold ct26 at h
  dsimp only at h
  split at h
  · cases h
    exact ⟨_, rfl, plainW_fn hq _ hp, formB_ok rfl⟩
  · cases h
theorem TextW_fn (hq : Quiet3 (cfg sp)) (a0 : List Row) (hp : (fitR a0)) : FnOk XK szK (cfg sp) 13 [.list 6 (a0) none] (TextW_res a0) :=
  fn_ok cfgOk cfgOk2 (tblOk_cons (ct25_ok hq) (tblOk_cons (ct26_ok hq) (tblOk_nil))) hq (plains_ok rfl) (by simp [P.flat, P.cellsOf, RT]) (TextW_vc a0) (TextW_ok a0 hp)
theorem ct13_ok (hq : Quiet3 (cfg sp)) : CtOk XK szK (cfg sp) 13 ct13 := by
  intro ns pre r h hp
  unfold ct13 at h
  dsimp only at h
  split at h
  · cases h
    exact ⟨_, rfl, TextW_fn hq _ hp, formB_ok rfl⟩
  · cases h
theorem Mod_fn (hq : Quiet3 (cfg sp)) (a0 : Int) (a1 : Int) (hp : ((0 : Int) < a1 ∧ (a1 : Int) ≤ 1000)) : FnOk XK szK (cfg sp) 17 [.int .i64 none (a0), .int .i64 none (a1)] (Mod_res a0 a1) :=
  fn_ok cfgOk cfgOk2 (tblOk_nil) hq (plains_ok rfl) (by simp [P.flat, P.cellsOf, RT]) (Mod_vc a0 a1) (Mod_ok a0 a1 hp)
theorem ct17_ok (hq : Quiet3 (cfg sp)) : CtOk XK szK (cfg sp) 17 ct17 := by
  intro ns pre r h hp
  unfold ct17 at h
  dsimp only at h
  split at h
  · cases h
    exact ⟨_, rfl, Mod_fn hq _ _ hp, formB_ok rfl⟩
  · cases h
theorem made_fn (hq : Quiet3 (cfg sp)) (a0 : List Int) (hp : (goodL a0)) : FnOk XK szK (cfg sp) 16 [.list 1 (a0) none] (made_res a0) :=
  fn_ok cfgOk cfgOk2 (tblOk_cons (ct17_ok hq) (tblOk_nil)) hq (plains_ok rfl) (by simp [P.flat, P.cellsOf, RT]) (made_vc a0) (made_ok a0 hp)
theorem ct16_ok (hq : Quiet3 (cfg sp)) : CtOk XK szK (cfg sp) 16 ct16 := by
  intro ns pre r h hp
  unfold ct16 at h
  dsimp only at h
  split at h
  · cases h
    exact ⟨_, rfl, made_fn hq _ hp, formB_ok rfl⟩
  · cases h
theorem At_fn (hq : Quiet3 (cfg sp)) (a0 : List Int) (a1 : Int) (hp : (ln a0 ≤ 9223372036854775807)) : FnOk XK szK (cfg sp) 18 [.list 1 (a0) none, .int .i64 none (a1)] (At_res a0 a1) :=
  fn_ok cfgOk cfgOk2 (tblOk_nil) hq (plains_ok rfl) (by simp [P.flat, P.cellsOf, RT]) (At_vc a0 a1) (At_ok a0 a1 hp)
theorem ct18_ok (hq : Quiet3 (cfg sp)) : CtOk XK szK (cfg sp) 18 ct18 := by
  intro ns pre r h hp
  unfold ct18 at h
  dsimp only at h
  split at h
  · cases h
    exact ⟨_, rfl, At_fn hq _ _ hp, formB_ok rfl⟩
  · cases h
theorem own_fn (hq : Quiet3 (cfg sp)) (a0 : List Row) (hp : (fitR a0)) : FnOk XK szK (cfg sp) 12 [.list 6 (a0) none] (own_res a0) :=
  fn_ok cfgOk cfgOk2 (tblOk_nil) hq (plains_ok rfl) (by simp [P.flat, P.cellsOf, RT]) (own_vc a0) (own_ok a0 hp)
theorem ct12_ok (hq : Quiet3 (cfg sp)) : CtOk XK szK (cfg sp) 12 ct12 := by
  intro ns pre r h hp
  unfold ct12 at h
  dsimp only at h
  split at h
  · cases h
    exact ⟨_, rfl, own_fn hq _ hp, formB_ok rfl⟩
  · cases h
theorem lawLoose_fn (hq : Quiet3 (cfg sp)) (hf15 : CtOk XK szK (cfg sp) 15 ct15) (a0 : List Int) (a1 : List Int) (a2 : List Int) (hp : (goodL a0 ∧ goodL a1 ∧ goodL a2)) : FnOk XK szK (cfg sp) 6 [.list 1 (a0) none, .list 1 (a1) none, .list 1 (a2) none] (lawLoose_res a0 a1 a2) :=
  fn_ok cfgOk cfgOk2 (tblOk_cons hf15 (tblOk_cons (ct16_ok hq) (tblOk_cons (ct13_ok hq) (tblOk_cons (ct18_ok hq) (tblOk_cons (ct17_ok hq) (tblOk_cons (ct8_ok hq) (tblOk_cons (ct10_ok hq) (tblOk_cons (ct12_ok hq) (tblOk_nil))))))))) hq (plains_ok rfl) (by simp [P.flat, P.cellsOf, RT]) (lawLoose_vc a0 a1 a2) (lawLoose_ok a0 a1 a2 hp)
theorem ct6_ok (hq : Quiet3 (cfg sp)) (hf15 : CtOk XK szK (cfg sp) 15 ct15) : CtOk XK szK (cfg sp) 6 ct6 := by
  intro ns pre r h hp
  unfold ct6 at h
  dsimp only at h
  split at h
  · cases h
    exact ⟨_, rfl, lawLoose_fn hq hf15 _ _ _ hp, formB_ok rfl⟩
  · cases h
end Go.Proofs.YtofmpipjklcjhaaDoor
