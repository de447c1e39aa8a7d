/- THE WALKS of the functions that WordsSingle calls, over E2: each ends, and so. Made by program (walk.py). Condition: texts of at most a million bytes; calls that no fact answers. -/
import Derived.Test.YthjgdmkelfkneaaDoorWordsSpec
import Derived.Test.YthjgdmkelfkneaaDoorRows
namespace Go.Proofs.YthjgdmkelfkneaaDoor
open Go Go.E2
set_option maxRecDepth 100000
variable {sp : Nat → Option (List V → Heap → Option (CR × Heap))}
/-- No function but 'awake' is answered by a fact. -/
def Quiet (sp : Nat → Option (List V → Heap → Option (CR × Heap))) : Prop := ∀ f, f ≠ 8 → sp f = none
def NG : Nat := 3
def AwakeOk (sp : Nat → Option (List V → Heap → Option (CR × Heap))) : Prop := ∀ H, H.glob = NG → CallW (envOf Tryd.prog sp) (.func 8) [] H (fun v H' => v = .bool true ∧ H' = H)
theorem awake_runs (hA : AwakeOk sp) (H : Heap) (hg : H.glob = NG) : CallW (envOf Tryd.prog sp) (.func 8) [] H (fun v H' => v = .bool true ∧ H' = H) := hA H hg
theorem ty3 : (envOf Tryd.prog sp).types 3 = some { under := .int .i64, size := 1, bytes := 8, zero := .int .i64 0, isAgg := false } := by kernel_rfl
theorem ty4 : (envOf Tryd.prog sp).types 4 = some { under := .bool, size := 1, bytes := 1, zero := .bool false, isAgg := false } := by kernel_rfl
theorem ty5 : (envOf Tryd.prog sp).types 5 = some { under := .int .u8, size := 1, bytes := 1, zero := .int .u8 0, isAgg := false } := by kernel_rfl
theorem ty9 : (envOf Tryd.prog sp).types 9 = some { under := .string, size := 1, bytes := 16, zero := .str [], isAgg := false } := by kernel_rfl
theorem funcs38 : (envOf Tryd.prog sp).funcs 38 = some { body := Tryd.f38.body, ext := 0, ntmps := 9, results := [.tmp 2] } := by kernel_rfl
theorem funcs39 : (envOf Tryd.prog sp).funcs 39 = some { body := Tryd.f39.body, ext := 0, ntmps := 9, results := [.tmp 2] } := by kernel_rfl
theorem funcs18 : (envOf Tryd.prog sp).funcs 18 = some { body := Tryd.f18.body, ext := 0, ntmps := 50, results := [.tmp 2] } := by kernel_rfl
theorem funcs19 : (envOf Tryd.prog sp).funcs 19 = some { body := Tryd.f19.body, ext := 0, ntmps := 40, results := [.tmp 2] } := by kernel_rfl
theorem funcs16 : (envOf Tryd.prog sp).funcs 16 = some { body := Tryd.f16.body, ext := 0, ntmps := 45, results := [.tmp 2, .tmp 3] } := by kernel_rfl
theorem funcs17 : (envOf Tryd.prog sp).funcs 17 = some { body := Tryd.f17.body, ext := 0, ntmps := 40, results := [.tmp 2, .tmp 3] } := by kernel_rfl
theorem funcs59 : (envOf Tryd.prog sp).funcs 59 = some { body := Tryd.f59.body, ext := 0, ntmps := 18, results := [.tmp 4] } := by kernel_rfl
theorem funcs52 : (envOf Tryd.prog sp).funcs 52 = some { body := Tryd.f52.body, ext := 0, ntmps := 15, results := [.tmp 4, .tmp 5] } := by kernel_rfl
theorem funcs40 : (envOf Tryd.prog sp).funcs 40 = some { body := Tryd.f40.body, ext := 0, ntmps := 11, results := [.tmp 4, .tmp 5] } := by kernel_rfl
theorem funcs20 : (envOf Tryd.prog sp).funcs 20 = some { body := Tryd.f20.body, ext := 0, ntmps := 31, results := [.tmp 2, .tmp 3] } := by kernel_rfl
theorem funcs21 : (envOf Tryd.prog sp).funcs 21 = some { body := Tryd.f21.body, ext := 0, ntmps := 30, results := [.tmp 2, .tmp 3] } := by kernel_rfl
theorem funcs60 : (envOf Tryd.prog sp).funcs 60 = some { body := none, ext := extOf "internal/bytealg.IndexByteString", ntmps := 0, results := [] } := by kernel_rfl
theorem funcs53 : (envOf Tryd.prog sp).funcs 53 = some { body := Tryd.f53.body, ext := 0, ntmps := 8, results := [.tmp 4] } := by kernel_rfl
theorem funcs41 : (envOf Tryd.prog sp).funcs 41 = some { body := Tryd.f41.body, ext := 0, ntmps := 8, results := [.tmp 4] } := by kernel_rfl
theorem funcs22 : (envOf Tryd.prog sp).funcs 22 = some { body := Tryd.f22.body, ext := 0, ntmps := 29, results := [.tmp 4, .tmp 5, .tmp 6] } := by kernel_rfl
theorem funcs23 : (envOf Tryd.prog sp).funcs 23 = some { body := Tryd.f23.body, ext := 0, ntmps := 33, results := [.tmp 4, .tmp 5, .tmp 6] } := by kernel_rfl
theorem funcs5 : (envOf Tryd.prog sp).funcs 5 = some { body := Tryd.f5.body, ext := 0, ntmps := 94, results := [.tmp 4] } := by kernel_rfl
theorem digit_runs (hsp : Quiet sp) (n : Int) (H : Heap) : CallW (envOf Tryd.prog sp) (.func 38) [.int .u8 (n)] H (fun v H' => v = .bool (digitB n) ∧ H' = H) := by
  refine callW_body (hsp 38 (by decide)) funcs38 rfl ?_
  have a0 : ({ tmps := enterTmps [.int .u8 (n)], n := max (List.length (α := V) [.int .u8 (n)]) 9, defers := [] } : Fr).tmp 0 = some (.int .u8 (n)) := enter_tmp rfl
  have n0 : ({ tmps := enterTmps [.int .u8 (n)], n := max (List.length (α := V) [.int .u8 (n)]) 9, defers := [] } : Fr).n = 9 := rfl
  have s0 : ({ tmps := enterTmps [.int .u8 (n)], n := max (List.length (α := V) [.int .u8 (n)]) 9, defers := [] } : Fr).defers = [] := rfl
  generalize ({ tmps := enterTmps [.int .u8 (n)], n := max (List.length (α := V) [.int .u8 (n)]) 9, defers := [] } : Fr) = f0 at a0 n0 s0 ⊢
  refine w2_seq ?_
  refine w2_region ?_
  refine wpO_do (v := .bool (false)) rfl (want_free rfl) rfl (ltn n0 (by decide)) (ev_assign rfl rfl) fun f1 u1 => ?_
  have n1 := u1.n.trans n0; have s1 := u1.ds.trans s0
  refine wpO_nil ?_
  refine thenQ_go ?_
  refine w2_seq ?_
  refine w2_region ?_
  refine wpO_do (v := .int .u8 (n)) rfl (want_free rfl) rfl (ltn n1 (by decide)) (ev_move rfl (opd_tmp (u1.ne (a0)))) fun f2 u2 => ?_
  have n2 := u2.n.trans n1; have s2 := u2.ds.trans s1
  refine wpO_do (v := .bool (decide ((n : Int) ≥ (48 : Int)))) rfl (want_free rfl) rfl (ltn n2 (by decide)) (ev_binI rfl (by decide) (opd_tmp (u2.get)) rfl rfl) fun f3 u3 => ?_
  have n3 := u3.n.trans n2; have s3 := u3.ds.trans s2
  refine wpO_do (v := .bool (decide ((n : Int) ≥ (48 : Int)))) rfl (want_free rfl) rfl (ltn n3 (by decide)) (ev_move rfl (opd_tmp (u3.get))) fun f4 u4 => ?_
  have n4 := u4.n.trans n3; have s4 := u4.ds.trans s3
  rcases Bool.eq_false_or_eq_true (decide ((n : Int) ≥ (48 : Int))) with h5 | h5
  ·
    have h5p := of_decide_eq_true h5
    refine wpO_do (v := .int .u8 (n)) rfl (want_yes rfl rfl ((u4.get).trans (congrArg (fun b => some (V.bool b)) h5))) rfl (ltn n4 (by decide)) (ev_move rfl (opd_tmp (u4.ne (u3.ne (u2.ne (u1.ne (a0))))))) fun f6 u6 => ?_
    have n6 := u6.n.trans n4; have s6 := u6.ds.trans s4
    refine wpO_do (v := .bool (decide ((n : Int) ≤ (57 : Int)))) rfl (want_yes rfl rfl ((u6.ne u4.get).trans (congrArg (fun b => some (V.bool b)) h5))) rfl (ltn n6 (by decide)) (ev_binI rfl (by decide) (opd_tmp (u6.get)) rfl rfl) fun f7 u7 => ?_
    have n7 := u7.n.trans n6; have s7 := u7.ds.trans s6
    refine wpO_do (v := .bool (decide ((n : Int) ≤ (57 : Int)))) rfl (want_free rfl) rfl (ltn n7 (by decide)) (ev_pick_t rfl ((opd_tmp (u7.ne (u6.ne u4.get))).trans (congrArg (fun b => some (V.bool b)) h5)) (opd_tmp (u7.get))) fun f8 u8 => ?_
    have n8 := u8.n.trans n7; have s8 := u8.ds.trans s7
    refine wpO_do (v := .bool (decide ((n : Int) ≤ (57 : Int)))) rfl (want_free rfl) rfl (ltn n8 (by decide)) (ev_assign rfl (opd_tmp (u8.get))) fun f9 u9 => ?_
    have n9 := u9.n.trans n8; have s9 := u9.ds.trans s8
    refine wpO_nil ?_
    refine thenQ_go ?_
    refine w2_ret ?_
    refine ⟨.inr rfl, _, ends0 s9, _, (res_tmp (u9.get) res_nil), ?_⟩
    exact ⟨congrArg V.bool (by rw [Bool.eq_iff_iff, digitB_iff]; simp <;> omega), rfl⟩
  ·
    have h5p := of_decide_eq_false h5
    refine wpO_pass rfl (want_no rfl rfl ((u4.get).trans (congrArg (fun b => some (V.bool b)) h5))) rfl (ltn n4 (by decide)) fun f10 u10 => ?_
    have n10 := u10.n.trans n4; have s10 := u10.ds.trans s4
    refine wpO_pass rfl (want_no rfl rfl ((u10.ne u4.get).trans (congrArg (fun b => some (V.bool b)) h5))) rfl (ltn n10 (by decide)) fun f11 u11 => ?_
    have n11 := u11.n.trans n10; have s11 := u11.ds.trans s10
    refine wpO_do (v := .bool (false)) rfl (want_free rfl) rfl (ltn n11 (by decide)) (ev_pick_f rfl ((opd_tmp (u11.ne (u10.ne u4.get))).trans (congrArg (fun b => some (V.bool b)) h5)) rfl) fun f12 u12 => ?_
    have n12 := u12.n.trans n11; have s12 := u12.ds.trans s11
    refine wpO_do (v := .bool (false)) rfl (want_free rfl) rfl (ltn n12 (by decide)) (ev_assign rfl (opd_tmp (u12.get))) fun f13 u13 => ?_
    have n13 := u13.n.trans n12; have s13 := u13.ds.trans s12
    refine wpO_nil ?_
    refine thenQ_go ?_
    refine w2_ret ?_
    refine ⟨.inr rfl, _, ends0 s13, _, (res_tmp (u13.get) res_nil), ?_⟩
    exact ⟨congrArg V.bool (by rw [Bool.eq_iff_iff, digitB_iff]; simp <;> omega), rfl⟩
theorem letter_runs (hsp : Quiet sp) (n : Int) (H : Heap) : CallW (envOf Tryd.prog sp) (.func 39) [.int .u8 (n)] H (fun v H' => v = .bool (letterB n) ∧ H' = H) := by
  refine callW_body (hsp 39 (by decide)) funcs39 rfl ?_
  have a0 : ({ tmps := enterTmps [.int .u8 (n)], n := max (List.length (α := V) [.int .u8 (n)]) 9, defers := [] } : Fr).tmp 0 = some (.int .u8 (n)) := enter_tmp rfl
  have n0 : ({ tmps := enterTmps [.int .u8 (n)], n := max (List.length (α := V) [.int .u8 (n)]) 9, defers := [] } : Fr).n = 9 := rfl
  have s0 : ({ tmps := enterTmps [.int .u8 (n)], n := max (List.length (α := V) [.int .u8 (n)]) 9, defers := [] } : Fr).defers = [] := rfl
  generalize ({ tmps := enterTmps [.int .u8 (n)], n := max (List.length (α := V) [.int .u8 (n)]) 9, defers := [] } : Fr) = f0 at a0 n0 s0 ⊢
  refine w2_seq ?_
  refine w2_region ?_
  refine wpO_do (v := .bool (false)) rfl (want_free rfl) rfl (ltn n0 (by decide)) (ev_assign rfl rfl) fun f1 u1 => ?_
  have n1 := u1.n.trans n0; have s1 := u1.ds.trans s0
  refine wpO_nil ?_
  refine thenQ_go ?_
  refine w2_seq ?_
  refine w2_region ?_
  refine wpO_do (v := .int .u8 (n)) rfl (want_free rfl) rfl (ltn n1 (by decide)) (ev_move rfl (opd_tmp (u1.ne (a0)))) fun f2 u2 => ?_
  have n2 := u2.n.trans n1; have s2 := u2.ds.trans s1
  refine wpO_do (v := .bool (decide ((n : Int) ≥ (97 : Int)))) rfl (want_free rfl) rfl (ltn n2 (by decide)) (ev_binI rfl (by decide) (opd_tmp (u2.get)) rfl rfl) fun f3 u3 => ?_
  have n3 := u3.n.trans n2; have s3 := u3.ds.trans s2
  refine wpO_do (v := .bool (decide ((n : Int) ≥ (97 : Int)))) rfl (want_free rfl) rfl (ltn n3 (by decide)) (ev_move rfl (opd_tmp (u3.get))) fun f4 u4 => ?_
  have n4 := u4.n.trans n3; have s4 := u4.ds.trans s3
  rcases Bool.eq_false_or_eq_true (decide ((n : Int) ≥ (97 : Int))) with h5 | h5
  ·
    have h5p := of_decide_eq_true h5
    refine wpO_do (v := .int .u8 (n)) rfl (want_yes rfl rfl ((u4.get).trans (congrArg (fun b => some (V.bool b)) h5))) rfl (ltn n4 (by decide)) (ev_move rfl (opd_tmp (u4.ne (u3.ne (u2.ne (u1.ne (a0))))))) fun f6 u6 => ?_
    have n6 := u6.n.trans n4; have s6 := u6.ds.trans s4
    refine wpO_do (v := .bool (decide ((n : Int) ≤ (122 : Int)))) rfl (want_yes rfl rfl ((u6.ne u4.get).trans (congrArg (fun b => some (V.bool b)) h5))) rfl (ltn n6 (by decide)) (ev_binI rfl (by decide) (opd_tmp (u6.get)) rfl rfl) fun f7 u7 => ?_
    have n7 := u7.n.trans n6; have s7 := u7.ds.trans s6
    refine wpO_do (v := .bool (decide ((n : Int) ≤ (122 : Int)))) rfl (want_free rfl) rfl (ltn n7 (by decide)) (ev_pick_t rfl ((opd_tmp (u7.ne (u6.ne u4.get))).trans (congrArg (fun b => some (V.bool b)) h5)) (opd_tmp (u7.get))) fun f8 u8 => ?_
    have n8 := u8.n.trans n7; have s8 := u8.ds.trans s7
    refine wpO_do (v := .bool (decide ((n : Int) ≤ (122 : Int)))) rfl (want_free rfl) rfl (ltn n8 (by decide)) (ev_assign rfl (opd_tmp (u8.get))) fun f9 u9 => ?_
    have n9 := u9.n.trans n8; have s9 := u9.ds.trans s8
    refine wpO_nil ?_
    refine thenQ_go ?_
    refine w2_ret ?_
    refine ⟨.inr rfl, _, ends0 s9, _, (res_tmp (u9.get) res_nil), ?_⟩
    exact ⟨congrArg V.bool (by rw [Bool.eq_iff_iff, letterB_iff]; simp <;> omega), rfl⟩
  ·
    have h5p := of_decide_eq_false h5
    refine wpO_pass rfl (want_no rfl rfl ((u4.get).trans (congrArg (fun b => some (V.bool b)) h5))) rfl (ltn n4 (by decide)) fun f10 u10 => ?_
    have n10 := u10.n.trans n4; have s10 := u10.ds.trans s4
    refine wpO_pass rfl (want_no rfl rfl ((u10.ne u4.get).trans (congrArg (fun b => some (V.bool b)) h5))) rfl (ltn n10 (by decide)) fun f11 u11 => ?_
    have n11 := u11.n.trans n10; have s11 := u11.ds.trans s10
    refine wpO_do (v := .bool (false)) rfl (want_free rfl) rfl (ltn n11 (by decide)) (ev_pick_f rfl ((opd_tmp (u11.ne (u10.ne u4.get))).trans (congrArg (fun b => some (V.bool b)) h5)) rfl) fun f12 u12 => ?_
    have n12 := u12.n.trans n11; have s12 := u12.ds.trans s11
    refine wpO_do (v := .bool (false)) rfl (want_free rfl) rfl (ltn n12 (by decide)) (ev_assign rfl (opd_tmp (u12.get))) fun f13 u13 => ?_
    have n13 := u13.n.trans n12; have s13 := u13.ds.trans s12
    refine wpO_nil ?_
    refine thenQ_go ?_
    refine w2_ret ?_
    refine ⟨.inr rfl, _, ends0 s13, _, (res_tmp (u13.get) res_nil), ?_⟩
    exact ⟨congrArg V.bool (by rw [Bool.eq_iff_iff, letterB_iff]; simp <;> omega), rfl⟩
theorem name_runs (hsp : Quiet sp) (s : List UInt8) (H : Heap) (hl : s.length ≤ 1000000) : CallW (envOf Tryd.prog sp) (.func 18) [.str (s)] H (fun v H' => v = .bool (nameL s) ∧ H' = H) := by
  refine callW_body (hsp 18 (by decide)) funcs18 rfl ?_
  have a0 : ({ tmps := enterTmps [.str (s)], n := max (List.length (α := V) [.str (s)]) 50, defers := [] } : Fr).tmp 0 = some (.str (s)) := enter_tmp rfl
  have n0 : ({ tmps := enterTmps [.str (s)], n := max (List.length (α := V) [.str (s)]) 50, defers := [] } : Fr).n = 50 := rfl
  have s0 : ({ tmps := enterTmps [.str (s)], n := max (List.length (α := V) [.str (s)]) 50, defers := [] } : Fr).defers = [] := rfl
  generalize ({ tmps := enterTmps [.str (s)], n := max (List.length (α := V) [.str (s)]) 50, defers := [] } : Fr) = f0 at a0 n0 s0 ⊢
  refine w2_seq ?_
  refine w2_region ?_
  refine wpO_do (v := .bool (false)) rfl (want_free rfl) rfl (ltn n0 (by decide)) (ev_assign rfl rfl) fun f1 u1 => ?_
  have n1 := u1.n.trans n0; have s1 := u1.ds.trans s0
  refine wpO_nil ?_
  refine thenQ_go ?_
  refine w2_seq ?_
  refine w2_seq ?_
  refine w2_region ?_
  refine wpO_do (v := .str (s)) rfl (want_free rfl) rfl (ltn n1 (by decide)) (ev_move rfl (opd_tmp (u1.ne (a0)))) fun f2 u2 => ?_
  have n2 := u2.n.trans n1; have s2 := u2.ds.trans s1
  refine wpO_do (v := .int .i64 (((s).length : Int))) rfl (want_free rfl) rfl (ltn n2 (by decide)) (ev_lenS rfl rfl rfl rfl ty9 rfl (opd_tmp (u2.get))) fun f3 u3 => ?_
  have n3 := u3.n.trans n2; have s3 := u3.ds.trans s2
  refine wpO_do (v := .bool ((((s).length : Int) : Int) == (0 : Int))) rfl (want_free rfl) rfl (ltn n3 (by decide)) (ev_binI rfl (by decide) (opd_tmp (u3.get)) rfl rfl) fun f4 u4 => ?_
  have n4 := u4.n.trans n3; have s4 := u4.ds.trans s3
  refine wpO_do (v := .bool ((((s).length : Int) : Int) == (0 : Int))) rfl (want_free rfl) rfl (ltn n4 (by decide)) (ev_move rfl (opd_tmp (u4.get))) fun f5 u5 => ?_
  have n5 := u5.n.trans n4; have s5 := u5.ds.trans s4
  rcases Bool.eq_false_or_eq_true ((((s).length : Int) : Int) == (0 : Int)) with h6 | h6
  ·
    have h6p := beq_t h6
    refine wpO_pass rfl (want_no rfl rfl ((u5.get).trans (congrArg (fun b => some (V.bool b)) h6))) rfl (ltn n5 (by decide)) fun f7 u7 => ?_
    have n7 := u7.n.trans n5; have s7 := u7.ds.trans s5
    refine wpO_pass rfl (want_no rfl rfl ((u7.ne u5.get).trans (congrArg (fun b => some (V.bool b)) h6))) rfl (ltn n7 (by decide)) fun f8 u8 => ?_
    have n8 := u8.n.trans n7; have s8 := u8.ds.trans s7
    refine wpO_pass rfl (want_no rfl rfl ((u8.ne (u7.ne u5.get)).trans (congrArg (fun b => some (V.bool b)) h6))) rfl (ltn n8 (by decide)) fun f9 u9 => ?_
    have n9 := u9.n.trans n8; have s9 := u9.ds.trans s8
    refine wpO_do (v := .bool (true)) rfl (want_free rfl) rfl (ltn n9 (by decide)) (ev_pick_t rfl ((opd_tmp (u9.ne (u8.ne (u7.ne u5.get)))).trans (congrArg (fun b => some (V.bool b)) h6)) rfl) fun f10 u10 => ?_
    have n10 := u10.n.trans n9; have s10 := u10.ds.trans s9
    refine wpO_do (v := .bool (true)) rfl (want_free rfl) rfl (ltn n10 (by decide)) (ev_move rfl (opd_tmp (u10.get))) fun f11 u11 => ?_
    have n11 := u11.n.trans n10; have s11 := u11.ds.trans s10
    refine wpO_pass rfl (want_no rfl rfl (u11.get)) rfl (ltn n11 (by decide)) fun f12 u12 => ?_
    have n12 := u12.n.trans n11; have s12 := u12.ds.trans s11
    refine wpO_pass rfl (want_no rfl rfl (u12.ne u11.get)) rfl (ltn n12 (by decide)) fun f13 u13 => ?_
    have n13 := u13.n.trans n12; have s13 := u13.ds.trans s12
    refine wpO_pass rfl (want_no rfl rfl (u13.ne (u12.ne u11.get))) rfl (ltn n13 (by decide)) fun f14 u14 => ?_
    have n14 := u14.n.trans n13; have s14 := u14.ds.trans s13
    refine wpO_do (v := .bool (true)) rfl (want_free rfl) rfl (ltn n14 (by decide)) (ev_pick_t rfl (opd_tmp (u14.ne (u13.ne (u12.ne u11.get)))) rfl) fun f15 u15 => ?_
    have n15 := u15.n.trans n14; have s15 := u15.ds.trans s14
    refine wpO_do (v := .bool (true)) rfl (want_free rfl) rfl (ltn n15 (by decide)) (ev_move rfl (opd_tmp (u15.get))) fun f16 u16 => ?_
    have n16 := u16.n.trans n15; have s16 := u16.ds.trans s15
    refine wpO_pass rfl (want_no rfl rfl (u16.get)) rfl (ltn n16 (by decide)) fun f17 u17 => ?_
    have n17 := u17.n.trans n16; have s17 := u17.ds.trans s16
    refine wpO_pass rfl (want_no rfl rfl (u17.ne u16.get)) rfl (ltn n17 (by decide)) fun f18 u18 => ?_
    have n18 := u18.n.trans n17; have s18 := u18.ds.trans s17
    refine wpO_pass rfl (want_no rfl rfl (u18.ne (u17.ne u16.get))) rfl (ltn n18 (by decide)) fun f19 u19 => ?_
    have n19 := u19.n.trans n18; have s19 := u19.ds.trans s18
    refine wpO_do (v := .bool (true)) rfl (want_free rfl) rfl (ltn n19 (by decide)) (ev_pick_t rfl (opd_tmp (u19.ne (u18.ne (u17.ne u16.get)))) rfl) fun f20 u20 => ?_
    have n20 := u20.n.trans n19; have s20 := u20.ds.trans s19
    refine wpO_nil ?_
    refine thenQ_go ?_
    refine w2_cond_t (opd_tmp (u20.get)) ?_
    refine w2_seq ?_
    refine w2_region ?_
    refine wpO_do (v := .bool (false)) rfl (want_free rfl) rfl (ltn n20 (by decide)) (ev_assign rfl rfl) fun f21 u21 => ?_
    have n21 := u21.n.trans n20; have s21 := u21.ds.trans s20
    refine wpO_nil ?_
    refine thenQ_go ?_
    refine w2_ret ?_
    refine thenQ_rt ?_
    refine ⟨.inr rfl, _, ends0 s21, _, (res_tmp (u21.get) res_nil), ?_⟩
    exact ⟨congrArg V.bool (name_bad0 (by omega)).symm, rfl⟩
  ·
    have h6p := beq_f h6
    refine wpO_do (v := .str (s)) rfl (want_yes rfl rfl ((u5.get).trans (congrArg (fun b => some (V.bool b)) h6))) rfl (ltn n5 (by decide)) (ev_move rfl (opd_tmp (u5.ne (u4.ne (u3.ne (u2.ne (u1.ne (a0)))))))) fun f22 u22 => ?_
    have n22 := u22.n.trans n5; have s22 := u22.ds.trans s5
    refine wpO_do (v := .int .i64 (((s).length : Int))) rfl (want_yes rfl rfl ((u22.ne u5.get).trans (congrArg (fun b => some (V.bool b)) h6))) rfl (ltn n22 (by decide)) (ev_lenS rfl rfl rfl rfl ty9 rfl (opd_tmp (u22.get))) fun f23 u23 => ?_
    have n23 := u23.n.trans n22; have s23 := u23.ds.trans s22
    refine wpO_do (v := .bool (decide ((((s).length : Int) : Int) > (20 : Int)))) rfl (want_yes rfl rfl ((u23.ne (u22.ne u5.get)).trans (congrArg (fun b => some (V.bool b)) h6))) rfl (ltn n23 (by decide)) (ev_binI rfl (by decide) (opd_tmp (u23.get)) rfl rfl) fun f24 u24 => ?_
    have n24 := u24.n.trans n23; have s24 := u24.ds.trans s23
    refine wpO_do (v := .bool (decide ((((s).length : Int) : Int) > (20 : Int)))) rfl (want_free rfl) rfl (ltn n24 (by decide)) (ev_pick_f rfl ((opd_tmp (u24.ne (u23.ne (u22.ne u5.get)))).trans (congrArg (fun b => some (V.bool b)) h6)) (opd_tmp (u24.get))) fun f25 u25 => ?_
    have n25 := u25.n.trans n24; have s25 := u25.ds.trans s24
    refine wpO_do (v := .bool (decide ((((s).length : Int) : Int) > (20 : Int)))) rfl (want_free rfl) rfl (ltn n25 (by decide)) (ev_move rfl (opd_tmp (u25.get))) fun f26 u26 => ?_
    have n26 := u26.n.trans n25; have s26 := u26.ds.trans s25
    rcases Bool.eq_false_or_eq_true (decide ((((s).length : Int) : Int) > (20 : Int))) with h27 | h27
    ·
      have h27p := of_decide_eq_true h27
      refine wpO_pass rfl (want_no rfl rfl ((u26.get).trans (congrArg (fun b => some (V.bool b)) h27))) rfl (ltn n26 (by decide)) fun f28 u28 => ?_
      have n28 := u28.n.trans n26; have s28 := u28.ds.trans s26
      refine wpO_pass rfl (want_no rfl rfl ((u28.ne u26.get).trans (congrArg (fun b => some (V.bool b)) h27))) rfl (ltn n28 (by decide)) fun f29 u29 => ?_
      have n29 := u29.n.trans n28; have s29 := u29.ds.trans s28
      refine wpO_pass rfl (want_no rfl rfl ((u29.ne (u28.ne u26.get)).trans (congrArg (fun b => some (V.bool b)) h27))) rfl (ltn n29 (by decide)) fun f30 u30 => ?_
      have n30 := u30.n.trans n29; have s30 := u30.ds.trans s29
      refine wpO_do (v := .bool (true)) rfl (want_free rfl) rfl (ltn n30 (by decide)) (ev_pick_t rfl ((opd_tmp (u30.ne (u29.ne (u28.ne u26.get)))).trans (congrArg (fun b => some (V.bool b)) h27)) rfl) fun f31 u31 => ?_
      have n31 := u31.n.trans n30; have s31 := u31.ds.trans s30
      refine wpO_do (v := .bool (true)) rfl (want_free rfl) rfl (ltn n31 (by decide)) (ev_move rfl (opd_tmp (u31.get))) fun f32 u32 => ?_
      have n32 := u32.n.trans n31; have s32 := u32.ds.trans s31
      refine wpO_pass rfl (want_no rfl rfl (u32.get)) rfl (ltn n32 (by decide)) fun f33 u33 => ?_
      have n33 := u33.n.trans n32; have s33 := u33.ds.trans s32
      refine wpO_pass rfl (want_no rfl rfl (u33.ne u32.get)) rfl (ltn n33 (by decide)) fun f34 u34 => ?_
      have n34 := u34.n.trans n33; have s34 := u34.ds.trans s33
      refine wpO_pass rfl (want_no rfl rfl (u34.ne (u33.ne u32.get))) rfl (ltn n34 (by decide)) fun f35 u35 => ?_
      have n35 := u35.n.trans n34; have s35 := u35.ds.trans s34
      refine wpO_do (v := .bool (true)) rfl (want_free rfl) rfl (ltn n35 (by decide)) (ev_pick_t rfl (opd_tmp (u35.ne (u34.ne (u33.ne u32.get)))) rfl) fun f36 u36 => ?_
      have n36 := u36.n.trans n35; have s36 := u36.ds.trans s35
      refine wpO_nil ?_
      refine thenQ_go ?_
      refine w2_cond_t (opd_tmp (u36.get)) ?_
      refine w2_seq ?_
      refine w2_region ?_
      refine wpO_do (v := .bool (false)) rfl (want_free rfl) rfl (ltn n36 (by decide)) (ev_assign rfl rfl) fun f37 u37 => ?_
      have n37 := u37.n.trans n36; have s37 := u37.ds.trans s36
      refine wpO_nil ?_
      refine thenQ_go ?_
      refine w2_ret ?_
      refine thenQ_rt ?_
      refine ⟨.inr rfl, _, ends0 s37, _, (res_tmp (u37.get) res_nil), ?_⟩
      exact ⟨congrArg V.bool (name_bad0 (by omega)).symm, rfl⟩
    ·
      have h27p := of_decide_eq_false h27
      refine wpO_do (v := .str (s)) rfl (want_yes rfl rfl ((u26.get).trans (congrArg (fun b => some (V.bool b)) h27))) rfl (ltn n26 (by decide)) (ev_move rfl (opd_tmp (u26.ne (u25.ne (u24.ne (u23.ne (u22.ne (u5.ne (u4.ne (u3.ne (u2.ne (u1.ne (a0))))))))))))) fun f38 u38 => ?_
      have n38 := u38.n.trans n26; have s38 := u38.ds.trans s26
      have q39 := byteI_bd (s) (0)
      refine wpO_do (v := .int .u8 (byteI (s) (0))) rfl (want_yes rfl rfl ((u38.ne u26.get).trans (congrArg (fun b => some (V.bool b)) h27))) rfl (ltn n38 (by decide)) (ev_indexB rfl ty9 rfl (opd_tmp (u38.get)) rfl (by omega) (by omega)) fun f40 u40 => ?_
      have n40 := u40.n.trans n38; have s40 := u40.ds.trans s38
      refine wpO_do (v := .bool (decide ((byteI (s) (0) : Int) < (97 : Int)))) rfl (want_yes rfl rfl ((u40.ne (u38.ne u26.get)).trans (congrArg (fun b => some (V.bool b)) h27))) rfl (ltn n40 (by decide)) (ev_binI rfl (by decide) (opd_tmp (u40.get)) rfl rfl) fun f41 u41 => ?_
      have n41 := u41.n.trans n40; have s41 := u41.ds.trans s40
      refine wpO_do (v := .bool (decide ((byteI (s) (0) : Int) < (97 : Int)))) rfl (want_free rfl) rfl (ltn n41 (by decide)) (ev_pick_f rfl ((opd_tmp (u41.ne (u40.ne (u38.ne u26.get)))).trans (congrArg (fun b => some (V.bool b)) h27)) (opd_tmp (u41.get))) fun f42 u42 => ?_
      have n42 := u42.n.trans n41; have s42 := u42.ds.trans s41
      refine wpO_do (v := .bool (decide ((byteI (s) (0) : Int) < (97 : Int)))) rfl (want_free rfl) rfl (ltn n42 (by decide)) (ev_move rfl (opd_tmp (u42.get))) fun f43 u43 => ?_
      have n43 := u43.n.trans n42; have s43 := u43.ds.trans s42
      rcases Bool.eq_false_or_eq_true (decide ((byteI (s) (0) : Int) < (97 : Int))) with h44 | h44
      ·
        have h44p := of_decide_eq_true h44
        refine wpO_pass rfl (want_no rfl rfl ((u43.get).trans (congrArg (fun b => some (V.bool b)) h44))) rfl (ltn n43 (by decide)) fun f45 u45 => ?_
        have n45 := u45.n.trans n43; have s45 := u45.ds.trans s43
        refine wpO_pass rfl (want_no rfl rfl ((u45.ne u43.get).trans (congrArg (fun b => some (V.bool b)) h44))) rfl (ltn n45 (by decide)) fun f46 u46 => ?_
        have n46 := u46.n.trans n45; have s46 := u46.ds.trans s45
        refine wpO_pass rfl (want_no rfl rfl ((u46.ne (u45.ne u43.get)).trans (congrArg (fun b => some (V.bool b)) h44))) rfl (ltn n46 (by decide)) fun f47 u47 => ?_
        have n47 := u47.n.trans n46; have s47 := u47.ds.trans s46
        refine wpO_do (v := .bool (true)) rfl (want_free rfl) rfl (ltn n47 (by decide)) (ev_pick_t rfl ((opd_tmp (u47.ne (u46.ne (u45.ne u43.get)))).trans (congrArg (fun b => some (V.bool b)) h44)) rfl) fun f48 u48 => ?_
        have n48 := u48.n.trans n47; have s48 := u48.ds.trans s47
        refine wpO_nil ?_
        refine thenQ_go ?_
        refine w2_cond_t (opd_tmp (u48.get)) ?_
        refine w2_seq ?_
        refine w2_region ?_
        refine wpO_do (v := .bool (false)) rfl (want_free rfl) rfl (ltn n48 (by decide)) (ev_assign rfl rfl) fun f49 u49 => ?_
        have n49 := u49.n.trans n48; have s49 := u49.ds.trans s48
        refine wpO_nil ?_
        refine thenQ_go ?_
        refine w2_ret ?_
        refine thenQ_rt ?_
        refine ⟨.inr rfl, _, ends0 s49, _, (res_tmp (u49.get) res_nil), ?_⟩
        exact ⟨congrArg V.bool (name_bad0 (by omega)).symm, rfl⟩
      ·
        have h44p := of_decide_eq_false h44
        refine wpO_do (v := .str (s)) rfl (want_yes rfl rfl ((u43.get).trans (congrArg (fun b => some (V.bool b)) h44))) rfl (ltn n43 (by decide)) (ev_move rfl (opd_tmp (u43.ne (u42.ne (u41.ne (u40.ne (u38.ne (u26.ne (u25.ne (u24.ne (u23.ne (u22.ne (u5.ne (u4.ne (u3.ne (u2.ne (u1.ne (a0)))))))))))))))))) fun f50 u50 => ?_
        have n50 := u50.n.trans n43; have s50 := u50.ds.trans s43
        have q51 := byteI_bd (s) (0)
        refine wpO_do (v := .int .u8 (byteI (s) (0))) rfl (want_yes rfl rfl ((u50.ne u43.get).trans (congrArg (fun b => some (V.bool b)) h44))) rfl (ltn n50 (by decide)) (ev_indexB rfl ty9 rfl (opd_tmp (u50.get)) rfl (by omega) (by omega)) fun f52 u52 => ?_
        have n52 := u52.n.trans n50; have s52 := u52.ds.trans s50
        refine wpO_do (v := .bool (decide ((byteI (s) (0) : Int) > (122 : Int)))) rfl (want_yes rfl rfl ((u52.ne (u50.ne u43.get)).trans (congrArg (fun b => some (V.bool b)) h44))) rfl (ltn n52 (by decide)) (ev_binI rfl (by decide) (opd_tmp (u52.get)) rfl rfl) fun f53 u53 => ?_
        have n53 := u53.n.trans n52; have s53 := u53.ds.trans s52
        refine wpO_do (v := .bool (decide ((byteI (s) (0) : Int) > (122 : Int)))) rfl (want_free rfl) rfl (ltn n53 (by decide)) (ev_pick_f rfl ((opd_tmp (u53.ne (u52.ne (u50.ne u43.get)))).trans (congrArg (fun b => some (V.bool b)) h44)) (opd_tmp (u53.get))) fun f54 u54 => ?_
        have n54 := u54.n.trans n53; have s54 := u54.ds.trans s53
        refine wpO_nil ?_
        refine thenQ_go ?_
        rcases Bool.eq_false_or_eq_true (decide ((byteI (s) (0) : Int) > (122 : Int))) with h55 | h55
        ·
          have h55p := of_decide_eq_true h55
          refine w2_cond_t ((opd_tmp (u54.get)).trans (congrArg (fun b => some (V.bool b)) h55)) ?_
          refine w2_seq ?_
          refine w2_region ?_
          refine wpO_do (v := .bool (false)) rfl (want_free rfl) rfl (ltn n54 (by decide)) (ev_assign rfl rfl) fun f56 u56 => ?_
          have n56 := u56.n.trans n54; have s56 := u56.ds.trans s54
          refine wpO_nil ?_
          refine thenQ_go ?_
          refine w2_ret ?_
          refine thenQ_rt ?_
          refine ⟨.inr rfl, _, ends0 s56, _, (res_tmp (u56.get) res_nil), ?_⟩
          exact ⟨congrArg V.bool (name_bad0 (by omega)).symm, rfl⟩
        ·
          have h55p := of_decide_eq_false h55
          refine w2_cond_f ((opd_tmp (u54.get)).trans (congrArg (fun b => some (V.bool b)) h55)) ?_
          refine w2_skip ?_
          refine thenQ_go ?_
          refine w2_seq ?_
          refine w2_seq ?_
          refine w2_region ?_
          refine wpO_do (v := .str (s)) rfl (want_free rfl) rfl (ltn n54 (by decide)) (ev_move rfl (opd_tmp (u54.ne (u53.ne (u52.ne (u50.ne (u43.ne (u42.ne (u41.ne (u40.ne (u38.ne (u26.ne (u25.ne (u24.ne (u23.ne (u22.ne (u5.ne (u4.ne (u3.ne (u2.ne (u1.ne (a0)))))))))))))))))))))) fun f57 u57 => ?_
          have n57 := u57.n.trans n54; have s57 := u57.ds.trans s54
          refine wpO_do (v := .int .i64 (((s).length : Int))) rfl (want_free rfl) rfl (ltn n57 (by decide)) (ev_lenS rfl rfl rfl rfl ty9 rfl (opd_tmp (u57.get))) fun f58 u58 => ?_
          have n58 := u58.n.trans n57; have s58 := u58.ds.trans s57
          refine wpO_do (v := .int .i64 (0)) rfl (want_free rfl) rfl (ltn n58 (by decide)) (ev_move rfl rfl) fun f59 u59 => ?_
          have n59 := u59.n.trans n58; have s59 := u59.ds.trans s58
          refine wpO_nil ?_
          refine thenQ_go ?_
          refine w2_block ?_
          refine w2_loop (fun m fr H1 => H1 = H ∧ fr.n = 50 ∧ fr.defers = [] ∧ ∃ (i : Nat), m = s.length - i ∧ i ≤ s.length ∧ (∀ j : Nat, j < i → okc (byteI s j) = true) ∧ fr.tmp 0 = some (.str (s)) ∧ fr.tmp 24 = some (.int .i64 (s.length)) ∧ fr.tmp 25 = some (.int .i64 ((i : Int)))) (m := s.length) ⟨rfl, n59, s59, 0, rfl, Nat.zero_le _, fun j hj => absurd hj (Nat.not_lt_zero j), (u59.ne (u58.ne (u57.ne (u54.ne (u53.ne (u52.ne (u50.ne (u43.ne (u42.ne (u41.ne (u40.ne (u38.ne (u26.ne (u25.ne (u24.ne (u23.ne (u22.ne (u5.ne (u4.ne (u3.ne (u2.ne (u1.ne (a0))))))))))))))))))))))).trans (by first | rfl | (congr 2; omega) | simp), (u59.ne u58.get).trans (by first | rfl | (congr 2; omega) | simp), (u59.get).trans (by first | rfl | (congr 2; omega) | simp)⟩ ?_
          rintro m60 g60 _ ⟨rfl, n60, s60, i, rfl, hi, hall, a60_0, a60_24, a60_25⟩
          refine w2_seq ?_
          refine w2_region ?_
          refine wpO_do (v := .bool (decide (((i : Int) : Int) < (s.length : Int)))) rfl (want_free rfl) rfl (ltn n60 (by decide)) (ev_binI rfl (by decide) (opd_tmp (a60_25)) (opd_tmp (a60_24)) rfl) fun f61 u61 => ?_
          have n61 := u61.n.trans n60; have s61 := u61.ds.trans s60
          refine wpO_nil ?_
          refine thenQ_go ?_
          refine w2_seq ?_
          rcases Bool.eq_false_or_eq_true (decide (((i : Int) : Int) < (s.length : Int))) with h62 | h62
          ·
            have h62p := of_decide_eq_true h62
            refine w2_cond_t ((opd_tmp (u61.get)).trans (congrArg (fun b => some (V.bool b)) h62)) ?_
            refine w2_skip ?_
            refine thenQ_go ?_
            refine w2_seq ?_
            refine w2_block ?_
            refine w2_seq ?_
            refine w2_region ?_
            refine wpO_do (v := .int .i64 ((i : Int))) rfl (want_free rfl) rfl (ltn n61 (by decide)) (ev_move rfl (opd_tmp (u61.ne (a60_25)))) fun f63 u63 => ?_
            have n63 := u63.n.trans n61; have s63 := u63.ds.trans s61
            refine wpO_do (v := .int .i64 ((i : Int))) rfl (want_free rfl) rfl (ltn n63 (by decide)) (ev_assign rfl (opd_tmp (u63.get))) fun f64 u64 => ?_
            have n64 := u64.n.trans n63; have s64 := u64.ds.trans s63
            refine wpO_nil ?_
            refine thenQ_go ?_
            refine w2_seq ?_
            refine w2_region ?_
            refine wpO_do (v := .str (s)) rfl (want_free rfl) rfl (ltn n64 (by decide)) (ev_move rfl (opd_tmp (u64.ne (u63.ne (u61.ne (a60_0)))))) fun f65 u65 => ?_
            have n65 := u65.n.trans n64; have s65 := u65.ds.trans s64
            refine wpO_do (v := .int .i64 ((i : Int))) rfl (want_free rfl) rfl (ltn n65 (by decide)) (ev_move rfl (opd_tmp (u65.ne u64.get))) fun f66 u66 => ?_
            have n66 := u66.n.trans n65; have s66 := u66.ds.trans s65
            have q67 := byteI_bd (s) ((i : Int))
            refine wpO_do (v := .int .u8 (byteI (s) ((i : Int)))) rfl (want_free rfl) rfl (ltn n66 (by decide)) (ev_indexB rfl ty9 rfl (opd_tmp (u66.ne u65.get)) (opd_tmp (u66.get)) (by omega) (by omega)) fun f68 u68 => ?_
            have n68 := u68.n.trans n66; have s68 := u68.ds.trans s66
            refine wpO_do (v := .int .u8 (byteI (s) ((i : Int)))) rfl (want_free rfl) rfl (ltn n68 (by decide)) (ev_assign rfl (opd_tmp (u68.get))) fun f69 u69 => ?_
            have n69 := u69.n.trans n68; have s69 := u69.ds.trans s68
            refine wpO_nil ?_
            refine thenQ_go ?_
            refine w2_seq ?_
            refine w2_region ?_
            refine wpO_do (v := .int .u8 (byteI (s) ((i : Int)))) rfl (want_free rfl) rfl (ltn n69 (by decide)) (ev_move rfl (opd_tmp (u69.get))) fun f70 u70 => ?_
            have n70 := u70.n.trans n69; have s70 := u70.ds.trans s69
            refine wpO_do (v := .bool (decide ((byteI (s) ((i : Int)) : Int) < (97 : Int)))) rfl (want_free rfl) rfl (ltn n70 (by decide)) (ev_binI rfl (by decide) (opd_tmp (u70.get)) rfl rfl) fun f71 u71 => ?_
            have n71 := u71.n.trans n70; have s71 := u71.ds.trans s70
            refine wpO_do (v := .bool (decide ((byteI (s) ((i : Int)) : Int) < (97 : Int)))) rfl (want_free rfl) rfl (ltn n71 (by decide)) (ev_move rfl (opd_tmp (u71.get))) fun f72 u72 => ?_
            have n72 := u72.n.trans n71; have s72 := u72.ds.trans s71
            rcases Bool.eq_false_or_eq_true (decide ((byteI (s) ((i : Int)) : Int) < (97 : Int))) with h73 | h73
            ·
              have h73p := of_decide_eq_true h73
              refine wpO_pass rfl (want_no rfl rfl ((u72.get).trans (congrArg (fun b => some (V.bool b)) h73))) rfl (ltn n72 (by decide)) fun f74 u74 => ?_
              have n74 := u74.n.trans n72; have s74 := u74.ds.trans s72
              refine wpO_pass rfl (want_no rfl rfl ((u74.ne u72.get).trans (congrArg (fun b => some (V.bool b)) h73))) rfl (ltn n74 (by decide)) fun f75 u75 => ?_
              have n75 := u75.n.trans n74; have s75 := u75.ds.trans s74
              refine wpO_do (v := .bool (true)) rfl (want_free rfl) rfl (ltn n75 (by decide)) (ev_pick_t rfl ((opd_tmp (u75.ne (u74.ne u72.get))).trans (congrArg (fun b => some (V.bool b)) h73)) rfl) fun f76 u76 => ?_
              have n76 := u76.n.trans n75; have s76 := u76.ds.trans s75
              refine wpO_do (v := .bool (true)) rfl (want_free rfl) rfl (ltn n76 (by decide)) (ev_move rfl (opd_tmp (u76.get))) fun f77 u77 => ?_
              have n77 := u77.n.trans n76; have s77 := u77.ds.trans s76
              refine wpO_do (v := .int .u8 (byteI (s) ((i : Int)))) rfl (want_yes rfl rfl (u77.get)) rfl (ltn n77 (by decide)) (ev_move rfl (opd_tmp (u77.ne (u76.ne (u75.ne (u74.ne (u72.ne (u71.ne (u70.ne u69.get))))))))) fun f78 u78 => ?_
              have n78 := u78.n.trans n77; have s78 := u78.ds.trans s77
              refine wpO_do (v := .bool (decide ((byteI (s) ((i : Int)) : Int) < (48 : Int)))) rfl (want_yes rfl rfl (u78.ne u77.get)) rfl (ltn n78 (by decide)) (ev_binI rfl (by decide) (opd_tmp (u78.get)) rfl rfl) fun f79 u79 => ?_
              have n79 := u79.n.trans n78; have s79 := u79.ds.trans s78
              refine wpO_do (v := .bool (decide ((byteI (s) ((i : Int)) : Int) < (48 : Int)))) rfl (want_yes rfl rfl (u79.ne (u78.ne u77.get))) rfl (ltn n79 (by decide)) (ev_move rfl (opd_tmp (u79.get))) fun f80 u80 => ?_
              have n80 := u80.n.trans n79; have s80 := u80.ds.trans s79
              rcases Bool.eq_false_or_eq_true (decide ((byteI (s) ((i : Int)) : Int) < (48 : Int))) with h81 | h81
              ·
                have h81p := of_decide_eq_true h81
                refine wpO_pass rfl (want_no rfl rfl ((u80.get).trans (congrArg (fun b => some (V.bool b)) h81))) rfl (ltn n80 (by decide)) fun f82 u82 => ?_
                have n82 := u82.n.trans n80; have s82 := u82.ds.trans s80
                refine wpO_pass rfl (want_no rfl rfl ((u82.ne u80.get).trans (congrArg (fun b => some (V.bool b)) h81))) rfl (ltn n82 (by decide)) fun f83 u83 => ?_
                have n83 := u83.n.trans n82; have s83 := u83.ds.trans s82
                refine wpO_do (v := .bool (true)) rfl (want_yes rfl rfl (u83.ne (u82.ne (u80.ne (u79.ne (u78.ne u77.get)))))) rfl (ltn n83 (by decide)) (ev_pick_t rfl ((opd_tmp (u83.ne (u82.ne u80.get))).trans (congrArg (fun b => some (V.bool b)) h81)) rfl) fun f84 u84 => ?_
                have n84 := u84.n.trans n83; have s84 := u84.ds.trans s83
                refine wpO_do (v := .bool (true)) rfl (want_free rfl) rfl (ltn n84 (by decide)) (ev_pick_t rfl (opd_tmp (u84.ne (u83.ne (u82.ne (u80.ne (u79.ne (u78.ne u77.get))))))) (opd_tmp (u84.get))) fun f85 u85 => ?_
                have n85 := u85.n.trans n84; have s85 := u85.ds.trans s84
                refine wpO_do (v := .bool (true)) rfl (want_free rfl) rfl (ltn n85 (by decide)) (ev_move rfl (opd_tmp (u85.get))) fun f86 u86 => ?_
                have n86 := u86.n.trans n85; have s86 := u86.ds.trans s85
                refine wpO_do (v := .int .u8 (byteI (s) ((i : Int)))) rfl (want_yes rfl rfl (u86.get)) rfl (ltn n86 (by decide)) (ev_move rfl (opd_tmp (u86.ne (u85.ne (u84.ne (u83.ne (u82.ne (u80.ne (u79.ne (u78.ne (u77.ne (u76.ne (u75.ne (u74.ne (u72.ne (u71.ne (u70.ne u69.get))))))))))))))))) fun f87 u87 => ?_
                have n87 := u87.n.trans n86; have s87 := u87.ds.trans s86
                refine wpO_do (v := .bool ((byteI (s) ((i : Int)) : Int) != (45 : Int))) rfl (want_yes rfl rfl (u87.ne u86.get)) rfl (ltn n87 (by decide)) (ev_binI rfl (by decide) (opd_tmp (u87.get)) rfl rfl) fun f88 u88 => ?_
                have n88 := u88.n.trans n87; have s88 := u88.ds.trans s87
                refine wpO_do (v := .bool ((byteI (s) ((i : Int)) : Int) != (45 : Int))) rfl (want_free rfl) rfl (ltn n88 (by decide)) (ev_pick_t rfl (opd_tmp (u88.ne (u87.ne u86.get))) (opd_tmp (u88.get))) fun f89 u89 => ?_
                have n89 := u89.n.trans n88; have s89 := u89.ds.trans s88
                refine wpO_nil ?_
                refine thenQ_go ?_
                rcases Bool.eq_false_or_eq_true ((byteI (s) ((i : Int)) : Int) != (45 : Int)) with h90 | h90
                ·
                  have h90p := bne_t h90
                  refine w2_cond_t ((opd_tmp (u89.get)).trans (congrArg (fun b => some (V.bool b)) h90)) ?_
                  refine w2_seq ?_
                  refine w2_region ?_
                  refine wpO_do (v := .bool (false)) rfl (want_free rfl) rfl (ltn n89 (by decide)) (ev_assign rfl rfl) fun f91 u91 => ?_
                  have n91 := u91.n.trans n89; have s91 := u91.ds.trans s89
                  refine wpO_nil ?_
                  refine thenQ_go ?_
                  refine w2_ret ?_
                  refine blockQ_rt ?_
                  refine thenQ_rt ?_
                  refine thenQ_rt ?_
                  refine blockQ_rt ?_
                  refine thenQ_rt ?_
                  refine ⟨.inr rfl, _, ends0 s91, _, (res_tmp (u91.get) res_nil), ?_⟩
                  exact ⟨congrArg V.bool (name_badi i (by omega) (by omega)).symm, rfl⟩
                ·
                  have h90p := bne_f h90
                  refine w2_cond_f ((opd_tmp (u89.get)).trans (congrArg (fun b => some (V.bool b)) h90)) ?_
                  refine w2_skip ?_
                  refine blockQ_go ?_
                  refine thenQ_go ?_
                  refine w2_region ?_
                  refine wpO_do (v := .int .i64 (((i : Int)) + (1))) rfl (want_free rfl) rfl (ltn n89 (by decide)) (ev_binI rfl (by decide) (opd_tmp (u89.ne (u88.ne (u87.ne (u86.ne (u85.ne (u84.ne (u83.ne (u82.ne (u80.ne (u79.ne (u78.ne (u77.ne (u76.ne (u75.ne (u74.ne (u72.ne (u71.ne (u70.ne (u69.ne (u68.ne (u66.ne (u65.ne (u64.ne (u63.ne (u61.ne (a60_25))))))))))))))))))))))))))) rfl (add64 (by omega) (by omega))) fun f92 u92 => ?_
                  have n92 := u92.n.trans n89; have s92 := u92.ds.trans s89
                  refine wpO_do (v := .int .i64 (((i : Int)) + (1))) rfl (want_free rfl) rfl (ltn n92 (by decide)) (ev_move rfl (opd_tmp (u92.get))) fun f93 u93 => ?_
                  have n93 := u93.n.trans n92; have s93 := u93.ds.trans s92
                  refine wpO_nil ?_
                  refine thenQ_go ?_
                  refine ⟨_, ?_, rfl, n93, s93, i + 1, rfl, by omega, step_all hall (okc_iff.2 (by omega)), (u93.ne (u92.ne (u89.ne (u88.ne (u87.ne (u86.ne (u85.ne (u84.ne (u83.ne (u82.ne (u80.ne (u79.ne (u78.ne (u77.ne (u76.ne (u75.ne (u74.ne (u72.ne (u71.ne (u70.ne (u69.ne (u68.ne (u66.ne (u65.ne (u64.ne (u63.ne (u61.ne (a60_0)))))))))))))))))))))))))))).trans (by first | rfl | (congr 2; omega) | simp), (u93.ne (u92.ne (u89.ne (u88.ne (u87.ne (u86.ne (u85.ne (u84.ne (u83.ne (u82.ne (u80.ne (u79.ne (u78.ne (u77.ne (u76.ne (u75.ne (u74.ne (u72.ne (u71.ne (u70.ne (u69.ne (u68.ne (u66.ne (u65.ne (u64.ne (u63.ne (u61.ne (a60_24)))))))))))))))))))))))))))).trans (by first | rfl | (congr 2; omega) | simp), (u93.get).trans (by first | rfl | (congr 2; omega) | simp)⟩
                  omega
              ·
                have h81p := of_decide_eq_false h81
                refine wpO_do (v := .int .u8 (byteI (s) ((i : Int)))) rfl (want_yes rfl rfl ((u80.get).trans (congrArg (fun b => some (V.bool b)) h81))) rfl (ltn n80 (by decide)) (ev_move rfl (opd_tmp (u80.ne (u79.ne (u78.ne (u77.ne (u76.ne (u75.ne (u74.ne (u72.ne (u71.ne (u70.ne u69.get)))))))))))) fun f94 u94 => ?_
                have n94 := u94.n.trans n80; have s94 := u94.ds.trans s80
                refine wpO_do (v := .bool (decide ((byteI (s) ((i : Int)) : Int) > (57 : Int)))) rfl (want_yes rfl rfl ((u94.ne u80.get).trans (congrArg (fun b => some (V.bool b)) h81))) rfl (ltn n94 (by decide)) (ev_binI rfl (by decide) (opd_tmp (u94.get)) rfl rfl) fun f95 u95 => ?_
                have n95 := u95.n.trans n94; have s95 := u95.ds.trans s94
                refine wpO_do (v := .bool (decide ((byteI (s) ((i : Int)) : Int) > (57 : Int)))) rfl (want_yes rfl rfl (u95.ne (u94.ne (u80.ne (u79.ne (u78.ne u77.get)))))) rfl (ltn n95 (by decide)) (ev_pick_f rfl ((opd_tmp (u95.ne (u94.ne u80.get))).trans (congrArg (fun b => some (V.bool b)) h81)) (opd_tmp (u95.get))) fun f96 u96 => ?_
                have n96 := u96.n.trans n95; have s96 := u96.ds.trans s95
                refine wpO_do (v := .bool (decide ((byteI (s) ((i : Int)) : Int) > (57 : Int)))) rfl (want_free rfl) rfl (ltn n96 (by decide)) (ev_pick_t rfl (opd_tmp (u96.ne (u95.ne (u94.ne (u80.ne (u79.ne (u78.ne u77.get))))))) (opd_tmp (u96.get))) fun f97 u97 => ?_
                have n97 := u97.n.trans n96; have s97 := u97.ds.trans s96
                refine wpO_do (v := .bool (decide ((byteI (s) ((i : Int)) : Int) > (57 : Int)))) rfl (want_free rfl) rfl (ltn n97 (by decide)) (ev_move rfl (opd_tmp (u97.get))) fun f98 u98 => ?_
                have n98 := u98.n.trans n97; have s98 := u98.ds.trans s97
                rcases Bool.eq_false_or_eq_true (decide ((byteI (s) ((i : Int)) : Int) > (57 : Int))) with h99 | h99
                ·
                  have h99p := of_decide_eq_true h99
                  refine wpO_do (v := .int .u8 (byteI (s) ((i : Int)))) rfl (want_yes rfl rfl ((u98.get).trans (congrArg (fun b => some (V.bool b)) h99))) rfl (ltn n98 (by decide)) (ev_move rfl (opd_tmp (u98.ne (u97.ne (u96.ne (u95.ne (u94.ne (u80.ne (u79.ne (u78.ne (u77.ne (u76.ne (u75.ne (u74.ne (u72.ne (u71.ne (u70.ne u69.get))))))))))))))))) fun f100 u100 => ?_
                  have n100 := u100.n.trans n98; have s100 := u100.ds.trans s98
                  refine wpO_do (v := .bool ((byteI (s) ((i : Int)) : Int) != (45 : Int))) rfl (want_yes rfl rfl ((u100.ne u98.get).trans (congrArg (fun b => some (V.bool b)) h99))) rfl (ltn n100 (by decide)) (ev_binI rfl (by decide) (opd_tmp (u100.get)) rfl rfl) fun f101 u101 => ?_
                  have n101 := u101.n.trans n100; have s101 := u101.ds.trans s100
                  refine wpO_do (v := .bool ((byteI (s) ((i : Int)) : Int) != (45 : Int))) rfl (want_free rfl) rfl (ltn n101 (by decide)) (ev_pick_t rfl ((opd_tmp (u101.ne (u100.ne u98.get))).trans (congrArg (fun b => some (V.bool b)) h99)) (opd_tmp (u101.get))) fun f102 u102 => ?_
                  have n102 := u102.n.trans n101; have s102 := u102.ds.trans s101
                  refine wpO_nil ?_
                  refine thenQ_go ?_
                  rcases Bool.eq_false_or_eq_true ((byteI (s) ((i : Int)) : Int) != (45 : Int)) with h103 | h103
                  ·
                    have h103p := bne_t h103
                    refine w2_cond_t ((opd_tmp (u102.get)).trans (congrArg (fun b => some (V.bool b)) h103)) ?_
                    refine w2_seq ?_
                    refine w2_region ?_
                    refine wpO_do (v := .bool (false)) rfl (want_free rfl) rfl (ltn n102 (by decide)) (ev_assign rfl rfl) fun f104 u104 => ?_
                    have n104 := u104.n.trans n102; have s104 := u104.ds.trans s102
                    refine wpO_nil ?_
                    refine thenQ_go ?_
                    refine w2_ret ?_
                    refine blockQ_rt ?_
                    refine thenQ_rt ?_
                    refine thenQ_rt ?_
                    refine blockQ_rt ?_
                    refine thenQ_rt ?_
                    refine ⟨.inr rfl, _, ends0 s104, _, (res_tmp (u104.get) res_nil), ?_⟩
                    exact ⟨congrArg V.bool (name_badi i (by omega) (by omega)).symm, rfl⟩
                  ·
                    have h103p := bne_f h103
                    refine w2_cond_f ((opd_tmp (u102.get)).trans (congrArg (fun b => some (V.bool b)) h103)) ?_
                    refine w2_skip ?_
                    refine blockQ_go ?_
                    refine thenQ_go ?_
                    refine w2_region ?_
                    refine wpO_do (v := .int .i64 (((i : Int)) + (1))) rfl (want_free rfl) rfl (ltn n102 (by decide)) (ev_binI rfl (by decide) (opd_tmp (u102.ne (u101.ne (u100.ne (u98.ne (u97.ne (u96.ne (u95.ne (u94.ne (u80.ne (u79.ne (u78.ne (u77.ne (u76.ne (u75.ne (u74.ne (u72.ne (u71.ne (u70.ne (u69.ne (u68.ne (u66.ne (u65.ne (u64.ne (u63.ne (u61.ne (a60_25))))))))))))))))))))))))))) rfl (add64 (by omega) (by omega))) fun f105 u105 => ?_
                    have n105 := u105.n.trans n102; have s105 := u105.ds.trans s102
                    refine wpO_do (v := .int .i64 (((i : Int)) + (1))) rfl (want_free rfl) rfl (ltn n105 (by decide)) (ev_move rfl (opd_tmp (u105.get))) fun f106 u106 => ?_
                    have n106 := u106.n.trans n105; have s106 := u106.ds.trans s105
                    refine wpO_nil ?_
                    refine thenQ_go ?_
                    refine ⟨_, ?_, rfl, n106, s106, i + 1, rfl, by omega, step_all hall (okc_iff.2 (by omega)), (u106.ne (u105.ne (u102.ne (u101.ne (u100.ne (u98.ne (u97.ne (u96.ne (u95.ne (u94.ne (u80.ne (u79.ne (u78.ne (u77.ne (u76.ne (u75.ne (u74.ne (u72.ne (u71.ne (u70.ne (u69.ne (u68.ne (u66.ne (u65.ne (u64.ne (u63.ne (u61.ne (a60_0)))))))))))))))))))))))))))).trans (by first | rfl | (congr 2; omega) | simp), (u106.ne (u105.ne (u102.ne (u101.ne (u100.ne (u98.ne (u97.ne (u96.ne (u95.ne (u94.ne (u80.ne (u79.ne (u78.ne (u77.ne (u76.ne (u75.ne (u74.ne (u72.ne (u71.ne (u70.ne (u69.ne (u68.ne (u66.ne (u65.ne (u64.ne (u63.ne (u61.ne (a60_24)))))))))))))))))))))))))))).trans (by first | rfl | (congr 2; omega) | simp), (u106.get).trans (by first | rfl | (congr 2; omega) | simp)⟩
                    omega
                ·
                  have h99p := of_decide_eq_false h99
                  refine wpO_pass rfl (want_no rfl rfl ((u98.get).trans (congrArg (fun b => some (V.bool b)) h99))) rfl (ltn n98 (by decide)) fun f107 u107 => ?_
                  have n107 := u107.n.trans n98; have s107 := u107.ds.trans s98
                  refine wpO_pass rfl (want_no rfl rfl ((u107.ne u98.get).trans (congrArg (fun b => some (V.bool b)) h99))) rfl (ltn n107 (by decide)) fun f108 u108 => ?_
                  have n108 := u108.n.trans n107; have s108 := u108.ds.trans s107
                  refine wpO_do (v := .bool (false)) rfl (want_free rfl) rfl (ltn n108 (by decide)) (ev_pick_f rfl ((opd_tmp (u108.ne (u107.ne u98.get))).trans (congrArg (fun b => some (V.bool b)) h99)) rfl) fun f109 u109 => ?_
                  have n109 := u109.n.trans n108; have s109 := u109.ds.trans s108
                  refine wpO_nil ?_
                  refine thenQ_go ?_
                  refine w2_cond_f (opd_tmp (u109.get)) ?_
                  refine w2_skip ?_
                  refine blockQ_go ?_
                  refine thenQ_go ?_
                  refine w2_region ?_
                  refine wpO_do (v := .int .i64 (((i : Int)) + (1))) rfl (want_free rfl) rfl (ltn n109 (by decide)) (ev_binI rfl (by decide) (opd_tmp (u109.ne (u108.ne (u107.ne (u98.ne (u97.ne (u96.ne (u95.ne (u94.ne (u80.ne (u79.ne (u78.ne (u77.ne (u76.ne (u75.ne (u74.ne (u72.ne (u71.ne (u70.ne (u69.ne (u68.ne (u66.ne (u65.ne (u64.ne (u63.ne (u61.ne (a60_25))))))))))))))))))))))))))) rfl (add64 (by omega) (by omega))) fun f110 u110 => ?_
                  have n110 := u110.n.trans n109; have s110 := u110.ds.trans s109
                  refine wpO_do (v := .int .i64 (((i : Int)) + (1))) rfl (want_free rfl) rfl (ltn n110 (by decide)) (ev_move rfl (opd_tmp (u110.get))) fun f111 u111 => ?_
                  have n111 := u111.n.trans n110; have s111 := u111.ds.trans s110
                  refine wpO_nil ?_
                  refine thenQ_go ?_
                  refine ⟨_, ?_, rfl, n111, s111, i + 1, rfl, by omega, step_all hall (okc_iff.2 (by omega)), (u111.ne (u110.ne (u109.ne (u108.ne (u107.ne (u98.ne (u97.ne (u96.ne (u95.ne (u94.ne (u80.ne (u79.ne (u78.ne (u77.ne (u76.ne (u75.ne (u74.ne (u72.ne (u71.ne (u70.ne (u69.ne (u68.ne (u66.ne (u65.ne (u64.ne (u63.ne (u61.ne (a60_0)))))))))))))))))))))))))))).trans (by first | rfl | (congr 2; omega) | simp), (u111.ne (u110.ne (u109.ne (u108.ne (u107.ne (u98.ne (u97.ne (u96.ne (u95.ne (u94.ne (u80.ne (u79.ne (u78.ne (u77.ne (u76.ne (u75.ne (u74.ne (u72.ne (u71.ne (u70.ne (u69.ne (u68.ne (u66.ne (u65.ne (u64.ne (u63.ne (u61.ne (a60_24)))))))))))))))))))))))))))).trans (by first | rfl | (congr 2; omega) | simp), (u111.get).trans (by first | rfl | (congr 2; omega) | simp)⟩
                  omega
            ·
              have h73p := of_decide_eq_false h73
              refine wpO_do (v := .int .u8 (byteI (s) ((i : Int)))) rfl (want_yes rfl rfl ((u72.get).trans (congrArg (fun b => some (V.bool b)) h73))) rfl (ltn n72 (by decide)) (ev_move rfl (opd_tmp (u72.ne (u71.ne (u70.ne u69.get))))) fun f112 u112 => ?_
              have n112 := u112.n.trans n72; have s112 := u112.ds.trans s72
              refine wpO_do (v := .bool (decide ((byteI (s) ((i : Int)) : Int) > (122 : Int)))) rfl (want_yes rfl rfl ((u112.ne u72.get).trans (congrArg (fun b => some (V.bool b)) h73))) rfl (ltn n112 (by decide)) (ev_binI rfl (by decide) (opd_tmp (u112.get)) rfl rfl) fun f113 u113 => ?_
              have n113 := u113.n.trans n112; have s113 := u113.ds.trans s112
              refine wpO_do (v := .bool (decide ((byteI (s) ((i : Int)) : Int) > (122 : Int)))) rfl (want_free rfl) rfl (ltn n113 (by decide)) (ev_pick_f rfl ((opd_tmp (u113.ne (u112.ne u72.get))).trans (congrArg (fun b => some (V.bool b)) h73)) (opd_tmp (u113.get))) fun f114 u114 => ?_
              have n114 := u114.n.trans n113; have s114 := u114.ds.trans s113
              refine wpO_do (v := .bool (decide ((byteI (s) ((i : Int)) : Int) > (122 : Int)))) rfl (want_free rfl) rfl (ltn n114 (by decide)) (ev_move rfl (opd_tmp (u114.get))) fun f115 u115 => ?_
              have n115 := u115.n.trans n114; have s115 := u115.ds.trans s114
              rcases Bool.eq_false_or_eq_true (decide ((byteI (s) ((i : Int)) : Int) > (122 : Int))) with h116 | h116
              ·
                have h116p := of_decide_eq_true h116
                refine wpO_do (v := .int .u8 (byteI (s) ((i : Int)))) rfl (want_yes rfl rfl ((u115.get).trans (congrArg (fun b => some (V.bool b)) h116))) rfl (ltn n115 (by decide)) (ev_move rfl (opd_tmp (u115.ne (u114.ne (u113.ne (u112.ne (u72.ne (u71.ne (u70.ne u69.get))))))))) fun f117 u117 => ?_
                have n117 := u117.n.trans n115; have s117 := u117.ds.trans s115
                refine wpO_do (v := .bool (decide ((byteI (s) ((i : Int)) : Int) < (48 : Int)))) rfl (want_yes rfl rfl ((u117.ne u115.get).trans (congrArg (fun b => some (V.bool b)) h116))) rfl (ltn n117 (by decide)) (ev_binI rfl (by decide) (opd_tmp (u117.get)) rfl rfl) fun f118 u118 => ?_
                have n118 := u118.n.trans n117; have s118 := u118.ds.trans s117
                refine wpO_do (v := .bool (decide ((byteI (s) ((i : Int)) : Int) < (48 : Int)))) rfl (want_yes rfl rfl ((u118.ne (u117.ne u115.get)).trans (congrArg (fun b => some (V.bool b)) h116))) rfl (ltn n118 (by decide)) (ev_move rfl (opd_tmp (u118.get))) fun f119 u119 => ?_
                have n119 := u119.n.trans n118; have s119 := u119.ds.trans s118
                rcases Bool.eq_false_or_eq_true (decide ((byteI (s) ((i : Int)) : Int) < (48 : Int))) with h120 | h120
                ·
                  have h120p := of_decide_eq_true h120
                  refine wpO_pass rfl (want_no rfl rfl ((u119.get).trans (congrArg (fun b => some (V.bool b)) h120))) rfl (ltn n119 (by decide)) fun f121 u121 => ?_
                  have n121 := u121.n.trans n119; have s121 := u121.ds.trans s119
                  refine wpO_pass rfl (want_no rfl rfl ((u121.ne u119.get).trans (congrArg (fun b => some (V.bool b)) h120))) rfl (ltn n121 (by decide)) fun f122 u122 => ?_
                  have n122 := u122.n.trans n121; have s122 := u122.ds.trans s121
                  refine wpO_do (v := .bool (true)) rfl (want_yes rfl rfl ((u122.ne (u121.ne (u119.ne (u118.ne (u117.ne u115.get))))).trans (congrArg (fun b => some (V.bool b)) h116))) rfl (ltn n122 (by decide)) (ev_pick_t rfl ((opd_tmp (u122.ne (u121.ne u119.get))).trans (congrArg (fun b => some (V.bool b)) h120)) rfl) fun f123 u123 => ?_
                  have n123 := u123.n.trans n122; have s123 := u123.ds.trans s122
                  refine wpO_do (v := .bool (true)) rfl (want_free rfl) rfl (ltn n123 (by decide)) (ev_pick_t rfl ((opd_tmp (u123.ne (u122.ne (u121.ne (u119.ne (u118.ne (u117.ne u115.get))))))).trans (congrArg (fun b => some (V.bool b)) h116)) (opd_tmp (u123.get))) fun f124 u124 => ?_
                  have n124 := u124.n.trans n123; have s124 := u124.ds.trans s123
                  refine wpO_do (v := .bool (true)) rfl (want_free rfl) rfl (ltn n124 (by decide)) (ev_move rfl (opd_tmp (u124.get))) fun f125 u125 => ?_
                  have n125 := u125.n.trans n124; have s125 := u125.ds.trans s124
                  refine wpO_do (v := .int .u8 (byteI (s) ((i : Int)))) rfl (want_yes rfl rfl (u125.get)) rfl (ltn n125 (by decide)) (ev_move rfl (opd_tmp (u125.ne (u124.ne (u123.ne (u122.ne (u121.ne (u119.ne (u118.ne (u117.ne (u115.ne (u114.ne (u113.ne (u112.ne (u72.ne (u71.ne (u70.ne u69.get))))))))))))))))) fun f126 u126 => ?_
                  have n126 := u126.n.trans n125; have s126 := u126.ds.trans s125
                  refine wpO_do (v := .bool ((byteI (s) ((i : Int)) : Int) != (45 : Int))) rfl (want_yes rfl rfl (u126.ne u125.get)) rfl (ltn n126 (by decide)) (ev_binI rfl (by decide) (opd_tmp (u126.get)) rfl rfl) fun f127 u127 => ?_
                  have n127 := u127.n.trans n126; have s127 := u127.ds.trans s126
                  refine wpO_do (v := .bool ((byteI (s) ((i : Int)) : Int) != (45 : Int))) rfl (want_free rfl) rfl (ltn n127 (by decide)) (ev_pick_t rfl (opd_tmp (u127.ne (u126.ne u125.get))) (opd_tmp (u127.get))) fun f128 u128 => ?_
                  have n128 := u128.n.trans n127; have s128 := u128.ds.trans s127
                  refine wpO_nil ?_
                  refine thenQ_go ?_
                  rcases Bool.eq_false_or_eq_true ((byteI (s) ((i : Int)) : Int) != (45 : Int)) with h129 | h129
                  ·
                    have h129p := bne_t h129
                    refine w2_cond_t ((opd_tmp (u128.get)).trans (congrArg (fun b => some (V.bool b)) h129)) ?_
                    refine w2_seq ?_
                    refine w2_region ?_
                    refine wpO_do (v := .bool (false)) rfl (want_free rfl) rfl (ltn n128 (by decide)) (ev_assign rfl rfl) fun f130 u130 => ?_
                    have n130 := u130.n.trans n128; have s130 := u130.ds.trans s128
                    refine wpO_nil ?_
                    refine thenQ_go ?_
                    refine w2_ret ?_
                    refine blockQ_rt ?_
                    refine thenQ_rt ?_
                    refine thenQ_rt ?_
                    refine blockQ_rt ?_
                    refine thenQ_rt ?_
                    refine ⟨.inr rfl, _, ends0 s130, _, (res_tmp (u130.get) res_nil), ?_⟩
                    exact ⟨congrArg V.bool (name_badi i (by omega) (by omega)).symm, rfl⟩
                  ·
                    have h129p := bne_f h129
                    refine w2_cond_f ((opd_tmp (u128.get)).trans (congrArg (fun b => some (V.bool b)) h129)) ?_
                    refine w2_skip ?_
                    refine blockQ_go ?_
                    refine thenQ_go ?_
                    refine w2_region ?_
                    refine wpO_do (v := .int .i64 (((i : Int)) + (1))) rfl (want_free rfl) rfl (ltn n128 (by decide)) (ev_binI rfl (by decide) (opd_tmp (u128.ne (u127.ne (u126.ne (u125.ne (u124.ne (u123.ne (u122.ne (u121.ne (u119.ne (u118.ne (u117.ne (u115.ne (u114.ne (u113.ne (u112.ne (u72.ne (u71.ne (u70.ne (u69.ne (u68.ne (u66.ne (u65.ne (u64.ne (u63.ne (u61.ne (a60_25))))))))))))))))))))))))))) rfl (add64 (by omega) (by omega))) fun f131 u131 => ?_
                    have n131 := u131.n.trans n128; have s131 := u131.ds.trans s128
                    refine wpO_do (v := .int .i64 (((i : Int)) + (1))) rfl (want_free rfl) rfl (ltn n131 (by decide)) (ev_move rfl (opd_tmp (u131.get))) fun f132 u132 => ?_
                    have n132 := u132.n.trans n131; have s132 := u132.ds.trans s131
                    refine wpO_nil ?_
                    refine thenQ_go ?_
                    refine ⟨_, ?_, rfl, n132, s132, i + 1, rfl, by omega, step_all hall (okc_iff.2 (by omega)), (u132.ne (u131.ne (u128.ne (u127.ne (u126.ne (u125.ne (u124.ne (u123.ne (u122.ne (u121.ne (u119.ne (u118.ne (u117.ne (u115.ne (u114.ne (u113.ne (u112.ne (u72.ne (u71.ne (u70.ne (u69.ne (u68.ne (u66.ne (u65.ne (u64.ne (u63.ne (u61.ne (a60_0)))))))))))))))))))))))))))).trans (by first | rfl | (congr 2; omega) | simp), (u132.ne (u131.ne (u128.ne (u127.ne (u126.ne (u125.ne (u124.ne (u123.ne (u122.ne (u121.ne (u119.ne (u118.ne (u117.ne (u115.ne (u114.ne (u113.ne (u112.ne (u72.ne (u71.ne (u70.ne (u69.ne (u68.ne (u66.ne (u65.ne (u64.ne (u63.ne (u61.ne (a60_24)))))))))))))))))))))))))))).trans (by first | rfl | (congr 2; omega) | simp), (u132.get).trans (by first | rfl | (congr 2; omega) | simp)⟩
                    omega
                ·
                  have h120p := of_decide_eq_false h120
                  refine wpO_do (v := .int .u8 (byteI (s) ((i : Int)))) rfl (want_yes rfl rfl ((u119.get).trans (congrArg (fun b => some (V.bool b)) h120))) rfl (ltn n119 (by decide)) (ev_move rfl (opd_tmp (u119.ne (u118.ne (u117.ne (u115.ne (u114.ne (u113.ne (u112.ne (u72.ne (u71.ne (u70.ne u69.get)))))))))))) fun f133 u133 => ?_
                  have n133 := u133.n.trans n119; have s133 := u133.ds.trans s119
                  refine wpO_do (v := .bool (decide ((byteI (s) ((i : Int)) : Int) > (57 : Int)))) rfl (want_yes rfl rfl ((u133.ne u119.get).trans (congrArg (fun b => some (V.bool b)) h120))) rfl (ltn n133 (by decide)) (ev_binI rfl (by decide) (opd_tmp (u133.get)) rfl rfl) fun f134 u134 => ?_
                  have n134 := u134.n.trans n133; have s134 := u134.ds.trans s133
                  refine wpO_do (v := .bool (decide ((byteI (s) ((i : Int)) : Int) > (57 : Int)))) rfl (want_yes rfl rfl ((u134.ne (u133.ne (u119.ne (u118.ne (u117.ne u115.get))))).trans (congrArg (fun b => some (V.bool b)) h116))) rfl (ltn n134 (by decide)) (ev_pick_f rfl ((opd_tmp (u134.ne (u133.ne u119.get))).trans (congrArg (fun b => some (V.bool b)) h120)) (opd_tmp (u134.get))) fun f135 u135 => ?_
                  have n135 := u135.n.trans n134; have s135 := u135.ds.trans s134
                  refine wpO_do (v := .bool (decide ((byteI (s) ((i : Int)) : Int) > (57 : Int)))) rfl (want_free rfl) rfl (ltn n135 (by decide)) (ev_pick_t rfl ((opd_tmp (u135.ne (u134.ne (u133.ne (u119.ne (u118.ne (u117.ne u115.get))))))).trans (congrArg (fun b => some (V.bool b)) h116)) (opd_tmp (u135.get))) fun f136 u136 => ?_
                  have n136 := u136.n.trans n135; have s136 := u136.ds.trans s135
                  refine wpO_do (v := .bool (decide ((byteI (s) ((i : Int)) : Int) > (57 : Int)))) rfl (want_free rfl) rfl (ltn n136 (by decide)) (ev_move rfl (opd_tmp (u136.get))) fun f137 u137 => ?_
                  have n137 := u137.n.trans n136; have s137 := u137.ds.trans s136
                  rcases Bool.eq_false_or_eq_true (decide ((byteI (s) ((i : Int)) : Int) > (57 : Int))) with h138 | h138
                  ·
                    have h138p := of_decide_eq_true h138
                    refine wpO_do (v := .int .u8 (byteI (s) ((i : Int)))) rfl (want_yes rfl rfl ((u137.get).trans (congrArg (fun b => some (V.bool b)) h138))) rfl (ltn n137 (by decide)) (ev_move rfl (opd_tmp (u137.ne (u136.ne (u135.ne (u134.ne (u133.ne (u119.ne (u118.ne (u117.ne (u115.ne (u114.ne (u113.ne (u112.ne (u72.ne (u71.ne (u70.ne u69.get))))))))))))))))) fun f139 u139 => ?_
                    have n139 := u139.n.trans n137; have s139 := u139.ds.trans s137
                    refine wpO_do (v := .bool ((byteI (s) ((i : Int)) : Int) != (45 : Int))) rfl (want_yes rfl rfl ((u139.ne u137.get).trans (congrArg (fun b => some (V.bool b)) h138))) rfl (ltn n139 (by decide)) (ev_binI rfl (by decide) (opd_tmp (u139.get)) rfl rfl) fun f140 u140 => ?_
                    have n140 := u140.n.trans n139; have s140 := u140.ds.trans s139
                    refine wpO_do (v := .bool ((byteI (s) ((i : Int)) : Int) != (45 : Int))) rfl (want_free rfl) rfl (ltn n140 (by decide)) (ev_pick_t rfl ((opd_tmp (u140.ne (u139.ne u137.get))).trans (congrArg (fun b => some (V.bool b)) h138)) (opd_tmp (u140.get))) fun f141 u141 => ?_
                    have n141 := u141.n.trans n140; have s141 := u141.ds.trans s140
                    refine wpO_nil ?_
                    refine thenQ_go ?_
                    rcases Bool.eq_false_or_eq_true ((byteI (s) ((i : Int)) : Int) != (45 : Int)) with h142 | h142
                    ·
                      have h142p := bne_t h142
                      refine w2_cond_t ((opd_tmp (u141.get)).trans (congrArg (fun b => some (V.bool b)) h142)) ?_
                      refine w2_seq ?_
                      refine w2_region ?_
                      refine wpO_do (v := .bool (false)) rfl (want_free rfl) rfl (ltn n141 (by decide)) (ev_assign rfl rfl) fun f143 u143 => ?_
                      have n143 := u143.n.trans n141; have s143 := u143.ds.trans s141
                      refine wpO_nil ?_
                      refine thenQ_go ?_
                      refine w2_ret ?_
                      refine blockQ_rt ?_
                      refine thenQ_rt ?_
                      refine thenQ_rt ?_
                      refine blockQ_rt ?_
                      refine thenQ_rt ?_
                      refine ⟨.inr rfl, _, ends0 s143, _, (res_tmp (u143.get) res_nil), ?_⟩
                      exact ⟨congrArg V.bool (name_badi i (by omega) (by omega)).symm, rfl⟩
                    ·
                      have h142p := bne_f h142
                      refine w2_cond_f ((opd_tmp (u141.get)).trans (congrArg (fun b => some (V.bool b)) h142)) ?_
                      refine w2_skip ?_
                      refine blockQ_go ?_
                      refine thenQ_go ?_
                      refine w2_region ?_
                      refine wpO_do (v := .int .i64 (((i : Int)) + (1))) rfl (want_free rfl) rfl (ltn n141 (by decide)) (ev_binI rfl (by decide) (opd_tmp (u141.ne (u140.ne (u139.ne (u137.ne (u136.ne (u135.ne (u134.ne (u133.ne (u119.ne (u118.ne (u117.ne (u115.ne (u114.ne (u113.ne (u112.ne (u72.ne (u71.ne (u70.ne (u69.ne (u68.ne (u66.ne (u65.ne (u64.ne (u63.ne (u61.ne (a60_25))))))))))))))))))))))))))) rfl (add64 (by omega) (by omega))) fun f144 u144 => ?_
                      have n144 := u144.n.trans n141; have s144 := u144.ds.trans s141
                      refine wpO_do (v := .int .i64 (((i : Int)) + (1))) rfl (want_free rfl) rfl (ltn n144 (by decide)) (ev_move rfl (opd_tmp (u144.get))) fun f145 u145 => ?_
                      have n145 := u145.n.trans n144; have s145 := u145.ds.trans s144
                      refine wpO_nil ?_
                      refine thenQ_go ?_
                      refine ⟨_, ?_, rfl, n145, s145, i + 1, rfl, by omega, step_all hall (okc_iff.2 (by omega)), (u145.ne (u144.ne (u141.ne (u140.ne (u139.ne (u137.ne (u136.ne (u135.ne (u134.ne (u133.ne (u119.ne (u118.ne (u117.ne (u115.ne (u114.ne (u113.ne (u112.ne (u72.ne (u71.ne (u70.ne (u69.ne (u68.ne (u66.ne (u65.ne (u64.ne (u63.ne (u61.ne (a60_0)))))))))))))))))))))))))))).trans (by first | rfl | (congr 2; omega) | simp), (u145.ne (u144.ne (u141.ne (u140.ne (u139.ne (u137.ne (u136.ne (u135.ne (u134.ne (u133.ne (u119.ne (u118.ne (u117.ne (u115.ne (u114.ne (u113.ne (u112.ne (u72.ne (u71.ne (u70.ne (u69.ne (u68.ne (u66.ne (u65.ne (u64.ne (u63.ne (u61.ne (a60_24)))))))))))))))))))))))))))).trans (by first | rfl | (congr 2; omega) | simp), (u145.get).trans (by first | rfl | (congr 2; omega) | simp)⟩
                      omega
                  ·
                    have h138p := of_decide_eq_false h138
                    refine wpO_pass rfl (want_no rfl rfl ((u137.get).trans (congrArg (fun b => some (V.bool b)) h138))) rfl (ltn n137 (by decide)) fun f146 u146 => ?_
                    have n146 := u146.n.trans n137; have s146 := u146.ds.trans s137
                    refine wpO_pass rfl (want_no rfl rfl ((u146.ne u137.get).trans (congrArg (fun b => some (V.bool b)) h138))) rfl (ltn n146 (by decide)) fun f147 u147 => ?_
                    have n147 := u147.n.trans n146; have s147 := u147.ds.trans s146
                    refine wpO_do (v := .bool (false)) rfl (want_free rfl) rfl (ltn n147 (by decide)) (ev_pick_f rfl ((opd_tmp (u147.ne (u146.ne u137.get))).trans (congrArg (fun b => some (V.bool b)) h138)) rfl) fun f148 u148 => ?_
                    have n148 := u148.n.trans n147; have s148 := u148.ds.trans s147
                    refine wpO_nil ?_
                    refine thenQ_go ?_
                    refine w2_cond_f (opd_tmp (u148.get)) ?_
                    refine w2_skip ?_
                    refine blockQ_go ?_
                    refine thenQ_go ?_
                    refine w2_region ?_
                    refine wpO_do (v := .int .i64 (((i : Int)) + (1))) rfl (want_free rfl) rfl (ltn n148 (by decide)) (ev_binI rfl (by decide) (opd_tmp (u148.ne (u147.ne (u146.ne (u137.ne (u136.ne (u135.ne (u134.ne (u133.ne (u119.ne (u118.ne (u117.ne (u115.ne (u114.ne (u113.ne (u112.ne (u72.ne (u71.ne (u70.ne (u69.ne (u68.ne (u66.ne (u65.ne (u64.ne (u63.ne (u61.ne (a60_25))))))))))))))))))))))))))) rfl (add64 (by omega) (by omega))) fun f149 u149 => ?_
                    have n149 := u149.n.trans n148; have s149 := u149.ds.trans s148
                    refine wpO_do (v := .int .i64 (((i : Int)) + (1))) rfl (want_free rfl) rfl (ltn n149 (by decide)) (ev_move rfl (opd_tmp (u149.get))) fun f150 u150 => ?_
                    have n150 := u150.n.trans n149; have s150 := u150.ds.trans s149
                    refine wpO_nil ?_
                    refine thenQ_go ?_
                    refine ⟨_, ?_, rfl, n150, s150, i + 1, rfl, by omega, step_all hall (okc_iff.2 (by omega)), (u150.ne (u149.ne (u148.ne (u147.ne (u146.ne (u137.ne (u136.ne (u135.ne (u134.ne (u133.ne (u119.ne (u118.ne (u117.ne (u115.ne (u114.ne (u113.ne (u112.ne (u72.ne (u71.ne (u70.ne (u69.ne (u68.ne (u66.ne (u65.ne (u64.ne (u63.ne (u61.ne (a60_0)))))))))))))))))))))))))))).trans (by first | rfl | (congr 2; omega) | simp), (u150.ne (u149.ne (u148.ne (u147.ne (u146.ne (u137.ne (u136.ne (u135.ne (u134.ne (u133.ne (u119.ne (u118.ne (u117.ne (u115.ne (u114.ne (u113.ne (u112.ne (u72.ne (u71.ne (u70.ne (u69.ne (u68.ne (u66.ne (u65.ne (u64.ne (u63.ne (u61.ne (a60_24)))))))))))))))))))))))))))).trans (by first | rfl | (congr 2; omega) | simp), (u150.get).trans (by first | rfl | (congr 2; omega) | simp)⟩
                    omega
              ·
                have h116p := of_decide_eq_false h116
                refine wpO_pass rfl (want_no rfl rfl ((u115.get).trans (congrArg (fun b => some (V.bool b)) h116))) rfl (ltn n115 (by decide)) fun f151 u151 => ?_
                have n151 := u151.n.trans n115; have s151 := u151.ds.trans s115
                refine wpO_pass rfl (want_no rfl rfl ((u151.ne u115.get).trans (congrArg (fun b => some (V.bool b)) h116))) rfl (ltn n151 (by decide)) fun f152 u152 => ?_
                have n152 := u152.n.trans n151; have s152 := u152.ds.trans s151
                refine wpO_pass rfl (want_no rfl rfl ((u152.ne (u151.ne u115.get)).trans (congrArg (fun b => some (V.bool b)) h116))) rfl (ltn n152 (by decide)) fun f153 u153 => ?_
                have n153 := u153.n.trans n152; have s153 := u153.ds.trans s152
                refine wpO_pass rfl (want_undef rfl rfl (u153.get)) rfl (ltn n153 (by decide)) fun f154 u154 => ?_
                have n154 := u154.n.trans n153; have s154 := u154.ds.trans s153
                refine wpO_pass rfl (want_undef rfl rfl (u154.ne u153.get)) rfl (ltn n154 (by decide)) fun f155 u155 => ?_
                have n155 := u155.n.trans n154; have s155 := u155.ds.trans s154
                refine wpO_pass rfl (want_no rfl rfl ((u155.ne (u154.ne (u153.ne (u152.ne (u151.ne u115.get))))).trans (congrArg (fun b => some (V.bool b)) h116))) rfl (ltn n155 (by decide)) fun f156 u156 => ?_
                have n156 := u156.n.trans n155; have s156 := u156.ds.trans s155
                refine wpO_do (v := .bool (false)) rfl (want_free rfl) rfl (ltn n156 (by decide)) (ev_pick_f rfl ((opd_tmp (u156.ne (u155.ne (u154.ne (u153.ne (u152.ne (u151.ne u115.get))))))).trans (congrArg (fun b => some (V.bool b)) h116)) rfl) fun f157 u157 => ?_
                have n157 := u157.n.trans n156; have s157 := u157.ds.trans s156
                refine wpO_do (v := .bool (false)) rfl (want_free rfl) rfl (ltn n157 (by decide)) (ev_move rfl (opd_tmp (u157.get))) fun f158 u158 => ?_
                have n158 := u158.n.trans n157; have s158 := u158.ds.trans s157
                refine wpO_pass rfl (want_no rfl rfl (u158.get)) rfl (ltn n158 (by decide)) fun f159 u159 => ?_
                have n159 := u159.n.trans n158; have s159 := u159.ds.trans s158
                refine wpO_pass rfl (want_no rfl rfl (u159.ne u158.get)) rfl (ltn n159 (by decide)) fun f160 u160 => ?_
                have n160 := u160.n.trans n159; have s160 := u160.ds.trans s159
                refine wpO_do (v := .bool (false)) rfl (want_free rfl) rfl (ltn n160 (by decide)) (ev_pick_f rfl (opd_tmp (u160.ne (u159.ne u158.get))) rfl) fun f161 u161 => ?_
                have n161 := u161.n.trans n160; have s161 := u161.ds.trans s160
                refine wpO_nil ?_
                refine thenQ_go ?_
                refine w2_cond_f (opd_tmp (u161.get)) ?_
                refine w2_skip ?_
                refine blockQ_go ?_
                refine thenQ_go ?_
                refine w2_region ?_
                refine wpO_do (v := .int .i64 (((i : Int)) + (1))) rfl (want_free rfl) rfl (ltn n161 (by decide)) (ev_binI rfl (by decide) (opd_tmp (u161.ne (u160.ne (u159.ne (u158.ne (u157.ne (u156.ne (u155.ne (u154.ne (u153.ne (u152.ne (u151.ne (u115.ne (u114.ne (u113.ne (u112.ne (u72.ne (u71.ne (u70.ne (u69.ne (u68.ne (u66.ne (u65.ne (u64.ne (u63.ne (u61.ne (a60_25))))))))))))))))))))))))))) rfl (add64 (by omega) (by omega))) fun f162 u162 => ?_
                have n162 := u162.n.trans n161; have s162 := u162.ds.trans s161
                refine wpO_do (v := .int .i64 (((i : Int)) + (1))) rfl (want_free rfl) rfl (ltn n162 (by decide)) (ev_move rfl (opd_tmp (u162.get))) fun f163 u163 => ?_
                have n163 := u163.n.trans n162; have s163 := u163.ds.trans s162
                refine wpO_nil ?_
                refine thenQ_go ?_
                refine ⟨_, ?_, rfl, n163, s163, i + 1, rfl, by omega, step_all hall (okc_iff.2 (by omega)), (u163.ne (u162.ne (u161.ne (u160.ne (u159.ne (u158.ne (u157.ne (u156.ne (u155.ne (u154.ne (u153.ne (u152.ne (u151.ne (u115.ne (u114.ne (u113.ne (u112.ne (u72.ne (u71.ne (u70.ne (u69.ne (u68.ne (u66.ne (u65.ne (u64.ne (u63.ne (u61.ne (a60_0)))))))))))))))))))))))))))).trans (by first | rfl | (congr 2; omega) | simp), (u163.ne (u162.ne (u161.ne (u160.ne (u159.ne (u158.ne (u157.ne (u156.ne (u155.ne (u154.ne (u153.ne (u152.ne (u151.ne (u115.ne (u114.ne (u113.ne (u112.ne (u72.ne (u71.ne (u70.ne (u69.ne (u68.ne (u66.ne (u65.ne (u64.ne (u63.ne (u61.ne (a60_24)))))))))))))))))))))))))))).trans (by first | rfl | (congr 2; omega) | simp), (u163.get).trans (by first | rfl | (congr 2; omega) | simp)⟩
                omega
          ·
            have h62p := of_decide_eq_false h62
            refine w2_cond_f ((opd_tmp (u61.get)).trans (congrArg (fun b => some (V.bool b)) h62)) ?_
            refine w2_exit ?_
            refine thenQ_ex ?_
            refine thenQ_ex ?_
            refine blockQ_hit ?_
            refine thenQ_go ?_
            refine w2_seq ?_
            refine w2_region ?_
            refine wpO_do (v := .bool (true)) rfl (want_free rfl) rfl (ltn n61 (by decide)) (ev_assign rfl rfl) fun f164 u164 => ?_
            have n164 := u164.n.trans n61; have s164 := u164.ds.trans s61
            refine wpO_nil ?_
            refine thenQ_go ?_
            refine w2_ret ?_
            refine ⟨.inr rfl, _, ends0 s164, _, (res_tmp (u164.get) res_nil), ?_⟩
            exact ⟨congrArg V.bool (nameL_iff.2 ⟨by omega, by omega, by omega, fun j hj => hall j (by omega)⟩).symm, rfl⟩
theorem nameR_runs (hsp : Quiet sp) (s : List UInt8) (H : Heap) (hl : s.length ≤ 1000000) : CallW (envOf Tryd.prog sp) (.func 19) [.str (s)] H (fun v H' => v = .bool (nameL s) ∧ H' = H) := by
  refine callW_body (hsp 19 (by decide)) funcs19 rfl ?_
  have a0 : ({ tmps := enterTmps [.str (s)], n := max (List.length (α := V) [.str (s)]) 40, defers := [] } : Fr).tmp 0 = some (.str (s)) := enter_tmp rfl
  have n0 : ({ tmps := enterTmps [.str (s)], n := max (List.length (α := V) [.str (s)]) 40, defers := [] } : Fr).n = 40 := rfl
  have s0 : ({ tmps := enterTmps [.str (s)], n := max (List.length (α := V) [.str (s)]) 40, defers := [] } : Fr).defers = [] := rfl
  generalize ({ tmps := enterTmps [.str (s)], n := max (List.length (α := V) [.str (s)]) 40, defers := [] } : Fr) = f0 at a0 n0 s0 ⊢
  refine w2_seq ?_
  refine w2_region ?_
  refine wpO_do (v := .bool (false)) rfl (want_free rfl) rfl (ltn n0 (by decide)) (ev_assign rfl rfl) fun f1 u1 => ?_
  have n1 := u1.n.trans n0; have s1 := u1.ds.trans s0
  refine wpO_nil ?_
  refine thenQ_go ?_
  refine w2_seq ?_
  refine w2_seq ?_
  refine w2_region ?_
  refine wpO_do (v := .int .i64 (0)) rfl (want_free rfl) rfl (ltn n1 (by decide)) (ev_assign rfl rfl) fun f2 u2 => ?_
  have n2 := u2.n.trans n1; have s2 := u2.ds.trans s1
  refine wpO_nil ?_
  refine thenQ_go ?_
  refine w2_block ?_
  refine w2_loop (fun m fr H1 => H1 = H ∧ fr.n = 40 ∧ fr.defers = [] ∧ ∃ (i : Nat), m = s.length - i ∧ i ≤ s.length ∧ (∀ j : Nat, j < i → okc (byteI s j) = true) ∧ fr.tmp 0 = some (.str (s)) ∧ fr.tmp 3 = some (.int .i64 ((i : Int)))) (m := s.length) ⟨rfl, n2, s2, 0, rfl, Nat.zero_le _, fun j hj => absurd hj (Nat.not_lt_zero j), (u2.ne (u1.ne (a0))).trans (by first | rfl | (congr 2; omega) | simp), (u2.get).trans (by first | rfl | (congr 2; omega) | simp)⟩ ?_
  rintro m3 g3 _ ⟨rfl, n3, s3, i, rfl, hi, hall, a3_0, a3_3⟩
  refine w2_seq ?_
  refine w2_seq ?_
  refine w2_region ?_
  refine wpO_do (v := .int .i64 ((i : Int))) rfl (want_free rfl) rfl (ltn n3 (by decide)) (ev_move rfl (opd_tmp (a3_3))) fun f4 u4 => ?_
  have n4 := u4.n.trans n3; have s4 := u4.ds.trans s3
  refine wpO_do (v := .str (s)) rfl (want_free rfl) rfl (ltn n4 (by decide)) (ev_move rfl (opd_tmp (u4.ne (a3_0)))) fun f5 u5 => ?_
  have n5 := u5.n.trans n4; have s5 := u5.ds.trans s4
  refine wpO_do (v := .int .i64 (((s).length : Int))) rfl (want_free rfl) rfl (ltn n5 (by decide)) (ev_lenS rfl rfl rfl rfl ty9 rfl (opd_tmp (u5.get))) fun f6 u6 => ?_
  have n6 := u6.n.trans n5; have s6 := u6.ds.trans s5
  refine wpO_do (v := .bool (decide (((i : Int) : Int) < (((s).length : Int) : Int)))) rfl (want_free rfl) rfl (ltn n6 (by decide)) (ev_binI rfl (by decide) (opd_tmp (u6.ne (u5.ne u4.get))) (opd_tmp (u6.get)) rfl) fun f7 u7 => ?_
  have n7 := u7.n.trans n6; have s7 := u7.ds.trans s6
  refine wpO_nil ?_
  refine thenQ_go ?_
  rcases Bool.eq_false_or_eq_true (decide (((i : Int) : Int) < (((s).length : Int) : Int))) with h8 | h8
  ·
    have h8p := of_decide_eq_true h8
    refine w2_cond_t ((opd_tmp (u7.get)).trans (congrArg (fun b => some (V.bool b)) h8)) ?_
    refine w2_skip ?_
    refine thenQ_go ?_
    refine w2_seq ?_
    refine w2_block ?_
    refine w2_seq ?_
    refine w2_region ?_
    refine wpO_do (v := .str (s)) rfl (want_free rfl) rfl (ltn n7 (by decide)) (ev_move rfl (opd_tmp (u7.ne (u6.ne (u5.ne (u4.ne (a3_0))))))) fun f9 u9 => ?_
    have n9 := u9.n.trans n7; have s9 := u9.ds.trans s7
    refine wpO_do (v := .int .i64 ((i : Int))) rfl (want_free rfl) rfl (ltn n9 (by decide)) (ev_move rfl (opd_tmp (u9.ne (u7.ne (u6.ne (u5.ne (u4.ne (a3_3)))))))) fun f10 u10 => ?_
    have n10 := u10.n.trans n9; have s10 := u10.ds.trans s9
    have q11 := byteI_bd (s) ((i : Int))
    refine wpO_do (v := .int .u8 (byteI (s) ((i : Int)))) rfl (want_free rfl) rfl (ltn n10 (by decide)) (ev_indexB rfl ty9 rfl (opd_tmp (u10.ne u9.get)) (opd_tmp (u10.get)) (by omega) (by omega)) fun f12 u12 => ?_
    have n12 := u12.n.trans n10; have s12 := u12.ds.trans s10
    refine wpO_ask rfl (want_free rfl) rfl (ltn n12 (by decide)) (ev_call rfl rfl rfl (opds_cons (opd_tmp (u12.get)) opds_nil) rfl) (letter_runs hsp (byteI (s) ((i : Int))) _) fun v13 H13 r13 f14 u14 => ?_
    obtain ⟨rfl, rfl⟩ := r13
    have n14 := u14.n.trans n12; have s14 := u14.ds.trans s12
    refine wpO_do (v := .bool (!(letterB (byteI (s) ((i : Int)))))) rfl (want_free rfl) rfl (ltn n14 (by decide)) (ev_not rfl (opd_tmp (u14.get))) fun f15 u15 => ?_
    have n15 := u15.n.trans n14; have s15 := u15.ds.trans s14
    refine wpO_do (v := .bool (!(letterB (byteI (s) ((i : Int)))))) rfl (want_free rfl) rfl (ltn n15 (by decide)) (ev_move rfl (opd_tmp (u15.get))) fun f16 u16 => ?_
    have n16 := u16.n.trans n15; have s16 := u16.ds.trans s15
    rcases Bool.eq_false_or_eq_true (!(letterB (byteI (s) ((i : Int))))) with h17 | h17
    ·
      have h17p := letterB_not.1 (not_t h17)
      refine wpO_do (v := .str (s)) rfl (want_yes rfl rfl ((u16.get).trans (congrArg (fun b => some (V.bool b)) h17))) rfl (ltn n16 (by decide)) (ev_move rfl (opd_tmp (u16.ne (u15.ne (u14.ne (u12.ne (u10.ne (u9.ne (u7.ne (u6.ne (u5.ne (u4.ne (a3_0))))))))))))) fun f18 u18 => ?_
      have n18 := u18.n.trans n16; have s18 := u18.ds.trans s16
      refine wpO_do (v := .int .i64 ((i : Int))) rfl (want_yes rfl rfl ((u18.ne u16.get).trans (congrArg (fun b => some (V.bool b)) h17))) rfl (ltn n18 (by decide)) (ev_move rfl (opd_tmp (u18.ne (u16.ne (u15.ne (u14.ne (u12.ne (u10.ne (u9.ne (u7.ne (u6.ne (u5.ne (u4.ne (a3_3)))))))))))))) fun f19 u19 => ?_
      have n19 := u19.n.trans n18; have s19 := u19.ds.trans s18
      have q20 := byteI_bd (s) ((i : Int))
      refine wpO_do (v := .int .u8 (byteI (s) ((i : Int)))) rfl (want_yes rfl rfl ((u19.ne (u18.ne u16.get)).trans (congrArg (fun b => some (V.bool b)) h17))) rfl (ltn n19 (by decide)) (ev_indexB rfl ty9 rfl (opd_tmp (u19.ne u18.get)) (opd_tmp (u19.get)) (by omega) (by omega)) fun f21 u21 => ?_
      have n21 := u21.n.trans n19; have s21 := u21.ds.trans s19
      refine wpO_ask rfl (want_yes rfl rfl ((u21.ne (u19.ne (u18.ne u16.get))).trans (congrArg (fun b => some (V.bool b)) h17))) rfl (ltn n21 (by decide)) (ev_call rfl rfl rfl (opds_cons (opd_tmp (u21.get)) opds_nil) rfl) (digit_runs hsp (byteI (s) ((i : Int))) _) fun v22 H22 r22 f23 u23 => ?_
      obtain ⟨rfl, rfl⟩ := r22
      have n23 := u23.n.trans n21; have s23 := u23.ds.trans s21
      refine wpO_do (v := .bool (!(digitB (byteI (s) ((i : Int)))))) rfl (want_yes rfl rfl ((u23.ne (u21.ne (u19.ne (u18.ne u16.get)))).trans (congrArg (fun b => some (V.bool b)) h17))) rfl (ltn n23 (by decide)) (ev_not rfl (opd_tmp (u23.get))) fun f24 u24 => ?_
      have n24 := u24.n.trans n23; have s24 := u24.ds.trans s23
      refine wpO_do (v := .bool (!(digitB (byteI (s) ((i : Int)))))) rfl (want_free rfl) rfl (ltn n24 (by decide)) (ev_pick_t rfl ((opd_tmp (u24.ne (u23.ne (u21.ne (u19.ne (u18.ne u16.get)))))).trans (congrArg (fun b => some (V.bool b)) h17)) (opd_tmp (u24.get))) fun f25 u25 => ?_
      have n25 := u25.n.trans n24; have s25 := u25.ds.trans s24
      refine wpO_do (v := .bool (!(digitB (byteI (s) ((i : Int)))))) rfl (want_free rfl) rfl (ltn n25 (by decide)) (ev_move rfl (opd_tmp (u25.get))) fun f26 u26 => ?_
      have n26 := u26.n.trans n25; have s26 := u26.ds.trans s25
      rcases Bool.eq_false_or_eq_true (!(digitB (byteI (s) ((i : Int))))) with h27 | h27
      ·
        have h27p := digitB_not.1 (not_t h27)
        refine wpO_do (v := .str (s)) rfl (want_yes rfl rfl ((u26.get).trans (congrArg (fun b => some (V.bool b)) h27))) rfl (ltn n26 (by decide)) (ev_move rfl (opd_tmp (u26.ne (u25.ne (u24.ne (u23.ne (u21.ne (u19.ne (u18.ne (u16.ne (u15.ne (u14.ne (u12.ne (u10.ne (u9.ne (u7.ne (u6.ne (u5.ne (u4.ne (a3_0)))))))))))))))))))) fun f28 u28 => ?_
        have n28 := u28.n.trans n26; have s28 := u28.ds.trans s26
        refine wpO_do (v := .int .i64 ((i : Int))) rfl (want_yes rfl rfl ((u28.ne u26.get).trans (congrArg (fun b => some (V.bool b)) h27))) rfl (ltn n28 (by decide)) (ev_move rfl (opd_tmp (u28.ne (u26.ne (u25.ne (u24.ne (u23.ne (u21.ne (u19.ne (u18.ne (u16.ne (u15.ne (u14.ne (u12.ne (u10.ne (u9.ne (u7.ne (u6.ne (u5.ne (u4.ne (a3_3))))))))))))))))))))) fun f29 u29 => ?_
        have n29 := u29.n.trans n28; have s29 := u29.ds.trans s28
        have q30 := byteI_bd (s) ((i : Int))
        refine wpO_do (v := .int .u8 (byteI (s) ((i : Int)))) rfl (want_yes rfl rfl ((u29.ne (u28.ne u26.get)).trans (congrArg (fun b => some (V.bool b)) h27))) rfl (ltn n29 (by decide)) (ev_indexB rfl ty9 rfl (opd_tmp (u29.ne u28.get)) (opd_tmp (u29.get)) (by omega) (by omega)) fun f31 u31 => ?_
        have n31 := u31.n.trans n29; have s31 := u31.ds.trans s29
        refine wpO_do (v := .bool ((byteI (s) ((i : Int)) : Int) != (45 : Int))) rfl (want_yes rfl rfl ((u31.ne (u29.ne (u28.ne u26.get))).trans (congrArg (fun b => some (V.bool b)) h27))) rfl (ltn n31 (by decide)) (ev_binI rfl (by decide) (opd_tmp (u31.get)) rfl rfl) fun f32 u32 => ?_
        have n32 := u32.n.trans n31; have s32 := u32.ds.trans s31
        refine wpO_do (v := .bool ((byteI (s) ((i : Int)) : Int) != (45 : Int))) rfl (want_free rfl) rfl (ltn n32 (by decide)) (ev_pick_t rfl ((opd_tmp (u32.ne (u31.ne (u29.ne (u28.ne u26.get))))).trans (congrArg (fun b => some (V.bool b)) h27)) (opd_tmp (u32.get))) fun f33 u33 => ?_
        have n33 := u33.n.trans n32; have s33 := u33.ds.trans s32
        refine wpO_nil ?_
        refine thenQ_go ?_
        rcases Bool.eq_false_or_eq_true ((byteI (s) ((i : Int)) : Int) != (45 : Int)) with h34 | h34
        ·
          have h34p := bne_t h34
          refine w2_cond_t ((opd_tmp (u33.get)).trans (congrArg (fun b => some (V.bool b)) h34)) ?_
          refine w2_seq ?_
          refine w2_region ?_
          refine wpO_do (v := .bool (false)) rfl (want_free rfl) rfl (ltn n33 (by decide)) (ev_assign rfl rfl) fun f35 u35 => ?_
          have n35 := u35.n.trans n33; have s35 := u35.ds.trans s33
          refine wpO_nil ?_
          refine thenQ_go ?_
          refine w2_ret ?_
          refine blockQ_rt ?_
          refine thenQ_rt ?_
          refine thenQ_rt ?_
          refine blockQ_rt ?_
          refine thenQ_rt ?_
          refine ⟨.inr rfl, _, ends0 s35, _, (res_tmp (u35.get) res_nil), ?_⟩
          exact ⟨congrArg V.bool (name_badi i (by omega) (by omega)).symm, rfl⟩
        ·
          have h34p := bne_f h34
          refine w2_cond_f ((opd_tmp (u33.get)).trans (congrArg (fun b => some (V.bool b)) h34)) ?_
          refine w2_skip ?_
          refine blockQ_go ?_
          refine thenQ_go ?_
          refine w2_region ?_
          refine wpO_do (v := .int .i64 ((i : Int))) rfl (want_free rfl) rfl (ltn n33 (by decide)) (ev_move rfl (opd_tmp (u33.ne (u32.ne (u31.ne (u29.ne (u28.ne (u26.ne (u25.ne (u24.ne (u23.ne (u21.ne (u19.ne (u18.ne (u16.ne (u15.ne (u14.ne (u12.ne (u10.ne (u9.ne (u7.ne (u6.ne (u5.ne (u4.ne (a3_3))))))))))))))))))))))))) fun f36 u36 => ?_
          have n36 := u36.n.trans n33; have s36 := u36.ds.trans s33
          refine wpO_do (v := .int .i64 (((i : Int)) + (1))) rfl (want_free rfl) rfl (ltn n36 (by decide)) (ev_binI rfl (by decide) (opd_tmp (u36.get)) rfl (add64 (by omega) (by omega))) fun f37 u37 => ?_
          have n37 := u37.n.trans n36; have s37 := u37.ds.trans s36
          refine wpO_do (v := .int .i64 (((i : Int)) + (1))) rfl (want_free rfl) rfl (ltn n37 (by decide)) (ev_assign rfl (opd_tmp (u37.get))) fun f38 u38 => ?_
          have n38 := u38.n.trans n37; have s38 := u38.ds.trans s37
          refine wpO_nil ?_
          refine thenQ_go ?_
          refine ⟨_, ?_, rfl, n38, s38, i + 1, rfl, by omega, step_all hall (okc_iff.2 (by omega)), (u38.ne (u37.ne (u36.ne (u33.ne (u32.ne (u31.ne (u29.ne (u28.ne (u26.ne (u25.ne (u24.ne (u23.ne (u21.ne (u19.ne (u18.ne (u16.ne (u15.ne (u14.ne (u12.ne (u10.ne (u9.ne (u7.ne (u6.ne (u5.ne (u4.ne (a3_0)))))))))))))))))))))))))).trans (by first | rfl | (congr 2; omega) | simp), (u38.get).trans (by first | rfl | (congr 2; omega) | simp)⟩
          omega
      ·
        have h27p := digitB_iff.1 (not_f h27)
        refine wpO_pass rfl (want_no rfl rfl ((u26.get).trans (congrArg (fun b => some (V.bool b)) h27))) rfl (ltn n26 (by decide)) fun f39 u39 => ?_
        have n39 := u39.n.trans n26; have s39 := u39.ds.trans s26
        refine wpO_pass rfl (want_no rfl rfl ((u39.ne u26.get).trans (congrArg (fun b => some (V.bool b)) h27))) rfl (ltn n39 (by decide)) fun f40 u40 => ?_
        have n40 := u40.n.trans n39; have s40 := u40.ds.trans s39
        refine wpO_pass rfl (want_no rfl rfl ((u40.ne (u39.ne u26.get)).trans (congrArg (fun b => some (V.bool b)) h27))) rfl (ltn n40 (by decide)) fun f41 u41 => ?_
        have n41 := u41.n.trans n40; have s41 := u41.ds.trans s40
        refine wpO_pass rfl (want_no rfl rfl ((u41.ne (u40.ne (u39.ne u26.get))).trans (congrArg (fun b => some (V.bool b)) h27))) rfl (ltn n41 (by decide)) fun f42 u42 => ?_
        have n42 := u42.n.trans n41; have s42 := u42.ds.trans s41
        refine wpO_do (v := .bool (false)) rfl (want_free rfl) rfl (ltn n42 (by decide)) (ev_pick_f rfl ((opd_tmp (u42.ne (u41.ne (u40.ne (u39.ne u26.get))))).trans (congrArg (fun b => some (V.bool b)) h27)) rfl) fun f43 u43 => ?_
        have n43 := u43.n.trans n42; have s43 := u43.ds.trans s42
        refine wpO_nil ?_
        refine thenQ_go ?_
        refine w2_cond_f (opd_tmp (u43.get)) ?_
        refine w2_skip ?_
        refine blockQ_go ?_
        refine thenQ_go ?_
        refine w2_region ?_
        refine wpO_do (v := .int .i64 ((i : Int))) rfl (want_free rfl) rfl (ltn n43 (by decide)) (ev_move rfl (opd_tmp (u43.ne (u42.ne (u41.ne (u40.ne (u39.ne (u26.ne (u25.ne (u24.ne (u23.ne (u21.ne (u19.ne (u18.ne (u16.ne (u15.ne (u14.ne (u12.ne (u10.ne (u9.ne (u7.ne (u6.ne (u5.ne (u4.ne (a3_3))))))))))))))))))))))))) fun f44 u44 => ?_
        have n44 := u44.n.trans n43; have s44 := u44.ds.trans s43
        refine wpO_do (v := .int .i64 (((i : Int)) + (1))) rfl (want_free rfl) rfl (ltn n44 (by decide)) (ev_binI rfl (by decide) (opd_tmp (u44.get)) rfl (add64 (by omega) (by omega))) fun f45 u45 => ?_
        have n45 := u45.n.trans n44; have s45 := u45.ds.trans s44
        refine wpO_do (v := .int .i64 (((i : Int)) + (1))) rfl (want_free rfl) rfl (ltn n45 (by decide)) (ev_assign rfl (opd_tmp (u45.get))) fun f46 u46 => ?_
        have n46 := u46.n.trans n45; have s46 := u46.ds.trans s45
        refine wpO_nil ?_
        refine thenQ_go ?_
        refine ⟨_, ?_, rfl, n46, s46, i + 1, rfl, by omega, step_all hall (okc_iff.2 (by omega)), (u46.ne (u45.ne (u44.ne (u43.ne (u42.ne (u41.ne (u40.ne (u39.ne (u26.ne (u25.ne (u24.ne (u23.ne (u21.ne (u19.ne (u18.ne (u16.ne (u15.ne (u14.ne (u12.ne (u10.ne (u9.ne (u7.ne (u6.ne (u5.ne (u4.ne (a3_0)))))))))))))))))))))))))).trans (by first | rfl | (congr 2; omega) | simp), (u46.get).trans (by first | rfl | (congr 2; omega) | simp)⟩
        omega
    ·
      have h17p := letterB_iff.1 (not_f h17)
      refine wpO_pass rfl (want_no rfl rfl ((u16.get).trans (congrArg (fun b => some (V.bool b)) h17))) rfl (ltn n16 (by decide)) fun f47 u47 => ?_
      have n47 := u47.n.trans n16; have s47 := u47.ds.trans s16
      refine wpO_pass rfl (want_no rfl rfl ((u47.ne u16.get).trans (congrArg (fun b => some (V.bool b)) h17))) rfl (ltn n47 (by decide)) fun f48 u48 => ?_
      have n48 := u48.n.trans n47; have s48 := u48.ds.trans s47
      refine wpO_pass rfl (want_no rfl rfl ((u48.ne (u47.ne u16.get)).trans (congrArg (fun b => some (V.bool b)) h17))) rfl (ltn n48 (by decide)) fun f49 u49 => ?_
      have n49 := u49.n.trans n48; have s49 := u49.ds.trans s48
      refine wpO_pass rfl (want_no rfl rfl ((u49.ne (u48.ne (u47.ne u16.get))).trans (congrArg (fun b => some (V.bool b)) h17))) rfl (ltn n49 (by decide)) fun f50 u50 => ?_
      have n50 := u50.n.trans n49; have s50 := u50.ds.trans s49
      refine wpO_pass rfl (want_no rfl rfl ((u50.ne (u49.ne (u48.ne (u47.ne u16.get)))).trans (congrArg (fun b => some (V.bool b)) h17))) rfl (ltn n50 (by decide)) fun f51 u51 => ?_
      have n51 := u51.n.trans n50; have s51 := u51.ds.trans s50
      refine wpO_do (v := .bool (false)) rfl (want_free rfl) rfl (ltn n51 (by decide)) (ev_pick_f rfl ((opd_tmp (u51.ne (u50.ne (u49.ne (u48.ne (u47.ne u16.get)))))).trans (congrArg (fun b => some (V.bool b)) h17)) rfl) fun f52 u52 => ?_
      have n52 := u52.n.trans n51; have s52 := u52.ds.trans s51
      refine wpO_do (v := .bool (false)) rfl (want_free rfl) rfl (ltn n52 (by decide)) (ev_move rfl (opd_tmp (u52.get))) fun f53 u53 => ?_
      have n53 := u53.n.trans n52; have s53 := u53.ds.trans s52
      refine wpO_pass rfl (want_no rfl rfl (u53.get)) rfl (ltn n53 (by decide)) fun f54 u54 => ?_
      have n54 := u54.n.trans n53; have s54 := u54.ds.trans s53
      refine wpO_pass rfl (want_no rfl rfl (u54.ne u53.get)) rfl (ltn n54 (by decide)) fun f55 u55 => ?_
      have n55 := u55.n.trans n54; have s55 := u55.ds.trans s54
      refine wpO_pass rfl (want_no rfl rfl (u55.ne (u54.ne u53.get))) rfl (ltn n55 (by decide)) fun f56 u56 => ?_
      have n56 := u56.n.trans n55; have s56 := u56.ds.trans s55
      refine wpO_pass rfl (want_no rfl rfl (u56.ne (u55.ne (u54.ne u53.get)))) rfl (ltn n56 (by decide)) fun f57 u57 => ?_
      have n57 := u57.n.trans n56; have s57 := u57.ds.trans s56
      refine wpO_do (v := .bool (false)) rfl (want_free rfl) rfl (ltn n57 (by decide)) (ev_pick_f rfl (opd_tmp (u57.ne (u56.ne (u55.ne (u54.ne u53.get))))) rfl) fun f58 u58 => ?_
      have n58 := u58.n.trans n57; have s58 := u58.ds.trans s57
      refine wpO_nil ?_
      refine thenQ_go ?_
      refine w2_cond_f (opd_tmp (u58.get)) ?_
      refine w2_skip ?_
      refine blockQ_go ?_
      refine thenQ_go ?_
      refine w2_region ?_
      refine wpO_do (v := .int .i64 ((i : Int))) rfl (want_free rfl) rfl (ltn n58 (by decide)) (ev_move rfl (opd_tmp (u58.ne (u57.ne (u56.ne (u55.ne (u54.ne (u53.ne (u52.ne (u51.ne (u50.ne (u49.ne (u48.ne (u47.ne (u16.ne (u15.ne (u14.ne (u12.ne (u10.ne (u9.ne (u7.ne (u6.ne (u5.ne (u4.ne (a3_3))))))))))))))))))))))))) fun f59 u59 => ?_
      have n59 := u59.n.trans n58; have s59 := u59.ds.trans s58
      refine wpO_do (v := .int .i64 (((i : Int)) + (1))) rfl (want_free rfl) rfl (ltn n59 (by decide)) (ev_binI rfl (by decide) (opd_tmp (u59.get)) rfl (add64 (by omega) (by omega))) fun f60 u60 => ?_
      have n60 := u60.n.trans n59; have s60 := u60.ds.trans s59
      refine wpO_do (v := .int .i64 (((i : Int)) + (1))) rfl (want_free rfl) rfl (ltn n60 (by decide)) (ev_assign rfl (opd_tmp (u60.get))) fun f61 u61 => ?_
      have n61 := u61.n.trans n60; have s61 := u61.ds.trans s60
      refine wpO_nil ?_
      refine thenQ_go ?_
      refine ⟨_, ?_, rfl, n61, s61, i + 1, rfl, by omega, step_all hall (okc_iff.2 (by omega)), (u61.ne (u60.ne (u59.ne (u58.ne (u57.ne (u56.ne (u55.ne (u54.ne (u53.ne (u52.ne (u51.ne (u50.ne (u49.ne (u48.ne (u47.ne (u16.ne (u15.ne (u14.ne (u12.ne (u10.ne (u9.ne (u7.ne (u6.ne (u5.ne (u4.ne (a3_0)))))))))))))))))))))))))).trans (by first | rfl | (congr 2; omega) | simp), (u61.get).trans (by first | rfl | (congr 2; omega) | simp)⟩
      omega
  ·
    have h8p := of_decide_eq_false h8
    refine w2_cond_f ((opd_tmp (u7.get)).trans (congrArg (fun b => some (V.bool b)) h8)) ?_
    refine w2_exit ?_
    refine thenQ_ex ?_
    refine thenQ_ex ?_
    refine blockQ_hit ?_
    refine thenQ_go ?_
    refine w2_seq ?_
    refine w2_region ?_
    refine wpO_do (v := .str (s)) rfl (want_free rfl) rfl (ltn n7 (by decide)) (ev_move rfl (opd_tmp (u7.ne (u6.ne (u5.ne (u4.ne (a3_0))))))) fun f62 u62 => ?_
    have n62 := u62.n.trans n7; have s62 := u62.ds.trans s7
    refine wpO_do (v := .bool (!(s == []))) rfl (want_free rfl) rfl (ltn n62 (by decide)) (ev_binS rfl (by decide) (opd_tmp (u62.get)) rfl rfl) fun f63 u63 => ?_
    have n63 := u63.n.trans n62; have s63 := u63.ds.trans s62
    refine wpO_do (v := .bool (!(s == []))) rfl (want_free rfl) rfl (ltn n63 (by decide)) (ev_move rfl (opd_tmp (u63.get))) fun f64 u64 => ?_
    have n64 := u64.n.trans n63; have s64 := u64.ds.trans s63
    rcases Bool.eq_false_or_eq_true (!(s == [])) with h65 | h65
    ·
      have h65p := nnil_t h65
      refine wpO_do (v := .str (s)) rfl (want_yes rfl rfl ((u64.get).trans (congrArg (fun b => some (V.bool b)) h65))) rfl (ltn n64 (by decide)) (ev_move rfl (opd_tmp (u64.ne (u63.ne (u62.ne (u7.ne (u6.ne (u5.ne (u4.ne (a3_0)))))))))) fun f66 u66 => ?_
      have n66 := u66.n.trans n64; have s66 := u66.ds.trans s64
      refine wpO_do (v := .int .i64 (((s).length : Int))) rfl (want_yes rfl rfl ((u66.ne u64.get).trans (congrArg (fun b => some (V.bool b)) h65))) rfl (ltn n66 (by decide)) (ev_lenS rfl rfl rfl rfl ty9 rfl (opd_tmp (u66.get))) fun f67 u67 => ?_
      have n67 := u67.n.trans n66; have s67 := u67.ds.trans s66
      refine wpO_do (v := .bool (decide ((((s).length : Int) : Int) ≤ (20 : Int)))) rfl (want_yes rfl rfl ((u67.ne (u66.ne u64.get)).trans (congrArg (fun b => some (V.bool b)) h65))) rfl (ltn n67 (by decide)) (ev_binI rfl (by decide) (opd_tmp (u67.get)) rfl rfl) fun f68 u68 => ?_
      have n68 := u68.n.trans n67; have s68 := u68.ds.trans s67
      refine wpO_do (v := .bool (decide ((((s).length : Int) : Int) ≤ (20 : Int)))) rfl (want_free rfl) rfl (ltn n68 (by decide)) (ev_pick_t rfl ((opd_tmp (u68.ne (u67.ne (u66.ne u64.get)))).trans (congrArg (fun b => some (V.bool b)) h65)) (opd_tmp (u68.get))) fun f69 u69 => ?_
      have n69 := u69.n.trans n68; have s69 := u69.ds.trans s68
      refine wpO_do (v := .bool (decide ((((s).length : Int) : Int) ≤ (20 : Int)))) rfl (want_free rfl) rfl (ltn n69 (by decide)) (ev_move rfl (opd_tmp (u69.get))) fun f70 u70 => ?_
      have n70 := u70.n.trans n69; have s70 := u70.ds.trans s69
      rcases Bool.eq_false_or_eq_true (decide ((((s).length : Int) : Int) ≤ (20 : Int))) with h71 | h71
      ·
        have h71p := of_decide_eq_true h71
        refine wpO_do (v := .str (s)) rfl (want_yes rfl rfl ((u70.get).trans (congrArg (fun b => some (V.bool b)) h71))) rfl (ltn n70 (by decide)) (ev_move rfl (opd_tmp (u70.ne (u69.ne (u68.ne (u67.ne (u66.ne (u64.ne (u63.ne (u62.ne (u7.ne (u6.ne (u5.ne (u4.ne (a3_0))))))))))))))) fun f72 u72 => ?_
        have n72 := u72.n.trans n70; have s72 := u72.ds.trans s70
        have q73 := byteI_bd (s) (0)
        refine wpO_do (v := .int .u8 (byteI (s) (0))) rfl (want_yes rfl rfl ((u72.ne u70.get).trans (congrArg (fun b => some (V.bool b)) h71))) rfl (ltn n72 (by decide)) (ev_indexB rfl ty9 rfl (opd_tmp (u72.get)) rfl (by omega) (by omega)) fun f74 u74 => ?_
        have n74 := u74.n.trans n72; have s74 := u74.ds.trans s72
        refine wpO_ask rfl (want_yes rfl rfl ((u74.ne (u72.ne u70.get)).trans (congrArg (fun b => some (V.bool b)) h71))) rfl (ltn n74 (by decide)) (ev_call rfl rfl rfl (opds_cons (opd_tmp (u74.get)) opds_nil) rfl) (letter_runs hsp (byteI (s) (0)) _) fun v75 H75 r75 f76 u76 => ?_
        obtain ⟨rfl, rfl⟩ := r75
        have n76 := u76.n.trans n74; have s76 := u76.ds.trans s74
        refine wpO_do (v := .bool (letterB (byteI (s) (0)))) rfl (want_free rfl) rfl (ltn n76 (by decide)) (ev_pick_t rfl ((opd_tmp (u76.ne (u74.ne (u72.ne u70.get)))).trans (congrArg (fun b => some (V.bool b)) h71)) (opd_tmp (u76.get))) fun f77 u77 => ?_
        have n77 := u77.n.trans n76; have s77 := u77.ds.trans s76
        refine wpO_do (v := .bool (letterB (byteI (s) (0)))) rfl (want_free rfl) rfl (ltn n77 (by decide)) (ev_assign rfl (opd_tmp (u77.get))) fun f78 u78 => ?_
        have n78 := u78.n.trans n77; have s78 := u78.ds.trans s77
        refine wpO_nil ?_
        refine thenQ_go ?_
        refine w2_ret ?_
        refine ⟨.inr rfl, _, ends0 s78, _, (res_tmp (u78.get) res_nil), ?_⟩
        refine ⟨congrArg V.bool (Bool.eq_iff_iff.2 ?_), rfl⟩
        exact ⟨fun h => by have := letterB_iff.1 h; exact nameL_iff.2 ⟨by omega, by omega, this, fun j hj => hall j (by omega)⟩, fun h => letterB_iff.2 (nameL_iff.1 h).2.2.1⟩
      ·
        have h71p := of_decide_eq_false h71
        refine wpO_pass rfl (want_no rfl rfl ((u70.get).trans (congrArg (fun b => some (V.bool b)) h71))) rfl (ltn n70 (by decide)) fun f79 u79 => ?_
        have n79 := u79.n.trans n70; have s79 := u79.ds.trans s70
        refine wpO_pass rfl (want_no rfl rfl ((u79.ne u70.get).trans (congrArg (fun b => some (V.bool b)) h71))) rfl (ltn n79 (by decide)) fun f80 u80 => ?_
        have n80 := u80.n.trans n79; have s80 := u80.ds.trans s79
        refine wpO_pass rfl (want_no rfl rfl ((u80.ne (u79.ne u70.get)).trans (congrArg (fun b => some (V.bool b)) h71))) rfl (ltn n80 (by decide)) fun f81 u81 => ?_
        have n81 := u81.n.trans n80; have s81 := u81.ds.trans s80
        refine wpO_do (v := .bool (false)) rfl (want_free rfl) rfl (ltn n81 (by decide)) (ev_pick_f rfl ((opd_tmp (u81.ne (u80.ne (u79.ne u70.get)))).trans (congrArg (fun b => some (V.bool b)) h71)) rfl) fun f82 u82 => ?_
        have n82 := u82.n.trans n81; have s82 := u82.ds.trans s81
        refine wpO_do (v := .bool (false)) rfl (want_free rfl) rfl (ltn n82 (by decide)) (ev_assign rfl (opd_tmp (u82.get))) fun f83 u83 => ?_
        have n83 := u83.n.trans n82; have s83 := u83.ds.trans s82
        refine wpO_nil ?_
        refine thenQ_go ?_
        refine w2_ret ?_
        refine ⟨.inr rfl, _, ends0 s83, _, (res_tmp (u83.get) res_nil), ?_⟩
        exact ⟨congrArg V.bool (name_bad0 (by omega)).symm, rfl⟩
    ·
      have h65p := nnil_f h65
      refine wpO_pass rfl (want_no rfl rfl ((u64.get).trans (congrArg (fun b => some (V.bool b)) h65))) rfl (ltn n64 (by decide)) fun f84 u84 => ?_
      have n84 := u84.n.trans n64; have s84 := u84.ds.trans s64
      refine wpO_pass rfl (want_no rfl rfl ((u84.ne u64.get).trans (congrArg (fun b => some (V.bool b)) h65))) rfl (ltn n84 (by decide)) fun f85 u85 => ?_
      have n85 := u85.n.trans n84; have s85 := u85.ds.trans s84
      refine wpO_pass rfl (want_no rfl rfl ((u85.ne (u84.ne u64.get)).trans (congrArg (fun b => some (V.bool b)) h65))) rfl (ltn n85 (by decide)) fun f86 u86 => ?_
      have n86 := u86.n.trans n85; have s86 := u86.ds.trans s85
      refine wpO_do (v := .bool (false)) rfl (want_free rfl) rfl (ltn n86 (by decide)) (ev_pick_f rfl ((opd_tmp (u86.ne (u85.ne (u84.ne u64.get)))).trans (congrArg (fun b => some (V.bool b)) h65)) rfl) fun f87 u87 => ?_
      have n87 := u87.n.trans n86; have s87 := u87.ds.trans s86
      refine wpO_do (v := .bool (false)) rfl (want_free rfl) rfl (ltn n87 (by decide)) (ev_move rfl (opd_tmp (u87.get))) fun f88 u88 => ?_
      have n88 := u88.n.trans n87; have s88 := u88.ds.trans s87
      refine wpO_pass rfl (want_no rfl rfl (u88.get)) rfl (ltn n88 (by decide)) fun f89 u89 => ?_
      have n89 := u89.n.trans n88; have s89 := u89.ds.trans s88
      refine wpO_pass rfl (want_no rfl rfl (u89.ne u88.get)) rfl (ltn n89 (by decide)) fun f90 u90 => ?_
      have n90 := u90.n.trans n89; have s90 := u90.ds.trans s89
      refine wpO_pass rfl (want_no rfl rfl (u90.ne (u89.ne u88.get))) rfl (ltn n90 (by decide)) fun f91 u91 => ?_
      have n91 := u91.n.trans n90; have s91 := u91.ds.trans s90
      refine wpO_do (v := .bool (false)) rfl (want_free rfl) rfl (ltn n91 (by decide)) (ev_pick_f rfl (opd_tmp (u91.ne (u90.ne (u89.ne u88.get)))) rfl) fun f92 u92 => ?_
      have n92 := u92.n.trans n91; have s92 := u92.ds.trans s91
      refine wpO_do (v := .bool (false)) rfl (want_free rfl) rfl (ltn n92 (by decide)) (ev_assign rfl (opd_tmp (u92.get))) fun f93 u93 => ?_
      have n93 := u93.n.trans n92; have s93 := u93.ds.trans s92
      refine wpO_nil ?_
      refine thenQ_go ?_
      refine w2_ret ?_
      refine ⟨.inr rfl, _, ends0 s93, _, (res_tmp (u93.get) res_nil), ?_⟩
      exact ⟨congrArg V.bool (name_bad0 (by omega)).symm, rfl⟩
theorem number_runs (hsp : Quiet sp) (s : List UInt8) (H : Heap) (hl : s.length ≤ 1000000) : CallW (envOf Tryd.prog sp) (.func 16) [.str (s)] H (fun v H' => v = .tuple [.int .i64 (numL s).1, .bool (numL s).2] ∧ H' = H) := by
  refine callW_body (hsp 16 (by decide)) funcs16 rfl ?_
  have a0 : ({ tmps := enterTmps [.str (s)], n := max (List.length (α := V) [.str (s)]) 45, defers := [] } : Fr).tmp 0 = some (.str (s)) := enter_tmp rfl
  have n0 : ({ tmps := enterTmps [.str (s)], n := max (List.length (α := V) [.str (s)]) 45, defers := [] } : Fr).n = 45 := rfl
  have s0 : ({ tmps := enterTmps [.str (s)], n := max (List.length (α := V) [.str (s)]) 45, defers := [] } : Fr).defers = [] := rfl
  generalize ({ tmps := enterTmps [.str (s)], n := max (List.length (α := V) [.str (s)]) 45, defers := [] } : Fr) = f0 at a0 n0 s0 ⊢
  refine w2_seq ?_
  refine w2_region ?_
  refine wpO_do (v := .int .i64 (0)) rfl (want_free rfl) rfl (ltn n0 (by decide)) (ev_assign rfl rfl) fun f1 u1 => ?_
  have n1 := u1.n.trans n0; have s1 := u1.ds.trans s0
  refine wpO_do (v := .bool (false)) rfl (want_free rfl) rfl (ltn n1 (by decide)) (ev_assign rfl rfl) fun f2 u2 => ?_
  have n2 := u2.n.trans n1; have s2 := u2.ds.trans s1
  refine wpO_nil ?_
  refine thenQ_go ?_
  refine w2_seq ?_
  refine w2_seq ?_
  refine w2_region ?_
  refine wpO_do (v := .str (s)) rfl (want_free rfl) rfl (ltn n2 (by decide)) (ev_move rfl (opd_tmp (u2.ne (u1.ne (a0))))) fun f3 u3 => ?_
  have n3 := u3.n.trans n2; have s3 := u3.ds.trans s2
  refine wpO_do (v := .bool ((s == []))) rfl (want_free rfl) rfl (ltn n3 (by decide)) (ev_binS rfl (by decide) (opd_tmp (u3.get)) rfl rfl) fun f4 u4 => ?_
  have n4 := u4.n.trans n3; have s4 := u4.ds.trans s3
  refine wpO_do (v := .bool ((s == []))) rfl (want_free rfl) rfl (ltn n4 (by decide)) (ev_move rfl (opd_tmp (u4.get))) fun f5 u5 => ?_
  have n5 := u5.n.trans n4; have s5 := u5.ds.trans s4
  rcases Bool.eq_false_or_eq_true ((s == [])) with h6 | h6
  ·
    have h6p := nil_t h6
    refine wpO_pass rfl (want_no rfl rfl ((u5.get).trans (congrArg (fun b => some (V.bool b)) h6))) rfl (ltn n5 (by decide)) fun f7 u7 => ?_
    have n7 := u7.n.trans n5; have s7 := u7.ds.trans s5
    refine wpO_pass rfl (want_no rfl rfl ((u7.ne u5.get).trans (congrArg (fun b => some (V.bool b)) h6))) rfl (ltn n7 (by decide)) fun f8 u8 => ?_
    have n8 := u8.n.trans n7; have s8 := u8.ds.trans s7
    refine wpO_pass rfl (want_no rfl rfl ((u8.ne (u7.ne u5.get)).trans (congrArg (fun b => some (V.bool b)) h6))) rfl (ltn n8 (by decide)) fun f9 u9 => ?_
    have n9 := u9.n.trans n8; have s9 := u9.ds.trans s8
    refine wpO_pass rfl (want_no rfl rfl ((u9.ne (u8.ne (u7.ne u5.get))).trans (congrArg (fun b => some (V.bool b)) h6))) rfl (ltn n9 (by decide)) fun f10 u10 => ?_
    have n10 := u10.n.trans n9; have s10 := u10.ds.trans s9
    refine wpO_pass rfl (want_undef rfl rfl (u10.get)) rfl (ltn n10 (by decide)) fun f11 u11 => ?_
    have n11 := u11.n.trans n10; have s11 := u11.ds.trans s10
    refine wpO_pass rfl (want_undef rfl rfl (u11.ne u10.get)) rfl (ltn n11 (by decide)) fun f12 u12 => ?_
    have n12 := u12.n.trans n11; have s12 := u12.ds.trans s11
    refine wpO_pass rfl (want_undef rfl rfl (u12.ne (u11.ne u10.get))) rfl (ltn n12 (by decide)) fun f13 u13 => ?_
    have n13 := u13.n.trans n12; have s13 := u13.ds.trans s12
    refine wpO_pass rfl (want_no rfl rfl ((u13.ne (u12.ne (u11.ne (u10.ne (u9.ne (u8.ne (u7.ne u5.get))))))).trans (congrArg (fun b => some (V.bool b)) h6))) rfl (ltn n13 (by decide)) fun f14 u14 => ?_
    have n14 := u14.n.trans n13; have s14 := u14.ds.trans s13
    refine wpO_do (v := .bool (true)) rfl (want_free rfl) rfl (ltn n14 (by decide)) (ev_pick_t rfl ((opd_tmp (u14.ne (u13.ne (u12.ne (u11.ne (u10.ne (u9.ne (u8.ne (u7.ne u5.get))))))))).trans (congrArg (fun b => some (V.bool b)) h6)) rfl) fun f15 u15 => ?_
    have n15 := u15.n.trans n14; have s15 := u15.ds.trans s14
    refine wpO_nil ?_
    refine thenQ_go ?_
    refine w2_cond_t (opd_tmp (u15.get)) ?_
    refine w2_seq ?_
    refine w2_region ?_
    refine wpO_do (v := .int .i64 (0)) rfl (want_free rfl) rfl (ltn n15 (by decide)) (ev_assign rfl rfl) fun f16 u16 => ?_
    have n16 := u16.n.trans n15; have s16 := u16.ds.trans s15
    refine wpO_do (v := .bool (false)) rfl (want_free rfl) rfl (ltn n16 (by decide)) (ev_assign rfl rfl) fun f17 u17 => ?_
    have n17 := u17.n.trans n16; have s17 := u17.ds.trans s16
    refine wpO_nil ?_
    refine thenQ_go ?_
    refine w2_ret ?_
    refine thenQ_rt ?_
    refine ⟨.inr rfl, _, ends0 s17, _, (res_tmp (u17.ne u16.get) (res_tmp (u17.get) res_nil)), ?_⟩
    exact ⟨by rw [num_none (by omega)]; rfl, rfl⟩
  ·
    have h6p := nil_f h6
    refine wpO_do (v := .str (s)) rfl (want_yes rfl rfl ((u5.get).trans (congrArg (fun b => some (V.bool b)) h6))) rfl (ltn n5 (by decide)) (ev_move rfl (opd_tmp (u5.ne (u4.ne (u3.ne (u2.ne (u1.ne (a0)))))))) fun f18 u18 => ?_
    have n18 := u18.n.trans n5; have s18 := u18.ds.trans s5
    have q19 := byteI_bd (s) (0)
    refine wpO_do (v := .int .u8 (byteI (s) (0))) rfl (want_yes rfl rfl ((u18.ne u5.get).trans (congrArg (fun b => some (V.bool b)) h6))) rfl (ltn n18 (by decide)) (ev_indexB rfl ty9 rfl (opd_tmp (u18.get)) rfl (by omega) (by omega)) fun f20 u20 => ?_
    have n20 := u20.n.trans n18; have s20 := u20.ds.trans s18
    refine wpO_do (v := .bool ((byteI (s) (0) : Int) == (48 : Int))) rfl (want_yes rfl rfl ((u20.ne (u18.ne u5.get)).trans (congrArg (fun b => some (V.bool b)) h6))) rfl (ltn n20 (by decide)) (ev_binI rfl (by decide) (opd_tmp (u20.get)) rfl rfl) fun f21 u21 => ?_
    have n21 := u21.n.trans n20; have s21 := u21.ds.trans s20
    refine wpO_do (v := .bool ((byteI (s) (0) : Int) == (48 : Int))) rfl (want_yes rfl rfl ((u21.ne (u20.ne (u18.ne u5.get))).trans (congrArg (fun b => some (V.bool b)) h6))) rfl (ltn n21 (by decide)) (ev_move rfl (opd_tmp (u21.get))) fun f22 u22 => ?_
    have n22 := u22.n.trans n21; have s22 := u22.ds.trans s21
    rcases Bool.eq_false_or_eq_true ((byteI (s) (0) : Int) == (48 : Int)) with h23 | h23
    ·
      have h23p := beq_t h23
      refine wpO_do (v := .str (s)) rfl (want_yes rfl rfl ((u22.get).trans (congrArg (fun b => some (V.bool b)) h23))) rfl (ltn n22 (by decide)) (ev_move rfl (opd_tmp (u22.ne (u21.ne (u20.ne (u18.ne (u5.ne (u4.ne (u3.ne (u2.ne (u1.ne (a0)))))))))))) fun f24 u24 => ?_
      have n24 := u24.n.trans n22; have s24 := u24.ds.trans s22
      refine wpO_do (v := .int .i64 (((s).length : Int))) rfl (want_yes rfl rfl ((u24.ne u22.get).trans (congrArg (fun b => some (V.bool b)) h23))) rfl (ltn n24 (by decide)) (ev_lenS rfl rfl rfl rfl ty9 rfl (opd_tmp (u24.get))) fun f25 u25 => ?_
      have n25 := u25.n.trans n24; have s25 := u25.ds.trans s24
      refine wpO_do (v := .bool (decide ((((s).length : Int) : Int) > (1 : Int)))) rfl (want_yes rfl rfl ((u25.ne (u24.ne u22.get)).trans (congrArg (fun b => some (V.bool b)) h23))) rfl (ltn n25 (by decide)) (ev_binI rfl (by decide) (opd_tmp (u25.get)) rfl rfl) fun f26 u26 => ?_
      have n26 := u26.n.trans n25; have s26 := u26.ds.trans s25
      refine wpO_do (v := .bool (decide ((((s).length : Int) : Int) > (1 : Int)))) rfl (want_yes rfl rfl ((u26.ne (u25.ne (u24.ne (u22.ne (u21.ne (u20.ne (u18.ne u5.get))))))).trans (congrArg (fun b => some (V.bool b)) h6))) rfl (ltn n26 (by decide)) (ev_pick_t rfl ((opd_tmp (u26.ne (u25.ne (u24.ne u22.get)))).trans (congrArg (fun b => some (V.bool b)) h23)) (opd_tmp (u26.get))) fun f27 u27 => ?_
      have n27 := u27.n.trans n26; have s27 := u27.ds.trans s26
      refine wpO_do (v := .bool (decide ((((s).length : Int) : Int) > (1 : Int)))) rfl (want_free rfl) rfl (ltn n27 (by decide)) (ev_pick_f rfl ((opd_tmp (u27.ne (u26.ne (u25.ne (u24.ne (u22.ne (u21.ne (u20.ne (u18.ne u5.get))))))))).trans (congrArg (fun b => some (V.bool b)) h6)) (opd_tmp (u27.get))) fun f28 u28 => ?_
      have n28 := u28.n.trans n27; have s28 := u28.ds.trans s27
      refine wpO_nil ?_
      refine thenQ_go ?_
      rcases Bool.eq_false_or_eq_true (decide ((((s).length : Int) : Int) > (1 : Int))) with h29 | h29
      ·
        have h29p := of_decide_eq_true h29
        refine w2_cond_t ((opd_tmp (u28.get)).trans (congrArg (fun b => some (V.bool b)) h29)) ?_
        refine w2_seq ?_
        refine w2_region ?_
        refine wpO_do (v := .int .i64 (0)) rfl (want_free rfl) rfl (ltn n28 (by decide)) (ev_assign rfl rfl) fun f30 u30 => ?_
        have n30 := u30.n.trans n28; have s30 := u30.ds.trans s28
        refine wpO_do (v := .bool (false)) rfl (want_free rfl) rfl (ltn n30 (by decide)) (ev_assign rfl rfl) fun f31 u31 => ?_
        have n31 := u31.n.trans n30; have s31 := u31.ds.trans s30
        refine wpO_nil ?_
        refine thenQ_go ?_
        refine w2_ret ?_
        refine thenQ_rt ?_
        refine ⟨.inr rfl, _, ends0 s31, _, (res_tmp (u31.ne u30.get) (res_tmp (u31.get) res_nil)), ?_⟩
        exact ⟨by rw [num_none (by omega)]; rfl, rfl⟩
      ·
        have h29p := of_decide_eq_false h29
        refine w2_cond_f ((opd_tmp (u28.get)).trans (congrArg (fun b => some (V.bool b)) h29)) ?_
        refine w2_skip ?_
        refine thenQ_go ?_
        refine w2_seq ?_
        refine w2_region ?_
        refine wpO_do (v := .int .i64 (0)) rfl (want_free rfl) rfl (ltn n28 (by decide)) (ev_assign rfl rfl) fun f32 u32 => ?_
        have n32 := u32.n.trans n28; have s32 := u32.ds.trans s28
        refine wpO_nil ?_
        refine thenQ_go ?_
        refine w2_seq ?_
        refine w2_seq ?_
        refine w2_region ?_
        refine wpO_do (v := .str (s)) rfl (want_free rfl) rfl (ltn n32 (by decide)) (ev_move rfl (opd_tmp (u32.ne (u28.ne (u27.ne (u26.ne (u25.ne (u24.ne (u22.ne (u21.ne (u20.ne (u18.ne (u5.ne (u4.ne (u3.ne (u2.ne (u1.ne (a0)))))))))))))))))) fun f33 u33 => ?_
        have n33 := u33.n.trans n32; have s33 := u33.ds.trans s32
        refine wpO_do (v := .int .i64 (((s).length : Int))) rfl (want_free rfl) rfl (ltn n33 (by decide)) (ev_lenS rfl rfl rfl rfl ty9 rfl (opd_tmp (u33.get))) fun f34 u34 => ?_
        have n34 := u34.n.trans n33; have s34 := u34.ds.trans s33
        refine wpO_do (v := .int .i64 (0)) rfl (want_free rfl) rfl (ltn n34 (by decide)) (ev_move rfl rfl) fun f35 u35 => ?_
        have n35 := u35.n.trans n34; have s35 := u35.ds.trans s34
        refine wpO_nil ?_
        refine thenQ_go ?_
        refine w2_block ?_
        refine w2_loop (fun m fr H1 => H1 = H ∧ fr.n = 45 ∧ fr.defers = [] ∧ ∃ (i : Nat) (n : Int), m = s.length - i ∧ i ≤ s.length ∧ 0 ≤ n ∧ n ≤ 1099511627776 ∧ numL s = numGo (s.drop i) n ∧ fr.tmp 0 = some (.str (s)) ∧ fr.tmp 4 = some (.int .i64 (n)) ∧ fr.tmp 19 = some (.int .i64 (s.length)) ∧ fr.tmp 20 = some (.int .i64 ((i : Int)))) (m := s.length) ⟨rfl, n35, s35, 0, 0, rfl, Nat.zero_le _, by omega, by omega, num_start (by omega), (u35.ne (u34.ne (u33.ne (u32.ne (u28.ne (u27.ne (u26.ne (u25.ne (u24.ne (u22.ne (u21.ne (u20.ne (u18.ne (u5.ne (u4.ne (u3.ne (u2.ne (u1.ne (a0))))))))))))))))))).trans (by first | rfl | (congr 2; omega) | simp), (u35.ne (u34.ne (u33.ne u32.get))).trans (by first | rfl | (congr 2; omega) | simp), (u35.ne u34.get).trans (by first | rfl | (congr 2; omega) | simp), (u35.get).trans (by first | rfl | (congr 2; omega) | simp)⟩ ?_
        rintro m36 g36 _ ⟨rfl, n36, s36, i, n, rfl, hi, hn0, hn1, hn, a36_0, a36_4, a36_19, a36_20⟩
        refine w2_seq ?_
        refine w2_region ?_
        refine wpO_do (v := .bool (decide (((i : Int) : Int) < (s.length : Int)))) rfl (want_free rfl) rfl (ltn n36 (by decide)) (ev_binI rfl (by decide) (opd_tmp (a36_20)) (opd_tmp (a36_19)) rfl) fun f37 u37 => ?_
        have n37 := u37.n.trans n36; have s37 := u37.ds.trans s36
        refine wpO_nil ?_
        refine thenQ_go ?_
        refine w2_seq ?_
        rcases Bool.eq_false_or_eq_true (decide (((i : Int) : Int) < (s.length : Int))) with h38 | h38
        ·
          have h38p := of_decide_eq_true h38
          refine w2_cond_t ((opd_tmp (u37.get)).trans (congrArg (fun b => some (V.bool b)) h38)) ?_
          refine w2_skip ?_
          refine thenQ_go ?_
          refine w2_seq ?_
          refine w2_block ?_
          refine w2_seq ?_
          refine w2_region ?_
          refine wpO_do (v := .int .i64 ((i : Int))) rfl (want_free rfl) rfl (ltn n37 (by decide)) (ev_move rfl (opd_tmp (u37.ne (a36_20)))) fun f39 u39 => ?_
          have n39 := u39.n.trans n37; have s39 := u39.ds.trans s37
          refine wpO_do (v := .int .i64 ((i : Int))) rfl (want_free rfl) rfl (ltn n39 (by decide)) (ev_assign rfl (opd_tmp (u39.get))) fun f40 u40 => ?_
          have n40 := u40.n.trans n39; have s40 := u40.ds.trans s39
          refine wpO_nil ?_
          refine thenQ_go ?_
          refine w2_seq ?_
          refine w2_seq ?_
          refine w2_region ?_
          refine wpO_do (v := .str (s)) rfl (want_free rfl) rfl (ltn n40 (by decide)) (ev_move rfl (opd_tmp (u40.ne (u39.ne (u37.ne (a36_0)))))) fun f41 u41 => ?_
          have n41 := u41.n.trans n40; have s41 := u41.ds.trans s40
          refine wpO_do (v := .int .i64 ((i : Int))) rfl (want_free rfl) rfl (ltn n41 (by decide)) (ev_move rfl (opd_tmp (u41.ne u40.get))) fun f42 u42 => ?_
          have n42 := u42.n.trans n41; have s42 := u42.ds.trans s41
          have q43 := byteI_bd (s) ((i : Int))
          refine wpO_do (v := .int .u8 (byteI (s) ((i : Int)))) rfl (want_free rfl) rfl (ltn n42 (by decide)) (ev_indexB rfl ty9 rfl (opd_tmp (u42.ne u41.get)) (opd_tmp (u42.get)) (by omega) (by omega)) fun f44 u44 => ?_
          have n44 := u44.n.trans n42; have s44 := u44.ds.trans s42
          refine wpO_do (v := .bool (decide ((byteI (s) ((i : Int)) : Int) < (48 : Int)))) rfl (want_free rfl) rfl (ltn n44 (by decide)) (ev_binI rfl (by decide) (opd_tmp (u44.get)) rfl rfl) fun f45 u45 => ?_
          have n45 := u45.n.trans n44; have s45 := u45.ds.trans s44
          refine wpO_do (v := .bool (decide ((byteI (s) ((i : Int)) : Int) < (48 : Int)))) rfl (want_free rfl) rfl (ltn n45 (by decide)) (ev_move rfl (opd_tmp (u45.get))) fun f46 u46 => ?_
          have n46 := u46.n.trans n45; have s46 := u46.ds.trans s45
          rcases Bool.eq_false_or_eq_true (decide ((byteI (s) ((i : Int)) : Int) < (48 : Int))) with h47 | h47
          ·
            have h47p := of_decide_eq_true h47
            refine wpO_pass rfl (want_no rfl rfl ((u46.get).trans (congrArg (fun b => some (V.bool b)) h47))) rfl (ltn n46 (by decide)) fun f48 u48 => ?_
            have n48 := u48.n.trans n46; have s48 := u48.ds.trans s46
            refine wpO_pass rfl (want_no rfl rfl ((u48.ne u46.get).trans (congrArg (fun b => some (V.bool b)) h47))) rfl (ltn n48 (by decide)) fun f49 u49 => ?_
            have n49 := u49.n.trans n48; have s49 := u49.ds.trans s48
            refine wpO_pass rfl (want_no rfl rfl ((u49.ne (u48.ne u46.get)).trans (congrArg (fun b => some (V.bool b)) h47))) rfl (ltn n49 (by decide)) fun f50 u50 => ?_
            have n50 := u50.n.trans n49; have s50 := u50.ds.trans s49
            refine wpO_pass rfl (want_no rfl rfl ((u50.ne (u49.ne (u48.ne u46.get))).trans (congrArg (fun b => some (V.bool b)) h47))) rfl (ltn n50 (by decide)) fun f51 u51 => ?_
            have n51 := u51.n.trans n50; have s51 := u51.ds.trans s50
            refine wpO_do (v := .bool (true)) rfl (want_free rfl) rfl (ltn n51 (by decide)) (ev_pick_t rfl ((opd_tmp (u51.ne (u50.ne (u49.ne (u48.ne u46.get))))).trans (congrArg (fun b => some (V.bool b)) h47)) rfl) fun f52 u52 => ?_
            have n52 := u52.n.trans n51; have s52 := u52.ds.trans s51
            refine wpO_nil ?_
            refine thenQ_go ?_
            refine w2_cond_t (opd_tmp (u52.get)) ?_
            refine w2_seq ?_
            refine w2_region ?_
            refine wpO_do (v := .int .i64 (0)) rfl (want_free rfl) rfl (ltn n52 (by decide)) (ev_assign rfl rfl) fun f53 u53 => ?_
            have n53 := u53.n.trans n52; have s53 := u53.ds.trans s52
            refine wpO_do (v := .bool (false)) rfl (want_free rfl) rfl (ltn n53 (by decide)) (ev_assign rfl rfl) fun f54 u54 => ?_
            have n54 := u54.n.trans n53; have s54 := u54.ds.trans s53
            refine wpO_nil ?_
            refine thenQ_go ?_
            refine w2_ret ?_
            refine thenQ_rt ?_
            refine blockQ_rt ?_
            refine thenQ_rt ?_
            refine thenQ_rt ?_
            refine blockQ_rt ?_
            refine thenQ_rt ?_
            refine ⟨.inr rfl, _, ends0 s54, _, (res_tmp (u54.ne u53.get) (res_tmp (u54.get) res_nil)), ?_⟩
            exact ⟨by rw [num_fail (i := i) (by omega) (by omega) hn]; rfl, rfl⟩
          ·
            have h47p := of_decide_eq_false h47
            refine wpO_do (v := .str (s)) rfl (want_yes rfl rfl ((u46.get).trans (congrArg (fun b => some (V.bool b)) h47))) rfl (ltn n46 (by decide)) (ev_move rfl (opd_tmp (u46.ne (u45.ne (u44.ne (u42.ne (u41.ne (u40.ne (u39.ne (u37.ne (a36_0))))))))))) fun f55 u55 => ?_
            have n55 := u55.n.trans n46; have s55 := u55.ds.trans s46
            refine wpO_do (v := .int .i64 ((i : Int))) rfl (want_yes rfl rfl ((u55.ne u46.get).trans (congrArg (fun b => some (V.bool b)) h47))) rfl (ltn n55 (by decide)) (ev_move rfl (opd_tmp (u55.ne (u46.ne (u45.ne (u44.ne (u42.ne (u41.ne u40.get)))))))) fun f56 u56 => ?_
            have n56 := u56.n.trans n55; have s56 := u56.ds.trans s55
            have q57 := byteI_bd (s) ((i : Int))
            refine wpO_do (v := .int .u8 (byteI (s) ((i : Int)))) rfl (want_yes rfl rfl ((u56.ne (u55.ne u46.get)).trans (congrArg (fun b => some (V.bool b)) h47))) rfl (ltn n56 (by decide)) (ev_indexB rfl ty9 rfl (opd_tmp (u56.ne u55.get)) (opd_tmp (u56.get)) (by omega) (by omega)) fun f58 u58 => ?_
            have n58 := u58.n.trans n56; have s58 := u58.ds.trans s56
            refine wpO_do (v := .bool (decide ((byteI (s) ((i : Int)) : Int) > (57 : Int)))) rfl (want_yes rfl rfl ((u58.ne (u56.ne (u55.ne u46.get))).trans (congrArg (fun b => some (V.bool b)) h47))) rfl (ltn n58 (by decide)) (ev_binI rfl (by decide) (opd_tmp (u58.get)) rfl rfl) fun f59 u59 => ?_
            have n59 := u59.n.trans n58; have s59 := u59.ds.trans s58
            refine wpO_do (v := .bool (decide ((byteI (s) ((i : Int)) : Int) > (57 : Int)))) rfl (want_free rfl) rfl (ltn n59 (by decide)) (ev_pick_f rfl ((opd_tmp (u59.ne (u58.ne (u56.ne (u55.ne u46.get))))).trans (congrArg (fun b => some (V.bool b)) h47)) (opd_tmp (u59.get))) fun f60 u60 => ?_
            have n60 := u60.n.trans n59; have s60 := u60.ds.trans s59
            refine wpO_nil ?_
            refine thenQ_go ?_
            rcases Bool.eq_false_or_eq_true (decide ((byteI (s) ((i : Int)) : Int) > (57 : Int))) with h61 | h61
            ·
              have h61p := of_decide_eq_true h61
              refine w2_cond_t ((opd_tmp (u60.get)).trans (congrArg (fun b => some (V.bool b)) h61)) ?_
              refine w2_seq ?_
              refine w2_region ?_
              refine wpO_do (v := .int .i64 (0)) rfl (want_free rfl) rfl (ltn n60 (by decide)) (ev_assign rfl rfl) fun f62 u62 => ?_
              have n62 := u62.n.trans n60; have s62 := u62.ds.trans s60
              refine wpO_do (v := .bool (false)) rfl (want_free rfl) rfl (ltn n62 (by decide)) (ev_assign rfl rfl) fun f63 u63 => ?_
              have n63 := u63.n.trans n62; have s63 := u63.ds.trans s62
              refine wpO_nil ?_
              refine thenQ_go ?_
              refine w2_ret ?_
              refine thenQ_rt ?_
              refine blockQ_rt ?_
              refine thenQ_rt ?_
              refine thenQ_rt ?_
              refine blockQ_rt ?_
              refine thenQ_rt ?_
              refine ⟨.inr rfl, _, ends0 s63, _, (res_tmp (u63.ne u62.get) (res_tmp (u63.get) res_nil)), ?_⟩
              exact ⟨by rw [num_fail (i := i) (by omega) (by omega) hn]; rfl, rfl⟩
            ·
              have h61p := of_decide_eq_false h61
              refine w2_cond_f ((opd_tmp (u60.get)).trans (congrArg (fun b => some (V.bool b)) h61)) ?_
              refine w2_skip ?_
              refine thenQ_go ?_
              refine w2_seq ?_
              refine w2_region ?_
              refine wpO_do (v := .int .i64 (n)) rfl (want_free rfl) rfl (ltn n60 (by decide)) (ev_move rfl (opd_tmp (u60.ne (u59.ne (u58.ne (u56.ne (u55.ne (u46.ne (u45.ne (u44.ne (u42.ne (u41.ne (u40.ne (u39.ne (u37.ne (a36_4)))))))))))))))) fun f64 u64 => ?_
              have n64 := u64.n.trans n60; have s64 := u64.ds.trans s60
              refine wpO_do (v := .int .i64 ((10) * (n))) rfl (want_free rfl) rfl (ltn n64 (by decide)) (ev_binI rfl (by decide) rfl (opd_tmp (u64.get)) (mul64 (by omega) (by omega))) fun f65 u65 => ?_
              have n65 := u65.n.trans n64; have s65 := u65.ds.trans s64
              refine wpO_do (v := .str (s)) rfl (want_free rfl) rfl (ltn n65 (by decide)) (ev_move rfl (opd_tmp (u65.ne (u64.ne (u60.ne (u59.ne (u58.ne (u56.ne (u55.ne (u46.ne (u45.ne (u44.ne (u42.ne (u41.ne (u40.ne (u39.ne (u37.ne (a36_0)))))))))))))))))) fun f66 u66 => ?_
              have n66 := u66.n.trans n65; have s66 := u66.ds.trans s65
              refine wpO_do (v := .int .i64 ((i : Int))) rfl (want_free rfl) rfl (ltn n66 (by decide)) (ev_move rfl (opd_tmp (u66.ne (u65.ne (u64.ne (u60.ne (u59.ne (u58.ne (u56.ne (u55.ne (u46.ne (u45.ne (u44.ne (u42.ne (u41.ne u40.get))))))))))))))) fun f67 u67 => ?_
              have n67 := u67.n.trans n66; have s67 := u67.ds.trans s66
              have q68 := byteI_bd (s) ((i : Int))
              refine wpO_do (v := .int .u8 (byteI (s) ((i : Int)))) rfl (want_free rfl) rfl (ltn n67 (by decide)) (ev_indexB rfl ty9 rfl (opd_tmp (u67.ne u66.get)) (opd_tmp (u67.get)) (by omega) (by omega)) fun f69 u69 => ?_
              have n69 := u69.n.trans n67; have s69 := u69.ds.trans s67
              refine wpO_do (v := .int .u8 ((byteI (s) ((i : Int))) - (48))) rfl (want_free rfl) rfl (ltn n69 (by decide)) (ev_binI rfl (by decide) (opd_tmp (u69.get)) rfl (sub8 (by omega) (by omega))) fun f70 u70 => ?_
              have n70 := u70.n.trans n69; have s70 := u70.ds.trans s69
              refine wpO_do (v := .int .i64 ((byteI (s) ((i : Int))) - (48))) rfl (want_free rfl) rfl (ltn n70 (by decide)) (ev_convW rfl ty5 rfl ty3 rfl (opd_tmp (u70.get)) (wrap64 (by omega) (by omega))) fun f71 u71 => ?_
              have n71 := u71.n.trans n70; have s71 := u71.ds.trans s70
              refine wpO_do (v := .int .i64 (((10) * (n)) + ((byteI (s) ((i : Int))) - (48)))) rfl (want_free rfl) rfl (ltn n71 (by decide)) (ev_binI rfl (by decide) (opd_tmp (u71.ne (u70.ne (u69.ne (u67.ne (u66.ne u65.get)))))) (opd_tmp (u71.get)) (add64 (by omega) (by omega))) fun f72 u72 => ?_
              have n72 := u72.n.trans n71; have s72 := u72.ds.trans s71
              refine wpO_do (v := .int .i64 (((10) * (n)) + ((byteI (s) ((i : Int))) - (48)))) rfl (want_free rfl) rfl (ltn n72 (by decide)) (ev_assign rfl (opd_tmp (u72.get))) fun f73 u73 => ?_
              have n73 := u73.n.trans n72; have s73 := u73.ds.trans s72
              refine wpO_nil ?_
              refine thenQ_go ?_
              refine w2_seq ?_
              refine w2_region ?_
              refine wpO_do (v := .int .i64 (((10) * (n)) + ((byteI (s) ((i : Int))) - (48)))) rfl (want_free rfl) rfl (ltn n73 (by decide)) (ev_move rfl (opd_tmp (u73.get))) fun f74 u74 => ?_
              have n74 := u74.n.trans n73; have s74 := u74.ds.trans s73
              refine wpO_do (v := .bool (decide ((((10) * (n)) + ((byteI (s) ((i : Int))) - (48)) : Int) > (1099511627776 : Int)))) rfl (want_free rfl) rfl (ltn n74 (by decide)) (ev_binI rfl (by decide) (opd_tmp (u74.get)) rfl rfl) fun f75 u75 => ?_
              have n75 := u75.n.trans n74; have s75 := u75.ds.trans s74
              refine wpO_nil ?_
              refine thenQ_go ?_
              rcases Bool.eq_false_or_eq_true (decide ((((10) * (n)) + ((byteI (s) ((i : Int))) - (48)) : Int) > (1099511627776 : Int))) with h76 | h76
              ·
                have h76p := of_decide_eq_true h76
                refine w2_cond_t ((opd_tmp (u75.get)).trans (congrArg (fun b => some (V.bool b)) h76)) ?_
                refine w2_seq ?_
                refine w2_region ?_
                refine wpO_do (v := .int .i64 (0)) rfl (want_free rfl) rfl (ltn n75 (by decide)) (ev_assign rfl rfl) fun f77 u77 => ?_
                have n77 := u77.n.trans n75; have s77 := u77.ds.trans s75
                refine wpO_do (v := .bool (false)) rfl (want_free rfl) rfl (ltn n77 (by decide)) (ev_assign rfl rfl) fun f78 u78 => ?_
                have n78 := u78.n.trans n77; have s78 := u78.ds.trans s77
                refine wpO_nil ?_
                refine thenQ_go ?_
                refine w2_ret ?_
                refine blockQ_rt ?_
                refine thenQ_rt ?_
                refine thenQ_rt ?_
                refine blockQ_rt ?_
                refine thenQ_rt ?_
                refine ⟨.inr rfl, _, ends0 s78, _, (res_tmp (u78.ne u77.get) (res_tmp (u78.get) res_nil)), ?_⟩
                exact ⟨by rw [num_fail (i := i) (by omega) (by omega) hn]; rfl, rfl⟩
              ·
                have h76p := of_decide_eq_false h76
                refine w2_cond_f ((opd_tmp (u75.get)).trans (congrArg (fun b => some (V.bool b)) h76)) ?_
                refine w2_skip ?_
                refine blockQ_go ?_
                refine thenQ_go ?_
                refine w2_region ?_
                refine wpO_do (v := .int .i64 (((i : Int)) + (1))) rfl (want_free rfl) rfl (ltn n75 (by decide)) (ev_binI rfl (by decide) (opd_tmp (u75.ne (u74.ne (u73.ne (u72.ne (u71.ne (u70.ne (u69.ne (u67.ne (u66.ne (u65.ne (u64.ne (u60.ne (u59.ne (u58.ne (u56.ne (u55.ne (u46.ne (u45.ne (u44.ne (u42.ne (u41.ne (u40.ne (u39.ne (u37.ne (a36_20)))))))))))))))))))))))))) rfl (add64 (by omega) (by omega))) fun f79 u79 => ?_
                have n79 := u79.n.trans n75; have s79 := u79.ds.trans s75
                refine wpO_do (v := .int .i64 (((i : Int)) + (1))) rfl (want_free rfl) rfl (ltn n79 (by decide)) (ev_move rfl (opd_tmp (u79.get))) fun f80 u80 => ?_
                have n80 := u80.n.trans n79; have s80 := u80.ds.trans s79
                refine wpO_nil ?_
                refine thenQ_go ?_
                refine ⟨_, ?_, rfl, n80, s80, i + 1, 10 * n + (byteI s i - 48), rfl, by omega, by omega, by omega, num_step (by omega) (by omega) (by omega) (by omega) hn, (u80.ne (u79.ne (u75.ne (u74.ne (u73.ne (u72.ne (u71.ne (u70.ne (u69.ne (u67.ne (u66.ne (u65.ne (u64.ne (u60.ne (u59.ne (u58.ne (u56.ne (u55.ne (u46.ne (u45.ne (u44.ne (u42.ne (u41.ne (u40.ne (u39.ne (u37.ne (a36_0))))))))))))))))))))))))))).trans (by first | rfl | (congr 2; omega) | simp), (u80.ne (u79.ne (u75.ne (u74.ne u73.get)))).trans (by first | rfl | (congr 2; omega) | simp), (u80.ne (u79.ne (u75.ne (u74.ne (u73.ne (u72.ne (u71.ne (u70.ne (u69.ne (u67.ne (u66.ne (u65.ne (u64.ne (u60.ne (u59.ne (u58.ne (u56.ne (u55.ne (u46.ne (u45.ne (u44.ne (u42.ne (u41.ne (u40.ne (u39.ne (u37.ne (a36_19))))))))))))))))))))))))))).trans (by first | rfl | (congr 2; omega) | simp), (u80.get).trans (by first | rfl | (congr 2; omega) | simp)⟩
                omega
        ·
          have h38p := of_decide_eq_false h38
          refine w2_cond_f ((opd_tmp (u37.get)).trans (congrArg (fun b => some (V.bool b)) h38)) ?_
          refine w2_exit ?_
          refine thenQ_ex ?_
          refine thenQ_ex ?_
          refine blockQ_hit ?_
          refine thenQ_go ?_
          refine w2_seq ?_
          refine w2_region ?_
          refine wpO_do (v := .int .i64 (n)) rfl (want_free rfl) rfl (ltn n37 (by decide)) (ev_move rfl (opd_tmp (u37.ne (a36_4)))) fun f81 u81 => ?_
          have n81 := u81.n.trans n37; have s81 := u81.ds.trans s37
          refine wpO_do (v := .int .i64 (n)) rfl (want_free rfl) rfl (ltn n81 (by decide)) (ev_assign rfl (opd_tmp (u81.get))) fun f82 u82 => ?_
          have n82 := u82.n.trans n81; have s82 := u82.ds.trans s81
          refine wpO_do (v := .bool (true)) rfl (want_free rfl) rfl (ltn n82 (by decide)) (ev_assign rfl rfl) fun f83 u83 => ?_
          have n83 := u83.n.trans n82; have s83 := u83.ds.trans s82
          refine wpO_nil ?_
          refine thenQ_go ?_
          refine w2_ret ?_
          refine ⟨.inr rfl, _, ends0 s83, _, (res_tmp (u83.ne u82.get) (res_tmp (u83.get) res_nil)), ?_⟩
          have hE := num_end (i := i) (by omega) hn; exact ⟨by rw [hE]; rfl, rfl⟩
    ·
      have h23p := beq_f h23
      refine wpO_pass rfl (want_no rfl rfl ((u22.get).trans (congrArg (fun b => some (V.bool b)) h23))) rfl (ltn n22 (by decide)) fun f84 u84 => ?_
      have n84 := u84.n.trans n22; have s84 := u84.ds.trans s22
      refine wpO_pass rfl (want_no rfl rfl ((u84.ne u22.get).trans (congrArg (fun b => some (V.bool b)) h23))) rfl (ltn n84 (by decide)) fun f85 u85 => ?_
      have n85 := u85.n.trans n84; have s85 := u85.ds.trans s84
      refine wpO_pass rfl (want_no rfl rfl ((u85.ne (u84.ne u22.get)).trans (congrArg (fun b => some (V.bool b)) h23))) rfl (ltn n85 (by decide)) fun f86 u86 => ?_
      have n86 := u86.n.trans n85; have s86 := u86.ds.trans s85
      refine wpO_do (v := .bool (false)) rfl (want_yes rfl rfl ((u86.ne (u85.ne (u84.ne (u22.ne (u21.ne (u20.ne (u18.ne u5.get))))))).trans (congrArg (fun b => some (V.bool b)) h6))) rfl (ltn n86 (by decide)) (ev_pick_f rfl ((opd_tmp (u86.ne (u85.ne (u84.ne u22.get)))).trans (congrArg (fun b => some (V.bool b)) h23)) rfl) fun f87 u87 => ?_
      have n87 := u87.n.trans n86; have s87 := u87.ds.trans s86
      refine wpO_do (v := .bool (false)) rfl (want_free rfl) rfl (ltn n87 (by decide)) (ev_pick_f rfl ((opd_tmp (u87.ne (u86.ne (u85.ne (u84.ne (u22.ne (u21.ne (u20.ne (u18.ne u5.get))))))))).trans (congrArg (fun b => some (V.bool b)) h6)) (opd_tmp (u87.get))) fun f88 u88 => ?_
      have n88 := u88.n.trans n87; have s88 := u88.ds.trans s87
      refine wpO_nil ?_
      refine thenQ_go ?_
      refine w2_cond_f (opd_tmp (u88.get)) ?_
      refine w2_skip ?_
      refine thenQ_go ?_
      refine w2_seq ?_
      refine w2_region ?_
      refine wpO_do (v := .int .i64 (0)) rfl (want_free rfl) rfl (ltn n88 (by decide)) (ev_assign rfl rfl) fun f89 u89 => ?_
      have n89 := u89.n.trans n88; have s89 := u89.ds.trans s88
      refine wpO_nil ?_
      refine thenQ_go ?_
      refine w2_seq ?_
      refine w2_seq ?_
      refine w2_region ?_
      refine wpO_do (v := .str (s)) rfl (want_free rfl) rfl (ltn n89 (by decide)) (ev_move rfl (opd_tmp (u89.ne (u88.ne (u87.ne (u86.ne (u85.ne (u84.ne (u22.ne (u21.ne (u20.ne (u18.ne (u5.ne (u4.ne (u3.ne (u2.ne (u1.ne (a0)))))))))))))))))) fun f90 u90 => ?_
      have n90 := u90.n.trans n89; have s90 := u90.ds.trans s89
      refine wpO_do (v := .int .i64 (((s).length : Int))) rfl (want_free rfl) rfl (ltn n90 (by decide)) (ev_lenS rfl rfl rfl rfl ty9 rfl (opd_tmp (u90.get))) fun f91 u91 => ?_
      have n91 := u91.n.trans n90; have s91 := u91.ds.trans s90
      refine wpO_do (v := .int .i64 (0)) rfl (want_free rfl) rfl (ltn n91 (by decide)) (ev_move rfl rfl) fun f92 u92 => ?_
      have n92 := u92.n.trans n91; have s92 := u92.ds.trans s91
      refine wpO_nil ?_
      refine thenQ_go ?_
      refine w2_block ?_
      refine w2_loop (fun m fr H1 => H1 = H ∧ fr.n = 45 ∧ fr.defers = [] ∧ ∃ (i : Nat) (n : Int), m = s.length - i ∧ i ≤ s.length ∧ 0 ≤ n ∧ n ≤ 1099511627776 ∧ numL s = numGo (s.drop i) n ∧ fr.tmp 0 = some (.str (s)) ∧ fr.tmp 4 = some (.int .i64 (n)) ∧ fr.tmp 19 = some (.int .i64 (s.length)) ∧ fr.tmp 20 = some (.int .i64 ((i : Int)))) (m := s.length) ⟨rfl, n92, s92, 0, 0, rfl, Nat.zero_le _, by omega, by omega, num_start (by omega), (u92.ne (u91.ne (u90.ne (u89.ne (u88.ne (u87.ne (u86.ne (u85.ne (u84.ne (u22.ne (u21.ne (u20.ne (u18.ne (u5.ne (u4.ne (u3.ne (u2.ne (u1.ne (a0))))))))))))))))))).trans (by first | rfl | (congr 2; omega) | simp), (u92.ne (u91.ne (u90.ne u89.get))).trans (by first | rfl | (congr 2; omega) | simp), (u92.ne u91.get).trans (by first | rfl | (congr 2; omega) | simp), (u92.get).trans (by first | rfl | (congr 2; omega) | simp)⟩ ?_
      rintro m93 g93 _ ⟨rfl, n93, s93, i, n, rfl, hi, hn0, hn1, hn, a93_0, a93_4, a93_19, a93_20⟩
      refine w2_seq ?_
      refine w2_region ?_
      refine wpO_do (v := .bool (decide (((i : Int) : Int) < (s.length : Int)))) rfl (want_free rfl) rfl (ltn n93 (by decide)) (ev_binI rfl (by decide) (opd_tmp (a93_20)) (opd_tmp (a93_19)) rfl) fun f94 u94 => ?_
      have n94 := u94.n.trans n93; have s94 := u94.ds.trans s93
      refine wpO_nil ?_
      refine thenQ_go ?_
      refine w2_seq ?_
      rcases Bool.eq_false_or_eq_true (decide (((i : Int) : Int) < (s.length : Int))) with h95 | h95
      ·
        have h95p := of_decide_eq_true h95
        refine w2_cond_t ((opd_tmp (u94.get)).trans (congrArg (fun b => some (V.bool b)) h95)) ?_
        refine w2_skip ?_
        refine thenQ_go ?_
        refine w2_seq ?_
        refine w2_block ?_
        refine w2_seq ?_
        refine w2_region ?_
        refine wpO_do (v := .int .i64 ((i : Int))) rfl (want_free rfl) rfl (ltn n94 (by decide)) (ev_move rfl (opd_tmp (u94.ne (a93_20)))) fun f96 u96 => ?_
        have n96 := u96.n.trans n94; have s96 := u96.ds.trans s94
        refine wpO_do (v := .int .i64 ((i : Int))) rfl (want_free rfl) rfl (ltn n96 (by decide)) (ev_assign rfl (opd_tmp (u96.get))) fun f97 u97 => ?_
        have n97 := u97.n.trans n96; have s97 := u97.ds.trans s96
        refine wpO_nil ?_
        refine thenQ_go ?_
        refine w2_seq ?_
        refine w2_seq ?_
        refine w2_region ?_
        refine wpO_do (v := .str (s)) rfl (want_free rfl) rfl (ltn n97 (by decide)) (ev_move rfl (opd_tmp (u97.ne (u96.ne (u94.ne (a93_0)))))) fun f98 u98 => ?_
        have n98 := u98.n.trans n97; have s98 := u98.ds.trans s97
        refine wpO_do (v := .int .i64 ((i : Int))) rfl (want_free rfl) rfl (ltn n98 (by decide)) (ev_move rfl (opd_tmp (u98.ne u97.get))) fun f99 u99 => ?_
        have n99 := u99.n.trans n98; have s99 := u99.ds.trans s98
        have q100 := byteI_bd (s) ((i : Int))
        refine wpO_do (v := .int .u8 (byteI (s) ((i : Int)))) rfl (want_free rfl) rfl (ltn n99 (by decide)) (ev_indexB rfl ty9 rfl (opd_tmp (u99.ne u98.get)) (opd_tmp (u99.get)) (by omega) (by omega)) fun f101 u101 => ?_
        have n101 := u101.n.trans n99; have s101 := u101.ds.trans s99
        refine wpO_do (v := .bool (decide ((byteI (s) ((i : Int)) : Int) < (48 : Int)))) rfl (want_free rfl) rfl (ltn n101 (by decide)) (ev_binI rfl (by decide) (opd_tmp (u101.get)) rfl rfl) fun f102 u102 => ?_
        have n102 := u102.n.trans n101; have s102 := u102.ds.trans s101
        refine wpO_do (v := .bool (decide ((byteI (s) ((i : Int)) : Int) < (48 : Int)))) rfl (want_free rfl) rfl (ltn n102 (by decide)) (ev_move rfl (opd_tmp (u102.get))) fun f103 u103 => ?_
        have n103 := u103.n.trans n102; have s103 := u103.ds.trans s102
        rcases Bool.eq_false_or_eq_true (decide ((byteI (s) ((i : Int)) : Int) < (48 : Int))) with h104 | h104
        ·
          have h104p := of_decide_eq_true h104
          refine wpO_pass rfl (want_no rfl rfl ((u103.get).trans (congrArg (fun b => some (V.bool b)) h104))) rfl (ltn n103 (by decide)) fun f105 u105 => ?_
          have n105 := u105.n.trans n103; have s105 := u105.ds.trans s103
          refine wpO_pass rfl (want_no rfl rfl ((u105.ne u103.get).trans (congrArg (fun b => some (V.bool b)) h104))) rfl (ltn n105 (by decide)) fun f106 u106 => ?_
          have n106 := u106.n.trans n105; have s106 := u106.ds.trans s105
          refine wpO_pass rfl (want_no rfl rfl ((u106.ne (u105.ne u103.get)).trans (congrArg (fun b => some (V.bool b)) h104))) rfl (ltn n106 (by decide)) fun f107 u107 => ?_
          have n107 := u107.n.trans n106; have s107 := u107.ds.trans s106
          refine wpO_pass rfl (want_no rfl rfl ((u107.ne (u106.ne (u105.ne u103.get))).trans (congrArg (fun b => some (V.bool b)) h104))) rfl (ltn n107 (by decide)) fun f108 u108 => ?_
          have n108 := u108.n.trans n107; have s108 := u108.ds.trans s107
          refine wpO_do (v := .bool (true)) rfl (want_free rfl) rfl (ltn n108 (by decide)) (ev_pick_t rfl ((opd_tmp (u108.ne (u107.ne (u106.ne (u105.ne u103.get))))).trans (congrArg (fun b => some (V.bool b)) h104)) rfl) fun f109 u109 => ?_
          have n109 := u109.n.trans n108; have s109 := u109.ds.trans s108
          refine wpO_nil ?_
          refine thenQ_go ?_
          refine w2_cond_t (opd_tmp (u109.get)) ?_
          refine w2_seq ?_
          refine w2_region ?_
          refine wpO_do (v := .int .i64 (0)) rfl (want_free rfl) rfl (ltn n109 (by decide)) (ev_assign rfl rfl) fun f110 u110 => ?_
          have n110 := u110.n.trans n109; have s110 := u110.ds.trans s109
          refine wpO_do (v := .bool (false)) rfl (want_free rfl) rfl (ltn n110 (by decide)) (ev_assign rfl rfl) fun f111 u111 => ?_
          have n111 := u111.n.trans n110; have s111 := u111.ds.trans s110
          refine wpO_nil ?_
          refine thenQ_go ?_
          refine w2_ret ?_
          refine thenQ_rt ?_
          refine blockQ_rt ?_
          refine thenQ_rt ?_
          refine thenQ_rt ?_
          refine blockQ_rt ?_
          refine thenQ_rt ?_
          refine ⟨.inr rfl, _, ends0 s111, _, (res_tmp (u111.ne u110.get) (res_tmp (u111.get) res_nil)), ?_⟩
          exact ⟨by rw [num_fail (i := i) (by omega) (by omega) hn]; rfl, rfl⟩
        ·
          have h104p := of_decide_eq_false h104
          refine wpO_do (v := .str (s)) rfl (want_yes rfl rfl ((u103.get).trans (congrArg (fun b => some (V.bool b)) h104))) rfl (ltn n103 (by decide)) (ev_move rfl (opd_tmp (u103.ne (u102.ne (u101.ne (u99.ne (u98.ne (u97.ne (u96.ne (u94.ne (a93_0))))))))))) fun f112 u112 => ?_
          have n112 := u112.n.trans n103; have s112 := u112.ds.trans s103
          refine wpO_do (v := .int .i64 ((i : Int))) rfl (want_yes rfl rfl ((u112.ne u103.get).trans (congrArg (fun b => some (V.bool b)) h104))) rfl (ltn n112 (by decide)) (ev_move rfl (opd_tmp (u112.ne (u103.ne (u102.ne (u101.ne (u99.ne (u98.ne u97.get)))))))) fun f113 u113 => ?_
          have n113 := u113.n.trans n112; have s113 := u113.ds.trans s112
          have q114 := byteI_bd (s) ((i : Int))
          refine wpO_do (v := .int .u8 (byteI (s) ((i : Int)))) rfl (want_yes rfl rfl ((u113.ne (u112.ne u103.get)).trans (congrArg (fun b => some (V.bool b)) h104))) rfl (ltn n113 (by decide)) (ev_indexB rfl ty9 rfl (opd_tmp (u113.ne u112.get)) (opd_tmp (u113.get)) (by omega) (by omega)) fun f115 u115 => ?_
          have n115 := u115.n.trans n113; have s115 := u115.ds.trans s113
          refine wpO_do (v := .bool (decide ((byteI (s) ((i : Int)) : Int) > (57 : Int)))) rfl (want_yes rfl rfl ((u115.ne (u113.ne (u112.ne u103.get))).trans (congrArg (fun b => some (V.bool b)) h104))) rfl (ltn n115 (by decide)) (ev_binI rfl (by decide) (opd_tmp (u115.get)) rfl rfl) fun f116 u116 => ?_
          have n116 := u116.n.trans n115; have s116 := u116.ds.trans s115
          refine wpO_do (v := .bool (decide ((byteI (s) ((i : Int)) : Int) > (57 : Int)))) rfl (want_free rfl) rfl (ltn n116 (by decide)) (ev_pick_f rfl ((opd_tmp (u116.ne (u115.ne (u113.ne (u112.ne u103.get))))).trans (congrArg (fun b => some (V.bool b)) h104)) (opd_tmp (u116.get))) fun f117 u117 => ?_
          have n117 := u117.n.trans n116; have s117 := u117.ds.trans s116
          refine wpO_nil ?_
          refine thenQ_go ?_
          rcases Bool.eq_false_or_eq_true (decide ((byteI (s) ((i : Int)) : Int) > (57 : Int))) with h118 | h118
          ·
            have h118p := of_decide_eq_true h118
            refine w2_cond_t ((opd_tmp (u117.get)).trans (congrArg (fun b => some (V.bool b)) h118)) ?_
            refine w2_seq ?_
            refine w2_region ?_
            refine wpO_do (v := .int .i64 (0)) rfl (want_free rfl) rfl (ltn n117 (by decide)) (ev_assign rfl rfl) fun f119 u119 => ?_
            have n119 := u119.n.trans n117; have s119 := u119.ds.trans s117
            refine wpO_do (v := .bool (false)) rfl (want_free rfl) rfl (ltn n119 (by decide)) (ev_assign rfl rfl) fun f120 u120 => ?_
            have n120 := u120.n.trans n119; have s120 := u120.ds.trans s119
            refine wpO_nil ?_
            refine thenQ_go ?_
            refine w2_ret ?_
            refine thenQ_rt ?_
            refine blockQ_rt ?_
            refine thenQ_rt ?_
            refine thenQ_rt ?_
            refine blockQ_rt ?_
            refine thenQ_rt ?_
            refine ⟨.inr rfl, _, ends0 s120, _, (res_tmp (u120.ne u119.get) (res_tmp (u120.get) res_nil)), ?_⟩
            exact ⟨by rw [num_fail (i := i) (by omega) (by omega) hn]; rfl, rfl⟩
          ·
            have h118p := of_decide_eq_false h118
            refine w2_cond_f ((opd_tmp (u117.get)).trans (congrArg (fun b => some (V.bool b)) h118)) ?_
            refine w2_skip ?_
            refine thenQ_go ?_
            refine w2_seq ?_
            refine w2_region ?_
            refine wpO_do (v := .int .i64 (n)) rfl (want_free rfl) rfl (ltn n117 (by decide)) (ev_move rfl (opd_tmp (u117.ne (u116.ne (u115.ne (u113.ne (u112.ne (u103.ne (u102.ne (u101.ne (u99.ne (u98.ne (u97.ne (u96.ne (u94.ne (a93_4)))))))))))))))) fun f121 u121 => ?_
            have n121 := u121.n.trans n117; have s121 := u121.ds.trans s117
            refine wpO_do (v := .int .i64 ((10) * (n))) rfl (want_free rfl) rfl (ltn n121 (by decide)) (ev_binI rfl (by decide) rfl (opd_tmp (u121.get)) (mul64 (by omega) (by omega))) fun f122 u122 => ?_
            have n122 := u122.n.trans n121; have s122 := u122.ds.trans s121
            refine wpO_do (v := .str (s)) rfl (want_free rfl) rfl (ltn n122 (by decide)) (ev_move rfl (opd_tmp (u122.ne (u121.ne (u117.ne (u116.ne (u115.ne (u113.ne (u112.ne (u103.ne (u102.ne (u101.ne (u99.ne (u98.ne (u97.ne (u96.ne (u94.ne (a93_0)))))))))))))))))) fun f123 u123 => ?_
            have n123 := u123.n.trans n122; have s123 := u123.ds.trans s122
            refine wpO_do (v := .int .i64 ((i : Int))) rfl (want_free rfl) rfl (ltn n123 (by decide)) (ev_move rfl (opd_tmp (u123.ne (u122.ne (u121.ne (u117.ne (u116.ne (u115.ne (u113.ne (u112.ne (u103.ne (u102.ne (u101.ne (u99.ne (u98.ne u97.get))))))))))))))) fun f124 u124 => ?_
            have n124 := u124.n.trans n123; have s124 := u124.ds.trans s123
            have q125 := byteI_bd (s) ((i : Int))
            refine wpO_do (v := .int .u8 (byteI (s) ((i : Int)))) rfl (want_free rfl) rfl (ltn n124 (by decide)) (ev_indexB rfl ty9 rfl (opd_tmp (u124.ne u123.get)) (opd_tmp (u124.get)) (by omega) (by omega)) fun f126 u126 => ?_
            have n126 := u126.n.trans n124; have s126 := u126.ds.trans s124
            refine wpO_do (v := .int .u8 ((byteI (s) ((i : Int))) - (48))) rfl (want_free rfl) rfl (ltn n126 (by decide)) (ev_binI rfl (by decide) (opd_tmp (u126.get)) rfl (sub8 (by omega) (by omega))) fun f127 u127 => ?_
            have n127 := u127.n.trans n126; have s127 := u127.ds.trans s126
            refine wpO_do (v := .int .i64 ((byteI (s) ((i : Int))) - (48))) rfl (want_free rfl) rfl (ltn n127 (by decide)) (ev_convW rfl ty5 rfl ty3 rfl (opd_tmp (u127.get)) (wrap64 (by omega) (by omega))) fun f128 u128 => ?_
            have n128 := u128.n.trans n127; have s128 := u128.ds.trans s127
            refine wpO_do (v := .int .i64 (((10) * (n)) + ((byteI (s) ((i : Int))) - (48)))) rfl (want_free rfl) rfl (ltn n128 (by decide)) (ev_binI rfl (by decide) (opd_tmp (u128.ne (u127.ne (u126.ne (u124.ne (u123.ne u122.get)))))) (opd_tmp (u128.get)) (add64 (by omega) (by omega))) fun f129 u129 => ?_
            have n129 := u129.n.trans n128; have s129 := u129.ds.trans s128
            refine wpO_do (v := .int .i64 (((10) * (n)) + ((byteI (s) ((i : Int))) - (48)))) rfl (want_free rfl) rfl (ltn n129 (by decide)) (ev_assign rfl (opd_tmp (u129.get))) fun f130 u130 => ?_
            have n130 := u130.n.trans n129; have s130 := u130.ds.trans s129
            refine wpO_nil ?_
            refine thenQ_go ?_
            refine w2_seq ?_
            refine w2_region ?_
            refine wpO_do (v := .int .i64 (((10) * (n)) + ((byteI (s) ((i : Int))) - (48)))) rfl (want_free rfl) rfl (ltn n130 (by decide)) (ev_move rfl (opd_tmp (u130.get))) fun f131 u131 => ?_
            have n131 := u131.n.trans n130; have s131 := u131.ds.trans s130
            refine wpO_do (v := .bool (decide ((((10) * (n)) + ((byteI (s) ((i : Int))) - (48)) : Int) > (1099511627776 : Int)))) rfl (want_free rfl) rfl (ltn n131 (by decide)) (ev_binI rfl (by decide) (opd_tmp (u131.get)) rfl rfl) fun f132 u132 => ?_
            have n132 := u132.n.trans n131; have s132 := u132.ds.trans s131
            refine wpO_nil ?_
            refine thenQ_go ?_
            rcases Bool.eq_false_or_eq_true (decide ((((10) * (n)) + ((byteI (s) ((i : Int))) - (48)) : Int) > (1099511627776 : Int))) with h133 | h133
            ·
              have h133p := of_decide_eq_true h133
              refine w2_cond_t ((opd_tmp (u132.get)).trans (congrArg (fun b => some (V.bool b)) h133)) ?_
              refine w2_seq ?_
              refine w2_region ?_
              refine wpO_do (v := .int .i64 (0)) rfl (want_free rfl) rfl (ltn n132 (by decide)) (ev_assign rfl rfl) fun f134 u134 => ?_
              have n134 := u134.n.trans n132; have s134 := u134.ds.trans s132
              refine wpO_do (v := .bool (false)) rfl (want_free rfl) rfl (ltn n134 (by decide)) (ev_assign rfl rfl) fun f135 u135 => ?_
              have n135 := u135.n.trans n134; have s135 := u135.ds.trans s134
              refine wpO_nil ?_
              refine thenQ_go ?_
              refine w2_ret ?_
              refine blockQ_rt ?_
              refine thenQ_rt ?_
              refine thenQ_rt ?_
              refine blockQ_rt ?_
              refine thenQ_rt ?_
              refine ⟨.inr rfl, _, ends0 s135, _, (res_tmp (u135.ne u134.get) (res_tmp (u135.get) res_nil)), ?_⟩
              exact ⟨by rw [num_fail (i := i) (by omega) (by omega) hn]; rfl, rfl⟩
            ·
              have h133p := of_decide_eq_false h133
              refine w2_cond_f ((opd_tmp (u132.get)).trans (congrArg (fun b => some (V.bool b)) h133)) ?_
              refine w2_skip ?_
              refine blockQ_go ?_
              refine thenQ_go ?_
              refine w2_region ?_
              refine wpO_do (v := .int .i64 (((i : Int)) + (1))) rfl (want_free rfl) rfl (ltn n132 (by decide)) (ev_binI rfl (by decide) (opd_tmp (u132.ne (u131.ne (u130.ne (u129.ne (u128.ne (u127.ne (u126.ne (u124.ne (u123.ne (u122.ne (u121.ne (u117.ne (u116.ne (u115.ne (u113.ne (u112.ne (u103.ne (u102.ne (u101.ne (u99.ne (u98.ne (u97.ne (u96.ne (u94.ne (a93_20)))))))))))))))))))))))))) rfl (add64 (by omega) (by omega))) fun f136 u136 => ?_
              have n136 := u136.n.trans n132; have s136 := u136.ds.trans s132
              refine wpO_do (v := .int .i64 (((i : Int)) + (1))) rfl (want_free rfl) rfl (ltn n136 (by decide)) (ev_move rfl (opd_tmp (u136.get))) fun f137 u137 => ?_
              have n137 := u137.n.trans n136; have s137 := u137.ds.trans s136
              refine wpO_nil ?_
              refine thenQ_go ?_
              refine ⟨_, ?_, rfl, n137, s137, i + 1, 10 * n + (byteI s i - 48), rfl, by omega, by omega, by omega, num_step (by omega) (by omega) (by omega) (by omega) hn, (u137.ne (u136.ne (u132.ne (u131.ne (u130.ne (u129.ne (u128.ne (u127.ne (u126.ne (u124.ne (u123.ne (u122.ne (u121.ne (u117.ne (u116.ne (u115.ne (u113.ne (u112.ne (u103.ne (u102.ne (u101.ne (u99.ne (u98.ne (u97.ne (u96.ne (u94.ne (a93_0))))))))))))))))))))))))))).trans (by first | rfl | (congr 2; omega) | simp), (u137.ne (u136.ne (u132.ne (u131.ne u130.get)))).trans (by first | rfl | (congr 2; omega) | simp), (u137.ne (u136.ne (u132.ne (u131.ne (u130.ne (u129.ne (u128.ne (u127.ne (u126.ne (u124.ne (u123.ne (u122.ne (u121.ne (u117.ne (u116.ne (u115.ne (u113.ne (u112.ne (u103.ne (u102.ne (u101.ne (u99.ne (u98.ne (u97.ne (u96.ne (u94.ne (a93_19))))))))))))))))))))))))))).trans (by first | rfl | (congr 2; omega) | simp), (u137.get).trans (by first | rfl | (congr 2; omega) | simp)⟩
              omega
      ·
        have h95p := of_decide_eq_false h95
        refine w2_cond_f ((opd_tmp (u94.get)).trans (congrArg (fun b => some (V.bool b)) h95)) ?_
        refine w2_exit ?_
        refine thenQ_ex ?_
        refine thenQ_ex ?_
        refine blockQ_hit ?_
        refine thenQ_go ?_
        refine w2_seq ?_
        refine w2_region ?_
        refine wpO_do (v := .int .i64 (n)) rfl (want_free rfl) rfl (ltn n94 (by decide)) (ev_move rfl (opd_tmp (u94.ne (a93_4)))) fun f138 u138 => ?_
        have n138 := u138.n.trans n94; have s138 := u138.ds.trans s94
        refine wpO_do (v := .int .i64 (n)) rfl (want_free rfl) rfl (ltn n138 (by decide)) (ev_assign rfl (opd_tmp (u138.get))) fun f139 u139 => ?_
        have n139 := u139.n.trans n138; have s139 := u139.ds.trans s138
        refine wpO_do (v := .bool (true)) rfl (want_free rfl) rfl (ltn n139 (by decide)) (ev_assign rfl rfl) fun f140 u140 => ?_
        have n140 := u140.n.trans n139; have s140 := u140.ds.trans s139
        refine wpO_nil ?_
        refine thenQ_go ?_
        refine w2_ret ?_
        refine ⟨.inr rfl, _, ends0 s140, _, (res_tmp (u140.ne u139.get) (res_tmp (u140.get) res_nil)), ?_⟩
        have hE := num_end (i := i) (by omega) hn; exact ⟨by rw [hE]; rfl, rfl⟩
theorem numberR_runs (hsp : Quiet sp) (s : List UInt8) (H : Heap) (hl : s.length ≤ 1000000) : CallW (envOf Tryd.prog sp) (.func 17) [.str (s)] H (fun v H' => v = .tuple [.int .i64 (numL s).1, .bool (numL s).2] ∧ H' = H) := by
  refine callW_body (hsp 17 (by decide)) funcs17 rfl ?_
  have a0 : ({ tmps := enterTmps [.str (s)], n := max (List.length (α := V) [.str (s)]) 40, defers := [] } : Fr).tmp 0 = some (.str (s)) := enter_tmp rfl
  have n0 : ({ tmps := enterTmps [.str (s)], n := max (List.length (α := V) [.str (s)]) 40, defers := [] } : Fr).n = 40 := rfl
  have s0 : ({ tmps := enterTmps [.str (s)], n := max (List.length (α := V) [.str (s)]) 40, defers := [] } : Fr).defers = [] := rfl
  generalize ({ tmps := enterTmps [.str (s)], n := max (List.length (α := V) [.str (s)]) 40, defers := [] } : Fr) = f0 at a0 n0 s0 ⊢
  refine w2_seq ?_
  refine w2_region ?_
  refine wpO_do (v := .int .i64 (0)) rfl (want_free rfl) rfl (ltn n0 (by decide)) (ev_assign rfl rfl) fun f1 u1 => ?_
  have n1 := u1.n.trans n0; have s1 := u1.ds.trans s0
  refine wpO_do (v := .bool (false)) rfl (want_free rfl) rfl (ltn n1 (by decide)) (ev_assign rfl rfl) fun f2 u2 => ?_
  have n2 := u2.n.trans n1; have s2 := u2.ds.trans s1
  refine wpO_nil ?_
  refine thenQ_go ?_
  refine w2_seq ?_
  refine w2_seq ?_
  refine w2_region ?_
  refine wpO_do (v := .str (s)) rfl (want_free rfl) rfl (ltn n2 (by decide)) (ev_move rfl (opd_tmp (u2.ne (u1.ne (a0))))) fun f3 u3 => ?_
  have n3 := u3.n.trans n2; have s3 := u3.ds.trans s2
  refine wpO_do (v := .bool ((s == []))) rfl (want_free rfl) rfl (ltn n3 (by decide)) (ev_binS rfl (by decide) (opd_tmp (u3.get)) rfl rfl) fun f4 u4 => ?_
  have n4 := u4.n.trans n3; have s4 := u4.ds.trans s3
  refine wpO_do (v := .bool ((s == []))) rfl (want_free rfl) rfl (ltn n4 (by decide)) (ev_move rfl (opd_tmp (u4.get))) fun f5 u5 => ?_
  have n5 := u5.n.trans n4; have s5 := u5.ds.trans s4
  rcases Bool.eq_false_or_eq_true ((s == [])) with h6 | h6
  ·
    have h6p := nil_t h6
    refine wpO_pass rfl (want_no rfl rfl ((u5.get).trans (congrArg (fun b => some (V.bool b)) h6))) rfl (ltn n5 (by decide)) fun f7 u7 => ?_
    have n7 := u7.n.trans n5; have s7 := u7.ds.trans s5
    refine wpO_pass rfl (want_no rfl rfl ((u7.ne u5.get).trans (congrArg (fun b => some (V.bool b)) h6))) rfl (ltn n7 (by decide)) fun f8 u8 => ?_
    have n8 := u8.n.trans n7; have s8 := u8.ds.trans s7
    refine wpO_pass rfl (want_no rfl rfl ((u8.ne (u7.ne u5.get)).trans (congrArg (fun b => some (V.bool b)) h6))) rfl (ltn n8 (by decide)) fun f9 u9 => ?_
    have n9 := u9.n.trans n8; have s9 := u9.ds.trans s8
    refine wpO_pass rfl (want_no rfl rfl ((u9.ne (u8.ne (u7.ne u5.get))).trans (congrArg (fun b => some (V.bool b)) h6))) rfl (ltn n9 (by decide)) fun f10 u10 => ?_
    have n10 := u10.n.trans n9; have s10 := u10.ds.trans s9
    refine wpO_pass rfl (want_undef rfl rfl (u10.get)) rfl (ltn n10 (by decide)) fun f11 u11 => ?_
    have n11 := u11.n.trans n10; have s11 := u11.ds.trans s10
    refine wpO_pass rfl (want_undef rfl rfl (u11.ne u10.get)) rfl (ltn n11 (by decide)) fun f12 u12 => ?_
    have n12 := u12.n.trans n11; have s12 := u12.ds.trans s11
    refine wpO_pass rfl (want_undef rfl rfl (u12.ne (u11.ne u10.get))) rfl (ltn n12 (by decide)) fun f13 u13 => ?_
    have n13 := u13.n.trans n12; have s13 := u13.ds.trans s12
    refine wpO_pass rfl (want_no rfl rfl ((u13.ne (u12.ne (u11.ne (u10.ne (u9.ne (u8.ne (u7.ne u5.get))))))).trans (congrArg (fun b => some (V.bool b)) h6))) rfl (ltn n13 (by decide)) fun f14 u14 => ?_
    have n14 := u14.n.trans n13; have s14 := u14.ds.trans s13
    refine wpO_do (v := .bool (true)) rfl (want_free rfl) rfl (ltn n14 (by decide)) (ev_pick_t rfl ((opd_tmp (u14.ne (u13.ne (u12.ne (u11.ne (u10.ne (u9.ne (u8.ne (u7.ne u5.get))))))))).trans (congrArg (fun b => some (V.bool b)) h6)) rfl) fun f15 u15 => ?_
    have n15 := u15.n.trans n14; have s15 := u15.ds.trans s14
    refine wpO_nil ?_
    refine thenQ_go ?_
    refine w2_cond_t (opd_tmp (u15.get)) ?_
    refine w2_seq ?_
    refine w2_region ?_
    refine wpO_do (v := .int .i64 (0)) rfl (want_free rfl) rfl (ltn n15 (by decide)) (ev_assign rfl rfl) fun f16 u16 => ?_
    have n16 := u16.n.trans n15; have s16 := u16.ds.trans s15
    refine wpO_do (v := .bool (false)) rfl (want_free rfl) rfl (ltn n16 (by decide)) (ev_assign rfl rfl) fun f17 u17 => ?_
    have n17 := u17.n.trans n16; have s17 := u17.ds.trans s16
    refine wpO_nil ?_
    refine thenQ_go ?_
    refine w2_ret ?_
    refine thenQ_rt ?_
    refine ⟨.inr rfl, _, ends0 s17, _, (res_tmp (u17.ne u16.get) (res_tmp (u17.get) res_nil)), ?_⟩
    exact ⟨by rw [num_none (by omega)]; rfl, rfl⟩
  ·
    have h6p := nil_f h6
    refine wpO_do (v := .str (s)) rfl (want_yes rfl rfl ((u5.get).trans (congrArg (fun b => some (V.bool b)) h6))) rfl (ltn n5 (by decide)) (ev_move rfl (opd_tmp (u5.ne (u4.ne (u3.ne (u2.ne (u1.ne (a0)))))))) fun f18 u18 => ?_
    have n18 := u18.n.trans n5; have s18 := u18.ds.trans s5
    have q19 := byteI_bd (s) (0)
    refine wpO_do (v := .int .u8 (byteI (s) (0))) rfl (want_yes rfl rfl ((u18.ne u5.get).trans (congrArg (fun b => some (V.bool b)) h6))) rfl (ltn n18 (by decide)) (ev_indexB rfl ty9 rfl (opd_tmp (u18.get)) rfl (by omega) (by omega)) fun f20 u20 => ?_
    have n20 := u20.n.trans n18; have s20 := u20.ds.trans s18
    refine wpO_do (v := .bool ((byteI (s) (0) : Int) == (48 : Int))) rfl (want_yes rfl rfl ((u20.ne (u18.ne u5.get)).trans (congrArg (fun b => some (V.bool b)) h6))) rfl (ltn n20 (by decide)) (ev_binI rfl (by decide) (opd_tmp (u20.get)) rfl rfl) fun f21 u21 => ?_
    have n21 := u21.n.trans n20; have s21 := u21.ds.trans s20
    refine wpO_do (v := .bool ((byteI (s) (0) : Int) == (48 : Int))) rfl (want_yes rfl rfl ((u21.ne (u20.ne (u18.ne u5.get))).trans (congrArg (fun b => some (V.bool b)) h6))) rfl (ltn n21 (by decide)) (ev_move rfl (opd_tmp (u21.get))) fun f22 u22 => ?_
    have n22 := u22.n.trans n21; have s22 := u22.ds.trans s21
    rcases Bool.eq_false_or_eq_true ((byteI (s) (0) : Int) == (48 : Int)) with h23 | h23
    ·
      have h23p := beq_t h23
      refine wpO_do (v := .str (s)) rfl (want_yes rfl rfl ((u22.get).trans (congrArg (fun b => some (V.bool b)) h23))) rfl (ltn n22 (by decide)) (ev_move rfl (opd_tmp (u22.ne (u21.ne (u20.ne (u18.ne (u5.ne (u4.ne (u3.ne (u2.ne (u1.ne (a0)))))))))))) fun f24 u24 => ?_
      have n24 := u24.n.trans n22; have s24 := u24.ds.trans s22
      refine wpO_do (v := .int .i64 (((s).length : Int))) rfl (want_yes rfl rfl ((u24.ne u22.get).trans (congrArg (fun b => some (V.bool b)) h23))) rfl (ltn n24 (by decide)) (ev_lenS rfl rfl rfl rfl ty9 rfl (opd_tmp (u24.get))) fun f25 u25 => ?_
      have n25 := u25.n.trans n24; have s25 := u25.ds.trans s24
      refine wpO_do (v := .bool (decide ((((s).length : Int) : Int) > (1 : Int)))) rfl (want_yes rfl rfl ((u25.ne (u24.ne u22.get)).trans (congrArg (fun b => some (V.bool b)) h23))) rfl (ltn n25 (by decide)) (ev_binI rfl (by decide) (opd_tmp (u25.get)) rfl rfl) fun f26 u26 => ?_
      have n26 := u26.n.trans n25; have s26 := u26.ds.trans s25
      refine wpO_do (v := .bool (decide ((((s).length : Int) : Int) > (1 : Int)))) rfl (want_yes rfl rfl ((u26.ne (u25.ne (u24.ne (u22.ne (u21.ne (u20.ne (u18.ne u5.get))))))).trans (congrArg (fun b => some (V.bool b)) h6))) rfl (ltn n26 (by decide)) (ev_pick_t rfl ((opd_tmp (u26.ne (u25.ne (u24.ne u22.get)))).trans (congrArg (fun b => some (V.bool b)) h23)) (opd_tmp (u26.get))) fun f27 u27 => ?_
      have n27 := u27.n.trans n26; have s27 := u27.ds.trans s26
      refine wpO_do (v := .bool (decide ((((s).length : Int) : Int) > (1 : Int)))) rfl (want_free rfl) rfl (ltn n27 (by decide)) (ev_pick_f rfl ((opd_tmp (u27.ne (u26.ne (u25.ne (u24.ne (u22.ne (u21.ne (u20.ne (u18.ne u5.get))))))))).trans (congrArg (fun b => some (V.bool b)) h6)) (opd_tmp (u27.get))) fun f28 u28 => ?_
      have n28 := u28.n.trans n27; have s28 := u28.ds.trans s27
      refine wpO_nil ?_
      refine thenQ_go ?_
      rcases Bool.eq_false_or_eq_true (decide ((((s).length : Int) : Int) > (1 : Int))) with h29 | h29
      ·
        have h29p := of_decide_eq_true h29
        refine w2_cond_t ((opd_tmp (u28.get)).trans (congrArg (fun b => some (V.bool b)) h29)) ?_
        refine w2_seq ?_
        refine w2_region ?_
        refine wpO_do (v := .int .i64 (0)) rfl (want_free rfl) rfl (ltn n28 (by decide)) (ev_assign rfl rfl) fun f30 u30 => ?_
        have n30 := u30.n.trans n28; have s30 := u30.ds.trans s28
        refine wpO_do (v := .bool (false)) rfl (want_free rfl) rfl (ltn n30 (by decide)) (ev_assign rfl rfl) fun f31 u31 => ?_
        have n31 := u31.n.trans n30; have s31 := u31.ds.trans s30
        refine wpO_nil ?_
        refine thenQ_go ?_
        refine w2_ret ?_
        refine thenQ_rt ?_
        refine ⟨.inr rfl, _, ends0 s31, _, (res_tmp (u31.ne u30.get) (res_tmp (u31.get) res_nil)), ?_⟩
        exact ⟨by rw [num_none (by omega)]; rfl, rfl⟩
      ·
        have h29p := of_decide_eq_false h29
        refine w2_cond_f ((opd_tmp (u28.get)).trans (congrArg (fun b => some (V.bool b)) h29)) ?_
        refine w2_skip ?_
        refine thenQ_go ?_
        refine w2_seq ?_
        refine w2_region ?_
        refine wpO_do (v := .int .i64 (0)) rfl (want_free rfl) rfl (ltn n28 (by decide)) (ev_assign rfl rfl) fun f32 u32 => ?_
        have n32 := u32.n.trans n28; have s32 := u32.ds.trans s28
        refine wpO_nil ?_
        refine thenQ_go ?_
        refine w2_seq ?_
        refine w2_seq ?_
        refine w2_region ?_
        refine wpO_do (v := .int .i64 (0)) rfl (want_free rfl) rfl (ltn n32 (by decide)) (ev_assign rfl rfl) fun f33 u33 => ?_
        have n33 := u33.n.trans n32; have s33 := u33.ds.trans s32
        refine wpO_nil ?_
        refine thenQ_go ?_
        refine w2_block ?_
        refine w2_loop (fun m fr H1 => H1 = H ∧ fr.n = 40 ∧ fr.defers = [] ∧ ∃ (i : Nat) (n : Int), m = s.length - i ∧ i ≤ s.length ∧ 0 ≤ n ∧ n ≤ 1099511627776 ∧ numL s = numGo (s.drop i) n ∧ fr.tmp 0 = some (.str (s)) ∧ fr.tmp 4 = some (.int .i64 (n)) ∧ fr.tmp 5 = some (.int .i64 ((i : Int)))) (m := s.length) ⟨rfl, n33, s33, 0, 0, rfl, Nat.zero_le _, by omega, by omega, num_start (by omega), (u33.ne (u32.ne (u28.ne (u27.ne (u26.ne (u25.ne (u24.ne (u22.ne (u21.ne (u20.ne (u18.ne (u5.ne (u4.ne (u3.ne (u2.ne (u1.ne (a0))))))))))))))))).trans (by first | rfl | (congr 2; omega) | simp), (u33.ne u32.get).trans (by first | rfl | (congr 2; omega) | simp), (u33.get).trans (by first | rfl | (congr 2; omega) | simp)⟩ ?_
        rintro m34 g34 _ ⟨rfl, n34, s34, i, n, rfl, hi, hn0, hn1, hn, a34_0, a34_4, a34_5⟩
        refine w2_seq ?_
        refine w2_seq ?_
        refine w2_region ?_
        refine wpO_do (v := .int .i64 ((i : Int))) rfl (want_free rfl) rfl (ltn n34 (by decide)) (ev_move rfl (opd_tmp (a34_5))) fun f35 u35 => ?_
        have n35 := u35.n.trans n34; have s35 := u35.ds.trans s34
        refine wpO_do (v := .str (s)) rfl (want_free rfl) rfl (ltn n35 (by decide)) (ev_move rfl (opd_tmp (u35.ne (a34_0)))) fun f36 u36 => ?_
        have n36 := u36.n.trans n35; have s36 := u36.ds.trans s35
        refine wpO_do (v := .int .i64 (((s).length : Int))) rfl (want_free rfl) rfl (ltn n36 (by decide)) (ev_lenS rfl rfl rfl rfl ty9 rfl (opd_tmp (u36.get))) fun f37 u37 => ?_
        have n37 := u37.n.trans n36; have s37 := u37.ds.trans s36
        refine wpO_do (v := .bool (decide (((i : Int) : Int) < (((s).length : Int) : Int)))) rfl (want_free rfl) rfl (ltn n37 (by decide)) (ev_binI rfl (by decide) (opd_tmp (u37.ne (u36.ne u35.get))) (opd_tmp (u37.get)) rfl) fun f38 u38 => ?_
        have n38 := u38.n.trans n37; have s38 := u38.ds.trans s37
        refine wpO_nil ?_
        refine thenQ_go ?_
        rcases Bool.eq_false_or_eq_true (decide (((i : Int) : Int) < (((s).length : Int) : Int))) with h39 | h39
        ·
          have h39p := of_decide_eq_true h39
          refine w2_cond_t ((opd_tmp (u38.get)).trans (congrArg (fun b => some (V.bool b)) h39)) ?_
          refine w2_skip ?_
          refine thenQ_go ?_
          refine w2_seq ?_
          refine w2_block ?_
          refine w2_seq ?_
          refine w2_seq ?_
          refine w2_region ?_
          refine wpO_do (v := .str (s)) rfl (want_free rfl) rfl (ltn n38 (by decide)) (ev_move rfl (opd_tmp (u38.ne (u37.ne (u36.ne (u35.ne (a34_0))))))) fun f40 u40 => ?_
          have n40 := u40.n.trans n38; have s40 := u40.ds.trans s38
          refine wpO_do (v := .int .i64 ((i : Int))) rfl (want_free rfl) rfl (ltn n40 (by decide)) (ev_move rfl (opd_tmp (u40.ne (u38.ne (u37.ne (u36.ne (u35.ne (a34_5)))))))) fun f41 u41 => ?_
          have n41 := u41.n.trans n40; have s41 := u41.ds.trans s40
          have q42 := byteI_bd (s) ((i : Int))
          refine wpO_do (v := .int .u8 (byteI (s) ((i : Int)))) rfl (want_free rfl) rfl (ltn n41 (by decide)) (ev_indexB rfl ty9 rfl (opd_tmp (u41.ne u40.get)) (opd_tmp (u41.get)) (by omega) (by omega)) fun f43 u43 => ?_
          have n43 := u43.n.trans n41; have s43 := u43.ds.trans s41
          refine wpO_ask rfl (want_free rfl) rfl (ltn n43 (by decide)) (ev_call rfl rfl rfl (opds_cons (opd_tmp (u43.get)) opds_nil) rfl) (digit_runs hsp (byteI (s) ((i : Int))) _) fun v44 H44 r44 f45 u45 => ?_
          obtain ⟨rfl, rfl⟩ := r44
          have n45 := u45.n.trans n43; have s45 := u45.ds.trans s43
          refine wpO_do (v := .bool (!(digitB (byteI (s) ((i : Int)))))) rfl (want_free rfl) rfl (ltn n45 (by decide)) (ev_not rfl (opd_tmp (u45.get))) fun f46 u46 => ?_
          have n46 := u46.n.trans n45; have s46 := u46.ds.trans s45
          refine wpO_nil ?_
          refine thenQ_go ?_
          rcases Bool.eq_false_or_eq_true (!(digitB (byteI (s) ((i : Int))))) with h47 | h47
          ·
            have h47p := digitB_not.1 (not_t h47)
            refine w2_cond_t ((opd_tmp (u46.get)).trans (congrArg (fun b => some (V.bool b)) h47)) ?_
            refine w2_seq ?_
            refine w2_region ?_
            refine wpO_do (v := .int .i64 (0)) rfl (want_free rfl) rfl (ltn n46 (by decide)) (ev_assign rfl rfl) fun f48 u48 => ?_
            have n48 := u48.n.trans n46; have s48 := u48.ds.trans s46
            refine wpO_do (v := .bool (false)) rfl (want_free rfl) rfl (ltn n48 (by decide)) (ev_assign rfl rfl) fun f49 u49 => ?_
            have n49 := u49.n.trans n48; have s49 := u49.ds.trans s48
            refine wpO_nil ?_
            refine thenQ_go ?_
            refine w2_ret ?_
            refine thenQ_rt ?_
            refine blockQ_rt ?_
            refine thenQ_rt ?_
            refine thenQ_rt ?_
            refine blockQ_rt ?_
            refine thenQ_rt ?_
            refine ⟨.inr rfl, _, ends0 s49, _, (res_tmp (u49.ne u48.get) (res_tmp (u49.get) res_nil)), ?_⟩
            exact ⟨by rw [num_fail (i := i) (by omega) (by omega) hn]; rfl, rfl⟩
          ·
            have h47p := digitB_iff.1 (not_f h47)
            refine w2_cond_f ((opd_tmp (u46.get)).trans (congrArg (fun b => some (V.bool b)) h47)) ?_
            refine w2_skip ?_
            refine thenQ_go ?_
            refine w2_seq ?_
            refine w2_region ?_
            refine wpO_do (v := .int .i64 (n)) rfl (want_free rfl) rfl (ltn n46 (by decide)) (ev_move rfl (opd_tmp (u46.ne (u45.ne (u43.ne (u41.ne (u40.ne (u38.ne (u37.ne (u36.ne (u35.ne (a34_4)))))))))))) fun f50 u50 => ?_
            have n50 := u50.n.trans n46; have s50 := u50.ds.trans s46
            refine wpO_do (v := .int .i64 ((10) * (n))) rfl (want_free rfl) rfl (ltn n50 (by decide)) (ev_binI rfl (by decide) rfl (opd_tmp (u50.get)) (mul64 (by omega) (by omega))) fun f51 u51 => ?_
            have n51 := u51.n.trans n50; have s51 := u51.ds.trans s50
            refine wpO_do (v := .str (s)) rfl (want_free rfl) rfl (ltn n51 (by decide)) (ev_move rfl (opd_tmp (u51.ne (u50.ne (u46.ne (u45.ne (u43.ne (u41.ne (u40.ne (u38.ne (u37.ne (u36.ne (u35.ne (a34_0)))))))))))))) fun f52 u52 => ?_
            have n52 := u52.n.trans n51; have s52 := u52.ds.trans s51
            refine wpO_do (v := .int .i64 ((i : Int))) rfl (want_free rfl) rfl (ltn n52 (by decide)) (ev_move rfl (opd_tmp (u52.ne (u51.ne (u50.ne (u46.ne (u45.ne (u43.ne (u41.ne (u40.ne (u38.ne (u37.ne (u36.ne (u35.ne (a34_5))))))))))))))) fun f53 u53 => ?_
            have n53 := u53.n.trans n52; have s53 := u53.ds.trans s52
            have q54 := byteI_bd (s) ((i : Int))
            refine wpO_do (v := .int .u8 (byteI (s) ((i : Int)))) rfl (want_free rfl) rfl (ltn n53 (by decide)) (ev_indexB rfl ty9 rfl (opd_tmp (u53.ne u52.get)) (opd_tmp (u53.get)) (by omega) (by omega)) fun f55 u55 => ?_
            have n55 := u55.n.trans n53; have s55 := u55.ds.trans s53
            refine wpO_do (v := .int .u8 ((byteI (s) ((i : Int))) - (48))) rfl (want_free rfl) rfl (ltn n55 (by decide)) (ev_binI rfl (by decide) (opd_tmp (u55.get)) rfl (sub8 (by omega) (by omega))) fun f56 u56 => ?_
            have n56 := u56.n.trans n55; have s56 := u56.ds.trans s55
            refine wpO_do (v := .int .i64 ((byteI (s) ((i : Int))) - (48))) rfl (want_free rfl) rfl (ltn n56 (by decide)) (ev_convW rfl ty5 rfl ty3 rfl (opd_tmp (u56.get)) (wrap64 (by omega) (by omega))) fun f57 u57 => ?_
            have n57 := u57.n.trans n56; have s57 := u57.ds.trans s56
            refine wpO_do (v := .int .i64 (((10) * (n)) + ((byteI (s) ((i : Int))) - (48)))) rfl (want_free rfl) rfl (ltn n57 (by decide)) (ev_binI rfl (by decide) (opd_tmp (u57.ne (u56.ne (u55.ne (u53.ne (u52.ne u51.get)))))) (opd_tmp (u57.get)) (add64 (by omega) (by omega))) fun f58 u58 => ?_
            have n58 := u58.n.trans n57; have s58 := u58.ds.trans s57
            refine wpO_do (v := .int .i64 (((10) * (n)) + ((byteI (s) ((i : Int))) - (48)))) rfl (want_free rfl) rfl (ltn n58 (by decide)) (ev_assign rfl (opd_tmp (u58.get))) fun f59 u59 => ?_
            have n59 := u59.n.trans n58; have s59 := u59.ds.trans s58
            refine wpO_nil ?_
            refine thenQ_go ?_
            refine w2_seq ?_
            refine w2_region ?_
            refine wpO_do (v := .int .i64 (((10) * (n)) + ((byteI (s) ((i : Int))) - (48)))) rfl (want_free rfl) rfl (ltn n59 (by decide)) (ev_move rfl (opd_tmp (u59.get))) fun f60 u60 => ?_
            have n60 := u60.n.trans n59; have s60 := u60.ds.trans s59
            refine wpO_do (v := .bool (decide ((((10) * (n)) + ((byteI (s) ((i : Int))) - (48)) : Int) > (1099511627776 : Int)))) rfl (want_free rfl) rfl (ltn n60 (by decide)) (ev_binI rfl (by decide) (opd_tmp (u60.get)) rfl rfl) fun f61 u61 => ?_
            have n61 := u61.n.trans n60; have s61 := u61.ds.trans s60
            refine wpO_nil ?_
            refine thenQ_go ?_
            rcases Bool.eq_false_or_eq_true (decide ((((10) * (n)) + ((byteI (s) ((i : Int))) - (48)) : Int) > (1099511627776 : Int))) with h62 | h62
            ·
              have h62p := of_decide_eq_true h62
              refine w2_cond_t ((opd_tmp (u61.get)).trans (congrArg (fun b => some (V.bool b)) h62)) ?_
              refine w2_seq ?_
              refine w2_region ?_
              refine wpO_do (v := .int .i64 (0)) rfl (want_free rfl) rfl (ltn n61 (by decide)) (ev_assign rfl rfl) fun f63 u63 => ?_
              have n63 := u63.n.trans n61; have s63 := u63.ds.trans s61
              refine wpO_do (v := .bool (false)) rfl (want_free rfl) rfl (ltn n63 (by decide)) (ev_assign rfl rfl) fun f64 u64 => ?_
              have n64 := u64.n.trans n63; have s64 := u64.ds.trans s63
              refine wpO_nil ?_
              refine thenQ_go ?_
              refine w2_ret ?_
              refine blockQ_rt ?_
              refine thenQ_rt ?_
              refine thenQ_rt ?_
              refine blockQ_rt ?_
              refine thenQ_rt ?_
              refine ⟨.inr rfl, _, ends0 s64, _, (res_tmp (u64.ne u63.get) (res_tmp (u64.get) res_nil)), ?_⟩
              exact ⟨by rw [num_fail (i := i) (by omega) (by omega) hn]; rfl, rfl⟩
            ·
              have h62p := of_decide_eq_false h62
              refine w2_cond_f ((opd_tmp (u61.get)).trans (congrArg (fun b => some (V.bool b)) h62)) ?_
              refine w2_skip ?_
              refine blockQ_go ?_
              refine thenQ_go ?_
              refine w2_region ?_
              refine wpO_do (v := .int .i64 ((i : Int))) rfl (want_free rfl) rfl (ltn n61 (by decide)) (ev_move rfl (opd_tmp (u61.ne (u60.ne (u59.ne (u58.ne (u57.ne (u56.ne (u55.ne (u53.ne (u52.ne (u51.ne (u50.ne (u46.ne (u45.ne (u43.ne (u41.ne (u40.ne (u38.ne (u37.ne (u36.ne (u35.ne (a34_5))))))))))))))))))))))) fun f65 u65 => ?_
              have n65 := u65.n.trans n61; have s65 := u65.ds.trans s61
              refine wpO_do (v := .int .i64 (((i : Int)) + (1))) rfl (want_free rfl) rfl (ltn n65 (by decide)) (ev_binI rfl (by decide) (opd_tmp (u65.get)) rfl (add64 (by omega) (by omega))) fun f66 u66 => ?_
              have n66 := u66.n.trans n65; have s66 := u66.ds.trans s65
              refine wpO_do (v := .int .i64 (((i : Int)) + (1))) rfl (want_free rfl) rfl (ltn n66 (by decide)) (ev_assign rfl (opd_tmp (u66.get))) fun f67 u67 => ?_
              have n67 := u67.n.trans n66; have s67 := u67.ds.trans s66
              refine wpO_nil ?_
              refine thenQ_go ?_
              refine ⟨_, ?_, rfl, n67, s67, i + 1, 10 * n + (byteI s i - 48), rfl, by omega, by omega, by omega, num_step (by omega) (by omega) (by omega) (by omega) hn, (u67.ne (u66.ne (u65.ne (u61.ne (u60.ne (u59.ne (u58.ne (u57.ne (u56.ne (u55.ne (u53.ne (u52.ne (u51.ne (u50.ne (u46.ne (u45.ne (u43.ne (u41.ne (u40.ne (u38.ne (u37.ne (u36.ne (u35.ne (a34_0)))))))))))))))))))))))).trans (by first | rfl | (congr 2; omega) | simp), (u67.ne (u66.ne (u65.ne (u61.ne (u60.ne u59.get))))).trans (by first | rfl | (congr 2; omega) | simp), (u67.get).trans (by first | rfl | (congr 2; omega) | simp)⟩
              omega
        ·
          have h39p := of_decide_eq_false h39
          refine w2_cond_f ((opd_tmp (u38.get)).trans (congrArg (fun b => some (V.bool b)) h39)) ?_
          refine w2_exit ?_
          refine thenQ_ex ?_
          refine thenQ_ex ?_
          refine blockQ_hit ?_
          refine thenQ_go ?_
          refine w2_seq ?_
          refine w2_region ?_
          refine wpO_do (v := .int .i64 (n)) rfl (want_free rfl) rfl (ltn n38 (by decide)) (ev_move rfl (opd_tmp (u38.ne (u37.ne (u36.ne (u35.ne (a34_4))))))) fun f68 u68 => ?_
          have n68 := u68.n.trans n38; have s68 := u68.ds.trans s38
          refine wpO_do (v := .int .i64 (n)) rfl (want_free rfl) rfl (ltn n68 (by decide)) (ev_assign rfl (opd_tmp (u68.get))) fun f69 u69 => ?_
          have n69 := u69.n.trans n68; have s69 := u69.ds.trans s68
          refine wpO_do (v := .bool (true)) rfl (want_free rfl) rfl (ltn n69 (by decide)) (ev_assign rfl rfl) fun f70 u70 => ?_
          have n70 := u70.n.trans n69; have s70 := u70.ds.trans s69
          refine wpO_nil ?_
          refine thenQ_go ?_
          refine w2_ret ?_
          refine ⟨.inr rfl, _, ends0 s70, _, (res_tmp (u70.ne u69.get) (res_tmp (u70.get) res_nil)), ?_⟩
          have hE := num_end (i := i) (by omega) hn; exact ⟨by rw [hE]; rfl, rfl⟩
    ·
      have h23p := beq_f h23
      refine wpO_pass rfl (want_no rfl rfl ((u22.get).trans (congrArg (fun b => some (V.bool b)) h23))) rfl (ltn n22 (by decide)) fun f71 u71 => ?_
      have n71 := u71.n.trans n22; have s71 := u71.ds.trans s22
      refine wpO_pass rfl (want_no rfl rfl ((u71.ne u22.get).trans (congrArg (fun b => some (V.bool b)) h23))) rfl (ltn n71 (by decide)) fun f72 u72 => ?_
      have n72 := u72.n.trans n71; have s72 := u72.ds.trans s71
      refine wpO_pass rfl (want_no rfl rfl ((u72.ne (u71.ne u22.get)).trans (congrArg (fun b => some (V.bool b)) h23))) rfl (ltn n72 (by decide)) fun f73 u73 => ?_
      have n73 := u73.n.trans n72; have s73 := u73.ds.trans s72
      refine wpO_do (v := .bool (false)) rfl (want_yes rfl rfl ((u73.ne (u72.ne (u71.ne (u22.ne (u21.ne (u20.ne (u18.ne u5.get))))))).trans (congrArg (fun b => some (V.bool b)) h6))) rfl (ltn n73 (by decide)) (ev_pick_f rfl ((opd_tmp (u73.ne (u72.ne (u71.ne u22.get)))).trans (congrArg (fun b => some (V.bool b)) h23)) rfl) fun f74 u74 => ?_
      have n74 := u74.n.trans n73; have s74 := u74.ds.trans s73
      refine wpO_do (v := .bool (false)) rfl (want_free rfl) rfl (ltn n74 (by decide)) (ev_pick_f rfl ((opd_tmp (u74.ne (u73.ne (u72.ne (u71.ne (u22.ne (u21.ne (u20.ne (u18.ne u5.get))))))))).trans (congrArg (fun b => some (V.bool b)) h6)) (opd_tmp (u74.get))) fun f75 u75 => ?_
      have n75 := u75.n.trans n74; have s75 := u75.ds.trans s74
      refine wpO_nil ?_
      refine thenQ_go ?_
      refine w2_cond_f (opd_tmp (u75.get)) ?_
      refine w2_skip ?_
      refine thenQ_go ?_
      refine w2_seq ?_
      refine w2_region ?_
      refine wpO_do (v := .int .i64 (0)) rfl (want_free rfl) rfl (ltn n75 (by decide)) (ev_assign rfl rfl) fun f76 u76 => ?_
      have n76 := u76.n.trans n75; have s76 := u76.ds.trans s75
      refine wpO_nil ?_
      refine thenQ_go ?_
      refine w2_seq ?_
      refine w2_seq ?_
      refine w2_region ?_
      refine wpO_do (v := .int .i64 (0)) rfl (want_free rfl) rfl (ltn n76 (by decide)) (ev_assign rfl rfl) fun f77 u77 => ?_
      have n77 := u77.n.trans n76; have s77 := u77.ds.trans s76
      refine wpO_nil ?_
      refine thenQ_go ?_
      refine w2_block ?_
      refine w2_loop (fun m fr H1 => H1 = H ∧ fr.n = 40 ∧ fr.defers = [] ∧ ∃ (i : Nat) (n : Int), m = s.length - i ∧ i ≤ s.length ∧ 0 ≤ n ∧ n ≤ 1099511627776 ∧ numL s = numGo (s.drop i) n ∧ fr.tmp 0 = some (.str (s)) ∧ fr.tmp 4 = some (.int .i64 (n)) ∧ fr.tmp 5 = some (.int .i64 ((i : Int)))) (m := s.length) ⟨rfl, n77, s77, 0, 0, rfl, Nat.zero_le _, by omega, by omega, num_start (by omega), (u77.ne (u76.ne (u75.ne (u74.ne (u73.ne (u72.ne (u71.ne (u22.ne (u21.ne (u20.ne (u18.ne (u5.ne (u4.ne (u3.ne (u2.ne (u1.ne (a0))))))))))))))))).trans (by first | rfl | (congr 2; omega) | simp), (u77.ne u76.get).trans (by first | rfl | (congr 2; omega) | simp), (u77.get).trans (by first | rfl | (congr 2; omega) | simp)⟩ ?_
      rintro m78 g78 _ ⟨rfl, n78, s78, i, n, rfl, hi, hn0, hn1, hn, a78_0, a78_4, a78_5⟩
      refine w2_seq ?_
      refine w2_seq ?_
      refine w2_region ?_
      refine wpO_do (v := .int .i64 ((i : Int))) rfl (want_free rfl) rfl (ltn n78 (by decide)) (ev_move rfl (opd_tmp (a78_5))) fun f79 u79 => ?_
      have n79 := u79.n.trans n78; have s79 := u79.ds.trans s78
      refine wpO_do (v := .str (s)) rfl (want_free rfl) rfl (ltn n79 (by decide)) (ev_move rfl (opd_tmp (u79.ne (a78_0)))) fun f80 u80 => ?_
      have n80 := u80.n.trans n79; have s80 := u80.ds.trans s79
      refine wpO_do (v := .int .i64 (((s).length : Int))) rfl (want_free rfl) rfl (ltn n80 (by decide)) (ev_lenS rfl rfl rfl rfl ty9 rfl (opd_tmp (u80.get))) fun f81 u81 => ?_
      have n81 := u81.n.trans n80; have s81 := u81.ds.trans s80
      refine wpO_do (v := .bool (decide (((i : Int) : Int) < (((s).length : Int) : Int)))) rfl (want_free rfl) rfl (ltn n81 (by decide)) (ev_binI rfl (by decide) (opd_tmp (u81.ne (u80.ne u79.get))) (opd_tmp (u81.get)) rfl) fun f82 u82 => ?_
      have n82 := u82.n.trans n81; have s82 := u82.ds.trans s81
      refine wpO_nil ?_
      refine thenQ_go ?_
      rcases Bool.eq_false_or_eq_true (decide (((i : Int) : Int) < (((s).length : Int) : Int))) with h83 | h83
      ·
        have h83p := of_decide_eq_true h83
        refine w2_cond_t ((opd_tmp (u82.get)).trans (congrArg (fun b => some (V.bool b)) h83)) ?_
        refine w2_skip ?_
        refine thenQ_go ?_
        refine w2_seq ?_
        refine w2_block ?_
        refine w2_seq ?_
        refine w2_seq ?_
        refine w2_region ?_
        refine wpO_do (v := .str (s)) rfl (want_free rfl) rfl (ltn n82 (by decide)) (ev_move rfl (opd_tmp (u82.ne (u81.ne (u80.ne (u79.ne (a78_0))))))) fun f84 u84 => ?_
        have n84 := u84.n.trans n82; have s84 := u84.ds.trans s82
        refine wpO_do (v := .int .i64 ((i : Int))) rfl (want_free rfl) rfl (ltn n84 (by decide)) (ev_move rfl (opd_tmp (u84.ne (u82.ne (u81.ne (u80.ne (u79.ne (a78_5)))))))) fun f85 u85 => ?_
        have n85 := u85.n.trans n84; have s85 := u85.ds.trans s84
        have q86 := byteI_bd (s) ((i : Int))
        refine wpO_do (v := .int .u8 (byteI (s) ((i : Int)))) rfl (want_free rfl) rfl (ltn n85 (by decide)) (ev_indexB rfl ty9 rfl (opd_tmp (u85.ne u84.get)) (opd_tmp (u85.get)) (by omega) (by omega)) fun f87 u87 => ?_
        have n87 := u87.n.trans n85; have s87 := u87.ds.trans s85
        refine wpO_ask rfl (want_free rfl) rfl (ltn n87 (by decide)) (ev_call rfl rfl rfl (opds_cons (opd_tmp (u87.get)) opds_nil) rfl) (digit_runs hsp (byteI (s) ((i : Int))) _) fun v88 H88 r88 f89 u89 => ?_
        obtain ⟨rfl, rfl⟩ := r88
        have n89 := u89.n.trans n87; have s89 := u89.ds.trans s87
        refine wpO_do (v := .bool (!(digitB (byteI (s) ((i : Int)))))) rfl (want_free rfl) rfl (ltn n89 (by decide)) (ev_not rfl (opd_tmp (u89.get))) fun f90 u90 => ?_
        have n90 := u90.n.trans n89; have s90 := u90.ds.trans s89
        refine wpO_nil ?_
        refine thenQ_go ?_
        rcases Bool.eq_false_or_eq_true (!(digitB (byteI (s) ((i : Int))))) with h91 | h91
        ·
          have h91p := digitB_not.1 (not_t h91)
          refine w2_cond_t ((opd_tmp (u90.get)).trans (congrArg (fun b => some (V.bool b)) h91)) ?_
          refine w2_seq ?_
          refine w2_region ?_
          refine wpO_do (v := .int .i64 (0)) rfl (want_free rfl) rfl (ltn n90 (by decide)) (ev_assign rfl rfl) fun f92 u92 => ?_
          have n92 := u92.n.trans n90; have s92 := u92.ds.trans s90
          refine wpO_do (v := .bool (false)) rfl (want_free rfl) rfl (ltn n92 (by decide)) (ev_assign rfl rfl) fun f93 u93 => ?_
          have n93 := u93.n.trans n92; have s93 := u93.ds.trans s92
          refine wpO_nil ?_
          refine thenQ_go ?_
          refine w2_ret ?_
          refine thenQ_rt ?_
          refine blockQ_rt ?_
          refine thenQ_rt ?_
          refine thenQ_rt ?_
          refine blockQ_rt ?_
          refine thenQ_rt ?_
          refine ⟨.inr rfl, _, ends0 s93, _, (res_tmp (u93.ne u92.get) (res_tmp (u93.get) res_nil)), ?_⟩
          exact ⟨by rw [num_fail (i := i) (by omega) (by omega) hn]; rfl, rfl⟩
        ·
          have h91p := digitB_iff.1 (not_f h91)
          refine w2_cond_f ((opd_tmp (u90.get)).trans (congrArg (fun b => some (V.bool b)) h91)) ?_
          refine w2_skip ?_
          refine thenQ_go ?_
          refine w2_seq ?_
          refine w2_region ?_
          refine wpO_do (v := .int .i64 (n)) rfl (want_free rfl) rfl (ltn n90 (by decide)) (ev_move rfl (opd_tmp (u90.ne (u89.ne (u87.ne (u85.ne (u84.ne (u82.ne (u81.ne (u80.ne (u79.ne (a78_4)))))))))))) fun f94 u94 => ?_
          have n94 := u94.n.trans n90; have s94 := u94.ds.trans s90
          refine wpO_do (v := .int .i64 ((10) * (n))) rfl (want_free rfl) rfl (ltn n94 (by decide)) (ev_binI rfl (by decide) rfl (opd_tmp (u94.get)) (mul64 (by omega) (by omega))) fun f95 u95 => ?_
          have n95 := u95.n.trans n94; have s95 := u95.ds.trans s94
          refine wpO_do (v := .str (s)) rfl (want_free rfl) rfl (ltn n95 (by decide)) (ev_move rfl (opd_tmp (u95.ne (u94.ne (u90.ne (u89.ne (u87.ne (u85.ne (u84.ne (u82.ne (u81.ne (u80.ne (u79.ne (a78_0)))))))))))))) fun f96 u96 => ?_
          have n96 := u96.n.trans n95; have s96 := u96.ds.trans s95
          refine wpO_do (v := .int .i64 ((i : Int))) rfl (want_free rfl) rfl (ltn n96 (by decide)) (ev_move rfl (opd_tmp (u96.ne (u95.ne (u94.ne (u90.ne (u89.ne (u87.ne (u85.ne (u84.ne (u82.ne (u81.ne (u80.ne (u79.ne (a78_5))))))))))))))) fun f97 u97 => ?_
          have n97 := u97.n.trans n96; have s97 := u97.ds.trans s96
          have q98 := byteI_bd (s) ((i : Int))
          refine wpO_do (v := .int .u8 (byteI (s) ((i : Int)))) rfl (want_free rfl) rfl (ltn n97 (by decide)) (ev_indexB rfl ty9 rfl (opd_tmp (u97.ne u96.get)) (opd_tmp (u97.get)) (by omega) (by omega)) fun f99 u99 => ?_
          have n99 := u99.n.trans n97; have s99 := u99.ds.trans s97
          refine wpO_do (v := .int .u8 ((byteI (s) ((i : Int))) - (48))) rfl (want_free rfl) rfl (ltn n99 (by decide)) (ev_binI rfl (by decide) (opd_tmp (u99.get)) rfl (sub8 (by omega) (by omega))) fun f100 u100 => ?_
          have n100 := u100.n.trans n99; have s100 := u100.ds.trans s99
          refine wpO_do (v := .int .i64 ((byteI (s) ((i : Int))) - (48))) rfl (want_free rfl) rfl (ltn n100 (by decide)) (ev_convW rfl ty5 rfl ty3 rfl (opd_tmp (u100.get)) (wrap64 (by omega) (by omega))) fun f101 u101 => ?_
          have n101 := u101.n.trans n100; have s101 := u101.ds.trans s100
          refine wpO_do (v := .int .i64 (((10) * (n)) + ((byteI (s) ((i : Int))) - (48)))) rfl (want_free rfl) rfl (ltn n101 (by decide)) (ev_binI rfl (by decide) (opd_tmp (u101.ne (u100.ne (u99.ne (u97.ne (u96.ne u95.get)))))) (opd_tmp (u101.get)) (add64 (by omega) (by omega))) fun f102 u102 => ?_
          have n102 := u102.n.trans n101; have s102 := u102.ds.trans s101
          refine wpO_do (v := .int .i64 (((10) * (n)) + ((byteI (s) ((i : Int))) - (48)))) rfl (want_free rfl) rfl (ltn n102 (by decide)) (ev_assign rfl (opd_tmp (u102.get))) fun f103 u103 => ?_
          have n103 := u103.n.trans n102; have s103 := u103.ds.trans s102
          refine wpO_nil ?_
          refine thenQ_go ?_
          refine w2_seq ?_
          refine w2_region ?_
          refine wpO_do (v := .int .i64 (((10) * (n)) + ((byteI (s) ((i : Int))) - (48)))) rfl (want_free rfl) rfl (ltn n103 (by decide)) (ev_move rfl (opd_tmp (u103.get))) fun f104 u104 => ?_
          have n104 := u104.n.trans n103; have s104 := u104.ds.trans s103
          refine wpO_do (v := .bool (decide ((((10) * (n)) + ((byteI (s) ((i : Int))) - (48)) : Int) > (1099511627776 : Int)))) rfl (want_free rfl) rfl (ltn n104 (by decide)) (ev_binI rfl (by decide) (opd_tmp (u104.get)) rfl rfl) fun f105 u105 => ?_
          have n105 := u105.n.trans n104; have s105 := u105.ds.trans s104
          refine wpO_nil ?_
          refine thenQ_go ?_
          rcases Bool.eq_false_or_eq_true (decide ((((10) * (n)) + ((byteI (s) ((i : Int))) - (48)) : Int) > (1099511627776 : Int))) with h106 | h106
          ·
            have h106p := of_decide_eq_true h106
            refine w2_cond_t ((opd_tmp (u105.get)).trans (congrArg (fun b => some (V.bool b)) h106)) ?_
            refine w2_seq ?_
            refine w2_region ?_
            refine wpO_do (v := .int .i64 (0)) rfl (want_free rfl) rfl (ltn n105 (by decide)) (ev_assign rfl rfl) fun f107 u107 => ?_
            have n107 := u107.n.trans n105; have s107 := u107.ds.trans s105
            refine wpO_do (v := .bool (false)) rfl (want_free rfl) rfl (ltn n107 (by decide)) (ev_assign rfl rfl) fun f108 u108 => ?_
            have n108 := u108.n.trans n107; have s108 := u108.ds.trans s107
            refine wpO_nil ?_
            refine thenQ_go ?_
            refine w2_ret ?_
            refine blockQ_rt ?_
            refine thenQ_rt ?_
            refine thenQ_rt ?_
            refine blockQ_rt ?_
            refine thenQ_rt ?_
            refine ⟨.inr rfl, _, ends0 s108, _, (res_tmp (u108.ne u107.get) (res_tmp (u108.get) res_nil)), ?_⟩
            exact ⟨by rw [num_fail (i := i) (by omega) (by omega) hn]; rfl, rfl⟩
          ·
            have h106p := of_decide_eq_false h106
            refine w2_cond_f ((opd_tmp (u105.get)).trans (congrArg (fun b => some (V.bool b)) h106)) ?_
            refine w2_skip ?_
            refine blockQ_go ?_
            refine thenQ_go ?_
            refine w2_region ?_
            refine wpO_do (v := .int .i64 ((i : Int))) rfl (want_free rfl) rfl (ltn n105 (by decide)) (ev_move rfl (opd_tmp (u105.ne (u104.ne (u103.ne (u102.ne (u101.ne (u100.ne (u99.ne (u97.ne (u96.ne (u95.ne (u94.ne (u90.ne (u89.ne (u87.ne (u85.ne (u84.ne (u82.ne (u81.ne (u80.ne (u79.ne (a78_5))))))))))))))))))))))) fun f109 u109 => ?_
            have n109 := u109.n.trans n105; have s109 := u109.ds.trans s105
            refine wpO_do (v := .int .i64 (((i : Int)) + (1))) rfl (want_free rfl) rfl (ltn n109 (by decide)) (ev_binI rfl (by decide) (opd_tmp (u109.get)) rfl (add64 (by omega) (by omega))) fun f110 u110 => ?_
            have n110 := u110.n.trans n109; have s110 := u110.ds.trans s109
            refine wpO_do (v := .int .i64 (((i : Int)) + (1))) rfl (want_free rfl) rfl (ltn n110 (by decide)) (ev_assign rfl (opd_tmp (u110.get))) fun f111 u111 => ?_
            have n111 := u111.n.trans n110; have s111 := u111.ds.trans s110
            refine wpO_nil ?_
            refine thenQ_go ?_
            refine ⟨_, ?_, rfl, n111, s111, i + 1, 10 * n + (byteI s i - 48), rfl, by omega, by omega, by omega, num_step (by omega) (by omega) (by omega) (by omega) hn, (u111.ne (u110.ne (u109.ne (u105.ne (u104.ne (u103.ne (u102.ne (u101.ne (u100.ne (u99.ne (u97.ne (u96.ne (u95.ne (u94.ne (u90.ne (u89.ne (u87.ne (u85.ne (u84.ne (u82.ne (u81.ne (u80.ne (u79.ne (a78_0)))))))))))))))))))))))).trans (by first | rfl | (congr 2; omega) | simp), (u111.ne (u110.ne (u109.ne (u105.ne (u104.ne u103.get))))).trans (by first | rfl | (congr 2; omega) | simp), (u111.get).trans (by first | rfl | (congr 2; omega) | simp)⟩
            omega
      ·
        have h83p := of_decide_eq_false h83
        refine w2_cond_f ((opd_tmp (u82.get)).trans (congrArg (fun b => some (V.bool b)) h83)) ?_
        refine w2_exit ?_
        refine thenQ_ex ?_
        refine thenQ_ex ?_
        refine blockQ_hit ?_
        refine thenQ_go ?_
        refine w2_seq ?_
        refine w2_region ?_
        refine wpO_do (v := .int .i64 (n)) rfl (want_free rfl) rfl (ltn n82 (by decide)) (ev_move rfl (opd_tmp (u82.ne (u81.ne (u80.ne (u79.ne (a78_4))))))) fun f112 u112 => ?_
        have n112 := u112.n.trans n82; have s112 := u112.ds.trans s82
        refine wpO_do (v := .int .i64 (n)) rfl (want_free rfl) rfl (ltn n112 (by decide)) (ev_assign rfl (opd_tmp (u112.get))) fun f113 u113 => ?_
        have n113 := u113.n.trans n112; have s113 := u113.ds.trans s112
        refine wpO_do (v := .bool (true)) rfl (want_free rfl) rfl (ltn n113 (by decide)) (ev_assign rfl rfl) fun f114 u114 => ?_
        have n114 := u114.n.trans n113; have s114 := u114.ds.trans s113
        refine wpO_nil ?_
        refine thenQ_go ?_
        refine w2_ret ?_
        refine ⟨.inr rfl, _, ends0 s114, _, (res_tmp (u114.ne u113.get) (res_tmp (u114.get) res_nil)), ?_⟩
        have hE := num_end (i := i) (by omega) hn; exact ⟨by rw [hE]; rfl, rfl⟩
theorem hasPrefix_runs (hsp : Quiet sp) (s p : List UInt8) (H : Heap) : CallW (envOf Tryd.prog sp) (.func 59) [.str (s), .str (p)] H (fun v H' => v = .bool (hasPre s p) ∧ H' = H) := by
  refine callW_body (hsp 59 (by decide)) funcs59 rfl ?_
  have a0 : ({ tmps := enterTmps [.str (s), .str (p)], n := max (List.length (α := V) [.str (s), .str (p)]) 18, defers := [] } : Fr).tmp 0 = some (.str (s)) := enter_tmp rfl
  have a1 : ({ tmps := enterTmps [.str (s), .str (p)], n := max (List.length (α := V) [.str (s), .str (p)]) 18, defers := [] } : Fr).tmp 1 = some (.str (p)) := enter_tmp rfl
  have n0 : ({ tmps := enterTmps [.str (s), .str (p)], n := max (List.length (α := V) [.str (s), .str (p)]) 18, defers := [] } : Fr).n = 18 := rfl
  have s0 : ({ tmps := enterTmps [.str (s), .str (p)], n := max (List.length (α := V) [.str (s), .str (p)]) 18, defers := [] } : Fr).defers = [] := rfl
  generalize ({ tmps := enterTmps [.str (s), .str (p)], n := max (List.length (α := V) [.str (s), .str (p)]) 18, defers := [] } : Fr) = f0 at a0 a1 n0 s0 ⊢
  refine w2_seq ?_
  refine w2_region ?_
  refine wpO_do (v := .bool (false)) rfl (want_free rfl) rfl (ltn n0 (by decide)) (ev_assign rfl rfl) fun f1 u1 => ?_
  have n1 := u1.n.trans n0; have s1 := u1.ds.trans s0
  refine wpO_nil ?_
  refine thenQ_go ?_
  refine w2_seq ?_
  refine w2_region ?_
  refine wpO_do (v := .str (s)) rfl (want_free rfl) rfl (ltn n1 (by decide)) (ev_move rfl (opd_tmp (u1.ne (a0)))) fun f2 u2 => ?_
  have n2 := u2.n.trans n1; have s2 := u2.ds.trans s1
  refine wpO_do (v := .int .i64 (((s).length : Int))) rfl (want_free rfl) rfl (ltn n2 (by decide)) (ev_lenS rfl rfl rfl rfl ty9 rfl (opd_tmp (u2.get))) fun f3 u3 => ?_
  have n3 := u3.n.trans n2; have s3 := u3.ds.trans s2
  refine wpO_do (v := .str (p)) rfl (want_free rfl) rfl (ltn n3 (by decide)) (ev_move rfl (opd_tmp (u3.ne (u2.ne (u1.ne (a1)))))) fun f4 u4 => ?_
  have n4 := u4.n.trans n3; have s4 := u4.ds.trans s3
  refine wpO_do (v := .int .i64 (((p).length : Int))) rfl (want_free rfl) rfl (ltn n4 (by decide)) (ev_lenS rfl rfl rfl rfl ty9 rfl (opd_tmp (u4.get))) fun f5 u5 => ?_
  have n5 := u5.n.trans n4; have s5 := u5.ds.trans s4
  refine wpO_do (v := .bool (decide ((((s).length : Int) : Int) ≥ (((p).length : Int) : Int)))) rfl (want_free rfl) rfl (ltn n5 (by decide)) (ev_binI rfl (by decide) (opd_tmp (u5.ne (u4.ne u3.get))) (opd_tmp (u5.get)) rfl) fun f6 u6 => ?_
  have n6 := u6.n.trans n5; have s6 := u6.ds.trans s5
  refine wpO_do (v := .bool (decide ((((s).length : Int) : Int) ≥ (((p).length : Int) : Int)))) rfl (want_free rfl) rfl (ltn n6 (by decide)) (ev_move rfl (opd_tmp (u6.get))) fun f7 u7 => ?_
  have n7 := u7.n.trans n6; have s7 := u7.ds.trans s6
  rcases Bool.eq_false_or_eq_true (decide ((((s).length : Int) : Int) ≥ (((p).length : Int) : Int))) with h8 | h8
  ·
    have h8p := of_decide_eq_true h8
    refine wpO_do (v := .str (s)) rfl (want_yes rfl rfl ((u7.get).trans (congrArg (fun b => some (V.bool b)) h8))) rfl (ltn n7 (by decide)) (ev_move rfl (opd_tmp (u7.ne (u6.ne (u5.ne (u4.ne (u3.ne (u2.ne (u1.ne (a0)))))))))) fun f9 u9 => ?_
    have n9 := u9.n.trans n7; have s9 := u9.ds.trans s7
    refine wpO_do (v := .str (p)) rfl (want_yes rfl rfl ((u9.ne u7.get).trans (congrArg (fun b => some (V.bool b)) h8))) rfl (ltn n9 (by decide)) (ev_move rfl (opd_tmp (u9.ne (u7.ne (u6.ne (u5.ne (u4.ne (u3.ne (u2.ne (u1.ne (a1))))))))))) fun f10 u10 => ?_
    have n10 := u10.n.trans n9; have s10 := u10.ds.trans s9
    refine wpO_do (v := .int .i64 (((p).length : Int))) rfl (want_yes rfl rfl ((u10.ne (u9.ne u7.get)).trans (congrArg (fun b => some (V.bool b)) h8))) rfl (ltn n10 (by decide)) (ev_lenS rfl rfl rfl rfl ty9 rfl (opd_tmp (u10.get))) fun f11 u11 => ?_
    have n11 := u11.n.trans n10; have s11 := u11.ds.trans s10
    refine wpO_do (v := .str (List.take (((p).length : Int)).toNat (s))) rfl (want_yes rfl rfl ((u11.ne (u10.ne (u9.ne u7.get))).trans (congrArg (fun b => some (V.bool b)) h8))) rfl (ltn n11 (by decide)) (ev_sliceS rfl ty9 rfl (opd_tmp (u11.ne (u10.ne u9.get))) opdO_none (opdO_some (opd_tmp (u11.get))) (sliceV_strTo (by omega))) fun f12 u12 => ?_
    have n12 := u12.n.trans n11; have s12 := u12.ds.trans s11
    refine wpO_do (v := .str (p)) rfl (want_yes rfl rfl ((u12.ne (u11.ne (u10.ne (u9.ne u7.get)))).trans (congrArg (fun b => some (V.bool b)) h8))) rfl (ltn n12 (by decide)) (ev_move rfl (opd_tmp (u12.ne (u11.ne (u10.ne (u9.ne (u7.ne (u6.ne (u5.ne (u4.ne (u3.ne (u2.ne (u1.ne (a1)))))))))))))) fun f13 u13 => ?_
    have n13 := u13.n.trans n12; have s13 := u13.ds.trans s12
    refine wpO_do (v := .bool ((List.take (((p).length : Int)).toNat (s) == p))) rfl (want_yes rfl rfl ((u13.ne (u12.ne (u11.ne (u10.ne (u9.ne u7.get))))).trans (congrArg (fun b => some (V.bool b)) h8))) rfl (ltn n13 (by decide)) (ev_binS rfl (by decide) (opd_tmp (u13.ne u12.get)) (opd_tmp (u13.get)) rfl) fun f14 u14 => ?_
    have n14 := u14.n.trans n13; have s14 := u14.ds.trans s13
    refine wpO_do (v := .bool ((List.take (((p).length : Int)).toNat (s) == p))) rfl (want_free rfl) rfl (ltn n14 (by decide)) (ev_pick_t rfl ((opd_tmp (u14.ne (u13.ne (u12.ne (u11.ne (u10.ne (u9.ne u7.get))))))).trans (congrArg (fun b => some (V.bool b)) h8)) (opd_tmp (u14.get))) fun f15 u15 => ?_
    have n15 := u15.n.trans n14; have s15 := u15.ds.trans s14
    refine wpO_do (v := .bool ((List.take (((p).length : Int)).toNat (s) == p))) rfl (want_free rfl) rfl (ltn n15 (by decide)) (ev_assign rfl (opd_tmp (u15.get))) fun f16 u16 => ?_
    have n16 := u16.n.trans n15; have s16 := u16.ds.trans s15
    refine wpO_nil ?_
    refine thenQ_go ?_
    refine w2_ret ?_
    refine ⟨.inr rfl, _, ends0 s16, _, (res_tmp (u16.get) res_nil), ?_⟩
    exact ⟨congrArg V.bool (hasPre_eq (by omega)).symm, rfl⟩
  ·
    have h8p := of_decide_eq_false h8
    refine wpO_pass rfl (want_no rfl rfl ((u7.get).trans (congrArg (fun b => some (V.bool b)) h8))) rfl (ltn n7 (by decide)) fun f17 u17 => ?_
    have n17 := u17.n.trans n7; have s17 := u17.ds.trans s7
    refine wpO_pass rfl (want_no rfl rfl ((u17.ne u7.get).trans (congrArg (fun b => some (V.bool b)) h8))) rfl (ltn n17 (by decide)) fun f18 u18 => ?_
    have n18 := u18.n.trans n17; have s18 := u18.ds.trans s17
    refine wpO_pass rfl (want_no rfl rfl ((u18.ne (u17.ne u7.get)).trans (congrArg (fun b => some (V.bool b)) h8))) rfl (ltn n18 (by decide)) fun f19 u19 => ?_
    have n19 := u19.n.trans n18; have s19 := u19.ds.trans s18
    refine wpO_pass rfl (want_no rfl rfl ((u19.ne (u18.ne (u17.ne u7.get))).trans (congrArg (fun b => some (V.bool b)) h8))) rfl (ltn n19 (by decide)) fun f20 u20 => ?_
    have n20 := u20.n.trans n19; have s20 := u20.ds.trans s19
    refine wpO_pass rfl (want_no rfl rfl ((u20.ne (u19.ne (u18.ne (u17.ne u7.get)))).trans (congrArg (fun b => some (V.bool b)) h8))) rfl (ltn n20 (by decide)) fun f21 u21 => ?_
    have n21 := u21.n.trans n20; have s21 := u21.ds.trans s20
    refine wpO_pass rfl (want_no rfl rfl ((u21.ne (u20.ne (u19.ne (u18.ne (u17.ne u7.get))))).trans (congrArg (fun b => some (V.bool b)) h8))) rfl (ltn n21 (by decide)) fun f22 u22 => ?_
    have n22 := u22.n.trans n21; have s22 := u22.ds.trans s21
    refine wpO_do (v := .bool (false)) rfl (want_free rfl) rfl (ltn n22 (by decide)) (ev_pick_f rfl ((opd_tmp (u22.ne (u21.ne (u20.ne (u19.ne (u18.ne (u17.ne u7.get))))))).trans (congrArg (fun b => some (V.bool b)) h8)) rfl) fun f23 u23 => ?_
    have n23 := u23.n.trans n22; have s23 := u23.ds.trans s22
    refine wpO_do (v := .bool (false)) rfl (want_free rfl) rfl (ltn n23 (by decide)) (ev_assign rfl (opd_tmp (u23.get))) fun f24 u24 => ?_
    have n24 := u24.n.trans n23; have s24 := u24.ds.trans s23
    refine wpO_nil ?_
    refine thenQ_go ?_
    refine w2_ret ?_
    refine ⟨.inr rfl, _, ends0 s24, _, (res_tmp (u24.get) res_nil), ?_⟩
    exact ⟨congrArg V.bool (hasPre_false (by omega)).symm, rfl⟩
theorem cutPrefix0_runs (hsp : Quiet sp) (s p : List UInt8) (H : Heap) : CallW (envOf Tryd.prog sp) (.func 52) [.str (s), .str (p)] H (fun v H' => v = .tuple [.str (cutL s p), .bool (hasPre s p)] ∧ H' = H) := by
  refine callW_body (hsp 52 (by decide)) funcs52 rfl ?_
  have a0 : ({ tmps := enterTmps [.str (s), .str (p)], n := max (List.length (α := V) [.str (s), .str (p)]) 15, defers := [] } : Fr).tmp 0 = some (.str (s)) := enter_tmp rfl
  have a1 : ({ tmps := enterTmps [.str (s), .str (p)], n := max (List.length (α := V) [.str (s), .str (p)]) 15, defers := [] } : Fr).tmp 1 = some (.str (p)) := enter_tmp rfl
  have n0 : ({ tmps := enterTmps [.str (s), .str (p)], n := max (List.length (α := V) [.str (s), .str (p)]) 15, defers := [] } : Fr).n = 15 := rfl
  have s0 : ({ tmps := enterTmps [.str (s), .str (p)], n := max (List.length (α := V) [.str (s), .str (p)]) 15, defers := [] } : Fr).defers = [] := rfl
  generalize ({ tmps := enterTmps [.str (s), .str (p)], n := max (List.length (α := V) [.str (s), .str (p)]) 15, defers := [] } : Fr) = f0 at a0 a1 n0 s0 ⊢
  refine w2_seq ?_
  refine w2_region ?_
  refine wpO_do (v := .str ([])) rfl (want_free rfl) rfl (ltn n0 (by decide)) (ev_assign rfl rfl) fun f1 u1 => ?_
  have n1 := u1.n.trans n0; have s1 := u1.ds.trans s0
  refine wpO_do (v := .bool (false)) rfl (want_free rfl) rfl (ltn n1 (by decide)) (ev_assign rfl rfl) fun f2 u2 => ?_
  have n2 := u2.n.trans n1; have s2 := u2.ds.trans s1
  refine wpO_nil ?_
  refine thenQ_go ?_
  refine w2_seq ?_
  refine w2_seq ?_
  refine w2_region ?_
  refine wpO_do (v := .str (s)) rfl (want_free rfl) rfl (ltn n2 (by decide)) (ev_move rfl (opd_tmp (u2.ne (u1.ne (a0))))) fun f3 u3 => ?_
  have n3 := u3.n.trans n2; have s3 := u3.ds.trans s2
  refine wpO_do (v := .str (p)) rfl (want_free rfl) rfl (ltn n3 (by decide)) (ev_move rfl (opd_tmp (u3.ne (u2.ne (u1.ne (a1)))))) fun f4 u4 => ?_
  have n4 := u4.n.trans n3; have s4 := u4.ds.trans s3
  refine wpO_ask rfl (want_free rfl) rfl (ltn n4 (by decide)) (ev_call rfl rfl rfl (opds_cons (opd_tmp (u4.ne u3.get)) (opds_cons (opd_tmp (u4.get)) opds_nil)) rfl) (hasPrefix_runs hsp (s) (p) _) fun v5 H5 r5 f6 u6 => ?_
  obtain ⟨rfl, rfl⟩ := r5
  have n6 := u6.n.trans n4; have s6 := u6.ds.trans s4
  refine wpO_do (v := .bool (!(hasPre (s) (p)))) rfl (want_free rfl) rfl (ltn n6 (by decide)) (ev_not rfl (opd_tmp (u6.get))) fun f7 u7 => ?_
  have n7 := u7.n.trans n6; have s7 := u7.ds.trans s6
  refine wpO_nil ?_
  refine thenQ_go ?_
  rcases Bool.eq_false_or_eq_true (!(hasPre (s) (p))) with h8 | h8
  ·
    have h8p := (not_t h8)
    refine w2_cond_t ((opd_tmp (u7.get)).trans (congrArg (fun b => some (V.bool b)) h8)) ?_
    refine w2_seq ?_
    refine w2_region ?_
    refine wpO_do (v := .str (s)) rfl (want_free rfl) rfl (ltn n7 (by decide)) (ev_move rfl (opd_tmp (u7.ne (u6.ne (u4.ne (u3.ne (u2.ne (u1.ne (a0))))))))) fun f9 u9 => ?_
    have n9 := u9.n.trans n7; have s9 := u9.ds.trans s7
    refine wpO_do (v := .str (s)) rfl (want_free rfl) rfl (ltn n9 (by decide)) (ev_assign rfl (opd_tmp (u9.get))) fun f10 u10 => ?_
    have n10 := u10.n.trans n9; have s10 := u10.ds.trans s9
    refine wpO_do (v := .bool (false)) rfl (want_free rfl) rfl (ltn n10 (by decide)) (ev_assign rfl rfl) fun f11 u11 => ?_
    have n11 := u11.n.trans n10; have s11 := u11.ds.trans s10
    refine wpO_nil ?_
    refine thenQ_go ?_
    refine w2_ret ?_
    refine thenQ_rt ?_
    refine ⟨.inr rfl, _, ends0 s11, _, (res_tmp (u11.ne u10.get) (res_tmp (u11.get) res_nil)), ?_⟩
    exact ⟨by simp_all [cutL, oneOf], rfl⟩
  ·
    have h8p := hasPre_len (not_f h8)
    refine w2_cond_f ((opd_tmp (u7.get)).trans (congrArg (fun b => some (V.bool b)) h8)) ?_
    refine w2_skip ?_
    refine thenQ_go ?_
    refine w2_seq ?_
    refine w2_region ?_
    refine wpO_do (v := .str (s)) rfl (want_free rfl) rfl (ltn n7 (by decide)) (ev_move rfl (opd_tmp (u7.ne (u6.ne (u4.ne (u3.ne (u2.ne (u1.ne (a0))))))))) fun f12 u12 => ?_
    have n12 := u12.n.trans n7; have s12 := u12.ds.trans s7
    refine wpO_do (v := .str (p)) rfl (want_free rfl) rfl (ltn n12 (by decide)) (ev_move rfl (opd_tmp (u12.ne (u7.ne (u6.ne (u4.ne (u3.ne (u2.ne (u1.ne (a1)))))))))) fun f13 u13 => ?_
    have n13 := u13.n.trans n12; have s13 := u13.ds.trans s12
    refine wpO_do (v := .int .i64 (((p).length : Int))) rfl (want_free rfl) rfl (ltn n13 (by decide)) (ev_lenS rfl rfl rfl rfl ty9 rfl (opd_tmp (u13.get))) fun f14 u14 => ?_
    have n14 := u14.n.trans n13; have s14 := u14.ds.trans s13
    refine wpO_do (v := .str (List.drop (((p).length : Int)).toNat (s))) rfl (want_free rfl) rfl (ltn n14 (by decide)) (ev_sliceS rfl ty9 rfl (opd_tmp (u14.ne (u13.ne u12.get))) (opdO_some (opd_tmp (u14.get))) opdO_none (sliceV_strFrom (by omega))) fun f15 u15 => ?_
    have n15 := u15.n.trans n14; have s15 := u15.ds.trans s14
    refine wpO_do (v := .str (List.drop (((p).length : Int)).toNat (s))) rfl (want_free rfl) rfl (ltn n15 (by decide)) (ev_assign rfl (opd_tmp (u15.get))) fun f16 u16 => ?_
    have n16 := u16.n.trans n15; have s16 := u16.ds.trans s15
    refine wpO_do (v := .bool (true)) rfl (want_free rfl) rfl (ltn n16 (by decide)) (ev_assign rfl rfl) fun f17 u17 => ?_
    have n17 := u17.n.trans n16; have s17 := u17.ds.trans s16
    refine wpO_nil ?_
    refine thenQ_go ?_
    refine w2_ret ?_
    refine ⟨.inr rfl, _, ends0 s17, _, (res_tmp (u17.ne u16.get) (res_tmp (u17.get) res_nil)), ?_⟩
    exact ⟨by simp_all [cutL, oneOf], rfl⟩
theorem cutPrefix_runs (hsp : Quiet sp) (s p : List UInt8) (H : Heap) : CallW (envOf Tryd.prog sp) (.func 40) [.str (s), .str (p)] H (fun v H' => v = .tuple [.str (cutL s p), .bool (hasPre s p)] ∧ H' = H) := by
  refine callW_body (hsp 40 (by decide)) funcs40 rfl ?_
  have a0 : ({ tmps := enterTmps [.str (s), .str (p)], n := max (List.length (α := V) [.str (s), .str (p)]) 11, defers := [] } : Fr).tmp 0 = some (.str (s)) := enter_tmp rfl
  have a1 : ({ tmps := enterTmps [.str (s), .str (p)], n := max (List.length (α := V) [.str (s), .str (p)]) 11, defers := [] } : Fr).tmp 1 = some (.str (p)) := enter_tmp rfl
  have n0 : ({ tmps := enterTmps [.str (s), .str (p)], n := max (List.length (α := V) [.str (s), .str (p)]) 11, defers := [] } : Fr).n = 11 := rfl
  have s0 : ({ tmps := enterTmps [.str (s), .str (p)], n := max (List.length (α := V) [.str (s), .str (p)]) 11, defers := [] } : Fr).defers = [] := rfl
  generalize ({ tmps := enterTmps [.str (s), .str (p)], n := max (List.length (α := V) [.str (s), .str (p)]) 11, defers := [] } : Fr) = f0 at a0 a1 n0 s0 ⊢
  refine w2_seq ?_
  refine w2_region ?_
  refine wpO_do (v := .str ([])) rfl (want_free rfl) rfl (ltn n0 (by decide)) (ev_assign rfl rfl) fun f1 u1 => ?_
  have n1 := u1.n.trans n0; have s1 := u1.ds.trans s0
  refine wpO_do (v := .bool (false)) rfl (want_free rfl) rfl (ltn n1 (by decide)) (ev_assign rfl rfl) fun f2 u2 => ?_
  have n2 := u2.n.trans n1; have s2 := u2.ds.trans s1
  refine wpO_nil ?_
  refine thenQ_go ?_
  refine w2_seq ?_
  refine w2_region ?_
  refine wpO_do (v := .str (s)) rfl (want_free rfl) rfl (ltn n2 (by decide)) (ev_move rfl (opd_tmp (u2.ne (u1.ne (a0))))) fun f3 u3 => ?_
  have n3 := u3.n.trans n2; have s3 := u3.ds.trans s2
  refine wpO_do (v := .str (p)) rfl (want_free rfl) rfl (ltn n3 (by decide)) (ev_move rfl (opd_tmp (u3.ne (u2.ne (u1.ne (a1)))))) fun f4 u4 => ?_
  have n4 := u4.n.trans n3; have s4 := u4.ds.trans s3
  refine wpO_ask rfl (want_free rfl) rfl (ltn n4 (by decide)) (ev_call rfl rfl rfl (opds_cons (opd_tmp (u4.ne u3.get)) (opds_cons (opd_tmp (u4.get)) opds_nil)) rfl) (cutPrefix0_runs hsp (s) (p) _) fun v5 H5 r5 f6 u6 => ?_
  obtain ⟨rfl, rfl⟩ := r5
  have n6 := u6.n.trans n4; have s6 := u6.ds.trans s4
  refine wpO_do (v := .str (cutL (s) (p))) rfl (want_free rfl) rfl (ltn n6 (by decide)) (ev_extract rfl (opd_tmp (u6.get)) rfl) fun f7 u7 => ?_
  have n7 := u7.n.trans n6; have s7 := u7.ds.trans s6
  refine wpO_do (v := .bool (hasPre (s) (p))) rfl (want_free rfl) rfl (ltn n7 (by decide)) (ev_extract rfl (opd_tmp (u7.ne u6.get)) rfl) fun f8 u8 => ?_
  have n8 := u8.n.trans n7; have s8 := u8.ds.trans s7
  refine wpO_do (v := .str (cutL (s) (p))) rfl (want_free rfl) rfl (ltn n8 (by decide)) (ev_assign rfl (opd_tmp (u8.ne u7.get))) fun f9 u9 => ?_
  have n9 := u9.n.trans n8; have s9 := u9.ds.trans s8
  refine wpO_do (v := .bool (hasPre (s) (p))) rfl (want_free rfl) rfl (ltn n9 (by decide)) (ev_assign rfl (opd_tmp (u9.ne u8.get))) fun f10 u10 => ?_
  have n10 := u10.n.trans n9; have s10 := u10.ds.trans s9
  refine wpO_nil ?_
  refine thenQ_go ?_
  refine w2_ret ?_
  refine ⟨.inr rfl, _, ends0 s10, _, (res_tmp (u10.ne u9.get) (res_tmp (u10.get) res_nil)), ?_⟩
  exact ⟨rfl, rfl⟩
theorem signed_runs (hsp : Quiet sp) (s : List UInt8) (H : Heap) (hl : s.length ≤ 1000000) : CallW (envOf Tryd.prog sp) (.func 20) [.str (s)] H (fun v H' => v = .tuple [.int .i64 (signedL s).1, .bool (signedL s).2] ∧ H' = H) := by
  refine callW_body (hsp 20 (by decide)) funcs20 rfl ?_
  have a0 : ({ tmps := enterTmps [.str (s)], n := max (List.length (α := V) [.str (s)]) 31, defers := [] } : Fr).tmp 0 = some (.str (s)) := enter_tmp rfl
  have n0 : ({ tmps := enterTmps [.str (s)], n := max (List.length (α := V) [.str (s)]) 31, defers := [] } : Fr).n = 31 := rfl
  have s0 : ({ tmps := enterTmps [.str (s)], n := max (List.length (α := V) [.str (s)]) 31, defers := [] } : Fr).defers = [] := rfl
  generalize ({ tmps := enterTmps [.str (s)], n := max (List.length (α := V) [.str (s)]) 31, defers := [] } : Fr) = f0 at a0 n0 s0 ⊢
  refine w2_seq ?_
  refine w2_region ?_
  refine wpO_do (v := .int .i64 (0)) rfl (want_free rfl) rfl (ltn n0 (by decide)) (ev_assign rfl rfl) fun f1 u1 => ?_
  have n1 := u1.n.trans n0; have s1 := u1.ds.trans s0
  refine wpO_do (v := .bool (false)) rfl (want_free rfl) rfl (ltn n1 (by decide)) (ev_assign rfl rfl) fun f2 u2 => ?_
  have n2 := u2.n.trans n1; have s2 := u2.ds.trans s1
  refine wpO_nil ?_
  refine thenQ_go ?_
  refine w2_seq ?_
  refine w2_region ?_
  refine wpO_do (v := .str (s)) rfl (want_free rfl) rfl (ltn n2 (by decide)) (ev_move rfl (opd_tmp (u2.ne (u1.ne (a0))))) fun f3 u3 => ?_
  have n3 := u3.n.trans n2; have s3 := u3.ds.trans s2
  refine wpO_ask rfl (want_free rfl) rfl (ltn n3 (by decide)) (ev_call rfl rfl rfl (opds_cons (opd_tmp (u3.get)) (opds_cons rfl opds_nil)) rfl) (cutPrefix_runs hsp (s) ([45]) _) fun v4 H4 r4 f5 u5 => ?_
  obtain ⟨rfl, rfl⟩ := r4
  have n5 := u5.n.trans n3; have s5 := u5.ds.trans s3
  refine wpO_do (v := .tuple [.str (cutL (s) ([45])), .bool (hasPre (s) ([45]))]) rfl (want_free rfl) rfl (ltn n5 (by decide)) (ev_move rfl (opd_tmp (u5.get))) fun f6 u6 => ?_
  have n6 := u6.n.trans n5; have s6 := u6.ds.trans s5
  refine wpO_do (v := .str (cutL (s) ([45]))) rfl (want_free rfl) rfl (ltn n6 (by decide)) (ev_extract rfl (opd_tmp (u6.get)) rfl) fun f7 u7 => ?_
  have n7 := u7.n.trans n6; have s7 := u7.ds.trans s6
  refine wpO_do (v := .bool (hasPre (s) ([45]))) rfl (want_free rfl) rfl (ltn n7 (by decide)) (ev_extract rfl (opd_tmp (u7.ne u6.get)) rfl) fun f8 u8 => ?_
  have n8 := u8.n.trans n7; have s8 := u8.ds.trans s7
  refine wpO_do (v := .str (cutL (s) ([45]))) rfl (want_free rfl) rfl (ltn n8 (by decide)) (ev_assign rfl (opd_tmp (u8.ne u7.get))) fun f9 u9 => ?_
  have n9 := u9.n.trans n8; have s9 := u9.ds.trans s8
  refine wpO_do (v := .bool (hasPre (s) ([45]))) rfl (want_free rfl) rfl (ltn n9 (by decide)) (ev_assign rfl (opd_tmp (u9.ne u8.get))) fun f10 u10 => ?_
  have n10 := u10.n.trans n9; have s10 := u10.ds.trans s9
  refine wpO_nil ?_
  refine thenQ_go ?_
  refine w2_seq ?_
  refine w2_region ?_
  refine wpO_do (v := .str (cutL (s) ([45]))) rfl (want_free rfl) rfl (ltn n10 (by decide)) (ev_move rfl (opd_tmp (u10.ne u9.get))) fun f11 u11 => ?_
  have n11 := u11.n.trans n10; have s11 := u11.ds.trans s10
  refine wpO_ask rfl (want_free rfl) rfl (ltn n11 (by decide)) (ev_call rfl rfl rfl (opds_cons (opd_tmp (u11.get)) opds_nil) rfl) (number_runs hsp (cutL (s) ([45])) _ (cutL_len (by omega))) fun v12 H12 r12 f13 u13 => ?_
  obtain ⟨rfl, rfl⟩ := r12; have hb := numL_bd (cutL (s) ([45]))
  have n13 := u13.n.trans n11; have s13 := u13.ds.trans s11
  refine wpO_do (v := .tuple [.int .i64 ((numL (cutL (s) ([45]))).1), .bool ((numL (cutL (s) ([45]))).2)]) rfl (want_free rfl) rfl (ltn n13 (by decide)) (ev_move rfl (opd_tmp (u13.get))) fun f14 u14 => ?_
  have n14 := u14.n.trans n13; have s14 := u14.ds.trans s13
  refine wpO_do (v := .int .i64 ((numL (cutL (s) ([45]))).1)) rfl (want_free rfl) rfl (ltn n14 (by decide)) (ev_extract rfl (opd_tmp (u14.get)) rfl) fun f15 u15 => ?_
  have n15 := u15.n.trans n14; have s15 := u15.ds.trans s14
  refine wpO_do (v := .bool ((numL (cutL (s) ([45]))).2)) rfl (want_free rfl) rfl (ltn n15 (by decide)) (ev_extract rfl (opd_tmp (u15.ne u14.get)) rfl) fun f16 u16 => ?_
  have n16 := u16.n.trans n15; have s16 := u16.ds.trans s15
  refine wpO_do (v := .int .i64 ((numL (cutL (s) ([45]))).1)) rfl (want_free rfl) rfl (ltn n16 (by decide)) (ev_assign rfl (opd_tmp (u16.ne u15.get))) fun f17 u17 => ?_
  have n17 := u17.n.trans n16; have s17 := u17.ds.trans s16
  refine wpO_do (v := .bool ((numL (cutL (s) ([45]))).2)) rfl (want_free rfl) rfl (ltn n17 (by decide)) (ev_assign rfl (opd_tmp (u17.ne u16.get))) fun f18 u18 => ?_
  have n18 := u18.n.trans n17; have s18 := u18.ds.trans s17
  refine wpO_nil ?_
  refine thenQ_go ?_
  refine w2_seq ?_
  refine w2_seq ?_
  refine w2_region ?_
  refine wpO_do (v := .bool ((numL (cutL (s) ([45]))).2)) rfl (want_free rfl) rfl (ltn n18 (by decide)) (ev_move rfl (opd_tmp (u18.get))) fun f19 u19 => ?_
  have n19 := u19.n.trans n18; have s19 := u19.ds.trans s18
  refine wpO_do (v := .bool (!((numL (cutL (s) ([45]))).2))) rfl (want_free rfl) rfl (ltn n19 (by decide)) (ev_not rfl (opd_tmp (u19.get))) fun f20 u20 => ?_
  have n20 := u20.n.trans n19; have s20 := u20.ds.trans s19
  refine wpO_do (v := .bool (!((numL (cutL (s) ([45]))).2))) rfl (want_free rfl) rfl (ltn n20 (by decide)) (ev_move rfl (opd_tmp (u20.get))) fun f21 u21 => ?_
  have n21 := u21.n.trans n20; have s21 := u21.ds.trans s20
  rcases Bool.eq_false_or_eq_true (!((numL (cutL (s) ([45]))).2)) with h22 | h22
  ·
    have h22p := not_t h22
    refine wpO_pass rfl (want_no rfl rfl ((u21.get).trans (congrArg (fun b => some (V.bool b)) h22))) rfl (ltn n21 (by decide)) fun f23 u23 => ?_
    have n23 := u23.n.trans n21; have s23 := u23.ds.trans s21
    refine wpO_pass rfl (want_no rfl rfl ((u23.ne u21.get).trans (congrArg (fun b => some (V.bool b)) h22))) rfl (ltn n23 (by decide)) fun f24 u24 => ?_
    have n24 := u24.n.trans n23; have s24 := u24.ds.trans s23
    refine wpO_pass rfl (want_undef rfl rfl (u24.get)) rfl (ltn n24 (by decide)) fun f25 u25 => ?_
    have n25 := u25.n.trans n24; have s25 := u25.ds.trans s24
    refine wpO_pass rfl (want_undef rfl rfl (u25.ne u24.get)) rfl (ltn n25 (by decide)) fun f26 u26 => ?_
    have n26 := u26.n.trans n25; have s26 := u26.ds.trans s25
    refine wpO_pass rfl (want_no rfl rfl ((u26.ne (u25.ne (u24.ne (u23.ne u21.get)))).trans (congrArg (fun b => some (V.bool b)) h22))) rfl (ltn n26 (by decide)) fun f27 u27 => ?_
    have n27 := u27.n.trans n26; have s27 := u27.ds.trans s26
    refine wpO_do (v := .bool (true)) rfl (want_free rfl) rfl (ltn n27 (by decide)) (ev_pick_t rfl ((opd_tmp (u27.ne (u26.ne (u25.ne (u24.ne (u23.ne u21.get)))))).trans (congrArg (fun b => some (V.bool b)) h22)) rfl) fun f28 u28 => ?_
    have n28 := u28.n.trans n27; have s28 := u28.ds.trans s27
    refine wpO_nil ?_
    refine thenQ_go ?_
    refine w2_cond_t (opd_tmp (u28.get)) ?_
    refine w2_seq ?_
    refine w2_region ?_
    refine wpO_do (v := .int .i64 (0)) rfl (want_free rfl) rfl (ltn n28 (by decide)) (ev_assign rfl rfl) fun f29 u29 => ?_
    have n29 := u29.n.trans n28; have s29 := u29.ds.trans s28
    refine wpO_do (v := .bool (false)) rfl (want_free rfl) rfl (ltn n29 (by decide)) (ev_assign rfl rfl) fun f30 u30 => ?_
    have n30 := u30.n.trans n29; have s30 := u30.ds.trans s29
    refine wpO_nil ?_
    refine thenQ_go ?_
    refine w2_ret ?_
    refine thenQ_rt ?_
    refine ⟨.inr rfl, _, ends0 s30, _, (res_tmp (u30.ne u29.get) (res_tmp (u30.get) res_nil)), ?_⟩
    exact ⟨by rw [signed_eq]; simp_all [oneOf], rfl⟩
  ·
    have h22p := not_f h22
    refine wpO_do (v := .bool (hasPre (s) ([45]))) rfl (want_yes rfl rfl ((u21.get).trans (congrArg (fun b => some (V.bool b)) h22))) rfl (ltn n21 (by decide)) (ev_move rfl (opd_tmp (u21.ne (u20.ne (u19.ne (u18.ne (u17.ne (u16.ne (u15.ne (u14.ne (u13.ne (u11.ne u10.get)))))))))))) fun f31 u31 => ?_
    have n31 := u31.n.trans n21; have s31 := u31.ds.trans s21
    refine wpO_do (v := .bool (hasPre (s) ([45]))) rfl (want_yes rfl rfl ((u31.ne u21.get).trans (congrArg (fun b => some (V.bool b)) h22))) rfl (ltn n31 (by decide)) (ev_move rfl (opd_tmp (u31.get))) fun f32 u32 => ?_
    have n32 := u32.n.trans n31; have s32 := u32.ds.trans s31
    rcases Bool.eq_false_or_eq_true (hasPre (s) ([45])) with h33 | h33
    ·
      refine wpO_do (v := .int .i64 ((numL (cutL (s) ([45]))).1)) rfl (want_yes rfl rfl ((u32.get).trans (congrArg (fun b => some (V.bool b)) h33))) rfl (ltn n32 (by decide)) (ev_move rfl (opd_tmp (u32.ne (u31.ne (u21.ne (u20.ne (u19.ne (u18.ne u17.get)))))))) fun f34 u34 => ?_
      have n34 := u34.n.trans n32; have s34 := u34.ds.trans s32
      refine wpO_do (v := .bool (((numL (cutL (s) ([45]))).1 : Int) == (0 : Int))) rfl (want_yes rfl rfl ((u34.ne u32.get).trans (congrArg (fun b => some (V.bool b)) h33))) rfl (ltn n34 (by decide)) (ev_binI rfl (by decide) (opd_tmp (u34.get)) rfl rfl) fun f35 u35 => ?_
      have n35 := u35.n.trans n34; have s35 := u35.ds.trans s34
      refine wpO_do (v := .bool (((numL (cutL (s) ([45]))).1 : Int) == (0 : Int))) rfl (want_yes rfl rfl ((u35.ne (u34.ne (u32.ne (u31.ne u21.get)))).trans (congrArg (fun b => some (V.bool b)) h22))) rfl (ltn n35 (by decide)) (ev_pick_t rfl ((opd_tmp (u35.ne (u34.ne u32.get))).trans (congrArg (fun b => some (V.bool b)) h33)) (opd_tmp (u35.get))) fun f36 u36 => ?_
      have n36 := u36.n.trans n35; have s36 := u36.ds.trans s35
      refine wpO_do (v := .bool (((numL (cutL (s) ([45]))).1 : Int) == (0 : Int))) rfl (want_free rfl) rfl (ltn n36 (by decide)) (ev_pick_f rfl ((opd_tmp (u36.ne (u35.ne (u34.ne (u32.ne (u31.ne u21.get)))))).trans (congrArg (fun b => some (V.bool b)) h22)) (opd_tmp (u36.get))) fun f37 u37 => ?_
      have n37 := u37.n.trans n36; have s37 := u37.ds.trans s36
      refine wpO_nil ?_
      refine thenQ_go ?_
      rcases Bool.eq_false_or_eq_true (((numL (cutL (s) ([45]))).1 : Int) == (0 : Int)) with h38 | h38
      ·
        have h38p := beq_t h38
        refine w2_cond_t ((opd_tmp (u37.get)).trans (congrArg (fun b => some (V.bool b)) h38)) ?_
        refine w2_seq ?_
        refine w2_region ?_
        refine wpO_do (v := .int .i64 (0)) rfl (want_free rfl) rfl (ltn n37 (by decide)) (ev_assign rfl rfl) fun f39 u39 => ?_
        have n39 := u39.n.trans n37; have s39 := u39.ds.trans s37
        refine wpO_do (v := .bool (false)) rfl (want_free rfl) rfl (ltn n39 (by decide)) (ev_assign rfl rfl) fun f40 u40 => ?_
        have n40 := u40.n.trans n39; have s40 := u40.ds.trans s39
        refine wpO_nil ?_
        refine thenQ_go ?_
        refine w2_ret ?_
        refine thenQ_rt ?_
        refine ⟨.inr rfl, _, ends0 s40, _, (res_tmp (u40.ne u39.get) (res_tmp (u40.get) res_nil)), ?_⟩
        exact ⟨by rw [signed_eq]; simp_all [oneOf], rfl⟩
      ·
        have h38p := beq_f h38
        refine w2_cond_f ((opd_tmp (u37.get)).trans (congrArg (fun b => some (V.bool b)) h38)) ?_
        refine w2_skip ?_
        refine thenQ_go ?_
        refine w2_seq ?_
        refine w2_seq ?_
        refine w2_region ?_
        refine wpO_do (v := .bool (hasPre (s) ([45]))) rfl (want_free rfl) rfl (ltn n37 (by decide)) (ev_move rfl (opd_tmp (u37.ne (u36.ne (u35.ne (u34.ne (u32.ne (u31.ne (u21.ne (u20.ne (u19.ne (u18.ne (u17.ne (u16.ne (u15.ne (u14.ne (u13.ne (u11.ne u10.get)))))))))))))))))) fun f41 u41 => ?_
        have n41 := u41.n.trans n37; have s41 := u41.ds.trans s37
        refine wpO_nil ?_
        refine thenQ_go ?_
        refine w2_cond_t ((opd_tmp (u41.get)).trans (congrArg (fun b => some (V.bool b)) h33)) ?_
        refine w2_seq ?_
        refine w2_region ?_
        refine wpO_do (v := .int .i64 ((numL (cutL (s) ([45]))).1)) rfl (want_free rfl) rfl (ltn n41 (by decide)) (ev_move rfl (opd_tmp (u41.ne (u37.ne (u36.ne (u35.ne (u34.ne (u32.ne (u31.ne (u21.ne (u20.ne (u19.ne (u18.ne u17.get))))))))))))) fun f42 u42 => ?_
        have n42 := u42.n.trans n41; have s42 := u42.ds.trans s41
        refine wpO_do (v := .int .i64 (-((numL (cutL (s) ([45]))).1))) rfl (want_free rfl) rfl (ltn n42 (by decide)) (ev_negW rfl (opd_tmp (u42.get)) (wrap64 (by omega) (by omega))) fun f43 u43 => ?_
        have n43 := u43.n.trans n42; have s43 := u43.ds.trans s42
        refine wpO_do (v := .int .i64 (-((numL (cutL (s) ([45]))).1))) rfl (want_free rfl) rfl (ltn n43 (by decide)) (ev_assign rfl (opd_tmp (u43.get))) fun f44 u44 => ?_
        have n44 := u44.n.trans n43; have s44 := u44.ds.trans s43
        refine wpO_do (v := .bool (true)) rfl (want_free rfl) rfl (ltn n44 (by decide)) (ev_assign rfl rfl) fun f45 u45 => ?_
        have n45 := u45.n.trans n44; have s45 := u45.ds.trans s44
        refine wpO_nil ?_
        refine thenQ_go ?_
        refine w2_ret ?_
        refine thenQ_rt ?_
        refine ⟨.inr rfl, _, ends0 s45, _, (res_tmp (u45.ne u44.get) (res_tmp (u45.get) res_nil)), ?_⟩
        exact ⟨by rw [signed_eq]; simp_all [oneOf], rfl⟩
    ·
      refine wpO_pass rfl (want_no rfl rfl ((u32.get).trans (congrArg (fun b => some (V.bool b)) h33))) rfl (ltn n32 (by decide)) fun f46 u46 => ?_
      have n46 := u46.n.trans n32; have s46 := u46.ds.trans s32
      refine wpO_pass rfl (want_no rfl rfl ((u46.ne u32.get).trans (congrArg (fun b => some (V.bool b)) h33))) rfl (ltn n46 (by decide)) fun f47 u47 => ?_
      have n47 := u47.n.trans n46; have s47 := u47.ds.trans s46
      refine wpO_do (v := .bool (false)) rfl (want_yes rfl rfl ((u47.ne (u46.ne (u32.ne (u31.ne u21.get)))).trans (congrArg (fun b => some (V.bool b)) h22))) rfl (ltn n47 (by decide)) (ev_pick_f rfl ((opd_tmp (u47.ne (u46.ne u32.get))).trans (congrArg (fun b => some (V.bool b)) h33)) rfl) fun f48 u48 => ?_
      have n48 := u48.n.trans n47; have s48 := u48.ds.trans s47
      refine wpO_do (v := .bool (false)) rfl (want_free rfl) rfl (ltn n48 (by decide)) (ev_pick_f rfl ((opd_tmp (u48.ne (u47.ne (u46.ne (u32.ne (u31.ne u21.get)))))).trans (congrArg (fun b => some (V.bool b)) h22)) (opd_tmp (u48.get))) fun f49 u49 => ?_
      have n49 := u49.n.trans n48; have s49 := u49.ds.trans s48
      refine wpO_nil ?_
      refine thenQ_go ?_
      refine w2_cond_f (opd_tmp (u49.get)) ?_
      refine w2_skip ?_
      refine thenQ_go ?_
      refine w2_seq ?_
      refine w2_seq ?_
      refine w2_region ?_
      refine wpO_do (v := .bool (hasPre (s) ([45]))) rfl (want_free rfl) rfl (ltn n49 (by decide)) (ev_move rfl (opd_tmp (u49.ne (u48.ne (u47.ne (u46.ne (u32.ne (u31.ne (u21.ne (u20.ne (u19.ne (u18.ne (u17.ne (u16.ne (u15.ne (u14.ne (u13.ne (u11.ne u10.get)))))))))))))))))) fun f50 u50 => ?_
      have n50 := u50.n.trans n49; have s50 := u50.ds.trans s49
      refine wpO_nil ?_
      refine thenQ_go ?_
      refine w2_cond_f ((opd_tmp (u50.get)).trans (congrArg (fun b => some (V.bool b)) h33)) ?_
      refine w2_skip ?_
      refine thenQ_go ?_
      refine w2_seq ?_
      refine w2_region ?_
      refine wpO_do (v := .int .i64 ((numL (cutL (s) ([45]))).1)) rfl (want_free rfl) rfl (ltn n50 (by decide)) (ev_move rfl (opd_tmp (u50.ne (u49.ne (u48.ne (u47.ne (u46.ne (u32.ne (u31.ne (u21.ne (u20.ne (u19.ne (u18.ne u17.get))))))))))))) fun f51 u51 => ?_
      have n51 := u51.n.trans n50; have s51 := u51.ds.trans s50
      refine wpO_do (v := .int .i64 ((numL (cutL (s) ([45]))).1)) rfl (want_free rfl) rfl (ltn n51 (by decide)) (ev_assign rfl (opd_tmp (u51.get))) fun f52 u52 => ?_
      have n52 := u52.n.trans n51; have s52 := u52.ds.trans s51
      refine wpO_do (v := .bool (true)) rfl (want_free rfl) rfl (ltn n52 (by decide)) (ev_assign rfl rfl) fun f53 u53 => ?_
      have n53 := u53.n.trans n52; have s53 := u53.ds.trans s52
      refine wpO_nil ?_
      refine thenQ_go ?_
      refine w2_ret ?_
      refine ⟨.inr rfl, _, ends0 s53, _, (res_tmp (u53.ne u52.get) (res_tmp (u53.get) res_nil)), ?_⟩
      exact ⟨by rw [signed_eq]; simp_all [oneOf], rfl⟩
theorem signedR_runs (hsp : Quiet sp) (s : List UInt8) (H : Heap) (hl : s.length ≤ 1000000) : CallW (envOf Tryd.prog sp) (.func 21) [.str (s)] H (fun v H' => v = .tuple [.int .i64 (signedL s).1, .bool (signedL s).2] ∧ H' = H) := by
  refine callW_body (hsp 21 (by decide)) funcs21 rfl ?_
  have a0 : ({ tmps := enterTmps [.str (s)], n := max (List.length (α := V) [.str (s)]) 30, defers := [] } : Fr).tmp 0 = some (.str (s)) := enter_tmp rfl
  have n0 : ({ tmps := enterTmps [.str (s)], n := max (List.length (α := V) [.str (s)]) 30, defers := [] } : Fr).n = 30 := rfl
  have s0 : ({ tmps := enterTmps [.str (s)], n := max (List.length (α := V) [.str (s)]) 30, defers := [] } : Fr).defers = [] := rfl
  generalize ({ tmps := enterTmps [.str (s)], n := max (List.length (α := V) [.str (s)]) 30, defers := [] } : Fr) = f0 at a0 n0 s0 ⊢
  refine w2_seq ?_
  refine w2_region ?_
  refine wpO_do (v := .int .i64 (0)) rfl (want_free rfl) rfl (ltn n0 (by decide)) (ev_assign rfl rfl) fun f1 u1 => ?_
  have n1 := u1.n.trans n0; have s1 := u1.ds.trans s0
  refine wpO_do (v := .bool (false)) rfl (want_free rfl) rfl (ltn n1 (by decide)) (ev_assign rfl rfl) fun f2 u2 => ?_
  have n2 := u2.n.trans n1; have s2 := u2.ds.trans s1
  refine wpO_nil ?_
  refine thenQ_go ?_
  refine w2_seq ?_
  refine w2_seq ?_
  refine w2_region ?_
  refine wpO_do (v := .str (s)) rfl (want_free rfl) rfl (ltn n2 (by decide)) (ev_move rfl (opd_tmp (u2.ne (u1.ne (a0))))) fun f3 u3 => ?_
  have n3 := u3.n.trans n2; have s3 := u3.ds.trans s2
  refine wpO_do (v := .bool ((s == []))) rfl (want_free rfl) rfl (ltn n3 (by decide)) (ev_binS rfl (by decide) (opd_tmp (u3.get)) rfl rfl) fun f4 u4 => ?_
  have n4 := u4.n.trans n3; have s4 := u4.ds.trans s3
  refine wpO_do (v := .bool ((s == []))) rfl (want_free rfl) rfl (ltn n4 (by decide)) (ev_move rfl (opd_tmp (u4.get))) fun f5 u5 => ?_
  have n5 := u5.n.trans n4; have s5 := u5.ds.trans s4
  rcases Bool.eq_false_or_eq_true ((s == [])) with h6 | h6
  ·
    have h6p := nil_t h6
    refine wpO_pass rfl (want_no rfl rfl ((u5.get).trans (congrArg (fun b => some (V.bool b)) h6))) rfl (ltn n5 (by decide)) fun f7 u7 => ?_
    have n7 := u7.n.trans n5; have s7 := u7.ds.trans s5
    refine wpO_pass rfl (want_no rfl rfl ((u7.ne u5.get).trans (congrArg (fun b => some (V.bool b)) h6))) rfl (ltn n7 (by decide)) fun f8 u8 => ?_
    have n8 := u8.n.trans n7; have s8 := u8.ds.trans s7
    refine wpO_pass rfl (want_no rfl rfl ((u8.ne (u7.ne u5.get)).trans (congrArg (fun b => some (V.bool b)) h6))) rfl (ltn n8 (by decide)) fun f9 u9 => ?_
    have n9 := u9.n.trans n8; have s9 := u9.ds.trans s8
    refine wpO_do (v := .bool (true)) rfl (want_free rfl) rfl (ltn n9 (by decide)) (ev_pick_t rfl ((opd_tmp (u9.ne (u8.ne (u7.ne u5.get)))).trans (congrArg (fun b => some (V.bool b)) h6)) rfl) fun f10 u10 => ?_
    have n10 := u10.n.trans n9; have s10 := u10.ds.trans s9
    refine wpO_nil ?_
    refine thenQ_go ?_
    refine w2_cond_t (opd_tmp (u10.get)) ?_
    refine w2_seq ?_
    refine w2_region ?_
    refine wpO_do (v := .str (s)) rfl (want_free rfl) rfl (ltn n10 (by decide)) (ev_move rfl (opd_tmp (u10.ne (u9.ne (u8.ne (u7.ne (u5.ne (u4.ne (u3.ne (u2.ne (u1.ne (a0)))))))))))) fun f11 u11 => ?_
    have n11 := u11.n.trans n10; have s11 := u11.ds.trans s10
    refine wpO_ask rfl (want_free rfl) rfl (ltn n11 (by decide)) (ev_call rfl rfl rfl (opds_cons (opd_tmp (u11.get)) opds_nil) rfl) (numberR_runs hsp (s) _ (by first | omega | (simp only [List.length_drop]; omega))) fun v12 H12 r12 f13 u13 => ?_
    obtain ⟨rfl, rfl⟩ := r12; have hb := numL_bd (s)
    have n13 := u13.n.trans n11; have s13 := u13.ds.trans s11
    refine wpO_do (v := .int .i64 ((numL (s)).1)) rfl (want_free rfl) rfl (ltn n13 (by decide)) (ev_extract rfl (opd_tmp (u13.get)) rfl) fun f14 u14 => ?_
    have n14 := u14.n.trans n13; have s14 := u14.ds.trans s13
    refine wpO_do (v := .bool ((numL (s)).2)) rfl (want_free rfl) rfl (ltn n14 (by decide)) (ev_extract rfl (opd_tmp (u14.ne u13.get)) rfl) fun f15 u15 => ?_
    have n15 := u15.n.trans n14; have s15 := u15.ds.trans s14
    refine wpO_do (v := .int .i64 ((numL (s)).1)) rfl (want_free rfl) rfl (ltn n15 (by decide)) (ev_assign rfl (opd_tmp (u15.ne u14.get))) fun f16 u16 => ?_
    have n16 := u16.n.trans n15; have s16 := u16.ds.trans s15
    refine wpO_do (v := .bool ((numL (s)).2)) rfl (want_free rfl) rfl (ltn n16 (by decide)) (ev_assign rfl (opd_tmp (u16.ne u15.get))) fun f17 u17 => ?_
    have n17 := u17.n.trans n16; have s17 := u17.ds.trans s16
    refine wpO_nil ?_
    refine thenQ_go ?_
    refine w2_ret ?_
    refine thenQ_rt ?_
    refine ⟨.inr rfl, _, ends0 s17, _, (res_tmp (u17.ne u16.get) (res_tmp (u17.get) res_nil)), ?_⟩
    exact ⟨by rw [signed_ref_plain (s := s) (by first | (right; omega) | (left; simp_all; done))]; rfl, rfl⟩
  ·
    have h6p := nil_f h6
    refine wpO_do (v := .str (s)) rfl (want_yes rfl rfl ((u5.get).trans (congrArg (fun b => some (V.bool b)) h6))) rfl (ltn n5 (by decide)) (ev_move rfl (opd_tmp (u5.ne (u4.ne (u3.ne (u2.ne (u1.ne (a0)))))))) fun f18 u18 => ?_
    have n18 := u18.n.trans n5; have s18 := u18.ds.trans s5
    have q19 := byteI_bd (s) (0)
    refine wpO_do (v := .int .u8 (byteI (s) (0))) rfl (want_yes rfl rfl ((u18.ne u5.get).trans (congrArg (fun b => some (V.bool b)) h6))) rfl (ltn n18 (by decide)) (ev_indexB rfl ty9 rfl (opd_tmp (u18.get)) rfl (by omega) (by omega)) fun f20 u20 => ?_
    have n20 := u20.n.trans n18; have s20 := u20.ds.trans s18
    refine wpO_do (v := .bool ((byteI (s) (0) : Int) != (45 : Int))) rfl (want_yes rfl rfl ((u20.ne (u18.ne u5.get)).trans (congrArg (fun b => some (V.bool b)) h6))) rfl (ltn n20 (by decide)) (ev_binI rfl (by decide) (opd_tmp (u20.get)) rfl rfl) fun f21 u21 => ?_
    have n21 := u21.n.trans n20; have s21 := u21.ds.trans s20
    refine wpO_do (v := .bool ((byteI (s) (0) : Int) != (45 : Int))) rfl (want_free rfl) rfl (ltn n21 (by decide)) (ev_pick_f rfl ((opd_tmp (u21.ne (u20.ne (u18.ne u5.get)))).trans (congrArg (fun b => some (V.bool b)) h6)) (opd_tmp (u21.get))) fun f22 u22 => ?_
    have n22 := u22.n.trans n21; have s22 := u22.ds.trans s21
    refine wpO_nil ?_
    refine thenQ_go ?_
    rcases Bool.eq_false_or_eq_true ((byteI (s) (0) : Int) != (45 : Int)) with h23 | h23
    ·
      have h23p := bne_t h23
      refine w2_cond_t ((opd_tmp (u22.get)).trans (congrArg (fun b => some (V.bool b)) h23)) ?_
      refine w2_seq ?_
      refine w2_region ?_
      refine wpO_do (v := .str (s)) rfl (want_free rfl) rfl (ltn n22 (by decide)) (ev_move rfl (opd_tmp (u22.ne (u21.ne (u20.ne (u18.ne (u5.ne (u4.ne (u3.ne (u2.ne (u1.ne (a0)))))))))))) fun f24 u24 => ?_
      have n24 := u24.n.trans n22; have s24 := u24.ds.trans s22
      refine wpO_ask rfl (want_free rfl) rfl (ltn n24 (by decide)) (ev_call rfl rfl rfl (opds_cons (opd_tmp (u24.get)) opds_nil) rfl) (numberR_runs hsp (s) _ (by first | omega | (simp only [List.length_drop]; omega))) fun v25 H25 r25 f26 u26 => ?_
      obtain ⟨rfl, rfl⟩ := r25; have hb := numL_bd (s)
      have n26 := u26.n.trans n24; have s26 := u26.ds.trans s24
      refine wpO_do (v := .int .i64 ((numL (s)).1)) rfl (want_free rfl) rfl (ltn n26 (by decide)) (ev_extract rfl (opd_tmp (u26.get)) rfl) fun f27 u27 => ?_
      have n27 := u27.n.trans n26; have s27 := u27.ds.trans s26
      refine wpO_do (v := .bool ((numL (s)).2)) rfl (want_free rfl) rfl (ltn n27 (by decide)) (ev_extract rfl (opd_tmp (u27.ne u26.get)) rfl) fun f28 u28 => ?_
      have n28 := u28.n.trans n27; have s28 := u28.ds.trans s27
      refine wpO_do (v := .int .i64 ((numL (s)).1)) rfl (want_free rfl) rfl (ltn n28 (by decide)) (ev_assign rfl (opd_tmp (u28.ne u27.get))) fun f29 u29 => ?_
      have n29 := u29.n.trans n28; have s29 := u29.ds.trans s28
      refine wpO_do (v := .bool ((numL (s)).2)) rfl (want_free rfl) rfl (ltn n29 (by decide)) (ev_assign rfl (opd_tmp (u29.ne u28.get))) fun f30 u30 => ?_
      have n30 := u30.n.trans n29; have s30 := u30.ds.trans s29
      refine wpO_nil ?_
      refine thenQ_go ?_
      refine w2_ret ?_
      refine thenQ_rt ?_
      refine ⟨.inr rfl, _, ends0 s30, _, (res_tmp (u30.ne u29.get) (res_tmp (u30.get) res_nil)), ?_⟩
      exact ⟨by rw [signed_ref_plain (s := s) (by first | (right; omega) | (left; simp_all; done))]; rfl, rfl⟩
    ·
      have h23p := bne_f h23
      refine w2_cond_f ((opd_tmp (u22.get)).trans (congrArg (fun b => some (V.bool b)) h23)) ?_
      refine w2_skip ?_
      refine thenQ_go ?_
      refine w2_seq ?_
      refine w2_region ?_
      refine wpO_do (v := .str (s)) rfl (want_free rfl) rfl (ltn n22 (by decide)) (ev_move rfl (opd_tmp (u22.ne (u21.ne (u20.ne (u18.ne (u5.ne (u4.ne (u3.ne (u2.ne (u1.ne (a0)))))))))))) fun f31 u31 => ?_
      have n31 := u31.n.trans n22; have s31 := u31.ds.trans s22
      refine wpO_do (v := .str (List.drop 1 (s))) rfl (want_free rfl) rfl (ltn n31 (by decide)) (ev_sliceS rfl ty9 rfl (opd_tmp (u31.get)) (opdO_some rfl) opdO_none (sliceV_strFrom (by omega))) fun f32 u32 => ?_
      have n32 := u32.n.trans n31; have s32 := u32.ds.trans s31
      refine wpO_ask rfl (want_free rfl) rfl (ltn n32 (by decide)) (ev_call rfl rfl rfl (opds_cons (opd_tmp (u32.get)) opds_nil) rfl) (numberR_runs hsp (List.drop 1 (s)) _ (by first | omega | (simp only [List.length_drop]; omega))) fun v33 H33 r33 f34 u34 => ?_
      obtain ⟨rfl, rfl⟩ := r33; have hb := numL_bd (List.drop 1 (s))
      have n34 := u34.n.trans n32; have s34 := u34.ds.trans s32
      refine wpO_do (v := .tuple [.int .i64 ((numL (List.drop 1 (s))).1), .bool ((numL (List.drop 1 (s))).2)]) rfl (want_free rfl) rfl (ltn n34 (by decide)) (ev_move rfl (opd_tmp (u34.get))) fun f35 u35 => ?_
      have n35 := u35.n.trans n34; have s35 := u35.ds.trans s34
      refine wpO_do (v := .int .i64 ((numL (List.drop 1 (s))).1)) rfl (want_free rfl) rfl (ltn n35 (by decide)) (ev_extract rfl (opd_tmp (u35.get)) rfl) fun f36 u36 => ?_
      have n36 := u36.n.trans n35; have s36 := u36.ds.trans s35
      refine wpO_do (v := .bool ((numL (List.drop 1 (s))).2)) rfl (want_free rfl) rfl (ltn n36 (by decide)) (ev_extract rfl (opd_tmp (u36.ne u35.get)) rfl) fun f37 u37 => ?_
      have n37 := u37.n.trans n36; have s37 := u37.ds.trans s36
      refine wpO_do (v := .int .i64 ((numL (List.drop 1 (s))).1)) rfl (want_free rfl) rfl (ltn n37 (by decide)) (ev_assign rfl (opd_tmp (u37.ne u36.get))) fun f38 u38 => ?_
      have n38 := u38.n.trans n37; have s38 := u38.ds.trans s37
      refine wpO_do (v := .bool ((numL (List.drop 1 (s))).2)) rfl (want_free rfl) rfl (ltn n38 (by decide)) (ev_assign rfl (opd_tmp (u38.ne u37.get))) fun f39 u39 => ?_
      have n39 := u39.n.trans n38; have s39 := u39.ds.trans s38
      refine wpO_nil ?_
      refine thenQ_go ?_
      refine w2_seq ?_
      refine w2_region ?_
      refine wpO_do (v := .int .i64 ((numL (List.drop 1 (s))).1)) rfl (want_free rfl) rfl (ltn n39 (by decide)) (ev_move rfl (opd_tmp (u39.ne u38.get))) fun f40 u40 => ?_
      have n40 := u40.n.trans n39; have s40 := u40.ds.trans s39
      refine wpO_do (v := .int .i64 (-((numL (List.drop 1 (s))).1))) rfl (want_free rfl) rfl (ltn n40 (by decide)) (ev_negW rfl (opd_tmp (u40.get)) (wrap64 (by omega) (by omega))) fun f41 u41 => ?_
      have n41 := u41.n.trans n40; have s41 := u41.ds.trans s40
      refine wpO_do (v := .bool ((numL (List.drop 1 (s))).2)) rfl (want_free rfl) rfl (ltn n41 (by decide)) (ev_move rfl (opd_tmp (u41.ne (u40.ne u39.get)))) fun f42 u42 => ?_
      have n42 := u42.n.trans n41; have s42 := u42.ds.trans s41
      refine wpO_do (v := .bool ((numL (List.drop 1 (s))).2)) rfl (want_free rfl) rfl (ltn n42 (by decide)) (ev_move rfl (opd_tmp (u42.get))) fun f43 u43 => ?_
      have n43 := u43.n.trans n42; have s43 := u43.ds.trans s42
      rcases Bool.eq_false_or_eq_true ((numL (List.drop 1 (s))).2) with h44 | h44
      ·
        refine wpO_do (v := .int .i64 ((numL (List.drop 1 (s))).1)) rfl (want_yes rfl rfl ((u43.get).trans (congrArg (fun b => some (V.bool b)) h44))) rfl (ltn n43 (by decide)) (ev_move rfl (opd_tmp (u43.ne (u42.ne (u41.ne (u40.ne (u39.ne u38.get))))))) fun f45 u45 => ?_
        have n45 := u45.n.trans n43; have s45 := u45.ds.trans s43
        refine wpO_do (v := .bool (decide (((numL (List.drop 1 (s))).1 : Int) > (0 : Int)))) rfl (want_yes rfl rfl ((u45.ne u43.get).trans (congrArg (fun b => some (V.bool b)) h44))) rfl (ltn n45 (by decide)) (ev_binI rfl (by decide) (opd_tmp (u45.get)) rfl rfl) fun f46 u46 => ?_
        have n46 := u46.n.trans n45; have s46 := u46.ds.trans s45
        refine wpO_do (v := .bool (decide (((numL (List.drop 1 (s))).1 : Int) > (0 : Int)))) rfl (want_free rfl) rfl (ltn n46 (by decide)) (ev_pick_t rfl ((opd_tmp (u46.ne (u45.ne u43.get))).trans (congrArg (fun b => some (V.bool b)) h44)) (opd_tmp (u46.get))) fun f47 u47 => ?_
        have n47 := u47.n.trans n46; have s47 := u47.ds.trans s46
        refine wpO_do (v := .int .i64 (-((numL (List.drop 1 (s))).1))) rfl (want_free rfl) rfl (ltn n47 (by decide)) (ev_assign rfl (opd_tmp (u47.ne (u46.ne (u45.ne (u43.ne (u42.ne u41.get))))))) fun f48 u48 => ?_
        have n48 := u48.n.trans n47; have s48 := u48.ds.trans s47
        refine wpO_do (v := .bool (decide (((numL (List.drop 1 (s))).1 : Int) > (0 : Int)))) rfl (want_free rfl) rfl (ltn n48 (by decide)) (ev_assign rfl (opd_tmp (u48.ne u47.get))) fun f49 u49 => ?_
        have n49 := u49.n.trans n48; have s49 := u49.ds.trans s48
        refine wpO_nil ?_
        refine thenQ_go ?_
        refine w2_ret ?_
        refine ⟨.inr rfl, _, ends0 s49, _, (res_tmp (u49.ne u48.get) (res_tmp (u49.get) res_nil)), ?_⟩
        exact ⟨by rw [signed_ref_minus (s := s) (by simp_all) (by omega)]; simp_all [oneOf], rfl⟩
      ·
        refine wpO_pass rfl (want_no rfl rfl ((u43.get).trans (congrArg (fun b => some (V.bool b)) h44))) rfl (ltn n43 (by decide)) fun f50 u50 => ?_
        have n50 := u50.n.trans n43; have s50 := u50.ds.trans s43
        refine wpO_pass rfl (want_no rfl rfl ((u50.ne u43.get).trans (congrArg (fun b => some (V.bool b)) h44))) rfl (ltn n50 (by decide)) fun f51 u51 => ?_
        have n51 := u51.n.trans n50; have s51 := u51.ds.trans s50
        refine wpO_do (v := .bool (false)) rfl (want_free rfl) rfl (ltn n51 (by decide)) (ev_pick_f rfl ((opd_tmp (u51.ne (u50.ne u43.get))).trans (congrArg (fun b => some (V.bool b)) h44)) rfl) fun f52 u52 => ?_
        have n52 := u52.n.trans n51; have s52 := u52.ds.trans s51
        refine wpO_do (v := .int .i64 (-((numL (List.drop 1 (s))).1))) rfl (want_free rfl) rfl (ltn n52 (by decide)) (ev_assign rfl (opd_tmp (u52.ne (u51.ne (u50.ne (u43.ne (u42.ne u41.get))))))) fun f53 u53 => ?_
        have n53 := u53.n.trans n52; have s53 := u53.ds.trans s52
        refine wpO_do (v := .bool (false)) rfl (want_free rfl) rfl (ltn n53 (by decide)) (ev_assign rfl (opd_tmp (u53.ne u52.get))) fun f54 u54 => ?_
        have n54 := u54.n.trans n53; have s54 := u54.ds.trans s53
        refine wpO_nil ?_
        refine thenQ_go ?_
        refine w2_ret ?_
        refine ⟨.inr rfl, _, ends0 s54, _, (res_tmp (u54.ne u53.get) (res_tmp (u54.get) res_nil)), ?_⟩
        exact ⟨by rw [signed_ref_minus (s := s) (by simp_all) (by omega)]; simp_all [oneOf], rfl⟩
theorem index0_runs (hsp : Quiet sp) (s : List UInt8) (c : Int) (H : Heap) : CallW (envOf Tryd.prog sp) (.func 60) [.str s, .int .u8 c] H (fun v H' => v = .int .i64 (idxL s c) ∧ H' = H) :=
  callW_ext (hsp 60 (by decide)) funcs60 rfl (by unfold idxL; rfl) ⟨rfl, rfl⟩
theorem index1_runs (hsp : Quiet sp) (s : List UInt8) (c : Int) (H : Heap) : CallW (envOf Tryd.prog sp) (.func 53) [.str (s), .int .u8 (c)] H (fun v H' => v = .int .i64 (idxL s c) ∧ H' = H) := by
  refine callW_body (hsp 53 (by decide)) funcs53 rfl ?_
  have a0 : ({ tmps := enterTmps [.str (s), .int .u8 (c)], n := max (List.length (α := V) [.str (s), .int .u8 (c)]) 8, defers := [] } : Fr).tmp 0 = some (.str (s)) := enter_tmp rfl
  have a1 : ({ tmps := enterTmps [.str (s), .int .u8 (c)], n := max (List.length (α := V) [.str (s), .int .u8 (c)]) 8, defers := [] } : Fr).tmp 1 = some (.int .u8 (c)) := enter_tmp rfl
  have n0 : ({ tmps := enterTmps [.str (s), .int .u8 (c)], n := max (List.length (α := V) [.str (s), .int .u8 (c)]) 8, defers := [] } : Fr).n = 8 := rfl
  have s0 : ({ tmps := enterTmps [.str (s), .int .u8 (c)], n := max (List.length (α := V) [.str (s), .int .u8 (c)]) 8, defers := [] } : Fr).defers = [] := rfl
  generalize ({ tmps := enterTmps [.str (s), .int .u8 (c)], n := max (List.length (α := V) [.str (s), .int .u8 (c)]) 8, defers := [] } : Fr) = f0 at a0 a1 n0 s0 ⊢
  refine w2_seq ?_
  refine w2_region ?_
  refine wpO_do (v := .int .i64 (0)) rfl (want_free rfl) rfl (ltn n0 (by decide)) (ev_assign rfl rfl) fun f1 u1 => ?_
  have n1 := u1.n.trans n0; have s1 := u1.ds.trans s0
  refine wpO_nil ?_
  refine thenQ_go ?_
  refine w2_seq ?_
  refine w2_region ?_
  refine wpO_do (v := .str (s)) rfl (want_free rfl) rfl (ltn n1 (by decide)) (ev_move rfl (opd_tmp (u1.ne (a0)))) fun f2 u2 => ?_
  have n2 := u2.n.trans n1; have s2 := u2.ds.trans s1
  refine wpO_do (v := .int .u8 (c)) rfl (want_free rfl) rfl (ltn n2 (by decide)) (ev_move rfl (opd_tmp (u2.ne (u1.ne (a1))))) fun f3 u3 => ?_
  have n3 := u3.n.trans n2; have s3 := u3.ds.trans s2
  refine wpO_ask rfl (want_free rfl) rfl (ltn n3 (by decide)) (ev_call rfl rfl rfl (opds_cons (opd_tmp (u3.ne u2.get)) (opds_cons (opd_tmp (u3.get)) opds_nil)) rfl) (index0_runs hsp (s) (c) _) fun v4 H4 r4 f5 u5 => ?_
  obtain ⟨rfl, rfl⟩ := r4; have hx := idxL_bd (s) (c)
  have n5 := u5.n.trans n3; have s5 := u5.ds.trans s3
  refine wpO_do (v := .int .i64 (idxL (s) (c))) rfl (want_free rfl) rfl (ltn n5 (by decide)) (ev_assign rfl (opd_tmp (u5.get))) fun f6 u6 => ?_
  have n6 := u6.n.trans n5; have s6 := u6.ds.trans s5
  refine wpO_nil ?_
  refine thenQ_go ?_
  refine w2_ret ?_
  refine ⟨.inr rfl, _, ends0 s6, _, (res_tmp (u6.get) res_nil), ?_⟩
  exact ⟨rfl, rfl⟩
theorem index2_runs (hsp : Quiet sp) (s : List UInt8) (c : Int) (H : Heap) : CallW (envOf Tryd.prog sp) (.func 41) [.str (s), .int .u8 (c)] H (fun v H' => v = .int .i64 (idxL s c) ∧ H' = H) := by
  refine callW_body (hsp 41 (by decide)) funcs41 rfl ?_
  have a0 : ({ tmps := enterTmps [.str (s), .int .u8 (c)], n := max (List.length (α := V) [.str (s), .int .u8 (c)]) 8, defers := [] } : Fr).tmp 0 = some (.str (s)) := enter_tmp rfl
  have a1 : ({ tmps := enterTmps [.str (s), .int .u8 (c)], n := max (List.length (α := V) [.str (s), .int .u8 (c)]) 8, defers := [] } : Fr).tmp 1 = some (.int .u8 (c)) := enter_tmp rfl
  have n0 : ({ tmps := enterTmps [.str (s), .int .u8 (c)], n := max (List.length (α := V) [.str (s), .int .u8 (c)]) 8, defers := [] } : Fr).n = 8 := rfl
  have s0 : ({ tmps := enterTmps [.str (s), .int .u8 (c)], n := max (List.length (α := V) [.str (s), .int .u8 (c)]) 8, defers := [] } : Fr).defers = [] := rfl
  generalize ({ tmps := enterTmps [.str (s), .int .u8 (c)], n := max (List.length (α := V) [.str (s), .int .u8 (c)]) 8, defers := [] } : Fr) = f0 at a0 a1 n0 s0 ⊢
  refine w2_seq ?_
  refine w2_region ?_
  refine wpO_do (v := .int .i64 (0)) rfl (want_free rfl) rfl (ltn n0 (by decide)) (ev_assign rfl rfl) fun f1 u1 => ?_
  have n1 := u1.n.trans n0; have s1 := u1.ds.trans s0
  refine wpO_nil ?_
  refine thenQ_go ?_
  refine w2_seq ?_
  refine w2_region ?_
  refine wpO_do (v := .str (s)) rfl (want_free rfl) rfl (ltn n1 (by decide)) (ev_move rfl (opd_tmp (u1.ne (a0)))) fun f2 u2 => ?_
  have n2 := u2.n.trans n1; have s2 := u2.ds.trans s1
  refine wpO_do (v := .int .u8 (c)) rfl (want_free rfl) rfl (ltn n2 (by decide)) (ev_move rfl (opd_tmp (u2.ne (u1.ne (a1))))) fun f3 u3 => ?_
  have n3 := u3.n.trans n2; have s3 := u3.ds.trans s2
  refine wpO_ask rfl (want_free rfl) rfl (ltn n3 (by decide)) (ev_call rfl rfl rfl (opds_cons (opd_tmp (u3.ne u2.get)) (opds_cons (opd_tmp (u3.get)) opds_nil)) rfl) (index1_runs hsp (s) (c) _) fun v4 H4 r4 f5 u5 => ?_
  obtain ⟨rfl, rfl⟩ := r4; have hx := idxL_bd (s) (c)
  have n5 := u5.n.trans n3; have s5 := u5.ds.trans s3
  refine wpO_do (v := .int .i64 (idxL (s) (c))) rfl (want_free rfl) rfl (ltn n5 (by decide)) (ev_assign rfl (opd_tmp (u5.get))) fun f6 u6 => ?_
  have n6 := u6.n.trans n5; have s6 := u6.ds.trans s5
  refine wpO_nil ?_
  refine thenQ_go ?_
  refine w2_ret ?_
  refine ⟨.inr rfl, _, ends0 s6, _, (res_tmp (u6.get) res_nil), ?_⟩
  exact ⟨rfl, rfl⟩
theorem pair_runs (hsp : Quiet sp) (s : List UInt8) (c : Int) (H : Heap) (hl : s.length ≤ 1000000) (h0 : 0 ≤ c) (h1 : c < 256) : CallW (envOf Tryd.prog sp) (.func 22) [.str (s), .int .u8 (c)] H (fun v H' => v = .tuple [.str (pairL s c).1, .str (pairL s c).2.1, .bool (pairL s c).2.2] ∧ H' = H) := by
  refine callW_body (hsp 22 (by decide)) funcs22 rfl ?_
  have a0 : ({ tmps := enterTmps [.str (s), .int .u8 (c)], n := max (List.length (α := V) [.str (s), .int .u8 (c)]) 29, defers := [] } : Fr).tmp 0 = some (.str (s)) := enter_tmp rfl
  have a1 : ({ tmps := enterTmps [.str (s), .int .u8 (c)], n := max (List.length (α := V) [.str (s), .int .u8 (c)]) 29, defers := [] } : Fr).tmp 1 = some (.int .u8 (c)) := enter_tmp rfl
  have n0 : ({ tmps := enterTmps [.str (s), .int .u8 (c)], n := max (List.length (α := V) [.str (s), .int .u8 (c)]) 29, defers := [] } : Fr).n = 29 := rfl
  have s0 : ({ tmps := enterTmps [.str (s), .int .u8 (c)], n := max (List.length (α := V) [.str (s), .int .u8 (c)]) 29, defers := [] } : Fr).defers = [] := rfl
  generalize ({ tmps := enterTmps [.str (s), .int .u8 (c)], n := max (List.length (α := V) [.str (s), .int .u8 (c)]) 29, defers := [] } : Fr) = f0 at a0 a1 n0 s0 ⊢
  refine w2_seq ?_
  refine w2_region ?_
  refine wpO_do (v := .str ([])) rfl (want_free rfl) rfl (ltn n0 (by decide)) (ev_assign rfl rfl) fun f1 u1 => ?_
  have n1 := u1.n.trans n0; have s1 := u1.ds.trans s0
  refine wpO_do (v := .str ([])) rfl (want_free rfl) rfl (ltn n1 (by decide)) (ev_assign rfl rfl) fun f2 u2 => ?_
  have n2 := u2.n.trans n1; have s2 := u2.ds.trans s1
  refine wpO_do (v := .bool (false)) rfl (want_free rfl) rfl (ltn n2 (by decide)) (ev_assign rfl rfl) fun f3 u3 => ?_
  have n3 := u3.n.trans n2; have s3 := u3.ds.trans s2
  refine wpO_nil ?_
  refine thenQ_go ?_
  refine w2_seq ?_
  refine w2_region ?_
  refine wpO_do (v := .str (s)) rfl (want_free rfl) rfl (ltn n3 (by decide)) (ev_move rfl (opd_tmp (u3.ne (u2.ne (u1.ne (a0)))))) fun f4 u4 => ?_
  have n4 := u4.n.trans n3; have s4 := u4.ds.trans s3
  refine wpO_do (v := .int .u8 (c)) rfl (want_free rfl) rfl (ltn n4 (by decide)) (ev_move rfl (opd_tmp (u4.ne (u3.ne (u2.ne (u1.ne (a1))))))) fun f5 u5 => ?_
  have n5 := u5.n.trans n4; have s5 := u5.ds.trans s4
  refine wpO_ask rfl (want_free rfl) rfl (ltn n5 (by decide)) (ev_call rfl rfl rfl (opds_cons (opd_tmp (u5.ne u4.get)) (opds_cons (opd_tmp (u5.get)) opds_nil)) rfl) (index2_runs hsp (s) (c) _) fun v6 H6 r6 f7 u7 => ?_
  obtain ⟨rfl, rfl⟩ := r6; have hx := idxL_bd (s) (c)
  have n7 := u7.n.trans n5; have s7 := u7.ds.trans s5
  refine wpO_do (v := .int .i64 (idxL (s) (c))) rfl (want_free rfl) rfl (ltn n7 (by decide)) (ev_assign rfl (opd_tmp (u7.get))) fun f8 u8 => ?_
  have n8 := u8.n.trans n7; have s8 := u8.ds.trans s7
  refine wpO_nil ?_
  refine thenQ_go ?_
  refine w2_seq ?_
  refine w2_seq ?_
  refine w2_region ?_
  refine wpO_do (v := .int .i64 (idxL (s) (c))) rfl (want_free rfl) rfl (ltn n8 (by decide)) (ev_move rfl (opd_tmp (u8.get))) fun f9 u9 => ?_
  have n9 := u9.n.trans n8; have s9 := u9.ds.trans s8
  refine wpO_do (v := .bool (decide ((idxL (s) (c) : Int) < (0 : Int)))) rfl (want_free rfl) rfl (ltn n9 (by decide)) (ev_binI rfl (by decide) (opd_tmp (u9.get)) rfl rfl) fun f10 u10 => ?_
  have n10 := u10.n.trans n9; have s10 := u10.ds.trans s9
  refine wpO_do (v := .bool (decide ((idxL (s) (c) : Int) < (0 : Int)))) rfl (want_free rfl) rfl (ltn n10 (by decide)) (ev_move rfl (opd_tmp (u10.get))) fun f11 u11 => ?_
  have n11 := u11.n.trans n10; have s11 := u11.ds.trans s10
  rcases Bool.eq_false_or_eq_true (decide ((idxL (s) (c) : Int) < (0 : Int))) with h12 | h12
  ·
    have h12p := of_decide_eq_true h12
    refine wpO_pass rfl (want_no rfl rfl ((u11.get).trans (congrArg (fun b => some (V.bool b)) h12))) rfl (ltn n11 (by decide)) fun f13 u13 => ?_
    have n13 := u13.n.trans n11; have s13 := u13.ds.trans s11
    refine wpO_pass rfl (want_no rfl rfl ((u13.ne u11.get).trans (congrArg (fun b => some (V.bool b)) h12))) rfl (ltn n13 (by decide)) fun f14 u14 => ?_
    have n14 := u14.n.trans n13; have s14 := u14.ds.trans s13
    refine wpO_pass rfl (want_no rfl rfl ((u14.ne (u13.ne u11.get)).trans (congrArg (fun b => some (V.bool b)) h12))) rfl (ltn n14 (by decide)) fun f15 u15 => ?_
    have n15 := u15.n.trans n14; have s15 := u15.ds.trans s14
    refine wpO_pass rfl (want_no rfl rfl ((u15.ne (u14.ne (u13.ne u11.get))).trans (congrArg (fun b => some (V.bool b)) h12))) rfl (ltn n15 (by decide)) fun f16 u16 => ?_
    have n16 := u16.n.trans n15; have s16 := u16.ds.trans s15
    refine wpO_pass rfl (want_no rfl rfl ((u16.ne (u15.ne (u14.ne (u13.ne u11.get)))).trans (congrArg (fun b => some (V.bool b)) h12))) rfl (ltn n16 (by decide)) fun f17 u17 => ?_
    have n17 := u17.n.trans n16; have s17 := u17.ds.trans s16
    refine wpO_pass rfl (want_no rfl rfl ((u17.ne (u16.ne (u15.ne (u14.ne (u13.ne u11.get))))).trans (congrArg (fun b => some (V.bool b)) h12))) rfl (ltn n17 (by decide)) fun f18 u18 => ?_
    have n18 := u18.n.trans n17; have s18 := u18.ds.trans s17
    refine wpO_pass rfl (want_no rfl rfl ((u18.ne (u17.ne (u16.ne (u15.ne (u14.ne (u13.ne u11.get)))))).trans (congrArg (fun b => some (V.bool b)) h12))) rfl (ltn n18 (by decide)) fun f19 u19 => ?_
    have n19 := u19.n.trans n18; have s19 := u19.ds.trans s18
    refine wpO_do (v := .bool (true)) rfl (want_free rfl) rfl (ltn n19 (by decide)) (ev_pick_t rfl ((opd_tmp (u19.ne (u18.ne (u17.ne (u16.ne (u15.ne (u14.ne (u13.ne u11.get)))))))).trans (congrArg (fun b => some (V.bool b)) h12)) rfl) fun f20 u20 => ?_
    have n20 := u20.n.trans n19; have s20 := u20.ds.trans s19
    refine wpO_nil ?_
    refine thenQ_go ?_
    refine w2_cond_t (opd_tmp (u20.get)) ?_
    refine w2_seq ?_
    refine w2_region ?_
    refine wpO_do (v := .str ([])) rfl (want_free rfl) rfl (ltn n20 (by decide)) (ev_assign rfl rfl) fun f21 u21 => ?_
    have n21 := u21.n.trans n20; have s21 := u21.ds.trans s20
    refine wpO_do (v := .str ([])) rfl (want_free rfl) rfl (ltn n21 (by decide)) (ev_assign rfl rfl) fun f22 u22 => ?_
    have n22 := u22.n.trans n21; have s22 := u22.ds.trans s21
    refine wpO_do (v := .bool (false)) rfl (want_free rfl) rfl (ltn n22 (by decide)) (ev_assign rfl rfl) fun f23 u23 => ?_
    have n23 := u23.n.trans n22; have s23 := u23.ds.trans s22
    refine wpO_nil ?_
    refine thenQ_go ?_
    refine w2_ret ?_
    refine thenQ_rt ?_
    refine ⟨.inr rfl, _, ends0 s23, _, (res_tmp (u23.ne (u22.ne u21.get)) (res_tmp (u23.ne u22.get) (res_tmp (u23.get) res_nil))), ?_⟩
    exact ⟨by first | (rw [pair_none h0 h1 (by omega)]; rfl) | (rw [pair_two h0 h1 (by omega) (by omega)]; rfl), rfl⟩
  ·
    have h12p := of_decide_eq_false h12
    refine wpO_do (v := .str (s)) rfl (want_yes rfl rfl ((u11.get).trans (congrArg (fun b => some (V.bool b)) h12))) rfl (ltn n11 (by decide)) (ev_move rfl (opd_tmp (u11.ne (u10.ne (u9.ne (u8.ne (u7.ne (u5.ne (u4.ne (u3.ne (u2.ne (u1.ne (a0))))))))))))) fun f24 u24 => ?_
    have n24 := u24.n.trans n11; have s24 := u24.ds.trans s11
    refine wpO_do (v := .int .i64 (idxL (s) (c))) rfl (want_yes rfl rfl ((u24.ne u11.get).trans (congrArg (fun b => some (V.bool b)) h12))) rfl (ltn n24 (by decide)) (ev_move rfl (opd_tmp (u24.ne (u11.ne (u10.ne (u9.ne u8.get)))))) fun f25 u25 => ?_
    have n25 := u25.n.trans n24; have s25 := u25.ds.trans s24
    refine wpO_do (v := .int .i64 ((idxL (s) (c)) + (1))) rfl (want_yes rfl rfl ((u25.ne (u24.ne u11.get)).trans (congrArg (fun b => some (V.bool b)) h12))) rfl (ltn n25 (by decide)) (ev_binI rfl (by decide) (opd_tmp (u25.get)) rfl (add64 (by omega) (by omega))) fun f26 u26 => ?_
    have n26 := u26.n.trans n25; have s26 := u26.ds.trans s25
    refine wpO_do (v := .str (List.drop ((idxL (s) (c)) + (1)).toNat (s))) rfl (want_yes rfl rfl ((u26.ne (u25.ne (u24.ne u11.get))).trans (congrArg (fun b => some (V.bool b)) h12))) rfl (ltn n26 (by decide)) (ev_sliceS rfl ty9 rfl (opd_tmp (u26.ne (u25.ne u24.get))) (opdO_some (opd_tmp (u26.get))) opdO_none (sliceV_strFrom (by omega))) fun f27 u27 => ?_
    have n27 := u27.n.trans n26; have s27 := u27.ds.trans s26
    refine wpO_do (v := .int .u8 (c)) rfl (want_yes rfl rfl ((u27.ne (u26.ne (u25.ne (u24.ne u11.get)))).trans (congrArg (fun b => some (V.bool b)) h12))) rfl (ltn n27 (by decide)) (ev_move rfl (opd_tmp (u27.ne (u26.ne (u25.ne (u24.ne (u11.ne (u10.ne (u9.ne (u8.ne (u7.ne (u5.ne (u4.ne (u3.ne (u2.ne (u1.ne (a1))))))))))))))))) fun f28 u28 => ?_
    have n28 := u28.n.trans n27; have s28 := u28.ds.trans s27
    refine wpO_ask rfl (want_yes rfl rfl ((u28.ne (u27.ne (u26.ne (u25.ne (u24.ne u11.get))))).trans (congrArg (fun b => some (V.bool b)) h12))) rfl (ltn n28 (by decide)) (ev_call rfl rfl rfl (opds_cons (opd_tmp (u28.ne u27.get)) (opds_cons (opd_tmp (u28.get)) opds_nil)) rfl) (index2_runs hsp (List.drop ((idxL (s) (c)) + (1)).toNat (s)) (c) _) fun v29 H29 r29 f30 u30 => ?_
    obtain ⟨rfl, rfl⟩ := r29; have hx := idxL_bd (List.drop ((idxL (s) (c)) + (1)).toNat (s)) (c)
    have n30 := u30.n.trans n28; have s30 := u30.ds.trans s28
    refine wpO_do (v := .bool (decide ((idxL (List.drop ((idxL (s) (c)) + (1)).toNat (s)) (c) : Int) ≥ (0 : Int)))) rfl (want_yes rfl rfl ((u30.ne (u28.ne (u27.ne (u26.ne (u25.ne (u24.ne u11.get)))))).trans (congrArg (fun b => some (V.bool b)) h12))) rfl (ltn n30 (by decide)) (ev_binI rfl (by decide) (opd_tmp (u30.get)) rfl rfl) fun f31 u31 => ?_
    have n31 := u31.n.trans n30; have s31 := u31.ds.trans s30
    refine wpO_do (v := .bool (decide ((idxL (List.drop ((idxL (s) (c)) + (1)).toNat (s)) (c) : Int) ≥ (0 : Int)))) rfl (want_free rfl) rfl (ltn n31 (by decide)) (ev_pick_f rfl ((opd_tmp (u31.ne (u30.ne (u28.ne (u27.ne (u26.ne (u25.ne (u24.ne u11.get)))))))).trans (congrArg (fun b => some (V.bool b)) h12)) (opd_tmp (u31.get))) fun f32 u32 => ?_
    have n32 := u32.n.trans n31; have s32 := u32.ds.trans s31
    refine wpO_nil ?_
    refine thenQ_go ?_
    rcases Bool.eq_false_or_eq_true (decide ((idxL (List.drop ((idxL (s) (c)) + (1)).toNat (s)) (c) : Int) ≥ (0 : Int))) with h33 | h33
    ·
      have h33p := of_decide_eq_true h33
      refine w2_cond_t ((opd_tmp (u32.get)).trans (congrArg (fun b => some (V.bool b)) h33)) ?_
      refine w2_seq ?_
      refine w2_region ?_
      refine wpO_do (v := .str ([])) rfl (want_free rfl) rfl (ltn n32 (by decide)) (ev_assign rfl rfl) fun f34 u34 => ?_
      have n34 := u34.n.trans n32; have s34 := u34.ds.trans s32
      refine wpO_do (v := .str ([])) rfl (want_free rfl) rfl (ltn n34 (by decide)) (ev_assign rfl rfl) fun f35 u35 => ?_
      have n35 := u35.n.trans n34; have s35 := u35.ds.trans s34
      refine wpO_do (v := .bool (false)) rfl (want_free rfl) rfl (ltn n35 (by decide)) (ev_assign rfl rfl) fun f36 u36 => ?_
      have n36 := u36.n.trans n35; have s36 := u36.ds.trans s35
      refine wpO_nil ?_
      refine thenQ_go ?_
      refine w2_ret ?_
      refine thenQ_rt ?_
      refine ⟨.inr rfl, _, ends0 s36, _, (res_tmp (u36.ne (u35.ne u34.get)) (res_tmp (u36.ne u35.get) (res_tmp (u36.get) res_nil))), ?_⟩
      exact ⟨by first | (rw [pair_none h0 h1 (by omega)]; rfl) | (rw [pair_two h0 h1 (by omega) (by omega)]; rfl), rfl⟩
    ·
      have h33p := of_decide_eq_false h33
      refine w2_cond_f ((opd_tmp (u32.get)).trans (congrArg (fun b => some (V.bool b)) h33)) ?_
      refine w2_skip ?_
      refine thenQ_go ?_
      refine w2_seq ?_
      refine w2_draw rfl (noArr_cons ty9 (fun _ _ => by simp) (noArr_cons ty9 (fun _ _ => by simp) noArr_nil)) ?_
      refine wpO_do (v := .str (s)) rfl (want_free rfl) rfl (ltn n32 (by decide)) (ev_move rfl (opd_tmp (u32.ne (u31.ne (u30.ne (u28.ne (u27.ne (u26.ne (u25.ne (u24.ne (u11.ne (u10.ne (u9.ne (u8.ne (u7.ne (u5.ne (u4.ne (u3.ne (u2.ne (u1.ne (a0))))))))))))))))))))) fun f37 u37 => ?_
      have n37 := u37.n.trans n32; have s37 := u37.ds.trans s32
      refine wpO_do (v := .int .i64 (idxL (s) (c))) rfl (want_free rfl) rfl (ltn n37 (by decide)) (ev_move rfl (opd_tmp (u37.ne (u32.ne (u31.ne (u30.ne (u28.ne (u27.ne (u26.ne (u25.ne (u24.ne (u11.ne (u10.ne (u9.ne u8.get)))))))))))))) fun f38 u38 => ?_
      have n38 := u38.n.trans n37; have s38 := u38.ds.trans s37
      refine wpO_do (v := .str (List.take (idxL (s) (c)).toNat (s))) rfl (want_free rfl) rfl (ltn n38 (by decide)) (ev_sliceS rfl ty9 rfl (opd_tmp (u38.ne u37.get)) opdO_none (opdO_some (opd_tmp (u38.get))) (sliceV_strTo (by omega))) fun f39 u39 => ?_
      have n39 := u39.n.trans n38; have s39 := u39.ds.trans s38
      refine wpO_do (v := .str (s)) rfl (want_free rfl) rfl (ltn n39 (by decide)) (ev_move rfl (opd_tmp (u39.ne (u38.ne (u37.ne (u32.ne (u31.ne (u30.ne (u28.ne (u27.ne (u26.ne (u25.ne (u24.ne (u11.ne (u10.ne (u9.ne (u8.ne (u7.ne (u5.ne (u4.ne (u3.ne (u2.ne (u1.ne (a0)))))))))))))))))))))))) fun f40 u40 => ?_
      have n40 := u40.n.trans n39; have s40 := u40.ds.trans s39
      refine wpO_do (v := .int .i64 (idxL (s) (c))) rfl (want_free rfl) rfl (ltn n40 (by decide)) (ev_move rfl (opd_tmp (u40.ne (u39.ne (u38.ne (u37.ne (u32.ne (u31.ne (u30.ne (u28.ne (u27.ne (u26.ne (u25.ne (u24.ne (u11.ne (u10.ne (u9.ne u8.get))))))))))))))))) fun f41 u41 => ?_
      have n41 := u41.n.trans n40; have s41 := u41.ds.trans s40
      refine wpO_do (v := .int .i64 ((idxL (s) (c)) + (1))) rfl (want_free rfl) rfl (ltn n41 (by decide)) (ev_binI rfl (by decide) (opd_tmp (u41.get)) rfl (add64 (by omega) (by omega))) fun f42 u42 => ?_
      have n42 := u42.n.trans n41; have s42 := u42.ds.trans s41
      refine wpO_do (v := .str (List.drop ((idxL (s) (c)) + (1)).toNat (s))) rfl (want_free rfl) rfl (ltn n42 (by decide)) (ev_sliceS rfl ty9 rfl (opd_tmp (u42.ne (u41.ne u40.get))) (opdO_some (opd_tmp (u42.get))) opdO_none (sliceV_strFrom (by omega))) fun f43 u43 => ?_
      have n43 := u43.n.trans n42; have s43 := u43.ds.trans s42
      refine wpO_do (v := .str (List.take (idxL (s) (c)).toNat (s))) rfl (want_free rfl) rfl (ltn n43 (by decide)) (ev_assign rfl (opd_tmp (u43.ne (u42.ne (u41.ne (u40.ne u39.get)))))) fun f44 u44 => ?_
      have n44 := u44.n.trans n43; have s44 := u44.ds.trans s43
      refine wpO_do (v := .str (List.drop ((idxL (s) (c)) + (1)).toNat (s))) rfl (want_free rfl) rfl (ltn n44 (by decide)) (ev_assign rfl (opd_tmp (u44.ne u43.get))) fun f45 u45 => ?_
      have n45 := u45.n.trans n44; have s45 := u45.ds.trans s44
      refine wpO_do (v := .bool (true)) rfl (want_free rfl) rfl (ltn n45 (by decide)) (ev_assign rfl rfl) fun f46 u46 => ?_
      have n46 := u46.n.trans n45; have s46 := u46.ds.trans s45
      refine wpO_nil ?_
      refine thenQ_go ?_
      refine w2_ret ?_
      refine ⟨.inr rfl, _, ends0 s46, _, (res_tmp (u46.ne (u45.ne u44.get)) (res_tmp (u46.ne u45.get) (res_tmp (u46.get) res_nil))), ?_⟩
      exact ⟨by rw [pair_one h0 h1 (by omega) (by omega)]; rfl, rfl⟩
theorem pairR_runs (hsp : Quiet sp) (s : List UInt8) (c : Int) (H : Heap) (hl : s.length ≤ 1000000) : CallW (envOf Tryd.prog sp) (.func 23) [.str (s), .int .u8 (c)] H (fun v H' => v = .tuple [.str (pairL s c).1, .str (pairL s c).2.1, .bool (pairL s c).2.2] ∧ H' = H) := by
  refine callW_body (hsp 23 (by decide)) funcs23 rfl ?_
  have a0 : ({ tmps := enterTmps [.str (s), .int .u8 (c)], n := max (List.length (α := V) [.str (s), .int .u8 (c)]) 33, defers := [] } : Fr).tmp 0 = some (.str (s)) := enter_tmp rfl
  have a1 : ({ tmps := enterTmps [.str (s), .int .u8 (c)], n := max (List.length (α := V) [.str (s), .int .u8 (c)]) 33, defers := [] } : Fr).tmp 1 = some (.int .u8 (c)) := enter_tmp rfl
  have n0 : ({ tmps := enterTmps [.str (s), .int .u8 (c)], n := max (List.length (α := V) [.str (s), .int .u8 (c)]) 33, defers := [] } : Fr).n = 33 := rfl
  have s0 : ({ tmps := enterTmps [.str (s), .int .u8 (c)], n := max (List.length (α := V) [.str (s), .int .u8 (c)]) 33, defers := [] } : Fr).defers = [] := rfl
  generalize ({ tmps := enterTmps [.str (s), .int .u8 (c)], n := max (List.length (α := V) [.str (s), .int .u8 (c)]) 33, defers := [] } : Fr) = f0 at a0 a1 n0 s0 ⊢
  refine w2_seq ?_
  refine w2_region ?_
  refine wpO_do (v := .str ([])) rfl (want_free rfl) rfl (ltn n0 (by decide)) (ev_assign rfl rfl) fun f1 u1 => ?_
  have n1 := u1.n.trans n0; have s1 := u1.ds.trans s0
  refine wpO_do (v := .str ([])) rfl (want_free rfl) rfl (ltn n1 (by decide)) (ev_assign rfl rfl) fun f2 u2 => ?_
  have n2 := u2.n.trans n1; have s2 := u2.ds.trans s1
  refine wpO_do (v := .bool (false)) rfl (want_free rfl) rfl (ltn n2 (by decide)) (ev_assign rfl rfl) fun f3 u3 => ?_
  have n3 := u3.n.trans n2; have s3 := u3.ds.trans s2
  refine wpO_nil ?_
  refine thenQ_go ?_
  refine w2_seq ?_
  refine w2_region ?_
  refine wpO_do (v := .int .i64 (0)) rfl (want_free rfl) rfl (ltn n3 (by decide)) (ev_assign rfl rfl) fun f4 u4 => ?_
  have n4 := u4.n.trans n3; have s4 := u4.ds.trans s3
  refine wpO_do (v := .int .i64 (0)) rfl (want_free rfl) rfl (ltn n4 (by decide)) (ev_assign rfl rfl) fun f5 u5 => ?_
  have n5 := u5.n.trans n4; have s5 := u5.ds.trans s4
  refine wpO_nil ?_
  refine thenQ_go ?_
  refine w2_seq ?_
  refine w2_seq ?_
  refine w2_region ?_
  refine wpO_do (v := .int .i64 (0)) rfl (want_free rfl) rfl (ltn n5 (by decide)) (ev_assign rfl rfl) fun f6 u6 => ?_
  have n6 := u6.n.trans n5; have s6 := u6.ds.trans s5
  refine wpO_nil ?_
  refine thenQ_go ?_
  refine w2_block ?_
  refine w2_loop (fun m fr H1 => H1 = H ∧ fr.n = 33 ∧ fr.defers = [] ∧ ∃ (i : Nat) (k : Int) (q : Int), m = s.length - i ∧ i ≤ s.length ∧ 0 ≤ k ∧ k ≤ i ∧ (k < i ∨ i = 0) ∧ 0 ≤ q ∧ q ≤ i ∧ cntGo c s 0 0 0 = cntGo c (s.drop i) i k q ∧ fr.tmp 0 = some (.str (s)) ∧ fr.tmp 1 = some (.int .u8 (c)) ∧ fr.tmp 7 = some (.int .i64 (k)) ∧ fr.tmp 8 = some (.int .i64 (q)) ∧ fr.tmp 9 = some (.int .i64 ((i : Int)))) (m := s.length) ⟨rfl, n6, s6, 0, 0, 0, rfl, Nat.zero_le _, by omega, by omega, by omega, by omega, by omega, rfl, (u6.ne (u5.ne (u4.ne (u3.ne (u2.ne (u1.ne (a0))))))).trans (by first | rfl | (congr 2; omega) | simp), (u6.ne (u5.ne (u4.ne (u3.ne (u2.ne (u1.ne (a1))))))).trans (by first | rfl | (congr 2; omega) | simp), (u6.ne (u5.ne u4.get)).trans (by first | rfl | (congr 2; omega) | simp), (u6.ne u5.get).trans (by first | rfl | (congr 2; omega) | simp), (u6.get).trans (by first | rfl | (congr 2; omega) | simp)⟩ ?_
  rintro m7 g7 _ ⟨rfl, n7, s7, i, k, q, rfl, hi, hk0, hk1, hk2, hm0, hm1, hc, a7_0, a7_1, a7_7, a7_8, a7_9⟩
  refine w2_seq ?_
  refine w2_seq ?_
  refine w2_region ?_
  refine wpO_do (v := .int .i64 ((i : Int))) rfl (want_free rfl) rfl (ltn n7 (by decide)) (ev_move rfl (opd_tmp (a7_9))) fun f8 u8 => ?_
  have n8 := u8.n.trans n7; have s8 := u8.ds.trans s7
  refine wpO_do (v := .str (s)) rfl (want_free rfl) rfl (ltn n8 (by decide)) (ev_move rfl (opd_tmp (u8.ne (a7_0)))) fun f9 u9 => ?_
  have n9 := u9.n.trans n8; have s9 := u9.ds.trans s8
  refine wpO_do (v := .int .i64 (((s).length : Int))) rfl (want_free rfl) rfl (ltn n9 (by decide)) (ev_lenS rfl rfl rfl rfl ty9 rfl (opd_tmp (u9.get))) fun f10 u10 => ?_
  have n10 := u10.n.trans n9; have s10 := u10.ds.trans s9
  refine wpO_do (v := .bool (decide (((i : Int) : Int) < (((s).length : Int) : Int)))) rfl (want_free rfl) rfl (ltn n10 (by decide)) (ev_binI rfl (by decide) (opd_tmp (u10.ne (u9.ne u8.get))) (opd_tmp (u10.get)) rfl) fun f11 u11 => ?_
  have n11 := u11.n.trans n10; have s11 := u11.ds.trans s10
  refine wpO_nil ?_
  refine thenQ_go ?_
  rcases Bool.eq_false_or_eq_true (decide (((i : Int) : Int) < (((s).length : Int) : Int))) with h12 | h12
  ·
    have h12p := of_decide_eq_true h12
    refine w2_cond_t ((opd_tmp (u11.get)).trans (congrArg (fun b => some (V.bool b)) h12)) ?_
    refine w2_skip ?_
    refine thenQ_go ?_
    refine w2_seq ?_
    refine w2_block ?_
    refine w2_seq ?_
    refine w2_region ?_
    refine wpO_do (v := .str (s)) rfl (want_free rfl) rfl (ltn n11 (by decide)) (ev_move rfl (opd_tmp (u11.ne (u10.ne (u9.ne (u8.ne (a7_0))))))) fun f13 u13 => ?_
    have n13 := u13.n.trans n11; have s13 := u13.ds.trans s11
    refine wpO_do (v := .int .i64 ((i : Int))) rfl (want_free rfl) rfl (ltn n13 (by decide)) (ev_move rfl (opd_tmp (u13.ne (u11.ne (u10.ne (u9.ne (u8.ne (a7_9)))))))) fun f14 u14 => ?_
    have n14 := u14.n.trans n13; have s14 := u14.ds.trans s13
    have q15 := byteI_bd (s) ((i : Int))
    refine wpO_do (v := .int .u8 (byteI (s) ((i : Int)))) rfl (want_free rfl) rfl (ltn n14 (by decide)) (ev_indexB rfl ty9 rfl (opd_tmp (u14.ne u13.get)) (opd_tmp (u14.get)) (by omega) (by omega)) fun f16 u16 => ?_
    have n16 := u16.n.trans n14; have s16 := u16.ds.trans s14
    refine wpO_do (v := .int .u8 (c)) rfl (want_free rfl) rfl (ltn n16 (by decide)) (ev_move rfl (opd_tmp (u16.ne (u14.ne (u13.ne (u11.ne (u10.ne (u9.ne (u8.ne (a7_1)))))))))) fun f17 u17 => ?_
    have n17 := u17.n.trans n16; have s17 := u17.ds.trans s16
    refine wpO_do (v := .bool ((byteI (s) ((i : Int)) : Int) == (c : Int))) rfl (want_free rfl) rfl (ltn n17 (by decide)) (ev_binI rfl (by decide) (opd_tmp (u17.ne u16.get)) (opd_tmp (u17.get)) rfl) fun f18 u18 => ?_
    have n18 := u18.n.trans n17; have s18 := u18.ds.trans s17
    refine wpO_nil ?_
    refine thenQ_go ?_
    rcases Bool.eq_false_or_eq_true ((byteI (s) ((i : Int)) : Int) == (c : Int)) with h19 | h19
    ·
      have h19p := beq_t h19
      refine w2_cond_t ((opd_tmp (u18.get)).trans (congrArg (fun b => some (V.bool b)) h19)) ?_
      refine w2_seq ?_
      refine w2_region ?_
      refine wpO_do (v := .int .i64 ((i : Int))) rfl (want_free rfl) rfl (ltn n18 (by decide)) (ev_move rfl (opd_tmp (u18.ne (u17.ne (u16.ne (u14.ne (u13.ne (u11.ne (u10.ne (u9.ne (u8.ne (a7_9)))))))))))) fun f20 u20 => ?_
      have n20 := u20.n.trans n18; have s20 := u20.ds.trans s18
      refine wpO_do (v := .int .i64 ((i : Int))) rfl (want_free rfl) rfl (ltn n20 (by decide)) (ev_assign rfl (opd_tmp (u20.get))) fun f21 u21 => ?_
      have n21 := u21.n.trans n20; have s21 := u21.ds.trans s20
      refine wpO_nil ?_
      refine thenQ_go ?_
      refine w2_region ?_
      refine wpO_do (v := .int .i64 (q)) rfl (want_free rfl) rfl (ltn n21 (by decide)) (ev_move rfl (opd_tmp (u21.ne (u20.ne (u18.ne (u17.ne (u16.ne (u14.ne (u13.ne (u11.ne (u10.ne (u9.ne (u8.ne (a7_8)))))))))))))) fun f22 u22 => ?_
      have n22 := u22.n.trans n21; have s22 := u22.ds.trans s21
      refine wpO_do (v := .int .i64 ((q) + (1))) rfl (want_free rfl) rfl (ltn n22 (by decide)) (ev_binI rfl (by decide) (opd_tmp (u22.get)) rfl (add64 (by omega) (by omega))) fun f23 u23 => ?_
      have n23 := u23.n.trans n22; have s23 := u23.ds.trans s22
      refine wpO_do (v := .int .i64 ((q) + (1))) rfl (want_free rfl) rfl (ltn n23 (by decide)) (ev_assign rfl (opd_tmp (u23.get))) fun f24 u24 => ?_
      have n24 := u24.n.trans n23; have s24 := u24.ds.trans s23
      refine wpO_nil ?_
      refine blockQ_go ?_
      refine thenQ_go ?_
      refine w2_region ?_
      refine wpO_do (v := .int .i64 ((i : Int))) rfl (want_free rfl) rfl (ltn n24 (by decide)) (ev_move rfl (opd_tmp (u24.ne (u23.ne (u22.ne (u21.ne (u20.ne (u18.ne (u17.ne (u16.ne (u14.ne (u13.ne (u11.ne (u10.ne (u9.ne (u8.ne (a7_9))))))))))))))))) fun f25 u25 => ?_
      have n25 := u25.n.trans n24; have s25 := u25.ds.trans s24
      refine wpO_do (v := .int .i64 (((i : Int)) + (1))) rfl (want_free rfl) rfl (ltn n25 (by decide)) (ev_binI rfl (by decide) (opd_tmp (u25.get)) rfl (add64 (by omega) (by omega))) fun f26 u26 => ?_
      have n26 := u26.n.trans n25; have s26 := u26.ds.trans s25
      refine wpO_do (v := .int .i64 (((i : Int)) + (1))) rfl (want_free rfl) rfl (ltn n26 (by decide)) (ev_assign rfl (opd_tmp (u26.get))) fun f27 u27 => ?_
      have n27 := u27.n.trans n26; have s27 := u27.ds.trans s26
      refine wpO_nil ?_
      refine thenQ_go ?_
      refine ⟨_, ?_, rfl, n27, s27, i + 1, (i : Int), (q) + (1), rfl, by omega, by omega, by omega, by omega, by omega, by omega, by first | exact cnt_hit (by omega) (by omega) hc | exact cnt_miss (by omega) (by omega) hc, (u27.ne (u26.ne (u25.ne (u24.ne (u23.ne (u22.ne (u21.ne (u20.ne (u18.ne (u17.ne (u16.ne (u14.ne (u13.ne (u11.ne (u10.ne (u9.ne (u8.ne (a7_0)))))))))))))))))).trans (by first | rfl | (congr 2; omega) | simp), (u27.ne (u26.ne (u25.ne (u24.ne (u23.ne (u22.ne (u21.ne (u20.ne (u18.ne (u17.ne (u16.ne (u14.ne (u13.ne (u11.ne (u10.ne (u9.ne (u8.ne (a7_1)))))))))))))))))).trans (by first | rfl | (congr 2; omega) | simp), (u27.ne (u26.ne (u25.ne (u24.ne (u23.ne (u22.ne u21.get)))))).trans (by first | rfl | (congr 2; omega) | simp), (u27.ne (u26.ne (u25.ne u24.get))).trans (by first | rfl | (congr 2; omega) | simp), (u27.get).trans (by first | rfl | (congr 2; omega) | simp)⟩
      omega
    ·
      have h19p := beq_f h19
      refine w2_cond_f ((opd_tmp (u18.get)).trans (congrArg (fun b => some (V.bool b)) h19)) ?_
      refine w2_skip ?_
      refine blockQ_go ?_
      refine thenQ_go ?_
      refine w2_region ?_
      refine wpO_do (v := .int .i64 ((i : Int))) rfl (want_free rfl) rfl (ltn n18 (by decide)) (ev_move rfl (opd_tmp (u18.ne (u17.ne (u16.ne (u14.ne (u13.ne (u11.ne (u10.ne (u9.ne (u8.ne (a7_9)))))))))))) fun f28 u28 => ?_
      have n28 := u28.n.trans n18; have s28 := u28.ds.trans s18
      refine wpO_do (v := .int .i64 (((i : Int)) + (1))) rfl (want_free rfl) rfl (ltn n28 (by decide)) (ev_binI rfl (by decide) (opd_tmp (u28.get)) rfl (add64 (by omega) (by omega))) fun f29 u29 => ?_
      have n29 := u29.n.trans n28; have s29 := u29.ds.trans s28
      refine wpO_do (v := .int .i64 (((i : Int)) + (1))) rfl (want_free rfl) rfl (ltn n29 (by decide)) (ev_assign rfl (opd_tmp (u29.get))) fun f30 u30 => ?_
      have n30 := u30.n.trans n29; have s30 := u30.ds.trans s29
      refine wpO_nil ?_
      refine thenQ_go ?_
      refine ⟨_, ?_, rfl, n30, s30, i + 1, k, q, rfl, by omega, by omega, by omega, by omega, by omega, by omega, by first | exact cnt_hit (by omega) (by omega) hc | exact cnt_miss (by omega) (by omega) hc, (u30.ne (u29.ne (u28.ne (u18.ne (u17.ne (u16.ne (u14.ne (u13.ne (u11.ne (u10.ne (u9.ne (u8.ne (a7_0))))))))))))).trans (by first | rfl | (congr 2; omega) | simp), (u30.ne (u29.ne (u28.ne (u18.ne (u17.ne (u16.ne (u14.ne (u13.ne (u11.ne (u10.ne (u9.ne (u8.ne (a7_1))))))))))))).trans (by first | rfl | (congr 2; omega) | simp), (u30.ne (u29.ne (u28.ne (u18.ne (u17.ne (u16.ne (u14.ne (u13.ne (u11.ne (u10.ne (u9.ne (u8.ne (a7_7))))))))))))).trans (by first | rfl | (congr 2; omega) | simp), (u30.ne (u29.ne (u28.ne (u18.ne (u17.ne (u16.ne (u14.ne (u13.ne (u11.ne (u10.ne (u9.ne (u8.ne (a7_8))))))))))))).trans (by first | rfl | (congr 2; omega) | simp), (u30.get).trans (by first | rfl | (congr 2; omega) | simp)⟩
      omega
  ·
    have h12p := of_decide_eq_false h12
    refine w2_cond_f ((opd_tmp (u11.get)).trans (congrArg (fun b => some (V.bool b)) h12)) ?_
    refine w2_exit ?_
    refine thenQ_ex ?_
    refine thenQ_ex ?_
    refine blockQ_hit ?_
    refine thenQ_go ?_
    refine w2_seq ?_
    refine w2_seq ?_
    refine w2_region ?_
    refine wpO_do (v := .int .i64 (q)) rfl (want_free rfl) rfl (ltn n11 (by decide)) (ev_move rfl (opd_tmp (u11.ne (u10.ne (u9.ne (u8.ne (a7_8))))))) fun f31 u31 => ?_
    have n31 := u31.n.trans n11; have s31 := u31.ds.trans s11
    refine wpO_do (v := .bool ((q : Int) != (1 : Int))) rfl (want_free rfl) rfl (ltn n31 (by decide)) (ev_binI rfl (by decide) (opd_tmp (u31.get)) rfl rfl) fun f32 u32 => ?_
    have n32 := u32.n.trans n31; have s32 := u32.ds.trans s31
    refine wpO_nil ?_
    refine thenQ_go ?_
    rcases Bool.eq_false_or_eq_true ((q : Int) != (1 : Int)) with h33 | h33
    ·
      have h33p := bne_t h33
      refine w2_cond_t ((opd_tmp (u32.get)).trans (congrArg (fun b => some (V.bool b)) h33)) ?_
      refine w2_seq ?_
      refine w2_region ?_
      refine wpO_do (v := .str ([])) rfl (want_free rfl) rfl (ltn n32 (by decide)) (ev_assign rfl rfl) fun f34 u34 => ?_
      have n34 := u34.n.trans n32; have s34 := u34.ds.trans s32
      refine wpO_do (v := .str ([])) rfl (want_free rfl) rfl (ltn n34 (by decide)) (ev_assign rfl rfl) fun f35 u35 => ?_
      have n35 := u35.n.trans n34; have s35 := u35.ds.trans s34
      refine wpO_do (v := .bool (false)) rfl (want_free rfl) rfl (ltn n35 (by decide)) (ev_assign rfl rfl) fun f36 u36 => ?_
      have n36 := u36.n.trans n35; have s36 := u36.ds.trans s35
      refine wpO_nil ?_
      refine thenQ_go ?_
      refine w2_ret ?_
      refine thenQ_rt ?_
      refine ⟨.inr rfl, _, ends0 s36, _, (res_tmp (u36.ne (u35.ne u34.get)) (res_tmp (u36.ne u35.get) (res_tmp (u36.get) res_nil))), ?_⟩
      exact ⟨by have hE := cnt_end (i := i) (by omega) hc; rw [pairL_no hE (by omega)]; rfl, rfl⟩
    ·
      have h33p := bne_f h33
      refine w2_cond_f ((opd_tmp (u32.get)).trans (congrArg (fun b => some (V.bool b)) h33)) ?_
      refine w2_skip ?_
      refine thenQ_go ?_
      refine w2_seq ?_
      refine w2_draw rfl (noArr_cons ty9 (fun _ _ => by simp) (noArr_cons ty9 (fun _ _ => by simp) noArr_nil)) ?_
      refine wpO_do (v := .str (s)) rfl (want_free rfl) rfl (ltn n32 (by decide)) (ev_move rfl (opd_tmp (u32.ne (u31.ne (u11.ne (u10.ne (u9.ne (u8.ne (a7_0))))))))) fun f37 u37 => ?_
      have n37 := u37.n.trans n32; have s37 := u37.ds.trans s32
      refine wpO_do (v := .int .i64 (k)) rfl (want_free rfl) rfl (ltn n37 (by decide)) (ev_move rfl (opd_tmp (u37.ne (u32.ne (u31.ne (u11.ne (u10.ne (u9.ne (u8.ne (a7_7)))))))))) fun f38 u38 => ?_
      have n38 := u38.n.trans n37; have s38 := u38.ds.trans s37
      refine wpO_do (v := .str (List.take (k).toNat (s))) rfl (want_free rfl) rfl (ltn n38 (by decide)) (ev_sliceS rfl ty9 rfl (opd_tmp (u38.ne u37.get)) opdO_none (opdO_some (opd_tmp (u38.get))) (sliceV_strTo (by omega))) fun f39 u39 => ?_
      have n39 := u39.n.trans n38; have s39 := u39.ds.trans s38
      refine wpO_do (v := .str (s)) rfl (want_free rfl) rfl (ltn n39 (by decide)) (ev_move rfl (opd_tmp (u39.ne (u38.ne (u37.ne (u32.ne (u31.ne (u11.ne (u10.ne (u9.ne (u8.ne (a7_0)))))))))))) fun f40 u40 => ?_
      have n40 := u40.n.trans n39; have s40 := u40.ds.trans s39
      refine wpO_do (v := .int .i64 (k)) rfl (want_free rfl) rfl (ltn n40 (by decide)) (ev_move rfl (opd_tmp (u40.ne (u39.ne (u38.ne (u37.ne (u32.ne (u31.ne (u11.ne (u10.ne (u9.ne (u8.ne (a7_7))))))))))))) fun f41 u41 => ?_
      have n41 := u41.n.trans n40; have s41 := u41.ds.trans s40
      refine wpO_do (v := .int .i64 ((k) + (1))) rfl (want_free rfl) rfl (ltn n41 (by decide)) (ev_binI rfl (by decide) (opd_tmp (u41.get)) rfl (add64 (by omega) (by omega))) fun f42 u42 => ?_
      have n42 := u42.n.trans n41; have s42 := u42.ds.trans s41
      refine wpO_do (v := .str (List.drop ((k) + (1)).toNat (s))) rfl (want_free rfl) rfl (ltn n42 (by decide)) (ev_sliceS rfl ty9 rfl (opd_tmp (u42.ne (u41.ne u40.get))) (opdO_some (opd_tmp (u42.get))) opdO_none (sliceV_strFrom (by omega))) fun f43 u43 => ?_
      have n43 := u43.n.trans n42; have s43 := u43.ds.trans s42
      refine wpO_do (v := .str (List.take (k).toNat (s))) rfl (want_free rfl) rfl (ltn n43 (by decide)) (ev_assign rfl (opd_tmp (u43.ne (u42.ne (u41.ne (u40.ne u39.get)))))) fun f44 u44 => ?_
      have n44 := u44.n.trans n43; have s44 := u44.ds.trans s43
      refine wpO_do (v := .str (List.drop ((k) + (1)).toNat (s))) rfl (want_free rfl) rfl (ltn n44 (by decide)) (ev_assign rfl (opd_tmp (u44.ne u43.get))) fun f45 u45 => ?_
      have n45 := u45.n.trans n44; have s45 := u45.ds.trans s44
      refine wpO_do (v := .bool (true)) rfl (want_free rfl) rfl (ltn n45 (by decide)) (ev_assign rfl rfl) fun f46 u46 => ?_
      have n46 := u46.n.trans n45; have s46 := u46.ds.trans s45
      refine wpO_nil ?_
      refine thenQ_go ?_
      refine w2_ret ?_
      refine ⟨.inr rfl, _, ends0 s46, _, (res_tmp (u46.ne (u45.ne u44.get)) (res_tmp (u46.ne u45.get) (res_tmp (u46.get) res_nil))), ?_⟩
      exact ⟨by have hE := cnt_end (i := i) (by omega) hc; rw [pairL_hit hE (by omega)]; rfl, rfl⟩
end Go.Proofs.YthjgdmkelfkneaaDoor
