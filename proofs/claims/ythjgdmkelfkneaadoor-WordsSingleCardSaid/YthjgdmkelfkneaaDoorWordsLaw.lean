/- THE WALK of WordsSingle itself, over E2. Made by program (walk.py). Condition: the call of 'awake' is answered; a byte. -/
import Derived.Test.YthjgdmkelfkneaaDoorWordsWalks
namespace Go.Proofs.YthjgdmkelfkneaaDoor
open Go Go.E2
set_option maxRecDepth 100000
variable {sp : Nat → Option (List V → Heap → Option (CR × Heap))}
theorem law_runs (hsp : Quiet sp) (s : List UInt8) (c : Int) (H : Heap) (hA : AwakeOk sp) (hg : H.glob = NG) (h0 : 0 ≤ c) (h1 : c < 256) : CallW (envOf Tryd.prog sp) (.func 5) [.str (s), .int .u8 (c)] H (fun v H' => v = .bool true ∧ H' = H) := by
  refine callW_body (hsp 5 (by decide)) funcs5 rfl ?_
  have a0 : ({ tmps := enterTmps [.str (s), .int .u8 (c)], n := max (List.length (α := V) [.str (s), .int .u8 (c)]) 94, defers := [] } : Fr).tmp 0 = some (.str (s)) := enter_tmp rfl
  have a1 : ({ tmps := enterTmps [.str (s), .int .u8 (c)], n := max (List.length (α := V) [.str (s), .int .u8 (c)]) 94, defers := [] } : Fr).tmp 1 = some (.int .u8 (c)) := enter_tmp rfl
  have n0 : ({ tmps := enterTmps [.str (s), .int .u8 (c)], n := max (List.length (α := V) [.str (s), .int .u8 (c)]) 94, defers := [] } : Fr).n = 94 := rfl
  have s0 : ({ tmps := enterTmps [.str (s), .int .u8 (c)], n := max (List.length (α := V) [.str (s), .int .u8 (c)]) 94, defers := [] } : Fr).defers = [] := rfl
  generalize ({ tmps := enterTmps [.str (s), .int .u8 (c)], n := max (List.length (α := V) [.str (s), .int .u8 (c)]) 94, defers := [] } : Fr) = f0 at a0 a1 n0 s0 ⊢
  refine w2_seq ?_
  refine w2_region ?_
  refine wpO_do (v := .bool (false)) rfl (want_free rfl) rfl (ltn n0 (by decide)) (ev_assign rfl rfl) fun f1 u1 => ?_
  have n1 := u1.n.trans n0; have s1 := u1.ds.trans s0
  refine wpO_nil ?_
  refine thenQ_go ?_
  refine w2_seq ?_
  refine w2_seq ?_
  refine w2_region ?_
  refine wpO_do (v := .str (s)) rfl (want_free rfl) rfl (ltn n1 (by decide)) (ev_move rfl (opd_tmp (u1.ne (a0)))) fun f2 u2 => ?_
  have n2 := u2.n.trans n1; have s2 := u2.ds.trans s1
  refine wpO_do (v := .int .i64 (((s).length : Int))) rfl (want_free rfl) rfl (ltn n2 (by decide)) (ev_lenS rfl rfl rfl rfl ty9 rfl (opd_tmp (u2.get))) fun f3 u3 => ?_
  have n3 := u3.n.trans n2; have s3 := u3.ds.trans s2
  refine wpO_do (v := .bool (decide ((((s).length : Int) : Int) > (1000 : Int)))) rfl (want_free rfl) rfl (ltn n3 (by decide)) (ev_binI rfl (by decide) (opd_tmp (u3.get)) rfl rfl) fun f4 u4 => ?_
  have n4 := u4.n.trans n3; have s4 := u4.ds.trans s3
  refine wpO_nil ?_
  refine thenQ_go ?_
  rcases Bool.eq_false_or_eq_true (decide ((((s).length : Int) : Int) > (1000 : Int))) with h5 | h5
  ·
    have h5p := of_decide_eq_true h5
    refine w2_cond_t ((opd_tmp (u4.get)).trans (congrArg (fun b => some (V.bool b)) h5)) ?_
    refine w2_seq ?_
    refine w2_region ?_
    refine wpO_ask rfl (want_free rfl) rfl (ltn n4 (by decide)) (ev_call rfl rfl rfl opds_nil rfl) (awake_runs hA _ hg) fun v6 H6 r6 f7 u7 => ?_
    obtain ⟨rfl, rfl⟩ := r6
    have n7 := u7.n.trans n4; have s7 := u7.ds.trans s4
    refine wpO_do (v := .bool (true)) rfl (want_free rfl) rfl (ltn n7 (by decide)) (ev_assign rfl (opd_tmp (u7.get))) fun f8 u8 => ?_
    have n8 := u8.n.trans n7; have s8 := u8.ds.trans s7
    refine wpO_nil ?_
    refine thenQ_go ?_
    refine w2_ret ?_
    refine thenQ_rt ?_
    refine ⟨.inr rfl, _, ends0 s8, _, (res_tmp (u8.get) res_nil), ?_⟩
    exact ⟨rfl, rfl⟩
  ·
    have h5p := of_decide_eq_false h5
    refine w2_cond_f ((opd_tmp (u4.get)).trans (congrArg (fun b => some (V.bool b)) h5)) ?_
    refine w2_skip ?_
    refine thenQ_go ?_
    refine w2_seq ?_
    refine w2_region ?_
    refine wpO_do (v := .str (s)) rfl (want_free rfl) rfl (ltn n4 (by decide)) (ev_move rfl (opd_tmp (u4.ne (u3.ne (u2.ne (u1.ne (a0))))))) fun f9 u9 => ?_
    have n9 := u9.n.trans n4; have s9 := u9.ds.trans s4
    refine wpO_ask rfl (want_free rfl) rfl (ltn n9 (by decide)) (ev_call rfl rfl rfl (opds_cons (opd_tmp (u9.get)) opds_nil) rfl) (number_runs hsp (s) _ (by first | omega | (simp only [List.length_drop]; omega))) fun v10 H10 r10 f11 u11 => ?_
    obtain ⟨rfl, rfl⟩ := r10; have hb := numL_bd (s)
    have n11 := u11.n.trans n9; have s11 := u11.ds.trans s9
    refine wpO_do (v := .tuple [.int .i64 ((numL (s)).1), .bool ((numL (s)).2)]) rfl (want_free rfl) rfl (ltn n11 (by decide)) (ev_move rfl (opd_tmp (u11.get))) fun f12 u12 => ?_
    have n12 := u12.n.trans n11; have s12 := u12.ds.trans s11
    refine wpO_do (v := .int .i64 ((numL (s)).1)) rfl (want_free rfl) rfl (ltn n12 (by decide)) (ev_extract rfl (opd_tmp (u12.get)) rfl) fun f13 u13 => ?_
    have n13 := u13.n.trans n12; have s13 := u13.ds.trans s12
    refine wpO_do (v := .bool ((numL (s)).2)) rfl (want_free rfl) rfl (ltn n13 (by decide)) (ev_extract rfl (opd_tmp (u13.ne u12.get)) rfl) fun f14 u14 => ?_
    have n14 := u14.n.trans n13; have s14 := u14.ds.trans s13
    refine wpO_do (v := .int .i64 ((numL (s)).1)) rfl (want_free rfl) rfl (ltn n14 (by decide)) (ev_assign rfl (opd_tmp (u14.ne u13.get))) fun f15 u15 => ?_
    have n15 := u15.n.trans n14; have s15 := u15.ds.trans s14
    refine wpO_do (v := .bool ((numL (s)).2)) rfl (want_free rfl) rfl (ltn n15 (by decide)) (ev_assign rfl (opd_tmp (u15.ne u14.get))) fun f16 u16 => ?_
    have n16 := u16.n.trans n15; have s16 := u16.ds.trans s15
    refine wpO_nil ?_
    refine thenQ_go ?_
    refine w2_seq ?_
    refine w2_region ?_
    refine wpO_do (v := .str (s)) rfl (want_free rfl) rfl (ltn n16 (by decide)) (ev_move rfl (opd_tmp (u16.ne (u15.ne (u14.ne (u13.ne (u12.ne (u11.ne (u9.ne (u4.ne (u3.ne (u2.ne (u1.ne (a0)))))))))))))) fun f17 u17 => ?_
    have n17 := u17.n.trans n16; have s17 := u17.ds.trans s16
    refine wpO_ask rfl (want_free rfl) rfl (ltn n17 (by decide)) (ev_call rfl rfl rfl (opds_cons (opd_tmp (u17.get)) opds_nil) rfl) (numberR_runs hsp (s) _ (by first | omega | (simp only [List.length_drop]; omega))) fun v18 H18 r18 f19 u19 => ?_
    obtain ⟨rfl, rfl⟩ := r18; have hb := numL_bd (s)
    have n19 := u19.n.trans n17; have s19 := u19.ds.trans s17
    refine wpO_do (v := .tuple [.int .i64 ((numL (s)).1), .bool ((numL (s)).2)]) rfl (want_free rfl) rfl (ltn n19 (by decide)) (ev_move rfl (opd_tmp (u19.get))) fun f20 u20 => ?_
    have n20 := u20.n.trans n19; have s20 := u20.ds.trans s19
    refine wpO_do (v := .int .i64 ((numL (s)).1)) rfl (want_free rfl) rfl (ltn n20 (by decide)) (ev_extract rfl (opd_tmp (u20.get)) rfl) fun f21 u21 => ?_
    have n21 := u21.n.trans n20; have s21 := u21.ds.trans s20
    refine wpO_do (v := .bool ((numL (s)).2)) rfl (want_free rfl) rfl (ltn n21 (by decide)) (ev_extract rfl (opd_tmp (u21.ne u20.get)) rfl) fun f22 u22 => ?_
    have n22 := u22.n.trans n21; have s22 := u22.ds.trans s21
    refine wpO_do (v := .int .i64 ((numL (s)).1)) rfl (want_free rfl) rfl (ltn n22 (by decide)) (ev_assign rfl (opd_tmp (u22.ne u21.get))) fun f23 u23 => ?_
    have n23 := u23.n.trans n22; have s23 := u23.ds.trans s22
    refine wpO_do (v := .bool ((numL (s)).2)) rfl (want_free rfl) rfl (ltn n23 (by decide)) (ev_assign rfl (opd_tmp (u23.ne u22.get))) fun f24 u24 => ?_
    have n24 := u24.n.trans n23; have s24 := u24.ds.trans s23
    refine wpO_nil ?_
    refine thenQ_go ?_
    refine w2_seq ?_
    refine w2_seq ?_
    refine w2_region ?_
    refine wpO_do (v := .int .i64 ((numL (s)).1)) rfl (want_free rfl) rfl (ltn n24 (by decide)) (ev_move rfl (opd_tmp (u24.ne (u23.ne (u22.ne (u21.ne (u20.ne (u19.ne (u17.ne (u16.ne u15.get)))))))))) fun f25 u25 => ?_
    have n25 := u25.n.trans n24; have s25 := u25.ds.trans s24
    refine wpO_do (v := .int .i64 ((numL (s)).1)) rfl (want_free rfl) rfl (ltn n25 (by decide)) (ev_move rfl (opd_tmp (u25.ne (u24.ne u23.get)))) fun f26 u26 => ?_
    have n26 := u26.n.trans n25; have s26 := u26.ds.trans s25
    refine wpO_do (v := .bool (false)) rfl (want_free rfl) rfl (ltn n26 (by decide)) (ev_binI rfl (by decide) (opd_tmp (u26.ne u25.get)) (opd_tmp (u26.get)) int_neq) fun f27 u27 => ?_
    have n27 := u27.n.trans n26; have s27 := u27.ds.trans s26
    refine wpO_do (v := .bool (false)) rfl (want_free rfl) rfl (ltn n27 (by decide)) (ev_move rfl (opd_tmp (u27.get))) fun f28 u28 => ?_
    have n28 := u28.n.trans n27; have s28 := u28.ds.trans s27
    refine wpO_do (v := .bool ((numL (s)).2)) rfl (want_yes rfl rfl (u28.get)) rfl (ltn n28 (by decide)) (ev_move rfl (opd_tmp (u28.ne (u27.ne (u26.ne (u25.ne (u24.ne (u23.ne (u22.ne (u21.ne (u20.ne (u19.ne (u17.ne u16.get))))))))))))) fun f29 u29 => ?_
    have n29 := u29.n.trans n28; have s29 := u29.ds.trans s28
    refine wpO_do (v := .bool ((numL (s)).2)) rfl (want_yes rfl rfl (u29.ne u28.get)) rfl (ltn n29 (by decide)) (ev_move rfl (opd_tmp (u29.ne (u28.ne (u27.ne (u26.ne (u25.ne u24.get))))))) fun f30 u30 => ?_
    have n30 := u30.n.trans n29; have s30 := u30.ds.trans s29
    refine wpO_do (v := .bool (false)) rfl (want_yes rfl rfl (u30.ne (u29.ne u28.get))) rfl (ltn n30 (by decide)) (ev_binB_neq_same rfl ty4 rfl (opd_tmp (u30.ne u29.get)) (opd_tmp (u30.get))) fun f31 u31 => ?_
    have n31 := u31.n.trans n30; have s31 := u31.ds.trans s30
    refine wpO_do (v := .bool (false)) rfl (want_free rfl) rfl (ltn n31 (by decide)) (ev_pick_f rfl (opd_tmp (u31.ne (u30.ne (u29.ne u28.get)))) (opd_tmp (u31.get))) fun f32 u32 => ?_
    have n32 := u32.n.trans n31; have s32 := u32.ds.trans s31
    refine wpO_do (v := .bool (false)) rfl (want_free rfl) rfl (ltn n32 (by decide)) (ev_move rfl (opd_tmp (u32.get))) fun f33 u33 => ?_
    have n33 := u33.n.trans n32; have s33 := u33.ds.trans s32
    refine wpO_do (v := .str (s)) rfl (want_yes rfl rfl (u33.get)) rfl (ltn n33 (by decide)) (ev_move rfl (opd_tmp (u33.ne (u32.ne (u31.ne (u30.ne (u29.ne (u28.ne (u27.ne (u26.ne (u25.ne (u24.ne (u23.ne (u22.ne (u21.ne (u20.ne (u19.ne (u17.ne (u16.ne (u15.ne (u14.ne (u13.ne (u12.ne (u11.ne (u9.ne (u4.ne (u3.ne (u2.ne (u1.ne (a0)))))))))))))))))))))))))))))) fun f34 u34 => ?_
    have n34 := u34.n.trans n33; have s34 := u34.ds.trans s33
    refine wpO_ask rfl (want_yes rfl rfl (u34.ne u33.get)) rfl (ltn n34 (by decide)) (ev_call rfl rfl rfl (opds_cons (opd_tmp (u34.get)) opds_nil) rfl) (name_runs hsp (s) _ (by omega)) fun v35 H35 r35 f36 u36 => ?_
    obtain ⟨rfl, rfl⟩ := r35
    have n36 := u36.n.trans n34; have s36 := u36.ds.trans s34
    refine wpO_do (v := .str (s)) rfl (want_yes rfl rfl (u36.ne (u34.ne u33.get))) rfl (ltn n36 (by decide)) (ev_move rfl (opd_tmp (u36.ne (u34.ne (u33.ne (u32.ne (u31.ne (u30.ne (u29.ne (u28.ne (u27.ne (u26.ne (u25.ne (u24.ne (u23.ne (u22.ne (u21.ne (u20.ne (u19.ne (u17.ne (u16.ne (u15.ne (u14.ne (u13.ne (u12.ne (u11.ne (u9.ne (u4.ne (u3.ne (u2.ne (u1.ne (a0)))))))))))))))))))))))))))))))) fun f37 u37 => ?_
    have n37 := u37.n.trans n36; have s37 := u37.ds.trans s36
    refine wpO_ask rfl (want_yes rfl rfl (u37.ne (u36.ne (u34.ne u33.get)))) rfl (ltn n37 (by decide)) (ev_call rfl rfl rfl (opds_cons (opd_tmp (u37.get)) opds_nil) rfl) (nameR_runs hsp (s) _ (by omega)) fun v38 H38 r38 f39 u39 => ?_
    obtain ⟨rfl, rfl⟩ := r38
    have n39 := u39.n.trans n37; have s39 := u39.ds.trans s37
    refine wpO_do (v := .bool (false)) rfl (want_yes rfl rfl (u39.ne (u37.ne (u36.ne (u34.ne u33.get))))) rfl (ltn n39 (by decide)) (ev_binB_neq_same rfl ty4 rfl (opd_tmp (u39.ne (u37.ne u36.get))) (opd_tmp (u39.get))) fun f40 u40 => ?_
    have n40 := u40.n.trans n39; have s40 := u40.ds.trans s39
    refine wpO_do (v := .bool (false)) rfl (want_free rfl) rfl (ltn n40 (by decide)) (ev_pick_f rfl (opd_tmp (u40.ne (u39.ne (u37.ne (u36.ne (u34.ne u33.get)))))) (opd_tmp (u40.get))) fun f41 u41 => ?_
    have n41 := u41.n.trans n40; have s41 := u41.ds.trans s40
    refine wpO_nil ?_
    refine thenQ_go ?_
    refine w2_cond_f (opd_tmp (u41.get)) ?_
    refine w2_skip ?_
    refine thenQ_go ?_
    refine w2_seq ?_
    refine w2_region ?_
    refine wpO_do (v := .str (s)) rfl (want_free rfl) rfl (ltn n41 (by decide)) (ev_move rfl (opd_tmp (u41.ne (u40.ne (u39.ne (u37.ne (u36.ne (u34.ne (u33.ne (u32.ne (u31.ne (u30.ne (u29.ne (u28.ne (u27.ne (u26.ne (u25.ne (u24.ne (u23.ne (u22.ne (u21.ne (u20.ne (u19.ne (u17.ne (u16.ne (u15.ne (u14.ne (u13.ne (u12.ne (u11.ne (u9.ne (u4.ne (u3.ne (u2.ne (u1.ne (a0)))))))))))))))))))))))))))))))))))) fun f42 u42 => ?_
    have n42 := u42.n.trans n41; have s42 := u42.ds.trans s41
    refine wpO_ask rfl (want_free rfl) rfl (ltn n42 (by decide)) (ev_call rfl rfl rfl (opds_cons (opd_tmp (u42.get)) opds_nil) rfl) (signed_runs hsp (s) _ (by omega)) fun v43 H43 r43 f44 u44 => ?_
    obtain ⟨rfl, rfl⟩ := r43
    have n44 := u44.n.trans n42; have s44 := u44.ds.trans s42
    refine wpO_do (v := .tuple [.int .i64 ((signedL (s)).1), .bool ((signedL (s)).2)]) rfl (want_free rfl) rfl (ltn n44 (by decide)) (ev_move rfl (opd_tmp (u44.get))) fun f45 u45 => ?_
    have n45 := u45.n.trans n44; have s45 := u45.ds.trans s44
    refine wpO_do (v := .int .i64 ((signedL (s)).1)) rfl (want_free rfl) rfl (ltn n45 (by decide)) (ev_extract rfl (opd_tmp (u45.get)) rfl) fun f46 u46 => ?_
    have n46 := u46.n.trans n45; have s46 := u46.ds.trans s45
    refine wpO_do (v := .bool ((signedL (s)).2)) rfl (want_free rfl) rfl (ltn n46 (by decide)) (ev_extract rfl (opd_tmp (u46.ne u45.get)) rfl) fun f47 u47 => ?_
    have n47 := u47.n.trans n46; have s47 := u47.ds.trans s46
    refine wpO_do (v := .int .i64 ((signedL (s)).1)) rfl (want_free rfl) rfl (ltn n47 (by decide)) (ev_assign rfl (opd_tmp (u47.ne u46.get))) fun f48 u48 => ?_
    have n48 := u48.n.trans n47; have s48 := u48.ds.trans s47
    refine wpO_do (v := .bool ((signedL (s)).2)) rfl (want_free rfl) rfl (ltn n48 (by decide)) (ev_assign rfl (opd_tmp (u48.ne u47.get))) fun f49 u49 => ?_
    have n49 := u49.n.trans n48; have s49 := u49.ds.trans s48
    refine wpO_nil ?_
    refine thenQ_go ?_
    refine w2_seq ?_
    refine w2_region ?_
    refine wpO_do (v := .str (s)) rfl (want_free rfl) rfl (ltn n49 (by decide)) (ev_move rfl (opd_tmp (u49.ne (u48.ne (u47.ne (u46.ne (u45.ne (u44.ne (u42.ne (u41.ne (u40.ne (u39.ne (u37.ne (u36.ne (u34.ne (u33.ne (u32.ne (u31.ne (u30.ne (u29.ne (u28.ne (u27.ne (u26.ne (u25.ne (u24.ne (u23.ne (u22.ne (u21.ne (u20.ne (u19.ne (u17.ne (u16.ne (u15.ne (u14.ne (u13.ne (u12.ne (u11.ne (u9.ne (u4.ne (u3.ne (u2.ne (u1.ne (a0))))))))))))))))))))))))))))))))))))))))))) fun f50 u50 => ?_
    have n50 := u50.n.trans n49; have s50 := u50.ds.trans s49
    refine wpO_ask rfl (want_free rfl) rfl (ltn n50 (by decide)) (ev_call rfl rfl rfl (opds_cons (opd_tmp (u50.get)) opds_nil) rfl) (signedR_runs hsp (s) _ (by omega)) fun v51 H51 r51 f52 u52 => ?_
    obtain ⟨rfl, rfl⟩ := r51
    have n52 := u52.n.trans n50; have s52 := u52.ds.trans s50
    refine wpO_do (v := .tuple [.int .i64 ((signedL (s)).1), .bool ((signedL (s)).2)]) rfl (want_free rfl) rfl (ltn n52 (by decide)) (ev_move rfl (opd_tmp (u52.get))) fun f53 u53 => ?_
    have n53 := u53.n.trans n52; have s53 := u53.ds.trans s52
    refine wpO_do (v := .int .i64 ((signedL (s)).1)) rfl (want_free rfl) rfl (ltn n53 (by decide)) (ev_extract rfl (opd_tmp (u53.get)) rfl) fun f54 u54 => ?_
    have n54 := u54.n.trans n53; have s54 := u54.ds.trans s53
    refine wpO_do (v := .bool ((signedL (s)).2)) rfl (want_free rfl) rfl (ltn n54 (by decide)) (ev_extract rfl (opd_tmp (u54.ne u53.get)) rfl) fun f55 u55 => ?_
    have n55 := u55.n.trans n54; have s55 := u55.ds.trans s54
    refine wpO_do (v := .int .i64 ((signedL (s)).1)) rfl (want_free rfl) rfl (ltn n55 (by decide)) (ev_assign rfl (opd_tmp (u55.ne u54.get))) fun f56 u56 => ?_
    have n56 := u56.n.trans n55; have s56 := u56.ds.trans s55
    refine wpO_do (v := .bool ((signedL (s)).2)) rfl (want_free rfl) rfl (ltn n56 (by decide)) (ev_assign rfl (opd_tmp (u56.ne u55.get))) fun f57 u57 => ?_
    have n57 := u57.n.trans n56; have s57 := u57.ds.trans s56
    refine wpO_nil ?_
    refine thenQ_go ?_
    refine w2_seq ?_
    refine w2_region ?_
    refine wpO_do (v := .str (s)) rfl (want_free rfl) rfl (ltn n57 (by decide)) (ev_move rfl (opd_tmp (u57.ne (u56.ne (u55.ne (u54.ne (u53.ne (u52.ne (u50.ne (u49.ne (u48.ne (u47.ne (u46.ne (u45.ne (u44.ne (u42.ne (u41.ne (u40.ne (u39.ne (u37.ne (u36.ne (u34.ne (u33.ne (u32.ne (u31.ne (u30.ne (u29.ne (u28.ne (u27.ne (u26.ne (u25.ne (u24.ne (u23.ne (u22.ne (u21.ne (u20.ne (u19.ne (u17.ne (u16.ne (u15.ne (u14.ne (u13.ne (u12.ne (u11.ne (u9.ne (u4.ne (u3.ne (u2.ne (u1.ne (a0)))))))))))))))))))))))))))))))))))))))))))))))))) fun f58 u58 => ?_
    have n58 := u58.n.trans n57; have s58 := u58.ds.trans s57
    refine wpO_do (v := .int .u8 (c)) rfl (want_free rfl) rfl (ltn n58 (by decide)) (ev_move rfl (opd_tmp (u58.ne (u57.ne (u56.ne (u55.ne (u54.ne (u53.ne (u52.ne (u50.ne (u49.ne (u48.ne (u47.ne (u46.ne (u45.ne (u44.ne (u42.ne (u41.ne (u40.ne (u39.ne (u37.ne (u36.ne (u34.ne (u33.ne (u32.ne (u31.ne (u30.ne (u29.ne (u28.ne (u27.ne (u26.ne (u25.ne (u24.ne (u23.ne (u22.ne (u21.ne (u20.ne (u19.ne (u17.ne (u16.ne (u15.ne (u14.ne (u13.ne (u12.ne (u11.ne (u9.ne (u4.ne (u3.ne (u2.ne (u1.ne (a1))))))))))))))))))))))))))))))))))))))))))))))))))) fun f59 u59 => ?_
    have n59 := u59.n.trans n58; have s59 := u59.ds.trans s58
    refine wpO_ask rfl (want_free rfl) rfl (ltn n59 (by decide)) (ev_call rfl rfl rfl (opds_cons (opd_tmp (u59.ne u58.get)) (opds_cons (opd_tmp (u59.get)) opds_nil)) rfl) (pair_runs hsp (s) (c) _ (by omega) h0 h1) fun v60 H60 r60 f61 u61 => ?_
    obtain ⟨rfl, rfl⟩ := r60
    have n61 := u61.n.trans n59; have s61 := u61.ds.trans s59
    refine wpO_do (v := .tuple [.str ((pairL (s) (c)).1), .str ((pairL (s) (c)).2.1), .bool ((pairL (s) (c)).2.2)]) rfl (want_free rfl) rfl (ltn n61 (by decide)) (ev_move rfl (opd_tmp (u61.get))) fun f62 u62 => ?_
    have n62 := u62.n.trans n61; have s62 := u62.ds.trans s61
    refine wpO_do (v := .str ((pairL (s) (c)).1)) rfl (want_free rfl) rfl (ltn n62 (by decide)) (ev_extract rfl (opd_tmp (u62.get)) rfl) fun f63 u63 => ?_
    have n63 := u63.n.trans n62; have s63 := u63.ds.trans s62
    refine wpO_do (v := .str ((pairL (s) (c)).2.1)) rfl (want_free rfl) rfl (ltn n63 (by decide)) (ev_extract rfl (opd_tmp (u63.ne u62.get)) rfl) fun f64 u64 => ?_
    have n64 := u64.n.trans n63; have s64 := u64.ds.trans s63
    refine wpO_do (v := .bool ((pairL (s) (c)).2.2)) rfl (want_free rfl) rfl (ltn n64 (by decide)) (ev_extract rfl (opd_tmp (u64.ne (u63.ne u62.get))) rfl) fun f65 u65 => ?_
    have n65 := u65.n.trans n64; have s65 := u65.ds.trans s64
    refine wpO_do (v := .str ((pairL (s) (c)).1)) rfl (want_free rfl) rfl (ltn n65 (by decide)) (ev_assign rfl (opd_tmp (u65.ne (u64.ne u63.get)))) fun f66 u66 => ?_
    have n66 := u66.n.trans n65; have s66 := u66.ds.trans s65
    refine wpO_do (v := .str ((pairL (s) (c)).2.1)) rfl (want_free rfl) rfl (ltn n66 (by decide)) (ev_assign rfl (opd_tmp (u66.ne (u65.ne u64.get)))) fun f67 u67 => ?_
    have n67 := u67.n.trans n66; have s67 := u67.ds.trans s66
    refine wpO_do (v := .bool ((pairL (s) (c)).2.2)) rfl (want_free rfl) rfl (ltn n67 (by decide)) (ev_assign rfl (opd_tmp (u67.ne (u66.ne u65.get)))) fun f68 u68 => ?_
    have n68 := u68.n.trans n67; have s68 := u68.ds.trans s67
    refine wpO_nil ?_
    refine thenQ_go ?_
    refine w2_seq ?_
    refine w2_region ?_
    refine wpO_do (v := .str (s)) rfl (want_free rfl) rfl (ltn n68 (by decide)) (ev_move rfl (opd_tmp (u68.ne (u67.ne (u66.ne (u65.ne (u64.ne (u63.ne (u62.ne (u61.ne (u59.ne (u58.ne (u57.ne (u56.ne (u55.ne (u54.ne (u53.ne (u52.ne (u50.ne (u49.ne (u48.ne (u47.ne (u46.ne (u45.ne (u44.ne (u42.ne (u41.ne (u40.ne (u39.ne (u37.ne (u36.ne (u34.ne (u33.ne (u32.ne (u31.ne (u30.ne (u29.ne (u28.ne (u27.ne (u26.ne (u25.ne (u24.ne (u23.ne (u22.ne (u21.ne (u20.ne (u19.ne (u17.ne (u16.ne (u15.ne (u14.ne (u13.ne (u12.ne (u11.ne (u9.ne (u4.ne (u3.ne (u2.ne (u1.ne (a0)))))))))))))))))))))))))))))))))))))))))))))))))))))))))))) fun f69 u69 => ?_
    have n69 := u69.n.trans n68; have s69 := u69.ds.trans s68
    refine wpO_do (v := .int .u8 (c)) rfl (want_free rfl) rfl (ltn n69 (by decide)) (ev_move rfl (opd_tmp (u69.ne (u68.ne (u67.ne (u66.ne (u65.ne (u64.ne (u63.ne (u62.ne (u61.ne (u59.ne (u58.ne (u57.ne (u56.ne (u55.ne (u54.ne (u53.ne (u52.ne (u50.ne (u49.ne (u48.ne (u47.ne (u46.ne (u45.ne (u44.ne (u42.ne (u41.ne (u40.ne (u39.ne (u37.ne (u36.ne (u34.ne (u33.ne (u32.ne (u31.ne (u30.ne (u29.ne (u28.ne (u27.ne (u26.ne (u25.ne (u24.ne (u23.ne (u22.ne (u21.ne (u20.ne (u19.ne (u17.ne (u16.ne (u15.ne (u14.ne (u13.ne (u12.ne (u11.ne (u9.ne (u4.ne (u3.ne (u2.ne (u1.ne (a1))))))))))))))))))))))))))))))))))))))))))))))))))))))))))))) fun f70 u70 => ?_
    have n70 := u70.n.trans n69; have s70 := u70.ds.trans s69
    refine wpO_ask rfl (want_free rfl) rfl (ltn n70 (by decide)) (ev_call rfl rfl rfl (opds_cons (opd_tmp (u70.ne u69.get)) (opds_cons (opd_tmp (u70.get)) opds_nil)) rfl) (pairR_runs hsp (s) (c) _ (by omega)) fun v71 H71 r71 f72 u72 => ?_
    obtain ⟨rfl, rfl⟩ := r71
    have n72 := u72.n.trans n70; have s72 := u72.ds.trans s70
    refine wpO_do (v := .tuple [.str ((pairL (s) (c)).1), .str ((pairL (s) (c)).2.1), .bool ((pairL (s) (c)).2.2)]) rfl (want_free rfl) rfl (ltn n72 (by decide)) (ev_move rfl (opd_tmp (u72.get))) fun f73 u73 => ?_
    have n73 := u73.n.trans n72; have s73 := u73.ds.trans s72
    refine wpO_do (v := .str ((pairL (s) (c)).1)) rfl (want_free rfl) rfl (ltn n73 (by decide)) (ev_extract rfl (opd_tmp (u73.get)) rfl) fun f74 u74 => ?_
    have n74 := u74.n.trans n73; have s74 := u74.ds.trans s73
    refine wpO_do (v := .str ((pairL (s) (c)).2.1)) rfl (want_free rfl) rfl (ltn n74 (by decide)) (ev_extract rfl (opd_tmp (u74.ne u73.get)) rfl) fun f75 u75 => ?_
    have n75 := u75.n.trans n74; have s75 := u75.ds.trans s74
    refine wpO_do (v := .bool ((pairL (s) (c)).2.2)) rfl (want_free rfl) rfl (ltn n75 (by decide)) (ev_extract rfl (opd_tmp (u75.ne (u74.ne u73.get))) rfl) fun f76 u76 => ?_
    have n76 := u76.n.trans n75; have s76 := u76.ds.trans s75
    refine wpO_do (v := .str ((pairL (s) (c)).1)) rfl (want_free rfl) rfl (ltn n76 (by decide)) (ev_assign rfl (opd_tmp (u76.ne (u75.ne u74.get)))) fun f77 u77 => ?_
    have n77 := u77.n.trans n76; have s77 := u77.ds.trans s76
    refine wpO_do (v := .str ((pairL (s) (c)).2.1)) rfl (want_free rfl) rfl (ltn n77 (by decide)) (ev_assign rfl (opd_tmp (u77.ne (u76.ne u75.get)))) fun f78 u78 => ?_
    have n78 := u78.n.trans n77; have s78 := u78.ds.trans s77
    refine wpO_do (v := .bool ((pairL (s) (c)).2.2)) rfl (want_free rfl) rfl (ltn n78 (by decide)) (ev_assign rfl (opd_tmp (u78.ne (u77.ne u76.get)))) fun f79 u79 => ?_
    have n79 := u79.n.trans n78; have s79 := u79.ds.trans s78
    refine wpO_nil ?_
    refine thenQ_go ?_
    refine w2_seq ?_
    refine w2_region ?_
    refine wpO_do (v := .int .i64 ((signedL (s)).1)) rfl (want_free rfl) rfl (ltn n79 (by decide)) (ev_move rfl (opd_tmp (u79.ne (u78.ne (u77.ne (u76.ne (u75.ne (u74.ne (u73.ne (u72.ne (u70.ne (u69.ne (u68.ne (u67.ne (u66.ne (u65.ne (u64.ne (u63.ne (u62.ne (u61.ne (u59.ne (u58.ne (u57.ne (u56.ne (u55.ne (u54.ne (u53.ne (u52.ne (u50.ne (u49.ne u48.get)))))))))))))))))))))))))))))) fun f80 u80 => ?_
    have n80 := u80.n.trans n79; have s80 := u80.ds.trans s79
    refine wpO_do (v := .int .i64 ((signedL (s)).1)) rfl (want_free rfl) rfl (ltn n80 (by decide)) (ev_move rfl (opd_tmp (u80.ne (u79.ne (u78.ne (u77.ne (u76.ne (u75.ne (u74.ne (u73.ne (u72.ne (u70.ne (u69.ne (u68.ne (u67.ne (u66.ne (u65.ne (u64.ne (u63.ne (u62.ne (u61.ne (u59.ne (u58.ne (u57.ne u56.get)))))))))))))))))))))))) fun f81 u81 => ?_
    have n81 := u81.n.trans n80; have s81 := u81.ds.trans s80
    refine wpO_do (v := .bool (true)) rfl (want_free rfl) rfl (ltn n81 (by decide)) (ev_binI rfl (by decide) (opd_tmp (u81.ne u80.get)) (opd_tmp (u81.get)) int_eql) fun f82 u82 => ?_
    have n82 := u82.n.trans n81; have s82 := u82.ds.trans s81
    refine wpO_do (v := .bool (true)) rfl (want_free rfl) rfl (ltn n82 (by decide)) (ev_move rfl (opd_tmp (u82.get))) fun f83 u83 => ?_
    have n83 := u83.n.trans n82; have s83 := u83.ds.trans s82
    refine wpO_do (v := .bool ((signedL (s)).2)) rfl (want_yes rfl rfl (u83.get)) rfl (ltn n83 (by decide)) (ev_move rfl (opd_tmp (u83.ne (u82.ne (u81.ne (u80.ne (u79.ne (u78.ne (u77.ne (u76.ne (u75.ne (u74.ne (u73.ne (u72.ne (u70.ne (u69.ne (u68.ne (u67.ne (u66.ne (u65.ne (u64.ne (u63.ne (u62.ne (u61.ne (u59.ne (u58.ne (u57.ne (u56.ne (u55.ne (u54.ne (u53.ne (u52.ne (u50.ne u49.get))))))))))))))))))))))))))))))))) fun f84 u84 => ?_
    have n84 := u84.n.trans n83; have s84 := u84.ds.trans s83
    refine wpO_do (v := .bool ((signedL (s)).2)) rfl (want_yes rfl rfl (u84.ne u83.get)) rfl (ltn n84 (by decide)) (ev_move rfl (opd_tmp (u84.ne (u83.ne (u82.ne (u81.ne (u80.ne (u79.ne (u78.ne (u77.ne (u76.ne (u75.ne (u74.ne (u73.ne (u72.ne (u70.ne (u69.ne (u68.ne (u67.ne (u66.ne (u65.ne (u64.ne (u63.ne (u62.ne (u61.ne (u59.ne (u58.ne u57.get))))))))))))))))))))))))))) fun f85 u85 => ?_
    have n85 := u85.n.trans n84; have s85 := u85.ds.trans s84
    refine wpO_do (v := .bool (true)) rfl (want_yes rfl rfl (u85.ne (u84.ne u83.get))) rfl (ltn n85 (by decide)) (ev_binB_eql_same rfl ty4 rfl (opd_tmp (u85.ne u84.get)) (opd_tmp (u85.get))) fun f86 u86 => ?_
    have n86 := u86.n.trans n85; have s86 := u86.ds.trans s85
    refine wpO_do (v := .bool (true)) rfl (want_free rfl) rfl (ltn n86 (by decide)) (ev_pick_t rfl (opd_tmp (u86.ne (u85.ne (u84.ne u83.get)))) (opd_tmp (u86.get))) fun f87 u87 => ?_
    have n87 := u87.n.trans n86; have s87 := u87.ds.trans s86
    refine wpO_do (v := .bool (true)) rfl (want_free rfl) rfl (ltn n87 (by decide)) (ev_move rfl (opd_tmp (u87.get))) fun f88 u88 => ?_
    have n88 := u88.n.trans n87; have s88 := u88.ds.trans s87
    refine wpO_do (v := .str ((pairL (s) (c)).1)) rfl (want_yes rfl rfl (u88.get)) rfl (ltn n88 (by decide)) (ev_move rfl (opd_tmp (u88.ne (u87.ne (u86.ne (u85.ne (u84.ne (u83.ne (u82.ne (u81.ne (u80.ne (u79.ne (u78.ne (u77.ne (u76.ne (u75.ne (u74.ne (u73.ne (u72.ne (u70.ne (u69.ne (u68.ne (u67.ne u66.get))))))))))))))))))))))) fun f89 u89 => ?_
    have n89 := u89.n.trans n88; have s89 := u89.ds.trans s88
    refine wpO_do (v := .str ((pairL (s) (c)).1)) rfl (want_yes rfl rfl (u89.ne u88.get)) rfl (ltn n89 (by decide)) (ev_move rfl (opd_tmp (u89.ne (u88.ne (u87.ne (u86.ne (u85.ne (u84.ne (u83.ne (u82.ne (u81.ne (u80.ne (u79.ne (u78.ne u77.get)))))))))))))) fun f90 u90 => ?_
    have n90 := u90.n.trans n89; have s90 := u90.ds.trans s89
    refine wpO_do (v := .bool (true)) rfl (want_yes rfl rfl (u90.ne (u89.ne u88.get))) rfl (ltn n90 (by decide)) (ev_binS rfl (by decide) (opd_tmp (u90.ne u89.get)) (opd_tmp (u90.get)) str_eql) fun f91 u91 => ?_
    have n91 := u91.n.trans n90; have s91 := u91.ds.trans s90
    refine wpO_do (v := .bool (true)) rfl (want_free rfl) rfl (ltn n91 (by decide)) (ev_pick_t rfl (opd_tmp (u91.ne (u90.ne (u89.ne u88.get)))) (opd_tmp (u91.get))) fun f92 u92 => ?_
    have n92 := u92.n.trans n91; have s92 := u92.ds.trans s91
    refine wpO_do (v := .bool (true)) rfl (want_free rfl) rfl (ltn n92 (by decide)) (ev_move rfl (opd_tmp (u92.get))) fun f93 u93 => ?_
    have n93 := u93.n.trans n92; have s93 := u93.ds.trans s92
    refine wpO_do (v := .str ((pairL (s) (c)).2.1)) rfl (want_yes rfl rfl (u93.get)) rfl (ltn n93 (by decide)) (ev_move rfl (opd_tmp (u93.ne (u92.ne (u91.ne (u90.ne (u89.ne (u88.ne (u87.ne (u86.ne (u85.ne (u84.ne (u83.ne (u82.ne (u81.ne (u80.ne (u79.ne (u78.ne (u77.ne (u76.ne (u75.ne (u74.ne (u73.ne (u72.ne (u70.ne (u69.ne (u68.ne u67.get))))))))))))))))))))))))))) fun f94 u94 => ?_
    have n94 := u94.n.trans n93; have s94 := u94.ds.trans s93
    refine wpO_do (v := .str ((pairL (s) (c)).2.1)) rfl (want_yes rfl rfl (u94.ne u93.get)) rfl (ltn n94 (by decide)) (ev_move rfl (opd_tmp (u94.ne (u93.ne (u92.ne (u91.ne (u90.ne (u89.ne (u88.ne (u87.ne (u86.ne (u85.ne (u84.ne (u83.ne (u82.ne (u81.ne (u80.ne (u79.ne u78.get)))))))))))))))))) fun f95 u95 => ?_
    have n95 := u95.n.trans n94; have s95 := u95.ds.trans s94
    refine wpO_do (v := .bool (true)) rfl (want_yes rfl rfl (u95.ne (u94.ne u93.get))) rfl (ltn n95 (by decide)) (ev_binS rfl (by decide) (opd_tmp (u95.ne u94.get)) (opd_tmp (u95.get)) str_eql) fun f96 u96 => ?_
    have n96 := u96.n.trans n95; have s96 := u96.ds.trans s95
    refine wpO_do (v := .bool (true)) rfl (want_free rfl) rfl (ltn n96 (by decide)) (ev_pick_t rfl (opd_tmp (u96.ne (u95.ne (u94.ne u93.get)))) (opd_tmp (u96.get))) fun f97 u97 => ?_
    have n97 := u97.n.trans n96; have s97 := u97.ds.trans s96
    refine wpO_do (v := .bool (true)) rfl (want_free rfl) rfl (ltn n97 (by decide)) (ev_move rfl (opd_tmp (u97.get))) fun f98 u98 => ?_
    have n98 := u98.n.trans n97; have s98 := u98.ds.trans s97
    refine wpO_do (v := .bool ((pairL (s) (c)).2.2)) rfl (want_yes rfl rfl (u98.get)) rfl (ltn n98 (by decide)) (ev_move rfl (opd_tmp (u98.ne (u97.ne (u96.ne (u95.ne (u94.ne (u93.ne (u92.ne (u91.ne (u90.ne (u89.ne (u88.ne (u87.ne (u86.ne (u85.ne (u84.ne (u83.ne (u82.ne (u81.ne (u80.ne (u79.ne (u78.ne (u77.ne (u76.ne (u75.ne (u74.ne (u73.ne (u72.ne (u70.ne (u69.ne u68.get))))))))))))))))))))))))))))))) fun f99 u99 => ?_
    have n99 := u99.n.trans n98; have s99 := u99.ds.trans s98
    refine wpO_do (v := .bool ((pairL (s) (c)).2.2)) rfl (want_yes rfl rfl (u99.ne u98.get)) rfl (ltn n99 (by decide)) (ev_move rfl (opd_tmp (u99.ne (u98.ne (u97.ne (u96.ne (u95.ne (u94.ne (u93.ne (u92.ne (u91.ne (u90.ne (u89.ne (u88.ne (u87.ne (u86.ne (u85.ne (u84.ne (u83.ne (u82.ne (u81.ne (u80.ne u79.get)))))))))))))))))))))) fun f100 u100 => ?_
    have n100 := u100.n.trans n99; have s100 := u100.ds.trans s99
    refine wpO_do (v := .bool (true)) rfl (want_yes rfl rfl (u100.ne (u99.ne u98.get))) rfl (ltn n100 (by decide)) (ev_binB_eql_same rfl ty4 rfl (opd_tmp (u100.ne u99.get)) (opd_tmp (u100.get))) fun f101 u101 => ?_
    have n101 := u101.n.trans n100; have s101 := u101.ds.trans s100
    refine wpO_do (v := .bool (true)) rfl (want_free rfl) rfl (ltn n101 (by decide)) (ev_pick_t rfl (opd_tmp (u101.ne (u100.ne (u99.ne u98.get)))) (opd_tmp (u101.get))) fun f102 u102 => ?_
    have n102 := u102.n.trans n101; have s102 := u102.ds.trans s101
    refine wpO_do (v := .bool (true)) rfl (want_free rfl) rfl (ltn n102 (by decide)) (ev_move rfl (opd_tmp (u102.get))) fun f103 u103 => ?_
    have n103 := u103.n.trans n102; have s103 := u103.ds.trans s102
    refine wpO_ask rfl (want_yes rfl rfl (u103.get)) rfl (ltn n103 (by decide)) (ev_call rfl rfl rfl opds_nil rfl) (awake_runs hA _ hg) fun v104 H104 r104 f105 u105 => ?_
    obtain ⟨rfl, rfl⟩ := r104
    have n105 := u105.n.trans n103; have s105 := u105.ds.trans s103
    refine wpO_do (v := .bool (true)) rfl (want_free rfl) rfl (ltn n105 (by decide)) (ev_pick_t rfl (opd_tmp (u105.ne u103.get)) (opd_tmp (u105.get))) fun f106 u106 => ?_
    have n106 := u106.n.trans n105; have s106 := u106.ds.trans s105
    refine wpO_do (v := .bool (true)) rfl (want_free rfl) rfl (ltn n106 (by decide)) (ev_assign rfl (opd_tmp (u106.get))) fun f107 u107 => ?_
    have n107 := u107.n.trans n106; have s107 := u107.ds.trans s106
    refine wpO_nil ?_
    refine thenQ_go ?_
    refine w2_ret ?_
    refine ⟨.inr rfl, _, ends0 s107, _, (res_tmp (u107.get) res_nil), ?_⟩
    exact ⟨rfl, rfl⟩
end Go.Proofs.YthjgdmkelfkneaaDoor
