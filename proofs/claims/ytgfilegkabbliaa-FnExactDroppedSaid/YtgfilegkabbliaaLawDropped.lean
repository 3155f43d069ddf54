/-
  PROVED HERE: whatever the input, the statement laws.FnExactDropped returns true: the program's Dropped and the reference's give equal results and alter nothing of their arguments. No condition.
-/
import Derived.Test.YtgfilegkabbliaaGenNsa
import Derived.Test.YtgfilegkabbliaaGenNsc
import Derived.Test.YtgfilegkabbliaaGenNsd
import Derived.Test.YtgfilegkabbliaaGenNsf
import Derived.Test.YtgfilegkabbliaaLawN
namespace Go.Proofs.Ytgfilegkabbliaa
open Go.ChangeShapes Go.WideShapes Go.ChangeAt Go.RowKit
set_option maxRecDepth 100000
set_option maxHeartbeats 1000000
theorem laws_FnExactDropped_c {w : World} {H : Nat → Prop} {aList : List TxH} {aList_a : Option Addr} {aList_n aList_c : Nat} {aIds : List Int} {aIds_a : Option Addr} {aIds_n aIds_c : Nat} (v_aList : RdA 10 encTx okTx H w (.slice aList_a aList_n aList_c) aList) (u_aList : NRa inTx H w aList) (v_aIds : RdA 1 encI okI H w (.slice aIds_a aIds_n aIds_c) aIds) :
    Calls Try.prog 9 #[.slice aList_a aList_n aList_c, .slice aIds_a aIds_n aIds_c] w fun e w' => e = .returned (.bool true) ∧ Mv [] w [] w' := by
 have V_v_aList : RdA 10 encTx okTx (V H w []) w (.slice aList_a aList_n aList_c) aList := RdA.start v_aList (fun _ _ => fps_nil _)
 obtain ⟨ln_aList, le_aList, mx_aList, ni_aList⟩ := RdA.inv v_aList
 have V_v_aIds : RdA 1 encI okI (V H w []) w (.slice aIds_a aIds_n aIds_c) aIds := RdA.start v_aIds (fun _ _ => fps_nil _)
 obtain ⟨ln_aIds, le_aIds, mx_aIds, ni_aIds⟩ := RdA.inv v_aIds
 have V_u_aList : NRa inTx (V H w []) w aList := NRa.start u_aList (fun _ _ => fps_nil _)
 refine calls_enter 90 Try.func9 rfl Try.ntmps9 (Nat.le_of_ble_eq_true rfl) (fun _ F0i => ?_)
 have F0 : Fr 90 [(0, .slice aList_a aList_n aList_c), (1, .slice aIds_a aIds_n aIds_c)] _ := F0i
 clear F0i
 refine wp_seq (wp_region_lit (l_op (f_val F0 rfl rfl (r_assign rfl rfl) rfl fun _ F1 => ?_)))
 have F2 : Fr 90 [(4, .bool false), (0, .slice aList_a aList_n aList_c), (1, .slice aIds_a aIds_n aIds_c)] _ := F1.cut rfl
 clear F0 F1
 refine s_end (x_normal (wp_seq (wp_seq (wp_region_lit (l_op (f_mv F2 rfl rfl rfl rfl rfl fun _ F3 => ?_))))))
 refine l_op (f_val F3 rfl rfl (r_len Try.underlying53 rfl (F3.ev 14 rfl)) rfl fun _ F4 => ?_)
 refine l_op (f_val F4 rfl rfl (r_cmp (b := decide (aIds_n > 1048576)) (.inr (.inr (.inr (.inr (.inl rfl))))) rfl (F4.ev 15 rfl) rfl (dec_of (by omega))) rfl fun _ F5 => ?_)
 have F6 : Fr 90 [(16, .bool (decide (aIds_n > 1048576))), (0, .slice aList_a aList_n aList_c), (1, .slice aIds_a aIds_n aIds_c)] _ := F5.cut rfl
 clear F2 F3 F4 F5
 refine s_end (x_normal (x_cond (p := aIds_n > 1048576) (F6.ev 16 rfl) (fun h7 => ?_) (fun h7 => ?_)))
 · skip
   refine wp_seq (wp_region_lit (l_op (f_val F6 rfl rfl (r_assign rfl rfl) rfl fun _ F8 => ?_)))
   have F9 : Fr 90 [(4, .bool true)] _ := F8.cut rfl
   clear F6 F8
   refine s_end (x_normal (wp_ret (x_then_ret ?_)))
   refine x_done (v := .bool true) F9 (results_1 Try.results9 (.tmp (F9.ev 4 rfl))) ?_
   exact ⟨rfl, (Mv.pick (Mv.refl (At.nil w)) [] rfl)⟩
 · skip
   refine wp_skip (x_normal (wp_seq (wp_region_lit (l_op (f_val F6 rfl rfl (r_assign rfl rfl) rfl fun _ F10 => ?_)))))
   have F11 : Fr 90 [(5, .int .i64 1048576), (0, .slice aList_a aList_n aList_c), (1, .slice aIds_a aIds_n aIds_c)] _ := F10.cut rfl
   clear F6 F10
   refine s_end (x_normal (wp_seq (wp_region_lit (l_op (f_mv F11 rfl rfl rfl rfl rfl fun _ F12 => ?_)))))
   refine l_op (f_mv F12 rfl rfl rfl rfl rfl fun _ F13 => ?_)
   refine l_op (f_call F13 CF_16 rfl rfl rfl rfl (lc (F13.ev 17 rfl) (lc (F13.ev 18 rfl) rfl)) (laws_szTxS_c (a := aList) (left := 1048576) V_v_aList V_u_aList (by first | assumption | exact ⟨by omega, by omega⟩ | (unfold i64ok at *; omega)) (by first | assumption | omega | (simp <;> omega)) (by first | assumption | omega | (simp <;> omega))) ?_)
   rintro _ w14 ⟨rfl, m14, q14_0⟩
   refine ⟨_, rfl, fun _ F15 => ?_⟩
   have S14 := At.frame0 (At.nil w) m14
   clear m14
   refine l_op (f_as F15 rfl rfl rfl rfl rfl fun _ F16 => ?_)
   have F17 : Fr 90 [(5, .int .i64 (subOr 1048576 (szTxsH aList))), (0, .slice aList_a aList_n aList_c), (1, .slice aIds_a aIds_n aIds_c)] _ := F16.cut rfl
   clear F11 F12 F13 F15 F16
   have T18 : Mv _ _ [] _ := S14
   refine s_end (x_normal (wp_seq (wp_seq (wp_region_lit (l_op (f_mv F17 rfl rfl rfl rfl rfl fun _ F19 => ?_))))))
   refine l_op (f_val F19 rfl rfl (r_cmp (b := decide ((subOr 1048576 (szTxsH aList)) < 0)) (.inr (.inr (.inl rfl))) rfl (F19.ev 20 rfl) rfl (dec_of (by omega))) rfl fun _ F20 => ?_)
   have F21 : Fr 90 [(21, .bool (decide ((subOr 1048576 (szTxsH aList)) < 0))), (0, .slice aList_a aList_n aList_c), (1, .slice aIds_a aIds_n aIds_c)] _ := F20.cut rfl
   clear F17 F19 F20
   refine s_end (x_normal (x_cond (p := (subOr 1048576 (szTxsH aList)) < 0) (F21.ev 21 rfl) (fun h22 => ?_) (fun h22 => ?_)))
   · skip
     refine wp_seq (wp_region_lit (l_op (f_val F21 rfl rfl (r_assign rfl rfl) rfl fun _ F23 => ?_)))
     have F24 : Fr 90 [(4, .bool true)] _ := F23.cut rfl
     clear F21 F23
     refine s_end (x_normal (wp_ret (x_then_ret ?_)))
     refine x_done (v := .bool true) F24 (results_1 Try.results9 (.tmp (F24.ev 4 rfl))) ?_
     exact ⟨rfl, (Mv.pick T18 [] rfl)⟩
   · skip
     refine wp_skip (x_normal (wp_seq ?_))
     have hfit := txsFits (l := aList) (n := 1048576) (z := 1048576) (by decide) (by assumption)
     have hc := hfit.cnt
     have hcd := (dropL_fit (ids := aIds) hfit).cnt
     refine wp_region_lit (l_op (f_mv F21 rfl rfl rfl rfl rfl fun _ F25 => ?_))
     refine l_op (f_call F25 CF_18 rfl rfl rfl rfl (lc (F25.ev 22 rfl) rfl) (laws_toTxS_c (a := aList) (RdA.mv (Nat.succ_pos _) V_v_aList T18) (NRa.mv V_u_aList T18) (by first | exact hfit.len | exact hfit) (by first | exact hfit.len | exact hfit)) ?_)
     rintro _ w26 ⟨D_26, r0_a_26, r0_n_26, r0_c_26, rfl, m26, q26_0, q26_1⟩
     refine ⟨_, rfl, fun _ F27 => ?_⟩
     have S26 : Mv _ _ [ow 71 10 encTx okTx (.slice r0_a_26 r0_n_26 r0_c_26) D_26, gr inTx D_26] _ := At.frame T18.at' [] rfl m26
     obtain ⟨lo26_0, lp26_0, lq26_0⟩ := At.ownInv S26.at' ET_39.hk 0 rfl
     clear m26
     refine l_op (f_mv F27 rfl rfl rfl rfl rfl fun _ F28 => ?_)
     refine l_op (f_call F28 CF_34 rfl rfl rfl rfl (lc (F28.ev 24 rfl) rfl) (laws_toIntS_c (a := aIds) (RdA.mv (Nat.succ_pos _) V_v_aIds (T18.trans S26)) (by first | assumption | omega | (simp <;> omega))) ?_)
     rintro _ w29 ⟨r0_a_29, r0_n_29, r0_c_29, rfl, m29⟩
     refine ⟨_, rfl, fun _ F30 => ?_⟩
     have S29 : Mv _ _ [ow 3 1 encI okI (.slice r0_a_29 r0_n_29 r0_c_29) aIds, ow 71 10 encTx okTx (.slice r0_a_26 r0_n_26 r0_c_26) D_26, gr inTx D_26] _ := At.frame S26.at' [] rfl m29
     obtain ⟨lo29_0, lp29_0, lq29_0⟩ := At.ownInv S29.at' ET_53.hk 0 rfl
     clear m29
     refine l_op (f_call F30 CF_33 rfl rfl rfl rfl (lc (F30.ev 23 rfl) (lc (F30.ev 25 rfl) rfl)) (spec_Dropped_c (H := fun _ => True) (L := aList.map TxH.d) (list := D_26) (ids := aIds) (At.rd S29.at' ET_39.hk 1 rfl) (At.nrd S29.at' 2 rfl) (At.rd S29.at' ET_53.hk 0 rfl) (by assumption) (by exact hfit)) ?_)
     rintro _ w31 ⟨D_31, r0_a_31, r0_n_31, r0_c_31, rfl, m31, q31_0⟩
     refine ⟨_, rfl, fun _ F32 => ?_⟩
     have S31 : Mv _ _ [ow 71 10 encTx okTx (.slice r0_a_31 r0_n_31 r0_c_31) D_31, gr inTx D_31, ow 3 1 encI okI (.slice r0_a_29 r0_n_29 r0_c_29) aIds, ow 71 10 encTx okTx (.slice r0_a_26 r0_n_26 r0_c_26) D_26, gr inTx D_26] _ := At.frame S29.at' [] rfl m31
     obtain ⟨lo31_0, lp31_0, lq31_0⟩ := At.ownInv S31.at' ET_39.hk 0 rfl
     clear m31
     refine l_op (f_as F32 rfl rfl rfl rfl rfl fun _ F33 => ?_)
     have F34 : Fr 90 [(6, .slice r0_a_31 r0_n_31 r0_c_31), (0, .slice aList_a aList_n aList_c), (1, .slice aIds_a aIds_n aIds_c)] _ := F33.cut rfl
     clear F21 F25 F27 F28 F30 F32 F33
     refine s_end (x_normal (wp_seq (wp_region_lit (l_op (f_mv F34 rfl rfl rfl rfl rfl fun _ F35 => ?_)))))
     refine l_op (f_call F35 CF_18 rfl rfl rfl rfl (lc (F35.ev 27 rfl) rfl) (laws_toTxS_c (a := aList) (RdA.mv (Nat.succ_pos _) V_v_aList (T18.trans (S26.trans (S29.trans S31)))) (NRa.mv V_u_aList (T18.trans (S26.trans (S29.trans S31)))) (by first | exact hfit.len | exact hfit) (by first | exact hfit.len | exact hfit)) ?_)
     rintro _ w36 ⟨D_36, r0_a_36, r0_n_36, r0_c_36, rfl, m36, q36_0, q36_1⟩
     refine ⟨_, rfl, fun _ F37 => ?_⟩
     have S36 : Mv _ _ [ow 71 10 encTx okTx (.slice r0_a_36 r0_n_36 r0_c_36) D_36, gr inTx D_36, ow 71 10 encTx okTx (.slice r0_a_31 r0_n_31 r0_c_31) D_31, gr inTx D_31, ow 3 1 encI okI (.slice r0_a_29 r0_n_29 r0_c_29) aIds, ow 71 10 encTx okTx (.slice r0_a_26 r0_n_26 r0_c_26) D_26, gr inTx D_26] _ := At.frame S31.at' [] rfl m36
     obtain ⟨lo36_0, lp36_0, lq36_0⟩ := At.ownInv S36.at' ET_39.hk 0 rfl
     clear m36
     refine l_op (f_as F37 rfl rfl rfl rfl rfl fun _ F38 => ?_)
     have F39 : Fr 90 [(7, .slice r0_a_36 r0_n_36 r0_c_36), (6, .slice r0_a_31 r0_n_31 r0_c_31), (0, .slice aList_a aList_n aList_c), (1, .slice aIds_a aIds_n aIds_c)] _ := F38.cut rfl
     clear F34 F35 F37 F38
     refine s_end (x_normal (wp_seq (wp_region_lit (l_op (f_mv F39 rfl rfl rfl rfl rfl fun _ F40 => ?_)))))
     refine l_op (f_call F40 CF_34 rfl rfl rfl rfl (lc (F40.ev 29 rfl) rfl) (laws_toIntS_c (a := aIds) (RdA.mv (Nat.succ_pos _) V_v_aIds (T18.trans (S26.trans (S29.trans (S31.trans S36))))) (by first | assumption | omega | (simp <;> omega))) ?_)
     rintro _ w41 ⟨r0_a_41, r0_n_41, r0_c_41, rfl, m41⟩
     refine ⟨_, rfl, fun _ F42 => ?_⟩
     have S41 : Mv _ _ [ow 3 1 encI okI (.slice r0_a_41 r0_n_41 r0_c_41) aIds, ow 71 10 encTx okTx (.slice r0_a_36 r0_n_36 r0_c_36) D_36, gr inTx D_36, ow 71 10 encTx okTx (.slice r0_a_31 r0_n_31 r0_c_31) D_31, gr inTx D_31, ow 3 1 encI okI (.slice r0_a_29 r0_n_29 r0_c_29) aIds, ow 71 10 encTx okTx (.slice r0_a_26 r0_n_26 r0_c_26) D_26, gr inTx D_26] _ := At.frame S36.at' [] rfl m41
     obtain ⟨lo41_0, lp41_0, lq41_0⟩ := At.ownInv S41.at' ET_53.hk 0 rfl
     clear m41
     refine l_op (f_as F42 rfl rfl rfl rfl rfl fun _ F43 => ?_)
     have F44 : Fr 90 [(8, .slice r0_a_41 r0_n_41 r0_c_41), (7, .slice r0_a_36 r0_n_36 r0_c_36), (6, .slice r0_a_31 r0_n_31 r0_c_31), (0, .slice aList_a aList_n aList_c), (1, .slice aIds_a aIds_n aIds_c)] _ := F43.cut rfl
     clear F39 F40 F42 F43
     refine s_end (x_normal (wp_seq (wp_region_lit (l_op (f_mv F44 rfl rfl rfl rfl rfl fun _ F45 => ?_)))))
     refine l_op (f_mv F45 rfl rfl rfl rfl rfl fun _ F46 => ?_)
     refine l_op (f_call F46 CF_35 rfl rfl rfl rfl (lc (F46.ev 31 rfl) (lc (F46.ev 32 rfl) rfl)) (impl_Dropped_c (H := fun _ => True) (L := aList.map TxH.d) (list := D_36) (ids := aIds) (At.rd S41.at' ET_39.hk 1 rfl) (At.nrd S41.at' 2 rfl) (At.rd S41.at' ET_53.hk 0 rfl) (by assumption) (by exact hfit)) ?_)
     rintro _ w47 ⟨D_47, r0_a_47, r0_n_47, r0_c_47, rfl, m47, q47_0⟩
     refine ⟨_, rfl, fun _ F48 => ?_⟩
     have S47 : Mv _ _ [ow 71 10 encTx okTx (.slice r0_a_47 r0_n_47 r0_c_47) D_47, gr inTx D_47, ow 3 1 encI okI (.slice r0_a_41 r0_n_41 r0_c_41) aIds, ow 71 10 encTx okTx (.slice r0_a_36 r0_n_36 r0_c_36) D_36, gr inTx D_36, ow 71 10 encTx okTx (.slice r0_a_31 r0_n_31 r0_c_31) D_31, gr inTx D_31, ow 3 1 encI okI (.slice r0_a_29 r0_n_29 r0_c_29) aIds, ow 71 10 encTx okTx (.slice r0_a_26 r0_n_26 r0_c_26) D_26, gr inTx D_26] _ := At.frame S41.at' [] rfl m47
     obtain ⟨lo47_0, lp47_0, lq47_0⟩ := At.ownInv S47.at' ET_39.hk 0 rfl
     clear m47
     refine l_op (f_as F48 rfl rfl rfl rfl rfl fun _ F49 => ?_)
     have F50 : Fr 90 [(9, .slice r0_a_47 r0_n_47 r0_c_47), (8, .slice r0_a_41 r0_n_41 r0_c_41), (7, .slice r0_a_36 r0_n_36 r0_c_36), (6, .slice r0_a_31 r0_n_31 r0_c_31), (0, .slice aList_a aList_n aList_c), (1, .slice aIds_a aIds_n aIds_c)] _ := F49.cut rfl
     clear F44 F45 F46 F48 F49
     refine s_end (x_normal (wp_seq (wp_seq (wp_region_lit (l_op (f_mv F50 rfl rfl rfl rfl rfl fun _ F51 => ?_))))))
     refine l_op (f_mv F51 rfl rfl rfl rfl rfl fun _ F52 => ?_)
     refine l_op (f_call F52 CF_20 rfl rfl rfl rfl (lc (F52.ev 34 rfl) (lc (F52.ev 35 rfl) rfl)) (laws_eqTxS_c (H := fun _ => True) (a := D_47) (b := D_31) (At.rd S47.at' ET_39.hk 0 rfl) (At.nrd S47.at' 1 rfl) (At.rd S47.at' ET_39.hk 5 rfl) (At.nrd S47.at' 6 rfl) (by exact (same2 (by assumption) (by assumption)))) ?_)
     rintro _ w53 ⟨rfl, m53⟩
     refine ⟨_, rfl, fun _ F54 => ?_⟩
     have S53 := At.frame0 S47.at' m53
     clear m53
     refine l_op (f_val F54 rfl rfl (r_not rfl (F54.ev 36 rfl)) rfl fun _ F55 => ?_)
     have F56 : Fr 90 [(37, .bool false), (9, .slice r0_a_47 r0_n_47 r0_c_47), (8, .slice r0_a_41 r0_n_41 r0_c_41), (7, .slice r0_a_36 r0_n_36 r0_c_36), (6, .slice r0_a_31 r0_n_31 r0_c_31), (0, .slice aList_a aList_n aList_c), (1, .slice aIds_a aIds_n aIds_c)] _ := F55.cut rfl
     clear F50 F51 F52 F54 F55
     have T57 : Mv _ _ [ow 71 10 encTx okTx (.slice r0_a_47 r0_n_47 r0_c_47) D_47, gr inTx D_47, ow 3 1 encI okI (.slice r0_a_41 r0_n_41 r0_c_41) aIds, ow 71 10 encTx okTx (.slice r0_a_36 r0_n_36 r0_c_36) D_36, gr inTx D_36, ow 71 10 encTx okTx (.slice r0_a_31 r0_n_31 r0_c_31) D_31, gr inTx D_31, ow 3 1 encI okI (.slice r0_a_29 r0_n_29 r0_c_29) aIds, ow 71 10 encTx okTx (.slice r0_a_26 r0_n_26 r0_c_26) D_26, gr inTx D_26] _ := S53
     refine s_end (x_normal (wp_cond_false (F56.ev 37 rfl) (wp_skip (x_normal (wp_seq (wp_seq (wp_region_lit (l_op (f_mv F56 rfl rfl rfl rfl rfl fun _ F58 => ?_)))))))))
     refine l_op (f_mv F58 rfl rfl rfl rfl rfl fun _ F59 => ?_)
     refine l_op (f_call F59 CF_18 rfl rfl rfl rfl (lc (F59.ev 39 rfl) rfl) (laws_toTxS_c (a := aList) (RdA.mv (Nat.succ_pos _) V_v_aList (T18.trans (S26.trans (S29.trans (S31.trans (S36.trans (S41.trans (S47.trans T57)))))))) (NRa.mv V_u_aList (T18.trans (S26.trans (S29.trans (S31.trans (S36.trans (S41.trans (S47.trans T57)))))))) (by first | exact hfit.len | exact hfit) (by first | exact hfit.len | exact hfit)) ?_)
     rintro _ w60 ⟨D_60, r0_a_60, r0_n_60, r0_c_60, rfl, m60, q60_0, q60_1⟩
     refine ⟨_, rfl, fun _ F61 => ?_⟩
     have S60 : Mv _ _ [ow 71 10 encTx okTx (.slice r0_a_60 r0_n_60 r0_c_60) D_60, gr inTx D_60, ow 71 10 encTx okTx (.slice r0_a_47 r0_n_47 r0_c_47) D_47, gr inTx D_47, ow 3 1 encI okI (.slice r0_a_41 r0_n_41 r0_c_41) aIds, ow 71 10 encTx okTx (.slice r0_a_36 r0_n_36 r0_c_36) D_36, gr inTx D_36, ow 71 10 encTx okTx (.slice r0_a_31 r0_n_31 r0_c_31) D_31, gr inTx D_31, ow 3 1 encI okI (.slice r0_a_29 r0_n_29 r0_c_29) aIds, ow 71 10 encTx okTx (.slice r0_a_26 r0_n_26 r0_c_26) D_26, gr inTx D_26] _ := At.frame T57.at' [] rfl m60
     obtain ⟨lo60_0, lp60_0, lq60_0⟩ := At.ownInv S60.at' ET_39.hk 0 rfl
     clear m60
     refine l_op (f_call F61 CF_20 rfl rfl rfl rfl (lc (F61.ev 38 rfl) (lc (F61.ev 40 rfl) rfl)) (laws_eqTxS_c (H := fun _ => True) (a := D_36) (b := D_60) (At.rd S60.at' ET_39.hk 5 rfl) (At.nrd S60.at' 6 rfl) (At.rd S60.at' ET_39.hk 0 rfl) (At.nrd S60.at' 1 rfl) (by exact (same2 (by assumption) (by assumption)))) ?_)
     rintro _ w62 ⟨rfl, m62⟩
     refine ⟨_, rfl, fun _ F63 => ?_⟩
     have S62 := At.frame0 S60.at' m62
     clear m62
     refine l_op (f_val F63 rfl rfl (r_not rfl (F63.ev 41 rfl)) rfl fun _ F64 => ?_)
     have F65 : Fr 90 [(42, .bool false), (9, .slice r0_a_47 r0_n_47 r0_c_47), (8, .slice r0_a_41 r0_n_41 r0_c_41), (7, .slice r0_a_36 r0_n_36 r0_c_36), (6, .slice r0_a_31 r0_n_31 r0_c_31), (0, .slice aList_a aList_n aList_c), (1, .slice aIds_a aIds_n aIds_c)] _ := F64.cut rfl
     clear F56 F58 F59 F61 F63 F64
     have T66 : Mv _ _ [ow 71 10 encTx okTx (.slice r0_a_60 r0_n_60 r0_c_60) D_60, gr inTx D_60, ow 71 10 encTx okTx (.slice r0_a_47 r0_n_47 r0_c_47) D_47, gr inTx D_47, ow 3 1 encI okI (.slice r0_a_41 r0_n_41 r0_c_41) aIds, ow 71 10 encTx okTx (.slice r0_a_36 r0_n_36 r0_c_36) D_36, gr inTx D_36, ow 71 10 encTx okTx (.slice r0_a_31 r0_n_31 r0_c_31) D_31, gr inTx D_31, ow 3 1 encI okI (.slice r0_a_29 r0_n_29 r0_c_29) aIds, ow 71 10 encTx okTx (.slice r0_a_26 r0_n_26 r0_c_26) D_26, gr inTx D_26] _ := S62
     refine s_end (x_normal (wp_cond_false (F65.ev 42 rfl) (wp_skip (x_normal (wp_seq (wp_seq (wp_region_lit (l_op (f_mv F65 rfl rfl rfl rfl rfl fun _ F67 => ?_)))))))))
     refine l_op (f_mv F67 rfl rfl rfl rfl rfl fun _ F68 => ?_)
     refine l_op (f_call F68 CF_34 rfl rfl rfl rfl (lc (F68.ev 44 rfl) rfl) (laws_toIntS_c (a := aIds) (RdA.mv (Nat.succ_pos _) V_v_aIds (T18.trans (S26.trans (S29.trans (S31.trans (S36.trans (S41.trans (S47.trans (T57.trans (S60.trans T66)))))))))) (by first | assumption | omega | (simp <;> omega))) ?_)
     rintro _ w69 ⟨r0_a_69, r0_n_69, r0_c_69, rfl, m69⟩
     refine ⟨_, rfl, fun _ F70 => ?_⟩
     have S69 : Mv _ _ [ow 3 1 encI okI (.slice r0_a_69 r0_n_69 r0_c_69) aIds, ow 71 10 encTx okTx (.slice r0_a_60 r0_n_60 r0_c_60) D_60, gr inTx D_60, ow 71 10 encTx okTx (.slice r0_a_47 r0_n_47 r0_c_47) D_47, gr inTx D_47, ow 3 1 encI okI (.slice r0_a_41 r0_n_41 r0_c_41) aIds, ow 71 10 encTx okTx (.slice r0_a_36 r0_n_36 r0_c_36) D_36, gr inTx D_36, ow 71 10 encTx okTx (.slice r0_a_31 r0_n_31 r0_c_31) D_31, gr inTx D_31, ow 3 1 encI okI (.slice r0_a_29 r0_n_29 r0_c_29) aIds, ow 71 10 encTx okTx (.slice r0_a_26 r0_n_26 r0_c_26) D_26, gr inTx D_26] _ := At.frame T66.at' [] rfl m69
     obtain ⟨lo69_0, lp69_0, lq69_0⟩ := At.ownInv S69.at' ET_53.hk 0 rfl
     clear m69
     refine l_op (f_call F70 CF_36 rfl rfl rfl rfl (lc (F70.ev 43 rfl) (lc (F70.ev 45 rfl) rfl)) (laws_eqIntS_c (H := fun _ => True) (a := aIds) (b := aIds) (At.rd S69.at' ET_53.hk 5 rfl) (At.rd S69.at' ET_53.hk 0 rfl) (by rfl)) ?_)
     rintro _ w71 ⟨rfl, m71⟩
     refine ⟨_, rfl, fun _ F72 => ?_⟩
     have S71 := At.frame0 S69.at' m71
     clear m71
     refine l_op (f_val F72 rfl rfl (r_not rfl (F72.ev 46 rfl)) rfl fun _ F73 => ?_)
     have F74 : Fr 90 [(47, .bool false), (9, .slice r0_a_47 r0_n_47 r0_c_47), (8, .slice r0_a_41 r0_n_41 r0_c_41), (7, .slice r0_a_36 r0_n_36 r0_c_36), (6, .slice r0_a_31 r0_n_31 r0_c_31), (0, .slice aList_a aList_n aList_c), (1, .slice aIds_a aIds_n aIds_c)] _ := F73.cut rfl
     clear F65 F67 F68 F70 F72 F73
     have T75 : Mv _ _ [ow 3 1 encI okI (.slice r0_a_69 r0_n_69 r0_c_69) aIds, ow 71 10 encTx okTx (.slice r0_a_60 r0_n_60 r0_c_60) D_60, gr inTx D_60, ow 71 10 encTx okTx (.slice r0_a_47 r0_n_47 r0_c_47) D_47, gr inTx D_47, ow 3 1 encI okI (.slice r0_a_41 r0_n_41 r0_c_41) aIds, ow 71 10 encTx okTx (.slice r0_a_36 r0_n_36 r0_c_36) D_36, gr inTx D_36, ow 71 10 encTx okTx (.slice r0_a_31 r0_n_31 r0_c_31) D_31, gr inTx D_31, ow 3 1 encI okI (.slice r0_a_29 r0_n_29 r0_c_29) aIds, ow 71 10 encTx okTx (.slice r0_a_26 r0_n_26 r0_c_26) D_26, gr inTx D_26] _ := S71
     refine s_end (x_normal (wp_cond_false (F74.ev 47 rfl) (wp_skip (x_normal (wp_seq (wp_region_lit (l_op (f_val F74 rfl rfl (r_assign rfl rfl) rfl fun _ F76 => ?_))))))))
     have F77 : Fr 90 [(10, .int .i64 1), (9, .slice r0_a_47 r0_n_47 r0_c_47), (8, .slice r0_a_41 r0_n_41 r0_c_41), (7, .slice r0_a_36 r0_n_36 r0_c_36), (6, .slice r0_a_31 r0_n_31 r0_c_31), (0, .slice aList_a aList_n aList_c), (1, .slice aIds_a aIds_n aIds_c)] _ := F76.cut rfl
     clear F74 F76
     refine s_end (x_normal (wp_seq (wp_region_lit (l_op (f_mv F77 rfl rfl rfl rfl rfl fun _ F78 => ?_)))))
     refine l_op (f_mv F78 rfl rfl rfl rfl rfl fun _ F79 => ?_)
     refine l_op (f_call F79 CF_37 rfl rfl rfl rfl (lc (F79.ev 48 rfl) (lc (F79.ev 49 rfl) rfl)) (laws_markTxS_c (H := fun _ => True) (L := (aList.map TxH.d)) (a := D_36) (k := 1) ⟨by omega, by first | omega | (unfold i64ok at *; omega)⟩ (by first | assumption | omega | (simp <;> omega)) (by first | assumption | omega | (simp <;> omega)) (by first | assumption | omega | (simp <;> omega)) (At.pick (is := [6, 7]) T75.at' rfl)) ?_)
     rintro _ w80 ⟨D_80, rfl, m80, q80_0⟩
     refine ⟨_, rfl, fun _ F81 => ?_⟩
     have S80 : Mv _ _ [ow 71 10 encTx okTx (.slice r0_a_36 r0_n_36 r0_c_36) D_80, gr inTx D_80, ow 3 1 encI okI (.slice r0_a_69 r0_n_69 r0_c_69) aIds, ow 71 10 encTx okTx (.slice r0_a_60 r0_n_60 r0_c_60) D_60, gr inTx D_60, ow 71 10 encTx okTx (.slice r0_a_47 r0_n_47 r0_c_47) D_47, gr inTx D_47, ow 3 1 encI okI (.slice r0_a_41 r0_n_41 r0_c_41) aIds, ow 71 10 encTx okTx (.slice r0_a_31 r0_n_31 r0_c_31) D_31, gr inTx D_31, ow 3 1 encI okI (.slice r0_a_29 r0_n_29 r0_c_29) aIds, ow 71 10 encTx okTx (.slice r0_a_26 r0_n_26 r0_c_26) D_26, gr inTx D_26] _ := At.frame T75.at' [6, 7] rfl m80
     obtain ⟨lo80_0, lp80_0, lq80_0⟩ := At.ownInv S80.at' ET_39.hk 0 rfl
     clear m80
     refine l_op (f_as F81 rfl rfl rfl rfl rfl fun _ F82 => ?_)
     have F83 : Fr 90 [(10, .int .i64 ((1 + sumOf cntTx (aList.map TxH.d) : Nat) : Int)), (9, .slice r0_a_47 r0_n_47 r0_c_47), (8, .slice r0_a_41 r0_n_41 r0_c_41), (6, .slice r0_a_31 r0_n_31 r0_c_31), (0, .slice aList_a aList_n aList_c), (1, .slice aIds_a aIds_n aIds_c)] _ := F82.cut rfl
     clear F77 F78 F79 F81 F82
     refine s_end (x_normal (wp_seq (wp_region_lit (l_op (f_mv F83 rfl rfl rfl rfl rfl fun _ F84 => ?_)))))
     refine l_op (f_mv F84 rfl rfl rfl rfl rfl fun _ F85 => ?_)
     refine l_op (f_call F85 CF_38 rfl rfl rfl rfl (lc (F85.ev 51 rfl) (lc (F85.ev 52 rfl) rfl)) (laws_markIntS_c (H := fun _ => True) (a := aIds) (k := 1 + sumOf cntTx (aList.map TxH.d)) ⟨by omega, by first | omega | (unfold i64ok at *; omega)⟩ (by first | assumption | omega | (simp <;> omega)) (At.pick (is := [7]) S80.at' rfl)) ?_)
     rintro _ w86 ⟨rfl, m86⟩
     refine ⟨_, rfl, fun _ F87 => ?_⟩
     have S86 : Mv _ _ [ow 3 1 encI okI (.slice r0_a_41 r0_n_41 r0_c_41) (marksOf markI (1 + sumOf cntTx (aList.map TxH.d)) aIds.length), ow 71 10 encTx okTx (.slice r0_a_36 r0_n_36 r0_c_36) D_80, gr inTx D_80, ow 3 1 encI okI (.slice r0_a_69 r0_n_69 r0_c_69) aIds, ow 71 10 encTx okTx (.slice r0_a_60 r0_n_60 r0_c_60) D_60, gr inTx D_60, ow 71 10 encTx okTx (.slice r0_a_47 r0_n_47 r0_c_47) D_47, gr inTx D_47, ow 71 10 encTx okTx (.slice r0_a_31 r0_n_31 r0_c_31) D_31, gr inTx D_31, ow 3 1 encI okI (.slice r0_a_29 r0_n_29 r0_c_29) aIds, ow 71 10 encTx okTx (.slice r0_a_26 r0_n_26 r0_c_26) D_26, gr inTx D_26] _ := At.frame S80.at' [7] rfl m86
     obtain ⟨lo86_0, lp86_0, lq86_0⟩ := At.ownInv S86.at' ET_53.hk 0 rfl
     clear m86
     refine l_op (f_as F87 rfl rfl rfl rfl rfl fun _ F88 => ?_)
     have F89 : Fr 90 [(10, .int .i64 (((1 + sumOf cntTx (aList.map TxH.d)) + aIds.length : Nat) : Int)), (9, .slice r0_a_47 r0_n_47 r0_c_47), (6, .slice r0_a_31 r0_n_31 r0_c_31), (0, .slice aList_a aList_n aList_c), (1, .slice aIds_a aIds_n aIds_c)] _ := F88.cut rfl
     clear F83 F84 F85 F87 F88
     refine s_end (x_normal (wp_seq (wp_seq (wp_region_lit (l_op (f_mv F89 rfl rfl rfl rfl rfl fun _ F90 => ?_))))))
     refine l_op (f_val F90 rfl rfl (r_cmp (b := false) (.inr (.inr (.inl rfl))) rfl (F90.ev 54 rfl) rfl (cmp_lt0 _ _ (by omega))) rfl fun _ F91 => ?_)
     refine l_op (f_mv F91 rfl rfl rfl rfl rfl fun _ F92 => ?_)
     refine l_op (f_mv F92 (wanted_g F92 rfl rfl rfl rfl) rfl rfl rfl rfl fun _ F93 => ?_)
     refine l_op (f_mv F93 (wanted_g F93 rfl rfl rfl rfl) rfl rfl rfl rfl fun _ F94 => ?_)
     refine l_op (f_call F94 CF_20 (wanted_g F94 rfl rfl rfl rfl) rfl rfl rfl (lc (F94.ev 57 rfl) (lc (F94.ev 58 rfl) rfl)) (laws_eqTxS_c (H := fun _ => True) (a := D_47) (b := D_31) (At.rd S86.at' ET_39.hk 6 rfl) (At.nrd S86.at' 7 rfl) (At.rd S86.at' ET_39.hk 8 rfl) (At.nrd S86.at' 9 rfl) (by exact (same2 (by assumption) (by assumption)))) ?_)
     rintro _ w95 ⟨rfl, m95⟩
     refine ⟨_, rfl, fun _ F96 => ?_⟩
     have S95 := At.frame0 S86.at' m95
     clear m95
     refine l_op (f_val F96 (wanted_g F96 rfl rfl rfl rfl) rfl (r_not rfl (F96.ev 59 rfl)) rfl fun _ F97 => ?_)
     refine l_op (f_val F97 rfl rfl (r_pick (b := false) rfl (F97.ev 56 rfl) (F97.ev 60 rfl)) rfl fun _ F98 => ?_)
     have F99 : Fr 90 [(61, .bool false), (9, .slice r0_a_47 r0_n_47 r0_c_47), (6, .slice r0_a_31 r0_n_31 r0_c_31), (0, .slice aList_a aList_n aList_c), (1, .slice aIds_a aIds_n aIds_c)] _ := F98.cut rfl
     clear F89 F90 F91 F92 F93 F94 F96 F97 F98
     have T100 : Mv _ _ [ow 3 1 encI okI (.slice r0_a_41 r0_n_41 r0_c_41) (marksOf markI (1 + sumOf cntTx (aList.map TxH.d)) aIds.length), ow 71 10 encTx okTx (.slice r0_a_36 r0_n_36 r0_c_36) D_80, gr inTx D_80, ow 3 1 encI okI (.slice r0_a_69 r0_n_69 r0_c_69) aIds, ow 71 10 encTx okTx (.slice r0_a_60 r0_n_60 r0_c_60) D_60, gr inTx D_60, ow 71 10 encTx okTx (.slice r0_a_47 r0_n_47 r0_c_47) D_47, gr inTx D_47, ow 71 10 encTx okTx (.slice r0_a_31 r0_n_31 r0_c_31) D_31, gr inTx D_31, ow 3 1 encI okI (.slice r0_a_29 r0_n_29 r0_c_29) aIds, ow 71 10 encTx okTx (.slice r0_a_26 r0_n_26 r0_c_26) D_26, gr inTx D_26] _ := S95
     refine s_end (x_normal (wp_cond_false (F99.ev 61 rfl) (wp_skip (x_normal (wp_seq (wp_region_lit (l_op (f_val F99 rfl rfl (r_assign rfl rfl) rfl fun _ F101 => ?_))))))))
     have F102 : Fr 90 [(11, .int .i64 1), (9, .slice r0_a_47 r0_n_47 r0_c_47), (6, .slice r0_a_31 r0_n_31 r0_c_31), (0, .slice aList_a aList_n aList_c), (1, .slice aIds_a aIds_n aIds_c)] _ := F101.cut rfl
     clear F99 F101
     refine s_end (x_normal (wp_seq (wp_region_lit (l_op (f_mv F102 rfl rfl rfl rfl rfl fun _ F103 => ?_)))))
     refine l_op (f_mv F103 rfl rfl rfl rfl rfl fun _ F104 => ?_)
     refine l_op (f_call F104 CF_37 rfl rfl rfl rfl (lc (F104.ev 62 rfl) (lc (F104.ev 63 rfl) rfl)) (laws_markTxS_c (H := fun _ => True) (L := (dropL aIds (aList.map TxH.d))) (a := D_47) (k := 1) ⟨by omega, by first | omega | (unfold i64ok at *; omega)⟩ (by first | assumption | omega | (simp <;> omega)) (by first | assumption | omega | (simp <;> omega)) (by first | assumption | omega | (simp <;> omega)) (At.pick (is := [6, 7]) T100.at' rfl)) ?_)
     rintro _ w105 ⟨D_105, rfl, m105, q105_0⟩
     refine ⟨_, rfl, fun _ F106 => ?_⟩
     have S105 : Mv _ _ [ow 71 10 encTx okTx (.slice r0_a_47 r0_n_47 r0_c_47) D_105, gr inTx D_105, ow 3 1 encI okI (.slice r0_a_41 r0_n_41 r0_c_41) (marksOf markI (1 + sumOf cntTx (aList.map TxH.d)) aIds.length), ow 71 10 encTx okTx (.slice r0_a_36 r0_n_36 r0_c_36) D_80, gr inTx D_80, ow 3 1 encI okI (.slice r0_a_69 r0_n_69 r0_c_69) aIds, ow 71 10 encTx okTx (.slice r0_a_60 r0_n_60 r0_c_60) D_60, gr inTx D_60, ow 71 10 encTx okTx (.slice r0_a_31 r0_n_31 r0_c_31) D_31, gr inTx D_31, ow 3 1 encI okI (.slice r0_a_29 r0_n_29 r0_c_29) aIds, ow 71 10 encTx okTx (.slice r0_a_26 r0_n_26 r0_c_26) D_26, gr inTx D_26] _ := At.frame T100.at' [6, 7] rfl m105
     obtain ⟨lo105_0, lp105_0, lq105_0⟩ := At.ownInv S105.at' ET_39.hk 0 rfl
     clear m105
     refine l_op (f_as F106 rfl rfl rfl rfl rfl fun _ F107 => ?_)
     have F108 : Fr 90 [(11, .int .i64 ((1 + sumOf cntTx (dropL aIds (aList.map TxH.d)) : Nat) : Int)), (9, .slice r0_a_47 r0_n_47 r0_c_47), (6, .slice r0_a_31 r0_n_31 r0_c_31), (0, .slice aList_a aList_n aList_c), (1, .slice aIds_a aIds_n aIds_c)] _ := F107.cut rfl
     clear F102 F103 F104 F106 F107
     refine s_end (x_normal (wp_seq (wp_region_lit (l_op (f_val F108 rfl rfl (r_assign rfl rfl) rfl fun _ F109 => ?_)))))
     have F110 : Fr 90 [(12, .int .i64 1), (11, .int .i64 ((1 + sumOf cntTx (dropL aIds (aList.map TxH.d)) : Nat) : Int)), (9, .slice r0_a_47 r0_n_47 r0_c_47), (6, .slice r0_a_31 r0_n_31 r0_c_31), (0, .slice aList_a aList_n aList_c), (1, .slice aIds_a aIds_n aIds_c)] _ := F109.cut rfl
     clear F108 F109
     refine s_end (x_normal (wp_seq (wp_region_lit (l_op (f_mv F110 rfl rfl rfl rfl rfl fun _ F111 => ?_)))))
     refine l_op (f_mv F111 rfl rfl rfl rfl rfl fun _ F112 => ?_)
     refine l_op (f_call F112 CF_39 rfl rfl rfl rfl (lc (F112.ev 65 rfl) (lc (F112.ev 66 rfl) rfl)) (laws_heldTxS_c (H := fun _ => True) (d := (dropL aIds (aList.map TxH.d))) (a := D_105) (k := 1) (At.rd S105.at' ET_39.hk 0 rfl) (At.nrd S105.at' 1 rfl) ⟨by omega, by first | omega | (unfold i64ok at *; omega)⟩ (by assumption) (by first | assumption | omega | (simp <;> omega)) (by first | assumption | omega | (simp <;> omega))) ?_)
     rintro _ w113 ⟨rfl, m113⟩
     refine ⟨_, rfl, fun _ F114 => ?_⟩
     have S113 := At.frame0 S105.at' m113
     clear m113
     refine l_op (f_as F114 rfl rfl rfl rfl rfl fun _ F115 => ?_)
     have F116 : Fr 90 [(12, .int .i64 ((1 + sumOf cntTx (dropL aIds (aList.map TxH.d)) : Nat) : Int)), (11, .int .i64 ((1 + sumOf cntTx (dropL aIds (aList.map TxH.d)) : Nat) : Int)), (9, .slice r0_a_47 r0_n_47 r0_c_47), (6, .slice r0_a_31 r0_n_31 r0_c_31), (0, .slice aList_a aList_n aList_c), (1, .slice aIds_a aIds_n aIds_c)] _ := F115.cut rfl
     clear F110 F111 F112 F114 F115
     have T117 : Mv _ _ [ow 71 10 encTx okTx (.slice r0_a_47 r0_n_47 r0_c_47) D_105, gr inTx D_105, ow 3 1 encI okI (.slice r0_a_41 r0_n_41 r0_c_41) (marksOf markI (1 + sumOf cntTx (aList.map TxH.d)) aIds.length), ow 71 10 encTx okTx (.slice r0_a_36 r0_n_36 r0_c_36) D_80, gr inTx D_80, ow 3 1 encI okI (.slice r0_a_69 r0_n_69 r0_c_69) aIds, ow 71 10 encTx okTx (.slice r0_a_60 r0_n_60 r0_c_60) D_60, gr inTx D_60, ow 71 10 encTx okTx (.slice r0_a_31 r0_n_31 r0_c_31) D_31, gr inTx D_31, ow 3 1 encI okI (.slice r0_a_29 r0_n_29 r0_c_29) aIds, ow 71 10 encTx okTx (.slice r0_a_26 r0_n_26 r0_c_26) D_26, gr inTx D_26] _ := S113
     refine s_end (x_normal (wp_seq (wp_seq (wp_region_lit (l_op (f_mv F116 rfl rfl rfl rfl rfl fun _ F118 => ?_))))))
     refine l_op (f_val F118 rfl rfl (r_cmp (b := false) (.inr (.inr (.inl rfl))) rfl (F118.ev 68 rfl) rfl (cmp_lt0 _ _ (by omega))) rfl fun _ F119 => ?_)
     have F120 : Fr 90 [(69, .bool false), (12, .int .i64 ((1 + sumOf cntTx (dropL aIds (aList.map TxH.d)) : Nat) : Int)), (11, .int .i64 ((1 + sumOf cntTx (dropL aIds (aList.map TxH.d)) : Nat) : Int)), (9, .slice r0_a_47 r0_n_47 r0_c_47), (6, .slice r0_a_31 r0_n_31 r0_c_31), (0, .slice aList_a aList_n aList_c), (1, .slice aIds_a aIds_n aIds_c)] _ := F119.cut rfl
     clear F116 F118 F119
     refine s_end (x_normal (wp_cond_false (F120.ev 69 rfl) (wp_skip (x_normal (wp_seq (wp_seq (wp_region_lit (l_op (f_mv F120 rfl rfl rfl rfl rfl fun _ F121 => ?_)))))))))
     refine l_op (f_mv F121 rfl rfl rfl rfl rfl fun _ F122 => ?_)
     refine l_op (f_val F122 rfl rfl (r_cmp (b := false) (.inr (.inl rfl)) rfl (F122.ev 70 rfl) (F122.ev 71 rfl) (cmp_nes _)) rfl fun _ F123 => ?_)
     have F124 : Fr 90 [(72, .bool false), (11, .int .i64 ((1 + sumOf cntTx (dropL aIds (aList.map TxH.d)) : Nat) : Int)), (9, .slice r0_a_47 r0_n_47 r0_c_47), (6, .slice r0_a_31 r0_n_31 r0_c_31), (0, .slice aList_a aList_n aList_c), (1, .slice aIds_a aIds_n aIds_c)] _ := F123.cut rfl
     clear F120 F121 F122 F123
     refine s_end (x_normal (wp_cond_false (F124.ev 72 rfl) (wp_skip (x_normal (wp_seq (wp_region_lit (l_op (f_mv F124 rfl rfl rfl rfl rfl fun _ F125 => ?_))))))))
     refine l_op (f_call F125 CF_18 rfl rfl rfl rfl (lc (F125.ev 73 rfl) rfl) (laws_toTxS_c (a := aList) (RdA.mv (Nat.succ_pos _) V_v_aList (T18.trans (S26.trans (S29.trans (S31.trans (S36.trans (S41.trans (S47.trans (T57.trans (S60.trans (T66.trans (S69.trans (T75.trans (S80.trans (S86.trans (T100.trans (S105.trans T117))))))))))))))))) (NRa.mv V_u_aList (T18.trans (S26.trans (S29.trans (S31.trans (S36.trans (S41.trans (S47.trans (T57.trans (S60.trans (T66.trans (S69.trans (T75.trans (S80.trans (S86.trans (T100.trans (S105.trans T117))))))))))))))))) (by first | exact hfit.len | exact hfit) (by first | exact hfit.len | exact hfit)) ?_)
     rintro _ w126 ⟨D_126, r0_a_126, r0_n_126, r0_c_126, rfl, m126, q126_0, q126_1⟩
     refine ⟨_, rfl, fun _ F127 => ?_⟩
     have S126 : Mv _ _ [ow 71 10 encTx okTx (.slice r0_a_126 r0_n_126 r0_c_126) D_126, gr inTx D_126, ow 71 10 encTx okTx (.slice r0_a_47 r0_n_47 r0_c_47) D_105, gr inTx D_105, ow 3 1 encI okI (.slice r0_a_41 r0_n_41 r0_c_41) (marksOf markI (1 + sumOf cntTx (aList.map TxH.d)) aIds.length), ow 71 10 encTx okTx (.slice r0_a_36 r0_n_36 r0_c_36) D_80, gr inTx D_80, ow 3 1 encI okI (.slice r0_a_69 r0_n_69 r0_c_69) aIds, ow 71 10 encTx okTx (.slice r0_a_60 r0_n_60 r0_c_60) D_60, gr inTx D_60, ow 71 10 encTx okTx (.slice r0_a_31 r0_n_31 r0_c_31) D_31, gr inTx D_31, ow 3 1 encI okI (.slice r0_a_29 r0_n_29 r0_c_29) aIds, ow 71 10 encTx okTx (.slice r0_a_26 r0_n_26 r0_c_26) D_26, gr inTx D_26] _ := At.frame T117.at' [] rfl m126
     obtain ⟨lo126_0, lp126_0, lq126_0⟩ := At.ownInv S126.at' ET_39.hk 0 rfl
     clear m126
     refine l_op (f_mv F127 rfl rfl rfl rfl rfl fun _ F128 => ?_)
     refine l_op (f_call F128 CF_34 rfl rfl rfl rfl (lc (F128.ev 75 rfl) rfl) (laws_toIntS_c (a := aIds) (RdA.mv (Nat.succ_pos _) V_v_aIds (T18.trans (S26.trans (S29.trans (S31.trans (S36.trans (S41.trans (S47.trans (T57.trans (S60.trans (T66.trans (S69.trans (T75.trans (S80.trans (S86.trans (T100.trans (S105.trans (T117.trans S126)))))))))))))))))) (by first | assumption | omega | (simp <;> omega))) ?_)
     rintro _ w129 ⟨r0_a_129, r0_n_129, r0_c_129, rfl, m129⟩
     refine ⟨_, rfl, fun _ F130 => ?_⟩
     have S129 : Mv _ _ [ow 3 1 encI okI (.slice r0_a_129 r0_n_129 r0_c_129) aIds, ow 71 10 encTx okTx (.slice r0_a_126 r0_n_126 r0_c_126) D_126, gr inTx D_126, ow 71 10 encTx okTx (.slice r0_a_47 r0_n_47 r0_c_47) D_105, gr inTx D_105, ow 3 1 encI okI (.slice r0_a_41 r0_n_41 r0_c_41) (marksOf markI (1 + sumOf cntTx (aList.map TxH.d)) aIds.length), ow 71 10 encTx okTx (.slice r0_a_36 r0_n_36 r0_c_36) D_80, gr inTx D_80, ow 3 1 encI okI (.slice r0_a_69 r0_n_69 r0_c_69) aIds, ow 71 10 encTx okTx (.slice r0_a_60 r0_n_60 r0_c_60) D_60, gr inTx D_60, ow 71 10 encTx okTx (.slice r0_a_31 r0_n_31 r0_c_31) D_31, gr inTx D_31, ow 3 1 encI okI (.slice r0_a_29 r0_n_29 r0_c_29) aIds, ow 71 10 encTx okTx (.slice r0_a_26 r0_n_26 r0_c_26) D_26, gr inTx D_26] _ := At.frame S126.at' [] rfl m129
     obtain ⟨lo129_0, lp129_0, lq129_0⟩ := At.ownInv S129.at' ET_53.hk 0 rfl
     clear m129
     refine l_op (f_call F130 CF_35 rfl rfl rfl rfl (lc (F130.ev 74 rfl) (lc (F130.ev 76 rfl) rfl)) (impl_Dropped_c (H := fun _ => True) (L := aList.map TxH.d) (list := D_126) (ids := aIds) (At.rd S129.at' ET_39.hk 1 rfl) (At.nrd S129.at' 2 rfl) (At.rd S129.at' ET_53.hk 0 rfl) (by assumption) (by exact hfit)) ?_)
     rintro _ w131 ⟨D_131, r0_a_131, r0_n_131, r0_c_131, rfl, m131, q131_0⟩
     refine ⟨_, rfl, fun _ F132 => ?_⟩
     have S131 : Mv _ _ [ow 71 10 encTx okTx (.slice r0_a_131 r0_n_131 r0_c_131) D_131, gr inTx D_131, ow 3 1 encI okI (.slice r0_a_129 r0_n_129 r0_c_129) aIds, ow 71 10 encTx okTx (.slice r0_a_126 r0_n_126 r0_c_126) D_126, gr inTx D_126, ow 71 10 encTx okTx (.slice r0_a_47 r0_n_47 r0_c_47) D_105, gr inTx D_105, ow 3 1 encI okI (.slice r0_a_41 r0_n_41 r0_c_41) (marksOf markI (1 + sumOf cntTx (aList.map TxH.d)) aIds.length), ow 71 10 encTx okTx (.slice r0_a_36 r0_n_36 r0_c_36) D_80, gr inTx D_80, ow 3 1 encI okI (.slice r0_a_69 r0_n_69 r0_c_69) aIds, ow 71 10 encTx okTx (.slice r0_a_60 r0_n_60 r0_c_60) D_60, gr inTx D_60, ow 71 10 encTx okTx (.slice r0_a_31 r0_n_31 r0_c_31) D_31, gr inTx D_31, ow 3 1 encI okI (.slice r0_a_29 r0_n_29 r0_c_29) aIds, ow 71 10 encTx okTx (.slice r0_a_26 r0_n_26 r0_c_26) D_26, gr inTx D_26] _ := At.frame S129.at' [] rfl m131
     obtain ⟨lo131_0, lp131_0, lq131_0⟩ := At.ownInv S131.at' ET_39.hk 0 rfl
     clear m131
     refine l_op (f_as F132 rfl rfl rfl rfl rfl fun _ F133 => ?_)
     have F134 : Fr 90 [(13, .slice r0_a_131 r0_n_131 r0_c_131), (11, .int .i64 ((1 + sumOf cntTx (dropL aIds (aList.map TxH.d)) : Nat) : Int)), (9, .slice r0_a_47 r0_n_47 r0_c_47), (6, .slice r0_a_31 r0_n_31 r0_c_31)] _ := F133.cut rfl
     clear F124 F125 F127 F128 F130 F132 F133
     refine s_end (x_normal (wp_seq (wp_seq (wp_region_lit (l_op (f_mv F134 rfl rfl rfl rfl rfl fun _ F135 => ?_))))))
     refine l_op (f_mv F135 rfl rfl rfl rfl rfl fun _ F136 => ?_)
     refine l_op (f_call F136 CF_20 rfl rfl rfl rfl (lc (F136.ev 78 rfl) (lc (F136.ev 79 rfl) rfl)) (laws_eqTxS_c (H := fun _ => True) (a := D_131) (b := D_31) (At.rd S131.at' ET_39.hk 0 rfl) (At.nrd S131.at' 1 rfl) (At.rd S131.at' ET_39.hk 13 rfl) (At.nrd S131.at' 14 rfl) (by exact (same2 (by assumption) (by assumption)))) ?_)
     rintro _ w137 ⟨rfl, m137⟩
     refine ⟨_, rfl, fun _ F138 => ?_⟩
     have S137 := At.frame0 S131.at' m137
     clear m137
     refine l_op (f_val F138 rfl rfl (r_not rfl (F138.ev 80 rfl)) rfl fun _ F139 => ?_)
     have F140 : Fr 90 [(81, .bool false), (11, .int .i64 ((1 + sumOf cntTx (dropL aIds (aList.map TxH.d)) : Nat) : Int)), (9, .slice r0_a_47 r0_n_47 r0_c_47)] _ := F139.cut rfl
     clear F134 F135 F136 F138 F139
     have T141 : Mv _ _ [ow 71 10 encTx okTx (.slice r0_a_131 r0_n_131 r0_c_131) D_131, gr inTx D_131, ow 3 1 encI okI (.slice r0_a_129 r0_n_129 r0_c_129) aIds, ow 71 10 encTx okTx (.slice r0_a_126 r0_n_126 r0_c_126) D_126, gr inTx D_126, ow 71 10 encTx okTx (.slice r0_a_47 r0_n_47 r0_c_47) D_105, gr inTx D_105, ow 3 1 encI okI (.slice r0_a_41 r0_n_41 r0_c_41) (marksOf markI (1 + sumOf cntTx (aList.map TxH.d)) aIds.length), ow 71 10 encTx okTx (.slice r0_a_36 r0_n_36 r0_c_36) D_80, gr inTx D_80, ow 3 1 encI okI (.slice r0_a_69 r0_n_69 r0_c_69) aIds, ow 71 10 encTx okTx (.slice r0_a_60 r0_n_60 r0_c_60) D_60, gr inTx D_60, ow 71 10 encTx okTx (.slice r0_a_31 r0_n_31 r0_c_31) D_31, gr inTx D_31, ow 3 1 encI okI (.slice r0_a_29 r0_n_29 r0_c_29) aIds, ow 71 10 encTx okTx (.slice r0_a_26 r0_n_26 r0_c_26) D_26, gr inTx D_26] _ := S137
     refine s_end (x_normal (wp_cond_false (F140.ev 81 rfl) (wp_skip (x_normal (wp_seq (wp_region_lit (l_op (f_val F140 rfl rfl (r_assign rfl rfl) rfl fun _ F142 => ?_))))))))
     have F143 : Fr 90 [(12, .int .i64 1), (11, .int .i64 ((1 + sumOf cntTx (dropL aIds (aList.map TxH.d)) : Nat) : Int)), (9, .slice r0_a_47 r0_n_47 r0_c_47)] _ := F142.cut rfl
     clear F140 F142
     refine s_end (x_normal (wp_seq (wp_region_lit (l_op (f_mv F143 rfl rfl rfl rfl rfl fun _ F144 => ?_)))))
     refine l_op (f_mv F144 rfl rfl rfl rfl rfl fun _ F145 => ?_)
     refine l_op (f_call F145 CF_39 rfl rfl rfl rfl (lc (F145.ev 82 rfl) (lc (F145.ev 83 rfl) rfl)) (laws_heldTxS_c (H := fun _ => True) (d := (dropL aIds (aList.map TxH.d))) (a := D_105) (k := 1) (At.rd T141.at' ET_39.hk 5 rfl) (At.nrd T141.at' 6 rfl) ⟨by omega, by first | omega | (unfold i64ok at *; omega)⟩ (by assumption) (by first | assumption | omega | (simp <;> omega)) (by first | assumption | omega | (simp <;> omega))) ?_)
     rintro _ w146 ⟨rfl, m146⟩
     refine ⟨_, rfl, fun _ F147 => ?_⟩
     have S146 := At.frame0 T141.at' m146
     clear m146
     refine l_op (f_as F147 rfl rfl rfl rfl rfl fun _ F148 => ?_)
     have F149 : Fr 90 [(12, .int .i64 ((1 + sumOf cntTx (dropL aIds (aList.map TxH.d)) : Nat) : Int)), (11, .int .i64 ((1 + sumOf cntTx (dropL aIds (aList.map TxH.d)) : Nat) : Int))] _ := F148.cut rfl
     clear F143 F144 F145 F147 F148
     have T150 : Mv _ _ [ow 71 10 encTx okTx (.slice r0_a_131 r0_n_131 r0_c_131) D_131, gr inTx D_131, ow 3 1 encI okI (.slice r0_a_129 r0_n_129 r0_c_129) aIds, ow 71 10 encTx okTx (.slice r0_a_126 r0_n_126 r0_c_126) D_126, gr inTx D_126, ow 71 10 encTx okTx (.slice r0_a_47 r0_n_47 r0_c_47) D_105, gr inTx D_105, ow 3 1 encI okI (.slice r0_a_41 r0_n_41 r0_c_41) (marksOf markI (1 + sumOf cntTx (aList.map TxH.d)) aIds.length), ow 71 10 encTx okTx (.slice r0_a_36 r0_n_36 r0_c_36) D_80, gr inTx D_80, ow 3 1 encI okI (.slice r0_a_69 r0_n_69 r0_c_69) aIds, ow 71 10 encTx okTx (.slice r0_a_60 r0_n_60 r0_c_60) D_60, gr inTx D_60, ow 71 10 encTx okTx (.slice r0_a_31 r0_n_31 r0_c_31) D_31, gr inTx D_31, ow 3 1 encI okI (.slice r0_a_29 r0_n_29 r0_c_29) aIds, ow 71 10 encTx okTx (.slice r0_a_26 r0_n_26 r0_c_26) D_26, gr inTx D_26] _ := S146
     refine s_end (x_normal (wp_seq (wp_seq (wp_region_lit (l_op (f_mv F149 rfl rfl rfl rfl rfl fun _ F151 => ?_))))))
     refine l_op (f_val F151 rfl rfl (r_cmp (b := false) (.inr (.inr (.inl rfl))) rfl (F151.ev 85 rfl) rfl (cmp_lt0 _ _ (by omega))) rfl fun _ F152 => ?_)
     have F153 : Fr 90 [(86, .bool false), (12, .int .i64 ((1 + sumOf cntTx (dropL aIds (aList.map TxH.d)) : Nat) : Int)), (11, .int .i64 ((1 + sumOf cntTx (dropL aIds (aList.map TxH.d)) : Nat) : Int))] _ := F152.cut rfl
     clear F149 F151 F152
     refine s_end (x_normal (wp_cond_false (F153.ev 86 rfl) (wp_skip (x_normal (wp_seq (wp_seq (wp_region_lit (l_op (f_mv F153 rfl rfl rfl rfl rfl fun _ F154 => ?_)))))))))
     refine l_op (f_mv F154 rfl rfl rfl rfl rfl fun _ F155 => ?_)
     refine l_op (f_val F155 rfl rfl (r_cmp (b := false) (.inr (.inl rfl)) rfl (F155.ev 87 rfl) (F155.ev 88 rfl) (cmp_nes _)) rfl fun _ F156 => ?_)
     have F157 : Fr 90 [(89, .bool false)] _ := F156.cut rfl
     clear F153 F154 F155 F156
     refine s_end (x_normal (wp_cond_false (F157.ev 89 rfl) (wp_skip (x_normal (wp_seq (wp_region_lit (l_op (f_val F157 rfl rfl (r_assign rfl rfl) rfl fun _ F158 => ?_))))))))
     have F159 : Fr 90 [(4, .bool true)] _ := F158.cut rfl
     clear F157 F158
     refine s_end (x_normal (wp_ret ?_))
     refine x_done (v := .bool true) F159 (results_1 Try.results9 (.tmp (F159.ev 4 rfl))) ?_
     exact ⟨rfl, (Mv.pick (T18.trans (S26.trans (S29.trans (S31.trans (S36.trans (S41.trans (S47.trans (T57.trans (S60.trans (T66.trans (S69.trans (T75.trans (S80.trans (S86.trans (T100.trans (S105.trans (T117.trans (S126.trans (S129.trans (S131.trans (T141.trans T150))))))))))))))))))))) [] rfl)⟩
end Go.Proofs.Ytgfilegkabbliaa
namespace Go.Proofs.Ytgfilegkabbliaa.dropped
open Go.ChangeShapes Go.WideShapes Go.ChangeAt Go.RowKit
set_option maxRecDepth 100000
theorem cells_3 : Try.prog.cellsOf 3 = 1 := by kernel_rfl
theorem cells_9 : Try.prog.cellsOf 9 = 1 := by kernel_rfl
theorem cells_53 : Try.prog.cellsOf 53 = 1 := by kernel_rfl
theorem cells_62 : Try.prog.cellsOf 62 = 1 := by kernel_rfl
theorem cells_89 : Try.prog.cellsOf 89 = 1 := by kernel_rfl
theorem cells_90 : Try.prog.cellsOf 90 = 1 := by kernel_rfl
theorem cells_91 : Try.prog.cellsOf 91 = 2 := by kernel_rfl
theorem cells_93 : Try.prog.cellsOf 93 = 10 := by kernel_rfl
theorem cells_173 : Try.prog.cellsOf 173 = 6 := by kernel_rfl
theorem cells_175 : Try.prog.cellsOf 175 = 3 := by kernel_rfl
theorem called (W : World) (args : Array Value) (h : ArgsRead Try.prog W Try.f9.params.toList args.toList) : Calls Try.prog 9 args W fun e W' => e = .returned (.bool true) ∧ Bl W W' := by
  obtain ⟨hl, h⟩ := h
  rw [Try.params9] at hl h
  obtain ⟨v0, v1, rfl⟩ : ∃ v0 v1, args = #[v0, v1] := by
    obtain ⟨l⟩ := args
    match l, hl with
    | [v0, v1], _ => exact ⟨v0, v1, rfl⟩
  obtain ⟨r0, o0⟩ := h 0 _ v0 rfl rfl
  have q0 := reads_one Try.underlying36 trivial o0 r0
  have row_0 : ∀ row, row.length = 10 → Reads Try.prog W 93 row → ∃ x, row = encTx x ∧ okTx x ∧ ∀ I ∈ inTx x, I.ra (fun _ => True) W := by
    intro row hl hr_0
    match row, hl with
    | [q_0_0, q_0_1, q_0_2, q_0_3, q_0_4, q_0_5, q_0_6, q_0_7, q_0_8, q_0_9], _ =>
      obtain ⟨_, hf_0e⟩ := hr_0.struct Try.underlying93
      have f_0e_0 : Reads Try.prog W 3 [q_0_0] := by simpa [cells_3] using hf_0e 0 _ rfl
      obtain ⟨i_0e_0, e_0e_0, h_0e_0, g_0e_0⟩ := f_0e_0.i64 Try.underlying3
      cases e_0e_0
      have f_0e_1 : Reads Try.prog W 3 [q_0_1] := by simpa [cells_3] using hf_0e 1 _ rfl
      obtain ⟨i_0e_1, e_0e_1, h_0e_1, g_0e_1⟩ := f_0e_1.i64 Try.underlying3
      cases e_0e_1
      have f_0e_2 : Reads Try.prog W 3 [q_0_2] := by simpa [cells_3] using hf_0e 2 _ rfl
      obtain ⟨i_0e_2, e_0e_2, h_0e_2, g_0e_2⟩ := f_0e_2.i64 Try.underlying3
      cases e_0e_2
      have f_0e_3 : Reads Try.prog W 3 [q_0_3] := by simpa [cells_3] using hf_0e 3 _ rfl
      obtain ⟨i_0e_3, e_0e_3, h_0e_3, g_0e_3⟩ := f_0e_3.i64 Try.underlying3
      cases e_0e_3
      have f_0e_4 : Reads Try.prog W 89 [q_0_4] := by simpa [cells_89] using hf_0e 4 _ rfl
      obtain ⟨a_0e_4, n_0e_4, c_0e_4, l_0e_4, e_0e_4, v_0e_4⟩ := rdA_of Try.underlying89 cells_173 (by decide) (call_row Try.underlying173 rfl rfl rfl rfl rfl rfl rfl rfl rfl rfl rfl rfl cells_3 cells_9 cells_9 cells_3 cells_3 cells_9 Try.underlying3 Try.underlying9 Try.underlying9 Try.underlying3 Try.underlying3 Try.underlying9) f_0e_4
      cases e_0e_4
      have f_0e_5 : Reads Try.prog W 90 [q_0_5] := by simpa [cells_90] using hf_0e 5 _ rfl
      obtain ⟨a_0e_5, n_0e_5, c_0e_5, l_0e_5, e_0e_5, v_0e_5⟩ := rdA_of Try.underlying90 cells_175 (by decide) (ans_row Try.underlying175 rfl rfl rfl rfl rfl rfl cells_3 cells_3 cells_9 Try.underlying3 Try.underlying3 Try.underlying9) f_0e_5
      cases e_0e_5
      have f_0e_6 : Reads Try.prog W 91 [q_0_6, q_0_7] := by simpa [cells_91] using hf_0e 6 _ rfl
      obtain ⟨_, hf_0e_6⟩ := f_0e_6.struct Try.underlying91
      have f_0e_6_0 : Reads Try.prog W 62 [q_0_6] := by simpa [cells_62] using hf_0e_6 0 _ rfl
      obtain ⟨a_0e_6_0, n_0e_6_0, c_0e_6_0, l_0e_6_0, e_0e_6_0, v_0e_6_0⟩ := rdA_of Try.underlying62 cells_9 (by decide) (str_row Try.underlying9) f_0e_6_0
      cases e_0e_6_0
      have f_0e_6_1 : Reads Try.prog W 62 [q_0_7] := by simpa [cells_62] using hf_0e_6 1 _ rfl
      obtain ⟨a_0e_6_1, n_0e_6_1, c_0e_6_1, l_0e_6_1, e_0e_6_1, v_0e_6_1⟩ := rdA_of Try.underlying62 cells_9 (by decide) (str_row Try.underlying9) f_0e_6_1
      cases e_0e_6_1
      have f_0e_7 : Reads Try.prog W 53 [q_0_8] := by simpa [cells_53] using hf_0e 7 _ rfl
      obtain ⟨a_0e_7, n_0e_7, c_0e_7, l_0e_7, e_0e_7, v_0e_7⟩ := rdA_of Try.underlying53 cells_3 (by decide) (int_row Try.underlying3) f_0e_7
      cases e_0e_7
      have f_0e_8 : Reads Try.prog W 3 [q_0_9] := by simpa [cells_3] using hf_0e 8 _ rfl
      obtain ⟨i_0e_8, e_0e_8, h_0e_8, g_0e_8⟩ := f_0e_8.i64 Try.underlying3
      cases e_0e_8
      refine ⟨(⟨(⟨i_0e_0, i_0e_1, i_0e_2, i_0e_3, l_0e_4, l_0e_5, (⟨l_0e_6_0, l_0e_6_1⟩ : TouchD), l_0e_7, i_0e_8⟩ : TxD), a_0e_4, n_0e_4, c_0e_4, a_0e_5, n_0e_5, c_0e_5, a_0e_6_0, n_0e_6_0, c_0e_6_0, a_0e_6_1, n_0e_6_1, c_0e_6_1, a_0e_7, n_0e_7, c_0e_7⟩ : TxH), rfl, ⟨⟨h_0e_0, g_0e_0⟩, ⟨h_0e_1, g_0e_1⟩, ⟨h_0e_2, g_0e_2⟩, ⟨h_0e_3, g_0e_3⟩, ⟨h_0e_8, g_0e_8⟩⟩, fun I hI => ?_⟩
      simp only [inTx, List.mem_cons, List.not_mem_nil, or_false] at hI
      rcases hI with rfl | rfl | rfl | rfl | rfl
      · exact v_0e_4
      · exact v_0e_5
      · exact v_0e_6_0
      · exact v_0e_6_1
      · exact v_0e_7
  obtain ⟨a_0, n_0, c_0, l_0, e_0, v_0, u_0⟩ := rdN_of (inns := inTx) Try.underlying36 cells_93 (by decide) row_0 q0
  cases e_0
  obtain ⟨r1, o1⟩ := h 1 _ v1 rfl rfl
  have q1 := reads_one Try.underlying53 trivial o1 r1
  obtain ⟨a_1, n_1, c_1, l_1, e_1, v_1⟩ := rdA_of Try.underlying53 cells_3 (by decide) (int_row Try.underlying3) q1
  cases e_1
  exact (laws_FnExactDropped_c (w := W) (H := fun _ => True) (aList := l_0) (aIds := l_1) v_0 u_0 v_1).mono fun e W' ⟨h1, h2⟩ => ⟨h1, h2.bl⟩
theorem own : ownKnob Try.prog.godebug = none := by kernel_rfl
theorem laidOut : laidOutB Try.prog = true := by kernel_rfl
theorem readable : ∀ t ∈ Try.f9.params.toList, Try.prog.readableRec t = true ∧ t < Try.prog.types.size := of_decide_eq_true (by kernel_rfl)
theorem lifted (os : Os) (started : os.Started) (H : Type) (enc : TypeId × Value → H) :
    ReturnsInHanded {} Try.checked os 9 .any (Rows.fnExactDroppedSpec.pre6 enc Try.prog Try.f9 Rows.fnExactDroppedRow.domain false) (Rows.fnExactDroppedSpec.post enc Try.prog Try.f9 false true false false) := by
  refine returnsInHanded_of_change (C := Try.checked) own started (by kernel_rfl) Try.func9
    (ChangeSpec.witness6 (enc := enc) (C := Try.checked) false ⟨#[], #[.slice none 0 0, .slice none 0 0], []⟩ 8 (by kernel_rfl) (by kernel_rfl) (by kernel_rfl) (by kernel_rfl)) ?_
  intro W base args ds gs before hval hW _ _
  refine law_contract laidOut readable Try.underlying4 rfl rfl ?_ called H enc false true false false W args ds gs before hval hW
  intro H ds hd
  match ds, hd with
  | [a, b], _ => rfl
theorem proved : Rows.FnExactDroppedSaid :=
  OpenClaim.holds_of_wide 9 Try.f9 rfl rfl rfl rfl rfl rfl rfl ⟨rfl, rfl, rfl, rfl, rfl⟩ rfl rfl rfl rfl rfl (by kernel_rfl) Try.func9 (by kernel_rfl)
    (of_decide_eq_true (by kernel_rfl)) (by unfold Func.isWrapper; first | (rw [if_pos (by decide +kernel)]; kernel_rfl) | (rw [if_neg (by decide +kernel)]; exact ⟨rfl, rfl⟩))
    (fun os started H enc _ => lifted os started H enc)
end Go.Proofs.Ytgfilegkabbliaa.dropped
