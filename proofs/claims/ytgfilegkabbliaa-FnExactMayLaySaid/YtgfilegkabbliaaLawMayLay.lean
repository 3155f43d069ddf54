/-
  PROVED HERE: whatever the input, the statement laws.FnExactMayLay returns true: the program's MayLay and the reference's give equal results and alter nothing of their arguments. No condition.
-/
import Derived.Test.YtgfilegkabbliaaGenNsa
import Derived.Test.YtgfilegkabbliaaGenNsb
import Derived.Test.YtgfilegkabbliaaLawN
namespace Go.Proofs.Ytgfilegkabbliaa
open Go.ChangeShapes Go.WideShapes Go.ChangeAt Go.RowKit
set_option maxRecDepth 100000
set_option maxHeartbeats 1000000
theorem laws_FnExactMayLay_c {w : World} {H : Nat → Prop} {aJ : JouD} {aList : List TxH} {aList_a : Option Addr} {aList_n aList_c : Nat} {aN : Int} (h_aJ_text : okS aJ.text) (h_aJ_sure : i64ok aJ.sure) (v_aList : RdA 10 encTx okTx H w (.slice aList_a aList_n aList_c) aList) (u_aList : NRa inTx H w aList) (h_aN : i64ok aN) :
    Calls Try.prog 7 #[.agg #[.string aJ.text, .int .i64 aJ.sure], .slice aList_a aList_n aList_c, .int .i64 aN] w fun e w' => e = .returned (.bool true) ∧ Mv [] w [] w' := by
 have uU : True := (fun _ => trivial) h_aJ_sure
 clear uU
 have V_v_aList : RdA 10 encTx okTx (V H w []) w (.slice aList_a aList_n aList_c) aList := RdA.start v_aList (fun _ _ => fps_nil _)
 obtain ⟨ln_aList, le_aList, mx_aList, ni_aList⟩ := RdA.inv v_aList
 have V_u_aList : NRa inTx (V H w []) w aList := NRa.start u_aList (fun _ _ => fps_nil _)
 refine calls_enter 42 Try.func7 rfl Try.ntmps7 (Nat.le_of_ble_eq_true rfl) (fun _ F0i => ?_)
 have F0 : Fr 42 [(0, .agg #[.string aJ.text, .int .i64 aJ.sure]), (1, .slice aList_a aList_n aList_c), (2, .int .i64 aN)] _ := F0i
 clear F0i
 refine wp_seq (wp_region_lit (l_op (f_box F0 (At.nil w) rfl rfl rfl (F0.ev 0 rfl) rfl rfl fun b1 _ w1 F2 S1 => ?_)))
 refine l_op (f_val F2 rfl rfl (r_assign rfl rfl) rfl fun _ F3 => ?_)
 have F4 : Fr 42 [(6, .bool false), (3, .pointer (some ⟨b1, 0, none⟩)), (1, .slice aList_a aList_n aList_c), (2, .int .i64 aN)] _ := F3.cut rfl
 clear F0 F2 F3
 have T5 : Mv _ _ [bx b1 [.string aJ.text, .int .i64 aJ.sure] 24] _ := S1
 refine s_end (x_normal (wp_seq (wp_region_lit (l_op (f_val F4 rfl rfl (r_assign rfl rfl) rfl fun _ F6 => ?_)))))
 have F7 : Fr 42 [(7, .int .i64 1048576), (3, .pointer (some ⟨b1, 0, none⟩)), (1, .slice aList_a aList_n aList_c), (2, .int .i64 aN)] _ := F6.cut rfl
 clear F4 F6
 refine s_end (x_normal (wp_seq (wp_region_lit (l_op (f_val (v := .agg #[.string aJ.text, .int .i64 aJ.sure]) F7 rfl rfl (r_loadB T5.at' 0 TI_24 rfl rfl (F7.ev 3 rfl) rfl rfl (fun h => nomatch h) rfl) rfl fun _ F8 => ?_)))))
 refine l_op (f_mv F8 rfl rfl rfl rfl rfl fun _ F9 => ?_)
 refine l_op (f_call F9 CF_27 rfl rfl rfl rfl (lc (F9.ev 11 rfl) (lc (F9.ev 12 rfl) rfl)) (laws_szJournal_c (H := fun _ => True) (a := aJ) (left := 1048576) h_aJ_text (by first | assumption | exact ⟨by omega, by omega⟩ | (unfold i64ok at *; omega) | (simp only [i64ok]; omega)) (by first | assumption | exact ⟨by omega, by omega⟩ | (unfold i64ok at *; omega)) (by first | assumption | omega | (simp <;> omega)) (by first | assumption | omega | (simp <;> omega))) ?_)
 rintro _ w10 ⟨rfl, m10, q10_0⟩
 refine ⟨_, rfl, fun _ F11 => ?_⟩
 have S10 := At.frame0 T5.at' m10
 clear m10
 refine l_op (f_as F11 rfl rfl rfl rfl rfl fun _ F12 => ?_)
 have F13 : Fr 42 [(7, .int .i64 (subOr 1048576 aJ.text.size)), (3, .pointer (some ⟨b1, 0, none⟩)), (1, .slice aList_a aList_n aList_c), (2, .int .i64 aN)] _ := F12.cut rfl
 clear F7 F8 F9 F11 F12
 have T14 : Mv _ _ [bx b1 [.string aJ.text, .int .i64 aJ.sure] 24] _ := S10
 refine s_end (x_normal (wp_seq (wp_seq (wp_region_lit (l_op (f_mv F13 rfl rfl rfl rfl rfl fun _ F15 => ?_))))))
 refine l_op (f_val F15 rfl rfl (r_cmp (b := decide ((subOr 1048576 aJ.text.size) < 0)) (.inr (.inr (.inl rfl))) rfl (F15.ev 14 rfl) rfl (dec_of (by omega))) rfl fun _ F16 => ?_)
 have F17 : Fr 42 [(15, .bool (decide ((subOr 1048576 aJ.text.size) < 0))), (7, .int .i64 (subOr 1048576 aJ.text.size)), (3, .pointer (some ⟨b1, 0, none⟩)), (1, .slice aList_a aList_n aList_c), (2, .int .i64 aN)] _ := F16.cut rfl
 clear F13 F15 F16
 refine s_end (x_normal (x_cond (p := (subOr 1048576 aJ.text.size) < 0) (F17.ev 15 rfl) (fun h18 => ?_) (fun h18 => ?_)))
 · skip
   refine wp_seq (wp_region_lit (l_op (f_val F17 rfl rfl (r_assign rfl rfl) rfl fun _ F19 => ?_)))
   have F20 : Fr 42 [(6, .bool true)] _ := F19.cut rfl
   clear F17 F19
   refine s_end (x_normal (wp_ret (x_then_ret ?_)))
   refine x_done (v := .bool true) F20 (results_1 Try.results7 (.tmp (F20.ev 6 rfl))) ?_
   exact ⟨rfl, (Mv.pick (T5.trans T14) [] rfl)⟩
 · skip
   refine wp_skip (x_normal (wp_seq (wp_region_lit (l_op (f_mv F17 rfl rfl rfl rfl rfl fun _ F21 => ?_)))))
   refine l_op (f_mv F21 rfl rfl rfl rfl rfl fun _ F22 => ?_)
   refine l_op (f_call F22 CF_16 rfl rfl rfl rfl (lc (F22.ev 16 rfl) (lc (F22.ev 17 rfl) rfl)) (laws_szTxS_c (a := aList) (left := (subOr 1048576 aJ.text.size)) (RdA.mv (Nat.succ_pos _) V_v_aList (T5.trans T14)) (NRa.mv V_u_aList (T5.trans T14)) (by first | assumption | exact ⟨by omega, by omega⟩ | (unfold i64ok at *; omega)) (by first | assumption | omega | (simp <;> omega)) (by have := subOr_bd 1048576 aJ.text.size (by decide); omega)) ?_)
   rintro _ w23 ⟨rfl, m23, q23_0⟩
   refine ⟨_, rfl, fun _ F24 => ?_⟩
   have S23 := At.frame0 T14.at' m23
   clear m23
   refine l_op (f_as F24 rfl rfl rfl rfl rfl fun _ F25 => ?_)
   have F26 : Fr 42 [(7, .int .i64 (subOr (subOr 1048576 aJ.text.size) (szTxsH aList))), (3, .pointer (some ⟨b1, 0, none⟩)), (1, .slice aList_a aList_n aList_c), (2, .int .i64 aN)] _ := F25.cut rfl
   clear F17 F21 F22 F24 F25
   have T27 : Mv _ _ [bx b1 [.string aJ.text, .int .i64 aJ.sure] 24] _ := S23
   refine s_end (x_normal (wp_seq (wp_seq (wp_region_lit (l_op (f_mv F26 rfl rfl rfl rfl rfl fun _ F28 => ?_))))))
   refine l_op (f_val F28 rfl rfl (r_cmp (b := decide ((subOr (subOr 1048576 aJ.text.size) (szTxsH aList)) < 0)) (.inr (.inr (.inl rfl))) rfl (F28.ev 19 rfl) rfl (dec_of (by omega))) rfl fun _ F29 => ?_)
   have F30 : Fr 42 [(20, .bool (decide ((subOr (subOr 1048576 aJ.text.size) (szTxsH aList)) < 0))), (3, .pointer (some ⟨b1, 0, none⟩)), (1, .slice aList_a aList_n aList_c), (2, .int .i64 aN)] _ := F29.cut rfl
   clear F26 F28 F29
   refine s_end (x_normal (x_cond (p := (subOr (subOr 1048576 aJ.text.size) (szTxsH aList)) < 0) (F30.ev 20 rfl) (fun h31 => ?_) (fun h31 => ?_)))
   · skip
     refine wp_seq (wp_region_lit (l_op (f_val F30 rfl rfl (r_assign rfl rfl) rfl fun _ F32 => ?_)))
     have F33 : Fr 42 [(6, .bool true)] _ := F32.cut rfl
     clear F30 F32
     refine s_end (x_normal (wp_ret (x_then_ret ?_)))
     refine x_done (v := .bool true) F33 (results_1 Try.results7 (.tmp (F33.ev 6 rfl))) ?_
     exact ⟨rfl, (Mv.pick (T5.trans (T14.trans T27)) [] rfl)⟩
   · skip
     refine wp_skip (x_normal (wp_seq ?_))
     have hfit := txsFits (l := aList) (n := 1048576) (z := subOr 1048576 aJ.text.size) (by have := subOr_bd 1048576 aJ.text.size (by decide); omega) (by assumption)
     have hlen := hfit.len
     refine wp_region_lit (l_op (f_val (v := .agg #[.string aJ.text, .int .i64 aJ.sure]) F30 rfl rfl (r_loadB T27.at' 0 TI_24 rfl rfl (F30.ev 3 rfl) rfl rfl (fun h => nomatch h) rfl) rfl fun _ F34 => ?_))
     refine l_op (f_call F34 CF_29 rfl rfl rfl rfl (lc (F34.ev 21 rfl) rfl) (laws_toJournal_c (H := fun _ => True) (a := aJ) h_aJ_text (by first | assumption | exact ⟨by omega, by omega⟩ | (unfold i64ok at *; omega) | (simp only [i64ok]; omega))) ?_)
     rintro _ w35 ⟨rfl, m35, ok_r0_text_35, q35_0⟩
     refine ⟨_, rfl, fun _ F36 => ?_⟩
     have S35 := At.frame0 T27.at' m35
     clear m35
     refine l_op (f_mv F36 rfl rfl rfl rfl rfl fun _ F37 => ?_)
     refine l_op (f_call F37 CF_18 rfl rfl rfl rfl (lc (F37.ev 23 rfl) rfl) (laws_toTxS_c (a := aList) (RdA.mv (Nat.succ_pos _) V_v_aList (T5.trans (T14.trans (T27.trans S35)))) (NRa.mv V_u_aList (T5.trans (T14.trans (T27.trans S35)))) (by first | assumption | omega | (simp <;> omega)) (by first | assumption | omega | (simp <;> omega))) ?_)
     rintro _ w38 ⟨D_38, r0_a_38, r0_n_38, r0_c_38, rfl, m38, q38_0, q38_1⟩
     refine ⟨_, rfl, fun _ F39 => ?_⟩
     have S38 : Mv _ _ [ow 71 10 encTx okTx (.slice r0_a_38 r0_n_38 r0_c_38) D_38, gr inTx D_38, bx b1 [.string aJ.text, .int .i64 aJ.sure] 24] _ := At.frame S35.at' [] rfl m38
     obtain ⟨lo38_0, lp38_0, lq38_0⟩ := At.ownInv S38.at' ET_39.hk 0 rfl
     clear m38
     refine l_op (f_mv F39 rfl rfl rfl rfl rfl fun _ F40 => ?_)
     refine l_op (f_call F40 CF_28 rfl rfl rfl rfl (lc (F40.ev 22 rfl) (lc (F40.ev 24 rfl) (lc (F40.ev 25 rfl) rfl))) (spec_MayLay_c (H := fun _ => True) (j := aJ) (list := D_38) (n := aN) ok_r0_text_35 (by first | assumption | exact ⟨by omega, by omega⟩ | (unfold i64ok at *; omega) | (simp only [i64ok]; omega)) (At.rd S38.at' ET_39.hk 0 rfl) (At.nrd S38.at' 1 rfl) h_aN (by first | assumption | omega | (simp <;> omega))) ?_)
     rintro _ w41 ⟨rfl, m41⟩
     refine ⟨_, rfl, fun _ F42 => ?_⟩
     have S41 := At.frame0 S38.at' m41
     clear m41
     refine l_op (f_as F42 rfl rfl rfl rfl rfl fun _ F43 => ?_)
     have F44 : Fr 42 [(8, .bool (mayL aJ (D_38.map TxH.d) aN)), (3, .pointer (some ⟨b1, 0, none⟩)), (1, .slice aList_a aList_n aList_c), (2, .int .i64 aN)] _ := F43.cut rfl
     clear F30 F34 F36 F37 F39 F40 F42 F43
     have T45 : Mv _ _ [ow 71 10 encTx okTx (.slice r0_a_38 r0_n_38 r0_c_38) D_38, gr inTx D_38, bx b1 [.string aJ.text, .int .i64 aJ.sure] 24] _ := S41
     refine s_end (x_normal (wp_seq (wp_region_lit (l_op (f_mv F44 rfl rfl rfl rfl rfl fun _ F46 => ?_)))))
     refine l_op (f_call F46 CF_18 rfl rfl rfl rfl (lc (F46.ev 27 rfl) rfl) (laws_toTxS_c (a := aList) (RdA.mv (Nat.succ_pos _) V_v_aList (T5.trans (T14.trans (T27.trans (S35.trans (S38.trans T45)))))) (NRa.mv V_u_aList (T5.trans (T14.trans (T27.trans (S35.trans (S38.trans T45)))))) (by first | assumption | omega | (simp <;> omega)) (by first | assumption | omega | (simp <;> omega))) ?_)
     rintro _ w47 ⟨D_47, r0_a_47, r0_n_47, r0_c_47, rfl, m47, q47_0, q47_1⟩
     refine ⟨_, rfl, fun _ F48 => ?_⟩
     have S47 : Mv _ _ [ow 71 10 encTx okTx (.slice r0_a_47 r0_n_47 r0_c_47) D_47, gr inTx D_47, ow 71 10 encTx okTx (.slice r0_a_38 r0_n_38 r0_c_38) D_38, gr inTx D_38, bx b1 [.string aJ.text, .int .i64 aJ.sure] 24] _ := At.frame T45.at' [] rfl m47
     obtain ⟨lo47_0, lp47_0, lq47_0⟩ := At.ownInv S47.at' ET_39.hk 0 rfl
     clear m47
     refine l_op (f_as F48 rfl rfl rfl rfl rfl fun _ F49 => ?_)
     have F50 : Fr 42 [(9, .slice r0_a_47 r0_n_47 r0_c_47), (8, .bool (mayL aJ (D_38.map TxH.d) aN)), (3, .pointer (some ⟨b1, 0, none⟩)), (1, .slice aList_a aList_n aList_c), (2, .int .i64 aN)] _ := F49.cut rfl
     clear F44 F46 F48 F49
     refine s_end (x_normal (wp_seq (wp_region_lit (l_op (f_val (v := .agg #[.string aJ.text, .int .i64 aJ.sure]) F50 rfl rfl (r_loadB S47.at' 4 TI_24 rfl rfl (F50.ev 3 rfl) rfl rfl (fun h => nomatch h) rfl) rfl fun _ F51 => ?_)))))
     refine l_op (f_call F51 CF_29 rfl rfl rfl rfl (lc (F51.ev 29 rfl) rfl) (laws_toJournal_c (H := fun _ => True) (a := aJ) h_aJ_text (by first | assumption | exact ⟨by omega, by omega⟩ | (unfold i64ok at *; omega) | (simp only [i64ok]; omega))) ?_)
     rintro _ w52 ⟨rfl, m52, ok_r0_text_52, q52_0⟩
     refine ⟨_, rfl, fun _ F53 => ?_⟩
     have S52 := At.frame0 S47.at' m52
     clear m52
     refine l_op (f_mv F53 rfl rfl rfl rfl rfl fun _ F54 => ?_)
     refine l_op (f_mv F54 rfl rfl rfl rfl rfl fun _ F55 => ?_)
     refine l_op (f_call F55 CF_30 rfl rfl rfl rfl (lc (F55.ev 30 rfl) (lc (F55.ev 31 rfl) (lc (F55.ev 32 rfl) rfl))) (impl_MayLay_c (H := fun _ => True) (j := aJ) (list := D_47) (n := aN) ok_r0_text_52 (by first | assumption | exact ⟨by omega, by omega⟩ | (unfold i64ok at *; omega) | (simp only [i64ok]; omega)) (At.rd S52.at' ET_39.hk 0 rfl) (At.nrd S52.at' 1 rfl) h_aN (by first | assumption | omega | (simp <;> omega))) ?_)
     rintro _ w56 ⟨rfl, m56⟩
     refine ⟨_, rfl, fun _ F57 => ?_⟩
     have S56 := At.frame0 S52.at' m56
     clear m56
     refine l_op (f_as F57 rfl rfl rfl rfl rfl fun _ F58 => ?_)
     have F59 : Fr 42 [(10, .bool (mayL aJ (D_47.map TxH.d) aN)), (9, .slice r0_a_47 r0_n_47 r0_c_47), (8, .bool (mayL aJ (D_38.map TxH.d) aN)), (1, .slice aList_a aList_n aList_c)] _ := F58.cut rfl
     clear F50 F51 F53 F54 F55 F57 F58
     have T60 : Mv _ _ [ow 71 10 encTx okTx (.slice r0_a_47 r0_n_47 r0_c_47) D_47, gr inTx D_47, ow 71 10 encTx okTx (.slice r0_a_38 r0_n_38 r0_c_38) D_38, gr inTx D_38, bx b1 [.string aJ.text, .int .i64 aJ.sure] 24] _ := S56
     refine s_end (x_normal (wp_seq (wp_seq (wp_region_lit (l_op (f_mv F59 rfl rfl rfl rfl rfl fun _ F61 => ?_))))))
     refine l_op (f_mv F61 rfl rfl rfl rfl rfl fun _ F62 => ?_)
     refine l_op (f_val F62 rfl rfl (r_cmpb (b := false) Try.underlying4 (.inr rfl) rfl (F62.ev 34 rfl) (F62.ev 35 rfl) (cmpb_ne (show (mayL aJ (D_47.map TxH.d) aN) = (mayL aJ (D_38.map TxH.d) aN) from congrArg (fun l => mayL aJ l aN) (same2 (by assumption) (by assumption))))) rfl fun _ F63 => ?_)
     have F64 : Fr 42 [(36, .bool false), (9, .slice r0_a_47 r0_n_47 r0_c_47), (1, .slice aList_a aList_n aList_c)] _ := F63.cut rfl
     clear F59 F61 F62 F63
     refine s_end (x_normal (wp_cond_false (F64.ev 36 rfl) (wp_skip (x_normal (wp_seq (wp_seq (wp_region_lit (l_op (f_mv F64 rfl rfl rfl rfl rfl fun _ F65 => ?_)))))))))
     refine l_op (f_mv F65 rfl rfl rfl rfl rfl fun _ F66 => ?_)
     refine l_op (f_call F66 CF_18 rfl rfl rfl rfl (lc (F66.ev 38 rfl) rfl) (laws_toTxS_c (a := aList) (RdA.mv (Nat.succ_pos _) V_v_aList (T5.trans (T14.trans (T27.trans (S35.trans (S38.trans (T45.trans (S47.trans (S52.trans T60))))))))) (NRa.mv V_u_aList (T5.trans (T14.trans (T27.trans (S35.trans (S38.trans (T45.trans (S47.trans (S52.trans T60))))))))) (by first | assumption | omega | (simp <;> omega)) (by first | assumption | omega | (simp <;> omega))) ?_)
     rintro _ w67 ⟨D_67, r0_a_67, r0_n_67, r0_c_67, rfl, m67, q67_0, q67_1⟩
     refine ⟨_, rfl, fun _ F68 => ?_⟩
     have S67 : Mv _ _ [ow 71 10 encTx okTx (.slice r0_a_67 r0_n_67 r0_c_67) D_67, gr inTx D_67, ow 71 10 encTx okTx (.slice r0_a_47 r0_n_47 r0_c_47) D_47, gr inTx D_47, ow 71 10 encTx okTx (.slice r0_a_38 r0_n_38 r0_c_38) D_38, gr inTx D_38, bx b1 [.string aJ.text, .int .i64 aJ.sure] 24] _ := At.frame T60.at' [] rfl m67
     obtain ⟨lo67_0, lp67_0, lq67_0⟩ := At.ownInv S67.at' ET_39.hk 0 rfl
     clear m67
     refine l_op (f_call F68 CF_20 rfl rfl rfl rfl (lc (F68.ev 37 rfl) (lc (F68.ev 39 rfl) rfl)) (laws_eqTxS_c (H := fun _ => True) (a := D_47) (b := D_67) (At.rd S67.at' ET_39.hk 2 rfl) (At.nrd S67.at' 3 rfl) (At.rd S67.at' ET_39.hk 0 rfl) (At.nrd S67.at' 1 rfl) (by exact (same2 (by assumption) (by assumption)))) ?_)
     rintro _ w69 ⟨rfl, m69⟩
     refine ⟨_, rfl, fun _ F70 => ?_⟩
     have S69 := At.frame0 S67.at' m69
     clear m69
     refine l_op (f_val F70 rfl rfl (r_not rfl (F70.ev 40 rfl)) rfl fun _ F71 => ?_)
     have F72 : Fr 42 [(41, .bool false)] _ := F71.cut rfl
     clear F64 F65 F66 F68 F70 F71
     have T73 : Mv _ _ [ow 71 10 encTx okTx (.slice r0_a_67 r0_n_67 r0_c_67) D_67, gr inTx D_67, ow 71 10 encTx okTx (.slice r0_a_47 r0_n_47 r0_c_47) D_47, gr inTx D_47, ow 71 10 encTx okTx (.slice r0_a_38 r0_n_38 r0_c_38) D_38, gr inTx D_38, bx b1 [.string aJ.text, .int .i64 aJ.sure] 24] _ := S69
     refine s_end (x_normal (wp_cond_false (F72.ev 41 rfl) (wp_skip (x_normal (wp_seq (wp_region_lit (l_op (f_val F72 rfl rfl (r_assign rfl rfl) rfl fun _ F74 => ?_))))))))
     have F75 : Fr 42 [(6, .bool true)] _ := F74.cut rfl
     clear F72 F74
     refine s_end (x_normal (wp_ret ?_))
     refine x_done (v := .bool true) F75 (results_1 Try.results7 (.tmp (F75.ev 6 rfl))) ?_
     exact ⟨rfl, (Mv.pick (T5.trans (T14.trans (T27.trans (S35.trans (S38.trans (T45.trans (S47.trans (S52.trans (T60.trans (S67.trans T73)))))))))) [] rfl)⟩
end Go.Proofs.Ytgfilegkabbliaa
namespace Go.Proofs.Ytgfilegkabbliaa.maylay
open Go.ChangeShapes Go.WideShapes Go.ChangeAt Go.RowKit
set_option maxRecDepth 100000
theorem cells_3 : Try.prog.cellsOf 3 = 1 := by kernel_rfl
theorem cells_9 : Try.prog.cellsOf 9 = 1 := by kernel_rfl
theorem cells_24 : Try.prog.cellsOf 24 = 2 := by kernel_rfl
theorem cells_53 : Try.prog.cellsOf 53 = 1 := by kernel_rfl
theorem cells_62 : Try.prog.cellsOf 62 = 1 := by kernel_rfl
theorem cells_89 : Try.prog.cellsOf 89 = 1 := by kernel_rfl
theorem cells_90 : Try.prog.cellsOf 90 = 1 := by kernel_rfl
theorem cells_91 : Try.prog.cellsOf 91 = 2 := by kernel_rfl
theorem cells_93 : Try.prog.cellsOf 93 = 10 := by kernel_rfl
theorem cells_173 : Try.prog.cellsOf 173 = 6 := by kernel_rfl
theorem cells_175 : Try.prog.cellsOf 175 = 3 := by kernel_rfl
theorem called (W : World) (args : Array Value) (h : ArgsRead Try.prog W Try.f7.params.toList args.toList) : Calls Try.prog 7 args W fun e W' => e = .returned (.bool true) ∧ Bl W W' := by
  obtain ⟨hl, h⟩ := h
  rw [Try.params7] at hl h
  obtain ⟨v0, v1, v2, rfl⟩ : ∃ v0 v1 v2, args = #[v0, v1, v2] := by
    obtain ⟨l⟩ := args
    match l, hl with
    | [v0, v1, v2], _ => exact ⟨v0, v1, v2, rfl⟩
  obtain ⟨r0, o0⟩ := h 0 _ v0 rfl rfl
  obtain ⟨cs0, rfl, hcs0⟩ := agg_of_okWide Try.underlying24 o0
  rw [hcs0] at r0
  have hlen0 := (r0.struct Try.underlying24).1
  rw [cells_24] at hlen0
  obtain ⟨c0_0, c0_1, rfl⟩ : ∃ c0_0 c0_1, cs0 = [c0_0, c0_1] := by
    match cs0, hlen0 with
    | [c0_0, c0_1], _ => exact ⟨c0_0, c0_1, rfl⟩
  obtain ⟨_, hf_0⟩ := r0.struct Try.underlying24
  have f_0_0 : Reads Try.prog W 9 [c0_0] := by simpa [cells_9] using hf_0 0 _ rfl
  obtain ⟨s_0_0, e_0_0, h_0_0⟩ := f_0_0.string Try.underlying9
  cases e_0_0
  have f_0_1 : Reads Try.prog W 3 [c0_1] := by simpa [cells_3] using hf_0 1 _ rfl
  obtain ⟨i_0_1, e_0_1, h_0_1, g_0_1⟩ := f_0_1.i64 Try.underlying3
  cases e_0_1
  obtain ⟨r1, o1⟩ := h 1 _ v1 rfl rfl
  have q1 := reads_one Try.underlying36 trivial o1 r1
  have row_1 : ∀ row, row.length = 10 → Reads Try.prog W 93 row → ∃ x, row = encTx x ∧ okTx x ∧ ∀ I ∈ inTx x, I.ra (fun _ => True) W := by
    intro row hl hr_1
    match row, hl with
    | [q_1_0, q_1_1, q_1_2, q_1_3, q_1_4, q_1_5, q_1_6, q_1_7, q_1_8, q_1_9], _ =>
      obtain ⟨_, hf_1e⟩ := hr_1.struct Try.underlying93
      have f_1e_0 : Reads Try.prog W 3 [q_1_0] := by simpa [cells_3] using hf_1e 0 _ rfl
      obtain ⟨i_1e_0, e_1e_0, h_1e_0, g_1e_0⟩ := f_1e_0.i64 Try.underlying3
      cases e_1e_0
      have f_1e_1 : Reads Try.prog W 3 [q_1_1] := by simpa [cells_3] using hf_1e 1 _ rfl
      obtain ⟨i_1e_1, e_1e_1, h_1e_1, g_1e_1⟩ := f_1e_1.i64 Try.underlying3
      cases e_1e_1
      have f_1e_2 : Reads Try.prog W 3 [q_1_2] := by simpa [cells_3] using hf_1e 2 _ rfl
      obtain ⟨i_1e_2, e_1e_2, h_1e_2, g_1e_2⟩ := f_1e_2.i64 Try.underlying3
      cases e_1e_2
      have f_1e_3 : Reads Try.prog W 3 [q_1_3] := by simpa [cells_3] using hf_1e 3 _ rfl
      obtain ⟨i_1e_3, e_1e_3, h_1e_3, g_1e_3⟩ := f_1e_3.i64 Try.underlying3
      cases e_1e_3
      have f_1e_4 : Reads Try.prog W 89 [q_1_4] := by simpa [cells_89] using hf_1e 4 _ rfl
      obtain ⟨a_1e_4, n_1e_4, c_1e_4, l_1e_4, e_1e_4, v_1e_4⟩ := rdA_of Try.underlying89 cells_173 (by decide) (call_row Try.underlying173 rfl rfl rfl rfl rfl rfl rfl rfl rfl rfl rfl rfl cells_3 cells_9 cells_9 cells_3 cells_3 cells_9 Try.underlying3 Try.underlying9 Try.underlying9 Try.underlying3 Try.underlying3 Try.underlying9) f_1e_4
      cases e_1e_4
      have f_1e_5 : Reads Try.prog W 90 [q_1_5] := by simpa [cells_90] using hf_1e 5 _ rfl
      obtain ⟨a_1e_5, n_1e_5, c_1e_5, l_1e_5, e_1e_5, v_1e_5⟩ := rdA_of Try.underlying90 cells_175 (by decide) (ans_row Try.underlying175 rfl rfl rfl rfl rfl rfl cells_3 cells_3 cells_9 Try.underlying3 Try.underlying3 Try.underlying9) f_1e_5
      cases e_1e_5
      have f_1e_6 : Reads Try.prog W 91 [q_1_6, q_1_7] := by simpa [cells_91] using hf_1e 6 _ rfl
      obtain ⟨_, hf_1e_6⟩ := f_1e_6.struct Try.underlying91
      have f_1e_6_0 : Reads Try.prog W 62 [q_1_6] := by simpa [cells_62] using hf_1e_6 0 _ rfl
      obtain ⟨a_1e_6_0, n_1e_6_0, c_1e_6_0, l_1e_6_0, e_1e_6_0, v_1e_6_0⟩ := rdA_of Try.underlying62 cells_9 (by decide) (str_row Try.underlying9) f_1e_6_0
      cases e_1e_6_0
      have f_1e_6_1 : Reads Try.prog W 62 [q_1_7] := by simpa [cells_62] using hf_1e_6 1 _ rfl
      obtain ⟨a_1e_6_1, n_1e_6_1, c_1e_6_1, l_1e_6_1, e_1e_6_1, v_1e_6_1⟩ := rdA_of Try.underlying62 cells_9 (by decide) (str_row Try.underlying9) f_1e_6_1
      cases e_1e_6_1
      have f_1e_7 : Reads Try.prog W 53 [q_1_8] := by simpa [cells_53] using hf_1e 7 _ rfl
      obtain ⟨a_1e_7, n_1e_7, c_1e_7, l_1e_7, e_1e_7, v_1e_7⟩ := rdA_of Try.underlying53 cells_3 (by decide) (int_row Try.underlying3) f_1e_7
      cases e_1e_7
      have f_1e_8 : Reads Try.prog W 3 [q_1_9] := by simpa [cells_3] using hf_1e 8 _ rfl
      obtain ⟨i_1e_8, e_1e_8, h_1e_8, g_1e_8⟩ := f_1e_8.i64 Try.underlying3
      cases e_1e_8
      refine ⟨(⟨(⟨i_1e_0, i_1e_1, i_1e_2, i_1e_3, l_1e_4, l_1e_5, (⟨l_1e_6_0, l_1e_6_1⟩ : TouchD), l_1e_7, i_1e_8⟩ : TxD), a_1e_4, n_1e_4, c_1e_4, a_1e_5, n_1e_5, c_1e_5, a_1e_6_0, n_1e_6_0, c_1e_6_0, a_1e_6_1, n_1e_6_1, c_1e_6_1, a_1e_7, n_1e_7, c_1e_7⟩ : TxH), rfl, ⟨⟨h_1e_0, g_1e_0⟩, ⟨h_1e_1, g_1e_1⟩, ⟨h_1e_2, g_1e_2⟩, ⟨h_1e_3, g_1e_3⟩, ⟨h_1e_8, g_1e_8⟩⟩, fun I hI => ?_⟩
      simp only [inTx, List.mem_cons, List.not_mem_nil, or_false] at hI
      rcases hI with rfl | rfl | rfl | rfl | rfl
      · exact v_1e_4
      · exact v_1e_5
      · exact v_1e_6_0
      · exact v_1e_6_1
      · exact v_1e_7
  obtain ⟨a_1, n_1, c_1, l_1, e_1, v_1, u_1⟩ := rdN_of (inns := inTx) Try.underlying36 cells_93 (by decide) row_1 q1
  cases e_1
  obtain ⟨r2, o2⟩ := h 2 _ v2 rfl rfl
  have q2 := reads_one Try.underlying3 trivial o2 r2
  obtain ⟨i_2, e_2, h_2, g_2⟩ := q2.i64 Try.underlying3
  cases e_2
  exact (laws_FnExactMayLay_c (w := W) (H := fun _ => True) (aJ := (⟨s_0_0, i_0_1⟩ : JouD)) (aList := l_1) (aN := i_2) (maxLen_le h_0_0) ⟨h_0_1, g_0_1⟩ v_1 u_1 ⟨h_2, g_2⟩).mono fun e W' ⟨h1, h2⟩ => ⟨h1, h2.bl⟩
theorem own : ownKnob Try.prog.godebug = none := by kernel_rfl
theorem laidOut : laidOutB Try.prog = true := by kernel_rfl
theorem readable : ∀ t ∈ Try.f7.params.toList, Try.prog.readableRec t = true ∧ t < Try.prog.types.size := of_decide_eq_true (by kernel_rfl)
theorem lifted (os : Os) (started : os.Started) (H : Type) (enc : TypeId × Value → H) :
    ReturnsInHanded {} Try.checked os 7 .any (Rows.fnExactMayLaySpec.pre6 enc Try.prog Try.f7 Rows.fnExactMayLayRow.domain false) (Rows.fnExactMayLaySpec.post enc Try.prog Try.f7 false true false false) := by
  refine returnsInHanded_of_change (C := Try.checked) own started (by kernel_rfl) Try.func7
    (ChangeSpec.witness6 (enc := enc) (C := Try.checked) false ⟨#[], #[.agg #[.string (⟨#[]⟩ : ByteArray), .int .i64 0], .slice none 0 0, .int .i64 0], []⟩ 8 (by kernel_rfl) (by kernel_rfl) (by kernel_rfl) (by kernel_rfl)) ?_
  intro W base args ds gs before hval hW _ _
  refine law_contract laidOut readable Try.underlying4 rfl rfl ?_ called H enc false true false false W args ds gs before hval hW
  intro H ds hd
  match ds, hd with
  | [a, b, c], _ => rfl
theorem proved : Rows.FnExactMayLaySaid :=
  OpenClaim.holds_of_wide 7 Try.f7 rfl rfl rfl rfl rfl rfl rfl ⟨rfl, rfl, rfl, rfl, rfl⟩ rfl rfl rfl rfl rfl (by kernel_rfl) Try.func7 (by kernel_rfl)
    (of_decide_eq_true (by kernel_rfl)) (by unfold Func.isWrapper; first | (rw [if_pos (by decide +kernel)]; kernel_rfl) | (rw [if_neg (by decide +kernel)]; exact ⟨rfl, rfl⟩))
    (fun os started H enc _ => lifted os started H enc)
end Go.Proofs.Ytgfilegkabbliaa.maylay
