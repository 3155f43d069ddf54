/-
  PROVED HERE: whatever the input, the statement laws.FnExactFoldEnd returns true: the program's FoldEnd and the reference's give equal results and alter nothing of their arguments. No condition.
-/
import Derived.Test.YtgfilegkabbliaaGenNsa
import Derived.Test.YtgfilegkabbliaaGenNsg
import Derived.Test.YtgfilegkabbliaaLawN
import Derived.Test.YtgfilegkabbliaaGenFp
namespace Go.Proofs.Ytgfilegkabbliaa
open Go.ChangeShapes Go.WideShapes Go.ChangeAt Go.RowKit
set_option maxRecDepth 100000
set_option maxHeartbeats 1000000
theorem laws_FnExactFoldEnd_c {w : World} {H : Nat → Prop} {aD : DiskH} {aD_slots_a : Option Addr} {aD_slots_n aD_slots_c : Nat} (v_aD_slots : RdA 3 encSlot okSlot H w (.slice aD_slots_a aD_slots_n aD_slots_c) aD.slots) (u_aD_slots : NRa inSlot H w aD.slots) (h_aD_journal_text : okS aD.journal.text) (h_aD_journal_sure : i64ok aD.journal.sure) :
    Calls Try.prog 6 #[.agg #[.slice aD_slots_a aD_slots_n aD_slots_c, .string aD.journal.text, .int .i64 aD.journal.sure]] w fun e w' => e = .returned (.bool true) ∧ Mv [] w [] w' := by
 have uU : True := (fun _ => trivial) h_aD_journal_sure
 clear uU
 have V_v_aD_slots : RdA 3 encSlot okSlot (V H w []) w (.slice aD_slots_a aD_slots_n aD_slots_c) aD.slots := RdA.start v_aD_slots (fun _ _ => fps_nil _)
 obtain ⟨ln_aD_slots, le_aD_slots, mx_aD_slots, ni_aD_slots⟩ := RdA.inv v_aD_slots
 have V_u_aD_slots : NRa inSlot (V H w []) w aD.slots := NRa.start u_aD_slots (fun _ _ => fps_nil _)
 refine calls_enter 96 Try.func6 rfl Try.ntmps6 (Nat.le_of_ble_eq_true rfl) (fun _ F0i => ?_)
 have F0 : Fr 96 [(0, .agg #[.slice aD_slots_a aD_slots_n aD_slots_c, .string aD.journal.text, .int .i64 aD.journal.sure])] _ := F0i
 clear F0i
 refine wp_seq (wp_region_lit (l_op (f_box F0 (At.nil w) rfl rfl rfl (F0.ev 0 rfl) rfl rfl fun b1 _ w1 F2 S1 => ?_)))
 refine l_op (f_val F2 rfl rfl (r_assign rfl rfl) rfl fun _ F3 => ?_)
 have F4 : Fr 96 [(2, .bool false), (1, .pointer (some ⟨b1, 0, none⟩))] _ := F3.cut rfl
 clear F0 F2 F3
 have T5 : Mv _ _ [bx b1 [.slice aD_slots_a aD_slots_n aD_slots_c, .string aD.journal.text, .int .i64 aD.journal.sure] 26] _ := S1
 refine s_end (x_normal (wp_seq (wp_region_lit (l_op (f_val F4 rfl rfl (r_assign rfl rfl) rfl fun _ F6 => ?_)))))
 have F7 : Fr 96 [(3, .int .i64 1048576), (1, .pointer (some ⟨b1, 0, none⟩))] _ := F6.cut rfl
 clear F4 F6
 refine s_end (x_normal (wp_seq (wp_region_lit (l_op (f_val (v := .agg #[.slice aD_slots_a aD_slots_n aD_slots_c, .string aD.journal.text, .int .i64 aD.journal.sure]) F7 rfl rfl (r_loadB T5.at' 0 TI_26 rfl rfl (F7.ev 1 rfl) rfl rfl (fun h => nomatch h) rfl) rfl fun _ F8 => ?_)))))
 refine l_op (f_mv F8 rfl rfl rfl rfl rfl fun _ F9 => ?_)
 refine l_op (f_call F9 CF_11 rfl rfl rfl rfl (lc (F9.ev 14 rfl) (lc (F9.ev 15 rfl) rfl)) (laws_szDisk_c (a := aD) (left := 1048576) (RdA.mv (Nat.succ_pos _) V_v_aD_slots T5) (NRa.mv V_u_aD_slots T5) h_aD_journal_text (by first | assumption | exact ⟨by omega, by omega⟩ | (unfold i64ok at *; omega) | (simp only [i64ok]; omega)) (by first | assumption | exact ⟨by omega, by omega⟩ | (unfold i64ok at *; omega)) (by first | assumption | omega | (simp <;> omega)) (by first | assumption | omega | (simp <;> omega))) ?_)
 rintro _ w10 ⟨rfl, m10, q10_0⟩
 refine ⟨_, rfl, fun _ F11 => ?_⟩
 have S10 := At.frame0 T5.at' m10
 clear m10
 refine l_op (f_as F11 rfl rfl rfl rfl rfl fun _ F12 => ?_)
 have F13 : Fr 96 [(3, .int .i64 (subOr 1048576 (szDiskH aD))), (1, .pointer (some ⟨b1, 0, none⟩))] _ := F12.cut rfl
 clear F7 F8 F9 F11 F12
 have T14 : Mv _ _ [bx b1 [.slice aD_slots_a aD_slots_n aD_slots_c, .string aD.journal.text, .int .i64 aD.journal.sure] 26] _ := S10
 refine s_end (x_normal (wp_seq (wp_seq (wp_region_lit (l_op (f_mv F13 rfl rfl rfl rfl rfl fun _ F15 => ?_))))))
 refine l_op (f_val F15 rfl rfl (r_cmp (b := decide ((subOr 1048576 (szDiskH aD)) < 0)) (.inr (.inr (.inl rfl))) rfl (F15.ev 17 rfl) rfl (dec_of (by omega))) rfl fun _ F16 => ?_)
 have F17 : Fr 96 [(18, .bool (decide ((subOr 1048576 (szDiskH aD)) < 0))), (1, .pointer (some ⟨b1, 0, none⟩))] _ := F16.cut rfl
 clear F13 F15 F16
 refine s_end (x_normal (x_cond (p := (subOr 1048576 (szDiskH aD)) < 0) (F17.ev 18 rfl) (fun h18 => ?_) (fun h18 => ?_)))
 · skip
   refine wp_seq (wp_region_lit (l_op (f_val F17 rfl rfl (r_assign rfl rfl) rfl fun _ F19 => ?_)))
   have F20 : Fr 96 [(2, .bool true)] _ := F19.cut rfl
   clear F17 F19
   refine s_end (x_normal (wp_ret (x_then_ret ?_)))
   refine x_done (v := .bool true) F20 (results_1 Try.results6 (.tmp (F20.ev 2 rfl))) ?_
   exact ⟨rfl, (Mv.pick (T5.trans T14) [] rfl)⟩
 · skip
   refine wp_skip (x_normal (wp_seq ?_))
   have hfit := (diskFits (d := aD) (n := 1048576) (z := 1048576) (by decide) (by assumption)).1
   have hc := hfit.cnt
   have hcd := (foldL_fit (j := aD.journal) hfit).cnt
   refine wp_region_lit (l_op (f_val (v := .agg #[.slice aD_slots_a aD_slots_n aD_slots_c, .string aD.journal.text, .int .i64 aD.journal.sure]) F17 rfl rfl (r_loadB T14.at' 0 TI_26 rfl rfl (F17.ev 1 rfl) rfl rfl (fun h => nomatch h) rfl) rfl fun _ F21 => ?_))
   refine l_op (f_call F21 CF_13 rfl rfl rfl rfl (lc (F21.ev 20 rfl) rfl) (laws_toDisk_c (a := aD) (RdA.mv (Nat.succ_pos _) V_v_aD_slots (T5.trans T14)) (NRa.mv V_u_aD_slots (T5.trans T14)) h_aD_journal_text (by first | assumption | exact ⟨by omega, by omega⟩ | (unfold i64ok at *; omega) | (simp only [i64ok]; omega)) (by exact hfit)) ?_)
   rintro _ w22 ⟨D_22, r0_slots_a_22, r0_slots_n_22, r0_slots_c_22, rfl, m22, ok_r0_journal_text_22, q22_0, q22_1, q22_2⟩
   refine ⟨_, rfl, fun _ F23 => ?_⟩
   have S22 : Mv _ _ [ow 99 3 encSlot okSlot (.slice r0_slots_a_22 r0_slots_n_22 r0_slots_c_22) D_22, gr inSlot D_22, bx b1 [.slice aD_slots_a aD_slots_n aD_slots_c, .string aD.journal.text, .int .i64 aD.journal.sure] 26] _ := At.frame T14.at' [] rfl m22
   obtain ⟨lo22_0, lp22_0, lq22_0⟩ := At.ownInv S22.at' ET_29.hk 0 rfl
   clear m22
   refine l_op (f_call F23 CF_23 rfl rfl rfl rfl (lc (F23.ev 21 rfl) rfl) (spec_FoldEnd_c (H := fun _ => True) (L := (aD.slots.map SlotH.d)) (d := (⟨D_22, aD.journal⟩ : DiskH)) (At.rd S22.at' ET_29.hk 0 rfl) (At.nrd S22.at' 1 rfl) ok_r0_journal_text_22 (by first | assumption | exact ⟨by omega, by omega⟩ | (unfold i64ok at *; omega) | (simp only [i64ok]; omega)) (by assumption) (by exact hfit)) ?_)
   rintro _ w24 ⟨D_24, r0_slots_a_24, r0_slots_n_24, r0_slots_c_24, rfl, m24, ok_r0_journal_text_24, q24_0, q24_1⟩
   refine ⟨_, rfl, fun _ F25 => ?_⟩
   have S24 : Mv _ _ [ow 99 3 encSlot okSlot (.slice r0_slots_a_24 r0_slots_n_24 r0_slots_c_24) D_24, gr inSlot D_24, ow 99 3 encSlot okSlot (.slice r0_slots_a_22 r0_slots_n_22 r0_slots_c_22) D_22, gr inSlot D_22, bx b1 [.slice aD_slots_a aD_slots_n aD_slots_c, .string aD.journal.text, .int .i64 aD.journal.sure] 26] _ := At.frame S22.at' [] rfl m24
   obtain ⟨lo24_0, lp24_0, lq24_0⟩ := At.ownInv S24.at' ET_29.hk 0 rfl
   clear m24
   refine l_op (f_mv F25 rfl rfl rfl rfl rfl fun _ F26 => ?_)
   refine l_op (f_val (v := .agg #[.slice r0_slots_a_24 r0_slots_n_24 r0_slots_c_24, .string aD.journal.text, .int .i64 aD.journal.sure]) F26 rfl rfl (r_extract rfl (F26.ev 19 rfl) rfl) rfl fun _ F27 => ?_)
   refine l_op (f_val (v := .bool (foldOk (aD.slots.map SlotH.d) aD.journal)) F27 rfl rfl (r_extract rfl (F27.ev 19 rfl) rfl) rfl fun _ F28 => ?_)
   refine l_op (f_alloc F28 S24.at' ZI_32 rfl rfl rfl rfl rfl fun b29 _ w29 F30 S29 => ?_)
   refine l_op (s_store S29.at' 0 TI_32 rfl rfl rfl rfl rfl (F30.ev 4 rfl) (F30.ev 23 rfl) rfl rfl rfl rfl rfl fun w31 S31 => ?_)
   refine l_op (f_as F30 rfl rfl rfl rfl rfl fun _ F32 => ?_)
   have F33 : Fr 96 [(5, .bool (foldOk (aD.slots.map SlotH.d) aD.journal)), (4, .pointer (some ⟨b29, 0, none⟩)), (1, .pointer (some ⟨b1, 0, none⟩))] _ := F32.cut rfl
   clear F17 F21 F23 F25 F26 F27 F28 F30 F32
   have T34 : Mv _ _ [bx b29 [.slice r0_slots_a_24 r0_slots_n_24 r0_slots_c_24, .string aD.journal.text, .int .i64 aD.journal.sure] 32, ow 99 3 encSlot okSlot (.slice r0_slots_a_24 r0_slots_n_24 r0_slots_c_24) D_24, gr inSlot D_24, ow 99 3 encSlot okSlot (.slice r0_slots_a_22 r0_slots_n_22 r0_slots_c_22) D_22, gr inSlot D_22, bx b1 [.slice aD_slots_a aD_slots_n aD_slots_c, .string aD.journal.text, .int .i64 aD.journal.sure] 26] _ := S31
   refine s_end (x_normal (wp_seq (wp_region_lit (l_op (f_val (v := .agg #[.slice aD_slots_a aD_slots_n aD_slots_c, .string aD.journal.text, .int .i64 aD.journal.sure]) F33 rfl rfl (r_loadB T34.at' 5 TI_26 rfl rfl (F33.ev 1 rfl) rfl rfl (fun h => nomatch h) rfl) rfl fun _ F35 => ?_)))))
   refine l_op (f_call F35 CF_13 rfl rfl rfl rfl (lc (F35.ev 25 rfl) rfl) (laws_toDisk_c (a := aD) (RdA.mv (Nat.succ_pos _) V_v_aD_slots (T5.trans (T14.trans (S22.trans (S24.trans (S29.trans T34)))))) (NRa.mv V_u_aD_slots (T5.trans (T14.trans (S22.trans (S24.trans (S29.trans T34)))))) h_aD_journal_text (by first | assumption | exact ⟨by omega, by omega⟩ | (unfold i64ok at *; omega) | (simp only [i64ok]; omega)) (by exact hfit)) ?_)
   rintro _ w36 ⟨D_36, r0_slots_a_36, r0_slots_n_36, r0_slots_c_36, rfl, m36, ok_r0_journal_text_36, q36_0, q36_1, q36_2⟩
   refine ⟨_, rfl, fun _ F37 => ?_⟩
   have S36 : Mv _ _ [ow 99 3 encSlot okSlot (.slice r0_slots_a_36 r0_slots_n_36 r0_slots_c_36) D_36, gr inSlot D_36, bx b29 [.slice r0_slots_a_24 r0_slots_n_24 r0_slots_c_24, .string aD.journal.text, .int .i64 aD.journal.sure] 32, ow 99 3 encSlot okSlot (.slice r0_slots_a_24 r0_slots_n_24 r0_slots_c_24) D_24, gr inSlot D_24, ow 99 3 encSlot okSlot (.slice r0_slots_a_22 r0_slots_n_22 r0_slots_c_22) D_22, gr inSlot D_22, bx b1 [.slice aD_slots_a aD_slots_n aD_slots_c, .string aD.journal.text, .int .i64 aD.journal.sure] 26] _ := At.frame T34.at' [] rfl m36
   obtain ⟨lo36_0, lp36_0, lq36_0⟩ := At.ownInv S36.at' ET_29.hk 0 rfl
   clear m36
   refine l_op (f_alloc F37 S36.at' ZI_32 rfl rfl rfl rfl rfl fun b38 _ w38 F39 S38 => ?_)
   refine l_op (s_store S38.at' 0 TI_32 rfl rfl rfl rfl rfl (F39.ev 6 rfl) (F39.ev 26 rfl) rfl rfl rfl rfl rfl fun w40 S40 => ?_)
   have F41 : Fr 96 [(6, .pointer (some ⟨b38, 0, none⟩)), (26, .agg #[.slice r0_slots_a_36 r0_slots_n_36 r0_slots_c_36, .string aD.journal.text, .int .i64 aD.journal.sure]), (5, .bool (foldOk (aD.slots.map SlotH.d) aD.journal)), (4, .pointer (some ⟨b29, 0, none⟩)), (1, .pointer (some ⟨b1, 0, none⟩))] _ := F39.cut rfl
   clear F33 F35 F37 F39
   have T42 : Mv _ _ [bx b38 [.slice r0_slots_a_36 r0_slots_n_36 r0_slots_c_36, .string aD.journal.text, .int .i64 aD.journal.sure] 32, ow 99 3 encSlot okSlot (.slice r0_slots_a_36 r0_slots_n_36 r0_slots_c_36) D_36, gr inSlot D_36, bx b29 [.slice r0_slots_a_24 r0_slots_n_24 r0_slots_c_24, .string aD.journal.text, .int .i64 aD.journal.sure] 32, ow 99 3 encSlot okSlot (.slice r0_slots_a_24 r0_slots_n_24 r0_slots_c_24) D_24, gr inSlot D_24, ow 99 3 encSlot okSlot (.slice r0_slots_a_22 r0_slots_n_22 r0_slots_c_22) D_22, gr inSlot D_22, bx b1 [.slice aD_slots_a aD_slots_n aD_slots_c, .string aD.journal.text, .int .i64 aD.journal.sure] 26] _ := S40
   refine s_end (x_normal (wp_seq (wp_region_lit (l_op (f_val (v := .agg #[.slice r0_slots_a_36 r0_slots_n_36 r0_slots_c_36, .string aD.journal.text, .int .i64 aD.journal.sure]) F41 rfl rfl (r_loadB T42.at' 0 TI_32 rfl rfl (F41.ev 6 rfl) rfl rfl (fun h => nomatch h) rfl) rfl fun _ F43 => ?_)))))
   refine l_op (f_call F43 CF_24 rfl rfl rfl rfl (lc (F43.ev 28 rfl) rfl) (impl_FoldEnd_c (H := fun _ => True) (L := (aD.slots.map SlotH.d)) (d := (⟨D_36, aD.journal⟩ : DiskH)) (At.rd T42.at' ET_29.hk 1 rfl) (At.nrd T42.at' 2 rfl) ok_r0_journal_text_36 (by first | assumption | exact ⟨by omega, by omega⟩ | (unfold i64ok at *; omega) | (simp only [i64ok]; omega)) (by assumption) (by exact hfit)) ?_)
   rintro _ w44 ⟨D_44, r0_slots_a_44, r0_slots_n_44, r0_slots_c_44, rfl, m44, ok_r0_journal_text_44, q44_0, q44_1⟩
   refine ⟨_, rfl, fun _ F45 => ?_⟩
   have S44 : Mv _ _ [ow 99 3 encSlot okSlot (.slice r0_slots_a_44 r0_slots_n_44 r0_slots_c_44) D_44, gr inSlot D_44, bx b38 [.slice r0_slots_a_36 r0_slots_n_36 r0_slots_c_36, .string aD.journal.text, .int .i64 aD.journal.sure] 32, ow 99 3 encSlot okSlot (.slice r0_slots_a_36 r0_slots_n_36 r0_slots_c_36) D_36, gr inSlot D_36, bx b29 [.slice r0_slots_a_24 r0_slots_n_24 r0_slots_c_24, .string aD.journal.text, .int .i64 aD.journal.sure] 32, ow 99 3 encSlot okSlot (.slice r0_slots_a_24 r0_slots_n_24 r0_slots_c_24) D_24, gr inSlot D_24, ow 99 3 encSlot okSlot (.slice r0_slots_a_22 r0_slots_n_22 r0_slots_c_22) D_22, gr inSlot D_22, bx b1 [.slice aD_slots_a aD_slots_n aD_slots_c, .string aD.journal.text, .int .i64 aD.journal.sure] 26] _ := At.frame T42.at' [] rfl m44
   obtain ⟨lo44_0, lp44_0, lq44_0⟩ := At.ownInv S44.at' ET_29.hk 0 rfl
   clear m44
   refine l_op (f_mv F45 rfl rfl rfl rfl rfl fun _ F46 => ?_)
   refine l_op (f_val (v := .agg #[.slice r0_slots_a_44 r0_slots_n_44 r0_slots_c_44, .string aD.journal.text, .int .i64 aD.journal.sure]) F46 rfl rfl (r_extract rfl (F46.ev 27 rfl) rfl) rfl fun _ F47 => ?_)
   refine l_op (f_val (v := .bool (foldOk (aD.slots.map SlotH.d) aD.journal)) F47 rfl rfl (r_extract rfl (F47.ev 27 rfl) rfl) rfl fun _ F48 => ?_)
   refine l_op (f_alloc F48 S44.at' ZI_32 rfl rfl rfl rfl rfl fun b49 _ w49 F50 S49 => ?_)
   refine l_op (s_store S49.at' 0 TI_32 rfl rfl rfl rfl rfl (F50.ev 7 rfl) (F50.ev 30 rfl) rfl rfl rfl rfl rfl fun w51 S51 => ?_)
   refine l_op (f_as F50 rfl rfl rfl rfl rfl fun _ F52 => ?_)
   have F53 : Fr 96 [(8, .bool (foldOk (aD.slots.map SlotH.d) aD.journal)), (7, .pointer (some ⟨b49, 0, none⟩)), (6, .pointer (some ⟨b38, 0, none⟩)), (5, .bool (foldOk (aD.slots.map SlotH.d) aD.journal)), (4, .pointer (some ⟨b29, 0, none⟩)), (1, .pointer (some ⟨b1, 0, none⟩))] _ := F52.cut rfl
   clear F41 F43 F45 F46 F47 F48 F50 F52
   have T54 : Mv _ _ [bx b49 [.slice r0_slots_a_44 r0_slots_n_44 r0_slots_c_44, .string aD.journal.text, .int .i64 aD.journal.sure] 32, ow 99 3 encSlot okSlot (.slice r0_slots_a_44 r0_slots_n_44 r0_slots_c_44) D_44, gr inSlot D_44, bx b38 [.slice r0_slots_a_36 r0_slots_n_36 r0_slots_c_36, .string aD.journal.text, .int .i64 aD.journal.sure] 32, ow 99 3 encSlot okSlot (.slice r0_slots_a_36 r0_slots_n_36 r0_slots_c_36) D_36, gr inSlot D_36, bx b29 [.slice r0_slots_a_24 r0_slots_n_24 r0_slots_c_24, .string aD.journal.text, .int .i64 aD.journal.sure] 32, ow 99 3 encSlot okSlot (.slice r0_slots_a_24 r0_slots_n_24 r0_slots_c_24) D_24, gr inSlot D_24, ow 99 3 encSlot okSlot (.slice r0_slots_a_22 r0_slots_n_22 r0_slots_c_22) D_22, gr inSlot D_22, bx b1 [.slice aD_slots_a aD_slots_n aD_slots_c, .string aD.journal.text, .int .i64 aD.journal.sure] 26] _ := S51
   refine s_end (x_normal (wp_seq (wp_seq (wp_region_lit (l_op (f_val (v := .agg #[.slice r0_slots_a_44 r0_slots_n_44 r0_slots_c_44, .string aD.journal.text, .int .i64 aD.journal.sure]) F53 rfl rfl (r_loadB T54.at' 0 TI_32 rfl rfl (F53.ev 7 rfl) rfl rfl (fun h => nomatch h) rfl) rfl fun _ F55 => ?_))))))
   refine l_op (f_val (v := .agg #[.slice r0_slots_a_24 r0_slots_n_24 r0_slots_c_24, .string aD.journal.text, .int .i64 aD.journal.sure]) F55 rfl rfl (r_loadB T54.at' 6 TI_32 rfl rfl (F55.ev 4 rfl) rfl rfl (fun h => nomatch h) rfl) rfl fun _ F56 => ?_)
   refine l_op (f_call F56 CF_15 rfl rfl rfl rfl (lc (F56.ev 32 rfl) (lc (F56.ev 33 rfl) rfl)) (laws_eqDisk_c (H := fun _ => True) (a := (⟨D_44, aD.journal⟩ : DiskH)) (b := (⟨D_24, aD.journal⟩ : DiskH)) (At.rd T54.at' ET_29.hk 1 rfl) (At.nrd T54.at' 2 rfl) ok_r0_journal_text_44 (by first | assumption | exact ⟨by omega, by omega⟩ | (unfold i64ok at *; omega) | (simp only [i64ok]; omega)) (At.rd T54.at' ET_29.hk 7 rfl) (At.nrd T54.at' 8 rfl) ok_r0_journal_text_24 (by first | assumption | exact ⟨by omega, by omega⟩ | (unfold i64ok at *; omega) | (simp only [i64ok]; omega)) (by exact (same2 (by assumption) (by assumption))) (by rfl)) ?_)
   rintro _ w57 ⟨rfl, m57⟩
   refine ⟨_, rfl, fun _ F58 => ?_⟩
   have S57 := At.frame0 T54.at' m57
   clear m57
   refine l_op (f_val F58 rfl rfl (r_not rfl (F58.ev 34 rfl)) rfl fun _ F59 => ?_)
   refine l_op (f_mv F59 rfl rfl rfl rfl rfl fun _ F60 => ?_)
   refine l_op (f_mv F60 (wanted_g F60 rfl rfl rfl rfl) rfl rfl rfl rfl fun _ F61 => ?_)
   refine l_op (f_mv F61 (wanted_g F61 rfl rfl rfl rfl) rfl rfl rfl rfl fun _ F62 => ?_)
   refine l_op (f_val F62 (wanted_g F62 rfl rfl rfl rfl) rfl (r_cmpb (b := false) Try.underlying4 (.inr rfl) rfl (F62.ev 37 rfl) (F62.ev 38 rfl) (cmpb_ne (show (foldOk (aD.slots.map SlotH.d) aD.journal) = (foldOk (aD.slots.map SlotH.d) aD.journal) from rfl))) rfl fun _ F63 => ?_)
   refine l_op (f_val F63 rfl rfl (r_pick (b := false) rfl (F63.ev 36 rfl) (F63.ev 39 rfl)) rfl fun _ F64 => ?_)
   have F65 : Fr 96 [(40, .bool false), (8, .bool (foldOk (aD.slots.map SlotH.d) aD.journal)), (7, .pointer (some ⟨b49, 0, none⟩)), (6, .pointer (some ⟨b38, 0, none⟩)), (5, .bool (foldOk (aD.slots.map SlotH.d) aD.journal)), (4, .pointer (some ⟨b29, 0, none⟩)), (1, .pointer (some ⟨b1, 0, none⟩))] _ := F64.cut rfl
   clear F53 F55 F56 F58 F59 F60 F61 F62 F63 F64
   have T66 : Mv _ _ [bx b49 [.slice r0_slots_a_44 r0_slots_n_44 r0_slots_c_44, .string aD.journal.text, .int .i64 aD.journal.sure] 32, ow 99 3 encSlot okSlot (.slice r0_slots_a_44 r0_slots_n_44 r0_slots_c_44) D_44, gr inSlot D_44, bx b38 [.slice r0_slots_a_36 r0_slots_n_36 r0_slots_c_36, .string aD.journal.text, .int .i64 aD.journal.sure] 32, ow 99 3 encSlot okSlot (.slice r0_slots_a_36 r0_slots_n_36 r0_slots_c_36) D_36, gr inSlot D_36, bx b29 [.slice r0_slots_a_24 r0_slots_n_24 r0_slots_c_24, .string aD.journal.text, .int .i64 aD.journal.sure] 32, ow 99 3 encSlot okSlot (.slice r0_slots_a_24 r0_slots_n_24 r0_slots_c_24) D_24, gr inSlot D_24, ow 99 3 encSlot okSlot (.slice r0_slots_a_22 r0_slots_n_22 r0_slots_c_22) D_22, gr inSlot D_22, bx b1 [.slice aD_slots_a aD_slots_n aD_slots_c, .string aD.journal.text, .int .i64 aD.journal.sure] 26] _ := S57
   refine s_end (x_normal (wp_cond_false (F65.ev 40 rfl) (wp_skip (x_normal (wp_seq (wp_seq ?_))))))
   refine x_draw (fun aZ wZ => ∃ (D_71 : List SlotH), ∃ (r0_slots_a_71 : Option Addr), ∃ (r0_slots_n_71 : Nat), ∃ (r0_slots_c_71 : Nat), Fr 96 [(1, .pointer (some ⟨b1, 0, none⟩)), (4, .pointer (some ⟨b29, 0, none⟩)), (5, .bool (foldOk (aD.slots.map SlotH.d) aD.journal)), (6, .pointer (some ⟨b38, 0, none⟩)), (7, .pointer (some ⟨b49, 0, none⟩)), (8, .bool (foldOk (aD.slots.map SlotH.d) aD.journal)), (45, .bool false)] aZ ∧ Mv [bx b49 [.slice r0_slots_a_44 r0_slots_n_44 r0_slots_c_44, .string aD.journal.text, .int .i64 aD.journal.sure] 32, ow 99 3 encSlot okSlot (.slice r0_slots_a_44 r0_slots_n_44 r0_slots_c_44) D_44, gr inSlot D_44, bx b38 [.slice r0_slots_a_36 r0_slots_n_36 r0_slots_c_36, .string aD.journal.text, .int .i64 aD.journal.sure] 32, ow 99 3 encSlot okSlot (.slice r0_slots_a_36 r0_slots_n_36 r0_slots_c_36) D_36, gr inSlot D_36, bx b29 [.slice r0_slots_a_24 r0_slots_n_24 r0_slots_c_24, .string aD.journal.text, .int .i64 aD.journal.sure] 32, ow 99 3 encSlot okSlot (.slice r0_slots_a_24 r0_slots_n_24 r0_slots_c_24) D_24, gr inSlot D_24, ow 99 3 encSlot okSlot (.slice r0_slots_a_22 r0_slots_n_22 r0_slots_c_22) D_22, gr inSlot D_22, bx b1 [.slice aD_slots_a aD_slots_n aD_slots_c, .string aD.journal.text, .int .i64 aD.journal.sure] 26] w57 [bx b49 [.slice r0_slots_a_44 r0_slots_n_44 r0_slots_c_44, .string aD.journal.text, .int .i64 aD.journal.sure] 32, ow 99 3 encSlot okSlot (.slice r0_slots_a_44 r0_slots_n_44 r0_slots_c_44) D_44, gr inSlot D_44, bx b38 [.slice r0_slots_a_36 r0_slots_n_36 r0_slots_c_36, .string aD.journal.text, .int .i64 aD.journal.sure] 32, ow 99 3 encSlot okSlot (.slice r0_slots_a_36 r0_slots_n_36 r0_slots_c_36) D_36, gr inSlot D_36, bx b29 [.slice r0_slots_a_24 r0_slots_n_24 r0_slots_c_24, .string aD.journal.text, .int .i64 aD.journal.sure] 32, ow 99 3 encSlot okSlot (.slice r0_slots_a_24 r0_slots_n_24 r0_slots_c_24) D_24, gr inSlot D_24, ow 99 3 encSlot okSlot (.slice r0_slots_a_22 r0_slots_n_22 r0_slots_c_22) D_22, gr inSlot D_22, bx b1 [.slice aD_slots_a aD_slots_n aD_slots_c, .string aD.journal.text, .int .i64 aD.journal.sure] 26, ow 99 3 encSlot okSlot (.slice r0_slots_a_71 r0_slots_n_71 r0_slots_c_71) D_71, gr inSlot D_71] wZ ∧ okS aD.journal.text ∧ (D_71.map SlotH.d = aD.slots.map SlotH.d) ∧ (D_71.length = aD.slots.length) ∧ (i64ok aD.journal.sure)) [bx b38 [.slice r0_slots_a_36 r0_slots_n_36 r0_slots_c_36, .string aD.journal.text, .int .i64 aD.journal.sure] 32, bx b1 [.slice aD_slots_a aD_slots_n aD_slots_c, .string aD.journal.text, .int .i64 aD.journal.sure] 26] mixed T66.at' (listed := #[false, false, false, false, false]) rfl (fun w68 S68 => ?_) [3, 11] rfl ?_
   · skip
     refine g_take (v := .agg #[.slice r0_slots_a_36 r0_slots_n_36 r0_slots_c_36, .string aD.journal.text, .int .i64 aD.journal.sure]) F65 rfl (i := 0) (listed' := #[true, false, false, false, false]) rfl (by kernel_rfl) (by kernel_rfl) (by kernel_rfl) (fun _ _ _ h => h) (Sd.of (Mv.refl S68.at') [3, 11] rfl) rfl rfl rfl rfl (fun _ hz => (r_loadX (hz.bx 0 rfl) TI_32 rfl (F65.ev 6 rfl) rfl rfl (fun h => nomatch h) rfl)) fun _ F69 => ?_
     refine g_take (v := .agg #[.slice aD_slots_a aD_slots_n aD_slots_c, .string aD.journal.text, .int .i64 aD.journal.sure]) F69 rfl (i := 1) (listed' := #[true, true, false, false, false]) rfl (by kernel_rfl) (by kernel_rfl) (by kernel_rfl) (fun _ _ _ h => h) (Sd.of (Mv.refl S68.at') [3, 11] rfl) rfl rfl rfl rfl (fun _ hz => (r_loadX (hz.bx 1 rfl) TI_26 rfl (F69.ev 1 rfl) rfl rfl (fun h => nomatch h) rfl)) fun _ F70 => ?_
     refine d_one (i := 2) (listed' := #[true, true, true, false, false]) rfl (by kernel_rfl) rfl rfl ?_
     refine f_call F70 CF_13 rfl rfl rfl rfl (lc (F70.ev 42 rfl) rfl) (laws_toDisk_c (a := aD) (RdA.mv (Nat.succ_pos _) V_v_aD_slots (T5.trans (T14.trans (S22.trans (S24.trans (S29.trans (T34.trans (S36.trans (S38.trans (T42.trans (S44.trans (S49.trans (T54.trans (T66.trans S68)))))))))))))) (NRa.mv V_u_aD_slots (T5.trans (T14.trans (S22.trans (S24.trans (S29.trans (T34.trans (S36.trans (S38.trans (T42.trans (S44.trans (S49.trans (T54.trans (T66.trans S68)))))))))))))) h_aD_journal_text (by first | assumption | exact ⟨by omega, by omega⟩ | (unfold i64ok at *; omega) | (simp only [i64ok]; omega)) (by exact hfit)) ?_
     rintro _ w71 ⟨D_71, r0_slots_a_71, r0_slots_n_71, r0_slots_c_71, rfl, m71, ok_r0_journal_text_71, q71_0, q71_1, q71_2⟩
     refine ⟨_, rfl, fun _ F72 => ?_⟩
     have S71 : Mv _ _ [ow 99 3 encSlot okSlot (.slice r0_slots_a_71 r0_slots_n_71 r0_slots_c_71) D_71, gr inSlot D_71, bx b49 [.slice r0_slots_a_44 r0_slots_n_44 r0_slots_c_44, .string aD.journal.text, .int .i64 aD.journal.sure] 32, ow 99 3 encSlot okSlot (.slice r0_slots_a_44 r0_slots_n_44 r0_slots_c_44) D_44, gr inSlot D_44, bx b38 [.slice r0_slots_a_36 r0_slots_n_36 r0_slots_c_36, .string aD.journal.text, .int .i64 aD.journal.sure] 32, ow 99 3 encSlot okSlot (.slice r0_slots_a_36 r0_slots_n_36 r0_slots_c_36) D_36, gr inSlot D_36, bx b29 [.slice r0_slots_a_24 r0_slots_n_24 r0_slots_c_24, .string aD.journal.text, .int .i64 aD.journal.sure] 32, ow 99 3 encSlot okSlot (.slice r0_slots_a_24 r0_slots_n_24 r0_slots_c_24) D_24, gr inSlot D_24, ow 99 3 encSlot okSlot (.slice r0_slots_a_22 r0_slots_n_22 r0_slots_c_22) D_22, gr inSlot D_22, bx b1 [.slice aD_slots_a aD_slots_n aD_slots_c, .string aD.journal.text, .int .i64 aD.journal.sure] 26] _ := At.frame S68.at' [] rfl m71
     obtain ⟨lo71_0, lp71_0, lq71_0⟩ := At.ownInv S71.at' ET_29.hk 0 rfl
     clear m71
     refine ⟨Sd.of S71 [5, 13] rfl, ?_⟩
     refine d_one (i := 3) (listed' := #[true, true, true, true, false]) rfl (by kernel_rfl) rfl rfl ?_
     refine f_call F72 CF_15 rfl rfl rfl rfl (lc (F72.ev 41 rfl) (lc (F72.ev 43 rfl) rfl)) (laws_eqDisk_c (H := fun _ => True) (a := (⟨D_36, aD.journal⟩ : DiskH)) (b := (⟨D_71, aD.journal⟩ : DiskH)) (At.rd S71.at' ET_29.hk 6 rfl) (At.nrd S71.at' 7 rfl) ok_r0_journal_text_36 (by first | assumption | exact ⟨by omega, by omega⟩ | (unfold i64ok at *; omega) | (simp only [i64ok]; omega)) (At.rd S71.at' ET_29.hk 0 rfl) (At.nrd S71.at' 1 rfl) ok_r0_journal_text_71 (by first | assumption | exact ⟨by omega, by omega⟩ | (unfold i64ok at *; omega) | (simp only [i64ok]; omega)) (by exact (same2 (by assumption) (by assumption))) (by rfl)) ?_
     rintro _ w73 ⟨rfl, m73⟩
     refine ⟨_, rfl, fun _ F74 => ?_⟩
     have S73 := At.frame0 S71.at' m73
     clear m73
     refine ⟨Sd.of (S71.trans S73) [5, 13] rfl, ?_⟩
     refine g_take F74 rfl (i := 4) (listed' := #[true, true, true, true, true]) rfl (by kernel_rfl) (by kernel_rfl) (by kernel_rfl) (fun _ _ _ h => h) (Sd.of (S71.trans S73) [5, 13] rfl) rfl rfl rfl rfl (fun _ hz => (r_not rfl (F74.ev 44 rfl))) fun _ F75 => ?_
     refine wpAnyH_done (by kernel_rfl) (x_normal ?_) _
     exact ⟨D_71, r0_slots_a_71, r0_slots_n_71, r0_slots_c_71, F75.cut rfl, ((S68.trans (S71.trans S73)).pick [2, 3, 4, 5, 6, 7, 8, 9, 10, 11, 12, 13, 0, 1] rfl), ok_r0_journal_text_44, q71_0, q71_1, q71_2⟩
   · rintro a76 w76 ⟨D_71, r0_slots_a_71, r0_slots_n_71, r0_slots_c_71, F76, S76, ko76_0, kp76_0, kp76_1, kp76_2⟩
     obtain ⟨lo76_12, lp76_12, lq76_12⟩ := At.ownInv S76.at' ET_29.hk 12 rfl
     refine x_normal (wp_cond_false (F76.ev 45 rfl) (wp_skip (x_normal (wp_seq (wp_region_lit (l_op (f_val F76 rfl rfl (r_assign rfl rfl) rfl fun _ F77 => ?_)))))))
     have F78 : Fr 96 [(9, .int .i64 1), (1, .pointer (some ⟨b1, 0, none⟩)), (4, .pointer (some ⟨b29, 0, none⟩)), (5, .bool (foldOk (aD.slots.map SlotH.d) aD.journal)), (6, .pointer (some ⟨b38, 0, none⟩)), (7, .pointer (some ⟨b49, 0, none⟩)), (8, .bool (foldOk (aD.slots.map SlotH.d) aD.journal))] _ := F77.cut rfl
     clear F76 F77
     refine s_end (x_normal (wp_seq (wp_region_lit (l_op (f_val (v := .agg #[.slice r0_slots_a_36 r0_slots_n_36 r0_slots_c_36, .string aD.journal.text, .int .i64 aD.journal.sure]) F78 rfl rfl (r_loadB S76.at' 3 TI_32 rfl rfl (F78.ev 6 rfl) rfl rfl (fun h => nomatch h) rfl) rfl fun _ F79 => ?_)))))
     refine l_op (f_mv F79 rfl rfl rfl rfl rfl fun _ F80 => ?_)
     refine l_op (f_call F80 CF_25 rfl rfl rfl rfl (lc (F80.ev 46 rfl) (lc (F80.ev 47 rfl) rfl)) (laws_markDisk_c (H := fun _ => True) (L := (aD.slots.map SlotH.d)) (a := (⟨D_36, aD.journal⟩ : DiskH)) (k := 1) ko76_0 (by first | assumption | exact ⟨by omega, by omega⟩ | (unfold i64ok at *; omega) | (simp only [i64ok]; omega)) ⟨by omega, by first | omega | (unfold i64ok at *; omega)⟩ (by assumption) (by first | assumption | omega | (simp <;> omega)) (by first | assumption | omega | (simp <;> omega)) (At.pick (is := [4, 5]) S76.at' rfl)) ?_)
     rintro _ w81 ⟨D_81, rfl, m81, q81_0⟩
     refine ⟨_, rfl, fun _ F82 => ?_⟩
     have S81 : Mv _ _ [ow 99 3 encSlot okSlot (.slice r0_slots_a_36 r0_slots_n_36 r0_slots_c_36) D_81, gr inSlot D_81, bx b49 [.slice r0_slots_a_44 r0_slots_n_44 r0_slots_c_44, .string aD.journal.text, .int .i64 aD.journal.sure] 32, ow 99 3 encSlot okSlot (.slice r0_slots_a_44 r0_slots_n_44 r0_slots_c_44) D_44, gr inSlot D_44, bx b38 [.slice r0_slots_a_36 r0_slots_n_36 r0_slots_c_36, .string aD.journal.text, .int .i64 aD.journal.sure] 32, bx b29 [.slice r0_slots_a_24 r0_slots_n_24 r0_slots_c_24, .string aD.journal.text, .int .i64 aD.journal.sure] 32, ow 99 3 encSlot okSlot (.slice r0_slots_a_24 r0_slots_n_24 r0_slots_c_24) D_24, gr inSlot D_24, ow 99 3 encSlot okSlot (.slice r0_slots_a_22 r0_slots_n_22 r0_slots_c_22) D_22, gr inSlot D_22, bx b1 [.slice aD_slots_a aD_slots_n aD_slots_c, .string aD.journal.text, .int .i64 aD.journal.sure] 26, ow 99 3 encSlot okSlot (.slice r0_slots_a_71 r0_slots_n_71 r0_slots_c_71) D_71, gr inSlot D_71] _ := At.frame S76.at' [4, 5] rfl m81
     obtain ⟨lo81_0, lp81_0, lq81_0⟩ := At.ownInv S81.at' ET_29.hk 0 rfl
     clear m81
     refine l_op (f_as F82 rfl rfl rfl rfl rfl fun _ F83 => ?_)
     have F84 : Fr 96 [(9, .int .i64 ((1 + sumOf cntSl (aD.slots.map SlotH.d) : Nat) : Int)), (1, .pointer (some ⟨b1, 0, none⟩)), (4, .pointer (some ⟨b29, 0, none⟩)), (5, .bool (foldOk (aD.slots.map SlotH.d) aD.journal)), (7, .pointer (some ⟨b49, 0, none⟩)), (8, .bool (foldOk (aD.slots.map SlotH.d) aD.journal))] _ := F83.cut rfl
     clear F78 F79 F80 F82 F83
     refine s_end (x_normal (wp_seq (wp_seq (wp_region_lit (l_op (f_mv F84 rfl rfl rfl rfl rfl fun _ F85 => ?_))))))
     refine l_op (f_val F85 rfl rfl (r_cmp (b := false) (.inr (.inr (.inl rfl))) rfl (F85.ev 49 rfl) rfl (cmp_lt0 _ _ (by omega))) rfl fun _ F86 => ?_)
     refine l_op (f_mv F86 rfl rfl rfl rfl rfl fun _ F87 => ?_)
     refine l_op (f_val (v := .agg #[.slice r0_slots_a_44 r0_slots_n_44 r0_slots_c_44, .string aD.journal.text, .int .i64 aD.journal.sure]) F87 (wanted_g F87 rfl rfl rfl rfl) rfl (r_loadB S81.at' 2 TI_32 rfl rfl (F87.ev 7 rfl) rfl rfl (fun h => nomatch h) rfl) rfl fun _ F88 => ?_)
     refine l_op (f_val (v := .agg #[.slice r0_slots_a_24 r0_slots_n_24 r0_slots_c_24, .string aD.journal.text, .int .i64 aD.journal.sure]) F88 (wanted_g F88 rfl rfl rfl rfl) rfl (r_loadB S81.at' 6 TI_32 rfl rfl (F88.ev 4 rfl) rfl rfl (fun h => nomatch h) rfl) rfl fun _ F89 => ?_)
     refine l_op (f_call F89 CF_15 (wanted_g F89 rfl rfl rfl rfl) rfl rfl rfl (lc (F89.ev 52 rfl) (lc (F89.ev 53 rfl) rfl)) (laws_eqDisk_c (H := fun _ => True) (a := (⟨D_44, aD.journal⟩ : DiskH)) (b := (⟨D_24, aD.journal⟩ : DiskH)) (At.rd S81.at' ET_29.hk 3 rfl) (At.nrd S81.at' 4 rfl) ko76_0 (by first | assumption | exact ⟨by omega, by omega⟩ | (unfold i64ok at *; omega) | (simp only [i64ok]; omega)) (At.rd S81.at' ET_29.hk 7 rfl) (At.nrd S81.at' 8 rfl) ko76_0 (by first | assumption | exact ⟨by omega, by omega⟩ | (unfold i64ok at *; omega) | (simp only [i64ok]; omega)) (by exact (same2 (by assumption) (by assumption))) (by rfl)) ?_)
     rintro _ w90 ⟨rfl, m90⟩
     refine ⟨_, rfl, fun _ F91 => ?_⟩
     have S90 := At.frame0 S81.at' m90
     clear m90
     refine l_op (f_val F91 (wanted_g F91 rfl rfl rfl rfl) rfl (r_not rfl (F91.ev 54 rfl)) rfl fun _ F92 => ?_)
     refine l_op (f_val F92 rfl rfl (r_pick (b := false) rfl (F92.ev 51 rfl) (F92.ev 55 rfl)) rfl fun _ F93 => ?_)
     refine l_op (f_mv F93 rfl rfl rfl rfl rfl fun _ F94 => ?_)
     refine l_op (f_mv F94 (wanted_g F94 rfl rfl rfl rfl) rfl rfl rfl rfl fun _ F95 => ?_)
     refine l_op (f_mv F95 (wanted_g F95 rfl rfl rfl rfl) rfl rfl rfl rfl fun _ F96 => ?_)
     refine l_op (f_val F96 (wanted_g F96 rfl rfl rfl rfl) rfl (r_cmpb (b := false) Try.underlying4 (.inr rfl) rfl (F96.ev 58 rfl) (F96.ev 59 rfl) (cmpb_ne (show (foldOk (aD.slots.map SlotH.d) aD.journal) = (foldOk (aD.slots.map SlotH.d) aD.journal) from rfl))) rfl fun _ F97 => ?_)
     refine l_op (f_val F97 rfl rfl (r_pick (b := false) rfl (F97.ev 57 rfl) (F97.ev 60 rfl)) rfl fun _ F98 => ?_)
     have F99 : Fr 96 [(61, .bool false), (1, .pointer (some ⟨b1, 0, none⟩)), (4, .pointer (some ⟨b29, 0, none⟩)), (5, .bool (foldOk (aD.slots.map SlotH.d) aD.journal)), (7, .pointer (some ⟨b49, 0, none⟩))] _ := F98.cut rfl
     clear F84 F85 F86 F87 F88 F89 F91 F92 F93 F94 F95 F96 F97 F98
     have T100 : Mv _ _ [ow 99 3 encSlot okSlot (.slice r0_slots_a_36 r0_slots_n_36 r0_slots_c_36) D_81, gr inSlot D_81, bx b49 [.slice r0_slots_a_44 r0_slots_n_44 r0_slots_c_44, .string aD.journal.text, .int .i64 aD.journal.sure] 32, ow 99 3 encSlot okSlot (.slice r0_slots_a_44 r0_slots_n_44 r0_slots_c_44) D_44, gr inSlot D_44, bx b38 [.slice r0_slots_a_36 r0_slots_n_36 r0_slots_c_36, .string aD.journal.text, .int .i64 aD.journal.sure] 32, bx b29 [.slice r0_slots_a_24 r0_slots_n_24 r0_slots_c_24, .string aD.journal.text, .int .i64 aD.journal.sure] 32, ow 99 3 encSlot okSlot (.slice r0_slots_a_24 r0_slots_n_24 r0_slots_c_24) D_24, gr inSlot D_24, ow 99 3 encSlot okSlot (.slice r0_slots_a_22 r0_slots_n_22 r0_slots_c_22) D_22, gr inSlot D_22, bx b1 [.slice aD_slots_a aD_slots_n aD_slots_c, .string aD.journal.text, .int .i64 aD.journal.sure] 26, ow 99 3 encSlot okSlot (.slice r0_slots_a_71 r0_slots_n_71 r0_slots_c_71) D_71, gr inSlot D_71] _ := S90
     refine s_end (x_normal (wp_cond_false (F99.ev 61 rfl) (wp_skip (x_normal (wp_seq (wp_region_lit (l_op (f_val F99 rfl rfl (r_assign rfl rfl) rfl fun _ F101 => ?_))))))))
     have F102 : Fr 96 [(10, .int .i64 1), (1, .pointer (some ⟨b1, 0, none⟩)), (4, .pointer (some ⟨b29, 0, none⟩)), (5, .bool (foldOk (aD.slots.map SlotH.d) aD.journal)), (7, .pointer (some ⟨b49, 0, none⟩))] _ := F101.cut rfl
     clear F99 F101
     refine s_end (x_normal (wp_seq (wp_region_lit (l_op (f_val (v := .agg #[.slice r0_slots_a_44 r0_slots_n_44 r0_slots_c_44, .string aD.journal.text, .int .i64 aD.journal.sure]) F102 rfl rfl (r_loadB T100.at' 2 TI_32 rfl rfl (F102.ev 7 rfl) rfl rfl (fun h => nomatch h) rfl) rfl fun _ F103 => ?_)))))
     refine l_op (f_mv F103 rfl rfl rfl rfl rfl fun _ F104 => ?_)
     refine l_op (f_call F104 CF_25 rfl rfl rfl rfl (lc (F104.ev 62 rfl) (lc (F104.ev 63 rfl) rfl)) (laws_markDisk_c (H := fun _ => True) (L := (foldL (aD.slots.map SlotH.d) aD.journal)) (a := (⟨D_44, aD.journal⟩ : DiskH)) (k := 1) ko76_0 (by first | assumption | exact ⟨by omega, by omega⟩ | (unfold i64ok at *; omega) | (simp only [i64ok]; omega)) ⟨by omega, by first | omega | (unfold i64ok at *; omega)⟩ (by assumption) (by first | assumption | omega | (simp <;> omega)) (by first | assumption | omega | (simp <;> omega)) (At.pick (is := [3, 4]) T100.at' rfl)) ?_)
     rintro _ w105 ⟨D_105, rfl, m105, q105_0⟩
     refine ⟨_, rfl, fun _ F106 => ?_⟩
     have S105 : Mv _ _ [ow 99 3 encSlot okSlot (.slice r0_slots_a_44 r0_slots_n_44 r0_slots_c_44) D_105, gr inSlot D_105, ow 99 3 encSlot okSlot (.slice r0_slots_a_36 r0_slots_n_36 r0_slots_c_36) D_81, gr inSlot D_81, bx b49 [.slice r0_slots_a_44 r0_slots_n_44 r0_slots_c_44, .string aD.journal.text, .int .i64 aD.journal.sure] 32, bx b38 [.slice r0_slots_a_36 r0_slots_n_36 r0_slots_c_36, .string aD.journal.text, .int .i64 aD.journal.sure] 32, bx b29 [.slice r0_slots_a_24 r0_slots_n_24 r0_slots_c_24, .string aD.journal.text, .int .i64 aD.journal.sure] 32, ow 99 3 encSlot okSlot (.slice r0_slots_a_24 r0_slots_n_24 r0_slots_c_24) D_24, gr inSlot D_24, ow 99 3 encSlot okSlot (.slice r0_slots_a_22 r0_slots_n_22 r0_slots_c_22) D_22, gr inSlot D_22, bx b1 [.slice aD_slots_a aD_slots_n aD_slots_c, .string aD.journal.text, .int .i64 aD.journal.sure] 26, ow 99 3 encSlot okSlot (.slice r0_slots_a_71 r0_slots_n_71 r0_slots_c_71) D_71, gr inSlot D_71] _ := At.frame T100.at' [3, 4] rfl m105
     obtain ⟨lo105_0, lp105_0, lq105_0⟩ := At.ownInv S105.at' ET_29.hk 0 rfl
     clear m105
     refine l_op (f_as F106 rfl rfl rfl rfl rfl fun _ F107 => ?_)
     have F108 : Fr 96 [(10, .int .i64 ((1 + sumOf cntSl (foldL (aD.slots.map SlotH.d) aD.journal) : Nat) : Int)), (1, .pointer (some ⟨b1, 0, none⟩)), (4, .pointer (some ⟨b29, 0, none⟩)), (5, .bool (foldOk (aD.slots.map SlotH.d) aD.journal)), (7, .pointer (some ⟨b49, 0, none⟩))] _ := F107.cut rfl
     clear F102 F103 F104 F106 F107
     refine s_end (x_normal (wp_seq (wp_region_lit (l_op (f_val F108 rfl rfl (r_assign rfl rfl) rfl fun _ F109 => ?_)))))
     have F110 : Fr 96 [(11, .int .i64 1), (10, .int .i64 ((1 + sumOf cntSl (foldL (aD.slots.map SlotH.d) aD.journal) : Nat) : Int)), (1, .pointer (some ⟨b1, 0, none⟩)), (4, .pointer (some ⟨b29, 0, none⟩)), (5, .bool (foldOk (aD.slots.map SlotH.d) aD.journal)), (7, .pointer (some ⟨b49, 0, none⟩))] _ := F109.cut rfl
     clear F108 F109
     refine s_end (x_normal (wp_seq (wp_region_lit (l_op (f_val (v := .agg #[.slice r0_slots_a_44 r0_slots_n_44 r0_slots_c_44, .string aD.journal.text, .int .i64 aD.journal.sure]) F110 rfl rfl (r_loadB S105.at' 4 TI_32 rfl rfl (F110.ev 7 rfl) rfl rfl (fun h => nomatch h) rfl) rfl fun _ F111 => ?_)))))
     refine l_op (f_mv F111 rfl rfl rfl rfl rfl fun _ F112 => ?_)
     refine l_op (f_call F112 CF_26 rfl rfl rfl rfl (lc (F112.ev 65 rfl) (lc (F112.ev 66 rfl) rfl)) (laws_heldDisk_c (H := fun _ => True) (d := (foldL (aD.slots.map SlotH.d) aD.journal)) (a := (⟨D_105, aD.journal⟩ : DiskH)) (k := 1) (At.rd S105.at' ET_29.hk 0 rfl) (At.nrd S105.at' 1 rfl) ko76_0 (by first | assumption | exact ⟨by omega, by omega⟩ | (unfold i64ok at *; omega) | (simp only [i64ok]; omega)) ⟨by omega, by first | omega | (unfold i64ok at *; omega)⟩ (by assumption) (by first | assumption | omega | (simp <;> omega)) (by first | assumption | omega | (simp <;> omega))) ?_)
     rintro _ w113 ⟨rfl, m113⟩
     refine ⟨_, rfl, fun _ F114 => ?_⟩
     have S113 := At.frame0 S105.at' m113
     clear m113
     refine l_op (f_as F114 rfl rfl rfl rfl rfl fun _ F115 => ?_)
     have F116 : Fr 96 [(11, .int .i64 ((1 + sumOf cntSl (foldL (aD.slots.map SlotH.d) aD.journal) : Nat) : Int)), (10, .int .i64 ((1 + sumOf cntSl (foldL (aD.slots.map SlotH.d) aD.journal) : Nat) : Int)), (1, .pointer (some ⟨b1, 0, none⟩)), (4, .pointer (some ⟨b29, 0, none⟩)), (5, .bool (foldOk (aD.slots.map SlotH.d) aD.journal)), (7, .pointer (some ⟨b49, 0, none⟩))] _ := F115.cut rfl
     clear F110 F111 F112 F114 F115
     have T117 : Mv _ _ [ow 99 3 encSlot okSlot (.slice r0_slots_a_44 r0_slots_n_44 r0_slots_c_44) D_105, gr inSlot D_105, ow 99 3 encSlot okSlot (.slice r0_slots_a_36 r0_slots_n_36 r0_slots_c_36) D_81, gr inSlot D_81, bx b49 [.slice r0_slots_a_44 r0_slots_n_44 r0_slots_c_44, .string aD.journal.text, .int .i64 aD.journal.sure] 32, bx b38 [.slice r0_slots_a_36 r0_slots_n_36 r0_slots_c_36, .string aD.journal.text, .int .i64 aD.journal.sure] 32, bx b29 [.slice r0_slots_a_24 r0_slots_n_24 r0_slots_c_24, .string aD.journal.text, .int .i64 aD.journal.sure] 32, ow 99 3 encSlot okSlot (.slice r0_slots_a_24 r0_slots_n_24 r0_slots_c_24) D_24, gr inSlot D_24, ow 99 3 encSlot okSlot (.slice r0_slots_a_22 r0_slots_n_22 r0_slots_c_22) D_22, gr inSlot D_22, bx b1 [.slice aD_slots_a aD_slots_n aD_slots_c, .string aD.journal.text, .int .i64 aD.journal.sure] 26, ow 99 3 encSlot okSlot (.slice r0_slots_a_71 r0_slots_n_71 r0_slots_c_71) D_71, gr inSlot D_71] _ := S113
     refine s_end (x_normal (wp_seq (wp_seq (wp_region_lit (l_op (f_mv F116 rfl rfl rfl rfl rfl fun _ F118 => ?_))))))
     refine l_op (f_val F118 rfl rfl (r_cmp (b := false) (.inr (.inr (.inl rfl))) rfl (F118.ev 68 rfl) rfl (cmp_lt0 _ _ (by omega))) rfl fun _ F119 => ?_)
     have F120 : Fr 96 [(69, .bool false), (11, .int .i64 ((1 + sumOf cntSl (foldL (aD.slots.map SlotH.d) aD.journal) : Nat) : Int)), (10, .int .i64 ((1 + sumOf cntSl (foldL (aD.slots.map SlotH.d) aD.journal) : Nat) : Int)), (1, .pointer (some ⟨b1, 0, none⟩)), (4, .pointer (some ⟨b29, 0, none⟩)), (5, .bool (foldOk (aD.slots.map SlotH.d) aD.journal)), (7, .pointer (some ⟨b49, 0, none⟩))] _ := F119.cut rfl
     clear F116 F118 F119
     refine s_end (x_normal (wp_cond_false (F120.ev 69 rfl) (wp_skip (x_normal (wp_seq (wp_seq (wp_region_lit (l_op (f_mv F120 rfl rfl rfl rfl rfl fun _ F121 => ?_)))))))))
     refine l_op (f_mv F121 rfl rfl rfl rfl rfl fun _ F122 => ?_)
     refine l_op (f_val F122 rfl rfl (r_cmp (b := false) (.inr (.inl rfl)) rfl (F122.ev 70 rfl) (F122.ev 71 rfl) (cmp_nes _)) rfl fun _ F123 => ?_)
     have F124 : Fr 96 [(72, .bool false), (10, .int .i64 ((1 + sumOf cntSl (foldL (aD.slots.map SlotH.d) aD.journal) : Nat) : Int)), (1, .pointer (some ⟨b1, 0, none⟩)), (4, .pointer (some ⟨b29, 0, none⟩)), (5, .bool (foldOk (aD.slots.map SlotH.d) aD.journal)), (7, .pointer (some ⟨b49, 0, none⟩))] _ := F123.cut rfl
     clear F120 F121 F122 F123
     refine s_end (x_normal (wp_cond_false (F124.ev 72 rfl) (wp_skip (x_normal (wp_seq (wp_region_lit (l_op (f_val (v := .agg #[.slice aD_slots_a aD_slots_n aD_slots_c, .string aD.journal.text, .int .i64 aD.journal.sure]) F124 rfl rfl (r_loadB T117.at' 11 TI_26 rfl rfl (F124.ev 1 rfl) rfl rfl (fun h => nomatch h) rfl) rfl fun _ F125 => ?_))))))))
     refine l_op (f_call F125 CF_13 rfl rfl rfl rfl (lc (F125.ev 74 rfl) rfl) (laws_toDisk_c (a := aD) (RdA.mv (Nat.succ_pos _) V_v_aD_slots (T5.trans (T14.trans (S22.trans (S24.trans (S29.trans (T34.trans (S36.trans (S38.trans (T42.trans (S44.trans (S49.trans (T54.trans (T66.trans (S76.trans (S81.trans (T100.trans (S105.trans T117)))))))))))))))))) (NRa.mv V_u_aD_slots (T5.trans (T14.trans (S22.trans (S24.trans (S29.trans (T34.trans (S36.trans (S38.trans (T42.trans (S44.trans (S49.trans (T54.trans (T66.trans (S76.trans (S81.trans (T100.trans (S105.trans T117)))))))))))))))))) ko76_0 (by first | assumption | exact ⟨by omega, by omega⟩ | (unfold i64ok at *; omega) | (simp only [i64ok]; omega)) (by exact hfit)) ?_)
     rintro _ w126 ⟨D_126, r0_slots_a_126, r0_slots_n_126, r0_slots_c_126, rfl, m126, ok_r0_journal_text_126, q126_0, q126_1, q126_2⟩
     refine ⟨_, rfl, fun _ F127 => ?_⟩
     have S126 : Mv _ _ [ow 99 3 encSlot okSlot (.slice r0_slots_a_126 r0_slots_n_126 r0_slots_c_126) D_126, gr inSlot D_126, ow 99 3 encSlot okSlot (.slice r0_slots_a_44 r0_slots_n_44 r0_slots_c_44) D_105, gr inSlot D_105, ow 99 3 encSlot okSlot (.slice r0_slots_a_36 r0_slots_n_36 r0_slots_c_36) D_81, gr inSlot D_81, bx b49 [.slice r0_slots_a_44 r0_slots_n_44 r0_slots_c_44, .string aD.journal.text, .int .i64 aD.journal.sure] 32, bx b38 [.slice r0_slots_a_36 r0_slots_n_36 r0_slots_c_36, .string aD.journal.text, .int .i64 aD.journal.sure] 32, bx b29 [.slice r0_slots_a_24 r0_slots_n_24 r0_slots_c_24, .string aD.journal.text, .int .i64 aD.journal.sure] 32, ow 99 3 encSlot okSlot (.slice r0_slots_a_24 r0_slots_n_24 r0_slots_c_24) D_24, gr inSlot D_24, ow 99 3 encSlot okSlot (.slice r0_slots_a_22 r0_slots_n_22 r0_slots_c_22) D_22, gr inSlot D_22, bx b1 [.slice aD_slots_a aD_slots_n aD_slots_c, .string aD.journal.text, .int .i64 aD.journal.sure] 26, ow 99 3 encSlot okSlot (.slice r0_slots_a_71 r0_slots_n_71 r0_slots_c_71) D_71, gr inSlot D_71] _ := At.frame T117.at' [] rfl m126
     obtain ⟨lo126_0, lp126_0, lq126_0⟩ := At.ownInv S126.at' ET_29.hk 0 rfl
     clear m126
     refine l_op (f_call F127 CF_24 rfl rfl rfl rfl (lc (F127.ev 75 rfl) rfl) (impl_FoldEnd_c (H := fun _ => True) (L := (aD.slots.map SlotH.d)) (d := (⟨D_126, aD.journal⟩ : DiskH)) (At.rd S126.at' ET_29.hk 0 rfl) (At.nrd S126.at' 1 rfl) ok_r0_journal_text_126 (by first | assumption | exact ⟨by omega, by omega⟩ | (unfold i64ok at *; omega) | (simp only [i64ok]; omega)) (by assumption) (by exact hfit)) ?_)
     rintro _ w128 ⟨D_128, r0_slots_a_128, r0_slots_n_128, r0_slots_c_128, rfl, m128, ok_r0_journal_text_128, q128_0, q128_1⟩
     refine ⟨_, rfl, fun _ F129 => ?_⟩
     have S128 : Mv _ _ [ow 99 3 encSlot okSlot (.slice r0_slots_a_128 r0_slots_n_128 r0_slots_c_128) D_128, gr inSlot D_128, ow 99 3 encSlot okSlot (.slice r0_slots_a_126 r0_slots_n_126 r0_slots_c_126) D_126, gr inSlot D_126, ow 99 3 encSlot okSlot (.slice r0_slots_a_44 r0_slots_n_44 r0_slots_c_44) D_105, gr inSlot D_105, ow 99 3 encSlot okSlot (.slice r0_slots_a_36 r0_slots_n_36 r0_slots_c_36) D_81, gr inSlot D_81, bx b49 [.slice r0_slots_a_44 r0_slots_n_44 r0_slots_c_44, .string aD.journal.text, .int .i64 aD.journal.sure] 32, bx b38 [.slice r0_slots_a_36 r0_slots_n_36 r0_slots_c_36, .string aD.journal.text, .int .i64 aD.journal.sure] 32, bx b29 [.slice r0_slots_a_24 r0_slots_n_24 r0_slots_c_24, .string aD.journal.text, .int .i64 aD.journal.sure] 32, ow 99 3 encSlot okSlot (.slice r0_slots_a_24 r0_slots_n_24 r0_slots_c_24) D_24, gr inSlot D_24, ow 99 3 encSlot okSlot (.slice r0_slots_a_22 r0_slots_n_22 r0_slots_c_22) D_22, gr inSlot D_22, bx b1 [.slice aD_slots_a aD_slots_n aD_slots_c, .string aD.journal.text, .int .i64 aD.journal.sure] 26, ow 99 3 encSlot okSlot (.slice r0_slots_a_71 r0_slots_n_71 r0_slots_c_71) D_71, gr inSlot D_71] _ := At.frame S126.at' [] rfl m128
     obtain ⟨lo128_0, lp128_0, lq128_0⟩ := At.ownInv S128.at' ET_29.hk 0 rfl
     clear m128
     refine l_op (f_mv F129 rfl rfl rfl rfl rfl fun _ F130 => ?_)
     refine l_op (f_val (v := .agg #[.slice r0_slots_a_128 r0_slots_n_128 r0_slots_c_128, .string aD.journal.text, .int .i64 aD.journal.sure]) F130 rfl rfl (r_extract rfl (F130.ev 73 rfl) rfl) rfl fun _ F131 => ?_)
     refine l_op (f_val (v := .bool (foldOk (aD.slots.map SlotH.d) aD.journal)) F131 rfl rfl (r_extract rfl (F131.ev 73 rfl) rfl) rfl fun _ F132 => ?_)
     refine l_op (f_alloc F132 S128.at' ZI_32 rfl rfl rfl rfl rfl fun b133 _ w133 F134 S133 => ?_)
     refine l_op (s_store S133.at' 0 TI_32 rfl rfl rfl rfl rfl (F134.ev 12 rfl) (F134.ev 77 rfl) rfl rfl rfl rfl rfl fun w135 S135 => ?_)
     refine l_op (f_as F134 rfl rfl rfl rfl rfl fun _ F136 => ?_)
     have F137 : Fr 96 [(13, .bool (foldOk (aD.slots.map SlotH.d) aD.journal)), (12, .pointer (some ⟨b133, 0, none⟩)), (10, .int .i64 ((1 + sumOf cntSl (foldL (aD.slots.map SlotH.d) aD.journal) : Nat) : Int)), (4, .pointer (some ⟨b29, 0, none⟩)), (5, .bool (foldOk (aD.slots.map SlotH.d) aD.journal)), (7, .pointer (some ⟨b49, 0, none⟩))] _ := F136.cut rfl
     clear F124 F125 F127 F129 F130 F131 F132 F134 F136
     have T138 : Mv _ _ [bx b133 [.slice r0_slots_a_128 r0_slots_n_128 r0_slots_c_128, .string aD.journal.text, .int .i64 aD.journal.sure] 32, ow 99 3 encSlot okSlot (.slice r0_slots_a_128 r0_slots_n_128 r0_slots_c_128) D_128, gr inSlot D_128, ow 99 3 encSlot okSlot (.slice r0_slots_a_126 r0_slots_n_126 r0_slots_c_126) D_126, gr inSlot D_126, ow 99 3 encSlot okSlot (.slice r0_slots_a_44 r0_slots_n_44 r0_slots_c_44) D_105, gr inSlot D_105, ow 99 3 encSlot okSlot (.slice r0_slots_a_36 r0_slots_n_36 r0_slots_c_36) D_81, gr inSlot D_81, bx b49 [.slice r0_slots_a_44 r0_slots_n_44 r0_slots_c_44, .string aD.journal.text, .int .i64 aD.journal.sure] 32, bx b38 [.slice r0_slots_a_36 r0_slots_n_36 r0_slots_c_36, .string aD.journal.text, .int .i64 aD.journal.sure] 32, bx b29 [.slice r0_slots_a_24 r0_slots_n_24 r0_slots_c_24, .string aD.journal.text, .int .i64 aD.journal.sure] 32, ow 99 3 encSlot okSlot (.slice r0_slots_a_24 r0_slots_n_24 r0_slots_c_24) D_24, gr inSlot D_24, ow 99 3 encSlot okSlot (.slice r0_slots_a_22 r0_slots_n_22 r0_slots_c_22) D_22, gr inSlot D_22, bx b1 [.slice aD_slots_a aD_slots_n aD_slots_c, .string aD.journal.text, .int .i64 aD.journal.sure] 26, ow 99 3 encSlot okSlot (.slice r0_slots_a_71 r0_slots_n_71 r0_slots_c_71) D_71, gr inSlot D_71] _ := S135
     refine s_end (x_normal (wp_seq (wp_seq (wp_region_lit (l_op (f_val (v := .agg #[.slice r0_slots_a_128 r0_slots_n_128 r0_slots_c_128, .string aD.journal.text, .int .i64 aD.journal.sure]) F137 rfl rfl (r_loadB T138.at' 0 TI_32 rfl rfl (F137.ev 12 rfl) rfl rfl (fun h => nomatch h) rfl) rfl fun _ F139 => ?_))))))
     refine l_op (f_val (v := .agg #[.slice r0_slots_a_24 r0_slots_n_24 r0_slots_c_24, .string aD.journal.text, .int .i64 aD.journal.sure]) F139 rfl rfl (r_loadB T138.at' 11 TI_32 rfl rfl (F139.ev 4 rfl) rfl rfl (fun h => nomatch h) rfl) rfl fun _ F140 => ?_)
     refine l_op (f_call F140 CF_15 rfl rfl rfl rfl (lc (F140.ev 79 rfl) (lc (F140.ev 80 rfl) rfl)) (laws_eqDisk_c (H := fun _ => True) (a := (⟨D_128, aD.journal⟩ : DiskH)) (b := (⟨D_24, aD.journal⟩ : DiskH)) (At.rd T138.at' ET_29.hk 1 rfl) (At.nrd T138.at' 2 rfl) ok_r0_journal_text_128 (by first | assumption | exact ⟨by omega, by omega⟩ | (unfold i64ok at *; omega) | (simp only [i64ok]; omega)) (At.rd T138.at' ET_29.hk 12 rfl) (At.nrd T138.at' 13 rfl) ko76_0 (by first | assumption | exact ⟨by omega, by omega⟩ | (unfold i64ok at *; omega) | (simp only [i64ok]; omega)) (by exact (same2 (by assumption) (by assumption))) (by rfl)) ?_)
     rintro _ w141 ⟨rfl, m141⟩
     refine ⟨_, rfl, fun _ F142 => ?_⟩
     have S141 := At.frame0 T138.at' m141
     clear m141
     refine l_op (f_val F142 rfl rfl (r_not rfl (F142.ev 81 rfl)) rfl fun _ F143 => ?_)
     refine l_op (f_mv F143 rfl rfl rfl rfl rfl fun _ F144 => ?_)
     refine l_op (f_mv F144 (wanted_g F144 rfl rfl rfl rfl) rfl rfl rfl rfl fun _ F145 => ?_)
     refine l_op (f_mv F145 (wanted_g F145 rfl rfl rfl rfl) rfl rfl rfl rfl fun _ F146 => ?_)
     refine l_op (f_val F146 (wanted_g F146 rfl rfl rfl rfl) rfl (r_cmpb (b := false) Try.underlying4 (.inr rfl) rfl (F146.ev 84 rfl) (F146.ev 85 rfl) (cmpb_ne (show (foldOk (aD.slots.map SlotH.d) aD.journal) = (foldOk (aD.slots.map SlotH.d) aD.journal) from rfl))) rfl fun _ F147 => ?_)
     refine l_op (f_val F147 rfl rfl (r_pick (b := false) rfl (F147.ev 83 rfl) (F147.ev 86 rfl)) rfl fun _ F148 => ?_)
     have F149 : Fr 96 [(87, .bool false), (10, .int .i64 ((1 + sumOf cntSl (foldL (aD.slots.map SlotH.d) aD.journal) : Nat) : Int)), (7, .pointer (some ⟨b49, 0, none⟩))] _ := F148.cut rfl
     clear F137 F139 F140 F142 F143 F144 F145 F146 F147 F148
     have T150 : Mv _ _ [bx b133 [.slice r0_slots_a_128 r0_slots_n_128 r0_slots_c_128, .string aD.journal.text, .int .i64 aD.journal.sure] 32, ow 99 3 encSlot okSlot (.slice r0_slots_a_128 r0_slots_n_128 r0_slots_c_128) D_128, gr inSlot D_128, ow 99 3 encSlot okSlot (.slice r0_slots_a_126 r0_slots_n_126 r0_slots_c_126) D_126, gr inSlot D_126, ow 99 3 encSlot okSlot (.slice r0_slots_a_44 r0_slots_n_44 r0_slots_c_44) D_105, gr inSlot D_105, ow 99 3 encSlot okSlot (.slice r0_slots_a_36 r0_slots_n_36 r0_slots_c_36) D_81, gr inSlot D_81, bx b49 [.slice r0_slots_a_44 r0_slots_n_44 r0_slots_c_44, .string aD.journal.text, .int .i64 aD.journal.sure] 32, bx b38 [.slice r0_slots_a_36 r0_slots_n_36 r0_slots_c_36, .string aD.journal.text, .int .i64 aD.journal.sure] 32, bx b29 [.slice r0_slots_a_24 r0_slots_n_24 r0_slots_c_24, .string aD.journal.text, .int .i64 aD.journal.sure] 32, ow 99 3 encSlot okSlot (.slice r0_slots_a_24 r0_slots_n_24 r0_slots_c_24) D_24, gr inSlot D_24, ow 99 3 encSlot okSlot (.slice r0_slots_a_22 r0_slots_n_22 r0_slots_c_22) D_22, gr inSlot D_22, bx b1 [.slice aD_slots_a aD_slots_n aD_slots_c, .string aD.journal.text, .int .i64 aD.journal.sure] 26, ow 99 3 encSlot okSlot (.slice r0_slots_a_71 r0_slots_n_71 r0_slots_c_71) D_71, gr inSlot D_71] _ := S141
     refine s_end (x_normal (wp_cond_false (F149.ev 87 rfl) (wp_skip (x_normal (wp_seq (wp_region_lit (l_op (f_val F149 rfl rfl (r_assign rfl rfl) rfl fun _ F151 => ?_))))))))
     have F152 : Fr 96 [(11, .int .i64 1), (10, .int .i64 ((1 + sumOf cntSl (foldL (aD.slots.map SlotH.d) aD.journal) : Nat) : Int)), (7, .pointer (some ⟨b49, 0, none⟩))] _ := F151.cut rfl
     clear F149 F151
     refine s_end (x_normal (wp_seq (wp_region_lit (l_op (f_val (v := .agg #[.slice r0_slots_a_44 r0_slots_n_44 r0_slots_c_44, .string aD.journal.text, .int .i64 aD.journal.sure]) F152 rfl rfl (r_loadB T150.at' 9 TI_32 rfl rfl (F152.ev 7 rfl) rfl rfl (fun h => nomatch h) rfl) rfl fun _ F153 => ?_)))))
     refine l_op (f_mv F153 rfl rfl rfl rfl rfl fun _ F154 => ?_)
     refine l_op (f_call F154 CF_26 rfl rfl rfl rfl (lc (F154.ev 88 rfl) (lc (F154.ev 89 rfl) rfl)) (laws_heldDisk_c (H := fun _ => True) (d := (foldL (aD.slots.map SlotH.d) aD.journal)) (a := (⟨D_105, aD.journal⟩ : DiskH)) (k := 1) (At.rd T150.at' ET_29.hk 5 rfl) (At.nrd T150.at' 6 rfl) ko76_0 (by first | assumption | exact ⟨by omega, by omega⟩ | (unfold i64ok at *; omega) | (simp only [i64ok]; omega)) ⟨by omega, by first | omega | (unfold i64ok at *; omega)⟩ (by assumption) (by first | assumption | omega | (simp <;> omega)) (by first | assumption | omega | (simp <;> omega))) ?_)
     rintro _ w155 ⟨rfl, m155⟩
     refine ⟨_, rfl, fun _ F156 => ?_⟩
     have S155 := At.frame0 T150.at' m155
     clear m155
     refine l_op (f_as F156 rfl rfl rfl rfl rfl fun _ F157 => ?_)
     have F158 : Fr 96 [(11, .int .i64 ((1 + sumOf cntSl (foldL (aD.slots.map SlotH.d) aD.journal) : Nat) : Int)), (10, .int .i64 ((1 + sumOf cntSl (foldL (aD.slots.map SlotH.d) aD.journal) : Nat) : Int))] _ := F157.cut rfl
     clear F152 F153 F154 F156 F157
     have T159 : Mv _ _ [bx b133 [.slice r0_slots_a_128 r0_slots_n_128 r0_slots_c_128, .string aD.journal.text, .int .i64 aD.journal.sure] 32, ow 99 3 encSlot okSlot (.slice r0_slots_a_128 r0_slots_n_128 r0_slots_c_128) D_128, gr inSlot D_128, ow 99 3 encSlot okSlot (.slice r0_slots_a_126 r0_slots_n_126 r0_slots_c_126) D_126, gr inSlot D_126, ow 99 3 encSlot okSlot (.slice r0_slots_a_44 r0_slots_n_44 r0_slots_c_44) D_105, gr inSlot D_105, ow 99 3 encSlot okSlot (.slice r0_slots_a_36 r0_slots_n_36 r0_slots_c_36) D_81, gr inSlot D_81, bx b49 [.slice r0_slots_a_44 r0_slots_n_44 r0_slots_c_44, .string aD.journal.text, .int .i64 aD.journal.sure] 32, bx b38 [.slice r0_slots_a_36 r0_slots_n_36 r0_slots_c_36, .string aD.journal.text, .int .i64 aD.journal.sure] 32, bx b29 [.slice r0_slots_a_24 r0_slots_n_24 r0_slots_c_24, .string aD.journal.text, .int .i64 aD.journal.sure] 32, ow 99 3 encSlot okSlot (.slice r0_slots_a_24 r0_slots_n_24 r0_slots_c_24) D_24, gr inSlot D_24, ow 99 3 encSlot okSlot (.slice r0_slots_a_22 r0_slots_n_22 r0_slots_c_22) D_22, gr inSlot D_22, bx b1 [.slice aD_slots_a aD_slots_n aD_slots_c, .string aD.journal.text, .int .i64 aD.journal.sure] 26, ow 99 3 encSlot okSlot (.slice r0_slots_a_71 r0_slots_n_71 r0_slots_c_71) D_71, gr inSlot D_71] _ := S155
     refine s_end (x_normal (wp_seq (wp_seq (wp_region_lit (l_op (f_mv F158 rfl rfl rfl rfl rfl fun _ F160 => ?_))))))
     refine l_op (f_val F160 rfl rfl (r_cmp (b := false) (.inr (.inr (.inl rfl))) rfl (F160.ev 91 rfl) rfl (cmp_lt0 _ _ (by omega))) rfl fun _ F161 => ?_)
     have F162 : Fr 96 [(92, .bool false), (11, .int .i64 ((1 + sumOf cntSl (foldL (aD.slots.map SlotH.d) aD.journal) : Nat) : Int)), (10, .int .i64 ((1 + sumOf cntSl (foldL (aD.slots.map SlotH.d) aD.journal) : Nat) : Int))] _ := F161.cut rfl
     clear F158 F160 F161
     refine s_end (x_normal (wp_cond_false (F162.ev 92 rfl) (wp_skip (x_normal (wp_seq (wp_seq (wp_region_lit (l_op (f_mv F162 rfl rfl rfl rfl rfl fun _ F163 => ?_)))))))))
     refine l_op (f_mv F163 rfl rfl rfl rfl rfl fun _ F164 => ?_)
     refine l_op (f_val F164 rfl rfl (r_cmp (b := false) (.inr (.inl rfl)) rfl (F164.ev 93 rfl) (F164.ev 94 rfl) (cmp_nes _)) rfl fun _ F165 => ?_)
     have F166 : Fr 96 [(95, .bool false)] _ := F165.cut rfl
     clear F162 F163 F164 F165
     refine s_end (x_normal (wp_cond_false (F166.ev 95 rfl) (wp_skip (x_normal (wp_seq (wp_region_lit (l_op (f_val F166 rfl rfl (r_assign rfl rfl) rfl fun _ F167 => ?_))))))))
     have F168 : Fr 96 [(2, .bool true)] _ := F167.cut rfl
     clear F166 F167
     refine s_end (x_normal (wp_ret ?_))
     refine x_done (v := .bool true) F168 (results_1 Try.results6 (.tmp (F168.ev 2 rfl))) ?_
     exact ⟨rfl, (Mv.pick (T5.trans (T14.trans (S22.trans (S24.trans (S29.trans (T34.trans (S36.trans (S38.trans (T42.trans (S44.trans (S49.trans (T54.trans (T66.trans (S76.trans (S81.trans (T100.trans (S105.trans (T117.trans (S126.trans (S128.trans (S133.trans (T138.trans (T150.trans T159))))))))))))))))))))))) [] rfl)⟩
end Go.Proofs.Ytgfilegkabbliaa
namespace Go.Proofs.Ytgfilegkabbliaa.foldend
open Go.ChangeShapes Go.WideShapes Go.ChangeAt Go.RowKit
set_option maxRecDepth 100000
theorem cells_3 : Try.prog.cellsOf 3 = 1 := by kernel_rfl
theorem cells_4 : Try.prog.cellsOf 4 = 1 := by kernel_rfl
theorem cells_9 : Try.prog.cellsOf 9 = 1 := by kernel_rfl
theorem cells_22 : Try.prog.cellsOf 22 = 1 := by kernel_rfl
theorem cells_24 : Try.prog.cellsOf 24 = 2 := by kernel_rfl
theorem cells_26 : Try.prog.cellsOf 26 = 3 := by kernel_rfl
theorem cells_60 : Try.prog.cellsOf 60 = 1 := by kernel_rfl
theorem cells_130 : Try.prog.cellsOf 130 = 3 := by kernel_rfl
theorem cells_153 : Try.prog.cellsOf 153 = 2 := by kernel_rfl
theorem called (W : World) (args : Array Value) (h : ArgsRead Try.prog W Try.f6.params.toList args.toList) : Calls Try.prog 6 args W fun e W' => e = .returned (.bool true) ∧ Bl W W' := by
  obtain ⟨hl, h⟩ := h
  rw [Try.params6] at hl h
  obtain ⟨v0, rfl⟩ : ∃ v0, args = #[v0] := by
    obtain ⟨l⟩ := args
    match l, hl with
    | [v0], _ => exact ⟨v0, rfl⟩
  obtain ⟨r0, o0⟩ := h 0 _ v0 rfl rfl
  obtain ⟨cs0, rfl, hcs0⟩ := agg_of_okWide Try.underlying26 o0
  rw [hcs0] at r0
  have hlen0 := (r0.struct Try.underlying26).1
  rw [cells_26] at hlen0
  obtain ⟨c0_0, c0_1, c0_2, rfl⟩ : ∃ c0_0 c0_1 c0_2, cs0 = [c0_0, c0_1, c0_2] := by
    match cs0, hlen0 with
    | [c0_0, c0_1, c0_2], _ => exact ⟨c0_0, c0_1, c0_2, rfl⟩
  obtain ⟨_, hf_0⟩ := r0.struct Try.underlying26
  have f_0_0 : Reads Try.prog W 22 [c0_0] := by simpa [cells_22] using hf_0 0 _ rfl
  have row_0_0 : ∀ row, row.length = 3 → Reads Try.prog W 130 row → ∃ x, row = encSlot x ∧ okSlot x ∧ ∀ I ∈ inSlot x, I.ra (fun _ => True) W := by
    intro row hl hr_0_0
    match row, hl with
    | [q_0_0_0, q_0_0_1, q_0_0_2], _ =>
      obtain ⟨_, hf_0_0e⟩ := hr_0_0.struct Try.underlying130
      have f_0_0e_0 : Reads Try.prog W 3 [q_0_0_0] := by simpa [cells_3] using hf_0_0e 0 _ rfl
      obtain ⟨i_0_0e_0, e_0_0e_0, h_0_0e_0, g_0_0e_0⟩ := f_0_0e_0.i64 Try.underlying3
      cases e_0_0e_0
      have f_0_0e_1 : Reads Try.prog W 60 [q_0_0_1] := by simpa [cells_60] using hf_0_0e 1 _ rfl
      obtain ⟨a_0_0e_1, n_0_0e_1, c_0_0e_1, l_0_0e_1, e_0_0e_1, v_0_0e_1⟩ := rdA_of Try.underlying60 cells_153 (by decide) (cell_row Try.underlying153 rfl rfl rfl rfl cells_9 cells_9 Try.underlying9 Try.underlying9) f_0_0e_1
      cases e_0_0e_1
      have f_0_0e_2 : Reads Try.prog W 4 [q_0_0_2] := by simpa [cells_4] using hf_0_0e 2 _ rfl
      obtain ⟨b_0_0e_2, e_0_0e_2⟩ := f_0_0e_2.bool Try.underlying4
      cases e_0_0e_2
      refine ⟨(⟨(⟨i_0_0e_0, l_0_0e_1, b_0_0e_2⟩ : SlotD), a_0_0e_1, n_0_0e_1, c_0_0e_1⟩ : SlotH), rfl, ⟨h_0_0e_0, g_0_0e_0⟩, fun I hI => ?_⟩
      simp only [inSlot, List.mem_cons, List.not_mem_nil, or_false] at hI
      rcases hI with rfl
      · exact v_0_0e_1
  obtain ⟨a_0_0, n_0_0, c_0_0, l_0_0, e_0_0, v_0_0, u_0_0⟩ := rdN_of (inns := inSlot) Try.underlying22 cells_130 (by decide) row_0_0 f_0_0
  cases e_0_0
  have f_0_1 : Reads Try.prog W 24 [c0_1, c0_2] := by simpa [cells_24] using hf_0 1 _ rfl
  obtain ⟨_, hf_0_1⟩ := f_0_1.struct Try.underlying24
  have f_0_1_0 : Reads Try.prog W 9 [c0_1] := by simpa [cells_9] using hf_0_1 0 _ rfl
  obtain ⟨s_0_1_0, e_0_1_0, h_0_1_0⟩ := f_0_1_0.string Try.underlying9
  cases e_0_1_0
  have f_0_1_1 : Reads Try.prog W 3 [c0_2] := by simpa [cells_3] using hf_0_1 1 _ rfl
  obtain ⟨i_0_1_1, e_0_1_1, h_0_1_1, g_0_1_1⟩ := f_0_1_1.i64 Try.underlying3
  cases e_0_1_1
  exact (laws_FnExactFoldEnd_c (w := W) (H := fun _ => True) (aD := (⟨l_0_0, (⟨s_0_1_0, i_0_1_1⟩ : JouD)⟩ : DiskH)) v_0_0 u_0_0 (maxLen_le h_0_1_0) ⟨h_0_1_1, g_0_1_1⟩).mono fun e W' ⟨h1, h2⟩ => ⟨h1, h2.bl⟩
theorem own : ownKnob Try.prog.godebug = none := by kernel_rfl
theorem laidOut : laidOutB Try.prog = true := by kernel_rfl
theorem readable : ∀ t ∈ Try.f6.params.toList, Try.prog.readableRec t = true ∧ t < Try.prog.types.size := of_decide_eq_true (by kernel_rfl)
theorem lifted (os : Os) (started : os.Started) (H : Type) (enc : TypeId × Value → H) :
    ReturnsInHanded {} Try.checked os 6 .any (Rows.fnExactFoldEndSpec.pre6 enc Try.prog Try.f6 Rows.fnExactFoldEndRow.domain false) (Rows.fnExactFoldEndSpec.post enc Try.prog Try.f6 false true false false) := by
  refine returnsInHanded_of_change (C := Try.checked) own started (by kernel_rfl) Try.func6
    (ChangeSpec.witness6 (enc := enc) (C := Try.checked) false ⟨#[], #[.agg #[.slice none 0 0, .string (⟨#[]⟩ : ByteArray), .int .i64 0]], []⟩ 8 (by kernel_rfl) (by kernel_rfl) (by kernel_rfl) (by kernel_rfl)) ?_
  intro W base args ds gs before hval hW _ _
  refine law_contract laidOut readable Try.underlying4 rfl rfl ?_ called H enc false true false false W args ds gs before hval hW
  intro H ds hd
  match ds, hd with
  | [a], _ => rfl
theorem proved : Rows.FnExactFoldEndSaid :=
  OpenClaim.holds_of_wide 6 Try.f6 rfl rfl rfl rfl rfl rfl rfl ⟨rfl, rfl, rfl, rfl, rfl⟩ rfl rfl rfl rfl rfl (by kernel_rfl) Try.func6 (by kernel_rfl)
    (of_decide_eq_true (by kernel_rfl)) (by unfold Func.isWrapper; first | (rw [if_pos (by decide +kernel)]; kernel_rfl) | (rw [if_neg (by decide +kernel)]; exact ⟨rfl, rfl⟩))
    (fun os started H enc _ => lifted os started H enc)
end Go.Proofs.Ytgfilegkabbliaa.foldend
