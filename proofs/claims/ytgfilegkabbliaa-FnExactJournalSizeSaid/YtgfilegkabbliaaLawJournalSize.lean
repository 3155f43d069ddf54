/-
  PROVED HERE: whatever the input, the statement laws.FnExactJournalSize returns true: the program's JournalSize and the reference's give equal results and alter nothing of their arguments. No condition.
-/
import Derived.Test.YtgfilegkabbliaaGenNsa
import Derived.Test.YtgfilegkabbliaaGenNsb
import Derived.Test.YtgfilegkabbliaaLawN
namespace Go.Proofs.Ytgfilegkabbliaa
open Go.ChangeShapes Go.WideShapes Go.ChangeAt Go.RowKit
set_option maxRecDepth 100000
set_option maxHeartbeats 1000000
theorem laws_FnExactJournalSize_c {w : World} {H : Nat → Prop} {aD : DiskH} {aD_slots_a : Option Addr} {aD_slots_n aD_slots_c : Nat} (v_aD_slots : RdA 3 encSlot okSlot H w (.slice aD_slots_a aD_slots_n aD_slots_c) aD.slots) (u_aD_slots : NRa inSlot H w aD.slots) (h_aD_journal_text : okS aD.journal.text) (h_aD_journal_sure : i64ok aD.journal.sure) :
    Calls Try.prog 3 #[.agg #[.slice aD_slots_a aD_slots_n aD_slots_c, .string aD.journal.text, .int .i64 aD.journal.sure]] w fun e w' => e = .returned (.bool true) ∧ Mv [] w [] w' := by
 have uU : True := (fun _ => trivial) h_aD_journal_sure
 clear uU
 have V_v_aD_slots : RdA 3 encSlot okSlot (V H w []) w (.slice aD_slots_a aD_slots_n aD_slots_c) aD.slots := RdA.start v_aD_slots (fun _ _ => fps_nil _)
 obtain ⟨ln_aD_slots, le_aD_slots, mx_aD_slots, ni_aD_slots⟩ := RdA.inv v_aD_slots
 have V_u_aD_slots : NRa inSlot (V H w []) w aD.slots := NRa.start u_aD_slots (fun _ _ => fps_nil _)
 refine calls_enter 27 Try.func3 rfl Try.ntmps3 (Nat.le_of_ble_eq_true rfl) (fun _ F0i => ?_)
 have F0 : Fr 27 [(0, .agg #[.slice aD_slots_a aD_slots_n aD_slots_c, .string aD.journal.text, .int .i64 aD.journal.sure])] _ := F0i
 clear F0i
 refine wp_seq (wp_region_lit (l_op (f_box F0 (At.nil w) rfl rfl rfl (F0.ev 0 rfl) rfl rfl fun b1 _ w1 F2 S1 => ?_)))
 refine l_op (f_val F2 rfl rfl (r_assign rfl rfl) rfl fun _ F3 => ?_)
 have F4 : Fr 27 [(2, .bool false), (1, .pointer (some ⟨b1, 0, none⟩))] _ := F3.cut rfl
 clear F0 F2 F3
 have T5 : Mv _ _ [bx b1 [.slice aD_slots_a aD_slots_n aD_slots_c, .string aD.journal.text, .int .i64 aD.journal.sure] 26] _ := S1
 refine s_end (x_normal (wp_seq (wp_region_lit (l_op (f_val F4 rfl rfl (r_assign rfl rfl) rfl fun _ F6 => ?_)))))
 have F7 : Fr 27 [(3, .int .i64 1048576), (1, .pointer (some ⟨b1, 0, none⟩))] _ := F6.cut rfl
 clear F4 F6
 refine s_end (x_normal (wp_seq (wp_region_lit (l_op (f_val (v := .agg #[.slice aD_slots_a aD_slots_n aD_slots_c, .string aD.journal.text, .int .i64 aD.journal.sure]) F7 rfl rfl (r_loadB T5.at' 0 TI_26 rfl rfl (F7.ev 1 rfl) rfl rfl (fun h => nomatch h) rfl) rfl fun _ F8 => ?_)))))
 refine l_op (f_mv F8 rfl rfl rfl rfl rfl fun _ F9 => ?_)
 refine l_op (f_call F9 CF_11 rfl rfl rfl rfl (lc (F9.ev 7 rfl) (lc (F9.ev 8 rfl) rfl)) (laws_szDisk_c (a := aD) (left := 1048576) (RdA.mv (Nat.succ_pos _) V_v_aD_slots T5) (NRa.mv V_u_aD_slots T5) h_aD_journal_text (by first | assumption | exact ⟨by omega, by omega⟩ | (unfold i64ok at *; omega) | (simp only [i64ok]; omega)) (by first | assumption | exact ⟨by omega, by omega⟩ | (unfold i64ok at *; omega)) (by first | assumption | omega | (simp <;> omega)) (by first | assumption | omega | (simp <;> omega))) ?_)
 rintro _ w10 ⟨rfl, m10, q10_0⟩
 refine ⟨_, rfl, fun _ F11 => ?_⟩
 have S10 := At.frame0 T5.at' m10
 clear m10
 refine l_op (f_as F11 rfl rfl rfl rfl rfl fun _ F12 => ?_)
 have F13 : Fr 27 [(3, .int .i64 (subOr 1048576 (szDiskH aD))), (1, .pointer (some ⟨b1, 0, none⟩))] _ := F12.cut rfl
 clear F7 F8 F9 F11 F12
 have T14 : Mv _ _ [bx b1 [.slice aD_slots_a aD_slots_n aD_slots_c, .string aD.journal.text, .int .i64 aD.journal.sure] 26] _ := S10
 refine s_end (x_normal (wp_seq (wp_seq (wp_region_lit (l_op (f_mv F13 rfl rfl rfl rfl rfl fun _ F15 => ?_))))))
 refine l_op (f_val F15 rfl rfl (r_cmp (b := decide ((subOr 1048576 (szDiskH aD)) < 0)) (.inr (.inr (.inl rfl))) rfl (F15.ev 10 rfl) rfl (dec_of (by omega))) rfl fun _ F16 => ?_)
 have F17 : Fr 27 [(11, .bool (decide ((subOr 1048576 (szDiskH aD)) < 0))), (1, .pointer (some ⟨b1, 0, none⟩))] _ := F16.cut rfl
 clear F13 F15 F16
 refine s_end (x_normal (x_cond (p := (subOr 1048576 (szDiskH aD)) < 0) (F17.ev 11 rfl) (fun h18 => ?_) (fun h18 => ?_)))
 · skip
   refine wp_seq (wp_region_lit (l_op (f_val F17 rfl rfl (r_assign rfl rfl) rfl fun _ F19 => ?_)))
   have F20 : Fr 27 [(2, .bool true)] _ := F19.cut rfl
   clear F17 F19
   refine s_end (x_normal (wp_ret (x_then_ret ?_)))
   refine x_done (v := .bool true) F20 (results_1 Try.results3 (.tmp (F20.ev 2 rfl))) ?_
   exact ⟨rfl, (Mv.pick (T5.trans T14) [] rfl)⟩
 · skip
   refine wp_skip (x_normal (wp_seq (wp_region_lit (l_op (f_val (v := .agg #[.slice aD_slots_a aD_slots_n aD_slots_c, .string aD.journal.text, .int .i64 aD.journal.sure]) F17 rfl rfl (r_loadB T14.at' 0 TI_26 rfl rfl (F17.ev 1 rfl) rfl rfl (fun h => nomatch h) rfl) rfl fun _ F21 => ?_)))))
   refine l_op (f_call F21 CF_13 rfl rfl rfl rfl (lc (F21.ev 12 rfl) rfl) (laws_toDisk_c (a := aD) (RdA.mv (Nat.succ_pos _) V_v_aD_slots (T5.trans T14)) (NRa.mv V_u_aD_slots (T5.trans T14)) h_aD_journal_text (by first | assumption | exact ⟨by omega, by omega⟩ | (unfold i64ok at *; omega) | (simp only [i64ok]; omega)) (by exact (diskFits (n := 1048576) (z := 1048576) (by decide) (by assumption)).1)) ?_)
   rintro _ w22 ⟨D_22, r0_slots_a_22, r0_slots_n_22, r0_slots_c_22, rfl, m22, ok_r0_journal_text_22, q22_0, q22_1, q22_2⟩
   refine ⟨_, rfl, fun _ F23 => ?_⟩
   have S22 : Mv _ _ [ow 99 3 encSlot okSlot (.slice r0_slots_a_22 r0_slots_n_22 r0_slots_c_22) D_22, gr inSlot D_22, bx b1 [.slice aD_slots_a aD_slots_n aD_slots_c, .string aD.journal.text, .int .i64 aD.journal.sure] 26] _ := At.frame T14.at' [] rfl m22
   obtain ⟨lo22_0, lp22_0, lq22_0⟩ := At.ownInv S22.at' ET_29.hk 0 rfl
   clear m22
   refine l_op (f_call F23 CF_12 rfl rfl rfl rfl (lc (F23.ev 13 rfl) rfl) (spec_JournalSize_c (H := fun _ => True) (d := (⟨D_22, aD.journal⟩ : DiskH)) (At.rd S22.at' ET_29.hk 0 rfl) (At.nrd S22.at' 1 rfl) ok_r0_journal_text_22 (by first | assumption | exact ⟨by omega, by omega⟩ | (unfold i64ok at *; omega) | (simp only [i64ok]; omega))) ?_)
   rintro _ w24 ⟨rfl, m24⟩
   refine ⟨_, rfl, fun _ F25 => ?_⟩
   have S24 := At.frame0 S22.at' m24
   clear m24
   refine l_op (f_as F25 rfl rfl rfl rfl rfl fun _ F26 => ?_)
   have F27 : Fr 27 [(4, .int .i64 (((⟨D_22, aD.journal⟩ : DiskH).journal.text.size : Nat) : Int)), (1, .pointer (some ⟨b1, 0, none⟩))] _ := F26.cut rfl
   clear F17 F21 F23 F25 F26
   have T28 : Mv _ _ [ow 99 3 encSlot okSlot (.slice r0_slots_a_22 r0_slots_n_22 r0_slots_c_22) D_22, gr inSlot D_22, bx b1 [.slice aD_slots_a aD_slots_n aD_slots_c, .string aD.journal.text, .int .i64 aD.journal.sure] 26] _ := S24
   refine s_end (x_normal (wp_seq (wp_region_lit (l_op (f_val (v := .agg #[.slice aD_slots_a aD_slots_n aD_slots_c, .string aD.journal.text, .int .i64 aD.journal.sure]) F27 rfl rfl (r_loadB T28.at' 2 TI_26 rfl rfl (F27.ev 1 rfl) rfl rfl (fun h => nomatch h) rfl) rfl fun _ F29 => ?_)))))
   refine l_op (f_call F29 CF_13 rfl rfl rfl rfl (lc (F29.ev 15 rfl) rfl) (laws_toDisk_c (a := aD) (RdA.mv (Nat.succ_pos _) V_v_aD_slots (T5.trans (T14.trans (S22.trans T28)))) (NRa.mv V_u_aD_slots (T5.trans (T14.trans (S22.trans T28)))) h_aD_journal_text (by first | assumption | exact ⟨by omega, by omega⟩ | (unfold i64ok at *; omega) | (simp only [i64ok]; omega)) (by exact (diskFits (n := 1048576) (z := 1048576) (by decide) (by assumption)).1)) ?_)
   rintro _ w30 ⟨D_30, r0_slots_a_30, r0_slots_n_30, r0_slots_c_30, rfl, m30, ok_r0_journal_text_30, q30_0, q30_1, q30_2⟩
   refine ⟨_, rfl, fun _ F31 => ?_⟩
   have S30 : Mv _ _ [ow 99 3 encSlot okSlot (.slice r0_slots_a_30 r0_slots_n_30 r0_slots_c_30) D_30, gr inSlot D_30, ow 99 3 encSlot okSlot (.slice r0_slots_a_22 r0_slots_n_22 r0_slots_c_22) D_22, gr inSlot D_22, bx b1 [.slice aD_slots_a aD_slots_n aD_slots_c, .string aD.journal.text, .int .i64 aD.journal.sure] 26] _ := At.frame T28.at' [] rfl m30
   obtain ⟨lo30_0, lp30_0, lq30_0⟩ := At.ownInv S30.at' ET_29.hk 0 rfl
   clear m30
   refine l_op (f_alloc F31 S30.at' ZI_32 rfl rfl rfl rfl rfl fun b32 _ w32 F33 S32 => ?_)
   refine l_op (s_store S32.at' 0 TI_32 rfl rfl rfl rfl rfl (F33.ev 5 rfl) (F33.ev 16 rfl) rfl rfl rfl rfl rfl fun w34 S34 => ?_)
   have F35 : Fr 27 [(5, .pointer (some ⟨b32, 0, none⟩)), (16, .agg #[.slice r0_slots_a_30 r0_slots_n_30 r0_slots_c_30, .string aD.journal.text, .int .i64 aD.journal.sure]), (4, .int .i64 (((⟨D_22, aD.journal⟩ : DiskH).journal.text.size : Nat) : Int)), (1, .pointer (some ⟨b1, 0, none⟩))] _ := F33.cut rfl
   clear F27 F29 F31 F33
   have T36 : Mv _ _ [bx b32 [.slice r0_slots_a_30 r0_slots_n_30 r0_slots_c_30, .string aD.journal.text, .int .i64 aD.journal.sure] 32, ow 99 3 encSlot okSlot (.slice r0_slots_a_30 r0_slots_n_30 r0_slots_c_30) D_30, gr inSlot D_30, ow 99 3 encSlot okSlot (.slice r0_slots_a_22 r0_slots_n_22 r0_slots_c_22) D_22, gr inSlot D_22, bx b1 [.slice aD_slots_a aD_slots_n aD_slots_c, .string aD.journal.text, .int .i64 aD.journal.sure] 26] _ := S34
   refine s_end (x_normal (wp_seq (wp_region_lit (l_op (f_val (v := .agg #[.slice r0_slots_a_30 r0_slots_n_30 r0_slots_c_30, .string aD.journal.text, .int .i64 aD.journal.sure]) F35 rfl rfl (r_loadB T36.at' 0 TI_32 rfl rfl (F35.ev 5 rfl) rfl rfl (fun h => nomatch h) rfl) rfl fun _ F37 => ?_)))))
   refine l_op (f_call F37 CF_14 rfl rfl rfl rfl (lc (F37.ev 17 rfl) rfl) (impl_JournalSize_c (H := fun _ => True) (d := (⟨D_30, aD.journal⟩ : DiskH)) (At.rd T36.at' ET_29.hk 1 rfl) (At.nrd T36.at' 2 rfl) ok_r0_journal_text_30 (by first | assumption | exact ⟨by omega, by omega⟩ | (unfold i64ok at *; omega) | (simp only [i64ok]; omega))) ?_)
   rintro _ w38 ⟨rfl, m38⟩
   refine ⟨_, rfl, fun _ F39 => ?_⟩
   have S38 := At.frame0 T36.at' m38
   clear m38
   refine l_op (f_as F39 rfl rfl rfl rfl rfl fun _ F40 => ?_)
   have F41 : Fr 27 [(6, .int .i64 (((⟨D_30, aD.journal⟩ : DiskH).journal.text.size : Nat) : Int)), (5, .pointer (some ⟨b32, 0, none⟩)), (4, .int .i64 (((⟨D_22, aD.journal⟩ : DiskH).journal.text.size : Nat) : Int)), (1, .pointer (some ⟨b1, 0, none⟩))] _ := F40.cut rfl
   clear F35 F37 F39 F40
   have T42 : Mv _ _ [bx b32 [.slice r0_slots_a_30 r0_slots_n_30 r0_slots_c_30, .string aD.journal.text, .int .i64 aD.journal.sure] 32, ow 99 3 encSlot okSlot (.slice r0_slots_a_30 r0_slots_n_30 r0_slots_c_30) D_30, gr inSlot D_30, ow 99 3 encSlot okSlot (.slice r0_slots_a_22 r0_slots_n_22 r0_slots_c_22) D_22, gr inSlot D_22, bx b1 [.slice aD_slots_a aD_slots_n aD_slots_c, .string aD.journal.text, .int .i64 aD.journal.sure] 26] _ := S38
   refine s_end (x_normal (wp_seq (wp_seq (wp_region_lit (l_op (f_mv F41 rfl rfl rfl rfl rfl fun _ F43 => ?_))))))
   refine l_op (f_mv F43 rfl rfl rfl rfl rfl fun _ F44 => ?_)
   refine l_op (f_val F44 rfl rfl (r_cmp (b := false) (.inr (.inl rfl)) rfl (F44.ev 19 rfl) (F44.ev 20 rfl) (cmp_nes _)) rfl fun _ F45 => ?_)
   have F46 : Fr 27 [(21, .bool false), (5, .pointer (some ⟨b32, 0, none⟩)), (1, .pointer (some ⟨b1, 0, none⟩))] _ := F45.cut rfl
   clear F41 F43 F44 F45
   refine s_end (x_normal (wp_cond_false (F46.ev 21 rfl) (wp_skip (x_normal (wp_seq (wp_seq ?_))))))
   refine x_draw (fun aZ wZ => ∃ (D_51 : List SlotH), ∃ (r0_slots_a_51 : Option Addr), ∃ (r0_slots_n_51 : Nat), ∃ (r0_slots_c_51 : Nat), Fr 27 [(26, .bool false)] aZ ∧ Mv [bx b32 [.slice r0_slots_a_30 r0_slots_n_30 r0_slots_c_30, .string aD.journal.text, .int .i64 aD.journal.sure] 32, ow 99 3 encSlot okSlot (.slice r0_slots_a_30 r0_slots_n_30 r0_slots_c_30) D_30, gr inSlot D_30, ow 99 3 encSlot okSlot (.slice r0_slots_a_22 r0_slots_n_22 r0_slots_c_22) D_22, gr inSlot D_22, bx b1 [.slice aD_slots_a aD_slots_n aD_slots_c, .string aD.journal.text, .int .i64 aD.journal.sure] 26] w38 [bx b32 [.slice r0_slots_a_30 r0_slots_n_30 r0_slots_c_30, .string aD.journal.text, .int .i64 aD.journal.sure] 32, ow 99 3 encSlot okSlot (.slice r0_slots_a_30 r0_slots_n_30 r0_slots_c_30) D_30, gr inSlot D_30, ow 99 3 encSlot okSlot (.slice r0_slots_a_22 r0_slots_n_22 r0_slots_c_22) D_22, gr inSlot D_22, bx b1 [.slice aD_slots_a aD_slots_n aD_slots_c, .string aD.journal.text, .int .i64 aD.journal.sure] 26, ow 99 3 encSlot okSlot (.slice r0_slots_a_51 r0_slots_n_51 r0_slots_c_51) D_51, gr inSlot D_51] wZ ∧ okS aD.journal.text ∧ (D_51.map SlotH.d = aD.slots.map SlotH.d) ∧ (D_51.length = aD.slots.length) ∧ (i64ok aD.journal.sure)) [bx b32 [.slice r0_slots_a_30 r0_slots_n_30 r0_slots_c_30, .string aD.journal.text, .int .i64 aD.journal.sure] 32, bx b1 [.slice aD_slots_a aD_slots_n aD_slots_c, .string aD.journal.text, .int .i64 aD.journal.sure] 26] mixed T42.at' (listed := #[false, false, false, false, false]) rfl (fun w48 S48 => ?_) [0, 5] rfl ?_
   · skip
     refine g_take (v := .agg #[.slice r0_slots_a_30 r0_slots_n_30 r0_slots_c_30, .string aD.journal.text, .int .i64 aD.journal.sure]) F46 rfl (i := 0) (listed' := #[true, false, false, false, false]) rfl (by kernel_rfl) (by kernel_rfl) (by kernel_rfl) (fun _ _ _ h => h) (Sd.of (Mv.refl S48.at') [0, 5] rfl) rfl rfl rfl rfl (fun _ hz => (r_loadX (hz.bx 0 rfl) TI_32 rfl (F46.ev 5 rfl) rfl rfl (fun h => nomatch h) rfl)) fun _ F49 => ?_
     refine g_take (v := .agg #[.slice aD_slots_a aD_slots_n aD_slots_c, .string aD.journal.text, .int .i64 aD.journal.sure]) F49 rfl (i := 1) (listed' := #[true, true, false, false, false]) rfl (by kernel_rfl) (by kernel_rfl) (by kernel_rfl) (fun _ _ _ h => h) (Sd.of (Mv.refl S48.at') [0, 5] rfl) rfl rfl rfl rfl (fun _ hz => (r_loadX (hz.bx 1 rfl) TI_26 rfl (F49.ev 1 rfl) rfl rfl (fun h => nomatch h) rfl)) fun _ F50 => ?_
     refine d_one (i := 2) (listed' := #[true, true, true, false, false]) rfl (by kernel_rfl) rfl rfl ?_
     refine f_call F50 CF_13 rfl rfl rfl rfl (lc (F50.ev 23 rfl) rfl) (laws_toDisk_c (a := aD) (RdA.mv (Nat.succ_pos _) V_v_aD_slots (T5.trans (T14.trans (S22.trans (T28.trans (S30.trans (S32.trans (T36.trans (T42.trans S48))))))))) (NRa.mv V_u_aD_slots (T5.trans (T14.trans (S22.trans (T28.trans (S30.trans (S32.trans (T36.trans (T42.trans S48))))))))) h_aD_journal_text (by first | assumption | exact ⟨by omega, by omega⟩ | (unfold i64ok at *; omega) | (simp only [i64ok]; omega)) (by exact (diskFits (n := 1048576) (z := 1048576) (by decide) (by assumption)).1)) ?_
     rintro _ w51 ⟨D_51, r0_slots_a_51, r0_slots_n_51, r0_slots_c_51, rfl, m51, ok_r0_journal_text_51, q51_0, q51_1, q51_2⟩
     refine ⟨_, rfl, fun _ F52 => ?_⟩
     have S51 : Mv _ _ [ow 99 3 encSlot okSlot (.slice r0_slots_a_51 r0_slots_n_51 r0_slots_c_51) D_51, gr inSlot D_51, bx b32 [.slice r0_slots_a_30 r0_slots_n_30 r0_slots_c_30, .string aD.journal.text, .int .i64 aD.journal.sure] 32, ow 99 3 encSlot okSlot (.slice r0_slots_a_30 r0_slots_n_30 r0_slots_c_30) D_30, gr inSlot D_30, ow 99 3 encSlot okSlot (.slice r0_slots_a_22 r0_slots_n_22 r0_slots_c_22) D_22, gr inSlot D_22, bx b1 [.slice aD_slots_a aD_slots_n aD_slots_c, .string aD.journal.text, .int .i64 aD.journal.sure] 26] _ := At.frame S48.at' [] rfl m51
     obtain ⟨lo51_0, lp51_0, lq51_0⟩ := At.ownInv S51.at' ET_29.hk 0 rfl
     clear m51
     refine ⟨Sd.of S51 [2, 7] rfl, ?_⟩
     refine d_one (i := 3) (listed' := #[true, true, true, true, false]) rfl (by kernel_rfl) rfl rfl ?_
     refine f_call F52 CF_15 rfl rfl rfl rfl (lc (F52.ev 22 rfl) (lc (F52.ev 24 rfl) rfl)) (laws_eqDisk_c (H := fun _ => True) (a := (⟨D_30, aD.journal⟩ : DiskH)) (b := (⟨D_51, aD.journal⟩ : DiskH)) (At.rd S51.at' ET_29.hk 3 rfl) (At.nrd S51.at' 4 rfl) ok_r0_journal_text_30 (by first | assumption | exact ⟨by omega, by omega⟩ | (unfold i64ok at *; omega) | (simp only [i64ok]; omega)) (At.rd S51.at' ET_29.hk 0 rfl) (At.nrd S51.at' 1 rfl) ok_r0_journal_text_51 (by first | assumption | exact ⟨by omega, by omega⟩ | (unfold i64ok at *; omega) | (simp only [i64ok]; omega)) (by exact (same2 (by assumption) (by assumption))) (by rfl)) ?_
     rintro _ w53 ⟨rfl, m53⟩
     refine ⟨_, rfl, fun _ F54 => ?_⟩
     have S53 := At.frame0 S51.at' m53
     clear m53
     refine ⟨Sd.of (S51.trans S53) [2, 7] rfl, ?_⟩
     refine g_take F54 rfl (i := 4) (listed' := #[true, true, true, true, true]) rfl (by kernel_rfl) (by kernel_rfl) (by kernel_rfl) (fun _ _ _ h => h) (Sd.of (S51.trans S53) [2, 7] rfl) rfl rfl rfl rfl (fun _ hz => (r_not rfl (F54.ev 25 rfl))) fun _ F55 => ?_
     refine wpAnyH_done (by kernel_rfl) (x_normal ?_) _
     exact ⟨D_51, r0_slots_a_51, r0_slots_n_51, r0_slots_c_51, F55.cut rfl, ((S48.trans (S51.trans S53)).pick [2, 3, 4, 5, 6, 7, 0, 1] rfl), ok_r0_journal_text_30, q51_0, q51_1, q51_2⟩
   · rintro a56 w56 ⟨D_51, r0_slots_a_51, r0_slots_n_51, r0_slots_c_51, F56, S56, ko56_0, kp56_0, kp56_1, kp56_2⟩
     refine x_normal (wp_cond_false (F56.ev 26 rfl) (wp_skip (x_normal (wp_seq (wp_region_lit (l_op (f_val F56 rfl rfl (r_assign rfl rfl) rfl fun _ F57 => ?_)))))))
     have F58 : Fr 27 [(2, .bool true)] _ := F57.cut rfl
     clear F56 F57
     refine s_end (x_normal (wp_ret ?_))
     refine x_done (v := .bool true) F58 (results_1 Try.results3 (.tmp (F58.ev 2 rfl))) ?_
     exact ⟨rfl, (Mv.pick (T5.trans (T14.trans (S22.trans (T28.trans (S30.trans (S32.trans (T36.trans (T42.trans S56)))))))) [] rfl)⟩
end Go.Proofs.Ytgfilegkabbliaa
namespace Go.Proofs.Ytgfilegkabbliaa.journalsize
open Go.ChangeShapes Go.WideShapes Go.ChangeAt Go.RowKit
set_option maxRecDepth 100000
theorem cells_3 : Try.prog.cellsOf 3 = 1 := by kernel_rfl
theorem cells_4 : Try.prog.cellsOf 4 = 1 := by kernel_rfl
theorem cells_9 : Try.prog.cellsOf 9 = 1 := by kernel_rfl
theorem cells_22 : Try.prog.cellsOf 22 = 1 := by kernel_rfl
theorem cells_24 : Try.prog.cellsOf 24 = 2 := by kernel_rfl
theorem cells_26 : Try.prog.cellsOf 26 = 3 := by kernel_rfl
theorem cells_60 : Try.prog.cellsOf 60 = 1 := by kernel_rfl
theorem cells_130 : Try.prog.cellsOf 130 = 3 := by kernel_rfl
theorem cells_153 : Try.prog.cellsOf 153 = 2 := by kernel_rfl
theorem called (W : World) (args : Array Value) (h : ArgsRead Try.prog W Try.f3.params.toList args.toList) : Calls Try.prog 3 args W fun e W' => e = .returned (.bool true) ∧ Bl W W' := by
  obtain ⟨hl, h⟩ := h
  rw [Try.params3] at hl h
  obtain ⟨v0, rfl⟩ : ∃ v0, args = #[v0] := by
    obtain ⟨l⟩ := args
    match l, hl with
    | [v0], _ => exact ⟨v0, rfl⟩
  obtain ⟨r0, o0⟩ := h 0 _ v0 rfl rfl
  obtain ⟨cs0, rfl, hcs0⟩ := agg_of_okWide Try.underlying26 o0
  rw [hcs0] at r0
  have hlen0 := (r0.struct Try.underlying26).1
  rw [cells_26] at hlen0
  obtain ⟨c0_0, c0_1, c0_2, rfl⟩ : ∃ c0_0 c0_1 c0_2, cs0 = [c0_0, c0_1, c0_2] := by
    match cs0, hlen0 with
    | [c0_0, c0_1, c0_2], _ => exact ⟨c0_0, c0_1, c0_2, rfl⟩
  obtain ⟨_, hf_0⟩ := r0.struct Try.underlying26
  have f_0_0 : Reads Try.prog W 22 [c0_0] := by simpa [cells_22] using hf_0 0 _ rfl
  have row_0_0 : ∀ row, row.length = 3 → Reads Try.prog W 130 row → ∃ x, row = encSlot x ∧ okSlot x ∧ ∀ I ∈ inSlot x, I.ra (fun _ => True) W := by
    intro row hl hr_0_0
    match row, hl with
    | [q_0_0_0, q_0_0_1, q_0_0_2], _ =>
      obtain ⟨_, hf_0_0e⟩ := hr_0_0.struct Try.underlying130
      have f_0_0e_0 : Reads Try.prog W 3 [q_0_0_0] := by simpa [cells_3] using hf_0_0e 0 _ rfl
      obtain ⟨i_0_0e_0, e_0_0e_0, h_0_0e_0, g_0_0e_0⟩ := f_0_0e_0.i64 Try.underlying3
      cases e_0_0e_0
      have f_0_0e_1 : Reads Try.prog W 60 [q_0_0_1] := by simpa [cells_60] using hf_0_0e 1 _ rfl
      obtain ⟨a_0_0e_1, n_0_0e_1, c_0_0e_1, l_0_0e_1, e_0_0e_1, v_0_0e_1⟩ := rdA_of Try.underlying60 cells_153 (by decide) (cell_row Try.underlying153 rfl rfl rfl rfl cells_9 cells_9 Try.underlying9 Try.underlying9) f_0_0e_1
      cases e_0_0e_1
      have f_0_0e_2 : Reads Try.prog W 4 [q_0_0_2] := by simpa [cells_4] using hf_0_0e 2 _ rfl
      obtain ⟨b_0_0e_2, e_0_0e_2⟩ := f_0_0e_2.bool Try.underlying4
      cases e_0_0e_2
      refine ⟨(⟨(⟨i_0_0e_0, l_0_0e_1, b_0_0e_2⟩ : SlotD), a_0_0e_1, n_0_0e_1, c_0_0e_1⟩ : SlotH), rfl, ⟨h_0_0e_0, g_0_0e_0⟩, fun I hI => ?_⟩
      simp only [inSlot, List.mem_cons, List.not_mem_nil, or_false] at hI
      rcases hI with rfl
      · exact v_0_0e_1
  obtain ⟨a_0_0, n_0_0, c_0_0, l_0_0, e_0_0, v_0_0, u_0_0⟩ := rdN_of (inns := inSlot) Try.underlying22 cells_130 (by decide) row_0_0 f_0_0
  cases e_0_0
  have f_0_1 : Reads Try.prog W 24 [c0_1, c0_2] := by simpa [cells_24] using hf_0 1 _ rfl
  obtain ⟨_, hf_0_1⟩ := f_0_1.struct Try.underlying24
  have f_0_1_0 : Reads Try.prog W 9 [c0_1] := by simpa [cells_9] using hf_0_1 0 _ rfl
  obtain ⟨s_0_1_0, e_0_1_0, h_0_1_0⟩ := f_0_1_0.string Try.underlying9
  cases e_0_1_0
  have f_0_1_1 : Reads Try.prog W 3 [c0_2] := by simpa [cells_3] using hf_0_1 1 _ rfl
  obtain ⟨i_0_1_1, e_0_1_1, h_0_1_1, g_0_1_1⟩ := f_0_1_1.i64 Try.underlying3
  cases e_0_1_1
  exact (laws_FnExactJournalSize_c (w := W) (H := fun _ => True) (aD := (⟨l_0_0, (⟨s_0_1_0, i_0_1_1⟩ : JouD)⟩ : DiskH)) v_0_0 u_0_0 (maxLen_le h_0_1_0) ⟨h_0_1_1, g_0_1_1⟩).mono fun e W' ⟨h1, h2⟩ => ⟨h1, h2.bl⟩
theorem own : ownKnob Try.prog.godebug = none := by kernel_rfl
theorem laidOut : laidOutB Try.prog = true := by kernel_rfl
theorem readable : ∀ t ∈ Try.f3.params.toList, Try.prog.readableRec t = true ∧ t < Try.prog.types.size := of_decide_eq_true (by kernel_rfl)
theorem lifted (os : Os) (started : os.Started) (H : Type) (enc : TypeId × Value → H) :
    ReturnsInHanded {} Try.checked os 3 .any (Rows.fnExactJournalSizeSpec.pre6 enc Try.prog Try.f3 Rows.fnExactJournalSizeRow.domain false) (Rows.fnExactJournalSizeSpec.post enc Try.prog Try.f3 false true false false) := by
  refine returnsInHanded_of_change (C := Try.checked) own started (by kernel_rfl) Try.func3
    (ChangeSpec.witness6 (enc := enc) (C := Try.checked) false ⟨#[], #[.agg #[.slice none 0 0, .string (⟨#[]⟩ : ByteArray), .int .i64 0]], []⟩ 8 (by kernel_rfl) (by kernel_rfl) (by kernel_rfl) (by kernel_rfl)) ?_
  intro W base args ds gs before hval hW _ _
  refine law_contract laidOut readable Try.underlying4 rfl rfl ?_ called H enc false true false false W args ds gs before hval hW
  intro H ds hd
  match ds, hd with
  | [a], _ => rfl
theorem proved : Rows.FnExactJournalSizeSaid :=
  OpenClaim.holds_of_wide 3 Try.f3 rfl rfl rfl rfl rfl rfl rfl ⟨rfl, rfl, rfl, rfl, rfl⟩ rfl rfl rfl rfl rfl (by kernel_rfl) Try.func3 (by kernel_rfl)
    (of_decide_eq_true (by kernel_rfl)) (by unfold Func.isWrapper; first | (rw [if_pos (by decide +kernel)]; kernel_rfl) | (rw [if_neg (by decide +kernel)]; exact ⟨rfl, rfl⟩))
    (fun os started H enc _ => lifted os started H enc)
end Go.Proofs.Ytgfilegkabbliaa.journalsize
