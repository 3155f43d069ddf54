/-
  PROVED HERE: whatever the input, the statement laws.FnExactFallDisk returns true: the program's FallDisk and the reference's give equal results and alter nothing of their arguments. No condition.
-/
import Derived.Test.YtgfilegkabbliaaGenNsa
import Derived.Test.YtgfilegkabbliaaGenNsg
import Derived.Test.YtgfilegkabbliaaLawN
import Derived.Test.YtgfilegkabbliaaGenFq
namespace Go.Proofs.Ytgfilegkabbliaa
open Go.ChangeShapes Go.WideShapes Go.ChangeAt Go.RowKit
set_option maxRecDepth 100000
set_option maxHeartbeats 1000000
theorem laws_FnExactFallDisk_c {w : World} {H : Nat → Prop} {aD : DiskH} {aD_slots_a : Option Addr} {aD_slots_n aD_slots_c : Nat} {aKeep : Int} (v_aD_slots : RdA 3 encSlot okSlot H w (.slice aD_slots_a aD_slots_n aD_slots_c) aD.slots) (u_aD_slots : NRa inSlot H w aD.slots) (h_aD_journal_text : okS aD.journal.text) (h_aD_journal_sure : i64ok aD.journal.sure) (h_aKeep : i64ok aKeep) :
    Calls Try.prog 8 #[.agg #[.slice aD_slots_a aD_slots_n aD_slots_c, .string aD.journal.text, .int .i64 aD.journal.sure], .int .i64 aKeep] w fun e w' => e = .returned (.bool true) ∧ Mv [] w [] w' := by
 have uU : True := (fun _ => trivial) h_aD_journal_sure
 clear uU
 have V_v_aD_slots : RdA 3 encSlot okSlot (V H w []) w (.slice aD_slots_a aD_slots_n aD_slots_c) aD.slots := RdA.start v_aD_slots (fun _ _ => fps_nil _)
 obtain ⟨ln_aD_slots, le_aD_slots, mx_aD_slots, ni_aD_slots⟩ := RdA.inv v_aD_slots
 have V_u_aD_slots : NRa inSlot (V H w []) w aD.slots := NRa.start u_aD_slots (fun _ _ => fps_nil _)
 refine calls_enter 74 Try.func8 rfl Try.ntmps8 (Nat.le_of_ble_eq_true rfl) (fun _ F0i => ?_)
 have F0 : Fr 74 [(0, .agg #[.slice aD_slots_a aD_slots_n aD_slots_c, .string aD.journal.text, .int .i64 aD.journal.sure]), (1, .int .i64 aKeep)] _ := F0i
 clear F0i
 refine wp_seq (wp_region_lit (l_op (f_box F0 (At.nil w) rfl rfl rfl (F0.ev 0 rfl) rfl rfl fun b1 _ w1 F2 S1 => ?_)))
 refine l_op (f_val F2 rfl rfl (r_assign rfl rfl) rfl fun _ F3 => ?_)
 have F4 : Fr 74 [(4, .bool false), (2, .pointer (some ⟨b1, 0, none⟩)), (1, .int .i64 aKeep)] _ := F3.cut rfl
 clear F0 F2 F3
 have T5 : Mv _ _ [bx b1 [.slice aD_slots_a aD_slots_n aD_slots_c, .string aD.journal.text, .int .i64 aD.journal.sure] 26] _ := S1
 refine s_end (x_normal (wp_seq (wp_region_lit (l_op (f_val F4 rfl rfl (r_assign rfl rfl) rfl fun _ F6 => ?_)))))
 have F7 : Fr 74 [(5, .int .i64 1048576), (2, .pointer (some ⟨b1, 0, none⟩)), (1, .int .i64 aKeep)] _ := F6.cut rfl
 clear F4 F6
 refine s_end (x_normal (wp_seq (wp_region_lit (l_op (f_val (v := .agg #[.slice aD_slots_a aD_slots_n aD_slots_c, .string aD.journal.text, .int .i64 aD.journal.sure]) F7 rfl rfl (r_loadB T5.at' 0 TI_26 rfl rfl (F7.ev 2 rfl) rfl rfl (fun h => nomatch h) rfl) rfl fun _ F8 => ?_)))))
 refine l_op (f_mv F8 rfl rfl rfl rfl rfl fun _ F9 => ?_)
 refine l_op (f_call F9 CF_11 rfl rfl rfl rfl (lc (F9.ev 13 rfl) (lc (F9.ev 14 rfl) rfl)) (laws_szDisk_c (a := aD) (left := 1048576) (RdA.mv (Nat.succ_pos _) V_v_aD_slots T5) (NRa.mv V_u_aD_slots T5) h_aD_journal_text (by first | assumption | exact ⟨by omega, by omega⟩ | (unfold i64ok at *; omega) | (simp only [i64ok]; omega)) (by first | assumption | exact ⟨by omega, by omega⟩ | (unfold i64ok at *; omega)) (by first | assumption | omega | (simp <;> omega)) (by first | assumption | omega | (simp <;> omega))) ?_)
 rintro _ w10 ⟨rfl, m10, q10_0⟩
 refine ⟨_, rfl, fun _ F11 => ?_⟩
 have S10 := At.frame0 T5.at' m10
 clear m10
 refine l_op (f_as F11 rfl rfl rfl rfl rfl fun _ F12 => ?_)
 have F13 : Fr 74 [(5, .int .i64 (subOr 1048576 (szDiskH aD))), (2, .pointer (some ⟨b1, 0, none⟩)), (1, .int .i64 aKeep)] _ := F12.cut rfl
 clear F7 F8 F9 F11 F12
 have T14 : Mv _ _ [bx b1 [.slice aD_slots_a aD_slots_n aD_slots_c, .string aD.journal.text, .int .i64 aD.journal.sure] 26] _ := S10
 refine s_end (x_normal (wp_seq (wp_seq (wp_region_lit (l_op (f_mv F13 rfl rfl rfl rfl rfl fun _ F15 => ?_))))))
 refine l_op (f_val F15 rfl rfl (r_cmp (b := decide ((subOr 1048576 (szDiskH aD)) < 0)) (.inr (.inr (.inl rfl))) rfl (F15.ev 16 rfl) rfl (dec_of (by omega))) rfl fun _ F16 => ?_)
 have F17 : Fr 74 [(17, .bool (decide ((subOr 1048576 (szDiskH aD)) < 0))), (2, .pointer (some ⟨b1, 0, none⟩)), (1, .int .i64 aKeep)] _ := F16.cut rfl
 clear F13 F15 F16
 refine s_end (x_normal (x_cond (p := (subOr 1048576 (szDiskH aD)) < 0) (F17.ev 17 rfl) (fun h18 => ?_) (fun h18 => ?_)))
 · skip
   refine wp_seq (wp_region_lit (l_op (f_val F17 rfl rfl (r_assign rfl rfl) rfl fun _ F19 => ?_)))
   have F20 : Fr 74 [(4, .bool true)] _ := F19.cut rfl
   clear F17 F19
   refine s_end (x_normal (wp_ret (x_then_ret ?_)))
   refine x_done (v := .bool true) F20 (results_1 Try.results8 (.tmp (F20.ev 4 rfl))) ?_
   exact ⟨rfl, (Mv.pick (T5.trans T14) [] rfl)⟩
 · skip
   refine wp_skip (x_normal (wp_seq ?_))
   have hfit := (diskFits (d := aD) (n := 1048576) (z := 1048576) (by decide) (by assumption)).1
   have hc := hfit.cnt
   have hcd := (fallL_fit (j := aD.journal) hfit).cnt
   refine wp_region_lit (l_op (f_val (v := .agg #[.slice aD_slots_a aD_slots_n aD_slots_c, .string aD.journal.text, .int .i64 aD.journal.sure]) F17 rfl rfl (r_loadB T14.at' 0 TI_26 rfl rfl (F17.ev 2 rfl) rfl rfl (fun h => nomatch h) rfl) rfl fun _ F21 => ?_))
   refine l_op (f_call F21 CF_13 rfl rfl rfl rfl (lc (F21.ev 18 rfl) rfl) (laws_toDisk_c (a := aD) (RdA.mv (Nat.succ_pos _) V_v_aD_slots (T5.trans T14)) (NRa.mv V_u_aD_slots (T5.trans T14)) h_aD_journal_text (by first | assumption | exact ⟨by omega, by omega⟩ | (unfold i64ok at *; omega) | (simp only [i64ok]; omega)) (by exact hfit)) ?_)
   rintro _ w22 ⟨D_22, r0_slots_a_22, r0_slots_n_22, r0_slots_c_22, rfl, m22, ok_r0_journal_text_22, q22_0, q22_1, q22_2⟩
   refine ⟨_, rfl, fun _ F23 => ?_⟩
   have S22 : Mv _ _ [ow 99 3 encSlot okSlot (.slice r0_slots_a_22 r0_slots_n_22 r0_slots_c_22) D_22, gr inSlot D_22, bx b1 [.slice aD_slots_a aD_slots_n aD_slots_c, .string aD.journal.text, .int .i64 aD.journal.sure] 26] _ := At.frame T14.at' [] rfl m22
   obtain ⟨lo22_0, lp22_0, lq22_0⟩ := At.ownInv S22.at' ET_29.hk 0 rfl
   clear m22
   refine l_op (f_mv F23 rfl rfl rfl rfl rfl fun _ F24 => ?_)
   refine l_op (f_call F24 CF_31 rfl rfl rfl rfl (lc (F24.ev 19 rfl) (lc (F24.ev 20 rfl) rfl)) (spec_FallDisk_c (H := fun _ => True) (L := (aD.slots.map SlotH.d)) (d := (⟨D_22, aD.journal⟩ : DiskH)) (keep := aKeep) (At.rd S22.at' ET_29.hk 0 rfl) (At.nrd S22.at' 1 rfl) ok_r0_journal_text_22 (by first | assumption | exact ⟨by omega, by omega⟩ | (unfold i64ok at *; omega) | (simp only [i64ok]; omega)) h_aKeep (by assumption) (by exact hfit)) ?_)
   rintro _ w25 ⟨D_25, r0_slots_a_25, r0_slots_n_25, r0_slots_c_25, rfl, m25, ok_r0_journal_text_25, q25_0, q25_1⟩
   refine ⟨_, rfl, fun _ F26 => ?_⟩
   have S25 : Mv _ _ [ow 99 3 encSlot okSlot (.slice r0_slots_a_25 r0_slots_n_25 r0_slots_c_25) D_25, gr inSlot D_25, ow 99 3 encSlot okSlot (.slice r0_slots_a_22 r0_slots_n_22 r0_slots_c_22) D_22, gr inSlot D_22, bx b1 [.slice aD_slots_a aD_slots_n aD_slots_c, .string aD.journal.text, .int .i64 aD.journal.sure] 26] _ := At.frame S22.at' [] rfl m25
   obtain ⟨lo25_0, lp25_0, lq25_0⟩ := At.ownInv S25.at' ET_29.hk 0 rfl
   clear m25
   refine l_op (f_alloc F26 S25.at' ZI_32 rfl rfl rfl rfl rfl fun b27 _ w27 F28 S27 => ?_)
   refine l_op (s_store S27.at' 0 TI_32 rfl rfl rfl rfl rfl (F28.ev 6 rfl) (F28.ev 21 rfl) rfl rfl rfl rfl rfl fun w29 S29 => ?_)
   have F30 : Fr 74 [(6, .pointer (some ⟨b27, 0, none⟩)), (21, .agg #[.slice r0_slots_a_25 r0_slots_n_25 r0_slots_c_25, .string (fallJo (aD.slots.map SlotH.d) aD.journal aKeep).text, .int .i64 (fallJo (aD.slots.map SlotH.d) aD.journal aKeep).sure]), (2, .pointer (some ⟨b1, 0, none⟩)), (1, .int .i64 aKeep)] _ := F28.cut rfl
   clear F17 F21 F23 F24 F26 F28
   have T31 : Mv _ _ [bx b27 [.slice r0_slots_a_25 r0_slots_n_25 r0_slots_c_25, .string (fallJo (aD.slots.map SlotH.d) aD.journal aKeep).text, .int .i64 (fallJo (aD.slots.map SlotH.d) aD.journal aKeep).sure] 32, ow 99 3 encSlot okSlot (.slice r0_slots_a_25 r0_slots_n_25 r0_slots_c_25) D_25, gr inSlot D_25, ow 99 3 encSlot okSlot (.slice r0_slots_a_22 r0_slots_n_22 r0_slots_c_22) D_22, gr inSlot D_22, bx b1 [.slice aD_slots_a aD_slots_n aD_slots_c, .string aD.journal.text, .int .i64 aD.journal.sure] 26] _ := S29
   refine s_end (x_normal (wp_seq (wp_region_lit (l_op (f_val (v := .agg #[.slice aD_slots_a aD_slots_n aD_slots_c, .string aD.journal.text, .int .i64 aD.journal.sure]) F30 rfl rfl (r_loadB T31.at' 5 TI_26 rfl rfl (F30.ev 2 rfl) rfl rfl (fun h => nomatch h) rfl) rfl fun _ F32 => ?_)))))
   refine l_op (f_call F32 CF_13 rfl rfl rfl rfl (lc (F32.ev 22 rfl) rfl) (laws_toDisk_c (a := aD) (RdA.mv (Nat.succ_pos _) V_v_aD_slots (T5.trans (T14.trans (S22.trans (S25.trans (S27.trans T31)))))) (NRa.mv V_u_aD_slots (T5.trans (T14.trans (S22.trans (S25.trans (S27.trans T31)))))) h_aD_journal_text (by first | assumption | exact ⟨by omega, by omega⟩ | (unfold i64ok at *; omega) | (simp only [i64ok]; omega)) (by exact hfit)) ?_)
   rintro _ w33 ⟨D_33, r0_slots_a_33, r0_slots_n_33, r0_slots_c_33, rfl, m33, ok_r0_journal_text_33, q33_0, q33_1, q33_2⟩
   refine ⟨_, rfl, fun _ F34 => ?_⟩
   have S33 : Mv _ _ [ow 99 3 encSlot okSlot (.slice r0_slots_a_33 r0_slots_n_33 r0_slots_c_33) D_33, gr inSlot D_33, bx b27 [.slice r0_slots_a_25 r0_slots_n_25 r0_slots_c_25, .string (fallJo (aD.slots.map SlotH.d) aD.journal aKeep).text, .int .i64 (fallJo (aD.slots.map SlotH.d) aD.journal aKeep).sure] 32, ow 99 3 encSlot okSlot (.slice r0_slots_a_25 r0_slots_n_25 r0_slots_c_25) D_25, gr inSlot D_25, ow 99 3 encSlot okSlot (.slice r0_slots_a_22 r0_slots_n_22 r0_slots_c_22) D_22, gr inSlot D_22, bx b1 [.slice aD_slots_a aD_slots_n aD_slots_c, .string aD.journal.text, .int .i64 aD.journal.sure] 26] _ := At.frame T31.at' [] rfl m33
   obtain ⟨lo33_0, lp33_0, lq33_0⟩ := At.ownInv S33.at' ET_29.hk 0 rfl
   clear m33
   refine l_op (f_alloc F34 S33.at' ZI_32 rfl rfl rfl rfl rfl fun b35 _ w35 F36 S35 => ?_)
   refine l_op (s_store S35.at' 0 TI_32 rfl rfl rfl rfl rfl (F36.ev 7 rfl) (F36.ev 23 rfl) rfl rfl rfl rfl rfl fun w37 S37 => ?_)
   have F38 : Fr 74 [(7, .pointer (some ⟨b35, 0, none⟩)), (23, .agg #[.slice r0_slots_a_33 r0_slots_n_33 r0_slots_c_33, .string aD.journal.text, .int .i64 aD.journal.sure]), (6, .pointer (some ⟨b27, 0, none⟩)), (2, .pointer (some ⟨b1, 0, none⟩)), (1, .int .i64 aKeep)] _ := F36.cut rfl
   clear F30 F32 F34 F36
   have T39 : Mv _ _ [bx b35 [.slice r0_slots_a_33 r0_slots_n_33 r0_slots_c_33, .string aD.journal.text, .int .i64 aD.journal.sure] 32, ow 99 3 encSlot okSlot (.slice r0_slots_a_33 r0_slots_n_33 r0_slots_c_33) D_33, gr inSlot D_33, bx b27 [.slice r0_slots_a_25 r0_slots_n_25 r0_slots_c_25, .string (fallJo (aD.slots.map SlotH.d) aD.journal aKeep).text, .int .i64 (fallJo (aD.slots.map SlotH.d) aD.journal aKeep).sure] 32, ow 99 3 encSlot okSlot (.slice r0_slots_a_25 r0_slots_n_25 r0_slots_c_25) D_25, gr inSlot D_25, ow 99 3 encSlot okSlot (.slice r0_slots_a_22 r0_slots_n_22 r0_slots_c_22) D_22, gr inSlot D_22, bx b1 [.slice aD_slots_a aD_slots_n aD_slots_c, .string aD.journal.text, .int .i64 aD.journal.sure] 26] _ := S37
   refine s_end (x_normal (wp_seq (wp_region_lit (l_op (f_val (v := .agg #[.slice r0_slots_a_33 r0_slots_n_33 r0_slots_c_33, .string aD.journal.text, .int .i64 aD.journal.sure]) F38 rfl rfl (r_loadB T39.at' 0 TI_32 rfl rfl (F38.ev 7 rfl) rfl rfl (fun h => nomatch h) rfl) rfl fun _ F40 => ?_)))))
   refine l_op (f_mv F40 rfl rfl rfl rfl rfl fun _ F41 => ?_)
   refine l_op (f_call F41 CF_32 rfl rfl rfl rfl (lc (F41.ev 24 rfl) (lc (F41.ev 25 rfl) rfl)) (impl_FallDisk_c (H := fun _ => True) (L := (aD.slots.map SlotH.d)) (d := (⟨D_33, aD.journal⟩ : DiskH)) (keep := aKeep) (At.rd T39.at' ET_29.hk 1 rfl) (At.nrd T39.at' 2 rfl) ok_r0_journal_text_33 (by first | assumption | exact ⟨by omega, by omega⟩ | (unfold i64ok at *; omega) | (simp only [i64ok]; omega)) h_aKeep (by assumption) (by exact hfit)) ?_)
   rintro _ w42 ⟨D_42, r0_slots_a_42, r0_slots_n_42, r0_slots_c_42, rfl, m42, ok_r0_journal_text_42, q42_0, q42_1⟩
   refine ⟨_, rfl, fun _ F43 => ?_⟩
   have S42 : Mv _ _ [ow 99 3 encSlot okSlot (.slice r0_slots_a_42 r0_slots_n_42 r0_slots_c_42) D_42, gr inSlot D_42, bx b35 [.slice r0_slots_a_33 r0_slots_n_33 r0_slots_c_33, .string aD.journal.text, .int .i64 aD.journal.sure] 32, ow 99 3 encSlot okSlot (.slice r0_slots_a_33 r0_slots_n_33 r0_slots_c_33) D_33, gr inSlot D_33, bx b27 [.slice r0_slots_a_25 r0_slots_n_25 r0_slots_c_25, .string (fallJo (aD.slots.map SlotH.d) aD.journal aKeep).text, .int .i64 (fallJo (aD.slots.map SlotH.d) aD.journal aKeep).sure] 32, ow 99 3 encSlot okSlot (.slice r0_slots_a_25 r0_slots_n_25 r0_slots_c_25) D_25, gr inSlot D_25, ow 99 3 encSlot okSlot (.slice r0_slots_a_22 r0_slots_n_22 r0_slots_c_22) D_22, gr inSlot D_22, bx b1 [.slice aD_slots_a aD_slots_n aD_slots_c, .string aD.journal.text, .int .i64 aD.journal.sure] 26] _ := At.frame T39.at' [] rfl m42
   obtain ⟨lo42_0, lp42_0, lq42_0⟩ := At.ownInv S42.at' ET_29.hk 0 rfl
   clear m42
   refine l_op (f_alloc F43 S42.at' ZI_32 rfl rfl rfl rfl rfl fun b44 _ w44 F45 S44 => ?_)
   refine l_op (s_store S44.at' 0 TI_32 rfl rfl rfl rfl rfl (F45.ev 8 rfl) (F45.ev 26 rfl) rfl rfl rfl rfl rfl fun w46 S46 => ?_)
   have F47 : Fr 74 [(8, .pointer (some ⟨b44, 0, none⟩)), (26, .agg #[.slice r0_slots_a_42 r0_slots_n_42 r0_slots_c_42, .string (fallJo (aD.slots.map SlotH.d) aD.journal aKeep).text, .int .i64 (fallJo (aD.slots.map SlotH.d) aD.journal aKeep).sure]), (7, .pointer (some ⟨b35, 0, none⟩)), (6, .pointer (some ⟨b27, 0, none⟩)), (2, .pointer (some ⟨b1, 0, none⟩)), (1, .int .i64 aKeep)] _ := F45.cut rfl
   clear F38 F40 F41 F43 F45
   have T48 : Mv _ _ [bx b44 [.slice r0_slots_a_42 r0_slots_n_42 r0_slots_c_42, .string (fallJo (aD.slots.map SlotH.d) aD.journal aKeep).text, .int .i64 (fallJo (aD.slots.map SlotH.d) aD.journal aKeep).sure] 32, ow 99 3 encSlot okSlot (.slice r0_slots_a_42 r0_slots_n_42 r0_slots_c_42) D_42, gr inSlot D_42, bx b35 [.slice r0_slots_a_33 r0_slots_n_33 r0_slots_c_33, .string aD.journal.text, .int .i64 aD.journal.sure] 32, ow 99 3 encSlot okSlot (.slice r0_slots_a_33 r0_slots_n_33 r0_slots_c_33) D_33, gr inSlot D_33, bx b27 [.slice r0_slots_a_25 r0_slots_n_25 r0_slots_c_25, .string (fallJo (aD.slots.map SlotH.d) aD.journal aKeep).text, .int .i64 (fallJo (aD.slots.map SlotH.d) aD.journal aKeep).sure] 32, ow 99 3 encSlot okSlot (.slice r0_slots_a_25 r0_slots_n_25 r0_slots_c_25) D_25, gr inSlot D_25, ow 99 3 encSlot okSlot (.slice r0_slots_a_22 r0_slots_n_22 r0_slots_c_22) D_22, gr inSlot D_22, bx b1 [.slice aD_slots_a aD_slots_n aD_slots_c, .string aD.journal.text, .int .i64 aD.journal.sure] 26] _ := S46
   refine s_end (x_normal (wp_seq (wp_seq (wp_region_lit (l_op (f_val (v := .agg #[.slice r0_slots_a_42 r0_slots_n_42 r0_slots_c_42, .string (fallJo (aD.slots.map SlotH.d) aD.journal aKeep).text, .int .i64 (fallJo (aD.slots.map SlotH.d) aD.journal aKeep).sure]) F47 rfl rfl (r_loadB T48.at' 0 TI_32 rfl rfl (F47.ev 8 rfl) rfl rfl (fun h => nomatch h) rfl) rfl fun _ F49 => ?_))))))
   refine l_op (f_val (v := .agg #[.slice r0_slots_a_25 r0_slots_n_25 r0_slots_c_25, .string (fallJo (aD.slots.map SlotH.d) aD.journal aKeep).text, .int .i64 (fallJo (aD.slots.map SlotH.d) aD.journal aKeep).sure]) F49 rfl rfl (r_loadB T48.at' 6 TI_32 rfl rfl (F49.ev 6 rfl) rfl rfl (fun h => nomatch h) rfl) rfl fun _ F50 => ?_)
   refine l_op (f_call F50 CF_15 rfl rfl rfl rfl (lc (F50.ev 27 rfl) (lc (F50.ev 28 rfl) rfl)) (laws_eqDisk_c (H := fun _ => True) (a := (⟨D_42, (fallJo (aD.slots.map SlotH.d) aD.journal aKeep)⟩ : DiskH)) (b := (⟨D_25, (fallJo (aD.slots.map SlotH.d) aD.journal aKeep)⟩ : DiskH)) (At.rd T48.at' ET_29.hk 1 rfl) (At.nrd T48.at' 2 rfl) ok_r0_journal_text_42 (by first | assumption | exact ⟨by omega, by omega⟩ | (unfold i64ok at *; omega) | (simp only [i64ok]; omega)) (At.rd T48.at' ET_29.hk 7 rfl) (At.nrd T48.at' 8 rfl) ok_r0_journal_text_25 (by first | assumption | exact ⟨by omega, by omega⟩ | (unfold i64ok at *; omega) | (simp only [i64ok]; omega)) (by exact (same2 (by assumption) (by assumption))) (by rfl)) ?_)
   rintro _ w51 ⟨rfl, m51⟩
   refine ⟨_, rfl, fun _ F52 => ?_⟩
   have S51 := At.frame0 T48.at' m51
   clear m51
   refine l_op (f_val F52 rfl rfl (r_not rfl (F52.ev 29 rfl)) rfl fun _ F53 => ?_)
   have F54 : Fr 74 [(30, .bool false), (8, .pointer (some ⟨b44, 0, none⟩)), (7, .pointer (some ⟨b35, 0, none⟩)), (6, .pointer (some ⟨b27, 0, none⟩)), (2, .pointer (some ⟨b1, 0, none⟩)), (1, .int .i64 aKeep)] _ := F53.cut rfl
   clear F47 F49 F50 F52 F53
   have T55 : Mv _ _ [bx b44 [.slice r0_slots_a_42 r0_slots_n_42 r0_slots_c_42, .string (fallJo (aD.slots.map SlotH.d) aD.journal aKeep).text, .int .i64 (fallJo (aD.slots.map SlotH.d) aD.journal aKeep).sure] 32, ow 99 3 encSlot okSlot (.slice r0_slots_a_42 r0_slots_n_42 r0_slots_c_42) D_42, gr inSlot D_42, bx b35 [.slice r0_slots_a_33 r0_slots_n_33 r0_slots_c_33, .string aD.journal.text, .int .i64 aD.journal.sure] 32, ow 99 3 encSlot okSlot (.slice r0_slots_a_33 r0_slots_n_33 r0_slots_c_33) D_33, gr inSlot D_33, bx b27 [.slice r0_slots_a_25 r0_slots_n_25 r0_slots_c_25, .string (fallJo (aD.slots.map SlotH.d) aD.journal aKeep).text, .int .i64 (fallJo (aD.slots.map SlotH.d) aD.journal aKeep).sure] 32, ow 99 3 encSlot okSlot (.slice r0_slots_a_25 r0_slots_n_25 r0_slots_c_25) D_25, gr inSlot D_25, ow 99 3 encSlot okSlot (.slice r0_slots_a_22 r0_slots_n_22 r0_slots_c_22) D_22, gr inSlot D_22, bx b1 [.slice aD_slots_a aD_slots_n aD_slots_c, .string aD.journal.text, .int .i64 aD.journal.sure] 26] _ := S51
   refine s_end (x_normal (wp_cond_false (F54.ev 30 rfl) (wp_skip (x_normal (wp_seq (wp_seq ?_))))))
   refine x_draw (fun aZ wZ => ∃ (D_60 : List SlotH), ∃ (r0_slots_a_60 : Option Addr), ∃ (r0_slots_n_60 : Nat), ∃ (r0_slots_c_60 : Nat), Fr 74 [(1, .int .i64 aKeep), (2, .pointer (some ⟨b1, 0, none⟩)), (6, .pointer (some ⟨b27, 0, none⟩)), (7, .pointer (some ⟨b35, 0, none⟩)), (8, .pointer (some ⟨b44, 0, none⟩)), (35, .bool false)] aZ ∧ Mv [bx b44 [.slice r0_slots_a_42 r0_slots_n_42 r0_slots_c_42, .string (fallJo (aD.slots.map SlotH.d) aD.journal aKeep).text, .int .i64 (fallJo (aD.slots.map SlotH.d) aD.journal aKeep).sure] 32, ow 99 3 encSlot okSlot (.slice r0_slots_a_42 r0_slots_n_42 r0_slots_c_42) D_42, gr inSlot D_42, bx b35 [.slice r0_slots_a_33 r0_slots_n_33 r0_slots_c_33, .string aD.journal.text, .int .i64 aD.journal.sure] 32, ow 99 3 encSlot okSlot (.slice r0_slots_a_33 r0_slots_n_33 r0_slots_c_33) D_33, gr inSlot D_33, bx b27 [.slice r0_slots_a_25 r0_slots_n_25 r0_slots_c_25, .string (fallJo (aD.slots.map SlotH.d) aD.journal aKeep).text, .int .i64 (fallJo (aD.slots.map SlotH.d) aD.journal aKeep).sure] 32, ow 99 3 encSlot okSlot (.slice r0_slots_a_25 r0_slots_n_25 r0_slots_c_25) D_25, gr inSlot D_25, ow 99 3 encSlot okSlot (.slice r0_slots_a_22 r0_slots_n_22 r0_slots_c_22) D_22, gr inSlot D_22, bx b1 [.slice aD_slots_a aD_slots_n aD_slots_c, .string aD.journal.text, .int .i64 aD.journal.sure] 26] w51 [bx b44 [.slice r0_slots_a_42 r0_slots_n_42 r0_slots_c_42, .string (fallJo (aD.slots.map SlotH.d) aD.journal aKeep).text, .int .i64 (fallJo (aD.slots.map SlotH.d) aD.journal aKeep).sure] 32, ow 99 3 encSlot okSlot (.slice r0_slots_a_42 r0_slots_n_42 r0_slots_c_42) D_42, gr inSlot D_42, bx b35 [.slice r0_slots_a_33 r0_slots_n_33 r0_slots_c_33, .string aD.journal.text, .int .i64 aD.journal.sure] 32, ow 99 3 encSlot okSlot (.slice r0_slots_a_33 r0_slots_n_33 r0_slots_c_33) D_33, gr inSlot D_33, bx b27 [.slice r0_slots_a_25 r0_slots_n_25 r0_slots_c_25, .string (fallJo (aD.slots.map SlotH.d) aD.journal aKeep).text, .int .i64 (fallJo (aD.slots.map SlotH.d) aD.journal aKeep).sure] 32, ow 99 3 encSlot okSlot (.slice r0_slots_a_25 r0_slots_n_25 r0_slots_c_25) D_25, gr inSlot D_25, ow 99 3 encSlot okSlot (.slice r0_slots_a_22 r0_slots_n_22 r0_slots_c_22) D_22, gr inSlot D_22, bx b1 [.slice aD_slots_a aD_slots_n aD_slots_c, .string aD.journal.text, .int .i64 aD.journal.sure] 26, ow 99 3 encSlot okSlot (.slice r0_slots_a_60 r0_slots_n_60 r0_slots_c_60) D_60, gr inSlot D_60] wZ ∧ okS (fallJo (aD.slots.map SlotH.d) aD.journal aKeep).text ∧ okS aD.journal.text ∧ (D_60.map SlotH.d = aD.slots.map SlotH.d) ∧ (D_60.length = aD.slots.length) ∧ (i64ok aD.journal.sure)) [bx b35 [.slice r0_slots_a_33 r0_slots_n_33 r0_slots_c_33, .string aD.journal.text, .int .i64 aD.journal.sure] 32, bx b1 [.slice aD_slots_a aD_slots_n aD_slots_c, .string aD.journal.text, .int .i64 aD.journal.sure] 26] mixed T55.at' (listed := #[false, false, false, false, false]) rfl (fun w57 S57 => ?_) [3, 11] rfl ?_
   · skip
     refine g_take (v := .agg #[.slice r0_slots_a_33 r0_slots_n_33 r0_slots_c_33, .string aD.journal.text, .int .i64 aD.journal.sure]) F54 rfl (i := 0) (listed' := #[true, false, false, false, false]) rfl (by kernel_rfl) (by kernel_rfl) (by kernel_rfl) (fun _ _ _ h => h) (Sd.of (Mv.refl S57.at') [3, 11] rfl) rfl rfl rfl rfl (fun _ hz => (r_loadX (hz.bx 0 rfl) TI_32 rfl (F54.ev 7 rfl) rfl rfl (fun h => nomatch h) rfl)) fun _ F58 => ?_
     refine g_take (v := .agg #[.slice aD_slots_a aD_slots_n aD_slots_c, .string aD.journal.text, .int .i64 aD.journal.sure]) F58 rfl (i := 1) (listed' := #[true, true, false, false, false]) rfl (by kernel_rfl) (by kernel_rfl) (by kernel_rfl) (fun _ _ _ h => h) (Sd.of (Mv.refl S57.at') [3, 11] rfl) rfl rfl rfl rfl (fun _ hz => (r_loadX (hz.bx 1 rfl) TI_26 rfl (F58.ev 2 rfl) rfl rfl (fun h => nomatch h) rfl)) fun _ F59 => ?_
     refine d_one (i := 2) (listed' := #[true, true, true, false, false]) rfl (by kernel_rfl) rfl rfl ?_
     refine f_call F59 CF_13 rfl rfl rfl rfl (lc (F59.ev 32 rfl) rfl) (laws_toDisk_c (a := aD) (RdA.mv (Nat.succ_pos _) V_v_aD_slots (T5.trans (T14.trans (S22.trans (S25.trans (S27.trans (T31.trans (S33.trans (S35.trans (T39.trans (S42.trans (S44.trans (T48.trans (T55.trans S57)))))))))))))) (NRa.mv V_u_aD_slots (T5.trans (T14.trans (S22.trans (S25.trans (S27.trans (T31.trans (S33.trans (S35.trans (T39.trans (S42.trans (S44.trans (T48.trans (T55.trans S57)))))))))))))) h_aD_journal_text (by first | assumption | exact ⟨by omega, by omega⟩ | (unfold i64ok at *; omega) | (simp only [i64ok]; omega)) (by exact hfit)) ?_
     rintro _ w60 ⟨D_60, r0_slots_a_60, r0_slots_n_60, r0_slots_c_60, rfl, m60, ok_r0_journal_text_60, q60_0, q60_1, q60_2⟩
     refine ⟨_, rfl, fun _ F61 => ?_⟩
     have S60 : Mv _ _ [ow 99 3 encSlot okSlot (.slice r0_slots_a_60 r0_slots_n_60 r0_slots_c_60) D_60, gr inSlot D_60, bx b44 [.slice r0_slots_a_42 r0_slots_n_42 r0_slots_c_42, .string (fallJo (aD.slots.map SlotH.d) aD.journal aKeep).text, .int .i64 (fallJo (aD.slots.map SlotH.d) aD.journal aKeep).sure] 32, ow 99 3 encSlot okSlot (.slice r0_slots_a_42 r0_slots_n_42 r0_slots_c_42) D_42, gr inSlot D_42, bx b35 [.slice r0_slots_a_33 r0_slots_n_33 r0_slots_c_33, .string aD.journal.text, .int .i64 aD.journal.sure] 32, ow 99 3 encSlot okSlot (.slice r0_slots_a_33 r0_slots_n_33 r0_slots_c_33) D_33, gr inSlot D_33, bx b27 [.slice r0_slots_a_25 r0_slots_n_25 r0_slots_c_25, .string (fallJo (aD.slots.map SlotH.d) aD.journal aKeep).text, .int .i64 (fallJo (aD.slots.map SlotH.d) aD.journal aKeep).sure] 32, ow 99 3 encSlot okSlot (.slice r0_slots_a_25 r0_slots_n_25 r0_slots_c_25) D_25, gr inSlot D_25, ow 99 3 encSlot okSlot (.slice r0_slots_a_22 r0_slots_n_22 r0_slots_c_22) D_22, gr inSlot D_22, bx b1 [.slice aD_slots_a aD_slots_n aD_slots_c, .string aD.journal.text, .int .i64 aD.journal.sure] 26] _ := At.frame S57.at' [] rfl m60
     obtain ⟨lo60_0, lp60_0, lq60_0⟩ := At.ownInv S60.at' ET_29.hk 0 rfl
     clear m60
     refine ⟨Sd.of S60 [5, 13] rfl, ?_⟩
     refine d_one (i := 3) (listed' := #[true, true, true, true, false]) rfl (by kernel_rfl) rfl rfl ?_
     refine f_call F61 CF_15 rfl rfl rfl rfl (lc (F61.ev 31 rfl) (lc (F61.ev 33 rfl) rfl)) (laws_eqDisk_c (H := fun _ => True) (a := (⟨D_33, aD.journal⟩ : DiskH)) (b := (⟨D_60, aD.journal⟩ : DiskH)) (At.rd S60.at' ET_29.hk 6 rfl) (At.nrd S60.at' 7 rfl) ok_r0_journal_text_33 (by first | assumption | exact ⟨by omega, by omega⟩ | (unfold i64ok at *; omega) | (simp only [i64ok]; omega)) (At.rd S60.at' ET_29.hk 0 rfl) (At.nrd S60.at' 1 rfl) ok_r0_journal_text_60 (by first | assumption | exact ⟨by omega, by omega⟩ | (unfold i64ok at *; omega) | (simp only [i64ok]; omega)) (by exact (same2 (by assumption) (by assumption))) (by rfl)) ?_
     rintro _ w62 ⟨rfl, m62⟩
     refine ⟨_, rfl, fun _ F63 => ?_⟩
     have S62 := At.frame0 S60.at' m62
     clear m62
     refine ⟨Sd.of (S60.trans S62) [5, 13] rfl, ?_⟩
     refine g_take F63 rfl (i := 4) (listed' := #[true, true, true, true, true]) rfl (by kernel_rfl) (by kernel_rfl) (by kernel_rfl) (fun _ _ _ h => h) (Sd.of (S60.trans S62) [5, 13] rfl) rfl rfl rfl rfl (fun _ hz => (r_not rfl (F63.ev 34 rfl))) fun _ F64 => ?_
     refine wpAnyH_done (by kernel_rfl) (x_normal ?_) _
     exact ⟨D_60, r0_slots_a_60, r0_slots_n_60, r0_slots_c_60, F64.cut rfl, ((S57.trans (S60.trans S62)).pick [2, 3, 4, 5, 6, 7, 8, 9, 10, 11, 12, 13, 0, 1] rfl), ok_r0_journal_text_42, ok_r0_journal_text_33, q60_0, q60_1, q60_2⟩
   · rintro a65 w65 ⟨D_60, r0_slots_a_60, r0_slots_n_60, r0_slots_c_60, F65, S65, ko65_0, ko65_1, kp65_0, kp65_1, kp65_2⟩
     obtain ⟨lo65_12, lp65_12, lq65_12⟩ := At.ownInv S65.at' ET_29.hk 12 rfl
     refine x_normal (wp_cond_false (F65.ev 35 rfl) (wp_skip (x_normal (wp_seq (wp_region_lit (l_op (f_val F65 rfl rfl (r_assign rfl rfl) rfl fun _ F66 => ?_)))))))
     have F67 : Fr 74 [(9, .int .i64 1), (1, .int .i64 aKeep), (2, .pointer (some ⟨b1, 0, none⟩)), (6, .pointer (some ⟨b27, 0, none⟩)), (7, .pointer (some ⟨b35, 0, none⟩)), (8, .pointer (some ⟨b44, 0, none⟩))] _ := F66.cut rfl
     clear F65 F66
     refine s_end (x_normal (wp_seq (wp_region_lit (l_op (f_val (v := .agg #[.slice r0_slots_a_33 r0_slots_n_33 r0_slots_c_33, .string aD.journal.text, .int .i64 aD.journal.sure]) F67 rfl rfl (r_loadB S65.at' 3 TI_32 rfl rfl (F67.ev 7 rfl) rfl rfl (fun h => nomatch h) rfl) rfl fun _ F68 => ?_)))))
     refine l_op (f_mv F68 rfl rfl rfl rfl rfl fun _ F69 => ?_)
     refine l_op (f_call F69 CF_25 rfl rfl rfl rfl (lc (F69.ev 36 rfl) (lc (F69.ev 37 rfl) rfl)) (laws_markDisk_c (H := fun _ => True) (L := (aD.slots.map SlotH.d)) (a := (⟨D_33, aD.journal⟩ : DiskH)) (k := 1) ko65_1 (by first | assumption | exact ⟨by omega, by omega⟩ | (unfold i64ok at *; omega) | (simp only [i64ok]; omega)) ⟨by omega, by first | omega | (unfold i64ok at *; omega)⟩ (by assumption) (by first | assumption | omega | (simp <;> omega)) (by first | assumption | omega | (simp <;> omega)) (At.pick (is := [4, 5]) S65.at' rfl)) ?_)
     rintro _ w70 ⟨D_70, rfl, m70, q70_0⟩
     refine ⟨_, rfl, fun _ F71 => ?_⟩
     have S70 : Mv _ _ [ow 99 3 encSlot okSlot (.slice r0_slots_a_33 r0_slots_n_33 r0_slots_c_33) D_70, gr inSlot D_70, bx b44 [.slice r0_slots_a_42 r0_slots_n_42 r0_slots_c_42, .string (fallJo (aD.slots.map SlotH.d) aD.journal aKeep).text, .int .i64 (fallJo (aD.slots.map SlotH.d) aD.journal aKeep).sure] 32, ow 99 3 encSlot okSlot (.slice r0_slots_a_42 r0_slots_n_42 r0_slots_c_42) D_42, gr inSlot D_42, bx b35 [.slice r0_slots_a_33 r0_slots_n_33 r0_slots_c_33, .string aD.journal.text, .int .i64 aD.journal.sure] 32, bx b27 [.slice r0_slots_a_25 r0_slots_n_25 r0_slots_c_25, .string (fallJo (aD.slots.map SlotH.d) aD.journal aKeep).text, .int .i64 (fallJo (aD.slots.map SlotH.d) aD.journal aKeep).sure] 32, ow 99 3 encSlot okSlot (.slice r0_slots_a_25 r0_slots_n_25 r0_slots_c_25) D_25, gr inSlot D_25, ow 99 3 encSlot okSlot (.slice r0_slots_a_22 r0_slots_n_22 r0_slots_c_22) D_22, gr inSlot D_22, bx b1 [.slice aD_slots_a aD_slots_n aD_slots_c, .string aD.journal.text, .int .i64 aD.journal.sure] 26, ow 99 3 encSlot okSlot (.slice r0_slots_a_60 r0_slots_n_60 r0_slots_c_60) D_60, gr inSlot D_60] _ := At.frame S65.at' [4, 5] rfl m70
     obtain ⟨lo70_0, lp70_0, lq70_0⟩ := At.ownInv S70.at' ET_29.hk 0 rfl
     clear m70
     refine l_op (f_as F71 rfl rfl rfl rfl rfl fun _ F72 => ?_)
     have F73 : Fr 74 [(9, .int .i64 ((1 + sumOf cntSl (aD.slots.map SlotH.d) : Nat) : Int)), (1, .int .i64 aKeep), (2, .pointer (some ⟨b1, 0, none⟩)), (6, .pointer (some ⟨b27, 0, none⟩)), (8, .pointer (some ⟨b44, 0, none⟩))] _ := F72.cut rfl
     clear F67 F68 F69 F71 F72
     refine s_end (x_normal (wp_seq (wp_seq (wp_region_lit (l_op (f_mv F73 rfl rfl rfl rfl rfl fun _ F74 => ?_))))))
     refine l_op (f_val F74 rfl rfl (r_cmp (b := false) (.inr (.inr (.inl rfl))) rfl (F74.ev 39 rfl) rfl (cmp_lt0 _ _ (by omega))) rfl fun _ F75 => ?_)
     refine l_op (f_mv F75 rfl rfl rfl rfl rfl fun _ F76 => ?_)
     refine l_op (f_val (v := .agg #[.slice r0_slots_a_42 r0_slots_n_42 r0_slots_c_42, .string (fallJo (aD.slots.map SlotH.d) aD.journal aKeep).text, .int .i64 (fallJo (aD.slots.map SlotH.d) aD.journal aKeep).sure]) F76 (wanted_g F76 rfl rfl rfl rfl) rfl (r_loadB S70.at' 2 TI_32 rfl rfl (F76.ev 8 rfl) rfl rfl (fun h => nomatch h) rfl) rfl fun _ F77 => ?_)
     refine l_op (f_val (v := .agg #[.slice r0_slots_a_25 r0_slots_n_25 r0_slots_c_25, .string (fallJo (aD.slots.map SlotH.d) aD.journal aKeep).text, .int .i64 (fallJo (aD.slots.map SlotH.d) aD.journal aKeep).sure]) F77 (wanted_g F77 rfl rfl rfl rfl) rfl (r_loadB S70.at' 6 TI_32 rfl rfl (F77.ev 6 rfl) rfl rfl (fun h => nomatch h) rfl) rfl fun _ F78 => ?_)
     refine l_op (f_call F78 CF_15 (wanted_g F78 rfl rfl rfl rfl) rfl rfl rfl (lc (F78.ev 42 rfl) (lc (F78.ev 43 rfl) rfl)) (laws_eqDisk_c (H := fun _ => True) (a := (⟨D_42, (fallJo (aD.slots.map SlotH.d) aD.journal aKeep)⟩ : DiskH)) (b := (⟨D_25, (fallJo (aD.slots.map SlotH.d) aD.journal aKeep)⟩ : DiskH)) (At.rd S70.at' ET_29.hk 3 rfl) (At.nrd S70.at' 4 rfl) ko65_0 (by first | assumption | exact ⟨by omega, by omega⟩ | (unfold i64ok at *; omega) | (simp only [i64ok]; omega)) (At.rd S70.at' ET_29.hk 7 rfl) (At.nrd S70.at' 8 rfl) ko65_0 (by first | assumption | exact ⟨by omega, by omega⟩ | (unfold i64ok at *; omega) | (simp only [i64ok]; omega)) (by exact (same2 (by assumption) (by assumption))) (by rfl)) ?_)
     rintro _ w79 ⟨rfl, m79⟩
     refine ⟨_, rfl, fun _ F80 => ?_⟩
     have S79 := At.frame0 S70.at' m79
     clear m79
     refine l_op (f_val F80 (wanted_g F80 rfl rfl rfl rfl) rfl (r_not rfl (F80.ev 44 rfl)) rfl fun _ F81 => ?_)
     refine l_op (f_val F81 rfl rfl (r_pick (b := false) rfl (F81.ev 41 rfl) (F81.ev 45 rfl)) rfl fun _ F82 => ?_)
     have F83 : Fr 74 [(46, .bool false), (1, .int .i64 aKeep), (2, .pointer (some ⟨b1, 0, none⟩)), (6, .pointer (some ⟨b27, 0, none⟩)), (8, .pointer (some ⟨b44, 0, none⟩))] _ := F82.cut rfl
     clear F73 F74 F75 F76 F77 F78 F80 F81 F82
     have T84 : Mv _ _ [ow 99 3 encSlot okSlot (.slice r0_slots_a_33 r0_slots_n_33 r0_slots_c_33) D_70, gr inSlot D_70, bx b44 [.slice r0_slots_a_42 r0_slots_n_42 r0_slots_c_42, .string (fallJo (aD.slots.map SlotH.d) aD.journal aKeep).text, .int .i64 (fallJo (aD.slots.map SlotH.d) aD.journal aKeep).sure] 32, ow 99 3 encSlot okSlot (.slice r0_slots_a_42 r0_slots_n_42 r0_slots_c_42) D_42, gr inSlot D_42, bx b35 [.slice r0_slots_a_33 r0_slots_n_33 r0_slots_c_33, .string aD.journal.text, .int .i64 aD.journal.sure] 32, bx b27 [.slice r0_slots_a_25 r0_slots_n_25 r0_slots_c_25, .string (fallJo (aD.slots.map SlotH.d) aD.journal aKeep).text, .int .i64 (fallJo (aD.slots.map SlotH.d) aD.journal aKeep).sure] 32, ow 99 3 encSlot okSlot (.slice r0_slots_a_25 r0_slots_n_25 r0_slots_c_25) D_25, gr inSlot D_25, ow 99 3 encSlot okSlot (.slice r0_slots_a_22 r0_slots_n_22 r0_slots_c_22) D_22, gr inSlot D_22, bx b1 [.slice aD_slots_a aD_slots_n aD_slots_c, .string aD.journal.text, .int .i64 aD.journal.sure] 26, ow 99 3 encSlot okSlot (.slice r0_slots_a_60 r0_slots_n_60 r0_slots_c_60) D_60, gr inSlot D_60] _ := S79
     refine s_end (x_normal (wp_cond_false (F83.ev 46 rfl) (wp_skip (x_normal (wp_seq (wp_region_lit (l_op (f_val F83 rfl rfl (r_assign rfl rfl) rfl fun _ F85 => ?_))))))))
     have F86 : Fr 74 [(10, .int .i64 1), (1, .int .i64 aKeep), (2, .pointer (some ⟨b1, 0, none⟩)), (6, .pointer (some ⟨b27, 0, none⟩)), (8, .pointer (some ⟨b44, 0, none⟩))] _ := F85.cut rfl
     clear F83 F85
     refine s_end (x_normal (wp_seq (wp_region_lit (l_op (f_val (v := .agg #[.slice r0_slots_a_42 r0_slots_n_42 r0_slots_c_42, .string (fallJo (aD.slots.map SlotH.d) aD.journal aKeep).text, .int .i64 (fallJo (aD.slots.map SlotH.d) aD.journal aKeep).sure]) F86 rfl rfl (r_loadB T84.at' 2 TI_32 rfl rfl (F86.ev 8 rfl) rfl rfl (fun h => nomatch h) rfl) rfl fun _ F87 => ?_)))))
     refine l_op (f_mv F87 rfl rfl rfl rfl rfl fun _ F88 => ?_)
     refine l_op (f_call F88 CF_25 rfl rfl rfl rfl (lc (F88.ev 47 rfl) (lc (F88.ev 48 rfl) rfl)) (laws_markDisk_c (H := fun _ => True) (L := (fallL (aD.slots.map SlotH.d) aD.journal)) (a := (⟨D_42, (fallJo (aD.slots.map SlotH.d) aD.journal aKeep)⟩ : DiskH)) (k := 1) ko65_0 (by first | assumption | exact ⟨by omega, by omega⟩ | (unfold i64ok at *; omega) | (simp only [i64ok]; omega)) ⟨by omega, by first | omega | (unfold i64ok at *; omega)⟩ (by assumption) (by first | assumption | omega | (simp <;> omega)) (by first | assumption | omega | (simp <;> omega)) (At.pick (is := [3, 4]) T84.at' rfl)) ?_)
     rintro _ w89 ⟨D_89, rfl, m89, q89_0⟩
     refine ⟨_, rfl, fun _ F90 => ?_⟩
     have S89 : Mv _ _ [ow 99 3 encSlot okSlot (.slice r0_slots_a_42 r0_slots_n_42 r0_slots_c_42) D_89, gr inSlot D_89, ow 99 3 encSlot okSlot (.slice r0_slots_a_33 r0_slots_n_33 r0_slots_c_33) D_70, gr inSlot D_70, bx b44 [.slice r0_slots_a_42 r0_slots_n_42 r0_slots_c_42, .string (fallJo (aD.slots.map SlotH.d) aD.journal aKeep).text, .int .i64 (fallJo (aD.slots.map SlotH.d) aD.journal aKeep).sure] 32, bx b35 [.slice r0_slots_a_33 r0_slots_n_33 r0_slots_c_33, .string aD.journal.text, .int .i64 aD.journal.sure] 32, bx b27 [.slice r0_slots_a_25 r0_slots_n_25 r0_slots_c_25, .string (fallJo (aD.slots.map SlotH.d) aD.journal aKeep).text, .int .i64 (fallJo (aD.slots.map SlotH.d) aD.journal aKeep).sure] 32, ow 99 3 encSlot okSlot (.slice r0_slots_a_25 r0_slots_n_25 r0_slots_c_25) D_25, gr inSlot D_25, ow 99 3 encSlot okSlot (.slice r0_slots_a_22 r0_slots_n_22 r0_slots_c_22) D_22, gr inSlot D_22, bx b1 [.slice aD_slots_a aD_slots_n aD_slots_c, .string aD.journal.text, .int .i64 aD.journal.sure] 26, ow 99 3 encSlot okSlot (.slice r0_slots_a_60 r0_slots_n_60 r0_slots_c_60) D_60, gr inSlot D_60] _ := At.frame T84.at' [3, 4] rfl m89
     obtain ⟨lo89_0, lp89_0, lq89_0⟩ := At.ownInv S89.at' ET_29.hk 0 rfl
     clear m89
     refine l_op (f_as F90 rfl rfl rfl rfl rfl fun _ F91 => ?_)
     have F92 : Fr 74 [(10, .int .i64 ((1 + sumOf cntSl (fallL (aD.slots.map SlotH.d) aD.journal) : Nat) : Int)), (1, .int .i64 aKeep), (2, .pointer (some ⟨b1, 0, none⟩)), (6, .pointer (some ⟨b27, 0, none⟩)), (8, .pointer (some ⟨b44, 0, none⟩))] _ := F91.cut rfl
     clear F86 F87 F88 F90 F91
     refine s_end (x_normal (wp_seq (wp_region_lit (l_op (f_val F92 rfl rfl (r_assign rfl rfl) rfl fun _ F93 => ?_)))))
     have F94 : Fr 74 [(11, .int .i64 1), (10, .int .i64 ((1 + sumOf cntSl (fallL (aD.slots.map SlotH.d) aD.journal) : Nat) : Int)), (1, .int .i64 aKeep), (2, .pointer (some ⟨b1, 0, none⟩)), (6, .pointer (some ⟨b27, 0, none⟩)), (8, .pointer (some ⟨b44, 0, none⟩))] _ := F93.cut rfl
     clear F92 F93
     refine s_end (x_normal (wp_seq (wp_region_lit (l_op (f_val (v := .agg #[.slice r0_slots_a_42 r0_slots_n_42 r0_slots_c_42, .string (fallJo (aD.slots.map SlotH.d) aD.journal aKeep).text, .int .i64 (fallJo (aD.slots.map SlotH.d) aD.journal aKeep).sure]) F94 rfl rfl (r_loadB S89.at' 4 TI_32 rfl rfl (F94.ev 8 rfl) rfl rfl (fun h => nomatch h) rfl) rfl fun _ F95 => ?_)))))
     refine l_op (f_mv F95 rfl rfl rfl rfl rfl fun _ F96 => ?_)
     refine l_op (f_call F96 CF_26 rfl rfl rfl rfl (lc (F96.ev 50 rfl) (lc (F96.ev 51 rfl) rfl)) (laws_heldDisk_c (H := fun _ => True) (d := (fallL (aD.slots.map SlotH.d) aD.journal)) (a := (⟨D_89, (fallJo (aD.slots.map SlotH.d) aD.journal aKeep)⟩ : DiskH)) (k := 1) (At.rd S89.at' ET_29.hk 0 rfl) (At.nrd S89.at' 1 rfl) ko65_0 (by first | assumption | exact ⟨by omega, by omega⟩ | (unfold i64ok at *; omega) | (simp only [i64ok]; omega)) ⟨by omega, by first | omega | (unfold i64ok at *; omega)⟩ (by assumption) (by first | assumption | omega | (simp <;> omega)) (by first | assumption | omega | (simp <;> omega))) ?_)
     rintro _ w97 ⟨rfl, m97⟩
     refine ⟨_, rfl, fun _ F98 => ?_⟩
     have S97 := At.frame0 S89.at' m97
     clear m97
     refine l_op (f_as F98 rfl rfl rfl rfl rfl fun _ F99 => ?_)
     have F100 : Fr 74 [(11, .int .i64 ((1 + sumOf cntSl (fallL (aD.slots.map SlotH.d) aD.journal) : Nat) : Int)), (10, .int .i64 ((1 + sumOf cntSl (fallL (aD.slots.map SlotH.d) aD.journal) : Nat) : Int)), (1, .int .i64 aKeep), (2, .pointer (some ⟨b1, 0, none⟩)), (6, .pointer (some ⟨b27, 0, none⟩)), (8, .pointer (some ⟨b44, 0, none⟩))] _ := F99.cut rfl
     clear F94 F95 F96 F98 F99
     have T101 : Mv _ _ [ow 99 3 encSlot okSlot (.slice r0_slots_a_42 r0_slots_n_42 r0_slots_c_42) D_89, gr inSlot D_89, ow 99 3 encSlot okSlot (.slice r0_slots_a_33 r0_slots_n_33 r0_slots_c_33) D_70, gr inSlot D_70, bx b44 [.slice r0_slots_a_42 r0_slots_n_42 r0_slots_c_42, .string (fallJo (aD.slots.map SlotH.d) aD.journal aKeep).text, .int .i64 (fallJo (aD.slots.map SlotH.d) aD.journal aKeep).sure] 32, bx b35 [.slice r0_slots_a_33 r0_slots_n_33 r0_slots_c_33, .string aD.journal.text, .int .i64 aD.journal.sure] 32, bx b27 [.slice r0_slots_a_25 r0_slots_n_25 r0_slots_c_25, .string (fallJo (aD.slots.map SlotH.d) aD.journal aKeep).text, .int .i64 (fallJo (aD.slots.map SlotH.d) aD.journal aKeep).sure] 32, ow 99 3 encSlot okSlot (.slice r0_slots_a_25 r0_slots_n_25 r0_slots_c_25) D_25, gr inSlot D_25, ow 99 3 encSlot okSlot (.slice r0_slots_a_22 r0_slots_n_22 r0_slots_c_22) D_22, gr inSlot D_22, bx b1 [.slice aD_slots_a aD_slots_n aD_slots_c, .string aD.journal.text, .int .i64 aD.journal.sure] 26, ow 99 3 encSlot okSlot (.slice r0_slots_a_60 r0_slots_n_60 r0_slots_c_60) D_60, gr inSlot D_60] _ := S97
     refine s_end (x_normal (wp_seq (wp_seq (wp_region_lit (l_op (f_mv F100 rfl rfl rfl rfl rfl fun _ F102 => ?_))))))
     refine l_op (f_val F102 rfl rfl (r_cmp (b := false) (.inr (.inr (.inl rfl))) rfl (F102.ev 53 rfl) rfl (cmp_lt0 _ _ (by omega))) rfl fun _ F103 => ?_)
     have F104 : Fr 74 [(54, .bool false), (11, .int .i64 ((1 + sumOf cntSl (fallL (aD.slots.map SlotH.d) aD.journal) : Nat) : Int)), (10, .int .i64 ((1 + sumOf cntSl (fallL (aD.slots.map SlotH.d) aD.journal) : Nat) : Int)), (1, .int .i64 aKeep), (2, .pointer (some ⟨b1, 0, none⟩)), (6, .pointer (some ⟨b27, 0, none⟩)), (8, .pointer (some ⟨b44, 0, none⟩))] _ := F103.cut rfl
     clear F100 F102 F103
     refine s_end (x_normal (wp_cond_false (F104.ev 54 rfl) (wp_skip (x_normal (wp_seq (wp_seq (wp_region_lit (l_op (f_mv F104 rfl rfl rfl rfl rfl fun _ F105 => ?_)))))))))
     refine l_op (f_mv F105 rfl rfl rfl rfl rfl fun _ F106 => ?_)
     refine l_op (f_val F106 rfl rfl (r_cmp (b := false) (.inr (.inl rfl)) rfl (F106.ev 55 rfl) (F106.ev 56 rfl) (cmp_nes _)) rfl fun _ F107 => ?_)
     have F108 : Fr 74 [(57, .bool false), (10, .int .i64 ((1 + sumOf cntSl (fallL (aD.slots.map SlotH.d) aD.journal) : Nat) : Int)), (1, .int .i64 aKeep), (2, .pointer (some ⟨b1, 0, none⟩)), (6, .pointer (some ⟨b27, 0, none⟩)), (8, .pointer (some ⟨b44, 0, none⟩))] _ := F107.cut rfl
     clear F104 F105 F106 F107
     refine s_end (x_normal (wp_cond_false (F108.ev 57 rfl) (wp_skip (x_normal (wp_seq (wp_region_lit (l_op (f_val (v := .agg #[.slice aD_slots_a aD_slots_n aD_slots_c, .string aD.journal.text, .int .i64 aD.journal.sure]) F108 rfl rfl (r_loadB T101.at' 11 TI_26 rfl rfl (F108.ev 2 rfl) rfl rfl (fun h => nomatch h) rfl) rfl fun _ F109 => ?_))))))))
     refine l_op (f_call F109 CF_13 rfl rfl rfl rfl (lc (F109.ev 58 rfl) rfl) (laws_toDisk_c (a := aD) (RdA.mv (Nat.succ_pos _) V_v_aD_slots (T5.trans (T14.trans (S22.trans (S25.trans (S27.trans (T31.trans (S33.trans (S35.trans (T39.trans (S42.trans (S44.trans (T48.trans (T55.trans (S65.trans (S70.trans (T84.trans (S89.trans T101)))))))))))))))))) (NRa.mv V_u_aD_slots (T5.trans (T14.trans (S22.trans (S25.trans (S27.trans (T31.trans (S33.trans (S35.trans (T39.trans (S42.trans (S44.trans (T48.trans (T55.trans (S65.trans (S70.trans (T84.trans (S89.trans T101)))))))))))))))))) ko65_1 (by first | assumption | exact ⟨by omega, by omega⟩ | (unfold i64ok at *; omega) | (simp only [i64ok]; omega)) (by exact hfit)) ?_)
     rintro _ w110 ⟨D_110, r0_slots_a_110, r0_slots_n_110, r0_slots_c_110, rfl, m110, ok_r0_journal_text_110, q110_0, q110_1, q110_2⟩
     refine ⟨_, rfl, fun _ F111 => ?_⟩
     have S110 : Mv _ _ [ow 99 3 encSlot okSlot (.slice r0_slots_a_110 r0_slots_n_110 r0_slots_c_110) D_110, gr inSlot D_110, ow 99 3 encSlot okSlot (.slice r0_slots_a_42 r0_slots_n_42 r0_slots_c_42) D_89, gr inSlot D_89, ow 99 3 encSlot okSlot (.slice r0_slots_a_33 r0_slots_n_33 r0_slots_c_33) D_70, gr inSlot D_70, bx b44 [.slice r0_slots_a_42 r0_slots_n_42 r0_slots_c_42, .string (fallJo (aD.slots.map SlotH.d) aD.journal aKeep).text, .int .i64 (fallJo (aD.slots.map SlotH.d) aD.journal aKeep).sure] 32, bx b35 [.slice r0_slots_a_33 r0_slots_n_33 r0_slots_c_33, .string aD.journal.text, .int .i64 aD.journal.sure] 32, bx b27 [.slice r0_slots_a_25 r0_slots_n_25 r0_slots_c_25, .string (fallJo (aD.slots.map SlotH.d) aD.journal aKeep).text, .int .i64 (fallJo (aD.slots.map SlotH.d) aD.journal aKeep).sure] 32, ow 99 3 encSlot okSlot (.slice r0_slots_a_25 r0_slots_n_25 r0_slots_c_25) D_25, gr inSlot D_25, ow 99 3 encSlot okSlot (.slice r0_slots_a_22 r0_slots_n_22 r0_slots_c_22) D_22, gr inSlot D_22, bx b1 [.slice aD_slots_a aD_slots_n aD_slots_c, .string aD.journal.text, .int .i64 aD.journal.sure] 26, ow 99 3 encSlot okSlot (.slice r0_slots_a_60 r0_slots_n_60 r0_slots_c_60) D_60, gr inSlot D_60] _ := At.frame T101.at' [] rfl m110
     obtain ⟨lo110_0, lp110_0, lq110_0⟩ := At.ownInv S110.at' ET_29.hk 0 rfl
     clear m110
     refine l_op (f_mv F111 rfl rfl rfl rfl rfl fun _ F112 => ?_)
     refine l_op (f_call F112 CF_32 rfl rfl rfl rfl (lc (F112.ev 59 rfl) (lc (F112.ev 60 rfl) rfl)) (impl_FallDisk_c (H := fun _ => True) (L := (aD.slots.map SlotH.d)) (d := (⟨D_110, aD.journal⟩ : DiskH)) (keep := aKeep) (At.rd S110.at' ET_29.hk 0 rfl) (At.nrd S110.at' 1 rfl) ok_r0_journal_text_110 (by first | assumption | exact ⟨by omega, by omega⟩ | (unfold i64ok at *; omega) | (simp only [i64ok]; omega)) h_aKeep (by assumption) (by exact hfit)) ?_)
     rintro _ w113 ⟨D_113, r0_slots_a_113, r0_slots_n_113, r0_slots_c_113, rfl, m113, ok_r0_journal_text_113, q113_0, q113_1⟩
     refine ⟨_, rfl, fun _ F114 => ?_⟩
     have S113 : Mv _ _ [ow 99 3 encSlot okSlot (.slice r0_slots_a_113 r0_slots_n_113 r0_slots_c_113) D_113, gr inSlot D_113, ow 99 3 encSlot okSlot (.slice r0_slots_a_110 r0_slots_n_110 r0_slots_c_110) D_110, gr inSlot D_110, ow 99 3 encSlot okSlot (.slice r0_slots_a_42 r0_slots_n_42 r0_slots_c_42) D_89, gr inSlot D_89, ow 99 3 encSlot okSlot (.slice r0_slots_a_33 r0_slots_n_33 r0_slots_c_33) D_70, gr inSlot D_70, bx b44 [.slice r0_slots_a_42 r0_slots_n_42 r0_slots_c_42, .string (fallJo (aD.slots.map SlotH.d) aD.journal aKeep).text, .int .i64 (fallJo (aD.slots.map SlotH.d) aD.journal aKeep).sure] 32, bx b35 [.slice r0_slots_a_33 r0_slots_n_33 r0_slots_c_33, .string aD.journal.text, .int .i64 aD.journal.sure] 32, bx b27 [.slice r0_slots_a_25 r0_slots_n_25 r0_slots_c_25, .string (fallJo (aD.slots.map SlotH.d) aD.journal aKeep).text, .int .i64 (fallJo (aD.slots.map SlotH.d) aD.journal aKeep).sure] 32, ow 99 3 encSlot okSlot (.slice r0_slots_a_25 r0_slots_n_25 r0_slots_c_25) D_25, gr inSlot D_25, ow 99 3 encSlot okSlot (.slice r0_slots_a_22 r0_slots_n_22 r0_slots_c_22) D_22, gr inSlot D_22, bx b1 [.slice aD_slots_a aD_slots_n aD_slots_c, .string aD.journal.text, .int .i64 aD.journal.sure] 26, ow 99 3 encSlot okSlot (.slice r0_slots_a_60 r0_slots_n_60 r0_slots_c_60) D_60, gr inSlot D_60] _ := At.frame S110.at' [] rfl m113
     obtain ⟨lo113_0, lp113_0, lq113_0⟩ := At.ownInv S113.at' ET_29.hk 0 rfl
     clear m113
     refine l_op (f_alloc F114 S113.at' ZI_32 rfl rfl rfl rfl rfl fun b115 _ w115 F116 S115 => ?_)
     refine l_op (s_store S115.at' 0 TI_32 rfl rfl rfl rfl rfl (F116.ev 12 rfl) (F116.ev 61 rfl) rfl rfl rfl rfl rfl fun w117 S117 => ?_)
     have F118 : Fr 74 [(12, .pointer (some ⟨b115, 0, none⟩)), (61, .agg #[.slice r0_slots_a_113 r0_slots_n_113 r0_slots_c_113, .string (fallJo (aD.slots.map SlotH.d) aD.journal aKeep).text, .int .i64 (fallJo (aD.slots.map SlotH.d) aD.journal aKeep).sure]), (10, .int .i64 ((1 + sumOf cntSl (fallL (aD.slots.map SlotH.d) aD.journal) : Nat) : Int)), (6, .pointer (some ⟨b27, 0, none⟩)), (8, .pointer (some ⟨b44, 0, none⟩))] _ := F116.cut rfl
     clear F108 F109 F111 F112 F114 F116
     have T119 : Mv _ _ [bx b115 [.slice r0_slots_a_113 r0_slots_n_113 r0_slots_c_113, .string (fallJo (aD.slots.map SlotH.d) aD.journal aKeep).text, .int .i64 (fallJo (aD.slots.map SlotH.d) aD.journal aKeep).sure] 32, ow 99 3 encSlot okSlot (.slice r0_slots_a_113 r0_slots_n_113 r0_slots_c_113) D_113, gr inSlot D_113, ow 99 3 encSlot okSlot (.slice r0_slots_a_110 r0_slots_n_110 r0_slots_c_110) D_110, gr inSlot D_110, ow 99 3 encSlot okSlot (.slice r0_slots_a_42 r0_slots_n_42 r0_slots_c_42) D_89, gr inSlot D_89, ow 99 3 encSlot okSlot (.slice r0_slots_a_33 r0_slots_n_33 r0_slots_c_33) D_70, gr inSlot D_70, bx b44 [.slice r0_slots_a_42 r0_slots_n_42 r0_slots_c_42, .string (fallJo (aD.slots.map SlotH.d) aD.journal aKeep).text, .int .i64 (fallJo (aD.slots.map SlotH.d) aD.journal aKeep).sure] 32, bx b35 [.slice r0_slots_a_33 r0_slots_n_33 r0_slots_c_33, .string aD.journal.text, .int .i64 aD.journal.sure] 32, bx b27 [.slice r0_slots_a_25 r0_slots_n_25 r0_slots_c_25, .string (fallJo (aD.slots.map SlotH.d) aD.journal aKeep).text, .int .i64 (fallJo (aD.slots.map SlotH.d) aD.journal aKeep).sure] 32, ow 99 3 encSlot okSlot (.slice r0_slots_a_25 r0_slots_n_25 r0_slots_c_25) D_25, gr inSlot D_25, ow 99 3 encSlot okSlot (.slice r0_slots_a_22 r0_slots_n_22 r0_slots_c_22) D_22, gr inSlot D_22, bx b1 [.slice aD_slots_a aD_slots_n aD_slots_c, .string aD.journal.text, .int .i64 aD.journal.sure] 26, ow 99 3 encSlot okSlot (.slice r0_slots_a_60 r0_slots_n_60 r0_slots_c_60) D_60, gr inSlot D_60] _ := S117
     refine s_end (x_normal (wp_seq (wp_seq (wp_region_lit (l_op (f_val (v := .agg #[.slice r0_slots_a_113 r0_slots_n_113 r0_slots_c_113, .string (fallJo (aD.slots.map SlotH.d) aD.journal aKeep).text, .int .i64 (fallJo (aD.slots.map SlotH.d) aD.journal aKeep).sure]) F118 rfl rfl (r_loadB T119.at' 0 TI_32 rfl rfl (F118.ev 12 rfl) rfl rfl (fun h => nomatch h) rfl) rfl fun _ F120 => ?_))))))
     refine l_op (f_val (v := .agg #[.slice r0_slots_a_25 r0_slots_n_25 r0_slots_c_25, .string (fallJo (aD.slots.map SlotH.d) aD.journal aKeep).text, .int .i64 (fallJo (aD.slots.map SlotH.d) aD.journal aKeep).sure]) F120 rfl rfl (r_loadB T119.at' 11 TI_32 rfl rfl (F120.ev 6 rfl) rfl rfl (fun h => nomatch h) rfl) rfl fun _ F121 => ?_)
     refine l_op (f_call F121 CF_15 rfl rfl rfl rfl (lc (F121.ev 62 rfl) (lc (F121.ev 63 rfl) rfl)) (laws_eqDisk_c (H := fun _ => True) (a := (⟨D_113, (fallJo (aD.slots.map SlotH.d) aD.journal aKeep)⟩ : DiskH)) (b := (⟨D_25, (fallJo (aD.slots.map SlotH.d) aD.journal aKeep)⟩ : DiskH)) (At.rd T119.at' ET_29.hk 1 rfl) (At.nrd T119.at' 2 rfl) ok_r0_journal_text_113 (by first | assumption | exact ⟨by omega, by omega⟩ | (unfold i64ok at *; omega) | (simp only [i64ok]; omega)) (At.rd T119.at' ET_29.hk 12 rfl) (At.nrd T119.at' 13 rfl) ko65_0 (by first | assumption | exact ⟨by omega, by omega⟩ | (unfold i64ok at *; omega) | (simp only [i64ok]; omega)) (by exact (same2 (by assumption) (by assumption))) (by rfl)) ?_)
     rintro _ w122 ⟨rfl, m122⟩
     refine ⟨_, rfl, fun _ F123 => ?_⟩
     have S122 := At.frame0 T119.at' m122
     clear m122
     refine l_op (f_val F123 rfl rfl (r_not rfl (F123.ev 64 rfl)) rfl fun _ F124 => ?_)
     have F125 : Fr 74 [(65, .bool false), (10, .int .i64 ((1 + sumOf cntSl (fallL (aD.slots.map SlotH.d) aD.journal) : Nat) : Int)), (8, .pointer (some ⟨b44, 0, none⟩))] _ := F124.cut rfl
     clear F118 F120 F121 F123 F124
     have T126 : Mv _ _ [bx b115 [.slice r0_slots_a_113 r0_slots_n_113 r0_slots_c_113, .string (fallJo (aD.slots.map SlotH.d) aD.journal aKeep).text, .int .i64 (fallJo (aD.slots.map SlotH.d) aD.journal aKeep).sure] 32, ow 99 3 encSlot okSlot (.slice r0_slots_a_113 r0_slots_n_113 r0_slots_c_113) D_113, gr inSlot D_113, ow 99 3 encSlot okSlot (.slice r0_slots_a_110 r0_slots_n_110 r0_slots_c_110) D_110, gr inSlot D_110, ow 99 3 encSlot okSlot (.slice r0_slots_a_42 r0_slots_n_42 r0_slots_c_42) D_89, gr inSlot D_89, ow 99 3 encSlot okSlot (.slice r0_slots_a_33 r0_slots_n_33 r0_slots_c_33) D_70, gr inSlot D_70, bx b44 [.slice r0_slots_a_42 r0_slots_n_42 r0_slots_c_42, .string (fallJo (aD.slots.map SlotH.d) aD.journal aKeep).text, .int .i64 (fallJo (aD.slots.map SlotH.d) aD.journal aKeep).sure] 32, bx b35 [.slice r0_slots_a_33 r0_slots_n_33 r0_slots_c_33, .string aD.journal.text, .int .i64 aD.journal.sure] 32, bx b27 [.slice r0_slots_a_25 r0_slots_n_25 r0_slots_c_25, .string (fallJo (aD.slots.map SlotH.d) aD.journal aKeep).text, .int .i64 (fallJo (aD.slots.map SlotH.d) aD.journal aKeep).sure] 32, ow 99 3 encSlot okSlot (.slice r0_slots_a_25 r0_slots_n_25 r0_slots_c_25) D_25, gr inSlot D_25, ow 99 3 encSlot okSlot (.slice r0_slots_a_22 r0_slots_n_22 r0_slots_c_22) D_22, gr inSlot D_22, bx b1 [.slice aD_slots_a aD_slots_n aD_slots_c, .string aD.journal.text, .int .i64 aD.journal.sure] 26, ow 99 3 encSlot okSlot (.slice r0_slots_a_60 r0_slots_n_60 r0_slots_c_60) D_60, gr inSlot D_60] _ := S122
     refine s_end (x_normal (wp_cond_false (F125.ev 65 rfl) (wp_skip (x_normal (wp_seq (wp_region_lit (l_op (f_val F125 rfl rfl (r_assign rfl rfl) rfl fun _ F127 => ?_))))))))
     have F128 : Fr 74 [(11, .int .i64 1), (10, .int .i64 ((1 + sumOf cntSl (fallL (aD.slots.map SlotH.d) aD.journal) : Nat) : Int)), (8, .pointer (some ⟨b44, 0, none⟩))] _ := F127.cut rfl
     clear F125 F127
     refine s_end (x_normal (wp_seq (wp_region_lit (l_op (f_val (v := .agg #[.slice r0_slots_a_42 r0_slots_n_42 r0_slots_c_42, .string (fallJo (aD.slots.map SlotH.d) aD.journal aKeep).text, .int .i64 (fallJo (aD.slots.map SlotH.d) aD.journal aKeep).sure]) F128 rfl rfl (r_loadB T126.at' 9 TI_32 rfl rfl (F128.ev 8 rfl) rfl rfl (fun h => nomatch h) rfl) rfl fun _ F129 => ?_)))))
     refine l_op (f_mv F129 rfl rfl rfl rfl rfl fun _ F130 => ?_)
     refine l_op (f_call F130 CF_26 rfl rfl rfl rfl (lc (F130.ev 66 rfl) (lc (F130.ev 67 rfl) rfl)) (laws_heldDisk_c (H := fun _ => True) (d := (fallL (aD.slots.map SlotH.d) aD.journal)) (a := (⟨D_89, (fallJo (aD.slots.map SlotH.d) aD.journal aKeep)⟩ : DiskH)) (k := 1) (At.rd T126.at' ET_29.hk 5 rfl) (At.nrd T126.at' 6 rfl) ko65_0 (by first | assumption | exact ⟨by omega, by omega⟩ | (unfold i64ok at *; omega) | (simp only [i64ok]; omega)) ⟨by omega, by first | omega | (unfold i64ok at *; omega)⟩ (by assumption) (by first | assumption | omega | (simp <;> omega)) (by first | assumption | omega | (simp <;> omega))) ?_)
     rintro _ w131 ⟨rfl, m131⟩
     refine ⟨_, rfl, fun _ F132 => ?_⟩
     have S131 := At.frame0 T126.at' m131
     clear m131
     refine l_op (f_as F132 rfl rfl rfl rfl rfl fun _ F133 => ?_)
     have F134 : Fr 74 [(11, .int .i64 ((1 + sumOf cntSl (fallL (aD.slots.map SlotH.d) aD.journal) : Nat) : Int)), (10, .int .i64 ((1 + sumOf cntSl (fallL (aD.slots.map SlotH.d) aD.journal) : Nat) : Int))] _ := F133.cut rfl
     clear F128 F129 F130 F132 F133
     have T135 : Mv _ _ [bx b115 [.slice r0_slots_a_113 r0_slots_n_113 r0_slots_c_113, .string (fallJo (aD.slots.map SlotH.d) aD.journal aKeep).text, .int .i64 (fallJo (aD.slots.map SlotH.d) aD.journal aKeep).sure] 32, ow 99 3 encSlot okSlot (.slice r0_slots_a_113 r0_slots_n_113 r0_slots_c_113) D_113, gr inSlot D_113, ow 99 3 encSlot okSlot (.slice r0_slots_a_110 r0_slots_n_110 r0_slots_c_110) D_110, gr inSlot D_110, ow 99 3 encSlot okSlot (.slice r0_slots_a_42 r0_slots_n_42 r0_slots_c_42) D_89, gr inSlot D_89, ow 99 3 encSlot okSlot (.slice r0_slots_a_33 r0_slots_n_33 r0_slots_c_33) D_70, gr inSlot D_70, bx b44 [.slice r0_slots_a_42 r0_slots_n_42 r0_slots_c_42, .string (fallJo (aD.slots.map SlotH.d) aD.journal aKeep).text, .int .i64 (fallJo (aD.slots.map SlotH.d) aD.journal aKeep).sure] 32, bx b35 [.slice r0_slots_a_33 r0_slots_n_33 r0_slots_c_33, .string aD.journal.text, .int .i64 aD.journal.sure] 32, bx b27 [.slice r0_slots_a_25 r0_slots_n_25 r0_slots_c_25, .string (fallJo (aD.slots.map SlotH.d) aD.journal aKeep).text, .int .i64 (fallJo (aD.slots.map SlotH.d) aD.journal aKeep).sure] 32, ow 99 3 encSlot okSlot (.slice r0_slots_a_25 r0_slots_n_25 r0_slots_c_25) D_25, gr inSlot D_25, ow 99 3 encSlot okSlot (.slice r0_slots_a_22 r0_slots_n_22 r0_slots_c_22) D_22, gr inSlot D_22, bx b1 [.slice aD_slots_a aD_slots_n aD_slots_c, .string aD.journal.text, .int .i64 aD.journal.sure] 26, ow 99 3 encSlot okSlot (.slice r0_slots_a_60 r0_slots_n_60 r0_slots_c_60) D_60, gr inSlot D_60] _ := S131
     refine s_end (x_normal (wp_seq (wp_seq (wp_region_lit (l_op (f_mv F134 rfl rfl rfl rfl rfl fun _ F136 => ?_))))))
     refine l_op (f_val F136 rfl rfl (r_cmp (b := false) (.inr (.inr (.inl rfl))) rfl (F136.ev 69 rfl) rfl (cmp_lt0 _ _ (by omega))) rfl fun _ F137 => ?_)
     have F138 : Fr 74 [(70, .bool false), (11, .int .i64 ((1 + sumOf cntSl (fallL (aD.slots.map SlotH.d) aD.journal) : Nat) : Int)), (10, .int .i64 ((1 + sumOf cntSl (fallL (aD.slots.map SlotH.d) aD.journal) : Nat) : Int))] _ := F137.cut rfl
     clear F134 F136 F137
     refine s_end (x_normal (wp_cond_false (F138.ev 70 rfl) (wp_skip (x_normal (wp_seq (wp_seq (wp_region_lit (l_op (f_mv F138 rfl rfl rfl rfl rfl fun _ F139 => ?_)))))))))
     refine l_op (f_mv F139 rfl rfl rfl rfl rfl fun _ F140 => ?_)
     refine l_op (f_val F140 rfl rfl (r_cmp (b := false) (.inr (.inl rfl)) rfl (F140.ev 71 rfl) (F140.ev 72 rfl) (cmp_nes _)) rfl fun _ F141 => ?_)
     have F142 : Fr 74 [(73, .bool false)] _ := F141.cut rfl
     clear F138 F139 F140 F141
     refine s_end (x_normal (wp_cond_false (F142.ev 73 rfl) (wp_skip (x_normal (wp_seq (wp_region_lit (l_op (f_val F142 rfl rfl (r_assign rfl rfl) rfl fun _ F143 => ?_))))))))
     have F144 : Fr 74 [(4, .bool true)] _ := F143.cut rfl
     clear F142 F143
     refine s_end (x_normal (wp_ret ?_))
     refine x_done (v := .bool true) F144 (results_1 Try.results8 (.tmp (F144.ev 4 rfl))) ?_
     exact ⟨rfl, (Mv.pick (T5.trans (T14.trans (S22.trans (S25.trans (S27.trans (T31.trans (S33.trans (S35.trans (T39.trans (S42.trans (S44.trans (T48.trans (T55.trans (S65.trans (S70.trans (T84.trans (S89.trans (T101.trans (S110.trans (S113.trans (S115.trans (T119.trans (T126.trans T135))))))))))))))))))))))) [] rfl)⟩
end Go.Proofs.Ytgfilegkabbliaa
namespace Go.Proofs.Ytgfilegkabbliaa.falldisk
open Go.ChangeShapes Go.WideShapes Go.ChangeAt Go.RowKit
set_option maxRecDepth 100000
theorem cells_3 : Try.prog.cellsOf 3 = 1 := by kernel_rfl
theorem cells_4 : Try.prog.cellsOf 4 = 1 := by kernel_rfl
theorem cells_9 : Try.prog.cellsOf 9 = 1 := by kernel_rfl
theorem cells_22 : Try.prog.cellsOf 22 = 1 := by kernel_rfl
theorem cells_24 : Try.prog.cellsOf 24 = 2 := by kernel_rfl
theorem cells_26 : Try.prog.cellsOf 26 = 3 := by kernel_rfl
theorem cells_60 : Try.prog.cellsOf 60 = 1 := by kernel_rfl
theorem cells_130 : Try.prog.cellsOf 130 = 3 := by kernel_rfl
theorem cells_153 : Try.prog.cellsOf 153 = 2 := by kernel_rfl
theorem called (W : World) (args : Array Value) (h : ArgsRead Try.prog W Try.f8.params.toList args.toList) : Calls Try.prog 8 args W fun e W' => e = .returned (.bool true) ∧ Bl W W' := by
  obtain ⟨hl, h⟩ := h
  rw [Try.params8] at hl h
  obtain ⟨v0, v1, rfl⟩ : ∃ v0 v1, args = #[v0, v1] := by
    obtain ⟨l⟩ := args
    match l, hl with
    | [v0, v1], _ => exact ⟨v0, v1, rfl⟩
  obtain ⟨r0, o0⟩ := h 0 _ v0 rfl rfl
  obtain ⟨cs0, rfl, hcs0⟩ := agg_of_okWide Try.underlying26 o0
  rw [hcs0] at r0
  have hlen0 := (r0.struct Try.underlying26).1
  rw [cells_26] at hlen0
  obtain ⟨c0_0, c0_1, c0_2, rfl⟩ : ∃ c0_0 c0_1 c0_2, cs0 = [c0_0, c0_1, c0_2] := by
    match cs0, hlen0 with
    | [c0_0, c0_1, c0_2], _ => exact ⟨c0_0, c0_1, c0_2, rfl⟩
  obtain ⟨_, hf_0⟩ := r0.struct Try.underlying26
  have f_0_0 : Reads Try.prog W 22 [c0_0] := by simpa [cells_22] using hf_0 0 _ rfl
  have row_0_0 : ∀ row, row.length = 3 → Reads Try.prog W 130 row → ∃ x, row = encSlot x ∧ okSlot x ∧ ∀ I ∈ inSlot x, I.ra (fun _ => True) W := by
    intro row hl hr_0_0
    match row, hl with
    | [q_0_0_0, q_0_0_1, q_0_0_2], _ =>
      obtain ⟨_, hf_0_0e⟩ := hr_0_0.struct Try.underlying130
      have f_0_0e_0 : Reads Try.prog W 3 [q_0_0_0] := by simpa [cells_3] using hf_0_0e 0 _ rfl
      obtain ⟨i_0_0e_0, e_0_0e_0, h_0_0e_0, g_0_0e_0⟩ := f_0_0e_0.i64 Try.underlying3
      cases e_0_0e_0
      have f_0_0e_1 : Reads Try.prog W 60 [q_0_0_1] := by simpa [cells_60] using hf_0_0e 1 _ rfl
      obtain ⟨a_0_0e_1, n_0_0e_1, c_0_0e_1, l_0_0e_1, e_0_0e_1, v_0_0e_1⟩ := rdA_of Try.underlying60 cells_153 (by decide) (cell_row Try.underlying153 rfl rfl rfl rfl cells_9 cells_9 Try.underlying9 Try.underlying9) f_0_0e_1
      cases e_0_0e_1
      have f_0_0e_2 : Reads Try.prog W 4 [q_0_0_2] := by simpa [cells_4] using hf_0_0e 2 _ rfl
      obtain ⟨b_0_0e_2, e_0_0e_2⟩ := f_0_0e_2.bool Try.underlying4
      cases e_0_0e_2
      refine ⟨(⟨(⟨i_0_0e_0, l_0_0e_1, b_0_0e_2⟩ : SlotD), a_0_0e_1, n_0_0e_1, c_0_0e_1⟩ : SlotH), rfl, ⟨h_0_0e_0, g_0_0e_0⟩, fun I hI => ?_⟩
      simp only [inSlot, List.mem_cons, List.not_mem_nil, or_false] at hI
      rcases hI with rfl
      · exact v_0_0e_1
  obtain ⟨a_0_0, n_0_0, c_0_0, l_0_0, e_0_0, v_0_0, u_0_0⟩ := rdN_of (inns := inSlot) Try.underlying22 cells_130 (by decide) row_0_0 f_0_0
  cases e_0_0
  have f_0_1 : Reads Try.prog W 24 [c0_1, c0_2] := by simpa [cells_24] using hf_0 1 _ rfl
  obtain ⟨_, hf_0_1⟩ := f_0_1.struct Try.underlying24
  have f_0_1_0 : Reads Try.prog W 9 [c0_1] := by simpa [cells_9] using hf_0_1 0 _ rfl
  obtain ⟨s_0_1_0, e_0_1_0, h_0_1_0⟩ := f_0_1_0.string Try.underlying9
  cases e_0_1_0
  have f_0_1_1 : Reads Try.prog W 3 [c0_2] := by simpa [cells_3] using hf_0_1 1 _ rfl
  obtain ⟨i_0_1_1, e_0_1_1, h_0_1_1, g_0_1_1⟩ := f_0_1_1.i64 Try.underlying3
  cases e_0_1_1
  obtain ⟨r1, o1⟩ := h 1 _ v1 rfl rfl
  have q1 := reads_one Try.underlying3 trivial o1 r1
  obtain ⟨i_1, e_1, h_1, g_1⟩ := q1.i64 Try.underlying3
  cases e_1
  exact (laws_FnExactFallDisk_c (w := W) (H := fun _ => True) (aD := (⟨l_0_0, (⟨s_0_1_0, i_0_1_1⟩ : JouD)⟩ : DiskH)) (aKeep := i_1) v_0_0 u_0_0 (maxLen_le h_0_1_0) ⟨h_0_1_1, g_0_1_1⟩ ⟨h_1, g_1⟩).mono fun e W' ⟨h1, h2⟩ => ⟨h1, h2.bl⟩
theorem own : ownKnob Try.prog.godebug = none := by kernel_rfl
theorem laidOut : laidOutB Try.prog = true := by kernel_rfl
theorem readable : ∀ t ∈ Try.f8.params.toList, Try.prog.readableRec t = true ∧ t < Try.prog.types.size := of_decide_eq_true (by kernel_rfl)
theorem lifted (os : Os) (started : os.Started) (H : Type) (enc : TypeId × Value → H) :
    ReturnsInHanded {} Try.checked os 8 .any (Rows.fnExactFallDiskSpec.pre6 enc Try.prog Try.f8 Rows.fnExactFallDiskRow.domain false) (Rows.fnExactFallDiskSpec.post enc Try.prog Try.f8 false true false false) := by
  refine returnsInHanded_of_change (C := Try.checked) own started (by kernel_rfl) Try.func8
    (ChangeSpec.witness6 (enc := enc) (C := Try.checked) false ⟨#[], #[.agg #[.slice none 0 0, .string (⟨#[]⟩ : ByteArray), .int .i64 0], .int .i64 0], []⟩ 8 (by kernel_rfl) (by kernel_rfl) (by kernel_rfl) (by kernel_rfl)) ?_
  intro W base args ds gs before hval hW _ _
  refine law_contract laidOut readable Try.underlying4 rfl rfl ?_ called H enc false true false false W args ds gs before hval hW
  intro H ds hd
  match ds, hd with
  | [a, b], _ => rfl
theorem proved : Rows.FnExactFallDiskSaid :=
  OpenClaim.holds_of_wide 8 Try.f8 rfl rfl rfl rfl rfl rfl rfl ⟨rfl, rfl, rfl, rfl, rfl⟩ rfl rfl rfl rfl rfl (by kernel_rfl) Try.func8 (by kernel_rfl)
    (of_decide_eq_true (by kernel_rfl)) (by unfold Func.isWrapper; first | (rw [if_pos (by decide +kernel)]; kernel_rfl) | (rw [if_neg (by decide +kernel)]; exact ⟨rfl, rfl⟩))
    (fun os started H enc _ => lifted os started H enc)
end Go.Proofs.Ytgfilegkabbliaa.falldisk
