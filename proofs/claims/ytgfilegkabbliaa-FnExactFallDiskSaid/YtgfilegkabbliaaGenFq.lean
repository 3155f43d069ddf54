/-
  Walks: a disk falls.
-/
import Derived.Test.YtgfilegkabbliaaGenFo
import Derived.Test.YtgfilegkabbliaaGenNsh
namespace Go.Proofs.Ytgfilegkabbliaa
open Go.ChangeShapes Go.WideShapes Go.ChangeAt Go.RowKit
set_option maxRecDepth 100000
set_option maxHeartbeats 1000000
theorem impl_FallJournal_c {w : World} {H : Nat → Prop} {j : JouD} {keep : Int} (h_j_text : okS j.text) (h_j_sure : i64ok j.sure) (h_keep : i64ok keep) :
    Calls Try.prog 74 #[.agg #[.string j.text, .int .i64 j.sure], .int .i64 keep] w fun e w' => e = .returned (.agg #[.string (fallJ j keep).text, .int .i64 (fallJ j keep).sure]) ∧ Mv [] w [] w' ∧ okS (fallJ j keep).text ∧ i64ok (fallJ j keep).sure := by
 have uU : True := (fun _ => trivial) H
 clear uU
 have z1 := h_j_text
 unfold okS at z1
 refine calls_enter 27 Try.func74 rfl Try.ntmps74 (Nat.le_of_ble_eq_true rfl) (fun _ F0i => ?_)
 have F0 : Fr 27 [(0, .agg #[.string j.text, .int .i64 j.sure]), (1, .int .i64 keep)] _ := F0i
 clear F0i
 refine wp_seq (wp_region_lit (l_op (f_box F0 (At.nil w) rfl rfl rfl (F0.ev 0 rfl) rfl rfl fun b1 _ w1 F2 S1 => ?_)))
 refine l_op (f_alloc F2 S1.at' ZI_30 rfl rfl rfl rfl rfl fun b3 _ w3 F4 S3 => ?_)
 have F5 : Fr 27 [(4, .pointer (some ⟨b3, 0, none⟩)), (2, .pointer (some ⟨b1, 0, none⟩)), (1, .int .i64 keep)] _ := F4.cut rfl
 clear F0 F2 F4
 have T6 : Mv _ _ [bx b3 [.string (⟨#[]⟩ : ByteArray), .int .i64 0] 30, bx b1 [.string j.text, .int .i64 j.sure] 30] _ := S3
 refine s_end (x_normal (wp_seq (wp_seq (wp_region_lit (l_op (f_val (v := .agg #[.string j.text, .int .i64 j.sure]) F5 rfl rfl (r_loadB T6.at' 1 TI_30 rfl rfl (F5.ev 2 rfl) rfl rfl (fun h => nomatch h) rfl) rfl fun _ F7 => ?_))))))
 refine l_op (f_call F7 CF_123 rfl rfl rfl rfl (lc (F7.ev 6 rfl) rfl) (impl_JournalOk_c (H := fun _ => True) (j := j) h_j_text (by first | assumption | exact ⟨by omega, by omega⟩ | (unfold i64ok at *; omega) | (simp only [i64ok]; omega))) ?_)
 rintro _ w8 ⟨rfl, m8⟩
 refine ⟨_, rfl, fun _ F9 => ?_⟩
 have S8 := At.frame0 T6.at' m8
 clear m8
 refine l_op (f_val F9 rfl rfl (r_not rfl (F9.ev 7 rfl)) rfl fun _ F10 => ?_)
 have F11 : Fr 27 [(8, .bool (!(jouOk j))), (4, .pointer (some ⟨b3, 0, none⟩)), (2, .pointer (some ⟨b1, 0, none⟩)), (1, .int .i64 keep)] _ := F10.cut rfl
 clear F5 F7 F9 F10
 have T12 : Mv _ _ [bx b3 [.string (⟨#[]⟩ : ByteArray), .int .i64 0] 30, bx b1 [.string j.text, .int .i64 j.sure] 30] _ := S8
 refine s_end (x_normal (x_condb (b := (!(jouOk j))) (F11.ev 8 rfl) (fun h13 => ?_) (fun h13 => ?_)))
 · skip
   refine wp_seq (wp_region_lit (l_op (f_val (v := .agg #[.string j.text, .int .i64 j.sure]) F11 rfl rfl (r_loadB T12.at' 1 TI_30 rfl rfl (F11.ev 2 rfl) rfl rfl (fun h => nomatch h) rfl) rfl fun _ F14 => ?_)))
   refine l_op (s_store T12.at' 0 TI_30 rfl rfl rfl rfl rfl (F14.ev 4 rfl) (F14.ev 9 rfl) rfl rfl rfl rfl rfl fun w15 S15 => ?_)
   have F16 : Fr 27 [(9, .agg #[.string j.text, .int .i64 j.sure]), (4, .pointer (some ⟨b3, 0, none⟩))] _ := F14.cut rfl
   clear F11 F14
   have T17 : Mv _ _ [bx b3 [.string j.text, .int .i64 j.sure] 30, bx b1 [.string j.text, .int .i64 j.sure] 30] _ := S15
   refine s_end (x_normal (wp_ret (x_then_ret ?_)))
   refine x_done (v := .agg #[.string j.text, .int .i64 j.sure]) F16 (results_1 Try.results74 (.cell (F16.ev 4 rfl) (run_loadVar' TI_30 _ [.string j.text, .int .i64 j.sure] rfl (fun h => nomatch h) (At.cells T17.at' 0 rfl 0 [.string j.text, .int .i64 j.sure] rfl)))) ?_
   exact ⟨(by rw [(show j.text = (fallJ j keep).text from by rw [fallJ_f (by assumption)]), (show j.sure = (fallJ j keep).sure from by rw [fallJ_f (by assumption)])]), (Mv.pick (S1.trans (T6.trans (T12.trans T17))) [] rfl), ((show j.text = (fallJ j keep).text from by rw [fallJ_f (by assumption)]) ▸ h_j_text), fallJ_i64 h_j_sure⟩
 · skip
   refine wp_skip (x_normal (wp_seq ?_))
   have hjb := jouOk_bd (by assumption)
   refine x_draw (fun aZ wZ => Fr 27 [(2, .pointer (some ⟨b1, 0, none⟩)), (4, .pointer (some ⟨b3, 0, none⟩)), (5, .int .i64 (j.sure + (max 0 (min keep (((j.text.size : Nat) : Int) - j.sure)))))] aZ ∧ Mv [bx b3 [.string (⟨#[]⟩ : ByteArray), .int .i64 0] 30, bx b1 [.string j.text, .int .i64 j.sure] 30] w8 [bx b3 [.string (⟨#[]⟩ : ByteArray), .int .i64 0] 30, bx b1 [.string j.text, .int .i64 j.sure] 30] wZ) [bx b1 [.string j.text, .int .i64 j.sure] 30] mixed T12.at' (listed := #[false, false, false, false, false, false, false, false, false, false, false, false]) rfl (fun w19 S19 => ?_) [1] rfl ?_
   · skip
     refine g_take F11 rfl (i := 0) (listed' := #[true, false, false, false, false, false, false, false, false, false, false, false]) rfl (by kernel_rfl) (by kernel_rfl) (by kernel_rfl) (fun _ _ _ h => h) (Sd.of (Mv.refl S19.at') [1] rfl) rfl rfl rfl rfl (fun _ hz => (r_field FI_30_1 rfl (F11.ev 2 rfl) rfl)) fun _ F20 => ?_
     refine g_take (v := .int .i64 j.sure) F20 rfl (i := 1) (listed' := #[true, true, false, false, false, false, false, false, false, false, false, false]) rfl (by kernel_rfl) (by kernel_rfl) (by kernel_rfl) (fun _ _ _ h => h) (Sd.of (Mv.refl S19.at') [1] rfl) rfl rfl rfl rfl (fun _ hz => (r_loadX (hz.bx 0 rfl) TI_3 rfl (F20.ev 10 rfl) rfl rfl (fun _ => rfl) rfl)) fun _ F21 => ?_
     refine g_take F21 rfl (i := 2) (listed' := #[true, true, true, false, false, false, false, false, false, false, false, false]) rfl (by kernel_rfl) (by kernel_rfl) (by kernel_rfl) (fun _ _ _ h => h) (Sd.of (Mv.refl S19.at') [1] rfl) rfl rfl rfl rfl (fun _ hz => (r_move rfl (F21.ev 1 rfl))) fun _ F22 => ?_
     refine g_take F22 rfl (i := 3) (listed' := #[true, true, true, true, false, false, false, false, false, false, false, false]) rfl (by kernel_rfl) (by kernel_rfl) (by kernel_rfl) (fun _ _ _ h => h) (Sd.of (Mv.refl S19.at') [1] rfl) rfl rfl rfl rfl (fun _ hz => (r_field FI_30_0 rfl (F22.ev 2 rfl) rfl)) fun _ F23 => ?_
     refine g_take (v := .string j.text) F23 rfl (i := 4) (listed' := #[true, true, true, true, true, false, false, false, false, false, false, false]) rfl (by kernel_rfl) (by kernel_rfl) (by kernel_rfl) (fun _ _ _ h => h) (Sd.of (Mv.refl S19.at') [1] rfl) rfl rfl rfl rfl (fun _ hz => (r_loadX (hz.bx 0 rfl) TI_9 rfl (F23.ev 13 rfl) rfl rfl (fun _ => rfl) rfl)) fun _ F24 => ?_
     refine g_take F24 rfl (i := 5) (listed' := #[true, true, true, true, true, true, false, false, false, false, false, false]) rfl (by kernel_rfl) (by kernel_rfl) (by kernel_rfl) (fun _ _ _ h => h) (Sd.of (Mv.refl S19.at') [1] rfl) rfl rfl rfl rfl (fun _ hz => (r_lenS (fun t ht => by cases ht; exact Try.underlying9) rfl rfl (F24.ev 14 rfl))) fun _ F25 => ?_
     refine g_take F25 rfl (i := 6) (listed' := #[true, true, true, true, true, true, true, false, false, false, false, false]) rfl (by kernel_rfl) (by kernel_rfl) (by kernel_rfl) (fun _ _ _ h => h) (Sd.of (Mv.refl S19.at') [1] rfl) rfl rfl rfl rfl (fun _ hz => (r_field FI_30_1 rfl (F25.ev 2 rfl) rfl)) fun _ F26 => ?_
     refine g_take (v := .int .i64 j.sure) F26 rfl (i := 7) (listed' := #[true, true, true, true, true, true, true, true, false, false, false, false]) rfl (by kernel_rfl) (by kernel_rfl) (by kernel_rfl) (fun _ _ _ h => h) (Sd.of (Mv.refl S19.at') [1] rfl) rfl rfl rfl rfl (fun _ hz => (r_loadX (hz.bx 0 rfl) TI_3 rfl (F26.ev 16 rfl) rfl rfl (fun _ => rfl) rfl)) fun _ F27 => ?_
     refine g_take F27 rfl (i := 8) (listed' := #[true, true, true, true, true, true, true, true, true, false, false, false]) rfl (by kernel_rfl) (by kernel_rfl) (by kernel_rfl) (fun _ _ _ h => h) (Sd.of (Mv.refl S19.at') [1] rfl) rfl rfl rfl rfl (fun _ hz => (r_sub (z := (((j.text.size : Nat) : Int) - j.sure)) rfl (F27.ev 15 rfl) (F27.ev 17 rfl) (by first | rfl | omega) ⟨by first | omega | (unfold i64ok at *; omega), by first | omega | (unfold i64ok at *; omega)⟩)) fun _ F28 => ?_
     refine d_one (i := 9) (listed' := #[true, true, true, true, true, true, true, true, true, true, false, false]) rfl (by kernel_rfl) rfl rfl ?_
     refine f_call F28 CF_72 rfl rfl rfl rfl (lc (F28.ev 12 rfl) (lc rfl (lc (F28.ev 18 rfl) rfl))) (impl_Brought_c (H := fun _ => True) (n := keep) (least := 0) (most := (((j.text.size : Nat) : Int) - j.sure)) h_keep (by first | assumption | exact ⟨by omega, by omega⟩ | (unfold i64ok at *; omega)) (by first | assumption | exact ⟨by omega, by omega⟩ | (unfold i64ok at *; omega))) ?_
     rintro _ w29 ⟨rfl, m29⟩
     refine ⟨_, rfl, fun _ F30 => ?_⟩
     have S29 := At.frame0 S19.at' m29
     clear m29
     refine ⟨Sd.of S29 [1] rfl, ?_⟩
     refine g_take F30 rfl (i := 10) (listed' := #[true, true, true, true, true, true, true, true, true, true, true, false]) rfl (by kernel_rfl) (by kernel_rfl) (by kernel_rfl) (fun _ _ _ h => h) (Sd.of S29 [1] rfl) rfl rfl rfl rfl (fun _ hz => (r_add (z := (j.sure + (max 0 (min keep (((j.text.size : Nat) : Int) - j.sure))))) rfl (F30.ev 11 rfl) (F30.ev 19 rfl) (by first | rfl | omega) ⟨by first | omega | (unfold i64ok at *; omega), by first | omega | (unfold i64ok at *; omega)⟩)) fun _ F31 => ?_
     refine g_take F31 rfl (i := 11) (listed' := #[true, true, true, true, true, true, true, true, true, true, true, true]) rfl (by kernel_rfl) (by kernel_rfl) (by kernel_rfl) (fun _ _ _ h => h) (Sd.of S29 [1] rfl) rfl rfl rfl rfl (fun _ hz => (r_assign rfl (F31.ev 20 rfl))) fun _ F32 => ?_
     refine wpAnyH_done (by kernel_rfl) (x_normal ?_) _
     exact ⟨F32.cut rfl, ((S19.trans S29).pick [0, 1] rfl)⟩
   · rintro a33 w33 ⟨F33, S33⟩
     refine x_normal (wp_seq (wp_region_lit (l_op (f_val F33 rfl rfl (r_field FI_30_0 rfl (F33.ev 2 rfl) rfl) rfl fun _ F34 => ?_))))
     refine l_op (f_val (v := .string j.text) F34 rfl rfl (r_loadB S33.at' 1 TI_9 rfl rfl (F34.ev 21 rfl) rfl rfl (fun _ => rfl) rfl) rfl fun _ F35 => ?_)
     refine l_op (f_mv F35 rfl rfl rfl rfl rfl fun _ F36 => ?_)
     refine l_op (f_val F36 rfl rfl (r_sliceS (l := 0) (h := (j.sure + (max 0 (min keep (((j.text.size : Nat) : Int) - j.sure)))).toNat) Try.underlying9 rfl (F36.ev 22 rfl) rfl ((F36.ev 23 rfl).trans (congrArg _ (by omega))) (by first | assumption | omega) (by first | assumption | omega) rfl) rfl fun _ F37 => ?_)
     refine l_op (f_mv F37 rfl rfl rfl rfl rfl fun _ F38 => ?_)
     refine l_op (f_val (v := .agg #[.string (j.text.extract 0 (j.sure + (max 0 (min keep (((j.text.size : Nat) : Int) - j.sure)))).toNat), .int .i64 (j.sure + (max 0 (min keep (((j.text.size : Nat) : Int) - j.sure))))]) F38 rfl rfl (r_build BI_30 rfl (lc (pr2 (F38.ev 24 rfl)) (lc (pr2 (F38.ev 25 rfl)) rfl)) rfl) rfl fun _ F39 => ?_)
     refine l_op (s_store S33.at' 0 TI_30 rfl rfl rfl rfl rfl (F39.ev 4 rfl) (F39.ev 26 rfl) rfl rfl rfl rfl rfl fun w40 S40 => ?_)
     have F41 : Fr 27 [(26, .agg #[.string (j.text.extract 0 (j.sure + (max 0 (min keep (((j.text.size : Nat) : Int) - j.sure)))).toNat), .int .i64 (j.sure + (max 0 (min keep (((j.text.size : Nat) : Int) - j.sure))))]), (4, .pointer (some ⟨b3, 0, none⟩))] _ := F39.cut rfl
     clear F33 F34 F35 F36 F37 F38 F39
     have T42 : Mv _ _ [bx b3 [.string (j.text.extract 0 (j.sure + (max 0 (min keep (((j.text.size : Nat) : Int) - j.sure)))).toNat), .int .i64 (j.sure + (max 0 (min keep (((j.text.size : Nat) : Int) - j.sure))))] 30, bx b1 [.string j.text, .int .i64 j.sure] 30] _ := S40
     refine s_end (x_normal (wp_ret ?_))
     refine x_done (v := .agg #[.string (j.text.extract 0 (j.sure + (max 0 (min keep (((j.text.size : Nat) : Int) - j.sure)))).toNat), .int .i64 (j.sure + (max 0 (min keep (((j.text.size : Nat) : Int) - j.sure))))]) F41 (results_1 Try.results74 (.cell (F41.ev 4 rfl) (run_loadVar' TI_30 _ [.string (j.text.extract 0 (j.sure + (max 0 (min keep (((j.text.size : Nat) : Int) - j.sure)))).toNat), .int .i64 (j.sure + (max 0 (min keep (((j.text.size : Nat) : Int) - j.sure))))] rfl (fun h => nomatch h) (At.cells T42.at' 0 rfl 0 [.string (j.text.extract 0 (j.sure + (max 0 (min keep (((j.text.size : Nat) : Int) - j.sure)))).toNat), .int .i64 (j.sure + (max 0 (min keep (((j.text.size : Nat) : Int) - j.sure))))] rfl)))) ?_
     exact ⟨(by rw [(show (j.text.extract 0 (j.sure + (max 0 (min keep (((j.text.size : Nat) : Int) - j.sure)))).toNat) = (fallJ j keep).text from by rw [fallJ_t (by assumption)]), (show (j.sure + (max 0 (min keep (((j.text.size : Nat) : Int) - j.sure)))) = (fallJ j keep).sure from by rw [fallJ_t (by assumption)])]), (Mv.pick (S1.trans (T6.trans (T12.trans (S33.trans T42)))) [] rfl), ((show (j.text.extract 0 (j.sure + (max 0 (min keep (((j.text.size : Nat) : Int) - j.sure)))).toNat) = (fallJ j keep).text from by rw [fallJ_t (by assumption)]) ▸ (okS_ext h_j_text)), fallJ_i64 h_j_sure⟩
theorem spec_FallJournal_c {w : World} {H : Nat → Prop} {j : JouD} {keep : Int} (h_j_text : okS j.text) (h_j_sure : i64ok j.sure) (h_keep : i64ok keep) :
    Calls Try.prog 73 #[.agg #[.string j.text, .int .i64 j.sure], .int .i64 keep] w fun e w' => e = .returned (.agg #[.string (fallJ j keep).text, .int .i64 (fallJ j keep).sure]) ∧ Mv [] w [] w' ∧ okS (fallJ j keep).text ∧ i64ok (fallJ j keep).sure := by
 have uU : True := (fun _ => trivial) H
 clear uU
 have z1 := h_j_text
 unfold okS at z1
 refine calls_enter 29 Try.func73 rfl Try.ntmps73 (Nat.le_of_ble_eq_true rfl) (fun _ F0i => ?_)
 have F0 : Fr 29 [(0, .agg #[.string j.text, .int .i64 j.sure]), (1, .int .i64 keep)] _ := F0i
 clear F0i
 refine wp_seq (wp_region_lit (l_op (f_box F0 (At.nil w) rfl rfl rfl (F0.ev 0 rfl) rfl rfl fun b1 _ w1 F2 S1 => ?_)))
 refine l_op (f_alloc F2 S1.at' ZI_30 rfl rfl rfl rfl rfl fun b3 _ w3 F4 S3 => ?_)
 have F5 : Fr 29 [(4, .pointer (some ⟨b3, 0, none⟩)), (2, .pointer (some ⟨b1, 0, none⟩)), (1, .int .i64 keep)] _ := F4.cut rfl
 clear F0 F2 F4
 have T6 : Mv _ _ [bx b3 [.string (⟨#[]⟩ : ByteArray), .int .i64 0] 30, bx b1 [.string j.text, .int .i64 j.sure] 30] _ := S3
 refine s_end (x_normal (wp_seq (wp_seq (wp_region_lit (l_op (f_val (v := .agg #[.string j.text, .int .i64 j.sure]) F5 rfl rfl (r_loadB T6.at' 1 TI_30 rfl rfl (F5.ev 2 rfl) rfl rfl (fun h => nomatch h) rfl) rfl fun _ F7 => ?_))))))
 refine l_op (f_call F7 CF_119 rfl rfl rfl rfl (lc (F7.ev 5 rfl) rfl) (spec_JournalOk_c (H := fun _ => True) (j := j) h_j_text (by first | assumption | exact ⟨by omega, by omega⟩ | (unfold i64ok at *; omega) | (simp only [i64ok]; omega))) ?_)
 rintro _ w8 ⟨rfl, m8⟩
 refine ⟨_, rfl, fun _ F9 => ?_⟩
 have S8 := At.frame0 T6.at' m8
 clear m8
 refine l_op (f_val F9 rfl rfl (r_not rfl (F9.ev 6 rfl)) rfl fun _ F10 => ?_)
 have F11 : Fr 29 [(7, .bool (!(jouOk j))), (4, .pointer (some ⟨b3, 0, none⟩)), (2, .pointer (some ⟨b1, 0, none⟩)), (1, .int .i64 keep)] _ := F10.cut rfl
 clear F5 F7 F9 F10
 have T12 : Mv _ _ [bx b3 [.string (⟨#[]⟩ : ByteArray), .int .i64 0] 30, bx b1 [.string j.text, .int .i64 j.sure] 30] _ := S8
 refine s_end (x_normal (x_condb (b := (!(jouOk j))) (F11.ev 7 rfl) (fun h13 => ?_) (fun h13 => ?_)))
 · skip
   refine wp_seq (wp_region_lit (l_op (f_val (v := .agg #[.string j.text, .int .i64 j.sure]) F11 rfl rfl (r_loadB T12.at' 1 TI_30 rfl rfl (F11.ev 2 rfl) rfl rfl (fun h => nomatch h) rfl) rfl fun _ F14 => ?_)))
   refine l_op (s_store T12.at' 0 TI_30 rfl rfl rfl rfl rfl (F14.ev 4 rfl) (F14.ev 8 rfl) rfl rfl rfl rfl rfl fun w15 S15 => ?_)
   have F16 : Fr 29 [(8, .agg #[.string j.text, .int .i64 j.sure]), (4, .pointer (some ⟨b3, 0, none⟩))] _ := F14.cut rfl
   clear F11 F14
   have T17 : Mv _ _ [bx b3 [.string j.text, .int .i64 j.sure] 30, bx b1 [.string j.text, .int .i64 j.sure] 30] _ := S15
   refine s_end (x_normal (wp_ret (x_then_ret ?_)))
   refine x_done (v := .agg #[.string j.text, .int .i64 j.sure]) F16 (results_1 Try.results73 (.cell (F16.ev 4 rfl) (run_loadVar' TI_30 _ [.string j.text, .int .i64 j.sure] rfl (fun h => nomatch h) (At.cells T17.at' 0 rfl 0 [.string j.text, .int .i64 j.sure] rfl)))) ?_
   exact ⟨((congrArg (fun zZ => Ending.returned (.agg #[.string zZ, .int .i64 j.sure])) (show j.text = (fallJ j keep).text from by rw [fallJ_f (by assumption)])).trans (congrArg (fun zZ => Ending.returned (.agg #[.string (fallJ j keep).text, .int .i64 zZ])) (show j.sure = (fallJ j keep).sure from by rw [fallJ_f (by assumption)]))), (Mv.pick (S1.trans (T6.trans (T12.trans T17))) [] rfl), ((show j.text = (fallJ j keep).text from by rw [fallJ_f (by assumption)]) ▸ h_j_text), fallJ_i64 h_j_sure⟩
 · skip
   refine wp_skip (x_normal (wp_seq ?_))
   have hjb := jouOk_bd (by assumption)
   refine x_draw (fun aZ wZ => Fr 29 [(2, .pointer (some ⟨b1, 0, none⟩)), (4, .pointer (some ⟨b3, 0, none⟩))] aZ ∧ Mv [bx b3 [.string (⟨#[]⟩ : ByteArray), .int .i64 0] 30, bx b1 [.string j.text, .int .i64 j.sure] 30] w8 [bx b3 [.string (⟨#[]⟩ : ByteArray), .int .i64 0] 30, bx b1 [.string (j.text.extract 0 (j.sure + (max 0 (min keep (((j.text.size : Nat) : Int) - j.sure)))).toNat), .int .i64 j.sure] 30] wZ ∧ okS (j.text.extract 0 (j.sure + (max 0 (min keep (((j.text.size : Nat) : Int) - j.sure)))).toNat)) [] mixed T12.at' (listed := #[false, false, false, false, false, false, false, false, false, false, false, false, false, false, false, false]) rfl (fun w19 S19 => ?_) [] rfl ?_
   · skip
     refine x_lem (fun aZ wZ => Fr 29 [(23, .pointer (some ⟨b1, 0, none⟩)), (22, .string (j.text.extract 0 (j.sure + (max 0 (min keep (((j.text.size : Nat) : Int) - j.sure)))).toNat)), (4, .pointer (some ⟨b3, 0, none⟩)), (2, .pointer (some ⟨b1, 0, none⟩))] aZ ∧ Mv [bx b3 [.string (⟨#[]⟩ : ByteArray), .int .i64 0] 30, bx b1 [.string j.text, .int .i64 j.sure] 30] w19 [bx b3 [.string (⟨#[]⟩ : ByteArray), .int .i64 0] 30, bx b1 [.string j.text, .int .i64 j.sure] 30] wZ) #[true, true, true, true, true, true, true, true, true, true, true, true, true, true, true, false] 1 ?_ (fun G96 => ?_)
     · rintro a96 w96 ⟨F96, S96⟩
       refine d_one (i := 15) (listed' := #[true, true, true, true, true, true, true, true, true, true, true, true, true, true, true, true]) rfl (by kernel_rfl) rfl rfl ?_
       refine s_store S96.at' 1 TI_9 rfl rfl rfl rfl rfl (F96.ev 23 rfl) (F96.ev 22 rfl) rfl rfl rfl rfl rfl fun w97 S97 => ?_
       refine ⟨Sd.of (S96.trans S97) [] rfl, ?_⟩
       refine wpAnyH_done (by kernel_rfl) (x_normal ?_) _
       exact ⟨F96.cut rfl, ((S19.trans (S96.trans S97)).pick [1, 0] rfl), (okS_ext h_j_text)⟩
     refine x_lem (fun aZ wZ => Fr 29 [(21, .int .i64 (j.sure + (max 0 (min keep (((j.text.size : Nat) : Int) - j.sure))))), (9, .pointer (some ⟨b1, 0, none⟩)), (4, .pointer (some ⟨b3, 0, none⟩)), (2, .pointer (some ⟨b1, 0, none⟩))] aZ ∧ Mv [bx b3 [.string (⟨#[]⟩ : ByteArray), .int .i64 0] 30, bx b1 [.string j.text, .int .i64 j.sure] 30] w19 [bx b3 [.string (⟨#[]⟩ : ByteArray), .int .i64 0] 30, bx b1 [.string j.text, .int .i64 j.sure] 30] wZ) #[true, false, true, true, true, true, true, true, true, true, true, true, true, false, false, false] 4 ?_ (fun G98 => ?_)
     · rintro a98 w98 ⟨F98, S98⟩
       refine d_one (i := 1) (listed' := #[true, true, true, true, true, true, true, true, true, true, true, true, true, false, false, false]) rfl (by kernel_rfl) rfl rfl ?_
       refine f_val (v := .string j.text) F98 rfl rfl (r_loadB S98.at' 1 TI_9 rfl rfl (F98.ev 9 rfl) rfl rfl (fun _ => rfl) rfl) rfl fun _ F99 => ?_
       refine ⟨Sd.of S98 [] rfl, ?_⟩
       refine g_take F99 rfl (i := 13) (listed' := #[true, true, true, true, true, true, true, true, true, true, true, true, true, true, false, false]) rfl (by kernel_rfl) (by kernel_rfl) (by kernel_rfl) (fun _ _ _ h => h) (Sd.of S98 [] rfl) rfl rfl rfl rfl (fun _ hz => (r_sliceS (l := 0) (h := (j.sure + (max 0 (min keep (((j.text.size : Nat) : Int) - j.sure)))).toNat) Try.underlying9 rfl (F99.ev 10 rfl) rfl ((F99.ev 21 rfl).trans (congrArg _ (by omega))) (by first | assumption | omega) (by first | assumption | omega) rfl)) fun _ F100 => ?_
       refine g_take F100 rfl (i := 14) (listed' := #[true, true, true, true, true, true, true, true, true, true, true, true, true, true, true, false]) rfl (by kernel_rfl) (by kernel_rfl) (by kernel_rfl) (fun _ _ _ h => h) (Sd.of S98 [] rfl) rfl rfl rfl rfl (fun _ hz => (r_field FI_30_0 rfl (F100.ev 2 rfl) rfl)) fun _ F101 => ?_
       exact G96 _ _ ⟨F101.cut rfl, S98.pick [0, 1] rfl⟩
     refine x_lem (fun aZ wZ => Fr 29 [(19, .int .i64 (((j.text.size : Nat) : Int) - j.sure)), (12, .int .i64 j.sure), (10, .string j.text), (13, .int .i64 keep), (4, .pointer (some ⟨b3, 0, none⟩)), (2, .pointer (some ⟨b1, 0, none⟩))] aZ ∧ Mv [bx b3 [.string (⟨#[]⟩ : ByteArray), .int .i64 0] 30, bx b1 [.string j.text, .int .i64 j.sure] 30] w19 [bx b3 [.string (⟨#[]⟩ : ByteArray), .int .i64 0] 30, bx b1 [.string j.text, .int .i64 j.sure] 30] wZ) #[true, true, true, true, true, true, true, true, true, true, true, false, false, false, false, false] 5 ?_ (fun G102 => ?_)
     · rintro a102 w102 ⟨F102, S102⟩
       refine d_one (i := 11) (listed' := #[true, true, true, true, true, true, true, true, true, true, true, true, false, false, false, false]) rfl (by kernel_rfl) rfl rfl ?_
       refine f_call F102 CF_70 rfl rfl rfl rfl (lc (F102.ev 13 rfl) (lc rfl (lc (F102.ev 19 rfl) rfl))) (spec_Brought_c (H := fun _ => True) (n := keep) (least := 0) (most := (((j.text.size : Nat) : Int) - j.sure)) h_keep (by first | assumption | exact ⟨by omega, by omega⟩ | (unfold i64ok at *; omega)) (by first | assumption | exact ⟨by omega, by omega⟩ | (unfold i64ok at *; omega))) ?_
       rintro _ w103 ⟨rfl, m103⟩
       refine ⟨_, rfl, fun _ F104 => ?_⟩
       have S103 := At.frame0 S102.at' m103
       clear m103
       refine ⟨Sd.of (S102.trans S103) [] rfl, ?_⟩
       refine g_take F104 rfl (i := 12) (listed' := #[true, true, true, true, true, true, true, true, true, true, true, true, true, false, false, false]) rfl (by kernel_rfl) (by kernel_rfl) (by kernel_rfl) (fun _ _ _ h => h) (Sd.of (S102.trans S103) [] rfl) rfl rfl rfl rfl (fun _ hz => (r_add (z := (j.sure + (max 0 (min keep (((j.text.size : Nat) : Int) - j.sure))))) rfl (F104.ev 12 rfl) (F104.ev 20 rfl) (by first | rfl | omega) ⟨by first | omega | (unfold i64ok at *; omega), by first | omega | (unfold i64ok at *; omega)⟩)) fun _ F105 => ?_
       refine g_take F105 rfl (i := 13) (listed' := #[true, true, true, true, true, true, true, true, true, true, true, true, true, true, false, false]) rfl (by kernel_rfl) (by kernel_rfl) (by kernel_rfl) (fun _ _ _ h => h) (Sd.of (S102.trans S103) [] rfl) rfl rfl rfl rfl (fun _ hz => (r_sliceS (l := 0) (h := (j.sure + (max 0 (min keep (((j.text.size : Nat) : Int) - j.sure)))).toNat) Try.underlying9 rfl (F105.ev 10 rfl) rfl ((F105.ev 21 rfl).trans (congrArg _ (by omega))) (by first | assumption | omega) (by first | assumption | omega) rfl)) fun _ F106 => ?_
       refine g_take F106 rfl (i := 14) (listed' := #[true, true, true, true, true, true, true, true, true, true, true, true, true, true, true, false]) rfl (by kernel_rfl) (by kernel_rfl) (by kernel_rfl) (fun _ _ _ h => h) (Sd.of (S102.trans S103) [] rfl) rfl rfl rfl rfl (fun _ hz => (r_field FI_30_0 rfl (F106.ev 2 rfl) rfl)) fun _ F107 => ?_
       exact G96 _ _ ⟨F107.cut rfl, (S102.trans S103).pick [0, 1] rfl⟩
     refine x_lem (fun aZ wZ => Fr 29 [(20, .int .i64 (max 0 (min keep (((j.text.size : Nat) : Int) - j.sure)))), (10, .string j.text), (11, .pointer (some ⟨b1, 1, none⟩)), (4, .pointer (some ⟨b3, 0, none⟩)), (2, .pointer (some ⟨b1, 0, none⟩))] aZ ∧ Mv [bx b3 [.string (⟨#[]⟩ : ByteArray), .int .i64 0] 30, bx b1 [.string j.text, .int .i64 j.sure] 30] w19 [bx b3 [.string (⟨#[]⟩ : ByteArray), .int .i64 0] 30, bx b1 [.string j.text, .int .i64 j.sure] 30] wZ) #[true, true, true, false, true, true, true, true, true, true, true, true, false, false, false, false] 5 ?_ (fun G108 => ?_)
     · rintro a108 w108 ⟨F108, S108⟩
       refine d_one (i := 3) (listed' := #[true, true, true, true, true, true, true, true, true, true, true, true, false, false, false, false]) rfl (by kernel_rfl) rfl rfl ?_
       refine f_val (v := .int .i64 j.sure) F108 rfl rfl (r_loadB S108.at' 1 TI_3 rfl rfl (F108.ev 11 rfl) rfl rfl (fun _ => rfl) rfl) rfl fun _ F109 => ?_
       refine ⟨Sd.of S108 [] rfl, ?_⟩
       refine g_take F109 rfl (i := 12) (listed' := #[true, true, true, true, true, true, true, true, true, true, true, true, true, false, false, false]) rfl (by kernel_rfl) (by kernel_rfl) (by kernel_rfl) (fun _ _ _ h => h) (Sd.of S108 [] rfl) rfl rfl rfl rfl (fun _ hz => (r_add (z := (j.sure + (max 0 (min keep (((j.text.size : Nat) : Int) - j.sure))))) rfl (F109.ev 12 rfl) (F109.ev 20 rfl) (by first | rfl | omega) ⟨by first | omega | (unfold i64ok at *; omega), by first | omega | (unfold i64ok at *; omega)⟩)) fun _ F110 => ?_
       refine g_take F110 rfl (i := 13) (listed' := #[true, true, true, true, true, true, true, true, true, true, true, true, true, true, false, false]) rfl (by kernel_rfl) (by kernel_rfl) (by kernel_rfl) (fun _ _ _ h => h) (Sd.of S108 [] rfl) rfl rfl rfl rfl (fun _ hz => (r_sliceS (l := 0) (h := (j.sure + (max 0 (min keep (((j.text.size : Nat) : Int) - j.sure)))).toNat) Try.underlying9 rfl (F110.ev 10 rfl) rfl ((F110.ev 21 rfl).trans (congrArg _ (by omega))) (by first | assumption | omega) (by first | assumption | omega) rfl)) fun _ F111 => ?_
       refine g_take F111 rfl (i := 14) (listed' := #[true, true, true, true, true, true, true, true, true, true, true, true, true, true, true, false]) rfl (by kernel_rfl) (by kernel_rfl) (by kernel_rfl) (fun _ _ _ h => h) (Sd.of S108 [] rfl) rfl rfl rfl rfl (fun _ hz => (r_field FI_30_0 rfl (F111.ev 2 rfl) rfl)) fun _ F112 => ?_
       exact G96 _ _ ⟨F112.cut rfl, S108.pick [0, 1] rfl⟩
     refine x_lem (fun aZ wZ => Fr 29 [(19, .int .i64 (((j.text.size : Nat) : Int) - j.sure)), (10, .string j.text), (13, .int .i64 keep), (11, .pointer (some ⟨b1, 1, none⟩)), (4, .pointer (some ⟨b3, 0, none⟩)), (2, .pointer (some ⟨b1, 0, none⟩))] aZ ∧ Mv [bx b3 [.string (⟨#[]⟩ : ByteArray), .int .i64 0] 30, bx b1 [.string j.text, .int .i64 j.sure] 30] w19 [bx b3 [.string (⟨#[]⟩ : ByteArray), .int .i64 0] 30, bx b1 [.string j.text, .int .i64 j.sure] 30] wZ) #[true, true, true, false, true, true, true, true, true, true, true, false, false, false, false, false] 6 ?_ (fun G113 => ?_)
     · rintro a113 w113 ⟨F113, S113⟩
       refine d_all (rs := [3, 11]) rfl (by kernel_rfl) (by simp) (d_cons (i := 3) (listed' := #[true, true, true, true, true, true, true, true, true, true, true, false, false, false, false, false]) rfl rfl ?_ (d_cons (i := 11) (listed' := #[true, true, true, false, true, true, true, true, true, true, true, true, false, false, false, false]) rfl rfl ?_ d_nil))
       · skip
         refine f_val (v := .int .i64 j.sure) F113 rfl rfl (r_loadB S113.at' 1 TI_3 rfl rfl (F113.ev 11 rfl) rfl rfl (fun _ => rfl) rfl) rfl fun _ F114 => ?_
         refine ⟨Sd.of S113 [] rfl, ?_⟩
         exact G102 _ _ ⟨F114.cut rfl, S113.pick [0, 1] rfl⟩
       · skip
         refine f_call F113 CF_70 rfl rfl rfl rfl (lc (F113.ev 13 rfl) (lc rfl (lc (F113.ev 19 rfl) rfl))) (spec_Brought_c (H := fun _ => True) (n := keep) (least := 0) (most := (((j.text.size : Nat) : Int) - j.sure)) h_keep (by first | assumption | exact ⟨by omega, by omega⟩ | (unfold i64ok at *; omega)) (by first | assumption | exact ⟨by omega, by omega⟩ | (unfold i64ok at *; omega))) ?_
         rintro _ w115 ⟨rfl, m115⟩
         refine ⟨_, rfl, fun _ F116 => ?_⟩
         have S115 := At.frame0 S113.at' m115
         clear m115
         refine ⟨Sd.of (S113.trans S115) [] rfl, ?_⟩
         exact G108 _ _ ⟨F116.cut rfl, (S113.trans S115).pick [0, 1] rfl⟩
     refine x_lem (fun aZ wZ => Fr 29 [(19, .int .i64 (((j.text.size : Nat) : Int) - j.sure)), (12, .int .i64 j.sure), (13, .int .i64 keep), (9, .pointer (some ⟨b1, 0, none⟩)), (4, .pointer (some ⟨b3, 0, none⟩)), (2, .pointer (some ⟨b1, 0, none⟩))] aZ ∧ Mv [bx b3 [.string (⟨#[]⟩ : ByteArray), .int .i64 0] 30, bx b1 [.string j.text, .int .i64 j.sure] 30] w19 [bx b3 [.string (⟨#[]⟩ : ByteArray), .int .i64 0] 30, bx b1 [.string j.text, .int .i64 j.sure] 30] wZ) #[true, false, true, true, true, true, true, true, true, true, true, false, false, false, false, false] 6 ?_ (fun G117 => ?_)
     · rintro a117 w117 ⟨F117, S117⟩
       refine d_all (rs := [1, 11]) rfl (by kernel_rfl) (by simp) (d_cons (i := 1) (listed' := #[true, true, true, true, true, true, true, true, true, true, true, false, false, false, false, false]) rfl rfl ?_ (d_cons (i := 11) (listed' := #[true, false, true, true, true, true, true, true, true, true, true, true, false, false, false, false]) rfl rfl ?_ d_nil))
       · skip
         refine f_val (v := .string j.text) F117 rfl rfl (r_loadB S117.at' 1 TI_9 rfl rfl (F117.ev 9 rfl) rfl rfl (fun _ => rfl) rfl) rfl fun _ F118 => ?_
         refine ⟨Sd.of S117 [] rfl, ?_⟩
         exact G102 _ _ ⟨F118.cut rfl, S117.pick [0, 1] rfl⟩
       · skip
         refine f_call F117 CF_70 rfl rfl rfl rfl (lc (F117.ev 13 rfl) (lc rfl (lc (F117.ev 19 rfl) rfl))) (spec_Brought_c (H := fun _ => True) (n := keep) (least := 0) (most := (((j.text.size : Nat) : Int) - j.sure)) h_keep (by first | assumption | exact ⟨by omega, by omega⟩ | (unfold i64ok at *; omega)) (by first | assumption | exact ⟨by omega, by omega⟩ | (unfold i64ok at *; omega))) ?_
         rintro _ w119 ⟨rfl, m119⟩
         refine ⟨_, rfl, fun _ F120 => ?_⟩
         have S119 := At.frame0 S117.at' m119
         clear m119
         refine ⟨Sd.of (S117.trans S119) [] rfl, ?_⟩
         refine g_take F120 rfl (i := 12) (listed' := #[true, false, true, true, true, true, true, true, true, true, true, true, true, false, false, false]) rfl (by kernel_rfl) (by kernel_rfl) (by kernel_rfl) (fun _ _ _ h => h) (Sd.of (S117.trans S119) [] rfl) rfl rfl rfl rfl (fun _ hz => (r_add (z := (j.sure + (max 0 (min keep (((j.text.size : Nat) : Int) - j.sure))))) rfl (F120.ev 12 rfl) (F120.ev 20 rfl) (by first | rfl | omega) ⟨by first | omega | (unfold i64ok at *; omega), by first | omega | (unfold i64ok at *; omega)⟩)) fun _ F121 => ?_
         exact G98 _ _ ⟨F121.cut rfl, (S117.trans S119).pick [0, 1] rfl⟩
     refine x_lem (fun aZ wZ => Fr 29 [(20, .int .i64 (max 0 (min keep (((j.text.size : Nat) : Int) - j.sure)))), (11, .pointer (some ⟨b1, 1, none⟩)), (9, .pointer (some ⟨b1, 0, none⟩)), (4, .pointer (some ⟨b3, 0, none⟩)), (2, .pointer (some ⟨b1, 0, none⟩))] aZ ∧ Mv [bx b3 [.string (⟨#[]⟩ : ByteArray), .int .i64 0] 30, bx b1 [.string j.text, .int .i64 j.sure] 30] w19 [bx b3 [.string (⟨#[]⟩ : ByteArray), .int .i64 0] 30, bx b1 [.string j.text, .int .i64 j.sure] 30] wZ) #[true, false, true, false, true, true, true, true, true, true, true, true, false, false, false, false] 6 ?_ (fun G122 => ?_)
     · rintro a122 w122 ⟨F122, S122⟩
       refine d_all (rs := [1, 3]) rfl (by kernel_rfl) (by simp) (d_cons (i := 1) (listed' := #[true, true, true, false, true, true, true, true, true, true, true, true, false, false, false, false]) rfl rfl ?_ (d_cons (i := 3) (listed' := #[true, false, true, true, true, true, true, true, true, true, true, true, false, false, false, false]) rfl rfl ?_ d_nil))
       · skip
         refine f_val (v := .string j.text) F122 rfl rfl (r_loadB S122.at' 1 TI_9 rfl rfl (F122.ev 9 rfl) rfl rfl (fun _ => rfl) rfl) rfl fun _ F123 => ?_
         refine ⟨Sd.of S122 [] rfl, ?_⟩
         exact G108 _ _ ⟨F123.cut rfl, S122.pick [0, 1] rfl⟩
       · skip
         refine f_val (v := .int .i64 j.sure) F122 rfl rfl (r_loadB S122.at' 1 TI_3 rfl rfl (F122.ev 11 rfl) rfl rfl (fun _ => rfl) rfl) rfl fun _ F124 => ?_
         refine ⟨Sd.of S122 [] rfl, ?_⟩
         refine g_take F124 rfl (i := 12) (listed' := #[true, false, true, true, true, true, true, true, true, true, true, true, true, false, false, false]) rfl (by kernel_rfl) (by kernel_rfl) (by kernel_rfl) (fun _ _ _ h => h) (Sd.of S122 [] rfl) rfl rfl rfl rfl (fun _ hz => (r_add (z := (j.sure + (max 0 (min keep (((j.text.size : Nat) : Int) - j.sure))))) rfl (F124.ev 12 rfl) (F124.ev 20 rfl) (by first | rfl | omega) ⟨by first | omega | (unfold i64ok at *; omega), by first | omega | (unfold i64ok at *; omega)⟩)) fun _ F125 => ?_
         exact G98 _ _ ⟨F125.cut rfl, S122.pick [0, 1] rfl⟩
     refine x_lem (fun aZ wZ => Fr 29 [(16, .int .i64 ((j.text.size : Nat) : Int)), (12, .int .i64 j.sure), (10, .string j.text), (17, .pointer (some ⟨b1, 1, none⟩)), (13, .int .i64 keep), (4, .pointer (some ⟨b3, 0, none⟩)), (2, .pointer (some ⟨b1, 0, none⟩))] aZ ∧ Mv [bx b3 [.string (⟨#[]⟩ : ByteArray), .int .i64 0] 30, bx b1 [.string j.text, .int .i64 j.sure] 30] w19 [bx b3 [.string (⟨#[]⟩ : ByteArray), .int .i64 0] 30, bx b1 [.string j.text, .int .i64 j.sure] 30] wZ) #[true, true, true, true, true, true, true, true, true, false, false, false, false, false, false, false] 7 ?_ (fun G126 => ?_)
     · rintro a126 w126 ⟨F126, S126⟩
       refine d_one (i := 9) (listed' := #[true, true, true, true, true, true, true, true, true, true, false, false, false, false, false, false]) rfl (by kernel_rfl) rfl rfl ?_
       refine f_val (v := .int .i64 j.sure) F126 rfl rfl (r_loadB S126.at' 1 TI_3 rfl rfl (F126.ev 17 rfl) rfl rfl (fun _ => rfl) rfl) rfl fun _ F127 => ?_
       refine ⟨Sd.of S126 [] rfl, ?_⟩
       refine g_take F127 rfl (i := 10) (listed' := #[true, true, true, true, true, true, true, true, true, true, true, false, false, false, false, false]) rfl (by kernel_rfl) (by kernel_rfl) (by kernel_rfl) (fun _ _ _ h => h) (Sd.of S126 [] rfl) rfl rfl rfl rfl (fun _ hz => (r_sub (z := (((j.text.size : Nat) : Int) - j.sure)) rfl (F127.ev 16 rfl) (F127.ev 18 rfl) (by first | rfl | omega) ⟨by first | omega | (unfold i64ok at *; omega), by first | omega | (unfold i64ok at *; omega)⟩)) fun _ F128 => ?_
       exact G102 _ _ ⟨F128.cut rfl, S126.pick [0, 1] rfl⟩
     refine x_lem (fun aZ wZ => Fr 29 [(19, .int .i64 (((j.text.size : Nat) : Int) - j.sure)), (13, .int .i64 keep), (11, .pointer (some ⟨b1, 1, none⟩)), (9, .pointer (some ⟨b1, 0, none⟩)), (4, .pointer (some ⟨b3, 0, none⟩)), (2, .pointer (some ⟨b1, 0, none⟩))] aZ ∧ Mv [bx b3 [.string (⟨#[]⟩ : ByteArray), .int .i64 0] 30, bx b1 [.string j.text, .int .i64 j.sure] 30] w19 [bx b3 [.string (⟨#[]⟩ : ByteArray), .int .i64 0] 30, bx b1 [.string j.text, .int .i64 j.sure] 30] wZ) #[true, false, true, false, true, true, true, true, true, true, true, false, false, false, false, false] 7 ?_ (fun G129 => ?_)
     · rintro a129 w129 ⟨F129, S129⟩
       refine d_all (rs := [1, 3, 11]) rfl (by kernel_rfl) (by simp) (d_cons (i := 1) (listed' := #[true, true, true, false, true, true, true, true, true, true, true, false, false, false, false, false]) rfl rfl ?_ (d_cons (i := 3) (listed' := #[true, false, true, true, true, true, true, true, true, true, true, false, false, false, false, false]) rfl rfl ?_ (d_cons (i := 11) (listed' := #[true, false, true, false, true, true, true, true, true, true, true, true, false, false, false, false]) rfl rfl ?_ d_nil)))
       · skip
         refine f_val (v := .string j.text) F129 rfl rfl (r_loadB S129.at' 1 TI_9 rfl rfl (F129.ev 9 rfl) rfl rfl (fun _ => rfl) rfl) rfl fun _ F130 => ?_
         refine ⟨Sd.of S129 [] rfl, ?_⟩
         exact G113 _ _ ⟨F130.cut rfl, S129.pick [0, 1] rfl⟩
       · skip
         refine f_val (v := .int .i64 j.sure) F129 rfl rfl (r_loadB S129.at' 1 TI_3 rfl rfl (F129.ev 11 rfl) rfl rfl (fun _ => rfl) rfl) rfl fun _ F131 => ?_
         refine ⟨Sd.of S129 [] rfl, ?_⟩
         exact G117 _ _ ⟨F131.cut rfl, S129.pick [0, 1] rfl⟩
       · skip
         refine f_call F129 CF_70 rfl rfl rfl rfl (lc (F129.ev 13 rfl) (lc rfl (lc (F129.ev 19 rfl) rfl))) (spec_Brought_c (H := fun _ => True) (n := keep) (least := 0) (most := (((j.text.size : Nat) : Int) - j.sure)) h_keep (by first | assumption | exact ⟨by omega, by omega⟩ | (unfold i64ok at *; omega)) (by first | assumption | exact ⟨by omega, by omega⟩ | (unfold i64ok at *; omega))) ?_
         rintro _ w132 ⟨rfl, m132⟩
         refine ⟨_, rfl, fun _ F133 => ?_⟩
         have S132 := At.frame0 S129.at' m132
         clear m132
         refine ⟨Sd.of (S129.trans S132) [] rfl, ?_⟩
         exact G122 _ _ ⟨F133.cut rfl, (S129.trans S132).pick [0, 1] rfl⟩
     refine x_lem (fun aZ wZ => Fr 29 [(18, .int .i64 j.sure), (12, .int .i64 j.sure), (10, .string j.text), (14, .pointer (some ⟨b1, 0, none⟩)), (13, .int .i64 keep), (4, .pointer (some ⟨b3, 0, none⟩)), (2, .pointer (some ⟨b1, 0, none⟩))] aZ ∧ Mv [bx b3 [.string (⟨#[]⟩ : ByteArray), .int .i64 0] 30, bx b1 [.string j.text, .int .i64 j.sure] 30] w19 [bx b3 [.string (⟨#[]⟩ : ByteArray), .int .i64 0] 30, bx b1 [.string j.text, .int .i64 j.sure] 30] wZ) #[true, true, true, true, true, true, false, false, true, true, false, false, false, false, false, false] 8 ?_ (fun G134 => ?_)
     · rintro a134 w134 ⟨F134, S134⟩
       refine d_one (i := 6) (listed' := #[true, true, true, true, true, true, true, false, true, true, false, false, false, false, false, false]) rfl (by kernel_rfl) rfl rfl ?_
       refine f_val (v := .string j.text) F134 rfl rfl (r_loadB S134.at' 1 TI_9 rfl rfl (F134.ev 14 rfl) rfl rfl (fun _ => rfl) rfl) rfl fun _ F135 => ?_
       refine ⟨Sd.of S134 [] rfl, ?_⟩
       refine g_take F135 rfl (i := 7) (listed' := #[true, true, true, true, true, true, true, true, true, true, false, false, false, false, false, false]) rfl (by kernel_rfl) (by kernel_rfl) (by kernel_rfl) (fun _ _ _ h => h) (Sd.of S134 [] rfl) rfl rfl rfl rfl (fun _ hz => (r_lenS (fun t ht => by cases ht; exact Try.underlying9) rfl rfl (F135.ev 15 rfl))) fun _ F136 => ?_
       refine g_take F136 rfl (i := 10) (listed' := #[true, true, true, true, true, true, true, true, true, true, true, false, false, false, false, false]) rfl (by kernel_rfl) (by kernel_rfl) (by kernel_rfl) (fun _ _ _ h => h) (Sd.of S134 [] rfl) rfl rfl rfl rfl (fun _ hz => (r_sub (z := (((j.text.size : Nat) : Int) - j.sure)) rfl (F136.ev 16 rfl) (F136.ev 18 rfl) (by first | rfl | omega) ⟨by first | omega | (unfold i64ok at *; omega), by first | omega | (unfold i64ok at *; omega)⟩)) fun _ F137 => ?_
       exact G102 _ _ ⟨F137.cut rfl, S134.pick [0, 1] rfl⟩
     refine x_lem (fun aZ wZ => Fr 29 [(16, .int .i64 ((j.text.size : Nat) : Int)), (10, .string j.text), (17, .pointer (some ⟨b1, 1, none⟩)), (13, .int .i64 keep), (11, .pointer (some ⟨b1, 1, none⟩)), (4, .pointer (some ⟨b3, 0, none⟩)), (2, .pointer (some ⟨b1, 0, none⟩))] aZ ∧ Mv [bx b3 [.string (⟨#[]⟩ : ByteArray), .int .i64 0] 30, bx b1 [.string j.text, .int .i64 j.sure] 30] w19 [bx b3 [.string (⟨#[]⟩ : ByteArray), .int .i64 0] 30, bx b1 [.string j.text, .int .i64 j.sure] 30] wZ) #[true, true, true, false, true, true, true, true, true, false, false, false, false, false, false, false] 8 ?_ (fun G138 => ?_)
     · rintro a138 w138 ⟨F138, S138⟩
       refine d_all (rs := [3, 9]) rfl (by kernel_rfl) (by simp) (d_cons (i := 3) (listed' := #[true, true, true, true, true, true, true, true, true, false, false, false, false, false, false, false]) rfl rfl ?_ (d_cons (i := 9) (listed' := #[true, true, true, false, true, true, true, true, true, true, false, false, false, false, false, false]) rfl rfl ?_ d_nil))
       · skip
         refine f_val (v := .int .i64 j.sure) F138 rfl rfl (r_loadB S138.at' 1 TI_3 rfl rfl (F138.ev 11 rfl) rfl rfl (fun _ => rfl) rfl) rfl fun _ F139 => ?_
         refine ⟨Sd.of S138 [] rfl, ?_⟩
         exact G126 _ _ ⟨F139.cut rfl, S138.pick [0, 1] rfl⟩
       · skip
         refine f_val (v := .int .i64 j.sure) F138 rfl rfl (r_loadB S138.at' 1 TI_3 rfl rfl (F138.ev 17 rfl) rfl rfl (fun _ => rfl) rfl) rfl fun _ F140 => ?_
         refine ⟨Sd.of S138 [] rfl, ?_⟩
         refine g_take F140 rfl (i := 10) (listed' := #[true, true, true, false, true, true, true, true, true, true, true, false, false, false, false, false]) rfl (by kernel_rfl) (by kernel_rfl) (by kernel_rfl) (fun _ _ _ h => h) (Sd.of S138 [] rfl) rfl rfl rfl rfl (fun _ hz => (r_sub (z := (((j.text.size : Nat) : Int) - j.sure)) rfl (F140.ev 16 rfl) (F140.ev 18 rfl) (by first | rfl | omega) ⟨by first | omega | (unfold i64ok at *; omega), by first | omega | (unfold i64ok at *; omega)⟩)) fun _ F141 => ?_
         exact G113 _ _ ⟨F141.cut rfl, S138.pick [0, 1] rfl⟩
     refine x_lem (fun aZ wZ => Fr 29 [(16, .int .i64 ((j.text.size : Nat) : Int)), (12, .int .i64 j.sure), (17, .pointer (some ⟨b1, 1, none⟩)), (13, .int .i64 keep), (9, .pointer (some ⟨b1, 0, none⟩)), (4, .pointer (some ⟨b3, 0, none⟩)), (2, .pointer (some ⟨b1, 0, none⟩))] aZ ∧ Mv [bx b3 [.string (⟨#[]⟩ : ByteArray), .int .i64 0] 30, bx b1 [.string j.text, .int .i64 j.sure] 30] w19 [bx b3 [.string (⟨#[]⟩ : ByteArray), .int .i64 0] 30, bx b1 [.string j.text, .int .i64 j.sure] 30] wZ) #[true, false, true, true, true, true, true, true, true, false, false, false, false, false, false, false] 8 ?_ (fun G142 => ?_)
     · rintro a142 w142 ⟨F142, S142⟩
       refine d_all (rs := [1, 9]) rfl (by kernel_rfl) (by simp) (d_cons (i := 1) (listed' := #[true, true, true, true, true, true, true, true, true, false, false, false, false, false, false, false]) rfl rfl ?_ (d_cons (i := 9) (listed' := #[true, false, true, true, true, true, true, true, true, true, false, false, false, false, false, false]) rfl rfl ?_ d_nil))
       · skip
         refine f_val (v := .string j.text) F142 rfl rfl (r_loadB S142.at' 1 TI_9 rfl rfl (F142.ev 9 rfl) rfl rfl (fun _ => rfl) rfl) rfl fun _ F143 => ?_
         refine ⟨Sd.of S142 [] rfl, ?_⟩
         exact G126 _ _ ⟨F143.cut rfl, S142.pick [0, 1] rfl⟩
       · skip
         refine f_val (v := .int .i64 j.sure) F142 rfl rfl (r_loadB S142.at' 1 TI_3 rfl rfl (F142.ev 17 rfl) rfl rfl (fun _ => rfl) rfl) rfl fun _ F144 => ?_
         refine ⟨Sd.of S142 [] rfl, ?_⟩
         refine g_take F144 rfl (i := 10) (listed' := #[true, false, true, true, true, true, true, true, true, true, true, false, false, false, false, false]) rfl (by kernel_rfl) (by kernel_rfl) (by kernel_rfl) (fun _ _ _ h => h) (Sd.of S142 [] rfl) rfl rfl rfl rfl (fun _ hz => (r_sub (z := (((j.text.size : Nat) : Int) - j.sure)) rfl (F144.ev 16 rfl) (F144.ev 18 rfl) (by first | rfl | omega) ⟨by first | omega | (unfold i64ok at *; omega), by first | omega | (unfold i64ok at *; omega)⟩)) fun _ F145 => ?_
         exact G117 _ _ ⟨F145.cut rfl, S142.pick [0, 1] rfl⟩
     refine x_lem (fun aZ wZ => Fr 29 [(12, .int .i64 j.sure), (10, .string j.text), (17, .pointer (some ⟨b1, 1, none⟩)), (14, .pointer (some ⟨b1, 0, none⟩)), (13, .int .i64 keep), (4, .pointer (some ⟨b3, 0, none⟩)), (2, .pointer (some ⟨b1, 0, none⟩))] aZ ∧ Mv [bx b3 [.string (⟨#[]⟩ : ByteArray), .int .i64 0] 30, bx b1 [.string j.text, .int .i64 j.sure] 30] w19 [bx b3 [.string (⟨#[]⟩ : ByteArray), .int .i64 0] 30, bx b1 [.string j.text, .int .i64 j.sure] 30] wZ) #[true, true, true, true, true, true, false, false, true, false, false, false, false, false, false, false] 9 ?_ (fun G146 => ?_)
     · rintro a146 w146 ⟨F146, S146⟩
       refine d_all (rs := [6, 9]) rfl (by kernel_rfl) (by simp) (d_cons (i := 6) (listed' := #[true, true, true, true, true, true, true, false, true, false, false, false, false, false, false, false]) rfl rfl ?_ (d_cons (i := 9) (listed' := #[true, true, true, true, true, true, false, false, true, true, false, false, false, false, false, false]) rfl rfl ?_ d_nil))
       · skip
         refine f_val (v := .string j.text) F146 rfl rfl (r_loadB S146.at' 1 TI_9 rfl rfl (F146.ev 14 rfl) rfl rfl (fun _ => rfl) rfl) rfl fun _ F147 => ?_
         refine ⟨Sd.of S146 [] rfl, ?_⟩
         refine g_take F147 rfl (i := 7) (listed' := #[true, true, true, true, true, true, true, true, true, false, false, false, false, false, false, false]) rfl (by kernel_rfl) (by kernel_rfl) (by kernel_rfl) (fun _ _ _ h => h) (Sd.of S146 [] rfl) rfl rfl rfl rfl (fun _ hz => (r_lenS (fun t ht => by cases ht; exact Try.underlying9) rfl rfl (F147.ev 15 rfl))) fun _ F148 => ?_
         exact G126 _ _ ⟨F148.cut rfl, S146.pick [0, 1] rfl⟩
       · skip
         refine f_val (v := .int .i64 j.sure) F146 rfl rfl (r_loadB S146.at' 1 TI_3 rfl rfl (F146.ev 17 rfl) rfl rfl (fun _ => rfl) rfl) rfl fun _ F149 => ?_
         refine ⟨Sd.of S146 [] rfl, ?_⟩
         exact G134 _ _ ⟨F149.cut rfl, S146.pick [0, 1] rfl⟩
     refine x_lem (fun aZ wZ => Fr 29 [(18, .int .i64 j.sure), (10, .string j.text), (14, .pointer (some ⟨b1, 0, none⟩)), (13, .int .i64 keep), (11, .pointer (some ⟨b1, 1, none⟩)), (4, .pointer (some ⟨b3, 0, none⟩)), (2, .pointer (some ⟨b1, 0, none⟩))] aZ ∧ Mv [bx b3 [.string (⟨#[]⟩ : ByteArray), .int .i64 0] 30, bx b1 [.string j.text, .int .i64 j.sure] 30] w19 [bx b3 [.string (⟨#[]⟩ : ByteArray), .int .i64 0] 30, bx b1 [.string j.text, .int .i64 j.sure] 30] wZ) #[true, true, true, false, true, true, false, false, true, true, false, false, false, false, false, false] 9 ?_ (fun G150 => ?_)
     · rintro a150 w150 ⟨F150, S150⟩
       refine d_all (rs := [3, 6]) rfl (by kernel_rfl) (by simp) (d_cons (i := 3) (listed' := #[true, true, true, true, true, true, false, false, true, true, false, false, false, false, false, false]) rfl rfl ?_ (d_cons (i := 6) (listed' := #[true, true, true, false, true, true, true, false, true, true, false, false, false, false, false, false]) rfl rfl ?_ d_nil))
       · skip
         refine f_val (v := .int .i64 j.sure) F150 rfl rfl (r_loadB S150.at' 1 TI_3 rfl rfl (F150.ev 11 rfl) rfl rfl (fun _ => rfl) rfl) rfl fun _ F151 => ?_
         refine ⟨Sd.of S150 [] rfl, ?_⟩
         exact G134 _ _ ⟨F151.cut rfl, S150.pick [0, 1] rfl⟩
       · skip
         refine f_val (v := .string j.text) F150 rfl rfl (r_loadB S150.at' 1 TI_9 rfl rfl (F150.ev 14 rfl) rfl rfl (fun _ => rfl) rfl) rfl fun _ F152 => ?_
         refine ⟨Sd.of S150 [] rfl, ?_⟩
         refine g_take F152 rfl (i := 7) (listed' := #[true, true, true, false, true, true, true, true, true, true, false, false, false, false, false, false]) rfl (by kernel_rfl) (by kernel_rfl) (by kernel_rfl) (fun _ _ _ h => h) (Sd.of S150 [] rfl) rfl rfl rfl rfl (fun _ hz => (r_lenS (fun t ht => by cases ht; exact Try.underlying9) rfl rfl (F152.ev 15 rfl))) fun _ F153 => ?_
         refine g_take F153 rfl (i := 10) (listed' := #[true, true, true, false, true, true, true, true, true, true, true, false, false, false, false, false]) rfl (by kernel_rfl) (by kernel_rfl) (by kernel_rfl) (fun _ _ _ h => h) (Sd.of S150 [] rfl) rfl rfl rfl rfl (fun _ hz => (r_sub (z := (((j.text.size : Nat) : Int) - j.sure)) rfl (F153.ev 16 rfl) (F153.ev 18 rfl) (by first | rfl | omega) ⟨by first | omega | (unfold i64ok at *; omega), by first | omega | (unfold i64ok at *; omega)⟩)) fun _ F154 => ?_
         exact G113 _ _ ⟨F154.cut rfl, S150.pick [0, 1] rfl⟩
     refine x_lem (fun aZ wZ => Fr 29 [(18, .int .i64 j.sure), (12, .int .i64 j.sure), (14, .pointer (some ⟨b1, 0, none⟩)), (13, .int .i64 keep), (9, .pointer (some ⟨b1, 0, none⟩)), (4, .pointer (some ⟨b3, 0, none⟩)), (2, .pointer (some ⟨b1, 0, none⟩))] aZ ∧ Mv [bx b3 [.string (⟨#[]⟩ : ByteArray), .int .i64 0] 30, bx b1 [.string j.text, .int .i64 j.sure] 30] w19 [bx b3 [.string (⟨#[]⟩ : ByteArray), .int .i64 0] 30, bx b1 [.string j.text, .int .i64 j.sure] 30] wZ) #[true, false, true, true, true, true, false, false, true, true, false, false, false, false, false, false] 9 ?_ (fun G155 => ?_)
     · rintro a155 w155 ⟨F155, S155⟩
       refine d_all (rs := [1, 6]) rfl (by kernel_rfl) (by simp) (d_cons (i := 1) (listed' := #[true, true, true, true, true, true, false, false, true, true, false, false, false, false, false, false]) rfl rfl ?_ (d_cons (i := 6) (listed' := #[true, false, true, true, true, true, true, false, true, true, false, false, false, false, false, false]) rfl rfl ?_ d_nil))
       · skip
         refine f_val (v := .string j.text) F155 rfl rfl (r_loadB S155.at' 1 TI_9 rfl rfl (F155.ev 9 rfl) rfl rfl (fun _ => rfl) rfl) rfl fun _ F156 => ?_
         refine ⟨Sd.of S155 [] rfl, ?_⟩
         exact G134 _ _ ⟨F156.cut rfl, S155.pick [0, 1] rfl⟩
       · skip
         refine f_val (v := .string j.text) F155 rfl rfl (r_loadB S155.at' 1 TI_9 rfl rfl (F155.ev 14 rfl) rfl rfl (fun _ => rfl) rfl) rfl fun _ F157 => ?_
         refine ⟨Sd.of S155 [] rfl, ?_⟩
         refine g_take F157 rfl (i := 7) (listed' := #[true, false, true, true, true, true, true, true, true, true, false, false, false, false, false, false]) rfl (by kernel_rfl) (by kernel_rfl) (by kernel_rfl) (fun _ _ _ h => h) (Sd.of S155 [] rfl) rfl rfl rfl rfl (fun _ hz => (r_lenS (fun t ht => by cases ht; exact Try.underlying9) rfl rfl (F157.ev 15 rfl))) fun _ F158 => ?_
         refine g_take F158 rfl (i := 10) (listed' := #[true, false, true, true, true, true, true, true, true, true, true, false, false, false, false, false]) rfl (by kernel_rfl) (by kernel_rfl) (by kernel_rfl) (fun _ _ _ h => h) (Sd.of S155 [] rfl) rfl rfl rfl rfl (fun _ hz => (r_sub (z := (((j.text.size : Nat) : Int) - j.sure)) rfl (F158.ev 16 rfl) (F158.ev 18 rfl) (by first | rfl | omega) ⟨by first | omega | (unfold i64ok at *; omega), by first | omega | (unfold i64ok at *; omega)⟩)) fun _ F159 => ?_
         exact G117 _ _ ⟨F159.cut rfl, S155.pick [0, 1] rfl⟩
     refine x_lem (fun aZ wZ => Fr 29 [(16, .int .i64 ((j.text.size : Nat) : Int)), (17, .pointer (some ⟨b1, 1, none⟩)), (13, .int .i64 keep), (11, .pointer (some ⟨b1, 1, none⟩)), (9, .pointer (some ⟨b1, 0, none⟩)), (4, .pointer (some ⟨b3, 0, none⟩)), (2, .pointer (some ⟨b1, 0, none⟩))] aZ ∧ Mv [bx b3 [.string (⟨#[]⟩ : ByteArray), .int .i64 0] 30, bx b1 [.string j.text, .int .i64 j.sure] 30] w19 [bx b3 [.string (⟨#[]⟩ : ByteArray), .int .i64 0] 30, bx b1 [.string j.text, .int .i64 j.sure] 30] wZ) #[true, false, true, false, true, true, true, true, true, false, false, false, false, false, false, false] 9 ?_ (fun G160 => ?_)
     · rintro a160 w160 ⟨F160, S160⟩
       refine d_all (rs := [1, 3, 9]) rfl (by kernel_rfl) (by simp) (d_cons (i := 1) (listed' := #[true, true, true, false, true, true, true, true, true, false, false, false, false, false, false, false]) rfl rfl ?_ (d_cons (i := 3) (listed' := #[true, false, true, true, true, true, true, true, true, false, false, false, false, false, false, false]) rfl rfl ?_ (d_cons (i := 9) (listed' := #[true, false, true, false, true, true, true, true, true, true, false, false, false, false, false, false]) rfl rfl ?_ d_nil)))
       · skip
         refine f_val (v := .string j.text) F160 rfl rfl (r_loadB S160.at' 1 TI_9 rfl rfl (F160.ev 9 rfl) rfl rfl (fun _ => rfl) rfl) rfl fun _ F161 => ?_
         refine ⟨Sd.of S160 [] rfl, ?_⟩
         exact G138 _ _ ⟨F161.cut rfl, S160.pick [0, 1] rfl⟩
       · skip
         refine f_val (v := .int .i64 j.sure) F160 rfl rfl (r_loadB S160.at' 1 TI_3 rfl rfl (F160.ev 11 rfl) rfl rfl (fun _ => rfl) rfl) rfl fun _ F162 => ?_
         refine ⟨Sd.of S160 [] rfl, ?_⟩
         exact G142 _ _ ⟨F162.cut rfl, S160.pick [0, 1] rfl⟩
       · skip
         refine f_val (v := .int .i64 j.sure) F160 rfl rfl (r_loadB S160.at' 1 TI_3 rfl rfl (F160.ev 17 rfl) rfl rfl (fun _ => rfl) rfl) rfl fun _ F163 => ?_
         refine ⟨Sd.of S160 [] rfl, ?_⟩
         refine g_take F163 rfl (i := 10) (listed' := #[true, false, true, false, true, true, true, true, true, true, true, false, false, false, false, false]) rfl (by kernel_rfl) (by kernel_rfl) (by kernel_rfl) (fun _ _ _ h => h) (Sd.of S160 [] rfl) rfl rfl rfl rfl (fun _ hz => (r_sub (z := (((j.text.size : Nat) : Int) - j.sure)) rfl (F163.ev 16 rfl) (F163.ev 18 rfl) (by first | rfl | omega) ⟨by first | omega | (unfold i64ok at *; omega), by first | omega | (unfold i64ok at *; omega)⟩)) fun _ F164 => ?_
         exact G129 _ _ ⟨F164.cut rfl, S160.pick [0, 1] rfl⟩
     refine x_lem (fun aZ wZ => Fr 29 [(10, .string j.text), (17, .pointer (some ⟨b1, 1, none⟩)), (14, .pointer (some ⟨b1, 0, none⟩)), (13, .int .i64 keep), (11, .pointer (some ⟨b1, 1, none⟩)), (4, .pointer (some ⟨b3, 0, none⟩)), (2, .pointer (some ⟨b1, 0, none⟩))] aZ ∧ Mv [bx b3 [.string (⟨#[]⟩ : ByteArray), .int .i64 0] 30, bx b1 [.string j.text, .int .i64 j.sure] 30] w19 [bx b3 [.string (⟨#[]⟩ : ByteArray), .int .i64 0] 30, bx b1 [.string j.text, .int .i64 j.sure] 30] wZ) #[true, true, true, false, true, true, false, false, true, false, false, false, false, false, false, false] 10 ?_ (fun G165 => ?_)
     · rintro a165 w165 ⟨F165, S165⟩
       refine d_all (rs := [3, 6, 9]) rfl (by kernel_rfl) (by simp) (d_cons (i := 3) (listed' := #[true, true, true, true, true, true, false, false, true, false, false, false, false, false, false, false]) rfl rfl ?_ (d_cons (i := 6) (listed' := #[true, true, true, false, true, true, true, false, true, false, false, false, false, false, false, false]) rfl rfl ?_ (d_cons (i := 9) (listed' := #[true, true, true, false, true, true, false, false, true, true, false, false, false, false, false, false]) rfl rfl ?_ d_nil)))
       · skip
         refine f_val (v := .int .i64 j.sure) F165 rfl rfl (r_loadB S165.at' 1 TI_3 rfl rfl (F165.ev 11 rfl) rfl rfl (fun _ => rfl) rfl) rfl fun _ F166 => ?_
         refine ⟨Sd.of S165 [] rfl, ?_⟩
         exact G146 _ _ ⟨F166.cut rfl, S165.pick [0, 1] rfl⟩
       · skip
         refine f_val (v := .string j.text) F165 rfl rfl (r_loadB S165.at' 1 TI_9 rfl rfl (F165.ev 14 rfl) rfl rfl (fun _ => rfl) rfl) rfl fun _ F167 => ?_
         refine ⟨Sd.of S165 [] rfl, ?_⟩
         refine g_take F167 rfl (i := 7) (listed' := #[true, true, true, false, true, true, true, true, true, false, false, false, false, false, false, false]) rfl (by kernel_rfl) (by kernel_rfl) (by kernel_rfl) (fun _ _ _ h => h) (Sd.of S165 [] rfl) rfl rfl rfl rfl (fun _ hz => (r_lenS (fun t ht => by cases ht; exact Try.underlying9) rfl rfl (F167.ev 15 rfl))) fun _ F168 => ?_
         exact G138 _ _ ⟨F168.cut rfl, S165.pick [0, 1] rfl⟩
       · skip
         refine f_val (v := .int .i64 j.sure) F165 rfl rfl (r_loadB S165.at' 1 TI_3 rfl rfl (F165.ev 17 rfl) rfl rfl (fun _ => rfl) rfl) rfl fun _ F169 => ?_
         refine ⟨Sd.of S165 [] rfl, ?_⟩
         exact G150 _ _ ⟨F169.cut rfl, S165.pick [0, 1] rfl⟩
     refine x_lem (fun aZ wZ => Fr 29 [(12, .int .i64 j.sure), (17, .pointer (some ⟨b1, 1, none⟩)), (14, .pointer (some ⟨b1, 0, none⟩)), (13, .int .i64 keep), (9, .pointer (some ⟨b1, 0, none⟩)), (4, .pointer (some ⟨b3, 0, none⟩)), (2, .pointer (some ⟨b1, 0, none⟩))] aZ ∧ Mv [bx b3 [.string (⟨#[]⟩ : ByteArray), .int .i64 0] 30, bx b1 [.string j.text, .int .i64 j.sure] 30] w19 [bx b3 [.string (⟨#[]⟩ : ByteArray), .int .i64 0] 30, bx b1 [.string j.text, .int .i64 j.sure] 30] wZ) #[true, false, true, true, true, true, false, false, true, false, false, false, false, false, false, false] 10 ?_ (fun G170 => ?_)
     · rintro a170 w170 ⟨F170, S170⟩
       refine d_all (rs := [1, 6, 9]) rfl (by kernel_rfl) (by simp) (d_cons (i := 1) (listed' := #[true, true, true, true, true, true, false, false, true, false, false, false, false, false, false, false]) rfl rfl ?_ (d_cons (i := 6) (listed' := #[true, false, true, true, true, true, true, false, true, false, false, false, false, false, false, false]) rfl rfl ?_ (d_cons (i := 9) (listed' := #[true, false, true, true, true, true, false, false, true, true, false, false, false, false, false, false]) rfl rfl ?_ d_nil)))
       · skip
         refine f_val (v := .string j.text) F170 rfl rfl (r_loadB S170.at' 1 TI_9 rfl rfl (F170.ev 9 rfl) rfl rfl (fun _ => rfl) rfl) rfl fun _ F171 => ?_
         refine ⟨Sd.of S170 [] rfl, ?_⟩
         exact G146 _ _ ⟨F171.cut rfl, S170.pick [0, 1] rfl⟩
       · skip
         refine f_val (v := .string j.text) F170 rfl rfl (r_loadB S170.at' 1 TI_9 rfl rfl (F170.ev 14 rfl) rfl rfl (fun _ => rfl) rfl) rfl fun _ F172 => ?_
         refine ⟨Sd.of S170 [] rfl, ?_⟩
         refine g_take F172 rfl (i := 7) (listed' := #[true, false, true, true, true, true, true, true, true, false, false, false, false, false, false, false]) rfl (by kernel_rfl) (by kernel_rfl) (by kernel_rfl) (fun _ _ _ h => h) (Sd.of S170 [] rfl) rfl rfl rfl rfl (fun _ hz => (r_lenS (fun t ht => by cases ht; exact Try.underlying9) rfl rfl (F172.ev 15 rfl))) fun _ F173 => ?_
         exact G142 _ _ ⟨F173.cut rfl, S170.pick [0, 1] rfl⟩
       · skip
         refine f_val (v := .int .i64 j.sure) F170 rfl rfl (r_loadB S170.at' 1 TI_3 rfl rfl (F170.ev 17 rfl) rfl rfl (fun _ => rfl) rfl) rfl fun _ F174 => ?_
         refine ⟨Sd.of S170 [] rfl, ?_⟩
         exact G155 _ _ ⟨F174.cut rfl, S170.pick [0, 1] rfl⟩
     refine x_lem (fun aZ wZ => Fr 29 [(18, .int .i64 j.sure), (14, .pointer (some ⟨b1, 0, none⟩)), (13, .int .i64 keep), (11, .pointer (some ⟨b1, 1, none⟩)), (9, .pointer (some ⟨b1, 0, none⟩)), (4, .pointer (some ⟨b3, 0, none⟩)), (2, .pointer (some ⟨b1, 0, none⟩))] aZ ∧ Mv [bx b3 [.string (⟨#[]⟩ : ByteArray), .int .i64 0] 30, bx b1 [.string j.text, .int .i64 j.sure] 30] w19 [bx b3 [.string (⟨#[]⟩ : ByteArray), .int .i64 0] 30, bx b1 [.string j.text, .int .i64 j.sure] 30] wZ) #[true, false, true, false, true, true, false, false, true, true, false, false, false, false, false, false] 10 ?_ (fun G175 => ?_)
     · rintro a175 w175 ⟨F175, S175⟩
       refine d_all (rs := [1, 3, 6]) rfl (by kernel_rfl) (by simp) (d_cons (i := 1) (listed' := #[true, true, true, false, true, true, false, false, true, true, false, false, false, false, false, false]) rfl rfl ?_ (d_cons (i := 3) (listed' := #[true, false, true, true, true, true, false, false, true, true, false, false, false, false, false, false]) rfl rfl ?_ (d_cons (i := 6) (listed' := #[true, false, true, false, true, true, true, false, true, true, false, false, false, false, false, false]) rfl rfl ?_ d_nil)))
       · skip
         refine f_val (v := .string j.text) F175 rfl rfl (r_loadB S175.at' 1 TI_9 rfl rfl (F175.ev 9 rfl) rfl rfl (fun _ => rfl) rfl) rfl fun _ F176 => ?_
         refine ⟨Sd.of S175 [] rfl, ?_⟩
         exact G150 _ _ ⟨F176.cut rfl, S175.pick [0, 1] rfl⟩
       · skip
         refine f_val (v := .int .i64 j.sure) F175 rfl rfl (r_loadB S175.at' 1 TI_3 rfl rfl (F175.ev 11 rfl) rfl rfl (fun _ => rfl) rfl) rfl fun _ F177 => ?_
         refine ⟨Sd.of S175 [] rfl, ?_⟩
         exact G155 _ _ ⟨F177.cut rfl, S175.pick [0, 1] rfl⟩
       · skip
         refine f_val (v := .string j.text) F175 rfl rfl (r_loadB S175.at' 1 TI_9 rfl rfl (F175.ev 14 rfl) rfl rfl (fun _ => rfl) rfl) rfl fun _ F178 => ?_
         refine ⟨Sd.of S175 [] rfl, ?_⟩
         refine g_take F178 rfl (i := 7) (listed' := #[true, false, true, false, true, true, true, true, true, true, false, false, false, false, false, false]) rfl (by kernel_rfl) (by kernel_rfl) (by kernel_rfl) (fun _ _ _ h => h) (Sd.of S175 [] rfl) rfl rfl rfl rfl (fun _ hz => (r_lenS (fun t ht => by cases ht; exact Try.underlying9) rfl rfl (F178.ev 15 rfl))) fun _ F179 => ?_
         refine g_take F179 rfl (i := 10) (listed' := #[true, false, true, false, true, true, true, true, true, true, true, false, false, false, false, false]) rfl (by kernel_rfl) (by kernel_rfl) (by kernel_rfl) (fun _ _ _ h => h) (Sd.of S175 [] rfl) rfl rfl rfl rfl (fun _ hz => (r_sub (z := (((j.text.size : Nat) : Int) - j.sure)) rfl (F179.ev 16 rfl) (F179.ev 18 rfl) (by first | rfl | omega) ⟨by first | omega | (unfold i64ok at *; omega), by first | omega | (unfold i64ok at *; omega)⟩)) fun _ F180 => ?_
         exact G129 _ _ ⟨F180.cut rfl, S175.pick [0, 1] rfl⟩
     refine x_lem (fun aZ wZ => Fr 29 [(17, .pointer (some ⟨b1, 1, none⟩)), (14, .pointer (some ⟨b1, 0, none⟩)), (13, .int .i64 keep), (11, .pointer (some ⟨b1, 1, none⟩)), (9, .pointer (some ⟨b1, 0, none⟩)), (4, .pointer (some ⟨b3, 0, none⟩)), (2, .pointer (some ⟨b1, 0, none⟩))] aZ ∧ Mv [bx b3 [.string (⟨#[]⟩ : ByteArray), .int .i64 0] 30, bx b1 [.string j.text, .int .i64 j.sure] 30] w19 [bx b3 [.string (⟨#[]⟩ : ByteArray), .int .i64 0] 30, bx b1 [.string j.text, .int .i64 j.sure] 30] wZ) #[true, false, true, false, true, true, false, false, true, false, false, false, false, false, false, false] 11 ?_ (fun G181 => ?_)
     · rintro a181 w181 ⟨F181, S181⟩
       refine d_all (rs := [1, 3, 6, 9]) rfl (by kernel_rfl) (by simp) (d_cons (i := 1) (listed' := #[true, true, true, false, true, true, false, false, true, false, false, false, false, false, false, false]) rfl rfl ?_ (d_cons (i := 3) (listed' := #[true, false, true, true, true, true, false, false, true, false, false, false, false, false, false, false]) rfl rfl ?_ (d_cons (i := 6) (listed' := #[true, false, true, false, true, true, true, false, true, false, false, false, false, false, false, false]) rfl rfl ?_ (d_cons (i := 9) (listed' := #[true, false, true, false, true, true, false, false, true, true, false, false, false, false, false, false]) rfl rfl ?_ d_nil))))
       · skip
         refine f_val (v := .string j.text) F181 rfl rfl (r_loadB S181.at' 1 TI_9 rfl rfl (F181.ev 9 rfl) rfl rfl (fun _ => rfl) rfl) rfl fun _ F182 => ?_
         refine ⟨Sd.of S181 [] rfl, ?_⟩
         exact G165 _ _ ⟨F182.cut rfl, S181.pick [0, 1] rfl⟩
       · skip
         refine f_val (v := .int .i64 j.sure) F181 rfl rfl (r_loadB S181.at' 1 TI_3 rfl rfl (F181.ev 11 rfl) rfl rfl (fun _ => rfl) rfl) rfl fun _ F183 => ?_
         refine ⟨Sd.of S181 [] rfl, ?_⟩
         exact G170 _ _ ⟨F183.cut rfl, S181.pick [0, 1] rfl⟩
       · skip
         refine f_val (v := .string j.text) F181 rfl rfl (r_loadB S181.at' 1 TI_9 rfl rfl (F181.ev 14 rfl) rfl rfl (fun _ => rfl) rfl) rfl fun _ F184 => ?_
         refine ⟨Sd.of S181 [] rfl, ?_⟩
         refine g_take F184 rfl (i := 7) (listed' := #[true, false, true, false, true, true, true, true, true, false, false, false, false, false, false, false]) rfl (by kernel_rfl) (by kernel_rfl) (by kernel_rfl) (fun _ _ _ h => h) (Sd.of S181 [] rfl) rfl rfl rfl rfl (fun _ hz => (r_lenS (fun t ht => by cases ht; exact Try.underlying9) rfl rfl (F184.ev 15 rfl))) fun _ F185 => ?_
         exact G160 _ _ ⟨F185.cut rfl, S181.pick [0, 1] rfl⟩
       · skip
         refine f_val (v := .int .i64 j.sure) F181 rfl rfl (r_loadB S181.at' 1 TI_3 rfl rfl (F181.ev 17 rfl) rfl rfl (fun _ => rfl) rfl) rfl fun _ F186 => ?_
         refine ⟨Sd.of S181 [] rfl, ?_⟩
         exact G175 _ _ ⟨F186.cut rfl, S181.pick [0, 1] rfl⟩
     refine g_take F11 rfl (i := 0) (listed' := #[true, false, false, false, false, false, false, false, false, false, false, false, false, false, false, false]) rfl (by kernel_rfl) (by kernel_rfl) (by kernel_rfl) (fun _ _ _ h => h) (Sd.of (Mv.refl S19.at') [] rfl) rfl rfl rfl rfl (fun _ hz => (r_field FI_30_0 rfl (F11.ev 2 rfl) rfl)) fun _ F187 => ?_
     refine g_take F187 rfl (i := 2) (listed' := #[true, false, true, false, false, false, false, false, false, false, false, false, false, false, false, false]) rfl (by kernel_rfl) (by kernel_rfl) (by kernel_rfl) (fun _ _ _ h => h) (Sd.of (Mv.refl S19.at') [] rfl) rfl rfl rfl rfl (fun _ hz => (r_field FI_30_1 rfl (F187.ev 2 rfl) rfl)) fun _ F188 => ?_
     refine g_take F188 rfl (i := 4) (listed' := #[true, false, true, false, true, false, false, false, false, false, false, false, false, false, false, false]) rfl (by kernel_rfl) (by kernel_rfl) (by kernel_rfl) (fun _ _ _ h => h) (Sd.of (Mv.refl S19.at') [] rfl) rfl rfl rfl rfl (fun _ hz => (r_move rfl (F188.ev 1 rfl))) fun _ F189 => ?_
     refine g_take F189 rfl (i := 5) (listed' := #[true, false, true, false, true, true, false, false, false, false, false, false, false, false, false, false]) rfl (by kernel_rfl) (by kernel_rfl) (by kernel_rfl) (fun _ _ _ h => h) (Sd.of (Mv.refl S19.at') [] rfl) rfl rfl rfl rfl (fun _ hz => (r_field FI_30_0 rfl (F189.ev 2 rfl) rfl)) fun _ F190 => ?_
     refine g_take F190 rfl (i := 8) (listed' := #[true, false, true, false, true, true, false, false, true, false, false, false, false, false, false, false]) rfl (by kernel_rfl) (by kernel_rfl) (by kernel_rfl) (fun _ _ _ h => h) (Sd.of (Mv.refl S19.at') [] rfl) rfl rfl rfl rfl (fun _ hz => (r_field FI_30_1 rfl (F190.ev 2 rfl) rfl)) fun _ F191 => ?_
     exact G181 _ _ ⟨F191.cut rfl, (Mv.refl S19.at').pick [0, 1] rfl⟩
   · rintro a192 w192 ⟨F192, S192, ko192_0⟩
     refine x_normal (wp_seq (wp_region_lit (l_op (f_val F192 rfl rfl (r_field FI_30_0 rfl (F192.ev 2 rfl) rfl) rfl fun _ F193 => ?_))))
     refine l_op (f_val (v := .string (j.text.extract 0 (j.sure + (max 0 (min keep (((j.text.size : Nat) : Int) - j.sure)))).toNat)) F193 rfl rfl (r_loadB S192.at' 1 TI_9 rfl rfl (F193.ev 24 rfl) rfl rfl (fun _ => rfl) rfl) rfl fun _ F194 => ?_)
     refine l_op (f_val F194 rfl rfl (r_lenS (fun t ht => by cases ht; exact Try.underlying9) rfl rfl (F194.ev 25 rfl)) rfl fun _ F195 => ?_)
     refine l_op (f_val F195 rfl rfl (r_field FI_30_1 rfl (F195.ev 2 rfl) rfl) rfl fun _ F196 => ?_)
     refine l_op (s_store S192.at' 1 TI_3 rfl rfl rfl rfl rfl (F196.ev 27 rfl) (F196.ev 26 rfl) rfl rfl rfl rfl rfl fun w197 S197 => ?_)
     have F198 : Fr 29 [(27, .pointer (some ⟨b1, 1, none⟩)), (26, .int .i64 (((j.text.extract 0 (j.sure + (max 0 (min keep (((j.text.size : Nat) : Int) - j.sure)))).toNat).size : Nat) : Int)), (2, .pointer (some ⟨b1, 0, none⟩)), (4, .pointer (some ⟨b3, 0, none⟩))] _ := F196.cut rfl
     clear F192 F193 F194 F195 F196
     have T199 : Mv _ _ [bx b1 [.string (j.text.extract 0 (j.sure + (max 0 (min keep (((j.text.size : Nat) : Int) - j.sure)))).toNat), .int .i64 (((j.text.extract 0 (j.sure + (max 0 (min keep (((j.text.size : Nat) : Int) - j.sure)))).toNat).size : Nat) : Int)] 30, bx b3 [.string (⟨#[]⟩ : ByteArray), .int .i64 0] 30] _ := S197
     refine s_end (x_normal (wp_seq (wp_region_lit (l_op (f_val (v := .agg #[.string (j.text.extract 0 (j.sure + (max 0 (min keep (((j.text.size : Nat) : Int) - j.sure)))).toNat), .int .i64 (((j.text.extract 0 (j.sure + (max 0 (min keep (((j.text.size : Nat) : Int) - j.sure)))).toNat).size : Nat) : Int)]) F198 rfl rfl (r_loadB T199.at' 0 TI_30 rfl rfl (F198.ev 2 rfl) rfl rfl (fun h => nomatch h) rfl) rfl fun _ F200 => ?_)))))
     refine l_op (s_store T199.at' 1 TI_30 rfl rfl rfl rfl rfl (F200.ev 4 rfl) (F200.ev 28 rfl) rfl rfl rfl rfl rfl fun w201 S201 => ?_)
     have F202 : Fr 29 [(28, .agg #[.string (j.text.extract 0 (j.sure + (max 0 (min keep (((j.text.size : Nat) : Int) - j.sure)))).toNat), .int .i64 (((j.text.extract 0 (j.sure + (max 0 (min keep (((j.text.size : Nat) : Int) - j.sure)))).toNat).size : Nat) : Int)]), (4, .pointer (some ⟨b3, 0, none⟩))] _ := F200.cut rfl
     clear F198 F200
     have T203 : Mv _ _ [bx b3 [.string (j.text.extract 0 (j.sure + (max 0 (min keep (((j.text.size : Nat) : Int) - j.sure)))).toNat), .int .i64 (((j.text.extract 0 (j.sure + (max 0 (min keep (((j.text.size : Nat) : Int) - j.sure)))).toNat).size : Nat) : Int)] 30, bx b1 [.string (j.text.extract 0 (j.sure + (max 0 (min keep (((j.text.size : Nat) : Int) - j.sure)))).toNat), .int .i64 (((j.text.extract 0 (j.sure + (max 0 (min keep (((j.text.size : Nat) : Int) - j.sure)))).toNat).size : Nat) : Int)] 30] _ := S201
     refine s_end (x_normal (wp_ret ?_))
     refine x_done (v := .agg #[.string (j.text.extract 0 (j.sure + (max 0 (min keep (((j.text.size : Nat) : Int) - j.sure)))).toNat), .int .i64 (((j.text.extract 0 (j.sure + (max 0 (min keep (((j.text.size : Nat) : Int) - j.sure)))).toNat).size : Nat) : Int)]) F202 (results_1 Try.results73 (.cell (F202.ev 4 rfl) (run_loadVar' TI_30 _ [.string (j.text.extract 0 (j.sure + (max 0 (min keep (((j.text.size : Nat) : Int) - j.sure)))).toNat), .int .i64 (((j.text.extract 0 (j.sure + (max 0 (min keep (((j.text.size : Nat) : Int) - j.sure)))).toNat).size : Nat) : Int)] rfl (fun h => nomatch h) (At.cells T203.at' 0 rfl 0 [.string (j.text.extract 0 (j.sure + (max 0 (min keep (((j.text.size : Nat) : Int) - j.sure)))).toNat), .int .i64 (((j.text.extract 0 (j.sure + (max 0 (min keep (((j.text.size : Nat) : Int) - j.sure)))).toNat).size : Nat) : Int)] rfl)))) ?_
     exact ⟨((congrArg (fun zZ => Ending.returned (.agg #[.string zZ, .int .i64 (((j.text.extract 0 (j.sure + (max 0 (min keep (((j.text.size : Nat) : Int) - j.sure)))).toNat).size : Nat) : Int)])) (show (j.text.extract 0 (j.sure + (max 0 (min keep (((j.text.size : Nat) : Int) - j.sure)))).toNat) = (fallJ j keep).text from by first | exact fallJ_sz (by assumption) | rw [fallJ_t (by assumption)])).trans (congrArg (fun zZ => Ending.returned (.agg #[.string (fallJ j keep).text, .int .i64 zZ])) (show (((j.text.extract 0 (j.sure + (max 0 (min keep (((j.text.size : Nat) : Int) - j.sure)))).toNat).size : Nat) : Int) = (fallJ j keep).sure from by first | exact fallJ_sz (by assumption) | rw [fallJ_t (by assumption)]))), (Mv.pick (S1.trans (T6.trans (T12.trans (S192.trans (T199.trans T203))))) [] rfl), ((show (j.text.extract 0 (j.sure + (max 0 (min keep (((j.text.size : Nat) : Int) - j.sure)))).toNat) = (fallJ j keep).text from by first | exact fallJ_sz (by assumption) | rw [fallJ_t (by assumption)]) ▸ ko192_0), fallJ_i64 h_j_sure⟩
theorem impl_FallDisk_c {w : World} {H : Nat → Prop} {d : DiskH} {d_slots_a : Option Addr} {d_slots_n d_slots_c : Nat} {keep : Int} {L : List SlotD} (v_d_slots : Rd 3 encSlot okSlot H w (.slice d_slots_a d_slots_n d_slots_c) d.slots) (u_d_slots : NRd inSlot H w d.slots) (h_d_journal_text : okS d.journal.text) (h_d_journal_sure : i64ok d.journal.sure) (h_keep : i64ok keep) (p0 : d.slots.map SlotH.d = L) (p1 : slotsFit 1048576 L) :
    Calls Try.prog 32 #[.agg #[.slice d_slots_a d_slots_n d_slots_c, .string d.journal.text, .int .i64 d.journal.sure], .int .i64 keep] w fun e w' => ∃ (D : List SlotH), ∃ (r0_slots_a : Option Addr), ∃ (r0_slots_n : Nat), ∃ (r0_slots_c : Nat), e = .returned (.agg #[.slice r0_slots_a r0_slots_n r0_slots_c, .string (fallJo L d.journal keep).text, .int .i64 (fallJo L d.journal keep).sure]) ∧ Mv [] w [ow 99 3 encSlot okSlot (.slice r0_slots_a r0_slots_n r0_slots_c) D, gr inSlot D] w' ∧ okS (fallJo L d.journal keep).text ∧ D.map SlotH.d = fallL L d.journal ∧ i64ok (fallJo L d.journal keep).sure := by
 have hLn := dM_len p0
 have hll := p1.1
 have V_v_d_slots : Rd 3 encSlot okSlot (V H w []) w (.slice d_slots_a d_slots_n d_slots_c) d.slots := Rd.start v_d_slots (fun _ _ => fps_nil _)
 obtain ⟨ln_d_slots, le_d_slots, mx_d_slots, ni_d_slots⟩ := Rd.inv v_d_slots
 have V_u_d_slots : NRd inSlot (V H w []) w d.slots := NRd.start u_d_slots (fun _ _ => fps_nil _)
 refine calls_enter 37 Try.func32 rfl Try.ntmps32 (Nat.le_of_ble_eq_true rfl) (fun _ F0i => ?_)
 have F0 : Fr 37 [(0, .agg #[.slice d_slots_a d_slots_n d_slots_c, .string d.journal.text, .int .i64 d.journal.sure]), (1, .int .i64 keep)] _ := F0i
 clear F0i
 refine wp_seq (wp_region_lit (l_op (f_box F0 (At.nil w) rfl rfl rfl (F0.ev 0 rfl) rfl rfl fun b1 _ w1 F2 S1 => ?_)))
 refine l_op (f_alloc F2 S1.at' ZI_32 rfl rfl rfl rfl rfl fun b3 _ w3 F4 S3 => ?_)
 have F5 : Fr 37 [(4, .pointer (some ⟨b3, 0, none⟩)), (2, .pointer (some ⟨b1, 0, none⟩)), (1, .int .i64 keep)] _ := F4.cut rfl
 clear F0 F2 F4
 have T6 : Mv _ _ [bx b3 [.slice none 0 0, .string (⟨#[]⟩ : ByteArray), .int .i64 0] 32, bx b1 [.slice d_slots_a d_slots_n d_slots_c, .string d.journal.text, .int .i64 d.journal.sure] 32] _ := S3
 refine s_end (x_normal (wp_seq (wp_region_lit (l_op (f_val (v := .agg #[.slice d_slots_a d_slots_n d_slots_c, .string d.journal.text, .int .i64 d.journal.sure]) F5 rfl rfl (r_loadB T6.at' 1 TI_32 rfl rfl (F5.ev 2 rfl) rfl rfl (fun h => nomatch h) rfl) rfl fun _ F7 => ?_)))))
 refine l_op (f_call F7 CF_62 rfl rfl rfl rfl (lc (F7.ev 8 rfl) rfl) (impl_Disk_clone_c (d := d) (Rd.mv (Nat.succ_pos _) V_v_d_slots (S1.trans T6)) (NRd.mv V_u_d_slots (S1.trans T6)) h_d_journal_text (by first | assumption | exact ⟨by omega, by omega⟩ | (unfold i64ok at *; omega) | (simp only [i64ok]; omega)) (by rw [p0]; exact p1)) ?_)
 rintro _ w8 ⟨D_8, r0_slots_a_8, r0_slots_n_8, r0_slots_c_8, rfl, m8, ok_r0_journal_text_8, q8_0, q8_1, q8_2⟩
 refine ⟨_, rfl, fun _ F9 => ?_⟩
 have S8 : Mv _ _ [ow 99 3 encSlot okSlot (.slice r0_slots_a_8 r0_slots_n_8 r0_slots_c_8) D_8, gr inSlot D_8, bx b3 [.slice none 0 0, .string (⟨#[]⟩ : ByteArray), .int .i64 0] 32, bx b1 [.slice d_slots_a d_slots_n d_slots_c, .string d.journal.text, .int .i64 d.journal.sure] 32] _ := At.frame T6.at' [] rfl m8
 obtain ⟨lo8_0, lp8_0, lq8_0⟩ := At.ownInv S8.at' ET_29.hk 0 rfl
 clear m8
 refine l_op (f_alloc F9 S8.at' ZI_32 rfl rfl rfl rfl rfl fun b10 _ w10 F11 S10 => ?_)
 refine l_op (s_store S10.at' 0 TI_32 rfl rfl rfl rfl rfl (F11.ev 5 rfl) (F11.ev 9 rfl) rfl rfl rfl rfl rfl fun w12 S12 => ?_)
 have F13 : Fr 37 [(5, .pointer (some ⟨b10, 0, none⟩)), (9, .agg #[.slice r0_slots_a_8 r0_slots_n_8 r0_slots_c_8, .string d.journal.text, .int .i64 d.journal.sure]), (4, .pointer (some ⟨b3, 0, none⟩)), (2, .pointer (some ⟨b1, 0, none⟩)), (1, .int .i64 keep)] _ := F11.cut rfl
 clear F5 F7 F9 F11
 have T14 : Mv _ _ [bx b10 [.slice r0_slots_a_8 r0_slots_n_8 r0_slots_c_8, .string d.journal.text, .int .i64 d.journal.sure] 32, ow 99 3 encSlot okSlot (.slice r0_slots_a_8 r0_slots_n_8 r0_slots_c_8) D_8, gr inSlot D_8, bx b3 [.slice none 0 0, .string (⟨#[]⟩ : ByteArray), .int .i64 0] 32, bx b1 [.slice d_slots_a d_slots_n d_slots_c, .string d.journal.text, .int .i64 d.journal.sure] 32] _ := S12
 refine s_end (x_normal (wp_seq (wp_seq (wp_region_lit (l_op (f_val (v := .agg #[.slice d_slots_a d_slots_n d_slots_c, .string d.journal.text, .int .i64 d.journal.sure]) F13 rfl rfl (r_loadB T14.at' 4 TI_32 rfl rfl (F13.ev 2 rfl) rfl rfl (fun h => nomatch h) rfl) rfl fun _ F15 => ?_))))))
 refine l_op (f_call F15 CF_63 rfl rfl rfl rfl (lc (F15.ev 10 rfl) rfl) (impl_DiskOk_c (d := d) (Rd.mv (Nat.succ_pos _) V_v_d_slots (S1.trans (T6.trans (S8.trans (S10.trans T14))))) (NRd.mv V_u_d_slots (S1.trans (T6.trans (S8.trans (S10.trans T14))))) h_d_journal_text (by first | assumption | exact ⟨by omega, by omega⟩ | (unfold i64ok at *; omega) | (simp only [i64ok]; omega))) ?_)
 rintro _ w16 ⟨rfl, m16⟩
 refine ⟨_, rfl, fun _ F17 => ?_⟩
 have S16 := At.frame0 T14.at' m16
 clear m16
 refine l_op (f_val F17 rfl rfl (r_not rfl (F17.ev 11 rfl)) rfl fun _ F18 => ?_)
 have F19 : Fr 37 [(12, .bool (!(diskOk (d.slots.map SlotH.d) d.journal))), (5, .pointer (some ⟨b10, 0, none⟩)), (4, .pointer (some ⟨b3, 0, none⟩)), (2, .pointer (some ⟨b1, 0, none⟩)), (1, .int .i64 keep)] _ := F18.cut rfl
 clear F13 F15 F17 F18
 have T20 : Mv _ _ [bx b10 [.slice r0_slots_a_8 r0_slots_n_8 r0_slots_c_8, .string d.journal.text, .int .i64 d.journal.sure] 32, ow 99 3 encSlot okSlot (.slice r0_slots_a_8 r0_slots_n_8 r0_slots_c_8) D_8, gr inSlot D_8, bx b3 [.slice none 0 0, .string (⟨#[]⟩ : ByteArray), .int .i64 0] 32, bx b1 [.slice d_slots_a d_slots_n d_slots_c, .string d.journal.text, .int .i64 d.journal.sure] 32] _ := S16
 refine s_end (x_normal (x_condb (b := (!(diskOk (d.slots.map SlotH.d) d.journal))) (F19.ev 12 rfl) (fun h21 => ?_) (fun h21 => ?_)))
 · skip
   refine wp_seq (wp_region_lit (l_op (f_val (v := .agg #[.slice r0_slots_a_8 r0_slots_n_8 r0_slots_c_8, .string d.journal.text, .int .i64 d.journal.sure]) F19 rfl rfl (r_loadB T20.at' 0 TI_32 rfl rfl (F19.ev 5 rfl) rfl rfl (fun h => nomatch h) rfl) rfl fun _ F22 => ?_)))
   refine l_op (s_store T20.at' 3 TI_32 rfl rfl rfl rfl rfl (F22.ev 4 rfl) (F22.ev 13 rfl) rfl rfl rfl rfl rfl fun w23 S23 => ?_)
   have F24 : Fr 37 [(13, .agg #[.slice r0_slots_a_8 r0_slots_n_8 r0_slots_c_8, .string d.journal.text, .int .i64 d.journal.sure]), (4, .pointer (some ⟨b3, 0, none⟩))] _ := F22.cut rfl
   clear F19 F22
   have T25 : Mv _ _ [bx b3 [.slice r0_slots_a_8 r0_slots_n_8 r0_slots_c_8, .string d.journal.text, .int .i64 d.journal.sure] 32, bx b10 [.slice r0_slots_a_8 r0_slots_n_8 r0_slots_c_8, .string d.journal.text, .int .i64 d.journal.sure] 32, ow 99 3 encSlot okSlot (.slice r0_slots_a_8 r0_slots_n_8 r0_slots_c_8) D_8, gr inSlot D_8, bx b1 [.slice d_slots_a d_slots_n d_slots_c, .string d.journal.text, .int .i64 d.journal.sure] 32] _ := S23
   refine s_end (x_normal (wp_ret (x_then_ret ?_)))
   refine x_done (v := .agg #[.slice r0_slots_a_8 r0_slots_n_8 r0_slots_c_8, .string d.journal.text, .int .i64 d.journal.sure]) F24 (results_1 Try.results32 (.cell (F24.ev 4 rfl) (run_loadVar' TI_32 _ [.slice r0_slots_a_8 r0_slots_n_8 r0_slots_c_8, .string d.journal.text, .int .i64 d.journal.sure] rfl (fun h => nomatch h) (At.cells T25.at' 0 rfl 0 [.slice r0_slots_a_8 r0_slots_n_8 r0_slots_c_8, .string d.journal.text, .int .i64 d.journal.sure] rfl)))) ?_
   exact ⟨D_8, r0_slots_a_8, r0_slots_n_8, r0_slots_c_8, (by rw [(show d.journal.text = (fallJo L d.journal keep).text from by first | rw [← (fall_f (keep := keep) p0 (by assumption)).2]), (show d.journal.sure = (fallJo L d.journal keep).sure from by first | rw [← (fall_f (keep := keep) p0 (by assumption)).2])]), (Mv.pick (S1.trans (T6.trans (S8.trans (S10.trans (T14.trans (T20.trans T25)))))) [2, 3] rfl), ((show d.journal.text = (fallJo L d.journal keep).text from by first | rw [← (fall_f (keep := keep) p0 (by assumption)).2]) ▸ ok_r0_journal_text_8), Eq.trans (by assumption) (p0.trans (fall_f (keep := keep) p0 (by assumption)).1), fallJo_i64 h_d_journal_sure⟩
 · skip
   refine wp_skip (x_normal (wp_seq (wp_region_lit (l_op (f_val F19 rfl rfl (r_field FI_32_1 rfl (F19.ev 2 rfl) rfl) rfl fun _ F26 => ?_)))))
   refine l_op (f_val (v := .agg #[.string d.journal.text, .int .i64 d.journal.sure]) F26 rfl rfl (r_loadB T20.at' 4 TI_30 rfl rfl (F26.ev 14 rfl) rfl rfl (fun h => nomatch h) rfl) rfl fun _ F27 => ?_)
   refine l_op (f_mv F27 rfl rfl rfl rfl rfl fun _ F28 => ?_)
   refine l_op (f_call F28 CF_74 rfl rfl rfl rfl (lc (F28.ev 15 rfl) (lc (F28.ev 16 rfl) rfl)) (impl_FallJournal_c (H := fun _ => True) (j := d.journal) (keep := keep) h_d_journal_text (by first | assumption | exact ⟨by omega, by omega⟩ | (unfold i64ok at *; omega) | (simp only [i64ok]; omega)) h_keep) ?_)
   rintro _ w29 ⟨rfl, m29, ok_r0_text_29, q29_0⟩
   refine ⟨_, rfl, fun _ F30 => ?_⟩
   have S29 := At.frame0 T20.at' m29
   clear m29
   refine l_op (f_val F30 rfl rfl (r_field FI_32_1 rfl (F30.ev 5 rfl) rfl) rfl fun _ F31 => ?_)
   refine l_op (s_store S29.at' 0 TI_30 rfl rfl rfl rfl rfl (F31.ev 18 rfl) (F31.ev 17 rfl) rfl rfl rfl rfl rfl fun w32 S32 => ?_)
   have F33 : Fr 37 [(18, .pointer (some ⟨b10, 1, none⟩)), (17, .agg #[.string (fallJ d.journal keep).text, .int .i64 (fallJ d.journal keep).sure]), (5, .pointer (some ⟨b10, 0, none⟩)), (4, .pointer (some ⟨b3, 0, none⟩))] _ := F31.cut rfl
   clear F19 F26 F27 F28 F30 F31
   have T34 : Mv _ _ [bx b10 [.slice r0_slots_a_8 r0_slots_n_8 r0_slots_c_8, .string (fallJ d.journal keep).text, .int .i64 (fallJ d.journal keep).sure] 32, ow 99 3 encSlot okSlot (.slice r0_slots_a_8 r0_slots_n_8 r0_slots_c_8) D_8, gr inSlot D_8, bx b3 [.slice none 0 0, .string (⟨#[]⟩ : ByteArray), .int .i64 0] 32, bx b1 [.slice d_slots_a d_slots_n d_slots_c, .string d.journal.text, .int .i64 d.journal.sure] 32] _ := S32
   refine s_end (x_normal (wp_seq (wp_seq (wp_region_lit (l_op (f_val F33 rfl rfl (r_field FI_32_0 rfl (F33.ev 5 rfl) rfl) rfl fun _ F35 => ?_))))))
   refine l_op (f_val (v := .slice r0_slots_a_8 r0_slots_n_8 r0_slots_c_8) F35 rfl rfl (r_loadB T34.at' 0 TI_29 rfl rfl (F35.ev 19 rfl) rfl rfl (fun _ => rfl) rfl) rfl fun _ F36 => ?_)
   refine l_op (f_val F36 rfl rfl (r_len Try.underlying29 rfl (F36.ev 20 rfl)) rfl fun _ F37 => ?_)
   refine l_op (f_val F37 rfl rfl (r_move rfl rfl) rfl fun _ F38 => ?_)
   have F39 : Fr 37 [(22, .int .i64 0), (21, .int .i64 ((r0_slots_n_8 : Nat) : Int)), (20, .slice r0_slots_a_8 r0_slots_n_8 r0_slots_c_8), (5, .pointer (some ⟨b10, 0, none⟩)), (4, .pointer (some ⟨b3, 0, none⟩))] _ := F38.cut rfl
   clear F33 F35 F36 F37 F38
   refine s_end (x_normal (wp_block ?_))
   refine x_loop (fun (k : Nat) aZ wZ => ∃ (D : List SlotH), Fr 37 [(22, .int .i64 ((k : Nat) : Int)), (21, .int .i64 ((r0_slots_n_8 : Nat) : Int)), (20, .slice r0_slots_a_8 r0_slots_n_8 r0_slots_c_8), (5, .pointer (some ⟨b10, 0, none⟩)), (4, .pointer (some ⟨b3, 0, none⟩))] aZ ∧ Mv [bx b10 [.slice r0_slots_a_8 r0_slots_n_8 r0_slots_c_8, .string (fallJ d.journal keep).text, .int .i64 (fallJ d.journal keep).sure] 32, ow 99 3 encSlot okSlot (.slice r0_slots_a_8 r0_slots_n_8 r0_slots_c_8) D_8, gr inSlot D_8, bx b3 [.slice none 0 0, .string (⟨#[]⟩ : ByteArray), .int .i64 0] 32, bx b1 [.slice d_slots_a d_slots_n d_slots_c, .string d.journal.text, .int .i64 d.journal.sure] 32] w32 [bx b10 [.slice r0_slots_a_8 r0_slots_n_8 r0_slots_c_8, .string (fallJ d.journal keep).text, .int .i64 (fallJ d.journal keep).sure] 32, ow 99 3 encSlot okSlot (.slice r0_slots_a_8 r0_slots_n_8 r0_slots_c_8) D, gr inSlot D, bx b3 [.slice none 0 0, .string (⟨#[]⟩ : ByteArray), .int .i64 0] 32, bx b1 [.slice d_slots_a d_slots_n d_slots_c, .string d.journal.text, .int .i64 d.journal.sure] 32] wZ ∧ (k ≤ d_slots_n) ∧ (D.map SlotH.d = upM fallE k L) ∧ (D.length = d_slots_n)) (fun (k : Nat) => d_slots_n - k) (0) ?_ ?_
   · exact ⟨D_8, F39.cut rfl, (Mv.refl T34.at'), by omega, Eq.trans (by assumption) p0, by omega⟩
   · rintro k a40 w40 ⟨D, F40, S40, hk_0, hk_1, hk_2⟩
     refine wp_seq (wp_region_lit (l_op (f_val F40 rfl rfl (r_cmp (b := decide (k < r0_slots_n_8)) (.inr (.inr (.inl rfl))) rfl (F40.ev 22 rfl) (F40.ev 21 rfl) (dec_of (by omega))) rfl fun _ F41 => ?_)))
     have F42 : Fr 37 [(23, .bool (decide (k < r0_slots_n_8))), (22, .int .i64 ((k : Nat) : Int)), (21, .int .i64 ((r0_slots_n_8 : Nat) : Int)), (20, .slice r0_slots_a_8 r0_slots_n_8 r0_slots_c_8), (5, .pointer (some ⟨b10, 0, none⟩)), (4, .pointer (some ⟨b3, 0, none⟩))] _ := F41.cut rfl
     clear F40 F41
     refine s_end (x_normal (wp_seq (x_cond (p := k < r0_slots_n_8) (F42.ev 23 rfl) (fun h43 => ?_) (fun h43 => ?_))))
     · skip
       refine wp_skip (x_normal (wp_seq (wp_block (wp_seq (wp_region_lit (l_op (f_mv F42 rfl rfl rfl rfl rfl fun _ F44 => ?_)))))))
       obtain ⟨B45, x1, ad45, hx1, okx1, cl45⟩ := At.ownAt S40.at' ET_29.hk 1 rfl k (by first | assumption | omega)
       have oj46 := okx1
       unfold okSlot at oj46
       obtain ⟨ln47, le47, mx47, ni47⟩ := Rd.inv (show Rd 2 encC okC (fun _ => True) w40 (.slice x1.a0 x1.n0 x1.c0) x1.d.cells from NRd.get (At.nrd S40.at' 2 rfl) hx1 (j := 0) rfl)
       refine l_op (f_val F44 rfl rfl (r_indexAddr (i := k) ET_29 rfl ((F44.ev 20 rfl).trans (by rw [ad45])) (F44.ev 22 rfl) (by omega) (by first | assumption | omega)) rfl fun _ F48 => ?_)
       refine l_op (f_val (v := .agg #[.int .i64 x1.d.seq, .slice x1.a0 x1.n0 x1.c0, .bool x1.d.whole]) F48 rfl rfl (r_load (cs := [.int .i64 x1.d.seq, .slice x1.a0 x1.n0 x1.c0, .bool x1.d.whole]) TI_99 rfl (F48.ev 25 rfl) rfl (fun h => nomatch h) (elem_sub (f := 0) cl45 [.int .i64 x1.d.seq, .slice x1.a0 x1.n0 x1.c0, .bool x1.d.whole] rfl)) rfl fun _ F49 => ?_)
       refine l_op (f_alloc F49 S40.at' ZI_99 rfl rfl rfl rfl rfl fun b50 _ w50 F51 S50 => ?_)
       refine l_op (f_as F51 rfl rfl rfl rfl rfl fun _ F52 => ?_)
       refine l_op (s_store S50.at' 0 TI_99 rfl rfl rfl rfl rfl (F52.ev 7 rfl) (F52.ev 26 rfl) rfl rfl rfl rfl rfl fun w53 S53 => ?_)
       have F54 : Fr 37 [(6, .int .i64 ((k : Nat) : Int)), (7, .pointer (some ⟨b50, 0, none⟩)), (26, .agg #[.int .i64 x1.d.seq, .slice x1.a0 x1.n0 x1.c0, .bool x1.d.whole]), (22, .int .i64 ((k : Nat) : Int)), (21, .int .i64 ((r0_slots_n_8 : Nat) : Int)), (20, .slice r0_slots_a_8 r0_slots_n_8 r0_slots_c_8), (5, .pointer (some ⟨b10, 0, none⟩)), (4, .pointer (some ⟨b3, 0, none⟩))] _ := F52.cut rfl
       clear F42 F44 F48 F49 F51 F52
       have T55 : Mv _ _ [bx b50 [.int .i64 x1.d.seq, .slice x1.a0 x1.n0 x1.c0, .bool x1.d.whole] 99, bx b10 [.slice r0_slots_a_8 r0_slots_n_8 r0_slots_c_8, .string (fallJ d.journal keep).text, .int .i64 (fallJ d.journal keep).sure] 32, ow 99 3 encSlot okSlot (.slice r0_slots_a_8 r0_slots_n_8 r0_slots_c_8) D, gr inSlot D, bx b3 [.slice none 0 0, .string (⟨#[]⟩ : ByteArray), .int .i64 0] 32, bx b1 [.slice d_slots_a d_slots_n d_slots_c, .string d.journal.text, .int .i64 d.journal.sure] 32] _ := S53
       refine s_end (x_normal (wp_seq ?_))
       have hx1m := nth_upM.symm.trans (dM_at hk_1 hx1)
       refine wp_region_lit (l_op (f_val F54 rfl rfl (r_field FI_99_2 rfl (F54.ev 7 rfl) rfl) rfl fun _ F56 => ?_))
       refine l_op (f_val (v := .bool x1.d.whole) F56 rfl rfl (r_loadB T55.at' 0 TI_4 rfl rfl (F56.ev 27 rfl) rfl rfl (fun _ => rfl) rfl) rfl fun _ F57 => ?_)
       refine l_op (f_val F57 rfl rfl (r_not rfl (F57.ev 28 rfl)) rfl fun _ F58 => ?_)
       have F59 : Fr 37 [(29, .bool (!x1.d.whole)), (6, .int .i64 ((k : Nat) : Int)), (22, .int .i64 ((k : Nat) : Int)), (21, .int .i64 ((r0_slots_n_8 : Nat) : Int)), (20, .slice r0_slots_a_8 r0_slots_n_8 r0_slots_c_8), (5, .pointer (some ⟨b10, 0, none⟩)), (4, .pointer (some ⟨b3, 0, none⟩))] _ := F58.cut rfl
       clear F54 F56 F57 F58
       refine s_end (x_normal (x_condb (b := (!x1.d.whole)) (F59.ev 29 rfl) (fun h60 => ?_) (fun h60 => ?_)))
       · skip
         refine wp_region_lit (l_op (f_val F59 rfl rfl (r_field FI_32_0 rfl (F59.ev 5 rfl) rfl) rfl fun _ F61 => ?_))
         refine l_op (f_val (v := .slice r0_slots_a_8 r0_slots_n_8 r0_slots_c_8) F61 rfl rfl (r_loadB T55.at' 1 TI_29 rfl rfl (F61.ev 30 rfl) rfl rfl (fun _ => rfl) rfl) rfl fun _ F62 => ?_)
         refine l_op (f_mv F62 rfl rfl rfl rfl rfl fun _ F63 => ?_)
         refine l_op (f_val (v := .agg #[.int .i64 0, .slice none 0 0, .bool false]) F63 rfl rfl (r_build BI_99 rfl rfl rfl) rfl fun _ F64 => ?_)
         obtain ⟨B65, y65, ad65, hy65, oky65, cl65⟩ := At.ownAt T55.at' ET_29.hk 2 rfl k (by first | assumption | omega)
         obtain rfl := Option.some.inj (hx1.symm.trans hy65)
         clear hy65 oky65
         obtain ⟨ln67, le67, mx67, ni67⟩ := Rd.inv (show Rd 2 encC okC (fun _ => True) w53 (.slice x1.a0 x1.n0 x1.c0) x1.d.cells from NRd.get (At.nrd T55.at' 3 rfl) hx1 (j := 0) rfl)
         refine l_op (f_val F64 rfl rfl (r_indexAddr (i := k) ET_29 rfl ((F64.ev 31 rfl).trans (by rw [ad65])) (F64.ev 32 rfl) (by omega) (by first | assumption | omega)) rfl fun _ F68 => ?_)
         refine l_op (s_storeEl T55.at' 2 k (⟨(⟨0, [], false⟩ : SlotD), none, 0, 0⟩ : SlotH) ET_29.hk ET_29.h1 TI_99 rfl ad65 rfl rfl rfl rfl (F68.ev 34 rfl) (F68.ev 33 rfl) rfl (by first | assumption | omega) (show i64ok 0 from by first | assumption | exact ⟨by omega, by omega⟩) fun w69 S69 => ?_)
         have S70 : Mv [ow 99 3 encSlot okSlot (.slice r0_slots_a_8 r0_slots_n_8 r0_slots_c_8) (D.set k (⟨(⟨0, [], false⟩ : SlotD), none, 0, 0⟩ : SlotH)), bx b50 [.int .i64 x1.d.seq, .slice x1.a0 x1.n0 x1.c0, .bool x1.d.whole] 99, bx b10 [.slice r0_slots_a_8 r0_slots_n_8 r0_slots_c_8, .string (fallJ d.journal keep).text, .int .i64 (fallJ d.journal keep).sure] 32, gr inSlot D, bx b3 [.slice none 0 0, .string (⟨#[]⟩ : ByteArray), .int .i64 0] 32, bx b1 [.slice d_slots_a d_slots_n d_slots_c, .string d.journal.text, .int .i64 d.journal.sure] 32] w69 [ow 144 2 encC okC (.slice none 0 0) ([] : List CellD), ow 99 3 encSlot okSlot (.slice r0_slots_a_8 r0_slots_n_8 r0_slots_c_8) (D.set k (⟨(⟨0, [], false⟩ : SlotD), none, 0, 0⟩ : SlotH)), bx b50 [.int .i64 x1.d.seq, .slice x1.a0 x1.n0 x1.c0, .bool x1.d.whole] 99, bx b10 [.slice r0_slots_a_8 r0_slots_n_8 r0_slots_c_8, .string (fallJ d.journal keep).text, .int .i64 (fallJ d.journal keep).sure] 32, gr inSlot D, bx b3 [.slice none 0 0, .string (⟨#[]⟩ : ByteArray), .int .i64 0] 32, bx b1 [.slice d_slots_a d_slots_n d_slots_c, .string d.journal.text, .int .i64 d.journal.sure] 32] w69 := mv_nil S69.at'
         have S71 : Mv [ow 144 2 encC okC (.slice none 0 0) ([] : List CellD), ow 99 3 encSlot okSlot (.slice r0_slots_a_8 r0_slots_n_8 r0_slots_c_8) (D.set k (⟨(⟨0, [], false⟩ : SlotD), none, 0, 0⟩ : SlotH)), bx b50 [.int .i64 x1.d.seq, .slice x1.a0 x1.n0 x1.c0, .bool x1.d.whole] 99, bx b10 [.slice r0_slots_a_8 r0_slots_n_8 r0_slots_c_8, .string (fallJ d.journal keep).text, .int .i64 (fallJ d.journal keep).sure] 32, gr inSlot D, bx b3 [.slice none 0 0, .string (⟨#[]⟩ : ByteArray), .int .i64 0] 32, bx b1 [.slice d_slots_a d_slots_n d_slots_c, .string d.journal.text, .int .i64 d.journal.sure] 32] w69 [gr inSlot (D.set k (⟨(⟨0, [], false⟩ : SlotD), none, 0, 0⟩ : SlotH)), ow 99 3 encSlot okSlot (.slice r0_slots_a_8 r0_slots_n_8 r0_slots_c_8) (D.set k (⟨(⟨0, [], false⟩ : SlotD), none, 0, 0⟩ : SlotH)), bx b50 [.int .i64 x1.d.seq, .slice x1.a0 x1.n0 x1.c0, .bool x1.d.whole] 99, bx b10 [.slice r0_slots_a_8 r0_slots_n_8 r0_slots_c_8, .string (fallJ d.journal keep).text, .int .i64 (fallJ d.journal keep).sure] 32, bx b3 [.slice none 0 0, .string (⟨#[]⟩ : ByteArray), .int .i64 0] 32, bx b1 [.slice d_slots_a d_slots_n d_slots_c, .string d.journal.text, .int .i64 d.journal.sure] 32] w69 := gr_set S70.at' [0, 4] (⟨(⟨0, [], false⟩ : SlotD), none, 0, 0⟩ : SlotH) k rfl rfl
         have F72 : Fr 37 [(34, .pointer (some ⟨B65, 0 + k * 3, none⟩)), (33, .agg #[.int .i64 0, .slice none 0 0, .bool false]), (22, .int .i64 ((k : Nat) : Int)), (21, .int .i64 ((r0_slots_n_8 : Nat) : Int)), (20, .slice r0_slots_a_8 r0_slots_n_8 r0_slots_c_8), (5, .pointer (some ⟨b10, 0, none⟩)), (4, .pointer (some ⟨b3, 0, none⟩))] _ := F68.cut rfl
         clear F59 F61 F62 F63 F64 F68
         have T73 : Mv _ _ [gr inSlot (D.set k (⟨(⟨0, [], false⟩ : SlotD), none, 0, 0⟩ : SlotH)), ow 99 3 encSlot okSlot (.slice r0_slots_a_8 r0_slots_n_8 r0_slots_c_8) (D.set k (⟨(⟨0, [], false⟩ : SlotD), none, 0, 0⟩ : SlotH)), bx b50 [.int .i64 x1.d.seq, .slice x1.a0 x1.n0 x1.c0, .bool x1.d.whole] 99, bx b10 [.slice r0_slots_a_8 r0_slots_n_8 r0_slots_c_8, .string (fallJ d.journal keep).text, .int .i64 (fallJ d.journal keep).sure] 32, bx b3 [.slice none 0 0, .string (⟨#[]⟩ : ByteArray), .int .i64 0] 32, bx b1 [.slice d_slots_a d_slots_n d_slots_c, .string d.journal.text, .int .i64 d.journal.sure] 32] _ := S71
         refine s_end (x_block_normal (x_normal (wp_region_lit (l_op (f_val F72 rfl rfl (r_add (z := ((k + 1 : Nat) : Int)) rfl (F72.ev 22 rfl) rfl (by first | rfl | omega) ⟨by first | omega | (unfold i64ok at *; omega), by first | omega | (unfold i64ok at *; omega)⟩) rfl fun _ F74 => ?_)))))
         refine l_op (f_mv F74 rfl rfl rfl rfl rfl fun _ F75 => ?_)
         have F76 : Fr 37 [(22, .int .i64 ((k + 1 : Nat) : Int)), (21, .int .i64 ((r0_slots_n_8 : Nat) : Int)), (20, .slice r0_slots_a_8 r0_slots_n_8 r0_slots_c_8), (5, .pointer (some ⟨b10, 0, none⟩)), (4, .pointer (some ⟨b3, 0, none⟩))] _ := F75.cut rfl
         clear F72 F74 F75
         refine s_end ?_
         refine x_normal ⟨k + 1, by omega, D.set k (⟨(⟨0, [], false⟩ : SlotD), none, 0, 0⟩ : SlotH), F76.cut rfl, ((S40.trans (S50.trans (T55.trans (S69.trans (S70.trans T73))))).pick [3, 1, 0, 4, 5] rfl), by omega, by first | (rw [List.map_set, hk_1]; exact upM_step hx1m (fallE_y (by assumption))) | (rw [hk_1]; exact upM_keep hx1m (fallE_n (by assumption))), by (try rw [List.length_set]); assumption⟩
       · skip
         refine wp_skip (x_block_normal (x_normal (wp_region_lit (l_op (f_val F59 rfl rfl (r_add (z := ((k + 1 : Nat) : Int)) rfl (F59.ev 22 rfl) rfl (by first | rfl | omega) ⟨by first | omega | (unfold i64ok at *; omega), by first | omega | (unfold i64ok at *; omega)⟩) rfl fun _ F77 => ?_)))))
         refine l_op (f_mv F77 rfl rfl rfl rfl rfl fun _ F78 => ?_)
         have F79 : Fr 37 [(22, .int .i64 ((k + 1 : Nat) : Int)), (21, .int .i64 ((r0_slots_n_8 : Nat) : Int)), (20, .slice r0_slots_a_8 r0_slots_n_8 r0_slots_c_8), (5, .pointer (some ⟨b10, 0, none⟩)), (4, .pointer (some ⟨b3, 0, none⟩))] _ := F78.cut rfl
         clear F59 F77 F78
         refine s_end ?_
         refine x_normal ⟨k + 1, by omega, D, F79.cut rfl, ((S40.trans (S50.trans T55)).pick [1, 2, 3, 4, 5] rfl), by omega, by first | (rw [List.map_set, hk_1]; exact upM_step hx1m (fallE_y (by assumption))) | (rw [hk_1]; exact upM_keep hx1m (fallE_n (by assumption))), by (try rw [List.length_set]); assumption⟩
     · skip
       refine wp_exit (x_then_exit (x_then_exit (x_block_here (x_normal (wp_seq (wp_region_lit (l_op (f_val (v := .agg #[.slice r0_slots_a_8 r0_slots_n_8 r0_slots_c_8, .string (fallJ d.journal keep).text, .int .i64 (fallJ d.journal keep).sure]) F42 rfl rfl (r_loadB S40.at' 0 TI_32 rfl rfl (F42.ev 5 rfl) rfl rfl (fun h => nomatch h) rfl) rfl fun _ F80 => ?_))))))))
       refine l_op (s_store S40.at' 3 TI_32 rfl rfl rfl rfl rfl (F80.ev 4 rfl) (F80.ev 36 rfl) rfl rfl rfl rfl rfl fun w81 S81 => ?_)
       have F82 : Fr 37 [(36, .agg #[.slice r0_slots_a_8 r0_slots_n_8 r0_slots_c_8, .string (fallJ d.journal keep).text, .int .i64 (fallJ d.journal keep).sure]), (4, .pointer (some ⟨b3, 0, none⟩))] _ := F80.cut rfl
       clear F42 F80
       have T83 : Mv _ _ [bx b3 [.slice r0_slots_a_8 r0_slots_n_8 r0_slots_c_8, .string (fallJ d.journal keep).text, .int .i64 (fallJ d.journal keep).sure] 32, bx b10 [.slice r0_slots_a_8 r0_slots_n_8 r0_slots_c_8, .string (fallJ d.journal keep).text, .int .i64 (fallJ d.journal keep).sure] 32, ow 99 3 encSlot okSlot (.slice r0_slots_a_8 r0_slots_n_8 r0_slots_c_8) D, gr inSlot D, bx b1 [.slice d_slots_a d_slots_n d_slots_c, .string d.journal.text, .int .i64 d.journal.sure] 32] _ := S81
       refine s_end (x_normal (wp_ret ?_))
       refine x_done (v := .agg #[.slice r0_slots_a_8 r0_slots_n_8 r0_slots_c_8, .string (fallJ d.journal keep).text, .int .i64 (fallJ d.journal keep).sure]) F82 (results_1 Try.results32 (.cell (F82.ev 4 rfl) (run_loadVar' TI_32 _ [.slice r0_slots_a_8 r0_slots_n_8 r0_slots_c_8, .string (fallJ d.journal keep).text, .int .i64 (fallJ d.journal keep).sure] rfl (fun h => nomatch h) (At.cells T83.at' 0 rfl 0 [.slice r0_slots_a_8 r0_slots_n_8 r0_slots_c_8, .string (fallJ d.journal keep).text, .int .i64 (fallJ d.journal keep).sure] rfl)))) ?_
       exact ⟨D, r0_slots_a_8, r0_slots_n_8, r0_slots_c_8, (by rw [(show (fallJ d.journal keep).text = (fallJo L d.journal keep).text from by first | rw [← (fall_t (keep := keep) p0 (by assumption)).2]), (show (fallJ d.journal keep).sure = (fallJo L d.journal keep).sure from by first | rw [← (fall_t (keep := keep) p0 (by assumption)).2])]), (Mv.pick (S1.trans (T6.trans (S8.trans (S10.trans (T14.trans (T20.trans (S29.trans (T34.trans (S40.trans T83))))))))) [2, 3] rfl), ((show (fallJ d.journal keep).text = (fallJo L d.journal keep).text from by first | rw [← (fall_t (keep := keep) p0 (by assumption)).2]) ▸ ok_r0_text_29), (hk_1.trans (upM_end (by omega))).trans (fall_t (keep := keep) p0 (by assumption)).1.symm, fallJo_i64 h_d_journal_sure⟩
theorem spec_FallDisk_c {w : World} {H : Nat → Prop} {d : DiskH} {d_slots_a : Option Addr} {d_slots_n d_slots_c : Nat} {keep : Int} {L : List SlotD} (v_d_slots : Rd 3 encSlot okSlot H w (.slice d_slots_a d_slots_n d_slots_c) d.slots) (u_d_slots : NRd inSlot H w d.slots) (h_d_journal_text : okS d.journal.text) (h_d_journal_sure : i64ok d.journal.sure) (h_keep : i64ok keep) (p0 : d.slots.map SlotH.d = L) (p1 : slotsFit 1048576 L) :
    Calls Try.prog 31 #[.agg #[.slice d_slots_a d_slots_n d_slots_c, .string d.journal.text, .int .i64 d.journal.sure], .int .i64 keep] w fun e w' => ∃ (D : List SlotH), ∃ (r0_slots_a : Option Addr), ∃ (r0_slots_n : Nat), ∃ (r0_slots_c : Nat), e = .returned (.agg #[.slice r0_slots_a r0_slots_n r0_slots_c, .string (fallJo L d.journal keep).text, .int .i64 (fallJo L d.journal keep).sure]) ∧ Mv [] w [ow 99 3 encSlot okSlot (.slice r0_slots_a r0_slots_n r0_slots_c) D, gr inSlot D] w' ∧ okS (fallJo L d.journal keep).text ∧ D.map SlotH.d = fallL L d.journal ∧ i64ok (fallJo L d.journal keep).sure := by
 have hLn := dM_len p0
 have hll := p1.1
 have V_v_d_slots : Rd 3 encSlot okSlot (V H w []) w (.slice d_slots_a d_slots_n d_slots_c) d.slots := Rd.start v_d_slots (fun _ _ => fps_nil _)
 obtain ⟨ln_d_slots, le_d_slots, mx_d_slots, ni_d_slots⟩ := Rd.inv v_d_slots
 have V_u_d_slots : NRd inSlot (V H w []) w d.slots := NRd.start u_d_slots (fun _ _ => fps_nil _)
 refine calls_enter 37 Try.func31 rfl Try.ntmps31 (Nat.le_of_ble_eq_true rfl) (fun _ F0i => ?_)
 have F0 : Fr 37 [(0, .agg #[.slice d_slots_a d_slots_n d_slots_c, .string d.journal.text, .int .i64 d.journal.sure]), (1, .int .i64 keep)] _ := F0i
 clear F0i
 refine wp_seq (wp_region_lit (l_op (f_box F0 (At.nil w) rfl rfl rfl (F0.ev 0 rfl) rfl rfl fun b1 _ w1 F2 S1 => ?_)))
 refine l_op (f_alloc F2 S1.at' ZI_32 rfl rfl rfl rfl rfl fun b3 _ w3 F4 S3 => ?_)
 have F5 : Fr 37 [(4, .pointer (some ⟨b3, 0, none⟩)), (2, .pointer (some ⟨b1, 0, none⟩)), (1, .int .i64 keep)] _ := F4.cut rfl
 clear F0 F2 F4
 have T6 : Mv _ _ [bx b3 [.slice none 0 0, .string (⟨#[]⟩ : ByteArray), .int .i64 0] 32, bx b1 [.slice d_slots_a d_slots_n d_slots_c, .string d.journal.text, .int .i64 d.journal.sure] 32] _ := S3
 refine s_end (x_normal (wp_seq (wp_region_lit (l_op (f_val (v := .agg #[.slice d_slots_a d_slots_n d_slots_c, .string d.journal.text, .int .i64 d.journal.sure]) F5 rfl rfl (r_loadB T6.at' 1 TI_32 rfl rfl (F5.ev 2 rfl) rfl rfl (fun h => nomatch h) rfl) rfl fun _ F7 => ?_)))))
 refine l_op (f_call F7 CF_57 rfl rfl rfl rfl (lc (F7.ev 6 rfl) rfl) (spec_l23Copy_c (d := d) (Rd.mv (Nat.succ_pos _) V_v_d_slots (S1.trans T6)) (NRd.mv V_u_d_slots (S1.trans T6)) h_d_journal_text (by first | assumption | exact ⟨by omega, by omega⟩ | (unfold i64ok at *; omega) | (simp only [i64ok]; omega)) (by rw [p0]; exact p1)) ?_)
 rintro _ w8 ⟨D_8, r0_slots_a_8, r0_slots_n_8, r0_slots_c_8, rfl, m8, ok_r0_journal_text_8, q8_0, q8_1, q8_2⟩
 refine ⟨_, rfl, fun _ F9 => ?_⟩
 have S8 : Mv _ _ [ow 99 3 encSlot okSlot (.slice r0_slots_a_8 r0_slots_n_8 r0_slots_c_8) D_8, gr inSlot D_8, bx b3 [.slice none 0 0, .string (⟨#[]⟩ : ByteArray), .int .i64 0] 32, bx b1 [.slice d_slots_a d_slots_n d_slots_c, .string d.journal.text, .int .i64 d.journal.sure] 32] _ := At.frame T6.at' [] rfl m8
 obtain ⟨lo8_0, lp8_0, lq8_0⟩ := At.ownInv S8.at' ET_29.hk 0 rfl
 clear m8
 refine l_op (s_store S8.at' 3 TI_32 rfl rfl rfl rfl rfl (F9.ev 2 rfl) (F9.ev 7 rfl) rfl rfl rfl rfl rfl fun w10 S10 => ?_)
 have F11 : Fr 37 [(7, .agg #[.slice r0_slots_a_8 r0_slots_n_8 r0_slots_c_8, .string d.journal.text, .int .i64 d.journal.sure]), (4, .pointer (some ⟨b3, 0, none⟩)), (2, .pointer (some ⟨b1, 0, none⟩)), (1, .int .i64 keep)] _ := F9.cut rfl
 clear F5 F7 F9
 have T12 : Mv _ _ [bx b1 [.slice r0_slots_a_8 r0_slots_n_8 r0_slots_c_8, .string d.journal.text, .int .i64 d.journal.sure] 32, ow 99 3 encSlot okSlot (.slice r0_slots_a_8 r0_slots_n_8 r0_slots_c_8) D_8, gr inSlot D_8, bx b3 [.slice none 0 0, .string (⟨#[]⟩ : ByteArray), .int .i64 0] 32] _ := S10
 refine s_end (x_normal (wp_seq (wp_seq (wp_region_lit (l_op (f_val (v := .agg #[.slice r0_slots_a_8 r0_slots_n_8 r0_slots_c_8, .string d.journal.text, .int .i64 d.journal.sure]) F11 rfl rfl (r_loadB T12.at' 0 TI_32 rfl rfl (F11.ev 2 rfl) rfl rfl (fun h => nomatch h) rfl) rfl fun _ F13 => ?_))))))
 refine l_op (f_call F13 CF_58 rfl rfl rfl rfl (lc (F13.ev 8 rfl) rfl) (spec_DiskOk_c (H := fun _ => True) (d := (⟨D_8, d.journal⟩ : DiskH)) (At.rd T12.at' ET_29.hk 1 rfl) (At.nrd T12.at' 2 rfl) ok_r0_journal_text_8 (by first | assumption | exact ⟨by omega, by omega⟩ | (unfold i64ok at *; omega) | (simp only [i64ok]; omega))) ?_)
 rintro _ w14 ⟨rfl, m14⟩
 refine ⟨_, rfl, fun _ F15 => ?_⟩
 have S14 := At.frame0 T12.at' m14
 clear m14
 refine l_op (f_val F15 rfl rfl (r_not rfl (F15.ev 9 rfl)) rfl fun _ F16 => ?_)
 have F17 : Fr 37 [(10, .bool (!(diskOk (D_8.map SlotH.d) d.journal))), (4, .pointer (some ⟨b3, 0, none⟩)), (2, .pointer (some ⟨b1, 0, none⟩)), (1, .int .i64 keep)] _ := F16.cut rfl
 clear F11 F13 F15 F16
 have T18 : Mv _ _ [bx b1 [.slice r0_slots_a_8 r0_slots_n_8 r0_slots_c_8, .string d.journal.text, .int .i64 d.journal.sure] 32, ow 99 3 encSlot okSlot (.slice r0_slots_a_8 r0_slots_n_8 r0_slots_c_8) D_8, gr inSlot D_8, bx b3 [.slice none 0 0, .string (⟨#[]⟩ : ByteArray), .int .i64 0] 32] _ := S14
 refine s_end (x_normal (x_condb (b := (!(diskOk (D_8.map SlotH.d) d.journal))) (F17.ev 10 rfl) (fun h19 => ?_) (fun h19 => ?_)))
 · skip
   refine wp_seq (wp_region_lit (l_op (f_val (v := .agg #[.slice r0_slots_a_8 r0_slots_n_8 r0_slots_c_8, .string d.journal.text, .int .i64 d.journal.sure]) F17 rfl rfl (r_loadB T18.at' 0 TI_32 rfl rfl (F17.ev 2 rfl) rfl rfl (fun h => nomatch h) rfl) rfl fun _ F20 => ?_)))
   refine l_op (s_store T18.at' 3 TI_32 rfl rfl rfl rfl rfl (F20.ev 4 rfl) (F20.ev 11 rfl) rfl rfl rfl rfl rfl fun w21 S21 => ?_)
   have F22 : Fr 37 [(11, .agg #[.slice r0_slots_a_8 r0_slots_n_8 r0_slots_c_8, .string d.journal.text, .int .i64 d.journal.sure]), (4, .pointer (some ⟨b3, 0, none⟩))] _ := F20.cut rfl
   clear F17 F20
   have T23 : Mv _ _ [bx b3 [.slice r0_slots_a_8 r0_slots_n_8 r0_slots_c_8, .string d.journal.text, .int .i64 d.journal.sure] 32, bx b1 [.slice r0_slots_a_8 r0_slots_n_8 r0_slots_c_8, .string d.journal.text, .int .i64 d.journal.sure] 32, ow 99 3 encSlot okSlot (.slice r0_slots_a_8 r0_slots_n_8 r0_slots_c_8) D_8, gr inSlot D_8] _ := S21
   refine s_end (x_normal (wp_ret (x_then_ret ?_)))
   refine x_done (v := .agg #[.slice r0_slots_a_8 r0_slots_n_8 r0_slots_c_8, .string d.journal.text, .int .i64 d.journal.sure]) F22 (results_1 Try.results31 (.cell (F22.ev 4 rfl) (run_loadVar' TI_32 _ [.slice r0_slots_a_8 r0_slots_n_8 r0_slots_c_8, .string d.journal.text, .int .i64 d.journal.sure] rfl (fun h => nomatch h) (At.cells T23.at' 0 rfl 0 [.slice r0_slots_a_8 r0_slots_n_8 r0_slots_c_8, .string d.journal.text, .int .i64 d.journal.sure] rfl)))) ?_
   exact ⟨D_8, r0_slots_a_8, r0_slots_n_8, r0_slots_c_8, (by rw [(show d.journal.text = (fallJo L d.journal keep).text from by first | rw [← (fall_f (keep := keep) (Eq.trans (by assumption) p0) (by assumption)).2]), (show d.journal.sure = (fallJo L d.journal keep).sure from by first | rw [← (fall_f (keep := keep) (Eq.trans (by assumption) p0) (by assumption)).2])]), (Mv.pick (S1.trans (T6.trans (S8.trans (T12.trans (T18.trans T23))))) [2, 3] rfl), ((show d.journal.text = (fallJo L d.journal keep).text from by first | rw [← (fall_f (keep := keep) (Eq.trans (by assumption) p0) (by assumption)).2]) ▸ ok_r0_journal_text_8), Eq.trans (by assumption) (p0.trans (fall_f (keep := keep) (Eq.trans (by assumption) p0) (by assumption)).1), fallJo_i64 h_d_journal_sure⟩
 · skip
   refine wp_skip (x_normal (wp_seq (wp_region_lit (l_op (f_val F17 rfl rfl (r_field FI_32_1 rfl (F17.ev 2 rfl) rfl) rfl fun _ F24 => ?_)))))
   refine l_op (f_val (v := .agg #[.string d.journal.text, .int .i64 d.journal.sure]) F24 rfl rfl (r_loadB T18.at' 0 TI_30 rfl rfl (F24.ev 12 rfl) rfl rfl (fun h => nomatch h) rfl) rfl fun _ F25 => ?_)
   refine l_op (f_mv F25 rfl rfl rfl rfl rfl fun _ F26 => ?_)
   refine l_op (f_call F26 CF_73 rfl rfl rfl rfl (lc (F26.ev 13 rfl) (lc (F26.ev 14 rfl) rfl)) (spec_FallJournal_c (H := fun _ => True) (j := d.journal) (keep := keep) ok_r0_journal_text_8 (by first | assumption | exact ⟨by omega, by omega⟩ | (unfold i64ok at *; omega) | (simp only [i64ok]; omega)) h_keep) ?_)
   rintro _ w27 ⟨rfl, m27, ok_r0_text_27, q27_0⟩
   refine ⟨_, rfl, fun _ F28 => ?_⟩
   have S27 := At.frame0 T18.at' m27
   clear m27
   refine l_op (f_val F28 rfl rfl (r_field FI_32_1 rfl (F28.ev 2 rfl) rfl) rfl fun _ F29 => ?_)
   refine l_op (s_store S27.at' 0 TI_30 rfl rfl rfl rfl rfl (F29.ev 16 rfl) (F29.ev 15 rfl) rfl rfl rfl rfl rfl fun w30 S30 => ?_)
   have F31 : Fr 37 [(16, .pointer (some ⟨b1, 1, none⟩)), (15, .agg #[.string (fallJ d.journal keep).text, .int .i64 (fallJ d.journal keep).sure]), (4, .pointer (some ⟨b3, 0, none⟩)), (2, .pointer (some ⟨b1, 0, none⟩))] _ := F29.cut rfl
   clear F17 F24 F25 F26 F28 F29
   have T32 : Mv _ _ [bx b1 [.slice r0_slots_a_8 r0_slots_n_8 r0_slots_c_8, .string (fallJ d.journal keep).text, .int .i64 (fallJ d.journal keep).sure] 32, ow 99 3 encSlot okSlot (.slice r0_slots_a_8 r0_slots_n_8 r0_slots_c_8) D_8, gr inSlot D_8, bx b3 [.slice none 0 0, .string (⟨#[]⟩ : ByteArray), .int .i64 0] 32] _ := S30
   refine s_end (x_normal (wp_seq (wp_seq (wp_region_lit (l_op (f_val F31 rfl rfl (r_assign rfl rfl) rfl fun _ F33 => ?_))))))
   have F34 : Fr 37 [(5, .int .i64 0), (4, .pointer (some ⟨b3, 0, none⟩)), (2, .pointer (some ⟨b1, 0, none⟩))] _ := F33.cut rfl
   clear F31 F33
   refine s_end (x_normal (wp_block ?_))
   refine x_loop (fun (k : Nat) aZ wZ => ∃ (D : List SlotH), Fr 37 [(5, .int .i64 ((k : Nat) : Int)), (4, .pointer (some ⟨b3, 0, none⟩)), (2, .pointer (some ⟨b1, 0, none⟩))] aZ ∧ Mv [bx b1 [.slice r0_slots_a_8 r0_slots_n_8 r0_slots_c_8, .string (fallJ d.journal keep).text, .int .i64 (fallJ d.journal keep).sure] 32, ow 99 3 encSlot okSlot (.slice r0_slots_a_8 r0_slots_n_8 r0_slots_c_8) D_8, gr inSlot D_8, bx b3 [.slice none 0 0, .string (⟨#[]⟩ : ByteArray), .int .i64 0] 32] w30 [bx b1 [.slice r0_slots_a_8 r0_slots_n_8 r0_slots_c_8, .string (fallJ d.journal keep).text, .int .i64 (fallJ d.journal keep).sure] 32, ow 99 3 encSlot okSlot (.slice r0_slots_a_8 r0_slots_n_8 r0_slots_c_8) D, gr inSlot D, bx b3 [.slice none 0 0, .string (⟨#[]⟩ : ByteArray), .int .i64 0] 32] wZ ∧ (k ≤ d_slots_n) ∧ (D.map SlotH.d = upM fallE k L) ∧ (D.length = d_slots_n)) (fun (k : Nat) => d_slots_n - k) (0) ?_ ?_
   · exact ⟨D_8, F34.cut rfl, (Mv.refl T32.at'), by omega, Eq.trans (by assumption) p0, by omega⟩
   · rintro k a35 w35 ⟨D, F35, S35, hk_0, hk_1, hk_2⟩
     refine wp_seq (wp_seq (wp_region_lit (l_op (f_mv F35 rfl rfl rfl rfl rfl fun _ F36 => ?_))))
     refine l_op (f_val F36 rfl rfl (r_field FI_32_0 rfl (F36.ev 2 rfl) rfl) rfl fun _ F37 => ?_)
     refine l_op (f_val (v := .slice r0_slots_a_8 r0_slots_n_8 r0_slots_c_8) F37 rfl rfl (r_loadB S35.at' 0 TI_29 rfl rfl (F37.ev 18 rfl) rfl rfl (fun _ => rfl) rfl) rfl fun _ F38 => ?_)
     refine l_op (f_val F38 rfl rfl (r_len Try.underlying29 rfl (F38.ev 19 rfl)) rfl fun _ F39 => ?_)
     refine l_op (f_val F39 rfl rfl (r_cmp (b := decide (k < r0_slots_n_8)) (.inr (.inr (.inl rfl))) rfl (F39.ev 17 rfl) (F39.ev 20 rfl) (dec_of (by omega))) rfl fun _ F40 => ?_)
     have F41 : Fr 37 [(21, .bool (decide (k < r0_slots_n_8))), (5, .int .i64 ((k : Nat) : Int)), (4, .pointer (some ⟨b3, 0, none⟩)), (2, .pointer (some ⟨b1, 0, none⟩))] _ := F40.cut rfl
     clear F35 F36 F37 F38 F39 F40
     refine s_end (x_normal (x_cond (p := k < r0_slots_n_8) (F41.ev 21 rfl) (fun h42 => ?_) (fun h42 => ?_)))
     · skip
       refine wp_skip (x_normal (wp_seq (wp_block (wp_seq (wp_region_lit (l_op (f_val F41 rfl rfl (r_field FI_32_0 rfl (F41.ev 2 rfl) rfl) rfl fun _ F43 => ?_)))))))
       refine l_op (f_val (v := .slice r0_slots_a_8 r0_slots_n_8 r0_slots_c_8) F43 rfl rfl (r_loadB S35.at' 0 TI_29 rfl rfl (F43.ev 24 rfl) rfl rfl (fun _ => rfl) rfl) rfl fun _ F44 => ?_)
       refine l_op (f_mv F44 rfl rfl rfl rfl rfl fun _ F45 => ?_)
       obtain ⟨B46, x1, ad46, hx1, okx1, cl46⟩ := At.ownAt S35.at' ET_29.hk 1 rfl k (by first | assumption | omega)
       have oj47 := okx1
       unfold okSlot at oj47
       obtain ⟨ln48, le48, mx48, ni48⟩ := Rd.inv (show Rd 2 encC okC (fun _ => True) w35 (.slice x1.a0 x1.n0 x1.c0) x1.d.cells from NRd.get (At.nrd S35.at' 2 rfl) hx1 (j := 0) rfl)
       refine l_op (f_val F45 rfl rfl (r_indexAddr (i := k) ET_29 rfl ((F45.ev 25 rfl).trans (by rw [ad46])) (F45.ev 26 rfl) (by omega) (by first | assumption | omega)) rfl fun _ F49 => ?_)
       refine l_op (f_val F49 rfl rfl (r_field FI_99_2 rfl (F49.ev 27 rfl) rfl) rfl fun _ F50 => ?_)
       refine l_op (f_val (v := .bool x1.d.whole) F50 rfl rfl (r_load (cs := [.bool x1.d.whole]) TI_4 rfl (F50.ev 28 rfl) rfl (fun _ => rfl) (elem_sub (f := 2) cl46 [.bool x1.d.whole] rfl)) rfl fun _ F51 => ?_)
       refine l_op (f_val F51 rfl rfl (r_not rfl (F51.ev 29 rfl)) rfl fun _ F52 => ?_)
       have F53 : Fr 37 [(30, .bool (!x1.d.whole)), (5, .int .i64 ((k : Nat) : Int)), (4, .pointer (some ⟨b3, 0, none⟩)), (2, .pointer (some ⟨b1, 0, none⟩))] _ := F52.cut rfl
       clear F41 F43 F44 F45 F49 F50 F51 F52
       refine s_end (x_normal (x_condb (b := (!x1.d.whole)) (F53.ev 30 rfl) (fun h54 => ?_) (fun h54 => ?_)))
       · skip
         refine wp_region_lit (l_op (f_val F53 rfl rfl (r_field FI_32_0 rfl (F53.ev 2 rfl) rfl) rfl fun _ F55 => ?_))
         refine l_op (f_val (v := .slice r0_slots_a_8 r0_slots_n_8 r0_slots_c_8) F55 rfl rfl (r_loadB S35.at' 0 TI_29 rfl rfl (F55.ev 31 rfl) rfl rfl (fun _ => rfl) rfl) rfl fun _ F56 => ?_)
         refine l_op (f_mv F56 rfl rfl rfl rfl rfl fun _ F57 => ?_)
         refine l_op (f_val (v := .agg #[.int .i64 0, .slice none 0 0, .bool false]) F57 rfl rfl (r_build BI_99 rfl rfl rfl) rfl fun _ F58 => ?_)
         obtain ⟨B59, y59, ad59, hy59, oky59, cl59⟩ := At.ownAt S35.at' ET_29.hk 1 rfl k (by first | assumption | omega)
         obtain rfl := Option.some.inj (hx1.symm.trans hy59)
         clear hy59 oky59
         obtain ⟨ln61, le61, mx61, ni61⟩ := Rd.inv (show Rd 2 encC okC (fun _ => True) w35 (.slice x1.a0 x1.n0 x1.c0) x1.d.cells from NRd.get (At.nrd S35.at' 2 rfl) hx1 (j := 0) rfl)
         refine l_op (f_val F58 rfl rfl (r_indexAddr (i := k) ET_29 rfl ((F58.ev 32 rfl).trans (by rw [ad59])) (F58.ev 33 rfl) (by omega) (by first | assumption | omega)) rfl fun _ F62 => ?_)
         refine l_op (s_storeEl S35.at' 1 k (⟨(⟨0, [], false⟩ : SlotD), none, 0, 0⟩ : SlotH) ET_29.hk ET_29.h1 TI_99 rfl ad59 rfl rfl rfl rfl (F62.ev 35 rfl) (F62.ev 34 rfl) rfl (by first | assumption | omega) (show i64ok 0 from by first | assumption | exact ⟨by omega, by omega⟩) fun w63 S63 => ?_)
         have S64 : Mv [ow 99 3 encSlot okSlot (.slice r0_slots_a_8 r0_slots_n_8 r0_slots_c_8) (D.set k (⟨(⟨0, [], false⟩ : SlotD), none, 0, 0⟩ : SlotH)), bx b1 [.slice r0_slots_a_8 r0_slots_n_8 r0_slots_c_8, .string (fallJ d.journal keep).text, .int .i64 (fallJ d.journal keep).sure] 32, gr inSlot D, bx b3 [.slice none 0 0, .string (⟨#[]⟩ : ByteArray), .int .i64 0] 32] w63 [ow 144 2 encC okC (.slice none 0 0) ([] : List CellD), ow 99 3 encSlot okSlot (.slice r0_slots_a_8 r0_slots_n_8 r0_slots_c_8) (D.set k (⟨(⟨0, [], false⟩ : SlotD), none, 0, 0⟩ : SlotH)), bx b1 [.slice r0_slots_a_8 r0_slots_n_8 r0_slots_c_8, .string (fallJ d.journal keep).text, .int .i64 (fallJ d.journal keep).sure] 32, gr inSlot D, bx b3 [.slice none 0 0, .string (⟨#[]⟩ : ByteArray), .int .i64 0] 32] w63 := mv_nil S63.at'
         have S65 : Mv [ow 144 2 encC okC (.slice none 0 0) ([] : List CellD), ow 99 3 encSlot okSlot (.slice r0_slots_a_8 r0_slots_n_8 r0_slots_c_8) (D.set k (⟨(⟨0, [], false⟩ : SlotD), none, 0, 0⟩ : SlotH)), bx b1 [.slice r0_slots_a_8 r0_slots_n_8 r0_slots_c_8, .string (fallJ d.journal keep).text, .int .i64 (fallJ d.journal keep).sure] 32, gr inSlot D, bx b3 [.slice none 0 0, .string (⟨#[]⟩ : ByteArray), .int .i64 0] 32] w63 [gr inSlot (D.set k (⟨(⟨0, [], false⟩ : SlotD), none, 0, 0⟩ : SlotH)), ow 99 3 encSlot okSlot (.slice r0_slots_a_8 r0_slots_n_8 r0_slots_c_8) (D.set k (⟨(⟨0, [], false⟩ : SlotD), none, 0, 0⟩ : SlotH)), bx b1 [.slice r0_slots_a_8 r0_slots_n_8 r0_slots_c_8, .string (fallJ d.journal keep).text, .int .i64 (fallJ d.journal keep).sure] 32, bx b3 [.slice none 0 0, .string (⟨#[]⟩ : ByteArray), .int .i64 0] 32] w63 := gr_set S64.at' [0, 3] (⟨(⟨0, [], false⟩ : SlotD), none, 0, 0⟩ : SlotH) k rfl rfl
         have F66 : Fr 37 [(35, .pointer (some ⟨B59, 0 + k * 3, none⟩)), (34, .agg #[.int .i64 0, .slice none 0 0, .bool false]), (5, .int .i64 ((k : Nat) : Int)), (4, .pointer (some ⟨b3, 0, none⟩)), (2, .pointer (some ⟨b1, 0, none⟩))] _ := F62.cut rfl
         clear F53 F55 F56 F57 F58 F62
         have T67 : Mv _ _ [gr inSlot (D.set k (⟨(⟨0, [], false⟩ : SlotD), none, 0, 0⟩ : SlotH)), ow 99 3 encSlot okSlot (.slice r0_slots_a_8 r0_slots_n_8 r0_slots_c_8) (D.set k (⟨(⟨0, [], false⟩ : SlotD), none, 0, 0⟩ : SlotH)), bx b1 [.slice r0_slots_a_8 r0_slots_n_8 r0_slots_c_8, .string (fallJ d.journal keep).text, .int .i64 (fallJ d.journal keep).sure] 32, bx b3 [.slice none 0 0, .string (⟨#[]⟩ : ByteArray), .int .i64 0] 32] _ := S65
         refine s_end (x_block_normal (x_normal ?_))
         have hx1m := nth_upM.symm.trans (dM_at hk_1 hx1)
         refine wp_region_lit (l_op (f_mv F66 rfl rfl rfl rfl rfl fun _ F68 => ?_))
         refine l_op (f_val F68 rfl rfl (r_add (z := ((k + 1 : Nat) : Int)) rfl (F68.ev 22 rfl) rfl (by first | rfl | omega) ⟨by first | omega | (unfold i64ok at *; omega), by first | omega | (unfold i64ok at *; omega)⟩) rfl fun _ F69 => ?_)
         refine l_op (f_as F69 rfl rfl rfl rfl rfl fun _ F70 => ?_)
         have F71 : Fr 37 [(5, .int .i64 ((k + 1 : Nat) : Int)), (4, .pointer (some ⟨b3, 0, none⟩)), (2, .pointer (some ⟨b1, 0, none⟩))] _ := F70.cut rfl
         clear F66 F68 F69 F70
         refine s_end ?_
         refine x_normal ⟨k + 1, by omega, D.set k (⟨(⟨0, [], false⟩ : SlotD), none, 0, 0⟩ : SlotH), F71.cut rfl, ((S35.trans (S63.trans (S64.trans T67))).pick [2, 1, 0, 3] rfl), by omega, by first | (rw [List.map_set, hk_1]; exact upM_step hx1m (fallE_y (by assumption))) | (rw [hk_1]; exact upM_keep hx1m (fallE_n (by assumption))), by (try rw [List.length_set]); assumption⟩
       · skip
         refine wp_skip (x_block_normal (x_normal ?_))
         have hx1m := nth_upM.symm.trans (dM_at hk_1 hx1)
         refine wp_region_lit (l_op (f_mv F53 rfl rfl rfl rfl rfl fun _ F72 => ?_))
         refine l_op (f_val F72 rfl rfl (r_add (z := ((k + 1 : Nat) : Int)) rfl (F72.ev 22 rfl) rfl (by first | rfl | omega) ⟨by first | omega | (unfold i64ok at *; omega), by first | omega | (unfold i64ok at *; omega)⟩) rfl fun _ F73 => ?_)
         refine l_op (f_as F73 rfl rfl rfl rfl rfl fun _ F74 => ?_)
         have F75 : Fr 37 [(5, .int .i64 ((k + 1 : Nat) : Int)), (4, .pointer (some ⟨b3, 0, none⟩)), (2, .pointer (some ⟨b1, 0, none⟩))] _ := F74.cut rfl
         clear F53 F72 F73 F74
         refine s_end ?_
         refine x_normal ⟨k + 1, by omega, D, F75.cut rfl, (S35.pick [0, 1, 2, 3] rfl), by omega, by first | (rw [List.map_set, hk_1]; exact upM_step hx1m (fallE_y (by assumption))) | (rw [hk_1]; exact upM_keep hx1m (fallE_n (by assumption))), by (try rw [List.length_set]); assumption⟩
     · skip
       refine wp_exit (x_then_exit (x_then_exit (x_block_here (x_normal (wp_seq (wp_region_lit (l_op (f_val (v := .agg #[.slice r0_slots_a_8 r0_slots_n_8 r0_slots_c_8, .string (fallJ d.journal keep).text, .int .i64 (fallJ d.journal keep).sure]) F41 rfl rfl (r_loadB S35.at' 0 TI_32 rfl rfl (F41.ev 2 rfl) rfl rfl (fun h => nomatch h) rfl) rfl fun _ F76 => ?_))))))))
       refine l_op (s_store S35.at' 3 TI_32 rfl rfl rfl rfl rfl (F76.ev 4 rfl) (F76.ev 36 rfl) rfl rfl rfl rfl rfl fun w77 S77 => ?_)
       have F78 : Fr 37 [(36, .agg #[.slice r0_slots_a_8 r0_slots_n_8 r0_slots_c_8, .string (fallJ d.journal keep).text, .int .i64 (fallJ d.journal keep).sure]), (4, .pointer (some ⟨b3, 0, none⟩))] _ := F76.cut rfl
       clear F41 F76
       have T79 : Mv _ _ [bx b3 [.slice r0_slots_a_8 r0_slots_n_8 r0_slots_c_8, .string (fallJ d.journal keep).text, .int .i64 (fallJ d.journal keep).sure] 32, bx b1 [.slice r0_slots_a_8 r0_slots_n_8 r0_slots_c_8, .string (fallJ d.journal keep).text, .int .i64 (fallJ d.journal keep).sure] 32, ow 99 3 encSlot okSlot (.slice r0_slots_a_8 r0_slots_n_8 r0_slots_c_8) D, gr inSlot D] _ := S77
       refine s_end (x_normal (wp_ret ?_))
       refine x_done (v := .agg #[.slice r0_slots_a_8 r0_slots_n_8 r0_slots_c_8, .string (fallJ d.journal keep).text, .int .i64 (fallJ d.journal keep).sure]) F78 (results_1 Try.results31 (.cell (F78.ev 4 rfl) (run_loadVar' TI_32 _ [.slice r0_slots_a_8 r0_slots_n_8 r0_slots_c_8, .string (fallJ d.journal keep).text, .int .i64 (fallJ d.journal keep).sure] rfl (fun h => nomatch h) (At.cells T79.at' 0 rfl 0 [.slice r0_slots_a_8 r0_slots_n_8 r0_slots_c_8, .string (fallJ d.journal keep).text, .int .i64 (fallJ d.journal keep).sure] rfl)))) ?_
       exact ⟨D, r0_slots_a_8, r0_slots_n_8, r0_slots_c_8, (by rw [(show (fallJ d.journal keep).text = (fallJo L d.journal keep).text from by first | rw [← (fall_t (keep := keep) (Eq.trans (by assumption) p0) (by assumption)).2]), (show (fallJ d.journal keep).sure = (fallJo L d.journal keep).sure from by first | rw [← (fall_t (keep := keep) (Eq.trans (by assumption) p0) (by assumption)).2])]), (Mv.pick (S1.trans (T6.trans (S8.trans (T12.trans (T18.trans (S27.trans (T32.trans (S35.trans T79)))))))) [2, 3] rfl), ((show (fallJ d.journal keep).text = (fallJo L d.journal keep).text from by first | rw [← (fall_t (keep := keep) (Eq.trans (by assumption) p0) (by assumption)).2]) ▸ ok_r0_text_27), (hk_1.trans (upM_end (by omega))).trans (fall_t (keep := keep) (Eq.trans (by assumption) p0) (by assumption)).1.symm, fallJo_i64 h_d_journal_sure⟩
end Go.Proofs.Ytgfilegkabbliaa
