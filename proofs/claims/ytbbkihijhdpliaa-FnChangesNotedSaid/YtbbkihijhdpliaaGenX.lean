/-
  Walks: spans.
-/
import Derived.Test.YtbbkihijhdpliaaDat6
import Derived.Test.YtbbkihijhdpliaaGenF
namespace Go.Proofs.Ytbbkihijhdpliaa
open Go.ChangeShapes Go.WideShapes Go.ChangeAt Go.RowKit
set_option maxRecDepth 100000
set_option maxHeartbeats 1000000
theorem spec_l03Open_c {w : World} {H : Nat → Prop} {span : ByteArray} (h_span : okS span) :
    Calls Try.prog 129 #[.string span] w fun e w' => e = .returned (.tuple #[.string (stemS span), .bool (openS span)]) ∧ Mv [] w [] w' ∧ okS (stemS span) := by
 have kz := h_span
 unfold okS at kz
 refine calls_enter 21 Try.func129 rfl Try.ntmps129 (Nat.le_of_ble_eq_true rfl) (fun _ F0i => ?_)
 have F0 : Fr 21 [(0, .string span)] _ := F0i
 clear F0i
 refine wp_seq (wp_region_lit (l_op (f_val F0 rfl rfl (r_assign rfl rfl) rfl fun _ F1 => ?_)))
 refine l_op (f_val F1 rfl rfl (r_assign rfl rfl) rfl fun _ F2 => ?_)
 have F3 : Fr 21 [(3, .bool false), (0, .string span)] _ := F2.cut rfl
 clear F0 F1 F2
 refine s_end (x_normal (wp_seq (wp_region_lit (l_op (f_mv F3 rfl rfl rfl rfl rfl fun _ F4 => ?_)))))
 refine l_op (f_val F4 rfl rfl (r_lenS (fun t ht => by cases ht; exact Try.underlying9) rfl rfl (F4.ev 5 rfl)) rfl fun _ F5 => ?_)
 refine l_op (f_as F5 rfl rfl rfl rfl rfl fun _ F6 => ?_)
 have F7 : Fr 21 [(4, .int .i64 ((span.size : Nat) : Int)), (0, .string span)] _ := F6.cut rfl
 clear F3 F4 F5 F6
 refine s_end (x_normal (wp_seq (wp_seq (wp_region_lit (l_op (f_mv F7 rfl rfl rfl rfl rfl fun _ F8 => ?_))))))
 refine l_op (f_val F8 rfl rfl (r_cmp (b := decide (span.size > 0)) (.inr (.inr (.inr (.inr (.inl rfl))))) rfl (F8.ev 7 rfl) rfl (dec_of (by omega))) rfl fun _ F9 => ?_)
 refine l_op (f_mv F9 rfl rfl rfl rfl rfl fun _ F10 => ?_)
 rcases Decidable.em (span.size > 0) with h11 | h11
 · rw [decide_eq_true h11] at F10
   refine l_op (f_mv F10 (wanted_g F10 rfl rfl rfl rfl) rfl rfl rfl rfl fun _ F12 => ?_)
   refine l_op (f_mv F12 (wanted_g F12 rfl rfl rfl rfl) rfl rfl rfl rfl fun _ F13 => ?_)
   refine l_op (f_val F13 (wanted_g F13 rfl rfl rfl rfl) rfl (r_sub (z := ((span.size - 1 : Nat) : Int)) rfl (F13.ev 11 rfl) rfl (by first | rfl | omega) ⟨by first | omega | (unfold i64ok at *; omega), by first | omega | (unfold i64ok at *; omega)⟩) rfl fun _ F14 => ?_)
   refine l_op (f_val F14 (wanted_g F14 rfl rfl rfl rfl) rfl (r_indexS (i := span.size - 1) Try.underlying9 rfl (F14.ev 10 rfl) (F14.ev 12 rfl) (by omega) (by first | assumption | omega)) rfl fun _ F15 => ?_)
   refine l_op (f_val F15 (wanted_g F15 rfl rfl rfl rfl) rfl (r_cmp (b := decide (byteAt span (span.size - 1) = 42)) (.inl rfl) rfl (F15.ev 13 rfl) rfl (dec_of (by omega))) rfl fun _ F16 => ?_)
   refine l_op (f_val F16 rfl rfl (r_pick (b := true) rfl (F16.ev 9 rfl) (F16.ev 14 rfl)) rfl fun _ F17 => ?_)
   have F18 : Fr 21 [(15, .bool (decide (byteAt span (span.size - 1) = 42))), (4, .int .i64 ((span.size : Nat) : Int)), (0, .string span)] _ := F17.cut rfl
   clear F7 F8 F9 F10 F12 F13 F14 F15 F16 F17
   refine s_end (x_normal (x_cond (p := byteAt span (span.size - 1) = 42) (F18.ev 15 rfl) (fun h19 => ?_) (fun h19 => ?_)))
   · skip
     refine wp_seq (wp_region_lit (l_op (f_mv F18 rfl rfl rfl rfl rfl fun _ F20 => ?_)))
     refine l_op (f_mv F20 rfl rfl rfl rfl rfl fun _ F21 => ?_)
     refine l_op (f_val F21 rfl rfl (r_sub (z := ((span.size - 1 : Nat) : Int)) rfl (F21.ev 17 rfl) rfl (by first | rfl | omega) ⟨by first | omega | (unfold i64ok at *; omega), by first | omega | (unfold i64ok at *; omega)⟩) rfl fun _ F22 => ?_)
     refine l_op (f_val F22 rfl rfl (r_sliceS (l := 0) (h := span.size - 1) Try.underlying9 rfl (F22.ev 16 rfl) rfl (F22.ev 18 rfl) (by first | assumption | omega) (by first | assumption | omega) rfl) rfl fun _ F23 => ?_)
     refine l_op (f_as F23 rfl rfl rfl rfl rfl fun _ F24 => ?_)
     refine l_op (f_val F24 rfl rfl (r_assign rfl rfl) rfl fun _ F25 => ?_)
     have F26 : Fr 21 [(3, .bool true), (2, .string (span.extract 0 (span.size - 1)))] _ := F25.cut rfl
     clear F18 F20 F21 F22 F23 F24 F25
     refine s_end (x_normal (wp_ret (x_then_ret ?_)))
     refine x_done (v := .tuple #[.string (span.extract 0 (span.size - 1)), .bool true]) F26 (results_2 Try.results129 (.tmp (F26.ev 2 rfl)) (.tmp (F26.ev 3 rfl))) ?_
     exact ⟨(by rw [(show (span.extract 0 (span.size - 1)) = (stemS span) from by first | exact (openS_t (by assumption) (by assumption)).symm | exact (openS_f1 (by assumption)).symm | exact (openS_f2 (by assumption)).symm | exact (stemS_t (openS_t (by assumption) (by assumption))).symm | exact (stemS_f (openS_f1 (by assumption))).symm | exact (stemS_f (openS_f2 (by assumption))).symm), (show true = (openS span) from by first | exact (openS_t (by assumption) (by assumption)).symm | exact (openS_f1 (by assumption)).symm | exact (openS_f2 (by assumption)).symm | exact (stemS_t (openS_t (by assumption) (by assumption))).symm | exact (stemS_f (openS_f1 (by assumption))).symm | exact (stemS_f (openS_f2 (by assumption))).symm)]), (Mv.pick (Mv.refl (At.nil w)) [] rfl), ((show (span.extract 0 (span.size - 1)) = (stemS span) from by first | exact (openS_t (by assumption) (by assumption)).symm | exact (openS_f1 (by assumption)).symm | exact (openS_f2 (by assumption)).symm | exact (stemS_t (openS_t (by assumption) (by assumption))).symm | exact (stemS_f (openS_f1 (by assumption))).symm | exact (stemS_f (openS_f2 (by assumption))).symm) ▸ (okS_ext h_span))⟩
   · skip
     refine wp_skip (x_normal (wp_seq (wp_region_lit (l_op (f_mv F18 rfl rfl rfl rfl rfl fun _ F27 => ?_)))))
     refine l_op (f_as F27 rfl rfl rfl rfl rfl fun _ F28 => ?_)
     refine l_op (f_val F28 rfl rfl (r_assign rfl rfl) rfl fun _ F29 => ?_)
     have F30 : Fr 21 [(3, .bool false), (2, .string span)] _ := F29.cut rfl
     clear F18 F27 F28 F29
     refine s_end (x_normal (wp_ret ?_))
     refine x_done (v := .tuple #[.string span, .bool false]) F30 (results_2 Try.results129 (.tmp (F30.ev 2 rfl)) (.tmp (F30.ev 3 rfl))) ?_
     exact ⟨(by rw [← (show span = (stemS span) from by first | exact (openS_t (by assumption) (by assumption)).symm | exact (openS_f1 (by assumption)).symm | exact (openS_f2 (by assumption)).symm | exact (stemS_t (openS_t (by assumption) (by assumption))).symm | exact (stemS_f (openS_f1 (by assumption))).symm | exact (stemS_f (openS_f2 (by assumption))).symm), (show false = (openS span) from by first | exact (openS_t (by assumption) (by assumption)).symm | exact (openS_f1 (by assumption)).symm | exact (openS_f2 (by assumption)).symm | exact (stemS_t (openS_t (by assumption) (by assumption))).symm | exact (stemS_f (openS_f1 (by assumption))).symm | exact (stemS_f (openS_f2 (by assumption))).symm)]), (Mv.pick (Mv.refl (At.nil w)) [] rfl), ((show span = (stemS span) from by first | exact (openS_t (by assumption) (by assumption)).symm | exact (openS_f1 (by assumption)).symm | exact (openS_f2 (by assumption)).symm | exact (stemS_t (openS_t (by assumption) (by assumption))).symm | exact (stemS_f (openS_f1 (by assumption))).symm | exact (stemS_f (openS_f2 (by assumption))).symm) ▸ h_span)⟩
 · rw [decide_eq_false h11] at F10
   refine l_op (f_skip F10 (wanted_g F10 rfl rfl rfl rfl) rfl rfl fun _ F31 => ?_)
   refine l_op (f_skip F31 (wanted_g F31 rfl rfl rfl rfl) rfl rfl fun _ F32 => ?_)
   refine l_op (f_skip F32 (wanted_g F32 rfl rfl rfl rfl) rfl rfl fun _ F33 => ?_)
   refine l_op (f_skip F33 (wanted_g F33 rfl rfl rfl rfl) rfl rfl fun _ F34 => ?_)
   refine l_op (f_skip F34 (wanted_g F34 rfl rfl rfl rfl) rfl rfl fun _ F35 => ?_)
   refine l_op (f_val F35 rfl rfl (r_pick (b := false) rfl (F35.ev 9 rfl) rfl) rfl fun _ F36 => ?_)
   have F37 : Fr 21 [(15, .bool false), (4, .int .i64 ((span.size : Nat) : Int)), (0, .string span)] _ := F36.cut rfl
   clear F7 F8 F9 F10 F31 F32 F33 F34 F35 F36
   refine s_end (x_normal (wp_cond_false (F37.ev 15 rfl) (wp_skip (x_normal (wp_seq (wp_region_lit (l_op (f_mv F37 rfl rfl rfl rfl rfl fun _ F38 => ?_))))))))
   refine l_op (f_as F38 rfl rfl rfl rfl rfl fun _ F39 => ?_)
   refine l_op (f_val F39 rfl rfl (r_assign rfl rfl) rfl fun _ F40 => ?_)
   have F41 : Fr 21 [(3, .bool false), (2, .string span)] _ := F40.cut rfl
   clear F37 F38 F39 F40
   refine s_end (x_normal (wp_ret ?_))
   refine x_done (v := .tuple #[.string span, .bool false]) F41 (results_2 Try.results129 (.tmp (F41.ev 2 rfl)) (.tmp (F41.ev 3 rfl))) ?_
   exact ⟨(by rw [← (show span = (stemS span) from by first | exact (openS_t (by assumption) (by assumption)).symm | exact (openS_f1 (by assumption)).symm | exact (openS_f2 (by assumption)).symm | exact (stemS_t (openS_t (by assumption) (by assumption))).symm | exact (stemS_f (openS_f1 (by assumption))).symm | exact (stemS_f (openS_f2 (by assumption))).symm), (show false = (openS span) from by first | exact (openS_t (by assumption) (by assumption)).symm | exact (openS_f1 (by assumption)).symm | exact (openS_f2 (by assumption)).symm | exact (stemS_t (openS_t (by assumption) (by assumption))).symm | exact (stemS_f (openS_f1 (by assumption))).symm | exact (stemS_f (openS_f2 (by assumption))).symm)]), (Mv.pick (Mv.refl (At.nil w)) [] rfl), ((show span = (stemS span) from by first | exact (openS_t (by assumption) (by assumption)).symm | exact (openS_f1 (by assumption)).symm | exact (openS_f2 (by assumption)).symm | exact (stemS_t (openS_t (by assumption) (by assumption))).symm | exact (stemS_f (openS_f1 (by assumption))).symm | exact (stemS_f (openS_f2 (by assumption))).symm) ▸ h_span)⟩
theorem spec_SpanHas_c {w : World} {H : Nat → Prop} {span : ByteArray} {key : ByteArray} (h_span : okS span) (h_key : okS key) :
    Calls Try.prog 88 #[.string span, .string key] w fun e w' => e = .returned (.bool (spanHas span key)) ∧ Mv [] w [] w' := by
 refine calls_enter 19 Try.func88 rfl Try.ntmps88 (Nat.le_of_ble_eq_true rfl) (fun _ F0i => ?_)
 have F0 : Fr 19 [(0, .string span), (1, .string key)] _ := F0i
 clear F0i
 refine wp_seq (wp_region_lit (l_op (f_val F0 rfl rfl (r_assign rfl rfl) rfl fun _ F1 => ?_)))
 have F2 : Fr 19 [(4, .bool false), (0, .string span), (1, .string key)] _ := F1.cut rfl
 clear F0 F1
 refine s_end (x_normal (wp_seq (wp_region_lit (l_op (f_mv F2 rfl rfl rfl rfl rfl fun _ F3 => ?_)))))
 refine l_op (f_call F3 CF_129 rfl rfl rfl rfl (lc (F3.ev 8 rfl) rfl) (spec_l03Open_c (H := fun _ => True) (span := span) h_span) ?_)
 rintro _ w4 ⟨rfl, m4, ok_r0_4⟩
 refine ⟨_, rfl, fun _ F5 => ?_⟩
 have S4 := At.frame0 (At.nil w) m4
 clear m4
 refine l_op (f_mv F5 rfl rfl rfl rfl rfl fun _ F6 => ?_)
 refine l_op (f_val (v := .string (stemS span)) F6 rfl rfl (r_extract rfl (F6.ev 7 rfl) rfl) rfl fun _ F7 => ?_)
 refine l_op (f_val (v := .bool (openS span)) F7 rfl rfl (r_extract rfl (F7.ev 7 rfl) rfl) rfl fun _ F8 => ?_)
 refine l_op (f_as F8 rfl rfl rfl rfl rfl fun _ F9 => ?_)
 refine l_op (f_as F9 rfl rfl rfl rfl rfl fun _ F10 => ?_)
 have F11 : Fr 19 [(6, .bool (openS span)), (5, .string (stemS span)), (0, .string span), (1, .string key)] _ := F10.cut rfl
 clear F2 F3 F5 F6 F7 F8 F9 F10
 have T12 : Mv _ _ [] _ := S4
 refine s_end (x_normal (wp_seq (wp_seq (wp_region_lit (l_op (f_mv F11 rfl rfl rfl rfl rfl fun _ F13 => ?_))))))
 have F14 : Fr 19 [(12, .bool (openS span)), (5, .string (stemS span)), (0, .string span), (1, .string key)] _ := F13.cut rfl
 clear F11 F13
 refine s_end (x_normal (x_condb (b := (openS span)) (F14.ev 12 rfl) (fun h15 => ?_) (fun h15 => ?_)))
 · skip
   refine wp_seq (wp_region_lit (l_op (f_mv F14 rfl rfl rfl rfl rfl fun _ F16 => ?_)))
   refine l_op (f_mv F16 rfl rfl rfl rfl rfl fun _ F17 => ?_)
   refine l_op (f_call F17 CF_108 rfl rfl rfl rfl (lc (F17.ev 13 rfl) (lc (F17.ev 14 rfl) rfl)) (spec_l02Begins_c (H := fun _ => True) (s := key) (pfx := stemS span) h_key ok_r0_4) ?_)
   rintro _ w18 ⟨rfl, m18⟩
   refine ⟨_, rfl, fun _ F19 => ?_⟩
   have S18 := At.frame0 T12.at' m18
   clear m18
   refine l_op (f_as F19 rfl rfl rfl rfl rfl fun _ F20 => ?_)
   have F21 : Fr 19 [(4, .bool (begins key (stemS span)))] _ := F20.cut rfl
   clear F14 F16 F17 F19 F20
   have T22 : Mv _ _ [] _ := S18
   refine s_end (x_normal (wp_ret (x_then_ret ?_)))
   refine x_done (v := .bool (begins key (stemS span))) F21 (results_1 Try.results88 (.tmp (F21.ev 4 rfl))) ?_
   exact ⟨(by rw [(show (begins key (stemS span)) = (spanHas span key) from by first | exact (spanHas_t (by assumption)).symm | exact (spanHas_f (by assumption)).symm)]), (Mv.pick (T12.trans T22) [] rfl)⟩
 · skip
   refine wp_skip (x_normal (wp_seq (wp_region_lit (l_op (f_mv F14 rfl rfl rfl rfl rfl fun _ F23 => ?_)))))
   refine l_op (f_mv F23 rfl rfl rfl rfl rfl fun _ F24 => ?_)
   refine l_op (f_val F24 rfl rfl (r_cmps (b := (decide (span = key))) (.inl rfl) rfl (F24.ev 16 rfl) (F24.ev 17 rfl) rfl) rfl fun _ F25 => ?_)
   refine l_op (f_as F25 rfl rfl rfl rfl rfl fun _ F26 => ?_)
   have F27 : Fr 19 [(4, .bool (decide (span = key)))] _ := F26.cut rfl
   clear F14 F23 F24 F25 F26
   refine s_end (x_normal (wp_ret ?_))
   refine x_done (v := .bool (decide (span = key))) F27 (results_1 Try.results88 (.tmp (F27.ev 4 rfl))) ?_
   exact ⟨(by rw [(show (decide (span = key)) = (spanHas span key) from by first | exact (spanHas_t (by assumption)).symm | exact (spanHas_f (by assumption)).symm)]), (Mv.pick T12 [] rfl)⟩
end Go.Proofs.Ytbbkihijhdpliaa
