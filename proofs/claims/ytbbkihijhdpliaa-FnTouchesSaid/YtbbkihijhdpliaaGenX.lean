/-
  Walks: spans.
-/
import Derived.Test.YtbbkihijhdpliaaDat6
import Derived.Test.YtbbkihijhdpliaaGenF
namespace Go.Proofs.Ytbbkihijhdpliaa
open Go.ChangeShapes Go.WideShapes Go.ChangeAt Go.RowKit
set_option maxRecDepth 100000
set_option maxHeartbeats 1000000
theorem internal_stringslite_HasSuffix_c {w : World} {H : Nat → Prop} {s : ByteArray} {suffix : ByteArray} (h_s : okS s) (h_suffix : okS suffix) :
    Calls Try.prog 154 #[.string s, .string suffix] w fun e w' => e = .returned (.bool (hasSuf s suffix)) ∧ Mv [] w [] w' := by
 have kz := h_s
 unfold okS at kz
 refine calls_enter 21 Try.func154 rfl Try.ntmps154 (Nat.le_of_ble_eq_true rfl) (fun _ F0i => ?_)
 have F0 : Fr 21 [(0, .string s), (1, .string suffix)] _ := F0i
 clear F0i
 refine wp_seq (wp_region_lit (l_op (f_val F0 rfl rfl (r_assign rfl rfl) rfl fun _ F1 => ?_)))
 have F2 : Fr 21 [(4, .bool false), (0, .string s), (1, .string suffix)] _ := F1.cut rfl
 clear F0 F1
 refine s_end (x_normal (wp_seq (wp_region_lit (l_op (f_mv F2 rfl rfl rfl rfl rfl fun _ F3 => ?_)))))
 refine l_op (f_val F3 rfl rfl (r_lenS (fun t ht => by cases ht; exact Try.underlying9) rfl rfl (F3.ev 5 rfl)) rfl fun _ F4 => ?_)
 refine l_op (f_mv F4 rfl rfl rfl rfl rfl fun _ F5 => ?_)
 refine l_op (f_val F5 rfl rfl (r_lenS (fun t ht => by cases ht; exact Try.underlying9) rfl rfl (F5.ev 7 rfl)) rfl fun _ F6 => ?_)
 refine l_op (f_val F6 rfl rfl (r_cmp (b := decide (s.size ≥ suffix.size)) (.inr (.inr (.inr (.inr (.inr rfl))))) rfl (F6.ev 6 rfl) (F6.ev 8 rfl) (dec_of (by omega))) rfl fun _ F7 => ?_)
 refine l_op (f_mv F7 rfl rfl rfl rfl rfl fun _ F8 => ?_)
 rcases Decidable.em (s.size ≥ suffix.size) with h9 | h9
 · rw [decide_eq_true h9] at F8
   refine l_op (f_mv F8 (wanted_g F8 rfl rfl rfl rfl) rfl rfl rfl rfl fun _ F10 => ?_)
   refine l_op (f_mv F10 (wanted_g F10 rfl rfl rfl rfl) rfl rfl rfl rfl fun _ F11 => ?_)
   refine l_op (f_val F11 (wanted_g F11 rfl rfl rfl rfl) rfl (r_lenS (fun t ht => by cases ht; exact Try.underlying9) rfl rfl (F11.ev 12 rfl)) rfl fun _ F12 => ?_)
   refine l_op (f_mv F12 (wanted_g F12 rfl rfl rfl rfl) rfl rfl rfl rfl fun _ F13 => ?_)
   refine l_op (f_val F13 (wanted_g F13 rfl rfl rfl rfl) rfl (r_lenS (fun t ht => by cases ht; exact Try.underlying9) rfl rfl (F13.ev 14 rfl)) rfl fun _ F14 => ?_)
   refine l_op (f_val F14 (wanted_g F14 rfl rfl rfl rfl) rfl (r_sub (z := ((s.size - suffix.size : Nat) : Int)) rfl (F14.ev 13 rfl) (F14.ev 15 rfl) (by first | rfl | omega) ⟨by first | omega | (unfold i64ok at *; omega), by first | omega | (unfold i64ok at *; omega)⟩) rfl fun _ F15 => ?_)
   refine l_op (f_val F15 (wanted_g F15 rfl rfl rfl rfl) rfl (r_sliceS (l := s.size - suffix.size) (h := s.size) Try.underlying9 rfl (F15.ev 11 rfl) (F15.ev 16 rfl) rfl (by first | assumption | omega) (by first | assumption | omega) rfl) rfl fun _ F16 => ?_)
   refine l_op (f_mv F16 (wanted_g F16 rfl rfl rfl rfl) rfl rfl rfl rfl fun _ F17 => ?_)
   refine l_op (f_val F17 (wanted_g F17 rfl rfl rfl rfl) rfl (r_cmps (b := (decide ((s.extract (s.size - suffix.size) s.size) = suffix))) (.inl rfl) rfl (F17.ev 17 rfl) (F17.ev 18 rfl) rfl) rfl fun _ F18 => ?_)
   refine l_op (f_val F18 rfl rfl (r_pick (b := true) rfl (F18.ev 10 rfl) (F18.ev 19 rfl)) rfl fun _ F19 => ?_)
   refine l_op (f_as F19 rfl rfl rfl rfl rfl fun _ F20 => ?_)
   have F21 : Fr 21 [(4, .bool (decide ((s.extract (s.size - suffix.size) s.size) = suffix)))] _ := F20.cut rfl
   clear F2 F3 F4 F5 F6 F7 F8 F10 F11 F12 F13 F14 F15 F16 F17 F18 F19 F20
   refine s_end (x_normal (wp_ret ?_))
   refine x_done (v := .bool (decide ((s.extract (s.size - suffix.size) s.size) = suffix))) F21 (results_1 Try.results154 (.tmp (F21.ev 4 rfl))) ?_
   exact ⟨(by rw [(show (decide ((s.extract (s.size - suffix.size) s.size) = suffix)) = (hasSuf s suffix) from by unfold hasSuf; by_cases hb : suffix.size ≤ s.size <;> simp_all <;> omega)]), (Mv.pick (Mv.refl (At.nil w)) [] rfl)⟩
 · rw [decide_eq_false h9] at F8
   refine l_op (f_skip F8 (wanted_g F8 rfl rfl rfl rfl) rfl rfl fun _ F22 => ?_)
   refine l_op (f_skip F22 (wanted_g F22 rfl rfl rfl rfl) rfl rfl fun _ F23 => ?_)
   refine l_op (f_skip F23 (wanted_g F23 rfl rfl rfl rfl) rfl rfl fun _ F24 => ?_)
   refine l_op (f_skip F24 (wanted_g F24 rfl rfl rfl rfl) rfl rfl fun _ F25 => ?_)
   refine l_op (f_skip F25 (wanted_g F25 rfl rfl rfl rfl) rfl rfl fun _ F26 => ?_)
   refine l_op (f_skip F26 (wanted_g F26 rfl rfl rfl rfl) rfl rfl fun _ F27 => ?_)
   refine l_op (f_skip F27 (wanted_g F27 rfl rfl rfl rfl) rfl rfl fun _ F28 => ?_)
   refine l_op (f_skip F28 (wanted_g F28 rfl rfl rfl rfl) rfl rfl fun _ F29 => ?_)
   refine l_op (f_skip F29 (wanted_g F29 rfl rfl rfl rfl) rfl rfl fun _ F30 => ?_)
   refine l_op (f_val F30 rfl rfl (r_pick (b := false) rfl (F30.ev 10 rfl) rfl) rfl fun _ F31 => ?_)
   refine l_op (f_as F31 rfl rfl rfl rfl rfl fun _ F32 => ?_)
   have F33 : Fr 21 [(4, .bool false)] _ := F32.cut rfl
   clear F2 F3 F4 F5 F6 F7 F8 F22 F23 F24 F25 F26 F27 F28 F29 F30 F31 F32
   refine s_end (x_normal (wp_ret ?_))
   refine x_done (v := .bool false) F33 (results_1 Try.results154 (.tmp (F33.ev 4 rfl))) ?_
   exact ⟨(by rw [(show false = (hasSuf s suffix) from by unfold hasSuf; by_cases hb : suffix.size ≤ s.size <;> simp_all <;> omega)]), (Mv.pick (Mv.refl (At.nil w)) [] rfl)⟩
theorem internal_stringslite_CutSuffix_c {w : World} {H : Nat → Prop} {s : ByteArray} {suffix : ByteArray} (h_s : okS s) (h_suffix : okS suffix) :
    Calls Try.prog 144 #[.string s, .string suffix] w fun e w' => e = .returned (.tuple #[.string (cutSuf s suffix), .bool (hasSuf s suffix)]) ∧ Mv [] w [] w' ∧ okS (cutSuf s suffix) := by
 have kz := h_s
 unfold okS at kz
 refine calls_enter 18 Try.func144 rfl Try.ntmps144 (Nat.le_of_ble_eq_true rfl) (fun _ F0i => ?_)
 have F0 : Fr 18 [(0, .string s), (1, .string suffix)] _ := F0i
 clear F0i
 refine wp_seq (wp_region_lit (l_op (f_val F0 rfl rfl (r_assign rfl rfl) rfl fun _ F1 => ?_)))
 refine l_op (f_val F1 rfl rfl (r_assign rfl rfl) rfl fun _ F2 => ?_)
 have F3 : Fr 18 [(5, .bool false), (0, .string s), (1, .string suffix)] _ := F2.cut rfl
 clear F0 F1 F2
 refine s_end (x_normal (wp_seq (wp_seq (wp_region_lit (l_op (f_mv F3 rfl rfl rfl rfl rfl fun _ F4 => ?_))))))
 refine l_op (f_mv F4 rfl rfl rfl rfl rfl fun _ F5 => ?_)
 refine l_op (f_call F5 CF_154 rfl rfl rfl rfl (lc (F5.ev 6 rfl) (lc (F5.ev 7 rfl) rfl)) (internal_stringslite_HasSuffix_c (H := fun _ => True) (s := s) (suffix := suffix) h_s h_suffix) ?_)
 rintro _ w6 ⟨rfl, m6⟩
 refine ⟨_, rfl, fun _ F7 => ?_⟩
 have S6 := At.frame0 (At.nil w) m6
 clear m6
 refine l_op (f_val F7 rfl rfl (r_not rfl (F7.ev 8 rfl)) rfl fun _ F8 => ?_)
 have F9 : Fr 18 [(9, .bool (!(hasSuf s suffix))), (0, .string s), (1, .string suffix)] _ := F8.cut rfl
 clear F3 F4 F5 F7 F8
 have T10 : Mv _ _ [] _ := S6
 refine s_end (x_normal (x_condb (b := (!(hasSuf s suffix))) (F9.ev 9 rfl) (fun h11 => ?_) (fun h11 => ?_)))
 · skip
   refine wp_seq (wp_region_lit (l_op (f_mv F9 rfl rfl rfl rfl rfl fun _ F12 => ?_)))
   refine l_op (f_as F12 rfl rfl rfl rfl rfl fun _ F13 => ?_)
   refine l_op (f_val F13 rfl rfl (r_assign rfl rfl) rfl fun _ F14 => ?_)
   have F15 : Fr 18 [(5, .bool false), (4, .string s)] _ := F14.cut rfl
   clear F9 F12 F13 F14
   refine s_end (x_normal (wp_ret (x_then_ret ?_)))
   refine x_done (v := .tuple #[.string s, .bool false]) F15 (results_2 Try.results144 (.tmp (F15.ev 4 rfl)) (.tmp (F15.ev 5 rfl))) ?_
   exact ⟨(by rw [← (show s = (cutSuf s suffix) from by first | exact (nt (by assumption)).symm | exact (nf (by assumption)).symm | exact (cutSuf_no (nt (by assumption))).symm | exact (cutSuf_yes (nf (by assumption))).symm), (show false = (hasSuf s suffix) from by first | exact (nt (by assumption)).symm | exact (nf (by assumption)).symm | exact (cutSuf_no (nt (by assumption))).symm | exact (cutSuf_yes (nf (by assumption))).symm)]), (Mv.pick T10 [] rfl), ((show s = (cutSuf s suffix) from by first | exact (nt (by assumption)).symm | exact (nf (by assumption)).symm | exact (cutSuf_no (nt (by assumption))).symm | exact (cutSuf_yes (nf (by assumption))).symm) ▸ h_s)⟩
 · skip
   refine wp_skip (x_normal (wp_seq ?_))
   have hle := hasSuf_le (nf (by assumption))
   refine wp_region_lit (l_op (f_mv F9 rfl rfl rfl rfl rfl fun _ F16 => ?_))
   refine l_op (f_mv F16 rfl rfl rfl rfl rfl fun _ F17 => ?_)
   refine l_op (f_val F17 rfl rfl (r_lenS (fun t ht => by cases ht; exact Try.underlying9) rfl rfl (F17.ev 12 rfl)) rfl fun _ F18 => ?_)
   refine l_op (f_mv F18 rfl rfl rfl rfl rfl fun _ F19 => ?_)
   refine l_op (f_val F19 rfl rfl (r_lenS (fun t ht => by cases ht; exact Try.underlying9) rfl rfl (F19.ev 14 rfl)) rfl fun _ F20 => ?_)
   refine l_op (f_val F20 rfl rfl (r_sub (z := ((s.size - suffix.size : Nat) : Int)) rfl (F20.ev 13 rfl) (F20.ev 15 rfl) (by first | rfl | omega) ⟨by first | omega | (unfold i64ok at *; omega), by first | omega | (unfold i64ok at *; omega)⟩) rfl fun _ F21 => ?_)
   refine l_op (f_val F21 rfl rfl (r_sliceS (l := 0) (h := s.size - suffix.size) Try.underlying9 rfl (F21.ev 11 rfl) rfl (F21.ev 16 rfl) (by first | assumption | omega) (by first | assumption | omega) rfl) rfl fun _ F22 => ?_)
   refine l_op (f_as F22 rfl rfl rfl rfl rfl fun _ F23 => ?_)
   refine l_op (f_val F23 rfl rfl (r_assign rfl rfl) rfl fun _ F24 => ?_)
   have F25 : Fr 18 [(5, .bool true), (4, .string (s.extract 0 (s.size - suffix.size)))] _ := F24.cut rfl
   clear F9 F16 F17 F18 F19 F20 F21 F22 F23 F24
   refine s_end (x_normal (wp_ret ?_))
   refine x_done (v := .tuple #[.string (s.extract 0 (s.size - suffix.size)), .bool true]) F25 (results_2 Try.results144 (.tmp (F25.ev 4 rfl)) (.tmp (F25.ev 5 rfl))) ?_
   exact ⟨(by rw [(show (s.extract 0 (s.size - suffix.size)) = (cutSuf s suffix) from by first | exact (nt (by assumption)).symm | exact (nf (by assumption)).symm | exact (cutSuf_no (nt (by assumption))).symm | exact (cutSuf_yes (nf (by assumption))).symm), (show true = (hasSuf s suffix) from by first | exact (nt (by assumption)).symm | exact (nf (by assumption)).symm | exact (cutSuf_no (nt (by assumption))).symm | exact (cutSuf_yes (nf (by assumption))).symm)]), (Mv.pick T10 [] rfl), ((show (s.extract 0 (s.size - suffix.size)) = (cutSuf s suffix) from by first | exact (nt (by assumption)).symm | exact (nf (by assumption)).symm | exact (cutSuf_no (nt (by assumption))).symm | exact (cutSuf_yes (nf (by assumption))).symm) ▸ (okS_ext h_s))⟩
theorem strings_CutSuffix_c {w : World} {H : Nat → Prop} {s : ByteArray} {suffix : ByteArray} (h_s : okS s) (h_suffix : okS suffix) :
    Calls Try.prog 126 #[.string s, .string suffix] w fun e w' => e = .returned (.tuple #[.string (cutSuf s suffix), .bool (hasSuf s suffix)]) ∧ Mv [] w [] w' ∧ okS (cutSuf s suffix) := by
 refine calls_enter 11 Try.func126 rfl Try.ntmps126 (Nat.le_of_ble_eq_true rfl) (fun _ F0i => ?_)
 have F0 : Fr 11 [(0, .string s), (1, .string suffix)] _ := F0i
 clear F0i
 refine wp_seq (wp_region_lit (l_op (f_val F0 rfl rfl (r_assign rfl rfl) rfl fun _ F1 => ?_)))
 refine l_op (f_val F1 rfl rfl (r_assign rfl rfl) rfl fun _ F2 => ?_)
 have F3 : Fr 11 [(5, .bool false), (0, .string s), (1, .string suffix)] _ := F2.cut rfl
 clear F0 F1 F2
 refine s_end (x_normal (wp_seq (wp_region_lit (l_op (f_mv F3 rfl rfl rfl rfl rfl fun _ F4 => ?_)))))
 refine l_op (f_mv F4 rfl rfl rfl rfl rfl fun _ F5 => ?_)
 refine l_op (f_call F5 CF_144 rfl rfl rfl rfl (lc (F5.ev 6 rfl) (lc (F5.ev 7 rfl) rfl)) (internal_stringslite_CutSuffix_c (H := fun _ => True) (s := s) (suffix := suffix) h_s h_suffix) ?_)
 rintro _ w6 ⟨rfl, m6, ok_r0_6⟩
 refine ⟨_, rfl, fun _ F7 => ?_⟩
 have S6 := At.frame0 (At.nil w) m6
 clear m6
 refine l_op (f_val (v := .string (cutSuf s suffix)) F7 rfl rfl (r_extract rfl (F7.ev 8 rfl) rfl) rfl fun _ F8 => ?_)
 refine l_op (f_val (v := .bool (hasSuf s suffix)) F8 rfl rfl (r_extract rfl (F8.ev 8 rfl) rfl) rfl fun _ F9 => ?_)
 refine l_op (f_as F9 rfl rfl rfl rfl rfl fun _ F10 => ?_)
 refine l_op (f_as F10 rfl rfl rfl rfl rfl fun _ F11 => ?_)
 have F12 : Fr 11 [(5, .bool (hasSuf s suffix)), (4, .string (cutSuf s suffix))] _ := F11.cut rfl
 clear F3 F4 F5 F7 F8 F9 F10 F11
 have T13 : Mv _ _ [] _ := S6
 refine s_end (x_normal (wp_ret ?_))
 refine x_done (v := .tuple #[.string (cutSuf s suffix), .bool (hasSuf s suffix)]) F12 (results_2 Try.results126 (.tmp (F12.ev 4 rfl)) (.tmp (F12.ev 5 rfl))) ?_
 exact ⟨rfl, (Mv.pick T13 [] rfl), ok_r0_6⟩
theorem impl_SpanHas_c {w : World} {H : Nat → Prop} {span : ByteArray} {key : ByteArray} (h_span : okS span) (h_key : okS key) :
    Calls Try.prog 128 #[.string span, .string key] w fun e w' => e = .returned (.bool (spanHas span key)) ∧ Mv [] w [] w' := by
 refine calls_enter 19 Try.func128 rfl Try.ntmps128 (Nat.le_of_ble_eq_true rfl) (fun _ F0i => ?_)
 have F0 : Fr 19 [(0, .string span), (1, .string key)] _ := F0i
 clear F0i
 refine wp_seq (wp_region_lit (l_op (f_val F0 rfl rfl (r_assign rfl rfl) rfl fun _ F1 => ?_)))
 have F2 : Fr 19 [(4, .bool false), (0, .string span), (1, .string key)] _ := F1.cut rfl
 clear F0 F1
 refine s_end (x_normal (wp_seq (wp_seq (wp_region_lit (l_op (f_mv F2 rfl rfl rfl rfl rfl fun _ F3 => ?_))))))
 refine l_op (f_call F3 CF_126 rfl rfl rfl rfl (lc (F3.ev 8 rfl) (lc rfl rfl)) (strings_CutSuffix_c (H := fun _ => True) (s := span) (suffix := (⟨#[42]⟩ : ByteArray)) h_span (by unfold okS; decide)) ?_)
 rintro _ w4 ⟨rfl, m4, ok_r0_4⟩
 refine ⟨_, rfl, fun _ F5 => ?_⟩
 have S4 := At.frame0 (At.nil w) m4
 clear m4
 refine l_op (f_mv F5 rfl rfl rfl rfl rfl fun _ F6 => ?_)
 refine l_op (f_val (v := .string (cutSuf span (⟨#[42]⟩ : ByteArray))) F6 rfl rfl (r_extract rfl (F6.ev 7 rfl) rfl) rfl fun _ F7 => ?_)
 refine l_op (f_val (v := .bool (hasSuf span (⟨#[42]⟩ : ByteArray))) F7 rfl rfl (r_extract rfl (F7.ev 7 rfl) rfl) rfl fun _ F8 => ?_)
 refine l_op (f_as F8 rfl rfl rfl rfl rfl fun _ F9 => ?_)
 refine l_op (f_as F9 rfl rfl rfl rfl rfl fun _ F10 => ?_)
 have F11 : Fr 19 [(6, .bool (hasSuf span (⟨#[42]⟩ : ByteArray))), (5, .string (cutSuf span (⟨#[42]⟩ : ByteArray))), (0, .string span), (1, .string key)] _ := F10.cut rfl
 clear F2 F3 F5 F6 F7 F8 F9 F10
 have T12 : Mv _ _ [] _ := S4
 refine s_end (x_normal (wp_seq (wp_region_lit (l_op (f_mv F11 rfl rfl rfl rfl rfl fun _ F13 => ?_)))))
 have F14 : Fr 19 [(12, .bool (hasSuf span (⟨#[42]⟩ : ByteArray))), (5, .string (cutSuf span (⟨#[42]⟩ : ByteArray))), (0, .string span), (1, .string key)] _ := F13.cut rfl
 clear F11 F13
 refine s_end (x_normal (x_condb (b := (hasSuf span (⟨#[42]⟩ : ByteArray))) (F14.ev 12 rfl) (fun h15 => ?_) (fun h15 => ?_)))
 · skip
   refine wp_seq (wp_region_lit (l_op (f_mv F14 rfl rfl rfl rfl rfl fun _ F16 => ?_)))
   refine l_op (f_mv F16 rfl rfl rfl rfl rfl fun _ F17 => ?_)
   refine l_op (f_call F17 CF_127 rfl rfl rfl rfl (lc (F17.ev 13 rfl) (lc (F17.ev 14 rfl) rfl)) (strings_HasPrefix_c (H := fun _ => True) (s := key) (pfx := cutSuf span (⟨#[42]⟩ : ByteArray)) h_key ok_r0_4) ?_)
   rintro _ w18 ⟨rfl, m18⟩
   refine ⟨_, rfl, fun _ F19 => ?_⟩
   have S18 := At.frame0 T12.at' m18
   clear m18
   refine l_op (f_as F19 rfl rfl rfl rfl rfl fun _ F20 => ?_)
   have F21 : Fr 19 [(4, .bool (begins key (cutSuf span (⟨#[42]⟩ : ByteArray))))] _ := F20.cut rfl
   clear F14 F16 F17 F19 F20
   have T22 : Mv _ _ [] _ := S18
   refine s_end (x_normal (wp_ret (x_then_ret ?_)))
   refine x_done (v := .bool (begins key (cutSuf span (⟨#[42]⟩ : ByteArray)))) F21 (results_1 Try.results128 (.tmp (F21.ev 4 rfl))) ?_
   exact ⟨(by rw [(show (begins key (cutSuf span (⟨#[42]⟩ : ByteArray))) = (spanHas span key) from by first | exact (spanHas_t (by assumption)).symm | exact (spanHas_f (by assumption)).symm)]), (Mv.pick (T12.trans T22) [] rfl)⟩
 · skip
   refine wp_skip (x_normal (wp_seq (wp_region_lit (l_op (f_mv F14 rfl rfl rfl rfl rfl fun _ F23 => ?_)))))
   refine l_op (f_mv F23 rfl rfl rfl rfl rfl fun _ F24 => ?_)
   refine l_op (f_val F24 rfl rfl (r_cmps (b := (decide (span = key))) (.inl rfl) rfl (F24.ev 16 rfl) (F24.ev 17 rfl) rfl) rfl fun _ F25 => ?_)
   refine l_op (f_as F25 rfl rfl rfl rfl rfl fun _ F26 => ?_)
   have F27 : Fr 19 [(4, .bool (decide (span = key)))] _ := F26.cut rfl
   clear F14 F23 F24 F25 F26
   refine s_end (x_normal (wp_ret ?_))
   refine x_done (v := .bool (decide (span = key))) F27 (results_1 Try.results128 (.tmp (F27.ev 4 rfl))) ?_
   exact ⟨(by rw [(show (decide (span = key)) = (spanHas span key) from by first | exact (spanHas_t (by assumption)).symm | exact (spanHas_f (by assumption)).symm)]), (Mv.pick T12 [] rfl)⟩
theorem spec_l03Open_c {w : World} {H : Nat → Prop} {span : ByteArray} (h_span : okS span) :
    Calls Try.prog 129 #[.string span] w fun e w' => e = .returned (.tuple #[.string (stemS span), .bool (openS span)]) ∧ Mv [] w [] w' ∧ okS (stemS span) := by
 have kz := h_span
 unfold okS at kz
 refine calls_enter 21 Try.func129 rfl Try.ntmps129 (Nat.le_of_ble_eq_true rfl) (fun _ F0i => ?_)
 have F0 : Fr 21 [(0, .string span)] _ := F0i
 clear F0i
 refine wp_seq (wp_region_lit (l_op (f_val F0 rfl rfl (r_assign rfl rfl) rfl fun _ F1 => ?_)))
 refine l_op (f_val F1 rfl rfl (r_assign rfl rfl) rfl fun _ F2 => ?_)
 have F3 : Fr 21 [(3, .bool false), (0, .string span)] _ := F2.cut rfl
 clear F0 F1 F2
 refine s_end (x_normal (wp_seq (wp_region_lit (l_op (f_mv F3 rfl rfl rfl rfl rfl fun _ F4 => ?_)))))
 refine l_op (f_val F4 rfl rfl (r_lenS (fun t ht => by cases ht; exact Try.underlying9) rfl rfl (F4.ev 5 rfl)) rfl fun _ F5 => ?_)
 refine l_op (f_as F5 rfl rfl rfl rfl rfl fun _ F6 => ?_)
 have F7 : Fr 21 [(4, .int .i64 ((span.size : Nat) : Int)), (0, .string span)] _ := F6.cut rfl
 clear F3 F4 F5 F6
 refine s_end (x_normal (wp_seq (wp_seq (wp_region_lit (l_op (f_mv F7 rfl rfl rfl rfl rfl fun _ F8 => ?_))))))
 refine l_op (f_val F8 rfl rfl (r_cmp (b := decide (span.size > 0)) (.inr (.inr (.inr (.inr (.inl rfl))))) rfl (F8.ev 7 rfl) rfl (dec_of (by omega))) rfl fun _ F9 => ?_)
 refine l_op (f_mv F9 rfl rfl rfl rfl rfl fun _ F10 => ?_)
 rcases Decidable.em (span.size > 0) with h11 | h11
 · rw [decide_eq_true h11] at F10
   refine l_op (f_mv F10 (wanted_g F10 rfl rfl rfl rfl) rfl rfl rfl rfl fun _ F12 => ?_)
   refine l_op (f_mv F12 (wanted_g F12 rfl rfl rfl rfl) rfl rfl rfl rfl fun _ F13 => ?_)
   refine l_op (f_val F13 (wanted_g F13 rfl rfl rfl rfl) rfl (r_sub (z := ((span.size - 1 : Nat) : Int)) rfl (F13.ev 11 rfl) rfl (by first | rfl | omega) ⟨by first | omega | (unfold i64ok at *; omega), by first | omega | (unfold i64ok at *; omega)⟩) rfl fun _ F14 => ?_)
   refine l_op (f_val F14 (wanted_g F14 rfl rfl rfl rfl) rfl (r_indexS (i := span.size - 1) Try.underlying9 rfl (F14.ev 10 rfl) (F14.ev 12 rfl) (by omega) (by first | assumption | omega)) rfl fun _ F15 => ?_)
   refine l_op (f_val F15 (wanted_g F15 rfl rfl rfl rfl) rfl (r_cmp (b := decide (byteAt span (span.size - 1) = 42)) (.inl rfl) rfl (F15.ev 13 rfl) rfl (dec_of (by omega))) rfl fun _ F16 => ?_)
   refine l_op (f_val F16 rfl rfl (r_pick (b := true) rfl (F16.ev 9 rfl) (F16.ev 14 rfl)) rfl fun _ F17 => ?_)
   have F18 : Fr 21 [(15, .bool (decide (byteAt span (span.size - 1) = 42))), (4, .int .i64 ((span.size : Nat) : Int)), (0, .string span)] _ := F17.cut rfl
   clear F7 F8 F9 F10 F12 F13 F14 F15 F16 F17
   refine s_end (x_normal (x_cond (p := byteAt span (span.size - 1) = 42) (F18.ev 15 rfl) (fun h19 => ?_) (fun h19 => ?_)))
   · skip
     refine wp_seq (wp_region_lit (l_op (f_mv F18 rfl rfl rfl rfl rfl fun _ F20 => ?_)))
     refine l_op (f_mv F20 rfl rfl rfl rfl rfl fun _ F21 => ?_)
     refine l_op (f_val F21 rfl rfl (r_sub (z := ((span.size - 1 : Nat) : Int)) rfl (F21.ev 17 rfl) rfl (by first | rfl | omega) ⟨by first | omega | (unfold i64ok at *; omega), by first | omega | (unfold i64ok at *; omega)⟩) rfl fun _ F22 => ?_)
     refine l_op (f_val F22 rfl rfl (r_sliceS (l := 0) (h := span.size - 1) Try.underlying9 rfl (F22.ev 16 rfl) rfl (F22.ev 18 rfl) (by first | assumption | omega) (by first | assumption | omega) rfl) rfl fun _ F23 => ?_)
     refine l_op (f_as F23 rfl rfl rfl rfl rfl fun _ F24 => ?_)
     refine l_op (f_val F24 rfl rfl (r_assign rfl rfl) rfl fun _ F25 => ?_)
     have F26 : Fr 21 [(3, .bool true), (2, .string (span.extract 0 (span.size - 1)))] _ := F25.cut rfl
     clear F18 F20 F21 F22 F23 F24 F25
     refine s_end (x_normal (wp_ret (x_then_ret ?_)))
     refine x_done (v := .tuple #[.string (span.extract 0 (span.size - 1)), .bool true]) F26 (results_2 Try.results129 (.tmp (F26.ev 2 rfl)) (.tmp (F26.ev 3 rfl))) ?_
     exact ⟨(by rw [(show (span.extract 0 (span.size - 1)) = (stemS span) from by first | exact (openS_t (by assumption) (by assumption)).symm | exact (openS_f1 (by assumption)).symm | exact (openS_f2 (by assumption)).symm | exact (stemS_t (openS_t (by assumption) (by assumption))).symm | exact (stemS_f (openS_f1 (by assumption))).symm | exact (stemS_f (openS_f2 (by assumption))).symm), (show true = (openS span) from by first | exact (openS_t (by assumption) (by assumption)).symm | exact (openS_f1 (by assumption)).symm | exact (openS_f2 (by assumption)).symm | exact (stemS_t (openS_t (by assumption) (by assumption))).symm | exact (stemS_f (openS_f1 (by assumption))).symm | exact (stemS_f (openS_f2 (by assumption))).symm)]), (Mv.pick (Mv.refl (At.nil w)) [] rfl), ((show (span.extract 0 (span.size - 1)) = (stemS span) from by first | exact (openS_t (by assumption) (by assumption)).symm | exact (openS_f1 (by assumption)).symm | exact (openS_f2 (by assumption)).symm | exact (stemS_t (openS_t (by assumption) (by assumption))).symm | exact (stemS_f (openS_f1 (by assumption))).symm | exact (stemS_f (openS_f2 (by assumption))).symm) ▸ (okS_ext h_span))⟩
   · skip
     refine wp_skip (x_normal (wp_seq (wp_region_lit (l_op (f_mv F18 rfl rfl rfl rfl rfl fun _ F27 => ?_)))))
     refine l_op (f_as F27 rfl rfl rfl rfl rfl fun _ F28 => ?_)
     refine l_op (f_val F28 rfl rfl (r_assign rfl rfl) rfl fun _ F29 => ?_)
     have F30 : Fr 21 [(3, .bool false), (2, .string span)] _ := F29.cut rfl
     clear F18 F27 F28 F29
     refine s_end (x_normal (wp_ret ?_))
     refine x_done (v := .tuple #[.string span, .bool false]) F30 (results_2 Try.results129 (.tmp (F30.ev 2 rfl)) (.tmp (F30.ev 3 rfl))) ?_
     exact ⟨(by rw [← (show span = (stemS span) from by first | exact (openS_t (by assumption) (by assumption)).symm | exact (openS_f1 (by assumption)).symm | exact (openS_f2 (by assumption)).symm | exact (stemS_t (openS_t (by assumption) (by assumption))).symm | exact (stemS_f (openS_f1 (by assumption))).symm | exact (stemS_f (openS_f2 (by assumption))).symm), (show false = (openS span) from by first | exact (openS_t (by assumption) (by assumption)).symm | exact (openS_f1 (by assumption)).symm | exact (openS_f2 (by assumption)).symm | exact (stemS_t (openS_t (by assumption) (by assumption))).symm | exact (stemS_f (openS_f1 (by assumption))).symm | exact (stemS_f (openS_f2 (by assumption))).symm)]), (Mv.pick (Mv.refl (At.nil w)) [] rfl), ((show span = (stemS span) from by first | exact (openS_t (by assumption) (by assumption)).symm | exact (openS_f1 (by assumption)).symm | exact (openS_f2 (by assumption)).symm | exact (stemS_t (openS_t (by assumption) (by assumption))).symm | exact (stemS_f (openS_f1 (by assumption))).symm | exact (stemS_f (openS_f2 (by assumption))).symm) ▸ h_span)⟩
 · rw [decide_eq_false h11] at F10
   refine l_op (f_skip F10 (wanted_g F10 rfl rfl rfl rfl) rfl rfl fun _ F31 => ?_)
   refine l_op (f_skip F31 (wanted_g F31 rfl rfl rfl rfl) rfl rfl fun _ F32 => ?_)
   refine l_op (f_skip F32 (wanted_g F32 rfl rfl rfl rfl) rfl rfl fun _ F33 => ?_)
   refine l_op (f_skip F33 (wanted_g F33 rfl rfl rfl rfl) rfl rfl fun _ F34 => ?_)
   refine l_op (f_skip F34 (wanted_g F34 rfl rfl rfl rfl) rfl rfl fun _ F35 => ?_)
   refine l_op (f_val F35 rfl rfl (r_pick (b := false) rfl (F35.ev 9 rfl) rfl) rfl fun _ F36 => ?_)
   have F37 : Fr 21 [(15, .bool false), (4, .int .i64 ((span.size : Nat) : Int)), (0, .string span)] _ := F36.cut rfl
   clear F7 F8 F9 F10 F31 F32 F33 F34 F35 F36
   refine s_end (x_normal (wp_cond_false (F37.ev 15 rfl) (wp_skip (x_normal (wp_seq (wp_region_lit (l_op (f_mv F37 rfl rfl rfl rfl rfl fun _ F38 => ?_))))))))
   refine l_op (f_as F38 rfl rfl rfl rfl rfl fun _ F39 => ?_)
   refine l_op (f_val F39 rfl rfl (r_assign rfl rfl) rfl fun _ F40 => ?_)
   have F41 : Fr 21 [(3, .bool false), (2, .string span)] _ := F40.cut rfl
   clear F37 F38 F39 F40
   refine s_end (x_normal (wp_ret ?_))
   refine x_done (v := .tuple #[.string span, .bool false]) F41 (results_2 Try.results129 (.tmp (F41.ev 2 rfl)) (.tmp (F41.ev 3 rfl))) ?_
   exact ⟨(by rw [← (show span = (stemS span) from by first | exact (openS_t (by assumption) (by assumption)).symm | exact (openS_f1 (by assumption)).symm | exact (openS_f2 (by assumption)).symm | exact (stemS_t (openS_t (by assumption) (by assumption))).symm | exact (stemS_f (openS_f1 (by assumption))).symm | exact (stemS_f (openS_f2 (by assumption))).symm), (show false = (openS span) from by first | exact (openS_t (by assumption) (by assumption)).symm | exact (openS_f1 (by assumption)).symm | exact (openS_f2 (by assumption)).symm | exact (stemS_t (openS_t (by assumption) (by assumption))).symm | exact (stemS_f (openS_f1 (by assumption))).symm | exact (stemS_f (openS_f2 (by assumption))).symm)]), (Mv.pick (Mv.refl (At.nil w)) [] rfl), ((show span = (stemS span) from by first | exact (openS_t (by assumption) (by assumption)).symm | exact (openS_f1 (by assumption)).symm | exact (openS_f2 (by assumption)).symm | exact (stemS_t (openS_t (by assumption) (by assumption))).symm | exact (stemS_f (openS_f1 (by assumption))).symm | exact (stemS_f (openS_f2 (by assumption))).symm) ▸ h_span)⟩
theorem spec_SpanHas_c {w : World} {H : Nat → Prop} {span : ByteArray} {key : ByteArray} (h_span : okS span) (h_key : okS key) :
    Calls Try.prog 88 #[.string span, .string key] w fun e w' => e = .returned (.bool (spanHas span key)) ∧ Mv [] w [] w' := by
 refine calls_enter 19 Try.func88 rfl Try.ntmps88 (Nat.le_of_ble_eq_true rfl) (fun _ F0i => ?_)
 have F0 : Fr 19 [(0, .string span), (1, .string key)] _ := F0i
 clear F0i
 refine wp_seq (wp_region_lit (l_op (f_val F0 rfl rfl (r_assign rfl rfl) rfl fun _ F1 => ?_)))
 have F2 : Fr 19 [(4, .bool false), (0, .string span), (1, .string key)] _ := F1.cut rfl
 clear F0 F1
 refine s_end (x_normal (wp_seq (wp_region_lit (l_op (f_mv F2 rfl rfl rfl rfl rfl fun _ F3 => ?_)))))
 refine l_op (f_call F3 CF_129 rfl rfl rfl rfl (lc (F3.ev 8 rfl) rfl) (spec_l03Open_c (H := fun _ => True) (span := span) h_span) ?_)
 rintro _ w4 ⟨rfl, m4, ok_r0_4⟩
 refine ⟨_, rfl, fun _ F5 => ?_⟩
 have S4 := At.frame0 (At.nil w) m4
 clear m4
 refine l_op (f_mv F5 rfl rfl rfl rfl rfl fun _ F6 => ?_)
 refine l_op (f_val (v := .string (stemS span)) F6 rfl rfl (r_extract rfl (F6.ev 7 rfl) rfl) rfl fun _ F7 => ?_)
 refine l_op (f_val (v := .bool (openS span)) F7 rfl rfl (r_extract rfl (F7.ev 7 rfl) rfl) rfl fun _ F8 => ?_)
 refine l_op (f_as F8 rfl rfl rfl rfl rfl fun _ F9 => ?_)
 refine l_op (f_as F9 rfl rfl rfl rfl rfl fun _ F10 => ?_)
 have F11 : Fr 19 [(6, .bool (openS span)), (5, .string (stemS span)), (0, .string span), (1, .string key)] _ := F10.cut rfl
 clear F2 F3 F5 F6 F7 F8 F9 F10
 have T12 : Mv _ _ [] _ := S4
 refine s_end (x_normal (wp_seq (wp_seq (wp_region_lit (l_op (f_mv F11 rfl rfl rfl rfl rfl fun _ F13 => ?_))))))
 have F14 : Fr 19 [(12, .bool (openS span)), (5, .string (stemS span)), (0, .string span), (1, .string key)] _ := F13.cut rfl
 clear F11 F13
 refine s_end (x_normal (x_condb (b := (openS span)) (F14.ev 12 rfl) (fun h15 => ?_) (fun h15 => ?_)))
 · skip
   refine wp_seq (wp_region_lit (l_op (f_mv F14 rfl rfl rfl rfl rfl fun _ F16 => ?_)))
   refine l_op (f_mv F16 rfl rfl rfl rfl rfl fun _ F17 => ?_)
   refine l_op (f_call F17 CF_108 rfl rfl rfl rfl (lc (F17.ev 13 rfl) (lc (F17.ev 14 rfl) rfl)) (spec_l02Begins_c (H := fun _ => True) (s := key) (pfx := stemS span) h_key ok_r0_4) ?_)
   rintro _ w18 ⟨rfl, m18⟩
   refine ⟨_, rfl, fun _ F19 => ?_⟩
   have S18 := At.frame0 T12.at' m18
   clear m18
   refine l_op (f_as F19 rfl rfl rfl rfl rfl fun _ F20 => ?_)
   have F21 : Fr 19 [(4, .bool (begins key (stemS span)))] _ := F20.cut rfl
   clear F14 F16 F17 F19 F20
   have T22 : Mv _ _ [] _ := S18
   refine s_end (x_normal (wp_ret (x_then_ret ?_)))
   refine x_done (v := .bool (begins key (stemS span))) F21 (results_1 Try.results88 (.tmp (F21.ev 4 rfl))) ?_
   exact ⟨(by rw [(show (begins key (stemS span)) = (spanHas span key) from by first | exact (spanHas_t (by assumption)).symm | exact (spanHas_f (by assumption)).symm)]), (Mv.pick (T12.trans T22) [] rfl)⟩
 · skip
   refine wp_skip (x_normal (wp_seq (wp_region_lit (l_op (f_mv F14 rfl rfl rfl rfl rfl fun _ F23 => ?_)))))
   refine l_op (f_mv F23 rfl rfl rfl rfl rfl fun _ F24 => ?_)
   refine l_op (f_val F24 rfl rfl (r_cmps (b := (decide (span = key))) (.inl rfl) rfl (F24.ev 16 rfl) (F24.ev 17 rfl) rfl) rfl fun _ F25 => ?_)
   refine l_op (f_as F25 rfl rfl rfl rfl rfl fun _ F26 => ?_)
   have F27 : Fr 19 [(4, .bool (decide (span = key)))] _ := F26.cut rfl
   clear F14 F23 F24 F25 F26
   refine s_end (x_normal (wp_ret ?_))
   refine x_done (v := .bool (decide (span = key))) F27 (results_1 Try.results88 (.tmp (F27.ev 4 rfl))) ?_
   exact ⟨(by rw [(show (decide (span = key)) = (spanHas span key) from by first | exact (spanHas_t (by assumption)).symm | exact (spanHas_f (by assumption)).symm)]), (Mv.pick T12 [] rfl)⟩
theorem impl_SpansMeet_c {w : World} {H : Nat → Prop} {a : ByteArray} {b : ByteArray} (h_a : okS a) (h_b : okS b) :
    Calls Try.prog 85 #[.string a, .string b] w fun e w' => e = .returned (.bool (spansMeet a b)) ∧ Mv [] w [] w' := by
 refine calls_enter 40 Try.func85 rfl Try.ntmps85 (Nat.le_of_ble_eq_true rfl) (fun _ F0i => ?_)
 have F0 : Fr 40 [(0, .string a), (1, .string b)] _ := F0i
 clear F0i
 refine wp_seq (wp_region_lit (l_op (f_val F0 rfl rfl (r_assign rfl rfl) rfl fun _ F1 => ?_)))
 have F2 : Fr 40 [(4, .bool false), (0, .string a), (1, .string b)] _ := F1.cut rfl
 clear F0 F1
 refine s_end (x_normal (wp_seq (wp_region_lit (l_op (f_mv F2 rfl rfl rfl rfl rfl fun _ F3 => ?_)))))
 refine l_op (f_call F3 CF_126 rfl rfl rfl rfl (lc (F3.ev 10 rfl) (lc rfl rfl)) (strings_CutSuffix_c (H := fun _ => True) (s := a) (suffix := (⟨#[42]⟩ : ByteArray)) h_a (by unfold okS; decide)) ?_)
 rintro _ w4 ⟨rfl, m4, ok_r0_4⟩
 refine ⟨_, rfl, fun _ F5 => ?_⟩
 have S4 := At.frame0 (At.nil w) m4
 clear m4
 refine l_op (f_mv F5 rfl rfl rfl rfl rfl fun _ F6 => ?_)
 refine l_op (f_val (v := .string (cutSuf a (⟨#[42]⟩ : ByteArray))) F6 rfl rfl (r_extract rfl (F6.ev 9 rfl) rfl) rfl fun _ F7 => ?_)
 refine l_op (f_val (v := .bool (hasSuf a (⟨#[42]⟩ : ByteArray))) F7 rfl rfl (r_extract rfl (F7.ev 9 rfl) rfl) rfl fun _ F8 => ?_)
 refine l_op (f_as F8 rfl rfl rfl rfl rfl fun _ F9 => ?_)
 refine l_op (f_as F9 rfl rfl rfl rfl rfl fun _ F10 => ?_)
 have F11 : Fr 40 [(6, .bool (hasSuf a (⟨#[42]⟩ : ByteArray))), (5, .string (cutSuf a (⟨#[42]⟩ : ByteArray))), (0, .string a), (1, .string b)] _ := F10.cut rfl
 clear F2 F3 F5 F6 F7 F8 F9 F10
 have T12 : Mv _ _ [] _ := S4
 refine s_end (x_normal (wp_seq (wp_region_lit (l_op (f_mv F11 rfl rfl rfl rfl rfl fun _ F13 => ?_)))))
 refine l_op (f_call F13 CF_126 rfl rfl rfl rfl (lc (F13.ev 15 rfl) (lc rfl rfl)) (strings_CutSuffix_c (H := fun _ => True) (s := b) (suffix := (⟨#[42]⟩ : ByteArray)) h_b (by unfold okS; decide)) ?_)
 rintro _ w14 ⟨rfl, m14, ok_r0_14⟩
 refine ⟨_, rfl, fun _ F15 => ?_⟩
 have S14 := At.frame0 T12.at' m14
 clear m14
 refine l_op (f_mv F15 rfl rfl rfl rfl rfl fun _ F16 => ?_)
 refine l_op (f_val (v := .string (cutSuf b (⟨#[42]⟩ : ByteArray))) F16 rfl rfl (r_extract rfl (F16.ev 14 rfl) rfl) rfl fun _ F17 => ?_)
 refine l_op (f_val (v := .bool (hasSuf b (⟨#[42]⟩ : ByteArray))) F17 rfl rfl (r_extract rfl (F17.ev 14 rfl) rfl) rfl fun _ F18 => ?_)
 refine l_op (f_as F18 rfl rfl rfl rfl rfl fun _ F19 => ?_)
 refine l_op (f_as F19 rfl rfl rfl rfl rfl fun _ F20 => ?_)
 have F21 : Fr 40 [(8, .bool (hasSuf b (⟨#[42]⟩ : ByteArray))), (7, .string (cutSuf b (⟨#[42]⟩ : ByteArray))), (6, .bool (hasSuf a (⟨#[42]⟩ : ByteArray))), (5, .string (cutSuf a (⟨#[42]⟩ : ByteArray))), (0, .string a), (1, .string b)] _ := F20.cut rfl
 clear F11 F13 F15 F16 F17 F18 F19 F20
 have T22 : Mv _ _ [] _ := S14
 refine s_end (x_normal (wp_seq (wp_block (wp_seq (wp_region_lit (l_op (f_mv F21 rfl rfl rfl rfl rfl fun _ F23 => ?_)))))))
 refine l_op (f_mv F23 rfl rfl rfl rfl rfl fun _ F24 => ?_)
 rcases Bool.eq_false_or_eq_true (hasSuf a (⟨#[42]⟩ : ByteArray)) with h25 | h25
 · rw [h25] at F24
   refine l_op (f_mv F24 (wanted_g F24 rfl rfl rfl rfl) rfl rfl rfl rfl fun _ F26 => ?_)
   refine l_op (f_val F26 rfl rfl (r_pick (b := true) rfl (F26.ev 21 rfl) (F26.ev 22 rfl)) rfl fun _ F27 => ?_)
   refine l_op (f_as F27 rfl rfl rfl rfl rfl fun _ F28 => ?_)
   have F29 : Fr 40 [(19, .bool (hasSuf b (⟨#[42]⟩ : ByteArray))), (7, .string (cutSuf b (⟨#[42]⟩ : ByteArray))), (6, .bool true), (5, .string (cutSuf a (⟨#[42]⟩ : ByteArray))), (0, .string a), (1, .string b)] _ := F28.cut rfl
   clear F21 F23 F24 F26 F27 F28
   refine s_end (x_normal (x_condb (b := (hasSuf b (⟨#[42]⟩ : ByteArray))) (F29.ev 19 rfl) (fun h30 => ?_) (fun h30 => ?_)))
   · skip
     refine wp_seq (wp_region_lit (l_op (f_mv F29 rfl rfl rfl rfl rfl fun _ F31 => ?_)))
     refine l_op (f_mv F31 rfl rfl rfl rfl rfl fun _ F32 => ?_)
     refine l_op (f_call F32 CF_127 rfl rfl rfl rfl (lc (F32.ev 24 rfl) (lc (F32.ev 25 rfl) rfl)) (strings_HasPrefix_c (H := fun _ => True) (s := cutSuf a (⟨#[42]⟩ : ByteArray)) (pfx := cutSuf b (⟨#[42]⟩ : ByteArray)) ok_r0_4 ok_r0_14) ?_)
     rintro _ w33 ⟨rfl, m33⟩
     refine ⟨_, rfl, fun _ F34 => ?_⟩
     have S33 := At.frame0 T22.at' m33
     clear m33
     refine l_op (f_mv F34 rfl rfl rfl rfl rfl fun _ F35 => ?_)
     rcases Bool.eq_false_or_eq_true (begins (cutSuf a (⟨#[42]⟩ : ByteArray)) (cutSuf b (⟨#[42]⟩ : ByteArray))) with h36 | h36
     · rw [h36] at F35
       refine l_op (f_skip F35 (wanted_g F35 rfl rfl rfl rfl) rfl rfl fun _ F37 => ?_)
       refine l_op (f_skip F37 (wanted_g F37 rfl rfl rfl rfl) rfl rfl fun _ F38 => ?_)
       refine l_op (f_skip F38 (wanted_g F38 rfl rfl rfl rfl) rfl rfl fun _ F39 => ?_)
       refine l_op (f_val F39 rfl rfl (r_pick (b := true) rfl (F39.ev 27 rfl) rfl) rfl fun _ F40 => ?_)
       refine l_op (f_as F40 rfl rfl rfl rfl rfl fun _ F41 => ?_)
       have F42 : Fr 40 [(4, .bool true)] _ := F41.cut rfl
       clear F29 F31 F32 F34 F35 F37 F38 F39 F40 F41
       have T43 : Mv _ _ [] _ := S33
       refine s_end (x_normal (wp_ret (x_block_ret (x_then_ret ?_))))
       refine x_done (v := .bool true) F42 (results_1 Try.results85 (.tmp (F42.ev 4 rfl))) ?_
       exact ⟨(by rw [(show true = (spansMeet a b) from by first | exact (sm_t1 (by assumption) (by assumption) (by assumption)).symm | exact (sm_t2 (by assumption) (by assumption) (by assumption)).symm | exact (sm_b (by assumption) (by assumption)).symm | exact (sm_s (by assumption) (by assumption)).symm | exact (sm_f (by assumption)).symm)]), (Mv.pick (T12.trans (T22.trans T43)) [] rfl)⟩
     · rw [h36] at F35
       refine l_op (f_mv F35 (wanted_g F35 rfl rfl rfl rfl) rfl rfl rfl rfl fun _ F44 => ?_)
       refine l_op (f_mv F44 (wanted_g F44 rfl rfl rfl rfl) rfl rfl rfl rfl fun _ F45 => ?_)
       refine l_op (f_call F45 CF_127 (wanted_g F45 rfl rfl rfl rfl) rfl rfl rfl (lc (F45.ev 28 rfl) (lc (F45.ev 29 rfl) rfl)) (strings_HasPrefix_c (H := fun _ => True) (s := cutSuf b (⟨#[42]⟩ : ByteArray)) (pfx := cutSuf a (⟨#[42]⟩ : ByteArray)) ok_r0_14 ok_r0_4) ?_)
       rintro _ w46 ⟨rfl, m46⟩
       refine ⟨_, rfl, fun _ F47 => ?_⟩
       have S46 := At.frame0 S33.at' m46
       clear m46
       refine l_op (f_val F47 rfl rfl (r_pick (b := false) rfl (F47.ev 27 rfl) (F47.ev 30 rfl)) rfl fun _ F48 => ?_)
       refine l_op (f_as F48 rfl rfl rfl rfl rfl fun _ F49 => ?_)
       have F50 : Fr 40 [(4, .bool (begins (cutSuf b (⟨#[42]⟩ : ByteArray)) (cutSuf a (⟨#[42]⟩ : ByteArray))))] _ := F49.cut rfl
       clear F29 F31 F32 F34 F35 F44 F45 F47 F48 F49
       have T51 : Mv _ _ [] _ := S46
       refine s_end (x_normal (wp_ret (x_block_ret (x_then_ret ?_))))
       refine x_done (v := .bool (begins (cutSuf b (⟨#[42]⟩ : ByteArray)) (cutSuf a (⟨#[42]⟩ : ByteArray)))) F50 (results_1 Try.results85 (.tmp (F50.ev 4 rfl))) ?_
       exact ⟨(by rw [(show (begins (cutSuf b (⟨#[42]⟩ : ByteArray)) (cutSuf a (⟨#[42]⟩ : ByteArray))) = (spansMeet a b) from by first | exact (sm_t1 (by assumption) (by assumption) (by assumption)).symm | exact (sm_t2 (by assumption) (by assumption) (by assumption)).symm | exact (sm_b (by assumption) (by assumption)).symm | exact (sm_s (by assumption) (by assumption)).symm | exact (sm_f (by assumption)).symm)]), (Mv.pick (T12.trans (T22.trans (S33.trans T51))) [] rfl)⟩
   · skip
     refine wp_seq (wp_region_lit (l_op (f_mv F29 rfl rfl rfl rfl rfl fun _ F52 => ?_)))
     refine l_op (f_as F52 rfl rfl rfl rfl rfl fun _ F53 => ?_)
     have F54 : Fr 40 [(32, .bool true), (0, .string a), (1, .string b)] _ := F53.cut rfl
     clear F29 F52 F53
     refine s_end (x_normal (wp_cond_true (F54.ev 32 rfl) (wp_seq (wp_region_lit (l_op (f_mv F54 rfl rfl rfl rfl rfl fun _ F55 => ?_))))))
     refine l_op (f_mv F55 rfl rfl rfl rfl rfl fun _ F56 => ?_)
     refine l_op (f_call F56 CF_128 rfl rfl rfl rfl (lc (F56.ev 34 rfl) (lc (F56.ev 35 rfl) rfl)) (impl_SpanHas_c (H := fun _ => True) (span := a) (key := b) h_a h_b) ?_)
     rintro _ w57 ⟨rfl, m57⟩
     refine ⟨_, rfl, fun _ F58 => ?_⟩
     have S57 := At.frame0 T22.at' m57
     clear m57
     refine l_op (f_as F58 rfl rfl rfl rfl rfl fun _ F59 => ?_)
     have F60 : Fr 40 [(4, .bool (spanHas a b))] _ := F59.cut rfl
     clear F54 F55 F56 F58 F59
     have T61 : Mv _ _ [] _ := S57
     refine s_end (x_normal (wp_ret (x_block_ret (x_then_ret ?_))))
     refine x_done (v := .bool (spanHas a b)) F60 (results_1 Try.results85 (.tmp (F60.ev 4 rfl))) ?_
     exact ⟨(by rw [(show (spanHas a b) = (spansMeet a b) from by first | exact (sm_t1 (by assumption) (by assumption) (by assumption)).symm | exact (sm_t2 (by assumption) (by assumption) (by assumption)).symm | exact (sm_b (by assumption) (by assumption)).symm | exact (sm_s (by assumption) (by assumption)).symm | exact (sm_f (by assumption)).symm)]), (Mv.pick (T12.trans (T22.trans T61)) [] rfl)⟩
 · rw [h25] at F24
   refine l_op (f_skip F24 (wanted_g F24 rfl rfl rfl rfl) rfl rfl fun _ F62 => ?_)
   refine l_op (f_val F62 rfl rfl (r_pick (b := false) rfl (F62.ev 21 rfl) rfl) rfl fun _ F63 => ?_)
   refine l_op (f_as F63 rfl rfl rfl rfl rfl fun _ F64 => ?_)
   have F65 : Fr 40 [(19, .bool false), (7, .string (cutSuf b (⟨#[42]⟩ : ByteArray))), (6, .bool false), (5, .string (cutSuf a (⟨#[42]⟩ : ByteArray))), (0, .string a), (1, .string b)] _ := F64.cut rfl
   clear F21 F23 F24 F62 F63 F64
   refine s_end (x_normal (wp_cond_false (F65.ev 19 rfl) (wp_seq (wp_region_lit (l_op (f_mv F65 rfl rfl rfl rfl rfl fun _ F66 => ?_))))))
   refine l_op (f_as F66 rfl rfl rfl rfl rfl fun _ F67 => ?_)
   have F68 : Fr 40 [(32, .bool false), (0, .string a), (1, .string b)] _ := F67.cut rfl
   clear F65 F66 F67
   refine s_end (x_normal (wp_cond_false (F68.ev 32 rfl) (wp_skip (x_block_normal (x_normal (wp_seq (wp_region_lit (l_op (f_mv F68 rfl rfl rfl rfl rfl fun _ F69 => ?_)))))))))
   refine l_op (f_mv F69 rfl rfl rfl rfl rfl fun _ F70 => ?_)
   refine l_op (f_call F70 CF_128 rfl rfl rfl rfl (lc (F70.ev 37 rfl) (lc (F70.ev 38 rfl) rfl)) (impl_SpanHas_c (H := fun _ => True) (span := b) (key := a) h_b h_a) ?_)
   rintro _ w71 ⟨rfl, m71⟩
   refine ⟨_, rfl, fun _ F72 => ?_⟩
   have S71 := At.frame0 T22.at' m71
   clear m71
   refine l_op (f_as F72 rfl rfl rfl rfl rfl fun _ F73 => ?_)
   have F74 : Fr 40 [(4, .bool (spanHas b a))] _ := F73.cut rfl
   clear F68 F69 F70 F72 F73
   have T75 : Mv _ _ [] _ := S71
   refine s_end (x_normal (wp_ret ?_))
   refine x_done (v := .bool (spanHas b a)) F74 (results_1 Try.results85 (.tmp (F74.ev 4 rfl))) ?_
   exact ⟨(by rw [(show (spanHas b a) = (spansMeet a b) from by first | exact (sm_t1 (by assumption) (by assumption) (by assumption)).symm | exact (sm_t2 (by assumption) (by assumption) (by assumption)).symm | exact (sm_b (by assumption) (by assumption)).symm | exact (sm_s (by assumption) (by assumption)).symm | exact (sm_f (by assumption)).symm)]), (Mv.pick (T12.trans (T22.trans T75)) [] rfl)⟩
theorem spec_SpansMeet_c {w : World} {H : Nat → Prop} {a : ByteArray} {b : ByteArray} (h_a : okS a) (h_b : okS b) :
    Calls Try.prog 86 #[.string a, .string b] w fun e w' => e = .returned (.bool (spansMeet a b)) ∧ Mv [] w [] w' := by
 refine calls_enter 40 Try.func86 rfl Try.ntmps86 (Nat.le_of_ble_eq_true rfl) (fun _ F0i => ?_)
 have F0 : Fr 40 [(0, .string a), (1, .string b)] _ := F0i
 clear F0i
 refine wp_seq (wp_region_lit (l_op (f_val F0 rfl rfl (r_assign rfl rfl) rfl fun _ F1 => ?_)))
 have F2 : Fr 40 [(4, .bool false), (0, .string a), (1, .string b)] _ := F1.cut rfl
 clear F0 F1
 refine s_end (x_normal (wp_seq (wp_region_lit (l_op (f_mv F2 rfl rfl rfl rfl rfl fun _ F3 => ?_)))))
 refine l_op (f_call F3 CF_129 rfl rfl rfl rfl (lc (F3.ev 10 rfl) rfl) (spec_l03Open_c (H := fun _ => True) (span := a) h_a) ?_)
 rintro _ w4 ⟨rfl, m4, ok_r0_4⟩
 refine ⟨_, rfl, fun _ F5 => ?_⟩
 have S4 := At.frame0 (At.nil w) m4
 clear m4
 refine l_op (f_mv F5 rfl rfl rfl rfl rfl fun _ F6 => ?_)
 refine l_op (f_val (v := .string (stemS a)) F6 rfl rfl (r_extract rfl (F6.ev 9 rfl) rfl) rfl fun _ F7 => ?_)
 refine l_op (f_val (v := .bool (openS a)) F7 rfl rfl (r_extract rfl (F7.ev 9 rfl) rfl) rfl fun _ F8 => ?_)
 refine l_op (f_as F8 rfl rfl rfl rfl rfl fun _ F9 => ?_)
 refine l_op (f_as F9 rfl rfl rfl rfl rfl fun _ F10 => ?_)
 have F11 : Fr 40 [(6, .bool (openS a)), (5, .string (stemS a)), (0, .string a), (1, .string b)] _ := F10.cut rfl
 clear F2 F3 F5 F6 F7 F8 F9 F10
 have T12 : Mv _ _ [] _ := S4
 refine s_end (x_normal (wp_seq (wp_region_lit (l_op (f_mv F11 rfl rfl rfl rfl rfl fun _ F13 => ?_)))))
 refine l_op (f_call F13 CF_129 rfl rfl rfl rfl (lc (F13.ev 15 rfl) rfl) (spec_l03Open_c (H := fun _ => True) (span := b) h_b) ?_)
 rintro _ w14 ⟨rfl, m14, ok_r0_14⟩
 refine ⟨_, rfl, fun _ F15 => ?_⟩
 have S14 := At.frame0 T12.at' m14
 clear m14
 refine l_op (f_mv F15 rfl rfl rfl rfl rfl fun _ F16 => ?_)
 refine l_op (f_val (v := .string (stemS b)) F16 rfl rfl (r_extract rfl (F16.ev 14 rfl) rfl) rfl fun _ F17 => ?_)
 refine l_op (f_val (v := .bool (openS b)) F17 rfl rfl (r_extract rfl (F17.ev 14 rfl) rfl) rfl fun _ F18 => ?_)
 refine l_op (f_as F18 rfl rfl rfl rfl rfl fun _ F19 => ?_)
 refine l_op (f_as F19 rfl rfl rfl rfl rfl fun _ F20 => ?_)
 have F21 : Fr 40 [(8, .bool (openS b)), (7, .string (stemS b)), (6, .bool (openS a)), (5, .string (stemS a)), (0, .string a), (1, .string b)] _ := F20.cut rfl
 clear F11 F13 F15 F16 F17 F18 F19 F20
 have T22 : Mv _ _ [] _ := S14
 refine s_end (x_normal (wp_seq (wp_block (wp_seq (wp_region_lit (l_op (f_mv F21 rfl rfl rfl rfl rfl fun _ F23 => ?_)))))))
 refine l_op (f_mv F23 rfl rfl rfl rfl rfl fun _ F24 => ?_)
 rcases Bool.eq_false_or_eq_true (openS a) with h25 | h25
 · rw [h25] at F24
   refine l_op (f_mv F24 (wanted_g F24 rfl rfl rfl rfl) rfl rfl rfl rfl fun _ F26 => ?_)
   refine l_op (f_val F26 rfl rfl (r_pick (b := true) rfl (F26.ev 21 rfl) (F26.ev 22 rfl)) rfl fun _ F27 => ?_)
   refine l_op (f_as F27 rfl rfl rfl rfl rfl fun _ F28 => ?_)
   have F29 : Fr 40 [(19, .bool (openS b)), (7, .string (stemS b)), (6, .bool true), (5, .string (stemS a)), (0, .string a), (1, .string b)] _ := F28.cut rfl
   clear F21 F23 F24 F26 F27 F28
   refine s_end (x_normal (x_condb (b := (openS b)) (F29.ev 19 rfl) (fun h30 => ?_) (fun h30 => ?_)))
   · skip
     refine wp_seq (wp_region_lit (l_op (f_mv F29 rfl rfl rfl rfl rfl fun _ F31 => ?_)))
     refine l_op (f_mv F31 rfl rfl rfl rfl rfl fun _ F32 => ?_)
     refine l_op (f_call F32 CF_108 rfl rfl rfl rfl (lc (F32.ev 24 rfl) (lc (F32.ev 25 rfl) rfl)) (spec_l02Begins_c (H := fun _ => True) (s := stemS a) (pfx := stemS b) ok_r0_4 ok_r0_14) ?_)
     rintro _ w33 ⟨rfl, m33⟩
     refine ⟨_, rfl, fun _ F34 => ?_⟩
     have S33 := At.frame0 T22.at' m33
     clear m33
     refine l_op (f_mv F34 rfl rfl rfl rfl rfl fun _ F35 => ?_)
     rcases Bool.eq_false_or_eq_true (begins (stemS a) (stemS b)) with h36 | h36
     · rw [h36] at F35
       refine l_op (f_skip F35 (wanted_g F35 rfl rfl rfl rfl) rfl rfl fun _ F37 => ?_)
       refine l_op (f_skip F37 (wanted_g F37 rfl rfl rfl rfl) rfl rfl fun _ F38 => ?_)
       refine l_op (f_skip F38 (wanted_g F38 rfl rfl rfl rfl) rfl rfl fun _ F39 => ?_)
       refine l_op (f_val F39 rfl rfl (r_pick (b := true) rfl (F39.ev 27 rfl) rfl) rfl fun _ F40 => ?_)
       refine l_op (f_as F40 rfl rfl rfl rfl rfl fun _ F41 => ?_)
       have F42 : Fr 40 [(4, .bool true)] _ := F41.cut rfl
       clear F29 F31 F32 F34 F35 F37 F38 F39 F40 F41
       have T43 : Mv _ _ [] _ := S33
       refine s_end (x_normal (wp_ret (x_block_ret (x_then_ret ?_))))
       refine x_done (v := .bool true) F42 (results_1 Try.results86 (.tmp (F42.ev 4 rfl))) ?_
       exact ⟨(by rw [(show true = (spansMeet a b) from by first | exact (sm_t1 (by assumption) (by assumption) (by assumption)).symm | exact (sm_t2 (by assumption) (by assumption) (by assumption)).symm | exact (sm_b (by assumption) (by assumption)).symm | exact (sm_s (by assumption) (by assumption)).symm | exact (sm_f (by assumption)).symm)]), (Mv.pick (T12.trans (T22.trans T43)) [] rfl)⟩
     · rw [h36] at F35
       refine l_op (f_mv F35 (wanted_g F35 rfl rfl rfl rfl) rfl rfl rfl rfl fun _ F44 => ?_)
       refine l_op (f_mv F44 (wanted_g F44 rfl rfl rfl rfl) rfl rfl rfl rfl fun _ F45 => ?_)
       refine l_op (f_call F45 CF_108 (wanted_g F45 rfl rfl rfl rfl) rfl rfl rfl (lc (F45.ev 28 rfl) (lc (F45.ev 29 rfl) rfl)) (spec_l02Begins_c (H := fun _ => True) (s := stemS b) (pfx := stemS a) ok_r0_14 ok_r0_4) ?_)
       rintro _ w46 ⟨rfl, m46⟩
       refine ⟨_, rfl, fun _ F47 => ?_⟩
       have S46 := At.frame0 S33.at' m46
       clear m46
       refine l_op (f_val F47 rfl rfl (r_pick (b := false) rfl (F47.ev 27 rfl) (F47.ev 30 rfl)) rfl fun _ F48 => ?_)
       refine l_op (f_as F48 rfl rfl rfl rfl rfl fun _ F49 => ?_)
       have F50 : Fr 40 [(4, .bool (begins (stemS b) (stemS a)))] _ := F49.cut rfl
       clear F29 F31 F32 F34 F35 F44 F45 F47 F48 F49
       have T51 : Mv _ _ [] _ := S46
       refine s_end (x_normal (wp_ret (x_block_ret (x_then_ret ?_))))
       refine x_done (v := .bool (begins (stemS b) (stemS a))) F50 (results_1 Try.results86 (.tmp (F50.ev 4 rfl))) ?_
       exact ⟨(by rw [(show (begins (stemS b) (stemS a)) = (spansMeet a b) from by first | exact (sm_t1 (by assumption) (by assumption) (by assumption)).symm | exact (sm_t2 (by assumption) (by assumption) (by assumption)).symm | exact (sm_b (by assumption) (by assumption)).symm | exact (sm_s (by assumption) (by assumption)).symm | exact (sm_f (by assumption)).symm)]), (Mv.pick (T12.trans (T22.trans (S33.trans T51))) [] rfl)⟩
   · skip
     refine wp_seq (wp_region_lit (l_op (f_mv F29 rfl rfl rfl rfl rfl fun _ F52 => ?_)))
     refine l_op (f_as F52 rfl rfl rfl rfl rfl fun _ F53 => ?_)
     have F54 : Fr 40 [(32, .bool true), (5, .string (stemS a)), (0, .string a), (1, .string b)] _ := F53.cut rfl
     clear F29 F52 F53
     refine s_end (x_normal (wp_cond_true (F54.ev 32 rfl) (wp_seq (wp_region_lit (l_op (f_mv F54 rfl rfl rfl rfl rfl fun _ F55 => ?_))))))
     refine l_op (f_mv F55 rfl rfl rfl rfl rfl fun _ F56 => ?_)
     refine l_op (f_call F56 CF_108 rfl rfl rfl rfl (lc (F56.ev 34 rfl) (lc (F56.ev 35 rfl) rfl)) (spec_l02Begins_c (H := fun _ => True) (s := b) (pfx := stemS a) h_b ok_r0_4) ?_)
     rintro _ w57 ⟨rfl, m57⟩
     refine ⟨_, rfl, fun _ F58 => ?_⟩
     have S57 := At.frame0 T22.at' m57
     clear m57
     refine l_op (f_as F58 rfl rfl rfl rfl rfl fun _ F59 => ?_)
     have F60 : Fr 40 [(4, .bool (begins b (stemS a)))] _ := F59.cut rfl
     clear F54 F55 F56 F58 F59
     have T61 : Mv _ _ [] _ := S57
     refine s_end (x_normal (wp_ret (x_block_ret (x_then_ret ?_))))
     refine x_done (v := .bool (begins b (stemS a))) F60 (results_1 Try.results86 (.tmp (F60.ev 4 rfl))) ?_
     exact ⟨(by rw [(show (begins b (stemS a)) = (spansMeet a b) from by first | exact (sm_t1 (by assumption) (by assumption) (by assumption)).symm | exact (sm_t2 (by assumption) (by assumption) (by assumption)).symm | exact (sm_b (by assumption) (by assumption)).symm | exact (sm_s (by assumption) (by assumption)).symm | exact (sm_f (by assumption)).symm)]), (Mv.pick (T12.trans (T22.trans T61)) [] rfl)⟩
 · rw [h25] at F24
   refine l_op (f_skip F24 (wanted_g F24 rfl rfl rfl rfl) rfl rfl fun _ F62 => ?_)
   refine l_op (f_val F62 rfl rfl (r_pick (b := false) rfl (F62.ev 21 rfl) rfl) rfl fun _ F63 => ?_)
   refine l_op (f_as F63 rfl rfl rfl rfl rfl fun _ F64 => ?_)
   have F65 : Fr 40 [(19, .bool false), (7, .string (stemS b)), (6, .bool false), (5, .string (stemS a)), (0, .string a), (1, .string b)] _ := F64.cut rfl
   clear F21 F23 F24 F62 F63 F64
   refine s_end (x_normal (wp_cond_false (F65.ev 19 rfl) (wp_seq (wp_region_lit (l_op (f_mv F65 rfl rfl rfl rfl rfl fun _ F66 => ?_))))))
   refine l_op (f_as F66 rfl rfl rfl rfl rfl fun _ F67 => ?_)
   have F68 : Fr 40 [(32, .bool false), (5, .string (stemS a)), (0, .string a), (1, .string b)] _ := F67.cut rfl
   clear F65 F66 F67
   refine s_end (x_normal (wp_cond_false (F68.ev 32 rfl) (wp_skip (x_block_normal (x_normal (wp_seq (wp_region_lit (l_op (f_mv F68 rfl rfl rfl rfl rfl fun _ F69 => ?_)))))))))
   refine l_op (f_mv F69 rfl rfl rfl rfl rfl fun _ F70 => ?_)
   refine l_op (f_call F70 CF_88 rfl rfl rfl rfl (lc (F70.ev 37 rfl) (lc (F70.ev 38 rfl) rfl)) (spec_SpanHas_c (H := fun _ => True) (span := b) (key := a) h_b h_a) ?_)
   rintro _ w71 ⟨rfl, m71⟩
   refine ⟨_, rfl, fun _ F72 => ?_⟩
   have S71 := At.frame0 T22.at' m71
   clear m71
   refine l_op (f_as F72 rfl rfl rfl rfl rfl fun _ F73 => ?_)
   have F74 : Fr 40 [(4, .bool (spanHas b a))] _ := F73.cut rfl
   clear F68 F69 F70 F72 F73
   have T75 : Mv _ _ [] _ := S71
   refine s_end (x_normal (wp_ret ?_))
   refine x_done (v := .bool (spanHas b a)) F74 (results_1 Try.results86 (.tmp (F74.ev 4 rfl))) ?_
   exact ⟨(by rw [(show (spanHas b a) = (spansMeet a b) from by first | exact (sm_t1 (by assumption) (by assumption) (by assumption)).symm | exact (sm_t2 (by assumption) (by assumption) (by assumption)).symm | exact (sm_b (by assumption) (by assumption)).symm | exact (sm_s (by assumption) (by assumption)).symm | exact (sm_f (by assumption)).symm)]), (Mv.pick (T12.trans (T22.trans T75)) [] rfl)⟩
theorem impl_MeetAny_1_c {w : World} {H : Nat → Prop} {y : ByteArray} {x_b : Nat} {x : ByteArray} (h_y : okS y) (h_x : okS x) (hA : At w [bx x_b [.string x] 9]) :
    Calls Try.prog 84 #[.string y, .pointer (some ⟨x_b, 0, none⟩)] w fun e w' => e = .returned (.bool (spansMeet x y)) ∧ Mv [bx x_b [.string x] 9] w [bx x_b [.string x] 9] w' := by
 refine calls_enter 7 Try.func84 rfl Try.ntmps84 (Nat.le_of_ble_eq_true rfl) (fun _ F0i => ?_)
 have F0 : Fr 7 [(0, .string y), (1, .pointer (some ⟨x_b, 0, none⟩))] _ := F0i
 clear F0i
 refine wp_seq (wp_region_lit (l_op (f_val F0 rfl rfl (r_assign rfl rfl) rfl fun _ F1 => ?_)))
 have F2 : Fr 7 [(3, .bool false), (0, .string y), (1, .pointer (some ⟨x_b, 0, none⟩))] _ := F1.cut rfl
 clear F0 F1
 refine s_end (x_normal (wp_seq (wp_region_lit (l_op (f_val (v := .string x) F2 rfl rfl (r_loadB hA 0 TI_9 rfl rfl (F2.ev 1 rfl) rfl rfl (fun _ => rfl) rfl) rfl fun _ F3 => ?_)))))
 refine l_op (f_mv F3 rfl rfl rfl rfl rfl fun _ F4 => ?_)
 refine l_op (f_call F4 CF_85 rfl rfl rfl rfl (lc (F4.ev 4 rfl) (lc (F4.ev 5 rfl) rfl)) (impl_SpansMeet_c (H := fun _ => True) (a := x) (b := y) h_x h_y) ?_)
 rintro _ w5 ⟨rfl, m5⟩
 refine ⟨_, rfl, fun _ F6 => ?_⟩
 have S5 := At.frame0 hA m5
 clear m5
 refine l_op (f_as F6 rfl rfl rfl rfl rfl fun _ F7 => ?_)
 have F8 : Fr 7 [(3, .bool (spansMeet x y))] _ := F7.cut rfl
 clear F2 F3 F4 F6 F7
 have T9 : Mv _ _ [bx x_b [.string x] 9] _ := S5
 refine s_end (x_normal (wp_ret ?_))
 refine x_done (v := .bool (spansMeet x y)) F8 (results_1 Try.results84 (.tmp (F8.ev 3 rfl))) ?_
 exact ⟨rfl, (Mv.pick T9 [0] rfl)⟩
theorem IndexFuncS_impl_MeetAny_1_c {w : World} {H : Nat → Prop} {s : List ByteArray} {s_a : Option Addr} {s_n s_c : Nat} {f_b : Nat} {f : ByteArray} (v_s : Rd 1 encS okS H w (.slice s_a s_n s_c) s) (h_f : okS f) (hA : At w [bx f_b [.string f] 9]) (hD : ∀ b, H b → ¬ fps [bx f_b [.string f] 9] b) :
    Calls Try.prog 122 #[.slice s_a s_n s_c, .func (.func 84) #[] #[.pointer (some ⟨f_b, 0, none⟩)]] w fun e w' => e = .returned (.int .i64 (idxP (fun c : ByteArray => spansMeet f c) s)) ∧ Mv [bx f_b [.string f] 9] w [bx f_b [.string f] 9] w' ∧ i64ok (idxP (fun c : ByteArray => spansMeet f c) s) := by
 have V_v_s : Rd 1 encS okS (V H w [bx f_b [.string f] 9]) w (.slice s_a s_n s_c) s := Rd.start v_s hD
 obtain ⟨ln_s, le_s, mx_s, ni_s⟩ := Rd.inv v_s
 refine calls_enter 19 Try.func122 rfl Try.ntmps122 (Nat.le_of_ble_eq_true rfl) (fun _ F0i => ?_)
 have F0 : Fr 19 [(0, .slice s_a s_n s_c), (1, .func (.func 84) #[] #[.pointer (some ⟨f_b, 0, none⟩)])] _ := F0i
 clear F0i
 refine wp_seq (wp_region_lit (l_op (f_val F0 rfl rfl (r_assign rfl rfl) rfl fun _ F1 => ?_)))
 have F2 : Fr 19 [(4, .int .i64 0), (0, .slice s_a s_n s_c), (1, .func (.func 84) #[] #[.pointer (some ⟨f_b, 0, none⟩)])] _ := F1.cut rfl
 clear F0 F1
 refine s_end (x_normal (wp_seq (wp_seq (wp_region_lit (l_op (f_mv F2 rfl rfl rfl rfl rfl fun _ F3 => ?_))))))
 refine l_op (f_val F3 rfl rfl (r_len Try.underlying22 rfl (F3.ev 6 rfl)) rfl fun _ F4 => ?_)
 refine l_op (f_val F4 rfl rfl (r_move rfl rfl) rfl fun _ F5 => ?_)
 have F6 : Fr 19 [(8, .int .i64 0), (7, .int .i64 ((s_n : Nat) : Int)), (0, .slice s_a s_n s_c), (1, .func (.func 84) #[] #[.pointer (some ⟨f_b, 0, none⟩)])] _ := F5.cut rfl
 clear F2 F3 F4 F5
 refine s_end (x_normal (wp_block ?_))
 refine x_loop (fun (k : Nat) aZ wZ => Fr 19 [(8, .int .i64 ((k : Nat) : Int)), (7, .int .i64 ((s_n : Nat) : Int)), (0, .slice s_a s_n s_c), (1, .func (.func 84) #[] #[.pointer (some ⟨f_b, 0, none⟩)])] aZ ∧ Mv [bx f_b [.string f] 9] w [bx f_b [.string f] 9] wZ ∧ (k ≤ s_n) ∧ (∀ j, j < k → ∀ c, nth s j = some c → spansMeet f c = false)) (fun (k : Nat) => s_n - k) (0) ?_ ?_
 · exact ⟨F6.cut rfl, (Mv.refl hA), by omega, all_none⟩
 · rintro k a7 w7 ⟨F7, S7, hk_0, hk_1⟩
   refine wp_seq (wp_region_lit (l_op (f_val F7 rfl rfl (r_cmp (b := decide (k < s_n)) (.inr (.inr (.inl rfl))) rfl (F7.ev 8 rfl) (F7.ev 7 rfl) (dec_of (by omega))) rfl fun _ F8 => ?_)))
   have F9 : Fr 19 [(9, .bool (decide (k < s_n))), (8, .int .i64 ((k : Nat) : Int)), (7, .int .i64 ((s_n : Nat) : Int)), (0, .slice s_a s_n s_c), (1, .func (.func 84) #[] #[.pointer (some ⟨f_b, 0, none⟩)])] _ := F8.cut rfl
   clear F7 F8
   refine s_end (x_normal (wp_seq (x_cond (p := k < s_n) (F9.ev 9 rfl) (fun h10 => ?_) (fun h10 => ?_))))
   · skip
     refine wp_skip (x_normal (wp_seq (wp_block (wp_seq (wp_region_lit (l_op (f_mv F9 rfl rfl rfl rfl rfl fun _ F11 => ?_)))))))
     refine l_op (f_as F11 rfl rfl rfl rfl rfl fun _ F12 => ?_)
     have F13 : Fr 19 [(5, .int .i64 ((k : Nat) : Int)), (8, .int .i64 ((k : Nat) : Int)), (7, .int .i64 ((s_n : Nat) : Int)), (0, .slice s_a s_n s_c), (1, .func (.func 84) #[] #[.pointer (some ⟨f_b, 0, none⟩)])] _ := F12.cut rfl
     clear F9 F11 F12
     refine s_end (x_normal (wp_seq (wp_region_lit (l_op (f_mv F13 rfl rfl rfl rfl rfl fun _ F14 => ?_)))))
     refine l_op (f_mv F14 rfl rfl rfl rfl rfl fun _ F15 => ?_)
     refine l_op (f_mv F15 rfl rfl rfl rfl rfl fun _ F16 => ?_)
     obtain ⟨B17, O17, x1, ad17, hx1, okx1, ln17, cl17⟩ := Rd.at (Rd.mv (Nat.succ_pos _) V_v_s S7) k (by first | assumption | omega)
     clear ln17
     refine l_op (f_val F16 rfl rfl (r_indexAddr (i := k) ET_22 rfl ((F16.ev 12 rfl).trans (by rw [ad17])) (F16.ev 13 rfl) (by omega) (by first | assumption | omega)) rfl fun _ F18 => ?_)
     refine l_op (f_val (v := .string x1) F18 rfl rfl (r_load (cs := [.string x1]) TI_9 rfl (F18.ev 14 rfl) rfl (fun _ => rfl) (elem_sub (f := 0) cl17 [.string x1] rfl)) rfl fun _ F19 => ?_)
     refine l_op (f_callv F19 CF_84 rfl rfl rfl rfl (F19.ev 11 rfl) (lc (F19.ev 15 rfl) rfl) (impl_MeetAny_1_c (H := fun _ => True) (y := x1) (x := f) okx1 h_f (At.pick (is := [0]) S7.at' rfl)) ?_)
     rintro _ w20 ⟨rfl, m20⟩
     refine ⟨_, rfl, fun _ F21 => ?_⟩
     have S20 : Mv _ _ [bx f_b [.string f] 9] _ := At.frame S7.at' [0] rfl m20
     clear m20
     have F22 : Fr 19 [(16, .bool (spansMeet f x1)), (5, .int .i64 ((k : Nat) : Int)), (8, .int .i64 ((k : Nat) : Int)), (7, .int .i64 ((s_n : Nat) : Int)), (0, .slice s_a s_n s_c), (1, .func (.func 84) #[] #[.pointer (some ⟨f_b, 0, none⟩)])] _ := F21.cut rfl
     clear F13 F14 F15 F16 F18 F19 F21
     refine s_end (x_normal (x_condb (b := (spansMeet f x1)) (F22.ev 16 rfl) (fun h23 => ?_) (fun h23 => ?_)))
     · skip
       refine wp_seq (wp_region_lit (l_op (f_mv F22 rfl rfl rfl rfl rfl fun _ F24 => ?_)))
       refine l_op (f_as F24 rfl rfl rfl rfl rfl fun _ F25 => ?_)
       have F26 : Fr 19 [(4, .int .i64 ((k : Nat) : Int))] _ := F25.cut rfl
       clear F22 F24 F25
       refine s_end (x_normal (wp_ret (x_block_ret (x_then_ret (x_then_ret (x_block_ret (x_then_ret ?_)))))))
       refine x_done (v := .int .i64 ((k : Nat) : Int)) F26 (results_1 Try.results122 (.tmp (F26.ev 4 rfl))) ?_
       exact ⟨(by rw [(show ((k : Nat) : Int) = (idxP (fun c : ByteArray => spansMeet f c) s) from by exact (idxP_found _ s k _ (by rw [← nth_eq]; exact hx1) (by assumption) (fun q hq y hy => hk_1 q hq y (by rw [nth_eq]; exact hy))).symm)]), (Mv.pick (S7.trans S20) [0] rfl), idxP_ok _ s (by omega)⟩
     · skip
       refine wp_skip (x_block_normal (x_normal (wp_region_lit (l_op (f_val F22 rfl rfl (r_add (z := ((k + 1 : Nat) : Int)) rfl (F22.ev 8 rfl) rfl (by first | rfl | omega) ⟨by first | omega | (unfold i64ok at *; omega), by first | omega | (unfold i64ok at *; omega)⟩) rfl fun _ F27 => ?_)))))
       refine l_op (f_mv F27 rfl rfl rfl rfl rfl fun _ F28 => ?_)
       have F29 : Fr 19 [(8, .int .i64 ((k + 1 : Nat) : Int)), (7, .int .i64 ((s_n : Nat) : Int)), (0, .slice s_a s_n s_c), (1, .func (.func 84) #[] #[.pointer (some ⟨f_b, 0, none⟩)])] _ := F28.cut rfl
       clear F22 F27 F28
       refine s_end ?_
       refine x_normal ⟨k + 1, by omega, F29.cut rfl, ((S7.trans S20).pick [0] rfl), by omega, all_step hk_1 (fun c hc => by obtain rfl := Option.some.inj (hx1.symm.trans hc); assumption)⟩
   · skip
     refine wp_exit (x_then_exit (x_then_exit (x_block_here (x_normal (wp_seq (wp_region_lit (l_op (f_val F9 rfl rfl (r_assign rfl rfl) rfl fun _ F30 => ?_))))))))
     have F31 : Fr 19 [(4, .int .i64 (-1))] _ := F30.cut rfl
     clear F9 F30
     refine s_end (x_normal (wp_ret ?_))
     refine x_done (v := .int .i64 (-1)) F31 (results_1 Try.results122 (.tmp (F31.ev 4 rfl))) ?_
     exact ⟨(by rw [(show (-1) = (idxP (fun c : ByteArray => spansMeet f c) s) from by exact (idxP_none _ s (fun q hq y hy => hk_1 q (by omega) y (by rw [nth_eq]; exact hy))).symm)]), (Mv.pick S7 [0] rfl), idxP_ok _ s (by omega)⟩
theorem ContainsFunc_impl_MeetAny_1_c {w : World} {H : Nat → Prop} {s : List ByteArray} {s_a : Option Addr} {s_n s_c : Nat} {f_b : Nat} {f : ByteArray} (v_s : Rd 1 encS okS H w (.slice s_a s_n s_c) s) (h_f : okS f) (hA : At w [bx f_b [.string f] 9]) (hD : ∀ b, H b → ¬ fps [bx f_b [.string f] 9] b) :
    Calls Try.prog 83 #[.slice s_a s_n s_c, .func (.func 84) #[] #[.pointer (some ⟨f_b, 0, none⟩)]] w fun e w' => e = .returned (.bool (s.any (fun c : ByteArray => spansMeet f c))) ∧ Mv [bx f_b [.string f] 9] w [bx f_b [.string f] 9] w' := by
 have V_v_s : Rd 1 encS okS (V H w [bx f_b [.string f] 9]) w (.slice s_a s_n s_c) s := Rd.start v_s hD
 obtain ⟨ln_s, le_s, mx_s, ni_s⟩ := Rd.inv v_s
 refine calls_enter 9 Try.func83 rfl Try.ntmps83 (Nat.le_of_ble_eq_true rfl) (fun _ F0i => ?_)
 have F0 : Fr 9 [(0, .slice s_a s_n s_c), (1, .func (.func 84) #[] #[.pointer (some ⟨f_b, 0, none⟩)])] _ := F0i
 clear F0i
 refine wp_seq (wp_region_lit (l_op (f_val F0 rfl rfl (r_assign rfl rfl) rfl fun _ F1 => ?_)))
 have F2 : Fr 9 [(4, .bool false), (0, .slice s_a s_n s_c), (1, .func (.func 84) #[] #[.pointer (some ⟨f_b, 0, none⟩)])] _ := F1.cut rfl
 clear F0 F1
 refine s_end (x_normal (wp_seq (wp_region_lit (l_op (f_mv F2 rfl rfl rfl rfl rfl fun _ F3 => ?_)))))
 refine l_op (f_mv F3 rfl rfl rfl rfl rfl fun _ F4 => ?_)
 refine l_op (f_call F4 CF_122 rfl rfl rfl rfl (lc (F4.ev 5 rfl) (lc (F4.ev 6 rfl) rfl)) (IndexFuncS_impl_MeetAny_1_c (s := s) (f := f) V_v_s h_f (At.pick (is := [0]) hA rfl) (V_off (is := [0]))) ?_)
 rintro _ w5 ⟨rfl, m5, q5_0⟩
 refine ⟨_, rfl, fun _ F6 => ?_⟩
 have S5 : Mv _ _ [bx f_b [.string f] 9] _ := At.frame hA [0] rfl m5
 clear m5
 refine l_op (f_val F6 rfl rfl (r_cmp (b := decide ((idxP (fun c : ByteArray => spansMeet f c) s) ≥ 0)) (.inr (.inr (.inr (.inr (.inr rfl))))) rfl (F6.ev 7 rfl) rfl (dec_of (by omega))) rfl fun _ F7 => ?_)
 refine l_op (f_as F7 rfl rfl rfl rfl rfl fun _ F8 => ?_)
 have F9 : Fr 9 [(4, .bool (decide ((idxP (fun c : ByteArray => spansMeet f c) s) ≥ 0)))] _ := F8.cut rfl
 clear F2 F3 F4 F6 F7 F8
 refine s_end (x_normal (wp_ret ?_))
 refine x_done (v := .bool (decide ((idxP (fun c : ByteArray => spansMeet f c) s) ≥ 0))) F9 (results_1 Try.results83 (.tmp (F9.ev 4 rfl))) ?_
 exact ⟨(by rw [(show (decide ((idxP (fun c : ByteArray => spansMeet f c) s) ≥ 0)) = (s.any (fun c : ByteArray => spansMeet f c)) from by exact any_idx)]), (Mv.pick S5 [0] rfl)⟩
theorem impl_MeetAny_c {w : World} {H : Nat → Prop} {a : List ByteArray} {a_a : Option Addr} {a_n a_c : Nat} {b : List ByteArray} {b_a : Option Addr} {b_n b_c : Nat} (v_a : Rd 1 encS okS H w (.slice a_a a_n a_c) a) (v_b : Rd 1 encS okS H w (.slice b_a b_n b_c) b) :
    Calls Try.prog 33 #[.slice a_a a_n a_c, .slice b_a b_n b_c] w fun e w' => e = .returned (.bool (meetAny a b)) ∧ Mv [] w [] w' := by
 have V_v_a : Rd 1 encS okS (V H w []) w (.slice a_a a_n a_c) a := Rd.start v_a (fun _ _ => fps_nil _)
 obtain ⟨ln_a, le_a, mx_a, ni_a⟩ := Rd.inv v_a
 have V_v_b : Rd 1 encS okS (V H w []) w (.slice b_a b_n b_c) b := Rd.start v_b (fun _ _ => fps_nil _)
 obtain ⟨ln_b, le_b, mx_b, ni_b⟩ := Rd.inv v_b
 refine calls_enter 17 Try.func33 rfl Try.ntmps33 (Nat.le_of_ble_eq_true rfl) (fun _ F0i => ?_)
 have F0 : Fr 17 [(0, .slice a_a a_n a_c), (1, .slice b_a b_n b_c)] _ := F0i
 clear F0i
 refine wp_seq (wp_region_lit (l_op (f_val F0 rfl rfl (r_assign rfl rfl) rfl fun _ F1 => ?_)))
 have F2 : Fr 17 [(4, .bool false), (0, .slice a_a a_n a_c), (1, .slice b_a b_n b_c)] _ := F1.cut rfl
 clear F0 F1
 refine s_end (x_normal (wp_seq (wp_seq (wp_region_lit (l_op (f_mv F2 rfl rfl rfl rfl rfl fun _ F3 => ?_))))))
 refine l_op (f_val F3 rfl rfl (r_len Try.underlying22 rfl (F3.ev 7 rfl)) rfl fun _ F4 => ?_)
 refine l_op (f_val F4 rfl rfl (r_move rfl rfl) rfl fun _ F5 => ?_)
 have F6 : Fr 17 [(9, .int .i64 0), (8, .int .i64 ((a_n : Nat) : Int)), (7, .slice a_a a_n a_c), (1, .slice b_a b_n b_c)] _ := F5.cut rfl
 clear F2 F3 F4 F5
 refine s_end (x_normal (wp_block ?_))
 refine x_loop (fun (k : Nat) aZ wZ => Fr 17 [(9, .int .i64 ((k : Nat) : Int)), (8, .int .i64 ((a_n : Nat) : Int)), (7, .slice a_a a_n a_c), (1, .slice b_a b_n b_c)] aZ ∧ Mv [] w [] wZ ∧ (k ≤ a_n) ∧ (∀ j, j < k → ∀ x, nth a j = some x → (b.any fun y => spansMeet x y) = false)) (fun (k : Nat) => a_n - k) (0) ?_ ?_
 · exact ⟨F6.cut rfl, (Mv.refl (At.nil w)), by omega, all_none⟩
 · rintro k a7 w7 ⟨F7, S7, hk_0, hk_1⟩
   refine wp_seq (wp_region_lit (l_op (f_val F7 rfl rfl (r_cmp (b := decide (k < a_n)) (.inr (.inr (.inl rfl))) rfl (F7.ev 9 rfl) (F7.ev 8 rfl) (dec_of (by omega))) rfl fun _ F8 => ?_)))
   have F9 : Fr 17 [(10, .bool (decide (k < a_n))), (9, .int .i64 ((k : Nat) : Int)), (8, .int .i64 ((a_n : Nat) : Int)), (7, .slice a_a a_n a_c), (1, .slice b_a b_n b_c)] _ := F8.cut rfl
   clear F7 F8
   refine s_end (x_normal (wp_seq (x_cond (p := k < a_n) (F9.ev 10 rfl) (fun h10 => ?_) (fun h10 => ?_))))
   · skip
     refine wp_skip (x_normal (wp_seq (wp_block (wp_seq (wp_region_lit ?_)))))
     obtain ⟨B11, O11, x1, ad11, hx1, okx1, ln11, cl11⟩ := Rd.at (Rd.mv (Nat.succ_pos _) V_v_a S7) k (by first | assumption | omega)
     clear ln11
     refine l_op (f_val F9 rfl rfl (r_indexAddr (i := k) ET_22 rfl ((F9.ev 7 rfl).trans (by rw [ad11])) (F9.ev 9 rfl) (by omega) (by first | assumption | omega)) rfl fun _ F12 => ?_)
     refine l_op (f_val (v := .string x1) F12 rfl rfl (r_load (cs := [.string x1]) TI_9 rfl (F12.ev 11 rfl) rfl (fun _ => rfl) (elem_sub (f := 0) cl11 [.string x1] rfl)) rfl fun _ F13 => ?_)
     refine l_op (f_alloc F13 S7.at' ZI_9 rfl rfl rfl rfl rfl fun b14 _ w14 F15 S14 => ?_)
     refine l_op (s_store S14.at' 0 TI_9 rfl rfl rfl rfl rfl (F15.ev 6 rfl) (F15.ev 12 rfl) rfl rfl rfl rfl rfl fun w16 S16 => ?_)
     have F17 : Fr 17 [(6, .pointer (some ⟨b14, 0, none⟩)), (12, .string x1), (9, .int .i64 ((k : Nat) : Int)), (8, .int .i64 ((a_n : Nat) : Int)), (7, .slice a_a a_n a_c), (1, .slice b_a b_n b_c)] _ := F15.cut rfl
     clear F9 F12 F13 F15
     have T18 : Mv _ _ [bx b14 [.string x1] 9] _ := S16
     refine s_end (x_normal (wp_seq (wp_region_lit (l_op (f_mv F17 rfl rfl rfl rfl rfl fun _ F19 => ?_)))))
     refine l_op (f_val F19 rfl rfl (r_makeFuncL rfl (lc (F19.ev 6 rfl) rfl)) rfl fun _ F20 => ?_)
     refine l_op (f_call F20 CF_83 rfl rfl rfl rfl (lc (F20.ev 13 rfl) (lc (F20.ev 14 rfl) rfl)) (ContainsFunc_impl_MeetAny_1_c (s := b) (f := x1) (Rd.mv (Nat.succ_pos _) V_v_b (S7.trans (S14.trans T18))) okx1 (At.pick (is := [0]) T18.at' rfl) (V_off (is := [0]))) ?_)
     rintro _ w21 ⟨rfl, m21⟩
     refine ⟨_, rfl, fun _ F22 => ?_⟩
     have S21 : Mv _ _ [bx b14 [.string x1] 9] _ := At.frame T18.at' [0] rfl m21
     clear m21
     have F23 : Fr 17 [(15, .bool (b.any (fun c : ByteArray => spansMeet x1 c))), (9, .int .i64 ((k : Nat) : Int)), (8, .int .i64 ((a_n : Nat) : Int)), (7, .slice a_a a_n a_c), (1, .slice b_a b_n b_c)] _ := F22.cut rfl
     clear F17 F19 F20 F22
     refine s_end (x_normal (x_condb (b := (b.any (fun c : ByteArray => spansMeet x1 c))) (F23.ev 15 rfl) (fun h24 => ?_) (fun h24 => ?_)))
     · skip
       refine wp_seq (wp_region_lit (l_op (f_val F23 rfl rfl (r_assign rfl rfl) rfl fun _ F25 => ?_)))
       have F26 : Fr 17 [(4, .bool true)] _ := F25.cut rfl
       clear F23 F25
       refine s_end (x_normal (wp_ret (x_block_ret (x_then_ret (x_then_ret (x_block_ret (x_then_ret ?_)))))))
       refine x_done (v := .bool true) F26 (results_1 Try.results33 (.tmp (F26.ev 4 rfl))) ?_
       exact ⟨(by rw [(show true = (meetAny a b) from by exact (any_yes hx1 (by assumption)).symm)]), (Mv.pick (S7.trans (S14.trans (T18.trans S21))) [] rfl)⟩
     · skip
       refine wp_skip (x_block_normal (x_normal (wp_region_lit (l_op (f_val F23 rfl rfl (r_add (z := ((k + 1 : Nat) : Int)) rfl (F23.ev 9 rfl) rfl (by first | rfl | omega) ⟨by first | omega | (unfold i64ok at *; omega), by first | omega | (unfold i64ok at *; omega)⟩) rfl fun _ F27 => ?_)))))
       refine l_op (f_mv F27 rfl rfl rfl rfl rfl fun _ F28 => ?_)
       have F29 : Fr 17 [(9, .int .i64 ((k + 1 : Nat) : Int)), (8, .int .i64 ((a_n : Nat) : Int)), (7, .slice a_a a_n a_c), (1, .slice b_a b_n b_c)] _ := F28.cut rfl
       clear F23 F27 F28
       refine s_end ?_
       refine x_normal ⟨k + 1, by omega, F29.cut rfl, ((S7.trans (S14.trans (T18.trans S21))).pick [] rfl), by omega, all_step hk_1 (fun c hc => by obtain rfl := Option.some.inj (hx1.symm.trans hc); assumption)⟩
   · skip
     refine wp_exit (x_then_exit (x_then_exit (x_block_here (x_normal (wp_seq (wp_region_lit (l_op (f_val F9 rfl rfl (r_assign rfl rfl) rfl fun _ F30 => ?_))))))))
     have F31 : Fr 17 [(4, .bool false)] _ := F30.cut rfl
     clear F9 F30
     refine s_end (x_normal (wp_ret ?_))
     refine x_done (v := .bool false) F31 (results_1 Try.results33 (.tmp (F31.ev 4 rfl))) ?_
     exact ⟨(by rw [(show false = (meetAny a b) from by exact (any_no (by omega) hk_1).symm)]), (Mv.pick S7 [] rfl)⟩
theorem spec_MeetAny_c {w : World} {H : Nat → Prop} {a : List ByteArray} {a_a : Option Addr} {a_n a_c : Nat} {b : List ByteArray} {b_a : Option Addr} {b_n b_c : Nat} (v_a : Rd 1 encS okS H w (.slice a_a a_n a_c) a) (v_b : Rd 1 encS okS H w (.slice b_a b_n b_c) b) :
    Calls Try.prog 34 #[.slice a_a a_n a_c, .slice b_a b_n b_c] w fun e w' => e = .returned (.bool (meetAny a b)) ∧ Mv [] w [] w' := by
 have V_v_a : Rd 1 encS okS (V H w []) w (.slice a_a a_n a_c) a := Rd.start v_a (fun _ _ => fps_nil _)
 obtain ⟨ln_a, le_a, mx_a, ni_a⟩ := Rd.inv v_a
 have V_v_b : Rd 1 encS okS (V H w []) w (.slice b_a b_n b_c) b := Rd.start v_b (fun _ _ => fps_nil _)
 obtain ⟨ln_b, le_b, mx_b, ni_b⟩ := Rd.inv v_b
 refine calls_enter 28 Try.func34 rfl Try.ntmps34 (Nat.le_of_ble_eq_true rfl) (fun _ F0i => ?_)
 have F0 : Fr 28 [(0, .slice a_a a_n a_c), (1, .slice b_a b_n b_c)] _ := F0i
 clear F0i
 refine wp_seq (wp_region_lit (l_op (f_val F0 rfl rfl (r_assign rfl rfl) rfl fun _ F1 => ?_)))
 have F2 : Fr 28 [(4, .bool false), (0, .slice a_a a_n a_c), (1, .slice b_a b_n b_c)] _ := F1.cut rfl
 clear F0 F1
 refine s_end (x_normal (wp_seq (wp_seq (wp_region_lit (l_op (f_val F2 rfl rfl (r_assign rfl rfl) rfl fun _ F3 => ?_))))))
 have F4 : Fr 28 [(5, .int .i64 0), (0, .slice a_a a_n a_c), (1, .slice b_a b_n b_c)] _ := F3.cut rfl
 clear F2 F3
 refine s_end (x_normal (wp_block ?_))
 refine x_loop (fun (k : Nat) aZ wZ => Fr 28 [(5, .int .i64 ((k : Nat) : Int)), (0, .slice a_a a_n a_c), (1, .slice b_a b_n b_c)] aZ ∧ Mv [] w [] wZ ∧ (k ≤ a_n) ∧ (∀ j, j < k → ∀ x, nth a j = some x → (b.any fun y => spansMeet x y) = false)) (fun (k : Nat) => a_n - k) (0) ?_ ?_
 · exact ⟨F4.cut rfl, (Mv.refl (At.nil w)), by omega, all_none⟩
 · rintro k a5 w5 ⟨F5, S5, hk_0, hk_1⟩
   refine wp_seq (wp_seq (wp_region_lit (l_op (f_mv F5 rfl rfl rfl rfl rfl fun _ F6 => ?_))))
   refine l_op (f_mv F6 rfl rfl rfl rfl rfl fun _ F7 => ?_)
   refine l_op (f_val F7 rfl rfl (r_len Try.underlying22 rfl (F7.ev 8 rfl)) rfl fun _ F8 => ?_)
   refine l_op (f_val F8 rfl rfl (r_cmp (b := decide (k < a_n)) (.inr (.inr (.inl rfl))) rfl (F8.ev 7 rfl) (F8.ev 9 rfl) (dec_of (by omega))) rfl fun _ F9 => ?_)
   have F10 : Fr 28 [(10, .bool (decide (k < a_n))), (5, .int .i64 ((k : Nat) : Int)), (0, .slice a_a a_n a_c), (1, .slice b_a b_n b_c)] _ := F9.cut rfl
   clear F5 F6 F7 F8 F9
   refine s_end (x_normal (x_cond (p := k < a_n) (F10.ev 10 rfl) (fun h11 => ?_) (fun h11 => ?_)))
   · skip
     refine wp_skip (x_normal (wp_seq (wp_block (wp_seq (wp_region_lit (l_op (f_val F10 rfl rfl (r_assign rfl rfl) rfl fun _ F12 => ?_)))))))
     have F13 : Fr 28 [(6, .int .i64 0), (5, .int .i64 ((k : Nat) : Int)), (0, .slice a_a a_n a_c), (1, .slice b_a b_n b_c)] _ := F12.cut rfl
     clear F10 F12
     refine s_end (x_normal (wp_block ?_))
     refine x_loop (fun (q : Nat) aZ wZ => Fr 28 [(6, .int .i64 ((q : Nat) : Int)), (5, .int .i64 ((k : Nat) : Int)), (0, .slice a_a a_n a_c), (1, .slice b_a b_n b_c)] aZ ∧ Mv [] w5 [] wZ ∧ (q ≤ b_n) ∧ (∀ j, j < q → ∀ y, nth b j = some y → ∀ x, nth a k = some x → spansMeet x y = false)) (fun (q : Nat) => b_n - q) (0) ?_ ?_
     · exact ⟨F13.cut rfl, (Mv.refl S5.at'), by omega, all_none⟩
     · rintro q a14 w14 ⟨F14, S14, hq_0, hq_1⟩
       refine wp_seq (wp_seq (wp_region_lit (l_op (f_mv F14 rfl rfl rfl rfl rfl fun _ F15 => ?_))))
       refine l_op (f_mv F15 rfl rfl rfl rfl rfl fun _ F16 => ?_)
       refine l_op (f_val F16 rfl rfl (r_len Try.underlying22 rfl (F16.ev 14 rfl)) rfl fun _ F17 => ?_)
       refine l_op (f_val F17 rfl rfl (r_cmp (b := decide (q < b_n)) (.inr (.inr (.inl rfl))) rfl (F17.ev 13 rfl) (F17.ev 15 rfl) (dec_of (by omega))) rfl fun _ F18 => ?_)
       have F19 : Fr 28 [(16, .bool (decide (q < b_n))), (6, .int .i64 ((q : Nat) : Int)), (5, .int .i64 ((k : Nat) : Int)), (0, .slice a_a a_n a_c), (1, .slice b_a b_n b_c)] _ := F18.cut rfl
       clear F14 F15 F16 F17 F18
       refine s_end (x_normal (x_cond (p := q < b_n) (F19.ev 16 rfl) (fun h20 => ?_) (fun h20 => ?_)))
       · skip
         refine wp_skip (x_normal (wp_seq (wp_block (wp_seq ?_))))
         obtain ⟨x1, hx1, okx1⟩ := Rd.elem (Rd.mv (Nat.succ_pos _) V_v_a (S5.trans S14)) k (by first | assumption | omega)
         obtain ⟨x2, hx2, okx2⟩ := Rd.elem (Rd.mv (Nat.succ_pos _) V_v_b (S5.trans S14)) q (by first | assumption | omega)
         refine x_draw (fun aZ wZ => Fr 28 [(0, .slice a_a a_n a_c), (1, .slice b_a b_n b_c), (5, .int .i64 ((k : Nat) : Int)), (6, .int .i64 ((q : Nat) : Int)), (27, .bool (spansMeet x1 x2))] aZ ∧ Mv [] w14 [] wZ) [] mixed S14.at' (listed := #[false, false, false, false, false, false, false, false, false]) rfl (fun w22 S22 => ?_) [] rfl ?_
         · skip
           refine g_take F19 rfl (i := 0) (listed' := #[true, false, false, false, false, false, false, false, false]) rfl (by kernel_rfl) (by kernel_rfl) (by kernel_rfl) (fun _ _ _ h => h) (Sd.of (Mv.refl S22.at') [] rfl) rfl rfl rfl rfl (fun _ hz => (r_move rfl (F19.ev 0 rfl))) fun _ F23 => ?_
           refine g_take F23 rfl (i := 1) (listed' := #[true, true, false, false, false, false, false, false, false]) rfl (by kernel_rfl) (by kernel_rfl) (by kernel_rfl) (fun _ _ _ h => h) (Sd.of (Mv.refl S22.at') [] rfl) rfl rfl rfl rfl (fun _ hz => (r_move rfl (F23.ev 5 rfl))) fun _ F24 => ?_
           obtain ⟨B25, O25, y25, ad25, hy25, oky25, ln25, cl25⟩ := Rd.atK (Nat.succ_pos _) (Rd.mv (Nat.succ_pos _) V_v_a (S5.trans (S14.trans S22))) k (by first | assumption | omega)
           clear ln25
           obtain rfl := Option.some.inj (hx1.symm.trans hy25)
           clear hy25 oky25
           refine g_take F24 rfl (i := 2) (listed' := #[true, true, true, false, false, false, false, false, false]) rfl (by kernel_rfl) (by kernel_rfl) (by kernel_rfl) (fun _ _ _ h => h) (Sd.of (Mv.refl S22.at') [] rfl) rfl rfl rfl rfl (fun _ hz => (r_indexAddr (i := k) ET_22 rfl ((F24.ev 19 rfl).trans (by rw [ad25])) (F24.ev 20 rfl) (by omega) (by first | assumption | omega))) fun _ F26 => ?_
           refine g_take (v := .string x1) F26 rfl (i := 3) (listed' := #[true, true, true, true, false, false, false, false, false]) rfl (by kernel_rfl) (by kernel_rfl) (by kernel_rfl) (fun _ _ _ h => h) (Sd.of (Mv.refl S22.at') [] rfl) rfl rfl rfl rfl (fun _ hz => (r_load (cs := [.string x1]) TI_9 rfl (F26.ev 21 rfl) rfl (fun _ => rfl) (elem_sub (f := 0) (cl25 _ hz.kp) [.string x1] rfl))) fun _ F27 => ?_
           refine g_take F27 rfl (i := 4) (listed' := #[true, true, true, true, true, false, false, false, false]) rfl (by kernel_rfl) (by kernel_rfl) (by kernel_rfl) (fun _ _ _ h => h) (Sd.of (Mv.refl S22.at') [] rfl) rfl rfl rfl rfl (fun _ hz => (r_move rfl (F27.ev 1 rfl))) fun _ F28 => ?_
           refine g_take F28 rfl (i := 5) (listed' := #[true, true, true, true, true, true, false, false, false]) rfl (by kernel_rfl) (by kernel_rfl) (by kernel_rfl) (fun _ _ _ h => h) (Sd.of (Mv.refl S22.at') [] rfl) rfl rfl rfl rfl (fun _ hz => (r_move rfl (F28.ev 6 rfl))) fun _ F29 => ?_
           obtain ⟨B30, O30, y30, ad30, hy30, oky30, ln30, cl30⟩ := Rd.atK (Nat.succ_pos _) (Rd.mv (Nat.succ_pos _) V_v_b (S5.trans (S14.trans S22))) q (by first | assumption | omega)
           clear ln30
           obtain rfl := Option.some.inj (hx2.symm.trans hy30)
           clear hy30 oky30
           refine g_take F29 rfl (i := 6) (listed' := #[true, true, true, true, true, true, true, false, false]) rfl (by kernel_rfl) (by kernel_rfl) (by kernel_rfl) (fun _ _ _ h => h) (Sd.of (Mv.refl S22.at') [] rfl) rfl rfl rfl rfl (fun _ hz => (r_indexAddr (i := q) ET_22 rfl ((F29.ev 23 rfl).trans (by rw [ad30])) (F29.ev 24 rfl) (by omega) (by first | assumption | omega))) fun _ F31 => ?_
           refine g_take (v := .string x2) F31 rfl (i := 7) (listed' := #[true, true, true, true, true, true, true, true, false]) rfl (by kernel_rfl) (by kernel_rfl) (by kernel_rfl) (fun _ _ _ h => h) (Sd.of (Mv.refl S22.at') [] rfl) rfl rfl rfl rfl (fun _ hz => (r_load (cs := [.string x2]) TI_9 rfl (F31.ev 25 rfl) rfl (fun _ => rfl) (elem_sub (f := 0) (cl30 _ hz.kp) [.string x2] rfl))) fun _ F32 => ?_
           refine d_one (i := 8) (listed' := #[true, true, true, true, true, true, true, true, true]) rfl (by kernel_rfl) rfl rfl ?_
           refine f_call F32 CF_86 rfl rfl rfl rfl (lc (F32.ev 22 rfl) (lc (F32.ev 26 rfl) rfl)) (spec_SpansMeet_c (H := fun _ => True) (a := x1) (b := x2) okx1 okx2) ?_
           rintro _ w33 ⟨rfl, m33⟩
           refine ⟨_, rfl, fun _ F34 => ?_⟩
           have S33 := At.frame0 S22.at' m33
           clear m33
           refine ⟨Sd.of S33 [] rfl, ?_⟩
           refine wpAnyH_done (by kernel_rfl) (x_normal ?_) _
           exact ⟨F34.cut rfl, ((S22.trans S33).pick [] rfl)⟩
         · rintro a35 w35 ⟨F35, S35⟩
           refine x_normal (x_condb (b := (spansMeet x1 x2)) (F35.ev 27 rfl) (fun h36 => ?_) (fun h36 => ?_))
           · skip
             refine wp_seq (wp_region_lit (l_op (f_val F35 rfl rfl (r_assign rfl rfl) rfl fun _ F37 => ?_)))
             have F38 : Fr 28 [(4, .bool true)] _ := F37.cut rfl
             clear F35 F37
             refine s_end (x_normal (wp_ret (x_block_ret (x_then_ret (x_then_ret (x_block_ret (x_block_ret (x_then_ret (x_then_ret (x_block_ret (x_then_ret ?_)))))))))))
             refine x_done (v := .bool true) F38 (results_1 Try.results34 (.tmp (F38.ev 4 rfl))) ?_
             exact ⟨(by rw [(show true = (meetAny a b) from by exact (any_yes hx1 (any_yes hx2 (by assumption))).symm)]), (Mv.pick (S5.trans (S14.trans S35)) [] rfl)⟩
           · skip
             refine wp_skip (x_block_normal (x_normal (wp_region_lit (l_op (f_mv F35 rfl rfl rfl rfl rfl fun _ F39 => ?_)))))
             refine l_op (f_val F39 rfl rfl (r_add (z := ((q + 1 : Nat) : Int)) rfl (F39.ev 17 rfl) rfl (by first | rfl | omega) ⟨by first | omega | (unfold i64ok at *; omega), by first | omega | (unfold i64ok at *; omega)⟩) rfl fun _ F40 => ?_)
             refine l_op (f_as F40 rfl rfl rfl rfl rfl fun _ F41 => ?_)
             have F42 : Fr 28 [(6, .int .i64 ((q + 1 : Nat) : Int)), (0, .slice a_a a_n a_c), (1, .slice b_a b_n b_c), (5, .int .i64 ((k : Nat) : Int))] _ := F41.cut rfl
             clear F35 F39 F40 F41
             refine s_end ?_
             refine x_normal ⟨q + 1, by omega, F42.cut rfl, ((S14.trans S35).pick [] rfl), by omega, all_step hq_1 (fun c hc x hx => by obtain rfl := Option.some.inj (hx1.symm.trans hx); obtain rfl := Option.some.inj (hx2.symm.trans hc); assumption)⟩
       · skip
         refine wp_exit (x_then_exit (x_then_exit (x_block_here (x_block_normal (x_normal (wp_region_lit (l_op (f_mv F19 rfl rfl rfl rfl rfl fun _ F43 => ?_))))))))
         refine l_op (f_val F43 rfl rfl (r_add (z := ((k + 1 : Nat) : Int)) rfl (F43.ev 11 rfl) rfl (by first | rfl | omega) ⟨by first | omega | (unfold i64ok at *; omega), by first | omega | (unfold i64ok at *; omega)⟩) rfl fun _ F44 => ?_)
         refine l_op (f_as F44 rfl rfl rfl rfl rfl fun _ F45 => ?_)
         have F46 : Fr 28 [(5, .int .i64 ((k + 1 : Nat) : Int)), (0, .slice a_a a_n a_c), (1, .slice b_a b_n b_c)] _ := F45.cut rfl
         clear F19 F43 F44 F45
         refine s_end ?_
         refine x_normal ⟨k + 1, by omega, F46.cut rfl, ((S5.trans S14).pick [] rfl), by omega, all_step hk_1 (fun c hc => any_no (by omega) (fun j hj y hy => hq_1 j hj y hy c hc))⟩
   · skip
     refine wp_exit (x_then_exit (x_then_exit (x_block_here (x_normal (wp_seq (wp_region_lit (l_op (f_val F10 rfl rfl (r_assign rfl rfl) rfl fun _ F47 => ?_))))))))
     have F48 : Fr 28 [(4, .bool false)] _ := F47.cut rfl
     clear F10 F47
     refine s_end (x_normal (wp_ret ?_))
     refine x_done (v := .bool false) F48 (results_1 Try.results34 (.tmp (F48.ev 4 rfl))) ?_
     exact ⟨(by rw [(show false = (meetAny a b) from by exact (any_no (by omega) hk_1).symm)]), (Mv.pick S5 [] rfl)⟩
end Go.Proofs.Ytbbkihijhdpliaa
