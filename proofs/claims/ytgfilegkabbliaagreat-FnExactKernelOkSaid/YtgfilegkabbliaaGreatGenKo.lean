/-
  Walks: kernels that are as they should be.
-/
import Derived.Test.YtgfilegkabbliaaGreatDatKo
import Derived.Test.YtgfilegkabbliaaGreatGenFo
namespace Go.Proofs.YtgfilegkabbliaaGreat
open Go.ChangeShapes Go.WideShapes Go.ChangeAt Go.RowKit
set_option maxRecDepth 100000
set_option maxHeartbeats 1000000
theorem spec_l02Begins_c {w : World} {H : Nat → Prop} {s : ByteArray} {pfx : ByteArray} (h_s : okS s) (Q0 : okS pfx) :
    Calls Tryz.prog 92 #[.string s, .string pfx] w fun e w' => e = .returned (.bool (begins s pfx)) ∧ Mv [] w [] w' := by
 have uU : True := (fun _ _ _ => trivial) H h_s Q0
 clear uU
 refine calls_enter 18 Tryz.func92 rfl Tryz.ntmps92 (Nat.le_of_ble_eq_true rfl) (fun _ F0i => ?_)
 have F0 : Fr 18 [(0, .string s), (1, .string pfx)] _ := F0i
 clear F0i
 refine wp_seq (wp_region_lit (l_op (f_val F0 rfl rfl (r_assign rfl rfl) rfl fun _ F1 => ?_)))
 refine s_end (x_normal (wp_seq (wp_region_lit (l_op (f_mv F1 rfl rfl rfl rfl rfl fun _ F2 => ?_)))))
 refine l_op (f_val F2 rfl rfl (r_lenS (fun t ht => by cases ht; exact Tryz.underlying9) rfl rfl (F2.ev 5 rfl)) rfl fun _ F3 => ?_)
 refine l_op (f_mv F3 rfl rfl rfl rfl rfl fun _ F4 => ?_)
 refine l_op (f_val F4 rfl rfl (r_lenS (fun t ht => by cases ht; exact Tryz.underlying9) rfl rfl (F4.ev 7 rfl)) rfl fun _ F5 => ?_)
 refine l_op (f_val F5 rfl rfl (r_cmp (b := decide (s.size ≥ pfx.size)) (.inr (.inr (.inr (.inr (.inr rfl))))) rfl (F5.ev 6 rfl) (F5.ev 8 rfl) (dec_of (by omega))) rfl fun _ F6 => ?_)
 refine l_op (f_mv F6 rfl rfl rfl rfl rfl fun _ F7 => ?_)
 rcases Decidable.em (s.size ≥ pfx.size) with h8 | h8
 · rw [decide_eq_true h8] at F7
   refine l_op (f_mv F7 (wanted_g F7 rfl rfl rfl rfl) rfl rfl rfl rfl fun _ F9 => ?_)
   refine l_op (f_mv F9 (wanted_g F9 rfl rfl rfl rfl) rfl rfl rfl rfl fun _ F10 => ?_)
   refine l_op (f_val F10 (wanted_g F10 rfl rfl rfl rfl) rfl (r_lenS (fun t ht => by cases ht; exact Tryz.underlying9) rfl rfl (F10.ev 12 rfl)) rfl fun _ F11 => ?_)
   refine l_op (f_val F11 (wanted_g F11 rfl rfl rfl rfl) rfl (r_sliceS (l := 0) (h := pfx.size) Tryz.underlying9 rfl (F11.ev 11 rfl) rfl (F11.ev 13 rfl) (by first | assumption | omega) (by first | assumption | omega) rfl) rfl fun _ F12 => ?_)
   refine l_op (f_mv F12 (wanted_g F12 rfl rfl rfl rfl) rfl rfl rfl rfl fun _ F13 => ?_)
   refine l_op (f_val F13 (wanted_g F13 rfl rfl rfl rfl) rfl (r_cmps (b := (decide ((s.extract 0 pfx.size) = pfx))) (.inl rfl) rfl (F13.ev 14 rfl) (F13.ev 15 rfl) rfl) rfl fun _ F14 => ?_)
   refine l_op (f_val F14 rfl rfl (r_pick (b := true) rfl (F14.ev 10 rfl) (F14.ev 16 rfl)) rfl fun _ F15 => ?_)
   refine l_op (f_as F15 rfl rfl rfl rfl rfl fun _ F16 => ?_)
   have F17 : Fr 18 [(4, .bool (decide ((s.extract 0 pfx.size) = pfx)))] _ := F16.cut rfl
   clear F0 F1 F2 F3 F4 F5 F6 F7 F9 F10 F11 F12 F13 F14 F15 F16
   refine s_end (x_normal (wp_ret ?_))
   refine x_done (v := .bool (decide ((s.extract 0 pfx.size) = pfx))) F17 (results_1 Tryz.results92 (.tmp (F17.ev 4 rfl))) ?_
   exact ⟨(by rw [(show (decide ((s.extract 0 pfx.size) = pfx)) = (begins s pfx) from by unfold begins; by_cases hb : pfx.size ≤ s.size <;> simp_all <;> omega)]), (Mv.pick (Mv.refl (At.nil w)) [] rfl)⟩
 · rw [decide_eq_false h8] at F7
   refine l_op (f_skip F7 (wanted_g F7 rfl rfl rfl rfl) rfl rfl fun _ F18 => ?_)
   refine l_op (f_skip F18 (wanted_g F18 rfl rfl rfl rfl) rfl rfl fun _ F19 => ?_)
   refine l_op (f_skip F19 (wanted_g F19 rfl rfl rfl rfl) rfl rfl fun _ F20 => ?_)
   refine l_op (f_skip F20 (wanted_g F20 rfl rfl rfl rfl) rfl rfl fun _ F21 => ?_)
   refine l_op (f_skip F21 (wanted_g F21 rfl rfl rfl rfl) rfl rfl fun _ F22 => ?_)
   refine l_op (f_skip F22 (wanted_g F22 rfl rfl rfl rfl) rfl rfl fun _ F23 => ?_)
   refine l_op (f_val F23 rfl rfl (r_pick (b := false) rfl (F23.ev 10 rfl) rfl) rfl fun _ F24 => ?_)
   refine l_op (f_as F24 rfl rfl rfl rfl rfl fun _ F25 => ?_)
   have F26 : Fr 18 [(4, .bool false)] _ := F25.cut rfl
   clear F0 F1 F2 F3 F4 F5 F6 F7 F18 F19 F20 F21 F22 F23 F24 F25
   refine s_end (x_normal (wp_ret ?_))
   refine x_done (v := .bool false) F26 (results_1 Tryz.results92 (.tmp (F26.ev 4 rfl))) ?_
   exact ⟨(by rw [(show false = (begins s pfx) from by unfold begins; by_cases hb : pfx.size ≤ s.size <;> simp_all <;> omega)]), (Mv.pick (Mv.refl (At.nil w)) [] rfl)⟩
theorem internal_stringslite_HasPrefix_c {w : World} {H : Nat → Prop} {s : ByteArray} {pfx : ByteArray} (h_s : okS s) (Q0 : okS pfx) :
    Calls Tryz.prog 99 #[.string s, .string pfx] w fun e w' => e = .returned (.bool (begins s pfx)) ∧ Mv [] w [] w' := by
 have uU : True := (fun _ _ _ => trivial) H h_s Q0
 clear uU
 refine calls_enter 18 Tryz.func99 rfl Tryz.ntmps99 (Nat.le_of_ble_eq_true rfl) (fun _ F0i => ?_)
 have F0 : Fr 18 [(0, .string s), (1, .string pfx)] _ := F0i
 clear F0i
 refine wp_seq (wp_region_lit (l_op (f_val F0 rfl rfl (r_assign rfl rfl) rfl fun _ F1 => ?_)))
 refine s_end (x_normal (wp_seq (wp_region_lit (l_op (f_mv F1 rfl rfl rfl rfl rfl fun _ F2 => ?_)))))
 refine l_op (f_val F2 rfl rfl (r_lenS (fun t ht => by cases ht; exact Tryz.underlying9) rfl rfl (F2.ev 5 rfl)) rfl fun _ F3 => ?_)
 refine l_op (f_mv F3 rfl rfl rfl rfl rfl fun _ F4 => ?_)
 refine l_op (f_val F4 rfl rfl (r_lenS (fun t ht => by cases ht; exact Tryz.underlying9) rfl rfl (F4.ev 7 rfl)) rfl fun _ F5 => ?_)
 refine l_op (f_val F5 rfl rfl (r_cmp (b := decide (s.size ≥ pfx.size)) (.inr (.inr (.inr (.inr (.inr rfl))))) rfl (F5.ev 6 rfl) (F5.ev 8 rfl) (dec_of (by omega))) rfl fun _ F6 => ?_)
 refine l_op (f_mv F6 rfl rfl rfl rfl rfl fun _ F7 => ?_)
 rcases Decidable.em (s.size ≥ pfx.size) with h8 | h8
 · rw [decide_eq_true h8] at F7
   refine l_op (f_mv F7 (wanted_g F7 rfl rfl rfl rfl) rfl rfl rfl rfl fun _ F9 => ?_)
   refine l_op (f_mv F9 (wanted_g F9 rfl rfl rfl rfl) rfl rfl rfl rfl fun _ F10 => ?_)
   refine l_op (f_val F10 (wanted_g F10 rfl rfl rfl rfl) rfl (r_lenS (fun t ht => by cases ht; exact Tryz.underlying9) rfl rfl (F10.ev 12 rfl)) rfl fun _ F11 => ?_)
   refine l_op (f_val F11 (wanted_g F11 rfl rfl rfl rfl) rfl (r_sliceS (l := 0) (h := pfx.size) Tryz.underlying9 rfl (F11.ev 11 rfl) rfl (F11.ev 13 rfl) (by first | assumption | omega) (by first | assumption | omega) rfl) rfl fun _ F12 => ?_)
   refine l_op (f_mv F12 (wanted_g F12 rfl rfl rfl rfl) rfl rfl rfl rfl fun _ F13 => ?_)
   refine l_op (f_val F13 (wanted_g F13 rfl rfl rfl rfl) rfl (r_cmps (b := (decide ((s.extract 0 pfx.size) = pfx))) (.inl rfl) rfl (F13.ev 14 rfl) (F13.ev 15 rfl) rfl) rfl fun _ F14 => ?_)
   refine l_op (f_val F14 rfl rfl (r_pick (b := true) rfl (F14.ev 10 rfl) (F14.ev 16 rfl)) rfl fun _ F15 => ?_)
   refine l_op (f_as F15 rfl rfl rfl rfl rfl fun _ F16 => ?_)
   have F17 : Fr 18 [(4, .bool (decide ((s.extract 0 pfx.size) = pfx)))] _ := F16.cut rfl
   clear F0 F1 F2 F3 F4 F5 F6 F7 F9 F10 F11 F12 F13 F14 F15 F16
   refine s_end (x_normal (wp_ret ?_))
   refine x_done (v := .bool (decide ((s.extract 0 pfx.size) = pfx))) F17 (results_1 Tryz.results99 (.tmp (F17.ev 4 rfl))) ?_
   exact ⟨(by rw [(show (decide ((s.extract 0 pfx.size) = pfx)) = (begins s pfx) from by unfold begins; by_cases hb : pfx.size ≤ s.size <;> simp_all <;> omega)]), (Mv.pick (Mv.refl (At.nil w)) [] rfl)⟩
 · rw [decide_eq_false h8] at F7
   refine l_op (f_skip F7 (wanted_g F7 rfl rfl rfl rfl) rfl rfl fun _ F18 => ?_)
   refine l_op (f_skip F18 (wanted_g F18 rfl rfl rfl rfl) rfl rfl fun _ F19 => ?_)
   refine l_op (f_skip F19 (wanted_g F19 rfl rfl rfl rfl) rfl rfl fun _ F20 => ?_)
   refine l_op (f_skip F20 (wanted_g F20 rfl rfl rfl rfl) rfl rfl fun _ F21 => ?_)
   refine l_op (f_skip F21 (wanted_g F21 rfl rfl rfl rfl) rfl rfl fun _ F22 => ?_)
   refine l_op (f_skip F22 (wanted_g F22 rfl rfl rfl rfl) rfl rfl fun _ F23 => ?_)
   refine l_op (f_val F23 rfl rfl (r_pick (b := false) rfl (F23.ev 10 rfl) rfl) rfl fun _ F24 => ?_)
   refine l_op (f_as F24 rfl rfl rfl rfl rfl fun _ F25 => ?_)
   have F26 : Fr 18 [(4, .bool false)] _ := F25.cut rfl
   clear F0 F1 F2 F3 F4 F5 F6 F7 F18 F19 F20 F21 F22 F23 F24 F25
   refine s_end (x_normal (wp_ret ?_))
   refine x_done (v := .bool false) F26 (results_1 Tryz.results99 (.tmp (F26.ev 4 rfl))) ?_
   exact ⟨(by rw [(show false = (begins s pfx) from by unfold begins; by_cases hb : pfx.size ≤ s.size <;> simp_all <;> omega)]), (Mv.pick (Mv.refl (At.nil w)) [] rfl)⟩
theorem strings_HasPrefix_c {w : World} {H : Nat → Prop} {s : ByteArray} {pfx : ByteArray} (h_s : okS s) (Q0 : okS pfx) :
    Calls Tryz.prog 96 #[.string s, .string pfx] w fun e w' => e = .returned (.bool (begins s pfx)) ∧ Mv [] w [] w' := by
 have uU : True := (fun _ => trivial) H
 clear uU
 refine calls_enter 8 Tryz.func96 rfl Tryz.ntmps96 (Nat.le_of_ble_eq_true rfl) (fun _ F0i => ?_)
 have F0 : Fr 8 [(0, .string s), (1, .string pfx)] _ := F0i
 clear F0i
 refine wp_seq (wp_region_lit (l_op (f_val F0 rfl rfl (r_assign rfl rfl) rfl fun _ F1 => ?_)))
 refine s_end (x_normal (wp_seq (wp_region_lit (l_op (f_mv F1 rfl rfl rfl rfl rfl fun _ F2 => ?_)))))
 refine l_op (f_mv F2 rfl rfl rfl rfl rfl fun _ F3 => ?_)
 refine l_op (f_call F3 CF_99 rfl rfl rfl rfl (lc (F3.ev 5 rfl) (lc (F3.ev 6 rfl) rfl)) (internal_stringslite_HasPrefix_c (H := fun _ => True) (s := s) (pfx := pfx) h_s Q0) ?_)
 rintro _ w4 ⟨rfl, m4⟩
 refine ⟨_, rfl, fun _ F5 => ?_⟩
 have S4 := At.frame0 (At.nil w) m4
 clear m4
 refine l_op (f_as F5 rfl rfl rfl rfl rfl fun _ F6 => ?_)
 refine s_end (x_normal (wp_ret ?_))
 refine x_done (v := .bool (begins s pfx)) F6 (results_1 Tryz.results96 (.tmp (F6.ev 4 rfl))) ?_
 exact ⟨rfl, (Mv.pick S4 [] rfl)⟩
theorem internal_stringslite_HasSuffix_c {w : World} {H : Nat → Prop} {s : ByteArray} {suffix : ByteArray} (h_s : okS s) (Q0 : okS suffix) :
    Calls Tryz.prog 100 #[.string s, .string suffix] w fun e w' => e = .returned (.bool (hasSuf s suffix)) ∧ Mv [] w [] w' := by
 have uU : True := (fun _ _ => trivial) H Q0
 clear uU
 have kz := h_s
 unfold okS at kz
 refine calls_enter 21 Tryz.func100 rfl Tryz.ntmps100 (Nat.le_of_ble_eq_true rfl) (fun _ F0i => ?_)
 have F0 : Fr 21 [(0, .string s), (1, .string suffix)] _ := F0i
 clear F0i
 refine wp_seq (wp_region_lit (l_op (f_val F0 rfl rfl (r_assign rfl rfl) rfl fun _ F1 => ?_)))
 refine s_end (x_normal (wp_seq (wp_region_lit (l_op (f_mv F1 rfl rfl rfl rfl rfl fun _ F2 => ?_)))))
 refine l_op (f_val F2 rfl rfl (r_lenS (fun t ht => by cases ht; exact Tryz.underlying9) rfl rfl (F2.ev 5 rfl)) rfl fun _ F3 => ?_)
 refine l_op (f_mv F3 rfl rfl rfl rfl rfl fun _ F4 => ?_)
 refine l_op (f_val F4 rfl rfl (r_lenS (fun t ht => by cases ht; exact Tryz.underlying9) rfl rfl (F4.ev 7 rfl)) rfl fun _ F5 => ?_)
 refine l_op (f_val F5 rfl rfl (r_cmp (b := decide (s.size ≥ suffix.size)) (.inr (.inr (.inr (.inr (.inr rfl))))) rfl (F5.ev 6 rfl) (F5.ev 8 rfl) (dec_of (by omega))) rfl fun _ F6 => ?_)
 refine l_op (f_mv F6 rfl rfl rfl rfl rfl fun _ F7 => ?_)
 rcases Decidable.em (s.size ≥ suffix.size) with h8 | h8
 · rw [decide_eq_true h8] at F7
   refine l_op (f_mv F7 (wanted_g F7 rfl rfl rfl rfl) rfl rfl rfl rfl fun _ F9 => ?_)
   refine l_op (f_mv F9 (wanted_g F9 rfl rfl rfl rfl) rfl rfl rfl rfl fun _ F10 => ?_)
   refine l_op (f_val F10 (wanted_g F10 rfl rfl rfl rfl) rfl (r_lenS (fun t ht => by cases ht; exact Tryz.underlying9) rfl rfl (F10.ev 12 rfl)) rfl fun _ F11 => ?_)
   refine l_op (f_mv F11 (wanted_g F11 rfl rfl rfl rfl) rfl rfl rfl rfl fun _ F12 => ?_)
   refine l_op (f_val F12 (wanted_g F12 rfl rfl rfl rfl) rfl (r_lenS (fun t ht => by cases ht; exact Tryz.underlying9) rfl rfl (F12.ev 14 rfl)) rfl fun _ F13 => ?_)
   refine l_op (f_val F13 (wanted_g F13 rfl rfl rfl rfl) rfl (r_sub (z := ((s.size - suffix.size : Nat) : Int)) rfl (F13.ev 13 rfl) (F13.ev 15 rfl) (by first | rfl | omega) ⟨by first | omega | (unfold i64ok at *; omega), by first | omega | (unfold i64ok at *; omega)⟩) rfl fun _ F14 => ?_)
   refine l_op (f_val F14 (wanted_g F14 rfl rfl rfl rfl) rfl (r_sliceS (l := s.size - suffix.size) (h := s.size) Tryz.underlying9 rfl (F14.ev 11 rfl) (F14.ev 16 rfl) rfl (by first | assumption | omega) (by first | assumption | omega) rfl) rfl fun _ F15 => ?_)
   refine l_op (f_mv F15 (wanted_g F15 rfl rfl rfl rfl) rfl rfl rfl rfl fun _ F16 => ?_)
   refine l_op (f_val F16 (wanted_g F16 rfl rfl rfl rfl) rfl (r_cmps (b := (decide ((s.extract (s.size - suffix.size) s.size) = suffix))) (.inl rfl) rfl (F16.ev 17 rfl) (F16.ev 18 rfl) rfl) rfl fun _ F17 => ?_)
   refine l_op (f_val F17 rfl rfl (r_pick (b := true) rfl (F17.ev 10 rfl) (F17.ev 19 rfl)) rfl fun _ F18 => ?_)
   refine l_op (f_as F18 rfl rfl rfl rfl rfl fun _ F19 => ?_)
   have F20 : Fr 21 [(4, .bool (decide ((s.extract (s.size - suffix.size) s.size) = suffix)))] _ := F19.cut rfl
   clear F0 F1 F2 F3 F4 F5 F6 F7 F9 F10 F11 F12 F13 F14 F15 F16 F17 F18 F19
   refine s_end (x_normal (wp_ret ?_))
   refine x_done (v := .bool (decide ((s.extract (s.size - suffix.size) s.size) = suffix))) F20 (results_1 Tryz.results100 (.tmp (F20.ev 4 rfl))) ?_
   exact ⟨(by rw [(show (decide ((s.extract (s.size - suffix.size) s.size) = suffix)) = (hasSuf s suffix) from by unfold hasSuf; by_cases hb : suffix.size ≤ s.size <;> simp_all <;> omega)]), (Mv.pick (Mv.refl (At.nil w)) [] rfl)⟩
 · rw [decide_eq_false h8] at F7
   refine l_op (f_skip F7 (wanted_g F7 rfl rfl rfl rfl) rfl rfl fun _ F21 => ?_)
   refine l_op (f_skip F21 (wanted_g F21 rfl rfl rfl rfl) rfl rfl fun _ F22 => ?_)
   refine l_op (f_skip F22 (wanted_g F22 rfl rfl rfl rfl) rfl rfl fun _ F23 => ?_)
   refine l_op (f_skip F23 (wanted_g F23 rfl rfl rfl rfl) rfl rfl fun _ F24 => ?_)
   refine l_op (f_skip F24 (wanted_g F24 rfl rfl rfl rfl) rfl rfl fun _ F25 => ?_)
   refine l_op (f_skip F25 (wanted_g F25 rfl rfl rfl rfl) rfl rfl fun _ F26 => ?_)
   refine l_op (f_skip F26 (wanted_g F26 rfl rfl rfl rfl) rfl rfl fun _ F27 => ?_)
   refine l_op (f_skip F27 (wanted_g F27 rfl rfl rfl rfl) rfl rfl fun _ F28 => ?_)
   refine l_op (f_skip F28 (wanted_g F28 rfl rfl rfl rfl) rfl rfl fun _ F29 => ?_)
   refine l_op (f_val F29 rfl rfl (r_pick (b := false) rfl (F29.ev 10 rfl) rfl) rfl fun _ F30 => ?_)
   refine l_op (f_as F30 rfl rfl rfl rfl rfl fun _ F31 => ?_)
   have F32 : Fr 21 [(4, .bool false)] _ := F31.cut rfl
   clear F0 F1 F2 F3 F4 F5 F6 F7 F21 F22 F23 F24 F25 F26 F27 F28 F29 F30 F31
   refine s_end (x_normal (wp_ret ?_))
   refine x_done (v := .bool false) F32 (results_1 Tryz.results100 (.tmp (F32.ev 4 rfl))) ?_
   exact ⟨(by rw [(show false = (hasSuf s suffix) from by unfold hasSuf; by_cases hb : suffix.size ≤ s.size <;> simp_all <;> omega)]), (Mv.pick (Mv.refl (At.nil w)) [] rfl)⟩
theorem internal_stringslite_CutSuffix_c {w : World} {H : Nat → Prop} {s : ByteArray} {suffix : ByteArray} (h_s : okS s) (Q0 : okS suffix) :
    Calls Tryz.prog 98 #[.string s, .string suffix] w fun e w' => e = .returned (.tuple #[.string (cutSuf s suffix), .bool (hasSuf s suffix)]) ∧ Mv [] w [] w' ∧ okS (cutSuf s suffix) := by
 have uU : True := (fun _ => trivial) H
 clear uU
 have kz := h_s
 unfold okS at kz
 refine calls_enter 18 Tryz.func98 rfl Tryz.ntmps98 (Nat.le_of_ble_eq_true rfl) (fun _ F0i => ?_)
 have F0 : Fr 18 [(0, .string s), (1, .string suffix)] _ := F0i
 clear F0i
 refine wp_seq (wp_region_lit (l_op (f_val F0 rfl rfl (r_assign rfl rfl) rfl fun _ F1 => ?_)))
 refine l_op (f_val F1 rfl rfl (r_assign rfl rfl) rfl fun _ F2 => ?_)
 refine s_end (x_normal (wp_seq (wp_seq (wp_region_lit (l_op (f_mv F2 rfl rfl rfl rfl rfl fun _ F3 => ?_))))))
 refine l_op (f_mv F3 rfl rfl rfl rfl rfl fun _ F4 => ?_)
 refine l_op (f_call F4 CF_100 rfl rfl rfl rfl (lc (F4.ev 6 rfl) (lc (F4.ev 7 rfl) rfl)) (internal_stringslite_HasSuffix_c (H := fun _ => True) (s := s) (suffix := suffix) h_s Q0) ?_)
 rintro _ w5 ⟨rfl, m5⟩
 refine ⟨_, rfl, fun _ F6 => ?_⟩
 have S5 := At.frame0 (At.nil w) m5
 clear m5
 refine l_op (f_val F6 rfl rfl (r_not rfl (F6.ev 8 rfl)) rfl fun _ F7 => ?_)
 refine s_end (x_normal (x_condb (b := (!(hasSuf s suffix))) (F7.ev 9 rfl) (fun h8 => ?_) (fun h8 => ?_)))
 · skip
   refine wp_seq (wp_region_lit (l_op (f_mv F7 rfl rfl rfl rfl rfl fun _ F9 => ?_)))
   refine l_op (f_as F9 rfl rfl rfl rfl rfl fun _ F10 => ?_)
   refine l_op (f_val F10 rfl rfl (r_assign rfl rfl) rfl fun _ F11 => ?_)
   have F12 : Fr 18 [(5, .bool false), (4, .string s)] _ := F11.cut rfl
   clear F0 F1 F2 F3 F4 F6 F7 F9 F10 F11
   refine s_end (x_normal (wp_ret (x_then_ret ?_)))
   refine x_done (v := .tuple #[.string s, .bool false]) F12 (results_2 Tryz.results98 (.tmp (F12.ev 4 rfl)) (.tmp (F12.ev 5 rfl))) ?_
   exact ⟨(by rw [← (show s = (cutSuf s suffix) from by first | exact (nt (by assumption)).symm | exact (nf (by assumption)).symm | exact (cutSuf_no (nt (by assumption))).symm | exact (cutSuf_yes (nf (by assumption))).symm), (show false = (hasSuf s suffix) from by first | exact (nt (by assumption)).symm | exact (nf (by assumption)).symm | exact (cutSuf_no (nt (by assumption))).symm | exact (cutSuf_yes (nf (by assumption))).symm)]), (Mv.pick S5 [] rfl), ((show s = (cutSuf s suffix) from by first | exact (nt (by assumption)).symm | exact (nf (by assumption)).symm | exact (cutSuf_no (nt (by assumption))).symm | exact (cutSuf_yes (nf (by assumption))).symm) ▸ h_s)⟩
 · skip
   refine wp_skip (x_normal (wp_seq ?_))
   have hle := hasSuf_le (nf (by assumption))
   refine wp_region_lit (l_op (f_mv F7 rfl rfl rfl rfl rfl fun _ F13 => ?_))
   refine l_op (f_mv F13 rfl rfl rfl rfl rfl fun _ F14 => ?_)
   refine l_op (f_val F14 rfl rfl (r_lenS (fun t ht => by cases ht; exact Tryz.underlying9) rfl rfl (F14.ev 12 rfl)) rfl fun _ F15 => ?_)
   refine l_op (f_mv F15 rfl rfl rfl rfl rfl fun _ F16 => ?_)
   refine l_op (f_val F16 rfl rfl (r_lenS (fun t ht => by cases ht; exact Tryz.underlying9) rfl rfl (F16.ev 14 rfl)) rfl fun _ F17 => ?_)
   refine l_op (f_val F17 rfl rfl (r_sub (z := ((s.size - suffix.size : Nat) : Int)) rfl (F17.ev 13 rfl) (F17.ev 15 rfl) (by first | rfl | omega) ⟨by first | omega | (unfold i64ok at *; omega), by first | omega | (unfold i64ok at *; omega)⟩) rfl fun _ F18 => ?_)
   refine l_op (f_val F18 rfl rfl (r_sliceS (l := 0) (h := s.size - suffix.size) Tryz.underlying9 rfl (F18.ev 11 rfl) rfl (F18.ev 16 rfl) (by first | assumption | omega) (by first | assumption | omega) rfl) rfl fun _ F19 => ?_)
   refine l_op (f_as F19 rfl rfl rfl rfl rfl fun _ F20 => ?_)
   refine l_op (f_val F20 rfl rfl (r_assign rfl rfl) rfl fun _ F21 => ?_)
   have F22 : Fr 18 [(5, .bool true), (4, .string (s.extract 0 (s.size - suffix.size)))] _ := F21.cut rfl
   clear F0 F1 F2 F3 F4 F6 F7 F13 F14 F15 F16 F17 F18 F19 F20 F21
   refine s_end (x_normal (wp_ret ?_))
   refine x_done (v := .tuple #[.string (s.extract 0 (s.size - suffix.size)), .bool true]) F22 (results_2 Tryz.results98 (.tmp (F22.ev 4 rfl)) (.tmp (F22.ev 5 rfl))) ?_
   exact ⟨(by rw [(show (s.extract 0 (s.size - suffix.size)) = (cutSuf s suffix) from by first | exact (nt (by assumption)).symm | exact (nf (by assumption)).symm | exact (cutSuf_no (nt (by assumption))).symm | exact (cutSuf_yes (nf (by assumption))).symm), (show true = (hasSuf s suffix) from by first | exact (nt (by assumption)).symm | exact (nf (by assumption)).symm | exact (cutSuf_no (nt (by assumption))).symm | exact (cutSuf_yes (nf (by assumption))).symm)]), (Mv.pick S5 [] rfl), ((show (s.extract 0 (s.size - suffix.size)) = (cutSuf s suffix) from by first | exact (nt (by assumption)).symm | exact (nf (by assumption)).symm | exact (cutSuf_no (nt (by assumption))).symm | exact (cutSuf_yes (nf (by assumption))).symm) ▸ (okS_ext h_s))⟩
theorem strings_CutSuffix_c {w : World} {H : Nat → Prop} {s : ByteArray} {suffix : ByteArray} (h_s : okS s) (Q0 : okS suffix) :
    Calls Tryz.prog 95 #[.string s, .string suffix] w fun e w' => e = .returned (.tuple #[.string (cutSuf s suffix), .bool (hasSuf s suffix)]) ∧ Mv [] w [] w' ∧ okS (cutSuf s suffix) := by
 have uU : True := (fun _ => trivial) H
 clear uU
 refine calls_enter 11 Tryz.func95 rfl Tryz.ntmps95 (Nat.le_of_ble_eq_true rfl) (fun _ F0i => ?_)
 have F0 : Fr 11 [(0, .string s), (1, .string suffix)] _ := F0i
 clear F0i
 refine wp_seq (wp_region_lit (l_op (f_val F0 rfl rfl (r_assign rfl rfl) rfl fun _ F1 => ?_)))
 refine l_op (f_val F1 rfl rfl (r_assign rfl rfl) rfl fun _ F2 => ?_)
 refine s_end (x_normal (wp_seq (wp_region_lit (l_op (f_mv F2 rfl rfl rfl rfl rfl fun _ F3 => ?_)))))
 refine l_op (f_mv F3 rfl rfl rfl rfl rfl fun _ F4 => ?_)
 refine l_op (f_call F4 CF_98 rfl rfl rfl rfl (lc (F4.ev 6 rfl) (lc (F4.ev 7 rfl) rfl)) (internal_stringslite_CutSuffix_c (H := fun _ => True) (s := s) (suffix := suffix) h_s Q0) ?_)
 rintro _ w5 ⟨rfl, m5, Q1⟩
 refine ⟨_, rfl, fun _ F6 => ?_⟩
 have S5 := At.frame0 (At.nil w) m5
 clear m5
 refine l_op (f_val (v := .string (cutSuf s suffix)) F6 rfl rfl (r_extract rfl (F6.ev 8 rfl) rfl) rfl fun _ F7 => ?_)
 refine l_op (f_val (v := .bool (hasSuf s suffix)) F7 rfl rfl (r_extract rfl (F7.ev 8 rfl) rfl) rfl fun _ F8 => ?_)
 refine l_op (f_as F8 rfl rfl rfl rfl rfl fun _ F9 => ?_)
 refine l_op (f_as F9 rfl rfl rfl rfl rfl fun _ F10 => ?_)
 have F11 : Fr 11 [(5, .bool (hasSuf s suffix)), (4, .string (cutSuf s suffix))] _ := F10.cut rfl
 clear F0 F1 F2 F3 F4 F6 F7 F8 F9 F10
 refine s_end (x_normal (wp_ret ?_))
 refine x_done (v := .tuple #[.string (cutSuf s suffix), .bool (hasSuf s suffix)]) F11 (results_2 Tryz.results95 (.tmp (F11.ev 4 rfl)) (.tmp (F11.ev 5 rfl))) ?_
 exact ⟨rfl, (Mv.pick S5 [] rfl), Q1⟩
theorem impl_SpanHas_c {w : World} {H : Nat → Prop} {span : ByteArray} {key : ByteArray} (Q1 : okS span) (Q0 : okS key) :
    Calls Tryz.prog 97 #[.string span, .string key] w fun e w' => e = .returned (.bool (spanHas span key)) ∧ Mv [] w [] w' := by
 have uU : True := (fun _ => trivial) H
 clear uU
 refine calls_enter 19 Tryz.func97 rfl Tryz.ntmps97 (Nat.le_of_ble_eq_true rfl) (fun _ F0i => ?_)
 have F0 : Fr 19 [(0, .string span), (1, .string key)] _ := F0i
 clear F0i
 refine wp_seq (wp_region_lit (l_op (f_val F0 rfl rfl (r_assign rfl rfl) rfl fun _ F1 => ?_)))
 refine s_end (x_normal (wp_seq (wp_seq (wp_region_lit (l_op (f_mv F1 rfl rfl rfl rfl rfl fun _ F2 => ?_))))))
 refine l_op (f_call F2 CF_95 rfl rfl rfl rfl (lc (F2.ev 8 rfl) (lc rfl rfl)) (strings_CutSuffix_c (H := fun _ => True) (s := span) (suffix := (⟨#[42]⟩ : ByteArray)) Q1 (by unfold okS; decide)) ?_)
 rintro _ w3 ⟨rfl, m3, Q2⟩
 refine ⟨_, rfl, fun _ F4 => ?_⟩
 have S3 := At.frame0 (At.nil w) m3
 clear m3
 refine l_op (f_mv F4 rfl rfl rfl rfl rfl fun _ F5 => ?_)
 refine l_op (f_val (v := .string (cutSuf span (⟨#[42]⟩ : ByteArray))) F5 rfl rfl (r_extract rfl (F5.ev 7 rfl) rfl) rfl fun _ F6 => ?_)
 refine l_op (f_val (v := .bool (hasSuf span (⟨#[42]⟩ : ByteArray))) F6 rfl rfl (r_extract rfl (F6.ev 7 rfl) rfl) rfl fun _ F7 => ?_)
 refine l_op (f_as F7 rfl rfl rfl rfl rfl fun _ F8 => ?_)
 refine l_op (f_as F8 rfl rfl rfl rfl rfl fun _ F9 => ?_)
 refine s_end (x_normal (wp_seq (wp_region_lit (l_op (f_mv F9 rfl rfl rfl rfl rfl fun _ F10 => ?_)))))
 have F11 : Fr 19 [(12, .bool (hasSuf span (⟨#[42]⟩ : ByteArray))), (5, .string (cutSuf span (⟨#[42]⟩ : ByteArray))), (0, .string span), (1, .string key)] _ := F10.cut rfl
 clear F0 F1 F2 F4 F5 F6 F7 F8 F9 F10
 refine s_end (x_normal (x_condb (b := (hasSuf span (⟨#[42]⟩ : ByteArray))) (F11.ev 12 rfl) (fun h12 => ?_) (fun h12 => ?_)))
 · skip
   refine wp_seq (wp_region_lit (l_op (f_mv F11 rfl rfl rfl rfl rfl fun _ F13 => ?_)))
   refine l_op (f_mv F13 rfl rfl rfl rfl rfl fun _ F14 => ?_)
   refine l_op (f_call F14 CF_96 rfl rfl rfl rfl (lc (F14.ev 13 rfl) (lc (F14.ev 14 rfl) rfl)) (strings_HasPrefix_c (H := fun _ => True) (s := key) (pfx := cutSuf span (⟨#[42]⟩ : ByteArray)) Q0 Q2) ?_)
   rintro _ w15 ⟨rfl, m15⟩
   refine ⟨_, rfl, fun _ F16 => ?_⟩
   have S15 := At.frame0 S3.at' m15
   clear m15
   refine l_op (f_as F16 rfl rfl rfl rfl rfl fun _ F17 => ?_)
   have T18 : Mv _ _ [] _ := S15
   refine s_end (x_normal (wp_ret (x_then_ret ?_)))
   refine x_done (v := .bool (begins key (cutSuf span (⟨#[42]⟩ : ByteArray)))) F17 (results_1 Tryz.results97 (.tmp (F17.ev 4 rfl))) ?_
   exact ⟨(by rw [(show (begins key (cutSuf span (⟨#[42]⟩ : ByteArray))) = (spanHas span key) from by first | exact (spanHas_t (by assumption)).symm | exact (spanHas_f (by assumption)).symm)]), (Mv.pick (S3.trans T18) [] rfl)⟩
 · skip
   refine wp_skip (x_normal (wp_seq (wp_region_lit (l_op (f_mv F11 rfl rfl rfl rfl rfl fun _ F19 => ?_)))))
   refine l_op (f_mv F19 rfl rfl rfl rfl rfl fun _ F20 => ?_)
   refine l_op (f_val F20 rfl rfl (r_cmps (b := (decide (span = key))) (.inl rfl) rfl (F20.ev 16 rfl) (F20.ev 17 rfl) rfl) rfl fun _ F21 => ?_)
   refine l_op (f_as F21 rfl rfl rfl rfl rfl fun _ F22 => ?_)
   refine s_end (x_normal (wp_ret ?_))
   refine x_done (v := .bool (decide (span = key))) F22 (results_1 Tryz.results97 (.tmp (F22.ev 4 rfl))) ?_
   exact ⟨(by rw [(show (decide (span = key)) = (spanHas span key) from by first | exact (spanHas_t (by assumption)).symm | exact (spanHas_f (by assumption)).symm)]), (Mv.pick S3 [] rfl)⟩
theorem spec_l03Open_c {w : World} {H : Nat → Prop} {span : ByteArray} (Q0 : okS span) :
    Calls Tryz.prog 91 #[.string span] w fun e w' => e = .returned (.tuple #[.string (stemS span), .bool (openS span)]) ∧ Mv [] w [] w' ∧ okS (stemS span) := by
 have uU : True := (fun _ => trivial) H
 clear uU
 have kz := Q0
 unfold okS at kz
 refine calls_enter 21 Tryz.func91 rfl Tryz.ntmps91 (Nat.le_of_ble_eq_true rfl) (fun _ F0i => ?_)
 have F0 : Fr 21 [(0, .string span)] _ := F0i
 clear F0i
 refine wp_seq (wp_region_lit (l_op (f_val F0 rfl rfl (r_assign rfl rfl) rfl fun _ F1 => ?_)))
 refine l_op (f_val F1 rfl rfl (r_assign rfl rfl) rfl fun _ F2 => ?_)
 refine s_end (x_normal (wp_seq (wp_region_lit (l_op (f_mv F2 rfl rfl rfl rfl rfl fun _ F3 => ?_)))))
 refine l_op (f_val F3 rfl rfl (r_lenS (fun t ht => by cases ht; exact Tryz.underlying9) rfl rfl (F3.ev 5 rfl)) rfl fun _ F4 => ?_)
 refine l_op (f_as F4 rfl rfl rfl rfl rfl fun _ F5 => ?_)
 refine s_end (x_normal (wp_seq (wp_seq (wp_region_lit (l_op (f_mv F5 rfl rfl rfl rfl rfl fun _ F6 => ?_))))))
 refine l_op (f_val F6 rfl rfl (r_cmp (b := decide (span.size > 0)) (.inr (.inr (.inr (.inr (.inl rfl))))) rfl (F6.ev 7 rfl) rfl (dec_of (by omega))) rfl fun _ F7 => ?_)
 refine l_op (f_mv F7 rfl rfl rfl rfl rfl fun _ F8 => ?_)
 rcases Decidable.em (span.size > 0) with h9 | h9
 · rw [decide_eq_true h9] at F8
   refine l_op (f_mv F8 (wanted_g F8 rfl rfl rfl rfl) rfl rfl rfl rfl fun _ F10 => ?_)
   refine l_op (f_mv F10 (wanted_g F10 rfl rfl rfl rfl) rfl rfl rfl rfl fun _ F11 => ?_)
   refine l_op (f_val F11 (wanted_g F11 rfl rfl rfl rfl) rfl (r_sub (z := ((span.size - 1 : Nat) : Int)) rfl (F11.ev 11 rfl) rfl (by first | rfl | omega) ⟨by first | omega | (unfold i64ok at *; omega), by first | omega | (unfold i64ok at *; omega)⟩) rfl fun _ F12 => ?_)
   refine l_op (f_val F12 (wanted_g F12 rfl rfl rfl rfl) rfl (r_indexS (i := span.size - 1) Tryz.underlying9 rfl (F12.ev 10 rfl) (F12.ev 12 rfl) (by omega) (by first | assumption | omega)) rfl fun _ F13 => ?_)
   refine l_op (f_val F13 (wanted_g F13 rfl rfl rfl rfl) rfl (r_cmp (b := decide (byteAt span (span.size - 1) = 42)) (.inl rfl) rfl (F13.ev 13 rfl) rfl (dec_of (by omega))) rfl fun _ F14 => ?_)
   refine l_op (f_val F14 rfl rfl (r_pick (b := true) rfl (F14.ev 9 rfl) (F14.ev 14 rfl)) rfl fun _ F15 => ?_)
   have F16 : Fr 21 [(15, .bool (decide (byteAt span (span.size - 1) = 42))), (4, .int .i64 ((span.size : Nat) : Int)), (0, .string span)] _ := F15.cut rfl
   clear F0 F1 F2 F3 F4 F5 F6 F7 F8 F10 F11 F12 F13 F14 F15
   refine s_end (x_normal (x_cond (p := byteAt span (span.size - 1) = 42) (F16.ev 15 rfl) (fun h17 => ?_) (fun h17 => ?_)))
   · skip
     refine wp_seq (wp_region_lit (l_op (f_mv F16 rfl rfl rfl rfl rfl fun _ F18 => ?_)))
     refine l_op (f_mv F18 rfl rfl rfl rfl rfl fun _ F19 => ?_)
     refine l_op (f_val F19 rfl rfl (r_sub (z := ((span.size - 1 : Nat) : Int)) rfl (F19.ev 17 rfl) rfl (by first | rfl | omega) ⟨by first | omega | (unfold i64ok at *; omega), by first | omega | (unfold i64ok at *; omega)⟩) rfl fun _ F20 => ?_)
     refine l_op (f_val F20 rfl rfl (r_sliceS (l := 0) (h := span.size - 1) Tryz.underlying9 rfl (F20.ev 16 rfl) rfl (F20.ev 18 rfl) (by first | assumption | omega) (by first | assumption | omega) rfl) rfl fun _ F21 => ?_)
     refine l_op (f_as F21 rfl rfl rfl rfl rfl fun _ F22 => ?_)
     refine l_op (f_val F22 rfl rfl (r_assign rfl rfl) rfl fun _ F23 => ?_)
     refine s_end (x_normal (wp_ret (x_then_ret ?_)))
     refine x_done (v := .tuple #[.string (span.extract 0 (span.size - 1)), .bool true]) F23 (results_2 Tryz.results91 (.tmp (F23.ev 2 rfl)) (.tmp (F23.ev 3 rfl))) ?_
     exact ⟨(by rw [(show (span.extract 0 (span.size - 1)) = (stemS span) from by first | exact (openS_t (by assumption) (by assumption)).symm | exact (openS_f1 (by assumption)).symm | exact (openS_f2 (by assumption)).symm | exact (stemS_t (openS_t (by assumption) (by assumption))).symm | exact (stemS_f (openS_f1 (by assumption))).symm | exact (stemS_f (openS_f2 (by assumption))).symm), (show true = (openS span) from by first | exact (openS_t (by assumption) (by assumption)).symm | exact (openS_f1 (by assumption)).symm | exact (openS_f2 (by assumption)).symm | exact (stemS_t (openS_t (by assumption) (by assumption))).symm | exact (stemS_f (openS_f1 (by assumption))).symm | exact (stemS_f (openS_f2 (by assumption))).symm)]), (Mv.pick (Mv.refl (At.nil w)) [] rfl), ((show (span.extract 0 (span.size - 1)) = (stemS span) from by first | exact (openS_t (by assumption) (by assumption)).symm | exact (openS_f1 (by assumption)).symm | exact (openS_f2 (by assumption)).symm | exact (stemS_t (openS_t (by assumption) (by assumption))).symm | exact (stemS_f (openS_f1 (by assumption))).symm | exact (stemS_f (openS_f2 (by assumption))).symm) ▸ (okS_ext Q0))⟩
   · skip
     refine wp_skip (x_normal (wp_seq (wp_region_lit (l_op (f_mv F16 rfl rfl rfl rfl rfl fun _ F24 => ?_)))))
     refine l_op (f_as F24 rfl rfl rfl rfl rfl fun _ F25 => ?_)
     refine l_op (f_val F25 rfl rfl (r_assign rfl rfl) rfl fun _ F26 => ?_)
     refine s_end (x_normal (wp_ret ?_))
     refine x_done (v := .tuple #[.string span, .bool false]) F26 (results_2 Tryz.results91 (.tmp (F26.ev 2 rfl)) (.tmp (F26.ev 3 rfl))) ?_
     exact ⟨(by rw [← (show span = (stemS span) from by first | exact (openS_t (by assumption) (by assumption)).symm | exact (openS_f1 (by assumption)).symm | exact (openS_f2 (by assumption)).symm | exact (stemS_t (openS_t (by assumption) (by assumption))).symm | exact (stemS_f (openS_f1 (by assumption))).symm | exact (stemS_f (openS_f2 (by assumption))).symm), (show false = (openS span) from by first | exact (openS_t (by assumption) (by assumption)).symm | exact (openS_f1 (by assumption)).symm | exact (openS_f2 (by assumption)).symm | exact (stemS_t (openS_t (by assumption) (by assumption))).symm | exact (stemS_f (openS_f1 (by assumption))).symm | exact (stemS_f (openS_f2 (by assumption))).symm)]), (Mv.pick (Mv.refl (At.nil w)) [] rfl), ((show span = (stemS span) from by first | exact (openS_t (by assumption) (by assumption)).symm | exact (openS_f1 (by assumption)).symm | exact (openS_f2 (by assumption)).symm | exact (stemS_t (openS_t (by assumption) (by assumption))).symm | exact (stemS_f (openS_f1 (by assumption))).symm | exact (stemS_f (openS_f2 (by assumption))).symm) ▸ Q0)⟩
 · rw [decide_eq_false h9] at F8
   refine l_op (f_skip F8 (wanted_g F8 rfl rfl rfl rfl) rfl rfl fun _ F27 => ?_)
   refine l_op (f_skip F27 (wanted_g F27 rfl rfl rfl rfl) rfl rfl fun _ F28 => ?_)
   refine l_op (f_skip F28 (wanted_g F28 rfl rfl rfl rfl) rfl rfl fun _ F29 => ?_)
   refine l_op (f_skip F29 (wanted_g F29 rfl rfl rfl rfl) rfl rfl fun _ F30 => ?_)
   refine l_op (f_skip F30 (wanted_g F30 rfl rfl rfl rfl) rfl rfl fun _ F31 => ?_)
   refine l_op (f_val F31 rfl rfl (r_pick (b := false) rfl (F31.ev 9 rfl) rfl) rfl fun _ F32 => ?_)
   have F33 : Fr 21 [(15, .bool false), (4, .int .i64 ((span.size : Nat) : Int)), (0, .string span)] _ := F32.cut rfl
   clear F0 F1 F2 F3 F4 F5 F6 F7 F8 F27 F28 F29 F30 F31 F32
   refine s_end (x_normal (wp_cond_false (F33.ev 15 rfl) (wp_skip (x_normal (wp_seq (wp_region_lit (l_op (f_mv F33 rfl rfl rfl rfl rfl fun _ F34 => ?_))))))))
   refine l_op (f_as F34 rfl rfl rfl rfl rfl fun _ F35 => ?_)
   refine l_op (f_val F35 rfl rfl (r_assign rfl rfl) rfl fun _ F36 => ?_)
   refine s_end (x_normal (wp_ret ?_))
   refine x_done (v := .tuple #[.string span, .bool false]) F36 (results_2 Tryz.results91 (.tmp (F36.ev 2 rfl)) (.tmp (F36.ev 3 rfl))) ?_
   exact ⟨(by rw [← (show span = (stemS span) from by first | exact (openS_t (by assumption) (by assumption)).symm | exact (openS_f1 (by assumption)).symm | exact (openS_f2 (by assumption)).symm | exact (stemS_t (openS_t (by assumption) (by assumption))).symm | exact (stemS_f (openS_f1 (by assumption))).symm | exact (stemS_f (openS_f2 (by assumption))).symm), (show false = (openS span) from by first | exact (openS_t (by assumption) (by assumption)).symm | exact (openS_f1 (by assumption)).symm | exact (openS_f2 (by assumption)).symm | exact (stemS_t (openS_t (by assumption) (by assumption))).symm | exact (stemS_f (openS_f1 (by assumption))).symm | exact (stemS_f (openS_f2 (by assumption))).symm)]), (Mv.pick (Mv.refl (At.nil w)) [] rfl), ((show span = (stemS span) from by first | exact (openS_t (by assumption) (by assumption)).symm | exact (openS_f1 (by assumption)).symm | exact (openS_f2 (by assumption)).symm | exact (stemS_t (openS_t (by assumption) (by assumption))).symm | exact (stemS_f (openS_f1 (by assumption))).symm | exact (stemS_f (openS_f2 (by assumption))).symm) ▸ Q0)⟩
theorem spec_SpanHas_c {w : World} {H : Nat → Prop} {span : ByteArray} {key : ByteArray} (Q1 : okS span) (Q0 : okS key) :
    Calls Tryz.prog 93 #[.string span, .string key] w fun e w' => e = .returned (.bool (spanHas span key)) ∧ Mv [] w [] w' := by
 have uU : True := (fun _ => trivial) H
 clear uU
 refine calls_enter 19 Tryz.func93 rfl Tryz.ntmps93 (Nat.le_of_ble_eq_true rfl) (fun _ F0i => ?_)
 have F0 : Fr 19 [(0, .string span), (1, .string key)] _ := F0i
 clear F0i
 refine wp_seq (wp_region_lit (l_op (f_val F0 rfl rfl (r_assign rfl rfl) rfl fun _ F1 => ?_)))
 refine s_end (x_normal (wp_seq (wp_region_lit (l_op (f_mv F1 rfl rfl rfl rfl rfl fun _ F2 => ?_)))))
 refine l_op (f_call F2 CF_91 rfl rfl rfl rfl (lc (F2.ev 8 rfl) rfl) (spec_l03Open_c (H := fun _ => True) (span := span) Q1) ?_)
 rintro _ w3 ⟨rfl, m3, Q2⟩
 refine ⟨_, rfl, fun _ F4 => ?_⟩
 have S3 := At.frame0 (At.nil w) m3
 clear m3
 refine l_op (f_mv F4 rfl rfl rfl rfl rfl fun _ F5 => ?_)
 refine l_op (f_val (v := .string (stemS span)) F5 rfl rfl (r_extract rfl (F5.ev 7 rfl) rfl) rfl fun _ F6 => ?_)
 refine l_op (f_val (v := .bool (openS span)) F6 rfl rfl (r_extract rfl (F6.ev 7 rfl) rfl) rfl fun _ F7 => ?_)
 refine l_op (f_as F7 rfl rfl rfl rfl rfl fun _ F8 => ?_)
 refine l_op (f_as F8 rfl rfl rfl rfl rfl fun _ F9 => ?_)
 refine s_end (x_normal (wp_seq (wp_seq (wp_region_lit (l_op (f_mv F9 rfl rfl rfl rfl rfl fun _ F10 => ?_))))))
 have F11 : Fr 19 [(12, .bool (openS span)), (5, .string (stemS span)), (0, .string span), (1, .string key)] _ := F10.cut rfl
 clear F0 F1 F2 F4 F5 F6 F7 F8 F9 F10
 refine s_end (x_normal (x_condb (b := (openS span)) (F11.ev 12 rfl) (fun h12 => ?_) (fun h12 => ?_)))
 · skip
   refine wp_seq (wp_region_lit (l_op (f_mv F11 rfl rfl rfl rfl rfl fun _ F13 => ?_)))
   refine l_op (f_mv F13 rfl rfl rfl rfl rfl fun _ F14 => ?_)
   refine l_op (f_call F14 CF_92 rfl rfl rfl rfl (lc (F14.ev 13 rfl) (lc (F14.ev 14 rfl) rfl)) (spec_l02Begins_c (H := fun _ => True) (s := key) (pfx := stemS span) Q0 Q2) ?_)
   rintro _ w15 ⟨rfl, m15⟩
   refine ⟨_, rfl, fun _ F16 => ?_⟩
   have S15 := At.frame0 S3.at' m15
   clear m15
   refine l_op (f_as F16 rfl rfl rfl rfl rfl fun _ F17 => ?_)
   have T18 : Mv _ _ [] _ := S15
   refine s_end (x_normal (wp_ret (x_then_ret ?_)))
   refine x_done (v := .bool (begins key (stemS span))) F17 (results_1 Tryz.results93 (.tmp (F17.ev 4 rfl))) ?_
   exact ⟨(by rw [(show (begins key (stemS span)) = (spanHas span key) from by first | exact (spanHas_t (by assumption)).symm | exact (spanHas_f (by assumption)).symm)]), (Mv.pick (S3.trans T18) [] rfl)⟩
 · skip
   refine wp_skip (x_normal (wp_seq (wp_region_lit (l_op (f_mv F11 rfl rfl rfl rfl rfl fun _ F19 => ?_)))))
   refine l_op (f_mv F19 rfl rfl rfl rfl rfl fun _ F20 => ?_)
   refine l_op (f_val F20 rfl rfl (r_cmps (b := (decide (span = key))) (.inl rfl) rfl (F20.ev 16 rfl) (F20.ev 17 rfl) rfl) rfl fun _ F21 => ?_)
   refine l_op (f_as F21 rfl rfl rfl rfl rfl fun _ F22 => ?_)
   refine s_end (x_normal (wp_ret ?_))
   refine x_done (v := .bool (decide (span = key))) F22 (results_1 Tryz.results93 (.tmp (F22.ev 4 rfl))) ?_
   exact ⟨(by rw [(show (decide (span = key)) = (spanHas span key) from by first | exact (spanHas_t (by assumption)).symm | exact (spanHas_f (by assumption)).symm)]), (Mv.pick S3 [] rfl)⟩
theorem impl_SpansMeet_c {w : World} {H : Nat → Prop} {a : ByteArray} {b : ByteArray} (h_a : okS a) (h_b : okS b) :
    Calls Tryz.prog 87 #[.string a, .string b] w fun e w' => e = .returned (.bool (spansMeet a b)) ∧ Mv [] w [] w' := by
 have uU : True := (fun _ => trivial) H
 clear uU
 refine calls_enter 40 Tryz.func87 rfl Tryz.ntmps87 (Nat.le_of_ble_eq_true rfl) (fun _ F0i => ?_)
 have F0 : Fr 40 [(0, .string a), (1, .string b)] _ := F0i
 clear F0i
 refine wp_seq (wp_region_lit (l_op (f_val F0 rfl rfl (r_assign rfl rfl) rfl fun _ F1 => ?_)))
 refine s_end (x_normal (wp_seq (wp_region_lit (l_op (f_mv F1 rfl rfl rfl rfl rfl fun _ F2 => ?_)))))
 refine l_op (f_call F2 CF_95 rfl rfl rfl rfl (lc (F2.ev 10 rfl) (lc rfl rfl)) (strings_CutSuffix_c (H := fun _ => True) (s := a) (suffix := (⟨#[42]⟩ : ByteArray)) h_a (by unfold okS; decide)) ?_)
 rintro _ w3 ⟨rfl, m3, Q1⟩
 refine ⟨_, rfl, fun _ F4 => ?_⟩
 have S3 := At.frame0 (At.nil w) m3
 clear m3
 refine l_op (f_mv F4 rfl rfl rfl rfl rfl fun _ F5 => ?_)
 refine l_op (f_val (v := .string (cutSuf a (⟨#[42]⟩ : ByteArray))) F5 rfl rfl (r_extract rfl (F5.ev 9 rfl) rfl) rfl fun _ F6 => ?_)
 refine l_op (f_val (v := .bool (hasSuf a (⟨#[42]⟩ : ByteArray))) F6 rfl rfl (r_extract rfl (F6.ev 9 rfl) rfl) rfl fun _ F7 => ?_)
 refine l_op (f_as F7 rfl rfl rfl rfl rfl fun _ F8 => ?_)
 refine l_op (f_as F8 rfl rfl rfl rfl rfl fun _ F9 => ?_)
 refine s_end (x_normal (wp_seq (wp_region_lit (l_op (f_mv F9 rfl rfl rfl rfl rfl fun _ F10 => ?_)))))
 refine l_op (f_call F10 CF_95 rfl rfl rfl rfl (lc (F10.ev 15 rfl) (lc rfl rfl)) (strings_CutSuffix_c (H := fun _ => True) (s := b) (suffix := (⟨#[42]⟩ : ByteArray)) h_b (by unfold okS; decide)) ?_)
 rintro _ w11 ⟨rfl, m11, Q0⟩
 refine ⟨_, rfl, fun _ F12 => ?_⟩
 have S11 := At.frame0 S3.at' m11
 clear m11
 refine l_op (f_mv F12 rfl rfl rfl rfl rfl fun _ F13 => ?_)
 refine l_op (f_val (v := .string (cutSuf b (⟨#[42]⟩ : ByteArray))) F13 rfl rfl (r_extract rfl (F13.ev 14 rfl) rfl) rfl fun _ F14 => ?_)
 refine l_op (f_val (v := .bool (hasSuf b (⟨#[42]⟩ : ByteArray))) F14 rfl rfl (r_extract rfl (F14.ev 14 rfl) rfl) rfl fun _ F15 => ?_)
 refine l_op (f_as F15 rfl rfl rfl rfl rfl fun _ F16 => ?_)
 refine l_op (f_as F16 rfl rfl rfl rfl rfl fun _ F17 => ?_)
 have F18 : Fr 40 [(8, .bool (hasSuf b (⟨#[42]⟩ : ByteArray))), (7, .string (cutSuf b (⟨#[42]⟩ : ByteArray))), (6, .bool (hasSuf a (⟨#[42]⟩ : ByteArray))), (5, .string (cutSuf a (⟨#[42]⟩ : ByteArray))), (0, .string a), (1, .string b)] _ := F17.cut rfl
 clear F0 F1 F2 F4 F5 F6 F7 F8 F9 F10 F12 F13 F14 F15 F16 F17
 have T19 : Mv _ _ [] _ := S11
 refine s_end (x_normal (wp_seq (wp_block (wp_seq (wp_region_lit (l_op (f_mv F18 rfl rfl rfl rfl rfl fun _ F20 => ?_)))))))
 refine l_op (f_mv F20 rfl rfl rfl rfl rfl fun _ F21 => ?_)
 rcases Bool.eq_false_or_eq_true (hasSuf a (⟨#[42]⟩ : ByteArray)) with h22 | h22
 · rw [h22] at F21
   refine l_op (f_mv F21 (wanted_g F21 rfl rfl rfl rfl) rfl rfl rfl rfl fun _ F23 => ?_)
   refine l_op (f_val F23 rfl rfl (r_pick (b := true) rfl (F23.ev 21 rfl) (F23.ev 22 rfl)) rfl fun _ F24 => ?_)
   refine l_op (f_as F24 rfl rfl rfl rfl rfl fun _ F25 => ?_)
   refine s_end (x_normal (x_condb (b := (hasSuf b (⟨#[42]⟩ : ByteArray))) (F25.ev 19 rfl) (fun h26 => ?_) (fun h26 => ?_)))
   · skip
     refine wp_seq (wp_region_lit (l_op (f_mv F25 rfl rfl rfl rfl rfl fun _ F27 => ?_)))
     refine l_op (f_mv F27 rfl rfl rfl rfl rfl fun _ F28 => ?_)
     refine l_op (f_call F28 CF_96 rfl rfl rfl rfl (lc (F28.ev 24 rfl) (lc (F28.ev 25 rfl) rfl)) (strings_HasPrefix_c (H := fun _ => True) (s := cutSuf a (⟨#[42]⟩ : ByteArray)) (pfx := cutSuf b (⟨#[42]⟩ : ByteArray)) Q1 Q0) ?_)
     rintro _ w29 ⟨rfl, m29⟩
     refine ⟨_, rfl, fun _ F30 => ?_⟩
     have S29 := At.frame0 T19.at' m29
     clear m29
     refine l_op (f_mv F30 rfl rfl rfl rfl rfl fun _ F31 => ?_)
     rcases Bool.eq_false_or_eq_true (begins (cutSuf a (⟨#[42]⟩ : ByteArray)) (cutSuf b (⟨#[42]⟩ : ByteArray))) with h32 | h32
     · rw [h32] at F31
       refine l_op (f_skip F31 (wanted_g F31 rfl rfl rfl rfl) rfl rfl fun _ F33 => ?_)
       refine l_op (f_skip F33 (wanted_g F33 rfl rfl rfl rfl) rfl rfl fun _ F34 => ?_)
       refine l_op (f_skip F34 (wanted_g F34 rfl rfl rfl rfl) rfl rfl fun _ F35 => ?_)
       refine l_op (f_val F35 rfl rfl (r_pick (b := true) rfl (F35.ev 27 rfl) rfl) rfl fun _ F36 => ?_)
       refine l_op (f_as F36 rfl rfl rfl rfl rfl fun _ F37 => ?_)
       have F38 : Fr 40 [(4, .bool true)] _ := F37.cut rfl
       clear F18 F20 F21 F23 F24 F25 F27 F28 F30 F31 F33 F34 F35 F36 F37
       refine s_end (x_normal (wp_ret (x_block_ret (x_then_ret ?_))))
       refine x_done (v := .bool true) F38 (results_1 Tryz.results87 (.tmp (F38.ev 4 rfl))) ?_
       exact ⟨(by rw [(show true = (spansMeet a b) from by first | exact (sm_t1 (by assumption) (by assumption) (by assumption)).symm | exact (sm_t2 (by assumption) (by assumption) (by assumption)).symm | exact (sm_b (by assumption) (by assumption)).symm | exact (sm_s (by assumption) (by assumption)).symm | exact (sm_f (by assumption)).symm)]), (Mv.pick (S3.trans (T19.trans S29)) [] rfl)⟩
     · rw [h32] at F31
       refine l_op (f_mv F31 (wanted_g F31 rfl rfl rfl rfl) rfl rfl rfl rfl fun _ F39 => ?_)
       refine l_op (f_mv F39 (wanted_g F39 rfl rfl rfl rfl) rfl rfl rfl rfl fun _ F40 => ?_)
       refine l_op (f_call F40 CF_96 (wanted_g F40 rfl rfl rfl rfl) rfl rfl rfl (lc (F40.ev 28 rfl) (lc (F40.ev 29 rfl) rfl)) (strings_HasPrefix_c (H := fun _ => True) (s := cutSuf b (⟨#[42]⟩ : ByteArray)) (pfx := cutSuf a (⟨#[42]⟩ : ByteArray)) Q0 Q1) ?_)
       rintro _ w41 ⟨rfl, m41⟩
       refine ⟨_, rfl, fun _ F42 => ?_⟩
       have S41 := At.frame0 S29.at' m41
       clear m41
       refine l_op (f_val F42 rfl rfl (r_pick (b := false) rfl (F42.ev 27 rfl) (F42.ev 30 rfl)) rfl fun _ F43 => ?_)
       refine l_op (f_as F43 rfl rfl rfl rfl rfl fun _ F44 => ?_)
       have F45 : Fr 40 [(4, .bool (begins (cutSuf b (⟨#[42]⟩ : ByteArray)) (cutSuf a (⟨#[42]⟩ : ByteArray))))] _ := F44.cut rfl
       clear F18 F20 F21 F23 F24 F25 F27 F28 F30 F31 F39 F40 F42 F43 F44
       have T46 : Mv _ _ [] _ := S41
       refine s_end (x_normal (wp_ret (x_block_ret (x_then_ret ?_))))
       refine x_done (v := .bool (begins (cutSuf b (⟨#[42]⟩ : ByteArray)) (cutSuf a (⟨#[42]⟩ : ByteArray)))) F45 (results_1 Tryz.results87 (.tmp (F45.ev 4 rfl))) ?_
       exact ⟨(by rw [(show (begins (cutSuf b (⟨#[42]⟩ : ByteArray)) (cutSuf a (⟨#[42]⟩ : ByteArray))) = (spansMeet a b) from by first | exact (sm_t1 (by assumption) (by assumption) (by assumption)).symm | exact (sm_t2 (by assumption) (by assumption) (by assumption)).symm | exact (sm_b (by assumption) (by assumption)).symm | exact (sm_s (by assumption) (by assumption)).symm | exact (sm_f (by assumption)).symm)]), (Mv.pick (S3.trans (T19.trans (S29.trans T46))) [] rfl)⟩
   · skip
     refine wp_seq (wp_region_lit (l_op (f_mv F25 rfl rfl rfl rfl rfl fun _ F47 => ?_)))
     refine l_op (f_as F47 rfl rfl rfl rfl rfl fun _ F48 => ?_)
     refine s_end (x_normal (wp_cond_true (F48.ev 32 rfl) (wp_seq (wp_region_lit (l_op (f_mv F48 rfl rfl rfl rfl rfl fun _ F49 => ?_))))))
     refine l_op (f_mv F49 rfl rfl rfl rfl rfl fun _ F50 => ?_)
     refine l_op (f_call F50 CF_97 rfl rfl rfl rfl (lc (F50.ev 34 rfl) (lc (F50.ev 35 rfl) rfl)) (impl_SpanHas_c (H := fun _ => True) (span := a) (key := b) h_a h_b) ?_)
     rintro _ w51 ⟨rfl, m51⟩
     refine ⟨_, rfl, fun _ F52 => ?_⟩
     have S51 := At.frame0 T19.at' m51
     clear m51
     refine l_op (f_as F52 rfl rfl rfl rfl rfl fun _ F53 => ?_)
     have F54 : Fr 40 [(4, .bool (spanHas a b))] _ := F53.cut rfl
     clear F18 F20 F21 F23 F24 F25 F47 F48 F49 F50 F52 F53
     refine s_end (x_normal (wp_ret (x_block_ret (x_then_ret ?_))))
     refine x_done (v := .bool (spanHas a b)) F54 (results_1 Tryz.results87 (.tmp (F54.ev 4 rfl))) ?_
     exact ⟨(by rw [(show (spanHas a b) = (spansMeet a b) from by first | exact (sm_t1 (by assumption) (by assumption) (by assumption)).symm | exact (sm_t2 (by assumption) (by assumption) (by assumption)).symm | exact (sm_b (by assumption) (by assumption)).symm | exact (sm_s (by assumption) (by assumption)).symm | exact (sm_f (by assumption)).symm)]), (Mv.pick (S3.trans (T19.trans S51)) [] rfl)⟩
 · rw [h22] at F21
   refine l_op (f_skip F21 (wanted_g F21 rfl rfl rfl rfl) rfl rfl fun _ F55 => ?_)
   refine l_op (f_val F55 rfl rfl (r_pick (b := false) rfl (F55.ev 21 rfl) rfl) rfl fun _ F56 => ?_)
   refine l_op (f_as F56 rfl rfl rfl rfl rfl fun _ F57 => ?_)
   refine s_end (x_normal (wp_cond_false (F57.ev 19 rfl) (wp_seq (wp_region_lit (l_op (f_mv F57 rfl rfl rfl rfl rfl fun _ F58 => ?_))))))
   refine l_op (f_as F58 rfl rfl rfl rfl rfl fun _ F59 => ?_)
   refine s_end (x_normal (wp_cond_false (F59.ev 32 rfl) (wp_skip (x_block_normal (x_normal (wp_seq (wp_region_lit (l_op (f_mv F59 rfl rfl rfl rfl rfl fun _ F60 => ?_)))))))))
   refine l_op (f_mv F60 rfl rfl rfl rfl rfl fun _ F61 => ?_)
   refine l_op (f_call F61 CF_97 rfl rfl rfl rfl (lc (F61.ev 37 rfl) (lc (F61.ev 38 rfl) rfl)) (impl_SpanHas_c (H := fun _ => True) (span := b) (key := a) h_b h_a) ?_)
   rintro _ w62 ⟨rfl, m62⟩
   refine ⟨_, rfl, fun _ F63 => ?_⟩
   have S62 := At.frame0 T19.at' m62
   clear m62
   refine l_op (f_as F63 rfl rfl rfl rfl rfl fun _ F64 => ?_)
   have F65 : Fr 40 [(4, .bool (spanHas b a))] _ := F64.cut rfl
   clear F18 F20 F21 F55 F56 F57 F58 F59 F60 F61 F63 F64
   refine s_end (x_normal (wp_ret ?_))
   refine x_done (v := .bool (spanHas b a)) F65 (results_1 Tryz.results87 (.tmp (F65.ev 4 rfl))) ?_
   exact ⟨(by rw [(show (spanHas b a) = (spansMeet a b) from by first | exact (sm_t1 (by assumption) (by assumption) (by assumption)).symm | exact (sm_t2 (by assumption) (by assumption) (by assumption)).symm | exact (sm_b (by assumption) (by assumption)).symm | exact (sm_s (by assumption) (by assumption)).symm | exact (sm_f (by assumption)).symm)]), (Mv.pick (S3.trans (T19.trans S62)) [] rfl)⟩
theorem spec_SpansMeet_c {w : World} {H : Nat → Prop} {a : ByteArray} {b : ByteArray} (h_a : okS a) (h_b : okS b) :
    Calls Tryz.prog 81 #[.string a, .string b] w fun e w' => e = .returned (.bool (spansMeet a b)) ∧ Mv [] w [] w' := by
 have uU : True := (fun _ => trivial) H
 clear uU
 refine calls_enter 40 Tryz.func81 rfl Tryz.ntmps81 (Nat.le_of_ble_eq_true rfl) (fun _ F0i => ?_)
 have F0 : Fr 40 [(0, .string a), (1, .string b)] _ := F0i
 clear F0i
 refine wp_seq (wp_region_lit (l_op (f_val F0 rfl rfl (r_assign rfl rfl) rfl fun _ F1 => ?_)))
 refine s_end (x_normal (wp_seq (wp_region_lit (l_op (f_mv F1 rfl rfl rfl rfl rfl fun _ F2 => ?_)))))
 refine l_op (f_call F2 CF_91 rfl rfl rfl rfl (lc (F2.ev 10 rfl) rfl) (spec_l03Open_c (H := fun _ => True) (span := a) h_a) ?_)
 rintro _ w3 ⟨rfl, m3, Q0⟩
 refine ⟨_, rfl, fun _ F4 => ?_⟩
 have S3 := At.frame0 (At.nil w) m3
 clear m3
 refine l_op (f_mv F4 rfl rfl rfl rfl rfl fun _ F5 => ?_)
 refine l_op (f_val (v := .string (stemS a)) F5 rfl rfl (r_extract rfl (F5.ev 9 rfl) rfl) rfl fun _ F6 => ?_)
 refine l_op (f_val (v := .bool (openS a)) F6 rfl rfl (r_extract rfl (F6.ev 9 rfl) rfl) rfl fun _ F7 => ?_)
 refine l_op (f_as F7 rfl rfl rfl rfl rfl fun _ F8 => ?_)
 refine l_op (f_as F8 rfl rfl rfl rfl rfl fun _ F9 => ?_)
 refine s_end (x_normal (wp_seq (wp_region_lit (l_op (f_mv F9 rfl rfl rfl rfl rfl fun _ F10 => ?_)))))
 refine l_op (f_call F10 CF_91 rfl rfl rfl rfl (lc (F10.ev 15 rfl) rfl) (spec_l03Open_c (H := fun _ => True) (span := b) h_b) ?_)
 rintro _ w11 ⟨rfl, m11, Q1⟩
 refine ⟨_, rfl, fun _ F12 => ?_⟩
 have S11 := At.frame0 S3.at' m11
 clear m11
 refine l_op (f_mv F12 rfl rfl rfl rfl rfl fun _ F13 => ?_)
 refine l_op (f_val (v := .string (stemS b)) F13 rfl rfl (r_extract rfl (F13.ev 14 rfl) rfl) rfl fun _ F14 => ?_)
 refine l_op (f_val (v := .bool (openS b)) F14 rfl rfl (r_extract rfl (F14.ev 14 rfl) rfl) rfl fun _ F15 => ?_)
 refine l_op (f_as F15 rfl rfl rfl rfl rfl fun _ F16 => ?_)
 refine l_op (f_as F16 rfl rfl rfl rfl rfl fun _ F17 => ?_)
 have F18 : Fr 40 [(8, .bool (openS b)), (7, .string (stemS b)), (6, .bool (openS a)), (5, .string (stemS a)), (0, .string a), (1, .string b)] _ := F17.cut rfl
 clear F0 F1 F2 F4 F5 F6 F7 F8 F9 F10 F12 F13 F14 F15 F16 F17
 have T19 : Mv _ _ [] _ := S11
 refine s_end (x_normal (wp_seq (wp_block (wp_seq (wp_region_lit (l_op (f_mv F18 rfl rfl rfl rfl rfl fun _ F20 => ?_)))))))
 refine l_op (f_mv F20 rfl rfl rfl rfl rfl fun _ F21 => ?_)
 rcases Bool.eq_false_or_eq_true (openS a) with h22 | h22
 · rw [h22] at F21
   refine l_op (f_mv F21 (wanted_g F21 rfl rfl rfl rfl) rfl rfl rfl rfl fun _ F23 => ?_)
   refine l_op (f_val F23 rfl rfl (r_pick (b := true) rfl (F23.ev 21 rfl) (F23.ev 22 rfl)) rfl fun _ F24 => ?_)
   refine l_op (f_as F24 rfl rfl rfl rfl rfl fun _ F25 => ?_)
   refine s_end (x_normal (x_condb (b := (openS b)) (F25.ev 19 rfl) (fun h26 => ?_) (fun h26 => ?_)))
   · skip
     refine wp_seq (wp_region_lit (l_op (f_mv F25 rfl rfl rfl rfl rfl fun _ F27 => ?_)))
     refine l_op (f_mv F27 rfl rfl rfl rfl rfl fun _ F28 => ?_)
     refine l_op (f_call F28 CF_92 rfl rfl rfl rfl (lc (F28.ev 24 rfl) (lc (F28.ev 25 rfl) rfl)) (spec_l02Begins_c (H := fun _ => True) (s := stemS a) (pfx := stemS b) Q0 Q1) ?_)
     rintro _ w29 ⟨rfl, m29⟩
     refine ⟨_, rfl, fun _ F30 => ?_⟩
     have S29 := At.frame0 T19.at' m29
     clear m29
     refine l_op (f_mv F30 rfl rfl rfl rfl rfl fun _ F31 => ?_)
     rcases Bool.eq_false_or_eq_true (begins (stemS a) (stemS b)) with h32 | h32
     · rw [h32] at F31
       refine l_op (f_skip F31 (wanted_g F31 rfl rfl rfl rfl) rfl rfl fun _ F33 => ?_)
       refine l_op (f_skip F33 (wanted_g F33 rfl rfl rfl rfl) rfl rfl fun _ F34 => ?_)
       refine l_op (f_skip F34 (wanted_g F34 rfl rfl rfl rfl) rfl rfl fun _ F35 => ?_)
       refine l_op (f_val F35 rfl rfl (r_pick (b := true) rfl (F35.ev 27 rfl) rfl) rfl fun _ F36 => ?_)
       refine l_op (f_as F36 rfl rfl rfl rfl rfl fun _ F37 => ?_)
       have F38 : Fr 40 [(4, .bool true)] _ := F37.cut rfl
       clear F18 F20 F21 F23 F24 F25 F27 F28 F30 F31 F33 F34 F35 F36 F37
       refine s_end (x_normal (wp_ret (x_block_ret (x_then_ret ?_))))
       refine x_done (v := .bool true) F38 (results_1 Tryz.results81 (.tmp (F38.ev 4 rfl))) ?_
       exact ⟨(by rw [(show true = (spansMeet a b) from by first | exact (sm_t1 (by assumption) (by assumption) (by assumption)).symm | exact (sm_t2 (by assumption) (by assumption) (by assumption)).symm | exact (sm_b (by assumption) (by assumption)).symm | exact (sm_s (by assumption) (by assumption)).symm | exact (sm_f (by assumption)).symm)]), (Mv.pick (S3.trans (T19.trans S29)) [] rfl)⟩
     · rw [h32] at F31
       refine l_op (f_mv F31 (wanted_g F31 rfl rfl rfl rfl) rfl rfl rfl rfl fun _ F39 => ?_)
       refine l_op (f_mv F39 (wanted_g F39 rfl rfl rfl rfl) rfl rfl rfl rfl fun _ F40 => ?_)
       refine l_op (f_call F40 CF_92 (wanted_g F40 rfl rfl rfl rfl) rfl rfl rfl (lc (F40.ev 28 rfl) (lc (F40.ev 29 rfl) rfl)) (spec_l02Begins_c (H := fun _ => True) (s := stemS b) (pfx := stemS a) Q1 Q0) ?_)
       rintro _ w41 ⟨rfl, m41⟩
       refine ⟨_, rfl, fun _ F42 => ?_⟩
       have S41 := At.frame0 S29.at' m41
       clear m41
       refine l_op (f_val F42 rfl rfl (r_pick (b := false) rfl (F42.ev 27 rfl) (F42.ev 30 rfl)) rfl fun _ F43 => ?_)
       refine l_op (f_as F43 rfl rfl rfl rfl rfl fun _ F44 => ?_)
       have F45 : Fr 40 [(4, .bool (begins (stemS b) (stemS a)))] _ := F44.cut rfl
       clear F18 F20 F21 F23 F24 F25 F27 F28 F30 F31 F39 F40 F42 F43 F44
       have T46 : Mv _ _ [] _ := S41
       refine s_end (x_normal (wp_ret (x_block_ret (x_then_ret ?_))))
       refine x_done (v := .bool (begins (stemS b) (stemS a))) F45 (results_1 Tryz.results81 (.tmp (F45.ev 4 rfl))) ?_
       exact ⟨(by rw [(show (begins (stemS b) (stemS a)) = (spansMeet a b) from by first | exact (sm_t1 (by assumption) (by assumption) (by assumption)).symm | exact (sm_t2 (by assumption) (by assumption) (by assumption)).symm | exact (sm_b (by assumption) (by assumption)).symm | exact (sm_s (by assumption) (by assumption)).symm | exact (sm_f (by assumption)).symm)]), (Mv.pick (S3.trans (T19.trans (S29.trans T46))) [] rfl)⟩
   · skip
     refine wp_seq (wp_region_lit (l_op (f_mv F25 rfl rfl rfl rfl rfl fun _ F47 => ?_)))
     refine l_op (f_as F47 rfl rfl rfl rfl rfl fun _ F48 => ?_)
     refine s_end (x_normal (wp_cond_true (F48.ev 32 rfl) (wp_seq (wp_region_lit (l_op (f_mv F48 rfl rfl rfl rfl rfl fun _ F49 => ?_))))))
     refine l_op (f_mv F49 rfl rfl rfl rfl rfl fun _ F50 => ?_)
     refine l_op (f_call F50 CF_92 rfl rfl rfl rfl (lc (F50.ev 34 rfl) (lc (F50.ev 35 rfl) rfl)) (spec_l02Begins_c (H := fun _ => True) (s := b) (pfx := stemS a) h_b Q0) ?_)
     rintro _ w51 ⟨rfl, m51⟩
     refine ⟨_, rfl, fun _ F52 => ?_⟩
     have S51 := At.frame0 T19.at' m51
     clear m51
     refine l_op (f_as F52 rfl rfl rfl rfl rfl fun _ F53 => ?_)
     have F54 : Fr 40 [(4, .bool (begins b (stemS a)))] _ := F53.cut rfl
     clear F18 F20 F21 F23 F24 F25 F47 F48 F49 F50 F52 F53
     refine s_end (x_normal (wp_ret (x_block_ret (x_then_ret ?_))))
     refine x_done (v := .bool (begins b (stemS a))) F54 (results_1 Tryz.results81 (.tmp (F54.ev 4 rfl))) ?_
     exact ⟨(by rw [(show (begins b (stemS a)) = (spansMeet a b) from by first | exact (sm_t1 (by assumption) (by assumption) (by assumption)).symm | exact (sm_t2 (by assumption) (by assumption) (by assumption)).symm | exact (sm_b (by assumption) (by assumption)).symm | exact (sm_s (by assumption) (by assumption)).symm | exact (sm_f (by assumption)).symm)]), (Mv.pick (S3.trans (T19.trans S51)) [] rfl)⟩
 · rw [h22] at F21
   refine l_op (f_skip F21 (wanted_g F21 rfl rfl rfl rfl) rfl rfl fun _ F55 => ?_)
   refine l_op (f_val F55 rfl rfl (r_pick (b := false) rfl (F55.ev 21 rfl) rfl) rfl fun _ F56 => ?_)
   refine l_op (f_as F56 rfl rfl rfl rfl rfl fun _ F57 => ?_)
   refine s_end (x_normal (wp_cond_false (F57.ev 19 rfl) (wp_seq (wp_region_lit (l_op (f_mv F57 rfl rfl rfl rfl rfl fun _ F58 => ?_))))))
   refine l_op (f_as F58 rfl rfl rfl rfl rfl fun _ F59 => ?_)
   refine s_end (x_normal (wp_cond_false (F59.ev 32 rfl) (wp_skip (x_block_normal (x_normal (wp_seq (wp_region_lit (l_op (f_mv F59 rfl rfl rfl rfl rfl fun _ F60 => ?_)))))))))
   refine l_op (f_mv F60 rfl rfl rfl rfl rfl fun _ F61 => ?_)
   refine l_op (f_call F61 CF_93 rfl rfl rfl rfl (lc (F61.ev 37 rfl) (lc (F61.ev 38 rfl) rfl)) (spec_SpanHas_c (H := fun _ => True) (span := b) (key := a) h_b h_a) ?_)
   rintro _ w62 ⟨rfl, m62⟩
   refine ⟨_, rfl, fun _ F63 => ?_⟩
   have S62 := At.frame0 T19.at' m62
   clear m62
   refine l_op (f_as F63 rfl rfl rfl rfl rfl fun _ F64 => ?_)
   have F65 : Fr 40 [(4, .bool (spanHas b a))] _ := F64.cut rfl
   clear F18 F20 F21 F55 F56 F57 F58 F59 F60 F61 F63 F64
   refine s_end (x_normal (wp_ret ?_))
   refine x_done (v := .bool (spanHas b a)) F65 (results_1 Tryz.results81 (.tmp (F65.ev 4 rfl))) ?_
   exact ⟨(by rw [(show (spanHas b a) = (spansMeet a b) from by first | exact (sm_t1 (by assumption) (by assumption) (by assumption)).symm | exact (sm_t2 (by assumption) (by assumption) (by assumption)).symm | exact (sm_b (by assumption) (by assumption)).symm | exact (sm_s (by assumption) (by assumption)).symm | exact (sm_f (by assumption)).symm)]), (Mv.pick (S3.trans (T19.trans S62)) [] rfl)⟩
theorem impl_MeetAny_1_c {w : World} {H : Nat → Prop} {y : ByteArray} {x_b : Nat} {x : ByteArray} (h_y : okS y) (h_x : okS x) (hA : At w [bx x_b [.string x] 9]) :
    Calls Tryz.prog 86 #[.string y, .pointer (some ⟨x_b, 0, none⟩)] w fun e w' => e = .returned (.bool (spansMeet x y)) ∧ Mv [bx x_b [.string x] 9] w [bx x_b [.string x] 9] w' := by
 have uU : True := (fun _ => trivial) H
 clear uU
 refine calls_enter 7 Tryz.func86 rfl Tryz.ntmps86 (Nat.le_of_ble_eq_true rfl) (fun _ F0i => ?_)
 have F0 : Fr 7 [(0, .string y), (1, .pointer (some ⟨x_b, 0, none⟩))] _ := F0i
 clear F0i
 refine wp_seq (wp_region_lit (l_op (f_val F0 rfl rfl (r_assign rfl rfl) rfl fun _ F1 => ?_)))
 refine s_end (x_normal (wp_seq (wp_region_lit (l_op (f_val (v := .string x) F1 rfl rfl (r_loadB hA 0 TI_9 rfl rfl (F1.ev 1 rfl) rfl rfl (fun _ => rfl) rfl) rfl fun _ F2 => ?_)))))
 refine l_op (f_mv F2 rfl rfl rfl rfl rfl fun _ F3 => ?_)
 refine l_op (f_call F3 CF_87 rfl rfl rfl rfl (lc (F3.ev 4 rfl) (lc (F3.ev 5 rfl) rfl)) (impl_SpansMeet_c (H := fun _ => True) (a := x) (b := y) h_x h_y) ?_)
 rintro _ w4 ⟨rfl, m4⟩
 refine ⟨_, rfl, fun _ F5 => ?_⟩
 have S4 := At.frame0 hA m4
 clear m4
 refine l_op (f_as F5 rfl rfl rfl rfl rfl fun _ F6 => ?_)
 refine s_end (x_normal (wp_ret ?_))
 refine x_done (v := .bool (spansMeet x y)) F6 (results_1 Tryz.results86 (.tmp (F6.ev 3 rfl))) ?_
 exact ⟨rfl, (Mv.pick S4 [0] rfl)⟩
theorem IndexFuncS_impl_MeetAny_1_c {w : World} {H : Nat → Prop} {s : List ByteArray} {s_a : Option Addr} {s_n s_c : Nat} {f_b : Nat} {f : ByteArray} (v_s : Rd 1 encS okS H w (.slice s_a s_n s_c) s) (h_f : okS f) (hA : At w [bx f_b [.string f] 9]) (hD : ∀ b, H b → ¬ fps [bx f_b [.string f] 9] b) :
    Calls Tryz.prog 94 #[.slice s_a s_n s_c, .func (.func 86) #[] #[.pointer (some ⟨f_b, 0, none⟩)]] w fun e w' => e = .returned (.int .i64 (idxP (fun c : ByteArray => spansMeet f c) s)) ∧ Mv [bx f_b [.string f] 9] w [bx f_b [.string f] 9] w' ∧ i64ok (idxP (fun c : ByteArray => spansMeet f c) s) := by
 have Q0 : Rd 1 encS okS (V H w [bx f_b [.string f] 9]) w (.slice s_a s_n s_c) s := Rd.start v_s hD
 obtain ⟨ln_s, le_s, mx_s, ni_s⟩ := Rd.inv v_s
 refine calls_enter 19 Tryz.func94 rfl Tryz.ntmps94 (Nat.le_of_ble_eq_true rfl) (fun _ F0i => ?_)
 have F0 : Fr 19 [(0, .slice s_a s_n s_c), (1, .func (.func 86) #[] #[.pointer (some ⟨f_b, 0, none⟩)])] _ := F0i
 clear F0i
 refine wp_seq (wp_region_lit (l_op (f_val F0 rfl rfl (r_assign rfl rfl) rfl fun _ F1 => ?_)))
 refine s_end (x_normal (wp_seq (wp_seq (wp_region_lit (l_op (f_mv F1 rfl rfl rfl rfl rfl fun _ F2 => ?_))))))
 refine l_op (f_val F2 rfl rfl (r_len Tryz.underlying30 rfl (F2.ev 6 rfl)) rfl fun _ F3 => ?_)
 refine l_op (f_val F3 rfl rfl (r_move rfl rfl) rfl fun _ F4 => ?_)
 refine s_end (x_normal (wp_block ?_))
 refine x_loop (fun (k : Nat) aZ wZ => Fr 19 [(8, .int .i64 ((k : Nat) : Int)), (7, .int .i64 ((s_n : Nat) : Int)), (0, .slice s_a s_n s_c), (1, .func (.func 86) #[] #[.pointer (some ⟨f_b, 0, none⟩)])] aZ ∧ Mv [bx f_b [.string f] 9] w [bx f_b [.string f] 9] wZ ∧ (k ≤ s_n) ∧ (∀ j, j < k → ∀ c, nth s j = some c → spansMeet f c = false)) (fun (k : Nat) => s_n - k) (0) ?_ ?_
 · exact ⟨F4.cut rfl, (Mv.refl hA), by omega, all_none⟩
 · rintro k a5 w5 ⟨F5, S5, hk_0, hk_1⟩
   refine wp_seq (wp_region_lit (l_op (f_val F5 rfl rfl (r_cmp (b := decide (k < s_n)) (.inr (.inr (.inl rfl))) rfl (F5.ev 8 rfl) (F5.ev 7 rfl) (dec_of (by omega))) rfl fun _ F6 => ?_)))
   refine s_end (x_normal (wp_seq (x_cond (p := k < s_n) (F6.ev 9 rfl) (fun h7 => ?_) (fun h7 => ?_))))
   · skip
     refine wp_skip (x_normal (wp_seq (wp_block (wp_seq (wp_region_lit (l_op (f_mv F6 rfl rfl rfl rfl rfl fun _ F8 => ?_)))))))
     refine l_op (f_as F8 rfl rfl rfl rfl rfl fun _ F9 => ?_)
     refine s_end (x_normal (wp_seq (wp_region_lit (l_op (f_mv F9 rfl rfl rfl rfl rfl fun _ F10 => ?_)))))
     refine l_op (f_mv F10 rfl rfl rfl rfl rfl fun _ F11 => ?_)
     refine l_op (f_mv F11 rfl rfl rfl rfl rfl fun _ F12 => ?_)
     obtain ⟨B13, O13, x1, ad13, hx1, okx1, ln13, cl13⟩ := Rd.at (Rd.mv (Nat.succ_pos _) Q0 S5) k (by first | assumption | omega)
     clear ln13
     refine l_op (f_val F12 rfl rfl (r_indexAddr (i := k) ET_30 rfl ((F12.ev 12 rfl).trans (by rw [ad13])) (F12.ev 13 rfl) (by omega) (by first | assumption | omega)) rfl fun _ F14 => ?_)
     refine l_op (f_val (v := .string x1) F14 rfl rfl (r_load (cs := [.string x1]) TI_9 rfl (F14.ev 14 rfl) rfl (fun _ => rfl) (elem_sub (f := 0) cl13 [.string x1] rfl)) rfl fun _ F15 => ?_)
     refine l_op (f_callv F15 CF_86 rfl rfl rfl rfl (F15.ev 11 rfl) (lc (F15.ev 15 rfl) rfl) (impl_MeetAny_1_c (H := fun _ => True) (y := x1) (x := f) okx1 h_f (At.pick (is := [0]) S5.at' rfl)) ?_)
     rintro _ w16 ⟨rfl, m16⟩
     refine ⟨_, rfl, fun _ F17 => ?_⟩
     have S16 : Mv _ _ [bx f_b [.string f] 9] _ := At.frame S5.at' [0] rfl m16
     clear m16
     have F18 : Fr 19 [(16, .bool (spansMeet f x1)), (5, .int .i64 ((k : Nat) : Int)), (8, .int .i64 ((k : Nat) : Int)), (7, .int .i64 ((s_n : Nat) : Int)), (0, .slice s_a s_n s_c), (1, .func (.func 86) #[] #[.pointer (some ⟨f_b, 0, none⟩)])] _ := F17.cut rfl
     clear F5 F6 F8 F9 F10 F11 F12 F14 F15 F17
     refine s_end (x_normal (x_condb (b := (spansMeet f x1)) (F18.ev 16 rfl) (fun h19 => ?_) (fun h19 => ?_)))
     · skip
       refine wp_seq (wp_region_lit (l_op (f_mv F18 rfl rfl rfl rfl rfl fun _ F20 => ?_)))
       refine l_op (f_as F20 rfl rfl rfl rfl rfl fun _ F21 => ?_)
       refine s_end (x_normal (wp_ret (x_block_ret (x_then_ret (x_then_ret (x_block_ret (x_then_ret ?_)))))))
       refine x_done (v := .int .i64 ((k : Nat) : Int)) F21 (results_1 Tryz.results94 (.tmp (F21.ev 4 rfl))) ?_
       exact ⟨(by rw [(show ((k : Nat) : Int) = (idxP (fun c : ByteArray => spansMeet f c) s) from by exact (idxP_found _ s k _ (by rw [← nth_eq]; exact hx1) (by assumption) (fun q hq y hy => hk_1 q hq y (by rw [nth_eq]; exact hy))).symm)]), (Mv.pick (S5.trans S16) [0] rfl), idxP_ok _ s (by omega)⟩
     · skip
       refine wp_skip (x_block_normal (x_normal (wp_region_lit (l_op (f_val F18 rfl rfl (r_add (z := ((k + 1 : Nat) : Int)) rfl (F18.ev 8 rfl) rfl (by first | rfl | omega) ⟨by first | omega | (unfold i64ok at *; omega), by first | omega | (unfold i64ok at *; omega)⟩) rfl fun _ F22 => ?_)))))
       refine l_op (f_mv F22 rfl rfl rfl rfl rfl fun _ F23 => ?_)
       refine s_end ?_
       refine x_normal ⟨k + 1, by omega, F23.cut rfl, ((S5.trans S16).pick [0] rfl), by omega, all_step hk_1 (fun c hc => by obtain rfl := Option.some.inj (hx1.symm.trans hc); assumption)⟩
   · skip
     refine wp_exit (x_then_exit (x_then_exit (x_block_here (x_normal (wp_seq (wp_region_lit (l_op (f_val F6 rfl rfl (r_assign rfl rfl) rfl fun _ F24 => ?_))))))))
     refine s_end (x_normal (wp_ret ?_))
     refine x_done (v := .int .i64 (-1)) F24 (results_1 Tryz.results94 (.tmp (F24.ev 4 rfl))) ?_
     exact ⟨(by rw [(show (-1) = (idxP (fun c : ByteArray => spansMeet f c) s) from by exact (idxP_none _ s (fun q hq y hy => hk_1 q (by omega) y (by rw [nth_eq]; exact hy))).symm)]), (Mv.pick S5 [0] rfl), idxP_ok _ s (by omega)⟩
theorem ContainsFunc_impl_MeetAny_1_c {w : World} {H : Nat → Prop} {s : List ByteArray} {s_a : Option Addr} {s_n s_c : Nat} {f_b : Nat} {f : ByteArray} (v_s : Rd 1 encS okS H w (.slice s_a s_n s_c) s) (h_f : okS f) (hA : At w [bx f_b [.string f] 9]) (hD : ∀ b, H b → ¬ fps [bx f_b [.string f] 9] b) :
    Calls Tryz.prog 85 #[.slice s_a s_n s_c, .func (.func 86) #[] #[.pointer (some ⟨f_b, 0, none⟩)]] w fun e w' => e = .returned (.bool (s.any (fun c : ByteArray => spansMeet f c))) ∧ Mv [bx f_b [.string f] 9] w [bx f_b [.string f] 9] w' := by
 have Q0 : Rd 1 encS okS (V H w [bx f_b [.string f] 9]) w (.slice s_a s_n s_c) s := Rd.start v_s hD
 obtain ⟨ln_s, le_s, mx_s, ni_s⟩ := Rd.inv v_s
 refine calls_enter 9 Tryz.func85 rfl Tryz.ntmps85 (Nat.le_of_ble_eq_true rfl) (fun _ F0i => ?_)
 have F0 : Fr 9 [(0, .slice s_a s_n s_c), (1, .func (.func 86) #[] #[.pointer (some ⟨f_b, 0, none⟩)])] _ := F0i
 clear F0i
 refine wp_seq (wp_region_lit (l_op (f_val F0 rfl rfl (r_assign rfl rfl) rfl fun _ F1 => ?_)))
 refine s_end (x_normal (wp_seq (wp_region_lit (l_op (f_mv F1 rfl rfl rfl rfl rfl fun _ F2 => ?_)))))
 refine l_op (f_mv F2 rfl rfl rfl rfl rfl fun _ F3 => ?_)
 refine l_op (f_call F3 CF_94 rfl rfl rfl rfl (lc (F3.ev 5 rfl) (lc (F3.ev 6 rfl) rfl)) (IndexFuncS_impl_MeetAny_1_c (s := s) (f := f) Q0 h_f (At.pick (is := [0]) hA rfl) (V_off (is := [0]))) ?_)
 rintro _ w4 ⟨rfl, m4, q4_0⟩
 refine ⟨_, rfl, fun _ F5 => ?_⟩
 have S4 : Mv _ _ [bx f_b [.string f] 9] _ := At.frame hA [0] rfl m4
 clear m4
 refine l_op (f_val F5 rfl rfl (r_cmp (b := decide ((idxP (fun c : ByteArray => spansMeet f c) s) ≥ 0)) (.inr (.inr (.inr (.inr (.inr rfl))))) rfl (F5.ev 7 rfl) rfl (dec_of (by omega))) rfl fun _ F6 => ?_)
 refine l_op (f_as F6 rfl rfl rfl rfl rfl fun _ F7 => ?_)
 refine s_end (x_normal (wp_ret ?_))
 refine x_done (v := .bool (decide ((idxP (fun c : ByteArray => spansMeet f c) s) ≥ 0))) F7 (results_1 Tryz.results85 (.tmp (F7.ev 4 rfl))) ?_
 exact ⟨(by rw [(show (decide ((idxP (fun c : ByteArray => spansMeet f c) s) ≥ 0)) = (s.any (fun c : ByteArray => spansMeet f c)) from by exact any_idx)]), (Mv.pick S4 [0] rfl)⟩
theorem impl_MeetAny_c {w : World} {H : Nat → Prop} {a : List ByteArray} {a_a : Option Addr} {a_n a_c : Nat} {b : List ByteArray} {b_a : Option Addr} {b_n b_c : Nat} (v_a : Rd 1 encS okS H w (.slice a_a a_n a_c) a) (v_b : Rd 1 encS okS H w (.slice b_a b_n b_c) b) :
    Calls Tryz.prog 71 #[.slice a_a a_n a_c, .slice b_a b_n b_c] w fun e w' => e = .returned (.bool (meetAny a b)) ∧ Mv [] w [] w' := by
 have V_v_a : Rd 1 encS okS (V H w []) w (.slice a_a a_n a_c) a := Rd.start v_a (fun _ _ => fps_nil _)
 obtain ⟨ln_a, le_a, mx_a, ni_a⟩ := Rd.inv v_a
 have Q0 : Rd 1 encS okS (V H w []) w (.slice b_a b_n b_c) b := Rd.start v_b (fun _ _ => fps_nil _)
 obtain ⟨ln_b, le_b, mx_b, ni_b⟩ := Rd.inv v_b
 refine calls_enter 17 Tryz.func71 rfl Tryz.ntmps71 (Nat.le_of_ble_eq_true rfl) (fun _ F0i => ?_)
 have F0 : Fr 17 [(0, .slice a_a a_n a_c), (1, .slice b_a b_n b_c)] _ := F0i
 clear F0i
 refine wp_seq (wp_region_lit (l_op (f_val F0 rfl rfl (r_assign rfl rfl) rfl fun _ F1 => ?_)))
 refine s_end (x_normal (wp_seq (wp_seq (wp_region_lit (l_op (f_mv F1 rfl rfl rfl rfl rfl fun _ F2 => ?_))))))
 refine l_op (f_val F2 rfl rfl (r_len Tryz.underlying30 rfl (F2.ev 7 rfl)) rfl fun _ F3 => ?_)
 refine l_op (f_val F3 rfl rfl (r_move rfl rfl) rfl fun _ F4 => ?_)
 refine s_end (x_normal (wp_block ?_))
 refine x_loop (fun (k : Nat) aZ wZ => Fr 17 [(9, .int .i64 ((k : Nat) : Int)), (8, .int .i64 ((a_n : Nat) : Int)), (7, .slice a_a a_n a_c), (1, .slice b_a b_n b_c)] aZ ∧ Mv [] w [] wZ ∧ (k ≤ a_n) ∧ (∀ j, j < k → ∀ x, nth a j = some x → (b.any fun y => spansMeet x y) = false)) (fun (k : Nat) => a_n - k) (0) ?_ ?_
 · exact ⟨F4.cut rfl, (Mv.refl (At.nil w)), by omega, all_none⟩
 · rintro k a5 w5 ⟨F5, S5, hk_0, hk_1⟩
   refine wp_seq (wp_region_lit (l_op (f_val F5 rfl rfl (r_cmp (b := decide (k < a_n)) (.inr (.inr (.inl rfl))) rfl (F5.ev 9 rfl) (F5.ev 8 rfl) (dec_of (by omega))) rfl fun _ F6 => ?_)))
   refine s_end (x_normal (wp_seq (x_cond (p := k < a_n) (F6.ev 10 rfl) (fun h7 => ?_) (fun h7 => ?_))))
   · skip
     refine wp_skip (x_normal (wp_seq (wp_block (wp_seq (wp_region_lit ?_)))))
     obtain ⟨B8, O8, x1, ad8, hx1, okx1, ln8, cl8⟩ := Rd.at (Rd.mv (Nat.succ_pos _) V_v_a S5) k (by first | assumption | omega)
     clear ln8
     refine l_op (f_val F6 rfl rfl (r_indexAddr (i := k) ET_30 rfl ((F6.ev 7 rfl).trans (by rw [ad8])) (F6.ev 9 rfl) (by omega) (by first | assumption | omega)) rfl fun _ F9 => ?_)
     refine l_op (f_val (v := .string x1) F9 rfl rfl (r_load (cs := [.string x1]) TI_9 rfl (F9.ev 11 rfl) rfl (fun _ => rfl) (elem_sub (f := 0) cl8 [.string x1] rfl)) rfl fun _ F10 => ?_)
     refine l_op (f_alloc F10 S5.at' ZI_9 rfl rfl rfl rfl rfl fun b11 _ w11 F12 S11 => ?_)
     refine l_op (s_store S11.at' 0 TI_9 rfl rfl rfl rfl rfl (F12.ev 6 rfl) (F12.ev 12 rfl) rfl rfl rfl rfl rfl fun w13 S13 => ?_)
     have T14 : Mv _ _ [bx b11 [.string x1] 9] _ := S13
     refine s_end (x_normal (wp_seq (wp_region_lit (l_op (f_mv F12 rfl rfl rfl rfl rfl fun _ F15 => ?_)))))
     refine l_op (f_val F15 rfl rfl (r_makeFuncL rfl (lc (F15.ev 6 rfl) rfl)) rfl fun _ F16 => ?_)
     refine l_op (f_call F16 CF_85 rfl rfl rfl rfl (lc (F16.ev 13 rfl) (lc (F16.ev 14 rfl) rfl)) (ContainsFunc_impl_MeetAny_1_c (s := b) (f := x1) (Rd.mv (Nat.succ_pos _) Q0 (S5.trans (S11.trans T14))) okx1 (At.pick (is := [0]) T14.at' rfl) (V_off (is := [0]))) ?_)
     rintro _ w17 ⟨rfl, m17⟩
     refine ⟨_, rfl, fun _ F18 => ?_⟩
     have S17 : Mv _ _ [bx b11 [.string x1] 9] _ := At.frame T14.at' [0] rfl m17
     clear m17
     refine s_end (x_normal (x_condb (b := (b.any (fun c : ByteArray => spansMeet x1 c))) (F18.ev 15 rfl) (fun h19 => ?_) (fun h19 => ?_)))
     · skip
       refine wp_seq (wp_region_lit (l_op (f_val F18 rfl rfl (r_assign rfl rfl) rfl fun _ F20 => ?_)))
       refine s_end (x_normal (wp_ret (x_block_ret (x_then_ret (x_then_ret (x_block_ret (x_then_ret ?_)))))))
       refine x_done (v := .bool true) F20 (results_1 Tryz.results71 (.tmp (F20.ev 4 rfl))) ?_
       exact ⟨(by rw [(show true = (meetAny a b) from by exact (any_yes hx1 (by assumption)).symm)]), (Mv.pick (S5.trans (S11.trans (T14.trans S17))) [] rfl)⟩
     · skip
       refine wp_skip (x_block_normal (x_normal (wp_region_lit (l_op (f_val F18 rfl rfl (r_add (z := ((k + 1 : Nat) : Int)) rfl (F18.ev 9 rfl) rfl (by first | rfl | omega) ⟨by first | omega | (unfold i64ok at *; omega), by first | omega | (unfold i64ok at *; omega)⟩) rfl fun _ F21 => ?_)))))
       refine l_op (f_mv F21 rfl rfl rfl rfl rfl fun _ F22 => ?_)
       have F23 : Fr 17 [(9, .int .i64 ((k + 1 : Nat) : Int)), (8, .int .i64 ((a_n : Nat) : Int)), (7, .slice a_a a_n a_c), (1, .slice b_a b_n b_c)] _ := F22.cut rfl
       clear F5 F6 F9 F10 F12 F15 F16 F18 F21 F22
       refine s_end ?_
       refine x_normal ⟨k + 1, by omega, F23.cut rfl, ((S5.trans (S11.trans (T14.trans S17))).pick [] rfl), by omega, all_step hk_1 (fun c hc => by obtain rfl := Option.some.inj (hx1.symm.trans hc); assumption)⟩
   · skip
     refine wp_exit (x_then_exit (x_then_exit (x_block_here (x_normal (wp_seq (wp_region_lit (l_op (f_val F6 rfl rfl (r_assign rfl rfl) rfl fun _ F24 => ?_))))))))
     refine s_end (x_normal (wp_ret ?_))
     refine x_done (v := .bool false) F24 (results_1 Tryz.results71 (.tmp (F24.ev 4 rfl))) ?_
     exact ⟨(by rw [(show false = (meetAny a b) from by exact (any_no (by omega) hk_1).symm)]), (Mv.pick S5 [] rfl)⟩
theorem spec_MeetAny_c {w : World} {H : Nat → Prop} {a : List ByteArray} {a_a : Option Addr} {a_n a_c : Nat} {b : List ByteArray} {b_a : Option Addr} {b_n b_c : Nat} (v_a : Rd 1 encS okS H w (.slice a_a a_n a_c) a) (v_b : Rd 1 encS okS H w (.slice b_a b_n b_c) b) :
    Calls Tryz.prog 64 #[.slice a_a a_n a_c, .slice b_a b_n b_c] w fun e w' => e = .returned (.bool (meetAny a b)) ∧ Mv [] w [] w' := by
 have V_v_a : Rd 1 encS okS (V H w []) w (.slice a_a a_n a_c) a := Rd.start v_a (fun _ _ => fps_nil _)
 obtain ⟨ln_a, le_a, mx_a, ni_a⟩ := Rd.inv v_a
 have Q0 : Rd 1 encS okS (V H w []) w (.slice b_a b_n b_c) b := Rd.start v_b (fun _ _ => fps_nil _)
 obtain ⟨ln_b, le_b, mx_b, ni_b⟩ := Rd.inv v_b
 refine calls_enter 28 Tryz.func64 rfl Tryz.ntmps64 (Nat.le_of_ble_eq_true rfl) (fun _ F0i => ?_)
 have F0 : Fr 28 [(0, .slice a_a a_n a_c), (1, .slice b_a b_n b_c)] _ := F0i
 clear F0i
 refine wp_seq (wp_region_lit (l_op (f_val F0 rfl rfl (r_assign rfl rfl) rfl fun _ F1 => ?_)))
 refine s_end (x_normal (wp_seq (wp_seq (wp_region_lit (l_op (f_val F1 rfl rfl (r_assign rfl rfl) rfl fun _ F2 => ?_))))))
 refine s_end (x_normal (wp_block ?_))
 refine x_loop (fun (k : Nat) aZ wZ => Fr 28 [(5, .int .i64 ((k : Nat) : Int)), (0, .slice a_a a_n a_c), (1, .slice b_a b_n b_c)] aZ ∧ Mv [] w [] wZ ∧ (k ≤ a_n) ∧ (∀ j, j < k → ∀ x, nth a j = some x → (b.any fun y => spansMeet x y) = false)) (fun (k : Nat) => a_n - k) (0) ?_ ?_
 · exact ⟨F2.cut rfl, (Mv.refl (At.nil w)), by omega, all_none⟩
 · rintro k a3 w3 ⟨F3, S3, hk_0, hk_1⟩
   refine wp_seq (wp_seq (wp_region_lit (l_op (f_mv F3 rfl rfl rfl rfl rfl fun _ F4 => ?_))))
   refine l_op (f_mv F4 rfl rfl rfl rfl rfl fun _ F5 => ?_)
   refine l_op (f_val F5 rfl rfl (r_len Tryz.underlying30 rfl (F5.ev 8 rfl)) rfl fun _ F6 => ?_)
   refine l_op (f_val F6 rfl rfl (r_cmp (b := decide (k < a_n)) (.inr (.inr (.inl rfl))) rfl (F6.ev 7 rfl) (F6.ev 9 rfl) (dec_of (by omega))) rfl fun _ F7 => ?_)
   refine s_end (x_normal (x_cond (p := k < a_n) (F7.ev 10 rfl) (fun h8 => ?_) (fun h8 => ?_)))
   · skip
     refine wp_skip (x_normal (wp_seq (wp_block (wp_seq (wp_region_lit (l_op (f_val F7 rfl rfl (r_assign rfl rfl) rfl fun _ F9 => ?_)))))))
     refine s_end (x_normal (wp_block ?_))
     refine x_loop (fun (q : Nat) aZ wZ => Fr 28 [(6, .int .i64 ((q : Nat) : Int)), (5, .int .i64 ((k : Nat) : Int)), (0, .slice a_a a_n a_c), (1, .slice b_a b_n b_c)] aZ ∧ Mv [] w3 [] wZ ∧ (q ≤ b_n) ∧ (∀ j, j < q → ∀ y, nth b j = some y → ∀ x, nth a k = some x → spansMeet x y = false)) (fun (q : Nat) => b_n - q) (0) ?_ ?_
     · exact ⟨F9.cut rfl, (Mv.refl S3.at'), by omega, all_none⟩
     · rintro q a10 w10 ⟨F10, S10, hq_0, hq_1⟩
       refine wp_seq (wp_seq (wp_region_lit (l_op (f_mv F10 rfl rfl rfl rfl rfl fun _ F11 => ?_))))
       refine l_op (f_mv F11 rfl rfl rfl rfl rfl fun _ F12 => ?_)
       refine l_op (f_val F12 rfl rfl (r_len Tryz.underlying30 rfl (F12.ev 14 rfl)) rfl fun _ F13 => ?_)
       refine l_op (f_val F13 rfl rfl (r_cmp (b := decide (q < b_n)) (.inr (.inr (.inl rfl))) rfl (F13.ev 13 rfl) (F13.ev 15 rfl) (dec_of (by omega))) rfl fun _ F14 => ?_)
       refine s_end (x_normal (x_cond (p := q < b_n) (F14.ev 16 rfl) (fun h15 => ?_) (fun h15 => ?_)))
       · skip
         refine wp_skip (x_normal (wp_seq (wp_block (wp_seq ?_))))
         obtain ⟨x1, hx1, okx1⟩ := Rd.elem (Rd.mv (Nat.succ_pos _) V_v_a (S3.trans S10)) k (by first | assumption | omega)
         obtain ⟨x2, hx2, okx2⟩ := Rd.elem (Rd.mv (Nat.succ_pos _) Q0 (S3.trans S10)) q (by first | assumption | omega)
         refine x_draw (fun aZ wZ => Fr 28 [(0, .slice a_a a_n a_c), (1, .slice b_a b_n b_c), (5, .int .i64 ((k : Nat) : Int)), (6, .int .i64 ((q : Nat) : Int)), (27, .bool (spansMeet x1 x2))] aZ ∧ Mv [] w10 [] wZ) [] mixed S10.at' (listed := #[false, false, false, false, false, false, false, false, false]) rfl (fun w17 S17 => ?_) [] rfl ?_
         · skip
           refine g_take F14 rfl (i := 0) (listed' := #[true, false, false, false, false, false, false, false, false]) rfl (by kernel_rfl) (by kernel_rfl) (by kernel_rfl) (fun _ _ _ h => h) (Sd.of (Mv.refl S17.at') [] rfl) rfl rfl rfl rfl (fun _ hz => (r_move rfl (F14.ev 0 rfl))) fun _ F18 => ?_
           refine g_take F18 rfl (i := 1) (listed' := #[true, true, false, false, false, false, false, false, false]) rfl (by kernel_rfl) (by kernel_rfl) (by kernel_rfl) (fun _ _ _ h => h) (Sd.of (Mv.refl S17.at') [] rfl) rfl rfl rfl rfl (fun _ hz => (r_move rfl (F18.ev 5 rfl))) fun _ F19 => ?_
           obtain ⟨B20, O20, y20, ad20, hy20, oky20, ln20, cl20⟩ := Rd.atK (Nat.succ_pos _) (Rd.mv (Nat.succ_pos _) V_v_a (S3.trans (S10.trans S17))) k (by first | assumption | omega)
           clear ln20
           obtain rfl := Option.some.inj (hx1.symm.trans hy20)
           clear hy20 oky20
           refine g_take F19 rfl (i := 2) (listed' := #[true, true, true, false, false, false, false, false, false]) rfl (by kernel_rfl) (by kernel_rfl) (by kernel_rfl) (fun _ _ _ h => h) (Sd.of (Mv.refl S17.at') [] rfl) rfl rfl rfl rfl (fun _ hz => (r_indexAddr (i := k) ET_30 rfl ((F19.ev 19 rfl).trans (by rw [ad20])) (F19.ev 20 rfl) (by omega) (by first | assumption | omega))) fun _ F21 => ?_
           refine g_take (v := .string x1) F21 rfl (i := 3) (listed' := #[true, true, true, true, false, false, false, false, false]) rfl (by kernel_rfl) (by kernel_rfl) (by kernel_rfl) (fun _ _ _ h => h) (Sd.of (Mv.refl S17.at') [] rfl) rfl rfl rfl rfl (fun _ hz => (r_load (cs := [.string x1]) TI_9 rfl (F21.ev 21 rfl) rfl (fun _ => rfl) (elem_sub (f := 0) (cl20 _ hz.kp) [.string x1] rfl))) fun _ F22 => ?_
           refine g_take F22 rfl (i := 4) (listed' := #[true, true, true, true, true, false, false, false, false]) rfl (by kernel_rfl) (by kernel_rfl) (by kernel_rfl) (fun _ _ _ h => h) (Sd.of (Mv.refl S17.at') [] rfl) rfl rfl rfl rfl (fun _ hz => (r_move rfl (F22.ev 1 rfl))) fun _ F23 => ?_
           refine g_take F23 rfl (i := 5) (listed' := #[true, true, true, true, true, true, false, false, false]) rfl (by kernel_rfl) (by kernel_rfl) (by kernel_rfl) (fun _ _ _ h => h) (Sd.of (Mv.refl S17.at') [] rfl) rfl rfl rfl rfl (fun _ hz => (r_move rfl (F23.ev 6 rfl))) fun _ F24 => ?_
           obtain ⟨B25, O25, y25, ad25, hy25, oky25, ln25, cl25⟩ := Rd.atK (Nat.succ_pos _) (Rd.mv (Nat.succ_pos _) Q0 (S3.trans (S10.trans S17))) q (by first | assumption | omega)
           clear ln25
           obtain rfl := Option.some.inj (hx2.symm.trans hy25)
           clear hy25 oky25
           refine g_take F24 rfl (i := 6) (listed' := #[true, true, true, true, true, true, true, false, false]) rfl (by kernel_rfl) (by kernel_rfl) (by kernel_rfl) (fun _ _ _ h => h) (Sd.of (Mv.refl S17.at') [] rfl) rfl rfl rfl rfl (fun _ hz => (r_indexAddr (i := q) ET_30 rfl ((F24.ev 23 rfl).trans (by rw [ad25])) (F24.ev 24 rfl) (by omega) (by first | assumption | omega))) fun _ F26 => ?_
           refine g_take (v := .string x2) F26 rfl (i := 7) (listed' := #[true, true, true, true, true, true, true, true, false]) rfl (by kernel_rfl) (by kernel_rfl) (by kernel_rfl) (fun _ _ _ h => h) (Sd.of (Mv.refl S17.at') [] rfl) rfl rfl rfl rfl (fun _ hz => (r_load (cs := [.string x2]) TI_9 rfl (F26.ev 25 rfl) rfl (fun _ => rfl) (elem_sub (f := 0) (cl25 _ hz.kp) [.string x2] rfl))) fun _ F27 => ?_
           refine d_one (i := 8) (listed' := #[true, true, true, true, true, true, true, true, true]) rfl (by kernel_rfl) rfl rfl ?_
           refine f_call F27 CF_81 rfl rfl rfl rfl (lc (F27.ev 22 rfl) (lc (F27.ev 26 rfl) rfl)) (spec_SpansMeet_c (H := fun _ => True) (a := x1) (b := x2) okx1 okx2) ?_
           rintro _ w28 ⟨rfl, m28⟩
           refine ⟨_, rfl, fun _ F29 => ?_⟩
           have S28 := At.frame0 S17.at' m28
           clear m28
           refine ⟨Sd.of S28 [] rfl, ?_⟩
           refine wpAnyH_done (by kernel_rfl) (x_normal ?_) _
           exact ⟨F29.cut rfl, ((S17.trans S28).pick [] rfl)⟩
         · rintro a30 w30 ⟨F30, S30⟩
           refine x_normal (x_condb (b := (spansMeet x1 x2)) (F30.ev 27 rfl) (fun h31 => ?_) (fun h31 => ?_))
           · skip
             refine wp_seq (wp_region_lit (l_op (f_val F30 rfl rfl (r_assign rfl rfl) rfl fun _ F32 => ?_)))
             refine s_end (x_normal (wp_ret (x_block_ret (x_then_ret (x_then_ret (x_block_ret (x_block_ret (x_then_ret (x_then_ret (x_block_ret (x_then_ret ?_)))))))))))
             refine x_done (v := .bool true) F32 (results_1 Tryz.results64 (.tmp (F32.ev 4 rfl))) ?_
             exact ⟨(by rw [(show true = (meetAny a b) from by exact (any_yes hx1 (any_yes hx2 (by assumption))).symm)]), (Mv.pick (S3.trans (S10.trans S30)) [] rfl)⟩
           · skip
             refine wp_skip (x_block_normal (x_normal (wp_region_lit (l_op (f_mv F30 rfl rfl rfl rfl rfl fun _ F33 => ?_)))))
             refine l_op (f_val F33 rfl rfl (r_add (z := ((q + 1 : Nat) : Int)) rfl (F33.ev 17 rfl) rfl (by first | rfl | omega) ⟨by first | omega | (unfold i64ok at *; omega), by first | omega | (unfold i64ok at *; omega)⟩) rfl fun _ F34 => ?_)
             refine l_op (f_as F34 rfl rfl rfl rfl rfl fun _ F35 => ?_)
             refine s_end ?_
             refine x_normal ⟨q + 1, by omega, F35.cut rfl, ((S10.trans S30).pick [] rfl), by omega, all_step hq_1 (fun c hc x hx => by obtain rfl := Option.some.inj (hx1.symm.trans hx); obtain rfl := Option.some.inj (hx2.symm.trans hc); assumption)⟩
       · skip
         refine wp_exit (x_then_exit (x_then_exit (x_block_here (x_block_normal (x_normal (wp_region_lit (l_op (f_mv F14 rfl rfl rfl rfl rfl fun _ F36 => ?_))))))))
         refine l_op (f_val F36 rfl rfl (r_add (z := ((k + 1 : Nat) : Int)) rfl (F36.ev 11 rfl) rfl (by first | rfl | omega) ⟨by first | omega | (unfold i64ok at *; omega), by first | omega | (unfold i64ok at *; omega)⟩) rfl fun _ F37 => ?_)
         refine l_op (f_as F37 rfl rfl rfl rfl rfl fun _ F38 => ?_)
         refine s_end ?_
         refine x_normal ⟨k + 1, by omega, F38.cut rfl, ((S3.trans S10).pick [] rfl), by omega, all_step hk_1 (fun c hc => any_no (by omega) (fun j hj y hy => hq_1 j hj y hy c hc))⟩
   · skip
     refine wp_exit (x_then_exit (x_then_exit (x_block_here (x_normal (wp_seq (wp_region_lit (l_op (f_val F7 rfl rfl (r_assign rfl rfl) rfl fun _ F39 => ?_))))))))
     refine s_end (x_normal (wp_ret ?_))
     refine x_done (v := .bool false) F39 (results_1 Tryz.results64 (.tmp (F39.ev 4 rfl))) ?_
     exact ⟨(by rw [(show false = (meetAny a b) from by exact (any_no (by omega) hk_1).symm)]), (Mv.pick S3 [] rfl)⟩
theorem impl_Clash_c {w : World} {H : Nat → Prop} {a : TouchD} {a_Ra : Option Addr} {a_Rn a_Rc : Nat} {a_Wa : Option Addr} {a_Wn a_Wc : Nat} {b : TouchD} {b_Ra : Option Addr} {b_Rn b_Rc : Nat} {b_Wa : Option Addr} {b_Wn b_Wc : Nat} (Q2 : Rd 1 encS okS H w (.slice a_Ra a_Rn a_Rc) a.reads) (Q3 : Rd 1 encS okS H w (.slice a_Wa a_Wn a_Wc) a.writes) (Q4 : Rd 1 encS okS H w (.slice b_Ra b_Rn b_Rc) b.reads) (Q5 : Rd 1 encS okS H w (.slice b_Wa b_Wn b_Wc) b.writes) :
    Calls Tryz.prog 52 #[.agg #[.slice a_Ra a_Rn a_Rc, .slice a_Wa a_Wn a_Wc], .agg #[.slice b_Ra b_Rn b_Rc, .slice b_Wa b_Wn b_Wc]] w fun e w' => e = .returned (.bool (clashT a b)) ∧ Mv [] w [] w' := by
 have Q6 : Rd 1 encS okS (V H w []) w (.slice a_Ra a_Rn a_Rc) a.reads := Rd.start Q2 (fun _ _ => fps_nil _)
 obtain ⟨Q12, Q8, Q16, Q20⟩ := Rd.inv Q2
 have Q0 : Rd 1 encS okS (V H w []) w (.slice a_Wa a_Wn a_Wc) a.writes := Rd.start Q3 (fun _ _ => fps_nil _)
 obtain ⟨Q13, Q9, Q17, Q21⟩ := Rd.inv Q3
 have Q7 : Rd 1 encS okS (V H w []) w (.slice b_Ra b_Rn b_Rc) b.reads := Rd.start Q4 (fun _ _ => fps_nil _)
 obtain ⟨Q14, Q10, Q18, Q22⟩ := Rd.inv Q4
 have Q1 : Rd 1 encS okS (V H w []) w (.slice b_Wa b_Wn b_Wc) b.writes := Rd.start Q5 (fun _ _ => fps_nil _)
 obtain ⟨Q15, Q11, Q19, Q23⟩ := Rd.inv Q5
 refine calls_enter 24 Tryz.func52 rfl Tryz.ntmps52 (Nat.le_of_ble_eq_true rfl) (fun _ F0i => ?_)
 have F0 : Fr 24 [(0, .agg #[.slice a_Ra a_Rn a_Rc, .slice a_Wa a_Wn a_Wc]), (1, .agg #[.slice b_Ra b_Rn b_Rc, .slice b_Wa b_Wn b_Wc])] _ := F0i
 clear F0i
 refine wp_seq (wp_region_lit (l_op (f_box F0 (At.nil w) rfl rfl rfl (F0.ev 0 rfl) rfl rfl fun b1 _ w1 F2 S1 => ?_)))
 refine l_op (f_box F2 S1.at' rfl rfl rfl (F2.ev 1 rfl) rfl rfl fun b3 _ w3 F4 S3 => ?_)
 refine l_op (f_val F4 rfl rfl (r_assign rfl rfl) rfl fun _ F5 => ?_)
 have T6 : Mv _ _ [bx b3 [.slice b_Ra b_Rn b_Rc, .slice b_Wa b_Wn b_Wc] 55, bx b1 [.slice a_Ra a_Rn a_Rc, .slice a_Wa a_Wn a_Wc] 55] _ := S3
 refine s_end (x_normal (wp_seq (wp_region_lit (l_op (f_val F5 rfl rfl (r_field FI_55_1 rfl (F5.ev 2 rfl) rfl) rfl fun _ F7 => ?_)))))
 refine l_op (f_val (v := .slice a_Wa a_Wn a_Wc) F7 rfl rfl (r_loadB T6.at' 1 TI_30 rfl rfl (F7.ev 5 rfl) rfl rfl (fun _ => rfl) rfl) rfl fun _ F8 => ?_)
 refine l_op (f_val F8 rfl rfl (r_field FI_55_0 rfl (F8.ev 3 rfl) rfl) rfl fun _ F9 => ?_)
 refine l_op (f_val (v := .slice b_Ra b_Rn b_Rc) F9 rfl rfl (r_loadB T6.at' 0 TI_30 rfl rfl (F9.ev 7 rfl) rfl rfl (fun _ => rfl) rfl) rfl fun _ F10 => ?_)
 refine l_op (f_call F10 CF_71 rfl rfl rfl rfl (lc (F10.ev 6 rfl) (lc (F10.ev 8 rfl) rfl)) (impl_MeetAny_c (a := a.writes) (b := b.reads) (Rd.mv (Nat.succ_pos _) Q0 (S1.trans T6)) (Rd.mv (Nat.succ_pos _) Q7 (S1.trans T6))) ?_)
 rintro _ w11 ⟨rfl, m11⟩
 refine ⟨_, rfl, fun _ F12 => ?_⟩
 have S11 := At.frame0 T6.at' m11
 clear m11
 refine l_op (f_mv F12 rfl rfl rfl rfl rfl fun _ F13 => ?_)
 rcases Bool.eq_false_or_eq_true (meetAny a.writes b.reads) with h14 | h14
 · rw [h14] at F13
   refine l_op (f_skip F13 (wanted_g F13 rfl rfl rfl rfl) rfl rfl fun _ F15 => ?_)
   refine l_op (f_skip F15 (wanted_g F15 rfl rfl rfl rfl) rfl rfl fun _ F16 => ?_)
   refine l_op (f_skip F16 (wanted_g F16 rfl rfl rfl rfl) rfl rfl fun _ F17 => ?_)
   refine l_op (f_skip F17 (wanted_g F17 rfl rfl rfl rfl) rfl rfl fun _ F18 => ?_)
   refine l_op (f_skip F18 (wanted_g F18 rfl rfl rfl rfl) rfl rfl fun _ F19 => ?_)
   refine l_op (f_val F19 rfl rfl (r_pick (b := true) rfl (F19.ev 10 rfl) rfl) rfl fun _ F20 => ?_)
   refine l_op (f_mv F20 rfl rfl rfl rfl rfl fun _ F21 => ?_)
   refine l_op (f_skip F21 (wanted_g F21 rfl rfl rfl rfl) rfl rfl fun _ F22 => ?_)
   refine l_op (f_skip F22 (wanted_g F22 rfl rfl rfl rfl) rfl rfl fun _ F23 => ?_)
   refine l_op (f_skip F23 (wanted_g F23 rfl rfl rfl rfl) rfl rfl fun _ F24 => ?_)
   refine l_op (f_skip F24 (wanted_g F24 rfl rfl rfl rfl) rfl rfl fun _ F25 => ?_)
   refine l_op (f_skip F25 (wanted_g F25 rfl rfl rfl rfl) rfl rfl fun _ F26 => ?_)
   refine l_op (f_val F26 rfl rfl (r_pick (b := true) rfl (F26.ev 17 rfl) rfl) rfl fun _ F27 => ?_)
   refine l_op (f_as F27 rfl rfl rfl rfl rfl fun _ F28 => ?_)
   have F29 : Fr 24 [(4, .bool true)] _ := F28.cut rfl
   clear F0 F2 F4 F5 F7 F8 F9 F10 F12 F13 F15 F16 F17 F18 F19 F20 F21 F22 F23 F24 F25 F26 F27 F28
   refine s_end (x_normal (wp_ret ?_))
   refine x_done (v := .bool true) F29 (results_1 Tryz.results52 (.tmp (F29.ev 4 rfl))) ?_
   exact ⟨(by rw [(show true = (clashT a b) from by first | exact (cl_1 (by assumption)).symm | exact (cl_2 (by assumption)).symm | exact (cl_3 (by assumption) (by assumption)).symm | exact (cl_4 (by assumption) (by assumption)).symm)]), (Mv.pick (S1.trans (T6.trans S11)) [] rfl)⟩
 · rw [h14] at F13
   refine l_op (f_val F13 (wanted_g F13 rfl rfl rfl rfl) rfl (r_field FI_55_1 rfl (F13.ev 2 rfl) rfl) rfl fun _ F30 => ?_)
   refine l_op (f_val (v := .slice a_Wa a_Wn a_Wc) F30 (wanted_g F30 rfl rfl rfl rfl) rfl (r_loadB S11.at' 1 TI_30 rfl rfl (F30.ev 11 rfl) rfl rfl (fun _ => rfl) rfl) rfl fun _ F31 => ?_)
   refine l_op (f_val F31 (wanted_g F31 rfl rfl rfl rfl) rfl (r_field FI_55_1 rfl (F31.ev 3 rfl) rfl) rfl fun _ F32 => ?_)
   refine l_op (f_val (v := .slice b_Wa b_Wn b_Wc) F32 (wanted_g F32 rfl rfl rfl rfl) rfl (r_loadB S11.at' 0 TI_30 rfl rfl (F32.ev 13 rfl) rfl rfl (fun _ => rfl) rfl) rfl fun _ F33 => ?_)
   refine l_op (f_call F33 CF_71 (wanted_g F33 rfl rfl rfl rfl) rfl rfl rfl (lc (F33.ev 12 rfl) (lc (F33.ev 14 rfl) rfl)) (impl_MeetAny_c (a := a.writes) (b := b.writes) (Rd.mv (Nat.succ_pos _) Q0 (S1.trans (T6.trans S11))) (Rd.mv (Nat.succ_pos _) Q1 (S1.trans (T6.trans S11)))) ?_)
   rintro _ w34 ⟨rfl, m34⟩
   refine ⟨_, rfl, fun _ F35 => ?_⟩
   have S34 := At.frame0 S11.at' m34
   clear m34
   refine l_op (f_val F35 rfl rfl (r_pick (b := false) rfl (F35.ev 10 rfl) (F35.ev 15 rfl)) rfl fun _ F36 => ?_)
   refine l_op (f_mv F36 rfl rfl rfl rfl rfl fun _ F37 => ?_)
   rcases Bool.eq_false_or_eq_true (meetAny a.writes b.writes) with h38 | h38
   · rw [h38] at F37
     refine l_op (f_skip F37 (wanted_g F37 rfl rfl rfl rfl) rfl rfl fun _ F39 => ?_)
     refine l_op (f_skip F39 (wanted_g F39 rfl rfl rfl rfl) rfl rfl fun _ F40 => ?_)
     refine l_op (f_skip F40 (wanted_g F40 rfl rfl rfl rfl) rfl rfl fun _ F41 => ?_)
     refine l_op (f_skip F41 (wanted_g F41 rfl rfl rfl rfl) rfl rfl fun _ F42 => ?_)
     refine l_op (f_skip F42 (wanted_g F42 rfl rfl rfl rfl) rfl rfl fun _ F43 => ?_)
     refine l_op (f_val F43 rfl rfl (r_pick (b := true) rfl (F43.ev 17 rfl) rfl) rfl fun _ F44 => ?_)
     refine l_op (f_as F44 rfl rfl rfl rfl rfl fun _ F45 => ?_)
     have F46 : Fr 24 [(4, .bool true)] _ := F45.cut rfl
     clear F0 F2 F4 F5 F7 F8 F9 F10 F12 F13 F30 F31 F32 F33 F35 F36 F37 F39 F40 F41 F42 F43 F44 F45
     have T47 : Mv _ _ [bx b3 [.slice b_Ra b_Rn b_Rc, .slice b_Wa b_Wn b_Wc] 55, bx b1 [.slice a_Ra a_Rn a_Rc, .slice a_Wa a_Wn a_Wc] 55] _ := S34
     refine s_end (x_normal (wp_ret ?_))
     refine x_done (v := .bool true) F46 (results_1 Tryz.results52 (.tmp (F46.ev 4 rfl))) ?_
     exact ⟨(by rw [(show true = (clashT a b) from by first | exact (cl_1 (by assumption)).symm | exact (cl_2 (by assumption)).symm | exact (cl_3 (by assumption) (by assumption)).symm | exact (cl_4 (by assumption) (by assumption)).symm)]), (Mv.pick (S1.trans (T6.trans (S11.trans T47))) [] rfl)⟩
   · rw [h38] at F37
     refine l_op (f_val F37 (wanted_g F37 rfl rfl rfl rfl) rfl (r_field FI_55_1 rfl (F37.ev 3 rfl) rfl) rfl fun _ F48 => ?_)
     refine l_op (f_val (v := .slice b_Wa b_Wn b_Wc) F48 (wanted_g F48 rfl rfl rfl rfl) rfl (r_loadB S34.at' 0 TI_30 rfl rfl (F48.ev 18 rfl) rfl rfl (fun _ => rfl) rfl) rfl fun _ F49 => ?_)
     refine l_op (f_val F49 (wanted_g F49 rfl rfl rfl rfl) rfl (r_field FI_55_0 rfl (F49.ev 2 rfl) rfl) rfl fun _ F50 => ?_)
     refine l_op (f_val (v := .slice a_Ra a_Rn a_Rc) F50 (wanted_g F50 rfl rfl rfl rfl) rfl (r_loadB S34.at' 1 TI_30 rfl rfl (F50.ev 20 rfl) rfl rfl (fun _ => rfl) rfl) rfl fun _ F51 => ?_)
     refine l_op (f_call F51 CF_71 (wanted_g F51 rfl rfl rfl rfl) rfl rfl rfl (lc (F51.ev 19 rfl) (lc (F51.ev 21 rfl) rfl)) (impl_MeetAny_c (a := b.writes) (b := a.reads) (Rd.mv (Nat.succ_pos _) Q1 (S1.trans (T6.trans (S11.trans S34)))) (Rd.mv (Nat.succ_pos _) Q6 (S1.trans (T6.trans (S11.trans S34))))) ?_)
     rintro _ w52 ⟨rfl, m52⟩
     refine ⟨_, rfl, fun _ F53 => ?_⟩
     have S52 := At.frame0 S34.at' m52
     clear m52
     refine l_op (f_val F53 rfl rfl (r_pick (b := false) rfl (F53.ev 17 rfl) (F53.ev 22 rfl)) rfl fun _ F54 => ?_)
     refine l_op (f_as F54 rfl rfl rfl rfl rfl fun _ F55 => ?_)
     have F56 : Fr 24 [(4, .bool (meetAny b.writes a.reads))] _ := F55.cut rfl
     clear F0 F2 F4 F5 F7 F8 F9 F10 F12 F13 F30 F31 F32 F33 F35 F36 F37 F48 F49 F50 F51 F53 F54 F55
     have T57 : Mv _ _ [bx b3 [.slice b_Ra b_Rn b_Rc, .slice b_Wa b_Wn b_Wc] 55, bx b1 [.slice a_Ra a_Rn a_Rc, .slice a_Wa a_Wn a_Wc] 55] _ := S52
     refine s_end (x_normal (wp_ret ?_))
     refine x_done (v := .bool (meetAny b.writes a.reads)) F56 (results_1 Tryz.results52 (.tmp (F56.ev 4 rfl))) ?_
     exact ⟨(by rw [(show (meetAny b.writes a.reads) = (clashT a b) from by first | exact (cl_1 (by assumption)).symm | exact (cl_2 (by assumption)).symm | exact (cl_3 (by assumption) (by assumption)).symm | exact (cl_4 (by assumption) (by assumption)).symm)]), (Mv.pick (S1.trans (T6.trans (S11.trans (S34.trans T57)))) [] rfl)⟩
theorem spec_Clash_c {w : World} {H : Nat → Prop} {a : TouchD} {a_Ra : Option Addr} {a_Rn a_Rc : Nat} {a_Wa : Option Addr} {a_Wn a_Wc : Nat} {b : TouchD} {b_Ra : Option Addr} {b_Rn b_Rc : Nat} {b_Wa : Option Addr} {b_Wn b_Wc : Nat} (Q2 : Rd 1 encS okS H w (.slice a_Ra a_Rn a_Rc) a.reads) (Q3 : Rd 1 encS okS H w (.slice a_Wa a_Wn a_Wc) a.writes) (Q4 : Rd 1 encS okS H w (.slice b_Ra b_Rn b_Rc) b.reads) (Q5 : Rd 1 encS okS H w (.slice b_Wa b_Wn b_Wc) b.writes) :
    Calls Tryz.prog 42 #[.agg #[.slice a_Ra a_Rn a_Rc, .slice a_Wa a_Wn a_Wc], .agg #[.slice b_Ra b_Rn b_Rc, .slice b_Wa b_Wn b_Wc]] w fun e w' => e = .returned (.bool (clashT a b)) ∧ Mv [] w [] w' := by
 have Q6 : Rd 1 encS okS (V H w []) w (.slice a_Ra a_Rn a_Rc) a.reads := Rd.start Q2 (fun _ _ => fps_nil _)
 obtain ⟨Q12, Q8, Q16, Q20⟩ := Rd.inv Q2
 have Q0 : Rd 1 encS okS (V H w []) w (.slice a_Wa a_Wn a_Wc) a.writes := Rd.start Q3 (fun _ _ => fps_nil _)
 obtain ⟨Q13, Q9, Q17, Q21⟩ := Rd.inv Q3
 have Q7 : Rd 1 encS okS (V H w []) w (.slice b_Ra b_Rn b_Rc) b.reads := Rd.start Q4 (fun _ _ => fps_nil _)
 obtain ⟨Q14, Q10, Q18, Q22⟩ := Rd.inv Q4
 have Q1 : Rd 1 encS okS (V H w []) w (.slice b_Wa b_Wn b_Wc) b.writes := Rd.start Q5 (fun _ _ => fps_nil _)
 obtain ⟨Q15, Q11, Q19, Q23⟩ := Rd.inv Q5
 refine calls_enter 24 Tryz.func42 rfl Tryz.ntmps42 (Nat.le_of_ble_eq_true rfl) (fun _ F0i => ?_)
 have F0 : Fr 24 [(0, .agg #[.slice a_Ra a_Rn a_Rc, .slice a_Wa a_Wn a_Wc]), (1, .agg #[.slice b_Ra b_Rn b_Rc, .slice b_Wa b_Wn b_Wc])] _ := F0i
 clear F0i
 refine wp_seq (wp_region_lit (l_op (f_box F0 (At.nil w) rfl rfl rfl (F0.ev 0 rfl) rfl rfl fun b1 _ w1 F2 S1 => ?_)))
 refine l_op (f_box F2 S1.at' rfl rfl rfl (F2.ev 1 rfl) rfl rfl fun b3 _ w3 F4 S3 => ?_)
 refine l_op (f_val F4 rfl rfl (r_assign rfl rfl) rfl fun _ F5 => ?_)
 have T6 : Mv _ _ [bx b3 [.slice b_Ra b_Rn b_Rc, .slice b_Wa b_Wn b_Wc] 55, bx b1 [.slice a_Ra a_Rn a_Rc, .slice a_Wa a_Wn a_Wc] 55] _ := S3
 refine s_end (x_normal (wp_seq (wp_region_lit (l_op (f_val F5 rfl rfl (r_field FI_55_1 rfl (F5.ev 2 rfl) rfl) rfl fun _ F7 => ?_)))))
 refine l_op (f_val (v := .slice a_Wa a_Wn a_Wc) F7 rfl rfl (r_loadB T6.at' 1 TI_30 rfl rfl (F7.ev 5 rfl) rfl rfl (fun _ => rfl) rfl) rfl fun _ F8 => ?_)
 refine l_op (f_val F8 rfl rfl (r_field FI_55_0 rfl (F8.ev 3 rfl) rfl) rfl fun _ F9 => ?_)
 refine l_op (f_val (v := .slice b_Ra b_Rn b_Rc) F9 rfl rfl (r_loadB T6.at' 0 TI_30 rfl rfl (F9.ev 7 rfl) rfl rfl (fun _ => rfl) rfl) rfl fun _ F10 => ?_)
 refine l_op (f_call F10 CF_64 rfl rfl rfl rfl (lc (F10.ev 6 rfl) (lc (F10.ev 8 rfl) rfl)) (spec_MeetAny_c (a := a.writes) (b := b.reads) (Rd.mv (Nat.succ_pos _) Q0 (S1.trans T6)) (Rd.mv (Nat.succ_pos _) Q7 (S1.trans T6))) ?_)
 rintro _ w11 ⟨rfl, m11⟩
 refine ⟨_, rfl, fun _ F12 => ?_⟩
 have S11 := At.frame0 T6.at' m11
 clear m11
 refine l_op (f_mv F12 rfl rfl rfl rfl rfl fun _ F13 => ?_)
 rcases Bool.eq_false_or_eq_true (meetAny a.writes b.reads) with h14 | h14
 · rw [h14] at F13
   refine l_op (f_skip F13 (wanted_g F13 rfl rfl rfl rfl) rfl rfl fun _ F15 => ?_)
   refine l_op (f_skip F15 (wanted_g F15 rfl rfl rfl rfl) rfl rfl fun _ F16 => ?_)
   refine l_op (f_skip F16 (wanted_g F16 rfl rfl rfl rfl) rfl rfl fun _ F17 => ?_)
   refine l_op (f_skip F17 (wanted_g F17 rfl rfl rfl rfl) rfl rfl fun _ F18 => ?_)
   refine l_op (f_skip F18 (wanted_g F18 rfl rfl rfl rfl) rfl rfl fun _ F19 => ?_)
   refine l_op (f_val F19 rfl rfl (r_pick (b := true) rfl (F19.ev 10 rfl) rfl) rfl fun _ F20 => ?_)
   refine l_op (f_mv F20 rfl rfl rfl rfl rfl fun _ F21 => ?_)
   refine l_op (f_skip F21 (wanted_g F21 rfl rfl rfl rfl) rfl rfl fun _ F22 => ?_)
   refine l_op (f_skip F22 (wanted_g F22 rfl rfl rfl rfl) rfl rfl fun _ F23 => ?_)
   refine l_op (f_skip F23 (wanted_g F23 rfl rfl rfl rfl) rfl rfl fun _ F24 => ?_)
   refine l_op (f_skip F24 (wanted_g F24 rfl rfl rfl rfl) rfl rfl fun _ F25 => ?_)
   refine l_op (f_skip F25 (wanted_g F25 rfl rfl rfl rfl) rfl rfl fun _ F26 => ?_)
   refine l_op (f_val F26 rfl rfl (r_pick (b := true) rfl (F26.ev 17 rfl) rfl) rfl fun _ F27 => ?_)
   refine l_op (f_as F27 rfl rfl rfl rfl rfl fun _ F28 => ?_)
   have F29 : Fr 24 [(4, .bool true)] _ := F28.cut rfl
   clear F0 F2 F4 F5 F7 F8 F9 F10 F12 F13 F15 F16 F17 F18 F19 F20 F21 F22 F23 F24 F25 F26 F27 F28
   refine s_end (x_normal (wp_ret ?_))
   refine x_done (v := .bool true) F29 (results_1 Tryz.results42 (.tmp (F29.ev 4 rfl))) ?_
   exact ⟨(by rw [(show true = (clashT a b) from by first | exact (cl_1 (by assumption)).symm | exact (cl_2 (by assumption)).symm | exact (cl_3 (by assumption) (by assumption)).symm | exact (cl_4 (by assumption) (by assumption)).symm)]), (Mv.pick (S1.trans (T6.trans S11)) [] rfl)⟩
 · rw [h14] at F13
   refine l_op (f_val F13 (wanted_g F13 rfl rfl rfl rfl) rfl (r_field FI_55_1 rfl (F13.ev 2 rfl) rfl) rfl fun _ F30 => ?_)
   refine l_op (f_val (v := .slice a_Wa a_Wn a_Wc) F30 (wanted_g F30 rfl rfl rfl rfl) rfl (r_loadB S11.at' 1 TI_30 rfl rfl (F30.ev 11 rfl) rfl rfl (fun _ => rfl) rfl) rfl fun _ F31 => ?_)
   refine l_op (f_val F31 (wanted_g F31 rfl rfl rfl rfl) rfl (r_field FI_55_1 rfl (F31.ev 3 rfl) rfl) rfl fun _ F32 => ?_)
   refine l_op (f_val (v := .slice b_Wa b_Wn b_Wc) F32 (wanted_g F32 rfl rfl rfl rfl) rfl (r_loadB S11.at' 0 TI_30 rfl rfl (F32.ev 13 rfl) rfl rfl (fun _ => rfl) rfl) rfl fun _ F33 => ?_)
   refine l_op (f_call F33 CF_64 (wanted_g F33 rfl rfl rfl rfl) rfl rfl rfl (lc (F33.ev 12 rfl) (lc (F33.ev 14 rfl) rfl)) (spec_MeetAny_c (a := a.writes) (b := b.writes) (Rd.mv (Nat.succ_pos _) Q0 (S1.trans (T6.trans S11))) (Rd.mv (Nat.succ_pos _) Q1 (S1.trans (T6.trans S11)))) ?_)
   rintro _ w34 ⟨rfl, m34⟩
   refine ⟨_, rfl, fun _ F35 => ?_⟩
   have S34 := At.frame0 S11.at' m34
   clear m34
   refine l_op (f_val F35 rfl rfl (r_pick (b := false) rfl (F35.ev 10 rfl) (F35.ev 15 rfl)) rfl fun _ F36 => ?_)
   refine l_op (f_mv F36 rfl rfl rfl rfl rfl fun _ F37 => ?_)
   rcases Bool.eq_false_or_eq_true (meetAny a.writes b.writes) with h38 | h38
   · rw [h38] at F37
     refine l_op (f_skip F37 (wanted_g F37 rfl rfl rfl rfl) rfl rfl fun _ F39 => ?_)
     refine l_op (f_skip F39 (wanted_g F39 rfl rfl rfl rfl) rfl rfl fun _ F40 => ?_)
     refine l_op (f_skip F40 (wanted_g F40 rfl rfl rfl rfl) rfl rfl fun _ F41 => ?_)
     refine l_op (f_skip F41 (wanted_g F41 rfl rfl rfl rfl) rfl rfl fun _ F42 => ?_)
     refine l_op (f_skip F42 (wanted_g F42 rfl rfl rfl rfl) rfl rfl fun _ F43 => ?_)
     refine l_op (f_val F43 rfl rfl (r_pick (b := true) rfl (F43.ev 17 rfl) rfl) rfl fun _ F44 => ?_)
     refine l_op (f_as F44 rfl rfl rfl rfl rfl fun _ F45 => ?_)
     have F46 : Fr 24 [(4, .bool true)] _ := F45.cut rfl
     clear F0 F2 F4 F5 F7 F8 F9 F10 F12 F13 F30 F31 F32 F33 F35 F36 F37 F39 F40 F41 F42 F43 F44 F45
     have T47 : Mv _ _ [bx b3 [.slice b_Ra b_Rn b_Rc, .slice b_Wa b_Wn b_Wc] 55, bx b1 [.slice a_Ra a_Rn a_Rc, .slice a_Wa a_Wn a_Wc] 55] _ := S34
     refine s_end (x_normal (wp_ret ?_))
     refine x_done (v := .bool true) F46 (results_1 Tryz.results42 (.tmp (F46.ev 4 rfl))) ?_
     exact ⟨(by rw [(show true = (clashT a b) from by first | exact (cl_1 (by assumption)).symm | exact (cl_2 (by assumption)).symm | exact (cl_3 (by assumption) (by assumption)).symm | exact (cl_4 (by assumption) (by assumption)).symm)]), (Mv.pick (S1.trans (T6.trans (S11.trans T47))) [] rfl)⟩
   · rw [h38] at F37
     refine l_op (f_val F37 (wanted_g F37 rfl rfl rfl rfl) rfl (r_field FI_55_0 rfl (F37.ev 2 rfl) rfl) rfl fun _ F48 => ?_)
     refine l_op (f_val (v := .slice a_Ra a_Rn a_Rc) F48 (wanted_g F48 rfl rfl rfl rfl) rfl (r_loadB S34.at' 1 TI_30 rfl rfl (F48.ev 18 rfl) rfl rfl (fun _ => rfl) rfl) rfl fun _ F49 => ?_)
     refine l_op (f_val F49 (wanted_g F49 rfl rfl rfl rfl) rfl (r_field FI_55_1 rfl (F49.ev 3 rfl) rfl) rfl fun _ F50 => ?_)
     refine l_op (f_val (v := .slice b_Wa b_Wn b_Wc) F50 (wanted_g F50 rfl rfl rfl rfl) rfl (r_loadB S34.at' 0 TI_30 rfl rfl (F50.ev 20 rfl) rfl rfl (fun _ => rfl) rfl) rfl fun _ F51 => ?_)
     refine l_op (f_call F51 CF_64 (wanted_g F51 rfl rfl rfl rfl) rfl rfl rfl (lc (F51.ev 19 rfl) (lc (F51.ev 21 rfl) rfl)) (spec_MeetAny_c (a := a.reads) (b := b.writes) (Rd.mv (Nat.succ_pos _) Q6 (S1.trans (T6.trans (S11.trans S34)))) (Rd.mv (Nat.succ_pos _) Q1 (S1.trans (T6.trans (S11.trans S34))))) ?_)
     rintro _ w52 ⟨rfl, m52⟩
     refine ⟨_, rfl, fun _ F53 => ?_⟩
     have S52 := At.frame0 S34.at' m52
     clear m52
     refine l_op (f_val F53 rfl rfl (r_pick (b := false) rfl (F53.ev 17 rfl) (F53.ev 22 rfl)) rfl fun _ F54 => ?_)
     refine l_op (f_as F54 rfl rfl rfl rfl rfl fun _ F55 => ?_)
     have F56 : Fr 24 [(4, .bool (meetAny a.reads b.writes))] _ := F55.cut rfl
     clear F0 F2 F4 F5 F7 F8 F9 F10 F12 F13 F30 F31 F32 F33 F35 F36 F37 F48 F49 F50 F51 F53 F54 F55
     have T57 : Mv _ _ [bx b3 [.slice b_Ra b_Rn b_Rc, .slice b_Wa b_Wn b_Wc] 55, bx b1 [.slice a_Ra a_Rn a_Rc, .slice a_Wa a_Wn a_Wc] 55] _ := S52
     refine s_end (x_normal (wp_ret ?_))
     refine x_done (v := .bool (meetAny a.reads b.writes)) F56 (results_1 Tryz.results42 (.tmp (F56.ev 4 rfl))) ?_
     exact ⟨(by rw [(show (meetAny a.reads b.writes) = (clashT a b) from by first | exact (cl_1 (by assumption)).symm | exact (cl_2 (by assumption)).symm | exact (cl_3 (by assumption) (by assumption)).symm | exact (cl_4 (by assumption) (by assumption)).symm)]), (Mv.pick (S1.trans (T6.trans (S11.trans (S34.trans T57)))) [] rfl)⟩
theorem spec_FindTx_c {w : World} {H : Nat → Prop} {list : List TxH} {Q1 : Option Addr} {Q0 Q2 : Nat} {id : Int} (Q4 : Rd 10 encTx okTx H w (.slice Q1 Q0 Q2) list) (Q6 : NRd inTx H w list) (h_id : i64ok id) (p0 : Q0 ≤ 1048576) :
    Calls Tryz.prog 14 #[.slice Q1 Q0 Q2, .int .i64 id] w fun e w' => e = .returned (.int .i64 (findT (list.map TxH.d) id)) ∧ Mv [] w [] w' ∧ i64ok (findT (list.map TxH.d) id) := by
 have uU : True := (fun _ _ => trivial) h_id p0
 clear uU
 have Q5 : Rd 10 encTx okTx (V H w []) w (.slice Q1 Q0 Q2) list := Rd.start Q4 (fun _ _ => fps_nil _)
 obtain ⟨Q8, Q7, Q9, Q10⟩ := Rd.inv Q4
 have Q3 : NRd inTx (V H w []) w list := NRd.start Q6 (fun _ _ => fps_nil _)
 refine calls_enter 20 Tryz.func14 rfl Tryz.ntmps14 (Nat.le_of_ble_eq_true rfl) (fun _ F0i => ?_)
 have F0 : Fr 20 [(0, .slice Q1 Q0 Q2), (1, .int .i64 id)] _ := F0i
 clear F0i
 refine wp_seq (wp_region_lit (l_op (f_val F0 rfl rfl (r_assign rfl rfl) rfl fun _ F1 => ?_)))
 refine s_end (x_normal (wp_seq (wp_seq (wp_region_lit (l_op (f_val F1 rfl rfl (r_assign rfl rfl) rfl fun _ F2 => ?_))))))
 refine s_end (x_normal (wp_block ?_))
 refine x_loop (fun (k : Nat) aZ wZ => Fr 20 [(5, .int .i64 ((k : Nat) : Int)), (0, .slice Q1 Q0 Q2), (1, .int .i64 id)] aZ ∧ Mv [] w [] wZ ∧ (k ≤ Q0) ∧ (∀ j, j < k → ∀ c, nth list j = some c → ¬ c.d.id = id)) (fun (k : Nat) => Q0 - k) (0) ?_ ?_
 · exact ⟨F2.cut rfl, (Mv.refl (At.nil w)), by omega, all_none'⟩
 · rintro k a3 w3 ⟨F3, S3, hk_0, hk_1⟩
   refine wp_seq (wp_seq (wp_region_lit (l_op (f_mv F3 rfl rfl rfl rfl rfl fun _ F4 => ?_))))
   refine l_op (f_mv F4 rfl rfl rfl rfl rfl fun _ F5 => ?_)
   refine l_op (f_val F5 rfl rfl (r_len Tryz.underlying36 rfl (F5.ev 7 rfl)) rfl fun _ F6 => ?_)
   refine l_op (f_val F6 rfl rfl (r_cmp (b := decide (k < Q0)) (.inr (.inr (.inl rfl))) rfl (F6.ev 6 rfl) (F6.ev 8 rfl) (dec_of (by omega))) rfl fun _ F7 => ?_)
   refine s_end (x_normal (x_cond (p := k < Q0) (F7.ev 9 rfl) (fun h8 => ?_) (fun h8 => ?_)))
   · skip
     refine wp_skip (x_normal (wp_seq (wp_block (wp_seq (wp_region_lit (l_op (f_mv F7 rfl rfl rfl rfl rfl fun _ F9 => ?_)))))))
     refine l_op (f_mv F9 rfl rfl rfl rfl rfl fun _ F10 => ?_)
     obtain ⟨B11, O11, x1, ad11, hx1, okx1, ln11, cl11⟩ := Rd.at (Rd.mv (Nat.succ_pos _) Q5 S3) k (by first | assumption | omega)
     clear ln11
     have oj12 := okx1
     obtain ⟨oi12_0, oi12_1, oi12_2, oi12_3, oi12_4⟩ := oj12
     have VI13 : Rd 6 encK okK (V H w []) w3 (.slice x1.a0 x1.n0 x1.c0) x1.d.calls := NRd.get (NRd.mv Q3 S3) hx1 (j := 0) rfl
     obtain ⟨ln13, le13, mx13, ni13⟩ := Rd.inv VI13
     have VI14 : Rd 3 encR okR (V H w []) w3 (.slice x1.a1 x1.n1 x1.c1) x1.d.answers := NRd.get (NRd.mv Q3 S3) hx1 (j := 1) rfl
     obtain ⟨ln14, le14, mx14, ni14⟩ := Rd.inv VI14
     have VI15 : Rd 1 encS okS (V H w []) w3 (.slice x1.a2 x1.n2 x1.c2) x1.d.touch.reads := NRd.get (NRd.mv Q3 S3) hx1 (j := 2) rfl
     obtain ⟨ln15, le15, mx15, ni15⟩ := Rd.inv VI15
     have VI16 : Rd 1 encS okS (V H w []) w3 (.slice x1.a3 x1.n3 x1.c3) x1.d.touch.writes := NRd.get (NRd.mv Q3 S3) hx1 (j := 3) rfl
     obtain ⟨ln16, le16, mx16, ni16⟩ := Rd.inv VI16
     have VI17 : Rd 1 encI okI (V H w []) w3 (.slice x1.a4 x1.n4 x1.c4) x1.d.marks := NRd.get (NRd.mv Q3 S3) hx1 (j := 4) rfl
     obtain ⟨ln17, le17, mx17, ni17⟩ := Rd.inv VI17
     refine l_op (f_val F10 rfl rfl (r_indexAddr (i := k) ET_36 rfl ((F10.ev 12 rfl).trans (by rw [ad11])) (F10.ev 13 rfl) (by omega) (by first | assumption | omega)) rfl fun _ F18 => ?_)
     refine l_op (f_val F18 rfl rfl (r_field FI_58_0 rfl (F18.ev 14 rfl) rfl) rfl fun _ F19 => ?_)
     refine l_op (f_val (v := .int .i64 x1.d.id) F19 rfl rfl (r_load (cs := [.int .i64 x1.d.id]) TI_3 rfl (F19.ev 15 rfl) rfl (fun _ => rfl) (elem_sub (f := 0) cl11 [.int .i64 x1.d.id] rfl)) rfl fun _ F20 => ?_)
     refine l_op (f_mv F20 rfl rfl rfl rfl rfl fun _ F21 => ?_)
     refine l_op (f_val F21 rfl rfl (r_cmp (b := decide (x1.d.id = id)) (.inl rfl) rfl (F21.ev 16 rfl) (F21.ev 17 rfl) (dec_of (by omega))) rfl fun _ F22 => ?_)
     have F23 : Fr 20 [(18, .bool (decide (x1.d.id = id))), (5, .int .i64 ((k : Nat) : Int)), (0, .slice Q1 Q0 Q2), (1, .int .i64 id)] _ := F22.cut rfl
     clear F3 F4 F5 F6 F7 F9 F10 F18 F19 F20 F21 F22
     refine s_end (x_normal (x_cond (p := x1.d.id = id) (F23.ev 18 rfl) (fun h24 => ?_) (fun h24 => ?_)))
     · skip
       refine wp_seq (wp_region_lit (l_op (f_mv F23 rfl rfl rfl rfl rfl fun _ F25 => ?_)))
       refine l_op (f_as F25 rfl rfl rfl rfl rfl fun _ F26 => ?_)
       refine s_end (x_normal (wp_ret (x_block_ret (x_then_ret (x_then_ret (x_block_ret (x_then_ret ?_)))))))
       refine x_done (v := .int .i64 ((k : Nat) : Int)) F26 (results_1 Tryz.results14 (.tmp (F26.ev 4 rfl))) ?_
       exact ⟨(by rw [(show ((k : Nat) : Int) = (findT (list.map TxH.d) id) from by exact find_t hx1 (by assumption) hk_1)]), (Mv.pick S3 [] rfl), findT_ok (by rw [List.length_map]; omega)⟩
     · skip
       refine wp_skip (x_block_normal (x_normal (wp_region_lit (l_op (f_mv F23 rfl rfl rfl rfl rfl fun _ F27 => ?_)))))
       refine l_op (f_val F27 rfl rfl (r_add (z := ((k + 1 : Nat) : Int)) rfl (F27.ev 10 rfl) rfl (by first | rfl | omega) ⟨by first | omega | (unfold i64ok at *; omega), by first | omega | (unfold i64ok at *; omega)⟩) rfl fun _ F28 => ?_)
       refine l_op (f_as F28 rfl rfl rfl rfl rfl fun _ F29 => ?_)
       refine s_end ?_
       refine x_normal ⟨k + 1, by omega, F29.cut rfl, (S3.pick [] rfl), by omega, all_stepP hk_1 (fun c hc => by obtain rfl := Option.some.inj (hx1.symm.trans hc); assumption)⟩
   · skip
     refine wp_exit (x_then_exit (x_then_exit (x_block_here (x_normal (wp_seq (wp_region_lit (l_op (f_val F7 rfl rfl (r_assign rfl rfl) rfl fun _ F30 => ?_))))))))
     refine s_end (x_normal (wp_ret ?_))
     refine x_done (v := .int .i64 (-1)) F30 (results_1 Tryz.results14 (.tmp (F30.ev 4 rfl))) ?_
     exact ⟨(by rw [(show (-1) = (findT (list.map TxH.d) id) from by exact find_f (by omega) hk_1)]), (Mv.pick S3 [] rfl), findT_ok (by rw [List.length_map]; omega)⟩
theorem impl_FindTx_1_c {w : World} {H : Nat → Prop} {x : TxD} {Q3 : Option Addr} {Q5 Q4 : Nat} {Q0 : Option Addr} {Q2 Q1 : Nat} {x_Ra : Option Addr} {x_Rn x_Rc : Nat} {x_Wa : Option Addr} {x_Wn x_Wc : Nat} {Q6 : Option Addr} {Q8 Q7 : Nat} {id_b : Nat} {id : Int} (Q16 : i64ok x.id) (Q14 : i64ok x.age) (Q17 : i64ok x.proc) (Q15 : i64ok x.began) (Q10 : Rd 6 encK okK H w (.slice Q3 Q5 Q4) x.calls) (Q9 : Rd 3 encR okR H w (.slice Q0 Q2 Q1) x.answers) (Q12 : Rd 1 encS okS H w (.slice x_Ra x_Rn x_Rc) x.touch.reads) (Q13 : Rd 1 encS okS H w (.slice x_Wa x_Wn x_Wc) x.touch.writes) (Q11 : Rd 1 encI okI H w (.slice Q6 Q8 Q7) x.marks) (Q18 : i64ok x.state) (h_id : i64ok id) (hA : At w [bx id_b [.int .i64 id] 3]) (hD : ∀ b, H b → ¬ fps [bx id_b [.int .i64 id] 3] b) :
    Calls Tryz.prog 51 #[.agg #[.int .i64 x.id, .int .i64 x.age, .int .i64 x.proc, .int .i64 x.began, .slice Q3 Q5 Q4, .slice Q0 Q2 Q1, .slice x_Ra x_Rn x_Rc, .slice x_Wa x_Wn x_Wc, .slice Q6 Q8 Q7, .int .i64 x.state], .pointer (some ⟨id_b, 0, none⟩)] w fun e w' => e = .returned (.bool (decide (x.id = id))) ∧ Mv [bx id_b [.int .i64 id] 3] w [bx id_b [.int .i64 id] 3] w' := by
 have uU : True := (fun _ _ _ _ _ _ => trivial) Q16 Q14 Q17 Q15 Q18 h_id
 clear uU
 have Q20 : Rd 6 encK okK (V H w [bx id_b [.int .i64 id] 3]) w (.slice Q3 Q5 Q4) x.calls := Rd.start Q10 hD
 obtain ⟨Q30, Q25, Q35, Q40⟩ := Rd.inv Q10
 have Q19 : Rd 3 encR okR (V H w [bx id_b [.int .i64 id] 3]) w (.slice Q0 Q2 Q1) x.answers := Rd.start Q9 hD
 obtain ⟨Q29, Q24, Q34, Q39⟩ := Rd.inv Q9
 have Q22 : Rd 1 encS okS (V H w [bx id_b [.int .i64 id] 3]) w (.slice x_Ra x_Rn x_Rc) x.touch.reads := Rd.start Q12 hD
 obtain ⟨Q32, Q27, Q37, Q42⟩ := Rd.inv Q12
 have Q23 : Rd 1 encS okS (V H w [bx id_b [.int .i64 id] 3]) w (.slice x_Wa x_Wn x_Wc) x.touch.writes := Rd.start Q13 hD
 obtain ⟨Q33, Q28, Q38, Q43⟩ := Rd.inv Q13
 have Q21 : Rd 1 encI okI (V H w [bx id_b [.int .i64 id] 3]) w (.slice Q6 Q8 Q7) x.marks := Rd.start Q11 hD
 obtain ⟨Q31, Q26, Q36, Q41⟩ := Rd.inv Q11
 refine calls_enter 8 Tryz.func51 rfl Tryz.ntmps51 (Nat.le_of_ble_eq_true rfl) (fun _ F0i => ?_)
 have F0 : Fr 8 [(0, .agg #[.int .i64 x.id, .int .i64 x.age, .int .i64 x.proc, .int .i64 x.began, .slice Q3 Q5 Q4, .slice Q0 Q2 Q1, .slice x_Ra x_Rn x_Rc, .slice x_Wa x_Wn x_Wc, .slice Q6 Q8 Q7, .int .i64 x.state]), (1, .pointer (some ⟨id_b, 0, none⟩))] _ := F0i
 clear F0i
 refine wp_seq (wp_region_lit (l_op (f_box F0 hA rfl rfl rfl (F0.ev 0 rfl) rfl rfl fun b1 _ w1 F2 S1 => ?_)))
 refine l_op (f_val F2 rfl rfl (r_assign rfl rfl) rfl fun _ F3 => ?_)
 refine s_end (x_normal (wp_seq (wp_region_lit (l_op (f_val F3 rfl rfl (r_field FI_58_0 rfl (F3.ev 2 rfl) rfl) rfl fun _ F4 => ?_)))))
 refine l_op (f_val (v := .int .i64 x.id) F4 rfl rfl (r_loadB S1.at' 0 TI_3 rfl rfl (F4.ev 4 rfl) rfl rfl (fun _ => rfl) rfl) rfl fun _ F5 => ?_)
 refine l_op (f_val (v := .int .i64 id) F5 rfl rfl (r_loadB S1.at' 1 TI_3 rfl rfl (F5.ev 1 rfl) rfl rfl (fun _ => rfl) rfl) rfl fun _ F6 => ?_)
 refine l_op (f_val F6 rfl rfl (r_cmp (b := decide (x.id = id)) (.inl rfl) rfl (F6.ev 5 rfl) (F6.ev 6 rfl) (dec_of (by omega))) rfl fun _ F7 => ?_)
 refine l_op (f_as F7 rfl rfl rfl rfl rfl fun _ F8 => ?_)
 refine s_end (x_normal (wp_ret ?_))
 refine x_done (v := .bool (decide (x.id = id))) F8 (results_1 Tryz.results51 (.tmp (F8.ev 3 rfl))) ?_
 exact ⟨rfl, (Mv.pick S1 [1] rfl)⟩
theorem slices_IndexFunc_Simpl_Tx_impl_Tx_impl_FindTx_1_c {w : World} {H : Nat → Prop} {s : List TxH} {s_a : Option Addr} {s_n s_c : Nat} {id_b : Nat} {id : Int} (v_s : Rd 10 encTx okTx H w (.slice s_a s_n s_c) s) (u_s : NRd inTx H w s) (h_id : i64ok id) (p0 : s_n ≤ 1048576) (hA : At w [bx id_b [.int .i64 id] 3]) (hD : ∀ b, H b → ¬ fps [bx id_b [.int .i64 id] 3] b) :
    Calls Tryz.prog 50 #[.slice s_a s_n s_c, .func (.func 51) #[] #[.pointer (some ⟨id_b, 0, none⟩)]] w fun e w' => e = .returned (.int .i64 (findT (s.map TxH.d) id)) ∧ Mv [bx id_b [.int .i64 id] 3] w [bx id_b [.int .i64 id] 3] w' ∧ i64ok (findT (s.map TxH.d) id) := by
 have uU : True := (fun _ _ => trivial) h_id p0
 clear uU
 have Q1 : Rd 10 encTx okTx (V H w [bx id_b [.int .i64 id] 3]) w (.slice s_a s_n s_c) s := Rd.start v_s hD
 obtain ⟨ln_s, le_s, mx_s, ni_s⟩ := Rd.inv v_s
 have Q0 : NRd inTx (V H w [bx id_b [.int .i64 id] 3]) w s := NRd.start u_s hD
 refine calls_enter 19 Tryz.func50 rfl Tryz.ntmps50 (Nat.le_of_ble_eq_true rfl) (fun _ F0i => ?_)
 have F0 : Fr 19 [(0, .slice s_a s_n s_c), (1, .func (.func 51) #[] #[.pointer (some ⟨id_b, 0, none⟩)])] _ := F0i
 clear F0i
 refine wp_seq (wp_region_lit (l_op (f_val F0 rfl rfl (r_assign rfl rfl) rfl fun _ F1 => ?_)))
 refine s_end (x_normal (wp_seq (wp_seq (wp_region_lit (l_op (f_mv F1 rfl rfl rfl rfl rfl fun _ F2 => ?_))))))
 refine l_op (f_val F2 rfl rfl (r_len Tryz.underlying36 rfl (F2.ev 6 rfl)) rfl fun _ F3 => ?_)
 refine l_op (f_val F3 rfl rfl (r_move rfl rfl) rfl fun _ F4 => ?_)
 refine s_end (x_normal (wp_block ?_))
 refine x_loop (fun (k : Nat) aZ wZ => Fr 19 [(8, .int .i64 ((k : Nat) : Int)), (7, .int .i64 ((s_n : Nat) : Int)), (0, .slice s_a s_n s_c), (1, .func (.func 51) #[] #[.pointer (some ⟨id_b, 0, none⟩)])] aZ ∧ Mv [bx id_b [.int .i64 id] 3] w [bx id_b [.int .i64 id] 3] wZ ∧ (k ≤ s_n) ∧ (∀ j, j < k → ∀ c, nth s j = some c → ¬ c.d.id = id)) (fun (k : Nat) => s_n - k) (0) ?_ ?_
 · exact ⟨F4.cut rfl, (Mv.refl hA), by omega, all_none'⟩
 · rintro k a5 w5 ⟨F5, S5, hk_0, hk_1⟩
   refine wp_seq (wp_region_lit (l_op (f_val F5 rfl rfl (r_cmp (b := decide (k < s_n)) (.inr (.inr (.inl rfl))) rfl (F5.ev 8 rfl) (F5.ev 7 rfl) (dec_of (by omega))) rfl fun _ F6 => ?_)))
   refine s_end (x_normal (wp_seq (x_cond (p := k < s_n) (F6.ev 9 rfl) (fun h7 => ?_) (fun h7 => ?_))))
   · skip
     refine wp_skip (x_normal (wp_seq (wp_block (wp_seq (wp_region_lit (l_op (f_mv F6 rfl rfl rfl rfl rfl fun _ F8 => ?_)))))))
     refine l_op (f_as F8 rfl rfl rfl rfl rfl fun _ F9 => ?_)
     refine s_end (x_normal (wp_seq (wp_region_lit (l_op (f_mv F9 rfl rfl rfl rfl rfl fun _ F10 => ?_)))))
     refine l_op (f_mv F10 rfl rfl rfl rfl rfl fun _ F11 => ?_)
     refine l_op (f_mv F11 rfl rfl rfl rfl rfl fun _ F12 => ?_)
     obtain ⟨B13, O13, x1, ad13, hx1, okx1, ln13, cl13⟩ := Rd.at (Rd.mv (Nat.succ_pos _) Q1 S5) k (by first | assumption | omega)
     clear ln13
     have oj14 := okx1
     obtain ⟨oi14_0, oi14_1, oi14_2, oi14_3, oi14_4⟩ := oj14
     have VI15 : Rd 6 encK okK (V H w [bx id_b [.int .i64 id] 3]) w5 (.slice x1.a0 x1.n0 x1.c0) x1.d.calls := NRd.get (NRd.mv Q0 S5) hx1 (j := 0) rfl
     obtain ⟨ln15, le15, mx15, ni15⟩ := Rd.inv VI15
     have VI16 : Rd 3 encR okR (V H w [bx id_b [.int .i64 id] 3]) w5 (.slice x1.a1 x1.n1 x1.c1) x1.d.answers := NRd.get (NRd.mv Q0 S5) hx1 (j := 1) rfl
     obtain ⟨ln16, le16, mx16, ni16⟩ := Rd.inv VI16
     have VI17 : Rd 1 encS okS (V H w [bx id_b [.int .i64 id] 3]) w5 (.slice x1.a2 x1.n2 x1.c2) x1.d.touch.reads := NRd.get (NRd.mv Q0 S5) hx1 (j := 2) rfl
     obtain ⟨ln17, le17, mx17, ni17⟩ := Rd.inv VI17
     have VI18 : Rd 1 encS okS (V H w [bx id_b [.int .i64 id] 3]) w5 (.slice x1.a3 x1.n3 x1.c3) x1.d.touch.writes := NRd.get (NRd.mv Q0 S5) hx1 (j := 3) rfl
     obtain ⟨ln18, le18, mx18, ni18⟩ := Rd.inv VI18
     have VI19 : Rd 1 encI okI (V H w [bx id_b [.int .i64 id] 3]) w5 (.slice x1.a4 x1.n4 x1.c4) x1.d.marks := NRd.get (NRd.mv Q0 S5) hx1 (j := 4) rfl
     obtain ⟨ln19, le19, mx19, ni19⟩ := Rd.inv VI19
     refine l_op (f_val F12 rfl rfl (r_indexAddr (i := k) ET_36 rfl ((F12.ev 12 rfl).trans (by rw [ad13])) (F12.ev 13 rfl) (by omega) (by first | assumption | omega)) rfl fun _ F20 => ?_)
     refine l_op (f_val (v := .agg #[.int .i64 x1.d.id, .int .i64 x1.d.age, .int .i64 x1.d.proc, .int .i64 x1.d.began, .slice x1.a0 x1.n0 x1.c0, .slice x1.a1 x1.n1 x1.c1, .slice x1.a2 x1.n2 x1.c2, .slice x1.a3 x1.n3 x1.c3, .slice x1.a4 x1.n4 x1.c4, .int .i64 x1.d.state]) F20 rfl rfl (r_load (cs := [.int .i64 x1.d.id, .int .i64 x1.d.age, .int .i64 x1.d.proc, .int .i64 x1.d.began, .slice x1.a0 x1.n0 x1.c0, .slice x1.a1 x1.n1 x1.c1, .slice x1.a2 x1.n2 x1.c2, .slice x1.a3 x1.n3 x1.c3, .slice x1.a4 x1.n4 x1.c4, .int .i64 x1.d.state]) TI_58 rfl (F20.ev 14 rfl) rfl (fun h => nomatch h) (elem_sub (f := 0) cl13 [.int .i64 x1.d.id, .int .i64 x1.d.age, .int .i64 x1.d.proc, .int .i64 x1.d.began, .slice x1.a0 x1.n0 x1.c0, .slice x1.a1 x1.n1 x1.c1, .slice x1.a2 x1.n2 x1.c2, .slice x1.a3 x1.n3 x1.c3, .slice x1.a4 x1.n4 x1.c4, .int .i64 x1.d.state] rfl)) rfl fun _ F21 => ?_)
     refine l_op (f_callv F21 CF_51 rfl rfl rfl rfl (F21.ev 11 rfl) (lc (F21.ev 15 rfl) rfl) (impl_FindTx_1_c (x := x1.d) (id := id) okx1.1 okx1.2.1 okx1.2.2.1 okx1.2.2.2.1 VI15 VI16 VI17 VI18 VI19 okx1.2.2.2.2 (show i64ok id from by first | assumption | exact ⟨by omega, by omega⟩) (At.pick (is := [0]) S5.at' rfl) (V_off (is := [0]))) ?_)
     rintro _ w22 ⟨rfl, m22⟩
     refine ⟨_, rfl, fun _ F23 => ?_⟩
     have S22 : Mv _ _ [bx id_b [.int .i64 id] 3] _ := At.frame S5.at' [0] rfl m22
     clear m22
     have F24 : Fr 19 [(16, .bool (decide (x1.d.id = id))), (5, .int .i64 ((k : Nat) : Int)), (8, .int .i64 ((k : Nat) : Int)), (7, .int .i64 ((s_n : Nat) : Int)), (0, .slice s_a s_n s_c), (1, .func (.func 51) #[] #[.pointer (some ⟨id_b, 0, none⟩)])] _ := F23.cut rfl
     clear F5 F6 F8 F9 F10 F11 F12 F20 F21 F23
     refine s_end (x_normal (x_condb (b := (decide (x1.d.id = id))) (F24.ev 16 rfl) (fun h25 => ?_) (fun h25 => ?_)))
     · skip
       refine wp_seq (wp_region_lit (l_op (f_mv F24 rfl rfl rfl rfl rfl fun _ F26 => ?_)))
       refine l_op (f_as F26 rfl rfl rfl rfl rfl fun _ F27 => ?_)
       refine s_end (x_normal (wp_ret (x_block_ret (x_then_ret (x_then_ret (x_block_ret (x_then_ret ?_)))))))
       refine x_done (v := .int .i64 ((k : Nat) : Int)) F27 (results_1 Tryz.results50 (.tmp (F27.ev 4 rfl))) ?_
       exact ⟨(by rw [(show ((k : Nat) : Int) = (findT (s.map TxH.d) id) from by exact find_t hx1 (of_decide_eq_true (by assumption)) hk_1)]), (Mv.pick (S5.trans S22) [0] rfl), findT_ok (by rw [List.length_map]; omega)⟩
     · skip
       refine wp_skip (x_block_normal (x_normal (wp_region_lit (l_op (f_val F24 rfl rfl (r_add (z := ((k + 1 : Nat) : Int)) rfl (F24.ev 8 rfl) rfl (by first | rfl | omega) ⟨by first | omega | (unfold i64ok at *; omega), by first | omega | (unfold i64ok at *; omega)⟩) rfl fun _ F28 => ?_)))))
       refine l_op (f_mv F28 rfl rfl rfl rfl rfl fun _ F29 => ?_)
       refine s_end ?_
       refine x_normal ⟨k + 1, by omega, F29.cut rfl, ((S5.trans S22).pick [0] rfl), by omega, all_stepP hk_1 (fun c hc => by obtain rfl := Option.some.inj (hx1.symm.trans hc); exact of_decide_eq_false (by assumption))⟩
   · skip
     refine wp_exit (x_then_exit (x_then_exit (x_block_here (x_normal (wp_seq (wp_region_lit (l_op (f_val F6 rfl rfl (r_assign rfl rfl) rfl fun _ F30 => ?_))))))))
     refine s_end (x_normal (wp_ret ?_))
     refine x_done (v := .int .i64 (-1)) F30 (results_1 Tryz.results50 (.tmp (F30.ev 4 rfl))) ?_
     exact ⟨(by rw [(show (-1) = (findT (s.map TxH.d) id) from by exact find_f (by omega) hk_1)]), (Mv.pick S5 [0] rfl), findT_ok (by rw [List.length_map]; omega)⟩
theorem impl_FindTx_c {w : World} {H : Nat → Prop} {list : List TxH} {Q1 : Option Addr} {Q0 Q2 : Nat} {id : Int} (Q3 : Rd 10 encTx okTx H w (.slice Q1 Q0 Q2) list) (Q6 : NRd inTx H w list) (h_id : i64ok id) (p0 : Q0 ≤ 1048576) :
    Calls Tryz.prog 27 #[.slice Q1 Q0 Q2, .int .i64 id] w fun e w' => e = .returned (.int .i64 (findT (list.map TxH.d) id)) ∧ Mv [] w [] w' ∧ i64ok (findT (list.map TxH.d) id) := by
 have uU : True := (fun _ _ => trivial) h_id p0
 clear uU
 have Q5 : Rd 10 encTx okTx (V H w []) w (.slice Q1 Q0 Q2) list := Rd.start Q3 (fun _ _ => fps_nil _)
 obtain ⟨Q8, Q7, Q9, Q10⟩ := Rd.inv Q3
 have Q4 : NRd inTx (V H w []) w list := NRd.start Q6 (fun _ _ => fps_nil _)
 refine calls_enter 8 Tryz.func27 rfl Tryz.ntmps27 (Nat.le_of_ble_eq_true rfl) (fun _ F0i => ?_)
 have F0 : Fr 8 [(0, .slice Q1 Q0 Q2), (1, .int .i64 id)] _ := F0i
 clear F0i
 refine wp_seq (wp_region_lit (l_op (f_box F0 (At.nil w) rfl rfl rfl (F0.ev 1 rfl) rfl rfl fun b1 _ w1 F2 S1 => ?_)))
 refine l_op (f_val F2 rfl rfl (r_assign rfl rfl) rfl fun _ F3 => ?_)
 refine s_end (x_normal (wp_seq (wp_region_lit (l_op (f_mv F3 rfl rfl rfl rfl rfl fun _ F4 => ?_)))))
 refine l_op (f_val F4 rfl rfl (r_makeFuncL rfl (lc (F4.ev 3 rfl) rfl)) rfl fun _ F5 => ?_)
 refine l_op (f_call F5 CF_50 rfl rfl rfl rfl (lc (F5.ev 5 rfl) (lc (F5.ev 6 rfl) rfl)) (slices_IndexFunc_Simpl_Tx_impl_Tx_impl_FindTx_1_c (s := list) (id := id) (Rd.mv (Nat.succ_pos _) Q5 S1) (NRd.mv Q4 S1) (show i64ok id from by first | assumption | exact ⟨by omega, by omega⟩) (by first | assumption | omega | (simp <;> omega)) (At.pick (is := [0]) S1.at' rfl) (V_off (is := [0]))) ?_)
 rintro _ w6 ⟨rfl, m6, q6_0⟩
 refine ⟨_, rfl, fun _ F7 => ?_⟩
 have S6 : Mv _ _ [bx b1 [.int .i64 id] 3] _ := At.frame S1.at' [0] rfl m6
 clear m6
 refine l_op (f_as F7 rfl rfl rfl rfl rfl fun _ F8 => ?_)
 refine s_end (x_normal (wp_ret ?_))
 refine x_done (v := .int .i64 (findT (list.map TxH.d) id)) F8 (results_1 Tryz.results27 (.tmp (F8.ev 4 rfl))) ?_
 exact ⟨rfl, (Mv.pick (S1.trans S6) [] rfl), by first | assumption | omega⟩
theorem impl_AllApart_c {w : World} {H : Nat → Prop} {list : List TxH} {Q1 : Option Addr} {Q0 Q2 : Nat} (Q5 : Rd 10 encTx okTx H w (.slice Q1 Q0 Q2) list) (Q6 : NRd inTx H w list) :
    Calls Tryz.prog 28 #[.slice Q1 Q0 Q2] w fun e w' => e = .returned (.bool (apartL (list.map TxH.d))) ∧ Mv [] w [] w' := by
 have Q4 : Rd 10 encTx okTx (V H w []) w (.slice Q1 Q0 Q2) list := Rd.start Q5 (fun _ _ => fps_nil _)
 obtain ⟨Q8, Q7, Q9, Q10⟩ := Rd.inv Q5
 have Q3 : NRd inTx (V H w []) w list := NRd.start Q6 (fun _ _ => fps_nil _)
 refine calls_enter 39 Tryz.func28 rfl Tryz.ntmps28 (Nat.le_of_ble_eq_true rfl) (fun _ F0i => ?_)
 have F0 : Fr 39 [(0, .slice Q1 Q0 Q2)] _ := F0i
 clear F0i
 refine wp_seq (wp_region_lit (l_op (f_val F0 rfl rfl (r_assign rfl rfl) rfl fun _ F1 => ?_)))
 refine s_end (x_normal (wp_seq (wp_seq (wp_region_lit (l_op (f_mv F1 rfl rfl rfl rfl rfl fun _ F2 => ?_))))))
 refine l_op (f_val F2 rfl rfl (r_len Tryz.underlying36 rfl (F2.ev 7 rfl)) rfl fun _ F3 => ?_)
 refine l_op (f_val F3 rfl rfl (r_move rfl rfl) rfl fun _ F4 => ?_)
 refine s_end (x_normal (wp_block ?_))
 refine x_loop (fun (k : Nat) aZ wZ => Fr 39 [(9, .int .i64 ((k : Nat) : Int)), (8, .int .i64 ((Q0 : Nat) : Int)), (7, .slice Q1 Q0 Q2), (0, .slice Q1 Q0 Q2)] aZ ∧ Mv [] w [] wZ ∧ (k ≤ Q0) ∧ (∀ i, i < k → ∀ j, j < i → ∀ x y, nth list i = some x → nth list j = some y → badXY x.d y.d = false)) (fun (k : Nat) => Q0 - k) (0) ?_ ?_
 · exact ⟨F4.cut rfl, (Mv.refl (At.nil w)), by omega, fun i hi => absurd hi (Nat.not_lt_zero _)⟩
 · rintro k a5 w5 ⟨F5, S5, hk_0, hk_1⟩
   refine wp_seq (wp_region_lit (l_op (f_val F5 rfl rfl (r_cmp (b := decide (k < Q0)) (.inr (.inr (.inl rfl))) rfl (F5.ev 9 rfl) (F5.ev 8 rfl) (dec_of (by omega))) rfl fun _ F6 => ?_)))
   refine s_end (x_normal (wp_seq (x_cond (p := k < Q0) (F6.ev 10 rfl) (fun h7 => ?_) (fun h7 => ?_))))
   · skip
     refine wp_skip (x_normal (wp_seq (wp_block (wp_seq (wp_region_lit (l_op (f_mv F6 rfl rfl rfl rfl rfl fun _ F8 => ?_)))))))
     obtain ⟨B9, O9, x1, ad9, hx1, okx1, ln9, cl9⟩ := Rd.at (Rd.mv (Nat.succ_pos _) Q4 S5) k (by first | assumption | omega)
     clear ln9
     have oj10 := okx1
     obtain ⟨oi10_0, oi10_1, oi10_2, oi10_3, oi10_4⟩ := oj10
     have VI11 : Rd 6 encK okK (V H w []) w5 (.slice x1.a0 x1.n0 x1.c0) x1.d.calls := NRd.get (NRd.mv Q3 S5) hx1 (j := 0) rfl
     obtain ⟨ln11, le11, mx11, ni11⟩ := Rd.inv VI11
     have VI12 : Rd 3 encR okR (V H w []) w5 (.slice x1.a1 x1.n1 x1.c1) x1.d.answers := NRd.get (NRd.mv Q3 S5) hx1 (j := 1) rfl
     obtain ⟨ln12, le12, mx12, ni12⟩ := Rd.inv VI12
     have VI13 : Rd 1 encS okS (V H w []) w5 (.slice x1.a2 x1.n2 x1.c2) x1.d.touch.reads := NRd.get (NRd.mv Q3 S5) hx1 (j := 2) rfl
     obtain ⟨ln13, le13, mx13, ni13⟩ := Rd.inv VI13
     have VI14 : Rd 1 encS okS (V H w []) w5 (.slice x1.a3 x1.n3 x1.c3) x1.d.touch.writes := NRd.get (NRd.mv Q3 S5) hx1 (j := 3) rfl
     obtain ⟨ln14, le14, mx14, ni14⟩ := Rd.inv VI14
     have VI15 : Rd 1 encI okI (V H w []) w5 (.slice x1.a4 x1.n4 x1.c4) x1.d.marks := NRd.get (NRd.mv Q3 S5) hx1 (j := 4) rfl
     obtain ⟨ln15, le15, mx15, ni15⟩ := Rd.inv VI15
     refine l_op (f_val F8 rfl rfl (r_indexAddr (i := k) ET_36 rfl ((F8.ev 7 rfl).trans (by rw [ad9])) (F8.ev 9 rfl) (by omega) (by first | assumption | omega)) rfl fun _ F16 => ?_)
     refine l_op (f_val (v := .agg #[.int .i64 x1.d.id, .int .i64 x1.d.age, .int .i64 x1.d.proc, .int .i64 x1.d.began, .slice x1.a0 x1.n0 x1.c0, .slice x1.a1 x1.n1 x1.c1, .slice x1.a2 x1.n2 x1.c2, .slice x1.a3 x1.n3 x1.c3, .slice x1.a4 x1.n4 x1.c4, .int .i64 x1.d.state]) F16 rfl rfl (r_load (cs := [.int .i64 x1.d.id, .int .i64 x1.d.age, .int .i64 x1.d.proc, .int .i64 x1.d.began, .slice x1.a0 x1.n0 x1.c0, .slice x1.a1 x1.n1 x1.c1, .slice x1.a2 x1.n2 x1.c2, .slice x1.a3 x1.n3 x1.c3, .slice x1.a4 x1.n4 x1.c4, .int .i64 x1.d.state]) TI_58 rfl (F16.ev 12 rfl) rfl (fun h => nomatch h) (elem_sub (f := 0) cl9 [.int .i64 x1.d.id, .int .i64 x1.d.age, .int .i64 x1.d.proc, .int .i64 x1.d.began, .slice x1.a0 x1.n0 x1.c0, .slice x1.a1 x1.n1 x1.c1, .slice x1.a2 x1.n2 x1.c2, .slice x1.a3 x1.n3 x1.c3, .slice x1.a4 x1.n4 x1.c4, .int .i64 x1.d.state] rfl)) rfl fun _ F17 => ?_)
     refine l_op (f_alloc F17 S5.at' ZI_58 rfl rfl rfl rfl rfl fun b18 _ w18 F19 S18 => ?_)
     refine l_op (f_as F19 rfl rfl rfl rfl rfl fun _ F20 => ?_)
     refine l_op (s_store S18.at' 0 TI_58 rfl rfl rfl rfl rfl (F20.ev 4 rfl) (F20.ev 13 rfl) rfl rfl rfl rfl rfl fun w21 S21 => ?_)
     have T22 : Mv _ _ [bx b18 [.int .i64 x1.d.id, .int .i64 x1.d.age, .int .i64 x1.d.proc, .int .i64 x1.d.began, .slice x1.a0 x1.n0 x1.c0, .slice x1.a1 x1.n1 x1.c1, .slice x1.a2 x1.n2 x1.c2, .slice x1.a3 x1.n3 x1.c3, .slice x1.a4 x1.n4 x1.c4, .int .i64 x1.d.state] 58] _ := S21
     refine s_end (x_normal (wp_seq (wp_region_lit (l_op (f_mv F20 rfl rfl rfl rfl rfl fun _ F23 => ?_)))))
     refine l_op (f_mv F23 rfl rfl rfl rfl rfl fun _ F24 => ?_)
     refine l_op (f_sliceR F24 0 k (Rd.mv (Nat.succ_pos _) Q4 (S5.trans (S18.trans T22))) ET_36 rfl rfl rfl rfl (F24.ev 14 rfl) rfl (F24.ev 15 rfl) (by first | assumption | omega) (by first | assumption | omega) fun A25 C25 _ F26 V25i => ?_)
     have V25 : Rd 10 encTx okTx (V H w [bx b18 [.int .i64 x1.d.id, .int .i64 x1.d.age, .int .i64 x1.d.proc, .int .i64 x1.d.began, .slice x1.a0 x1.n0 x1.c0, .slice x1.a1 x1.n1 x1.c1, .slice x1.a2 x1.n2 x1.c2, .slice x1.a3 x1.n3 x1.c3, .slice x1.a4 x1.n4 x1.c4, .int .i64 x1.d.state] 58]) w21 (.slice A25 (k - 0) C25) (list.take k) := V25i
     clear V25i
     have VN25 : NRd inTx (V H w [bx b18 [.int .i64 x1.d.id, .int .i64 x1.d.age, .int .i64 x1.d.proc, .int .i64 x1.d.began, .slice x1.a0 x1.n0 x1.c0, .slice x1.a1 x1.n1 x1.c1, .slice x1.a2 x1.n2 x1.c2, .slice x1.a3 x1.n3 x1.c3, .slice x1.a4 x1.n4 x1.c4, .int .i64 x1.d.state] 58]) w21 (list.take k) := NRd.take (NRd.mv Q3 (S5.trans (S18.trans T22))) k
     refine l_op (f_val F26 rfl rfl (r_len Tryz.underlying36 rfl (F26.ev 16 rfl)) rfl fun _ F27 => ?_)
     refine l_op (f_val F27 rfl rfl (r_move rfl rfl) rfl fun _ F28 => ?_)
     have F29 : Fr 39 [(18, .int .i64 0), (17, .int .i64 (((k - 0) : Nat) : Int)), (16, .slice A25 (k - 0) C25), (4, .pointer (some ⟨b18, 0, none⟩)), (9, .int .i64 ((k : Nat) : Int)), (8, .int .i64 ((Q0 : Nat) : Int)), (7, .slice Q1 Q0 Q2), (0, .slice Q1 Q0 Q2)] _ := F28.cut rfl
     clear F5 F6 F8 F16 F17 F19 F20 F23 F24 F26 F27 F28
     refine s_end (x_normal (wp_block ?_))
     refine x_loop (fun (q : Nat) aZ wZ => Fr 39 [(18, .int .i64 ((q : Nat) : Int)), (17, .int .i64 (((k - 0) : Nat) : Int)), (16, .slice A25 (k - 0) C25), (4, .pointer (some ⟨b18, 0, none⟩)), (9, .int .i64 ((k : Nat) : Int)), (8, .int .i64 ((Q0 : Nat) : Int)), (7, .slice Q1 Q0 Q2), (0, .slice Q1 Q0 Q2)] aZ ∧ Mv [bx b18 [.int .i64 x1.d.id, .int .i64 x1.d.age, .int .i64 x1.d.proc, .int .i64 x1.d.began, .slice x1.a0 x1.n0 x1.c0, .slice x1.a1 x1.n1 x1.c1, .slice x1.a2 x1.n2 x1.c2, .slice x1.a3 x1.n3 x1.c3, .slice x1.a4 x1.n4 x1.c4, .int .i64 x1.d.state] 58] w21 [bx b18 [.int .i64 x1.d.id, .int .i64 x1.d.age, .int .i64 x1.d.proc, .int .i64 x1.d.began, .slice x1.a0 x1.n0 x1.c0, .slice x1.a1 x1.n1 x1.c1, .slice x1.a2 x1.n2 x1.c2, .slice x1.a3 x1.n3 x1.c3, .slice x1.a4 x1.n4 x1.c4, .int .i64 x1.d.state] 58] wZ ∧ (q ≤ k) ∧ (∀ j, j < q → ∀ y, nth list j = some y → ∀ x, nth list k = some x → badXY x.d y.d = false)) (fun (q : Nat) => k - q) (0) ?_ ?_
     · exact ⟨F29.cut rfl, (Mv.refl T22.at'), by omega, fun j hj => absurd hj (Nat.not_lt_zero _)⟩
     · rintro q a30 w30 ⟨F30, S30, hq_0, hq_1⟩
       refine wp_seq (wp_region_lit (l_op (f_val F30 rfl rfl (r_cmp (b := decide (q < (k - 0))) (.inr (.inr (.inl rfl))) rfl (F30.ev 18 rfl) (F30.ev 17 rfl) (dec_of (by omega))) rfl fun _ F31 => ?_)))
       refine s_end (x_normal (wp_seq (x_cond (p := q < (k - 0)) (F31.ev 19 rfl) (fun h32 => ?_) (fun h32 => ?_))))
       · skip
         refine wp_skip (x_normal (wp_seq (wp_block (wp_seq (wp_region_lit ?_)))))
         obtain ⟨B33, O33, x2, ad33, hx2, okx2, ln33, cl33⟩ := Rd.at (Rd.mv (Nat.succ_pos _) V25 S30) q (by first | assumption | omega)
         clear ln33
         have oj34 := okx2
         obtain ⟨oi34_0, oi34_1, oi34_2, oi34_3, oi34_4⟩ := oj34
         have VI35 : Rd 6 encK okK (V H w [bx b18 [.int .i64 x1.d.id, .int .i64 x1.d.age, .int .i64 x1.d.proc, .int .i64 x1.d.began, .slice x1.a0 x1.n0 x1.c0, .slice x1.a1 x1.n1 x1.c1, .slice x1.a2 x1.n2 x1.c2, .slice x1.a3 x1.n3 x1.c3, .slice x1.a4 x1.n4 x1.c4, .int .i64 x1.d.state] 58]) w30 (.slice x2.a0 x2.n0 x2.c0) x2.d.calls := NRd.get (NRd.mv VN25 S30) hx2 (j := 0) rfl
         obtain ⟨ln35, le35, mx35, ni35⟩ := Rd.inv VI35
         have VI36 : Rd 3 encR okR (V H w [bx b18 [.int .i64 x1.d.id, .int .i64 x1.d.age, .int .i64 x1.d.proc, .int .i64 x1.d.began, .slice x1.a0 x1.n0 x1.c0, .slice x1.a1 x1.n1 x1.c1, .slice x1.a2 x1.n2 x1.c2, .slice x1.a3 x1.n3 x1.c3, .slice x1.a4 x1.n4 x1.c4, .int .i64 x1.d.state] 58]) w30 (.slice x2.a1 x2.n1 x2.c1) x2.d.answers := NRd.get (NRd.mv VN25 S30) hx2 (j := 1) rfl
         obtain ⟨ln36, le36, mx36, ni36⟩ := Rd.inv VI36
         have VI37 : Rd 1 encS okS (V H w [bx b18 [.int .i64 x1.d.id, .int .i64 x1.d.age, .int .i64 x1.d.proc, .int .i64 x1.d.began, .slice x1.a0 x1.n0 x1.c0, .slice x1.a1 x1.n1 x1.c1, .slice x1.a2 x1.n2 x1.c2, .slice x1.a3 x1.n3 x1.c3, .slice x1.a4 x1.n4 x1.c4, .int .i64 x1.d.state] 58]) w30 (.slice x2.a2 x2.n2 x2.c2) x2.d.touch.reads := NRd.get (NRd.mv VN25 S30) hx2 (j := 2) rfl
         obtain ⟨ln37, le37, mx37, ni37⟩ := Rd.inv VI37
         have VI38 : Rd 1 encS okS (V H w [bx b18 [.int .i64 x1.d.id, .int .i64 x1.d.age, .int .i64 x1.d.proc, .int .i64 x1.d.began, .slice x1.a0 x1.n0 x1.c0, .slice x1.a1 x1.n1 x1.c1, .slice x1.a2 x1.n2 x1.c2, .slice x1.a3 x1.n3 x1.c3, .slice x1.a4 x1.n4 x1.c4, .int .i64 x1.d.state] 58]) w30 (.slice x2.a3 x2.n3 x2.c3) x2.d.touch.writes := NRd.get (NRd.mv VN25 S30) hx2 (j := 3) rfl
         obtain ⟨ln38, le38, mx38, ni38⟩ := Rd.inv VI38
         have VI39 : Rd 1 encI okI (V H w [bx b18 [.int .i64 x1.d.id, .int .i64 x1.d.age, .int .i64 x1.d.proc, .int .i64 x1.d.began, .slice x1.a0 x1.n0 x1.c0, .slice x1.a1 x1.n1 x1.c1, .slice x1.a2 x1.n2 x1.c2, .slice x1.a3 x1.n3 x1.c3, .slice x1.a4 x1.n4 x1.c4, .int .i64 x1.d.state] 58]) w30 (.slice x2.a4 x2.n4 x2.c4) x2.d.marks := NRd.get (NRd.mv VN25 S30) hx2 (j := 4) rfl
         obtain ⟨ln39, le39, mx39, ni39⟩ := Rd.inv VI39
         refine l_op (f_val F31 rfl rfl (r_indexAddr (i := q) ET_36 rfl ((F31.ev 16 rfl).trans (by rw [ad33])) (F31.ev 18 rfl) (by omega) (by first | assumption | omega)) rfl fun _ F40 => ?_)
         refine l_op (f_val (v := .agg #[.int .i64 x2.d.id, .int .i64 x2.d.age, .int .i64 x2.d.proc, .int .i64 x2.d.began, .slice x2.a0 x2.n0 x2.c0, .slice x2.a1 x2.n1 x2.c1, .slice x2.a2 x2.n2 x2.c2, .slice x2.a3 x2.n3 x2.c3, .slice x2.a4 x2.n4 x2.c4, .int .i64 x2.d.state]) F40 rfl rfl (r_load (cs := [.int .i64 x2.d.id, .int .i64 x2.d.age, .int .i64 x2.d.proc, .int .i64 x2.d.began, .slice x2.a0 x2.n0 x2.c0, .slice x2.a1 x2.n1 x2.c1, .slice x2.a2 x2.n2 x2.c2, .slice x2.a3 x2.n3 x2.c3, .slice x2.a4 x2.n4 x2.c4, .int .i64 x2.d.state]) TI_58 rfl (F40.ev 20 rfl) rfl (fun h => nomatch h) (elem_sub (f := 0) cl33 [.int .i64 x2.d.id, .int .i64 x2.d.age, .int .i64 x2.d.proc, .int .i64 x2.d.began, .slice x2.a0 x2.n0 x2.c0, .slice x2.a1 x2.n1 x2.c1, .slice x2.a2 x2.n2 x2.c2, .slice x2.a3 x2.n3 x2.c3, .slice x2.a4 x2.n4 x2.c4, .int .i64 x2.d.state] rfl)) rfl fun _ F41 => ?_)
         refine l_op (f_alloc F41 S30.at' ZI_58 rfl rfl rfl rfl rfl fun b42 _ w42 F43 S42 => ?_)
         refine l_op (s_store S42.at' 0 TI_58 rfl rfl rfl rfl rfl (F43.ev 6 rfl) (F43.ev 21 rfl) rfl rfl rfl rfl rfl fun w44 S44 => ?_)
         have T45 : Mv _ _ [bx b42 [.int .i64 x2.d.id, .int .i64 x2.d.age, .int .i64 x2.d.proc, .int .i64 x2.d.began, .slice x2.a0 x2.n0 x2.c0, .slice x2.a1 x2.n1 x2.c1, .slice x2.a2 x2.n2 x2.c2, .slice x2.a3 x2.n3 x2.c3, .slice x2.a4 x2.n4 x2.c4, .int .i64 x2.d.state] 58, bx b18 [.int .i64 x1.d.id, .int .i64 x1.d.age, .int .i64 x1.d.proc, .int .i64 x1.d.began, .slice x1.a0 x1.n0 x1.c0, .slice x1.a1 x1.n1 x1.c1, .slice x1.a2 x1.n2 x1.c2, .slice x1.a3 x1.n3 x1.c3, .slice x1.a4 x1.n4 x1.c4, .int .i64 x1.d.state] 58] _ := S44
         refine s_end (x_normal (wp_seq (wp_region_lit (l_op (f_val F43 rfl rfl (r_field FI_58_8 rfl (F43.ev 4 rfl) rfl) rfl fun _ F46 => ?_)))))
         refine l_op (f_val (v := .int .i64 x1.d.state) F46 rfl rfl (r_loadB T45.at' 1 TI_3 rfl rfl (F46.ev 22 rfl) rfl rfl (fun _ => rfl) rfl) rfl fun _ F47 => ?_)
         refine l_op (f_val F47 rfl rfl (r_cmp (b := decide (x1.d.state = 1)) (.inl rfl) rfl (F47.ev 23 rfl) rfl (dec_of (by omega))) rfl fun _ F48 => ?_)
         refine l_op (f_mv F48 rfl rfl rfl rfl rfl fun _ F49 => ?_)
         rcases Decidable.em (x1.d.state = 1) with h50 | h50
         · rw [decide_eq_true h50] at F49
           refine l_op (f_val F49 (wanted_g F49 rfl rfl rfl rfl) rfl (r_field FI_58_8 rfl (F49.ev 6 rfl) rfl) rfl fun _ F51 => ?_)
           refine l_op (f_val (v := .int .i64 x2.d.state) F51 (wanted_g F51 rfl rfl rfl rfl) rfl (r_loadB T45.at' 0 TI_3 rfl rfl (F51.ev 26 rfl) rfl rfl (fun _ => rfl) rfl) rfl fun _ F52 => ?_)
           refine l_op (f_val F52 (wanted_g F52 rfl rfl rfl rfl) rfl (r_cmp (b := decide (x2.d.state = 1)) (.inl rfl) rfl (F52.ev 27 rfl) rfl (dec_of (by omega))) rfl fun _ F53 => ?_)
           refine l_op (f_val F53 rfl rfl (r_pick (b := true) rfl (F53.ev 25 rfl) (F53.ev 28 rfl)) rfl fun _ F54 => ?_)
           refine l_op (f_mv F54 rfl rfl rfl rfl rfl fun _ F55 => ?_)
           rcases Decidable.em (x2.d.state = 1) with h56 | h56
           · rw [decide_eq_true h56] at F55
             refine l_op (f_val F55 (wanted_g F55 rfl rfl rfl rfl) rfl (r_field FI_58_6 rfl (F55.ev 4 rfl) rfl) rfl fun _ F57 => ?_)
             refine l_op (f_val (v := .agg #[.slice x1.a2 x1.n2 x1.c2, .slice x1.a3 x1.n3 x1.c3]) F57 (wanted_g F57 rfl rfl rfl rfl) rfl (r_loadB T45.at' 1 TI_55 rfl rfl (F57.ev 31 rfl) rfl rfl (fun h => nomatch h) rfl) rfl fun _ F58 => ?_)
             refine l_op (f_val F58 (wanted_g F58 rfl rfl rfl rfl) rfl (r_field FI_58_6 rfl (F58.ev 6 rfl) rfl) rfl fun _ F59 => ?_)
             refine l_op (f_val (v := .agg #[.slice x2.a2 x2.n2 x2.c2, .slice x2.a3 x2.n3 x2.c3]) F59 (wanted_g F59 rfl rfl rfl rfl) rfl (r_loadB T45.at' 0 TI_55 rfl rfl (F59.ev 33 rfl) rfl rfl (fun h => nomatch h) rfl) rfl fun _ F60 => ?_)
             refine l_op (f_call F60 CF_52 (wanted_g F60 rfl rfl rfl rfl) rfl rfl rfl (lc (F60.ev 32 rfl) (lc (F60.ev 34 rfl) rfl)) (impl_Clash_c (a := x1.d.touch) (b := x2.d.touch) (Rd.mv (Nat.succ_pos _) VI13 (S18.trans (T22.trans (S30.trans (S42.trans T45))))) (Rd.mv (Nat.succ_pos _) VI14 (S18.trans (T22.trans (S30.trans (S42.trans T45))))) (Rd.mv (Nat.succ_pos _) VI37 (S42.trans T45)) (Rd.mv (Nat.succ_pos _) VI38 (S42.trans T45))) ?_)
             rintro _ w61 ⟨rfl, m61⟩
             refine ⟨_, rfl, fun _ F62 => ?_⟩
             have S61 := At.frame0 T45.at' m61
             clear m61
             refine l_op (f_val F62 rfl rfl (r_pick (b := true) rfl (F62.ev 30 rfl) (F62.ev 35 rfl)) rfl fun _ F63 => ?_)
             have F64 : Fr 39 [(36, .bool (clashT x1.d.touch x2.d.touch)), (18, .int .i64 ((q : Nat) : Int)), (17, .int .i64 (((k - 0) : Nat) : Int)), (16, .slice A25 (k - 0) C25), (4, .pointer (some ⟨b18, 0, none⟩)), (9, .int .i64 ((k : Nat) : Int)), (8, .int .i64 ((Q0 : Nat) : Int)), (7, .slice Q1 Q0 Q2), (0, .slice Q1 Q0 Q2)] _ := F63.cut rfl
             clear F30 F31 F40 F41 F43 F46 F47 F48 F49 F51 F52 F53 F54 F55 F57 F58 F59 F60 F62 F63
             refine s_end (x_normal (x_condb (b := (clashT x1.d.touch x2.d.touch)) (F64.ev 36 rfl) (fun h65 => ?_) (fun h65 => ?_)))
             · skip
               refine wp_seq (wp_region_lit (l_op (f_val F64 rfl rfl (r_assign rfl rfl) rfl fun _ F66 => ?_)))
               refine s_end (x_normal (wp_ret (x_block_ret (x_then_ret (x_then_ret (x_block_ret (x_block_ret (x_then_ret (x_then_ret (x_block_ret (x_then_ret ?_)))))))))))
               refine x_done (v := .bool false) F66 (results_1 Tryz.results28 (.tmp (F66.ev 2 rfl))) ?_
               exact ⟨(by rw [(show false = (apartL (list.map TxH.d)) from by exact apart_bad hx1 (take_at hx2).1 (by first | omega | exact (take_at hx2).2) (by first | assumption | exact (bd_4 (by assumption) (by assumption)).symm.trans (by assumption)))]), (Mv.pick (S5.trans (S18.trans (T22.trans (S30.trans (S42.trans (T45.trans S61)))))) [] rfl)⟩
             · skip
               refine wp_skip (x_block_normal (x_normal (wp_region_lit (l_op (f_val F64 rfl rfl (r_add (z := ((q + 1 : Nat) : Int)) rfl (F64.ev 18 rfl) rfl (by first | rfl | omega) ⟨by first | omega | (unfold i64ok at *; omega), by first | omega | (unfold i64ok at *; omega)⟩) rfl fun _ F67 => ?_)))))
               refine l_op (f_mv F67 rfl rfl rfl rfl rfl fun _ F68 => ?_)
               refine s_end ?_
               refine x_normal ⟨q + 1, by omega, F68.cut rfl, ((S30.trans (S42.trans (T45.trans S61))).pick [1] rfl), by omega, all_stepP hq_1 (fun c hc x hx => by obtain rfl := Option.some.inj (hx1.symm.trans hx); obtain rfl := Option.some.inj ((take_at hx2).1.symm.trans hc); first | assumption | exact bd_1 (by assumption) | exact bd_2 (by assumption) | exact bd_3 (by assumption))⟩
           · rw [decide_eq_false h56] at F55
             refine l_op (f_skip F55 (wanted_g F55 rfl rfl rfl rfl) rfl rfl fun _ F69 => ?_)
             refine l_op (f_skip F69 (wanted_g F69 rfl rfl rfl rfl) rfl rfl fun _ F70 => ?_)
             refine l_op (f_skip F70 (wanted_g F70 rfl rfl rfl rfl) rfl rfl fun _ F71 => ?_)
             refine l_op (f_skip F71 (wanted_g F71 rfl rfl rfl rfl) rfl rfl fun _ F72 => ?_)
             refine l_op (f_skip F72 (wanted_g F72 rfl rfl rfl rfl) rfl rfl fun _ F73 => ?_)
             refine l_op (f_val F73 rfl rfl (r_pick (b := false) rfl (F73.ev 30 rfl) rfl) rfl fun _ F74 => ?_)
             have F75 : Fr 39 [(36, .bool false), (18, .int .i64 ((q : Nat) : Int)), (17, .int .i64 (((k - 0) : Nat) : Int)), (16, .slice A25 (k - 0) C25), (4, .pointer (some ⟨b18, 0, none⟩)), (9, .int .i64 ((k : Nat) : Int)), (8, .int .i64 ((Q0 : Nat) : Int)), (7, .slice Q1 Q0 Q2), (0, .slice Q1 Q0 Q2)] _ := F74.cut rfl
             clear F30 F31 F40 F41 F43 F46 F47 F48 F49 F51 F52 F53 F54 F55 F69 F70 F71 F72 F73 F74
             refine s_end (x_normal (wp_cond_false (F75.ev 36 rfl) (wp_skip (x_block_normal (x_normal (wp_region_lit (l_op (f_val F75 rfl rfl (r_add (z := ((q + 1 : Nat) : Int)) rfl (F75.ev 18 rfl) rfl (by first | rfl | omega) ⟨by first | omega | (unfold i64ok at *; omega), by first | omega | (unfold i64ok at *; omega)⟩) rfl fun _ F76 => ?_))))))))
             refine l_op (f_mv F76 rfl rfl rfl rfl rfl fun _ F77 => ?_)
             refine s_end ?_
             refine x_normal ⟨q + 1, by omega, F77.cut rfl, ((S30.trans (S42.trans T45)).pick [1] rfl), by omega, all_stepP hq_1 (fun c hc x hx => by obtain rfl := Option.some.inj (hx1.symm.trans hx); obtain rfl := Option.some.inj ((take_at hx2).1.symm.trans hc); first | assumption | exact bd_1 (by assumption) | exact bd_2 (by assumption) | exact bd_3 (by assumption))⟩
         · rw [decide_eq_false h50] at F49
           refine l_op (f_skip F49 (wanted_g F49 rfl rfl rfl rfl) rfl rfl fun _ F78 => ?_)
           refine l_op (f_skip F78 (wanted_g F78 rfl rfl rfl rfl) rfl rfl fun _ F79 => ?_)
           refine l_op (f_skip F79 (wanted_g F79 rfl rfl rfl rfl) rfl rfl fun _ F80 => ?_)
           refine l_op (f_val F80 rfl rfl (r_pick (b := false) rfl (F80.ev 25 rfl) rfl) rfl fun _ F81 => ?_)
           refine l_op (f_mv F81 rfl rfl rfl rfl rfl fun _ F82 => ?_)
           refine l_op (f_skip F82 (wanted_g F82 rfl rfl rfl rfl) rfl rfl fun _ F83 => ?_)
           refine l_op (f_skip F83 (wanted_g F83 rfl rfl rfl rfl) rfl rfl fun _ F84 => ?_)
           refine l_op (f_skip F84 (wanted_g F84 rfl rfl rfl rfl) rfl rfl fun _ F85 => ?_)
           refine l_op (f_skip F85 (wanted_g F85 rfl rfl rfl rfl) rfl rfl fun _ F86 => ?_)
           refine l_op (f_skip F86 (wanted_g F86 rfl rfl rfl rfl) rfl rfl fun _ F87 => ?_)
           refine l_op (f_val F87 rfl rfl (r_pick (b := false) rfl (F87.ev 30 rfl) rfl) rfl fun _ F88 => ?_)
           have F89 : Fr 39 [(36, .bool false), (18, .int .i64 ((q : Nat) : Int)), (17, .int .i64 (((k - 0) : Nat) : Int)), (16, .slice A25 (k - 0) C25), (4, .pointer (some ⟨b18, 0, none⟩)), (9, .int .i64 ((k : Nat) : Int)), (8, .int .i64 ((Q0 : Nat) : Int)), (7, .slice Q1 Q0 Q2), (0, .slice Q1 Q0 Q2)] _ := F88.cut rfl
           clear F30 F31 F40 F41 F43 F46 F47 F48 F49 F78 F79 F80 F81 F82 F83 F84 F85 F86 F87 F88
           refine s_end (x_normal (wp_cond_false (F89.ev 36 rfl) (wp_skip (x_block_normal (x_normal (wp_region_lit (l_op (f_val F89 rfl rfl (r_add (z := ((q + 1 : Nat) : Int)) rfl (F89.ev 18 rfl) rfl (by first | rfl | omega) ⟨by first | omega | (unfold i64ok at *; omega), by first | omega | (unfold i64ok at *; omega)⟩) rfl fun _ F90 => ?_))))))))
           refine l_op (f_mv F90 rfl rfl rfl rfl rfl fun _ F91 => ?_)
           refine s_end ?_
           refine x_normal ⟨q + 1, by omega, F91.cut rfl, ((S30.trans (S42.trans T45)).pick [1] rfl), by omega, all_stepP hq_1 (fun c hc x hx => by obtain rfl := Option.some.inj (hx1.symm.trans hx); obtain rfl := Option.some.inj ((take_at hx2).1.symm.trans hc); first | assumption | exact bd_1 (by assumption) | exact bd_2 (by assumption) | exact bd_3 (by assumption))⟩
       · skip
         refine wp_exit (x_then_exit (x_then_exit (x_block_here (x_block_normal (x_normal (wp_region_lit (l_op (f_val F31 rfl rfl (r_add (z := ((k + 1 : Nat) : Int)) rfl (F31.ev 9 rfl) rfl (by first | rfl | omega) ⟨by first | omega | (unfold i64ok at *; omega), by first | omega | (unfold i64ok at *; omega)⟩) rfl fun _ F92 => ?_))))))))
         refine l_op (f_mv F92 rfl rfl rfl rfl rfl fun _ F93 => ?_)
         refine s_end ?_
         refine x_normal ⟨k + 1, by omega, F93.cut rfl, ((S5.trans (S18.trans (T22.trans S30))).pick [] rfl), by omega, row_step hk_1 (by omega) hq_1⟩
   · skip
     refine wp_exit (x_then_exit (x_then_exit (x_block_here (x_normal (wp_seq (wp_region_lit (l_op (f_val F6 rfl rfl (r_assign rfl rfl) rfl fun _ F94 => ?_))))))))
     refine s_end (x_normal (wp_ret ?_))
     refine x_done (v := .bool true) F94 (results_1 Tryz.results28 (.tmp (F94.ev 2 rfl))) ?_
     exact ⟨(by rw [(show true = (apartL (list.map TxH.d)) from by exact apart_all (by omega) hk_1)]), (Mv.pick S5 [] rfl)⟩
theorem spec_AllApart_c {w : World} {H : Nat → Prop} {list : List TxH} {Q2 : Option Addr} {Q0 Q3 : Nat} (Q5 : Rd 10 encTx okTx H w (.slice Q2 Q0 Q3) list) (Q6 : NRd inTx H w list) :
    Calls Tryz.prog 18 #[.slice Q2 Q0 Q3] w fun e w' => e = .returned (.bool (apartL (list.map TxH.d))) ∧ Mv [] w [] w' := by
 have Q4 : Rd 10 encTx okTx (V H w []) w (.slice Q2 Q0 Q3) list := Rd.start Q5 (fun _ _ => fps_nil _)
 obtain ⟨Q8, Q7, Q9, Q10⟩ := Rd.inv Q5
 have Q1 : NRd inTx (V H w []) w list := NRd.start Q6 (fun _ _ => fps_nil _)
 refine calls_enter 43 Tryz.func18 rfl Tryz.ntmps18 (Nat.le_of_ble_eq_true rfl) (fun _ F0i => ?_)
 have F0 : Fr 43 [(0, .slice Q2 Q0 Q3)] _ := F0i
 clear F0i
 refine wp_seq (wp_region_lit (l_op (f_val F0 rfl rfl (r_assign rfl rfl) rfl fun _ F1 => ?_)))
 refine s_end (x_normal (wp_seq (wp_seq (wp_region_lit (l_op (f_val F1 rfl rfl (r_assign rfl rfl) rfl fun _ F2 => ?_))))))
 refine s_end (x_normal (wp_block ?_))
 refine x_loop (fun (k : Nat) aZ wZ => Fr 43 [(3, .int .i64 ((k : Nat) : Int)), (0, .slice Q2 Q0 Q3)] aZ ∧ Mv [] w [] wZ ∧ (k ≤ Q0) ∧ (∀ i, i < k → ∀ j, j < i → ∀ x y, nth list i = some x → nth list j = some y → badXY x.d y.d = false)) (fun (k : Nat) => Q0 - k) (0) ?_ ?_
 · exact ⟨F2.cut rfl, (Mv.refl (At.nil w)), by omega, fun i hi => absurd hi (Nat.not_lt_zero _)⟩
 · rintro k a3 w3 ⟨F3, S3, hk_0, hk_1⟩
   refine wp_seq (wp_seq (wp_region_lit (l_op (f_mv F3 rfl rfl rfl rfl rfl fun _ F4 => ?_))))
   refine l_op (f_mv F4 rfl rfl rfl rfl rfl fun _ F5 => ?_)
   refine l_op (f_val F5 rfl rfl (r_len Tryz.underlying36 rfl (F5.ev 6 rfl)) rfl fun _ F6 => ?_)
   refine l_op (f_val F6 rfl rfl (r_cmp (b := decide (k < Q0)) (.inr (.inr (.inl rfl))) rfl (F6.ev 5 rfl) (F6.ev 7 rfl) (dec_of (by omega))) rfl fun _ F7 => ?_)
   refine s_end (x_normal (x_cond (p := k < Q0) (F7.ev 8 rfl) (fun h8 => ?_) (fun h8 => ?_)))
   · skip
     refine wp_skip (x_normal (wp_seq (wp_block (wp_seq (wp_region_lit (l_op (f_val F7 rfl rfl (r_assign rfl rfl) rfl fun _ F9 => ?_)))))))
     refine s_end (x_normal (wp_block ?_))
     refine x_loop (fun (q : Nat) aZ wZ => Fr 43 [(4, .int .i64 ((q : Nat) : Int)), (3, .int .i64 ((k : Nat) : Int)), (0, .slice Q2 Q0 Q3)] aZ ∧ Mv [] w3 [] wZ ∧ (q ≤ k) ∧ (∀ j, j < q → ∀ y, nth list j = some y → ∀ x, nth list k = some x → badXY x.d y.d = false)) (fun (q : Nat) => k - q) (0) ?_ ?_
     · exact ⟨F9.cut rfl, (Mv.refl S3.at'), by omega, fun j hj => absurd hj (Nat.not_lt_zero _)⟩
     · rintro q a10 w10 ⟨F10, S10, hq_0, hq_1⟩
       refine wp_seq (wp_seq (wp_region_lit (l_op (f_mv F10 rfl rfl rfl rfl rfl fun _ F11 => ?_))))
       refine l_op (f_mv F11 rfl rfl rfl rfl rfl fun _ F12 => ?_)
       refine l_op (f_val F12 rfl rfl (r_cmp (b := decide (q < k)) (.inr (.inr (.inl rfl))) rfl (F12.ev 11 rfl) (F12.ev 12 rfl) (dec_of (by omega))) rfl fun _ F13 => ?_)
       refine s_end (x_normal (x_cond (p := q < k) (F13.ev 13 rfl) (fun h14 => ?_) (fun h14 => ?_)))
       · skip
         refine wp_skip (x_normal (wp_seq (wp_block (wp_seq ?_))))
         obtain ⟨x1, hx1, okx1⟩ := Rd.elem (Rd.mv (Nat.succ_pos _) Q4 (S3.trans S10)) k (by first | assumption | omega)
         have oj16 := okx1
         obtain ⟨oi16_0, oi16_1, oi16_2, oi16_3, oi16_4⟩ := oj16
         have VI17 : Rd 6 encK okK (V H w []) w10 (.slice x1.a0 x1.n0 x1.c0) x1.d.calls := NRd.get (NRd.mv Q1 (S3.trans S10)) hx1 (j := 0) rfl
         obtain ⟨ln17, le17, mx17, ni17⟩ := Rd.inv VI17
         have VI18 : Rd 3 encR okR (V H w []) w10 (.slice x1.a1 x1.n1 x1.c1) x1.d.answers := NRd.get (NRd.mv Q1 (S3.trans S10)) hx1 (j := 1) rfl
         obtain ⟨ln18, le18, mx18, ni18⟩ := Rd.inv VI18
         have VI19 : Rd 1 encS okS (V H w []) w10 (.slice x1.a2 x1.n2 x1.c2) x1.d.touch.reads := NRd.get (NRd.mv Q1 (S3.trans S10)) hx1 (j := 2) rfl
         obtain ⟨ln19, le19, mx19, ni19⟩ := Rd.inv VI19
         have VI20 : Rd 1 encS okS (V H w []) w10 (.slice x1.a3 x1.n3 x1.c3) x1.d.touch.writes := NRd.get (NRd.mv Q1 (S3.trans S10)) hx1 (j := 3) rfl
         obtain ⟨ln20, le20, mx20, ni20⟩ := Rd.inv VI20
         have VI21 : Rd 1 encI okI (V H w []) w10 (.slice x1.a4 x1.n4 x1.c4) x1.d.marks := NRd.get (NRd.mv Q1 (S3.trans S10)) hx1 (j := 4) rfl
         obtain ⟨ln21, le21, mx21, ni21⟩ := Rd.inv VI21
         obtain ⟨x2, hx2, okx2⟩ := Rd.elem (Rd.mv (Nat.succ_pos _) Q4 (S3.trans S10)) q (by first | assumption | omega)
         have oj22 := okx2
         obtain ⟨oi22_0, oi22_1, oi22_2, oi22_3, oi22_4⟩ := oj22
         have VI23 : Rd 6 encK okK (V H w []) w10 (.slice x2.a0 x2.n0 x2.c0) x2.d.calls := NRd.get (NRd.mv Q1 (S3.trans S10)) hx2 (j := 0) rfl
         obtain ⟨ln23, le23, mx23, ni23⟩ := Rd.inv VI23
         have VI24 : Rd 3 encR okR (V H w []) w10 (.slice x2.a1 x2.n1 x2.c1) x2.d.answers := NRd.get (NRd.mv Q1 (S3.trans S10)) hx2 (j := 1) rfl
         obtain ⟨ln24, le24, mx24, ni24⟩ := Rd.inv VI24
         have VI25 : Rd 1 encS okS (V H w []) w10 (.slice x2.a2 x2.n2 x2.c2) x2.d.touch.reads := NRd.get (NRd.mv Q1 (S3.trans S10)) hx2 (j := 2) rfl
         obtain ⟨ln25, le25, mx25, ni25⟩ := Rd.inv VI25
         have VI26 : Rd 1 encS okS (V H w []) w10 (.slice x2.a3 x2.n3 x2.c3) x2.d.touch.writes := NRd.get (NRd.mv Q1 (S3.trans S10)) hx2 (j := 3) rfl
         obtain ⟨ln26, le26, mx26, ni26⟩ := Rd.inv VI26
         have VI27 : Rd 1 encI okI (V H w []) w10 (.slice x2.a4 x2.n4 x2.c4) x2.d.marks := NRd.get (NRd.mv Q1 (S3.trans S10)) hx2 (j := 4) rfl
         obtain ⟨ln27, le27, mx27, ni27⟩ := Rd.inv VI27
         refine x_draw (fun aZ wZ => Fr 43 [(0, .slice Q2 Q0 Q3), (3, .int .i64 ((k : Nat) : Int)), (4, .int .i64 ((q : Nat) : Int)), (42, .bool (badXY x1.d x2.d))] aZ ∧ Mv [] w10 [] wZ) [] mixed S10.at' (listed := #[false, false, false, false, false, false, false, false, false, false, false, false, false, false, false, false, false, false, false, false, false, false, false, false, false, false, false]) rfl (fun w28 S28 => ?_) [] rfl ?_
         · skip
           refine g_take F13 rfl (i := 0) (listed' := #[true, false, false, false, false, false, false, false, false, false, false, false, false, false, false, false, false, false, false, false, false, false, false, false, false, false, false]) rfl (by kernel_rfl) (by kernel_rfl) (by kernel_rfl) (fun _ _ _ h => h) (Sd.of (Mv.refl S28.at') [] rfl) rfl rfl rfl rfl (fun _ hz => (r_move rfl (F13.ev 0 rfl))) fun _ F29 => ?_
           refine g_take F29 rfl (i := 1) (listed' := #[true, true, false, false, false, false, false, false, false, false, false, false, false, false, false, false, false, false, false, false, false, false, false, false, false, false, false]) rfl (by kernel_rfl) (by kernel_rfl) (by kernel_rfl) (fun _ _ _ h => h) (Sd.of (Mv.refl S28.at') [] rfl) rfl rfl rfl rfl (fun _ hz => (r_move rfl (F29.ev 3 rfl))) fun _ F30 => ?_
           obtain ⟨B31, O31, y31, ad31, hy31, oky31, ln31, cl31⟩ := Rd.atK (Nat.succ_pos _) (Rd.mv (Nat.succ_pos _) Q4 (S3.trans (S10.trans S28))) k (by first | assumption | omega)
           clear ln31
           obtain rfl := Option.some.inj (hx1.symm.trans hy31)
           clear hy31 oky31
           refine g_take F30 rfl (i := 2) (listed' := #[true, true, true, false, false, false, false, false, false, false, false, false, false, false, false, false, false, false, false, false, false, false, false, false, false, false, false]) rfl (by kernel_rfl) (by kernel_rfl) (by kernel_rfl) (fun _ _ _ h => h) (Sd.of (Mv.refl S28.at') [] rfl) rfl rfl rfl rfl (fun _ hz => (r_indexAddr (i := k) ET_36 rfl ((F30.ev 16 rfl).trans (by rw [ad31])) (F30.ev 17 rfl) (by omega) (by first | assumption | omega))) fun _ F32 => ?_
           refine g_take F32 rfl (i := 3) (listed' := #[true, true, true, true, false, false, false, false, false, false, false, false, false, false, false, false, false, false, false, false, false, false, false, false, false, false, false]) rfl (by kernel_rfl) (by kernel_rfl) (by kernel_rfl) (fun _ _ _ h => h) (Sd.of (Mv.refl S28.at') [] rfl) rfl rfl rfl rfl (fun _ hz => (r_field FI_58_8 rfl (F32.ev 18 rfl) rfl)) fun _ F33 => ?_
           refine g_take (v := .int .i64 x1.d.state) F33 rfl (i := 4) (listed' := #[true, true, true, true, true, false, false, false, false, false, false, false, false, false, false, false, false, false, false, false, false, false, false, false, false, false, false]) rfl (by kernel_rfl) (by kernel_rfl) (by kernel_rfl) (fun _ _ _ h => h) (Sd.of (Mv.refl S28.at') [] rfl) rfl rfl rfl rfl (fun _ hz => (r_load (cs := [.int .i64 x1.d.state]) TI_3 rfl (F33.ev 19 rfl) rfl (fun _ => rfl) (elem_sub (f := 9) (cl31 _ hz.kp) [.int .i64 x1.d.state] rfl))) fun _ F34 => ?_
           refine g_take F34 rfl (i := 5) (listed' := #[true, true, true, true, true, true, false, false, false, false, false, false, false, false, false, false, false, false, false, false, false, false, false, false, false, false, false]) rfl (by kernel_rfl) (by kernel_rfl) (by kernel_rfl) (fun _ _ _ h => h) (Sd.of (Mv.refl S28.at') [] rfl) rfl rfl rfl rfl (fun _ hz => (r_cmp (b := decide (x1.d.state = 1)) (.inl rfl) rfl (F34.ev 20 rfl) rfl (dec_of (by omega)))) fun _ F35 => ?_
           refine g_take F35 rfl (i := 6) (listed' := #[true, true, true, true, true, true, true, false, false, false, false, false, false, false, false, false, false, false, false, false, false, false, false, false, false, false, false]) rfl (by kernel_rfl) (by kernel_rfl) (by kernel_rfl) (fun _ _ _ h => h) (Sd.of (Mv.refl S28.at') [] rfl) rfl rfl rfl rfl (fun _ hz => (r_move rfl (F35.ev 21 rfl))) fun _ F36 => ?_
           rcases Decidable.em (x1.d.state = 1) with h37 | h37
           · rw [decide_eq_true h37] at F36
             refine g_take F36 rfl (i := 7) (listed' := #[true, true, true, true, true, true, true, true, false, false, false, false, false, false, false, false, false, false, false, false, false, false, false, false, false, false, false]) rfl (by kernel_rfl) (by kernel_rfl) (by kernel_rfl) (fun _ _ _ h => h) (Sd.of (Mv.refl S28.at') [] rfl) rfl (wanted_g F36 rfl rfl rfl rfl) rfl rfl (fun _ hz => (r_move rfl (F36.ev 0 rfl))) fun _ F38 => ?_
             refine g_take F38 rfl (i := 8) (listed' := #[true, true, true, true, true, true, true, true, true, false, false, false, false, false, false, false, false, false, false, false, false, false, false, false, false, false, false]) rfl (by kernel_rfl) (by kernel_rfl) (by kernel_rfl) (fun _ _ _ h => h) (Sd.of (Mv.refl S28.at') [] rfl) rfl (wanted_g F38 rfl rfl rfl rfl) rfl rfl (fun _ hz => (r_move rfl (F38.ev 4 rfl))) fun _ F39 => ?_
             obtain ⟨B40, O40, y40, ad40, hy40, oky40, ln40, cl40⟩ := Rd.atK (Nat.succ_pos _) (Rd.mv (Nat.succ_pos _) Q4 (S3.trans (S10.trans S28))) q (by first | assumption | omega)
             clear ln40
             obtain rfl := Option.some.inj (hx2.symm.trans hy40)
             clear hy40 oky40
             refine g_take F39 rfl (i := 9) (listed' := #[true, true, true, true, true, true, true, true, true, true, false, false, false, false, false, false, false, false, false, false, false, false, false, false, false, false, false]) rfl (by kernel_rfl) (by kernel_rfl) (by kernel_rfl) (fun _ _ _ h => h) (Sd.of (Mv.refl S28.at') [] rfl) rfl (wanted_g F39 rfl rfl rfl rfl) rfl rfl (fun _ hz => (r_indexAddr (i := q) ET_36 rfl ((F39.ev 23 rfl).trans (by rw [ad40])) (F39.ev 24 rfl) (by omega) (by first | assumption | omega))) fun _ F41 => ?_
             refine g_take F41 rfl (i := 10) (listed' := #[true, true, true, true, true, true, true, true, true, true, true, false, false, false, false, false, false, false, false, false, false, false, false, false, false, false, false]) rfl (by kernel_rfl) (by kernel_rfl) (by kernel_rfl) (fun _ _ _ h => h) (Sd.of (Mv.refl S28.at') [] rfl) rfl (wanted_g F41 rfl rfl rfl rfl) rfl rfl (fun _ hz => (r_field FI_58_8 rfl (F41.ev 25 rfl) rfl)) fun _ F42 => ?_
             refine g_take (v := .int .i64 x2.d.state) F42 rfl (i := 11) (listed' := #[true, true, true, true, true, true, true, true, true, true, true, true, false, false, false, false, false, false, false, false, false, false, false, false, false, false, false]) rfl (by kernel_rfl) (by kernel_rfl) (by kernel_rfl) (fun _ _ _ h => h) (Sd.of (Mv.refl S28.at') [] rfl) rfl (wanted_g F42 rfl rfl rfl rfl) rfl rfl (fun _ hz => (r_load (cs := [.int .i64 x2.d.state]) TI_3 rfl (F42.ev 26 rfl) rfl (fun _ => rfl) (elem_sub (f := 9) (cl40 _ hz.kp) [.int .i64 x2.d.state] rfl))) fun _ F43 => ?_
             refine g_take F43 rfl (i := 12) (listed' := #[true, true, true, true, true, true, true, true, true, true, true, true, true, false, false, false, false, false, false, false, false, false, false, false, false, false, false]) rfl (by kernel_rfl) (by kernel_rfl) (by kernel_rfl) (fun _ _ _ h => h) (Sd.of (Mv.refl S28.at') [] rfl) rfl (wanted_g F43 rfl rfl rfl rfl) rfl rfl (fun _ hz => (r_cmp (b := decide (x2.d.state = 1)) (.inl rfl) rfl (F43.ev 27 rfl) rfl (dec_of (by omega)))) fun _ F44 => ?_
             refine g_take F44 rfl (i := 13) (listed' := #[true, true, true, true, true, true, true, true, true, true, true, true, true, true, false, false, false, false, false, false, false, false, false, false, false, false, false]) rfl (by kernel_rfl) (by kernel_rfl) (by kernel_rfl) (fun _ _ _ h => h) (Sd.of (Mv.refl S28.at') [] rfl) rfl rfl rfl rfl (fun _ hz => (r_pick (b := true) rfl (F44.ev 22 rfl) (F44.ev 28 rfl))) fun _ F45 => ?_
             refine g_take F45 rfl (i := 14) (listed' := #[true, true, true, true, true, true, true, true, true, true, true, true, true, true, true, false, false, false, false, false, false, false, false, false, false, false, false]) rfl (by kernel_rfl) (by kernel_rfl) (by kernel_rfl) (fun _ _ _ h => h) (Sd.of (Mv.refl S28.at') [] rfl) rfl rfl rfl rfl (fun _ hz => (r_move rfl (F45.ev 29 rfl))) fun _ F46 => ?_
             rcases Decidable.em (x2.d.state = 1) with h47 | h47
             · rw [decide_eq_true h47] at F46
               refine g_take F46 rfl (i := 15) (listed' := #[true, true, true, true, true, true, true, true, true, true, true, true, true, true, true, true, false, false, false, false, false, false, false, false, false, false, false]) rfl (by kernel_rfl) (by kernel_rfl) (by kernel_rfl) (fun _ _ _ h => h) (Sd.of (Mv.refl S28.at') [] rfl) rfl (wanted_g F46 rfl rfl rfl rfl) rfl rfl (fun _ hz => (r_move rfl (F46.ev 0 rfl))) fun _ F48 => ?_
               refine g_take F48 rfl (i := 16) (listed' := #[true, true, true, true, true, true, true, true, true, true, true, true, true, true, true, true, true, false, false, false, false, false, false, false, false, false, false]) rfl (by kernel_rfl) (by kernel_rfl) (by kernel_rfl) (fun _ _ _ h => h) (Sd.of (Mv.refl S28.at') [] rfl) rfl (wanted_g F48 rfl rfl rfl rfl) rfl rfl (fun _ hz => (r_move rfl (F48.ev 3 rfl))) fun _ F49 => ?_
               obtain ⟨B50, O50, y50, ad50, hy50, oky50, ln50, cl50⟩ := Rd.atK (Nat.succ_pos _) (Rd.mv (Nat.succ_pos _) Q4 (S3.trans (S10.trans S28))) k (by first | assumption | omega)
               clear ln50
               obtain rfl := Option.some.inj (hx1.symm.trans hy50)
               clear hy50 oky50
               refine g_take F49 rfl (i := 17) (listed' := #[true, true, true, true, true, true, true, true, true, true, true, true, true, true, true, true, true, true, false, false, false, false, false, false, false, false, false]) rfl (by kernel_rfl) (by kernel_rfl) (by kernel_rfl) (fun _ _ _ h => h) (Sd.of (Mv.refl S28.at') [] rfl) rfl (wanted_g F49 rfl rfl rfl rfl) rfl rfl (fun _ hz => (r_indexAddr (i := k) ET_36 rfl ((F49.ev 31 rfl).trans (by rw [ad50])) (F49.ev 32 rfl) (by omega) (by first | assumption | omega))) fun _ F51 => ?_
               refine g_take F51 rfl (i := 18) (listed' := #[true, true, true, true, true, true, true, true, true, true, true, true, true, true, true, true, true, true, true, false, false, false, false, false, false, false, false]) rfl (by kernel_rfl) (by kernel_rfl) (by kernel_rfl) (fun _ _ _ h => h) (Sd.of (Mv.refl S28.at') [] rfl) rfl (wanted_g F51 rfl rfl rfl rfl) rfl rfl (fun _ hz => (r_field FI_58_6 rfl (F51.ev 33 rfl) rfl)) fun _ F52 => ?_
               refine g_take (v := .agg #[.slice x1.a2 x1.n2 x1.c2, .slice x1.a3 x1.n3 x1.c3]) F52 rfl (i := 19) (listed' := #[true, true, true, true, true, true, true, true, true, true, true, true, true, true, true, true, true, true, true, true, false, false, false, false, false, false, false]) rfl (by kernel_rfl) (by kernel_rfl) (by kernel_rfl) (fun _ _ _ h => h) (Sd.of (Mv.refl S28.at') [] rfl) rfl (wanted_g F52 rfl rfl rfl rfl) rfl rfl (fun _ hz => (r_load (cs := [.slice x1.a2 x1.n2 x1.c2, .slice x1.a3 x1.n3 x1.c3]) TI_55 rfl (F52.ev 34 rfl) rfl (fun h => nomatch h) (elem_sub (f := 6) (cl50 _ hz.kp) [.slice x1.a2 x1.n2 x1.c2, .slice x1.a3 x1.n3 x1.c3] rfl))) fun _ F53 => ?_
               refine g_take F53 rfl (i := 20) (listed' := #[true, true, true, true, true, true, true, true, true, true, true, true, true, true, true, true, true, true, true, true, true, false, false, false, false, false, false]) rfl (by kernel_rfl) (by kernel_rfl) (by kernel_rfl) (fun _ _ _ h => h) (Sd.of (Mv.refl S28.at') [] rfl) rfl (wanted_g F53 rfl rfl rfl rfl) rfl rfl (fun _ hz => (r_move rfl (F53.ev 0 rfl))) fun _ F54 => ?_
               refine g_take F54 rfl (i := 21) (listed' := #[true, true, true, true, true, true, true, true, true, true, true, true, true, true, true, true, true, true, true, true, true, true, false, false, false, false, false]) rfl (by kernel_rfl) (by kernel_rfl) (by kernel_rfl) (fun _ _ _ h => h) (Sd.of (Mv.refl S28.at') [] rfl) rfl (wanted_g F54 rfl rfl rfl rfl) rfl rfl (fun _ hz => (r_move rfl (F54.ev 4 rfl))) fun _ F55 => ?_
               obtain ⟨B56, O56, y56, ad56, hy56, oky56, ln56, cl56⟩ := Rd.atK (Nat.succ_pos _) (Rd.mv (Nat.succ_pos _) Q4 (S3.trans (S10.trans S28))) q (by first | assumption | omega)
               clear ln56
               obtain rfl := Option.some.inj (hx2.symm.trans hy56)
               clear hy56 oky56
               refine g_take F55 rfl (i := 22) (listed' := #[true, true, true, true, true, true, true, true, true, true, true, true, true, true, true, true, true, true, true, true, true, true, true, false, false, false, false]) rfl (by kernel_rfl) (by kernel_rfl) (by kernel_rfl) (fun _ _ _ h => h) (Sd.of (Mv.refl S28.at') [] rfl) rfl (wanted_g F55 rfl rfl rfl rfl) rfl rfl (fun _ hz => (r_indexAddr (i := q) ET_36 rfl ((F55.ev 36 rfl).trans (by rw [ad56])) (F55.ev 37 rfl) (by omega) (by first | assumption | omega))) fun _ F57 => ?_
               refine g_take F57 rfl (i := 23) (listed' := #[true, true, true, true, true, true, true, true, true, true, true, true, true, true, true, true, true, true, true, true, true, true, true, true, false, false, false]) rfl (by kernel_rfl) (by kernel_rfl) (by kernel_rfl) (fun _ _ _ h => h) (Sd.of (Mv.refl S28.at') [] rfl) rfl (wanted_g F57 rfl rfl rfl rfl) rfl rfl (fun _ hz => (r_field FI_58_6 rfl (F57.ev 38 rfl) rfl)) fun _ F58 => ?_
               refine g_take (v := .agg #[.slice x2.a2 x2.n2 x2.c2, .slice x2.a3 x2.n3 x2.c3]) F58 rfl (i := 24) (listed' := #[true, true, true, true, true, true, true, true, true, true, true, true, true, true, true, true, true, true, true, true, true, true, true, true, true, false, false]) rfl (by kernel_rfl) (by kernel_rfl) (by kernel_rfl) (fun _ _ _ h => h) (Sd.of (Mv.refl S28.at') [] rfl) rfl (wanted_g F58 rfl rfl rfl rfl) rfl rfl (fun _ hz => (r_load (cs := [.slice x2.a2 x2.n2 x2.c2, .slice x2.a3 x2.n3 x2.c3]) TI_55 rfl (F58.ev 39 rfl) rfl (fun h => nomatch h) (elem_sub (f := 6) (cl56 _ hz.kp) [.slice x2.a2 x2.n2 x2.c2, .slice x2.a3 x2.n3 x2.c3] rfl))) fun _ F59 => ?_
               refine d_one (i := 25) (listed' := #[true, true, true, true, true, true, true, true, true, true, true, true, true, true, true, true, true, true, true, true, true, true, true, true, true, true, false]) rfl (by kernel_rfl) rfl rfl ?_
               refine f_call F59 CF_42 (wanted_g F59 rfl rfl rfl rfl) rfl rfl rfl (lc (F59.ev 35 rfl) (lc (F59.ev 40 rfl) rfl)) (spec_Clash_c (a := x1.d.touch) (b := x2.d.touch) (Rd.mv (Nat.succ_pos _) VI19 S28) (Rd.mv (Nat.succ_pos _) VI20 S28) (Rd.mv (Nat.succ_pos _) VI25 S28) (Rd.mv (Nat.succ_pos _) VI26 S28)) ?_
               rintro _ w60 ⟨rfl, m60⟩
               refine ⟨_, rfl, fun _ F61 => ?_⟩
               have S60 := At.frame0 S28.at' m60
               clear m60
               refine ⟨Sd.of S60 [] rfl, ?_⟩
               refine g_take F61 rfl (i := 26) (listed' := #[true, true, true, true, true, true, true, true, true, true, true, true, true, true, true, true, true, true, true, true, true, true, true, true, true, true, true]) rfl (by kernel_rfl) (by kernel_rfl) (by kernel_rfl) (fun _ _ _ h => h) (Sd.of S60 [] rfl) rfl rfl rfl rfl (fun _ hz => (r_pick (b := true) rfl (F61.ev 30 rfl) (F61.ev 41 rfl))) fun _ F62 => ?_
               refine wpAnyH_done (by kernel_rfl) (x_normal ?_) _
               exact ⟨Fr.cast (F62.cut rfl) (congrArg (fun zZ => ([(0, .slice Q2 Q0 Q3), (3, .int .i64 ((k : Nat) : Int)), (4, .int .i64 ((q : Nat) : Int)), (42, .bool zZ)] : List (Nat × Value))) (show (clashT x1.d.touch x2.d.touch) = (badXY x1.d x2.d) from by first | exact (bd_1 (by assumption)).symm | exact (bd_2 (by assumption)).symm | exact bd_4 (by assumption) (by assumption))), ((S28.trans S60).pick [] rfl)⟩
             · rw [decide_eq_false h47] at F46
               refine g_skip F46 rfl (i := 15) (listed' := #[true, true, true, true, true, true, true, true, true, true, true, true, true, true, true, true, false, false, false, false, false, false, false, false, false, false, false]) rfl (by kernel_rfl) (by kernel_rfl) (by kernel_rfl) (fun _ _ _ h => h) (Sd.of (Mv.refl S28.at') [] rfl) rfl (wanted_g F46 rfl rfl rfl rfl) rfl rfl fun _ F63 => ?_
               refine g_skip F63 rfl (i := 16) (listed' := #[true, true, true, true, true, true, true, true, true, true, true, true, true, true, true, true, true, false, false, false, false, false, false, false, false, false, false]) rfl (by kernel_rfl) (by kernel_rfl) (by kernel_rfl) (fun _ _ _ h => h) (Sd.of (Mv.refl S28.at') [] rfl) rfl (wanted_g F63 rfl rfl rfl rfl) rfl rfl fun _ F64 => ?_
               refine g_skip F64 rfl (i := 17) (listed' := #[true, true, true, true, true, true, true, true, true, true, true, true, true, true, true, true, true, true, false, false, false, false, false, false, false, false, false]) rfl (by kernel_rfl) (by kernel_rfl) (by kernel_rfl) (fun _ _ _ h => h) (Sd.of (Mv.refl S28.at') [] rfl) rfl (wanted_g F64 rfl rfl rfl rfl) rfl rfl fun _ F65 => ?_
               refine g_skip F65 rfl (i := 18) (listed' := #[true, true, true, true, true, true, true, true, true, true, true, true, true, true, true, true, true, true, true, false, false, false, false, false, false, false, false]) rfl (by kernel_rfl) (by kernel_rfl) (by kernel_rfl) (fun _ _ _ h => h) (Sd.of (Mv.refl S28.at') [] rfl) rfl (wanted_g F65 rfl rfl rfl rfl) rfl rfl fun _ F66 => ?_
               refine g_skip F66 rfl (i := 19) (listed' := #[true, true, true, true, true, true, true, true, true, true, true, true, true, true, true, true, true, true, true, true, false, false, false, false, false, false, false]) rfl (by kernel_rfl) (by kernel_rfl) (by kernel_rfl) (fun _ _ _ h => h) (Sd.of (Mv.refl S28.at') [] rfl) rfl (wanted_g F66 rfl rfl rfl rfl) rfl rfl fun _ F67 => ?_
               refine g_skip F67 rfl (i := 20) (listed' := #[true, true, true, true, true, true, true, true, true, true, true, true, true, true, true, true, true, true, true, true, true, false, false, false, false, false, false]) rfl (by kernel_rfl) (by kernel_rfl) (by kernel_rfl) (fun _ _ _ h => h) (Sd.of (Mv.refl S28.at') [] rfl) rfl (wanted_g F67 rfl rfl rfl rfl) rfl rfl fun _ F68 => ?_
               refine g_skip F68 rfl (i := 21) (listed' := #[true, true, true, true, true, true, true, true, true, true, true, true, true, true, true, true, true, true, true, true, true, true, false, false, false, false, false]) rfl (by kernel_rfl) (by kernel_rfl) (by kernel_rfl) (fun _ _ _ h => h) (Sd.of (Mv.refl S28.at') [] rfl) rfl (wanted_g F68 rfl rfl rfl rfl) rfl rfl fun _ F69 => ?_
               refine g_skip F69 rfl (i := 22) (listed' := #[true, true, true, true, true, true, true, true, true, true, true, true, true, true, true, true, true, true, true, true, true, true, true, false, false, false, false]) rfl (by kernel_rfl) (by kernel_rfl) (by kernel_rfl) (fun _ _ _ h => h) (Sd.of (Mv.refl S28.at') [] rfl) rfl (wanted_g F69 rfl rfl rfl rfl) rfl rfl fun _ F70 => ?_
               refine g_skip F70 rfl (i := 23) (listed' := #[true, true, true, true, true, true, true, true, true, true, true, true, true, true, true, true, true, true, true, true, true, true, true, true, false, false, false]) rfl (by kernel_rfl) (by kernel_rfl) (by kernel_rfl) (fun _ _ _ h => h) (Sd.of (Mv.refl S28.at') [] rfl) rfl (wanted_g F70 rfl rfl rfl rfl) rfl rfl fun _ F71 => ?_
               refine g_skip F71 rfl (i := 24) (listed' := #[true, true, true, true, true, true, true, true, true, true, true, true, true, true, true, true, true, true, true, true, true, true, true, true, true, false, false]) rfl (by kernel_rfl) (by kernel_rfl) (by kernel_rfl) (fun _ _ _ h => h) (Sd.of (Mv.refl S28.at') [] rfl) rfl (wanted_g F71 rfl rfl rfl rfl) rfl rfl fun _ F72 => ?_
               refine g_skip F72 rfl (i := 25) (listed' := #[true, true, true, true, true, true, true, true, true, true, true, true, true, true, true, true, true, true, true, true, true, true, true, true, true, true, false]) rfl (by kernel_rfl) (by kernel_rfl) (by kernel_rfl) (fun _ _ _ h => h) (Sd.of (Mv.refl S28.at') [] rfl) rfl (wanted_g F72 rfl rfl rfl rfl) rfl rfl fun _ F73 => ?_
               refine g_take F73 rfl (i := 26) (listed' := #[true, true, true, true, true, true, true, true, true, true, true, true, true, true, true, true, true, true, true, true, true, true, true, true, true, true, true]) rfl (by kernel_rfl) (by kernel_rfl) (by kernel_rfl) (fun _ _ _ h => h) (Sd.of (Mv.refl S28.at') [] rfl) rfl rfl rfl rfl (fun _ hz => (r_pick (b := false) rfl (F73.ev 30 rfl) rfl)) fun _ F74 => ?_
               refine wpAnyH_done (by kernel_rfl) (x_normal ?_) _
               exact ⟨Fr.cast (F74.cut rfl) (congrArg (fun zZ => ([(0, .slice Q2 Q0 Q3), (3, .int .i64 ((k : Nat) : Int)), (4, .int .i64 ((q : Nat) : Int)), (42, .bool zZ)] : List (Nat × Value))) (show false = (badXY x1.d x2.d) from by first | exact (bd_1 (by assumption)).symm | exact (bd_2 (by assumption)).symm | exact bd_4 (by assumption) (by assumption))), (S28.pick [] rfl)⟩
           · rw [decide_eq_false h37] at F36
             refine g_skip F36 rfl (i := 7) (listed' := #[true, true, true, true, true, true, true, true, false, false, false, false, false, false, false, false, false, false, false, false, false, false, false, false, false, false, false]) rfl (by kernel_rfl) (by kernel_rfl) (by kernel_rfl) (fun _ _ _ h => h) (Sd.of (Mv.refl S28.at') [] rfl) rfl (wanted_g F36 rfl rfl rfl rfl) rfl rfl fun _ F75 => ?_
             refine g_skip F75 rfl (i := 8) (listed' := #[true, true, true, true, true, true, true, true, true, false, false, false, false, false, false, false, false, false, false, false, false, false, false, false, false, false, false]) rfl (by kernel_rfl) (by kernel_rfl) (by kernel_rfl) (fun _ _ _ h => h) (Sd.of (Mv.refl S28.at') [] rfl) rfl (wanted_g F75 rfl rfl rfl rfl) rfl rfl fun _ F76 => ?_
             refine g_skip F76 rfl (i := 9) (listed' := #[true, true, true, true, true, true, true, true, true, true, false, false, false, false, false, false, false, false, false, false, false, false, false, false, false, false, false]) rfl (by kernel_rfl) (by kernel_rfl) (by kernel_rfl) (fun _ _ _ h => h) (Sd.of (Mv.refl S28.at') [] rfl) rfl (wanted_g F76 rfl rfl rfl rfl) rfl rfl fun _ F77 => ?_
             refine g_skip F77 rfl (i := 10) (listed' := #[true, true, true, true, true, true, true, true, true, true, true, false, false, false, false, false, false, false, false, false, false, false, false, false, false, false, false]) rfl (by kernel_rfl) (by kernel_rfl) (by kernel_rfl) (fun _ _ _ h => h) (Sd.of (Mv.refl S28.at') [] rfl) rfl (wanted_g F77 rfl rfl rfl rfl) rfl rfl fun _ F78 => ?_
             refine g_skip F78 rfl (i := 11) (listed' := #[true, true, true, true, true, true, true, true, true, true, true, true, false, false, false, false, false, false, false, false, false, false, false, false, false, false, false]) rfl (by kernel_rfl) (by kernel_rfl) (by kernel_rfl) (fun _ _ _ h => h) (Sd.of (Mv.refl S28.at') [] rfl) rfl (wanted_g F78 rfl rfl rfl rfl) rfl rfl fun _ F79 => ?_
             refine g_skip F79 rfl (i := 12) (listed' := #[true, true, true, true, true, true, true, true, true, true, true, true, true, false, false, false, false, false, false, false, false, false, false, false, false, false, false]) rfl (by kernel_rfl) (by kernel_rfl) (by kernel_rfl) (fun _ _ _ h => h) (Sd.of (Mv.refl S28.at') [] rfl) rfl (wanted_g F79 rfl rfl rfl rfl) rfl rfl fun _ F80 => ?_
             refine g_take F80 rfl (i := 13) (listed' := #[true, true, true, true, true, true, true, true, true, true, true, true, true, true, false, false, false, false, false, false, false, false, false, false, false, false, false]) rfl (by kernel_rfl) (by kernel_rfl) (by kernel_rfl) (fun _ _ _ h => h) (Sd.of (Mv.refl S28.at') [] rfl) rfl rfl rfl rfl (fun _ hz => (r_pick (b := false) rfl (F80.ev 22 rfl) rfl)) fun _ F81 => ?_
             refine g_take F81 rfl (i := 14) (listed' := #[true, true, true, true, true, true, true, true, true, true, true, true, true, true, true, false, false, false, false, false, false, false, false, false, false, false, false]) rfl (by kernel_rfl) (by kernel_rfl) (by kernel_rfl) (fun _ _ _ h => h) (Sd.of (Mv.refl S28.at') [] rfl) rfl rfl rfl rfl (fun _ hz => (r_move rfl (F81.ev 29 rfl))) fun _ F82 => ?_
             refine g_skip F82 rfl (i := 15) (listed' := #[true, true, true, true, true, true, true, true, true, true, true, true, true, true, true, true, false, false, false, false, false, false, false, false, false, false, false]) rfl (by kernel_rfl) (by kernel_rfl) (by kernel_rfl) (fun _ _ _ h => h) (Sd.of (Mv.refl S28.at') [] rfl) rfl (wanted_g F82 rfl rfl rfl rfl) rfl rfl fun _ F83 => ?_
             refine g_skip F83 rfl (i := 16) (listed' := #[true, true, true, true, true, true, true, true, true, true, true, true, true, true, true, true, true, false, false, false, false, false, false, false, false, false, false]) rfl (by kernel_rfl) (by kernel_rfl) (by kernel_rfl) (fun _ _ _ h => h) (Sd.of (Mv.refl S28.at') [] rfl) rfl (wanted_g F83 rfl rfl rfl rfl) rfl rfl fun _ F84 => ?_
             refine g_skip F84 rfl (i := 17) (listed' := #[true, true, true, true, true, true, true, true, true, true, true, true, true, true, true, true, true, true, false, false, false, false, false, false, false, false, false]) rfl (by kernel_rfl) (by kernel_rfl) (by kernel_rfl) (fun _ _ _ h => h) (Sd.of (Mv.refl S28.at') [] rfl) rfl (wanted_g F84 rfl rfl rfl rfl) rfl rfl fun _ F85 => ?_
             refine g_skip F85 rfl (i := 18) (listed' := #[true, true, true, true, true, true, true, true, true, true, true, true, true, true, true, true, true, true, true, false, false, false, false, false, false, false, false]) rfl (by kernel_rfl) (by kernel_rfl) (by kernel_rfl) (fun _ _ _ h => h) (Sd.of (Mv.refl S28.at') [] rfl) rfl (wanted_g F85 rfl rfl rfl rfl) rfl rfl fun _ F86 => ?_
             refine g_skip F86 rfl (i := 19) (listed' := #[true, true, true, true, true, true, true, true, true, true, true, true, true, true, true, true, true, true, true, true, false, false, false, false, false, false, false]) rfl (by kernel_rfl) (by kernel_rfl) (by kernel_rfl) (fun _ _ _ h => h) (Sd.of (Mv.refl S28.at') [] rfl) rfl (wanted_g F86 rfl rfl rfl rfl) rfl rfl fun _ F87 => ?_
             refine g_skip F87 rfl (i := 20) (listed' := #[true, true, true, true, true, true, true, true, true, true, true, true, true, true, true, true, true, true, true, true, true, false, false, false, false, false, false]) rfl (by kernel_rfl) (by kernel_rfl) (by kernel_rfl) (fun _ _ _ h => h) (Sd.of (Mv.refl S28.at') [] rfl) rfl (wanted_g F87 rfl rfl rfl rfl) rfl rfl fun _ F88 => ?_
             refine g_skip F88 rfl (i := 21) (listed' := #[true, true, true, true, true, true, true, true, true, true, true, true, true, true, true, true, true, true, true, true, true, true, false, false, false, false, false]) rfl (by kernel_rfl) (by kernel_rfl) (by kernel_rfl) (fun _ _ _ h => h) (Sd.of (Mv.refl S28.at') [] rfl) rfl (wanted_g F88 rfl rfl rfl rfl) rfl rfl fun _ F89 => ?_
             refine g_skip F89 rfl (i := 22) (listed' := #[true, true, true, true, true, true, true, true, true, true, true, true, true, true, true, true, true, true, true, true, true, true, true, false, false, false, false]) rfl (by kernel_rfl) (by kernel_rfl) (by kernel_rfl) (fun _ _ _ h => h) (Sd.of (Mv.refl S28.at') [] rfl) rfl (wanted_g F89 rfl rfl rfl rfl) rfl rfl fun _ F90 => ?_
             refine g_skip F90 rfl (i := 23) (listed' := #[true, true, true, true, true, true, true, true, true, true, true, true, true, true, true, true, true, true, true, true, true, true, true, true, false, false, false]) rfl (by kernel_rfl) (by kernel_rfl) (by kernel_rfl) (fun _ _ _ h => h) (Sd.of (Mv.refl S28.at') [] rfl) rfl (wanted_g F90 rfl rfl rfl rfl) rfl rfl fun _ F91 => ?_
             refine g_skip F91 rfl (i := 24) (listed' := #[true, true, true, true, true, true, true, true, true, true, true, true, true, true, true, true, true, true, true, true, true, true, true, true, true, false, false]) rfl (by kernel_rfl) (by kernel_rfl) (by kernel_rfl) (fun _ _ _ h => h) (Sd.of (Mv.refl S28.at') [] rfl) rfl (wanted_g F91 rfl rfl rfl rfl) rfl rfl fun _ F92 => ?_
             refine g_skip F92 rfl (i := 25) (listed' := #[true, true, true, true, true, true, true, true, true, true, true, true, true, true, true, true, true, true, true, true, true, true, true, true, true, true, false]) rfl (by kernel_rfl) (by kernel_rfl) (by kernel_rfl) (fun _ _ _ h => h) (Sd.of (Mv.refl S28.at') [] rfl) rfl (wanted_g F92 rfl rfl rfl rfl) rfl rfl fun _ F93 => ?_
             refine g_take F93 rfl (i := 26) (listed' := #[true, true, true, true, true, true, true, true, true, true, true, true, true, true, true, true, true, true, true, true, true, true, true, true, true, true, true]) rfl (by kernel_rfl) (by kernel_rfl) (by kernel_rfl) (fun _ _ _ h => h) (Sd.of (Mv.refl S28.at') [] rfl) rfl rfl rfl rfl (fun _ hz => (r_pick (b := false) rfl (F93.ev 30 rfl) rfl)) fun _ F94 => ?_
             refine wpAnyH_done (by kernel_rfl) (x_normal ?_) _
             exact ⟨Fr.cast (F94.cut rfl) (congrArg (fun zZ => ([(0, .slice Q2 Q0 Q3), (3, .int .i64 ((k : Nat) : Int)), (4, .int .i64 ((q : Nat) : Int)), (42, .bool zZ)] : List (Nat × Value))) (show false = (badXY x1.d x2.d) from by first | exact (bd_1 (by assumption)).symm | exact (bd_2 (by assumption)).symm | exact bd_4 (by assumption) (by assumption))), (S28.pick [] rfl)⟩
         · rintro a95 w95 ⟨F95, S95⟩
           refine x_normal (x_condb (b := (badXY x1.d x2.d)) (F95.ev 42 rfl) (fun h96 => ?_) (fun h96 => ?_))
           · skip
             refine wp_seq (wp_region_lit (l_op (f_val F95 rfl rfl (r_assign rfl rfl) rfl fun _ F97 => ?_)))
             refine s_end (x_normal (wp_ret (x_block_ret (x_then_ret (x_then_ret (x_block_ret (x_block_ret (x_then_ret (x_then_ret (x_block_ret (x_then_ret ?_)))))))))))
             refine x_done (v := .bool false) F97 (results_1 Tryz.results18 (.tmp (F97.ev 2 rfl))) ?_
             exact ⟨(by rw [(show false = (apartL (list.map TxH.d)) from by exact apart_bad hx1 hx2 (by first | omega | exact (take_at hx2).2) (by first | assumption | exact (bd_4 (by assumption) (by assumption)).symm.trans (by assumption)))]), (Mv.pick (S3.trans (S10.trans S95)) [] rfl)⟩
           · skip
             refine wp_skip (x_block_normal (x_normal (wp_region_lit (l_op (f_mv F95 rfl rfl rfl rfl rfl fun _ F98 => ?_)))))
             refine l_op (f_val F98 rfl rfl (r_add (z := ((q + 1 : Nat) : Int)) rfl (F98.ev 14 rfl) rfl (by first | rfl | omega) ⟨by first | omega | (unfold i64ok at *; omega), by first | omega | (unfold i64ok at *; omega)⟩) rfl fun _ F99 => ?_)
             refine l_op (f_as F99 rfl rfl rfl rfl rfl fun _ F100 => ?_)
             refine s_end ?_
             refine x_normal ⟨q + 1, by omega, F100.cut rfl, ((S10.trans S95).pick [] rfl), by omega, all_stepP hq_1 (fun c hc x hx => by obtain rfl := Option.some.inj (hx1.symm.trans hx); obtain rfl := Option.some.inj (hx2.symm.trans hc); first | assumption | exact bd_1 (by assumption) | exact bd_2 (by assumption) | exact bd_3 (by assumption))⟩
       · skip
         refine wp_exit (x_then_exit (x_then_exit (x_block_here (x_block_normal (x_normal (wp_region_lit (l_op (f_mv F13 rfl rfl rfl rfl rfl fun _ F101 => ?_))))))))
         refine l_op (f_val F101 rfl rfl (r_add (z := ((k + 1 : Nat) : Int)) rfl (F101.ev 9 rfl) rfl (by first | rfl | omega) ⟨by first | omega | (unfold i64ok at *; omega), by first | omega | (unfold i64ok at *; omega)⟩) rfl fun _ F102 => ?_)
         refine l_op (f_as F102 rfl rfl rfl rfl rfl fun _ F103 => ?_)
         refine s_end ?_
         refine x_normal ⟨k + 1, by omega, F103.cut rfl, ((S3.trans S10).pick [] rfl), by omega, row_step hk_1 (by omega) hq_1⟩
   · skip
     refine wp_exit (x_then_exit (x_then_exit (x_block_here (x_normal (wp_seq (wp_region_lit (l_op (f_val F7 rfl rfl (r_assign rfl rfl) rfl fun _ F104 => ?_))))))))
     refine s_end (x_normal (wp_ret ?_))
     refine x_done (v := .bool true) F104 (results_1 Tryz.results18 (.tmp (F104.ev 2 rfl))) ?_
     exact ⟨(by rw [(show true = (apartL (list.map TxH.d)) from by exact apart_all (by omega) hk_1)]), (Mv.pick S3 [] rfl)⟩
theorem impl_KernelOk_c {w : World} {H : Nat → Prop} {k : KernH} {k_Sa : Option Addr} {k_Sn k_Sc : Nat} {Q1 : Option Addr} {Q0 Q2 : Nat} {Q3 : Option Addr} {Q5 Q4 : Nat} {Q6 : Option Addr} {Q8 Q7 : Nat} {Q9 : Option Addr} {Q11 Q10 : Nat} (Q17 : Rd 2 encC okC H w (.slice k_Sa k_Sn k_Sc) k.store) (Q18 : Rd 10 encTx okTx H w (.slice Q1 Q0 Q2) k.txs) (Q29 : NRd inTx H w k.txs) (Q14 : Rd 3 encSlot okSlot H w (.slice Q3 Q5 Q4) k.disk.slots) (Q27 : NRd inSlot H w k.disk.slots) (Q23 : okS k.disk.journal.text) (Q22 : i64ok k.disk.journal.sure) (Q25 : i64ok k.seq) (Q24 : i64ok k.next) (Q26 : i64ok k.time) (Q15 : Rd 8 encEntry okEntry H w (.slice Q6 Q8 Q7) k.history) (Q28 : NRd inEntry H w k.history) (Q16 : Rd 1 encS okS H w (.slice Q9 Q11 Q10) k.seen) (p0 : k.txs.length ≤ 1048576) :
    Calls Tryz.prog 7 #[.agg #[.slice k_Sa k_Sn k_Sc, .slice Q1 Q0 Q2, .slice Q3 Q5 Q4, .string k.disk.journal.text, .int .i64 k.disk.journal.sure, .int .i64 k.seq, .int .i64 k.next, .int .i64 k.time, .slice Q6 Q8 Q7, .slice Q9 Q11 Q10, .bool k.room]] w fun e w' => e = .returned (.bool (kernOk k.store (k.txs.map TxH.d) (k.disk.slots.map SlotH.d) k.disk.journal k.seq k.next)) ∧ Mv [] w [] w' := by
 have uU : True := (fun _ _ _ _ _ => trivial) Q22 Q25 Q24 Q26 p0
 clear uU
 have Q21 : Rd 2 encC okC (V H w []) w (.slice k_Sa k_Sn k_Sc) k.store := Rd.start Q17 (fun _ _ => fps_nil _)
 obtain ⟨Q41, Q36, Q46, Q51⟩ := Rd.inv Q17
 have Q13 : Rd 10 encTx okTx (V H w []) w (.slice Q1 Q0 Q2) k.txs := Rd.start Q18 (fun _ _ => fps_nil _)
 obtain ⟨Q42, Q37, Q47, Q52⟩ := Rd.inv Q18
 have Q20 : Rd 3 encSlot okSlot (V H w []) w (.slice Q3 Q5 Q4) k.disk.slots := Rd.start Q14 (fun _ _ => fps_nil _)
 obtain ⟨Q38, Q33, Q43, Q48⟩ := Rd.inv Q14
 have Q31 : Rd 8 encEntry okEntry (V H w []) w (.slice Q6 Q8 Q7) k.history := Rd.start Q15 (fun _ _ => fps_nil _)
 obtain ⟨Q39, Q34, Q44, Q49⟩ := Rd.inv Q15
 have Q32 : Rd 1 encS okS (V H w []) w (.slice Q9 Q11 Q10) k.seen := Rd.start Q16 (fun _ _ => fps_nil _)
 obtain ⟨Q40, Q35, Q45, Q50⟩ := Rd.inv Q16
 have Q12 : NRd inTx (V H w []) w k.txs := NRd.start Q29 (fun _ _ => fps_nil _)
 have Q19 : NRd inSlot (V H w []) w k.disk.slots := NRd.start Q27 (fun _ _ => fps_nil _)
 have Q30 : NRd inEntry (V H w []) w k.history := NRd.start Q28 (fun _ _ => fps_nil _)
 refine calls_enter 48 Tryz.func7 rfl Tryz.ntmps7 (Nat.le_of_ble_eq_true rfl) (fun _ F0i => ?_)
 have F0 : Fr 48 [(0, .agg #[.slice k_Sa k_Sn k_Sc, .slice Q1 Q0 Q2, .slice Q3 Q5 Q4, .string k.disk.journal.text, .int .i64 k.disk.journal.sure, .int .i64 k.seq, .int .i64 k.next, .int .i64 k.time, .slice Q6 Q8 Q7, .slice Q9 Q11 Q10, .bool k.room])] _ := F0i
 clear F0i
 refine wp_seq (wp_region_lit (l_op (f_box F0 (At.nil w) rfl rfl rfl (F0.ev 0 rfl) rfl rfl fun b1 _ w1 F2 S1 => ?_)))
 refine l_op (f_val F2 rfl rfl (r_assign rfl rfl) rfl fun _ F3 => ?_)
 refine s_end (x_normal (wp_seq (wp_seq (wp_region_lit (l_op (f_val F3 rfl rfl (r_field FI_43_0 rfl (F3.ev 1 rfl) rfl) rfl fun _ F4 => ?_))))))
 refine l_op (f_val (v := .slice k_Sa k_Sn k_Sc) F4 rfl rfl (r_loadB S1.at' 0 TI_35 rfl rfl (F4.ev 5 rfl) rfl rfl (fun _ => rfl) rfl) rfl fun _ F5 => ?_)
 refine l_op (f_call F5 CF_24 rfl rfl rfl rfl (lc (F5.ev 6 rfl) rfl) (impl_StoreOk_c (s := k.store) (Rd.mv (Nat.succ_pos _) Q21 S1)) ?_)
 rintro _ w6 ⟨rfl, m6⟩
 refine ⟨_, rfl, fun _ F7 => ?_⟩
 have S6 := At.frame0 S1.at' m6
 clear m6
 refine l_op (f_val F7 rfl rfl (r_not rfl (F7.ev 7 rfl)) rfl fun _ F8 => ?_)
 refine l_op (f_mv F8 rfl rfl rfl rfl rfl fun _ F9 => ?_)
 rcases Bool.eq_false_or_eq_true (!(storeOk k.store)) with h10 | h10
 · rw [h10] at F9
   refine l_op (f_skip F9 (wanted_g F9 rfl rfl rfl rfl) rfl rfl fun _ F11 => ?_)
   refine l_op (f_skip F11 (wanted_g F11 rfl rfl rfl rfl) rfl rfl fun _ F12 => ?_)
   refine l_op (f_skip F12 (wanted_g F12 rfl rfl rfl rfl) rfl rfl fun _ F13 => ?_)
   refine l_op (f_skip F13 (wanted_g F13 rfl rfl rfl rfl) rfl rfl fun _ F14 => ?_)
   refine l_op (f_val F14 rfl rfl (r_pick (b := true) rfl (F14.ev 9 rfl) rfl) rfl fun _ F15 => ?_)
   refine l_op (f_mv F15 rfl rfl rfl rfl rfl fun _ F16 => ?_)
   refine l_op (f_skip F16 (wanted_g F16 rfl rfl rfl rfl) rfl rfl fun _ F17 => ?_)
   refine l_op (f_skip F17 (wanted_g F17 rfl rfl rfl rfl) rfl rfl fun _ F18 => ?_)
   refine l_op (f_skip F18 (wanted_g F18 rfl rfl rfl rfl) rfl rfl fun _ F19 => ?_)
   refine l_op (f_skip F19 (wanted_g F19 rfl rfl rfl rfl) rfl rfl fun _ F20 => ?_)
   refine l_op (f_val F20 rfl rfl (r_pick (b := true) rfl (F20.ev 15 rfl) rfl) rfl fun _ F21 => ?_)
   have F22 : Fr 48 [(20, .bool true), (1, .pointer (some ⟨b1, 0, none⟩))] _ := F21.cut rfl
   clear F0 F2 F3 F4 F5 F7 F8 F9 F11 F12 F13 F14 F15 F16 F17 F18 F19 F20 F21
   have T23 : Mv _ _ [bx b1 [.slice k_Sa k_Sn k_Sc, .slice Q1 Q0 Q2, .slice Q3 Q5 Q4, .string k.disk.journal.text, .int .i64 k.disk.journal.sure, .int .i64 k.seq, .int .i64 k.next, .int .i64 k.time, .slice Q6 Q8 Q7, .slice Q9 Q11 Q10, .bool k.room] 43] _ := S6
   refine s_end (x_normal (wp_cond_true (F22.ev 20 rfl) (wp_seq (wp_region_lit (l_op (f_val F22 rfl rfl (r_assign rfl rfl) rfl fun _ F24 => ?_))))))
   refine s_end (x_normal (wp_ret (x_then_ret ?_)))
   refine x_done (v := .bool false) F24 (results_1 Tryz.results7 (.tmp (F24.ev 2 rfl))) ?_
   exact ⟨(by rw [(show false = (kernOk k.store (k.txs.map TxH.d) (k.disk.slots.map SlotH.d) k.disk.journal k.seq k.next) from by first | exact ko_s (nt (by assumption)) | exact ko_d (nt (by assumption)) | exact ko_q (nt (by assumption)) | exact ko_i (i := i) (by rw [List.length_map]; omega) (by assumption) | exact ko_t (nf (by assumption)) (nf (by assumption)) (nf (by assumption)) (by rw [List.length_map]; omega) hi_1)]), (Mv.pick (S1.trans T23) [] rfl)⟩
 · rw [h10] at F9
   refine l_op (f_val F9 (wanted_g F9 rfl rfl rfl rfl) rfl (r_field FI_43_2 rfl (F9.ev 1 rfl) rfl) rfl fun _ F25 => ?_)
   refine l_op (f_val (v := .agg #[.slice Q3 Q5 Q4, .string k.disk.journal.text, .int .i64 k.disk.journal.sure]) F25 (wanted_g F25 rfl rfl rfl rfl) rfl (r_loadB S6.at' 0 TI_40 rfl rfl (F25.ev 10 rfl) rfl rfl (fun h => nomatch h) rfl) rfl fun _ F26 => ?_)
   refine l_op (f_call F26 CF_25 (wanted_g F26 rfl rfl rfl rfl) rfl rfl rfl (lc (F26.ev 11 rfl) rfl) (impl_DiskOk_c (d := k.disk) (Rd.mv (Nat.succ_pos _) Q20 (S1.trans S6)) (NRd.mv Q19 (S1.trans S6)) Q23 (by first | assumption | exact ⟨by omega, by omega⟩ | (unfold i64ok at *; omega) | (simp only [i64ok]; omega))) ?_)
   rintro _ w27 ⟨rfl, m27⟩
   refine ⟨_, rfl, fun _ F28 => ?_⟩
   have S27 := At.frame0 S6.at' m27
   clear m27
   refine l_op (f_val F28 (wanted_g F28 rfl rfl rfl rfl) rfl (r_not rfl (F28.ev 12 rfl)) rfl fun _ F29 => ?_)
   refine l_op (f_val F29 rfl rfl (r_pick (b := false) rfl (F29.ev 9 rfl) (F29.ev 13 rfl)) rfl fun _ F30 => ?_)
   refine l_op (f_mv F30 rfl rfl rfl rfl rfl fun _ F31 => ?_)
   rcases Bool.eq_false_or_eq_true (!(diskOk (k.disk.slots.map SlotH.d) k.disk.journal)) with h32 | h32
   · rw [h32] at F31
     refine l_op (f_skip F31 (wanted_g F31 rfl rfl rfl rfl) rfl rfl fun _ F33 => ?_)
     refine l_op (f_skip F33 (wanted_g F33 rfl rfl rfl rfl) rfl rfl fun _ F34 => ?_)
     refine l_op (f_skip F34 (wanted_g F34 rfl rfl rfl rfl) rfl rfl fun _ F35 => ?_)
     refine l_op (f_skip F35 (wanted_g F35 rfl rfl rfl rfl) rfl rfl fun _ F36 => ?_)
     refine l_op (f_val F36 rfl rfl (r_pick (b := true) rfl (F36.ev 15 rfl) rfl) rfl fun _ F37 => ?_)
     have F38 : Fr 48 [(20, .bool true), (1, .pointer (some ⟨b1, 0, none⟩))] _ := F37.cut rfl
     clear F0 F2 F3 F4 F5 F7 F8 F9 F25 F26 F28 F29 F30 F31 F33 F34 F35 F36 F37
     have T39 : Mv _ _ [bx b1 [.slice k_Sa k_Sn k_Sc, .slice Q1 Q0 Q2, .slice Q3 Q5 Q4, .string k.disk.journal.text, .int .i64 k.disk.journal.sure, .int .i64 k.seq, .int .i64 k.next, .int .i64 k.time, .slice Q6 Q8 Q7, .slice Q9 Q11 Q10, .bool k.room] 43] _ := S27
     refine s_end (x_normal (wp_cond_true (F38.ev 20 rfl) (wp_seq (wp_region_lit (l_op (f_val F38 rfl rfl (r_assign rfl rfl) rfl fun _ F40 => ?_))))))
     refine s_end (x_normal (wp_ret (x_then_ret ?_)))
     refine x_done (v := .bool false) F40 (results_1 Tryz.results7 (.tmp (F40.ev 2 rfl))) ?_
     exact ⟨(by rw [(show false = (kernOk k.store (k.txs.map TxH.d) (k.disk.slots.map SlotH.d) k.disk.journal k.seq k.next) from by first | exact ko_s (nt (by assumption)) | exact ko_d (nt (by assumption)) | exact ko_q (nt (by assumption)) | exact ko_i (i := i) (by rw [List.length_map]; omega) (by assumption) | exact ko_t (nf (by assumption)) (nf (by assumption)) (nf (by assumption)) (by rw [List.length_map]; omega) hi_1)]), (Mv.pick (S1.trans (S6.trans T39)) [] rfl)⟩
   · rw [h32] at F31
     refine l_op (f_val F31 (wanted_g F31 rfl rfl rfl rfl) rfl (r_field FI_43_3 rfl (F31.ev 1 rfl) rfl) rfl fun _ F41 => ?_)
     refine l_op (f_val (v := .int .i64 k.seq) F41 (wanted_g F41 rfl rfl rfl rfl) rfl (r_loadB S27.at' 0 TI_3 rfl rfl (F41.ev 16 rfl) rfl rfl (fun _ => rfl) rfl) rfl fun _ F42 => ?_)
     refine l_op (f_call F42 CF_26 (wanted_g F42 rfl rfl rfl rfl) rfl rfl rfl (lc (F42.ev 17 rfl) (lc rfl (lc rfl rfl))) (impl_within_c (H := fun _ => True) (n := k.seq) (low := 0) (high := 99000) (by first | assumption | exact ⟨by omega, by omega⟩ | (unfold i64ok at *; omega)) (by first | assumption | exact ⟨by omega, by omega⟩ | (unfold i64ok at *; omega)) (by first | assumption | exact ⟨by omega, by omega⟩ | (unfold i64ok at *; omega))) ?_)
     rintro _ w43 ⟨rfl, m43⟩
     refine ⟨_, rfl, fun _ F44 => ?_⟩
     have S43 := At.frame0 S27.at' m43
     clear m43
     refine l_op (f_val F44 (wanted_g F44 rfl rfl rfl rfl) rfl (r_not rfl (F44.ev 18 rfl)) rfl fun _ F45 => ?_)
     refine l_op (f_val F45 rfl rfl (r_pick (b := false) rfl (F45.ev 15 rfl) (F45.ev 19 rfl)) rfl fun _ F46 => ?_)
     have F47 : Fr 48 [(20, .bool (!(inB k.seq 0 99000))), (1, .pointer (some ⟨b1, 0, none⟩))] _ := F46.cut rfl
     clear F0 F2 F3 F4 F5 F7 F8 F9 F25 F26 F28 F29 F30 F31 F41 F42 F44 F45 F46
     have T48 : Mv _ _ [bx b1 [.slice k_Sa k_Sn k_Sc, .slice Q1 Q0 Q2, .slice Q3 Q5 Q4, .string k.disk.journal.text, .int .i64 k.disk.journal.sure, .int .i64 k.seq, .int .i64 k.next, .int .i64 k.time, .slice Q6 Q8 Q7, .slice Q9 Q11 Q10, .bool k.room] 43] _ := S43
     refine s_end (x_normal (x_condb (b := (!(inB k.seq 0 99000))) (F47.ev 20 rfl) (fun h49 => ?_) (fun h49 => ?_)))
     · skip
       refine wp_seq (wp_region_lit (l_op (f_val F47 rfl rfl (r_assign rfl rfl) rfl fun _ F50 => ?_)))
       refine s_end (x_normal (wp_ret (x_then_ret ?_)))
       refine x_done (v := .bool false) F50 (results_1 Tryz.results7 (.tmp (F50.ev 2 rfl))) ?_
       exact ⟨(by rw [(show false = (kernOk k.store (k.txs.map TxH.d) (k.disk.slots.map SlotH.d) k.disk.journal k.seq k.next) from by first | exact ko_s (nt (by assumption)) | exact ko_d (nt (by assumption)) | exact ko_q (nt (by assumption)) | exact ko_i (i := i) (by rw [List.length_map]; omega) (by assumption) | exact ko_t (nf (by assumption)) (nf (by assumption)) (nf (by assumption)) (by rw [List.length_map]; omega) hi_1)]), (Mv.pick (S1.trans (S6.trans (S27.trans T48))) [] rfl)⟩
     · skip
       refine wp_skip (x_normal (wp_seq (wp_seq (wp_region_lit (l_op (f_val F47 rfl rfl (r_field FI_43_1 rfl (F47.ev 1 rfl) rfl) rfl fun _ F51 => ?_))))))
       refine l_op (f_val (v := .slice Q1 Q0 Q2) F51 rfl rfl (r_loadB T48.at' 0 TI_36 rfl rfl (F51.ev 21 rfl) rfl rfl (fun _ => rfl) rfl) rfl fun _ F52 => ?_)
       refine l_op (f_val F52 rfl rfl (r_len Tryz.underlying36 rfl (F52.ev 22 rfl)) rfl fun _ F53 => ?_)
       refine l_op (f_val F53 rfl rfl (r_move rfl rfl) rfl fun _ F54 => ?_)
       refine s_end (x_normal (wp_block ?_))
       refine x_loop (fun (i : Nat) aZ wZ => Fr 48 [(24, .int .i64 ((i : Nat) : Int)), (23, .int .i64 ((Q0 : Nat) : Int)), (22, .slice Q1 Q0 Q2), (1, .pointer (some ⟨b1, 0, none⟩))] aZ ∧ Mv [bx b1 [.slice k_Sa k_Sn k_Sc, .slice Q1 Q0 Q2, .slice Q3 Q5 Q4, .string k.disk.journal.text, .int .i64 k.disk.journal.sure, .int .i64 k.seq, .int .i64 k.next, .int .i64 k.time, .slice Q6 Q8 Q7, .slice Q9 Q11 Q10, .bool k.room] 43] w43 [bx b1 [.slice k_Sa k_Sn k_Sc, .slice Q1 Q0 Q2, .slice Q3 Q5 Q4, .string k.disk.journal.text, .int .i64 k.disk.journal.sure, .int .i64 k.seq, .int .i64 k.next, .int .i64 k.time, .slice Q6 Q8 Q7, .slice Q9 Q11 Q10, .bool k.room] 43] wZ ∧ (i ≤ Q0) ∧ (∀ q, q < i → idBad (k.txs.map TxH.d) k.next q = false)) (fun (i : Nat) => Q0 - i) (0) ?_ ?_
       · exact ⟨F54.cut rfl, (Mv.refl T48.at'), by omega, fun q hq => absurd hq (Nat.not_lt_zero _)⟩
       · rintro i a55 w55 ⟨F55, S55, hi_0, hi_1⟩
         refine wp_seq (wp_region_lit (l_op (f_val F55 rfl rfl (r_cmp (b := decide (i < Q0)) (.inr (.inr (.inl rfl))) rfl (F55.ev 24 rfl) (F55.ev 23 rfl) (dec_of (by omega))) rfl fun _ F56 => ?_)))
         refine s_end (x_normal (wp_seq (x_cond (p := i < Q0) (F56.ev 25 rfl) (fun h57 => ?_) (fun h57 => ?_))))
         · skip
           refine wp_skip (x_normal (wp_seq (wp_block (wp_seq (wp_region_lit (l_op (f_mv F56 rfl rfl rfl rfl rfl fun _ F58 => ?_)))))))
           obtain ⟨B59, O59, x1, ad59, hx1, okx1, ln59, cl59⟩ := Rd.at (Rd.mv (Nat.succ_pos _) Q13 (S1.trans (S6.trans (S27.trans (T48.trans S55))))) i (by first | assumption | omega)
           clear ln59
           have oj60 := okx1
           obtain ⟨oi60_0, oi60_1, oi60_2, oi60_3, oi60_4⟩ := oj60
           have VI61 : Rd 6 encK okK (V H w [bx b1 [.slice k_Sa k_Sn k_Sc, .slice Q1 Q0 Q2, .slice Q3 Q5 Q4, .string k.disk.journal.text, .int .i64 k.disk.journal.sure, .int .i64 k.seq, .int .i64 k.next, .int .i64 k.time, .slice Q6 Q8 Q7, .slice Q9 Q11 Q10, .bool k.room] 43]) w55 (.slice x1.a0 x1.n0 x1.c0) x1.d.calls := NRd.get (NRd.mv Q12 (S1.trans (S6.trans (S27.trans (T48.trans S55))))) hx1 (j := 0) rfl
           obtain ⟨ln61, le61, mx61, ni61⟩ := Rd.inv VI61
           have VI62 : Rd 3 encR okR (V H w [bx b1 [.slice k_Sa k_Sn k_Sc, .slice Q1 Q0 Q2, .slice Q3 Q5 Q4, .string k.disk.journal.text, .int .i64 k.disk.journal.sure, .int .i64 k.seq, .int .i64 k.next, .int .i64 k.time, .slice Q6 Q8 Q7, .slice Q9 Q11 Q10, .bool k.room] 43]) w55 (.slice x1.a1 x1.n1 x1.c1) x1.d.answers := NRd.get (NRd.mv Q12 (S1.trans (S6.trans (S27.trans (T48.trans S55))))) hx1 (j := 1) rfl
           obtain ⟨ln62, le62, mx62, ni62⟩ := Rd.inv VI62
           have VI63 : Rd 1 encS okS (V H w [bx b1 [.slice k_Sa k_Sn k_Sc, .slice Q1 Q0 Q2, .slice Q3 Q5 Q4, .string k.disk.journal.text, .int .i64 k.disk.journal.sure, .int .i64 k.seq, .int .i64 k.next, .int .i64 k.time, .slice Q6 Q8 Q7, .slice Q9 Q11 Q10, .bool k.room] 43]) w55 (.slice x1.a2 x1.n2 x1.c2) x1.d.touch.reads := NRd.get (NRd.mv Q12 (S1.trans (S6.trans (S27.trans (T48.trans S55))))) hx1 (j := 2) rfl
           obtain ⟨ln63, le63, mx63, ni63⟩ := Rd.inv VI63
           have VI64 : Rd 1 encS okS (V H w [bx b1 [.slice k_Sa k_Sn k_Sc, .slice Q1 Q0 Q2, .slice Q3 Q5 Q4, .string k.disk.journal.text, .int .i64 k.disk.journal.sure, .int .i64 k.seq, .int .i64 k.next, .int .i64 k.time, .slice Q6 Q8 Q7, .slice Q9 Q11 Q10, .bool k.room] 43]) w55 (.slice x1.a3 x1.n3 x1.c3) x1.d.touch.writes := NRd.get (NRd.mv Q12 (S1.trans (S6.trans (S27.trans (T48.trans S55))))) hx1 (j := 3) rfl
           obtain ⟨ln64, le64, mx64, ni64⟩ := Rd.inv VI64
           have VI65 : Rd 1 encI okI (V H w [bx b1 [.slice k_Sa k_Sn k_Sc, .slice Q1 Q0 Q2, .slice Q3 Q5 Q4, .string k.disk.journal.text, .int .i64 k.disk.journal.sure, .int .i64 k.seq, .int .i64 k.next, .int .i64 k.time, .slice Q6 Q8 Q7, .slice Q9 Q11 Q10, .bool k.room] 43]) w55 (.slice x1.a4 x1.n4 x1.c4) x1.d.marks := NRd.get (NRd.mv Q12 (S1.trans (S6.trans (S27.trans (T48.trans S55))))) hx1 (j := 4) rfl
           obtain ⟨ln65, le65, mx65, ni65⟩ := Rd.inv VI65
           refine l_op (f_val F58 rfl rfl (r_indexAddr (i := i) ET_36 rfl ((F58.ev 22 rfl).trans (by rw [ad59])) (F58.ev 24 rfl) (by omega) (by first | assumption | omega)) rfl fun _ F66 => ?_)
           refine l_op (f_val (v := .agg #[.int .i64 x1.d.id, .int .i64 x1.d.age, .int .i64 x1.d.proc, .int .i64 x1.d.began, .slice x1.a0 x1.n0 x1.c0, .slice x1.a1 x1.n1 x1.c1, .slice x1.a2 x1.n2 x1.c2, .slice x1.a3 x1.n3 x1.c3, .slice x1.a4 x1.n4 x1.c4, .int .i64 x1.d.state]) F66 rfl rfl (r_load (cs := [.int .i64 x1.d.id, .int .i64 x1.d.age, .int .i64 x1.d.proc, .int .i64 x1.d.began, .slice x1.a0 x1.n0 x1.c0, .slice x1.a1 x1.n1 x1.c1, .slice x1.a2 x1.n2 x1.c2, .slice x1.a3 x1.n3 x1.c3, .slice x1.a4 x1.n4 x1.c4, .int .i64 x1.d.state]) TI_58 rfl (F66.ev 27 rfl) rfl (fun h => nomatch h) (elem_sub (f := 0) cl59 [.int .i64 x1.d.id, .int .i64 x1.d.age, .int .i64 x1.d.proc, .int .i64 x1.d.began, .slice x1.a0 x1.n0 x1.c0, .slice x1.a1 x1.n1 x1.c1, .slice x1.a2 x1.n2 x1.c2, .slice x1.a3 x1.n3 x1.c3, .slice x1.a4 x1.n4 x1.c4, .int .i64 x1.d.state] rfl)) rfl fun _ F67 => ?_)
           refine l_op (f_alloc F67 S55.at' ZI_58 rfl rfl rfl rfl rfl fun b68 _ w68 F69 S68 => ?_)
           refine l_op (f_as F69 rfl rfl rfl rfl rfl fun _ F70 => ?_)
           refine l_op (s_store S68.at' 0 TI_58 rfl rfl rfl rfl rfl (F70.ev 4 rfl) (F70.ev 28 rfl) rfl rfl rfl rfl rfl fun w71 S71 => ?_)
           have T72 : Mv _ _ [bx b68 [.int .i64 x1.d.id, .int .i64 x1.d.age, .int .i64 x1.d.proc, .int .i64 x1.d.began, .slice x1.a0 x1.n0 x1.c0, .slice x1.a1 x1.n1 x1.c1, .slice x1.a2 x1.n2 x1.c2, .slice x1.a3 x1.n3 x1.c3, .slice x1.a4 x1.n4 x1.c4, .int .i64 x1.d.state] 58, bx b1 [.slice k_Sa k_Sn k_Sc, .slice Q1 Q0 Q2, .slice Q3 Q5 Q4, .string k.disk.journal.text, .int .i64 k.disk.journal.sure, .int .i64 k.seq, .int .i64 k.next, .int .i64 k.time, .slice Q6 Q8 Q7, .slice Q9 Q11 Q10, .bool k.room] 43] _ := S71
           refine s_end (x_normal (wp_seq ?_))
           refine x_draw (fun aZ wZ => Fr 48 [(1, .pointer (some ⟨b1, 0, none⟩)), (22, .slice Q1 Q0 Q2), (23, .int .i64 ((Q0 : Nat) : Int)), (24, .int .i64 ((i : Nat) : Int)), (43, .bool (idBad (k.txs.map TxH.d) k.next i))] aZ ∧ Mv [bx b68 [.int .i64 x1.d.id, .int .i64 x1.d.age, .int .i64 x1.d.proc, .int .i64 x1.d.began, .slice x1.a0 x1.n0 x1.c0, .slice x1.a1 x1.n1 x1.c1, .slice x1.a2 x1.n2 x1.c2, .slice x1.a3 x1.n3 x1.c3, .slice x1.a4 x1.n4 x1.c4, .int .i64 x1.d.state] 58, bx b1 [.slice k_Sa k_Sn k_Sc, .slice Q1 Q0 Q2, .slice Q3 Q5 Q4, .string k.disk.journal.text, .int .i64 k.disk.journal.sure, .int .i64 k.seq, .int .i64 k.next, .int .i64 k.time, .slice Q6 Q8 Q7, .slice Q9 Q11 Q10, .bool k.room] 43] w71 [bx b68 [.int .i64 x1.d.id, .int .i64 x1.d.age, .int .i64 x1.d.proc, .int .i64 x1.d.began, .slice x1.a0 x1.n0 x1.c0, .slice x1.a1 x1.n1 x1.c1, .slice x1.a2 x1.n2 x1.c2, .slice x1.a3 x1.n3 x1.c3, .slice x1.a4 x1.n4 x1.c4, .int .i64 x1.d.state] 58, bx b1 [.slice k_Sa k_Sn k_Sc, .slice Q1 Q0 Q2, .slice Q3 Q5 Q4, .string k.disk.journal.text, .int .i64 k.disk.journal.sure, .int .i64 k.seq, .int .i64 k.next, .int .i64 k.time, .slice Q6 Q8 Q7, .slice Q9 Q11 Q10, .bool k.room] 43] wZ) [bx b68 [.int .i64 x1.d.id, .int .i64 x1.d.age, .int .i64 x1.d.proc, .int .i64 x1.d.began, .slice x1.a0 x1.n0 x1.c0, .slice x1.a1 x1.n1 x1.c1, .slice x1.a2 x1.n2 x1.c2, .slice x1.a3 x1.n3 x1.c3, .slice x1.a4 x1.n4 x1.c4, .int .i64 x1.d.state] 58, bx b1 [.slice k_Sa k_Sn k_Sc, .slice Q1 Q0 Q2, .slice Q3 Q5 Q4, .string k.disk.journal.text, .int .i64 k.disk.journal.sure, .int .i64 k.seq, .int .i64 k.next, .int .i64 k.time, .slice Q6 Q8 Q7, .slice Q9 Q11 Q10, .bool k.room] 43] mixed T72.at' (listed := #[false, false, false, false, false, false, false, false, false, false, false, false, false, false, false]) rfl (fun w74 S74 => ?_) [0, 1] rfl ?_
           · skip
             refine g_take F70 rfl (i := 0) (listed' := #[true, false, false, false, false, false, false, false, false, false, false, false, false, false, false]) rfl (by kernel_rfl) (by kernel_rfl) (by kernel_rfl) (fun _ _ _ h => h) (Sd.of (Mv.refl S74.at') [0, 1] rfl) rfl rfl rfl rfl (fun _ hz => (r_field FI_58_0 rfl (F70.ev 4 rfl) rfl)) fun _ F75 => ?_
             refine g_take (v := .int .i64 x1.d.id) F75 rfl (i := 1) (listed' := #[true, true, false, false, false, false, false, false, false, false, false, false, false, false, false]) rfl (by kernel_rfl) (by kernel_rfl) (by kernel_rfl) (fun _ _ _ h => h) (Sd.of (Mv.refl S74.at') [0, 1] rfl) rfl rfl rfl rfl (fun _ hz => (r_loadX (hz.bx 0 rfl) TI_3 rfl (F75.ev 29 rfl) rfl rfl (fun _ => rfl) rfl)) fun _ F76 => ?_
             refine g_take F76 rfl (i := 2) (listed' := #[true, true, true, false, false, false, false, false, false, false, false, false, false, false, false]) rfl (by kernel_rfl) (by kernel_rfl) (by kernel_rfl) (fun _ _ _ h => h) (Sd.of (Mv.refl S74.at') [0, 1] rfl) rfl rfl rfl rfl (fun _ hz => (r_field FI_43_4 rfl (F76.ev 1 rfl) rfl)) fun _ F77 => ?_
             refine g_take (v := .int .i64 k.next) F77 rfl (i := 3) (listed' := #[true, true, true, true, false, false, false, false, false, false, false, false, false, false, false]) rfl (by kernel_rfl) (by kernel_rfl) (by kernel_rfl) (fun _ _ _ h => h) (Sd.of (Mv.refl S74.at') [0, 1] rfl) rfl rfl rfl rfl (fun _ hz => (r_loadX (hz.bx 1 rfl) TI_3 rfl (F77.ev 31 rfl) rfl rfl (fun _ => rfl) rfl)) fun _ F78 => ?_
             refine g_take F78 rfl (i := 4) (listed' := #[true, true, true, true, true, false, false, false, false, false, false, false, false, false, false]) rfl (by kernel_rfl) (by kernel_rfl) (by kernel_rfl) (fun _ _ _ h => h) (Sd.of (Mv.refl S74.at') [0, 1] rfl) rfl rfl rfl rfl (fun _ hz => (r_cmp (b := decide (x1.d.id ≥ k.next)) (.inr (.inr (.inr (.inr (.inr rfl))))) rfl (F78.ev 30 rfl) (F78.ev 32 rfl) (dec_of (by omega)))) fun _ F79 => ?_
             refine g_take F79 rfl (i := 5) (listed' := #[true, true, true, true, true, true, false, false, false, false, false, false, false, false, false]) rfl (by kernel_rfl) (by kernel_rfl) (by kernel_rfl) (fun _ _ _ h => h) (Sd.of (Mv.refl S74.at') [0, 1] rfl) rfl rfl rfl rfl (fun _ hz => (r_move rfl (F79.ev 33 rfl))) fun _ F80 => ?_
             rcases Decidable.em (x1.d.id ≥ k.next) with h81 | h81
             · rw [decide_eq_true h81] at F80
               refine g_skip F80 rfl (i := 6) (listed' := #[true, true, true, true, true, true, true, false, false, false, false, false, false, false, false]) rfl (by kernel_rfl) (by kernel_rfl) (by kernel_rfl) (fun _ _ _ h => h) (Sd.of (Mv.refl S74.at') [0, 1] rfl) rfl (wanted_g F80 rfl rfl rfl rfl) rfl rfl fun _ F82 => ?_
               refine g_skip F82 rfl (i := 7) (listed' := #[true, true, true, true, true, true, true, true, false, false, false, false, false, false, false]) rfl (by kernel_rfl) (by kernel_rfl) (by kernel_rfl) (fun _ _ _ h => h) (Sd.of (Mv.refl S74.at') [0, 1] rfl) rfl (wanted_g F82 rfl rfl rfl rfl) rfl rfl fun _ F83 => ?_
               refine g_skip F83 rfl (i := 8) (listed' := #[true, true, true, true, true, true, true, true, true, false, false, false, false, false, false]) rfl (by kernel_rfl) (by kernel_rfl) (by kernel_rfl) (fun _ _ _ h => h) (Sd.of (Mv.refl S74.at') [0, 1] rfl) rfl (wanted_g F83 rfl rfl rfl rfl) rfl rfl fun _ F84 => ?_
               refine g_skip F84 rfl (i := 9) (listed' := #[true, true, true, true, true, true, true, true, true, true, false, false, false, false, false]) rfl (by kernel_rfl) (by kernel_rfl) (by kernel_rfl) (fun _ _ _ h => h) (Sd.of (Mv.refl S74.at') [0, 1] rfl) rfl (wanted_g F84 rfl rfl rfl rfl) rfl rfl fun _ F85 => ?_
               refine g_skip F85 rfl (i := 10) (listed' := #[true, true, true, true, true, true, true, true, true, true, true, false, false, false, false]) rfl (by kernel_rfl) (by kernel_rfl) (by kernel_rfl) (fun _ _ _ h => h) (Sd.of (Mv.refl S74.at') [0, 1] rfl) rfl (wanted_g F85 rfl rfl rfl rfl) rfl rfl fun _ F86 => ?_
               refine g_skip F86 rfl (i := 11) (listed' := #[true, true, true, true, true, true, true, true, true, true, true, true, false, false, false]) rfl (by kernel_rfl) (by kernel_rfl) (by kernel_rfl) (fun _ _ _ h => h) (Sd.of (Mv.refl S74.at') [0, 1] rfl) rfl (wanted_g F86 rfl rfl rfl rfl) rfl rfl fun _ F87 => ?_
               refine g_skip F87 rfl (i := 12) (listed' := #[true, true, true, true, true, true, true, true, true, true, true, true, true, false, false]) rfl (by kernel_rfl) (by kernel_rfl) (by kernel_rfl) (fun _ _ _ h => h) (Sd.of (Mv.refl S74.at') [0, 1] rfl) rfl (wanted_g F87 rfl rfl rfl rfl) rfl rfl fun _ F88 => ?_
               refine g_skip F88 rfl (i := 13) (listed' := #[true, true, true, true, true, true, true, true, true, true, true, true, true, true, false]) rfl (by kernel_rfl) (by kernel_rfl) (by kernel_rfl) (fun _ _ _ h => h) (Sd.of (Mv.refl S74.at') [0, 1] rfl) rfl (wanted_g F88 rfl rfl rfl rfl) rfl rfl fun _ F89 => ?_
               refine g_take F89 rfl (i := 14) (listed' := #[true, true, true, true, true, true, true, true, true, true, true, true, true, true, true]) rfl (by kernel_rfl) (by kernel_rfl) (by kernel_rfl) (fun _ _ _ h => h) (Sd.of (Mv.refl S74.at') [0, 1] rfl) rfl rfl rfl rfl (fun _ hz => (r_pick (b := true) rfl (F89.ev 34 rfl) rfl)) fun _ F90 => ?_
               refine wpAnyH_done (by kernel_rfl) (x_normal ?_) _
               exact ⟨Fr.cast (F90.cut rfl) (congrArg (fun zZ => ([(1, .pointer (some ⟨b1, 0, none⟩)), (22, .slice Q1 Q0 Q2), (23, .int .i64 ((Q0 : Nat) : Int)), (24, .int .i64 ((i : Nat) : Int)), (43, .bool zZ)] : List (Nat × Value))) (show true = (idBad (k.txs.map TxH.d) k.next i) from by first | exact ib_1 hx1 (by assumption) | exact ib_2 hx1 (by assumption))), (S74.pick [0, 1] rfl)⟩
             · rw [decide_eq_false h81] at F80
               refine g_take F80 rfl (i := 6) (listed' := #[true, true, true, true, true, true, true, false, false, false, false, false, false, false, false]) rfl (by kernel_rfl) (by kernel_rfl) (by kernel_rfl) (fun _ _ _ h => h) (Sd.of (Mv.refl S74.at') [0, 1] rfl) rfl (wanted_g F80 rfl rfl rfl rfl) rfl rfl (fun _ hz => (r_field FI_43_1 rfl (F80.ev 1 rfl) rfl)) fun _ F91 => ?_
               refine g_take (v := .slice Q1 Q0 Q2) F91 rfl (i := 7) (listed' := #[true, true, true, true, true, true, true, true, false, false, false, false, false, false, false]) rfl (by kernel_rfl) (by kernel_rfl) (by kernel_rfl) (fun _ _ _ h => h) (Sd.of (Mv.refl S74.at') [0, 1] rfl) rfl (wanted_g F91 rfl rfl rfl rfl) rfl rfl (fun _ hz => (r_loadX (hz.bx 1 rfl) TI_36 rfl (F91.ev 35 rfl) rfl rfl (fun _ => rfl) rfl)) fun _ F92 => ?_
               refine g_take F92 rfl (i := 8) (listed' := #[true, true, true, true, true, true, true, true, true, false, false, false, false, false, false]) rfl (by kernel_rfl) (by kernel_rfl) (by kernel_rfl) (fun _ _ _ h => h) (Sd.of (Mv.refl S74.at') [0, 1] rfl) rfl (wanted_g F92 rfl rfl rfl rfl) rfl rfl (fun _ hz => (r_move rfl (F92.ev 3 rfl))) fun _ F93 => ?_
               refine g_take F93 rfl (i := 10) (listed' := #[true, true, true, true, true, true, true, true, true, false, true, false, false, false, false]) rfl (by kernel_rfl) (by kernel_rfl) (by kernel_rfl) (fun _ _ _ h => h) (Sd.of (Mv.refl S74.at') [0, 1] rfl) rfl (wanted_g F93 rfl rfl rfl rfl) rfl rfl (fun _ hz => (r_field FI_58_0 rfl (F93.ev 4 rfl) rfl)) fun _ F94 => ?_
               refine g_take (v := .int .i64 x1.d.id) F94 rfl (i := 11) (listed' := #[true, true, true, true, true, true, true, true, true, false, true, true, false, false, false]) rfl (by kernel_rfl) (by kernel_rfl) (by kernel_rfl) (fun _ _ _ h => h) (Sd.of (Mv.refl S74.at') [0, 1] rfl) rfl (wanted_g F94 rfl rfl rfl rfl) rfl rfl (fun _ hz => (r_loadX (hz.bx 0 rfl) TI_3 rfl (F94.ev 39 rfl) rfl rfl (fun _ => rfl) rfl)) fun _ F95 => ?_
               refine d_one (i := 9) (listed' := #[true, true, true, true, true, true, true, true, true, true, true, true, false, false, false]) rfl (by kernel_rfl) rfl rfl ?_
               refine f_sliceR F95 0 i (Rd.mv (Nat.succ_pos _) Q13 (S1.trans (S6.trans (S27.trans (T48.trans (S55.trans (S68.trans (T72.trans S74)))))))) ET_36 (wanted_g F95 rfl rfl rfl rfl) rfl rfl rfl (F95.ev 36 rfl) rfl (F95.ev 37 rfl) (by first | assumption | omega) (by first | assumption | omega) fun A96 C96 _ F97 V96i => ?_
               have V96 : Rd 10 encTx okTx (V H w [bx b68 [.int .i64 x1.d.id, .int .i64 x1.d.age, .int .i64 x1.d.proc, .int .i64 x1.d.began, .slice x1.a0 x1.n0 x1.c0, .slice x1.a1 x1.n1 x1.c1, .slice x1.a2 x1.n2 x1.c2, .slice x1.a3 x1.n3 x1.c3, .slice x1.a4 x1.n4 x1.c4, .int .i64 x1.d.state] 58, bx b1 [.slice k_Sa k_Sn k_Sc, .slice Q1 Q0 Q2, .slice Q3 Q5 Q4, .string k.disk.journal.text, .int .i64 k.disk.journal.sure, .int .i64 k.seq, .int .i64 k.next, .int .i64 k.time, .slice Q6 Q8 Q7, .slice Q9 Q11 Q10, .bool k.room] 43]) w74 (.slice A96 (i - 0) C96) (k.txs.take i) := V96i
               clear V96i
               have VN96 : NRd inTx (V H w [bx b68 [.int .i64 x1.d.id, .int .i64 x1.d.age, .int .i64 x1.d.proc, .int .i64 x1.d.began, .slice x1.a0 x1.n0 x1.c0, .slice x1.a1 x1.n1 x1.c1, .slice x1.a2 x1.n2 x1.c2, .slice x1.a3 x1.n3 x1.c3, .slice x1.a4 x1.n4 x1.c4, .int .i64 x1.d.state] 58, bx b1 [.slice k_Sa k_Sn k_Sc, .slice Q1 Q0 Q2, .slice Q3 Q5 Q4, .string k.disk.journal.text, .int .i64 k.disk.journal.sure, .int .i64 k.seq, .int .i64 k.next, .int .i64 k.time, .slice Q6 Q8 Q7, .slice Q9 Q11 Q10, .bool k.room] 43]) w74 (k.txs.take i) := NRd.take (NRd.mv Q12 (S1.trans (S6.trans (S27.trans (T48.trans (S55.trans (S68.trans (T72.trans S74)))))))) i
               refine ⟨Sd.of (Mv.refl S74.at') [0, 1] rfl, ?_⟩
               refine d_one (i := 12) (listed' := #[true, true, true, true, true, true, true, true, true, true, true, true, true, false, false]) rfl (by kernel_rfl) rfl rfl ?_
               refine f_call F97 CF_27 (wanted_g F97 rfl rfl rfl rfl) rfl rfl rfl (lc (F97.ev 38 rfl) (lc (F97.ev 40 rfl) rfl)) (impl_FindTx_c (list := k.txs.take i) (id := x1.d.id) V96 VN96 (by first | assumption | exact ⟨by omega, by omega⟩ | (unfold i64ok at *; omega)) (by first | assumption | omega | (simp <;> omega))) ?_
               rintro _ w98 ⟨rfl, m98, q98_0⟩
               refine ⟨_, rfl, fun _ F99 => ?_⟩
               have S98 := At.frame0 S74.at' m98
               clear m98
               refine ⟨Sd.of S98 [0, 1] rfl, ?_⟩
               refine g_take F99 rfl (i := 13) (listed' := #[true, true, true, true, true, true, true, true, true, true, true, true, true, true, false]) rfl (by kernel_rfl) (by kernel_rfl) (by kernel_rfl) (fun _ _ _ h => h) (Sd.of S98 [0, 1] rfl) rfl (wanted_g F99 rfl rfl rfl rfl) rfl rfl (fun _ hz => (r_cmp (b := decide ((findT ((k.txs.take i).map TxH.d) x1.d.id) ≥ 0)) (.inr (.inr (.inr (.inr (.inr rfl))))) rfl (F99.ev 41 rfl) rfl (dec_of (by omega)))) fun _ F100 => ?_
               refine g_take F100 rfl (i := 14) (listed' := #[true, true, true, true, true, true, true, true, true, true, true, true, true, true, true]) rfl (by kernel_rfl) (by kernel_rfl) (by kernel_rfl) (fun _ _ _ h => h) (Sd.of S98 [0, 1] rfl) rfl rfl rfl rfl (fun _ hz => (r_pick (b := false) rfl (F100.ev 34 rfl) (F100.ev 42 rfl))) fun _ F101 => ?_
               refine wpAnyH_done (by kernel_rfl) (x_normal ?_) _
               exact ⟨Fr.cast (F101.cut rfl) (congrArg (fun zZ => ([(1, .pointer (some ⟨b1, 0, none⟩)), (22, .slice Q1 Q0 Q2), (23, .int .i64 ((Q0 : Nat) : Int)), (24, .int .i64 ((i : Nat) : Int)), (43, .bool zZ)] : List (Nat × Value))) (show (decide ((findT ((k.txs.take i).map TxH.d) x1.d.id) ≥ 0)) = (idBad (k.txs.map TxH.d) k.next i) from by first | exact ib_1 hx1 (by assumption) | exact ib_2 hx1 (by assumption))), ((S74.trans S98).pick [0, 1] rfl)⟩
           · rintro a102 w102 ⟨F102, S102⟩
             refine x_normal (x_condb (b := (idBad (k.txs.map TxH.d) k.next i)) (F102.ev 43 rfl) (fun h103 => ?_) (fun h103 => ?_))
             · skip
               refine wp_seq (wp_region_lit (l_op (f_val F102 rfl rfl (r_assign rfl rfl) rfl fun _ F104 => ?_)))
               refine s_end (x_normal (wp_ret (x_block_ret (x_then_ret (x_then_ret (x_block_ret (x_then_ret ?_)))))))
               refine x_done (v := .bool false) F104 (results_1 Tryz.results7 (.tmp (F104.ev 2 rfl))) ?_
               exact ⟨(by rw [(show false = (kernOk k.store (k.txs.map TxH.d) (k.disk.slots.map SlotH.d) k.disk.journal k.seq k.next) from by first | exact ko_s (nt (by assumption)) | exact ko_d (nt (by assumption)) | exact ko_q (nt (by assumption)) | exact ko_i (i := i) (by rw [List.length_map]; omega) (by assumption) | exact ko_t (nf (by assumption)) (nf (by assumption)) (nf (by assumption)) (by rw [List.length_map]; omega) hi_1)]), (Mv.pick (S1.trans (S6.trans (S27.trans (T48.trans (S55.trans (S68.trans (T72.trans S102))))))) [] rfl)⟩
             · skip
               refine wp_skip (x_block_normal (x_normal (wp_region_lit (l_op (f_val F102 rfl rfl (r_add (z := ((i + 1 : Nat) : Int)) rfl (F102.ev 24 rfl) rfl (by first | rfl | omega) ⟨by first | omega | (unfold i64ok at *; omega), by first | omega | (unfold i64ok at *; omega)⟩) rfl fun _ F105 => ?_)))))
               refine l_op (f_mv F105 rfl rfl rfl rfl rfl fun _ F106 => ?_)
               refine s_end ?_
               refine x_normal ⟨i + 1, by omega, F106.cut rfl, ((S55.trans (S68.trans (T72.trans S102))).pick [1] rfl), by omega, idb_step hi_1 (by assumption)⟩
         · skip
           refine wp_exit (x_then_exit (x_then_exit (x_block_here (x_normal (wp_seq (wp_region_lit (l_op (f_val F56 rfl rfl (r_field FI_43_1 rfl (F56.ev 1 rfl) rfl) rfl fun _ F107 => ?_))))))))
           refine l_op (f_val (v := .slice Q1 Q0 Q2) F107 rfl rfl (r_loadB S55.at' 0 TI_36 rfl rfl (F107.ev 45 rfl) rfl rfl (fun _ => rfl) rfl) rfl fun _ F108 => ?_)
           refine l_op (f_call F108 CF_28 rfl rfl rfl rfl (lc (F108.ev 46 rfl) rfl) (impl_AllApart_c (list := k.txs) (Rd.mv (Nat.succ_pos _) Q13 (S1.trans (S6.trans (S27.trans (T48.trans S55))))) (NRd.mv Q12 (S1.trans (S6.trans (S27.trans (T48.trans S55)))))) ?_)
           rintro _ w109 ⟨rfl, m109⟩
           refine ⟨_, rfl, fun _ F110 => ?_⟩
           have S109 := At.frame0 S55.at' m109
           clear m109
           refine l_op (f_as F110 rfl rfl rfl rfl rfl fun _ F111 => ?_)
           have T112 : Mv _ _ [bx b1 [.slice k_Sa k_Sn k_Sc, .slice Q1 Q0 Q2, .slice Q3 Q5 Q4, .string k.disk.journal.text, .int .i64 k.disk.journal.sure, .int .i64 k.seq, .int .i64 k.next, .int .i64 k.time, .slice Q6 Q8 Q7, .slice Q9 Q11 Q10, .bool k.room] 43] _ := S109
           refine s_end (x_normal (wp_ret ?_))
           refine x_done (v := .bool (apartL (k.txs.map TxH.d))) F111 (results_1 Tryz.results7 (.tmp (F111.ev 2 rfl))) ?_
           exact ⟨(by rw [(show (apartL (k.txs.map TxH.d)) = (kernOk k.store (k.txs.map TxH.d) (k.disk.slots.map SlotH.d) k.disk.journal k.seq k.next) from by first | exact ko_s (nt (by assumption)) | exact ko_d (nt (by assumption)) | exact ko_q (nt (by assumption)) | exact ko_i (i := i) (by rw [List.length_map]; omega) (by assumption) | exact ko_t (nf (by assumption)) (nf (by assumption)) (nf (by assumption)) (by rw [List.length_map]; omega) hi_1)]), (Mv.pick (S1.trans (S6.trans (S27.trans (T48.trans (S55.trans T112))))) [] rfl)⟩
theorem spec_KernelOk_c {w : World} {H : Nat → Prop} {k : KernH} {k_Sa : Option Addr} {k_Sn k_Sc : Nat} {Q1 : Option Addr} {Q0 Q2 : Nat} {Q3 : Option Addr} {Q5 Q4 : Nat} {Q6 : Option Addr} {Q8 Q7 : Nat} {Q9 : Option Addr} {Q11 Q10 : Nat} (Q17 : Rd 2 encC okC H w (.slice k_Sa k_Sn k_Sc) k.store) (Q18 : Rd 10 encTx okTx H w (.slice Q1 Q0 Q2) k.txs) (Q29 : NRd inTx H w k.txs) (Q14 : Rd 3 encSlot okSlot H w (.slice Q3 Q5 Q4) k.disk.slots) (Q27 : NRd inSlot H w k.disk.slots) (Q23 : okS k.disk.journal.text) (Q22 : i64ok k.disk.journal.sure) (Q25 : i64ok k.seq) (Q24 : i64ok k.next) (Q26 : i64ok k.time) (Q15 : Rd 8 encEntry okEntry H w (.slice Q6 Q8 Q7) k.history) (Q28 : NRd inEntry H w k.history) (Q16 : Rd 1 encS okS H w (.slice Q9 Q11 Q10) k.seen) (p0 : k.txs.length ≤ 1048576) :
    Calls Tryz.prog 5 #[.agg #[.slice k_Sa k_Sn k_Sc, .slice Q1 Q0 Q2, .slice Q3 Q5 Q4, .string k.disk.journal.text, .int .i64 k.disk.journal.sure, .int .i64 k.seq, .int .i64 k.next, .int .i64 k.time, .slice Q6 Q8 Q7, .slice Q9 Q11 Q10, .bool k.room]] w fun e w' => e = .returned (.bool (kernOk k.store (k.txs.map TxH.d) (k.disk.slots.map SlotH.d) k.disk.journal k.seq k.next)) ∧ Mv [] w [] w' := by
 have uU : True := (fun _ _ _ _ _ => trivial) Q22 Q25 Q24 Q26 p0
 clear uU
 have Q21 : Rd 2 encC okC (V H w []) w (.slice k_Sa k_Sn k_Sc) k.store := Rd.start Q17 (fun _ _ => fps_nil _)
 obtain ⟨Q41, Q36, Q46, Q51⟩ := Rd.inv Q17
 have Q13 : Rd 10 encTx okTx (V H w []) w (.slice Q1 Q0 Q2) k.txs := Rd.start Q18 (fun _ _ => fps_nil _)
 obtain ⟨Q42, Q37, Q47, Q52⟩ := Rd.inv Q18
 have Q20 : Rd 3 encSlot okSlot (V H w []) w (.slice Q3 Q5 Q4) k.disk.slots := Rd.start Q14 (fun _ _ => fps_nil _)
 obtain ⟨Q38, Q33, Q43, Q48⟩ := Rd.inv Q14
 have Q31 : Rd 8 encEntry okEntry (V H w []) w (.slice Q6 Q8 Q7) k.history := Rd.start Q15 (fun _ _ => fps_nil _)
 obtain ⟨Q39, Q34, Q44, Q49⟩ := Rd.inv Q15
 have Q32 : Rd 1 encS okS (V H w []) w (.slice Q9 Q11 Q10) k.seen := Rd.start Q16 (fun _ _ => fps_nil _)
 obtain ⟨Q40, Q35, Q45, Q50⟩ := Rd.inv Q16
 have Q12 : NRd inTx (V H w []) w k.txs := NRd.start Q29 (fun _ _ => fps_nil _)
 have Q19 : NRd inSlot (V H w []) w k.disk.slots := NRd.start Q27 (fun _ _ => fps_nil _)
 have Q30 : NRd inEntry (V H w []) w k.history := NRd.start Q28 (fun _ _ => fps_nil _)
 refine calls_enter 51 Tryz.func5 rfl Tryz.ntmps5 (Nat.le_of_ble_eq_true rfl) (fun _ F0i => ?_)
 have F0 : Fr 51 [(0, .agg #[.slice k_Sa k_Sn k_Sc, .slice Q1 Q0 Q2, .slice Q3 Q5 Q4, .string k.disk.journal.text, .int .i64 k.disk.journal.sure, .int .i64 k.seq, .int .i64 k.next, .int .i64 k.time, .slice Q6 Q8 Q7, .slice Q9 Q11 Q10, .bool k.room])] _ := F0i
 clear F0i
 refine wp_seq (wp_region_lit (l_op (f_box F0 (At.nil w) rfl rfl rfl (F0.ev 0 rfl) rfl rfl fun b1 _ w1 F2 S1 => ?_)))
 refine l_op (f_val F2 rfl rfl (r_assign rfl rfl) rfl fun _ F3 => ?_)
 refine s_end (x_normal (wp_seq (wp_seq (wp_region_lit (l_op (f_val F3 rfl rfl (r_assign rfl rfl) rfl fun _ F4 => ?_))))))
 refine s_end (x_normal (wp_block ?_))
 refine x_loop (fun (i : Nat) aZ wZ => Fr 51 [(3, .int .i64 ((i : Nat) : Int)), (1, .pointer (some ⟨b1, 0, none⟩))] aZ ∧ Mv [bx b1 [.slice k_Sa k_Sn k_Sc, .slice Q1 Q0 Q2, .slice Q3 Q5 Q4, .string k.disk.journal.text, .int .i64 k.disk.journal.sure, .int .i64 k.seq, .int .i64 k.next, .int .i64 k.time, .slice Q6 Q8 Q7, .slice Q9 Q11 Q10, .bool k.room] 43] w1 [bx b1 [.slice k_Sa k_Sn k_Sc, .slice Q1 Q0 Q2, .slice Q3 Q5 Q4, .string k.disk.journal.text, .int .i64 k.disk.journal.sure, .int .i64 k.seq, .int .i64 k.next, .int .i64 k.time, .slice Q6 Q8 Q7, .slice Q9 Q11 Q10, .bool k.room] 43] wZ ∧ (i ≤ Q0) ∧ (∀ q, q < i → idBad (k.txs.map TxH.d) k.next q = false)) (fun (i : Nat) => Q0 - i) (0) ?_ ?_
 · exact ⟨F4.cut rfl, (Mv.refl S1.at'), by omega, fun q hq => absurd hq (Nat.not_lt_zero _)⟩
 · rintro i a5 w5 ⟨F5, S5, hi_0, hi_1⟩
   refine wp_seq (wp_seq (wp_region_lit (l_op (f_mv F5 rfl rfl rfl rfl rfl fun _ F6 => ?_))))
   refine l_op (f_val F6 rfl rfl (r_field FI_43_1 rfl (F6.ev 1 rfl) rfl) rfl fun _ F7 => ?_)
   refine l_op (f_val (v := .slice Q1 Q0 Q2) F7 rfl rfl (r_loadB S5.at' 0 TI_36 rfl rfl (F7.ev 5 rfl) rfl rfl (fun _ => rfl) rfl) rfl fun _ F8 => ?_)
   refine l_op (f_val F8 rfl rfl (r_len Tryz.underlying36 rfl (F8.ev 6 rfl)) rfl fun _ F9 => ?_)
   refine l_op (f_val F9 rfl rfl (r_cmp (b := decide (i < Q0)) (.inr (.inr (.inl rfl))) rfl (F9.ev 4 rfl) (F9.ev 7 rfl) (dec_of (by omega))) rfl fun _ F10 => ?_)
   refine s_end (x_normal (x_cond (p := i < Q0) (F10.ev 8 rfl) (fun h11 => ?_) (fun h11 => ?_)))
   · skip
     refine wp_skip (x_normal (wp_seq (wp_block (wp_seq ?_))))
     obtain ⟨x1, hx1, okx1⟩ := Rd.elem (Rd.mv (Nat.succ_pos _) Q13 (S1.trans S5)) i (by first | assumption | omega)
     have oj13 := okx1
     obtain ⟨oi13_0, oi13_1, oi13_2, oi13_3, oi13_4⟩ := oj13
     have VI14 : Rd 6 encK okK (V H w [bx b1 [.slice k_Sa k_Sn k_Sc, .slice Q1 Q0 Q2, .slice Q3 Q5 Q4, .string k.disk.journal.text, .int .i64 k.disk.journal.sure, .int .i64 k.seq, .int .i64 k.next, .int .i64 k.time, .slice Q6 Q8 Q7, .slice Q9 Q11 Q10, .bool k.room] 43]) w5 (.slice x1.a0 x1.n0 x1.c0) x1.d.calls := NRd.get (NRd.mv Q12 (S1.trans S5)) hx1 (j := 0) rfl
     obtain ⟨ln14, le14, mx14, ni14⟩ := Rd.inv VI14
     have VI15 : Rd 3 encR okR (V H w [bx b1 [.slice k_Sa k_Sn k_Sc, .slice Q1 Q0 Q2, .slice Q3 Q5 Q4, .string k.disk.journal.text, .int .i64 k.disk.journal.sure, .int .i64 k.seq, .int .i64 k.next, .int .i64 k.time, .slice Q6 Q8 Q7, .slice Q9 Q11 Q10, .bool k.room] 43]) w5 (.slice x1.a1 x1.n1 x1.c1) x1.d.answers := NRd.get (NRd.mv Q12 (S1.trans S5)) hx1 (j := 1) rfl
     obtain ⟨ln15, le15, mx15, ni15⟩ := Rd.inv VI15
     have VI16 : Rd 1 encS okS (V H w [bx b1 [.slice k_Sa k_Sn k_Sc, .slice Q1 Q0 Q2, .slice Q3 Q5 Q4, .string k.disk.journal.text, .int .i64 k.disk.journal.sure, .int .i64 k.seq, .int .i64 k.next, .int .i64 k.time, .slice Q6 Q8 Q7, .slice Q9 Q11 Q10, .bool k.room] 43]) w5 (.slice x1.a2 x1.n2 x1.c2) x1.d.touch.reads := NRd.get (NRd.mv Q12 (S1.trans S5)) hx1 (j := 2) rfl
     obtain ⟨ln16, le16, mx16, ni16⟩ := Rd.inv VI16
     have VI17 : Rd 1 encS okS (V H w [bx b1 [.slice k_Sa k_Sn k_Sc, .slice Q1 Q0 Q2, .slice Q3 Q5 Q4, .string k.disk.journal.text, .int .i64 k.disk.journal.sure, .int .i64 k.seq, .int .i64 k.next, .int .i64 k.time, .slice Q6 Q8 Q7, .slice Q9 Q11 Q10, .bool k.room] 43]) w5 (.slice x1.a3 x1.n3 x1.c3) x1.d.touch.writes := NRd.get (NRd.mv Q12 (S1.trans S5)) hx1 (j := 3) rfl
     obtain ⟨ln17, le17, mx17, ni17⟩ := Rd.inv VI17
     have VI18 : Rd 1 encI okI (V H w [bx b1 [.slice k_Sa k_Sn k_Sc, .slice Q1 Q0 Q2, .slice Q3 Q5 Q4, .string k.disk.journal.text, .int .i64 k.disk.journal.sure, .int .i64 k.seq, .int .i64 k.next, .int .i64 k.time, .slice Q6 Q8 Q7, .slice Q9 Q11 Q10, .bool k.room] 43]) w5 (.slice x1.a4 x1.n4 x1.c4) x1.d.marks := NRd.get (NRd.mv Q12 (S1.trans S5)) hx1 (j := 4) rfl
     obtain ⟨ln18, le18, mx18, ni18⟩ := Rd.inv VI18
     refine x_draw (fun aZ wZ => Fr 51 [(1, .pointer (some ⟨b1, 0, none⟩)), (3, .int .i64 ((i : Nat) : Int)), (32, .bool (idBad (k.txs.map TxH.d) k.next i))] aZ ∧ Mv [bx b1 [.slice k_Sa k_Sn k_Sc, .slice Q1 Q0 Q2, .slice Q3 Q5 Q4, .string k.disk.journal.text, .int .i64 k.disk.journal.sure, .int .i64 k.seq, .int .i64 k.next, .int .i64 k.time, .slice Q6 Q8 Q7, .slice Q9 Q11 Q10, .bool k.room] 43] w5 [bx b1 [.slice k_Sa k_Sn k_Sc, .slice Q1 Q0 Q2, .slice Q3 Q5 Q4, .string k.disk.journal.text, .int .i64 k.disk.journal.sure, .int .i64 k.seq, .int .i64 k.next, .int .i64 k.time, .slice Q6 Q8 Q7, .slice Q9 Q11 Q10, .bool k.room] 43] wZ) [bx b1 [.slice k_Sa k_Sn k_Sc, .slice Q1 Q0 Q2, .slice Q3 Q5 Q4, .string k.disk.journal.text, .int .i64 k.disk.journal.sure, .int .i64 k.seq, .int .i64 k.next, .int .i64 k.time, .slice Q6 Q8 Q7, .slice Q9 Q11 Q10, .bool k.room] 43] mixed S5.at' (listed := #[false, false, false, false, false, false, false, false, false, false, false, false, false, false, false, false, false, false, false, false, false, false]) rfl (fun w19 S19 => ?_) [0] rfl ?_
     · skip
       refine g_take F10 rfl (i := 0) (listed' := #[true, false, false, false, false, false, false, false, false, false, false, false, false, false, false, false, false, false, false, false, false, false]) rfl (by kernel_rfl) (by kernel_rfl) (by kernel_rfl) (fun _ _ _ h => h) (Sd.of (Mv.refl S19.at') [0] rfl) rfl rfl rfl rfl (fun _ hz => (r_field FI_43_1 rfl (F10.ev 1 rfl) rfl)) fun _ F20 => ?_
       refine g_take (v := .slice Q1 Q0 Q2) F20 rfl (i := 1) (listed' := #[true, true, false, false, false, false, false, false, false, false, false, false, false, false, false, false, false, false, false, false, false, false]) rfl (by kernel_rfl) (by kernel_rfl) (by kernel_rfl) (fun _ _ _ h => h) (Sd.of (Mv.refl S19.at') [0] rfl) rfl rfl rfl rfl (fun _ hz => (r_loadX (hz.bx 0 rfl) TI_36 rfl (F20.ev 11 rfl) rfl rfl (fun _ => rfl) rfl)) fun _ F21 => ?_
       refine g_take F21 rfl (i := 2) (listed' := #[true, true, true, false, false, false, false, false, false, false, false, false, false, false, false, false, false, false, false, false, false, false]) rfl (by kernel_rfl) (by kernel_rfl) (by kernel_rfl) (fun _ _ _ h => h) (Sd.of (Mv.refl S19.at') [0] rfl) rfl rfl rfl rfl (fun _ hz => (r_move rfl (F21.ev 3 rfl))) fun _ F22 => ?_
       obtain ⟨B23, O23, y23, ad23, hy23, oky23, ln23, cl23⟩ := Rd.atK (Nat.succ_pos _) (Rd.mv (Nat.succ_pos _) Q13 (S1.trans (S5.trans S19))) i (by first | assumption | omega)
       clear ln23
       obtain rfl := Option.some.inj (hx1.symm.trans hy23)
       clear hy23 oky23
       refine g_take F22 rfl (i := 3) (listed' := #[true, true, true, true, false, false, false, false, false, false, false, false, false, false, false, false, false, false, false, false, false, false]) rfl (by kernel_rfl) (by kernel_rfl) (by kernel_rfl) (fun _ _ _ h => h) (Sd.of (Mv.refl S19.at') [0] rfl) rfl rfl rfl rfl (fun _ hz => (r_indexAddr (i := i) ET_36 rfl ((F22.ev 12 rfl).trans (by rw [ad23])) (F22.ev 13 rfl) (by omega) (by first | assumption | omega))) fun _ F24 => ?_
       refine g_take F24 rfl (i := 4) (listed' := #[true, true, true, true, true, false, false, false, false, false, false, false, false, false, false, false, false, false, false, false, false, false]) rfl (by kernel_rfl) (by kernel_rfl) (by kernel_rfl) (fun _ _ _ h => h) (Sd.of (Mv.refl S19.at') [0] rfl) rfl rfl rfl rfl (fun _ hz => (r_field FI_58_0 rfl (F24.ev 14 rfl) rfl)) fun _ F25 => ?_
       refine g_take (v := .int .i64 x1.d.id) F25 rfl (i := 5) (listed' := #[true, true, true, true, true, true, false, false, false, false, false, false, false, false, false, false, false, false, false, false, false, false]) rfl (by kernel_rfl) (by kernel_rfl) (by kernel_rfl) (fun _ _ _ h => h) (Sd.of (Mv.refl S19.at') [0] rfl) rfl rfl rfl rfl (fun _ hz => (r_load (cs := [.int .i64 x1.d.id]) TI_3 rfl (F25.ev 15 rfl) rfl (fun _ => rfl) (elem_sub (f := 0) (cl23 _ hz.kp) [.int .i64 x1.d.id] rfl))) fun _ F26 => ?_
       refine g_take F26 rfl (i := 6) (listed' := #[true, true, true, true, true, true, true, false, false, false, false, false, false, false, false, false, false, false, false, false, false, false]) rfl (by kernel_rfl) (by kernel_rfl) (by kernel_rfl) (fun _ _ _ h => h) (Sd.of (Mv.refl S19.at') [0] rfl) rfl rfl rfl rfl (fun _ hz => (r_field FI_43_4 rfl (F26.ev 1 rfl) rfl)) fun _ F27 => ?_
       refine g_take (v := .int .i64 k.next) F27 rfl (i := 7) (listed' := #[true, true, true, true, true, true, true, true, false, false, false, false, false, false, false, false, false, false, false, false, false, false]) rfl (by kernel_rfl) (by kernel_rfl) (by kernel_rfl) (fun _ _ _ h => h) (Sd.of (Mv.refl S19.at') [0] rfl) rfl rfl rfl rfl (fun _ hz => (r_loadX (hz.bx 0 rfl) TI_3 rfl (F27.ev 17 rfl) rfl rfl (fun _ => rfl) rfl)) fun _ F28 => ?_
       refine g_take F28 rfl (i := 8) (listed' := #[true, true, true, true, true, true, true, true, true, false, false, false, false, false, false, false, false, false, false, false, false, false]) rfl (by kernel_rfl) (by kernel_rfl) (by kernel_rfl) (fun _ _ _ h => h) (Sd.of (Mv.refl S19.at') [0] rfl) rfl rfl rfl rfl (fun _ hz => (r_cmp (b := decide (x1.d.id ≥ k.next)) (.inr (.inr (.inr (.inr (.inr rfl))))) rfl (F28.ev 16 rfl) (F28.ev 18 rfl) (dec_of (by omega)))) fun _ F29 => ?_
       refine g_take F29 rfl (i := 9) (listed' := #[true, true, true, true, true, true, true, true, true, true, false, false, false, false, false, false, false, false, false, false, false, false]) rfl (by kernel_rfl) (by kernel_rfl) (by kernel_rfl) (fun _ _ _ h => h) (Sd.of (Mv.refl S19.at') [0] rfl) rfl rfl rfl rfl (fun _ hz => (r_move rfl (F29.ev 19 rfl))) fun _ F30 => ?_
       rcases Decidable.em (x1.d.id ≥ k.next) with h31 | h31
       · rw [decide_eq_true h31] at F30
         refine g_skip F30 rfl (i := 10) (listed' := #[true, true, true, true, true, true, true, true, true, true, true, false, false, false, false, false, false, false, false, false, false, false]) rfl (by kernel_rfl) (by kernel_rfl) (by kernel_rfl) (fun _ _ _ h => h) (Sd.of (Mv.refl S19.at') [0] rfl) rfl (wanted_g F30 rfl rfl rfl rfl) rfl rfl fun _ F32 => ?_
         refine g_skip F32 rfl (i := 11) (listed' := #[true, true, true, true, true, true, true, true, true, true, true, true, false, false, false, false, false, false, false, false, false, false]) rfl (by kernel_rfl) (by kernel_rfl) (by kernel_rfl) (fun _ _ _ h => h) (Sd.of (Mv.refl S19.at') [0] rfl) rfl (wanted_g F32 rfl rfl rfl rfl) rfl rfl fun _ F33 => ?_
         refine g_skip F33 rfl (i := 12) (listed' := #[true, true, true, true, true, true, true, true, true, true, true, true, true, false, false, false, false, false, false, false, false, false]) rfl (by kernel_rfl) (by kernel_rfl) (by kernel_rfl) (fun _ _ _ h => h) (Sd.of (Mv.refl S19.at') [0] rfl) rfl (wanted_g F33 rfl rfl rfl rfl) rfl rfl fun _ F34 => ?_
         refine g_skip F34 rfl (i := 13) (listed' := #[true, true, true, true, true, true, true, true, true, true, true, true, true, true, false, false, false, false, false, false, false, false]) rfl (by kernel_rfl) (by kernel_rfl) (by kernel_rfl) (fun _ _ _ h => h) (Sd.of (Mv.refl S19.at') [0] rfl) rfl (wanted_g F34 rfl rfl rfl rfl) rfl rfl fun _ F35 => ?_
         refine g_skip F35 rfl (i := 14) (listed' := #[true, true, true, true, true, true, true, true, true, true, true, true, true, true, true, false, false, false, false, false, false, false]) rfl (by kernel_rfl) (by kernel_rfl) (by kernel_rfl) (fun _ _ _ h => h) (Sd.of (Mv.refl S19.at') [0] rfl) rfl (wanted_g F35 rfl rfl rfl rfl) rfl rfl fun _ F36 => ?_
         refine g_skip F36 rfl (i := 15) (listed' := #[true, true, true, true, true, true, true, true, true, true, true, true, true, true, true, true, false, false, false, false, false, false]) rfl (by kernel_rfl) (by kernel_rfl) (by kernel_rfl) (fun _ _ _ h => h) (Sd.of (Mv.refl S19.at') [0] rfl) rfl (wanted_g F36 rfl rfl rfl rfl) rfl rfl fun _ F37 => ?_
         refine g_skip F37 rfl (i := 16) (listed' := #[true, true, true, true, true, true, true, true, true, true, true, true, true, true, true, true, true, false, false, false, false, false]) rfl (by kernel_rfl) (by kernel_rfl) (by kernel_rfl) (fun _ _ _ h => h) (Sd.of (Mv.refl S19.at') [0] rfl) rfl (wanted_g F37 rfl rfl rfl rfl) rfl rfl fun _ F38 => ?_
         refine g_skip F38 rfl (i := 17) (listed' := #[true, true, true, true, true, true, true, true, true, true, true, true, true, true, true, true, true, true, false, false, false, false]) rfl (by kernel_rfl) (by kernel_rfl) (by kernel_rfl) (fun _ _ _ h => h) (Sd.of (Mv.refl S19.at') [0] rfl) rfl (wanted_g F38 rfl rfl rfl rfl) rfl rfl fun _ F39 => ?_
         refine g_skip F39 rfl (i := 18) (listed' := #[true, true, true, true, true, true, true, true, true, true, true, true, true, true, true, true, true, true, true, false, false, false]) rfl (by kernel_rfl) (by kernel_rfl) (by kernel_rfl) (fun _ _ _ h => h) (Sd.of (Mv.refl S19.at') [0] rfl) rfl (wanted_g F39 rfl rfl rfl rfl) rfl rfl fun _ F40 => ?_
         refine g_skip F40 rfl (i := 19) (listed' := #[true, true, true, true, true, true, true, true, true, true, true, true, true, true, true, true, true, true, true, true, false, false]) rfl (by kernel_rfl) (by kernel_rfl) (by kernel_rfl) (fun _ _ _ h => h) (Sd.of (Mv.refl S19.at') [0] rfl) rfl (wanted_g F40 rfl rfl rfl rfl) rfl rfl fun _ F41 => ?_
         refine g_skip F41 rfl (i := 20) (listed' := #[true, true, true, true, true, true, true, true, true, true, true, true, true, true, true, true, true, true, true, true, true, false]) rfl (by kernel_rfl) (by kernel_rfl) (by kernel_rfl) (fun _ _ _ h => h) (Sd.of (Mv.refl S19.at') [0] rfl) rfl (wanted_g F41 rfl rfl rfl rfl) rfl rfl fun _ F42 => ?_
         refine g_take F42 rfl (i := 21) (listed' := #[true, true, true, true, true, true, true, true, true, true, true, true, true, true, true, true, true, true, true, true, true, true]) rfl (by kernel_rfl) (by kernel_rfl) (by kernel_rfl) (fun _ _ _ h => h) (Sd.of (Mv.refl S19.at') [0] rfl) rfl rfl rfl rfl (fun _ hz => (r_pick (b := true) rfl (F42.ev 20 rfl) rfl)) fun _ F43 => ?_
         refine wpAnyH_done (by kernel_rfl) (x_normal ?_) _
         exact ⟨Fr.cast (F43.cut rfl) (congrArg (fun zZ => ([(1, .pointer (some ⟨b1, 0, none⟩)), (3, .int .i64 ((i : Nat) : Int)), (32, .bool zZ)] : List (Nat × Value))) (show true = (idBad (k.txs.map TxH.d) k.next i) from by first | exact ib_1 hx1 (by assumption) | exact ib_3 hx1 (by assumption))), (S19.pick [0] rfl)⟩
       · rw [decide_eq_false h31] at F30
         refine g_take F30 rfl (i := 10) (listed' := #[true, true, true, true, true, true, true, true, true, true, true, false, false, false, false, false, false, false, false, false, false, false]) rfl (by kernel_rfl) (by kernel_rfl) (by kernel_rfl) (fun _ _ _ h => h) (Sd.of (Mv.refl S19.at') [0] rfl) rfl (wanted_g F30 rfl rfl rfl rfl) rfl rfl (fun _ hz => (r_field FI_43_1 rfl (F30.ev 1 rfl) rfl)) fun _ F44 => ?_
         refine g_take (v := .slice Q1 Q0 Q2) F44 rfl (i := 11) (listed' := #[true, true, true, true, true, true, true, true, true, true, true, true, false, false, false, false, false, false, false, false, false, false]) rfl (by kernel_rfl) (by kernel_rfl) (by kernel_rfl) (fun _ _ _ h => h) (Sd.of (Mv.refl S19.at') [0] rfl) rfl (wanted_g F44 rfl rfl rfl rfl) rfl rfl (fun _ hz => (r_loadX (hz.bx 0 rfl) TI_36 rfl (F44.ev 21 rfl) rfl rfl (fun _ => rfl) rfl)) fun _ F45 => ?_
         refine g_take F45 rfl (i := 12) (listed' := #[true, true, true, true, true, true, true, true, true, true, true, true, true, false, false, false, false, false, false, false, false, false]) rfl (by kernel_rfl) (by kernel_rfl) (by kernel_rfl) (fun _ _ _ h => h) (Sd.of (Mv.refl S19.at') [0] rfl) rfl (wanted_g F45 rfl rfl rfl rfl) rfl rfl (fun _ hz => (r_field FI_43_1 rfl (F45.ev 1 rfl) rfl)) fun _ F46 => ?_
         refine g_take (v := .slice Q1 Q0 Q2) F46 rfl (i := 13) (listed' := #[true, true, true, true, true, true, true, true, true, true, true, true, true, true, false, false, false, false, false, false, false, false]) rfl (by kernel_rfl) (by kernel_rfl) (by kernel_rfl) (fun _ _ _ h => h) (Sd.of (Mv.refl S19.at') [0] rfl) rfl (wanted_g F46 rfl rfl rfl rfl) rfl rfl (fun _ hz => (r_loadX (hz.bx 0 rfl) TI_36 rfl (F46.ev 23 rfl) rfl rfl (fun _ => rfl) rfl)) fun _ F47 => ?_
         refine g_take F47 rfl (i := 14) (listed' := #[true, true, true, true, true, true, true, true, true, true, true, true, true, true, true, false, false, false, false, false, false, false]) rfl (by kernel_rfl) (by kernel_rfl) (by kernel_rfl) (fun _ _ _ h => h) (Sd.of (Mv.refl S19.at') [0] rfl) rfl (wanted_g F47 rfl rfl rfl rfl) rfl rfl (fun _ hz => (r_move rfl (F47.ev 3 rfl))) fun _ F48 => ?_
         obtain ⟨B49, O49, y49, ad49, hy49, oky49, ln49, cl49⟩ := Rd.atK (Nat.succ_pos _) (Rd.mv (Nat.succ_pos _) Q13 (S1.trans (S5.trans S19))) i (by first | assumption | omega)
         clear ln49
         obtain rfl := Option.some.inj (hx1.symm.trans hy49)
         clear hy49 oky49
         refine g_take F48 rfl (i := 15) (listed' := #[true, true, true, true, true, true, true, true, true, true, true, true, true, true, true, true, false, false, false, false, false, false]) rfl (by kernel_rfl) (by kernel_rfl) (by kernel_rfl) (fun _ _ _ h => h) (Sd.of (Mv.refl S19.at') [0] rfl) rfl (wanted_g F48 rfl rfl rfl rfl) rfl rfl (fun _ hz => (r_indexAddr (i := i) ET_36 rfl ((F48.ev 24 rfl).trans (by rw [ad49])) (F48.ev 25 rfl) (by omega) (by first | assumption | omega))) fun _ F50 => ?_
         refine g_take F50 rfl (i := 16) (listed' := #[true, true, true, true, true, true, true, true, true, true, true, true, true, true, true, true, true, false, false, false, false, false]) rfl (by kernel_rfl) (by kernel_rfl) (by kernel_rfl) (fun _ _ _ h => h) (Sd.of (Mv.refl S19.at') [0] rfl) rfl (wanted_g F50 rfl rfl rfl rfl) rfl rfl (fun _ hz => (r_field FI_58_0 rfl (F50.ev 26 rfl) rfl)) fun _ F51 => ?_
         refine g_take (v := .int .i64 x1.d.id) F51 rfl (i := 17) (listed' := #[true, true, true, true, true, true, true, true, true, true, true, true, true, true, true, true, true, true, false, false, false, false]) rfl (by kernel_rfl) (by kernel_rfl) (by kernel_rfl) (fun _ _ _ h => h) (Sd.of (Mv.refl S19.at') [0] rfl) rfl (wanted_g F51 rfl rfl rfl rfl) rfl rfl (fun _ hz => (r_load (cs := [.int .i64 x1.d.id]) TI_3 rfl (F51.ev 27 rfl) rfl (fun _ => rfl) (elem_sub (f := 0) (cl49 _ hz.kp) [.int .i64 x1.d.id] rfl))) fun _ F52 => ?_
         refine g_take F52 rfl (i := 19) (listed' := #[true, true, true, true, true, true, true, true, true, true, true, true, true, true, true, true, true, true, false, true, false, false]) rfl (by kernel_rfl) (by kernel_rfl) (by kernel_rfl) (fun _ _ _ h => h) (Sd.of (Mv.refl S19.at') [0] rfl) rfl (wanted_g F52 rfl rfl rfl rfl) rfl rfl (fun _ hz => (r_move rfl (F52.ev 3 rfl))) fun _ F53 => ?_
         refine d_one (i := 18) (listed' := #[true, true, true, true, true, true, true, true, true, true, true, true, true, true, true, true, true, true, true, true, false, false]) rfl (by kernel_rfl) rfl rfl ?_
         refine f_call F53 CF_14 (wanted_g F53 rfl rfl rfl rfl) rfl rfl rfl (lc (F53.ev 22 rfl) (lc (F53.ev 28 rfl) rfl)) (spec_FindTx_c (list := k.txs) (id := x1.d.id) (Rd.mv (Nat.succ_pos _) Q13 (S1.trans (S5.trans S19))) (NRd.mv Q12 (S1.trans (S5.trans S19))) (by first | assumption | exact ⟨by omega, by omega⟩ | (unfold i64ok at *; omega)) (by first | assumption | omega | (simp <;> omega))) ?_
         rintro _ w54 ⟨rfl, m54, q54_0⟩
         refine ⟨_, rfl, fun _ F55 => ?_⟩
         have S54 := At.frame0 S19.at' m54
         clear m54
         refine ⟨Sd.of S54 [0] rfl, ?_⟩
         refine g_take F55 rfl (i := 20) (listed' := #[true, true, true, true, true, true, true, true, true, true, true, true, true, true, true, true, true, true, true, true, true, false]) rfl (by kernel_rfl) (by kernel_rfl) (by kernel_rfl) (fun _ _ _ h => h) (Sd.of S54 [0] rfl) rfl (wanted_g F55 rfl rfl rfl rfl) rfl rfl (fun _ hz => (r_cmp (b := decide ((findT (k.txs.map TxH.d) x1.d.id) ≠ ((i : Nat) : Int))) (.inr (.inl rfl)) rfl (F55.ev 29 rfl) (F55.ev 30 rfl) (dec_of (by omega)))) fun _ F56 => ?_
         refine g_take F56 rfl (i := 21) (listed' := #[true, true, true, true, true, true, true, true, true, true, true, true, true, true, true, true, true, true, true, true, true, true]) rfl (by kernel_rfl) (by kernel_rfl) (by kernel_rfl) (fun _ _ _ h => h) (Sd.of S54 [0] rfl) rfl rfl rfl rfl (fun _ hz => (r_pick (b := false) rfl (F56.ev 20 rfl) (F56.ev 31 rfl))) fun _ F57 => ?_
         refine wpAnyH_done (by kernel_rfl) (x_normal ?_) _
         exact ⟨Fr.cast (F57.cut rfl) (congrArg (fun zZ => ([(1, .pointer (some ⟨b1, 0, none⟩)), (3, .int .i64 ((i : Nat) : Int)), (32, .bool zZ)] : List (Nat × Value))) (show (decide ((findT (k.txs.map TxH.d) x1.d.id) ≠ ((i : Nat) : Int))) = (idBad (k.txs.map TxH.d) k.next i) from by first | exact ib_1 hx1 (by assumption) | exact ib_3 hx1 (by assumption))), ((S19.trans S54).pick [0] rfl)⟩
     · rintro a58 w58 ⟨F58, S58⟩
       refine x_normal (x_condb (b := (idBad (k.txs.map TxH.d) k.next i)) (F58.ev 32 rfl) (fun h59 => ?_) (fun h59 => ?_))
       · skip
         refine wp_seq (wp_region_lit (l_op (f_val F58 rfl rfl (r_assign rfl rfl) rfl fun _ F60 => ?_)))
         refine s_end (x_normal (wp_ret (x_block_ret (x_then_ret (x_then_ret (x_block_ret (x_then_ret ?_)))))))
         refine x_done (v := .bool false) F60 (results_1 Tryz.results5 (.tmp (F60.ev 2 rfl))) ?_
         exact ⟨(by rw [(show false = (kernOk k.store (k.txs.map TxH.d) (k.disk.slots.map SlotH.d) k.disk.journal k.seq k.next) from by first | exact ko_i (i := i) (by rw [List.length_map]; omega) (by assumption) | exact ko_s (by assumption) | exact ko_d (by assumption) | exact ko_q (by assumption) | exact ko_t (by assumption) (by assumption) (by assumption) (by rw [List.length_map]; omega) hi_1)]), (Mv.pick (S1.trans (S5.trans S58)) [] rfl)⟩
       · skip
         refine wp_skip (x_block_normal (x_normal (wp_region_lit (l_op (f_mv F58 rfl rfl rfl rfl rfl fun _ F61 => ?_)))))
         refine l_op (f_val F61 rfl rfl (r_add (z := ((i + 1 : Nat) : Int)) rfl (F61.ev 9 rfl) rfl (by first | rfl | omega) ⟨by first | omega | (unfold i64ok at *; omega), by first | omega | (unfold i64ok at *; omega)⟩) rfl fun _ F62 => ?_)
         refine l_op (f_as F62 rfl rfl rfl rfl rfl fun _ F63 => ?_)
         refine s_end ?_
         refine x_normal ⟨i + 1, by omega, F63.cut rfl, ((S5.trans S58).pick [0] rfl), by omega, idb_step hi_1 (by assumption)⟩
   · skip
     refine wp_exit (x_then_exit (x_then_exit (x_block_here (x_normal (wp_seq (wp_region_lit (l_op (f_val F10 rfl rfl (r_field FI_43_0 rfl (F10.ev 1 rfl) rfl) rfl fun _ F64 => ?_))))))))
     refine l_op (f_val (v := .slice k_Sa k_Sn k_Sc) F64 rfl rfl (r_loadB S5.at' 0 TI_35 rfl rfl (F64.ev 33 rfl) rfl rfl (fun _ => rfl) rfl) rfl fun _ F65 => ?_)
     refine l_op (f_call F65 CF_15 rfl rfl rfl rfl (lc (F65.ev 34 rfl) rfl) (spec_StoreOk_c (s := k.store) (Rd.mv (Nat.succ_pos _) Q21 (S1.trans S5))) ?_)
     rintro _ w66 ⟨rfl, m66⟩
     refine ⟨_, rfl, fun _ F67 => ?_⟩
     have S66 := At.frame0 S5.at' m66
     clear m66
     refine l_op (f_mv F67 rfl rfl rfl rfl rfl fun _ F68 => ?_)
     rcases Bool.eq_false_or_eq_true (storeOk k.store) with h69 | h69
     · rw [h69] at F68
       refine l_op (f_val F68 (wanted_g F68 rfl rfl rfl rfl) rfl (r_field FI_43_2 rfl (F68.ev 1 rfl) rfl) rfl fun _ F70 => ?_)
       refine l_op (f_val (v := .agg #[.slice Q3 Q5 Q4, .string k.disk.journal.text, .int .i64 k.disk.journal.sure]) F70 (wanted_g F70 rfl rfl rfl rfl) rfl (r_loadB S66.at' 0 TI_40 rfl rfl (F70.ev 37 rfl) rfl rfl (fun h => nomatch h) rfl) rfl fun _ F71 => ?_)
       refine l_op (f_call F71 CF_16 (wanted_g F71 rfl rfl rfl rfl) rfl rfl rfl (lc (F71.ev 38 rfl) rfl) (spec_DiskOk_c (d := k.disk) (Rd.mv (Nat.succ_pos _) Q20 (S1.trans (S5.trans S66))) (NRd.mv Q19 (S1.trans (S5.trans S66))) Q23 (by first | assumption | exact ⟨by omega, by omega⟩ | (unfold i64ok at *; omega) | (simp only [i64ok]; omega))) ?_)
       rintro _ w72 ⟨rfl, m72⟩
       refine ⟨_, rfl, fun _ F73 => ?_⟩
       have S72 := At.frame0 S66.at' m72
       clear m72
       refine l_op (f_val F73 rfl rfl (r_pick (b := true) rfl (F73.ev 36 rfl) (F73.ev 39 rfl)) rfl fun _ F74 => ?_)
       refine l_op (f_mv F74 rfl rfl rfl rfl rfl fun _ F75 => ?_)
       rcases Bool.eq_false_or_eq_true (diskOk (k.disk.slots.map SlotH.d) k.disk.journal) with h76 | h76
       · rw [h76] at F75
         refine l_op (f_val F75 (wanted_g F75 rfl rfl rfl rfl) rfl (r_field FI_43_3 rfl (F75.ev 1 rfl) rfl) rfl fun _ F77 => ?_)
         refine l_op (f_val (v := .int .i64 k.seq) F77 (wanted_g F77 rfl rfl rfl rfl) rfl (r_loadB S72.at' 0 TI_3 rfl rfl (F77.ev 42 rfl) rfl rfl (fun _ => rfl) rfl) rfl fun _ F78 => ?_)
         refine l_op (f_call F78 CF_17 (wanted_g F78 rfl rfl rfl rfl) rfl rfl rfl (lc (F78.ev 43 rfl) (lc rfl (lc rfl rfl))) (spec_l01In_c (H := fun _ => True) (x := k.seq) (least := 0) (most := 99000) (by first | assumption | exact ⟨by omega, by omega⟩ | (unfold i64ok at *; omega)) (by first | assumption | exact ⟨by omega, by omega⟩ | (unfold i64ok at *; omega)) (by first | assumption | exact ⟨by omega, by omega⟩ | (unfold i64ok at *; omega))) ?_)
         rintro _ w79 ⟨rfl, m79⟩
         refine ⟨_, rfl, fun _ F80 => ?_⟩
         have S79 := At.frame0 S72.at' m79
         clear m79
         refine l_op (f_val F80 rfl rfl (r_pick (b := true) rfl (F80.ev 41 rfl) (F80.ev 44 rfl)) rfl fun _ F81 => ?_)
         refine l_op (f_mv F81 rfl rfl rfl rfl rfl fun _ F82 => ?_)
         rcases Bool.eq_false_or_eq_true (inB k.seq 0 99000) with h83 | h83
         · rw [h83] at F82
           refine l_op (f_val F82 (wanted_g F82 rfl rfl rfl rfl) rfl (r_field FI_43_1 rfl (F82.ev 1 rfl) rfl) rfl fun _ F84 => ?_)
           refine l_op (f_val (v := .slice Q1 Q0 Q2) F84 (wanted_g F84 rfl rfl rfl rfl) rfl (r_loadB S79.at' 0 TI_36 rfl rfl (F84.ev 47 rfl) rfl rfl (fun _ => rfl) rfl) rfl fun _ F85 => ?_)
           refine l_op (f_call F85 CF_18 (wanted_g F85 rfl rfl rfl rfl) rfl rfl rfl (lc (F85.ev 48 rfl) rfl) (spec_AllApart_c (list := k.txs) (Rd.mv (Nat.succ_pos _) Q13 (S1.trans (S5.trans (S66.trans (S72.trans S79))))) (NRd.mv Q12 (S1.trans (S5.trans (S66.trans (S72.trans S79)))))) ?_)
           rintro _ w86 ⟨rfl, m86⟩
           refine ⟨_, rfl, fun _ F87 => ?_⟩
           have S86 := At.frame0 S79.at' m86
           clear m86
           refine l_op (f_val F87 rfl rfl (r_pick (b := true) rfl (F87.ev 46 rfl) (F87.ev 49 rfl)) rfl fun _ F88 => ?_)
           refine l_op (f_as F88 rfl rfl rfl rfl rfl fun _ F89 => ?_)
           have F90 : Fr 51 [(2, .bool (apartL (k.txs.map TxH.d)))] _ := F89.cut rfl
           clear F5 F6 F7 F8 F9 F10 F64 F65 F67 F68 F70 F71 F73 F74 F75 F77 F78 F80 F81 F82 F84 F85 F87 F88 F89
           have T91 : Mv _ _ [bx b1 [.slice k_Sa k_Sn k_Sc, .slice Q1 Q0 Q2, .slice Q3 Q5 Q4, .string k.disk.journal.text, .int .i64 k.disk.journal.sure, .int .i64 k.seq, .int .i64 k.next, .int .i64 k.time, .slice Q6 Q8 Q7, .slice Q9 Q11 Q10, .bool k.room] 43] _ := S86
           refine s_end (x_normal (wp_ret ?_))
           refine x_done (v := .bool (apartL (k.txs.map TxH.d))) F90 (results_1 Tryz.results5 (.tmp (F90.ev 2 rfl))) ?_
           exact ⟨(by rw [(show (apartL (k.txs.map TxH.d)) = (kernOk k.store (k.txs.map TxH.d) (k.disk.slots.map SlotH.d) k.disk.journal k.seq k.next) from by first | exact ko_i (i := i) (by rw [List.length_map]; omega) (by assumption) | exact ko_s (by assumption) | exact ko_d (by assumption) | exact ko_q (by assumption) | exact ko_t (by assumption) (by assumption) (by assumption) (by rw [List.length_map]; omega) hi_1)]), (Mv.pick (S1.trans (S5.trans (S66.trans (S72.trans (S79.trans T91))))) [] rfl)⟩
         · rw [h83] at F82
           refine l_op (f_skip F82 (wanted_g F82 rfl rfl rfl rfl) rfl rfl fun _ F92 => ?_)
           refine l_op (f_skip F92 (wanted_g F92 rfl rfl rfl rfl) rfl rfl fun _ F93 => ?_)
           refine l_op (f_skip F93 (wanted_g F93 rfl rfl rfl rfl) rfl rfl fun _ F94 => ?_)
           refine l_op (f_val F94 rfl rfl (r_pick (b := false) rfl (F94.ev 46 rfl) rfl) rfl fun _ F95 => ?_)
           refine l_op (f_as F95 rfl rfl rfl rfl rfl fun _ F96 => ?_)
           have F97 : Fr 51 [(2, .bool false)] _ := F96.cut rfl
           clear F5 F6 F7 F8 F9 F10 F64 F65 F67 F68 F70 F71 F73 F74 F75 F77 F78 F80 F81 F82 F92 F93 F94 F95 F96
           have T98 : Mv _ _ [bx b1 [.slice k_Sa k_Sn k_Sc, .slice Q1 Q0 Q2, .slice Q3 Q5 Q4, .string k.disk.journal.text, .int .i64 k.disk.journal.sure, .int .i64 k.seq, .int .i64 k.next, .int .i64 k.time, .slice Q6 Q8 Q7, .slice Q9 Q11 Q10, .bool k.room] 43] _ := S79
           refine s_end (x_normal (wp_ret ?_))
           refine x_done (v := .bool false) F97 (results_1 Tryz.results5 (.tmp (F97.ev 2 rfl))) ?_
           exact ⟨(by rw [(show false = (kernOk k.store (k.txs.map TxH.d) (k.disk.slots.map SlotH.d) k.disk.journal k.seq k.next) from by first | exact ko_i (i := i) (by rw [List.length_map]; omega) (by assumption) | exact ko_s (by assumption) | exact ko_d (by assumption) | exact ko_q (by assumption) | exact ko_t (by assumption) (by assumption) (by assumption) (by rw [List.length_map]; omega) hi_1)]), (Mv.pick (S1.trans (S5.trans (S66.trans (S72.trans T98)))) [] rfl)⟩
       · rw [h76] at F75
         refine l_op (f_skip F75 (wanted_g F75 rfl rfl rfl rfl) rfl rfl fun _ F99 => ?_)
         refine l_op (f_skip F99 (wanted_g F99 rfl rfl rfl rfl) rfl rfl fun _ F100 => ?_)
         refine l_op (f_skip F100 (wanted_g F100 rfl rfl rfl rfl) rfl rfl fun _ F101 => ?_)
         refine l_op (f_val F101 rfl rfl (r_pick (b := false) rfl (F101.ev 41 rfl) rfl) rfl fun _ F102 => ?_)
         refine l_op (f_mv F102 rfl rfl rfl rfl rfl fun _ F103 => ?_)
         refine l_op (f_skip F103 (wanted_g F103 rfl rfl rfl rfl) rfl rfl fun _ F104 => ?_)
         refine l_op (f_skip F104 (wanted_g F104 rfl rfl rfl rfl) rfl rfl fun _ F105 => ?_)
         refine l_op (f_skip F105 (wanted_g F105 rfl rfl rfl rfl) rfl rfl fun _ F106 => ?_)
         refine l_op (f_val F106 rfl rfl (r_pick (b := false) rfl (F106.ev 46 rfl) rfl) rfl fun _ F107 => ?_)
         refine l_op (f_as F107 rfl rfl rfl rfl rfl fun _ F108 => ?_)
         have F109 : Fr 51 [(2, .bool false)] _ := F108.cut rfl
         clear F5 F6 F7 F8 F9 F10 F64 F65 F67 F68 F70 F71 F73 F74 F75 F99 F100 F101 F102 F103 F104 F105 F106 F107 F108
         have T110 : Mv _ _ [bx b1 [.slice k_Sa k_Sn k_Sc, .slice Q1 Q0 Q2, .slice Q3 Q5 Q4, .string k.disk.journal.text, .int .i64 k.disk.journal.sure, .int .i64 k.seq, .int .i64 k.next, .int .i64 k.time, .slice Q6 Q8 Q7, .slice Q9 Q11 Q10, .bool k.room] 43] _ := S72
         refine s_end (x_normal (wp_ret ?_))
         refine x_done (v := .bool false) F109 (results_1 Tryz.results5 (.tmp (F109.ev 2 rfl))) ?_
         exact ⟨(by rw [(show false = (kernOk k.store (k.txs.map TxH.d) (k.disk.slots.map SlotH.d) k.disk.journal k.seq k.next) from by first | exact ko_i (i := i) (by rw [List.length_map]; omega) (by assumption) | exact ko_s (by assumption) | exact ko_d (by assumption) | exact ko_q (by assumption) | exact ko_t (by assumption) (by assumption) (by assumption) (by rw [List.length_map]; omega) hi_1)]), (Mv.pick (S1.trans (S5.trans (S66.trans T110))) [] rfl)⟩
     · rw [h69] at F68
       refine l_op (f_skip F68 (wanted_g F68 rfl rfl rfl rfl) rfl rfl fun _ F111 => ?_)
       refine l_op (f_skip F111 (wanted_g F111 rfl rfl rfl rfl) rfl rfl fun _ F112 => ?_)
       refine l_op (f_skip F112 (wanted_g F112 rfl rfl rfl rfl) rfl rfl fun _ F113 => ?_)
       refine l_op (f_val F113 rfl rfl (r_pick (b := false) rfl (F113.ev 36 rfl) rfl) rfl fun _ F114 => ?_)
       refine l_op (f_mv F114 rfl rfl rfl rfl rfl fun _ F115 => ?_)
       refine l_op (f_skip F115 (wanted_g F115 rfl rfl rfl rfl) rfl rfl fun _ F116 => ?_)
       refine l_op (f_skip F116 (wanted_g F116 rfl rfl rfl rfl) rfl rfl fun _ F117 => ?_)
       refine l_op (f_skip F117 (wanted_g F117 rfl rfl rfl rfl) rfl rfl fun _ F118 => ?_)
       refine l_op (f_val F118 rfl rfl (r_pick (b := false) rfl (F118.ev 41 rfl) rfl) rfl fun _ F119 => ?_)
       refine l_op (f_mv F119 rfl rfl rfl rfl rfl fun _ F120 => ?_)
       refine l_op (f_skip F120 (wanted_g F120 rfl rfl rfl rfl) rfl rfl fun _ F121 => ?_)
       refine l_op (f_skip F121 (wanted_g F121 rfl rfl rfl rfl) rfl rfl fun _ F122 => ?_)
       refine l_op (f_skip F122 (wanted_g F122 rfl rfl rfl rfl) rfl rfl fun _ F123 => ?_)
       refine l_op (f_val F123 rfl rfl (r_pick (b := false) rfl (F123.ev 46 rfl) rfl) rfl fun _ F124 => ?_)
       refine l_op (f_as F124 rfl rfl rfl rfl rfl fun _ F125 => ?_)
       have F126 : Fr 51 [(2, .bool false)] _ := F125.cut rfl
       clear F5 F6 F7 F8 F9 F10 F64 F65 F67 F68 F111 F112 F113 F114 F115 F116 F117 F118 F119 F120 F121 F122 F123 F124 F125
       have T127 : Mv _ _ [bx b1 [.slice k_Sa k_Sn k_Sc, .slice Q1 Q0 Q2, .slice Q3 Q5 Q4, .string k.disk.journal.text, .int .i64 k.disk.journal.sure, .int .i64 k.seq, .int .i64 k.next, .int .i64 k.time, .slice Q6 Q8 Q7, .slice Q9 Q11 Q10, .bool k.room] 43] _ := S66
       refine s_end (x_normal (wp_ret ?_))
       refine x_done (v := .bool false) F126 (results_1 Tryz.results5 (.tmp (F126.ev 2 rfl))) ?_
       exact ⟨(by rw [(show false = (kernOk k.store (k.txs.map TxH.d) (k.disk.slots.map SlotH.d) k.disk.journal k.seq k.next) from by first | exact ko_i (i := i) (by rw [List.length_map]; omega) (by assumption) | exact ko_s (by assumption) | exact ko_d (by assumption) | exact ko_q (by assumption) | exact ko_t (by assumption) (by assumption) (by assumption) (by rw [List.length_map]; omega) hi_1)]), (Mv.pick (S1.trans (S5.trans T127)) [] rfl)⟩
end Go.Proofs.YtgfilegkabbliaaGreat
