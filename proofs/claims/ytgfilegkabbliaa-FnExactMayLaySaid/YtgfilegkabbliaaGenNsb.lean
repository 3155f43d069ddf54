/-
  Walks: room in a journal, live transactions.
-/
import Derived.Test.YtgfilegkabbliaaDatNs
namespace Go.Proofs.Ytgfilegkabbliaa
open Go.ChangeShapes Go.WideShapes Go.ChangeAt Go.RowKit
set_option maxRecDepth 100000
set_option maxHeartbeats 1000000
theorem impl_within_c {w : World} {H : Nat → Prop} {n : Int} {low : Int} {high : Int} (h_n : i64ok n) (h_low : i64ok low) (h_high : i64ok high) :
    Calls Try.prog 65 #[.int .i64 n, .int .i64 low, .int .i64 high] w fun e w' => e = .returned (.bool (inB n low high)) ∧ Mv [] w [] w' := by
 have uU : True := (fun _ _ _ _ => trivial) H h_n h_low h_high
 clear uU
 refine calls_enter 15 Try.func65 rfl Try.ntmps65 (Nat.le_of_ble_eq_true rfl) (fun _ F0i => ?_)
 have F0 : Fr 15 [(0, .int .i64 n), (1, .int .i64 low), (2, .int .i64 high)] _ := F0i
 clear F0i
 refine wp_seq (wp_region_lit (l_op (f_val F0 rfl rfl (r_assign rfl rfl) rfl fun _ F1 => ?_)))
 have F2 : Fr 15 [(6, .bool false), (0, .int .i64 n), (1, .int .i64 low), (2, .int .i64 high)] _ := F1.cut rfl
 clear F0 F1
 refine s_end (x_normal (wp_seq (wp_region_lit (l_op (f_mv F2 rfl rfl rfl rfl rfl fun _ F3 => ?_)))))
 refine l_op (f_mv F3 rfl rfl rfl rfl rfl fun _ F4 => ?_)
 refine l_op (f_val F4 rfl rfl (r_cmp (b := decide (n ≥ low)) (.inr (.inr (.inr (.inr (.inr rfl))))) rfl (F4.ev 7 rfl) (F4.ev 8 rfl) (dec_of (by omega))) rfl fun _ F5 => ?_)
 refine l_op (f_mv F5 rfl rfl rfl rfl rfl fun _ F6 => ?_)
 rcases Decidable.em (n ≥ low) with h7 | h7
 · rw [decide_eq_true h7] at F6
   refine l_op (f_mv F6 (wanted_g F6 rfl rfl rfl rfl) rfl rfl rfl rfl fun _ F8 => ?_)
   refine l_op (f_mv F8 (wanted_g F8 rfl rfl rfl rfl) rfl rfl rfl rfl fun _ F9 => ?_)
   refine l_op (f_val F9 (wanted_g F9 rfl rfl rfl rfl) rfl (r_cmp (b := decide (n ≤ high)) (.inr (.inr (.inr (.inl rfl)))) rfl (F9.ev 11 rfl) (F9.ev 12 rfl) (dec_of (by omega))) rfl fun _ F10 => ?_)
   refine l_op (f_val F10 rfl rfl (r_pick (b := true) rfl (F10.ev 10 rfl) (F10.ev 13 rfl)) rfl fun _ F11 => ?_)
   refine l_op (f_as F11 rfl rfl rfl rfl rfl fun _ F12 => ?_)
   have F13 : Fr 15 [(6, .bool (decide (n ≤ high)))] _ := F12.cut rfl
   clear F2 F3 F4 F5 F6 F8 F9 F10 F11 F12
   refine s_end (x_normal (wp_ret ?_))
   refine x_done (v := .bool (decide (n ≤ high))) F13 (results_1 Try.results65 (.tmp (F13.ev 6 rfl))) ?_
   exact ⟨(by rw [(show (decide (n ≤ high)) = (inB n low high) from by unfold inB; first | rfl | exact dec_of (by omega) | exact (decide_eq_false (by omega)).symm | exact (decide_eq_true (by omega)).symm)]), (Mv.pick (Mv.refl (At.nil w)) [] rfl)⟩
 · rw [decide_eq_false h7] at F6
   refine l_op (f_skip F6 (wanted_g F6 rfl rfl rfl rfl) rfl rfl fun _ F14 => ?_)
   refine l_op (f_skip F14 (wanted_g F14 rfl rfl rfl rfl) rfl rfl fun _ F15 => ?_)
   refine l_op (f_skip F15 (wanted_g F15 rfl rfl rfl rfl) rfl rfl fun _ F16 => ?_)
   refine l_op (f_val F16 rfl rfl (r_pick (b := false) rfl (F16.ev 10 rfl) rfl) rfl fun _ F17 => ?_)
   refine l_op (f_as F17 rfl rfl rfl rfl rfl fun _ F18 => ?_)
   have F19 : Fr 15 [(6, .bool false)] _ := F18.cut rfl
   clear F2 F3 F4 F5 F6 F14 F15 F16 F17 F18
   refine s_end (x_normal (wp_ret ?_))
   refine x_done (v := .bool false) F19 (results_1 Try.results65 (.tmp (F19.ev 6 rfl))) ?_
   exact ⟨(by rw [(show false = (inB n low high) from by unfold inB; first | rfl | exact dec_of (by omega) | exact (decide_eq_false (by omega)).symm | exact (decide_eq_true (by omega)).symm)]), (Mv.pick (Mv.refl (At.nil w)) [] rfl)⟩
theorem spec_l01In_c {w : World} {H : Nat → Prop} {x : Int} {least : Int} {most : Int} (h_x : i64ok x) (h_least : i64ok least) (h_most : i64ok most) :
    Calls Try.prog 61 #[.int .i64 x, .int .i64 least, .int .i64 most] w fun e w' => e = .returned (.bool (inB x least most)) ∧ Mv [] w [] w' := by
 have uU : True := (fun _ _ _ _ => trivial) H h_x h_least h_most
 clear uU
 refine calls_enter 15 Try.func61 rfl Try.ntmps61 (Nat.le_of_ble_eq_true rfl) (fun _ F0i => ?_)
 have F0 : Fr 15 [(0, .int .i64 x), (1, .int .i64 least), (2, .int .i64 most)] _ := F0i
 clear F0i
 refine wp_seq (wp_region_lit (l_op (f_val F0 rfl rfl (r_assign rfl rfl) rfl fun _ F1 => ?_)))
 have F2 : Fr 15 [(6, .bool false), (0, .int .i64 x), (1, .int .i64 least), (2, .int .i64 most)] _ := F1.cut rfl
 clear F0 F1
 refine s_end (x_normal (wp_seq (wp_region_lit (l_op (f_mv F2 rfl rfl rfl rfl rfl fun _ F3 => ?_)))))
 refine l_op (f_mv F3 rfl rfl rfl rfl rfl fun _ F4 => ?_)
 refine l_op (f_val F4 rfl rfl (r_cmp (b := decide (x ≥ least)) (.inr (.inr (.inr (.inr (.inr rfl))))) rfl (F4.ev 7 rfl) (F4.ev 8 rfl) (dec_of (by omega))) rfl fun _ F5 => ?_)
 refine l_op (f_mv F5 rfl rfl rfl rfl rfl fun _ F6 => ?_)
 rcases Decidable.em (x ≥ least) with h7 | h7
 · rw [decide_eq_true h7] at F6
   refine l_op (f_mv F6 (wanted_g F6 rfl rfl rfl rfl) rfl rfl rfl rfl fun _ F8 => ?_)
   refine l_op (f_mv F8 (wanted_g F8 rfl rfl rfl rfl) rfl rfl rfl rfl fun _ F9 => ?_)
   refine l_op (f_val F9 (wanted_g F9 rfl rfl rfl rfl) rfl (r_cmp (b := decide (x ≤ most)) (.inr (.inr (.inr (.inl rfl)))) rfl (F9.ev 11 rfl) (F9.ev 12 rfl) (dec_of (by omega))) rfl fun _ F10 => ?_)
   refine l_op (f_val F10 rfl rfl (r_pick (b := true) rfl (F10.ev 10 rfl) (F10.ev 13 rfl)) rfl fun _ F11 => ?_)
   refine l_op (f_as F11 rfl rfl rfl rfl rfl fun _ F12 => ?_)
   have F13 : Fr 15 [(6, .bool (decide (x ≤ most)))] _ := F12.cut rfl
   clear F2 F3 F4 F5 F6 F8 F9 F10 F11 F12
   refine s_end (x_normal (wp_ret ?_))
   refine x_done (v := .bool (decide (x ≤ most))) F13 (results_1 Try.results61 (.tmp (F13.ev 6 rfl))) ?_
   exact ⟨(by rw [(show (decide (x ≤ most)) = (inB x least most) from by unfold inB; first | rfl | exact dec_of (by omega) | exact (decide_eq_false (by omega)).symm | exact (decide_eq_true (by omega)).symm)]), (Mv.pick (Mv.refl (At.nil w)) [] rfl)⟩
 · rw [decide_eq_false h7] at F6
   refine l_op (f_skip F6 (wanted_g F6 rfl rfl rfl rfl) rfl rfl fun _ F14 => ?_)
   refine l_op (f_skip F14 (wanted_g F14 rfl rfl rfl rfl) rfl rfl fun _ F15 => ?_)
   refine l_op (f_skip F15 (wanted_g F15 rfl rfl rfl rfl) rfl rfl fun _ F16 => ?_)
   refine l_op (f_val F16 rfl rfl (r_pick (b := false) rfl (F16.ev 10 rfl) rfl) rfl fun _ F17 => ?_)
   refine l_op (f_as F17 rfl rfl rfl rfl rfl fun _ F18 => ?_)
   have F19 : Fr 15 [(6, .bool false)] _ := F18.cut rfl
   clear F2 F3 F4 F5 F6 F14 F15 F16 F17 F18
   refine s_end (x_normal (wp_ret ?_))
   refine x_done (v := .bool false) F19 (results_1 Try.results61 (.tmp (F19.ev 6 rfl))) ?_
   exact ⟨(by rw [(show false = (inB x least most) from by unfold inB; first | rfl | exact dec_of (by omega) | exact (decide_eq_false (by omega)).symm | exact (decide_eq_true (by omega)).symm)]), (Mv.pick (Mv.refl (At.nil w)) [] rfl)⟩
theorem impl_Brought_c {w : World} {H : Nat → Prop} {n : Int} {least : Int} {most : Int} (h_n : i64ok n) (h_least : i64ok least) (h_most : i64ok most) :
    Calls Try.prog 72 #[.int .i64 n, .int .i64 least, .int .i64 most] w fun e w' => e = .returned (.int .i64 (max least (min n most))) ∧ Mv [] w [] w' := by
 have uU : True := (fun _ _ _ _ => trivial) H h_n h_least h_most
 clear uU
 refine calls_enter 12 Try.func72 rfl Try.ntmps72 (Nat.le_of_ble_eq_true rfl) (fun _ F0i => ?_)
 have F0 : Fr 12 [(0, .int .i64 n), (1, .int .i64 least), (2, .int .i64 most)] _ := F0i
 clear F0i
 refine wp_seq (wp_region_lit (l_op (f_val F0 rfl rfl (r_assign rfl rfl) rfl fun _ F1 => ?_)))
 have F2 : Fr 12 [(6, .int .i64 0), (0, .int .i64 n), (1, .int .i64 least), (2, .int .i64 most)] _ := F1.cut rfl
 clear F0 F1
 refine s_end (x_normal (wp_seq (wp_region_lit (l_op (f_mv F2 rfl rfl rfl rfl rfl fun _ F3 => ?_)))))
 refine l_op (f_mv F3 rfl rfl rfl rfl rfl fun _ F4 => ?_)
 refine l_op (f_mv F4 rfl rfl rfl rfl rfl fun _ F5 => ?_)
 refine l_op (f_val F5 rfl rfl (r_minI rfl (F5.ev 8 rfl) (F5.ev 9 rfl)) rfl fun _ F6 => ?_)
 refine l_op (f_val F6 rfl rfl (r_maxI rfl (F6.ev 7 rfl) (F6.ev 10 rfl)) rfl fun _ F7 => ?_)
 refine l_op (f_as F7 rfl rfl rfl rfl rfl fun _ F8 => ?_)
 have F9 : Fr 12 [(6, .int .i64 (max least (min n most)))] _ := F8.cut rfl
 clear F2 F3 F4 F5 F6 F7 F8
 refine s_end (x_normal (wp_ret ?_))
 refine x_done (v := .int .i64 (max least (min n most))) F9 (results_1 Try.results72 (.tmp (F9.ev 6 rfl))) ?_
 exact ⟨rfl, (Mv.pick (Mv.refl (At.nil w)) [] rfl)⟩
theorem spec_Brought_c {w : World} {H : Nat → Prop} {n : Int} {least : Int} {most : Int} (h_n : i64ok n) (h_least : i64ok least) (h_most : i64ok most) :
    Calls Try.prog 70 #[.int .i64 n, .int .i64 least, .int .i64 most] w fun e w' => e = .returned (.int .i64 (max least (min n most))) ∧ Mv [] w [] w' := by
 have uU : True := (fun _ _ _ _ => trivial) H h_n h_least h_most
 clear uU
 refine calls_enter 21 Try.func70 rfl Try.ntmps70 (Nat.le_of_ble_eq_true rfl) (fun _ F0i => ?_)
 have F0 : Fr 21 [(0, .int .i64 n), (1, .int .i64 least), (2, .int .i64 most)] _ := F0i
 clear F0i
 refine wp_seq (wp_region_lit (l_op (f_val F0 rfl rfl (r_assign rfl rfl) rfl fun _ F1 => ?_)))
 have F2 : Fr 21 [(6, .int .i64 0), (0, .int .i64 n), (1, .int .i64 least), (2, .int .i64 most)] _ := F1.cut rfl
 clear F0 F1
 refine s_end (x_normal (wp_seq (wp_seq (wp_region_lit (l_op (f_mv F2 rfl rfl rfl rfl rfl fun _ F3 => ?_))))))
 refine l_op (f_mv F3 rfl rfl rfl rfl rfl fun _ F4 => ?_)
 refine l_op (f_val F4 rfl rfl (r_cmp (b := decide (most < least)) (.inr (.inr (.inl rfl))) rfl (F4.ev 7 rfl) (F4.ev 8 rfl) (dec_of (by omega))) rfl fun _ F5 => ?_)
 refine l_op (f_mv F5 rfl rfl rfl rfl rfl fun _ F6 => ?_)
 rcases Decidable.em (most < least) with h7 | h7
 · rw [decide_eq_true h7] at F6
   refine l_op (f_skip F6 (wanted_g F6 rfl rfl rfl rfl) rfl rfl fun _ F8 => ?_)
   refine l_op (f_skip F8 (wanted_g F8 rfl rfl rfl rfl) rfl rfl fun _ F9 => ?_)
   refine l_op (f_skip F9 (wanted_g F9 rfl rfl rfl rfl) rfl rfl fun _ F10 => ?_)
   refine l_op (f_val F10 rfl rfl (r_pick (b := true) rfl (F10.ev 10 rfl) rfl) rfl fun _ F11 => ?_)
   have F12 : Fr 21 [(14, .bool true), (0, .int .i64 n), (1, .int .i64 least), (2, .int .i64 most)] _ := F11.cut rfl
   clear F2 F3 F4 F5 F6 F8 F9 F10 F11
   refine s_end (x_normal (wp_cond_true (F12.ev 14 rfl) (wp_seq (wp_region_lit (l_op (f_mv F12 rfl rfl rfl rfl rfl fun _ F13 => ?_))))))
   refine l_op (f_as F13 rfl rfl rfl rfl rfl fun _ F14 => ?_)
   have F15 : Fr 21 [(6, .int .i64 least)] _ := F14.cut rfl
   clear F12 F13 F14
   refine s_end (x_normal (wp_ret (x_then_ret ?_)))
   refine x_done (v := .int .i64 least) F15 (results_1 Try.results70 (.tmp (F15.ev 6 rfl))) ?_
   exact ⟨(by rw [← (show least = (max least (min n most)) from by omega)]), (Mv.pick (Mv.refl (At.nil w)) [] rfl)⟩
 · rw [decide_eq_false h7] at F6
   refine l_op (f_mv F6 (wanted_g F6 rfl rfl rfl rfl) rfl rfl rfl rfl fun _ F16 => ?_)
   refine l_op (f_mv F16 (wanted_g F16 rfl rfl rfl rfl) rfl rfl rfl rfl fun _ F17 => ?_)
   refine l_op (f_val F17 (wanted_g F17 rfl rfl rfl rfl) rfl (r_cmp (b := decide (n < least)) (.inr (.inr (.inl rfl))) rfl (F17.ev 11 rfl) (F17.ev 12 rfl) (dec_of (by omega))) rfl fun _ F18 => ?_)
   refine l_op (f_val F18 rfl rfl (r_pick (b := false) rfl (F18.ev 10 rfl) (F18.ev 13 rfl)) rfl fun _ F19 => ?_)
   have F20 : Fr 21 [(14, .bool (decide (n < least))), (0, .int .i64 n), (1, .int .i64 least), (2, .int .i64 most)] _ := F19.cut rfl
   clear F2 F3 F4 F5 F6 F16 F17 F18 F19
   refine s_end (x_normal (x_cond (p := n < least) (F20.ev 14 rfl) (fun h21 => ?_) (fun h21 => ?_)))
   · skip
     refine wp_seq (wp_region_lit (l_op (f_mv F20 rfl rfl rfl rfl rfl fun _ F22 => ?_)))
     refine l_op (f_as F22 rfl rfl rfl rfl rfl fun _ F23 => ?_)
     have F24 : Fr 21 [(6, .int .i64 least)] _ := F23.cut rfl
     clear F20 F22 F23
     refine s_end (x_normal (wp_ret (x_then_ret ?_)))
     refine x_done (v := .int .i64 least) F24 (results_1 Try.results70 (.tmp (F24.ev 6 rfl))) ?_
     exact ⟨(by rw [← (show least = (max least (min n most)) from by omega)]), (Mv.pick (Mv.refl (At.nil w)) [] rfl)⟩
   · skip
     refine wp_skip (x_normal (wp_seq (wp_seq (wp_region_lit (l_op (f_mv F20 rfl rfl rfl rfl rfl fun _ F25 => ?_))))))
     refine l_op (f_mv F25 rfl rfl rfl rfl rfl fun _ F26 => ?_)
     refine l_op (f_val F26 rfl rfl (r_cmp (b := decide (n > most)) (.inr (.inr (.inr (.inr (.inl rfl))))) rfl (F26.ev 16 rfl) (F26.ev 17 rfl) (dec_of (by omega))) rfl fun _ F27 => ?_)
     have F28 : Fr 21 [(18, .bool (decide (n > most))), (0, .int .i64 n), (2, .int .i64 most)] _ := F27.cut rfl
     clear F20 F25 F26 F27
     refine s_end (x_normal (x_cond (p := n > most) (F28.ev 18 rfl) (fun h29 => ?_) (fun h29 => ?_)))
     · skip
       refine wp_seq (wp_region_lit (l_op (f_mv F28 rfl rfl rfl rfl rfl fun _ F30 => ?_)))
       refine l_op (f_as F30 rfl rfl rfl rfl rfl fun _ F31 => ?_)
       have F32 : Fr 21 [(6, .int .i64 most)] _ := F31.cut rfl
       clear F28 F30 F31
       refine s_end (x_normal (wp_ret (x_then_ret ?_)))
       refine x_done (v := .int .i64 most) F32 (results_1 Try.results70 (.tmp (F32.ev 6 rfl))) ?_
       exact ⟨(by rw [← (show most = (max least (min n most)) from by omega)]), (Mv.pick (Mv.refl (At.nil w)) [] rfl)⟩
     · skip
       refine wp_skip (x_normal (wp_seq (wp_region_lit (l_op (f_mv F28 rfl rfl rfl rfl rfl fun _ F33 => ?_)))))
       refine l_op (f_as F33 rfl rfl rfl rfl rfl fun _ F34 => ?_)
       have F35 : Fr 21 [(6, .int .i64 n)] _ := F34.cut rfl
       clear F28 F33 F34
       refine s_end (x_normal (wp_ret ?_))
       refine x_done (v := .int .i64 n) F35 (results_1 Try.results70 (.tmp (F35.ev 6 rfl))) ?_
       exact ⟨(by rw [← (show n = (max least (min n most)) from by omega)]), (Mv.pick (Mv.refl (At.nil w)) [] rfl)⟩
theorem impl_JournalSize_c {w : World} {H : Nat → Prop} {d : DiskH} {d_slots_a : Option Addr} {d_slots_n d_slots_c : Nat} (v_d_slots : Rd 3 encSlot okSlot H w (.slice d_slots_a d_slots_n d_slots_c) d.slots) (u_d_slots : NRd inSlot H w d.slots) (h_d_journal_text : okS d.journal.text) (h_d_journal_sure : i64ok d.journal.sure) :
    Calls Try.prog 14 #[.agg #[.slice d_slots_a d_slots_n d_slots_c, .string d.journal.text, .int .i64 d.journal.sure]] w fun e w' => e = .returned (.int .i64 ((d.journal.text.size : Nat) : Int)) ∧ Mv [] w [] w' := by
 have uU : True := (fun _ => trivial) h_d_journal_sure
 clear uU
 have hz1 := h_d_journal_text
 unfold okS at hz1
 have V_v_d_slots : Rd 3 encSlot okSlot (V H w []) w (.slice d_slots_a d_slots_n d_slots_c) d.slots := Rd.start v_d_slots (fun _ _ => fps_nil _)
 obtain ⟨ln_d_slots, le_d_slots, mx_d_slots, ni_d_slots⟩ := Rd.inv v_d_slots
 have V_u_d_slots : NRd inSlot (V H w []) w d.slots := NRd.start u_d_slots (fun _ _ => fps_nil _)
 refine calls_enter 7 Try.func14 rfl Try.ntmps14 (Nat.le_of_ble_eq_true rfl) (fun _ F0i => ?_)
 have F0 : Fr 7 [(0, .agg #[.slice d_slots_a d_slots_n d_slots_c, .string d.journal.text, .int .i64 d.journal.sure])] _ := F0i
 clear F0i
 refine wp_seq (wp_region_lit (l_op (f_box F0 (At.nil w) rfl rfl rfl (F0.ev 0 rfl) rfl rfl fun b1 _ w1 F2 S1 => ?_)))
 refine l_op (f_val F2 rfl rfl (r_assign rfl rfl) rfl fun _ F3 => ?_)
 have F4 : Fr 7 [(2, .int .i64 0), (1, .pointer (some ⟨b1, 0, none⟩))] _ := F3.cut rfl
 clear F0 F2 F3
 have T5 : Mv _ _ [bx b1 [.slice d_slots_a d_slots_n d_slots_c, .string d.journal.text, .int .i64 d.journal.sure] 32] _ := S1
 refine s_end (x_normal (wp_seq (wp_region_lit (l_op (f_val F4 rfl rfl (r_field FI_32_1 rfl (F4.ev 1 rfl) rfl) rfl fun _ F6 => ?_)))))
 refine l_op (f_val F6 rfl rfl (r_field FI_30_0 rfl (F6.ev 3 rfl) rfl) rfl fun _ F7 => ?_)
 refine l_op (f_val (v := .string d.journal.text) F7 rfl rfl (r_loadB T5.at' 0 TI_9 rfl rfl (F7.ev 4 rfl) rfl rfl (fun _ => rfl) rfl) rfl fun _ F8 => ?_)
 refine l_op (f_val F8 rfl rfl (r_lenS (fun t ht => by cases ht; exact Try.underlying9) rfl rfl (F8.ev 5 rfl)) rfl fun _ F9 => ?_)
 refine l_op (f_as F9 rfl rfl rfl rfl rfl fun _ F10 => ?_)
 have F11 : Fr 7 [(2, .int .i64 ((d.journal.text.size : Nat) : Int))] _ := F10.cut rfl
 clear F4 F6 F7 F8 F9 F10
 refine s_end (x_normal (wp_ret ?_))
 refine x_done (v := .int .i64 ((d.journal.text.size : Nat) : Int)) F11 (results_1 Try.results14 (.tmp (F11.ev 2 rfl))) ?_
 exact ⟨rfl, (Mv.pick T5 [] rfl)⟩
theorem spec_JournalSize_c {w : World} {H : Nat → Prop} {d : DiskH} {d_slots_a : Option Addr} {d_slots_n d_slots_c : Nat} (v_d_slots : Rd 3 encSlot okSlot H w (.slice d_slots_a d_slots_n d_slots_c) d.slots) (u_d_slots : NRd inSlot H w d.slots) (h_d_journal_text : okS d.journal.text) (h_d_journal_sure : i64ok d.journal.sure) :
    Calls Try.prog 12 #[.agg #[.slice d_slots_a d_slots_n d_slots_c, .string d.journal.text, .int .i64 d.journal.sure]] w fun e w' => e = .returned (.int .i64 ((d.journal.text.size : Nat) : Int)) ∧ Mv [] w [] w' := by
 have uU : True := (fun _ => trivial) h_d_journal_sure
 clear uU
 have hz1 := h_d_journal_text
 unfold okS at hz1
 have V_v_d_slots : Rd 3 encSlot okSlot (V H w []) w (.slice d_slots_a d_slots_n d_slots_c) d.slots := Rd.start v_d_slots (fun _ _ => fps_nil _)
 obtain ⟨ln_d_slots, le_d_slots, mx_d_slots, ni_d_slots⟩ := Rd.inv v_d_slots
 have V_u_d_slots : NRd inSlot (V H w []) w d.slots := NRd.start u_d_slots (fun _ _ => fps_nil _)
 refine calls_enter 7 Try.func12 rfl Try.ntmps12 (Nat.le_of_ble_eq_true rfl) (fun _ F0i => ?_)
 have F0 : Fr 7 [(0, .agg #[.slice d_slots_a d_slots_n d_slots_c, .string d.journal.text, .int .i64 d.journal.sure])] _ := F0i
 clear F0i
 refine wp_seq (wp_region_lit (l_op (f_box F0 (At.nil w) rfl rfl rfl (F0.ev 0 rfl) rfl rfl fun b1 _ w1 F2 S1 => ?_)))
 refine l_op (f_val F2 rfl rfl (r_assign rfl rfl) rfl fun _ F3 => ?_)
 have F4 : Fr 7 [(2, .int .i64 0), (1, .pointer (some ⟨b1, 0, none⟩))] _ := F3.cut rfl
 clear F0 F2 F3
 have T5 : Mv _ _ [bx b1 [.slice d_slots_a d_slots_n d_slots_c, .string d.journal.text, .int .i64 d.journal.sure] 32] _ := S1
 refine s_end (x_normal (wp_seq (wp_region_lit (l_op (f_val F4 rfl rfl (r_field FI_32_1 rfl (F4.ev 1 rfl) rfl) rfl fun _ F6 => ?_)))))
 refine l_op (f_val F6 rfl rfl (r_field FI_30_0 rfl (F6.ev 3 rfl) rfl) rfl fun _ F7 => ?_)
 refine l_op (f_val (v := .string d.journal.text) F7 rfl rfl (r_loadB T5.at' 0 TI_9 rfl rfl (F7.ev 4 rfl) rfl rfl (fun _ => rfl) rfl) rfl fun _ F8 => ?_)
 refine l_op (f_val F8 rfl rfl (r_lenS (fun t ht => by cases ht; exact Try.underlying9) rfl rfl (F8.ev 5 rfl)) rfl fun _ F9 => ?_)
 refine l_op (f_as F9 rfl rfl rfl rfl rfl fun _ F10 => ?_)
 have F11 : Fr 7 [(2, .int .i64 ((d.journal.text.size : Nat) : Int))] _ := F10.cut rfl
 clear F4 F6 F7 F8 F9 F10
 refine s_end (x_normal (wp_ret ?_))
 refine x_done (v := .int .i64 ((d.journal.text.size : Nat) : Int)) F11 (results_1 Try.results12 (.tmp (F11.ev 2 rfl))) ?_
 exact ⟨rfl, (Mv.pick T5 [] rfl)⟩
theorem impl_JournalOk_c {w : World} {H : Nat → Prop} {j : JouD} (h_j_text : okS j.text) (h_j_sure : i64ok j.sure) :
    Calls Try.prog 123 #[.agg #[.string j.text, .int .i64 j.sure]] w fun e w' => e = .returned (.bool (jouOk j)) ∧ Mv [] w [] w' := by
 have uU : True := (fun _ _ => trivial) H h_j_sure
 clear uU
 have z1 := h_j_text
 unfold okS at z1
 refine calls_enter 15 Try.func123 rfl Try.ntmps123 (Nat.le_of_ble_eq_true rfl) (fun _ F0i => ?_)
 have F0 : Fr 15 [(0, .agg #[.string j.text, .int .i64 j.sure])] _ := F0i
 clear F0i
 refine wp_seq (wp_region_lit (l_op (f_box F0 (At.nil w) rfl rfl rfl (F0.ev 0 rfl) rfl rfl fun b1 _ w1 F2 S1 => ?_)))
 refine l_op (f_val F2 rfl rfl (r_assign rfl rfl) rfl fun _ F3 => ?_)
 have F4 : Fr 15 [(2, .bool false), (1, .pointer (some ⟨b1, 0, none⟩))] _ := F3.cut rfl
 clear F0 F2 F3
 have T5 : Mv _ _ [bx b1 [.string j.text, .int .i64 j.sure] 30] _ := S1
 refine s_end (x_normal (wp_seq (wp_region_lit (l_op (f_val F4 rfl rfl (r_field FI_30_0 rfl (F4.ev 1 rfl) rfl) rfl fun _ F6 => ?_)))))
 refine l_op (f_val (v := .string j.text) F6 rfl rfl (r_loadB T5.at' 0 TI_9 rfl rfl (F6.ev 3 rfl) rfl rfl (fun _ => rfl) rfl) rfl fun _ F7 => ?_)
 refine l_op (f_val F7 rfl rfl (r_lenS (fun t ht => by cases ht; exact Try.underlying9) rfl rfl (F7.ev 4 rfl)) rfl fun _ F8 => ?_)
 refine l_op (f_val F8 rfl rfl (r_cmp (b := decide (j.text.size ≤ 20000)) (.inr (.inr (.inr (.inl rfl)))) rfl (F8.ev 5 rfl) rfl (dec_of (by omega))) rfl fun _ F9 => ?_)
 refine l_op (f_mv F9 rfl rfl rfl rfl rfl fun _ F10 => ?_)
 rcases Decidable.em (j.text.size ≤ 20000) with h11 | h11
 · rw [decide_eq_true h11] at F10
   refine l_op (f_val F10 (wanted_g F10 rfl rfl rfl rfl) rfl (r_field FI_30_1 rfl (F10.ev 1 rfl) rfl) rfl fun _ F12 => ?_)
   refine l_op (f_val (v := .int .i64 j.sure) F12 (wanted_g F12 rfl rfl rfl rfl) rfl (r_loadB T5.at' 0 TI_3 rfl rfl (F12.ev 8 rfl) rfl rfl (fun _ => rfl) rfl) rfl fun _ F13 => ?_)
   refine l_op (f_val F13 (wanted_g F13 rfl rfl rfl rfl) rfl (r_field FI_30_0 rfl (F13.ev 1 rfl) rfl) rfl fun _ F14 => ?_)
   refine l_op (f_val (v := .string j.text) F14 (wanted_g F14 rfl rfl rfl rfl) rfl (r_loadB T5.at' 0 TI_9 rfl rfl (F14.ev 10 rfl) rfl rfl (fun _ => rfl) rfl) rfl fun _ F15 => ?_)
   refine l_op (f_val F15 (wanted_g F15 rfl rfl rfl rfl) rfl (r_lenS (fun t ht => by cases ht; exact Try.underlying9) rfl rfl (F15.ev 11 rfl)) rfl fun _ F16 => ?_)
   refine l_op (f_call F16 CF_65 (wanted_g F16 rfl rfl rfl rfl) rfl rfl rfl (lc (F16.ev 9 rfl) (lc rfl (lc (F16.ev 12 rfl) rfl))) (impl_within_c (H := fun _ => True) (n := j.sure) (low := 0) (high := ((j.text.size : Nat) : Int)) (by first | assumption | exact ⟨by omega, by omega⟩ | (unfold i64ok at *; omega)) (by first | assumption | exact ⟨by omega, by omega⟩ | (unfold i64ok at *; omega)) (by first | assumption | exact ⟨by omega, by omega⟩ | (unfold i64ok at *; omega))) ?_)
   rintro _ w17 ⟨rfl, m17⟩
   refine ⟨_, rfl, fun _ F18 => ?_⟩
   have S17 := At.frame0 T5.at' m17
   clear m17
   refine l_op (f_val F18 rfl rfl (r_pick (b := true) rfl (F18.ev 7 rfl) (F18.ev 13 rfl)) rfl fun _ F19 => ?_)
   refine l_op (f_as F19 rfl rfl rfl rfl rfl fun _ F20 => ?_)
   have F21 : Fr 15 [(2, .bool (inB j.sure 0 ((j.text.size : Nat) : Int)))] _ := F20.cut rfl
   clear F4 F6 F7 F8 F9 F10 F12 F13 F14 F15 F16 F18 F19 F20
   have T22 : Mv _ _ [bx b1 [.string j.text, .int .i64 j.sure] 30] _ := S17
   refine s_end (x_normal (wp_ret ?_))
   refine x_done (v := .bool (inB j.sure 0 ((j.text.size : Nat) : Int))) F21 (results_1 Try.results123 (.tmp (F21.ev 2 rfl))) ?_
   exact ⟨(by rw [(show (inB j.sure 0 ((j.text.size : Nat) : Int)) = (jouOk j) from by first | exact jo_t (by assumption) | exact jo_f (by assumption))]), (Mv.pick (T5.trans T22) [] rfl)⟩
 · rw [decide_eq_false h11] at F10
   refine l_op (f_skip F10 (wanted_g F10 rfl rfl rfl rfl) rfl rfl fun _ F23 => ?_)
   refine l_op (f_skip F23 (wanted_g F23 rfl rfl rfl rfl) rfl rfl fun _ F24 => ?_)
   refine l_op (f_skip F24 (wanted_g F24 rfl rfl rfl rfl) rfl rfl fun _ F25 => ?_)
   refine l_op (f_skip F25 (wanted_g F25 rfl rfl rfl rfl) rfl rfl fun _ F26 => ?_)
   refine l_op (f_skip F26 (wanted_g F26 rfl rfl rfl rfl) rfl rfl fun _ F27 => ?_)
   refine l_op (f_skip F27 (wanted_g F27 rfl rfl rfl rfl) rfl rfl fun _ F28 => ?_)
   refine l_op (f_val F28 rfl rfl (r_pick (b := false) rfl (F28.ev 7 rfl) rfl) rfl fun _ F29 => ?_)
   refine l_op (f_as F29 rfl rfl rfl rfl rfl fun _ F30 => ?_)
   have F31 : Fr 15 [(2, .bool false)] _ := F30.cut rfl
   clear F4 F6 F7 F8 F9 F10 F23 F24 F25 F26 F27 F28 F29 F30
   refine s_end (x_normal (wp_ret ?_))
   refine x_done (v := .bool false) F31 (results_1 Try.results123 (.tmp (F31.ev 2 rfl))) ?_
   exact ⟨(by rw [(show false = (jouOk j) from by first | exact jo_t (by assumption) | exact jo_f (by assumption))]), (Mv.pick T5 [] rfl)⟩
theorem spec_JournalOk_c {w : World} {H : Nat → Prop} {j : JouD} (h_j_text : okS j.text) (h_j_sure : i64ok j.sure) :
    Calls Try.prog 119 #[.agg #[.string j.text, .int .i64 j.sure]] w fun e w' => e = .returned (.bool (jouOk j)) ∧ Mv [] w [] w' := by
 have uU : True := (fun _ _ => trivial) H h_j_sure
 clear uU
 have z1 := h_j_text
 unfold okS at z1
 refine calls_enter 15 Try.func119 rfl Try.ntmps119 (Nat.le_of_ble_eq_true rfl) (fun _ F0i => ?_)
 have F0 : Fr 15 [(0, .agg #[.string j.text, .int .i64 j.sure])] _ := F0i
 clear F0i
 refine wp_seq (wp_region_lit (l_op (f_box F0 (At.nil w) rfl rfl rfl (F0.ev 0 rfl) rfl rfl fun b1 _ w1 F2 S1 => ?_)))
 refine l_op (f_val F2 rfl rfl (r_assign rfl rfl) rfl fun _ F3 => ?_)
 have F4 : Fr 15 [(2, .bool false), (1, .pointer (some ⟨b1, 0, none⟩))] _ := F3.cut rfl
 clear F0 F2 F3
 have T5 : Mv _ _ [bx b1 [.string j.text, .int .i64 j.sure] 30] _ := S1
 refine s_end (x_normal (wp_seq (wp_region_lit (l_op (f_val F4 rfl rfl (r_field FI_30_0 rfl (F4.ev 1 rfl) rfl) rfl fun _ F6 => ?_)))))
 refine l_op (f_val (v := .string j.text) F6 rfl rfl (r_loadB T5.at' 0 TI_9 rfl rfl (F6.ev 3 rfl) rfl rfl (fun _ => rfl) rfl) rfl fun _ F7 => ?_)
 refine l_op (f_val F7 rfl rfl (r_lenS (fun t ht => by cases ht; exact Try.underlying9) rfl rfl (F7.ev 4 rfl)) rfl fun _ F8 => ?_)
 refine l_op (f_val F8 rfl rfl (r_cmp (b := decide (j.text.size ≤ 20000)) (.inr (.inr (.inr (.inl rfl)))) rfl (F8.ev 5 rfl) rfl (dec_of (by omega))) rfl fun _ F9 => ?_)
 refine l_op (f_mv F9 rfl rfl rfl rfl rfl fun _ F10 => ?_)
 rcases Decidable.em (j.text.size ≤ 20000) with h11 | h11
 · rw [decide_eq_true h11] at F10
   refine l_op (f_val F10 (wanted_g F10 rfl rfl rfl rfl) rfl (r_field FI_30_1 rfl (F10.ev 1 rfl) rfl) rfl fun _ F12 => ?_)
   refine l_op (f_val (v := .int .i64 j.sure) F12 (wanted_g F12 rfl rfl rfl rfl) rfl (r_loadB T5.at' 0 TI_3 rfl rfl (F12.ev 8 rfl) rfl rfl (fun _ => rfl) rfl) rfl fun _ F13 => ?_)
   refine l_op (f_val F13 (wanted_g F13 rfl rfl rfl rfl) rfl (r_field FI_30_0 rfl (F13.ev 1 rfl) rfl) rfl fun _ F14 => ?_)
   refine l_op (f_val (v := .string j.text) F14 (wanted_g F14 rfl rfl rfl rfl) rfl (r_loadB T5.at' 0 TI_9 rfl rfl (F14.ev 10 rfl) rfl rfl (fun _ => rfl) rfl) rfl fun _ F15 => ?_)
   refine l_op (f_val F15 (wanted_g F15 rfl rfl rfl rfl) rfl (r_lenS (fun t ht => by cases ht; exact Try.underlying9) rfl rfl (F15.ev 11 rfl)) rfl fun _ F16 => ?_)
   refine l_op (f_call F16 CF_61 (wanted_g F16 rfl rfl rfl rfl) rfl rfl rfl (lc (F16.ev 9 rfl) (lc rfl (lc (F16.ev 12 rfl) rfl))) (spec_l01In_c (H := fun _ => True) (x := j.sure) (least := 0) (most := ((j.text.size : Nat) : Int)) (by first | assumption | exact ⟨by omega, by omega⟩ | (unfold i64ok at *; omega)) (by first | assumption | exact ⟨by omega, by omega⟩ | (unfold i64ok at *; omega)) (by first | assumption | exact ⟨by omega, by omega⟩ | (unfold i64ok at *; omega))) ?_)
   rintro _ w17 ⟨rfl, m17⟩
   refine ⟨_, rfl, fun _ F18 => ?_⟩
   have S17 := At.frame0 T5.at' m17
   clear m17
   refine l_op (f_val F18 rfl rfl (r_pick (b := true) rfl (F18.ev 7 rfl) (F18.ev 13 rfl)) rfl fun _ F19 => ?_)
   refine l_op (f_as F19 rfl rfl rfl rfl rfl fun _ F20 => ?_)
   have F21 : Fr 15 [(2, .bool (inB j.sure 0 ((j.text.size : Nat) : Int)))] _ := F20.cut rfl
   clear F4 F6 F7 F8 F9 F10 F12 F13 F14 F15 F16 F18 F19 F20
   have T22 : Mv _ _ [bx b1 [.string j.text, .int .i64 j.sure] 30] _ := S17
   refine s_end (x_normal (wp_ret ?_))
   refine x_done (v := .bool (inB j.sure 0 ((j.text.size : Nat) : Int))) F21 (results_1 Try.results119 (.tmp (F21.ev 2 rfl))) ?_
   exact ⟨(by rw [(show (inB j.sure 0 ((j.text.size : Nat) : Int)) = (jouOk j) from by first | exact jo_t (by assumption) | exact jo_f (by assumption))]), (Mv.pick (T5.trans T22) [] rfl)⟩
 · rw [decide_eq_false h11] at F10
   refine l_op (f_skip F10 (wanted_g F10 rfl rfl rfl rfl) rfl rfl fun _ F23 => ?_)
   refine l_op (f_skip F23 (wanted_g F23 rfl rfl rfl rfl) rfl rfl fun _ F24 => ?_)
   refine l_op (f_skip F24 (wanted_g F24 rfl rfl rfl rfl) rfl rfl fun _ F25 => ?_)
   refine l_op (f_skip F25 (wanted_g F25 rfl rfl rfl rfl) rfl rfl fun _ F26 => ?_)
   refine l_op (f_skip F26 (wanted_g F26 rfl rfl rfl rfl) rfl rfl fun _ F27 => ?_)
   refine l_op (f_skip F27 (wanted_g F27 rfl rfl rfl rfl) rfl rfl fun _ F28 => ?_)
   refine l_op (f_val F28 rfl rfl (r_pick (b := false) rfl (F28.ev 7 rfl) rfl) rfl fun _ F29 => ?_)
   refine l_op (f_as F29 rfl rfl rfl rfl rfl fun _ F30 => ?_)
   have F31 : Fr 15 [(2, .bool false)] _ := F30.cut rfl
   clear F4 F6 F7 F8 F9 F10 F23 F24 F25 F26 F27 F28 F29 F30
   refine s_end (x_normal (wp_ret ?_))
   refine x_done (v := .bool false) F31 (results_1 Try.results119 (.tmp (F31.ev 2 rfl))) ?_
   exact ⟨(by rw [(show false = (jouOk j) from by first | exact jo_t (by assumption) | exact jo_f (by assumption))]), (Mv.pick T5 [] rfl)⟩
theorem impl_FitsIn_c {w : World} {H : Nat → Prop} {j : JouD} {n : Int} (h_j_text : okS j.text) (h_j_sure : i64ok j.sure) (h_n : i64ok n) :
    Calls Try.prog 71 #[.agg #[.string j.text, .int .i64 j.sure], .int .i64 n] w fun e w' => e = .returned (.bool (fitsR j n)) ∧ Mv [] w [] w' := by
 have uU : True := (fun _ _ _ => trivial) H h_j_sure h_n
 clear uU
 have z1 := h_j_text
 unfold okS at z1
 refine calls_enter 19 Try.func71 rfl Try.ntmps71 (Nat.le_of_ble_eq_true rfl) (fun _ F0i => ?_)
 have F0 : Fr 19 [(0, .agg #[.string j.text, .int .i64 j.sure]), (1, .int .i64 n)] _ := F0i
 clear F0i
 refine wp_seq (wp_region_lit (l_op (f_box F0 (At.nil w) rfl rfl rfl (F0.ev 0 rfl) rfl rfl fun b1 _ w1 F2 S1 => ?_)))
 refine l_op (f_val F2 rfl rfl (r_assign rfl rfl) rfl fun _ F3 => ?_)
 have F4 : Fr 19 [(4, .bool false), (2, .pointer (some ⟨b1, 0, none⟩)), (1, .int .i64 n)] _ := F3.cut rfl
 clear F0 F2 F3
 have T5 : Mv _ _ [bx b1 [.string j.text, .int .i64 j.sure] 30] _ := S1
 refine s_end (x_normal (wp_seq (wp_region_lit (l_op (f_val (v := .agg #[.string j.text, .int .i64 j.sure]) F4 rfl rfl (r_loadB T5.at' 0 TI_30 rfl rfl (F4.ev 2 rfl) rfl rfl (fun h => nomatch h) rfl) rfl fun _ F6 => ?_)))))
 refine l_op (f_call F6 CF_123 rfl rfl rfl rfl (lc (F6.ev 5 rfl) rfl) (impl_JournalOk_c (H := fun _ => True) (j := j) h_j_text (by first | assumption | exact ⟨by omega, by omega⟩ | (unfold i64ok at *; omega) | (simp only [i64ok]; omega))) ?_)
 rintro _ w7 ⟨rfl, m7⟩
 refine ⟨_, rfl, fun _ F8 => ?_⟩
 have S7 := At.frame0 T5.at' m7
 clear m7
 refine l_op (f_mv F8 rfl rfl rfl rfl rfl fun _ F9 => ?_)
 rcases Bool.eq_false_or_eq_true (jouOk j) with h10 | h10
 · rw [h10] at F9
   refine l_op (f_mv F9 (wanted_g F9 rfl rfl rfl rfl) rfl rfl rfl rfl fun _ F11 => ?_)
   refine l_op (f_val F11 (wanted_g F11 rfl rfl rfl rfl) rfl (r_cmp (b := decide (n ≥ 0)) (.inr (.inr (.inr (.inr (.inr rfl))))) rfl (F11.ev 8 rfl) rfl (dec_of (by omega))) rfl fun _ F12 => ?_)
   refine l_op (f_val F12 rfl rfl (r_pick (b := true) rfl (F12.ev 7 rfl) (F12.ev 9 rfl)) rfl fun _ F13 => ?_)
   refine l_op (f_mv F13 rfl rfl rfl rfl rfl fun _ F14 => ?_)
   rcases Decidable.em (n ≥ 0) with h15 | h15
   · rw [decide_eq_true h15] at F14
     refine l_op (f_mv F14 (wanted_g F14 rfl rfl rfl rfl) rfl rfl rfl rfl fun _ F16 => ?_)
     refine l_op (f_val F16 (wanted_g F16 rfl rfl rfl rfl) rfl (r_field FI_30_0 rfl (F16.ev 2 rfl) rfl) rfl fun _ F17 => ?_)
     refine l_op (f_val (v := .string j.text) F17 (wanted_g F17 rfl rfl rfl rfl) rfl (r_loadB S7.at' 0 TI_9 rfl rfl (F17.ev 13 rfl) rfl rfl (fun _ => rfl) rfl) rfl fun _ F18 => ?_)
     refine l_op (f_val F18 (wanted_g F18 rfl rfl rfl rfl) rfl (r_lenS (fun t ht => by cases ht; exact Try.underlying9) rfl rfl (F18.ev 14 rfl)) rfl fun _ F19 => ?_)
     refine l_op (f_val F19 (wanted_g F19 rfl rfl rfl rfl) rfl (r_sub (z := (20000 - ((j.text.size : Nat) : Int))) rfl rfl (F19.ev 15 rfl) (by first | rfl | omega) ⟨by first | omega | (unfold i64ok at *; omega), by first | omega | (unfold i64ok at *; omega)⟩) rfl fun _ F20 => ?_)
     refine l_op (f_val F20 (wanted_g F20 rfl rfl rfl rfl) rfl (r_cmp (b := decide (n ≤ (20000 - ((j.text.size : Nat) : Int)))) (.inr (.inr (.inr (.inl rfl)))) rfl (F20.ev 12 rfl) (F20.ev 16 rfl) (dec_of (by omega))) rfl fun _ F21 => ?_)
     refine l_op (f_val F21 rfl rfl (r_pick (b := true) rfl (F21.ev 11 rfl) (F21.ev 17 rfl)) rfl fun _ F22 => ?_)
     refine l_op (f_as F22 rfl rfl rfl rfl rfl fun _ F23 => ?_)
     have F24 : Fr 19 [(4, .bool (decide (n ≤ (20000 - ((j.text.size : Nat) : Int)))))] _ := F23.cut rfl
     clear F4 F6 F8 F9 F11 F12 F13 F14 F16 F17 F18 F19 F20 F21 F22 F23
     have T25 : Mv _ _ [bx b1 [.string j.text, .int .i64 j.sure] 30] _ := S7
     refine s_end (x_normal (wp_ret ?_))
     refine x_done (v := .bool (decide (n ≤ (20000 - ((j.text.size : Nat) : Int))))) F24 (results_1 Try.results71 (.tmp (F24.ev 4 rfl))) ?_
     exact ⟨(by rw [(show (decide (n ≤ (20000 - ((j.text.size : Nat) : Int)))) = (fitsR j n) from by first | exact fr_a (by assumption) | exact fr_b (by assumption) (by assumption) | exact fr_c (by assumption) (by assumption))]), (Mv.pick (T5.trans T25) [] rfl)⟩
   · rw [decide_eq_false h15] at F14
     refine l_op (f_skip F14 (wanted_g F14 rfl rfl rfl rfl) rfl rfl fun _ F26 => ?_)
     refine l_op (f_skip F26 (wanted_g F26 rfl rfl rfl rfl) rfl rfl fun _ F27 => ?_)
     refine l_op (f_skip F27 (wanted_g F27 rfl rfl rfl rfl) rfl rfl fun _ F28 => ?_)
     refine l_op (f_skip F28 (wanted_g F28 rfl rfl rfl rfl) rfl rfl fun _ F29 => ?_)
     refine l_op (f_skip F29 (wanted_g F29 rfl rfl rfl rfl) rfl rfl fun _ F30 => ?_)
     refine l_op (f_skip F30 (wanted_g F30 rfl rfl rfl rfl) rfl rfl fun _ F31 => ?_)
     refine l_op (f_val F31 rfl rfl (r_pick (b := false) rfl (F31.ev 11 rfl) rfl) rfl fun _ F32 => ?_)
     refine l_op (f_as F32 rfl rfl rfl rfl rfl fun _ F33 => ?_)
     have F34 : Fr 19 [(4, .bool false)] _ := F33.cut rfl
     clear F4 F6 F8 F9 F11 F12 F13 F14 F26 F27 F28 F29 F30 F31 F32 F33
     have T35 : Mv _ _ [bx b1 [.string j.text, .int .i64 j.sure] 30] _ := S7
     refine s_end (x_normal (wp_ret ?_))
     refine x_done (v := .bool false) F34 (results_1 Try.results71 (.tmp (F34.ev 4 rfl))) ?_
     exact ⟨(by rw [(show false = (fitsR j n) from by first | exact fr_a (by assumption) | exact fr_b (by assumption) (by assumption) | exact fr_c (by assumption) (by assumption))]), (Mv.pick (T5.trans T35) [] rfl)⟩
 · rw [h10] at F9
   refine l_op (f_skip F9 (wanted_g F9 rfl rfl rfl rfl) rfl rfl fun _ F36 => ?_)
   refine l_op (f_skip F36 (wanted_g F36 rfl rfl rfl rfl) rfl rfl fun _ F37 => ?_)
   refine l_op (f_val F37 rfl rfl (r_pick (b := false) rfl (F37.ev 7 rfl) rfl) rfl fun _ F38 => ?_)
   refine l_op (f_mv F38 rfl rfl rfl rfl rfl fun _ F39 => ?_)
   refine l_op (f_skip F39 (wanted_g F39 rfl rfl rfl rfl) rfl rfl fun _ F40 => ?_)
   refine l_op (f_skip F40 (wanted_g F40 rfl rfl rfl rfl) rfl rfl fun _ F41 => ?_)
   refine l_op (f_skip F41 (wanted_g F41 rfl rfl rfl rfl) rfl rfl fun _ F42 => ?_)
   refine l_op (f_skip F42 (wanted_g F42 rfl rfl rfl rfl) rfl rfl fun _ F43 => ?_)
   refine l_op (f_skip F43 (wanted_g F43 rfl rfl rfl rfl) rfl rfl fun _ F44 => ?_)
   refine l_op (f_skip F44 (wanted_g F44 rfl rfl rfl rfl) rfl rfl fun _ F45 => ?_)
   refine l_op (f_val F45 rfl rfl (r_pick (b := false) rfl (F45.ev 11 rfl) rfl) rfl fun _ F46 => ?_)
   refine l_op (f_as F46 rfl rfl rfl rfl rfl fun _ F47 => ?_)
   have F48 : Fr 19 [(4, .bool false)] _ := F47.cut rfl
   clear F4 F6 F8 F9 F36 F37 F38 F39 F40 F41 F42 F43 F44 F45 F46 F47
   have T49 : Mv _ _ [bx b1 [.string j.text, .int .i64 j.sure] 30] _ := S7
   refine s_end (x_normal (wp_ret ?_))
   refine x_done (v := .bool false) F48 (results_1 Try.results71 (.tmp (F48.ev 4 rfl))) ?_
   exact ⟨(by rw [(show false = (fitsR j n) from by first | exact fr_a (by assumption) | exact fr_b (by assumption) (by assumption) | exact fr_c (by assumption) (by assumption))]), (Mv.pick (T5.trans T49) [] rfl)⟩
theorem spec_FitsIn_c {w : World} {H : Nat → Prop} {j : JouD} {n : Int} (h_j_text : okS j.text) (h_j_sure : i64ok j.sure) (h_n : i64ok n) :
    Calls Try.prog 69 #[.agg #[.string j.text, .int .i64 j.sure], .int .i64 n] w fun e w' => e = .returned (.bool (fitsR j n)) ∧ Mv [] w [] w' := by
 have uU : True := (fun _ _ _ => trivial) H h_j_sure h_n
 clear uU
 have z1 := h_j_text
 unfold okS at z1
 refine calls_enter 19 Try.func69 rfl Try.ntmps69 (Nat.le_of_ble_eq_true rfl) (fun _ F0i => ?_)
 have F0 : Fr 19 [(0, .agg #[.string j.text, .int .i64 j.sure]), (1, .int .i64 n)] _ := F0i
 clear F0i
 refine wp_seq (wp_region_lit (l_op (f_box F0 (At.nil w) rfl rfl rfl (F0.ev 0 rfl) rfl rfl fun b1 _ w1 F2 S1 => ?_)))
 refine l_op (f_val F2 rfl rfl (r_assign rfl rfl) rfl fun _ F3 => ?_)
 have F4 : Fr 19 [(4, .bool false), (2, .pointer (some ⟨b1, 0, none⟩)), (1, .int .i64 n)] _ := F3.cut rfl
 clear F0 F2 F3
 have T5 : Mv _ _ [bx b1 [.string j.text, .int .i64 j.sure] 30] _ := S1
 refine s_end (x_normal (wp_seq (wp_region_lit (l_op (f_val (v := .agg #[.string j.text, .int .i64 j.sure]) F4 rfl rfl (r_loadB T5.at' 0 TI_30 rfl rfl (F4.ev 2 rfl) rfl rfl (fun h => nomatch h) rfl) rfl fun _ F6 => ?_)))))
 refine l_op (f_call F6 CF_119 rfl rfl rfl rfl (lc (F6.ev 5 rfl) rfl) (spec_JournalOk_c (H := fun _ => True) (j := j) h_j_text (by first | assumption | exact ⟨by omega, by omega⟩ | (unfold i64ok at *; omega) | (simp only [i64ok]; omega))) ?_)
 rintro _ w7 ⟨rfl, m7⟩
 refine ⟨_, rfl, fun _ F8 => ?_⟩
 have S7 := At.frame0 T5.at' m7
 clear m7
 refine l_op (f_mv F8 rfl rfl rfl rfl rfl fun _ F9 => ?_)
 rcases Bool.eq_false_or_eq_true (jouOk j) with h10 | h10
 · rw [h10] at F9
   refine l_op (f_mv F9 (wanted_g F9 rfl rfl rfl rfl) rfl rfl rfl rfl fun _ F11 => ?_)
   refine l_op (f_val F11 (wanted_g F11 rfl rfl rfl rfl) rfl (r_cmp (b := decide (n ≥ 0)) (.inr (.inr (.inr (.inr (.inr rfl))))) rfl (F11.ev 8 rfl) rfl (dec_of (by omega))) rfl fun _ F12 => ?_)
   refine l_op (f_val F12 rfl rfl (r_pick (b := true) rfl (F12.ev 7 rfl) (F12.ev 9 rfl)) rfl fun _ F13 => ?_)
   refine l_op (f_mv F13 rfl rfl rfl rfl rfl fun _ F14 => ?_)
   rcases Decidable.em (n ≥ 0) with h15 | h15
   · rw [decide_eq_true h15] at F14
     refine l_op (f_mv F14 (wanted_g F14 rfl rfl rfl rfl) rfl rfl rfl rfl fun _ F16 => ?_)
     refine l_op (f_val F16 (wanted_g F16 rfl rfl rfl rfl) rfl (r_field FI_30_0 rfl (F16.ev 2 rfl) rfl) rfl fun _ F17 => ?_)
     refine l_op (f_val (v := .string j.text) F17 (wanted_g F17 rfl rfl rfl rfl) rfl (r_loadB S7.at' 0 TI_9 rfl rfl (F17.ev 13 rfl) rfl rfl (fun _ => rfl) rfl) rfl fun _ F18 => ?_)
     refine l_op (f_val F18 (wanted_g F18 rfl rfl rfl rfl) rfl (r_lenS (fun t ht => by cases ht; exact Try.underlying9) rfl rfl (F18.ev 14 rfl)) rfl fun _ F19 => ?_)
     refine l_op (f_val F19 (wanted_g F19 rfl rfl rfl rfl) rfl (r_sub (z := (20000 - ((j.text.size : Nat) : Int))) rfl rfl (F19.ev 15 rfl) (by first | rfl | omega) ⟨by first | omega | (unfold i64ok at *; omega), by first | omega | (unfold i64ok at *; omega)⟩) rfl fun _ F20 => ?_)
     refine l_op (f_val F20 (wanted_g F20 rfl rfl rfl rfl) rfl (r_cmp (b := decide (n ≤ (20000 - ((j.text.size : Nat) : Int)))) (.inr (.inr (.inr (.inl rfl)))) rfl (F20.ev 12 rfl) (F20.ev 16 rfl) (dec_of (by omega))) rfl fun _ F21 => ?_)
     refine l_op (f_val F21 rfl rfl (r_pick (b := true) rfl (F21.ev 11 rfl) (F21.ev 17 rfl)) rfl fun _ F22 => ?_)
     refine l_op (f_as F22 rfl rfl rfl rfl rfl fun _ F23 => ?_)
     have F24 : Fr 19 [(4, .bool (decide (n ≤ (20000 - ((j.text.size : Nat) : Int)))))] _ := F23.cut rfl
     clear F4 F6 F8 F9 F11 F12 F13 F14 F16 F17 F18 F19 F20 F21 F22 F23
     have T25 : Mv _ _ [bx b1 [.string j.text, .int .i64 j.sure] 30] _ := S7
     refine s_end (x_normal (wp_ret ?_))
     refine x_done (v := .bool (decide (n ≤ (20000 - ((j.text.size : Nat) : Int))))) F24 (results_1 Try.results69 (.tmp (F24.ev 4 rfl))) ?_
     exact ⟨(by rw [(show (decide (n ≤ (20000 - ((j.text.size : Nat) : Int)))) = (fitsR j n) from by first | exact fr_a (by assumption) | exact fr_b (by assumption) (by assumption) | exact fr_c (by assumption) (by assumption))]), (Mv.pick (T5.trans T25) [] rfl)⟩
   · rw [decide_eq_false h15] at F14
     refine l_op (f_skip F14 (wanted_g F14 rfl rfl rfl rfl) rfl rfl fun _ F26 => ?_)
     refine l_op (f_skip F26 (wanted_g F26 rfl rfl rfl rfl) rfl rfl fun _ F27 => ?_)
     refine l_op (f_skip F27 (wanted_g F27 rfl rfl rfl rfl) rfl rfl fun _ F28 => ?_)
     refine l_op (f_skip F28 (wanted_g F28 rfl rfl rfl rfl) rfl rfl fun _ F29 => ?_)
     refine l_op (f_skip F29 (wanted_g F29 rfl rfl rfl rfl) rfl rfl fun _ F30 => ?_)
     refine l_op (f_skip F30 (wanted_g F30 rfl rfl rfl rfl) rfl rfl fun _ F31 => ?_)
     refine l_op (f_val F31 rfl rfl (r_pick (b := false) rfl (F31.ev 11 rfl) rfl) rfl fun _ F32 => ?_)
     refine l_op (f_as F32 rfl rfl rfl rfl rfl fun _ F33 => ?_)
     have F34 : Fr 19 [(4, .bool false)] _ := F33.cut rfl
     clear F4 F6 F8 F9 F11 F12 F13 F14 F26 F27 F28 F29 F30 F31 F32 F33
     have T35 : Mv _ _ [bx b1 [.string j.text, .int .i64 j.sure] 30] _ := S7
     refine s_end (x_normal (wp_ret ?_))
     refine x_done (v := .bool false) F34 (results_1 Try.results69 (.tmp (F34.ev 4 rfl))) ?_
     exact ⟨(by rw [(show false = (fitsR j n) from by first | exact fr_a (by assumption) | exact fr_b (by assumption) (by assumption) | exact fr_c (by assumption) (by assumption))]), (Mv.pick (T5.trans T35) [] rfl)⟩
 · rw [h10] at F9
   refine l_op (f_skip F9 (wanted_g F9 rfl rfl rfl rfl) rfl rfl fun _ F36 => ?_)
   refine l_op (f_skip F36 (wanted_g F36 rfl rfl rfl rfl) rfl rfl fun _ F37 => ?_)
   refine l_op (f_val F37 rfl rfl (r_pick (b := false) rfl (F37.ev 7 rfl) rfl) rfl fun _ F38 => ?_)
   refine l_op (f_mv F38 rfl rfl rfl rfl rfl fun _ F39 => ?_)
   refine l_op (f_skip F39 (wanted_g F39 rfl rfl rfl rfl) rfl rfl fun _ F40 => ?_)
   refine l_op (f_skip F40 (wanted_g F40 rfl rfl rfl rfl) rfl rfl fun _ F41 => ?_)
   refine l_op (f_skip F41 (wanted_g F41 rfl rfl rfl rfl) rfl rfl fun _ F42 => ?_)
   refine l_op (f_skip F42 (wanted_g F42 rfl rfl rfl rfl) rfl rfl fun _ F43 => ?_)
   refine l_op (f_skip F43 (wanted_g F43 rfl rfl rfl rfl) rfl rfl fun _ F44 => ?_)
   refine l_op (f_skip F44 (wanted_g F44 rfl rfl rfl rfl) rfl rfl fun _ F45 => ?_)
   refine l_op (f_val F45 rfl rfl (r_pick (b := false) rfl (F45.ev 11 rfl) rfl) rfl fun _ F46 => ?_)
   refine l_op (f_as F46 rfl rfl rfl rfl rfl fun _ F47 => ?_)
   have F48 : Fr 19 [(4, .bool false)] _ := F47.cut rfl
   clear F4 F6 F8 F9 F36 F37 F38 F39 F40 F41 F42 F43 F44 F45 F46 F47
   have T49 : Mv _ _ [bx b1 [.string j.text, .int .i64 j.sure] 30] _ := S7
   refine s_end (x_normal (wp_ret ?_))
   refine x_done (v := .bool false) F48 (results_1 Try.results69 (.tmp (F48.ev 4 rfl))) ?_
   exact ⟨(by rw [(show false = (fitsR j n) from by first | exact fr_a (by assumption) | exact fr_b (by assumption) (by assumption) | exact fr_c (by assumption) (by assumption))]), (Mv.pick (T5.trans T49) [] rfl)⟩
theorem impl_LiveIn_1_c {w : World} {H : Nat → Prop} {x : TxD} {x_calls_a : Option Addr} {x_calls_n x_calls_c : Nat} {x_answers_a : Option Addr} {x_answers_n x_answers_c : Nat} {x_touch_reads_a : Option Addr} {x_touch_reads_n x_touch_reads_c : Nat} {x_touch_writes_a : Option Addr} {x_touch_writes_n x_touch_writes_c : Nat} {x_marks_a : Option Addr} {x_marks_n x_marks_c : Nat} (h_x_id : i64ok x.id) (h_x_age : i64ok x.age) (h_x_proc : i64ok x.proc) (h_x_began : i64ok x.began) (v_x_calls : Rd 6 encK okK H w (.slice x_calls_a x_calls_n x_calls_c) x.calls) (v_x_answers : Rd 3 encR okR H w (.slice x_answers_a x_answers_n x_answers_c) x.answers) (v_x_touch_reads : Rd 1 encS okS H w (.slice x_touch_reads_a x_touch_reads_n x_touch_reads_c) x.touch.reads) (v_x_touch_writes : Rd 1 encS okS H w (.slice x_touch_writes_a x_touch_writes_n x_touch_writes_c) x.touch.writes) (v_x_marks : Rd 1 encI okI H w (.slice x_marks_a x_marks_n x_marks_c) x.marks) (h_x_state : i64ok x.state) :
    Calls Try.prog 117 #[.agg #[.int .i64 x.id, .int .i64 x.age, .int .i64 x.proc, .int .i64 x.began, .slice x_calls_a x_calls_n x_calls_c, .slice x_answers_a x_answers_n x_answers_c, .slice x_touch_reads_a x_touch_reads_n x_touch_reads_c, .slice x_touch_writes_a x_touch_writes_n x_touch_writes_c, .slice x_marks_a x_marks_n x_marks_c, .int .i64 x.state]] w fun e w' => e = .returned (.bool (decide (x.state = 1))) ∧ Mv [] w [] w' := by
 have uU : True := (fun _ _ _ _ _ => trivial) h_x_id h_x_age h_x_proc h_x_began h_x_state
 clear uU
 have V_v_x_calls : Rd 6 encK okK (V H w []) w (.slice x_calls_a x_calls_n x_calls_c) x.calls := Rd.start v_x_calls (fun _ _ => fps_nil _)
 obtain ⟨ln_x_calls, le_x_calls, mx_x_calls, ni_x_calls⟩ := Rd.inv v_x_calls
 have V_v_x_answers : Rd 3 encR okR (V H w []) w (.slice x_answers_a x_answers_n x_answers_c) x.answers := Rd.start v_x_answers (fun _ _ => fps_nil _)
 obtain ⟨ln_x_answers, le_x_answers, mx_x_answers, ni_x_answers⟩ := Rd.inv v_x_answers
 have V_v_x_touch_reads : Rd 1 encS okS (V H w []) w (.slice x_touch_reads_a x_touch_reads_n x_touch_reads_c) x.touch.reads := Rd.start v_x_touch_reads (fun _ _ => fps_nil _)
 obtain ⟨ln_x_touch_reads, le_x_touch_reads, mx_x_touch_reads, ni_x_touch_reads⟩ := Rd.inv v_x_touch_reads
 have V_v_x_touch_writes : Rd 1 encS okS (V H w []) w (.slice x_touch_writes_a x_touch_writes_n x_touch_writes_c) x.touch.writes := Rd.start v_x_touch_writes (fun _ _ => fps_nil _)
 obtain ⟨ln_x_touch_writes, le_x_touch_writes, mx_x_touch_writes, ni_x_touch_writes⟩ := Rd.inv v_x_touch_writes
 have V_v_x_marks : Rd 1 encI okI (V H w []) w (.slice x_marks_a x_marks_n x_marks_c) x.marks := Rd.start v_x_marks (fun _ _ => fps_nil _)
 obtain ⟨ln_x_marks, le_x_marks, mx_x_marks, ni_x_marks⟩ := Rd.inv v_x_marks
 refine calls_enter 6 Try.func117 rfl Try.ntmps117 (Nat.le_of_ble_eq_true rfl) (fun _ F0i => ?_)
 have F0 : Fr 6 [(0, .agg #[.int .i64 x.id, .int .i64 x.age, .int .i64 x.proc, .int .i64 x.began, .slice x_calls_a x_calls_n x_calls_c, .slice x_answers_a x_answers_n x_answers_c, .slice x_touch_reads_a x_touch_reads_n x_touch_reads_c, .slice x_touch_writes_a x_touch_writes_n x_touch_writes_c, .slice x_marks_a x_marks_n x_marks_c, .int .i64 x.state])] _ := F0i
 clear F0i
 refine wp_seq (wp_region_lit (l_op (f_box F0 (At.nil w) rfl rfl rfl (F0.ev 0 rfl) rfl rfl fun b1 _ w1 F2 S1 => ?_)))
 refine l_op (f_val F2 rfl rfl (r_assign rfl rfl) rfl fun _ F3 => ?_)
 have F4 : Fr 6 [(2, .bool false), (1, .pointer (some ⟨b1, 0, none⟩))] _ := F3.cut rfl
 clear F0 F2 F3
 have T5 : Mv _ _ [bx b1 [.int .i64 x.id, .int .i64 x.age, .int .i64 x.proc, .int .i64 x.began, .slice x_calls_a x_calls_n x_calls_c, .slice x_answers_a x_answers_n x_answers_c, .slice x_touch_reads_a x_touch_reads_n x_touch_reads_c, .slice x_touch_writes_a x_touch_writes_n x_touch_writes_c, .slice x_marks_a x_marks_n x_marks_c, .int .i64 x.state] 71] _ := S1
 refine s_end (x_normal (wp_seq (wp_region_lit (l_op (f_val F4 rfl rfl (r_field FI_71_8 rfl (F4.ev 1 rfl) rfl) rfl fun _ F6 => ?_)))))
 refine l_op (f_val (v := .int .i64 x.state) F6 rfl rfl (r_loadB T5.at' 0 TI_3 rfl rfl (F6.ev 3 rfl) rfl rfl (fun _ => rfl) rfl) rfl fun _ F7 => ?_)
 refine l_op (f_val F7 rfl rfl (r_cmp (b := decide (x.state = 1)) (.inl rfl) rfl (F7.ev 4 rfl) rfl (dec_of (by omega))) rfl fun _ F8 => ?_)
 refine l_op (f_as F8 rfl rfl rfl rfl rfl fun _ F9 => ?_)
 have F10 : Fr 6 [(2, .bool (decide (x.state = 1)))] _ := F9.cut rfl
 clear F4 F6 F7 F8 F9
 refine s_end (x_normal (wp_ret ?_))
 refine x_done (v := .bool (decide (x.state = 1))) F10 (results_1 Try.results117 (.tmp (F10.ev 2 rfl))) ?_
 exact ⟨rfl, (Mv.pick T5 [] rfl)⟩
theorem impl_idsIn_impl_LiveIn_1_c {w : World} {H : Nat → Prop} {list : List TxH} {list_a : Option Addr} {list_n list_c : Nat} (v_list : Rd 10 encTx okTx H w (.slice list_a list_n list_c) list) (u_list : NRd inTx H w list) (p0 : list_n ≤ 1048576) :
    Calls Try.prog 116 #[.slice list_a list_n list_c, .func (.func 117) #[] #[]] w fun e w' => ∃ (r0_a : Option Addr), ∃ (r0_n : Nat), ∃ (r0_c : Nat), e = .returned (.slice r0_a r0_n r0_c) ∧ Mv [] w [ow 3 1 encI okI (.slice r0_a r0_n r0_c) (liveL (list.map TxH.d))] w' := by
 have uU : True := (fun _ => trivial) p0
 clear uU
 have V_v_list : Rd 10 encTx okTx (V H w []) w (.slice list_a list_n list_c) list := Rd.start v_list (fun _ _ => fps_nil _)
 obtain ⟨ln_list, le_list, mx_list, ni_list⟩ := Rd.inv v_list
 have V_u_list : NRd inTx (V H w []) w list := NRd.start u_list (fun _ _ => fps_nil _)
 refine calls_enter 24 Try.func116 rfl Try.ntmps116 (Nat.le_of_ble_eq_true rfl) (fun _ F0i => ?_)
 have F0 : Fr 24 [(0, .slice list_a list_n list_c), (1, .func (.func 117) #[] #[])] _ := F0i
 clear F0i
 refine wp_seq (wp_region_lit (l_op (f_val F0 rfl rfl (r_assign rfl rfl) rfl fun _ F1 => ?_)))
 have F2 : Fr 24 [(4, .slice none 0 0), (0, .slice list_a list_n list_c), (1, .func (.func 117) #[] #[])] _ := F1.cut rfl
 clear F0 F1
 refine s_end (x_normal (wp_seq (wp_region_lit (l_op (f_val F2 rfl rfl (r_assign rfl rfl) rfl fun _ F3 => ?_)))))
 have F4 : Fr 24 [(5, .slice none 0 0), (0, .slice list_a list_n list_c), (1, .func (.func 117) #[] #[])] _ := F3.cut rfl
 clear F2 F3
 refine s_end (x_normal (wp_seq (wp_seq (wp_region_lit (l_op (f_mv F4 rfl rfl rfl rfl rfl fun _ F5 => ?_))))))
 refine l_op (f_val F5 rfl rfl (r_len Try.underlying39 rfl (F5.ev 8 rfl)) rfl fun _ F6 => ?_)
 refine l_op (f_val F6 rfl rfl (r_move rfl rfl) rfl fun _ F7 => ?_)
 have F8 : Fr 24 [(10, .int .i64 0), (9, .int .i64 ((list_n : Nat) : Int)), (8, .slice list_a list_n list_c), (5, .slice none 0 0), (1, .func (.func 117) #[] #[])] _ := F7.cut rfl
 clear F4 F5 F6 F7
 refine s_end (x_normal (wp_block ?_))
 have S10 : Mv [] w [ow 3 1 encI okI (.slice none 0 0) ([] : List Int)] w := mv_nil (At.nil w)
 refine x_loop (fun (k : Nat) aZ wZ => ∃ (D : List Int), ∃ (oa : Option Addr), ∃ (on : Nat), ∃ (oc : Nat), Fr 24 [(10, .int .i64 ((k : Nat) : Int)), (9, .int .i64 ((list_n : Nat) : Int)), (8, .slice list_a list_n list_c), (5, .slice oa on oc), (1, .func (.func 117) #[] #[])] aZ ∧ Mv [ow 3 1 encI okI (.slice none 0 0) ([] : List Int)] w [ow 3 1 encI okI (.slice oa on oc) D] wZ ∧ (k ≤ list_n) ∧ (D = liveL ((list.take k).map TxH.d)) ∧ (on = D.length)) (fun (k : Nat) => list_n - k) (0) ?_ ?_
 · exact ⟨([] : List Int), none, 0, 0, F8.cut rfl, (Mv.refl S10.at'), by omega, rfl, rfl⟩
 · rintro k a9 w9 ⟨D, oa, on, oc, F9, S9, hk_0, hk_1, hk_2⟩
   have hll := liveM_take list k
   rw [← hk_1] at hll
   refine wp_seq (wp_region_lit (l_op (f_val F9 rfl rfl (r_cmp (b := decide (k < list_n)) (.inr (.inr (.inl rfl))) rfl (F9.ev 10 rfl) (F9.ev 9 rfl) (dec_of (by omega))) rfl fun _ F11 => ?_)))
   have F12 : Fr 24 [(11, .bool (decide (k < list_n))), (10, .int .i64 ((k : Nat) : Int)), (9, .int .i64 ((list_n : Nat) : Int)), (8, .slice list_a list_n list_c), (5, .slice oa on oc), (1, .func (.func 117) #[] #[])] _ := F11.cut rfl
   clear F9 F11
   refine s_end (x_normal (wp_seq (x_cond (p := k < list_n) (F12.ev 11 rfl) (fun h13 => ?_) (fun h13 => ?_))))
   · skip
     refine wp_skip (x_normal (wp_seq (wp_block (wp_seq (wp_region_lit ?_)))))
     obtain ⟨B14, O14, x1, ad14, hx1, okx1, ln14, cl14⟩ := Rd.at (Rd.mv (Nat.succ_pos _) V_v_list (S10.trans S9)) k (by first | assumption | omega)
     clear ln14
     have oj15 := okx1
     obtain ⟨oi15_0, oi15_1, oi15_2, oi15_3, oi15_4⟩ := oj15
     have VI16 : Rd 6 encK okK (V H w [ow 3 1 encI okI (.slice oa on oc) D]) w9 (.slice x1.a0 x1.n0 x1.c0) x1.d.calls := NRd.get (NRd.mv V_u_list (S10.trans S9)) hx1 (j := 0) rfl
     obtain ⟨ln16, le16, mx16, ni16⟩ := Rd.inv VI16
     have VI17 : Rd 3 encR okR (V H w [ow 3 1 encI okI (.slice oa on oc) D]) w9 (.slice x1.a1 x1.n1 x1.c1) x1.d.answers := NRd.get (NRd.mv V_u_list (S10.trans S9)) hx1 (j := 1) rfl
     obtain ⟨ln17, le17, mx17, ni17⟩ := Rd.inv VI17
     have VI18 : Rd 1 encS okS (V H w [ow 3 1 encI okI (.slice oa on oc) D]) w9 (.slice x1.a2 x1.n2 x1.c2) x1.d.touch.reads := NRd.get (NRd.mv V_u_list (S10.trans S9)) hx1 (j := 2) rfl
     obtain ⟨ln18, le18, mx18, ni18⟩ := Rd.inv VI18
     have VI19 : Rd 1 encS okS (V H w [ow 3 1 encI okI (.slice oa on oc) D]) w9 (.slice x1.a3 x1.n3 x1.c3) x1.d.touch.writes := NRd.get (NRd.mv V_u_list (S10.trans S9)) hx1 (j := 3) rfl
     obtain ⟨ln19, le19, mx19, ni19⟩ := Rd.inv VI19
     have VI20 : Rd 1 encI okI (V H w [ow 3 1 encI okI (.slice oa on oc) D]) w9 (.slice x1.a4 x1.n4 x1.c4) x1.d.marks := NRd.get (NRd.mv V_u_list (S10.trans S9)) hx1 (j := 4) rfl
     obtain ⟨ln20, le20, mx20, ni20⟩ := Rd.inv VI20
     refine l_op (f_val F12 rfl rfl (r_indexAddr (i := k) ET_39 rfl ((F12.ev 8 rfl).trans (by rw [ad14])) (F12.ev 10 rfl) (by omega) (by first | assumption | omega)) rfl fun _ F21 => ?_)
     refine l_op (f_val (v := .agg #[.int .i64 x1.d.id, .int .i64 x1.d.age, .int .i64 x1.d.proc, .int .i64 x1.d.began, .slice x1.a0 x1.n0 x1.c0, .slice x1.a1 x1.n1 x1.c1, .slice x1.a2 x1.n2 x1.c2, .slice x1.a3 x1.n3 x1.c3, .slice x1.a4 x1.n4 x1.c4, .int .i64 x1.d.state]) F21 rfl rfl (r_load (cs := [.int .i64 x1.d.id, .int .i64 x1.d.age, .int .i64 x1.d.proc, .int .i64 x1.d.began, .slice x1.a0 x1.n0 x1.c0, .slice x1.a1 x1.n1 x1.c1, .slice x1.a2 x1.n2 x1.c2, .slice x1.a3 x1.n3 x1.c3, .slice x1.a4 x1.n4 x1.c4, .int .i64 x1.d.state]) TI_71 rfl (F21.ev 12 rfl) rfl (fun h => nomatch h) (elem_sub (f := 0) cl14 [.int .i64 x1.d.id, .int .i64 x1.d.age, .int .i64 x1.d.proc, .int .i64 x1.d.began, .slice x1.a0 x1.n0 x1.c0, .slice x1.a1 x1.n1 x1.c1, .slice x1.a2 x1.n2 x1.c2, .slice x1.a3 x1.n3 x1.c3, .slice x1.a4 x1.n4 x1.c4, .int .i64 x1.d.state] rfl)) rfl fun _ F22 => ?_)
     refine l_op (f_alloc F22 S9.at' ZI_71 rfl rfl rfl rfl rfl fun b23 _ w23 F24 S23 => ?_)
     refine l_op (s_store S23.at' 0 TI_71 rfl rfl rfl rfl rfl (F24.ev 7 rfl) (F24.ev 13 rfl) rfl rfl rfl rfl rfl fun w25 S25 => ?_)
     have F26 : Fr 24 [(7, .pointer (some ⟨b23, 0, none⟩)), (13, .agg #[.int .i64 x1.d.id, .int .i64 x1.d.age, .int .i64 x1.d.proc, .int .i64 x1.d.began, .slice x1.a0 x1.n0 x1.c0, .slice x1.a1 x1.n1 x1.c1, .slice x1.a2 x1.n2 x1.c2, .slice x1.a3 x1.n3 x1.c3, .slice x1.a4 x1.n4 x1.c4, .int .i64 x1.d.state]), (10, .int .i64 ((k : Nat) : Int)), (9, .int .i64 ((list_n : Nat) : Int)), (8, .slice list_a list_n list_c), (5, .slice oa on oc), (1, .func (.func 117) #[] #[])] _ := F24.cut rfl
     clear F12 F21 F22 F24
     have T27 : Mv _ _ [bx b23 [.int .i64 x1.d.id, .int .i64 x1.d.age, .int .i64 x1.d.proc, .int .i64 x1.d.began, .slice x1.a0 x1.n0 x1.c0, .slice x1.a1 x1.n1 x1.c1, .slice x1.a2 x1.n2 x1.c2, .slice x1.a3 x1.n3 x1.c3, .slice x1.a4 x1.n4 x1.c4, .int .i64 x1.d.state] 71, ow 3 1 encI okI (.slice oa on oc) D] _ := S25
     refine s_end (x_normal (wp_seq (wp_region_lit (l_op (f_mv F26 rfl rfl rfl rfl rfl fun _ F28 => ?_)))))
     refine l_op (f_val (v := .agg #[.int .i64 x1.d.id, .int .i64 x1.d.age, .int .i64 x1.d.proc, .int .i64 x1.d.began, .slice x1.a0 x1.n0 x1.c0, .slice x1.a1 x1.n1 x1.c1, .slice x1.a2 x1.n2 x1.c2, .slice x1.a3 x1.n3 x1.c3, .slice x1.a4 x1.n4 x1.c4, .int .i64 x1.d.state]) F28 rfl rfl (r_loadB T27.at' 0 TI_71 rfl rfl (F28.ev 7 rfl) rfl rfl (fun h => nomatch h) rfl) rfl fun _ F29 => ?_)
     refine l_op (f_callv F29 CF_117 rfl rfl rfl rfl (F29.ev 14 rfl) (lc (F29.ev 15 rfl) rfl) (impl_LiveIn_1_c (x := x1.d) okx1.1 okx1.2.1 okx1.2.2.1 okx1.2.2.2.1 (Rd.mv (Nat.succ_pos _) VI16 (S23.trans T27)) (Rd.mv (Nat.succ_pos _) VI17 (S23.trans T27)) (Rd.mv (Nat.succ_pos _) VI18 (S23.trans T27)) (Rd.mv (Nat.succ_pos _) VI19 (S23.trans T27)) (Rd.mv (Nat.succ_pos _) VI20 (S23.trans T27)) okx1.2.2.2.2) ?_)
     rintro _ w30 ⟨rfl, m30⟩
     refine ⟨_, rfl, fun _ F31 => ?_⟩
     have S30 := At.frame0 T27.at' m30
     clear m30
     have F32 : Fr 24 [(16, .bool (decide (x1.d.state = 1))), (7, .pointer (some ⟨b23, 0, none⟩)), (10, .int .i64 ((k : Nat) : Int)), (9, .int .i64 ((list_n : Nat) : Int)), (8, .slice list_a list_n list_c), (5, .slice oa on oc), (1, .func (.func 117) #[] #[])] _ := F31.cut rfl
     clear F26 F28 F29 F31
     have T33 : Mv _ _ [bx b23 [.int .i64 x1.d.id, .int .i64 x1.d.age, .int .i64 x1.d.proc, .int .i64 x1.d.began, .slice x1.a0 x1.n0 x1.c0, .slice x1.a1 x1.n1 x1.c1, .slice x1.a2 x1.n2 x1.c2, .slice x1.a3 x1.n3 x1.c3, .slice x1.a4 x1.n4 x1.c4, .int .i64 x1.d.state] 71, ow 3 1 encI okI (.slice oa on oc) D] _ := S30
     refine s_end (x_normal (x_condb (b := (decide (x1.d.state = 1))) (F32.ev 16 rfl) (fun h34 => ?_) (fun h34 => ?_)))
     · skip
       refine wp_region_lit (l_op (f_mv F32 rfl rfl rfl rfl rfl fun _ F35 => ?_))
       refine l_op (f_val F35 rfl rfl (r_field FI_71_0 rfl (F35.ev 7 rfl) rfl) rfl fun _ F36 => ?_)
       refine l_op (f_val (v := .int .i64 x1.d.id) F36 rfl rfl (r_loadB T33.at' 0 TI_3 rfl rfl (F36.ev 18 rfl) rfl rfl (fun _ => rfl) rfl) rfl fun _ F37 => ?_)
       refine l_op (f_buildSl (ok := okI) (vs := [.int .i64 x1.d.id]) F37 T33.at' ([x1.d.id]) ET_53 rfl rfl rfl rfl rfl rfl (lc (pr2 (F37.ev 19 rfl)) rfl) rfl rfl (fun x hx => (List.mem_singleton.1 hx) ▸ okx1.1) fun b38 _ w38 F39 S38 => ?_)
       refine l_op (f_app (news := [x1.d.id]) F39 S38.at' 2 ET_53 rfl rfl rfl rfl rfl rfl (F39.ev 17 rfl) (F39.ev 20 rfl) ((At.rd S38.at' ET_53.hk 0 rfl)).1 (by ((repeat (first | rw [List.length_append] | rw [List.length_cons] | rw [List.length_nil] | rw [List.length_take] | rw [List.length_drop])) <;> omega)) fun A40 N40 C40 _ w40 F41 S40 l40 => ?_)
       have S42 := At.drop S40.at' 1
       refine l_op (f_as F41 rfl rfl rfl rfl rfl fun _ F43 => ?_)
       have F44 : Fr 24 [(5, .slice A40 N40 C40), (10, .int .i64 ((k : Nat) : Int)), (9, .int .i64 ((list_n : Nat) : Int)), (8, .slice list_a list_n list_c), (1, .func (.func 117) #[] #[])] _ := F43.cut rfl
       clear F32 F35 F36 F37 F39 F41 F43
       have T45 : Mv _ _ [ow 3 1 encI okI (.slice A40 N40 C40) (D ++ ([x1.d.id])), bx b23 [.int .i64 x1.d.id, .int .i64 x1.d.age, .int .i64 x1.d.proc, .int .i64 x1.d.began, .slice x1.a0 x1.n0 x1.c0, .slice x1.a1 x1.n1 x1.c1, .slice x1.a2 x1.n2 x1.c2, .slice x1.a3 x1.n3 x1.c3, .slice x1.a4 x1.n4 x1.c4, .int .i64 x1.d.state] 71] _ := S42
       refine s_end (x_block_normal (x_normal (wp_region_lit (l_op (f_val F44 rfl rfl (r_add (z := ((k + 1 : Nat) : Int)) rfl (F44.ev 10 rfl) rfl (by first | rfl | omega) ⟨by first | omega | (unfold i64ok at *; omega), by first | omega | (unfold i64ok at *; omega)⟩) rfl fun _ F46 => ?_)))))
       refine l_op (f_mv F46 rfl rfl rfl rfl rfl fun _ F47 => ?_)
       have F48 : Fr 24 [(10, .int .i64 ((k + 1 : Nat) : Int)), (5, .slice A40 N40 C40), (9, .int .i64 ((list_n : Nat) : Int)), (8, .slice list_a list_n list_c), (1, .func (.func 117) #[] #[])] _ := F47.cut rfl
       clear F44 F46 F47
       refine s_end ?_
       refine x_normal ⟨k + 1, by omega, D ++ ([x1.d.id]), A40, N40, C40, F48.cut rfl, ((S9.trans (S23.trans (T27.trans (T33.trans (S38.trans (S40.trans T45)))))).pick [0] rfl), by omega, by first | rw [hk_1, liveM_t hx1 (of_decide_eq_true (by assumption))] | rw [hk_1, liveM_f hx1 (of_decide_eq_false (by assumption))] | rw [hk_1, liveM_t hx1 (by assumption)] | rw [hk_1, liveM_f hx1 (by assumption)], by assumption⟩
     · skip
       refine wp_skip (x_block_normal (x_normal (wp_region_lit (l_op (f_val F32 rfl rfl (r_add (z := ((k + 1 : Nat) : Int)) rfl (F32.ev 10 rfl) rfl (by first | rfl | omega) ⟨by first | omega | (unfold i64ok at *; omega), by first | omega | (unfold i64ok at *; omega)⟩) rfl fun _ F49 => ?_)))))
       refine l_op (f_mv F49 rfl rfl rfl rfl rfl fun _ F50 => ?_)
       have F51 : Fr 24 [(10, .int .i64 ((k + 1 : Nat) : Int)), (9, .int .i64 ((list_n : Nat) : Int)), (8, .slice list_a list_n list_c), (5, .slice oa on oc), (1, .func (.func 117) #[] #[])] _ := F50.cut rfl
       clear F32 F49 F50
       refine s_end ?_
       refine x_normal ⟨k + 1, by omega, D, oa, on, oc, F51.cut rfl, ((S9.trans (S23.trans (T27.trans T33))).pick [1] rfl), by omega, by first | rw [hk_1, liveM_t hx1 (of_decide_eq_true (by assumption))] | rw [hk_1, liveM_f hx1 (of_decide_eq_false (by assumption))] | rw [hk_1, liveM_t hx1 (by assumption)] | rw [hk_1, liveM_f hx1 (by assumption)], by assumption⟩
   · skip
     refine wp_exit (x_then_exit (x_then_exit (x_block_here (x_normal (wp_seq (wp_region_lit (l_op (f_mv F12 rfl rfl rfl rfl rfl fun _ F52 => ?_))))))))
     refine l_op (f_as F52 rfl rfl rfl rfl rfl fun _ F53 => ?_)
     have F54 : Fr 24 [(4, .slice oa on oc)] _ := F53.cut rfl
     clear F12 F52 F53
     refine s_end (x_normal (wp_ret ?_))
     refine x_done (v := .slice oa on oc) F54 (results_1 Try.results116 (.tmp (F54.ev 4 rfl))) ?_
     exact ⟨oa, on, oc, rfl, (Mv.cast (Mv.pick (S10.trans S9) [0] rfl) (by rw [(show D = (liveL (list.map TxH.d)) from by rw [hk_1, List.take_of_length_le (by omega)])]; all_goals rfl))⟩
theorem impl_LiveIn_c {w : World} {H : Nat → Prop} {list : List TxH} {list_a : Option Addr} {list_n list_c : Nat} (v_list : Rd 10 encTx okTx H w (.slice list_a list_n list_c) list) (u_list : NRd inTx H w list) (p0 : list_n ≤ 1048576) :
    Calls Try.prog 56 #[.slice list_a list_n list_c] w fun e w' => ∃ (r0_a : Option Addr), ∃ (r0_n : Nat), ∃ (r0_c : Nat), e = .returned (.slice r0_a r0_n r0_c) ∧ Mv [] w [ow 3 1 encI okI (.slice r0_a r0_n r0_c) (liveL (list.map TxH.d))] w' := by
 have uU : True := (fun _ => trivial) p0
 clear uU
 have V_v_list : Rd 10 encTx okTx (V H w []) w (.slice list_a list_n list_c) list := Rd.start v_list (fun _ _ => fps_nil _)
 obtain ⟨ln_list, le_list, mx_list, ni_list⟩ := Rd.inv v_list
 have V_u_list : NRd inTx (V H w []) w list := NRd.start u_list (fun _ _ => fps_nil _)
 refine calls_enter 5 Try.func56 rfl Try.ntmps56 (Nat.le_of_ble_eq_true rfl) (fun _ F0i => ?_)
 have F0 : Fr 5 [(0, .slice list_a list_n list_c)] _ := F0i
 clear F0i
 refine wp_seq (wp_region_lit (l_op (f_val F0 rfl rfl (r_assign rfl rfl) rfl fun _ F1 => ?_)))
 have F2 : Fr 5 [(2, .slice none 0 0), (0, .slice list_a list_n list_c)] _ := F1.cut rfl
 clear F0 F1
 refine s_end (x_normal (wp_seq (wp_region_lit (l_op (f_mv F2 rfl rfl rfl rfl rfl fun _ F3 => ?_)))))
 refine l_op (f_call F3 CF_116 rfl rfl rfl rfl (lc (F3.ev 3 rfl) (lc rfl rfl)) (impl_idsIn_impl_LiveIn_1_c (list := list) V_v_list V_u_list (by first | assumption | omega | (simp <;> omega))) ?_)
 rintro _ w4 ⟨r0_a_4, r0_n_4, r0_c_4, rfl, m4⟩
 refine ⟨_, rfl, fun _ F5 => ?_⟩
 have S4 : Mv _ _ [ow 3 1 encI okI (.slice r0_a_4 r0_n_4 r0_c_4) (liveL (list.map TxH.d))] _ := At.frame (At.nil w) [] rfl m4
 obtain ⟨lo4_0, lp4_0, lq4_0⟩ := At.ownInv S4.at' ET_53.hk 0 rfl
 clear m4
 refine l_op (f_as F5 rfl rfl rfl rfl rfl fun _ F6 => ?_)
 have F7 : Fr 5 [(2, .slice r0_a_4 r0_n_4 r0_c_4)] _ := F6.cut rfl
 clear F2 F3 F5 F6
 refine s_end (x_normal (wp_ret ?_))
 refine x_done (v := .slice r0_a_4 r0_n_4 r0_c_4) F7 (results_1 Try.results56 (.tmp (F7.ev 2 rfl))) ?_
 exact ⟨r0_a_4, r0_n_4, r0_c_4, rfl, (Mv.pick S4 [0] rfl)⟩
theorem spec_LiveIn_c {w : World} {H : Nat → Prop} {list : List TxH} {list_a : Option Addr} {list_n list_c : Nat} (v_list : Rd 10 encTx okTx H w (.slice list_a list_n list_c) list) (u_list : NRd inTx H w list) (p0 : list_n ≤ 1048576) :
    Calls Try.prog 54 #[.slice list_a list_n list_c] w fun e w' => ∃ (r0_a : Option Addr), ∃ (r0_n : Nat), ∃ (r0_c : Nat), e = .returned (.slice r0_a r0_n r0_c) ∧ Mv [] w [ow 3 1 encI okI (.slice r0_a r0_n r0_c) (liveL (list.map TxH.d))] w' := by
 have uU : True := (fun _ => trivial) p0
 clear uU
 have V_v_list : Rd 10 encTx okTx (V H w []) w (.slice list_a list_n list_c) list := Rd.start v_list (fun _ _ => fps_nil _)
 obtain ⟨ln_list, le_list, mx_list, ni_list⟩ := Rd.inv v_list
 have V_u_list : NRd inTx (V H w []) w list := NRd.start u_list (fun _ _ => fps_nil _)
 refine calls_enter 27 Try.func54 rfl Try.ntmps54 (Nat.le_of_ble_eq_true rfl) (fun _ F0i => ?_)
 have F0 : Fr 27 [(0, .slice list_a list_n list_c)] _ := F0i
 clear F0i
 refine wp_seq (wp_region_lit (l_op (f_val F0 rfl rfl (r_assign rfl rfl) rfl fun _ F1 => ?_)))
 have F2 : Fr 27 [(2, .slice none 0 0), (0, .slice list_a list_n list_c)] _ := F1.cut rfl
 clear F0 F1
 refine s_end (x_normal (wp_seq (wp_region_lit (l_op (f_buildSl (ok := okI) (vs := []) F2 (At.nil w) (([] : List Int)) ET_53 rfl rfl rfl rfl rfl rfl rfl rfl rfl (by simp) fun b3 _ w3 F4 S3 => ?_)))))
 refine l_op (f_as F4 rfl rfl rfl rfl rfl fun _ F5 => ?_)
 have F6 : Fr 27 [(3, .slice (some ⟨b3, 0, none⟩) 0 0), (0, .slice list_a list_n list_c)] _ := F5.cut rfl
 clear F2 F4 F5
 have T7 : Mv _ _ [ow 3 1 encI okI (.slice (some ⟨b3, 0, none⟩) 0 0) ([] : List Int)] _ := S3
 refine s_end (x_normal (wp_seq (wp_seq (wp_region_lit (l_op (f_val F6 rfl rfl (r_assign rfl rfl) rfl fun _ F8 => ?_))))))
 have F9 : Fr 27 [(4, .int .i64 0), (3, .slice (some ⟨b3, 0, none⟩) 0 0), (0, .slice list_a list_n list_c)] _ := F8.cut rfl
 clear F6 F8
 refine s_end (x_normal (wp_block ?_))
 refine x_loop (fun (k : Nat) aZ wZ => ∃ (D : List Int), ∃ (oa : Option Addr), ∃ (on : Nat), ∃ (oc : Nat), Fr 27 [(4, .int .i64 ((k : Nat) : Int)), (3, .slice oa on oc), (0, .slice list_a list_n list_c)] aZ ∧ Mv [ow 3 1 encI okI (.slice (some ⟨b3, 0, none⟩) 0 0) ([] : List Int)] w3 [ow 3 1 encI okI (.slice oa on oc) D] wZ ∧ (k ≤ list_n) ∧ (D = liveL ((list.take k).map TxH.d)) ∧ (on = D.length)) (fun (k : Nat) => list_n - k) (0) ?_ ?_
 · exact ⟨([] : List Int), (some ⟨b3, 0, none⟩), 0, 0, F9.cut rfl, (Mv.refl T7.at'), by omega, rfl, rfl⟩
 · rintro k a10 w10 ⟨D, oa, on, oc, F10, S10, hk_0, hk_1, hk_2⟩
   have hll := liveM_take list k
   rw [← hk_1] at hll
   refine wp_seq (wp_seq (wp_region_lit (l_op (f_mv F10 rfl rfl rfl rfl rfl fun _ F11 => ?_))))
   refine l_op (f_mv F11 rfl rfl rfl rfl rfl fun _ F12 => ?_)
   refine l_op (f_val F12 rfl rfl (r_len Try.underlying39 rfl (F12.ev 7 rfl)) rfl fun _ F13 => ?_)
   refine l_op (f_val F13 rfl rfl (r_cmp (b := decide (k < list_n)) (.inr (.inr (.inl rfl))) rfl (F13.ev 6 rfl) (F13.ev 8 rfl) (dec_of (by omega))) rfl fun _ F14 => ?_)
   have F15 : Fr 27 [(9, .bool (decide (k < list_n))), (4, .int .i64 ((k : Nat) : Int)), (3, .slice oa on oc), (0, .slice list_a list_n list_c)] _ := F14.cut rfl
   clear F10 F11 F12 F13 F14
   refine s_end (x_normal (x_cond (p := k < list_n) (F15.ev 9 rfl) (fun h16 => ?_) (fun h16 => ?_)))
   · skip
     refine wp_skip (x_normal (wp_seq (wp_block (wp_seq (wp_region_lit (l_op (f_mv F15 rfl rfl rfl rfl rfl fun _ F17 => ?_)))))))
     refine l_op (f_mv F17 rfl rfl rfl rfl rfl fun _ F18 => ?_)
     obtain ⟨B19, O19, x1, ad19, hx1, okx1, ln19, cl19⟩ := Rd.at (Rd.mv (Nat.succ_pos _) V_v_list (T7.trans S10)) k (by first | assumption | omega)
     clear ln19
     refine l_op (f_val F18 rfl rfl (r_indexAddr (i := k) ET_39 rfl ((F18.ev 12 rfl).trans (by rw [ad19])) (F18.ev 13 rfl) (by omega) (by first | assumption | omega)) rfl fun _ F20 => ?_)
     refine l_op (f_val F20 rfl rfl (r_field FI_71_8 rfl (F20.ev 14 rfl) rfl) rfl fun _ F21 => ?_)
     refine l_op (f_val (v := .int .i64 x1.d.state) F21 rfl rfl (r_load (cs := [.int .i64 x1.d.state]) TI_3 rfl (F21.ev 15 rfl) rfl (fun _ => rfl) (elem_sub (f := 9) cl19 [.int .i64 x1.d.state] rfl)) rfl fun _ F22 => ?_)
     refine l_op (f_val F22 rfl rfl (r_cmp (b := decide (x1.d.state = 1)) (.inl rfl) rfl (F22.ev 16 rfl) rfl (dec_of (by omega))) rfl fun _ F23 => ?_)
     have F24 : Fr 27 [(17, .bool (decide (x1.d.state = 1))), (4, .int .i64 ((k : Nat) : Int)), (3, .slice oa on oc), (0, .slice list_a list_n list_c)] _ := F23.cut rfl
     clear F15 F17 F18 F20 F21 F22 F23
     refine s_end (x_normal (x_cond (p := x1.d.state = 1) (F24.ev 17 rfl) (fun h25 => ?_) (fun h25 => ?_)))
     · skip
       refine wp_region_lit (l_op (f_mv F24 rfl rfl rfl rfl rfl fun _ F26 => ?_))
       refine l_op (f_mv F26 rfl rfl rfl rfl rfl fun _ F27 => ?_)
       refine l_op (f_mv F27 rfl rfl rfl rfl rfl fun _ F28 => ?_)
       obtain ⟨B29, O29, y29, ad29, hy29, oky29, ln29, cl29⟩ := Rd.at (Rd.mv (Nat.succ_pos _) V_v_list (T7.trans S10)) k (by first | assumption | omega)
       clear ln29
       obtain rfl := Option.some.inj (hx1.symm.trans hy29)
       clear hy29 oky29
       refine l_op (f_val F28 rfl rfl (r_indexAddr (i := k) ET_39 rfl ((F28.ev 19 rfl).trans (by rw [ad29])) (F28.ev 20 rfl) (by omega) (by first | assumption | omega)) rfl fun _ F30 => ?_)
       refine l_op (f_val F30 rfl rfl (r_field FI_71_0 rfl (F30.ev 21 rfl) rfl) rfl fun _ F31 => ?_)
       refine l_op (f_val (v := .int .i64 x1.d.id) F31 rfl rfl (r_load (cs := [.int .i64 x1.d.id]) TI_3 rfl (F31.ev 22 rfl) rfl (fun _ => rfl) (elem_sub (f := 0) cl29 [.int .i64 x1.d.id] rfl)) rfl fun _ F32 => ?_)
       refine l_op (f_buildSl (ok := okI) (vs := [.int .i64 x1.d.id]) F32 S10.at' ([x1.d.id]) ET_53 rfl rfl rfl rfl rfl rfl (lc (pr2 (F32.ev 23 rfl)) rfl) rfl rfl (fun x hx => (List.mem_singleton.1 hx) ▸ okx1.1) fun b33 _ w33 F34 S33 => ?_)
       refine l_op (f_app (news := [x1.d.id]) F34 S33.at' 1 ET_53 rfl rfl rfl rfl rfl rfl (F34.ev 18 rfl) (F34.ev 24 rfl) ((At.rd S33.at' ET_53.hk 0 rfl)).1 (by ((repeat (first | rw [List.length_append] | rw [List.length_cons] | rw [List.length_nil] | rw [List.length_take] | rw [List.length_drop])) <;> omega)) fun A35 N35 C35 _ w35 F36 S35 l35 => ?_)
       have S37 := At.drop S35.at' 1
       refine l_op (f_as F36 rfl rfl rfl rfl rfl fun _ F38 => ?_)
       have F39 : Fr 27 [(3, .slice A35 N35 C35), (4, .int .i64 ((k : Nat) : Int)), (0, .slice list_a list_n list_c)] _ := F38.cut rfl
       clear F24 F26 F27 F28 F30 F31 F32 F34 F36 F38
       have T40 : Mv _ _ [ow 3 1 encI okI (.slice A35 N35 C35) (D ++ ([x1.d.id]))] _ := S37
       refine s_end (x_block_normal (x_normal (wp_region_lit (l_op (f_mv F39 rfl rfl rfl rfl rfl fun _ F41 => ?_)))))
       refine l_op (f_val F41 rfl rfl (r_add (z := ((k + 1 : Nat) : Int)) rfl (F41.ev 10 rfl) rfl (by first | rfl | omega) ⟨by first | omega | (unfold i64ok at *; omega), by first | omega | (unfold i64ok at *; omega)⟩) rfl fun _ F42 => ?_)
       refine l_op (f_as F42 rfl rfl rfl rfl rfl fun _ F43 => ?_)
       have F44 : Fr 27 [(4, .int .i64 ((k + 1 : Nat) : Int)), (3, .slice A35 N35 C35), (0, .slice list_a list_n list_c)] _ := F43.cut rfl
       clear F39 F41 F42 F43
       refine s_end ?_
       refine x_normal ⟨k + 1, by omega, D ++ ([x1.d.id]), A35, N35, C35, F44.cut rfl, ((S10.trans (S33.trans (S35.trans T40))).pick [0] rfl), by omega, by first | rw [hk_1, liveM_t hx1 (of_decide_eq_true (by assumption))] | rw [hk_1, liveM_f hx1 (of_decide_eq_false (by assumption))] | rw [hk_1, liveM_t hx1 (by assumption)] | rw [hk_1, liveM_f hx1 (by assumption)], by assumption⟩
     · skip
       refine wp_skip (x_block_normal (x_normal (wp_region_lit (l_op (f_mv F24 rfl rfl rfl rfl rfl fun _ F45 => ?_)))))
       refine l_op (f_val F45 rfl rfl (r_add (z := ((k + 1 : Nat) : Int)) rfl (F45.ev 10 rfl) rfl (by first | rfl | omega) ⟨by first | omega | (unfold i64ok at *; omega), by first | omega | (unfold i64ok at *; omega)⟩) rfl fun _ F46 => ?_)
       refine l_op (f_as F46 rfl rfl rfl rfl rfl fun _ F47 => ?_)
       have F48 : Fr 27 [(4, .int .i64 ((k + 1 : Nat) : Int)), (3, .slice oa on oc), (0, .slice list_a list_n list_c)] _ := F47.cut rfl
       clear F24 F45 F46 F47
       refine s_end ?_
       refine x_normal ⟨k + 1, by omega, D, oa, on, oc, F48.cut rfl, (S10.pick [0] rfl), by omega, by first | rw [hk_1, liveM_t hx1 (of_decide_eq_true (by assumption))] | rw [hk_1, liveM_f hx1 (of_decide_eq_false (by assumption))] | rw [hk_1, liveM_t hx1 (by assumption)] | rw [hk_1, liveM_f hx1 (by assumption)], by assumption⟩
   · skip
     refine wp_exit (x_then_exit (x_then_exit (x_block_here (x_normal (wp_seq (wp_region_lit (l_op (f_mv F15 rfl rfl rfl rfl rfl fun _ F49 => ?_))))))))
     refine l_op (f_as F49 rfl rfl rfl rfl rfl fun _ F50 => ?_)
     have F51 : Fr 27 [(2, .slice oa on oc)] _ := F50.cut rfl
     clear F15 F49 F50
     refine s_end (x_normal (wp_ret ?_))
     refine x_done (v := .slice oa on oc) F51 (results_1 Try.results54 (.tmp (F51.ev 2 rfl))) ?_
     exact ⟨oa, on, oc, rfl, (Mv.cast (Mv.pick (T7.trans S10) [0] rfl) (by rw [(show D = (liveL (list.map TxH.d)) from by rw [hk_1, List.take_of_length_le (by omega)])]; all_goals rfl))⟩
theorem impl_Admits_c {w : World} {H : Nat → Prop} {list : List TxH} {list_a : Option Addr} {list_n list_c : Nat} (v_list : Rd 10 encTx okTx H w (.slice list_a list_n list_c) list) (u_list : NRd inTx H w list) (p0 : list_n ≤ 1048576) :
    Calls Try.prog 19 #[.slice list_a list_n list_c] w fun e w' => e = .returned (.bool (decide ((liveL (list.map TxH.d)).length < 4))) ∧ Mv [] w [] w' := by
 have uU : True := (fun _ => trivial) p0
 clear uU
 have V_v_list : Rd 10 encTx okTx (V H w []) w (.slice list_a list_n list_c) list := Rd.start v_list (fun _ _ => fps_nil _)
 obtain ⟨ln_list, le_list, mx_list, ni_list⟩ := Rd.inv v_list
 have V_u_list : NRd inTx (V H w []) w list := NRd.start u_list (fun _ _ => fps_nil _)
 refine calls_enter 7 Try.func19 rfl Try.ntmps19 (Nat.le_of_ble_eq_true rfl) (fun _ F0i => ?_)
 have F0 : Fr 7 [(0, .slice list_a list_n list_c)] _ := F0i
 clear F0i
 refine wp_seq (wp_region_lit (l_op (f_val F0 rfl rfl (r_assign rfl rfl) rfl fun _ F1 => ?_)))
 have F2 : Fr 7 [(2, .bool false), (0, .slice list_a list_n list_c)] _ := F1.cut rfl
 clear F0 F1
 refine s_end (x_normal (wp_seq (wp_region_lit (l_op (f_mv F2 rfl rfl rfl rfl rfl fun _ F3 => ?_)))))
 refine l_op (f_call F3 CF_56 rfl rfl rfl rfl (lc (F3.ev 3 rfl) rfl) (impl_LiveIn_c (list := list) V_v_list V_u_list (by first | assumption | omega | (simp <;> omega))) ?_)
 rintro _ w4 ⟨r0_a_4, r0_n_4, r0_c_4, rfl, m4⟩
 refine ⟨_, rfl, fun _ F5 => ?_⟩
 have S4 : Mv _ _ [ow 3 1 encI okI (.slice r0_a_4 r0_n_4 r0_c_4) (liveL (list.map TxH.d))] _ := At.frame (At.nil w) [] rfl m4
 obtain ⟨lo4_0, lp4_0, lq4_0⟩ := At.ownInv S4.at' ET_53.hk 0 rfl
 clear m4
 refine l_op (f_val F5 rfl rfl (r_len Try.underlying53 rfl (F5.ev 4 rfl)) rfl fun _ F6 => ?_)
 refine l_op (f_val F6 rfl rfl (r_cmp (b := decide (r0_n_4 < 4)) (.inr (.inr (.inl rfl))) rfl (F6.ev 5 rfl) rfl (dec_of (by omega))) rfl fun _ F7 => ?_)
 refine l_op (f_as F7 rfl rfl rfl rfl rfl fun _ F8 => ?_)
 have F9 : Fr 7 [(2, .bool (decide (r0_n_4 < 4)))] _ := F8.cut rfl
 clear F2 F3 F5 F6 F7 F8
 refine s_end (x_normal (wp_ret ?_))
 refine x_done (v := .bool (decide (r0_n_4 < 4))) F9 (results_1 Try.results19 (.tmp (F9.ev 2 rfl))) ?_
 exact ⟨(by rw [(show (decide (r0_n_4 < 4)) = (decide ((liveL (list.map TxH.d)).length < 4)) from by exact dec_of (by omega))]), (Mv.pick S4 [] rfl)⟩
theorem spec_Admits_c {w : World} {H : Nat → Prop} {list : List TxH} {list_a : Option Addr} {list_n list_c : Nat} (v_list : Rd 10 encTx okTx H w (.slice list_a list_n list_c) list) (u_list : NRd inTx H w list) (p0 : list_n ≤ 1048576) :
    Calls Try.prog 17 #[.slice list_a list_n list_c] w fun e w' => e = .returned (.bool (decide ((liveL (list.map TxH.d)).length < 4))) ∧ Mv [] w [] w' := by
 have uU : True := (fun _ => trivial) p0
 clear uU
 have V_v_list : Rd 10 encTx okTx (V H w []) w (.slice list_a list_n list_c) list := Rd.start v_list (fun _ _ => fps_nil _)
 obtain ⟨ln_list, le_list, mx_list, ni_list⟩ := Rd.inv v_list
 have V_u_list : NRd inTx (V H w []) w list := NRd.start u_list (fun _ _ => fps_nil _)
 refine calls_enter 7 Try.func17 rfl Try.ntmps17 (Nat.le_of_ble_eq_true rfl) (fun _ F0i => ?_)
 have F0 : Fr 7 [(0, .slice list_a list_n list_c)] _ := F0i
 clear F0i
 refine wp_seq (wp_region_lit (l_op (f_val F0 rfl rfl (r_assign rfl rfl) rfl fun _ F1 => ?_)))
 have F2 : Fr 7 [(2, .bool false), (0, .slice list_a list_n list_c)] _ := F1.cut rfl
 clear F0 F1
 refine s_end (x_normal (wp_seq (wp_region_lit (l_op (f_mv F2 rfl rfl rfl rfl rfl fun _ F3 => ?_)))))
 refine l_op (f_call F3 CF_54 rfl rfl rfl rfl (lc (F3.ev 3 rfl) rfl) (spec_LiveIn_c (list := list) V_v_list V_u_list (by first | assumption | omega | (simp <;> omega))) ?_)
 rintro _ w4 ⟨r0_a_4, r0_n_4, r0_c_4, rfl, m4⟩
 refine ⟨_, rfl, fun _ F5 => ?_⟩
 have S4 : Mv _ _ [ow 3 1 encI okI (.slice r0_a_4 r0_n_4 r0_c_4) (liveL (list.map TxH.d))] _ := At.frame (At.nil w) [] rfl m4
 obtain ⟨lo4_0, lp4_0, lq4_0⟩ := At.ownInv S4.at' ET_53.hk 0 rfl
 clear m4
 refine l_op (f_val F5 rfl rfl (r_len Try.underlying53 rfl (F5.ev 4 rfl)) rfl fun _ F6 => ?_)
 refine l_op (f_val F6 rfl rfl (r_cmp (b := decide (r0_n_4 < 4)) (.inr (.inr (.inl rfl))) rfl (F6.ev 5 rfl) rfl (dec_of (by omega))) rfl fun _ F7 => ?_)
 refine l_op (f_as F7 rfl rfl rfl rfl rfl fun _ F8 => ?_)
 have F9 : Fr 7 [(2, .bool (decide (r0_n_4 < 4)))] _ := F8.cut rfl
 clear F2 F3 F5 F6 F7 F8
 refine s_end (x_normal (wp_ret ?_))
 refine x_done (v := .bool (decide (r0_n_4 < 4))) F9 (results_1 Try.results17 (.tmp (F9.ev 2 rfl))) ?_
 exact ⟨(by rw [(show (decide (r0_n_4 < 4)) = (decide ((liveL (list.map TxH.d)).length < 4)) from by exact dec_of (by omega))]), (Mv.pick S4 [] rfl)⟩
theorem impl_HeldBack_c {w : World} {H : Nat → Prop} {list : List TxH} {list_a : Option Addr} {list_n list_c : Nat} (v_list : Rd 10 encTx okTx H w (.slice list_a list_n list_c) list) (u_list : NRd inTx H w list) (p0 : list_n ≤ 1048576) :
    Calls Try.prog 22 #[.slice list_a list_n list_c] w fun e w' => e = .returned (.int .i64 ((backN (list.map TxH.d) : Nat) : Int)) ∧ Mv [] w [] w' := by
 have uU : True := (fun _ => trivial) p0
 clear uU
 have hll := liveM_length list
 have V_v_list : Rd 10 encTx okTx (V H w []) w (.slice list_a list_n list_c) list := Rd.start v_list (fun _ _ => fps_nil _)
 obtain ⟨ln_list, le_list, mx_list, ni_list⟩ := Rd.inv v_list
 have V_u_list : NRd inTx (V H w []) w list := NRd.start u_list (fun _ _ => fps_nil _)
 refine calls_enter 7 Try.func22 rfl Try.ntmps22 (Nat.le_of_ble_eq_true rfl) (fun _ F0i => ?_)
 have F0 : Fr 7 [(0, .slice list_a list_n list_c)] _ := F0i
 clear F0i
 refine wp_seq (wp_region_lit (l_op (f_val F0 rfl rfl (r_assign rfl rfl) rfl fun _ F1 => ?_)))
 have F2 : Fr 7 [(2, .int .i64 0), (0, .slice list_a list_n list_c)] _ := F1.cut rfl
 clear F0 F1
 refine s_end (x_normal (wp_seq (wp_region_lit (l_op (f_mv F2 rfl rfl rfl rfl rfl fun _ F3 => ?_)))))
 refine l_op (f_call F3 CF_56 rfl rfl rfl rfl (lc (F3.ev 3 rfl) rfl) (impl_LiveIn_c (list := list) V_v_list V_u_list (by first | assumption | omega | (simp <;> omega))) ?_)
 rintro _ w4 ⟨r0_a_4, r0_n_4, r0_c_4, rfl, m4⟩
 refine ⟨_, rfl, fun _ F5 => ?_⟩
 have S4 : Mv _ _ [ow 3 1 encI okI (.slice r0_a_4 r0_n_4 r0_c_4) (liveL (list.map TxH.d))] _ := At.frame (At.nil w) [] rfl m4
 obtain ⟨lo4_0, lp4_0, lq4_0⟩ := At.ownInv S4.at' ET_53.hk 0 rfl
 clear m4
 refine l_op (f_val F5 rfl rfl (r_len Try.underlying53 rfl (F5.ev 4 rfl)) rfl fun _ F6 => ?_)
 refine l_op (f_val F6 rfl rfl (r_mul (z := ((4000 * r0_n_4 : Nat) : Int)) rfl rfl (F6.ev 5 rfl) (by first | rfl | omega) ⟨by first | omega | (unfold i64ok at *; omega), by first | omega | (unfold i64ok at *; omega)⟩) rfl fun _ F7 => ?_)
 refine l_op (f_as F7 rfl rfl rfl rfl rfl fun _ F8 => ?_)
 have F9 : Fr 7 [(2, .int .i64 ((4000 * r0_n_4 : Nat) : Int))] _ := F8.cut rfl
 clear F2 F3 F5 F6 F7 F8
 refine s_end (x_normal (wp_ret ?_))
 refine x_done (v := .int .i64 ((4000 * r0_n_4 : Nat) : Int)) F9 (results_1 Try.results22 (.tmp (F9.ev 2 rfl))) ?_
 exact ⟨(by rw [(show ((4000 * r0_n_4 : Nat) : Int) = ((backN (list.map TxH.d) : Nat) : Int) from by unfold backN; omega)]), (Mv.pick S4 [] rfl)⟩
theorem spec_HeldBack_c {w : World} {H : Nat → Prop} {list : List TxH} {list_a : Option Addr} {list_n list_c : Nat} (v_list : Rd 10 encTx okTx H w (.slice list_a list_n list_c) list) (u_list : NRd inTx H w list) (p0 : list_n ≤ 1048576) :
    Calls Try.prog 21 #[.slice list_a list_n list_c] w fun e w' => e = .returned (.int .i64 ((backN (list.map TxH.d) : Nat) : Int)) ∧ Mv [] w [] w' := by
 have uU : True := (fun _ => trivial) p0
 clear uU
 have hll := liveM_length list
 have V_v_list : Rd 10 encTx okTx (V H w []) w (.slice list_a list_n list_c) list := Rd.start v_list (fun _ _ => fps_nil _)
 obtain ⟨ln_list, le_list, mx_list, ni_list⟩ := Rd.inv v_list
 have V_u_list : NRd inTx (V H w []) w list := NRd.start u_list (fun _ _ => fps_nil _)
 refine calls_enter 7 Try.func21 rfl Try.ntmps21 (Nat.le_of_ble_eq_true rfl) (fun _ F0i => ?_)
 have F0 : Fr 7 [(0, .slice list_a list_n list_c)] _ := F0i
 clear F0i
 refine wp_seq (wp_region_lit (l_op (f_val F0 rfl rfl (r_assign rfl rfl) rfl fun _ F1 => ?_)))
 have F2 : Fr 7 [(2, .int .i64 0), (0, .slice list_a list_n list_c)] _ := F1.cut rfl
 clear F0 F1
 refine s_end (x_normal (wp_seq (wp_region_lit (l_op (f_mv F2 rfl rfl rfl rfl rfl fun _ F3 => ?_)))))
 refine l_op (f_call F3 CF_54 rfl rfl rfl rfl (lc (F3.ev 3 rfl) rfl) (spec_LiveIn_c (list := list) V_v_list V_u_list (by first | assumption | omega | (simp <;> omega))) ?_)
 rintro _ w4 ⟨r0_a_4, r0_n_4, r0_c_4, rfl, m4⟩
 refine ⟨_, rfl, fun _ F5 => ?_⟩
 have S4 : Mv _ _ [ow 3 1 encI okI (.slice r0_a_4 r0_n_4 r0_c_4) (liveL (list.map TxH.d))] _ := At.frame (At.nil w) [] rfl m4
 obtain ⟨lo4_0, lp4_0, lq4_0⟩ := At.ownInv S4.at' ET_53.hk 0 rfl
 clear m4
 refine l_op (f_val F5 rfl rfl (r_len Try.underlying53 rfl (F5.ev 4 rfl)) rfl fun _ F6 => ?_)
 refine l_op (f_val F6 rfl rfl (r_mul (z := ((4000 * r0_n_4 : Nat) : Int)) rfl rfl (F6.ev 5 rfl) (by first | rfl | omega) ⟨by first | omega | (unfold i64ok at *; omega), by first | omega | (unfold i64ok at *; omega)⟩) rfl fun _ F7 => ?_)
 refine l_op (f_as F7 rfl rfl rfl rfl rfl fun _ F8 => ?_)
 have F9 : Fr 7 [(2, .int .i64 ((4000 * r0_n_4 : Nat) : Int))] _ := F8.cut rfl
 clear F2 F3 F5 F6 F7 F8
 refine s_end (x_normal (wp_ret ?_))
 refine x_done (v := .int .i64 ((4000 * r0_n_4 : Nat) : Int)) F9 (results_1 Try.results21 (.tmp (F9.ev 2 rfl))) ?_
 exact ⟨(by rw [(show ((4000 * r0_n_4 : Nat) : Int) = ((backN (list.map TxH.d) : Nat) : Int) from by unfold backN; omega)]), (Mv.pick S4 [] rfl)⟩
theorem impl_MayLay_c {w : World} {H : Nat → Prop} {j : JouD} {list : List TxH} {list_a : Option Addr} {list_n list_c : Nat} {n : Int} (h_j_text : okS j.text) (h_j_sure : i64ok j.sure) (v_list : Rd 10 encTx okTx H w (.slice list_a list_n list_c) list) (u_list : NRd inTx H w list) (h_n : i64ok n) (p0 : list_n ≤ 1048576) :
    Calls Try.prog 30 #[.agg #[.string j.text, .int .i64 j.sure], .slice list_a list_n list_c, .int .i64 n] w fun e w' => e = .returned (.bool (mayL j (list.map TxH.d) n)) ∧ Mv [] w [] w' := by
 have uU : True := (fun _ => trivial) h_j_sure
 clear uU
 have V_v_list : Rd 10 encTx okTx (V H w []) w (.slice list_a list_n list_c) list := Rd.start v_list (fun _ _ => fps_nil _)
 obtain ⟨ln_list, le_list, mx_list, ni_list⟩ := Rd.inv v_list
 have V_u_list : NRd inTx (V H w []) w list := NRd.start u_list (fun _ _ => fps_nil _)
 refine calls_enter 14 Try.func30 rfl Try.ntmps30 (Nat.le_of_ble_eq_true rfl) (fun _ F0i => ?_)
 have F0 : Fr 14 [(0, .agg #[.string j.text, .int .i64 j.sure]), (1, .slice list_a list_n list_c), (2, .int .i64 n)] _ := F0i
 clear F0i
 refine wp_seq (wp_region_lit (l_op (f_box F0 (At.nil w) rfl rfl rfl (F0.ev 0 rfl) rfl rfl fun b1 _ w1 F2 S1 => ?_)))
 refine l_op (f_val F2 rfl rfl (r_assign rfl rfl) rfl fun _ F3 => ?_)
 have F4 : Fr 14 [(6, .bool false), (3, .pointer (some ⟨b1, 0, none⟩)), (1, .slice list_a list_n list_c), (2, .int .i64 n)] _ := F3.cut rfl
 clear F0 F2 F3
 have T5 : Mv _ _ [bx b1 [.string j.text, .int .i64 j.sure] 30] _ := S1
 refine s_end (x_normal (wp_seq ?_))
 have hbk := backM_le ln_list p0
 refine x_draw (fun aZ wZ => Fr 14 [(6, .bool (fitsR j ((max 0 (min n 20000)) + ((backN (list.map TxH.d) : Nat) : Int))))] aZ ∧ Mv [bx b1 [.string j.text, .int .i64 j.sure] 30] w1 [bx b1 [.string j.text, .int .i64 j.sure] 30] wZ) [bx b1 [.string j.text, .int .i64 j.sure] 30] mixed T5.at' (listed := #[false, false, false, false, false, false, false, false]) rfl (fun w7 S7 => ?_) [0] rfl ?_
 · skip
   refine g_take (v := .agg #[.string j.text, .int .i64 j.sure]) F4 rfl (i := 0) (listed' := #[true, false, false, false, false, false, false, false]) rfl (by kernel_rfl) (by kernel_rfl) (by kernel_rfl) (fun _ _ _ h => h) (Sd.of (Mv.refl S7.at') [0] rfl) rfl rfl rfl rfl (fun _ hz => (r_loadX (hz.bx 0 rfl) TI_30 rfl (F4.ev 3 rfl) rfl rfl (fun h => nomatch h) rfl)) fun _ F8 => ?_
   refine g_take F8 rfl (i := 1) (listed' := #[true, true, false, false, false, false, false, false]) rfl (by kernel_rfl) (by kernel_rfl) (by kernel_rfl) (fun _ _ _ h => h) (Sd.of (Mv.refl S7.at') [0] rfl) rfl rfl rfl rfl (fun _ hz => (r_move rfl (F8.ev 2 rfl))) fun _ F9 => ?_
   refine g_take F9 rfl (i := 3) (listed' := #[true, true, false, true, false, false, false, false]) rfl (by kernel_rfl) (by kernel_rfl) (by kernel_rfl) (fun _ _ _ h => h) (Sd.of (Mv.refl S7.at') [0] rfl) rfl rfl rfl rfl (fun _ hz => (r_move rfl (F9.ev 1 rfl))) fun _ F10 => ?_
   refine d_one (i := 2) (listed' := #[true, true, true, true, false, false, false, false]) rfl (by kernel_rfl) rfl rfl ?_
   refine f_call F10 CF_72 rfl rfl rfl rfl (lc (F10.ev 8 rfl) (lc rfl (lc rfl rfl))) (impl_Brought_c (H := fun _ => True) (n := n) (least := 0) (most := 20000) h_n (by first | assumption | exact ⟨by omega, by omega⟩ | (unfold i64ok at *; omega)) (by first | assumption | exact ⟨by omega, by omega⟩ | (unfold i64ok at *; omega))) ?_
   rintro _ w11 ⟨rfl, m11⟩
   refine ⟨_, rfl, fun _ F12 => ?_⟩
   have S11 := At.frame0 S7.at' m11
   clear m11
   refine ⟨Sd.of S11 [0] rfl, ?_⟩
   refine d_one (i := 4) (listed' := #[true, true, true, true, true, false, false, false]) rfl (by kernel_rfl) rfl rfl ?_
   refine f_call F12 CF_22 rfl rfl rfl rfl (lc (F12.ev 10 rfl) rfl) (impl_HeldBack_c (list := list) (Rd.mv (Nat.succ_pos _) V_v_list (T5.trans (S7.trans S11))) (NRd.mv V_u_list (T5.trans (S7.trans S11))) (by first | assumption | omega | (simp <;> omega))) ?_
   rintro _ w13 ⟨rfl, m13⟩
   refine ⟨_, rfl, fun _ F14 => ?_⟩
   have S13 := At.frame0 S11.at' m13
   clear m13
   refine ⟨Sd.of (S11.trans S13) [0] rfl, ?_⟩
   refine g_take F14 rfl (i := 5) (listed' := #[true, true, true, true, true, true, false, false]) rfl (by kernel_rfl) (by kernel_rfl) (by kernel_rfl) (fun _ _ _ h => h) (Sd.of (S11.trans S13) [0] rfl) rfl rfl rfl rfl (fun _ hz => (r_add (z := ((max 0 (min n 20000)) + ((backN (list.map TxH.d) : Nat) : Int))) rfl (F14.ev 9 rfl) (F14.ev 11 rfl) (by first | rfl | omega) ⟨by first | omega | (unfold i64ok at *; omega), by first | omega | (unfold i64ok at *; omega)⟩)) fun _ F15 => ?_
   refine d_one (i := 6) (listed' := #[true, true, true, true, true, true, true, false]) rfl (by kernel_rfl) rfl rfl ?_
   refine f_call F15 CF_71 rfl rfl rfl rfl (lc (F15.ev 7 rfl) (lc (F15.ev 12 rfl) rfl)) (impl_FitsIn_c (H := fun _ => True) (j := j) (n := ((max 0 (min n 20000)) + ((backN (list.map TxH.d) : Nat) : Int))) h_j_text (by first | assumption | exact ⟨by omega, by omega⟩ | (unfold i64ok at *; omega) | (simp only [i64ok]; omega)) (by first | assumption | exact ⟨by omega, by omega⟩ | (unfold i64ok at *; omega))) ?_
   rintro _ w16 ⟨rfl, m16⟩
   refine ⟨_, rfl, fun _ F17 => ?_⟩
   have S16 := At.frame0 S13.at' m16
   clear m16
   refine ⟨Sd.of (S11.trans (S13.trans S16)) [0] rfl, ?_⟩
   refine g_take F17 rfl (i := 7) (listed' := #[true, true, true, true, true, true, true, true]) rfl (by kernel_rfl) (by kernel_rfl) (by kernel_rfl) (fun _ _ _ h => h) (Sd.of (S11.trans (S13.trans S16)) [0] rfl) rfl rfl rfl rfl (fun _ hz => (r_assign rfl (F17.ev 13 rfl))) fun _ F18 => ?_
   refine wpAnyH_done (by kernel_rfl) (x_normal ?_) _
   exact ⟨F18.cut rfl, ((S7.trans (S11.trans (S13.trans S16))).pick [0] rfl)⟩
 · rintro a19 w19 ⟨F19, S19⟩
   refine x_normal (wp_ret ?_)
   refine x_done (v := .bool (fitsR j ((max 0 (min n 20000)) + ((backN (list.map TxH.d) : Nat) : Int)))) F19 (results_1 Try.results30 (.tmp (F19.ev 6 rfl))) ?_
   exact ⟨rfl, (Mv.pick (T5.trans S19) [] rfl)⟩
theorem spec_MayLay_c {w : World} {H : Nat → Prop} {j : JouD} {list : List TxH} {list_a : Option Addr} {list_n list_c : Nat} {n : Int} (h_j_text : okS j.text) (h_j_sure : i64ok j.sure) (v_list : Rd 10 encTx okTx H w (.slice list_a list_n list_c) list) (u_list : NRd inTx H w list) (h_n : i64ok n) (p0 : list_n ≤ 1048576) :
    Calls Try.prog 28 #[.agg #[.string j.text, .int .i64 j.sure], .slice list_a list_n list_c, .int .i64 n] w fun e w' => e = .returned (.bool (mayL j (list.map TxH.d) n)) ∧ Mv [] w [] w' := by
 have uU : True := (fun _ => trivial) h_j_sure
 clear uU
 have V_v_list : Rd 10 encTx okTx (V H w []) w (.slice list_a list_n list_c) list := Rd.start v_list (fun _ _ => fps_nil _)
 obtain ⟨ln_list, le_list, mx_list, ni_list⟩ := Rd.inv v_list
 have V_u_list : NRd inTx (V H w []) w list := NRd.start u_list (fun _ _ => fps_nil _)
 refine calls_enter 14 Try.func28 rfl Try.ntmps28 (Nat.le_of_ble_eq_true rfl) (fun _ F0i => ?_)
 have F0 : Fr 14 [(0, .agg #[.string j.text, .int .i64 j.sure]), (1, .slice list_a list_n list_c), (2, .int .i64 n)] _ := F0i
 clear F0i
 refine wp_seq (wp_region_lit (l_op (f_box F0 (At.nil w) rfl rfl rfl (F0.ev 0 rfl) rfl rfl fun b1 _ w1 F2 S1 => ?_)))
 refine l_op (f_val F2 rfl rfl (r_assign rfl rfl) rfl fun _ F3 => ?_)
 have F4 : Fr 14 [(6, .bool false), (3, .pointer (some ⟨b1, 0, none⟩)), (1, .slice list_a list_n list_c), (2, .int .i64 n)] _ := F3.cut rfl
 clear F0 F2 F3
 have T5 : Mv _ _ [bx b1 [.string j.text, .int .i64 j.sure] 30] _ := S1
 refine s_end (x_normal (wp_seq ?_))
 have hbk := backM_le ln_list p0
 refine x_draw (fun aZ wZ => Fr 14 [(6, .bool (fitsR j ((max 0 (min n 20000)) + ((backN (list.map TxH.d) : Nat) : Int))))] aZ ∧ Mv [bx b1 [.string j.text, .int .i64 j.sure] 30] w1 [bx b1 [.string j.text, .int .i64 j.sure] 30] wZ) [bx b1 [.string j.text, .int .i64 j.sure] 30] mixed T5.at' (listed := #[false, false, false, false, false, false, false, false]) rfl (fun w7 S7 => ?_) [0] rfl ?_
 · skip
   refine g_take (v := .agg #[.string j.text, .int .i64 j.sure]) F4 rfl (i := 0) (listed' := #[true, false, false, false, false, false, false, false]) rfl (by kernel_rfl) (by kernel_rfl) (by kernel_rfl) (fun _ _ _ h => h) (Sd.of (Mv.refl S7.at') [0] rfl) rfl rfl rfl rfl (fun _ hz => (r_loadX (hz.bx 0 rfl) TI_30 rfl (F4.ev 3 rfl) rfl rfl (fun h => nomatch h) rfl)) fun _ F8 => ?_
   refine g_take F8 rfl (i := 1) (listed' := #[true, true, false, false, false, false, false, false]) rfl (by kernel_rfl) (by kernel_rfl) (by kernel_rfl) (fun _ _ _ h => h) (Sd.of (Mv.refl S7.at') [0] rfl) rfl rfl rfl rfl (fun _ hz => (r_move rfl (F8.ev 2 rfl))) fun _ F9 => ?_
   refine g_take F9 rfl (i := 3) (listed' := #[true, true, false, true, false, false, false, false]) rfl (by kernel_rfl) (by kernel_rfl) (by kernel_rfl) (fun _ _ _ h => h) (Sd.of (Mv.refl S7.at') [0] rfl) rfl rfl rfl rfl (fun _ hz => (r_move rfl (F9.ev 1 rfl))) fun _ F10 => ?_
   refine d_one (i := 2) (listed' := #[true, true, true, true, false, false, false, false]) rfl (by kernel_rfl) rfl rfl ?_
   refine f_call F10 CF_70 rfl rfl rfl rfl (lc (F10.ev 8 rfl) (lc rfl (lc rfl rfl))) (spec_Brought_c (H := fun _ => True) (n := n) (least := 0) (most := 20000) h_n (by first | assumption | exact ⟨by omega, by omega⟩ | (unfold i64ok at *; omega)) (by first | assumption | exact ⟨by omega, by omega⟩ | (unfold i64ok at *; omega))) ?_
   rintro _ w11 ⟨rfl, m11⟩
   refine ⟨_, rfl, fun _ F12 => ?_⟩
   have S11 := At.frame0 S7.at' m11
   clear m11
   refine ⟨Sd.of S11 [0] rfl, ?_⟩
   refine d_one (i := 4) (listed' := #[true, true, true, true, true, false, false, false]) rfl (by kernel_rfl) rfl rfl ?_
   refine f_call F12 CF_21 rfl rfl rfl rfl (lc (F12.ev 10 rfl) rfl) (spec_HeldBack_c (list := list) (Rd.mv (Nat.succ_pos _) V_v_list (T5.trans (S7.trans S11))) (NRd.mv V_u_list (T5.trans (S7.trans S11))) (by first | assumption | omega | (simp <;> omega))) ?_
   rintro _ w13 ⟨rfl, m13⟩
   refine ⟨_, rfl, fun _ F14 => ?_⟩
   have S13 := At.frame0 S11.at' m13
   clear m13
   refine ⟨Sd.of (S11.trans S13) [0] rfl, ?_⟩
   refine g_take F14 rfl (i := 5) (listed' := #[true, true, true, true, true, true, false, false]) rfl (by kernel_rfl) (by kernel_rfl) (by kernel_rfl) (fun _ _ _ h => h) (Sd.of (S11.trans S13) [0] rfl) rfl rfl rfl rfl (fun _ hz => (r_add (z := ((max 0 (min n 20000)) + ((backN (list.map TxH.d) : Nat) : Int))) rfl (F14.ev 9 rfl) (F14.ev 11 rfl) (by first | rfl | omega) ⟨by first | omega | (unfold i64ok at *; omega), by first | omega | (unfold i64ok at *; omega)⟩)) fun _ F15 => ?_
   refine d_one (i := 6) (listed' := #[true, true, true, true, true, true, true, false]) rfl (by kernel_rfl) rfl rfl ?_
   refine f_call F15 CF_69 rfl rfl rfl rfl (lc (F15.ev 7 rfl) (lc (F15.ev 12 rfl) rfl)) (spec_FitsIn_c (H := fun _ => True) (j := j) (n := ((max 0 (min n 20000)) + ((backN (list.map TxH.d) : Nat) : Int))) h_j_text (by first | assumption | exact ⟨by omega, by omega⟩ | (unfold i64ok at *; omega) | (simp only [i64ok]; omega)) (by first | assumption | exact ⟨by omega, by omega⟩ | (unfold i64ok at *; omega))) ?_
   rintro _ w16 ⟨rfl, m16⟩
   refine ⟨_, rfl, fun _ F17 => ?_⟩
   have S16 := At.frame0 S13.at' m16
   clear m16
   refine ⟨Sd.of (S11.trans (S13.trans S16)) [0] rfl, ?_⟩
   refine g_take F17 rfl (i := 7) (listed' := #[true, true, true, true, true, true, true, true]) rfl (by kernel_rfl) (by kernel_rfl) (by kernel_rfl) (fun _ _ _ h => h) (Sd.of (S11.trans (S13.trans S16)) [0] rfl) rfl rfl rfl rfl (fun _ hz => (r_assign rfl (F17.ev 13 rfl))) fun _ F18 => ?_
   refine wpAnyH_done (by kernel_rfl) (x_normal ?_) _
   exact ⟨F18.cut rfl, ((S7.trans (S11.trans (S13.trans S16))).pick [0] rfl)⟩
 · rintro a19 w19 ⟨F19, S19⟩
   refine x_normal (wp_ret ?_)
   refine x_done (v := .bool (fitsR j ((max 0 (min n 20000)) + ((backN (list.map TxH.d) : Nat) : Int)))) F19 (results_1 Try.results28 (.tmp (F19.ev 6 rfl))) ?_
   exact ⟨rfl, (Mv.pick (T5.trans S19) [] rfl)⟩
end Go.Proofs.Ytgfilegkabbliaa
