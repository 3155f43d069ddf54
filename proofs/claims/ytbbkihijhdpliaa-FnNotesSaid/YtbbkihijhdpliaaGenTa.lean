/-
  Walks: equal access sets.
-/
import Derived.Test.YtbbkihijhdpliaaDat8
import Derived.Test.YtbbkihijhdpliaaGenZ
namespace Go.Proofs.Ytbbkihijhdpliaa
open Go.ChangeShapes Go.WideShapes Go.ChangeAt Go.RowKit
set_option maxRecDepth 100000
set_option maxHeartbeats 1000000
theorem laws_sameTouch_c {w : World} {H : Nat → Prop} {a : TouchD} {a_Ra : Option Addr} {a_Rn a_Rc : Nat} {a_Wa : Option Addr} {a_Wn a_Wc : Nat} {b : TouchD} {b_Ra : Option Addr} {b_Rn b_Rc : Nat} {b_Wa : Option Addr} {b_Wn b_Wc : Nat} (v_a_reads : Rd 1 encS okS H w (.slice a_Ra a_Rn a_Rc) a.reads) (v_a_writes : Rd 1 encS okS H w (.slice a_Wa a_Wn a_Wc) a.writes) (v_b_reads : Rd 1 encS okS H w (.slice b_Ra b_Rn b_Rc) b.reads) (v_b_writes : Rd 1 encS okS H w (.slice b_Wa b_Wn b_Wc) b.writes) :
    Calls Try.prog 23 #[.agg #[.slice a_Ra a_Rn a_Rc, .slice a_Wa a_Wn a_Wc], .agg #[.slice b_Ra b_Rn b_Rc, .slice b_Wa b_Wn b_Wc]] w fun e w' => e = .returned (.bool (decide (a = b))) ∧ Mv [] w [] w' := by
 have V_v_a_reads : Rd 1 encS okS (V H w []) w (.slice a_Ra a_Rn a_Rc) a.reads := Rd.start v_a_reads (fun _ _ => fps_nil _)
 obtain ⟨ln_a_reads, le_a_reads, mx_a_reads, ni_a_reads⟩ := Rd.inv v_a_reads
 have V_v_a_writes : Rd 1 encS okS (V H w []) w (.slice a_Wa a_Wn a_Wc) a.writes := Rd.start v_a_writes (fun _ _ => fps_nil _)
 obtain ⟨ln_a_writes, le_a_writes, mx_a_writes, ni_a_writes⟩ := Rd.inv v_a_writes
 have V_v_b_reads : Rd 1 encS okS (V H w []) w (.slice b_Ra b_Rn b_Rc) b.reads := Rd.start v_b_reads (fun _ _ => fps_nil _)
 obtain ⟨ln_b_reads, le_b_reads, mx_b_reads, ni_b_reads⟩ := Rd.inv v_b_reads
 have V_v_b_writes : Rd 1 encS okS (V H w []) w (.slice b_Wa b_Wn b_Wc) b.writes := Rd.start v_b_writes (fun _ _ => fps_nil _)
 obtain ⟨ln_b_writes, le_b_writes, mx_b_writes, ni_b_writes⟩ := Rd.inv v_b_writes
 refine calls_enter 17 Try.func23 rfl Try.ntmps23 (Nat.le_of_ble_eq_true rfl) (fun _ F0i => ?_)
 have F0 : Fr 17 [(0, .agg #[.slice a_Ra a_Rn a_Rc, .slice a_Wa a_Wn a_Wc]), (1, .agg #[.slice b_Ra b_Rn b_Rc, .slice b_Wa b_Wn b_Wc])] _ := F0i
 clear F0i
 refine wp_seq (wp_region_lit (l_op (f_box F0 (At.nil w) rfl rfl rfl (F0.ev 0 rfl) rfl rfl fun b1 _ w1 F2 S1 => ?_)))
 refine l_op (f_box F2 S1.at' rfl rfl rfl (F2.ev 1 rfl) rfl rfl fun b3 _ w3 F4 S3 => ?_)
 refine l_op (f_val F4 rfl rfl (r_assign rfl rfl) rfl fun _ F5 => ?_)
 have F6 : Fr 17 [(4, .bool false), (3, .pointer (some ⟨b3, 0, none⟩)), (2, .pointer (some ⟨b1, 0, none⟩))] _ := F5.cut rfl
 clear F0 F2 F4 F5
 have T7 : Mv _ _ [bx b3 [.slice b_Ra b_Rn b_Rc, .slice b_Wa b_Wn b_Wc] 26, bx b1 [.slice a_Ra a_Rn a_Rc, .slice a_Wa a_Wn a_Wc] 26] _ := S3
 refine s_end (x_normal (wp_seq (wp_region_lit (l_op (f_val F6 rfl rfl (r_field FI_26_0 rfl (F6.ev 2 rfl) rfl) rfl fun _ F8 => ?_)))))
 refine l_op (f_val (v := .slice a_Ra a_Rn a_Rc) F8 rfl rfl (r_loadB T7.at' 1 TI_22 rfl rfl (F8.ev 5 rfl) rfl rfl (fun _ => rfl) rfl) rfl fun _ F9 => ?_)
 refine l_op (f_val F9 rfl rfl (r_field FI_26_0 rfl (F9.ev 3 rfl) rfl) rfl fun _ F10 => ?_)
 refine l_op (f_val (v := .slice b_Ra b_Rn b_Rc) F10 rfl rfl (r_loadB T7.at' 0 TI_22 rfl rfl (F10.ev 7 rfl) rfl rfl (fun _ => rfl) rfl) rfl fun _ F11 => ?_)
 refine l_op (f_call F11 CF_31 rfl rfl rfl rfl (lc (F11.ev 6 rfl) (lc (F11.ev 8 rfl) rfl)) (laws_sameTexts_c (a := a.reads) (b := b.reads) (Rd.mv (Nat.succ_pos _) V_v_a_reads (S1.trans T7)) (Rd.mv (Nat.succ_pos _) V_v_b_reads (S1.trans T7))) ?_)
 rintro _ w12 ⟨rfl, m12⟩
 refine ⟨_, rfl, fun _ F13 => ?_⟩
 have S12 := At.frame0 T7.at' m12
 clear m12
 refine l_op (f_mv F13 rfl rfl rfl rfl rfl fun _ F14 => ?_)
 rcases Bool.eq_false_or_eq_true (decide (a.reads = b.reads)) with h15 | h15
 · rw [h15] at F14
   refine l_op (f_val F14 (wanted_g F14 rfl rfl rfl rfl) rfl (r_field FI_26_1 rfl (F14.ev 2 rfl) rfl) rfl fun _ F16 => ?_)
   refine l_op (f_val (v := .slice a_Wa a_Wn a_Wc) F16 (wanted_g F16 rfl rfl rfl rfl) rfl (r_loadB S12.at' 1 TI_22 rfl rfl (F16.ev 11 rfl) rfl rfl (fun _ => rfl) rfl) rfl fun _ F17 => ?_)
   refine l_op (f_val F17 (wanted_g F17 rfl rfl rfl rfl) rfl (r_field FI_26_1 rfl (F17.ev 3 rfl) rfl) rfl fun _ F18 => ?_)
   refine l_op (f_val (v := .slice b_Wa b_Wn b_Wc) F18 (wanted_g F18 rfl rfl rfl rfl) rfl (r_loadB S12.at' 0 TI_22 rfl rfl (F18.ev 13 rfl) rfl rfl (fun _ => rfl) rfl) rfl fun _ F19 => ?_)
   refine l_op (f_call F19 CF_31 (wanted_g F19 rfl rfl rfl rfl) rfl rfl rfl (lc (F19.ev 12 rfl) (lc (F19.ev 14 rfl) rfl)) (laws_sameTexts_c (a := a.writes) (b := b.writes) (Rd.mv (Nat.succ_pos _) V_v_a_writes (S1.trans (T7.trans S12))) (Rd.mv (Nat.succ_pos _) V_v_b_writes (S1.trans (T7.trans S12)))) ?_)
   rintro _ w20 ⟨rfl, m20⟩
   refine ⟨_, rfl, fun _ F21 => ?_⟩
   have S20 := At.frame0 S12.at' m20
   clear m20
   refine l_op (f_val F21 rfl rfl (r_pick (b := true) rfl (F21.ev 10 rfl) (F21.ev 15 rfl)) rfl fun _ F22 => ?_)
   refine l_op (f_as F22 rfl rfl rfl rfl rfl fun _ F23 => ?_)
   have F24 : Fr 17 [(4, .bool (decide (a.writes = b.writes)))] _ := F23.cut rfl
   clear F6 F8 F9 F10 F11 F13 F14 F16 F17 F18 F19 F21 F22 F23
   have T25 : Mv _ _ [bx b3 [.slice b_Ra b_Rn b_Rc, .slice b_Wa b_Wn b_Wc] 26, bx b1 [.slice a_Ra a_Rn a_Rc, .slice a_Wa a_Wn a_Wc] 26] _ := S20
   refine s_end (x_normal (wp_ret ?_))
   refine x_done (v := .bool (decide (a.writes = b.writes))) F24 (results_1 Try.results23 (.tmp (F24.ev 4 rfl))) ?_
   exact ⟨(by rw [(show (decide (a.writes = b.writes)) = (decide (a = b)) from by first | exact (touch_ne (by assumption)).symm | exact (touch_eq (by assumption)).symm)]), (Mv.pick (S1.trans (T7.trans (S12.trans T25))) [] rfl)⟩
 · rw [h15] at F14
   refine l_op (f_skip F14 (wanted_g F14 rfl rfl rfl rfl) rfl rfl fun _ F26 => ?_)
   refine l_op (f_skip F26 (wanted_g F26 rfl rfl rfl rfl) rfl rfl fun _ F27 => ?_)
   refine l_op (f_skip F27 (wanted_g F27 rfl rfl rfl rfl) rfl rfl fun _ F28 => ?_)
   refine l_op (f_skip F28 (wanted_g F28 rfl rfl rfl rfl) rfl rfl fun _ F29 => ?_)
   refine l_op (f_skip F29 (wanted_g F29 rfl rfl rfl rfl) rfl rfl fun _ F30 => ?_)
   refine l_op (f_val F30 rfl rfl (r_pick (b := false) rfl (F30.ev 10 rfl) rfl) rfl fun _ F31 => ?_)
   refine l_op (f_as F31 rfl rfl rfl rfl rfl fun _ F32 => ?_)
   have F33 : Fr 17 [(4, .bool false)] _ := F32.cut rfl
   clear F6 F8 F9 F10 F11 F13 F14 F26 F27 F28 F29 F30 F31 F32
   have T34 : Mv _ _ [bx b3 [.slice b_Ra b_Rn b_Rc, .slice b_Wa b_Wn b_Wc] 26, bx b1 [.slice a_Ra a_Rn a_Rc, .slice a_Wa a_Wn a_Wc] 26] _ := S12
   refine s_end (x_normal (wp_ret ?_))
   refine x_done (v := .bool false) F33 (results_1 Try.results23 (.tmp (F33.ev 4 rfl))) ?_
   exact ⟨(by rw [(show false = (decide (a = b)) from by first | exact (touch_ne (by assumption)).symm | exact (touch_eq (by assumption)).symm)]), (Mv.pick (S1.trans (T7.trans T34)) [] rfl)⟩
theorem impl_SameTouch_c {w : World} {H : Nat → Prop} {a : TouchD} {a_Ra : Option Addr} {a_Rn a_Rc : Nat} {a_Wa : Option Addr} {a_Wn a_Wc : Nat} {b : TouchD} {b_Ra : Option Addr} {b_Rn b_Rc : Nat} {b_Wa : Option Addr} {b_Wn b_Wc : Nat} (v_a_reads : Rd 1 encS okS H w (.slice a_Ra a_Rn a_Rc) a.reads) (v_a_writes : Rd 1 encS okS H w (.slice a_Wa a_Wn a_Wc) a.writes) (v_b_reads : Rd 1 encS okS H w (.slice b_Ra b_Rn b_Rc) b.reads) (v_b_writes : Rd 1 encS okS H w (.slice b_Wa b_Wn b_Wc) b.writes) :
    Calls Try.prog 26 #[.agg #[.slice a_Ra a_Rn a_Rc, .slice a_Wa a_Wn a_Wc], .agg #[.slice b_Ra b_Rn b_Rc, .slice b_Wa b_Wn b_Wc]] w fun e w' => e = .returned (.bool (decide (a = b))) ∧ Mv [] w [] w' := by
 have V_v_a_reads : Rd 1 encS okS (V H w []) w (.slice a_Ra a_Rn a_Rc) a.reads := Rd.start v_a_reads (fun _ _ => fps_nil _)
 obtain ⟨ln_a_reads, le_a_reads, mx_a_reads, ni_a_reads⟩ := Rd.inv v_a_reads
 have V_v_a_writes : Rd 1 encS okS (V H w []) w (.slice a_Wa a_Wn a_Wc) a.writes := Rd.start v_a_writes (fun _ _ => fps_nil _)
 obtain ⟨ln_a_writes, le_a_writes, mx_a_writes, ni_a_writes⟩ := Rd.inv v_a_writes
 have V_v_b_reads : Rd 1 encS okS (V H w []) w (.slice b_Ra b_Rn b_Rc) b.reads := Rd.start v_b_reads (fun _ _ => fps_nil _)
 obtain ⟨ln_b_reads, le_b_reads, mx_b_reads, ni_b_reads⟩ := Rd.inv v_b_reads
 have V_v_b_writes : Rd 1 encS okS (V H w []) w (.slice b_Wa b_Wn b_Wc) b.writes := Rd.start v_b_writes (fun _ _ => fps_nil _)
 obtain ⟨ln_b_writes, le_b_writes, mx_b_writes, ni_b_writes⟩ := Rd.inv v_b_writes
 refine calls_enter 17 Try.func26 rfl Try.ntmps26 (Nat.le_of_ble_eq_true rfl) (fun _ F0i => ?_)
 have F0 : Fr 17 [(0, .agg #[.slice a_Ra a_Rn a_Rc, .slice a_Wa a_Wn a_Wc]), (1, .agg #[.slice b_Ra b_Rn b_Rc, .slice b_Wa b_Wn b_Wc])] _ := F0i
 clear F0i
 refine wp_seq (wp_region_lit (l_op (f_box F0 (At.nil w) rfl rfl rfl (F0.ev 0 rfl) rfl rfl fun b1 _ w1 F2 S1 => ?_)))
 refine l_op (f_box F2 S1.at' rfl rfl rfl (F2.ev 1 rfl) rfl rfl fun b3 _ w3 F4 S3 => ?_)
 refine l_op (f_val F4 rfl rfl (r_assign rfl rfl) rfl fun _ F5 => ?_)
 have F6 : Fr 17 [(4, .bool false), (3, .pointer (some ⟨b3, 0, none⟩)), (2, .pointer (some ⟨b1, 0, none⟩))] _ := F5.cut rfl
 clear F0 F2 F4 F5
 have T7 : Mv _ _ [bx b3 [.slice b_Ra b_Rn b_Rc, .slice b_Wa b_Wn b_Wc] 26, bx b1 [.slice a_Ra a_Rn a_Rc, .slice a_Wa a_Wn a_Wc] 26] _ := S3
 refine s_end (x_normal (wp_seq (wp_region_lit (l_op (f_val F6 rfl rfl (r_field FI_26_0 rfl (F6.ev 2 rfl) rfl) rfl fun _ F8 => ?_)))))
 refine l_op (f_val (v := .slice a_Ra a_Rn a_Rc) F8 rfl rfl (r_loadB T7.at' 1 TI_22 rfl rfl (F8.ev 5 rfl) rfl rfl (fun _ => rfl) rfl) rfl fun _ F9 => ?_)
 refine l_op (f_val F9 rfl rfl (r_field FI_26_0 rfl (F9.ev 3 rfl) rfl) rfl fun _ F10 => ?_)
 refine l_op (f_val (v := .slice b_Ra b_Rn b_Rc) F10 rfl rfl (r_loadB T7.at' 0 TI_22 rfl rfl (F10.ev 7 rfl) rfl rfl (fun _ => rfl) rfl) rfl fun _ F11 => ?_)
 refine l_op (f_call F11 CF_74 rfl rfl rfl rfl (lc (F11.ev 6 rfl) (lc (F11.ev 8 rfl) rfl)) (slices_Equal_Sstring_string_c (a := a.reads) (b := b.reads) (Rd.mv (Nat.succ_pos _) V_v_a_reads (S1.trans T7)) (Rd.mv (Nat.succ_pos _) V_v_b_reads (S1.trans T7))) ?_)
 rintro _ w12 ⟨rfl, m12⟩
 refine ⟨_, rfl, fun _ F13 => ?_⟩
 have S12 := At.frame0 T7.at' m12
 clear m12
 refine l_op (f_mv F13 rfl rfl rfl rfl rfl fun _ F14 => ?_)
 rcases Bool.eq_false_or_eq_true (decide (a.reads = b.reads)) with h15 | h15
 · rw [h15] at F14
   refine l_op (f_val F14 (wanted_g F14 rfl rfl rfl rfl) rfl (r_field FI_26_1 rfl (F14.ev 2 rfl) rfl) rfl fun _ F16 => ?_)
   refine l_op (f_val (v := .slice a_Wa a_Wn a_Wc) F16 (wanted_g F16 rfl rfl rfl rfl) rfl (r_loadB S12.at' 1 TI_22 rfl rfl (F16.ev 11 rfl) rfl rfl (fun _ => rfl) rfl) rfl fun _ F17 => ?_)
   refine l_op (f_val F17 (wanted_g F17 rfl rfl rfl rfl) rfl (r_field FI_26_1 rfl (F17.ev 3 rfl) rfl) rfl fun _ F18 => ?_)
   refine l_op (f_val (v := .slice b_Wa b_Wn b_Wc) F18 (wanted_g F18 rfl rfl rfl rfl) rfl (r_loadB S12.at' 0 TI_22 rfl rfl (F18.ev 13 rfl) rfl rfl (fun _ => rfl) rfl) rfl fun _ F19 => ?_)
   refine l_op (f_call F19 CF_74 (wanted_g F19 rfl rfl rfl rfl) rfl rfl rfl (lc (F19.ev 12 rfl) (lc (F19.ev 14 rfl) rfl)) (slices_Equal_Sstring_string_c (a := a.writes) (b := b.writes) (Rd.mv (Nat.succ_pos _) V_v_a_writes (S1.trans (T7.trans S12))) (Rd.mv (Nat.succ_pos _) V_v_b_writes (S1.trans (T7.trans S12)))) ?_)
   rintro _ w20 ⟨rfl, m20⟩
   refine ⟨_, rfl, fun _ F21 => ?_⟩
   have S20 := At.frame0 S12.at' m20
   clear m20
   refine l_op (f_val F21 rfl rfl (r_pick (b := true) rfl (F21.ev 10 rfl) (F21.ev 15 rfl)) rfl fun _ F22 => ?_)
   refine l_op (f_as F22 rfl rfl rfl rfl rfl fun _ F23 => ?_)
   have F24 : Fr 17 [(4, .bool (decide (a.writes = b.writes)))] _ := F23.cut rfl
   clear F6 F8 F9 F10 F11 F13 F14 F16 F17 F18 F19 F21 F22 F23
   have T25 : Mv _ _ [bx b3 [.slice b_Ra b_Rn b_Rc, .slice b_Wa b_Wn b_Wc] 26, bx b1 [.slice a_Ra a_Rn a_Rc, .slice a_Wa a_Wn a_Wc] 26] _ := S20
   refine s_end (x_normal (wp_ret ?_))
   refine x_done (v := .bool (decide (a.writes = b.writes))) F24 (results_1 Try.results26 (.tmp (F24.ev 4 rfl))) ?_
   exact ⟨(by rw [(show (decide (a.writes = b.writes)) = (decide (a = b)) from by first | exact (touch_ne (by assumption)).symm | exact (touch_eq (by assumption)).symm)]), (Mv.pick (S1.trans (T7.trans (S12.trans T25))) [] rfl)⟩
 · rw [h15] at F14
   refine l_op (f_skip F14 (wanted_g F14 rfl rfl rfl rfl) rfl rfl fun _ F26 => ?_)
   refine l_op (f_skip F26 (wanted_g F26 rfl rfl rfl rfl) rfl rfl fun _ F27 => ?_)
   refine l_op (f_skip F27 (wanted_g F27 rfl rfl rfl rfl) rfl rfl fun _ F28 => ?_)
   refine l_op (f_skip F28 (wanted_g F28 rfl rfl rfl rfl) rfl rfl fun _ F29 => ?_)
   refine l_op (f_skip F29 (wanted_g F29 rfl rfl rfl rfl) rfl rfl fun _ F30 => ?_)
   refine l_op (f_val F30 rfl rfl (r_pick (b := false) rfl (F30.ev 10 rfl) rfl) rfl fun _ F31 => ?_)
   refine l_op (f_as F31 rfl rfl rfl rfl rfl fun _ F32 => ?_)
   have F33 : Fr 17 [(4, .bool false)] _ := F32.cut rfl
   clear F6 F8 F9 F10 F11 F13 F14 F26 F27 F28 F29 F30 F31 F32
   have T34 : Mv _ _ [bx b3 [.slice b_Ra b_Rn b_Rc, .slice b_Wa b_Wn b_Wc] 26, bx b1 [.slice a_Ra a_Rn a_Rc, .slice a_Wa a_Wn a_Wc] 26] _ := S12
   refine s_end (x_normal (wp_ret ?_))
   refine x_done (v := .bool false) F33 (results_1 Try.results26 (.tmp (F33.ev 4 rfl))) ?_
   exact ⟨(by rw [(show false = (decide (a = b)) from by first | exact (touch_ne (by assumption)).symm | exact (touch_eq (by assumption)).symm)]), (Mv.pick (S1.trans (T7.trans T34)) [] rfl)⟩
end Go.Proofs.Ytbbkihijhdpliaa
