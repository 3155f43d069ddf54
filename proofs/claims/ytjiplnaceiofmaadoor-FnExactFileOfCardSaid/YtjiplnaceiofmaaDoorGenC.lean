/-
  Walks: the laws' helpers on access sets and machines.
-/
import Derived.Test.YtjiplnaceiofmaaDoorAdapt
import Derived.Test.YtjiplnaceiofmaaDoorGenA
import Derived.Test.YtjiplnaceiofmaaDoorGenB
namespace Go.Proofs.YtjiplnaceiofmaaDoor
open Go.ChangeShapes Go.WideShapes Go.ChangeAt Go.RowKit
set_option maxRecDepth 100000
set_option maxHeartbeats 1000000
theorem laws_szTouch_c {w : World} {H : Nat → Prop} {a : TouchD} {a_reads_a : Option Addr} {a_reads_n a_reads_c : Nat} {a_writes_a : Option Addr} {a_writes_n a_writes_c : Nat} {left : Int} (v_a_reads : RdA 1 encS okS H w (.slice a_reads_a a_reads_n a_reads_c) a.reads) (v_a_writes : RdA 1 encS okS H w (.slice a_writes_a a_writes_n a_writes_c) a.writes) (h_left : i64ok left) (p0 : 0 ≤ left) (p1 : left ≤ 1048576) :
    Calls Tryd.prog 77 #[.agg #[.slice a_reads_a a_reads_n a_reads_c, .slice a_writes_a a_writes_n a_writes_c], .int .i64 left] w fun e w' => e = .returned (.int .i64 (subOr left (szTouchD a))) ∧ Mv [] w [] w' ∧ i64ok (subOr left (szTouchD a)) := by
 have V_v_a_reads : RdA 1 encS okS (V H w []) w (.slice a_reads_a a_reads_n a_reads_c) a.reads := RdA.start v_a_reads (fun _ _ => fps_nil _)
 obtain ⟨ln_a_reads, le_a_reads, mx_a_reads, ni_a_reads⟩ := RdA.inv v_a_reads
 have V_v_a_writes : RdA 1 encS okS (V H w []) w (.slice a_writes_a a_writes_n a_writes_c) a.writes := RdA.start v_a_writes (fun _ _ => fps_nil _)
 obtain ⟨ln_a_writes, le_a_writes, mx_a_writes, ni_a_writes⟩ := RdA.inv v_a_writes
 refine calls_enter 18 Tryd.func77 rfl Tryd.ntmps77 (Nat.le_of_ble_eq_true rfl) (fun _ F0i => ?_)
 have F0 : Fr 18 [(0, .agg #[.slice a_reads_a a_reads_n a_reads_c, .slice a_writes_a a_writes_n a_writes_c]), (1, .int .i64 left)] _ := F0i
 clear F0i
 refine wp_seq (wp_region_lit (l_op (f_box F0 (At.nil w) rfl rfl rfl (F0.ev 0 rfl) rfl rfl fun b1 _ w1 F2 S1 => ?_)))
 refine l_op (f_val F2 rfl rfl (r_assign rfl rfl) rfl fun _ F3 => ?_)
 have F4 : Fr 18 [(4, .int .i64 0), (2, .pointer (some ⟨b1, 0, none⟩)), (1, .int .i64 left)] _ := F3.cut rfl
 clear F0 F2 F3
 have T5 : Mv _ _ [bx b1 [.slice a_reads_a a_reads_n a_reads_c, .slice a_writes_a a_writes_n a_writes_c] 57] _ := S1
 refine s_end (x_normal (wp_seq (wp_region_lit (l_op (f_val F4 rfl rfl (r_field FI_57_0 rfl (F4.ev 2 rfl) rfl) rfl fun _ F6 => ?_)))))
 refine l_op (f_val (v := .slice a_reads_a a_reads_n a_reads_c) F6 rfl rfl (r_loadB T5.at' 0 TI_27 rfl rfl (F6.ev 5 rfl) rfl rfl (fun _ => rfl) rfl) rfl fun _ F7 => ?_)
 refine l_op (f_mv F7 rfl rfl rfl rfl rfl fun _ F8 => ?_)
 refine l_op (f_call F8 CF_115 rfl rfl rfl rfl (lc (F8.ev 6 rfl) (lc (F8.ev 7 rfl) rfl)) (laws_szStringS_c (a := a.reads) (left := left) (RdA.mv (Nat.succ_pos _) V_v_a_reads T5) h_left (by first | assumption | omega | (simp <;> omega)) (by first | assumption | (have := subOr_bd left (szStrs a.reads) p0; omega))) ?_)
 rintro _ w9 ⟨rfl, m9, q9_0⟩
 refine ⟨_, rfl, fun _ F10 => ?_⟩
 have S9 := At.frame0 T5.at' m9
 clear m9
 refine l_op (f_as F10 rfl rfl rfl rfl rfl fun _ F11 => ?_)
 have F12 : Fr 18 [(1, .int .i64 (subOr left (szStrs a.reads))), (2, .pointer (some ⟨b1, 0, none⟩))] _ := F11.cut rfl
 clear F4 F6 F7 F8 F10 F11
 have T13 : Mv _ _ [bx b1 [.slice a_reads_a a_reads_n a_reads_c, .slice a_writes_a a_writes_n a_writes_c] 57] _ := S9
 refine s_end (x_normal (wp_seq (wp_seq (wp_region_lit (l_op (f_mv F12 rfl rfl rfl rfl rfl fun _ F14 => ?_))))))
 refine l_op (f_val F14 rfl rfl (r_cmp (b := decide ((subOr left (szStrs a.reads)) < 0)) (.inr (.inr (.inl rfl))) rfl (F14.ev 9 rfl) rfl (dec_of (by omega))) rfl fun _ F15 => ?_)
 have F16 : Fr 18 [(10, .bool (decide ((subOr left (szStrs a.reads)) < 0))), (1, .int .i64 (subOr left (szStrs a.reads))), (2, .pointer (some ⟨b1, 0, none⟩))] _ := F15.cut rfl
 clear F12 F14 F15
 refine s_end (x_normal (x_cond (p := (subOr left (szStrs a.reads)) < 0) (F16.ev 10 rfl) (fun h17 => ?_) (fun h17 => ?_)))
 · skip
   refine wp_seq (wp_region_lit (l_op (f_val F16 rfl rfl (r_assign rfl rfl) rfl fun _ F18 => ?_)))
   have F19 : Fr 18 [(4, .int .i64 (-1))] _ := F18.cut rfl
   clear F16 F18
   refine s_end (x_normal (wp_ret (x_then_ret ?_)))
   refine x_done (v := .int .i64 (-1)) F19 (results_1 Tryd.results77 (.tmp (F19.ev 4 rfl))) ?_
   exact ⟨(by rw [(show (-1) = (subOr left (szTouchD a)) from by unfold szTouchD; exact (subOr_neg left _ _ (by assumption)).symm)]), (Mv.pick (T5.trans T13) [] rfl), subOr_i64 p0 p1⟩
 · skip
   refine wp_skip (x_normal (wp_seq (wp_region_lit (l_op (f_val F16 rfl rfl (r_field FI_57_1 rfl (F16.ev 2 rfl) rfl) rfl fun _ F20 => ?_)))))
   refine l_op (f_val (v := .slice a_writes_a a_writes_n a_writes_c) F20 rfl rfl (r_loadB T13.at' 0 TI_27 rfl rfl (F20.ev 11 rfl) rfl rfl (fun _ => rfl) rfl) rfl fun _ F21 => ?_)
   refine l_op (f_mv F21 rfl rfl rfl rfl rfl fun _ F22 => ?_)
   refine l_op (f_call F22 CF_115 rfl rfl rfl rfl (lc (F22.ev 12 rfl) (lc (F22.ev 13 rfl) rfl)) (laws_szStringS_c (a := a.writes) (left := (subOr left (szStrs a.reads))) (RdA.mv (Nat.succ_pos _) V_v_a_writes (T5.trans T13)) (by first | assumption | exact ⟨by omega, by omega⟩ | (unfold i64ok at *; omega)) (by first | assumption | omega | (simp <;> omega)) (by first | assumption | (have := subOr_bd left (szStrs a.reads) p0; omega))) ?_)
   rintro _ w23 ⟨rfl, m23, q23_0⟩
   refine ⟨_, rfl, fun _ F24 => ?_⟩
   have S23 := At.frame0 T13.at' m23
   clear m23
   refine l_op (f_as F24 rfl rfl rfl rfl rfl fun _ F25 => ?_)
   have F26 : Fr 18 [(1, .int .i64 (subOr (subOr left (szStrs a.reads)) (szStrs a.writes)))] _ := F25.cut rfl
   clear F16 F20 F21 F22 F24 F25
   have T27 : Mv _ _ [bx b1 [.slice a_reads_a a_reads_n a_reads_c, .slice a_writes_a a_writes_n a_writes_c] 57] _ := S23
   refine s_end (x_normal (wp_seq (wp_seq (wp_region_lit (l_op (f_mv F26 rfl rfl rfl rfl rfl fun _ F28 => ?_))))))
   refine l_op (f_val F28 rfl rfl (r_cmp (b := decide ((subOr (subOr left (szStrs a.reads)) (szStrs a.writes)) < 0)) (.inr (.inr (.inl rfl))) rfl (F28.ev 15 rfl) rfl (dec_of (by omega))) rfl fun _ F29 => ?_)
   have F30 : Fr 18 [(16, .bool (decide ((subOr (subOr left (szStrs a.reads)) (szStrs a.writes)) < 0))), (1, .int .i64 (subOr (subOr left (szStrs a.reads)) (szStrs a.writes)))] _ := F29.cut rfl
   clear F26 F28 F29
   refine s_end (x_normal (x_cond (p := (subOr (subOr left (szStrs a.reads)) (szStrs a.writes)) < 0) (F30.ev 16 rfl) (fun h31 => ?_) (fun h31 => ?_)))
   · skip
     refine wp_seq (wp_region_lit (l_op (f_val F30 rfl rfl (r_assign rfl rfl) rfl fun _ F32 => ?_)))
     have F33 : Fr 18 [(4, .int .i64 (-1))] _ := F32.cut rfl
     clear F30 F32
     refine s_end (x_normal (wp_ret (x_then_ret ?_)))
     refine x_done (v := .int .i64 (-1)) F33 (results_1 Tryd.results77 (.tmp (F33.ev 4 rfl))) ?_
     exact ⟨(by rw [(show (-1) = (subOr left (szTouchD a)) from by unfold szTouchD; rw [subOr_add left _ _ (by omega)] at *; unfold subOr at *; split at * <;> omega)]), (Mv.pick (T5.trans (T13.trans T27)) [] rfl), subOr_i64 p0 p1⟩
   · skip
     refine wp_skip (x_normal (wp_seq (wp_region_lit (l_op (f_mv F30 rfl rfl rfl rfl rfl fun _ F34 => ?_)))))
     refine l_op (f_as F34 rfl rfl rfl rfl rfl fun _ F35 => ?_)
     have F36 : Fr 18 [(4, .int .i64 (subOr (subOr left (szStrs a.reads)) (szStrs a.writes)))] _ := F35.cut rfl
     clear F30 F34 F35
     refine s_end (x_normal (wp_ret ?_))
     refine x_done (v := .int .i64 (subOr (subOr left (szStrs a.reads)) (szStrs a.writes))) F36 (results_1 Tryd.results77 (.tmp (F36.ev 4 rfl))) ?_
     exact ⟨(by rw [(show (subOr (subOr left (szStrs a.reads)) (szStrs a.writes)) = (subOr left (szTouchD a)) from by unfold szTouchD; exact subOr_add left _ _ (by omega))]), (Mv.pick (T5.trans (T13.trans T27)) [] rfl), subOr_i64 p0 p1⟩
theorem laws_toTouch_c {w : World} {H : Nat → Prop} {a : TouchD} {a_reads_a : Option Addr} {a_reads_n a_reads_c : Nat} {a_writes_a : Option Addr} {a_writes_n a_writes_c : Nat} (v_a_reads : RdA 1 encS okS H w (.slice a_reads_a a_reads_n a_reads_c) a.reads) (v_a_writes : RdA 1 encS okS H w (.slice a_writes_a a_writes_n a_writes_c) a.writes) (p0 : a.reads.length ≤ 1048576) (p1 : a.writes.length ≤ 1048576) :
    Calls Tryd.prog 81 #[.agg #[.slice a_reads_a a_reads_n a_reads_c, .slice a_writes_a a_writes_n a_writes_c]] w fun e w' => ∃ (r0_reads_a : Option Addr), ∃ (r0_reads_n : Nat), ∃ (r0_reads_c : Nat), ∃ (r0_writes_a : Option Addr), ∃ (r0_writes_n : Nat), ∃ (r0_writes_c : Nat), e = .returned (.agg #[.slice r0_reads_a r0_reads_n r0_reads_c, .slice r0_writes_a r0_writes_n r0_writes_c]) ∧ Mv [] w [ow 9 1 encS okS (.slice r0_reads_a r0_reads_n r0_reads_c) a.reads, ow 9 1 encS okS (.slice r0_writes_a r0_writes_n r0_writes_c) a.writes] w' := by
 have uU : True := (fun _ _ => trivial) p0 p1
 clear uU
 have V_v_a_reads : RdA 1 encS okS (V H w []) w (.slice a_reads_a a_reads_n a_reads_c) a.reads := RdA.start v_a_reads (fun _ _ => fps_nil _)
 obtain ⟨ln_a_reads, le_a_reads, mx_a_reads, ni_a_reads⟩ := RdA.inv v_a_reads
 have V_v_a_writes : RdA 1 encS okS (V H w []) w (.slice a_writes_a a_writes_n a_writes_c) a.writes := RdA.start v_a_writes (fun _ _ => fps_nil _)
 obtain ⟨ln_a_writes, le_a_writes, mx_a_writes, ni_a_writes⟩ := RdA.inv v_a_writes
 refine calls_enter 13 Tryd.func81 rfl Tryd.ntmps81 (Nat.le_of_ble_eq_true rfl) (fun _ F0i => ?_)
 have F0 : Fr 13 [(0, .agg #[.slice a_reads_a a_reads_n a_reads_c, .slice a_writes_a a_writes_n a_writes_c])] _ := F0i
 clear F0i
 refine wp_seq (wp_region_lit (l_op (f_box F0 (At.nil w) rfl rfl rfl (F0.ev 0 rfl) rfl rfl fun b1 _ w1 F2 S1 => ?_)))
 refine l_op (f_alloc F2 S1.at' ZI_29 rfl rfl rfl rfl rfl fun b3 _ w3 F4 S3 => ?_)
 have F5 : Fr 13 [(2, .pointer (some ⟨b3, 0, none⟩)), (1, .pointer (some ⟨b1, 0, none⟩))] _ := F4.cut rfl
 clear F0 F2 F4
 have T6 : Mv _ _ [bx b3 [.slice none 0 0, .slice none 0 0] 29, bx b1 [.slice a_reads_a a_reads_n a_reads_c, .slice a_writes_a a_writes_n a_writes_c] 57] _ := S3
 refine s_end (x_normal (wp_seq (wp_region_lit (l_op (f_alloc F5 T6.at' ZI_29 rfl rfl rfl rfl rfl fun b7 _ w7 F8 S7 => ?_)))))
 have F9 : Fr 13 [(3, .pointer (some ⟨b7, 0, none⟩)), (2, .pointer (some ⟨b3, 0, none⟩)), (1, .pointer (some ⟨b1, 0, none⟩))] _ := F8.cut rfl
 clear F5 F8
 have T10 : Mv _ _ [bx b7 [.slice none 0 0, .slice none 0 0] 29, bx b3 [.slice none 0 0, .slice none 0 0] 29, bx b1 [.slice a_reads_a a_reads_n a_reads_c, .slice a_writes_a a_writes_n a_writes_c] 57] _ := S7
 refine s_end (x_normal (wp_seq (wp_region_lit (l_op (f_val F9 rfl rfl (r_field FI_57_0 rfl (F9.ev 1 rfl) rfl) rfl fun _ F11 => ?_)))))
 refine l_op (f_val (v := .slice a_reads_a a_reads_n a_reads_c) F11 rfl rfl (r_loadB T10.at' 2 TI_27 rfl rfl (F11.ev 4 rfl) rfl rfl (fun _ => rfl) rfl) rfl fun _ F12 => ?_)
 refine l_op (f_call F12 CF_120 rfl rfl rfl rfl (lc (F12.ev 5 rfl) rfl) (laws_toStringS_c (a := a.reads) (RdA.mv (Nat.succ_pos _) V_v_a_reads (S1.trans (T6.trans T10))) (by first | assumption | omega | (simp <;> omega))) ?_)
 rintro _ w13 ⟨r0_a_13, r0_n_13, r0_c_13, rfl, m13⟩
 refine ⟨_, rfl, fun _ F14 => ?_⟩
 have S13 : Mv _ _ [ow 9 1 encS okS (.slice r0_a_13 r0_n_13 r0_c_13) a.reads, bx b7 [.slice none 0 0, .slice none 0 0] 29, bx b3 [.slice none 0 0, .slice none 0 0] 29, bx b1 [.slice a_reads_a a_reads_n a_reads_c, .slice a_writes_a a_writes_n a_writes_c] 57] _ := At.frame T10.at' [] rfl m13
 obtain ⟨lo13_0, lp13_0, lq13_0⟩ := At.ownInv S13.at' ET_27.hk 0 rfl
 clear m13
 refine l_op (f_val F14 rfl rfl (r_field FI_29_0 rfl (F14.ev 3 rfl) rfl) rfl fun _ F15 => ?_)
 refine l_op (s_store S13.at' 1 TI_27 rfl rfl rfl rfl rfl (F15.ev 7 rfl) (F15.ev 6 rfl) rfl rfl rfl rfl rfl fun w16 S16 => ?_)
 have F17 : Fr 13 [(7, .pointer (some ⟨b7, 0, none⟩)), (6, .slice r0_a_13 r0_n_13 r0_c_13), (3, .pointer (some ⟨b7, 0, none⟩)), (2, .pointer (some ⟨b3, 0, none⟩)), (1, .pointer (some ⟨b1, 0, none⟩))] _ := F15.cut rfl
 clear F9 F11 F12 F14 F15
 have T18 : Mv _ _ [bx b7 [.slice r0_a_13 r0_n_13 r0_c_13, .slice none 0 0] 29, ow 9 1 encS okS (.slice r0_a_13 r0_n_13 r0_c_13) a.reads, bx b3 [.slice none 0 0, .slice none 0 0] 29, bx b1 [.slice a_reads_a a_reads_n a_reads_c, .slice a_writes_a a_writes_n a_writes_c] 57] _ := S16
 refine s_end (x_normal (wp_seq (wp_region_lit (l_op (f_val F17 rfl rfl (r_field FI_57_1 rfl (F17.ev 1 rfl) rfl) rfl fun _ F19 => ?_)))))
 refine l_op (f_val (v := .slice a_writes_a a_writes_n a_writes_c) F19 rfl rfl (r_loadB T18.at' 3 TI_27 rfl rfl (F19.ev 8 rfl) rfl rfl (fun _ => rfl) rfl) rfl fun _ F20 => ?_)
 refine l_op (f_call F20 CF_120 rfl rfl rfl rfl (lc (F20.ev 9 rfl) rfl) (laws_toStringS_c (a := a.writes) (RdA.mv (Nat.succ_pos _) V_v_a_writes (S1.trans (T6.trans (T10.trans (S13.trans T18))))) (by first | assumption | omega | (simp <;> omega))) ?_)
 rintro _ w21 ⟨r0_a_21, r0_n_21, r0_c_21, rfl, m21⟩
 refine ⟨_, rfl, fun _ F22 => ?_⟩
 have S21 : Mv _ _ [ow 9 1 encS okS (.slice r0_a_21 r0_n_21 r0_c_21) a.writes, bx b7 [.slice r0_a_13 r0_n_13 r0_c_13, .slice none 0 0] 29, ow 9 1 encS okS (.slice r0_a_13 r0_n_13 r0_c_13) a.reads, bx b3 [.slice none 0 0, .slice none 0 0] 29, bx b1 [.slice a_reads_a a_reads_n a_reads_c, .slice a_writes_a a_writes_n a_writes_c] 57] _ := At.frame T18.at' [] rfl m21
 obtain ⟨lo21_0, lp21_0, lq21_0⟩ := At.ownInv S21.at' ET_27.hk 0 rfl
 clear m21
 refine l_op (f_val F22 rfl rfl (r_field FI_29_1 rfl (F22.ev 3 rfl) rfl) rfl fun _ F23 => ?_)
 refine l_op (s_store S21.at' 1 TI_27 rfl rfl rfl rfl rfl (F23.ev 11 rfl) (F23.ev 10 rfl) rfl rfl rfl rfl rfl fun w24 S24 => ?_)
 have F25 : Fr 13 [(11, .pointer (some ⟨b7, 1, none⟩)), (10, .slice r0_a_21 r0_n_21 r0_c_21), (3, .pointer (some ⟨b7, 0, none⟩)), (2, .pointer (some ⟨b3, 0, none⟩))] _ := F23.cut rfl
 clear F17 F19 F20 F22 F23
 have T26 : Mv _ _ [bx b7 [.slice r0_a_13 r0_n_13 r0_c_13, .slice r0_a_21 r0_n_21 r0_c_21] 29, ow 9 1 encS okS (.slice r0_a_21 r0_n_21 r0_c_21) a.writes, ow 9 1 encS okS (.slice r0_a_13 r0_n_13 r0_c_13) a.reads, bx b3 [.slice none 0 0, .slice none 0 0] 29, bx b1 [.slice a_reads_a a_reads_n a_reads_c, .slice a_writes_a a_writes_n a_writes_c] 57] _ := S24
 refine s_end (x_normal (wp_seq (wp_region_lit (l_op (f_val (v := .agg #[.slice r0_a_13 r0_n_13 r0_c_13, .slice r0_a_21 r0_n_21 r0_c_21]) F25 rfl rfl (r_loadB T26.at' 0 TI_29 rfl rfl (F25.ev 3 rfl) rfl rfl (fun h => nomatch h) rfl) rfl fun _ F27 => ?_)))))
 refine l_op (s_store T26.at' 3 TI_29 rfl rfl rfl rfl rfl (F27.ev 2 rfl) (F27.ev 12 rfl) rfl rfl rfl rfl rfl fun w28 S28 => ?_)
 have F29 : Fr 13 [(12, .agg #[.slice r0_a_13 r0_n_13 r0_c_13, .slice r0_a_21 r0_n_21 r0_c_21]), (2, .pointer (some ⟨b3, 0, none⟩))] _ := F27.cut rfl
 clear F25 F27
 have T30 : Mv _ _ [bx b3 [.slice r0_a_13 r0_n_13 r0_c_13, .slice r0_a_21 r0_n_21 r0_c_21] 29, bx b7 [.slice r0_a_13 r0_n_13 r0_c_13, .slice r0_a_21 r0_n_21 r0_c_21] 29, ow 9 1 encS okS (.slice r0_a_21 r0_n_21 r0_c_21) a.writes, ow 9 1 encS okS (.slice r0_a_13 r0_n_13 r0_c_13) a.reads, bx b1 [.slice a_reads_a a_reads_n a_reads_c, .slice a_writes_a a_writes_n a_writes_c] 57] _ := S28
 refine s_end (x_normal (wp_ret ?_))
 refine x_done (v := .agg #[.slice r0_a_13 r0_n_13 r0_c_13, .slice r0_a_21 r0_n_21 r0_c_21]) F29 (results_1 Tryd.results81 (.cell (F29.ev 2 rfl) (run_loadVar' TI_29 _ [.slice r0_a_13 r0_n_13 r0_c_13, .slice r0_a_21 r0_n_21 r0_c_21] rfl (fun h => nomatch h) (At.cells T30.at' 0 rfl 0 [.slice r0_a_13 r0_n_13 r0_c_13, .slice r0_a_21 r0_n_21 r0_c_21] rfl)))) ?_
 exact ⟨r0_a_13, r0_n_13, r0_c_13, r0_a_21, r0_n_21, r0_c_21, rfl, (Mv.pick (S1.trans (T6.trans (T10.trans (S13.trans (T18.trans (S21.trans (T26.trans T30))))))) [3, 2] rfl)⟩
theorem laws_eqTouch_c {w : World} {H : Nat → Prop} {a : TouchD} {a_reads_a : Option Addr} {a_reads_n a_reads_c : Nat} {a_writes_a : Option Addr} {a_writes_n a_writes_c : Nat} {b : TouchD} {b_reads_a : Option Addr} {b_reads_n b_reads_c : Nat} {b_writes_a : Option Addr} {b_writes_n b_writes_c : Nat} (v_a_reads : Rd 1 encS okS H w (.slice a_reads_a a_reads_n a_reads_c) a.reads) (v_a_writes : Rd 1 encS okS H w (.slice a_writes_a a_writes_n a_writes_c) a.writes) (v_b_reads : Rd 1 encS okS H w (.slice b_reads_a b_reads_n b_reads_c) b.reads) (v_b_writes : Rd 1 encS okS H w (.slice b_writes_a b_writes_n b_writes_c) b.writes) (p0 : a = b) :
    Calls Tryd.prog 84 #[.agg #[.slice a_reads_a a_reads_n a_reads_c, .slice a_writes_a a_writes_n a_writes_c], .agg #[.slice b_reads_a b_reads_n b_reads_c, .slice b_writes_a b_writes_n b_writes_c]] w fun e w' => e = .returned (.bool true) ∧ Mv [] w [] w' := by
 have V_v_a_reads : Rd 1 encS okS (V H w []) w (.slice a_reads_a a_reads_n a_reads_c) a.reads := Rd.start v_a_reads (fun _ _ => fps_nil _)
 obtain ⟨ln_a_reads, le_a_reads, mx_a_reads, ni_a_reads⟩ := Rd.inv v_a_reads
 have V_v_a_writes : Rd 1 encS okS (V H w []) w (.slice a_writes_a a_writes_n a_writes_c) a.writes := Rd.start v_a_writes (fun _ _ => fps_nil _)
 obtain ⟨ln_a_writes, le_a_writes, mx_a_writes, ni_a_writes⟩ := Rd.inv v_a_writes
 have V_v_b_reads : Rd 1 encS okS (V H w []) w (.slice b_reads_a b_reads_n b_reads_c) b.reads := Rd.start v_b_reads (fun _ _ => fps_nil _)
 obtain ⟨ln_b_reads, le_b_reads, mx_b_reads, ni_b_reads⟩ := Rd.inv v_b_reads
 have V_v_b_writes : Rd 1 encS okS (V H w []) w (.slice b_writes_a b_writes_n b_writes_c) b.writes := Rd.start v_b_writes (fun _ _ => fps_nil _)
 obtain ⟨ln_b_writes, le_b_writes, mx_b_writes, ni_b_writes⟩ := Rd.inv v_b_writes
 refine calls_enter 17 Tryd.func84 rfl Tryd.ntmps84 (Nat.le_of_ble_eq_true rfl) (fun _ F0i => ?_)
 have F0 : Fr 17 [(0, .agg #[.slice a_reads_a a_reads_n a_reads_c, .slice a_writes_a a_writes_n a_writes_c]), (1, .agg #[.slice b_reads_a b_reads_n b_reads_c, .slice b_writes_a b_writes_n b_writes_c])] _ := F0i
 clear F0i
 refine wp_seq (wp_region_lit (l_op (f_box F0 (At.nil w) rfl rfl rfl (F0.ev 0 rfl) rfl rfl fun b1 _ w1 F2 S1 => ?_)))
 refine l_op (f_box F2 S1.at' rfl rfl rfl (F2.ev 1 rfl) rfl rfl fun b3 _ w3 F4 S3 => ?_)
 refine l_op (f_val F4 rfl rfl (r_assign rfl rfl) rfl fun _ F5 => ?_)
 have F6 : Fr 17 [(4, .bool false), (3, .pointer (some ⟨b3, 0, none⟩)), (2, .pointer (some ⟨b1, 0, none⟩))] _ := F5.cut rfl
 clear F0 F2 F4 F5
 have T7 : Mv _ _ [bx b3 [.slice b_reads_a b_reads_n b_reads_c, .slice b_writes_a b_writes_n b_writes_c] 29, bx b1 [.slice a_reads_a a_reads_n a_reads_c, .slice a_writes_a a_writes_n a_writes_c] 29] _ := S3
 refine s_end (x_normal (wp_seq (wp_seq (wp_region_lit (l_op (f_val F6 rfl rfl (r_field FI_29_0 rfl (F6.ev 2 rfl) rfl) rfl fun _ F8 => ?_))))))
 refine l_op (f_val (v := .slice a_reads_a a_reads_n a_reads_c) F8 rfl rfl (r_loadB T7.at' 1 TI_27 rfl rfl (F8.ev 5 rfl) rfl rfl (fun _ => rfl) rfl) rfl fun _ F9 => ?_)
 refine l_op (f_val F9 rfl rfl (r_field FI_29_0 rfl (F9.ev 3 rfl) rfl) rfl fun _ F10 => ?_)
 refine l_op (f_val (v := .slice b_reads_a b_reads_n b_reads_c) F10 rfl rfl (r_loadB T7.at' 0 TI_27 rfl rfl (F10.ev 7 rfl) rfl rfl (fun _ => rfl) rfl) rfl fun _ F11 => ?_)
 refine l_op (f_call F11 CF_122 rfl rfl rfl rfl (lc (F11.ev 6 rfl) (lc (F11.ev 8 rfl) rfl)) (laws_eqStringS_c (a := a.reads) (b := b.reads) (Rd.mv (Nat.succ_pos _) V_v_a_reads (S1.trans T7)) (Rd.mv (Nat.succ_pos _) V_v_b_reads (S1.trans T7)) (by rw [p0])) ?_)
 rintro _ w12 ⟨rfl, m12⟩
 refine ⟨_, rfl, fun _ F13 => ?_⟩
 have S12 := At.frame0 T7.at' m12
 clear m12
 refine l_op (f_val F13 rfl rfl (r_not rfl (F13.ev 9 rfl)) rfl fun _ F14 => ?_)
 have F15 : Fr 17 [(10, .bool false), (3, .pointer (some ⟨b3, 0, none⟩)), (2, .pointer (some ⟨b1, 0, none⟩))] _ := F14.cut rfl
 clear F6 F8 F9 F10 F11 F13 F14
 have T16 : Mv _ _ [bx b3 [.slice b_reads_a b_reads_n b_reads_c, .slice b_writes_a b_writes_n b_writes_c] 29, bx b1 [.slice a_reads_a a_reads_n a_reads_c, .slice a_writes_a a_writes_n a_writes_c] 29] _ := S12
 refine s_end (x_normal (wp_cond_false (F15.ev 10 rfl) (wp_skip (x_normal (wp_seq (wp_seq (wp_region_lit (l_op (f_val F15 rfl rfl (r_field FI_29_1 rfl (F15.ev 2 rfl) rfl) rfl fun _ F17 => ?_)))))))))
 refine l_op (f_val (v := .slice a_writes_a a_writes_n a_writes_c) F17 rfl rfl (r_loadB T16.at' 1 TI_27 rfl rfl (F17.ev 11 rfl) rfl rfl (fun _ => rfl) rfl) rfl fun _ F18 => ?_)
 refine l_op (f_val F18 rfl rfl (r_field FI_29_1 rfl (F18.ev 3 rfl) rfl) rfl fun _ F19 => ?_)
 refine l_op (f_val (v := .slice b_writes_a b_writes_n b_writes_c) F19 rfl rfl (r_loadB T16.at' 0 TI_27 rfl rfl (F19.ev 13 rfl) rfl rfl (fun _ => rfl) rfl) rfl fun _ F20 => ?_)
 refine l_op (f_call F20 CF_122 rfl rfl rfl rfl (lc (F20.ev 12 rfl) (lc (F20.ev 14 rfl) rfl)) (laws_eqStringS_c (a := a.writes) (b := b.writes) (Rd.mv (Nat.succ_pos _) V_v_a_writes (S1.trans (T7.trans T16))) (Rd.mv (Nat.succ_pos _) V_v_b_writes (S1.trans (T7.trans T16))) (by rw [p0])) ?_)
 rintro _ w21 ⟨rfl, m21⟩
 refine ⟨_, rfl, fun _ F22 => ?_⟩
 have S21 := At.frame0 T16.at' m21
 clear m21
 refine l_op (f_val F22 rfl rfl (r_not rfl (F22.ev 15 rfl)) rfl fun _ F23 => ?_)
 have F24 : Fr 17 [(16, .bool false)] _ := F23.cut rfl
 clear F15 F17 F18 F19 F20 F22 F23
 have T25 : Mv _ _ [bx b3 [.slice b_reads_a b_reads_n b_reads_c, .slice b_writes_a b_writes_n b_writes_c] 29, bx b1 [.slice a_reads_a a_reads_n a_reads_c, .slice a_writes_a a_writes_n a_writes_c] 29] _ := S21
 refine s_end (x_normal (wp_cond_false (F24.ev 16 rfl) (wp_skip (x_normal (wp_seq (wp_region_lit (l_op (f_val F24 rfl rfl (r_assign rfl rfl) rfl fun _ F26 => ?_))))))))
 have F27 : Fr 17 [(4, .bool true)] _ := F26.cut rfl
 clear F24 F26
 refine s_end (x_normal (wp_ret ?_))
 refine x_done (v := .bool true) F27 (results_1 Tryd.results84 (.tmp (F27.ev 4 rfl))) ?_
 exact ⟨rfl, (Mv.pick (S1.trans (T7.trans (T16.trans T25))) [] rfl)⟩
theorem laws_markTouch_c {w : World} {H : Nat → Prop} {a : TouchD} {a_reads_a : Option Addr} {a_reads_n a_reads_c : Nat} {a_writes_a : Option Addr} {a_writes_n a_writes_c : Nat} {k : Nat} (h_k : i64ok (k : Int)) (p0 : k ≤ 1099511627776) (p1 : a.reads.length ≤ 1099511627776) (p2 : a.writes.length ≤ 1099511627776) (hA : At w [ow 9 1 encS okS (.slice a_reads_a a_reads_n a_reads_c) a.reads, ow 9 1 encS okS (.slice a_writes_a a_writes_n a_writes_c) a.writes]) :
    Calls Tryd.prog 86 #[.agg #[.slice a_reads_a a_reads_n a_reads_c, .slice a_writes_a a_writes_n a_writes_c], .int .i64 ((k : Nat) : Int)] w fun e w' => e = .returned (.int .i64 ((k + cntT a : Nat) : Int)) ∧ Mv [ow 9 1 encS okS (.slice a_reads_a a_reads_n a_reads_c) a.reads, ow 9 1 encS okS (.slice a_writes_a a_writes_n a_writes_c) a.writes] w [ow 9 1 encS okS (.slice a_reads_a a_reads_n a_reads_c) (marksT k a).reads, ow 9 1 encS okS (.slice a_writes_a a_writes_n a_writes_c) (marksT k a).writes] w' := by
 have uU : True := (fun _ _ _ _ _ => trivial) H h_k p0 p1 p2
 clear uU
 obtain ⟨lo0, lp0, lq0⟩ := At.ownInv hA ET_27.hk 0 rfl
 obtain ⟨lo1, lp1, lq1⟩ := At.ownInv hA ET_27.hk 1 rfl
 refine calls_enter 14 Tryd.func86 rfl Tryd.ntmps86 (Nat.le_of_ble_eq_true rfl) (fun _ F0i => ?_)
 have F0 : Fr 14 [(0, .agg #[.slice a_reads_a a_reads_n a_reads_c, .slice a_writes_a a_writes_n a_writes_c]), (1, .int .i64 ((k : Nat) : Int))] _ := F0i
 clear F0i
 refine wp_seq (wp_region_lit (l_op (f_box F0 hA rfl rfl rfl (F0.ev 0 rfl) rfl rfl fun b1 _ w1 F2 S1 => ?_)))
 refine l_op (f_val F2 rfl rfl (r_assign rfl rfl) rfl fun _ F3 => ?_)
 have F4 : Fr 14 [(4, .int .i64 0), (2, .pointer (some ⟨b1, 0, none⟩)), (1, .int .i64 ((k : Nat) : Int))] _ := F3.cut rfl
 clear F0 F2 F3
 have T5 : Mv _ _ [bx b1 [.slice a_reads_a a_reads_n a_reads_c, .slice a_writes_a a_writes_n a_writes_c] 29, ow 9 1 encS okS (.slice a_reads_a a_reads_n a_reads_c) a.reads, ow 9 1 encS okS (.slice a_writes_a a_writes_n a_writes_c) a.writes] _ := S1
 refine s_end (x_normal (wp_seq (wp_region_lit (l_op (f_val F4 rfl rfl (r_field FI_29_0 rfl (F4.ev 2 rfl) rfl) rfl fun _ F6 => ?_)))))
 refine l_op (f_val (v := .slice a_reads_a a_reads_n a_reads_c) F6 rfl rfl (r_loadB T5.at' 0 TI_27 rfl rfl (F6.ev 5 rfl) rfl rfl (fun _ => rfl) rfl) rfl fun _ F7 => ?_)
 refine l_op (f_mv F7 rfl rfl rfl rfl rfl fun _ F8 => ?_)
 refine l_op (f_call F8 CF_124 rfl rfl rfl rfl (lc (F8.ev 6 rfl) (lc (F8.ev 7 rfl) rfl)) (laws_markStringS_c (H := fun _ => True) (a := a.reads) (k := k) ⟨by omega, by first | omega | (unfold i64ok at *; omega)⟩ (by first | assumption | omega | (simp <;> omega)) (At.pick (is := [1]) T5.at' rfl)) ?_)
 rintro _ w9 ⟨rfl, m9⟩
 refine ⟨_, rfl, fun _ F10 => ?_⟩
 have S9 : Mv _ _ [ow 9 1 encS okS (.slice a_reads_a a_reads_n a_reads_c) (marks k a.reads.length), bx b1 [.slice a_reads_a a_reads_n a_reads_c, .slice a_writes_a a_writes_n a_writes_c] 29, ow 9 1 encS okS (.slice a_writes_a a_writes_n a_writes_c) a.writes] _ := At.frame T5.at' [1] rfl m9
 obtain ⟨lo9_0, lp9_0, lq9_0⟩ := At.ownInv S9.at' ET_27.hk 0 rfl
 clear m9
 refine l_op (f_as F10 rfl rfl rfl rfl rfl fun _ F11 => ?_)
 have F12 : Fr 14 [(1, .int .i64 ((k + a.reads.length : Nat) : Int)), (2, .pointer (some ⟨b1, 0, none⟩))] _ := F11.cut rfl
 clear F4 F6 F7 F8 F10 F11
 refine s_end (x_normal (wp_seq (wp_region_lit (l_op (f_val F12 rfl rfl (r_field FI_29_1 rfl (F12.ev 2 rfl) rfl) rfl fun _ F13 => ?_)))))
 refine l_op (f_val (v := .slice a_writes_a a_writes_n a_writes_c) F13 rfl rfl (r_loadB S9.at' 1 TI_27 rfl rfl (F13.ev 9 rfl) rfl rfl (fun _ => rfl) rfl) rfl fun _ F14 => ?_)
 refine l_op (f_mv F14 rfl rfl rfl rfl rfl fun _ F15 => ?_)
 refine l_op (f_call F15 CF_124 rfl rfl rfl rfl (lc (F15.ev 10 rfl) (lc (F15.ev 11 rfl) rfl)) (laws_markStringS_c (H := fun _ => True) (a := a.writes) (k := k + a.reads.length) ⟨by omega, by first | omega | (unfold i64ok at *; omega)⟩ (by first | assumption | omega | (simp <;> omega)) (At.pick (is := [2]) S9.at' rfl)) ?_)
 rintro _ w16 ⟨rfl, m16⟩
 refine ⟨_, rfl, fun _ F17 => ?_⟩
 have S16 : Mv _ _ [ow 9 1 encS okS (.slice a_writes_a a_writes_n a_writes_c) (marks (k + a.reads.length) a.writes.length), ow 9 1 encS okS (.slice a_reads_a a_reads_n a_reads_c) (marks k a.reads.length), bx b1 [.slice a_reads_a a_reads_n a_reads_c, .slice a_writes_a a_writes_n a_writes_c] 29] _ := At.frame S9.at' [2] rfl m16
 obtain ⟨lo16_0, lp16_0, lq16_0⟩ := At.ownInv S16.at' ET_27.hk 0 rfl
 clear m16
 refine l_op (f_as F17 rfl rfl rfl rfl rfl fun _ F18 => ?_)
 have F19 : Fr 14 [(1, .int .i64 (((k + a.reads.length) + a.writes.length : Nat) : Int))] _ := F18.cut rfl
 clear F12 F13 F14 F15 F17 F18
 refine s_end (x_normal (wp_seq (wp_region_lit (l_op (f_mv F19 rfl rfl rfl rfl rfl fun _ F20 => ?_)))))
 refine l_op (f_as F20 rfl rfl rfl rfl rfl fun _ F21 => ?_)
 have F22 : Fr 14 [(4, .int .i64 (((k + a.reads.length) + a.writes.length : Nat) : Int))] _ := F21.cut rfl
 clear F19 F20 F21
 refine s_end (x_normal (wp_ret ?_))
 refine x_done (v := .int .i64 (((k + a.reads.length) + a.writes.length : Nat) : Int)) F22 (results_1 Tryd.results86 (.tmp (F22.ev 4 rfl))) ?_
 exact ⟨(by rw [(show (((k + a.reads.length) + a.writes.length : Nat) : Int) = ((k + cntT a : Nat) : Int) from by first | rfl | (unfold cntT; omega))]), (Mv.cast (Mv.pick (T5.trans (S9.trans S16)) [1, 0] rfl) (by rw [(show (marks k a.reads.length) = (marksT k a).reads from by first | rfl | (unfold cntT; omega)), (show (marks (k + a.reads.length) a.writes.length) = (marksT k a).writes from by first | rfl | (unfold cntT; omega))]; all_goals rfl))⟩
theorem laws_heldTouch_c {w : World} {H : Nat → Prop} {a : TouchD} {a_reads_a : Option Addr} {a_reads_n a_reads_c : Nat} {a_writes_a : Option Addr} {a_writes_n a_writes_c : Nat} {k : Nat} {d : TouchD} (v_a_reads : Rd 1 encS okS H w (.slice a_reads_a a_reads_n a_reads_c) a.reads) (v_a_writes : Rd 1 encS okS H w (.slice a_writes_a a_writes_n a_writes_c) a.writes) (h_k : i64ok (k : Int)) (p0 : a = marksT k d) (p1 : k ≤ 1099511627776) (p2 : d.reads.length ≤ 1099511627776) (p3 : d.writes.length ≤ 1099511627776) :
    Calls Tryd.prog 88 #[.agg #[.slice a_reads_a a_reads_n a_reads_c, .slice a_writes_a a_writes_n a_writes_c], .int .i64 ((k : Nat) : Int)] w fun e w' => e = .returned (.int .i64 ((k + cntT d : Nat) : Int)) ∧ Mv [] w [] w' := by
 have uU : True := (fun _ _ _ _ => trivial) h_k p1 p2 p3
 clear uU
 have V_v_a_reads : Rd 1 encS okS (V H w []) w (.slice a_reads_a a_reads_n a_reads_c) a.reads := Rd.start v_a_reads (fun _ _ => fps_nil _)
 obtain ⟨ln_a_reads, le_a_reads, mx_a_reads, ni_a_reads⟩ := Rd.inv v_a_reads
 have V_v_a_writes : Rd 1 encS okS (V H w []) w (.slice a_writes_a a_writes_n a_writes_c) a.writes := Rd.start v_a_writes (fun _ _ => fps_nil _)
 obtain ⟨ln_a_writes, le_a_writes, mx_a_writes, ni_a_writes⟩ := Rd.inv v_a_writes
 refine calls_enter 18 Tryd.func88 rfl Tryd.ntmps88 (Nat.le_of_ble_eq_true rfl) (fun _ F0i => ?_)
 have F0 : Fr 18 [(0, .agg #[.slice a_reads_a a_reads_n a_reads_c, .slice a_writes_a a_writes_n a_writes_c]), (1, .int .i64 ((k : Nat) : Int))] _ := F0i
 clear F0i
 refine wp_seq (wp_region_lit (l_op (f_box F0 (At.nil w) rfl rfl rfl (F0.ev 0 rfl) rfl rfl fun b1 _ w1 F2 S1 => ?_)))
 refine l_op (f_val F2 rfl rfl (r_assign rfl rfl) rfl fun _ F3 => ?_)
 have F4 : Fr 18 [(4, .int .i64 0), (2, .pointer (some ⟨b1, 0, none⟩)), (1, .int .i64 ((k : Nat) : Int))] _ := F3.cut rfl
 clear F0 F2 F3
 have T5 : Mv _ _ [bx b1 [.slice a_reads_a a_reads_n a_reads_c, .slice a_writes_a a_writes_n a_writes_c] 29] _ := S1
 refine s_end (x_normal (wp_seq (wp_region_lit (l_op (f_val F4 rfl rfl (r_field FI_29_0 rfl (F4.ev 2 rfl) rfl) rfl fun _ F6 => ?_)))))
 refine l_op (f_val (v := .slice a_reads_a a_reads_n a_reads_c) F6 rfl rfl (r_loadB T5.at' 0 TI_27 rfl rfl (F6.ev 5 rfl) rfl rfl (fun _ => rfl) rfl) rfl fun _ F7 => ?_)
 refine l_op (f_mv F7 rfl rfl rfl rfl rfl fun _ F8 => ?_)
 refine l_op (f_call F8 CF_125 rfl rfl rfl rfl (lc (F8.ev 6 rfl) (lc (F8.ev 7 rfl) rfl)) (laws_heldStringS_c (n := d.reads.length) (a := a.reads) (k := k) (Rd.mv (Nat.succ_pos _) V_v_a_reads T5) ⟨by omega, by first | omega | (unfold i64ok at *; omega)⟩ (by rw [p0]; rfl) (by first | assumption | omega | (simp <;> omega))) ?_)
 rintro _ w9 ⟨rfl, m9⟩
 refine ⟨_, rfl, fun _ F10 => ?_⟩
 have S9 := At.frame0 T5.at' m9
 clear m9
 refine l_op (f_as F10 rfl rfl rfl rfl rfl fun _ F11 => ?_)
 have F12 : Fr 18 [(1, .int .i64 ((k + d.reads.length : Nat) : Int)), (2, .pointer (some ⟨b1, 0, none⟩))] _ := F11.cut rfl
 clear F4 F6 F7 F8 F10 F11
 have T13 : Mv _ _ [bx b1 [.slice a_reads_a a_reads_n a_reads_c, .slice a_writes_a a_writes_n a_writes_c] 29] _ := S9
 refine s_end (x_normal (wp_seq (wp_seq (wp_region_lit (l_op (f_mv F12 rfl rfl rfl rfl rfl fun _ F14 => ?_))))))
 refine l_op (f_val F14 rfl rfl (r_cmp (b := false) (.inr (.inr (.inl rfl))) rfl (F14.ev 9 rfl) rfl (cmp_lt0 _ _ (by omega))) rfl fun _ F15 => ?_)
 have F16 : Fr 18 [(10, .bool false), (1, .int .i64 ((k + d.reads.length : Nat) : Int)), (2, .pointer (some ⟨b1, 0, none⟩))] _ := F15.cut rfl
 clear F12 F14 F15
 refine s_end (x_normal (wp_cond_false (F16.ev 10 rfl) (wp_skip (x_normal (wp_seq (wp_region_lit (l_op (f_val F16 rfl rfl (r_field FI_29_1 rfl (F16.ev 2 rfl) rfl) rfl fun _ F17 => ?_))))))))
 refine l_op (f_val (v := .slice a_writes_a a_writes_n a_writes_c) F17 rfl rfl (r_loadB T13.at' 0 TI_27 rfl rfl (F17.ev 11 rfl) rfl rfl (fun _ => rfl) rfl) rfl fun _ F18 => ?_)
 refine l_op (f_mv F18 rfl rfl rfl rfl rfl fun _ F19 => ?_)
 refine l_op (f_call F19 CF_125 rfl rfl rfl rfl (lc (F19.ev 12 rfl) (lc (F19.ev 13 rfl) rfl)) (laws_heldStringS_c (n := d.writes.length) (a := a.writes) (k := k + d.reads.length) (Rd.mv (Nat.succ_pos _) V_v_a_writes (T5.trans T13)) ⟨by omega, by first | omega | (unfold i64ok at *; omega)⟩ (by rw [p0]; rfl) (by first | assumption | omega | (simp <;> omega))) ?_)
 rintro _ w20 ⟨rfl, m20⟩
 refine ⟨_, rfl, fun _ F21 => ?_⟩
 have S20 := At.frame0 T13.at' m20
 clear m20
 refine l_op (f_as F21 rfl rfl rfl rfl rfl fun _ F22 => ?_)
 have F23 : Fr 18 [(1, .int .i64 (((k + d.reads.length) + d.writes.length : Nat) : Int))] _ := F22.cut rfl
 clear F16 F17 F18 F19 F21 F22
 have T24 : Mv _ _ [bx b1 [.slice a_reads_a a_reads_n a_reads_c, .slice a_writes_a a_writes_n a_writes_c] 29] _ := S20
 refine s_end (x_normal (wp_seq (wp_seq (wp_region_lit (l_op (f_mv F23 rfl rfl rfl rfl rfl fun _ F25 => ?_))))))
 refine l_op (f_val F25 rfl rfl (r_cmp (b := false) (.inr (.inr (.inl rfl))) rfl (F25.ev 15 rfl) rfl (cmp_lt0 _ _ (by omega))) rfl fun _ F26 => ?_)
 have F27 : Fr 18 [(16, .bool false), (1, .int .i64 (((k + d.reads.length) + d.writes.length : Nat) : Int))] _ := F26.cut rfl
 clear F23 F25 F26
 refine s_end (x_normal (wp_cond_false (F27.ev 16 rfl) (wp_skip (x_normal (wp_seq (wp_region_lit (l_op (f_mv F27 rfl rfl rfl rfl rfl fun _ F28 => ?_))))))))
 refine l_op (f_as F28 rfl rfl rfl rfl rfl fun _ F29 => ?_)
 have F30 : Fr 18 [(4, .int .i64 (((k + d.reads.length) + d.writes.length : Nat) : Int))] _ := F29.cut rfl
 clear F27 F28 F29
 refine s_end (x_normal (wp_ret ?_))
 refine x_done (v := .int .i64 (((k + d.reads.length) + d.writes.length : Nat) : Int)) F30 (results_1 Tryd.results88 (.tmp (F30.ev 4 rfl))) ?_
 exact ⟨(by rw [(show (((k + d.reads.length) + d.writes.length : Nat) : Int) = ((k + cntT d : Nat) : Int) from by unfold cntT; omega)]), (Mv.pick (T5.trans (T13.trans T24)) [] rfl)⟩
theorem laws_szMach_c {w : World} {H : Nat → Prop} {a : MachD} {a_store_a : Option Addr} {a_store_n a_store_c : Nat} {a_touch_reads_a : Option Addr} {a_touch_reads_n a_touch_reads_c : Nat} {a_touch_writes_a : Option Addr} {a_touch_writes_n a_touch_writes_c : Nat} {left : Int} (v_a_store : RdA 2 encC okC H w (.slice a_store_a a_store_n a_store_c) a.store) (v_a_touch_reads : RdA 1 encS okS H w (.slice a_touch_reads_a a_touch_reads_n a_touch_reads_c) a.touch.reads) (v_a_touch_writes : RdA 1 encS okS H w (.slice a_touch_writes_a a_touch_writes_n a_touch_writes_c) a.touch.writes) (h_left : i64ok left) (p0 : 0 ≤ left) (p1 : left ≤ 1048576) :
    Calls Tryd.prog 40 #[.agg #[.slice a_store_a a_store_n a_store_c, .slice a_touch_reads_a a_touch_reads_n a_touch_reads_c, .slice a_touch_writes_a a_touch_writes_n a_touch_writes_c], .int .i64 left] w fun e w' => e = .returned (.int .i64 (subOr left (szMachD a))) ∧ Mv [] w [] w' ∧ i64ok (subOr left (szMachD a)) := by
 have V_v_a_store : RdA 2 encC okC (V H w []) w (.slice a_store_a a_store_n a_store_c) a.store := RdA.start v_a_store (fun _ _ => fps_nil _)
 obtain ⟨ln_a_store, le_a_store, mx_a_store, ni_a_store⟩ := RdA.inv v_a_store
 have V_v_a_touch_reads : RdA 1 encS okS (V H w []) w (.slice a_touch_reads_a a_touch_reads_n a_touch_reads_c) a.touch.reads := RdA.start v_a_touch_reads (fun _ _ => fps_nil _)
 obtain ⟨ln_a_touch_reads, le_a_touch_reads, mx_a_touch_reads, ni_a_touch_reads⟩ := RdA.inv v_a_touch_reads
 have V_v_a_touch_writes : RdA 1 encS okS (V H w []) w (.slice a_touch_writes_a a_touch_writes_n a_touch_writes_c) a.touch.writes := RdA.start v_a_touch_writes (fun _ _ => fps_nil _)
 obtain ⟨ln_a_touch_writes, le_a_touch_writes, mx_a_touch_writes, ni_a_touch_writes⟩ := RdA.inv v_a_touch_writes
 refine calls_enter 18 Tryd.func40 rfl Tryd.ntmps40 (Nat.le_of_ble_eq_true rfl) (fun _ F0i => ?_)
 have F0 : Fr 18 [(0, .agg #[.slice a_store_a a_store_n a_store_c, .slice a_touch_reads_a a_touch_reads_n a_touch_reads_c, .slice a_touch_writes_a a_touch_writes_n a_touch_writes_c]), (1, .int .i64 left)] _ := F0i
 clear F0i
 refine wp_seq (wp_region_lit (l_op (f_box F0 (At.nil w) rfl rfl rfl (F0.ev 0 rfl) rfl rfl fun b1 _ w1 F2 S1 => ?_)))
 refine l_op (f_val F2 rfl rfl (r_assign rfl rfl) rfl fun _ F3 => ?_)
 have F4 : Fr 18 [(4, .int .i64 0), (2, .pointer (some ⟨b1, 0, none⟩)), (1, .int .i64 left)] _ := F3.cut rfl
 clear F0 F2 F3
 have T5 : Mv _ _ [bx b1 [.slice a_store_a a_store_n a_store_c, .slice a_touch_reads_a a_touch_reads_n a_touch_reads_c, .slice a_touch_writes_a a_touch_writes_n a_touch_writes_c] 59] _ := S1
 refine s_end (x_normal (wp_seq (wp_region_lit (l_op (f_val F4 rfl rfl (r_field FI_59_0 rfl (F4.ev 2 rfl) rfl) rfl fun _ F6 => ?_)))))
 refine l_op (f_val (v := .slice a_store_a a_store_n a_store_c) F6 rfl rfl (r_loadB T5.at' 0 TI_56 rfl rfl (F6.ev 5 rfl) rfl rfl (fun _ => rfl) rfl) rfl fun _ F7 => ?_)
 refine l_op (f_mv F7 rfl rfl rfl rfl rfl fun _ F8 => ?_)
 refine l_op (f_call F8 CF_76 rfl rfl rfl rfl (lc (F8.ev 6 rfl) (lc (F8.ev 7 rfl) rfl)) (laws_szCellS_c (a := a.store) (left := left) (RdA.mv (Nat.succ_pos _) V_v_a_store T5) h_left (by first | assumption | omega | (simp <;> omega)) (by first | assumption | omega | (simp <;> omega))) ?_)
 rintro _ w9 ⟨rfl, m9, q9_0⟩
 refine ⟨_, rfl, fun _ F10 => ?_⟩
 have S9 := At.frame0 T5.at' m9
 clear m9
 refine l_op (f_as F10 rfl rfl rfl rfl rfl fun _ F11 => ?_)
 have F12 : Fr 18 [(1, .int .i64 (subOr left (szCells a.store))), (2, .pointer (some ⟨b1, 0, none⟩))] _ := F11.cut rfl
 clear F4 F6 F7 F8 F10 F11
 have T13 : Mv _ _ [bx b1 [.slice a_store_a a_store_n a_store_c, .slice a_touch_reads_a a_touch_reads_n a_touch_reads_c, .slice a_touch_writes_a a_touch_writes_n a_touch_writes_c] 59] _ := S9
 refine s_end (x_normal (wp_seq (wp_seq (wp_region_lit (l_op (f_mv F12 rfl rfl rfl rfl rfl fun _ F14 => ?_))))))
 refine l_op (f_val F14 rfl rfl (r_cmp (b := decide ((subOr left (szCells a.store)) < 0)) (.inr (.inr (.inl rfl))) rfl (F14.ev 9 rfl) rfl (dec_of (by omega))) rfl fun _ F15 => ?_)
 have F16 : Fr 18 [(10, .bool (decide ((subOr left (szCells a.store)) < 0))), (1, .int .i64 (subOr left (szCells a.store))), (2, .pointer (some ⟨b1, 0, none⟩))] _ := F15.cut rfl
 clear F12 F14 F15
 refine s_end (x_normal (x_cond (p := (subOr left (szCells a.store)) < 0) (F16.ev 10 rfl) (fun h17 => ?_) (fun h17 => ?_)))
 · skip
   refine wp_seq (wp_region_lit (l_op (f_val F16 rfl rfl (r_assign rfl rfl) rfl fun _ F18 => ?_)))
   have F19 : Fr 18 [(4, .int .i64 (-1))] _ := F18.cut rfl
   clear F16 F18
   refine s_end (x_normal (wp_ret (x_then_ret ?_)))
   refine x_done (v := .int .i64 (-1)) F19 (results_1 Tryd.results40 (.tmp (F19.ev 4 rfl))) ?_
   exact ⟨(by rw [(show (-1) = (subOr left (szMachD a)) from by unfold szMachD; exact (subOr_neg left _ _ (by assumption)).symm)]), (Mv.pick (T5.trans T13) [] rfl), subOr_i64 p0 p1⟩
 · skip
   refine wp_skip (x_normal (wp_seq (wp_region_lit (l_op (f_val F16 rfl rfl (r_field FI_59_1 rfl (F16.ev 2 rfl) rfl) rfl fun _ F20 => ?_)))))
   refine l_op (f_val (v := .agg #[.slice a_touch_reads_a a_touch_reads_n a_touch_reads_c, .slice a_touch_writes_a a_touch_writes_n a_touch_writes_c]) F20 rfl rfl (r_loadB T13.at' 0 TI_57 rfl rfl (F20.ev 11 rfl) rfl rfl (fun h => nomatch h) rfl) rfl fun _ F21 => ?_)
   refine l_op (f_mv F21 rfl rfl rfl rfl rfl fun _ F22 => ?_)
   refine l_op (f_call F22 CF_77 rfl rfl rfl rfl (lc (F22.ev 12 rfl) (lc (F22.ev 13 rfl) rfl)) (laws_szTouch_c (a := a.touch) (left := (subOr left (szCells a.store))) (RdA.mv (Nat.succ_pos _) V_v_a_touch_reads (T5.trans T13)) (RdA.mv (Nat.succ_pos _) V_v_a_touch_writes (T5.trans T13)) (by first | assumption | exact ⟨by omega, by omega⟩ | (unfold i64ok at *; omega)) (by first | assumption | omega | (simp <;> omega)) (by first | assumption | (have := subOr_bd left (szCells a.store) p0; omega))) ?_)
   rintro _ w23 ⟨rfl, m23, q23_0⟩
   refine ⟨_, rfl, fun _ F24 => ?_⟩
   have S23 := At.frame0 T13.at' m23
   clear m23
   refine l_op (f_as F24 rfl rfl rfl rfl rfl fun _ F25 => ?_)
   have F26 : Fr 18 [(1, .int .i64 (subOr (subOr left (szCells a.store)) (szTouchD a.touch)))] _ := F25.cut rfl
   clear F16 F20 F21 F22 F24 F25
   have T27 : Mv _ _ [bx b1 [.slice a_store_a a_store_n a_store_c, .slice a_touch_reads_a a_touch_reads_n a_touch_reads_c, .slice a_touch_writes_a a_touch_writes_n a_touch_writes_c] 59] _ := S23
   refine s_end (x_normal (wp_seq (wp_seq (wp_region_lit (l_op (f_mv F26 rfl rfl rfl rfl rfl fun _ F28 => ?_))))))
   refine l_op (f_val F28 rfl rfl (r_cmp (b := decide ((subOr (subOr left (szCells a.store)) (szTouchD a.touch)) < 0)) (.inr (.inr (.inl rfl))) rfl (F28.ev 15 rfl) rfl (dec_of (by omega))) rfl fun _ F29 => ?_)
   have F30 : Fr 18 [(16, .bool (decide ((subOr (subOr left (szCells a.store)) (szTouchD a.touch)) < 0))), (1, .int .i64 (subOr (subOr left (szCells a.store)) (szTouchD a.touch)))] _ := F29.cut rfl
   clear F26 F28 F29
   refine s_end (x_normal (x_cond (p := (subOr (subOr left (szCells a.store)) (szTouchD a.touch)) < 0) (F30.ev 16 rfl) (fun h31 => ?_) (fun h31 => ?_)))
   · skip
     refine wp_seq (wp_region_lit (l_op (f_val F30 rfl rfl (r_assign rfl rfl) rfl fun _ F32 => ?_)))
     have F33 : Fr 18 [(4, .int .i64 (-1))] _ := F32.cut rfl
     clear F30 F32
     refine s_end (x_normal (wp_ret (x_then_ret ?_)))
     refine x_done (v := .int .i64 (-1)) F33 (results_1 Tryd.results40 (.tmp (F33.ev 4 rfl))) ?_
     exact ⟨(by rw [(show (-1) = (subOr left (szMachD a)) from by unfold szMachD; rw [subOr_add left _ _ (by omega)] at *; unfold subOr at *; split at * <;> omega)]), (Mv.pick (T5.trans (T13.trans T27)) [] rfl), subOr_i64 p0 p1⟩
   · skip
     refine wp_skip (x_normal (wp_seq (wp_region_lit (l_op (f_mv F30 rfl rfl rfl rfl rfl fun _ F34 => ?_)))))
     refine l_op (f_as F34 rfl rfl rfl rfl rfl fun _ F35 => ?_)
     have F36 : Fr 18 [(4, .int .i64 (subOr (subOr left (szCells a.store)) (szTouchD a.touch)))] _ := F35.cut rfl
     clear F30 F34 F35
     refine s_end (x_normal (wp_ret ?_))
     refine x_done (v := .int .i64 (subOr (subOr left (szCells a.store)) (szTouchD a.touch))) F36 (results_1 Tryd.results40 (.tmp (F36.ev 4 rfl))) ?_
     exact ⟨(by rw [(show (subOr (subOr left (szCells a.store)) (szTouchD a.touch)) = (subOr left (szMachD a)) from by unfold szMachD; exact subOr_add left _ _ (by omega))]), (Mv.pick (T5.trans (T13.trans T27)) [] rfl), subOr_i64 p0 p1⟩
theorem laws_toMach_c {w : World} {H : Nat → Prop} {a : MachD} {a_store_a : Option Addr} {a_store_n a_store_c : Nat} {a_touch_reads_a : Option Addr} {a_touch_reads_n a_touch_reads_c : Nat} {a_touch_writes_a : Option Addr} {a_touch_writes_n a_touch_writes_c : Nat} (v_a_store : RdA 2 encC okC H w (.slice a_store_a a_store_n a_store_c) a.store) (v_a_touch_reads : RdA 1 encS okS H w (.slice a_touch_reads_a a_touch_reads_n a_touch_reads_c) a.touch.reads) (v_a_touch_writes : RdA 1 encS okS H w (.slice a_touch_writes_a a_touch_writes_n a_touch_writes_c) a.touch.writes) (p0 : a.store.length ≤ 1048576) (p1 : a.touch.reads.length ≤ 1048576) (p2 : a.touch.writes.length ≤ 1048576) :
    Calls Tryd.prog 42 #[.agg #[.slice a_store_a a_store_n a_store_c, .slice a_touch_reads_a a_touch_reads_n a_touch_reads_c, .slice a_touch_writes_a a_touch_writes_n a_touch_writes_c]] w fun e w' => ∃ (r0_store_a : Option Addr), ∃ (r0_store_n : Nat), ∃ (r0_store_c : Nat), ∃ (r0_touch_reads_a : Option Addr), ∃ (r0_touch_reads_n : Nat), ∃ (r0_touch_reads_c : Nat), ∃ (r0_touch_writes_a : Option Addr), ∃ (r0_touch_writes_n : Nat), ∃ (r0_touch_writes_c : Nat), e = .returned (.agg #[.slice r0_store_a r0_store_n r0_store_c, .slice r0_touch_reads_a r0_touch_reads_n r0_touch_reads_c, .slice r0_touch_writes_a r0_touch_writes_n r0_touch_writes_c]) ∧ Mv [] w [ow 81 2 encC okC (.slice r0_store_a r0_store_n r0_store_c) a.store, ow 9 1 encS okS (.slice r0_touch_reads_a r0_touch_reads_n r0_touch_reads_c) a.touch.reads, ow 9 1 encS okS (.slice r0_touch_writes_a r0_touch_writes_n r0_touch_writes_c) a.touch.writes] w' := by
 have uU : True := (fun _ _ _ => trivial) p0 p1 p2
 clear uU
 have V_v_a_store : RdA 2 encC okC (V H w []) w (.slice a_store_a a_store_n a_store_c) a.store := RdA.start v_a_store (fun _ _ => fps_nil _)
 obtain ⟨ln_a_store, le_a_store, mx_a_store, ni_a_store⟩ := RdA.inv v_a_store
 have V_v_a_touch_reads : RdA 1 encS okS (V H w []) w (.slice a_touch_reads_a a_touch_reads_n a_touch_reads_c) a.touch.reads := RdA.start v_a_touch_reads (fun _ _ => fps_nil _)
 obtain ⟨ln_a_touch_reads, le_a_touch_reads, mx_a_touch_reads, ni_a_touch_reads⟩ := RdA.inv v_a_touch_reads
 have V_v_a_touch_writes : RdA 1 encS okS (V H w []) w (.slice a_touch_writes_a a_touch_writes_n a_touch_writes_c) a.touch.writes := RdA.start v_a_touch_writes (fun _ _ => fps_nil _)
 obtain ⟨ln_a_touch_writes, le_a_touch_writes, mx_a_touch_writes, ni_a_touch_writes⟩ := RdA.inv v_a_touch_writes
 refine calls_enter 13 Tryd.func42 rfl Tryd.ntmps42 (Nat.le_of_ble_eq_true rfl) (fun _ F0i => ?_)
 have F0 : Fr 13 [(0, .agg #[.slice a_store_a a_store_n a_store_c, .slice a_touch_reads_a a_touch_reads_n a_touch_reads_c, .slice a_touch_writes_a a_touch_writes_n a_touch_writes_c])] _ := F0i
 clear F0i
 refine wp_seq (wp_region_lit (l_op (f_box F0 (At.nil w) rfl rfl rfl (F0.ev 0 rfl) rfl rfl fun b1 _ w1 F2 S1 => ?_)))
 refine l_op (f_alloc F2 S1.at' ZI_31 rfl rfl rfl rfl rfl fun b3 _ w3 F4 S3 => ?_)
 have F5 : Fr 13 [(2, .pointer (some ⟨b3, 0, none⟩)), (1, .pointer (some ⟨b1, 0, none⟩))] _ := F4.cut rfl
 clear F0 F2 F4
 have T6 : Mv _ _ [bx b3 [.slice none 0 0, .slice none 0 0, .slice none 0 0] 31, bx b1 [.slice a_store_a a_store_n a_store_c, .slice a_touch_reads_a a_touch_reads_n a_touch_reads_c, .slice a_touch_writes_a a_touch_writes_n a_touch_writes_c] 59] _ := S3
 refine s_end (x_normal (wp_seq (wp_region_lit (l_op (f_alloc F5 T6.at' ZI_31 rfl rfl rfl rfl rfl fun b7 _ w7 F8 S7 => ?_)))))
 have F9 : Fr 13 [(3, .pointer (some ⟨b7, 0, none⟩)), (2, .pointer (some ⟨b3, 0, none⟩)), (1, .pointer (some ⟨b1, 0, none⟩))] _ := F8.cut rfl
 clear F5 F8
 have T10 : Mv _ _ [bx b7 [.slice none 0 0, .slice none 0 0, .slice none 0 0] 31, bx b3 [.slice none 0 0, .slice none 0 0, .slice none 0 0] 31, bx b1 [.slice a_store_a a_store_n a_store_c, .slice a_touch_reads_a a_touch_reads_n a_touch_reads_c, .slice a_touch_writes_a a_touch_writes_n a_touch_writes_c] 59] _ := S7
 refine s_end (x_normal (wp_seq (wp_region_lit (l_op (f_val F9 rfl rfl (r_field FI_59_0 rfl (F9.ev 1 rfl) rfl) rfl fun _ F11 => ?_)))))
 refine l_op (f_val (v := .slice a_store_a a_store_n a_store_c) F11 rfl rfl (r_loadB T10.at' 2 TI_56 rfl rfl (F11.ev 4 rfl) rfl rfl (fun _ => rfl) rfl) rfl fun _ F12 => ?_)
 refine l_op (f_call F12 CF_80 rfl rfl rfl rfl (lc (F12.ev 5 rfl) rfl) (laws_toCellS_c (a := a.store) (RdA.mv (Nat.succ_pos _) V_v_a_store (S1.trans (T6.trans T10))) (by first | assumption | omega | (simp <;> omega))) ?_)
 rintro _ w13 ⟨r0_a_13, r0_n_13, r0_c_13, rfl, m13⟩
 refine ⟨_, rfl, fun _ F14 => ?_⟩
 have S13 : Mv _ _ [ow 81 2 encC okC (.slice r0_a_13 r0_n_13 r0_c_13) a.store, bx b7 [.slice none 0 0, .slice none 0 0, .slice none 0 0] 31, bx b3 [.slice none 0 0, .slice none 0 0, .slice none 0 0] 31, bx b1 [.slice a_store_a a_store_n a_store_c, .slice a_touch_reads_a a_touch_reads_n a_touch_reads_c, .slice a_touch_writes_a a_touch_writes_n a_touch_writes_c] 59] _ := At.frame T10.at' [] rfl m13
 obtain ⟨lo13_0, lp13_0, lq13_0⟩ := At.ownInv S13.at' ET_26.hk 0 rfl
 clear m13
 refine l_op (f_val F14 rfl rfl (r_field FI_31_0 rfl (F14.ev 3 rfl) rfl) rfl fun _ F15 => ?_)
 refine l_op (s_store S13.at' 1 TI_26 rfl rfl rfl rfl rfl (F15.ev 7 rfl) (F15.ev 6 rfl) rfl rfl rfl rfl rfl fun w16 S16 => ?_)
 have F17 : Fr 13 [(7, .pointer (some ⟨b7, 0, none⟩)), (6, .slice r0_a_13 r0_n_13 r0_c_13), (3, .pointer (some ⟨b7, 0, none⟩)), (2, .pointer (some ⟨b3, 0, none⟩)), (1, .pointer (some ⟨b1, 0, none⟩))] _ := F15.cut rfl
 clear F9 F11 F12 F14 F15
 have T18 : Mv _ _ [bx b7 [.slice r0_a_13 r0_n_13 r0_c_13, .slice none 0 0, .slice none 0 0] 31, ow 81 2 encC okC (.slice r0_a_13 r0_n_13 r0_c_13) a.store, bx b3 [.slice none 0 0, .slice none 0 0, .slice none 0 0] 31, bx b1 [.slice a_store_a a_store_n a_store_c, .slice a_touch_reads_a a_touch_reads_n a_touch_reads_c, .slice a_touch_writes_a a_touch_writes_n a_touch_writes_c] 59] _ := S16
 refine s_end (x_normal (wp_seq (wp_region_lit (l_op (f_val F17 rfl rfl (r_field FI_59_1 rfl (F17.ev 1 rfl) rfl) rfl fun _ F19 => ?_)))))
 refine l_op (f_val (v := .agg #[.slice a_touch_reads_a a_touch_reads_n a_touch_reads_c, .slice a_touch_writes_a a_touch_writes_n a_touch_writes_c]) F19 rfl rfl (r_loadB T18.at' 3 TI_57 rfl rfl (F19.ev 8 rfl) rfl rfl (fun h => nomatch h) rfl) rfl fun _ F20 => ?_)
 refine l_op (f_call F20 CF_81 rfl rfl rfl rfl (lc (F20.ev 9 rfl) rfl) (laws_toTouch_c (a := a.touch) (RdA.mv (Nat.succ_pos _) V_v_a_touch_reads (S1.trans (T6.trans (T10.trans (S13.trans T18))))) (RdA.mv (Nat.succ_pos _) V_v_a_touch_writes (S1.trans (T6.trans (T10.trans (S13.trans T18))))) (by first | assumption | omega | (simp <;> omega)) (by first | assumption | omega | (simp <;> omega))) ?_)
 rintro _ w21 ⟨r0_reads_a_21, r0_reads_n_21, r0_reads_c_21, r0_writes_a_21, r0_writes_n_21, r0_writes_c_21, rfl, m21⟩
 refine ⟨_, rfl, fun _ F22 => ?_⟩
 have S21 : Mv _ _ [ow 9 1 encS okS (.slice r0_reads_a_21 r0_reads_n_21 r0_reads_c_21) a.touch.reads, ow 9 1 encS okS (.slice r0_writes_a_21 r0_writes_n_21 r0_writes_c_21) a.touch.writes, bx b7 [.slice r0_a_13 r0_n_13 r0_c_13, .slice none 0 0, .slice none 0 0] 31, ow 81 2 encC okC (.slice r0_a_13 r0_n_13 r0_c_13) a.store, bx b3 [.slice none 0 0, .slice none 0 0, .slice none 0 0] 31, bx b1 [.slice a_store_a a_store_n a_store_c, .slice a_touch_reads_a a_touch_reads_n a_touch_reads_c, .slice a_touch_writes_a a_touch_writes_n a_touch_writes_c] 59] _ := At.frame T18.at' [] rfl m21
 obtain ⟨lo21_0, lp21_0, lq21_0⟩ := At.ownInv S21.at' ET_27.hk 0 rfl
 obtain ⟨lo21_1, lp21_1, lq21_1⟩ := At.ownInv S21.at' ET_27.hk 1 rfl
 clear m21
 refine l_op (f_val F22 rfl rfl (r_field FI_31_1 rfl (F22.ev 3 rfl) rfl) rfl fun _ F23 => ?_)
 refine l_op (s_store S21.at' 2 TI_29 rfl rfl rfl rfl rfl (F23.ev 11 rfl) (F23.ev 10 rfl) rfl rfl rfl rfl rfl fun w24 S24 => ?_)
 have F25 : Fr 13 [(11, .pointer (some ⟨b7, 1, none⟩)), (10, .agg #[.slice r0_reads_a_21 r0_reads_n_21 r0_reads_c_21, .slice r0_writes_a_21 r0_writes_n_21 r0_writes_c_21]), (3, .pointer (some ⟨b7, 0, none⟩)), (2, .pointer (some ⟨b3, 0, none⟩))] _ := F23.cut rfl
 clear F17 F19 F20 F22 F23
 have T26 : Mv _ _ [bx b7 [.slice r0_a_13 r0_n_13 r0_c_13, .slice r0_reads_a_21 r0_reads_n_21 r0_reads_c_21, .slice r0_writes_a_21 r0_writes_n_21 r0_writes_c_21] 31, ow 9 1 encS okS (.slice r0_reads_a_21 r0_reads_n_21 r0_reads_c_21) a.touch.reads, ow 9 1 encS okS (.slice r0_writes_a_21 r0_writes_n_21 r0_writes_c_21) a.touch.writes, ow 81 2 encC okC (.slice r0_a_13 r0_n_13 r0_c_13) a.store, bx b3 [.slice none 0 0, .slice none 0 0, .slice none 0 0] 31, bx b1 [.slice a_store_a a_store_n a_store_c, .slice a_touch_reads_a a_touch_reads_n a_touch_reads_c, .slice a_touch_writes_a a_touch_writes_n a_touch_writes_c] 59] _ := S24
 refine s_end (x_normal (wp_seq (wp_region_lit (l_op (f_val (v := .agg #[.slice r0_a_13 r0_n_13 r0_c_13, .slice r0_reads_a_21 r0_reads_n_21 r0_reads_c_21, .slice r0_writes_a_21 r0_writes_n_21 r0_writes_c_21]) F25 rfl rfl (r_loadB T26.at' 0 TI_31 rfl rfl (F25.ev 3 rfl) rfl rfl (fun h => nomatch h) rfl) rfl fun _ F27 => ?_)))))
 refine l_op (s_store T26.at' 4 TI_31 rfl rfl rfl rfl rfl (F27.ev 2 rfl) (F27.ev 12 rfl) rfl rfl rfl rfl rfl fun w28 S28 => ?_)
 have F29 : Fr 13 [(12, .agg #[.slice r0_a_13 r0_n_13 r0_c_13, .slice r0_reads_a_21 r0_reads_n_21 r0_reads_c_21, .slice r0_writes_a_21 r0_writes_n_21 r0_writes_c_21]), (2, .pointer (some ⟨b3, 0, none⟩))] _ := F27.cut rfl
 clear F25 F27
 have T30 : Mv _ _ [bx b3 [.slice r0_a_13 r0_n_13 r0_c_13, .slice r0_reads_a_21 r0_reads_n_21 r0_reads_c_21, .slice r0_writes_a_21 r0_writes_n_21 r0_writes_c_21] 31, bx b7 [.slice r0_a_13 r0_n_13 r0_c_13, .slice r0_reads_a_21 r0_reads_n_21 r0_reads_c_21, .slice r0_writes_a_21 r0_writes_n_21 r0_writes_c_21] 31, ow 9 1 encS okS (.slice r0_reads_a_21 r0_reads_n_21 r0_reads_c_21) a.touch.reads, ow 9 1 encS okS (.slice r0_writes_a_21 r0_writes_n_21 r0_writes_c_21) a.touch.writes, ow 81 2 encC okC (.slice r0_a_13 r0_n_13 r0_c_13) a.store, bx b1 [.slice a_store_a a_store_n a_store_c, .slice a_touch_reads_a a_touch_reads_n a_touch_reads_c, .slice a_touch_writes_a a_touch_writes_n a_touch_writes_c] 59] _ := S28
 refine s_end (x_normal (wp_ret ?_))
 refine x_done (v := .agg #[.slice r0_a_13 r0_n_13 r0_c_13, .slice r0_reads_a_21 r0_reads_n_21 r0_reads_c_21, .slice r0_writes_a_21 r0_writes_n_21 r0_writes_c_21]) F29 (results_1 Tryd.results42 (.cell (F29.ev 2 rfl) (run_loadVar' TI_31 _ [.slice r0_a_13 r0_n_13 r0_c_13, .slice r0_reads_a_21 r0_reads_n_21 r0_reads_c_21, .slice r0_writes_a_21 r0_writes_n_21 r0_writes_c_21] rfl (fun h => nomatch h) (At.cells T30.at' 0 rfl 0 [.slice r0_a_13 r0_n_13 r0_c_13, .slice r0_reads_a_21 r0_reads_n_21 r0_reads_c_21, .slice r0_writes_a_21 r0_writes_n_21 r0_writes_c_21] rfl)))) ?_
 exact ⟨r0_a_13, r0_n_13, r0_c_13, r0_reads_a_21, r0_reads_n_21, r0_reads_c_21, r0_writes_a_21, r0_writes_n_21, r0_writes_c_21, rfl, (Mv.pick (S1.trans (T6.trans (T10.trans (S13.trans (T18.trans (S21.trans (T26.trans T30))))))) [4, 2, 3] rfl)⟩
theorem laws_eqMach_c {w : World} {H : Nat → Prop} {a : MachD} {a_store_a : Option Addr} {a_store_n a_store_c : Nat} {a_touch_reads_a : Option Addr} {a_touch_reads_n a_touch_reads_c : Nat} {a_touch_writes_a : Option Addr} {a_touch_writes_n a_touch_writes_c : Nat} {b : MachD} {b_store_a : Option Addr} {b_store_n b_store_c : Nat} {b_touch_reads_a : Option Addr} {b_touch_reads_n b_touch_reads_c : Nat} {b_touch_writes_a : Option Addr} {b_touch_writes_n b_touch_writes_c : Nat} (v_a_store : Rd 2 encC okC H w (.slice a_store_a a_store_n a_store_c) a.store) (v_a_touch_reads : Rd 1 encS okS H w (.slice a_touch_reads_a a_touch_reads_n a_touch_reads_c) a.touch.reads) (v_a_touch_writes : Rd 1 encS okS H w (.slice a_touch_writes_a a_touch_writes_n a_touch_writes_c) a.touch.writes) (v_b_store : Rd 2 encC okC H w (.slice b_store_a b_store_n b_store_c) b.store) (v_b_touch_reads : Rd 1 encS okS H w (.slice b_touch_reads_a b_touch_reads_n b_touch_reads_c) b.touch.reads) (v_b_touch_writes : Rd 1 encS okS H w (.slice b_touch_writes_a b_touch_writes_n b_touch_writes_c) b.touch.writes) (p0 : a = b) :
    Calls Tryd.prog 44 #[.agg #[.slice a_store_a a_store_n a_store_c, .slice a_touch_reads_a a_touch_reads_n a_touch_reads_c, .slice a_touch_writes_a a_touch_writes_n a_touch_writes_c], .agg #[.slice b_store_a b_store_n b_store_c, .slice b_touch_reads_a b_touch_reads_n b_touch_reads_c, .slice b_touch_writes_a b_touch_writes_n b_touch_writes_c]] w fun e w' => e = .returned (.bool true) ∧ Mv [] w [] w' := by
 have V_v_a_store : Rd 2 encC okC (V H w []) w (.slice a_store_a a_store_n a_store_c) a.store := Rd.start v_a_store (fun _ _ => fps_nil _)
 obtain ⟨ln_a_store, le_a_store, mx_a_store, ni_a_store⟩ := Rd.inv v_a_store
 have V_v_a_touch_reads : Rd 1 encS okS (V H w []) w (.slice a_touch_reads_a a_touch_reads_n a_touch_reads_c) a.touch.reads := Rd.start v_a_touch_reads (fun _ _ => fps_nil _)
 obtain ⟨ln_a_touch_reads, le_a_touch_reads, mx_a_touch_reads, ni_a_touch_reads⟩ := Rd.inv v_a_touch_reads
 have V_v_a_touch_writes : Rd 1 encS okS (V H w []) w (.slice a_touch_writes_a a_touch_writes_n a_touch_writes_c) a.touch.writes := Rd.start v_a_touch_writes (fun _ _ => fps_nil _)
 obtain ⟨ln_a_touch_writes, le_a_touch_writes, mx_a_touch_writes, ni_a_touch_writes⟩ := Rd.inv v_a_touch_writes
 have V_v_b_store : Rd 2 encC okC (V H w []) w (.slice b_store_a b_store_n b_store_c) b.store := Rd.start v_b_store (fun _ _ => fps_nil _)
 obtain ⟨ln_b_store, le_b_store, mx_b_store, ni_b_store⟩ := Rd.inv v_b_store
 have V_v_b_touch_reads : Rd 1 encS okS (V H w []) w (.slice b_touch_reads_a b_touch_reads_n b_touch_reads_c) b.touch.reads := Rd.start v_b_touch_reads (fun _ _ => fps_nil _)
 obtain ⟨ln_b_touch_reads, le_b_touch_reads, mx_b_touch_reads, ni_b_touch_reads⟩ := Rd.inv v_b_touch_reads
 have V_v_b_touch_writes : Rd 1 encS okS (V H w []) w (.slice b_touch_writes_a b_touch_writes_n b_touch_writes_c) b.touch.writes := Rd.start v_b_touch_writes (fun _ _ => fps_nil _)
 obtain ⟨ln_b_touch_writes, le_b_touch_writes, mx_b_touch_writes, ni_b_touch_writes⟩ := Rd.inv v_b_touch_writes
 refine calls_enter 17 Tryd.func44 rfl Tryd.ntmps44 (Nat.le_of_ble_eq_true rfl) (fun _ F0i => ?_)
 have F0 : Fr 17 [(0, .agg #[.slice a_store_a a_store_n a_store_c, .slice a_touch_reads_a a_touch_reads_n a_touch_reads_c, .slice a_touch_writes_a a_touch_writes_n a_touch_writes_c]), (1, .agg #[.slice b_store_a b_store_n b_store_c, .slice b_touch_reads_a b_touch_reads_n b_touch_reads_c, .slice b_touch_writes_a b_touch_writes_n b_touch_writes_c])] _ := F0i
 clear F0i
 refine wp_seq (wp_region_lit (l_op (f_box F0 (At.nil w) rfl rfl rfl (F0.ev 0 rfl) rfl rfl fun b1 _ w1 F2 S1 => ?_)))
 refine l_op (f_box F2 S1.at' rfl rfl rfl (F2.ev 1 rfl) rfl rfl fun b3 _ w3 F4 S3 => ?_)
 refine l_op (f_val F4 rfl rfl (r_assign rfl rfl) rfl fun _ F5 => ?_)
 have F6 : Fr 17 [(4, .bool false), (3, .pointer (some ⟨b3, 0, none⟩)), (2, .pointer (some ⟨b1, 0, none⟩))] _ := F5.cut rfl
 clear F0 F2 F4 F5
 have T7 : Mv _ _ [bx b3 [.slice b_store_a b_store_n b_store_c, .slice b_touch_reads_a b_touch_reads_n b_touch_reads_c, .slice b_touch_writes_a b_touch_writes_n b_touch_writes_c] 31, bx b1 [.slice a_store_a a_store_n a_store_c, .slice a_touch_reads_a a_touch_reads_n a_touch_reads_c, .slice a_touch_writes_a a_touch_writes_n a_touch_writes_c] 31] _ := S3
 refine s_end (x_normal (wp_seq (wp_seq (wp_region_lit (l_op (f_val F6 rfl rfl (r_field FI_31_0 rfl (F6.ev 2 rfl) rfl) rfl fun _ F8 => ?_))))))
 refine l_op (f_val (v := .slice a_store_a a_store_n a_store_c) F8 rfl rfl (r_loadB T7.at' 1 TI_26 rfl rfl (F8.ev 5 rfl) rfl rfl (fun _ => rfl) rfl) rfl fun _ F9 => ?_)
 refine l_op (f_val F9 rfl rfl (r_field FI_31_0 rfl (F9.ev 3 rfl) rfl) rfl fun _ F10 => ?_)
 refine l_op (f_val (v := .slice b_store_a b_store_n b_store_c) F10 rfl rfl (r_loadB T7.at' 0 TI_26 rfl rfl (F10.ev 7 rfl) rfl rfl (fun _ => rfl) rfl) rfl fun _ F11 => ?_)
 refine l_op (f_call F11 CF_83 rfl rfl rfl rfl (lc (F11.ev 6 rfl) (lc (F11.ev 8 rfl) rfl)) (laws_eqCellS_c (a := a.store) (b := b.store) (Rd.mv (Nat.succ_pos _) V_v_a_store (S1.trans T7)) (Rd.mv (Nat.succ_pos _) V_v_b_store (S1.trans T7)) (by rw [p0])) ?_)
 rintro _ w12 ⟨rfl, m12⟩
 refine ⟨_, rfl, fun _ F13 => ?_⟩
 have S12 := At.frame0 T7.at' m12
 clear m12
 refine l_op (f_val F13 rfl rfl (r_not rfl (F13.ev 9 rfl)) rfl fun _ F14 => ?_)
 have F15 : Fr 17 [(10, .bool false), (3, .pointer (some ⟨b3, 0, none⟩)), (2, .pointer (some ⟨b1, 0, none⟩))] _ := F14.cut rfl
 clear F6 F8 F9 F10 F11 F13 F14
 have T16 : Mv _ _ [bx b3 [.slice b_store_a b_store_n b_store_c, .slice b_touch_reads_a b_touch_reads_n b_touch_reads_c, .slice b_touch_writes_a b_touch_writes_n b_touch_writes_c] 31, bx b1 [.slice a_store_a a_store_n a_store_c, .slice a_touch_reads_a a_touch_reads_n a_touch_reads_c, .slice a_touch_writes_a a_touch_writes_n a_touch_writes_c] 31] _ := S12
 refine s_end (x_normal (wp_cond_false (F15.ev 10 rfl) (wp_skip (x_normal (wp_seq (wp_seq (wp_region_lit (l_op (f_val F15 rfl rfl (r_field FI_31_1 rfl (F15.ev 2 rfl) rfl) rfl fun _ F17 => ?_)))))))))
 refine l_op (f_val (v := .agg #[.slice a_touch_reads_a a_touch_reads_n a_touch_reads_c, .slice a_touch_writes_a a_touch_writes_n a_touch_writes_c]) F17 rfl rfl (r_loadB T16.at' 1 TI_29 rfl rfl (F17.ev 11 rfl) rfl rfl (fun h => nomatch h) rfl) rfl fun _ F18 => ?_)
 refine l_op (f_val F18 rfl rfl (r_field FI_31_1 rfl (F18.ev 3 rfl) rfl) rfl fun _ F19 => ?_)
 refine l_op (f_val (v := .agg #[.slice b_touch_reads_a b_touch_reads_n b_touch_reads_c, .slice b_touch_writes_a b_touch_writes_n b_touch_writes_c]) F19 rfl rfl (r_loadB T16.at' 0 TI_29 rfl rfl (F19.ev 13 rfl) rfl rfl (fun h => nomatch h) rfl) rfl fun _ F20 => ?_)
 refine l_op (f_call F20 CF_84 rfl rfl rfl rfl (lc (F20.ev 12 rfl) (lc (F20.ev 14 rfl) rfl)) (laws_eqTouch_c (a := a.touch) (b := b.touch) (Rd.mv (Nat.succ_pos _) V_v_a_touch_reads (S1.trans (T7.trans T16))) (Rd.mv (Nat.succ_pos _) V_v_a_touch_writes (S1.trans (T7.trans T16))) (Rd.mv (Nat.succ_pos _) V_v_b_touch_reads (S1.trans (T7.trans T16))) (Rd.mv (Nat.succ_pos _) V_v_b_touch_writes (S1.trans (T7.trans T16))) (by rw [p0])) ?_)
 rintro _ w21 ⟨rfl, m21⟩
 refine ⟨_, rfl, fun _ F22 => ?_⟩
 have S21 := At.frame0 T16.at' m21
 clear m21
 refine l_op (f_val F22 rfl rfl (r_not rfl (F22.ev 15 rfl)) rfl fun _ F23 => ?_)
 have F24 : Fr 17 [(16, .bool false)] _ := F23.cut rfl
 clear F15 F17 F18 F19 F20 F22 F23
 have T25 : Mv _ _ [bx b3 [.slice b_store_a b_store_n b_store_c, .slice b_touch_reads_a b_touch_reads_n b_touch_reads_c, .slice b_touch_writes_a b_touch_writes_n b_touch_writes_c] 31, bx b1 [.slice a_store_a a_store_n a_store_c, .slice a_touch_reads_a a_touch_reads_n a_touch_reads_c, .slice a_touch_writes_a a_touch_writes_n a_touch_writes_c] 31] _ := S21
 refine s_end (x_normal (wp_cond_false (F24.ev 16 rfl) (wp_skip (x_normal (wp_seq (wp_region_lit (l_op (f_val F24 rfl rfl (r_assign rfl rfl) rfl fun _ F26 => ?_))))))))
 have F27 : Fr 17 [(4, .bool true)] _ := F26.cut rfl
 clear F24 F26
 refine s_end (x_normal (wp_ret ?_))
 refine x_done (v := .bool true) F27 (results_1 Tryd.results44 (.tmp (F27.ev 4 rfl))) ?_
 exact ⟨rfl, (Mv.pick (S1.trans (T7.trans (T16.trans T25))) [] rfl)⟩
theorem laws_markMach_c {w : World} {H : Nat → Prop} {a : MachD} {a_store_a : Option Addr} {a_store_n a_store_c : Nat} {a_touch_reads_a : Option Addr} {a_touch_reads_n a_touch_reads_c : Nat} {a_touch_writes_a : Option Addr} {a_touch_writes_n a_touch_writes_c : Nat} {k : Nat} (h_k : i64ok (k : Int)) (p0 : k ≤ 549755813888) (p1 : a.store.length ≤ 137438953472) (p2 : a.touch.reads.length ≤ 1099511627776) (p3 : a.touch.writes.length ≤ 1099511627776) (hA : At w [ow 81 2 encC okC (.slice a_store_a a_store_n a_store_c) a.store, ow 9 1 encS okS (.slice a_touch_reads_a a_touch_reads_n a_touch_reads_c) a.touch.reads, ow 9 1 encS okS (.slice a_touch_writes_a a_touch_writes_n a_touch_writes_c) a.touch.writes]) :
    Calls Tryd.prog 45 #[.agg #[.slice a_store_a a_store_n a_store_c, .slice a_touch_reads_a a_touch_reads_n a_touch_reads_c, .slice a_touch_writes_a a_touch_writes_n a_touch_writes_c], .int .i64 ((k : Nat) : Int)] w fun e w' => e = .returned (.int .i64 ((k + cntM a : Nat) : Int)) ∧ Mv [ow 81 2 encC okC (.slice a_store_a a_store_n a_store_c) a.store, ow 9 1 encS okS (.slice a_touch_reads_a a_touch_reads_n a_touch_reads_c) a.touch.reads, ow 9 1 encS okS (.slice a_touch_writes_a a_touch_writes_n a_touch_writes_c) a.touch.writes] w [ow 81 2 encC okC (.slice a_store_a a_store_n a_store_c) (marksM k a).store, ow 9 1 encS okS (.slice a_touch_reads_a a_touch_reads_n a_touch_reads_c) (marksM k a).touch.reads, ow 9 1 encS okS (.slice a_touch_writes_a a_touch_writes_n a_touch_writes_c) (marksM k a).touch.writes] w' := by
 have uU : True := (fun _ _ _ _ _ _ => trivial) H h_k p0 p1 p2 p3
 clear uU
 obtain ⟨lo0, lp0, lq0⟩ := At.ownInv hA ET_26.hk 0 rfl
 obtain ⟨lo1, lp1, lq1⟩ := At.ownInv hA ET_27.hk 1 rfl
 obtain ⟨lo2, lp2, lq2⟩ := At.ownInv hA ET_27.hk 2 rfl
 refine calls_enter 14 Tryd.func45 rfl Tryd.ntmps45 (Nat.le_of_ble_eq_true rfl) (fun _ F0i => ?_)
 have F0 : Fr 14 [(0, .agg #[.slice a_store_a a_store_n a_store_c, .slice a_touch_reads_a a_touch_reads_n a_touch_reads_c, .slice a_touch_writes_a a_touch_writes_n a_touch_writes_c]), (1, .int .i64 ((k : Nat) : Int))] _ := F0i
 clear F0i
 refine wp_seq (wp_region_lit (l_op (f_box F0 hA rfl rfl rfl (F0.ev 0 rfl) rfl rfl fun b1 _ w1 F2 S1 => ?_)))
 refine l_op (f_val F2 rfl rfl (r_assign rfl rfl) rfl fun _ F3 => ?_)
 have F4 : Fr 14 [(4, .int .i64 0), (2, .pointer (some ⟨b1, 0, none⟩)), (1, .int .i64 ((k : Nat) : Int))] _ := F3.cut rfl
 clear F0 F2 F3
 have T5 : Mv _ _ [bx b1 [.slice a_store_a a_store_n a_store_c, .slice a_touch_reads_a a_touch_reads_n a_touch_reads_c, .slice a_touch_writes_a a_touch_writes_n a_touch_writes_c] 31, ow 81 2 encC okC (.slice a_store_a a_store_n a_store_c) a.store, ow 9 1 encS okS (.slice a_touch_reads_a a_touch_reads_n a_touch_reads_c) a.touch.reads, ow 9 1 encS okS (.slice a_touch_writes_a a_touch_writes_n a_touch_writes_c) a.touch.writes] _ := S1
 refine s_end (x_normal (wp_seq (wp_region_lit (l_op (f_val F4 rfl rfl (r_field FI_31_0 rfl (F4.ev 2 rfl) rfl) rfl fun _ F6 => ?_)))))
 refine l_op (f_val (v := .slice a_store_a a_store_n a_store_c) F6 rfl rfl (r_loadB T5.at' 0 TI_26 rfl rfl (F6.ev 5 rfl) rfl rfl (fun _ => rfl) rfl) rfl fun _ F7 => ?_)
 refine l_op (f_mv F7 rfl rfl rfl rfl rfl fun _ F8 => ?_)
 refine l_op (f_call F8 CF_85 rfl rfl rfl rfl (lc (F8.ev 6 rfl) (lc (F8.ev 7 rfl) rfl)) (laws_markCellS_c (H := fun _ => True) (a := a.store) (k := k) ⟨by omega, by first | omega | (unfold i64ok at *; omega)⟩ (by first | assumption | omega | (simp <;> omega)) (At.pick (is := [1]) T5.at' rfl)) ?_)
 rintro _ w9 ⟨rfl, m9⟩
 refine ⟨_, rfl, fun _ F10 => ?_⟩
 have S9 : Mv _ _ [ow 81 2 encC okC (.slice a_store_a a_store_n a_store_c) (marksC k a.store.length), bx b1 [.slice a_store_a a_store_n a_store_c, .slice a_touch_reads_a a_touch_reads_n a_touch_reads_c, .slice a_touch_writes_a a_touch_writes_n a_touch_writes_c] 31, ow 9 1 encS okS (.slice a_touch_reads_a a_touch_reads_n a_touch_reads_c) a.touch.reads, ow 9 1 encS okS (.slice a_touch_writes_a a_touch_writes_n a_touch_writes_c) a.touch.writes] _ := At.frame T5.at' [1] rfl m9
 obtain ⟨lo9_0, lp9_0, lq9_0⟩ := At.ownInv S9.at' ET_26.hk 0 rfl
 clear m9
 refine l_op (f_as F10 rfl rfl rfl rfl rfl fun _ F11 => ?_)
 have F12 : Fr 14 [(1, .int .i64 ((k + 2 * a.store.length : Nat) : Int)), (2, .pointer (some ⟨b1, 0, none⟩))] _ := F11.cut rfl
 clear F4 F6 F7 F8 F10 F11
 refine s_end (x_normal (wp_seq (wp_region_lit (l_op (f_val F12 rfl rfl (r_field FI_31_1 rfl (F12.ev 2 rfl) rfl) rfl fun _ F13 => ?_)))))
 refine l_op (f_val (v := .agg #[.slice a_touch_reads_a a_touch_reads_n a_touch_reads_c, .slice a_touch_writes_a a_touch_writes_n a_touch_writes_c]) F13 rfl rfl (r_loadB S9.at' 1 TI_29 rfl rfl (F13.ev 9 rfl) rfl rfl (fun h => nomatch h) rfl) rfl fun _ F14 => ?_)
 refine l_op (f_mv F14 rfl rfl rfl rfl rfl fun _ F15 => ?_)
 refine l_op (f_call F15 CF_86 rfl rfl rfl rfl (lc (F15.ev 10 rfl) (lc (F15.ev 11 rfl) rfl)) (laws_markTouch_c (H := fun _ => True) (a := a.touch) (k := k + 2 * a.store.length) ⟨by omega, by first | omega | (unfold i64ok at *; omega)⟩ (by first | assumption | omega | (simp <;> omega)) (by first | assumption | omega | (simp <;> omega)) (by first | assumption | omega | (simp <;> omega)) (At.pick (is := [2, 3]) S9.at' rfl)) ?_)
 rintro _ w16 ⟨rfl, m16⟩
 refine ⟨_, rfl, fun _ F17 => ?_⟩
 have S16 : Mv _ _ [ow 9 1 encS okS (.slice a_touch_reads_a a_touch_reads_n a_touch_reads_c) (marksT (k + 2 * a.store.length) a.touch).reads, ow 9 1 encS okS (.slice a_touch_writes_a a_touch_writes_n a_touch_writes_c) (marksT (k + 2 * a.store.length) a.touch).writes, ow 81 2 encC okC (.slice a_store_a a_store_n a_store_c) (marksC k a.store.length), bx b1 [.slice a_store_a a_store_n a_store_c, .slice a_touch_reads_a a_touch_reads_n a_touch_reads_c, .slice a_touch_writes_a a_touch_writes_n a_touch_writes_c] 31] _ := At.frame S9.at' [2, 3] rfl m16
 obtain ⟨lo16_0, lp16_0, lq16_0⟩ := At.ownInv S16.at' ET_27.hk 0 rfl
 obtain ⟨lo16_1, lp16_1, lq16_1⟩ := At.ownInv S16.at' ET_27.hk 1 rfl
 clear m16
 refine l_op (f_as F17 rfl rfl rfl rfl rfl fun _ F18 => ?_)
 have F19 : Fr 14 [(1, .int .i64 (((k + 2 * a.store.length) + cntT a.touch : Nat) : Int))] _ := F18.cut rfl
 clear F12 F13 F14 F15 F17 F18
 refine s_end (x_normal (wp_seq (wp_region_lit (l_op (f_mv F19 rfl rfl rfl rfl rfl fun _ F20 => ?_)))))
 refine l_op (f_as F20 rfl rfl rfl rfl rfl fun _ F21 => ?_)
 have F22 : Fr 14 [(4, .int .i64 (((k + 2 * a.store.length) + cntT a.touch : Nat) : Int))] _ := F21.cut rfl
 clear F19 F20 F21
 refine s_end (x_normal (wp_ret ?_))
 refine x_done (v := .int .i64 (((k + 2 * a.store.length) + cntT a.touch : Nat) : Int)) F22 (results_1 Tryd.results45 (.tmp (F22.ev 4 rfl))) ?_
 exact ⟨(by rw [(show (((k + 2 * a.store.length) + cntT a.touch : Nat) : Int) = ((k + cntM a : Nat) : Int) from by first | rfl | (unfold cntM; omega))]), (Mv.cast (Mv.pick (T5.trans (S9.trans S16)) [2, 0, 1] rfl) (by rw [(show (marksC k a.store.length) = (marksM k a).store from by first | rfl | (unfold cntM; omega)), (show (marksT (k + 2 * a.store.length) a.touch).reads = (marksM k a).touch.reads from by first | rfl | (unfold cntM; omega)), (show (marksT (k + 2 * a.store.length) a.touch).writes = (marksM k a).touch.writes from by first | rfl | (unfold cntM; omega))]; all_goals rfl))⟩
theorem laws_heldMach_c {w : World} {H : Nat → Prop} {a : MachD} {a_store_a : Option Addr} {a_store_n a_store_c : Nat} {a_touch_reads_a : Option Addr} {a_touch_reads_n a_touch_reads_c : Nat} {a_touch_writes_a : Option Addr} {a_touch_writes_n a_touch_writes_c : Nat} {k : Nat} {d : MachD} (v_a_store : Rd 2 encC okC H w (.slice a_store_a a_store_n a_store_c) a.store) (v_a_touch_reads : Rd 1 encS okS H w (.slice a_touch_reads_a a_touch_reads_n a_touch_reads_c) a.touch.reads) (v_a_touch_writes : Rd 1 encS okS H w (.slice a_touch_writes_a a_touch_writes_n a_touch_writes_c) a.touch.writes) (h_k : i64ok (k : Int)) (p0 : a = marksM k d) (p1 : k ≤ 549755813888) (p2 : d.store.length ≤ 137438953472) (p3 : d.touch.reads.length ≤ 1099511627776) (p4 : d.touch.writes.length ≤ 1099511627776) :
    Calls Tryd.prog 46 #[.agg #[.slice a_store_a a_store_n a_store_c, .slice a_touch_reads_a a_touch_reads_n a_touch_reads_c, .slice a_touch_writes_a a_touch_writes_n a_touch_writes_c], .int .i64 ((k : Nat) : Int)] w fun e w' => e = .returned (.int .i64 ((k + cntM d : Nat) : Int)) ∧ Mv [] w [] w' := by
 have uU : True := (fun _ _ _ _ _ => trivial) h_k p1 p2 p3 p4
 clear uU
 have V_v_a_store : Rd 2 encC okC (V H w []) w (.slice a_store_a a_store_n a_store_c) a.store := Rd.start v_a_store (fun _ _ => fps_nil _)
 obtain ⟨ln_a_store, le_a_store, mx_a_store, ni_a_store⟩ := Rd.inv v_a_store
 have V_v_a_touch_reads : Rd 1 encS okS (V H w []) w (.slice a_touch_reads_a a_touch_reads_n a_touch_reads_c) a.touch.reads := Rd.start v_a_touch_reads (fun _ _ => fps_nil _)
 obtain ⟨ln_a_touch_reads, le_a_touch_reads, mx_a_touch_reads, ni_a_touch_reads⟩ := Rd.inv v_a_touch_reads
 have V_v_a_touch_writes : Rd 1 encS okS (V H w []) w (.slice a_touch_writes_a a_touch_writes_n a_touch_writes_c) a.touch.writes := Rd.start v_a_touch_writes (fun _ _ => fps_nil _)
 obtain ⟨ln_a_touch_writes, le_a_touch_writes, mx_a_touch_writes, ni_a_touch_writes⟩ := Rd.inv v_a_touch_writes
 refine calls_enter 18 Tryd.func46 rfl Tryd.ntmps46 (Nat.le_of_ble_eq_true rfl) (fun _ F0i => ?_)
 have F0 : Fr 18 [(0, .agg #[.slice a_store_a a_store_n a_store_c, .slice a_touch_reads_a a_touch_reads_n a_touch_reads_c, .slice a_touch_writes_a a_touch_writes_n a_touch_writes_c]), (1, .int .i64 ((k : Nat) : Int))] _ := F0i
 clear F0i
 refine wp_seq (wp_region_lit (l_op (f_box F0 (At.nil w) rfl rfl rfl (F0.ev 0 rfl) rfl rfl fun b1 _ w1 F2 S1 => ?_)))
 refine l_op (f_val F2 rfl rfl (r_assign rfl rfl) rfl fun _ F3 => ?_)
 have F4 : Fr 18 [(4, .int .i64 0), (2, .pointer (some ⟨b1, 0, none⟩)), (1, .int .i64 ((k : Nat) : Int))] _ := F3.cut rfl
 clear F0 F2 F3
 have T5 : Mv _ _ [bx b1 [.slice a_store_a a_store_n a_store_c, .slice a_touch_reads_a a_touch_reads_n a_touch_reads_c, .slice a_touch_writes_a a_touch_writes_n a_touch_writes_c] 31] _ := S1
 refine s_end (x_normal (wp_seq (wp_region_lit (l_op (f_val F4 rfl rfl (r_field FI_31_0 rfl (F4.ev 2 rfl) rfl) rfl fun _ F6 => ?_)))))
 refine l_op (f_val (v := .slice a_store_a a_store_n a_store_c) F6 rfl rfl (r_loadB T5.at' 0 TI_26 rfl rfl (F6.ev 5 rfl) rfl rfl (fun _ => rfl) rfl) rfl fun _ F7 => ?_)
 refine l_op (f_mv F7 rfl rfl rfl rfl rfl fun _ F8 => ?_)
 refine l_op (f_call F8 CF_87 rfl rfl rfl rfl (lc (F8.ev 6 rfl) (lc (F8.ev 7 rfl) rfl)) (laws_heldCellS_c (n := d.store.length) (a := a.store) (k := k) (Rd.mv (Nat.succ_pos _) V_v_a_store T5) ⟨by omega, by first | omega | (unfold i64ok at *; omega)⟩ (by rw [p0]; rfl) (by first | assumption | omega | (simp <;> omega))) ?_)
 rintro _ w9 ⟨rfl, m9⟩
 refine ⟨_, rfl, fun _ F10 => ?_⟩
 have S9 := At.frame0 T5.at' m9
 clear m9
 refine l_op (f_as F10 rfl rfl rfl rfl rfl fun _ F11 => ?_)
 have F12 : Fr 18 [(1, .int .i64 ((k + 2 * d.store.length : Nat) : Int)), (2, .pointer (some ⟨b1, 0, none⟩))] _ := F11.cut rfl
 clear F4 F6 F7 F8 F10 F11
 have T13 : Mv _ _ [bx b1 [.slice a_store_a a_store_n a_store_c, .slice a_touch_reads_a a_touch_reads_n a_touch_reads_c, .slice a_touch_writes_a a_touch_writes_n a_touch_writes_c] 31] _ := S9
 refine s_end (x_normal (wp_seq (wp_seq (wp_region_lit (l_op (f_mv F12 rfl rfl rfl rfl rfl fun _ F14 => ?_))))))
 refine l_op (f_val F14 rfl rfl (r_cmp (b := false) (.inr (.inr (.inl rfl))) rfl (F14.ev 9 rfl) rfl (cmp_lt0 _ _ (by omega))) rfl fun _ F15 => ?_)
 have F16 : Fr 18 [(10, .bool false), (1, .int .i64 ((k + 2 * d.store.length : Nat) : Int)), (2, .pointer (some ⟨b1, 0, none⟩))] _ := F15.cut rfl
 clear F12 F14 F15
 refine s_end (x_normal (wp_cond_false (F16.ev 10 rfl) (wp_skip (x_normal (wp_seq (wp_region_lit (l_op (f_val F16 rfl rfl (r_field FI_31_1 rfl (F16.ev 2 rfl) rfl) rfl fun _ F17 => ?_))))))))
 refine l_op (f_val (v := .agg #[.slice a_touch_reads_a a_touch_reads_n a_touch_reads_c, .slice a_touch_writes_a a_touch_writes_n a_touch_writes_c]) F17 rfl rfl (r_loadB T13.at' 0 TI_29 rfl rfl (F17.ev 11 rfl) rfl rfl (fun h => nomatch h) rfl) rfl fun _ F18 => ?_)
 refine l_op (f_mv F18 rfl rfl rfl rfl rfl fun _ F19 => ?_)
 refine l_op (f_call F19 CF_88 rfl rfl rfl rfl (lc (F19.ev 12 rfl) (lc (F19.ev 13 rfl) rfl)) (laws_heldTouch_c (d := d.touch) (a := a.touch) (k := k + 2 * d.store.length) (Rd.mv (Nat.succ_pos _) V_v_a_touch_reads (T5.trans T13)) (Rd.mv (Nat.succ_pos _) V_v_a_touch_writes (T5.trans T13)) ⟨by omega, by first | omega | (unfold i64ok at *; omega)⟩ (by rw [p0]; rfl) (by first | assumption | omega | (simp <;> omega)) (by first | assumption | omega | (simp <;> omega)) (by first | assumption | omega | (simp <;> omega))) ?_)
 rintro _ w20 ⟨rfl, m20⟩
 refine ⟨_, rfl, fun _ F21 => ?_⟩
 have S20 := At.frame0 T13.at' m20
 clear m20
 refine l_op (f_as F21 rfl rfl rfl rfl rfl fun _ F22 => ?_)
 have F23 : Fr 18 [(1, .int .i64 (((k + 2 * d.store.length) + cntT d.touch : Nat) : Int))] _ := F22.cut rfl
 clear F16 F17 F18 F19 F21 F22
 have T24 : Mv _ _ [bx b1 [.slice a_store_a a_store_n a_store_c, .slice a_touch_reads_a a_touch_reads_n a_touch_reads_c, .slice a_touch_writes_a a_touch_writes_n a_touch_writes_c] 31] _ := S20
 refine s_end (x_normal (wp_seq (wp_seq (wp_region_lit (l_op (f_mv F23 rfl rfl rfl rfl rfl fun _ F25 => ?_))))))
 refine l_op (f_val F25 rfl rfl (r_cmp (b := false) (.inr (.inr (.inl rfl))) rfl (F25.ev 15 rfl) rfl (cmp_lt0 _ _ (by omega))) rfl fun _ F26 => ?_)
 have F27 : Fr 18 [(16, .bool false), (1, .int .i64 (((k + 2 * d.store.length) + cntT d.touch : Nat) : Int))] _ := F26.cut rfl
 clear F23 F25 F26
 refine s_end (x_normal (wp_cond_false (F27.ev 16 rfl) (wp_skip (x_normal (wp_seq (wp_region_lit (l_op (f_mv F27 rfl rfl rfl rfl rfl fun _ F28 => ?_))))))))
 refine l_op (f_as F28 rfl rfl rfl rfl rfl fun _ F29 => ?_)
 have F30 : Fr 18 [(4, .int .i64 (((k + 2 * d.store.length) + cntT d.touch : Nat) : Int))] _ := F29.cut rfl
 clear F27 F28 F29
 refine s_end (x_normal (wp_ret ?_))
 refine x_done (v := .int .i64 (((k + 2 * d.store.length) + cntT d.touch : Nat) : Int)) F30 (results_1 Tryd.results46 (.tmp (F30.ev 4 rfl))) ?_
 exact ⟨(by rw [(show (((k + 2 * d.store.length) + cntT d.touch : Nat) : Int) = ((k + cntM d : Nat) : Int) from by unfold cntM; omega)]), (Mv.pick (T5.trans (T13.trans T24)) [] rfl)⟩
end Go.Proofs.YtjiplnaceiofmaaDoor
