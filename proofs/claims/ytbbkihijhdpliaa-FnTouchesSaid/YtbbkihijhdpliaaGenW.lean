/-
  Walks: drawn machines.
-/
import Derived.Test.YtbbkihijhdpliaaGenV
namespace Go.Proofs.Ytbbkihijhdpliaa
open Go.ChangeShapes Go.WideShapes Go.ChangeAt Go.RowKit
set_option maxRecDepth 100000
set_option maxHeartbeats 1000000
theorem spec_DrawJoinTouch_c {w : World} {H : Nat → Prop} {code : List Nat} {code_a : Option Addr} {code_n code_c : Nat} (v_code : RdA 1 encB okB H w (.slice code_a code_n code_c) code) (p0 : code_n ≤ 1048576) :
    Calls Try.prog 20 #[.slice code_a code_n code_c] w fun e w' => ∃ (d : TouchD), ∃ (d2 : TouchD), ∃ (r0_reads_a : Option Addr), ∃ (r0_reads_n : Nat), ∃ (r0_reads_c : Nat), ∃ (r0_writes_a : Option Addr), ∃ (r0_writes_n : Nat), ∃ (r0_writes_c : Nat), ∃ (r1_reads_a : Option Addr), ∃ (r1_reads_n : Nat), ∃ (r1_reads_c : Nat), ∃ (r1_writes_a : Option Addr), ∃ (r1_writes_n : Nat), ∃ (r1_writes_c : Nat), e = .returned (.tuple #[.agg #[.slice r0_reads_a r0_reads_n r0_reads_c, .slice r0_writes_a r0_writes_n r0_writes_c], .agg #[.slice r1_reads_a r1_reads_n r1_reads_c, .slice r1_writes_a r1_writes_n r1_writes_c]]) ∧ Mv [] w [] w' ∧ Rd 1 encS okS (Fsh H w) w' (.slice r0_reads_a r0_reads_n r0_reads_c) d.reads ∧ Rd 1 encS okS (Fsh H w) w' (.slice r0_writes_a r0_writes_n r0_writes_c) d.writes ∧ Rd 1 encS okS (Fsh H w) w' (.slice r1_reads_a r1_reads_n r1_reads_c) d2.reads ∧ Rd 1 encS okS (Fsh H w) w' (.slice r1_writes_a r1_writes_n r1_writes_c) d2.writes ∧ (d.reads.length ≤ 100 ∧ d.writes.length ≤ 100) ∧ (d2.reads.length ≤ 100 ∧ d2.writes.length ≤ 100) := by
 have V_v_code : RdA 1 encB okB (V H w []) w (.slice code_a code_n code_c) code := RdA.start v_code (fun _ _ => fps_nil _)
 obtain ⟨ln_code, le_code, mx_code, ni_code⟩ := RdA.inv v_code
 refine calls_enter 8 Try.func20 rfl Try.ntmps20 (Nat.le_of_ble_eq_true rfl) (fun _ F0i => ?_)
 have F0 : Fr 8 [(0, .slice code_a code_n code_c)] _ := F0i
 clear F0i
 refine wp_seq (wp_region_lit (l_op (f_alloc F0 (At.nil w) ZI_26 rfl rfl rfl rfl rfl fun b1 _ w1 F2 S1 => ?_)))
 refine l_op (f_alloc F2 S1.at' ZI_26 rfl rfl rfl rfl rfl fun b3 _ w3 F4 S3 => ?_)
 have F5 : Fr 8 [(3, .pointer (some ⟨b3, 0, none⟩)), (2, .pointer (some ⟨b1, 0, none⟩)), (0, .slice code_a code_n code_c)] _ := F4.cut rfl
 clear F0 F2 F4
 have T6 : Mv _ _ [bx b3 [.slice none 0 0, .slice none 0 0] 26, bx b1 [.slice none 0 0, .slice none 0 0] 26] _ := S3
 refine s_end (x_normal (wp_seq (wp_region_lit (l_op (f_mv F5 rfl rfl rfl rfl rfl fun _ F7 => ?_)))))
 refine l_op (f_call F7 CF_73 rfl rfl rfl rfl (lc (F7.ev 4 rfl) rfl) (spec_l03Two_c (code := code) (RdA.mv (Nat.succ_pos _) V_v_code (S1.trans T6)) (by first | assumption | omega | (simp <;> omega))) ?_)
 rintro _ w8 ⟨d_8, d2_8, r0_reads_a_8, r0_reads_n_8, r0_reads_c_8, r0_writes_a_8, r0_writes_n_8, r0_writes_c_8, r1_reads_a_8, r1_reads_n_8, r1_reads_c_8, r1_writes_a_8, r1_writes_n_8, r1_writes_c_8, rfl, m8, v8_0, v8_1, v8_2, v8_3, q8_0, q8_1⟩
 refine ⟨_, rfl, fun _ F9 => ?_⟩
 have S8 := At.frame0 T6.at' m8
 have V8_0 := Rd.got0 T6.at' ((S1.trans T6).kp.size) v8_0 S8
 obtain ⟨ln8_0, le8_0, mx8_0, ni8_0⟩ := Rd.inv V8_0
 have V8_1 := Rd.got0 T6.at' ((S1.trans T6).kp.size) v8_1 S8
 obtain ⟨ln8_1, le8_1, mx8_1, ni8_1⟩ := Rd.inv V8_1
 have V8_2 := Rd.got0 T6.at' ((S1.trans T6).kp.size) v8_2 S8
 obtain ⟨ln8_2, le8_2, mx8_2, ni8_2⟩ := Rd.inv V8_2
 have V8_3 := Rd.got0 T6.at' ((S1.trans T6).kp.size) v8_3 S8
 obtain ⟨ln8_3, le8_3, mx8_3, ni8_3⟩ := Rd.inv V8_3
 clear m8 v8_0 v8_1 v8_2 v8_3
 refine l_op (f_val (v := .agg #[.slice r0_reads_a_8 r0_reads_n_8 r0_reads_c_8, .slice r0_writes_a_8 r0_writes_n_8 r0_writes_c_8]) F9 rfl rfl (r_extract rfl (F9.ev 5 rfl) rfl) rfl fun _ F10 => ?_)
 refine l_op (f_val (v := .agg #[.slice r1_reads_a_8 r1_reads_n_8 r1_reads_c_8, .slice r1_writes_a_8 r1_writes_n_8 r1_writes_c_8]) F10 rfl rfl (r_extract rfl (F10.ev 5 rfl) rfl) rfl fun _ F11 => ?_)
 refine l_op (s_store S8.at' 1 TI_26 rfl rfl rfl rfl rfl (F11.ev 2 rfl) (F11.ev 6 rfl) rfl rfl rfl rfl rfl fun w12 S12 => ?_)
 refine l_op (s_store S12.at' 1 TI_26 rfl rfl rfl rfl rfl (F11.ev 3 rfl) (F11.ev 7 rfl) rfl rfl rfl rfl rfl fun w13 S13 => ?_)
 have F14 : Fr 8 [(7, .agg #[.slice r1_reads_a_8 r1_reads_n_8 r1_reads_c_8, .slice r1_writes_a_8 r1_writes_n_8 r1_writes_c_8]), (6, .agg #[.slice r0_reads_a_8 r0_reads_n_8 r0_reads_c_8, .slice r0_writes_a_8 r0_writes_n_8 r0_writes_c_8]), (3, .pointer (some ⟨b3, 0, none⟩)), (2, .pointer (some ⟨b1, 0, none⟩))] _ := F11.cut rfl
 clear F5 F7 F9 F10 F11
 have T15 : Mv _ _ [bx b3 [.slice r1_reads_a_8 r1_reads_n_8 r1_reads_c_8, .slice r1_writes_a_8 r1_writes_n_8 r1_writes_c_8] 26, bx b1 [.slice r0_reads_a_8 r0_reads_n_8 r0_reads_c_8, .slice r0_writes_a_8 r0_writes_n_8 r0_writes_c_8] 26] _ := S13
 refine s_end (x_normal (wp_ret ?_))
 refine x_done (v := .tuple #[.agg #[.slice r0_reads_a_8 r0_reads_n_8 r0_reads_c_8, .slice r0_writes_a_8 r0_writes_n_8 r0_writes_c_8], .agg #[.slice r1_reads_a_8 r1_reads_n_8 r1_reads_c_8, .slice r1_writes_a_8 r1_writes_n_8 r1_writes_c_8]]) F14 (results_2 Try.results20 (.cell (F14.ev 2 rfl) (run_loadVar' TI_26 _ [.slice r0_reads_a_8 r0_reads_n_8 r0_reads_c_8, .slice r0_writes_a_8 r0_writes_n_8 r0_writes_c_8] rfl (fun h => nomatch h) (At.cells T15.at' 1 rfl 0 [.slice r0_reads_a_8 r0_reads_n_8 r0_reads_c_8, .slice r0_writes_a_8 r0_writes_n_8 r0_writes_c_8] rfl))) (.cell (F14.ev 3 rfl) (run_loadVar' TI_26 _ [.slice r1_reads_a_8 r1_reads_n_8 r1_reads_c_8, .slice r1_writes_a_8 r1_writes_n_8 r1_writes_c_8] rfl (fun h => nomatch h) (At.cells T15.at' 0 rfl 0 [.slice r1_reads_a_8 r1_reads_n_8 r1_reads_c_8, .slice r1_writes_a_8 r1_writes_n_8 r1_writes_c_8] rfl)))) ?_
 exact ⟨d_8, d2_8, r0_reads_a_8, r0_reads_n_8, r0_reads_c_8, r0_writes_a_8, r0_writes_n_8, r0_writes_c_8, r1_reads_a_8, r1_reads_n_8, r1_reads_c_8, r1_writes_a_8, r1_writes_n_8, r1_writes_c_8, rfl, (Mv.pick (S1.trans (T6.trans (S8.trans (S12.trans T15)))) [] rfl), (Rd.give (Rd.mv (Nat.succ_pos _) V8_0 (S12.trans T15))), (Rd.give (Rd.mv (Nat.succ_pos _) V8_1 (S12.trans T15))), (Rd.give (Rd.mv (Nat.succ_pos _) V8_2 (S12.trans T15))), (Rd.give (Rd.mv (Nat.succ_pos _) V8_3 (S12.trans T15))), by first | assumption | exact w64_ok _ | omega | (unfold i64ok; omega), by first | assumption | exact w64_ok _ | omega | (unfold i64ok; omega)⟩
theorem spec_DrawClash_c {w : World} {H : Nat → Prop} {code : List Nat} {code_a : Option Addr} {code_n code_c : Nat} (v_code : RdA 1 encB okB H w (.slice code_a code_n code_c) code) (p0 : code_n ≤ 1048576) :
    Calls Try.prog 21 #[.slice code_a code_n code_c] w fun e w' => ∃ (d : TouchD), ∃ (d2 : TouchD), ∃ (r0_reads_a : Option Addr), ∃ (r0_reads_n : Nat), ∃ (r0_reads_c : Nat), ∃ (r0_writes_a : Option Addr), ∃ (r0_writes_n : Nat), ∃ (r0_writes_c : Nat), ∃ (r1_reads_a : Option Addr), ∃ (r1_reads_n : Nat), ∃ (r1_reads_c : Nat), ∃ (r1_writes_a : Option Addr), ∃ (r1_writes_n : Nat), ∃ (r1_writes_c : Nat), e = .returned (.tuple #[.agg #[.slice r0_reads_a r0_reads_n r0_reads_c, .slice r0_writes_a r0_writes_n r0_writes_c], .agg #[.slice r1_reads_a r1_reads_n r1_reads_c, .slice r1_writes_a r1_writes_n r1_writes_c]]) ∧ Mv [] w [] w' ∧ Rd 1 encS okS (Fsh H w) w' (.slice r0_reads_a r0_reads_n r0_reads_c) d.reads ∧ Rd 1 encS okS (Fsh H w) w' (.slice r0_writes_a r0_writes_n r0_writes_c) d.writes ∧ Rd 1 encS okS (Fsh H w) w' (.slice r1_reads_a r1_reads_n r1_reads_c) d2.reads ∧ Rd 1 encS okS (Fsh H w) w' (.slice r1_writes_a r1_writes_n r1_writes_c) d2.writes ∧ (d.reads.length ≤ 100 ∧ d.writes.length ≤ 100) ∧ (d2.reads.length ≤ 100 ∧ d2.writes.length ≤ 100) := by
 have V_v_code : RdA 1 encB okB (V H w []) w (.slice code_a code_n code_c) code := RdA.start v_code (fun _ _ => fps_nil _)
 obtain ⟨ln_code, le_code, mx_code, ni_code⟩ := RdA.inv v_code
 refine calls_enter 8 Try.func21 rfl Try.ntmps21 (Nat.le_of_ble_eq_true rfl) (fun _ F0i => ?_)
 have F0 : Fr 8 [(0, .slice code_a code_n code_c)] _ := F0i
 clear F0i
 refine wp_seq (wp_region_lit (l_op (f_alloc F0 (At.nil w) ZI_26 rfl rfl rfl rfl rfl fun b1 _ w1 F2 S1 => ?_)))
 refine l_op (f_alloc F2 S1.at' ZI_26 rfl rfl rfl rfl rfl fun b3 _ w3 F4 S3 => ?_)
 have F5 : Fr 8 [(3, .pointer (some ⟨b3, 0, none⟩)), (2, .pointer (some ⟨b1, 0, none⟩)), (0, .slice code_a code_n code_c)] _ := F4.cut rfl
 clear F0 F2 F4
 have T6 : Mv _ _ [bx b3 [.slice none 0 0, .slice none 0 0] 26, bx b1 [.slice none 0 0, .slice none 0 0] 26] _ := S3
 refine s_end (x_normal (wp_seq (wp_region_lit (l_op (f_mv F5 rfl rfl rfl rfl rfl fun _ F7 => ?_)))))
 refine l_op (f_call F7 CF_73 rfl rfl rfl rfl (lc (F7.ev 4 rfl) rfl) (spec_l03Two_c (code := code) (RdA.mv (Nat.succ_pos _) V_v_code (S1.trans T6)) (by first | assumption | omega | (simp <;> omega))) ?_)
 rintro _ w8 ⟨d_8, d2_8, r0_reads_a_8, r0_reads_n_8, r0_reads_c_8, r0_writes_a_8, r0_writes_n_8, r0_writes_c_8, r1_reads_a_8, r1_reads_n_8, r1_reads_c_8, r1_writes_a_8, r1_writes_n_8, r1_writes_c_8, rfl, m8, v8_0, v8_1, v8_2, v8_3, q8_0, q8_1⟩
 refine ⟨_, rfl, fun _ F9 => ?_⟩
 have S8 := At.frame0 T6.at' m8
 have V8_0 := Rd.got0 T6.at' ((S1.trans T6).kp.size) v8_0 S8
 obtain ⟨ln8_0, le8_0, mx8_0, ni8_0⟩ := Rd.inv V8_0
 have V8_1 := Rd.got0 T6.at' ((S1.trans T6).kp.size) v8_1 S8
 obtain ⟨ln8_1, le8_1, mx8_1, ni8_1⟩ := Rd.inv V8_1
 have V8_2 := Rd.got0 T6.at' ((S1.trans T6).kp.size) v8_2 S8
 obtain ⟨ln8_2, le8_2, mx8_2, ni8_2⟩ := Rd.inv V8_2
 have V8_3 := Rd.got0 T6.at' ((S1.trans T6).kp.size) v8_3 S8
 obtain ⟨ln8_3, le8_3, mx8_3, ni8_3⟩ := Rd.inv V8_3
 clear m8 v8_0 v8_1 v8_2 v8_3
 refine l_op (f_val (v := .agg #[.slice r0_reads_a_8 r0_reads_n_8 r0_reads_c_8, .slice r0_writes_a_8 r0_writes_n_8 r0_writes_c_8]) F9 rfl rfl (r_extract rfl (F9.ev 5 rfl) rfl) rfl fun _ F10 => ?_)
 refine l_op (f_val (v := .agg #[.slice r1_reads_a_8 r1_reads_n_8 r1_reads_c_8, .slice r1_writes_a_8 r1_writes_n_8 r1_writes_c_8]) F10 rfl rfl (r_extract rfl (F10.ev 5 rfl) rfl) rfl fun _ F11 => ?_)
 refine l_op (s_store S8.at' 1 TI_26 rfl rfl rfl rfl rfl (F11.ev 2 rfl) (F11.ev 6 rfl) rfl rfl rfl rfl rfl fun w12 S12 => ?_)
 refine l_op (s_store S12.at' 1 TI_26 rfl rfl rfl rfl rfl (F11.ev 3 rfl) (F11.ev 7 rfl) rfl rfl rfl rfl rfl fun w13 S13 => ?_)
 have F14 : Fr 8 [(7, .agg #[.slice r1_reads_a_8 r1_reads_n_8 r1_reads_c_8, .slice r1_writes_a_8 r1_writes_n_8 r1_writes_c_8]), (6, .agg #[.slice r0_reads_a_8 r0_reads_n_8 r0_reads_c_8, .slice r0_writes_a_8 r0_writes_n_8 r0_writes_c_8]), (3, .pointer (some ⟨b3, 0, none⟩)), (2, .pointer (some ⟨b1, 0, none⟩))] _ := F11.cut rfl
 clear F5 F7 F9 F10 F11
 have T15 : Mv _ _ [bx b3 [.slice r1_reads_a_8 r1_reads_n_8 r1_reads_c_8, .slice r1_writes_a_8 r1_writes_n_8 r1_writes_c_8] 26, bx b1 [.slice r0_reads_a_8 r0_reads_n_8 r0_reads_c_8, .slice r0_writes_a_8 r0_writes_n_8 r0_writes_c_8] 26] _ := S13
 refine s_end (x_normal (wp_ret ?_))
 refine x_done (v := .tuple #[.agg #[.slice r0_reads_a_8 r0_reads_n_8 r0_reads_c_8, .slice r0_writes_a_8 r0_writes_n_8 r0_writes_c_8], .agg #[.slice r1_reads_a_8 r1_reads_n_8 r1_reads_c_8, .slice r1_writes_a_8 r1_writes_n_8 r1_writes_c_8]]) F14 (results_2 Try.results21 (.cell (F14.ev 2 rfl) (run_loadVar' TI_26 _ [.slice r0_reads_a_8 r0_reads_n_8 r0_reads_c_8, .slice r0_writes_a_8 r0_writes_n_8 r0_writes_c_8] rfl (fun h => nomatch h) (At.cells T15.at' 1 rfl 0 [.slice r0_reads_a_8 r0_reads_n_8 r0_reads_c_8, .slice r0_writes_a_8 r0_writes_n_8 r0_writes_c_8] rfl))) (.cell (F14.ev 3 rfl) (run_loadVar' TI_26 _ [.slice r1_reads_a_8 r1_reads_n_8 r1_reads_c_8, .slice r1_writes_a_8 r1_writes_n_8 r1_writes_c_8] rfl (fun h => nomatch h) (At.cells T15.at' 0 rfl 0 [.slice r1_reads_a_8 r1_reads_n_8 r1_reads_c_8, .slice r1_writes_a_8 r1_writes_n_8 r1_writes_c_8] rfl)))) ?_
 exact ⟨d_8, d2_8, r0_reads_a_8, r0_reads_n_8, r0_reads_c_8, r0_writes_a_8, r0_writes_n_8, r0_writes_c_8, r1_reads_a_8, r1_reads_n_8, r1_reads_c_8, r1_writes_a_8, r1_writes_n_8, r1_writes_c_8, rfl, (Mv.pick (S1.trans (T6.trans (S8.trans (S12.trans T15)))) [] rfl), (Rd.give (Rd.mv (Nat.succ_pos _) V8_0 (S12.trans T15))), (Rd.give (Rd.mv (Nat.succ_pos _) V8_1 (S12.trans T15))), (Rd.give (Rd.mv (Nat.succ_pos _) V8_2 (S12.trans T15))), (Rd.give (Rd.mv (Nat.succ_pos _) V8_3 (S12.trans T15))), by first | assumption | exact w64_ok _ | omega | (unfold i64ok; omega), by first | assumption | exact w64_ok _ | omega | (unfold i64ok; omega)⟩
theorem spec_DrawSameTouch_c {w : World} {H : Nat → Prop} {code : List Nat} {code_a : Option Addr} {code_n code_c : Nat} (v_code : RdA 1 encB okB H w (.slice code_a code_n code_c) code) (p0 : code_n ≤ 1048576) :
    Calls Try.prog 22 #[.slice code_a code_n code_c] w fun e w' => ∃ (d : TouchD), ∃ (d2 : TouchD), ∃ (r0_reads_a : Option Addr), ∃ (r0_reads_n : Nat), ∃ (r0_reads_c : Nat), ∃ (r0_writes_a : Option Addr), ∃ (r0_writes_n : Nat), ∃ (r0_writes_c : Nat), ∃ (r1_reads_a : Option Addr), ∃ (r1_reads_n : Nat), ∃ (r1_reads_c : Nat), ∃ (r1_writes_a : Option Addr), ∃ (r1_writes_n : Nat), ∃ (r1_writes_c : Nat), e = .returned (.tuple #[.agg #[.slice r0_reads_a r0_reads_n r0_reads_c, .slice r0_writes_a r0_writes_n r0_writes_c], .agg #[.slice r1_reads_a r1_reads_n r1_reads_c, .slice r1_writes_a r1_writes_n r1_writes_c]]) ∧ Mv [] w [] w' ∧ Rd 1 encS okS (Fsh H w) w' (.slice r0_reads_a r0_reads_n r0_reads_c) d.reads ∧ Rd 1 encS okS (Fsh H w) w' (.slice r0_writes_a r0_writes_n r0_writes_c) d.writes ∧ Rd 1 encS okS (Fsh H w) w' (.slice r1_reads_a r1_reads_n r1_reads_c) d2.reads ∧ Rd 1 encS okS (Fsh H w) w' (.slice r1_writes_a r1_writes_n r1_writes_c) d2.writes ∧ (d.reads.length ≤ 100 ∧ d.writes.length ≤ 100) ∧ (d2.reads.length ≤ 100 ∧ d2.writes.length ≤ 100) := by
 have V_v_code : RdA 1 encB okB (V H w []) w (.slice code_a code_n code_c) code := RdA.start v_code (fun _ _ => fps_nil _)
 obtain ⟨ln_code, le_code, mx_code, ni_code⟩ := RdA.inv v_code
 refine calls_enter 8 Try.func22 rfl Try.ntmps22 (Nat.le_of_ble_eq_true rfl) (fun _ F0i => ?_)
 have F0 : Fr 8 [(0, .slice code_a code_n code_c)] _ := F0i
 clear F0i
 refine wp_seq (wp_region_lit (l_op (f_alloc F0 (At.nil w) ZI_26 rfl rfl rfl rfl rfl fun b1 _ w1 F2 S1 => ?_)))
 refine l_op (f_alloc F2 S1.at' ZI_26 rfl rfl rfl rfl rfl fun b3 _ w3 F4 S3 => ?_)
 have F5 : Fr 8 [(3, .pointer (some ⟨b3, 0, none⟩)), (2, .pointer (some ⟨b1, 0, none⟩)), (0, .slice code_a code_n code_c)] _ := F4.cut rfl
 clear F0 F2 F4
 have T6 : Mv _ _ [bx b3 [.slice none 0 0, .slice none 0 0] 26, bx b1 [.slice none 0 0, .slice none 0 0] 26] _ := S3
 refine s_end (x_normal (wp_seq (wp_region_lit (l_op (f_mv F5 rfl rfl rfl rfl rfl fun _ F7 => ?_)))))
 refine l_op (f_call F7 CF_73 rfl rfl rfl rfl (lc (F7.ev 4 rfl) rfl) (spec_l03Two_c (code := code) (RdA.mv (Nat.succ_pos _) V_v_code (S1.trans T6)) (by first | assumption | omega | (simp <;> omega))) ?_)
 rintro _ w8 ⟨d_8, d2_8, r0_reads_a_8, r0_reads_n_8, r0_reads_c_8, r0_writes_a_8, r0_writes_n_8, r0_writes_c_8, r1_reads_a_8, r1_reads_n_8, r1_reads_c_8, r1_writes_a_8, r1_writes_n_8, r1_writes_c_8, rfl, m8, v8_0, v8_1, v8_2, v8_3, q8_0, q8_1⟩
 refine ⟨_, rfl, fun _ F9 => ?_⟩
 have S8 := At.frame0 T6.at' m8
 have V8_0 := Rd.got0 T6.at' ((S1.trans T6).kp.size) v8_0 S8
 obtain ⟨ln8_0, le8_0, mx8_0, ni8_0⟩ := Rd.inv V8_0
 have V8_1 := Rd.got0 T6.at' ((S1.trans T6).kp.size) v8_1 S8
 obtain ⟨ln8_1, le8_1, mx8_1, ni8_1⟩ := Rd.inv V8_1
 have V8_2 := Rd.got0 T6.at' ((S1.trans T6).kp.size) v8_2 S8
 obtain ⟨ln8_2, le8_2, mx8_2, ni8_2⟩ := Rd.inv V8_2
 have V8_3 := Rd.got0 T6.at' ((S1.trans T6).kp.size) v8_3 S8
 obtain ⟨ln8_3, le8_3, mx8_3, ni8_3⟩ := Rd.inv V8_3
 clear m8 v8_0 v8_1 v8_2 v8_3
 refine l_op (f_val (v := .agg #[.slice r0_reads_a_8 r0_reads_n_8 r0_reads_c_8, .slice r0_writes_a_8 r0_writes_n_8 r0_writes_c_8]) F9 rfl rfl (r_extract rfl (F9.ev 5 rfl) rfl) rfl fun _ F10 => ?_)
 refine l_op (f_val (v := .agg #[.slice r1_reads_a_8 r1_reads_n_8 r1_reads_c_8, .slice r1_writes_a_8 r1_writes_n_8 r1_writes_c_8]) F10 rfl rfl (r_extract rfl (F10.ev 5 rfl) rfl) rfl fun _ F11 => ?_)
 refine l_op (s_store S8.at' 1 TI_26 rfl rfl rfl rfl rfl (F11.ev 2 rfl) (F11.ev 6 rfl) rfl rfl rfl rfl rfl fun w12 S12 => ?_)
 refine l_op (s_store S12.at' 1 TI_26 rfl rfl rfl rfl rfl (F11.ev 3 rfl) (F11.ev 7 rfl) rfl rfl rfl rfl rfl fun w13 S13 => ?_)
 have F14 : Fr 8 [(7, .agg #[.slice r1_reads_a_8 r1_reads_n_8 r1_reads_c_8, .slice r1_writes_a_8 r1_writes_n_8 r1_writes_c_8]), (6, .agg #[.slice r0_reads_a_8 r0_reads_n_8 r0_reads_c_8, .slice r0_writes_a_8 r0_writes_n_8 r0_writes_c_8]), (3, .pointer (some ⟨b3, 0, none⟩)), (2, .pointer (some ⟨b1, 0, none⟩))] _ := F11.cut rfl
 clear F5 F7 F9 F10 F11
 have T15 : Mv _ _ [bx b3 [.slice r1_reads_a_8 r1_reads_n_8 r1_reads_c_8, .slice r1_writes_a_8 r1_writes_n_8 r1_writes_c_8] 26, bx b1 [.slice r0_reads_a_8 r0_reads_n_8 r0_reads_c_8, .slice r0_writes_a_8 r0_writes_n_8 r0_writes_c_8] 26] _ := S13
 refine s_end (x_normal (wp_ret ?_))
 refine x_done (v := .tuple #[.agg #[.slice r0_reads_a_8 r0_reads_n_8 r0_reads_c_8, .slice r0_writes_a_8 r0_writes_n_8 r0_writes_c_8], .agg #[.slice r1_reads_a_8 r1_reads_n_8 r1_reads_c_8, .slice r1_writes_a_8 r1_writes_n_8 r1_writes_c_8]]) F14 (results_2 Try.results22 (.cell (F14.ev 2 rfl) (run_loadVar' TI_26 _ [.slice r0_reads_a_8 r0_reads_n_8 r0_reads_c_8, .slice r0_writes_a_8 r0_writes_n_8 r0_writes_c_8] rfl (fun h => nomatch h) (At.cells T15.at' 1 rfl 0 [.slice r0_reads_a_8 r0_reads_n_8 r0_reads_c_8, .slice r0_writes_a_8 r0_writes_n_8 r0_writes_c_8] rfl))) (.cell (F14.ev 3 rfl) (run_loadVar' TI_26 _ [.slice r1_reads_a_8 r1_reads_n_8 r1_reads_c_8, .slice r1_writes_a_8 r1_writes_n_8 r1_writes_c_8] rfl (fun h => nomatch h) (At.cells T15.at' 0 rfl 0 [.slice r1_reads_a_8 r1_reads_n_8 r1_reads_c_8, .slice r1_writes_a_8 r1_writes_n_8 r1_writes_c_8] rfl)))) ?_
 exact ⟨d_8, d2_8, r0_reads_a_8, r0_reads_n_8, r0_reads_c_8, r0_writes_a_8, r0_writes_n_8, r0_writes_c_8, r1_reads_a_8, r1_reads_n_8, r1_reads_c_8, r1_writes_a_8, r1_writes_n_8, r1_writes_c_8, rfl, (Mv.pick (S1.trans (T6.trans (S8.trans (S12.trans T15)))) [] rfl), (Rd.give (Rd.mv (Nat.succ_pos _) V8_0 (S12.trans T15))), (Rd.give (Rd.mv (Nat.succ_pos _) V8_1 (S12.trans T15))), (Rd.give (Rd.mv (Nat.succ_pos _) V8_2 (S12.trans T15))), (Rd.give (Rd.mv (Nat.succ_pos _) V8_3 (S12.trans T15))), by first | assumption | exact w64_ok _ | omega | (unfold i64ok; omega), by first | assumption | exact w64_ok _ | omega | (unfold i64ok; omega)⟩
theorem spec_DrawAddSpan_c {w : World} {H : Nat → Prop} {code : List Nat} {code_a : Option Addr} {code_n code_c : Nat} (v_code : RdA 1 encB okB H w (.slice code_a code_n code_c) code) (p0 : code_n ≤ 1048576) :
    Calls Try.prog 27 #[.slice code_a code_n code_c] w fun e w' => ∃ (l : List ByteArray), ∃ (r : ByteArray), ∃ (r0_a : Option Addr), ∃ (r0_n : Nat), ∃ (r0_c : Nat), e = .returned (.tuple #[.slice r0_a r0_n r0_c, .string r]) ∧ Mv [] w [] w' ∧ Rd 1 encS okS (Fsh H w) w' (.slice r0_a r0_n r0_c) l ∧ okS r ∧ l.length ≤ 4 ∧ r.size ≤ 100 := by
 have V_v_code : RdA 1 encB okB (V H w []) w (.slice code_a code_n code_c) code := RdA.start v_code (fun _ _ => fps_nil _)
 obtain ⟨ln_code, le_code, mx_code, ni_code⟩ := RdA.inv v_code
 refine calls_enter 11 Try.func27 rfl Try.ntmps27 (Nat.le_of_ble_eq_true rfl) (fun _ F0i => ?_)
 have F0 : Fr 11 [(0, .slice code_a code_n code_c)] _ := F0i
 clear F0i
 refine wp_seq (wp_region_lit (l_op (f_val F0 rfl rfl (r_assign rfl rfl) rfl fun _ F1 => ?_)))
 refine l_op (f_val F1 rfl rfl (r_assign rfl rfl) rfl fun _ F2 => ?_)
 have F3 : Fr 11 [(3, .string (⟨#[]⟩ : ByteArray)), (0, .slice code_a code_n code_c)] _ := F2.cut rfl
 clear F0 F1 F2
 refine s_end (x_normal (wp_seq (wp_region_lit (l_op (f_mv F3 rfl rfl rfl rfl rfl fun _ F4 => ?_)))))
 refine l_op (f_call F4 CF_75 rfl rfl rfl rfl (lc (F4.ev 5 rfl) rfl) (spec_l01New_c (code := code) V_v_code (by first | assumption | omega | (simp <;> omega))) ?_)
 rintro _ w5 ⟨h2_5, r0_b_5, rfl, m5, q5_0⟩
 refine ⟨_, rfl, fun _ F6 => ?_⟩
 have S5 : Mv _ _ [bx r0_b_5 [.slice code_a code_n code_c, .int .i64 ((0 : Nat) : Int), .int .i64 h2_5] 108] _ := At.frame (At.nil w) [] rfl m5
 clear m5
 refine l_op (f_as F6 rfl rfl rfl rfl rfl fun _ F7 => ?_)
 have F8 : Fr 11 [(4, .pointer (some ⟨r0_b_5, 0, none⟩))] _ := F7.cut rfl
 clear F3 F4 F6 F7
 refine s_end (x_normal (wp_seq (wp_region_lit (l_op (f_mv F8 rfl rfl rfl rfl rfl fun _ F9 => ?_)))))
 refine l_op (f_call F9 CF_76 rfl rfl rfl rfl (lc (F9.ev 7 rfl) rfl) (spec_l03List_c (c := (⟨code, 0, h2_5⟩ : CurD)) (RdA.mv (Nat.succ_pos _) V_v_code S5) (by unfold i64ok; (try dsimp only); omega) (by first | assumption | exact w64_ok _ | exact ⟨by omega, by omega⟩ | (unfold i64ok at *; omega)) (by first | assumption | omega | (simp <;> omega)) (At.pick (is := [0]) S5.at' rfl) (V_off (is := [0]))) ?_)
 rintro _ w10 ⟨i2_10, h2_10, l_10, r0_a_10, r0_n_10, r0_c_10, rfl, m10, v10_0, q10_0, q10_1, q10_2⟩
 refine ⟨_, rfl, fun _ F11 => ?_⟩
 have S10 : Mv _ _ [bx r0_b_5 [.slice code_a code_n code_c, .int .i64 ((i2_10 : Nat) : Int), .int .i64 h2_10] 108] _ := At.frame S5.at' [0] rfl m10
 have V10_0 : Rd 1 encS okS (V H w [bx r0_b_5 [.slice code_a code_n code_c, .int .i64 ((i2_10 : Nat) : Int), .int .i64 h2_10] 108]) w10 (.slice r0_a_10 r0_n_10 r0_c_10) l_10 := Rd.gotP (New := [bx r0_b_5 [.slice code_a code_n code_c, .int .i64 ((i2_10 : Nat) : Int), .int .i64 h2_10] 108]) (is := [0]) S5.at' (S5.kp.size) (fresh_nil S5) v10_0
 obtain ⟨ln10_0, le10_0, mx10_0, ni10_0⟩ := Rd.inv V10_0
 clear m10 v10_0
 refine l_op (f_mv F11 rfl rfl rfl rfl rfl fun _ F12 => ?_)
 refine l_op (f_call F12 CF_77 rfl rfl rfl rfl (lc (F12.ev 9 rfl) rfl) (spec_l03Span_c (c := (⟨code, i2_10, h2_10⟩ : CurD)) (RdA.mv (Nat.succ_pos _) V_v_code (S5.trans S10)) (by unfold i64ok; (try dsimp only); omega) (by first | assumption | exact w64_ok _ | exact ⟨by omega, by omega⟩ | (unfold i64ok at *; omega)) (by first | assumption | omega | (simp <;> omega)) (At.pick (is := [0]) S10.at' rfl) (V_off (is := [0]))) ?_)
 rintro _ w13 ⟨i2_13, h2_13, r_13, rfl, m13, ok_r0_13, q13_0, q13_1, q13_2⟩
 refine ⟨_, rfl, fun _ F14 => ?_⟩
 have S13 : Mv _ _ [bx r0_b_5 [.slice code_a code_n code_c, .int .i64 ((i2_13 : Nat) : Int), .int .i64 h2_13] 108] _ := At.frame S10.at' [0] rfl m13
 clear m13
 refine l_op (f_as F14 rfl rfl rfl rfl rfl fun _ F15 => ?_)
 refine l_op (f_as F15 rfl rfl rfl rfl rfl fun _ F16 => ?_)
 have F17 : Fr 11 [(3, .string r_13), (2, .slice r0_a_10 r0_n_10 r0_c_10)] _ := F16.cut rfl
 clear F8 F9 F11 F12 F14 F15 F16
 refine s_end (x_normal (wp_ret ?_))
 refine x_done (v := .tuple #[.slice r0_a_10 r0_n_10 r0_c_10, .string r_13]) F17 (results_2 Try.results27 (.tmp (F17.ev 2 rfl)) (.tmp (F17.ev 3 rfl))) ?_
 exact ⟨l_10, r_13, r0_a_10, r0_n_10, r0_c_10, rfl, (Mv.pick (S5.trans (S10.trans S13)) [] rfl), (Rd.give (Rd.mv (Nat.succ_pos _) V10_0 S13)), ok_r0_13, by first | assumption | exact w64_ok _ | omega | (unfold i64ok; omega), by first | assumption | exact w64_ok _ | omega | (unfold i64ok; omega)⟩
theorem spec_DrawMeetAny_c {w : World} {H : Nat → Prop} {code : List Nat} {code_a : Option Addr} {code_n code_c : Nat} (v_code : RdA 1 encB okB H w (.slice code_a code_n code_c) code) (p0 : code_n ≤ 1048576) :
    Calls Try.prog 29 #[.slice code_a code_n code_c] w fun e w' => ∃ (l : List ByteArray), ∃ (l2 : List ByteArray), ∃ (r0_a : Option Addr), ∃ (r0_n : Nat), ∃ (r0_c : Nat), ∃ (r1_a : Option Addr), ∃ (r1_n : Nat), ∃ (r1_c : Nat), e = .returned (.tuple #[.slice r0_a r0_n r0_c, .slice r1_a r1_n r1_c]) ∧ Mv [] w [] w' ∧ Rd 1 encS okS (Fsh H w) w' (.slice r0_a r0_n r0_c) l ∧ Rd 1 encS okS (Fsh H w) w' (.slice r1_a r1_n r1_c) l2 ∧ l.length ≤ 4 ∧ l2.length ≤ 4 := by
 have V_v_code : RdA 1 encB okB (V H w []) w (.slice code_a code_n code_c) code := RdA.start v_code (fun _ _ => fps_nil _)
 obtain ⟨ln_code, le_code, mx_code, ni_code⟩ := RdA.inv v_code
 refine calls_enter 11 Try.func29 rfl Try.ntmps29 (Nat.le_of_ble_eq_true rfl) (fun _ F0i => ?_)
 have F0 : Fr 11 [(0, .slice code_a code_n code_c)] _ := F0i
 clear F0i
 refine wp_seq (wp_region_lit (l_op (f_val F0 rfl rfl (r_assign rfl rfl) rfl fun _ F1 => ?_)))
 refine l_op (f_val F1 rfl rfl (r_assign rfl rfl) rfl fun _ F2 => ?_)
 have F3 : Fr 11 [(3, .slice none 0 0), (0, .slice code_a code_n code_c)] _ := F2.cut rfl
 clear F0 F1 F2
 refine s_end (x_normal (wp_seq (wp_region_lit (l_op (f_mv F3 rfl rfl rfl rfl rfl fun _ F4 => ?_)))))
 refine l_op (f_call F4 CF_75 rfl rfl rfl rfl (lc (F4.ev 5 rfl) rfl) (spec_l01New_c (code := code) V_v_code (by first | assumption | omega | (simp <;> omega))) ?_)
 rintro _ w5 ⟨h2_5, r0_b_5, rfl, m5, q5_0⟩
 refine ⟨_, rfl, fun _ F6 => ?_⟩
 have S5 : Mv _ _ [bx r0_b_5 [.slice code_a code_n code_c, .int .i64 ((0 : Nat) : Int), .int .i64 h2_5] 108] _ := At.frame (At.nil w) [] rfl m5
 clear m5
 refine l_op (f_as F6 rfl rfl rfl rfl rfl fun _ F7 => ?_)
 have F8 : Fr 11 [(4, .pointer (some ⟨r0_b_5, 0, none⟩))] _ := F7.cut rfl
 clear F3 F4 F6 F7
 refine s_end (x_normal (wp_seq (wp_region_lit (l_op (f_mv F8 rfl rfl rfl rfl rfl fun _ F9 => ?_)))))
 refine l_op (f_call F9 CF_76 rfl rfl rfl rfl (lc (F9.ev 7 rfl) rfl) (spec_l03List_c (c := (⟨code, 0, h2_5⟩ : CurD)) (RdA.mv (Nat.succ_pos _) V_v_code S5) (by unfold i64ok; (try dsimp only); omega) (by first | assumption | exact w64_ok _ | exact ⟨by omega, by omega⟩ | (unfold i64ok at *; omega)) (by first | assumption | omega | (simp <;> omega)) (At.pick (is := [0]) S5.at' rfl) (V_off (is := [0]))) ?_)
 rintro _ w10 ⟨i2_10, h2_10, l_10, r0_a_10, r0_n_10, r0_c_10, rfl, m10, v10_0, q10_0, q10_1, q10_2⟩
 refine ⟨_, rfl, fun _ F11 => ?_⟩
 have S10 : Mv _ _ [bx r0_b_5 [.slice code_a code_n code_c, .int .i64 ((i2_10 : Nat) : Int), .int .i64 h2_10] 108] _ := At.frame S5.at' [0] rfl m10
 have V10_0 : Rd 1 encS okS (V H w [bx r0_b_5 [.slice code_a code_n code_c, .int .i64 ((i2_10 : Nat) : Int), .int .i64 h2_10] 108]) w10 (.slice r0_a_10 r0_n_10 r0_c_10) l_10 := Rd.gotP (New := [bx r0_b_5 [.slice code_a code_n code_c, .int .i64 ((i2_10 : Nat) : Int), .int .i64 h2_10] 108]) (is := [0]) S5.at' (S5.kp.size) (fresh_nil S5) v10_0
 obtain ⟨ln10_0, le10_0, mx10_0, ni10_0⟩ := Rd.inv V10_0
 clear m10 v10_0
 refine l_op (f_mv F11 rfl rfl rfl rfl rfl fun _ F12 => ?_)
 refine l_op (f_call F12 CF_76 rfl rfl rfl rfl (lc (F12.ev 9 rfl) rfl) (spec_l03List_c (c := (⟨code, i2_10, h2_10⟩ : CurD)) (RdA.mv (Nat.succ_pos _) V_v_code (S5.trans S10)) (by unfold i64ok; (try dsimp only); omega) (by first | assumption | exact w64_ok _ | exact ⟨by omega, by omega⟩ | (unfold i64ok at *; omega)) (by first | assumption | omega | (simp <;> omega)) (At.pick (is := [0]) S10.at' rfl) (V_off (is := [0]))) ?_)
 rintro _ w13 ⟨i2_13, h2_13, l_13, r0_a_13, r0_n_13, r0_c_13, rfl, m13, v13_0, q13_0, q13_1, q13_2⟩
 refine ⟨_, rfl, fun _ F14 => ?_⟩
 have S13 : Mv _ _ [bx r0_b_5 [.slice code_a code_n code_c, .int .i64 ((i2_13 : Nat) : Int), .int .i64 h2_13] 108] _ := At.frame S10.at' [0] rfl m13
 have V13_0 : Rd 1 encS okS (V H w [bx r0_b_5 [.slice code_a code_n code_c, .int .i64 ((i2_13 : Nat) : Int), .int .i64 h2_13] 108]) w13 (.slice r0_a_13 r0_n_13 r0_c_13) l_13 := Rd.gotP (New := [bx r0_b_5 [.slice code_a code_n code_c, .int .i64 ((i2_13 : Nat) : Int), .int .i64 h2_13] 108]) (is := [0]) S10.at' ((S5.trans S10).kp.size) (fresh_nil (S5.trans S10)) v13_0
 obtain ⟨ln13_0, le13_0, mx13_0, ni13_0⟩ := Rd.inv V13_0
 clear m13 v13_0
 refine l_op (f_as F14 rfl rfl rfl rfl rfl fun _ F15 => ?_)
 refine l_op (f_as F15 rfl rfl rfl rfl rfl fun _ F16 => ?_)
 have F17 : Fr 11 [(3, .slice r0_a_13 r0_n_13 r0_c_13), (2, .slice r0_a_10 r0_n_10 r0_c_10)] _ := F16.cut rfl
 clear F8 F9 F11 F12 F14 F15 F16
 refine s_end (x_normal (wp_ret ?_))
 refine x_done (v := .tuple #[.slice r0_a_10 r0_n_10 r0_c_10, .slice r0_a_13 r0_n_13 r0_c_13]) F17 (results_2 Try.results29 (.tmp (F17.ev 2 rfl)) (.tmp (F17.ev 3 rfl))) ?_
 exact ⟨l_10, l_13, r0_a_10, r0_n_10, r0_c_10, r0_a_13, r0_n_13, r0_c_13, rfl, (Mv.pick (S5.trans (S10.trans S13)) [] rfl), (Rd.give (Rd.mv (Nat.succ_pos _) V10_0 S13)), (Rd.give V13_0), by first | assumption | exact w64_ok _ | omega | (unfold i64ok; omega), by first | assumption | exact w64_ok _ | omega | (unfold i64ok; omega)⟩
end Go.Proofs.Ytbbkihijhdpliaa
