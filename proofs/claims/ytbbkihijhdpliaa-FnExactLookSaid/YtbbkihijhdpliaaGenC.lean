/-
  Walks: the laws' helpers on access sets and machines.
-/
import Derived.Test.YtbbkihijhdpliaaAdapt
import Derived.Test.YtbbkihijhdpliaaGenA
import Derived.Test.YtbbkihijhdpliaaGenB
namespace Go.Proofs.Ytbbkihijhdpliaa
open Go.ChangeShapes Go.WideShapes Go.ChangeAt Go.RowKit
set_option maxRecDepth 100000
set_option maxHeartbeats 1000000
theorem laws_szTouch_c {w : World} {H : Nat → Prop} {a : TouchD} {a_reads_a : Option Addr} {a_reads_n a_reads_c : Nat} {a_writes_a : Option Addr} {a_writes_n a_writes_c : Nat} {left : Int} (v_a_reads : RdA 1 encS okS H w (.slice a_reads_a a_reads_n a_reads_c) a.reads) (v_a_writes : RdA 1 encS okS H w (.slice a_writes_a a_writes_n a_writes_c) a.writes) (h_left : i64ok left) (p0 : 0 ≤ left) (p1 : left ≤ 1048576) :
    Calls Try.prog 12 #[.agg #[.slice a_reads_a a_reads_n a_reads_c, .slice a_writes_a a_writes_n a_writes_c], .int .i64 left] w fun e w' => e = .returned (.int .i64 (subOr left (szTouchD a))) ∧ Mv [] w [] w' ∧ i64ok (subOr left (szTouchD a)) := by
  have V_v_a_reads : RdA 1 encS okS (V H w []) w (.slice a_reads_a a_reads_n a_reads_c) a.reads := RdA.start v_a_reads (fun _ _ => fps_nil _)
  obtain ⟨ln_a_reads, le_a_reads, mx_a_reads, ni_a_reads⟩ := RdA.inv v_a_reads
  have V_v_a_writes : RdA 1 encS okS (V H w []) w (.slice a_writes_a a_writes_n a_writes_c) a.writes := RdA.start v_a_writes (fun _ _ => fps_nil _)
  obtain ⟨ln_a_writes, le_a_writes, mx_a_writes, ni_a_writes⟩ := RdA.inv v_a_writes
  refine calls_enter 18 Try.func12 rfl Try.ntmps12 (Nat.le_of_ble_eq_true rfl) (fun a0 F0i => ?_)
  have F0 : Fr 18 [(0, .agg #[.slice a_reads_a a_reads_n a_reads_c, .slice a_writes_a a_writes_n a_writes_c]), (1, .int .i64 left)] a0 := F0i
  clear F0i
  refine wp_seq ?_
  refine wp_region_lit ?_
  refine l_op (s_box (At.nil w) rfl rfl rfl (F0.ev 0 rfl) rfl fun b1 a1 w1 e1 S1i => ?_)
  have S1 : Mv [] w [bx b1 [.slice a_reads_a a_reads_n a_reads_c, .slice a_writes_a a_writes_n a_writes_c] 24] w1 := S1i
  clear S1i
  have F2 : Fr 18 [(2, .pointer (some ⟨b1, 0, none⟩)), (1, .int .i64 left)] a1 := F0.put [1] e1 rfl
  clear e1 F0 a0
  refine l_op (s_val rfl rfl (r_assign rfl rfl) fun a3 e3 => ?_)
  have F4 : Fr 18 [(4, .int .i64 0), (2, .pointer (some ⟨b1, 0, none⟩)), (1, .int .i64 left)] a3 := F2.put [0, 1] e3 rfl
  clear e3 F2 a1
  refine s_end ?_
  refine x_normal ?_
  refine wp_seq ?_
  refine wp_region_lit ?_
  refine l_op (s_val rfl rfl (r_field FI_24_0 rfl (F4.ev 1 rfl) rfl) fun a5 e5 => ?_)
  have F6 : Fr 18 [(5, .pointer (some ⟨b1, 0, none⟩)), (2, .pointer (some ⟨b1, 0, none⟩)), (1, .int .i64 left)] a5 := F4.put [1, 2] e5 rfl
  clear e5 F4 a3
  refine l_op (s_val rfl rfl (r_loadB S1.at' 0 TI_22 rfl rfl (F6.ev 0 rfl) rfl rfl (fun _ => rfl) rfl) fun a7 e7 => ?_)
  have F8 : Fr 18 [(6, .slice a_reads_a a_reads_n a_reads_c), (2, .pointer (some ⟨b1, 0, none⟩)), (1, .int .i64 left)] a7 := F6.put [1, 2] e7 rfl
  clear e7 F6 a5
  refine l_op (s_val rfl rfl (r_move rfl (F8.ev 2 rfl)) fun a9 e9 => ?_)
  have F10 : Fr 18 [(7, .int .i64 left), (6, .slice a_reads_a a_reads_n a_reads_c), (2, .pointer (some ⟨b1, 0, none⟩)), (1, .int .i64 left)] a9 := F8.put [0, 1, 2] e9 rfl
  clear e9 F8 a7
  refine l_op (c_call CF_69 rfl rfl rfl (lc (F10.ev 1 rfl) (lc (F10.ev 0 rfl) rfl)) (laws_szStringS_c (H := V H w [bx b1 [.slice a_reads_a a_reads_n a_reads_c, .slice a_writes_a a_writes_n a_writes_c] 24]) (a := a.reads) (left := left) (RdA.mv (Nat.succ_pos _) V_v_a_reads S1) h_left (show 0 ≤ left from by first | assumption | omega | (simp; done) | (simp; omega)) (show left ≤ 1048576 from by first | assumption | (have := subOr_bd left (szStrs a.reads) p0; omega))) ?_)
  rintro _ w11 ⟨rfl, m11, q11_0⟩
  refine ⟨_, rfl, fun a11 e11 => ?_⟩
  have S11 : Mv [bx b1 [.slice a_reads_a a_reads_n a_reads_c, .slice a_writes_a a_writes_n a_writes_c] 24] w1 [bx b1 [.slice a_reads_a a_reads_n a_reads_c, .slice a_writes_a a_writes_n a_writes_c] 24] w11 := At.frame S1.at' [] rfl m11
  clear m11
  have F12 : Fr 18 [(8, .int .i64 (subOr left (szStrs a.reads))), (2, .pointer (some ⟨b1, 0, none⟩)), (1, .int .i64 left)] a11 := F10.put [2, 3] e11 rfl
  clear e11 F10 a9
  refine l_op (s_val rfl rfl (r_assign rfl (F12.ev 0 rfl)) fun a13 e13 => ?_)
  have F14 : Fr 18 [(1, .int .i64 (subOr left (szStrs a.reads))), (2, .pointer (some ⟨b1, 0, none⟩))] a13 := F12.put [1] e13 rfl
  clear e13 F12 a11
  refine s_end ?_
  refine x_normal ?_
  refine wp_seq ?_
  refine wp_seq ?_
  refine wp_region_lit ?_
  refine l_op (s_val rfl rfl (r_move rfl (F14.ev 0 rfl)) fun a15 e15 => ?_)
  have F16 : Fr 18 [(9, .int .i64 (subOr left (szStrs a.reads))), (1, .int .i64 (subOr left (szStrs a.reads))), (2, .pointer (some ⟨b1, 0, none⟩))] a15 := F14.put [0, 1] e15 rfl
  clear e15 F14 a13
  refine l_op (s_val rfl rfl (r_cmp (b := decide ((subOr left (szStrs a.reads)) < 0)) (.inr (.inr (.inl rfl))) rfl (F16.ev 0 rfl) rfl (dec_of (by omega))) fun a17 e17 => ?_)
  have F18 : Fr 18 [(10, .bool (decide ((subOr left (szStrs a.reads)) < 0))), (1, .int .i64 (subOr left (szStrs a.reads))), (2, .pointer (some ⟨b1, 0, none⟩))] a17 := F16.put [1, 2] e17 rfl
  clear e17 F16 a15
  refine s_end ?_
  refine x_normal ?_
  refine x_cond (p := (subOr left (szStrs a.reads)) < 0) (F18.ev 0 rfl) (fun h19 => ?_) (fun h19 => ?_)
  · skip
    refine wp_seq ?_
    refine wp_region_lit ?_
    refine l_op (s_val rfl rfl (r_assign rfl rfl) fun a20 e20 => ?_)
    have F21 : Fr 18 [(4, .int .i64 (-1))] a20 := F18.put [] e20 rfl
    clear e20 F18 a17
    refine s_end ?_
    refine x_normal ?_
    refine wp_ret ?_
    refine x_then_ret ?_
    refine x_done (v := .int .i64 (-1)) F21 (results_1 Try.results12 (.tmp (F21.ev 0 rfl))) ?_
    exact ⟨(by rw [(show (-1) = (subOr left (szTouchD a)) from by unfold szTouchD; exact (subOr_neg left _ _ (by assumption)).symm)]), (Mv.pick (S1.trans S11) [] rfl), subOr_i64 p0 p1⟩
  · skip
    refine wp_skip ?_
    refine x_normal ?_
    refine wp_seq ?_
    refine wp_region_lit ?_
    refine l_op (s_val rfl rfl (r_field FI_24_1 rfl (F18.ev 2 rfl) rfl) fun a22 e22 => ?_)
    have F23 : Fr 18 [(11, .pointer (some ⟨b1, 1, none⟩)), (1, .int .i64 (subOr left (szStrs a.reads)))] a22 := F18.put [1] e22 rfl
    clear e22 F18 a17
    refine l_op (s_val rfl rfl (r_loadB S11.at' 0 TI_22 rfl rfl (F23.ev 0 rfl) rfl rfl (fun _ => rfl) rfl) fun a24 e24 => ?_)
    have F25 : Fr 18 [(12, .slice a_writes_a a_writes_n a_writes_c), (1, .int .i64 (subOr left (szStrs a.reads)))] a24 := F23.put [1] e24 rfl
    clear e24 F23 a22
    refine l_op (s_val rfl rfl (r_move rfl (F25.ev 1 rfl)) fun a26 e26 => ?_)
    have F27 : Fr 18 [(13, .int .i64 (subOr left (szStrs a.reads))), (12, .slice a_writes_a a_writes_n a_writes_c), (1, .int .i64 (subOr left (szStrs a.reads)))] a26 := F25.put [0, 1] e26 rfl
    clear e26 F25 a24
    refine l_op (c_call CF_69 rfl rfl rfl (lc (F27.ev 1 rfl) (lc (F27.ev 0 rfl) rfl)) (laws_szStringS_c (H := V H w [bx b1 [.slice a_reads_a a_reads_n a_reads_c, .slice a_writes_a a_writes_n a_writes_c] 24]) (a := a.writes) (left := (subOr left (szStrs a.reads))) (RdA.mv (Nat.succ_pos _) V_v_a_writes (S1.trans S11)) (by first | assumption | exact ⟨by omega, by omega⟩ | (unfold i64ok at *; omega)) (show 0 ≤ (subOr left (szStrs a.reads)) from by first | assumption | omega | (simp; done) | (simp; omega)) (show (subOr left (szStrs a.reads)) ≤ 1048576 from by first | assumption | (have := subOr_bd left (szStrs a.reads) p0; omega))) ?_)
    rintro _ w28 ⟨rfl, m28, q28_0⟩
    refine ⟨_, rfl, fun a28 e28 => ?_⟩
    have S28 : Mv [bx b1 [.slice a_reads_a a_reads_n a_reads_c, .slice a_writes_a a_writes_n a_writes_c] 24] w11 [bx b1 [.slice a_reads_a a_reads_n a_reads_c, .slice a_writes_a a_writes_n a_writes_c] 24] w28 := At.frame S11.at' [] rfl m28
    clear m28
    have F29 : Fr 18 [(14, .int .i64 (subOr (subOr left (szStrs a.reads)) (szStrs a.writes))), (1, .int .i64 (subOr left (szStrs a.reads)))] a28 := F27.put [2] e28 rfl
    clear e28 F27 a26
    refine l_op (s_val rfl rfl (r_assign rfl (F29.ev 0 rfl)) fun a30 e30 => ?_)
    have F31 : Fr 18 [(1, .int .i64 (subOr (subOr left (szStrs a.reads)) (szStrs a.writes)))] a30 := F29.put [] e30 rfl
    clear e30 F29 a28
    refine s_end ?_
    refine x_normal ?_
    refine wp_seq ?_
    refine wp_seq ?_
    refine wp_region_lit ?_
    refine l_op (s_val rfl rfl (r_move rfl (F31.ev 0 rfl)) fun a32 e32 => ?_)
    have F33 : Fr 18 [(15, .int .i64 (subOr (subOr left (szStrs a.reads)) (szStrs a.writes))), (1, .int .i64 (subOr (subOr left (szStrs a.reads)) (szStrs a.writes)))] a32 := F31.put [0] e32 rfl
    clear e32 F31 a30
    refine l_op (s_val rfl rfl (r_cmp (b := decide ((subOr (subOr left (szStrs a.reads)) (szStrs a.writes)) < 0)) (.inr (.inr (.inl rfl))) rfl (F33.ev 0 rfl) rfl (dec_of (by omega))) fun a34 e34 => ?_)
    have F35 : Fr 18 [(16, .bool (decide ((subOr (subOr left (szStrs a.reads)) (szStrs a.writes)) < 0))), (1, .int .i64 (subOr (subOr left (szStrs a.reads)) (szStrs a.writes)))] a34 := F33.put [1] e34 rfl
    clear e34 F33 a32
    refine s_end ?_
    refine x_normal ?_
    refine x_cond (p := (subOr (subOr left (szStrs a.reads)) (szStrs a.writes)) < 0) (F35.ev 0 rfl) (fun h36 => ?_) (fun h36 => ?_)
    · skip
      refine wp_seq ?_
      refine wp_region_lit ?_
      refine l_op (s_val rfl rfl (r_assign rfl rfl) fun a37 e37 => ?_)
      have F38 : Fr 18 [(4, .int .i64 (-1))] a37 := F35.put [] e37 rfl
      clear e37 F35 a34
      refine s_end ?_
      refine x_normal ?_
      refine wp_ret ?_
      refine x_then_ret ?_
      refine x_done (v := .int .i64 (-1)) F38 (results_1 Try.results12 (.tmp (F38.ev 0 rfl))) ?_
      exact ⟨(by rw [(show (-1) = (subOr left (szTouchD a)) from by unfold szTouchD; rw [subOr_add left _ _ (by omega)] at *; unfold subOr at *; split at * <;> omega)]), (Mv.pick (S1.trans (S11.trans S28)) [] rfl), subOr_i64 p0 p1⟩
    · skip
      refine wp_skip ?_
      refine x_normal ?_
      refine wp_seq ?_
      refine wp_region_lit ?_
      refine l_op (s_val rfl rfl (r_move rfl (F35.ev 1 rfl)) fun a39 e39 => ?_)
      have F40 : Fr 18 [(17, .int .i64 (subOr (subOr left (szStrs a.reads)) (szStrs a.writes)))] a39 := F35.put [] e39 rfl
      clear e39 F35 a34
      refine l_op (s_val rfl rfl (r_assign rfl (F40.ev 0 rfl)) fun a41 e41 => ?_)
      have F42 : Fr 18 [(4, .int .i64 (subOr (subOr left (szStrs a.reads)) (szStrs a.writes)))] a41 := F40.put [] e41 rfl
      clear e41 F40 a39
      refine s_end ?_
      refine x_normal ?_
      refine wp_ret ?_
      refine x_done (v := .int .i64 (subOr (subOr left (szStrs a.reads)) (szStrs a.writes))) F42 (results_1 Try.results12 (.tmp (F42.ev 0 rfl))) ?_
      exact ⟨(by rw [(show (subOr (subOr left (szStrs a.reads)) (szStrs a.writes)) = (subOr left (szTouchD a)) from by unfold szTouchD; exact subOr_add left _ _ (by omega))]), (Mv.pick (S1.trans (S11.trans S28)) [] rfl), subOr_i64 p0 p1⟩
theorem laws_toTouch_c {w : World} {H : Nat → Prop} {a : TouchD} {a_reads_a : Option Addr} {a_reads_n a_reads_c : Nat} {a_writes_a : Option Addr} {a_writes_n a_writes_c : Nat} (v_a_reads : RdA 1 encS okS H w (.slice a_reads_a a_reads_n a_reads_c) a.reads) (v_a_writes : RdA 1 encS okS H w (.slice a_writes_a a_writes_n a_writes_c) a.writes) (p0 : a.reads.length ≤ 1048576) (p1 : a.writes.length ≤ 1048576) :
    Calls Try.prog 14 #[.agg #[.slice a_reads_a a_reads_n a_reads_c, .slice a_writes_a a_writes_n a_writes_c]] w fun e w' => ∃ (r0_reads_a : Option Addr), ∃ (r0_reads_n : Nat), ∃ (r0_reads_c : Nat), ∃ (r0_writes_a : Option Addr), ∃ (r0_writes_n : Nat), ∃ (r0_writes_c : Nat), e = .returned (.agg #[.slice r0_reads_a r0_reads_n r0_reads_c, .slice r0_writes_a r0_writes_n r0_writes_c]) ∧ Mv [] w [ow 9 1 encS okS (.slice r0_reads_a r0_reads_n r0_reads_c) a.reads, ow 9 1 encS okS (.slice r0_writes_a r0_writes_n r0_writes_c) a.writes] w' := by
  have V_v_a_reads : RdA 1 encS okS (V H w []) w (.slice a_reads_a a_reads_n a_reads_c) a.reads := RdA.start v_a_reads (fun _ _ => fps_nil _)
  obtain ⟨ln_a_reads, le_a_reads, mx_a_reads, ni_a_reads⟩ := RdA.inv v_a_reads
  have V_v_a_writes : RdA 1 encS okS (V H w []) w (.slice a_writes_a a_writes_n a_writes_c) a.writes := RdA.start v_a_writes (fun _ _ => fps_nil _)
  obtain ⟨ln_a_writes, le_a_writes, mx_a_writes, ni_a_writes⟩ := RdA.inv v_a_writes
  refine calls_enter 13 Try.func14 rfl Try.ntmps14 (Nat.le_of_ble_eq_true rfl) (fun a0 F0i => ?_)
  have F0 : Fr 13 [(0, .agg #[.slice a_reads_a a_reads_n a_reads_c, .slice a_writes_a a_writes_n a_writes_c])] a0 := F0i
  clear F0i
  refine wp_seq ?_
  refine wp_region_lit ?_
  refine l_op (s_box (At.nil w) rfl rfl rfl (F0.ev 0 rfl) rfl fun b1 a1 w1 e1 S1i => ?_)
  have S1 : Mv [] w [bx b1 [.slice a_reads_a a_reads_n a_reads_c, .slice a_writes_a a_writes_n a_writes_c] 24] w1 := S1i
  clear S1i
  have F2 : Fr 13 [(1, .pointer (some ⟨b1, 0, none⟩))] a1 := F0.put [] e1 rfl
  clear e1 F0 a0
  refine l_op (s_alloc S1.at' ZI_26 rfl rfl rfl rfl fun b3 a3 w3 e3 S3i => ?_)
  have S3 : Mv [bx b1 [.slice a_reads_a a_reads_n a_reads_c, .slice a_writes_a a_writes_n a_writes_c] 24] w1 [bx b3 [.slice none 0 0, .slice none 0 0] 26, bx b1 [.slice a_reads_a a_reads_n a_reads_c, .slice a_writes_a a_writes_n a_writes_c] 24] w3 := S3i
  clear S3i
  have F4 : Fr 13 [(2, .pointer (some ⟨b3, 0, none⟩)), (1, .pointer (some ⟨b1, 0, none⟩))] a3 := F2.put [0] e3 rfl
  clear e3 F2 a1
  refine s_end ?_
  refine x_normal ?_
  refine wp_seq ?_
  refine wp_region_lit ?_
  refine l_op (s_alloc S3.at' ZI_26 rfl rfl rfl rfl fun b5 a5 w5 e5 S5i => ?_)
  have S5 : Mv [bx b3 [.slice none 0 0, .slice none 0 0] 26, bx b1 [.slice a_reads_a a_reads_n a_reads_c, .slice a_writes_a a_writes_n a_writes_c] 24] w3 [bx b5 [.slice none 0 0, .slice none 0 0] 26, bx b3 [.slice none 0 0, .slice none 0 0] 26, bx b1 [.slice a_reads_a a_reads_n a_reads_c, .slice a_writes_a a_writes_n a_writes_c] 24] w5 := S5i
  clear S5i
  have F6 : Fr 13 [(3, .pointer (some ⟨b5, 0, none⟩)), (2, .pointer (some ⟨b3, 0, none⟩)), (1, .pointer (some ⟨b1, 0, none⟩))] a5 := F4.put [0, 1] e5 rfl
  clear e5 F4 a3
  refine s_end ?_
  refine x_normal ?_
  refine wp_seq ?_
  refine wp_region_lit ?_
  refine l_op (s_val rfl rfl (r_field FI_24_0 rfl (F6.ev 2 rfl) rfl) fun a7 e7 => ?_)
  have F8 : Fr 13 [(4, .pointer (some ⟨b1, 0, none⟩)), (3, .pointer (some ⟨b5, 0, none⟩)), (2, .pointer (some ⟨b3, 0, none⟩)), (1, .pointer (some ⟨b1, 0, none⟩))] a7 := F6.put [0, 1, 2] e7 rfl
  clear e7 F6 a5
  refine l_op (s_val rfl rfl (r_loadB S5.at' 2 TI_22 rfl rfl (F8.ev 0 rfl) rfl rfl (fun _ => rfl) rfl) fun a9 e9 => ?_)
  have F10 : Fr 13 [(5, .slice a_reads_a a_reads_n a_reads_c), (3, .pointer (some ⟨b5, 0, none⟩)), (2, .pointer (some ⟨b3, 0, none⟩)), (1, .pointer (some ⟨b1, 0, none⟩))] a9 := F8.put [1, 2, 3] e9 rfl
  clear e9 F8 a7
  refine l_op (c_call CF_70 rfl rfl rfl (lc (F10.ev 0 rfl) rfl) (laws_toStringS_c (H := V H w [bx b5 [.slice none 0 0, .slice none 0 0] 26, bx b3 [.slice none 0 0, .slice none 0 0] 26, bx b1 [.slice a_reads_a a_reads_n a_reads_c, .slice a_writes_a a_writes_n a_writes_c] 24]) (a := a.reads) (RdA.mv (Nat.succ_pos _) V_v_a_reads (S1.trans (S3.trans S5))) (show a.reads.length ≤ 1048576 from by first | assumption | omega | (simp; done) | (simp; omega))) ?_)
  rintro _ w11 ⟨r0_a_11, r0_n_11, r0_c_11, rfl, m11⟩
  refine ⟨_, rfl, fun a11 e11 => ?_⟩
  have S11 : Mv [bx b5 [.slice none 0 0, .slice none 0 0] 26, bx b3 [.slice none 0 0, .slice none 0 0] 26, bx b1 [.slice a_reads_a a_reads_n a_reads_c, .slice a_writes_a a_writes_n a_writes_c] 24] w5 [ow 9 1 encS okS (.slice r0_a_11 r0_n_11 r0_c_11) a.reads, bx b5 [.slice none 0 0, .slice none 0 0] 26, bx b3 [.slice none 0 0, .slice none 0 0] 26, bx b1 [.slice a_reads_a a_reads_n a_reads_c, .slice a_writes_a a_writes_n a_writes_c] 24] w11 := At.frame S5.at' [] rfl m11
  clear m11
  obtain ⟨lo11_0, lp11_0, lq11_0⟩ := At.ownInv S11.at' ET_22.hk 0 rfl
  have F12 : Fr 13 [(6, .slice r0_a_11 r0_n_11 r0_c_11), (3, .pointer (some ⟨b5, 0, none⟩)), (2, .pointer (some ⟨b3, 0, none⟩)), (1, .pointer (some ⟨b1, 0, none⟩))] a11 := F10.put [1, 2, 3] e11 rfl
  clear e11 F10 a9
  refine l_op (s_val rfl rfl (r_field FI_26_0 rfl (F12.ev 1 rfl) rfl) fun a13 e13 => ?_)
  have F14 : Fr 13 [(7, .pointer (some ⟨b5, 0, none⟩)), (6, .slice r0_a_11 r0_n_11 r0_c_11), (3, .pointer (some ⟨b5, 0, none⟩)), (2, .pointer (some ⟨b3, 0, none⟩)), (1, .pointer (some ⟨b1, 0, none⟩))] a13 := F12.put [0, 1, 2, 3] e13 rfl
  clear e13 F12 a11
  refine l_op (s_store S11.at' 1 TI_22 rfl rfl rfl rfl rfl (F14.ev 0 rfl) (F14.ev 1 rfl) rfl rfl rfl rfl rfl fun w15 S15i => ?_)
  have S15 : Mv [ow 9 1 encS okS (.slice r0_a_11 r0_n_11 r0_c_11) a.reads, bx b5 [.slice none 0 0, .slice none 0 0] 26, bx b3 [.slice none 0 0, .slice none 0 0] 26, bx b1 [.slice a_reads_a a_reads_n a_reads_c, .slice a_writes_a a_writes_n a_writes_c] 24] w11 [bx b5 [.slice r0_a_11 r0_n_11 r0_c_11, .slice none 0 0] 26, ow 9 1 encS okS (.slice r0_a_11 r0_n_11 r0_c_11) a.reads, bx b3 [.slice none 0 0, .slice none 0 0] 26, bx b1 [.slice a_reads_a a_reads_n a_reads_c, .slice a_writes_a a_writes_n a_writes_c] 24] w15 := S15i
  clear S15i
  refine s_end ?_
  refine x_normal ?_
  refine wp_seq ?_
  refine wp_region_lit ?_
  refine l_op (s_val rfl rfl (r_field FI_24_1 rfl (F14.ev 4 rfl) rfl) fun a16 e16 => ?_)
  have F17 : Fr 13 [(8, .pointer (some ⟨b1, 1, none⟩)), (3, .pointer (some ⟨b5, 0, none⟩)), (2, .pointer (some ⟨b3, 0, none⟩))] a16 := F14.put [2, 3] e16 rfl
  clear e16 F14 a13
  refine l_op (s_val rfl rfl (r_loadB S15.at' 3 TI_22 rfl rfl (F17.ev 0 rfl) rfl rfl (fun _ => rfl) rfl) fun a18 e18 => ?_)
  have F19 : Fr 13 [(9, .slice a_writes_a a_writes_n a_writes_c), (3, .pointer (some ⟨b5, 0, none⟩)), (2, .pointer (some ⟨b3, 0, none⟩))] a18 := F17.put [1, 2] e18 rfl
  clear e18 F17 a16
  refine l_op (c_call CF_70 rfl rfl rfl (lc (F19.ev 0 rfl) rfl) (laws_toStringS_c (H := V H w [bx b5 [.slice r0_a_11 r0_n_11 r0_c_11, .slice none 0 0] 26, ow 9 1 encS okS (.slice r0_a_11 r0_n_11 r0_c_11) a.reads, bx b3 [.slice none 0 0, .slice none 0 0] 26, bx b1 [.slice a_reads_a a_reads_n a_reads_c, .slice a_writes_a a_writes_n a_writes_c] 24]) (a := a.writes) (RdA.mv (Nat.succ_pos _) V_v_a_writes (S1.trans (S3.trans (S5.trans (S11.trans S15))))) (show a.writes.length ≤ 1048576 from by first | assumption | omega | (simp; done) | (simp; omega))) ?_)
  rintro _ w20 ⟨r0_a_20, r0_n_20, r0_c_20, rfl, m20⟩
  refine ⟨_, rfl, fun a20 e20 => ?_⟩
  have S20 : Mv [bx b5 [.slice r0_a_11 r0_n_11 r0_c_11, .slice none 0 0] 26, ow 9 1 encS okS (.slice r0_a_11 r0_n_11 r0_c_11) a.reads, bx b3 [.slice none 0 0, .slice none 0 0] 26, bx b1 [.slice a_reads_a a_reads_n a_reads_c, .slice a_writes_a a_writes_n a_writes_c] 24] w15 [ow 9 1 encS okS (.slice r0_a_20 r0_n_20 r0_c_20) a.writes, bx b5 [.slice r0_a_11 r0_n_11 r0_c_11, .slice none 0 0] 26, ow 9 1 encS okS (.slice r0_a_11 r0_n_11 r0_c_11) a.reads, bx b3 [.slice none 0 0, .slice none 0 0] 26, bx b1 [.slice a_reads_a a_reads_n a_reads_c, .slice a_writes_a a_writes_n a_writes_c] 24] w20 := At.frame S15.at' [] rfl m20
  clear m20
  obtain ⟨lo20_0, lp20_0, lq20_0⟩ := At.ownInv S20.at' ET_22.hk 0 rfl
  have F21 : Fr 13 [(10, .slice r0_a_20 r0_n_20 r0_c_20), (3, .pointer (some ⟨b5, 0, none⟩)), (2, .pointer (some ⟨b3, 0, none⟩))] a20 := F19.put [1, 2] e20 rfl
  clear e20 F19 a18
  refine l_op (s_val rfl rfl (r_field FI_26_1 rfl (F21.ev 1 rfl) rfl) fun a22 e22 => ?_)
  have F23 : Fr 13 [(11, .pointer (some ⟨b5, 1, none⟩)), (10, .slice r0_a_20 r0_n_20 r0_c_20), (3, .pointer (some ⟨b5, 0, none⟩)), (2, .pointer (some ⟨b3, 0, none⟩))] a22 := F21.put [0, 1, 2] e22 rfl
  clear e22 F21 a20
  refine l_op (s_store S20.at' 1 TI_22 rfl rfl rfl rfl rfl (F23.ev 0 rfl) (F23.ev 1 rfl) rfl rfl rfl rfl rfl fun w24 S24i => ?_)
  have S24 : Mv [ow 9 1 encS okS (.slice r0_a_20 r0_n_20 r0_c_20) a.writes, bx b5 [.slice r0_a_11 r0_n_11 r0_c_11, .slice none 0 0] 26, ow 9 1 encS okS (.slice r0_a_11 r0_n_11 r0_c_11) a.reads, bx b3 [.slice none 0 0, .slice none 0 0] 26, bx b1 [.slice a_reads_a a_reads_n a_reads_c, .slice a_writes_a a_writes_n a_writes_c] 24] w20 [bx b5 [.slice r0_a_11 r0_n_11 r0_c_11, .slice r0_a_20 r0_n_20 r0_c_20] 26, ow 9 1 encS okS (.slice r0_a_20 r0_n_20 r0_c_20) a.writes, ow 9 1 encS okS (.slice r0_a_11 r0_n_11 r0_c_11) a.reads, bx b3 [.slice none 0 0, .slice none 0 0] 26, bx b1 [.slice a_reads_a a_reads_n a_reads_c, .slice a_writes_a a_writes_n a_writes_c] 24] w24 := S24i
  clear S24i
  refine s_end ?_
  refine x_normal ?_
  refine wp_seq ?_
  refine wp_region_lit ?_
  refine l_op (s_val rfl rfl (r_loadB S24.at' 0 TI_26 rfl rfl (F23.ev 2 rfl) rfl rfl (fun h => nomatch h) rfl) fun a25 e25 => ?_)
  have F26 : Fr 13 [(12, .agg #[.slice r0_a_11 r0_n_11 r0_c_11, .slice r0_a_20 r0_n_20 r0_c_20]), (2, .pointer (some ⟨b3, 0, none⟩))] a25 := F23.put [3] e25 rfl
  clear e25 F23 a22
  refine l_op (s_store S24.at' 3 TI_26 rfl rfl rfl rfl rfl (F26.ev 1 rfl) (F26.ev 0 rfl) rfl rfl rfl rfl rfl fun w27 S27i => ?_)
  have S27 : Mv [bx b5 [.slice r0_a_11 r0_n_11 r0_c_11, .slice r0_a_20 r0_n_20 r0_c_20] 26, ow 9 1 encS okS (.slice r0_a_20 r0_n_20 r0_c_20) a.writes, ow 9 1 encS okS (.slice r0_a_11 r0_n_11 r0_c_11) a.reads, bx b3 [.slice none 0 0, .slice none 0 0] 26, bx b1 [.slice a_reads_a a_reads_n a_reads_c, .slice a_writes_a a_writes_n a_writes_c] 24] w24 [bx b3 [.slice r0_a_11 r0_n_11 r0_c_11, .slice r0_a_20 r0_n_20 r0_c_20] 26, bx b5 [.slice r0_a_11 r0_n_11 r0_c_11, .slice r0_a_20 r0_n_20 r0_c_20] 26, ow 9 1 encS okS (.slice r0_a_20 r0_n_20 r0_c_20) a.writes, ow 9 1 encS okS (.slice r0_a_11 r0_n_11 r0_c_11) a.reads, bx b1 [.slice a_reads_a a_reads_n a_reads_c, .slice a_writes_a a_writes_n a_writes_c] 24] w27 := S27i
  clear S27i
  refine s_end ?_
  refine x_normal ?_
  refine wp_ret ?_
  refine x_done (v := .agg #[.slice r0_a_11 r0_n_11 r0_c_11, .slice r0_a_20 r0_n_20 r0_c_20]) F26 (results_1 Try.results14 (.cell (F26.ev 1 rfl) (run_loadVar' TI_26 _ [.slice r0_a_11 r0_n_11 r0_c_11, .slice r0_a_20 r0_n_20 r0_c_20] rfl (fun h => nomatch h) (At.cells S27.at' 0 rfl 0 [.slice r0_a_11 r0_n_11 r0_c_11, .slice r0_a_20 r0_n_20 r0_c_20] rfl)))) ?_
  exact ⟨r0_a_11, r0_n_11, r0_c_11, r0_a_20, r0_n_20, r0_c_20, rfl, (Mv.pick (S1.trans (S3.trans (S5.trans (S11.trans (S15.trans (S20.trans (S24.trans S27))))))) [3, 2] rfl)⟩
theorem laws_eqTouch_c {w : World} {H : Nat → Prop} {a : TouchD} {a_reads_a : Option Addr} {a_reads_n a_reads_c : Nat} {a_writes_a : Option Addr} {a_writes_n a_writes_c : Nat} {b : TouchD} {b_reads_a : Option Addr} {b_reads_n b_reads_c : Nat} {b_writes_a : Option Addr} {b_writes_n b_writes_c : Nat} (v_a_reads : Rd 1 encS okS H w (.slice a_reads_a a_reads_n a_reads_c) a.reads) (v_a_writes : Rd 1 encS okS H w (.slice a_writes_a a_writes_n a_writes_c) a.writes) (v_b_reads : Rd 1 encS okS H w (.slice b_reads_a b_reads_n b_reads_c) b.reads) (v_b_writes : Rd 1 encS okS H w (.slice b_writes_a b_writes_n b_writes_c) b.writes) (p0 : a = b) :
    Calls Try.prog 16 #[.agg #[.slice a_reads_a a_reads_n a_reads_c, .slice a_writes_a a_writes_n a_writes_c], .agg #[.slice b_reads_a b_reads_n b_reads_c, .slice b_writes_a b_writes_n b_writes_c]] w fun e w' => e = .returned (.bool true) ∧ Mv [] w [] w' := by
  have V_v_a_reads : Rd 1 encS okS (V H w []) w (.slice a_reads_a a_reads_n a_reads_c) a.reads := Rd.start v_a_reads (fun _ _ => fps_nil _)
  obtain ⟨ln_a_reads, le_a_reads, mx_a_reads, ni_a_reads⟩ := Rd.inv v_a_reads
  have V_v_a_writes : Rd 1 encS okS (V H w []) w (.slice a_writes_a a_writes_n a_writes_c) a.writes := Rd.start v_a_writes (fun _ _ => fps_nil _)
  obtain ⟨ln_a_writes, le_a_writes, mx_a_writes, ni_a_writes⟩ := Rd.inv v_a_writes
  have V_v_b_reads : Rd 1 encS okS (V H w []) w (.slice b_reads_a b_reads_n b_reads_c) b.reads := Rd.start v_b_reads (fun _ _ => fps_nil _)
  obtain ⟨ln_b_reads, le_b_reads, mx_b_reads, ni_b_reads⟩ := Rd.inv v_b_reads
  have V_v_b_writes : Rd 1 encS okS (V H w []) w (.slice b_writes_a b_writes_n b_writes_c) b.writes := Rd.start v_b_writes (fun _ _ => fps_nil _)
  obtain ⟨ln_b_writes, le_b_writes, mx_b_writes, ni_b_writes⟩ := Rd.inv v_b_writes
  refine calls_enter 17 Try.func16 rfl Try.ntmps16 (Nat.le_of_ble_eq_true rfl) (fun a0 F0i => ?_)
  have F0 : Fr 17 [(0, .agg #[.slice a_reads_a a_reads_n a_reads_c, .slice a_writes_a a_writes_n a_writes_c]), (1, .agg #[.slice b_reads_a b_reads_n b_reads_c, .slice b_writes_a b_writes_n b_writes_c])] a0 := F0i
  clear F0i
  refine wp_seq ?_
  refine wp_region_lit ?_
  refine l_op (s_box (At.nil w) rfl rfl rfl (F0.ev 0 rfl) rfl fun b1 a1 w1 e1 S1i => ?_)
  have S1 : Mv [] w [bx b1 [.slice a_reads_a a_reads_n a_reads_c, .slice a_writes_a a_writes_n a_writes_c] 26] w1 := S1i
  clear S1i
  have F2 : Fr 17 [(2, .pointer (some ⟨b1, 0, none⟩)), (1, .agg #[.slice b_reads_a b_reads_n b_reads_c, .slice b_writes_a b_writes_n b_writes_c])] a1 := F0.put [1] e1 rfl
  clear e1 F0 a0
  refine l_op (s_box S1.at' rfl rfl rfl (F2.ev 1 rfl) rfl fun b3 a3 w3 e3 S3i => ?_)
  have S3 : Mv [bx b1 [.slice a_reads_a a_reads_n a_reads_c, .slice a_writes_a a_writes_n a_writes_c] 26] w1 [bx b3 [.slice b_reads_a b_reads_n b_reads_c, .slice b_writes_a b_writes_n b_writes_c] 26, bx b1 [.slice a_reads_a a_reads_n a_reads_c, .slice a_writes_a a_writes_n a_writes_c] 26] w3 := S3i
  clear S3i
  have F4 : Fr 17 [(3, .pointer (some ⟨b3, 0, none⟩)), (2, .pointer (some ⟨b1, 0, none⟩))] a3 := F2.put [0] e3 rfl
  clear e3 F2 a1
  refine l_op (s_val rfl rfl (r_assign rfl rfl) fun a5 e5 => ?_)
  have F6 : Fr 17 [(4, .bool false), (3, .pointer (some ⟨b3, 0, none⟩)), (2, .pointer (some ⟨b1, 0, none⟩))] a5 := F4.put [0, 1] e5 rfl
  clear e5 F4 a3
  refine s_end ?_
  refine x_normal ?_
  refine wp_seq ?_
  refine wp_seq ?_
  refine wp_region_lit ?_
  refine l_op (s_val rfl rfl (r_field FI_26_0 rfl (F6.ev 2 rfl) rfl) fun a7 e7 => ?_)
  have F8 : Fr 17 [(5, .pointer (some ⟨b1, 0, none⟩)), (3, .pointer (some ⟨b3, 0, none⟩)), (2, .pointer (some ⟨b1, 0, none⟩))] a7 := F6.put [1, 2] e7 rfl
  clear e7 F6 a5
  refine l_op (s_val rfl rfl (r_loadB S3.at' 1 TI_22 rfl rfl (F8.ev 0 rfl) rfl rfl (fun _ => rfl) rfl) fun a9 e9 => ?_)
  have F10 : Fr 17 [(6, .slice a_reads_a a_reads_n a_reads_c), (3, .pointer (some ⟨b3, 0, none⟩)), (2, .pointer (some ⟨b1, 0, none⟩))] a9 := F8.put [1, 2] e9 rfl
  clear e9 F8 a7
  refine l_op (s_val rfl rfl (r_field FI_26_0 rfl (F10.ev 1 rfl) rfl) fun a11 e11 => ?_)
  have F12 : Fr 17 [(7, .pointer (some ⟨b3, 0, none⟩)), (6, .slice a_reads_a a_reads_n a_reads_c), (3, .pointer (some ⟨b3, 0, none⟩)), (2, .pointer (some ⟨b1, 0, none⟩))] a11 := F10.put [0, 1, 2] e11 rfl
  clear e11 F10 a9
  refine l_op (s_val rfl rfl (r_loadB S3.at' 0 TI_22 rfl rfl (F12.ev 0 rfl) rfl rfl (fun _ => rfl) rfl) fun a13 e13 => ?_)
  have F14 : Fr 17 [(8, .slice b_reads_a b_reads_n b_reads_c), (6, .slice a_reads_a a_reads_n a_reads_c), (3, .pointer (some ⟨b3, 0, none⟩)), (2, .pointer (some ⟨b1, 0, none⟩))] a13 := F12.put [1, 2, 3] e13 rfl
  clear e13 F12 a11
  refine l_op (c_call CF_46 rfl rfl rfl (lc (F14.ev 1 rfl) (lc (F14.ev 0 rfl) rfl)) (laws_eqStringS_c (H := V H w [bx b3 [.slice b_reads_a b_reads_n b_reads_c, .slice b_writes_a b_writes_n b_writes_c] 26, bx b1 [.slice a_reads_a a_reads_n a_reads_c, .slice a_writes_a a_writes_n a_writes_c] 26]) (a := a.reads) (b := b.reads) (Rd.mv (Nat.succ_pos _) V_v_a_reads (S1.trans S3)) (Rd.mv (Nat.succ_pos _) V_v_b_reads (S1.trans S3)) (show a.reads = b.reads from by rw [p0])) ?_)
  rintro _ w15 ⟨rfl, m15⟩
  refine ⟨_, rfl, fun a15 e15 => ?_⟩
  have S15 : Mv [bx b3 [.slice b_reads_a b_reads_n b_reads_c, .slice b_writes_a b_writes_n b_writes_c] 26, bx b1 [.slice a_reads_a a_reads_n a_reads_c, .slice a_writes_a a_writes_n a_writes_c] 26] w3 [bx b3 [.slice b_reads_a b_reads_n b_reads_c, .slice b_writes_a b_writes_n b_writes_c] 26, bx b1 [.slice a_reads_a a_reads_n a_reads_c, .slice a_writes_a a_writes_n a_writes_c] 26] w15 := At.frame S3.at' [] rfl m15
  clear m15
  have F16 : Fr 17 [(9, .bool true), (3, .pointer (some ⟨b3, 0, none⟩)), (2, .pointer (some ⟨b1, 0, none⟩))] a15 := F14.put [2, 3] e15 rfl
  clear e15 F14 a13
  refine l_op (s_val rfl rfl (r_not rfl (F16.ev 0 rfl)) fun a17 e17 => ?_)
  have F18 : Fr 17 [(10, .bool false), (3, .pointer (some ⟨b3, 0, none⟩)), (2, .pointer (some ⟨b1, 0, none⟩))] a17 := F16.put [1, 2] e17 rfl
  clear e17 F16 a15
  refine s_end ?_
  refine x_normal ?_
  refine wp_cond_false (F18.ev 0 rfl) ?_
  refine wp_skip ?_
  refine x_normal ?_
  refine wp_seq ?_
  refine wp_seq ?_
  refine wp_region_lit ?_
  refine l_op (s_val rfl rfl (r_field FI_26_1 rfl (F18.ev 2 rfl) rfl) fun a19 e19 => ?_)
  have F20 : Fr 17 [(11, .pointer (some ⟨b1, 1, none⟩)), (3, .pointer (some ⟨b3, 0, none⟩))] a19 := F18.put [1] e19 rfl
  clear e19 F18 a17
  refine l_op (s_val rfl rfl (r_loadB S15.at' 1 TI_22 rfl rfl (F20.ev 0 rfl) rfl rfl (fun _ => rfl) rfl) fun a21 e21 => ?_)
  have F22 : Fr 17 [(12, .slice a_writes_a a_writes_n a_writes_c), (3, .pointer (some ⟨b3, 0, none⟩))] a21 := F20.put [1] e21 rfl
  clear e21 F20 a19
  refine l_op (s_val rfl rfl (r_field FI_26_1 rfl (F22.ev 1 rfl) rfl) fun a23 e23 => ?_)
  have F24 : Fr 17 [(13, .pointer (some ⟨b3, 1, none⟩)), (12, .slice a_writes_a a_writes_n a_writes_c)] a23 := F22.put [0] e23 rfl
  clear e23 F22 a21
  refine l_op (s_val rfl rfl (r_loadB S15.at' 0 TI_22 rfl rfl (F24.ev 0 rfl) rfl rfl (fun _ => rfl) rfl) fun a25 e25 => ?_)
  have F26 : Fr 17 [(14, .slice b_writes_a b_writes_n b_writes_c), (12, .slice a_writes_a a_writes_n a_writes_c)] a25 := F24.put [1] e25 rfl
  clear e25 F24 a23
  refine l_op (c_call CF_46 rfl rfl rfl (lc (F26.ev 1 rfl) (lc (F26.ev 0 rfl) rfl)) (laws_eqStringS_c (H := V H w [bx b3 [.slice b_reads_a b_reads_n b_reads_c, .slice b_writes_a b_writes_n b_writes_c] 26, bx b1 [.slice a_reads_a a_reads_n a_reads_c, .slice a_writes_a a_writes_n a_writes_c] 26]) (a := a.writes) (b := b.writes) (Rd.mv (Nat.succ_pos _) V_v_a_writes (S1.trans (S3.trans S15))) (Rd.mv (Nat.succ_pos _) V_v_b_writes (S1.trans (S3.trans S15))) (show a.writes = b.writes from by rw [p0])) ?_)
  rintro _ w27 ⟨rfl, m27⟩
  refine ⟨_, rfl, fun a27 e27 => ?_⟩
  have S27 : Mv [bx b3 [.slice b_reads_a b_reads_n b_reads_c, .slice b_writes_a b_writes_n b_writes_c] 26, bx b1 [.slice a_reads_a a_reads_n a_reads_c, .slice a_writes_a a_writes_n a_writes_c] 26] w15 [bx b3 [.slice b_reads_a b_reads_n b_reads_c, .slice b_writes_a b_writes_n b_writes_c] 26, bx b1 [.slice a_reads_a a_reads_n a_reads_c, .slice a_writes_a a_writes_n a_writes_c] 26] w27 := At.frame S15.at' [] rfl m27
  clear m27
  have F28 : Fr 17 [(15, .bool true)] a27 := F26.put [] e27 rfl
  clear e27 F26 a25
  refine l_op (s_val rfl rfl (r_not rfl (F28.ev 0 rfl)) fun a29 e29 => ?_)
  have F30 : Fr 17 [(16, .bool false)] a29 := F28.put [] e29 rfl
  clear e29 F28 a27
  refine s_end ?_
  refine x_normal ?_
  refine wp_cond_false (F30.ev 0 rfl) ?_
  refine wp_skip ?_
  refine x_normal ?_
  refine wp_seq ?_
  refine wp_region_lit ?_
  refine l_op (s_val rfl rfl (r_assign rfl rfl) fun a31 e31 => ?_)
  have F32 : Fr 17 [(4, .bool true)] a31 := F30.put [] e31 rfl
  clear e31 F30 a29
  refine s_end ?_
  refine x_normal ?_
  refine wp_ret ?_
  refine x_done (v := .bool true) F32 (results_1 Try.results16 (.tmp (F32.ev 0 rfl))) ?_
  exact ⟨rfl, (Mv.pick (S1.trans (S3.trans (S15.trans S27))) [] rfl)⟩
theorem laws_markTouch_c {w : World} {H : Nat → Prop} {a : TouchD} {a_reads_a : Option Addr} {a_reads_n a_reads_c : Nat} {a_writes_a : Option Addr} {a_writes_n a_writes_c : Nat} {k : Nat} (h_k : i64ok (k : Int)) (p0 : k ≤ 1099511627776) (p1 : a.reads.length ≤ 1099511627776) (p2 : a.writes.length ≤ 1099511627776) (hA : At w [ow 9 1 encS okS (.slice a_reads_a a_reads_n a_reads_c) a.reads, ow 9 1 encS okS (.slice a_writes_a a_writes_n a_writes_c) a.writes]) :
    Calls Try.prog 17 #[.agg #[.slice a_reads_a a_reads_n a_reads_c, .slice a_writes_a a_writes_n a_writes_c], .int .i64 ((k : Nat) : Int)] w fun e w' => e = .returned (.int .i64 ((k + cntT a : Nat) : Int)) ∧ Mv [ow 9 1 encS okS (.slice a_reads_a a_reads_n a_reads_c) a.reads, ow 9 1 encS okS (.slice a_writes_a a_writes_n a_writes_c) a.writes] w [ow 9 1 encS okS (.slice a_reads_a a_reads_n a_reads_c) (marksT k a).reads, ow 9 1 encS okS (.slice a_writes_a a_writes_n a_writes_c) (marksT k a).writes] w' := by
  obtain ⟨lo0, lp0, lq0⟩ := At.ownInv hA ET_22.hk 0 rfl
  obtain ⟨lo1, lp1, lq1⟩ := At.ownInv hA ET_22.hk 1 rfl
  refine calls_enter 14 Try.func17 rfl Try.ntmps17 (Nat.le_of_ble_eq_true rfl) (fun a0 F0i => ?_)
  have F0 : Fr 14 [(0, .agg #[.slice a_reads_a a_reads_n a_reads_c, .slice a_writes_a a_writes_n a_writes_c]), (1, .int .i64 ((k : Nat) : Int))] a0 := F0i
  clear F0i
  refine wp_seq ?_
  refine wp_region_lit ?_
  refine l_op (s_box hA rfl rfl rfl (F0.ev 0 rfl) rfl fun b1 a1 w1 e1 S1i => ?_)
  have S1 : Mv [ow 9 1 encS okS (.slice a_reads_a a_reads_n a_reads_c) a.reads, ow 9 1 encS okS (.slice a_writes_a a_writes_n a_writes_c) a.writes] w [bx b1 [.slice a_reads_a a_reads_n a_reads_c, .slice a_writes_a a_writes_n a_writes_c] 26, ow 9 1 encS okS (.slice a_reads_a a_reads_n a_reads_c) a.reads, ow 9 1 encS okS (.slice a_writes_a a_writes_n a_writes_c) a.writes] w1 := S1i
  clear S1i
  have F2 : Fr 14 [(2, .pointer (some ⟨b1, 0, none⟩)), (1, .int .i64 ((k : Nat) : Int))] a1 := F0.put [1] e1 rfl
  clear e1 F0 a0
  refine l_op (s_val rfl rfl (r_assign rfl rfl) fun a3 e3 => ?_)
  have F4 : Fr 14 [(4, .int .i64 0), (2, .pointer (some ⟨b1, 0, none⟩)), (1, .int .i64 ((k : Nat) : Int))] a3 := F2.put [0, 1] e3 rfl
  clear e3 F2 a1
  refine s_end ?_
  refine x_normal ?_
  refine wp_seq ?_
  refine wp_region_lit ?_
  refine l_op (s_val rfl rfl (r_field FI_26_0 rfl (F4.ev 1 rfl) rfl) fun a5 e5 => ?_)
  have F6 : Fr 14 [(5, .pointer (some ⟨b1, 0, none⟩)), (2, .pointer (some ⟨b1, 0, none⟩)), (1, .int .i64 ((k : Nat) : Int))] a5 := F4.put [1, 2] e5 rfl
  clear e5 F4 a3
  refine l_op (s_val rfl rfl (r_loadB S1.at' 0 TI_22 rfl rfl (F6.ev 0 rfl) rfl rfl (fun _ => rfl) rfl) fun a7 e7 => ?_)
  have F8 : Fr 14 [(6, .slice a_reads_a a_reads_n a_reads_c), (2, .pointer (some ⟨b1, 0, none⟩)), (1, .int .i64 ((k : Nat) : Int))] a7 := F6.put [1, 2] e7 rfl
  clear e7 F6 a5
  refine l_op (s_val rfl rfl (r_move rfl (F8.ev 2 rfl)) fun a9 e9 => ?_)
  have F10 : Fr 14 [(7, .int .i64 ((k : Nat) : Int)), (6, .slice a_reads_a a_reads_n a_reads_c), (2, .pointer (some ⟨b1, 0, none⟩)), (1, .int .i64 ((k : Nat) : Int))] a9 := F8.put [0, 1, 2] e9 rfl
  clear e9 F8 a7
  refine l_op (c_call CF_47 rfl rfl rfl (lc (F10.ev 1 rfl) (lc (F10.ev 0 rfl) rfl)) (laws_markStringS_c (H := fun _ => True) (a := a.reads) (k := k) ⟨by omega, by first | omega | (unfold i64ok at *; omega)⟩ (show k + a.reads.length ≤ 4611686018427387904 from by first | assumption | omega | (simp; done) | (simp; omega)) (At.pick (is := [1]) S1.at' rfl)) ?_)
  rintro _ w11 ⟨rfl, m11⟩
  refine ⟨_, rfl, fun a11 e11 => ?_⟩
  have S11 : Mv [bx b1 [.slice a_reads_a a_reads_n a_reads_c, .slice a_writes_a a_writes_n a_writes_c] 26, ow 9 1 encS okS (.slice a_reads_a a_reads_n a_reads_c) a.reads, ow 9 1 encS okS (.slice a_writes_a a_writes_n a_writes_c) a.writes] w1 [ow 9 1 encS okS (.slice a_reads_a a_reads_n a_reads_c) (marks k a.reads.length), bx b1 [.slice a_reads_a a_reads_n a_reads_c, .slice a_writes_a a_writes_n a_writes_c] 26, ow 9 1 encS okS (.slice a_writes_a a_writes_n a_writes_c) a.writes] w11 := At.frame S1.at' [1] rfl m11
  clear m11
  obtain ⟨lo11_0, lp11_0, lq11_0⟩ := At.ownInv S11.at' ET_22.hk 0 rfl
  have F12 : Fr 14 [(8, .int .i64 ((k + a.reads.length : Nat) : Int)), (2, .pointer (some ⟨b1, 0, none⟩)), (1, .int .i64 ((k : Nat) : Int))] a11 := F10.put [2, 3] e11 rfl
  clear e11 F10 a9
  refine l_op (s_val rfl rfl (r_assign rfl (F12.ev 0 rfl)) fun a13 e13 => ?_)
  have F14 : Fr 14 [(1, .int .i64 ((k + a.reads.length : Nat) : Int)), (2, .pointer (some ⟨b1, 0, none⟩))] a13 := F12.put [1] e13 rfl
  clear e13 F12 a11
  refine s_end ?_
  refine x_normal ?_
  refine wp_seq ?_
  refine wp_region_lit ?_
  refine l_op (s_val rfl rfl (r_field FI_26_1 rfl (F14.ev 1 rfl) rfl) fun a15 e15 => ?_)
  have F16 : Fr 14 [(9, .pointer (some ⟨b1, 1, none⟩)), (1, .int .i64 ((k + a.reads.length : Nat) : Int))] a15 := F14.put [0] e15 rfl
  clear e15 F14 a13
  refine l_op (s_val rfl rfl (r_loadB S11.at' 1 TI_22 rfl rfl (F16.ev 0 rfl) rfl rfl (fun _ => rfl) rfl) fun a17 e17 => ?_)
  have F18 : Fr 14 [(10, .slice a_writes_a a_writes_n a_writes_c), (1, .int .i64 ((k + a.reads.length : Nat) : Int))] a17 := F16.put [1] e17 rfl
  clear e17 F16 a15
  refine l_op (s_val rfl rfl (r_move rfl (F18.ev 1 rfl)) fun a19 e19 => ?_)
  have F20 : Fr 14 [(11, .int .i64 ((k + a.reads.length : Nat) : Int)), (10, .slice a_writes_a a_writes_n a_writes_c), (1, .int .i64 ((k + a.reads.length : Nat) : Int))] a19 := F18.put [0, 1] e19 rfl
  clear e19 F18 a17
  refine l_op (c_call CF_47 rfl rfl rfl (lc (F20.ev 1 rfl) (lc (F20.ev 0 rfl) rfl)) (laws_markStringS_c (H := fun _ => True) (a := a.writes) (k := k + a.reads.length) ⟨by omega, by first | omega | (unfold i64ok at *; omega)⟩ (show (k + a.reads.length) + a.writes.length ≤ 4611686018427387904 from by first | assumption | omega | (simp; done) | (simp; omega)) (At.pick (is := [2]) S11.at' rfl)) ?_)
  rintro _ w21 ⟨rfl, m21⟩
  refine ⟨_, rfl, fun a21 e21 => ?_⟩
  have S21 : Mv [ow 9 1 encS okS (.slice a_reads_a a_reads_n a_reads_c) (marks k a.reads.length), bx b1 [.slice a_reads_a a_reads_n a_reads_c, .slice a_writes_a a_writes_n a_writes_c] 26, ow 9 1 encS okS (.slice a_writes_a a_writes_n a_writes_c) a.writes] w11 [ow 9 1 encS okS (.slice a_writes_a a_writes_n a_writes_c) (marks (k + a.reads.length) a.writes.length), ow 9 1 encS okS (.slice a_reads_a a_reads_n a_reads_c) (marks k a.reads.length), bx b1 [.slice a_reads_a a_reads_n a_reads_c, .slice a_writes_a a_writes_n a_writes_c] 26] w21 := At.frame S11.at' [2] rfl m21
  clear m21
  obtain ⟨lo21_0, lp21_0, lq21_0⟩ := At.ownInv S21.at' ET_22.hk 0 rfl
  have F22 : Fr 14 [(12, .int .i64 (((k + a.reads.length) + a.writes.length : Nat) : Int)), (1, .int .i64 ((k + a.reads.length : Nat) : Int))] a21 := F20.put [2] e21 rfl
  clear e21 F20 a19
  refine l_op (s_val rfl rfl (r_assign rfl (F22.ev 0 rfl)) fun a23 e23 => ?_)
  have F24 : Fr 14 [(1, .int .i64 (((k + a.reads.length) + a.writes.length : Nat) : Int))] a23 := F22.put [] e23 rfl
  clear e23 F22 a21
  refine s_end ?_
  refine x_normal ?_
  refine wp_seq ?_
  refine wp_region_lit ?_
  refine l_op (s_val rfl rfl (r_move rfl (F24.ev 0 rfl)) fun a25 e25 => ?_)
  have F26 : Fr 14 [(13, .int .i64 (((k + a.reads.length) + a.writes.length : Nat) : Int))] a25 := F24.put [] e25 rfl
  clear e25 F24 a23
  refine l_op (s_val rfl rfl (r_assign rfl (F26.ev 0 rfl)) fun a27 e27 => ?_)
  have F28 : Fr 14 [(4, .int .i64 (((k + a.reads.length) + a.writes.length : Nat) : Int))] a27 := F26.put [] e27 rfl
  clear e27 F26 a25
  refine s_end ?_
  refine x_normal ?_
  refine wp_ret ?_
  refine x_done (v := .int .i64 (((k + a.reads.length) + a.writes.length : Nat) : Int)) F28 (results_1 Try.results17 (.tmp (F28.ev 0 rfl))) ?_
  exact ⟨(by rw [(show (((k + a.reads.length) + a.writes.length : Nat) : Int) = ((k + cntT a : Nat) : Int) from by first | rfl | (unfold cntT; omega))]), (Mv.cast (Mv.pick (S1.trans (S11.trans S21)) [1, 0] rfl) (by rw [(show (marks k a.reads.length) = (marksT k a).reads from by first | rfl | (unfold cntT; omega)), (show (marks (k + a.reads.length) a.writes.length) = (marksT k a).writes from by first | rfl | (unfold cntT; omega))]; all_goals rfl))⟩
theorem laws_heldTouch_c {w : World} {H : Nat → Prop} {a : TouchD} {a_reads_a : Option Addr} {a_reads_n a_reads_c : Nat} {a_writes_a : Option Addr} {a_writes_n a_writes_c : Nat} {k : Nat} {d : TouchD} (v_a_reads : Rd 1 encS okS H w (.slice a_reads_a a_reads_n a_reads_c) a.reads) (v_a_writes : Rd 1 encS okS H w (.slice a_writes_a a_writes_n a_writes_c) a.writes) (h_k : i64ok (k : Int)) (p0 : a = marksT k d) (p1 : k ≤ 1099511627776) (p2 : d.reads.length ≤ 1099511627776) (p3 : d.writes.length ≤ 1099511627776) :
    Calls Try.prog 18 #[.agg #[.slice a_reads_a a_reads_n a_reads_c, .slice a_writes_a a_writes_n a_writes_c], .int .i64 ((k : Nat) : Int)] w fun e w' => e = .returned (.int .i64 ((k + cntT d : Nat) : Int)) ∧ Mv [] w [] w' := by
  have V_v_a_reads : Rd 1 encS okS (V H w []) w (.slice a_reads_a a_reads_n a_reads_c) a.reads := Rd.start v_a_reads (fun _ _ => fps_nil _)
  obtain ⟨ln_a_reads, le_a_reads, mx_a_reads, ni_a_reads⟩ := Rd.inv v_a_reads
  have V_v_a_writes : Rd 1 encS okS (V H w []) w (.slice a_writes_a a_writes_n a_writes_c) a.writes := Rd.start v_a_writes (fun _ _ => fps_nil _)
  obtain ⟨ln_a_writes, le_a_writes, mx_a_writes, ni_a_writes⟩ := Rd.inv v_a_writes
  refine calls_enter 18 Try.func18 rfl Try.ntmps18 (Nat.le_of_ble_eq_true rfl) (fun a0 F0i => ?_)
  have F0 : Fr 18 [(0, .agg #[.slice a_reads_a a_reads_n a_reads_c, .slice a_writes_a a_writes_n a_writes_c]), (1, .int .i64 ((k : Nat) : Int))] a0 := F0i
  clear F0i
  refine wp_seq ?_
  refine wp_region_lit ?_
  refine l_op (s_box (At.nil w) rfl rfl rfl (F0.ev 0 rfl) rfl fun b1 a1 w1 e1 S1i => ?_)
  have S1 : Mv [] w [bx b1 [.slice a_reads_a a_reads_n a_reads_c, .slice a_writes_a a_writes_n a_writes_c] 26] w1 := S1i
  clear S1i
  have F2 : Fr 18 [(2, .pointer (some ⟨b1, 0, none⟩)), (1, .int .i64 ((k : Nat) : Int))] a1 := F0.put [1] e1 rfl
  clear e1 F0 a0
  refine l_op (s_val rfl rfl (r_assign rfl rfl) fun a3 e3 => ?_)
  have F4 : Fr 18 [(4, .int .i64 0), (2, .pointer (some ⟨b1, 0, none⟩)), (1, .int .i64 ((k : Nat) : Int))] a3 := F2.put [0, 1] e3 rfl
  clear e3 F2 a1
  refine s_end ?_
  refine x_normal ?_
  refine wp_seq ?_
  refine wp_region_lit ?_
  refine l_op (s_val rfl rfl (r_field FI_26_0 rfl (F4.ev 1 rfl) rfl) fun a5 e5 => ?_)
  have F6 : Fr 18 [(5, .pointer (some ⟨b1, 0, none⟩)), (2, .pointer (some ⟨b1, 0, none⟩)), (1, .int .i64 ((k : Nat) : Int))] a5 := F4.put [1, 2] e5 rfl
  clear e5 F4 a3
  refine l_op (s_val rfl rfl (r_loadB S1.at' 0 TI_22 rfl rfl (F6.ev 0 rfl) rfl rfl (fun _ => rfl) rfl) fun a7 e7 => ?_)
  have F8 : Fr 18 [(6, .slice a_reads_a a_reads_n a_reads_c), (2, .pointer (some ⟨b1, 0, none⟩)), (1, .int .i64 ((k : Nat) : Int))] a7 := F6.put [1, 2] e7 rfl
  clear e7 F6 a5
  refine l_op (s_val rfl rfl (r_move rfl (F8.ev 2 rfl)) fun a9 e9 => ?_)
  have F10 : Fr 18 [(7, .int .i64 ((k : Nat) : Int)), (6, .slice a_reads_a a_reads_n a_reads_c), (2, .pointer (some ⟨b1, 0, none⟩)), (1, .int .i64 ((k : Nat) : Int))] a9 := F8.put [0, 1, 2] e9 rfl
  clear e9 F8 a7
  refine l_op (c_call CF_48 rfl rfl rfl (lc (F10.ev 1 rfl) (lc (F10.ev 0 rfl) rfl)) (laws_heldStringS_c (H := V H w [bx b1 [.slice a_reads_a a_reads_n a_reads_c, .slice a_writes_a a_writes_n a_writes_c] 26]) (n := d.reads.length) (a := a.reads) (k := k) (Rd.mv (Nat.succ_pos _) V_v_a_reads S1) ⟨by omega, by first | omega | (unfold i64ok at *; omega)⟩ (show a.reads = marks k d.reads.length from by rw [p0]; rfl) (show k + d.reads.length ≤ 4611686018427387904 from by first | assumption | omega | (simp; done) | (simp; omega))) ?_)
  rintro _ w11 ⟨rfl, m11⟩
  refine ⟨_, rfl, fun a11 e11 => ?_⟩
  have S11 : Mv [bx b1 [.slice a_reads_a a_reads_n a_reads_c, .slice a_writes_a a_writes_n a_writes_c] 26] w1 [bx b1 [.slice a_reads_a a_reads_n a_reads_c, .slice a_writes_a a_writes_n a_writes_c] 26] w11 := At.frame S1.at' [] rfl m11
  clear m11
  have F12 : Fr 18 [(8, .int .i64 ((k + d.reads.length : Nat) : Int)), (2, .pointer (some ⟨b1, 0, none⟩)), (1, .int .i64 ((k : Nat) : Int))] a11 := F10.put [2, 3] e11 rfl
  clear e11 F10 a9
  refine l_op (s_val rfl rfl (r_assign rfl (F12.ev 0 rfl)) fun a13 e13 => ?_)
  have F14 : Fr 18 [(1, .int .i64 ((k + d.reads.length : Nat) : Int)), (2, .pointer (some ⟨b1, 0, none⟩))] a13 := F12.put [1] e13 rfl
  clear e13 F12 a11
  refine s_end ?_
  refine x_normal ?_
  refine wp_seq ?_
  refine wp_seq ?_
  refine wp_region_lit ?_
  refine l_op (s_val rfl rfl (r_move rfl (F14.ev 0 rfl)) fun a15 e15 => ?_)
  have F16 : Fr 18 [(9, .int .i64 ((k + d.reads.length : Nat) : Int)), (1, .int .i64 ((k + d.reads.length : Nat) : Int)), (2, .pointer (some ⟨b1, 0, none⟩))] a15 := F14.put [0, 1] e15 rfl
  clear e15 F14 a13
  refine l_op (s_val rfl rfl (r_cmp (b := false) (.inr (.inr (.inl rfl))) rfl (F16.ev 0 rfl) rfl (cmp_lt0 _ _ (by omega))) fun a17 e17 => ?_)
  have F18 : Fr 18 [(10, .bool false), (1, .int .i64 ((k + d.reads.length : Nat) : Int)), (2, .pointer (some ⟨b1, 0, none⟩))] a17 := F16.put [1, 2] e17 rfl
  clear e17 F16 a15
  refine s_end ?_
  refine x_normal ?_
  refine wp_cond_false (F18.ev 0 rfl) ?_
  refine wp_skip ?_
  refine x_normal ?_
  refine wp_seq ?_
  refine wp_region_lit ?_
  refine l_op (s_val rfl rfl (r_field FI_26_1 rfl (F18.ev 2 rfl) rfl) fun a19 e19 => ?_)
  have F20 : Fr 18 [(11, .pointer (some ⟨b1, 1, none⟩)), (1, .int .i64 ((k + d.reads.length : Nat) : Int))] a19 := F18.put [1] e19 rfl
  clear e19 F18 a17
  refine l_op (s_val rfl rfl (r_loadB S11.at' 0 TI_22 rfl rfl (F20.ev 0 rfl) rfl rfl (fun _ => rfl) rfl) fun a21 e21 => ?_)
  have F22 : Fr 18 [(12, .slice a_writes_a a_writes_n a_writes_c), (1, .int .i64 ((k + d.reads.length : Nat) : Int))] a21 := F20.put [1] e21 rfl
  clear e21 F20 a19
  refine l_op (s_val rfl rfl (r_move rfl (F22.ev 1 rfl)) fun a23 e23 => ?_)
  have F24 : Fr 18 [(13, .int .i64 ((k + d.reads.length : Nat) : Int)), (12, .slice a_writes_a a_writes_n a_writes_c), (1, .int .i64 ((k + d.reads.length : Nat) : Int))] a23 := F22.put [0, 1] e23 rfl
  clear e23 F22 a21
  refine l_op (c_call CF_48 rfl rfl rfl (lc (F24.ev 1 rfl) (lc (F24.ev 0 rfl) rfl)) (laws_heldStringS_c (H := V H w [bx b1 [.slice a_reads_a a_reads_n a_reads_c, .slice a_writes_a a_writes_n a_writes_c] 26]) (n := d.writes.length) (a := a.writes) (k := k + d.reads.length) (Rd.mv (Nat.succ_pos _) V_v_a_writes (S1.trans S11)) ⟨by omega, by first | omega | (unfold i64ok at *; omega)⟩ (show a.writes = marks (k + d.reads.length) d.writes.length from by rw [p0]; rfl) (show (k + d.reads.length) + d.writes.length ≤ 4611686018427387904 from by first | assumption | omega | (simp; done) | (simp; omega))) ?_)
  rintro _ w25 ⟨rfl, m25⟩
  refine ⟨_, rfl, fun a25 e25 => ?_⟩
  have S25 : Mv [bx b1 [.slice a_reads_a a_reads_n a_reads_c, .slice a_writes_a a_writes_n a_writes_c] 26] w11 [bx b1 [.slice a_reads_a a_reads_n a_reads_c, .slice a_writes_a a_writes_n a_writes_c] 26] w25 := At.frame S11.at' [] rfl m25
  clear m25
  have F26 : Fr 18 [(14, .int .i64 (((k + d.reads.length) + d.writes.length : Nat) : Int)), (1, .int .i64 ((k + d.reads.length : Nat) : Int))] a25 := F24.put [2] e25 rfl
  clear e25 F24 a23
  refine l_op (s_val rfl rfl (r_assign rfl (F26.ev 0 rfl)) fun a27 e27 => ?_)
  have F28 : Fr 18 [(1, .int .i64 (((k + d.reads.length) + d.writes.length : Nat) : Int))] a27 := F26.put [] e27 rfl
  clear e27 F26 a25
  refine s_end ?_
  refine x_normal ?_
  refine wp_seq ?_
  refine wp_seq ?_
  refine wp_region_lit ?_
  refine l_op (s_val rfl rfl (r_move rfl (F28.ev 0 rfl)) fun a29 e29 => ?_)
  have F30 : Fr 18 [(15, .int .i64 (((k + d.reads.length) + d.writes.length : Nat) : Int)), (1, .int .i64 (((k + d.reads.length) + d.writes.length : Nat) : Int))] a29 := F28.put [0] e29 rfl
  clear e29 F28 a27
  refine l_op (s_val rfl rfl (r_cmp (b := false) (.inr (.inr (.inl rfl))) rfl (F30.ev 0 rfl) rfl (cmp_lt0 _ _ (by omega))) fun a31 e31 => ?_)
  have F32 : Fr 18 [(16, .bool false), (1, .int .i64 (((k + d.reads.length) + d.writes.length : Nat) : Int))] a31 := F30.put [1] e31 rfl
  clear e31 F30 a29
  refine s_end ?_
  refine x_normal ?_
  refine wp_cond_false (F32.ev 0 rfl) ?_
  refine wp_skip ?_
  refine x_normal ?_
  refine wp_seq ?_
  refine wp_region_lit ?_
  refine l_op (s_val rfl rfl (r_move rfl (F32.ev 1 rfl)) fun a33 e33 => ?_)
  have F34 : Fr 18 [(17, .int .i64 (((k + d.reads.length) + d.writes.length : Nat) : Int))] a33 := F32.put [] e33 rfl
  clear e33 F32 a31
  refine l_op (s_val rfl rfl (r_assign rfl (F34.ev 0 rfl)) fun a35 e35 => ?_)
  have F36 : Fr 18 [(4, .int .i64 (((k + d.reads.length) + d.writes.length : Nat) : Int))] a35 := F34.put [] e35 rfl
  clear e35 F34 a33
  refine s_end ?_
  refine x_normal ?_
  refine wp_ret ?_
  refine x_done (v := .int .i64 (((k + d.reads.length) + d.writes.length : Nat) : Int)) F36 (results_1 Try.results18 (.tmp (F36.ev 0 rfl))) ?_
  exact ⟨(by rw [(show (((k + d.reads.length) + d.writes.length : Nat) : Int) = ((k + cntT d : Nat) : Int) from by unfold cntT; omega)]), (Mv.pick (S1.trans (S11.trans S25)) [] rfl)⟩
theorem laws_szMach_c {w : World} {H : Nat → Prop} {a : MachD} {a_store_a : Option Addr} {a_store_n a_store_c : Nat} {a_touch_reads_a : Option Addr} {a_touch_reads_n a_touch_reads_c : Nat} {a_touch_writes_a : Option Addr} {a_touch_writes_n a_touch_writes_c : Nat} {left : Int} (v_a_store : RdA 2 encC okC H w (.slice a_store_a a_store_n a_store_c) a.store) (v_a_touch_reads : RdA 1 encS okS H w (.slice a_touch_reads_a a_touch_reads_n a_touch_reads_c) a.touch.reads) (v_a_touch_writes : RdA 1 encS okS H w (.slice a_touch_writes_a a_touch_writes_n a_touch_writes_c) a.touch.writes) (h_left : i64ok left) (p0 : 0 ≤ left) (p1 : left ≤ 1048576) :
    Calls Try.prog 37 #[.agg #[.slice a_store_a a_store_n a_store_c, .slice a_touch_reads_a a_touch_reads_n a_touch_reads_c, .slice a_touch_writes_a a_touch_writes_n a_touch_writes_c], .int .i64 left] w fun e w' => e = .returned (.int .i64 (subOr left (szMachD a))) ∧ Mv [] w [] w' ∧ i64ok (subOr left (szMachD a)) := by
  have V_v_a_store : RdA 2 encC okC (V H w []) w (.slice a_store_a a_store_n a_store_c) a.store := RdA.start v_a_store (fun _ _ => fps_nil _)
  obtain ⟨ln_a_store, le_a_store, mx_a_store, ni_a_store⟩ := RdA.inv v_a_store
  have V_v_a_touch_reads : RdA 1 encS okS (V H w []) w (.slice a_touch_reads_a a_touch_reads_n a_touch_reads_c) a.touch.reads := RdA.start v_a_touch_reads (fun _ _ => fps_nil _)
  obtain ⟨ln_a_touch_reads, le_a_touch_reads, mx_a_touch_reads, ni_a_touch_reads⟩ := RdA.inv v_a_touch_reads
  have V_v_a_touch_writes : RdA 1 encS okS (V H w []) w (.slice a_touch_writes_a a_touch_writes_n a_touch_writes_c) a.touch.writes := RdA.start v_a_touch_writes (fun _ _ => fps_nil _)
  obtain ⟨ln_a_touch_writes, le_a_touch_writes, mx_a_touch_writes, ni_a_touch_writes⟩ := RdA.inv v_a_touch_writes
  refine calls_enter 18 Try.func37 rfl Try.ntmps37 (Nat.le_of_ble_eq_true rfl) (fun a0 F0i => ?_)
  have F0 : Fr 18 [(0, .agg #[.slice a_store_a a_store_n a_store_c, .slice a_touch_reads_a a_touch_reads_n a_touch_reads_c, .slice a_touch_writes_a a_touch_writes_n a_touch_writes_c]), (1, .int .i64 left)] a0 := F0i
  clear F0i
  refine wp_seq ?_
  refine wp_region_lit ?_
  refine l_op (s_box (At.nil w) rfl rfl rfl (F0.ev 0 rfl) rfl fun b1 a1 w1 e1 S1i => ?_)
  have S1 : Mv [] w [bx b1 [.slice a_store_a a_store_n a_store_c, .slice a_touch_reads_a a_touch_reads_n a_touch_reads_c, .slice a_touch_writes_a a_touch_writes_n a_touch_writes_c] 44] w1 := S1i
  clear S1i
  have F2 : Fr 18 [(2, .pointer (some ⟨b1, 0, none⟩)), (1, .int .i64 left)] a1 := F0.put [1] e1 rfl
  clear e1 F0 a0
  refine l_op (s_val rfl rfl (r_assign rfl rfl) fun a3 e3 => ?_)
  have F4 : Fr 18 [(4, .int .i64 0), (2, .pointer (some ⟨b1, 0, none⟩)), (1, .int .i64 left)] a3 := F2.put [0, 1] e3 rfl
  clear e3 F2 a1
  refine s_end ?_
  refine x_normal ?_
  refine wp_seq ?_
  refine wp_region_lit ?_
  refine l_op (s_val rfl rfl (r_field FI_44_0 rfl (F4.ev 1 rfl) rfl) fun a5 e5 => ?_)
  have F6 : Fr 18 [(5, .pointer (some ⟨b1, 0, none⟩)), (2, .pointer (some ⟨b1, 0, none⟩)), (1, .int .i64 left)] a5 := F4.put [1, 2] e5 rfl
  clear e5 F4 a3
  refine l_op (s_val rfl rfl (r_loadB S1.at' 0 TI_42 rfl rfl (F6.ev 0 rfl) rfl rfl (fun _ => rfl) rfl) fun a7 e7 => ?_)
  have F8 : Fr 18 [(6, .slice a_store_a a_store_n a_store_c), (2, .pointer (some ⟨b1, 0, none⟩)), (1, .int .i64 left)] a7 := F6.put [1, 2] e7 rfl
  clear e7 F6 a5
  refine l_op (s_val rfl rfl (r_move rfl (F8.ev 2 rfl)) fun a9 e9 => ?_)
  have F10 : Fr 18 [(7, .int .i64 left), (6, .slice a_store_a a_store_n a_store_c), (2, .pointer (some ⟨b1, 0, none⟩)), (1, .int .i64 left)] a9 := F8.put [0, 1, 2] e9 rfl
  clear e9 F8 a7
  refine l_op (c_call CF_89 rfl rfl rfl (lc (F10.ev 1 rfl) (lc (F10.ev 0 rfl) rfl)) (laws_szCellS_c (H := V H w [bx b1 [.slice a_store_a a_store_n a_store_c, .slice a_touch_reads_a a_touch_reads_n a_touch_reads_c, .slice a_touch_writes_a a_touch_writes_n a_touch_writes_c] 44]) (a := a.store) (left := left) (RdA.mv (Nat.succ_pos _) V_v_a_store S1) h_left (show 0 ≤ left from by first | assumption | omega | (simp; done) | (simp; omega)) (show left ≤ 1048576 from by first | assumption | omega | (simp; done) | (simp; omega))) ?_)
  rintro _ w11 ⟨rfl, m11, q11_0⟩
  refine ⟨_, rfl, fun a11 e11 => ?_⟩
  have S11 : Mv [bx b1 [.slice a_store_a a_store_n a_store_c, .slice a_touch_reads_a a_touch_reads_n a_touch_reads_c, .slice a_touch_writes_a a_touch_writes_n a_touch_writes_c] 44] w1 [bx b1 [.slice a_store_a a_store_n a_store_c, .slice a_touch_reads_a a_touch_reads_n a_touch_reads_c, .slice a_touch_writes_a a_touch_writes_n a_touch_writes_c] 44] w11 := At.frame S1.at' [] rfl m11
  clear m11
  have F12 : Fr 18 [(8, .int .i64 (subOr left (szCells a.store))), (2, .pointer (some ⟨b1, 0, none⟩)), (1, .int .i64 left)] a11 := F10.put [2, 3] e11 rfl
  clear e11 F10 a9
  refine l_op (s_val rfl rfl (r_assign rfl (F12.ev 0 rfl)) fun a13 e13 => ?_)
  have F14 : Fr 18 [(1, .int .i64 (subOr left (szCells a.store))), (2, .pointer (some ⟨b1, 0, none⟩))] a13 := F12.put [1] e13 rfl
  clear e13 F12 a11
  refine s_end ?_
  refine x_normal ?_
  refine wp_seq ?_
  refine wp_seq ?_
  refine wp_region_lit ?_
  refine l_op (s_val rfl rfl (r_move rfl (F14.ev 0 rfl)) fun a15 e15 => ?_)
  have F16 : Fr 18 [(9, .int .i64 (subOr left (szCells a.store))), (1, .int .i64 (subOr left (szCells a.store))), (2, .pointer (some ⟨b1, 0, none⟩))] a15 := F14.put [0, 1] e15 rfl
  clear e15 F14 a13
  refine l_op (s_val rfl rfl (r_cmp (b := decide ((subOr left (szCells a.store)) < 0)) (.inr (.inr (.inl rfl))) rfl (F16.ev 0 rfl) rfl (dec_of (by omega))) fun a17 e17 => ?_)
  have F18 : Fr 18 [(10, .bool (decide ((subOr left (szCells a.store)) < 0))), (1, .int .i64 (subOr left (szCells a.store))), (2, .pointer (some ⟨b1, 0, none⟩))] a17 := F16.put [1, 2] e17 rfl
  clear e17 F16 a15
  refine s_end ?_
  refine x_normal ?_
  refine x_cond (p := (subOr left (szCells a.store)) < 0) (F18.ev 0 rfl) (fun h19 => ?_) (fun h19 => ?_)
  · skip
    refine wp_seq ?_
    refine wp_region_lit ?_
    refine l_op (s_val rfl rfl (r_assign rfl rfl) fun a20 e20 => ?_)
    have F21 : Fr 18 [(4, .int .i64 (-1))] a20 := F18.put [] e20 rfl
    clear e20 F18 a17
    refine s_end ?_
    refine x_normal ?_
    refine wp_ret ?_
    refine x_then_ret ?_
    refine x_done (v := .int .i64 (-1)) F21 (results_1 Try.results37 (.tmp (F21.ev 0 rfl))) ?_
    exact ⟨(by rw [(show (-1) = (subOr left (szMachD a)) from by unfold szMachD; exact (subOr_neg left _ _ (by assumption)).symm)]), (Mv.pick (S1.trans S11) [] rfl), subOr_i64 p0 p1⟩
  · skip
    refine wp_skip ?_
    refine x_normal ?_
    refine wp_seq ?_
    refine wp_region_lit ?_
    refine l_op (s_val rfl rfl (r_field FI_44_1 rfl (F18.ev 2 rfl) rfl) fun a22 e22 => ?_)
    have F23 : Fr 18 [(11, .pointer (some ⟨b1, 1, none⟩)), (1, .int .i64 (subOr left (szCells a.store)))] a22 := F18.put [1] e22 rfl
    clear e22 F18 a17
    refine l_op (s_val rfl rfl (r_loadB S11.at' 0 TI_24 rfl rfl (F23.ev 0 rfl) rfl rfl (fun h => nomatch h) rfl) fun a24 e24 => ?_)
    have F25 : Fr 18 [(12, .agg #[.slice a_touch_reads_a a_touch_reads_n a_touch_reads_c, .slice a_touch_writes_a a_touch_writes_n a_touch_writes_c]), (1, .int .i64 (subOr left (szCells a.store)))] a24 := F23.put [1] e24 rfl
    clear e24 F23 a22
    refine l_op (s_val rfl rfl (r_move rfl (F25.ev 1 rfl)) fun a26 e26 => ?_)
    have F27 : Fr 18 [(13, .int .i64 (subOr left (szCells a.store))), (12, .agg #[.slice a_touch_reads_a a_touch_reads_n a_touch_reads_c, .slice a_touch_writes_a a_touch_writes_n a_touch_writes_c]), (1, .int .i64 (subOr left (szCells a.store)))] a26 := F25.put [0, 1] e26 rfl
    clear e26 F25 a24
    refine l_op (c_call CF_12 rfl rfl rfl (lc (F27.ev 1 rfl) (lc (F27.ev 0 rfl) rfl)) (laws_szTouch_c (H := V H w [bx b1 [.slice a_store_a a_store_n a_store_c, .slice a_touch_reads_a a_touch_reads_n a_touch_reads_c, .slice a_touch_writes_a a_touch_writes_n a_touch_writes_c] 44]) (a := a.touch) (left := (subOr left (szCells a.store))) (RdA.mv (Nat.succ_pos _) V_v_a_touch_reads (S1.trans S11)) (RdA.mv (Nat.succ_pos _) V_v_a_touch_writes (S1.trans S11)) (by first | assumption | exact ⟨by omega, by omega⟩ | (unfold i64ok at *; omega)) (show 0 ≤ (subOr left (szCells a.store)) from by first | assumption | omega | (simp; done) | (simp; omega)) (show (subOr left (szCells a.store)) ≤ 1048576 from by first | assumption | (have := subOr_bd left (szCells a.store) p0; omega))) ?_)
    rintro _ w28 ⟨rfl, m28, q28_0⟩
    refine ⟨_, rfl, fun a28 e28 => ?_⟩
    have S28 : Mv [bx b1 [.slice a_store_a a_store_n a_store_c, .slice a_touch_reads_a a_touch_reads_n a_touch_reads_c, .slice a_touch_writes_a a_touch_writes_n a_touch_writes_c] 44] w11 [bx b1 [.slice a_store_a a_store_n a_store_c, .slice a_touch_reads_a a_touch_reads_n a_touch_reads_c, .slice a_touch_writes_a a_touch_writes_n a_touch_writes_c] 44] w28 := At.frame S11.at' [] rfl m28
    clear m28
    have F29 : Fr 18 [(14, .int .i64 (subOr (subOr left (szCells a.store)) (szTouchD a.touch))), (1, .int .i64 (subOr left (szCells a.store)))] a28 := F27.put [2] e28 rfl
    clear e28 F27 a26
    refine l_op (s_val rfl rfl (r_assign rfl (F29.ev 0 rfl)) fun a30 e30 => ?_)
    have F31 : Fr 18 [(1, .int .i64 (subOr (subOr left (szCells a.store)) (szTouchD a.touch)))] a30 := F29.put [] e30 rfl
    clear e30 F29 a28
    refine s_end ?_
    refine x_normal ?_
    refine wp_seq ?_
    refine wp_seq ?_
    refine wp_region_lit ?_
    refine l_op (s_val rfl rfl (r_move rfl (F31.ev 0 rfl)) fun a32 e32 => ?_)
    have F33 : Fr 18 [(15, .int .i64 (subOr (subOr left (szCells a.store)) (szTouchD a.touch))), (1, .int .i64 (subOr (subOr left (szCells a.store)) (szTouchD a.touch)))] a32 := F31.put [0] e32 rfl
    clear e32 F31 a30
    refine l_op (s_val rfl rfl (r_cmp (b := decide ((subOr (subOr left (szCells a.store)) (szTouchD a.touch)) < 0)) (.inr (.inr (.inl rfl))) rfl (F33.ev 0 rfl) rfl (dec_of (by omega))) fun a34 e34 => ?_)
    have F35 : Fr 18 [(16, .bool (decide ((subOr (subOr left (szCells a.store)) (szTouchD a.touch)) < 0))), (1, .int .i64 (subOr (subOr left (szCells a.store)) (szTouchD a.touch)))] a34 := F33.put [1] e34 rfl
    clear e34 F33 a32
    refine s_end ?_
    refine x_normal ?_
    refine x_cond (p := (subOr (subOr left (szCells a.store)) (szTouchD a.touch)) < 0) (F35.ev 0 rfl) (fun h36 => ?_) (fun h36 => ?_)
    · skip
      refine wp_seq ?_
      refine wp_region_lit ?_
      refine l_op (s_val rfl rfl (r_assign rfl rfl) fun a37 e37 => ?_)
      have F38 : Fr 18 [(4, .int .i64 (-1))] a37 := F35.put [] e37 rfl
      clear e37 F35 a34
      refine s_end ?_
      refine x_normal ?_
      refine wp_ret ?_
      refine x_then_ret ?_
      refine x_done (v := .int .i64 (-1)) F38 (results_1 Try.results37 (.tmp (F38.ev 0 rfl))) ?_
      exact ⟨(by rw [(show (-1) = (subOr left (szMachD a)) from by unfold szMachD; rw [subOr_add left _ _ (by omega)] at *; unfold subOr at *; split at * <;> omega)]), (Mv.pick (S1.trans (S11.trans S28)) [] rfl), subOr_i64 p0 p1⟩
    · skip
      refine wp_skip ?_
      refine x_normal ?_
      refine wp_seq ?_
      refine wp_region_lit ?_
      refine l_op (s_val rfl rfl (r_move rfl (F35.ev 1 rfl)) fun a39 e39 => ?_)
      have F40 : Fr 18 [(17, .int .i64 (subOr (subOr left (szCells a.store)) (szTouchD a.touch)))] a39 := F35.put [] e39 rfl
      clear e39 F35 a34
      refine l_op (s_val rfl rfl (r_assign rfl (F40.ev 0 rfl)) fun a41 e41 => ?_)
      have F42 : Fr 18 [(4, .int .i64 (subOr (subOr left (szCells a.store)) (szTouchD a.touch)))] a41 := F40.put [] e41 rfl
      clear e41 F40 a39
      refine s_end ?_
      refine x_normal ?_
      refine wp_ret ?_
      refine x_done (v := .int .i64 (subOr (subOr left (szCells a.store)) (szTouchD a.touch))) F42 (results_1 Try.results37 (.tmp (F42.ev 0 rfl))) ?_
      exact ⟨(by rw [(show (subOr (subOr left (szCells a.store)) (szTouchD a.touch)) = (subOr left (szMachD a)) from by unfold szMachD; exact subOr_add left _ _ (by omega))]), (Mv.pick (S1.trans (S11.trans S28)) [] rfl), subOr_i64 p0 p1⟩
theorem laws_toMach_c {w : World} {H : Nat → Prop} {a : MachD} {a_store_a : Option Addr} {a_store_n a_store_c : Nat} {a_touch_reads_a : Option Addr} {a_touch_reads_n a_touch_reads_c : Nat} {a_touch_writes_a : Option Addr} {a_touch_writes_n a_touch_writes_c : Nat} (v_a_store : RdA 2 encC okC H w (.slice a_store_a a_store_n a_store_c) a.store) (v_a_touch_reads : RdA 1 encS okS H w (.slice a_touch_reads_a a_touch_reads_n a_touch_reads_c) a.touch.reads) (v_a_touch_writes : RdA 1 encS okS H w (.slice a_touch_writes_a a_touch_writes_n a_touch_writes_c) a.touch.writes) (p0 : a.store.length ≤ 1048576) (p1 : a.touch.reads.length ≤ 1048576) (p2 : a.touch.writes.length ≤ 1048576) :
    Calls Try.prog 39 #[.agg #[.slice a_store_a a_store_n a_store_c, .slice a_touch_reads_a a_touch_reads_n a_touch_reads_c, .slice a_touch_writes_a a_touch_writes_n a_touch_writes_c]] w fun e w' => ∃ (r0_store_a : Option Addr), ∃ (r0_store_n : Nat), ∃ (r0_store_c : Nat), ∃ (r0_touch_reads_a : Option Addr), ∃ (r0_touch_reads_n : Nat), ∃ (r0_touch_reads_c : Nat), ∃ (r0_touch_writes_a : Option Addr), ∃ (r0_touch_writes_n : Nat), ∃ (r0_touch_writes_c : Nat), e = .returned (.agg #[.slice r0_store_a r0_store_n r0_store_c, .slice r0_touch_reads_a r0_touch_reads_n r0_touch_reads_c, .slice r0_touch_writes_a r0_touch_writes_n r0_touch_writes_c]) ∧ Mv [] w [ow 98 2 encC okC (.slice r0_store_a r0_store_n r0_store_c) a.store, ow 9 1 encS okS (.slice r0_touch_reads_a r0_touch_reads_n r0_touch_reads_c) a.touch.reads, ow 9 1 encS okS (.slice r0_touch_writes_a r0_touch_writes_n r0_touch_writes_c) a.touch.writes] w' := by
  have V_v_a_store : RdA 2 encC okC (V H w []) w (.slice a_store_a a_store_n a_store_c) a.store := RdA.start v_a_store (fun _ _ => fps_nil _)
  obtain ⟨ln_a_store, le_a_store, mx_a_store, ni_a_store⟩ := RdA.inv v_a_store
  have V_v_a_touch_reads : RdA 1 encS okS (V H w []) w (.slice a_touch_reads_a a_touch_reads_n a_touch_reads_c) a.touch.reads := RdA.start v_a_touch_reads (fun _ _ => fps_nil _)
  obtain ⟨ln_a_touch_reads, le_a_touch_reads, mx_a_touch_reads, ni_a_touch_reads⟩ := RdA.inv v_a_touch_reads
  have V_v_a_touch_writes : RdA 1 encS okS (V H w []) w (.slice a_touch_writes_a a_touch_writes_n a_touch_writes_c) a.touch.writes := RdA.start v_a_touch_writes (fun _ _ => fps_nil _)
  obtain ⟨ln_a_touch_writes, le_a_touch_writes, mx_a_touch_writes, ni_a_touch_writes⟩ := RdA.inv v_a_touch_writes
  refine calls_enter 13 Try.func39 rfl Try.ntmps39 (Nat.le_of_ble_eq_true rfl) (fun a0 F0i => ?_)
  have F0 : Fr 13 [(0, .agg #[.slice a_store_a a_store_n a_store_c, .slice a_touch_reads_a a_touch_reads_n a_touch_reads_c, .slice a_touch_writes_a a_touch_writes_n a_touch_writes_c])] a0 := F0i
  clear F0i
  refine wp_seq ?_
  refine wp_region_lit ?_
  refine l_op (s_box (At.nil w) rfl rfl rfl (F0.ev 0 rfl) rfl fun b1 a1 w1 e1 S1i => ?_)
  have S1 : Mv [] w [bx b1 [.slice a_store_a a_store_n a_store_c, .slice a_touch_reads_a a_touch_reads_n a_touch_reads_c, .slice a_touch_writes_a a_touch_writes_n a_touch_writes_c] 44] w1 := S1i
  clear S1i
  have F2 : Fr 13 [(1, .pointer (some ⟨b1, 0, none⟩))] a1 := F0.put [] e1 rfl
  clear e1 F0 a0
  refine l_op (s_alloc S1.at' ZI_48 rfl rfl rfl rfl fun b3 a3 w3 e3 S3i => ?_)
  have S3 : Mv [bx b1 [.slice a_store_a a_store_n a_store_c, .slice a_touch_reads_a a_touch_reads_n a_touch_reads_c, .slice a_touch_writes_a a_touch_writes_n a_touch_writes_c] 44] w1 [bx b3 [.slice none 0 0, .slice none 0 0, .slice none 0 0] 48, bx b1 [.slice a_store_a a_store_n a_store_c, .slice a_touch_reads_a a_touch_reads_n a_touch_reads_c, .slice a_touch_writes_a a_touch_writes_n a_touch_writes_c] 44] w3 := S3i
  clear S3i
  have F4 : Fr 13 [(2, .pointer (some ⟨b3, 0, none⟩)), (1, .pointer (some ⟨b1, 0, none⟩))] a3 := F2.put [0] e3 rfl
  clear e3 F2 a1
  refine s_end ?_
  refine x_normal ?_
  refine wp_seq ?_
  refine wp_region_lit ?_
  refine l_op (s_alloc S3.at' ZI_48 rfl rfl rfl rfl fun b5 a5 w5 e5 S5i => ?_)
  have S5 : Mv [bx b3 [.slice none 0 0, .slice none 0 0, .slice none 0 0] 48, bx b1 [.slice a_store_a a_store_n a_store_c, .slice a_touch_reads_a a_touch_reads_n a_touch_reads_c, .slice a_touch_writes_a a_touch_writes_n a_touch_writes_c] 44] w3 [bx b5 [.slice none 0 0, .slice none 0 0, .slice none 0 0] 48, bx b3 [.slice none 0 0, .slice none 0 0, .slice none 0 0] 48, bx b1 [.slice a_store_a a_store_n a_store_c, .slice a_touch_reads_a a_touch_reads_n a_touch_reads_c, .slice a_touch_writes_a a_touch_writes_n a_touch_writes_c] 44] w5 := S5i
  clear S5i
  have F6 : Fr 13 [(3, .pointer (some ⟨b5, 0, none⟩)), (2, .pointer (some ⟨b3, 0, none⟩)), (1, .pointer (some ⟨b1, 0, none⟩))] a5 := F4.put [0, 1] e5 rfl
  clear e5 F4 a3
  refine s_end ?_
  refine x_normal ?_
  refine wp_seq ?_
  refine wp_region_lit ?_
  refine l_op (s_val rfl rfl (r_field FI_44_0 rfl (F6.ev 2 rfl) rfl) fun a7 e7 => ?_)
  have F8 : Fr 13 [(4, .pointer (some ⟨b1, 0, none⟩)), (3, .pointer (some ⟨b5, 0, none⟩)), (2, .pointer (some ⟨b3, 0, none⟩)), (1, .pointer (some ⟨b1, 0, none⟩))] a7 := F6.put [0, 1, 2] e7 rfl
  clear e7 F6 a5
  refine l_op (s_val rfl rfl (r_loadB S5.at' 2 TI_42 rfl rfl (F8.ev 0 rfl) rfl rfl (fun _ => rfl) rfl) fun a9 e9 => ?_)
  have F10 : Fr 13 [(5, .slice a_store_a a_store_n a_store_c), (3, .pointer (some ⟨b5, 0, none⟩)), (2, .pointer (some ⟨b3, 0, none⟩)), (1, .pointer (some ⟨b1, 0, none⟩))] a9 := F8.put [1, 2, 3] e9 rfl
  clear e9 F8 a7
  refine l_op (c_call CF_92 rfl rfl rfl (lc (F10.ev 0 rfl) rfl) (laws_toCellS_c (H := V H w [bx b5 [.slice none 0 0, .slice none 0 0, .slice none 0 0] 48, bx b3 [.slice none 0 0, .slice none 0 0, .slice none 0 0] 48, bx b1 [.slice a_store_a a_store_n a_store_c, .slice a_touch_reads_a a_touch_reads_n a_touch_reads_c, .slice a_touch_writes_a a_touch_writes_n a_touch_writes_c] 44]) (a := a.store) (RdA.mv (Nat.succ_pos _) V_v_a_store (S1.trans (S3.trans S5))) (show a.store.length ≤ 1048576 from by first | assumption | omega | (simp; done) | (simp; omega))) ?_)
  rintro _ w11 ⟨r0_a_11, r0_n_11, r0_c_11, rfl, m11⟩
  refine ⟨_, rfl, fun a11 e11 => ?_⟩
  have S11 : Mv [bx b5 [.slice none 0 0, .slice none 0 0, .slice none 0 0] 48, bx b3 [.slice none 0 0, .slice none 0 0, .slice none 0 0] 48, bx b1 [.slice a_store_a a_store_n a_store_c, .slice a_touch_reads_a a_touch_reads_n a_touch_reads_c, .slice a_touch_writes_a a_touch_writes_n a_touch_writes_c] 44] w5 [ow 98 2 encC okC (.slice r0_a_11 r0_n_11 r0_c_11) a.store, bx b5 [.slice none 0 0, .slice none 0 0, .slice none 0 0] 48, bx b3 [.slice none 0 0, .slice none 0 0, .slice none 0 0] 48, bx b1 [.slice a_store_a a_store_n a_store_c, .slice a_touch_reads_a a_touch_reads_n a_touch_reads_c, .slice a_touch_writes_a a_touch_writes_n a_touch_writes_c] 44] w11 := At.frame S5.at' [] rfl m11
  clear m11
  obtain ⟨lo11_0, lp11_0, lq11_0⟩ := At.ownInv S11.at' ET_46.hk 0 rfl
  have F12 : Fr 13 [(6, .slice r0_a_11 r0_n_11 r0_c_11), (3, .pointer (some ⟨b5, 0, none⟩)), (2, .pointer (some ⟨b3, 0, none⟩)), (1, .pointer (some ⟨b1, 0, none⟩))] a11 := F10.put [1, 2, 3] e11 rfl
  clear e11 F10 a9
  refine l_op (s_val rfl rfl (r_field FI_48_0 rfl (F12.ev 1 rfl) rfl) fun a13 e13 => ?_)
  have F14 : Fr 13 [(7, .pointer (some ⟨b5, 0, none⟩)), (6, .slice r0_a_11 r0_n_11 r0_c_11), (3, .pointer (some ⟨b5, 0, none⟩)), (2, .pointer (some ⟨b3, 0, none⟩)), (1, .pointer (some ⟨b1, 0, none⟩))] a13 := F12.put [0, 1, 2, 3] e13 rfl
  clear e13 F12 a11
  refine l_op (s_store S11.at' 1 TI_46 rfl rfl rfl rfl rfl (F14.ev 0 rfl) (F14.ev 1 rfl) rfl rfl rfl rfl rfl fun w15 S15i => ?_)
  have S15 : Mv [ow 98 2 encC okC (.slice r0_a_11 r0_n_11 r0_c_11) a.store, bx b5 [.slice none 0 0, .slice none 0 0, .slice none 0 0] 48, bx b3 [.slice none 0 0, .slice none 0 0, .slice none 0 0] 48, bx b1 [.slice a_store_a a_store_n a_store_c, .slice a_touch_reads_a a_touch_reads_n a_touch_reads_c, .slice a_touch_writes_a a_touch_writes_n a_touch_writes_c] 44] w11 [bx b5 [.slice r0_a_11 r0_n_11 r0_c_11, .slice none 0 0, .slice none 0 0] 48, ow 98 2 encC okC (.slice r0_a_11 r0_n_11 r0_c_11) a.store, bx b3 [.slice none 0 0, .slice none 0 0, .slice none 0 0] 48, bx b1 [.slice a_store_a a_store_n a_store_c, .slice a_touch_reads_a a_touch_reads_n a_touch_reads_c, .slice a_touch_writes_a a_touch_writes_n a_touch_writes_c] 44] w15 := S15i
  clear S15i
  refine s_end ?_
  refine x_normal ?_
  refine wp_seq ?_
  refine wp_region_lit ?_
  refine l_op (s_val rfl rfl (r_field FI_44_1 rfl (F14.ev 4 rfl) rfl) fun a16 e16 => ?_)
  have F17 : Fr 13 [(8, .pointer (some ⟨b1, 1, none⟩)), (3, .pointer (some ⟨b5, 0, none⟩)), (2, .pointer (some ⟨b3, 0, none⟩))] a16 := F14.put [2, 3] e16 rfl
  clear e16 F14 a13
  refine l_op (s_val rfl rfl (r_loadB S15.at' 3 TI_24 rfl rfl (F17.ev 0 rfl) rfl rfl (fun h => nomatch h) rfl) fun a18 e18 => ?_)
  have F19 : Fr 13 [(9, .agg #[.slice a_touch_reads_a a_touch_reads_n a_touch_reads_c, .slice a_touch_writes_a a_touch_writes_n a_touch_writes_c]), (3, .pointer (some ⟨b5, 0, none⟩)), (2, .pointer (some ⟨b3, 0, none⟩))] a18 := F17.put [1, 2] e18 rfl
  clear e18 F17 a16
  refine l_op (c_call CF_14 rfl rfl rfl (lc (F19.ev 0 rfl) rfl) (laws_toTouch_c (H := V H w [bx b5 [.slice r0_a_11 r0_n_11 r0_c_11, .slice none 0 0, .slice none 0 0] 48, ow 98 2 encC okC (.slice r0_a_11 r0_n_11 r0_c_11) a.store, bx b3 [.slice none 0 0, .slice none 0 0, .slice none 0 0] 48, bx b1 [.slice a_store_a a_store_n a_store_c, .slice a_touch_reads_a a_touch_reads_n a_touch_reads_c, .slice a_touch_writes_a a_touch_writes_n a_touch_writes_c] 44]) (a := a.touch) (RdA.mv (Nat.succ_pos _) V_v_a_touch_reads (S1.trans (S3.trans (S5.trans (S11.trans S15))))) (RdA.mv (Nat.succ_pos _) V_v_a_touch_writes (S1.trans (S3.trans (S5.trans (S11.trans S15))))) (show a.touch.reads.length ≤ 1048576 from by first | assumption | omega | (simp; done) | (simp; omega)) (show a.touch.writes.length ≤ 1048576 from by first | assumption | omega | (simp; done) | (simp; omega))) ?_)
  rintro _ w20 ⟨r0_reads_a_20, r0_reads_n_20, r0_reads_c_20, r0_writes_a_20, r0_writes_n_20, r0_writes_c_20, rfl, m20⟩
  refine ⟨_, rfl, fun a20 e20 => ?_⟩
  have S20 : Mv [bx b5 [.slice r0_a_11 r0_n_11 r0_c_11, .slice none 0 0, .slice none 0 0] 48, ow 98 2 encC okC (.slice r0_a_11 r0_n_11 r0_c_11) a.store, bx b3 [.slice none 0 0, .slice none 0 0, .slice none 0 0] 48, bx b1 [.slice a_store_a a_store_n a_store_c, .slice a_touch_reads_a a_touch_reads_n a_touch_reads_c, .slice a_touch_writes_a a_touch_writes_n a_touch_writes_c] 44] w15 [ow 9 1 encS okS (.slice r0_reads_a_20 r0_reads_n_20 r0_reads_c_20) a.touch.reads, ow 9 1 encS okS (.slice r0_writes_a_20 r0_writes_n_20 r0_writes_c_20) a.touch.writes, bx b5 [.slice r0_a_11 r0_n_11 r0_c_11, .slice none 0 0, .slice none 0 0] 48, ow 98 2 encC okC (.slice r0_a_11 r0_n_11 r0_c_11) a.store, bx b3 [.slice none 0 0, .slice none 0 0, .slice none 0 0] 48, bx b1 [.slice a_store_a a_store_n a_store_c, .slice a_touch_reads_a a_touch_reads_n a_touch_reads_c, .slice a_touch_writes_a a_touch_writes_n a_touch_writes_c] 44] w20 := At.frame S15.at' [] rfl m20
  clear m20
  obtain ⟨lo20_0, lp20_0, lq20_0⟩ := At.ownInv S20.at' ET_22.hk 0 rfl
  obtain ⟨lo20_1, lp20_1, lq20_1⟩ := At.ownInv S20.at' ET_22.hk 1 rfl
  have F21 : Fr 13 [(10, .agg #[.slice r0_reads_a_20 r0_reads_n_20 r0_reads_c_20, .slice r0_writes_a_20 r0_writes_n_20 r0_writes_c_20]), (3, .pointer (some ⟨b5, 0, none⟩)), (2, .pointer (some ⟨b3, 0, none⟩))] a20 := F19.put [1, 2] e20 rfl
  clear e20 F19 a18
  refine l_op (s_val rfl rfl (r_field FI_48_1 rfl (F21.ev 1 rfl) rfl) fun a22 e22 => ?_)
  have F23 : Fr 13 [(11, .pointer (some ⟨b5, 1, none⟩)), (10, .agg #[.slice r0_reads_a_20 r0_reads_n_20 r0_reads_c_20, .slice r0_writes_a_20 r0_writes_n_20 r0_writes_c_20]), (3, .pointer (some ⟨b5, 0, none⟩)), (2, .pointer (some ⟨b3, 0, none⟩))] a22 := F21.put [0, 1, 2] e22 rfl
  clear e22 F21 a20
  refine l_op (s_store S20.at' 2 TI_26 rfl rfl rfl rfl rfl (F23.ev 0 rfl) (F23.ev 1 rfl) rfl rfl rfl rfl rfl fun w24 S24i => ?_)
  have S24 : Mv [ow 9 1 encS okS (.slice r0_reads_a_20 r0_reads_n_20 r0_reads_c_20) a.touch.reads, ow 9 1 encS okS (.slice r0_writes_a_20 r0_writes_n_20 r0_writes_c_20) a.touch.writes, bx b5 [.slice r0_a_11 r0_n_11 r0_c_11, .slice none 0 0, .slice none 0 0] 48, ow 98 2 encC okC (.slice r0_a_11 r0_n_11 r0_c_11) a.store, bx b3 [.slice none 0 0, .slice none 0 0, .slice none 0 0] 48, bx b1 [.slice a_store_a a_store_n a_store_c, .slice a_touch_reads_a a_touch_reads_n a_touch_reads_c, .slice a_touch_writes_a a_touch_writes_n a_touch_writes_c] 44] w20 [bx b5 [.slice r0_a_11 r0_n_11 r0_c_11, .slice r0_reads_a_20 r0_reads_n_20 r0_reads_c_20, .slice r0_writes_a_20 r0_writes_n_20 r0_writes_c_20] 48, ow 9 1 encS okS (.slice r0_reads_a_20 r0_reads_n_20 r0_reads_c_20) a.touch.reads, ow 9 1 encS okS (.slice r0_writes_a_20 r0_writes_n_20 r0_writes_c_20) a.touch.writes, ow 98 2 encC okC (.slice r0_a_11 r0_n_11 r0_c_11) a.store, bx b3 [.slice none 0 0, .slice none 0 0, .slice none 0 0] 48, bx b1 [.slice a_store_a a_store_n a_store_c, .slice a_touch_reads_a a_touch_reads_n a_touch_reads_c, .slice a_touch_writes_a a_touch_writes_n a_touch_writes_c] 44] w24 := S24i
  clear S24i
  refine s_end ?_
  refine x_normal ?_
  refine wp_seq ?_
  refine wp_region_lit ?_
  refine l_op (s_val rfl rfl (r_loadB S24.at' 0 TI_48 rfl rfl (F23.ev 2 rfl) rfl rfl (fun h => nomatch h) rfl) fun a25 e25 => ?_)
  have F26 : Fr 13 [(12, .agg #[.slice r0_a_11 r0_n_11 r0_c_11, .slice r0_reads_a_20 r0_reads_n_20 r0_reads_c_20, .slice r0_writes_a_20 r0_writes_n_20 r0_writes_c_20]), (2, .pointer (some ⟨b3, 0, none⟩))] a25 := F23.put [3] e25 rfl
  clear e25 F23 a22
  refine l_op (s_store S24.at' 4 TI_48 rfl rfl rfl rfl rfl (F26.ev 1 rfl) (F26.ev 0 rfl) rfl rfl rfl rfl rfl fun w27 S27i => ?_)
  have S27 : Mv [bx b5 [.slice r0_a_11 r0_n_11 r0_c_11, .slice r0_reads_a_20 r0_reads_n_20 r0_reads_c_20, .slice r0_writes_a_20 r0_writes_n_20 r0_writes_c_20] 48, ow 9 1 encS okS (.slice r0_reads_a_20 r0_reads_n_20 r0_reads_c_20) a.touch.reads, ow 9 1 encS okS (.slice r0_writes_a_20 r0_writes_n_20 r0_writes_c_20) a.touch.writes, ow 98 2 encC okC (.slice r0_a_11 r0_n_11 r0_c_11) a.store, bx b3 [.slice none 0 0, .slice none 0 0, .slice none 0 0] 48, bx b1 [.slice a_store_a a_store_n a_store_c, .slice a_touch_reads_a a_touch_reads_n a_touch_reads_c, .slice a_touch_writes_a a_touch_writes_n a_touch_writes_c] 44] w24 [bx b3 [.slice r0_a_11 r0_n_11 r0_c_11, .slice r0_reads_a_20 r0_reads_n_20 r0_reads_c_20, .slice r0_writes_a_20 r0_writes_n_20 r0_writes_c_20] 48, bx b5 [.slice r0_a_11 r0_n_11 r0_c_11, .slice r0_reads_a_20 r0_reads_n_20 r0_reads_c_20, .slice r0_writes_a_20 r0_writes_n_20 r0_writes_c_20] 48, ow 9 1 encS okS (.slice r0_reads_a_20 r0_reads_n_20 r0_reads_c_20) a.touch.reads, ow 9 1 encS okS (.slice r0_writes_a_20 r0_writes_n_20 r0_writes_c_20) a.touch.writes, ow 98 2 encC okC (.slice r0_a_11 r0_n_11 r0_c_11) a.store, bx b1 [.slice a_store_a a_store_n a_store_c, .slice a_touch_reads_a a_touch_reads_n a_touch_reads_c, .slice a_touch_writes_a a_touch_writes_n a_touch_writes_c] 44] w27 := S27i
  clear S27i
  refine s_end ?_
  refine x_normal ?_
  refine wp_ret ?_
  refine x_done (v := .agg #[.slice r0_a_11 r0_n_11 r0_c_11, .slice r0_reads_a_20 r0_reads_n_20 r0_reads_c_20, .slice r0_writes_a_20 r0_writes_n_20 r0_writes_c_20]) F26 (results_1 Try.results39 (.cell (F26.ev 1 rfl) (run_loadVar' TI_48 _ [.slice r0_a_11 r0_n_11 r0_c_11, .slice r0_reads_a_20 r0_reads_n_20 r0_reads_c_20, .slice r0_writes_a_20 r0_writes_n_20 r0_writes_c_20] rfl (fun h => nomatch h) (At.cells S27.at' 0 rfl 0 [.slice r0_a_11 r0_n_11 r0_c_11, .slice r0_reads_a_20 r0_reads_n_20 r0_reads_c_20, .slice r0_writes_a_20 r0_writes_n_20 r0_writes_c_20] rfl)))) ?_
  exact ⟨r0_a_11, r0_n_11, r0_c_11, r0_reads_a_20, r0_reads_n_20, r0_reads_c_20, r0_writes_a_20, r0_writes_n_20, r0_writes_c_20, rfl, (Mv.pick (S1.trans (S3.trans (S5.trans (S11.trans (S15.trans (S20.trans (S24.trans S27))))))) [4, 2, 3] rfl)⟩
theorem laws_eqMach_c {w : World} {H : Nat → Prop} {a : MachD} {a_store_a : Option Addr} {a_store_n a_store_c : Nat} {a_touch_reads_a : Option Addr} {a_touch_reads_n a_touch_reads_c : Nat} {a_touch_writes_a : Option Addr} {a_touch_writes_n a_touch_writes_c : Nat} {b : MachD} {b_store_a : Option Addr} {b_store_n b_store_c : Nat} {b_touch_reads_a : Option Addr} {b_touch_reads_n b_touch_reads_c : Nat} {b_touch_writes_a : Option Addr} {b_touch_writes_n b_touch_writes_c : Nat} (v_a_store : Rd 2 encC okC H w (.slice a_store_a a_store_n a_store_c) a.store) (v_a_touch_reads : Rd 1 encS okS H w (.slice a_touch_reads_a a_touch_reads_n a_touch_reads_c) a.touch.reads) (v_a_touch_writes : Rd 1 encS okS H w (.slice a_touch_writes_a a_touch_writes_n a_touch_writes_c) a.touch.writes) (v_b_store : Rd 2 encC okC H w (.slice b_store_a b_store_n b_store_c) b.store) (v_b_touch_reads : Rd 1 encS okS H w (.slice b_touch_reads_a b_touch_reads_n b_touch_reads_c) b.touch.reads) (v_b_touch_writes : Rd 1 encS okS H w (.slice b_touch_writes_a b_touch_writes_n b_touch_writes_c) b.touch.writes) (p0 : a = b) :
    Calls Try.prog 41 #[.agg #[.slice a_store_a a_store_n a_store_c, .slice a_touch_reads_a a_touch_reads_n a_touch_reads_c, .slice a_touch_writes_a a_touch_writes_n a_touch_writes_c], .agg #[.slice b_store_a b_store_n b_store_c, .slice b_touch_reads_a b_touch_reads_n b_touch_reads_c, .slice b_touch_writes_a b_touch_writes_n b_touch_writes_c]] w fun e w' => e = .returned (.bool true) ∧ Mv [] w [] w' := by
  have V_v_a_store : Rd 2 encC okC (V H w []) w (.slice a_store_a a_store_n a_store_c) a.store := Rd.start v_a_store (fun _ _ => fps_nil _)
  obtain ⟨ln_a_store, le_a_store, mx_a_store, ni_a_store⟩ := Rd.inv v_a_store
  have V_v_a_touch_reads : Rd 1 encS okS (V H w []) w (.slice a_touch_reads_a a_touch_reads_n a_touch_reads_c) a.touch.reads := Rd.start v_a_touch_reads (fun _ _ => fps_nil _)
  obtain ⟨ln_a_touch_reads, le_a_touch_reads, mx_a_touch_reads, ni_a_touch_reads⟩ := Rd.inv v_a_touch_reads
  have V_v_a_touch_writes : Rd 1 encS okS (V H w []) w (.slice a_touch_writes_a a_touch_writes_n a_touch_writes_c) a.touch.writes := Rd.start v_a_touch_writes (fun _ _ => fps_nil _)
  obtain ⟨ln_a_touch_writes, le_a_touch_writes, mx_a_touch_writes, ni_a_touch_writes⟩ := Rd.inv v_a_touch_writes
  have V_v_b_store : Rd 2 encC okC (V H w []) w (.slice b_store_a b_store_n b_store_c) b.store := Rd.start v_b_store (fun _ _ => fps_nil _)
  obtain ⟨ln_b_store, le_b_store, mx_b_store, ni_b_store⟩ := Rd.inv v_b_store
  have V_v_b_touch_reads : Rd 1 encS okS (V H w []) w (.slice b_touch_reads_a b_touch_reads_n b_touch_reads_c) b.touch.reads := Rd.start v_b_touch_reads (fun _ _ => fps_nil _)
  obtain ⟨ln_b_touch_reads, le_b_touch_reads, mx_b_touch_reads, ni_b_touch_reads⟩ := Rd.inv v_b_touch_reads
  have V_v_b_touch_writes : Rd 1 encS okS (V H w []) w (.slice b_touch_writes_a b_touch_writes_n b_touch_writes_c) b.touch.writes := Rd.start v_b_touch_writes (fun _ _ => fps_nil _)
  obtain ⟨ln_b_touch_writes, le_b_touch_writes, mx_b_touch_writes, ni_b_touch_writes⟩ := Rd.inv v_b_touch_writes
  refine calls_enter 17 Try.func41 rfl Try.ntmps41 (Nat.le_of_ble_eq_true rfl) (fun a0 F0i => ?_)
  have F0 : Fr 17 [(0, .agg #[.slice a_store_a a_store_n a_store_c, .slice a_touch_reads_a a_touch_reads_n a_touch_reads_c, .slice a_touch_writes_a a_touch_writes_n a_touch_writes_c]), (1, .agg #[.slice b_store_a b_store_n b_store_c, .slice b_touch_reads_a b_touch_reads_n b_touch_reads_c, .slice b_touch_writes_a b_touch_writes_n b_touch_writes_c])] a0 := F0i
  clear F0i
  refine wp_seq ?_
  refine wp_region_lit ?_
  refine l_op (s_box (At.nil w) rfl rfl rfl (F0.ev 0 rfl) rfl fun b1 a1 w1 e1 S1i => ?_)
  have S1 : Mv [] w [bx b1 [.slice a_store_a a_store_n a_store_c, .slice a_touch_reads_a a_touch_reads_n a_touch_reads_c, .slice a_touch_writes_a a_touch_writes_n a_touch_writes_c] 48] w1 := S1i
  clear S1i
  have F2 : Fr 17 [(2, .pointer (some ⟨b1, 0, none⟩)), (1, .agg #[.slice b_store_a b_store_n b_store_c, .slice b_touch_reads_a b_touch_reads_n b_touch_reads_c, .slice b_touch_writes_a b_touch_writes_n b_touch_writes_c])] a1 := F0.put [1] e1 rfl
  clear e1 F0 a0
  refine l_op (s_box S1.at' rfl rfl rfl (F2.ev 1 rfl) rfl fun b3 a3 w3 e3 S3i => ?_)
  have S3 : Mv [bx b1 [.slice a_store_a a_store_n a_store_c, .slice a_touch_reads_a a_touch_reads_n a_touch_reads_c, .slice a_touch_writes_a a_touch_writes_n a_touch_writes_c] 48] w1 [bx b3 [.slice b_store_a b_store_n b_store_c, .slice b_touch_reads_a b_touch_reads_n b_touch_reads_c, .slice b_touch_writes_a b_touch_writes_n b_touch_writes_c] 48, bx b1 [.slice a_store_a a_store_n a_store_c, .slice a_touch_reads_a a_touch_reads_n a_touch_reads_c, .slice a_touch_writes_a a_touch_writes_n a_touch_writes_c] 48] w3 := S3i
  clear S3i
  have F4 : Fr 17 [(3, .pointer (some ⟨b3, 0, none⟩)), (2, .pointer (some ⟨b1, 0, none⟩))] a3 := F2.put [0] e3 rfl
  clear e3 F2 a1
  refine l_op (s_val rfl rfl (r_assign rfl rfl) fun a5 e5 => ?_)
  have F6 : Fr 17 [(4, .bool false), (3, .pointer (some ⟨b3, 0, none⟩)), (2, .pointer (some ⟨b1, 0, none⟩))] a5 := F4.put [0, 1] e5 rfl
  clear e5 F4 a3
  refine s_end ?_
  refine x_normal ?_
  refine wp_seq ?_
  refine wp_seq ?_
  refine wp_region_lit ?_
  refine l_op (s_val rfl rfl (r_field FI_48_0 rfl (F6.ev 2 rfl) rfl) fun a7 e7 => ?_)
  have F8 : Fr 17 [(5, .pointer (some ⟨b1, 0, none⟩)), (3, .pointer (some ⟨b3, 0, none⟩)), (2, .pointer (some ⟨b1, 0, none⟩))] a7 := F6.put [1, 2] e7 rfl
  clear e7 F6 a5
  refine l_op (s_val rfl rfl (r_loadB S3.at' 1 TI_46 rfl rfl (F8.ev 0 rfl) rfl rfl (fun _ => rfl) rfl) fun a9 e9 => ?_)
  have F10 : Fr 17 [(6, .slice a_store_a a_store_n a_store_c), (3, .pointer (some ⟨b3, 0, none⟩)), (2, .pointer (some ⟨b1, 0, none⟩))] a9 := F8.put [1, 2] e9 rfl
  clear e9 F8 a7
  refine l_op (s_val rfl rfl (r_field FI_48_0 rfl (F10.ev 1 rfl) rfl) fun a11 e11 => ?_)
  have F12 : Fr 17 [(7, .pointer (some ⟨b3, 0, none⟩)), (6, .slice a_store_a a_store_n a_store_c), (3, .pointer (some ⟨b3, 0, none⟩)), (2, .pointer (some ⟨b1, 0, none⟩))] a11 := F10.put [0, 1, 2] e11 rfl
  clear e11 F10 a9
  refine l_op (s_val rfl rfl (r_loadB S3.at' 0 TI_46 rfl rfl (F12.ev 0 rfl) rfl rfl (fun _ => rfl) rfl) fun a13 e13 => ?_)
  have F14 : Fr 17 [(8, .slice b_store_a b_store_n b_store_c), (6, .slice a_store_a a_store_n a_store_c), (3, .pointer (some ⟨b3, 0, none⟩)), (2, .pointer (some ⟨b1, 0, none⟩))] a13 := F12.put [1, 2, 3] e13 rfl
  clear e13 F12 a11
  refine l_op (c_call CF_95 rfl rfl rfl (lc (F14.ev 1 rfl) (lc (F14.ev 0 rfl) rfl)) (laws_eqCellS_c (H := V H w [bx b3 [.slice b_store_a b_store_n b_store_c, .slice b_touch_reads_a b_touch_reads_n b_touch_reads_c, .slice b_touch_writes_a b_touch_writes_n b_touch_writes_c] 48, bx b1 [.slice a_store_a a_store_n a_store_c, .slice a_touch_reads_a a_touch_reads_n a_touch_reads_c, .slice a_touch_writes_a a_touch_writes_n a_touch_writes_c] 48]) (a := a.store) (b := b.store) (Rd.mv (Nat.succ_pos _) V_v_a_store (S1.trans S3)) (Rd.mv (Nat.succ_pos _) V_v_b_store (S1.trans S3)) (show a.store = b.store from by rw [p0])) ?_)
  rintro _ w15 ⟨rfl, m15⟩
  refine ⟨_, rfl, fun a15 e15 => ?_⟩
  have S15 : Mv [bx b3 [.slice b_store_a b_store_n b_store_c, .slice b_touch_reads_a b_touch_reads_n b_touch_reads_c, .slice b_touch_writes_a b_touch_writes_n b_touch_writes_c] 48, bx b1 [.slice a_store_a a_store_n a_store_c, .slice a_touch_reads_a a_touch_reads_n a_touch_reads_c, .slice a_touch_writes_a a_touch_writes_n a_touch_writes_c] 48] w3 [bx b3 [.slice b_store_a b_store_n b_store_c, .slice b_touch_reads_a b_touch_reads_n b_touch_reads_c, .slice b_touch_writes_a b_touch_writes_n b_touch_writes_c] 48, bx b1 [.slice a_store_a a_store_n a_store_c, .slice a_touch_reads_a a_touch_reads_n a_touch_reads_c, .slice a_touch_writes_a a_touch_writes_n a_touch_writes_c] 48] w15 := At.frame S3.at' [] rfl m15
  clear m15
  have F16 : Fr 17 [(9, .bool true), (3, .pointer (some ⟨b3, 0, none⟩)), (2, .pointer (some ⟨b1, 0, none⟩))] a15 := F14.put [2, 3] e15 rfl
  clear e15 F14 a13
  refine l_op (s_val rfl rfl (r_not rfl (F16.ev 0 rfl)) fun a17 e17 => ?_)
  have F18 : Fr 17 [(10, .bool false), (3, .pointer (some ⟨b3, 0, none⟩)), (2, .pointer (some ⟨b1, 0, none⟩))] a17 := F16.put [1, 2] e17 rfl
  clear e17 F16 a15
  refine s_end ?_
  refine x_normal ?_
  refine wp_cond_false (F18.ev 0 rfl) ?_
  refine wp_skip ?_
  refine x_normal ?_
  refine wp_seq ?_
  refine wp_seq ?_
  refine wp_region_lit ?_
  refine l_op (s_val rfl rfl (r_field FI_48_1 rfl (F18.ev 2 rfl) rfl) fun a19 e19 => ?_)
  have F20 : Fr 17 [(11, .pointer (some ⟨b1, 1, none⟩)), (3, .pointer (some ⟨b3, 0, none⟩))] a19 := F18.put [1] e19 rfl
  clear e19 F18 a17
  refine l_op (s_val rfl rfl (r_loadB S15.at' 1 TI_26 rfl rfl (F20.ev 0 rfl) rfl rfl (fun h => nomatch h) rfl) fun a21 e21 => ?_)
  have F22 : Fr 17 [(12, .agg #[.slice a_touch_reads_a a_touch_reads_n a_touch_reads_c, .slice a_touch_writes_a a_touch_writes_n a_touch_writes_c]), (3, .pointer (some ⟨b3, 0, none⟩))] a21 := F20.put [1] e21 rfl
  clear e21 F20 a19
  refine l_op (s_val rfl rfl (r_field FI_48_1 rfl (F22.ev 1 rfl) rfl) fun a23 e23 => ?_)
  have F24 : Fr 17 [(13, .pointer (some ⟨b3, 1, none⟩)), (12, .agg #[.slice a_touch_reads_a a_touch_reads_n a_touch_reads_c, .slice a_touch_writes_a a_touch_writes_n a_touch_writes_c])] a23 := F22.put [0] e23 rfl
  clear e23 F22 a21
  refine l_op (s_val rfl rfl (r_loadB S15.at' 0 TI_26 rfl rfl (F24.ev 0 rfl) rfl rfl (fun h => nomatch h) rfl) fun a25 e25 => ?_)
  have F26 : Fr 17 [(14, .agg #[.slice b_touch_reads_a b_touch_reads_n b_touch_reads_c, .slice b_touch_writes_a b_touch_writes_n b_touch_writes_c]), (12, .agg #[.slice a_touch_reads_a a_touch_reads_n a_touch_reads_c, .slice a_touch_writes_a a_touch_writes_n a_touch_writes_c])] a25 := F24.put [1] e25 rfl
  clear e25 F24 a23
  refine l_op (c_call CF_16 rfl rfl rfl (lc (F26.ev 1 rfl) (lc (F26.ev 0 rfl) rfl)) (laws_eqTouch_c (H := V H w [bx b3 [.slice b_store_a b_store_n b_store_c, .slice b_touch_reads_a b_touch_reads_n b_touch_reads_c, .slice b_touch_writes_a b_touch_writes_n b_touch_writes_c] 48, bx b1 [.slice a_store_a a_store_n a_store_c, .slice a_touch_reads_a a_touch_reads_n a_touch_reads_c, .slice a_touch_writes_a a_touch_writes_n a_touch_writes_c] 48]) (a := a.touch) (b := b.touch) (Rd.mv (Nat.succ_pos _) V_v_a_touch_reads (S1.trans (S3.trans S15))) (Rd.mv (Nat.succ_pos _) V_v_a_touch_writes (S1.trans (S3.trans S15))) (Rd.mv (Nat.succ_pos _) V_v_b_touch_reads (S1.trans (S3.trans S15))) (Rd.mv (Nat.succ_pos _) V_v_b_touch_writes (S1.trans (S3.trans S15))) (show a.touch = b.touch from by rw [p0])) ?_)
  rintro _ w27 ⟨rfl, m27⟩
  refine ⟨_, rfl, fun a27 e27 => ?_⟩
  have S27 : Mv [bx b3 [.slice b_store_a b_store_n b_store_c, .slice b_touch_reads_a b_touch_reads_n b_touch_reads_c, .slice b_touch_writes_a b_touch_writes_n b_touch_writes_c] 48, bx b1 [.slice a_store_a a_store_n a_store_c, .slice a_touch_reads_a a_touch_reads_n a_touch_reads_c, .slice a_touch_writes_a a_touch_writes_n a_touch_writes_c] 48] w15 [bx b3 [.slice b_store_a b_store_n b_store_c, .slice b_touch_reads_a b_touch_reads_n b_touch_reads_c, .slice b_touch_writes_a b_touch_writes_n b_touch_writes_c] 48, bx b1 [.slice a_store_a a_store_n a_store_c, .slice a_touch_reads_a a_touch_reads_n a_touch_reads_c, .slice a_touch_writes_a a_touch_writes_n a_touch_writes_c] 48] w27 := At.frame S15.at' [] rfl m27
  clear m27
  have F28 : Fr 17 [(15, .bool true)] a27 := F26.put [] e27 rfl
  clear e27 F26 a25
  refine l_op (s_val rfl rfl (r_not rfl (F28.ev 0 rfl)) fun a29 e29 => ?_)
  have F30 : Fr 17 [(16, .bool false)] a29 := F28.put [] e29 rfl
  clear e29 F28 a27
  refine s_end ?_
  refine x_normal ?_
  refine wp_cond_false (F30.ev 0 rfl) ?_
  refine wp_skip ?_
  refine x_normal ?_
  refine wp_seq ?_
  refine wp_region_lit ?_
  refine l_op (s_val rfl rfl (r_assign rfl rfl) fun a31 e31 => ?_)
  have F32 : Fr 17 [(4, .bool true)] a31 := F30.put [] e31 rfl
  clear e31 F30 a29
  refine s_end ?_
  refine x_normal ?_
  refine wp_ret ?_
  refine x_done (v := .bool true) F32 (results_1 Try.results41 (.tmp (F32.ev 0 rfl))) ?_
  exact ⟨rfl, (Mv.pick (S1.trans (S3.trans (S15.trans S27))) [] rfl)⟩
theorem laws_markMach_c {w : World} {H : Nat → Prop} {a : MachD} {a_store_a : Option Addr} {a_store_n a_store_c : Nat} {a_touch_reads_a : Option Addr} {a_touch_reads_n a_touch_reads_c : Nat} {a_touch_writes_a : Option Addr} {a_touch_writes_n a_touch_writes_c : Nat} {k : Nat} (h_k : i64ok (k : Int)) (p0 : k ≤ 549755813888) (p1 : a.store.length ≤ 137438953472) (p2 : a.touch.reads.length ≤ 1099511627776) (p3 : a.touch.writes.length ≤ 1099511627776) (hA : At w [ow 98 2 encC okC (.slice a_store_a a_store_n a_store_c) a.store, ow 9 1 encS okS (.slice a_touch_reads_a a_touch_reads_n a_touch_reads_c) a.touch.reads, ow 9 1 encS okS (.slice a_touch_writes_a a_touch_writes_n a_touch_writes_c) a.touch.writes]) :
    Calls Try.prog 42 #[.agg #[.slice a_store_a a_store_n a_store_c, .slice a_touch_reads_a a_touch_reads_n a_touch_reads_c, .slice a_touch_writes_a a_touch_writes_n a_touch_writes_c], .int .i64 ((k : Nat) : Int)] w fun e w' => e = .returned (.int .i64 ((k + cntM a : Nat) : Int)) ∧ Mv [ow 98 2 encC okC (.slice a_store_a a_store_n a_store_c) a.store, ow 9 1 encS okS (.slice a_touch_reads_a a_touch_reads_n a_touch_reads_c) a.touch.reads, ow 9 1 encS okS (.slice a_touch_writes_a a_touch_writes_n a_touch_writes_c) a.touch.writes] w [ow 98 2 encC okC (.slice a_store_a a_store_n a_store_c) (marksM k a).store, ow 9 1 encS okS (.slice a_touch_reads_a a_touch_reads_n a_touch_reads_c) (marksM k a).touch.reads, ow 9 1 encS okS (.slice a_touch_writes_a a_touch_writes_n a_touch_writes_c) (marksM k a).touch.writes] w' := by
  obtain ⟨lo0, lp0, lq0⟩ := At.ownInv hA ET_46.hk 0 rfl
  obtain ⟨lo1, lp1, lq1⟩ := At.ownInv hA ET_22.hk 1 rfl
  obtain ⟨lo2, lp2, lq2⟩ := At.ownInv hA ET_22.hk 2 rfl
  refine calls_enter 14 Try.func42 rfl Try.ntmps42 (Nat.le_of_ble_eq_true rfl) (fun a0 F0i => ?_)
  have F0 : Fr 14 [(0, .agg #[.slice a_store_a a_store_n a_store_c, .slice a_touch_reads_a a_touch_reads_n a_touch_reads_c, .slice a_touch_writes_a a_touch_writes_n a_touch_writes_c]), (1, .int .i64 ((k : Nat) : Int))] a0 := F0i
  clear F0i
  refine wp_seq ?_
  refine wp_region_lit ?_
  refine l_op (s_box hA rfl rfl rfl (F0.ev 0 rfl) rfl fun b1 a1 w1 e1 S1i => ?_)
  have S1 : Mv [ow 98 2 encC okC (.slice a_store_a a_store_n a_store_c) a.store, ow 9 1 encS okS (.slice a_touch_reads_a a_touch_reads_n a_touch_reads_c) a.touch.reads, ow 9 1 encS okS (.slice a_touch_writes_a a_touch_writes_n a_touch_writes_c) a.touch.writes] w [bx b1 [.slice a_store_a a_store_n a_store_c, .slice a_touch_reads_a a_touch_reads_n a_touch_reads_c, .slice a_touch_writes_a a_touch_writes_n a_touch_writes_c] 48, ow 98 2 encC okC (.slice a_store_a a_store_n a_store_c) a.store, ow 9 1 encS okS (.slice a_touch_reads_a a_touch_reads_n a_touch_reads_c) a.touch.reads, ow 9 1 encS okS (.slice a_touch_writes_a a_touch_writes_n a_touch_writes_c) a.touch.writes] w1 := S1i
  clear S1i
  have F2 : Fr 14 [(2, .pointer (some ⟨b1, 0, none⟩)), (1, .int .i64 ((k : Nat) : Int))] a1 := F0.put [1] e1 rfl
  clear e1 F0 a0
  refine l_op (s_val rfl rfl (r_assign rfl rfl) fun a3 e3 => ?_)
  have F4 : Fr 14 [(4, .int .i64 0), (2, .pointer (some ⟨b1, 0, none⟩)), (1, .int .i64 ((k : Nat) : Int))] a3 := F2.put [0, 1] e3 rfl
  clear e3 F2 a1
  refine s_end ?_
  refine x_normal ?_
  refine wp_seq ?_
  refine wp_region_lit ?_
  refine l_op (s_val rfl rfl (r_field FI_48_0 rfl (F4.ev 1 rfl) rfl) fun a5 e5 => ?_)
  have F6 : Fr 14 [(5, .pointer (some ⟨b1, 0, none⟩)), (2, .pointer (some ⟨b1, 0, none⟩)), (1, .int .i64 ((k : Nat) : Int))] a5 := F4.put [1, 2] e5 rfl
  clear e5 F4 a3
  refine l_op (s_val rfl rfl (r_loadB S1.at' 0 TI_46 rfl rfl (F6.ev 0 rfl) rfl rfl (fun _ => rfl) rfl) fun a7 e7 => ?_)
  have F8 : Fr 14 [(6, .slice a_store_a a_store_n a_store_c), (2, .pointer (some ⟨b1, 0, none⟩)), (1, .int .i64 ((k : Nat) : Int))] a7 := F6.put [1, 2] e7 rfl
  clear e7 F6 a5
  refine l_op (s_val rfl rfl (r_move rfl (F8.ev 2 rfl)) fun a9 e9 => ?_)
  have F10 : Fr 14 [(7, .int .i64 ((k : Nat) : Int)), (6, .slice a_store_a a_store_n a_store_c), (2, .pointer (some ⟨b1, 0, none⟩)), (1, .int .i64 ((k : Nat) : Int))] a9 := F8.put [0, 1, 2] e9 rfl
  clear e9 F8 a7
  refine l_op (c_call CF_96 rfl rfl rfl (lc (F10.ev 1 rfl) (lc (F10.ev 0 rfl) rfl)) (laws_markCellS_c (H := fun _ => True) (a := a.store) (k := k) ⟨by omega, by first | omega | (unfold i64ok at *; omega)⟩ (show k + 2 * a.store.length ≤ 4611686018427387904 from by first | assumption | omega | (simp; done) | (simp; omega)) (At.pick (is := [1]) S1.at' rfl)) ?_)
  rintro _ w11 ⟨rfl, m11⟩
  refine ⟨_, rfl, fun a11 e11 => ?_⟩
  have S11 : Mv [bx b1 [.slice a_store_a a_store_n a_store_c, .slice a_touch_reads_a a_touch_reads_n a_touch_reads_c, .slice a_touch_writes_a a_touch_writes_n a_touch_writes_c] 48, ow 98 2 encC okC (.slice a_store_a a_store_n a_store_c) a.store, ow 9 1 encS okS (.slice a_touch_reads_a a_touch_reads_n a_touch_reads_c) a.touch.reads, ow 9 1 encS okS (.slice a_touch_writes_a a_touch_writes_n a_touch_writes_c) a.touch.writes] w1 [ow 98 2 encC okC (.slice a_store_a a_store_n a_store_c) (marksC k a.store.length), bx b1 [.slice a_store_a a_store_n a_store_c, .slice a_touch_reads_a a_touch_reads_n a_touch_reads_c, .slice a_touch_writes_a a_touch_writes_n a_touch_writes_c] 48, ow 9 1 encS okS (.slice a_touch_reads_a a_touch_reads_n a_touch_reads_c) a.touch.reads, ow 9 1 encS okS (.slice a_touch_writes_a a_touch_writes_n a_touch_writes_c) a.touch.writes] w11 := At.frame S1.at' [1] rfl m11
  clear m11
  obtain ⟨lo11_0, lp11_0, lq11_0⟩ := At.ownInv S11.at' ET_46.hk 0 rfl
  have F12 : Fr 14 [(8, .int .i64 ((k + 2 * a.store.length : Nat) : Int)), (2, .pointer (some ⟨b1, 0, none⟩)), (1, .int .i64 ((k : Nat) : Int))] a11 := F10.put [2, 3] e11 rfl
  clear e11 F10 a9
  refine l_op (s_val rfl rfl (r_assign rfl (F12.ev 0 rfl)) fun a13 e13 => ?_)
  have F14 : Fr 14 [(1, .int .i64 ((k + 2 * a.store.length : Nat) : Int)), (2, .pointer (some ⟨b1, 0, none⟩))] a13 := F12.put [1] e13 rfl
  clear e13 F12 a11
  refine s_end ?_
  refine x_normal ?_
  refine wp_seq ?_
  refine wp_region_lit ?_
  refine l_op (s_val rfl rfl (r_field FI_48_1 rfl (F14.ev 1 rfl) rfl) fun a15 e15 => ?_)
  have F16 : Fr 14 [(9, .pointer (some ⟨b1, 1, none⟩)), (1, .int .i64 ((k + 2 * a.store.length : Nat) : Int))] a15 := F14.put [0] e15 rfl
  clear e15 F14 a13
  refine l_op (s_val rfl rfl (r_loadB S11.at' 1 TI_26 rfl rfl (F16.ev 0 rfl) rfl rfl (fun h => nomatch h) rfl) fun a17 e17 => ?_)
  have F18 : Fr 14 [(10, .agg #[.slice a_touch_reads_a a_touch_reads_n a_touch_reads_c, .slice a_touch_writes_a a_touch_writes_n a_touch_writes_c]), (1, .int .i64 ((k + 2 * a.store.length : Nat) : Int))] a17 := F16.put [1] e17 rfl
  clear e17 F16 a15
  refine l_op (s_val rfl rfl (r_move rfl (F18.ev 1 rfl)) fun a19 e19 => ?_)
  have F20 : Fr 14 [(11, .int .i64 ((k + 2 * a.store.length : Nat) : Int)), (10, .agg #[.slice a_touch_reads_a a_touch_reads_n a_touch_reads_c, .slice a_touch_writes_a a_touch_writes_n a_touch_writes_c]), (1, .int .i64 ((k + 2 * a.store.length : Nat) : Int))] a19 := F18.put [0, 1] e19 rfl
  clear e19 F18 a17
  refine l_op (c_call CF_17 rfl rfl rfl (lc (F20.ev 1 rfl) (lc (F20.ev 0 rfl) rfl)) (laws_markTouch_c (H := fun _ => True) (a := a.touch) (k := k + 2 * a.store.length) ⟨by omega, by first | omega | (unfold i64ok at *; omega)⟩ (show (k + 2 * a.store.length) ≤ 1099511627776 from by first | assumption | omega | (simp; done) | (simp; omega)) (show a.touch.reads.length ≤ 1099511627776 from by first | assumption | omega | (simp; done) | (simp; omega)) (show a.touch.writes.length ≤ 1099511627776 from by first | assumption | omega | (simp; done) | (simp; omega)) (At.pick (is := [2, 3]) S11.at' rfl)) ?_)
  rintro _ w21 ⟨rfl, m21⟩
  refine ⟨_, rfl, fun a21 e21 => ?_⟩
  have S21 : Mv [ow 98 2 encC okC (.slice a_store_a a_store_n a_store_c) (marksC k a.store.length), bx b1 [.slice a_store_a a_store_n a_store_c, .slice a_touch_reads_a a_touch_reads_n a_touch_reads_c, .slice a_touch_writes_a a_touch_writes_n a_touch_writes_c] 48, ow 9 1 encS okS (.slice a_touch_reads_a a_touch_reads_n a_touch_reads_c) a.touch.reads, ow 9 1 encS okS (.slice a_touch_writes_a a_touch_writes_n a_touch_writes_c) a.touch.writes] w11 [ow 9 1 encS okS (.slice a_touch_reads_a a_touch_reads_n a_touch_reads_c) (marksT (k + 2 * a.store.length) a.touch).reads, ow 9 1 encS okS (.slice a_touch_writes_a a_touch_writes_n a_touch_writes_c) (marksT (k + 2 * a.store.length) a.touch).writes, ow 98 2 encC okC (.slice a_store_a a_store_n a_store_c) (marksC k a.store.length), bx b1 [.slice a_store_a a_store_n a_store_c, .slice a_touch_reads_a a_touch_reads_n a_touch_reads_c, .slice a_touch_writes_a a_touch_writes_n a_touch_writes_c] 48] w21 := At.frame S11.at' [2, 3] rfl m21
  clear m21
  obtain ⟨lo21_0, lp21_0, lq21_0⟩ := At.ownInv S21.at' ET_22.hk 0 rfl
  obtain ⟨lo21_1, lp21_1, lq21_1⟩ := At.ownInv S21.at' ET_22.hk 1 rfl
  have F22 : Fr 14 [(12, .int .i64 (((k + 2 * a.store.length) + cntT a.touch : Nat) : Int)), (1, .int .i64 ((k + 2 * a.store.length : Nat) : Int))] a21 := F20.put [2] e21 rfl
  clear e21 F20 a19
  refine l_op (s_val rfl rfl (r_assign rfl (F22.ev 0 rfl)) fun a23 e23 => ?_)
  have F24 : Fr 14 [(1, .int .i64 (((k + 2 * a.store.length) + cntT a.touch : Nat) : Int))] a23 := F22.put [] e23 rfl
  clear e23 F22 a21
  refine s_end ?_
  refine x_normal ?_
  refine wp_seq ?_
  refine wp_region_lit ?_
  refine l_op (s_val rfl rfl (r_move rfl (F24.ev 0 rfl)) fun a25 e25 => ?_)
  have F26 : Fr 14 [(13, .int .i64 (((k + 2 * a.store.length) + cntT a.touch : Nat) : Int))] a25 := F24.put [] e25 rfl
  clear e25 F24 a23
  refine l_op (s_val rfl rfl (r_assign rfl (F26.ev 0 rfl)) fun a27 e27 => ?_)
  have F28 : Fr 14 [(4, .int .i64 (((k + 2 * a.store.length) + cntT a.touch : Nat) : Int))] a27 := F26.put [] e27 rfl
  clear e27 F26 a25
  refine s_end ?_
  refine x_normal ?_
  refine wp_ret ?_
  refine x_done (v := .int .i64 (((k + 2 * a.store.length) + cntT a.touch : Nat) : Int)) F28 (results_1 Try.results42 (.tmp (F28.ev 0 rfl))) ?_
  exact ⟨(by rw [(show (((k + 2 * a.store.length) + cntT a.touch : Nat) : Int) = ((k + cntM a : Nat) : Int) from by first | rfl | (unfold cntM; omega))]), (Mv.cast (Mv.pick (S1.trans (S11.trans S21)) [2, 0, 1] rfl) (by rw [(show (marksC k a.store.length) = (marksM k a).store from by first | rfl | (unfold cntM; omega)), (show (marksT (k + 2 * a.store.length) a.touch).reads = (marksM k a).touch.reads from by first | rfl | (unfold cntM; omega)), (show (marksT (k + 2 * a.store.length) a.touch).writes = (marksM k a).touch.writes from by first | rfl | (unfold cntM; omega))]; all_goals rfl))⟩
theorem laws_heldMach_c {w : World} {H : Nat → Prop} {a : MachD} {a_store_a : Option Addr} {a_store_n a_store_c : Nat} {a_touch_reads_a : Option Addr} {a_touch_reads_n a_touch_reads_c : Nat} {a_touch_writes_a : Option Addr} {a_touch_writes_n a_touch_writes_c : Nat} {k : Nat} {d : MachD} (v_a_store : Rd 2 encC okC H w (.slice a_store_a a_store_n a_store_c) a.store) (v_a_touch_reads : Rd 1 encS okS H w (.slice a_touch_reads_a a_touch_reads_n a_touch_reads_c) a.touch.reads) (v_a_touch_writes : Rd 1 encS okS H w (.slice a_touch_writes_a a_touch_writes_n a_touch_writes_c) a.touch.writes) (h_k : i64ok (k : Int)) (p0 : a = marksM k d) (p1 : k ≤ 549755813888) (p2 : d.store.length ≤ 137438953472) (p3 : d.touch.reads.length ≤ 1099511627776) (p4 : d.touch.writes.length ≤ 1099511627776) :
    Calls Try.prog 43 #[.agg #[.slice a_store_a a_store_n a_store_c, .slice a_touch_reads_a a_touch_reads_n a_touch_reads_c, .slice a_touch_writes_a a_touch_writes_n a_touch_writes_c], .int .i64 ((k : Nat) : Int)] w fun e w' => e = .returned (.int .i64 ((k + cntM d : Nat) : Int)) ∧ Mv [] w [] w' := by
  have V_v_a_store : Rd 2 encC okC (V H w []) w (.slice a_store_a a_store_n a_store_c) a.store := Rd.start v_a_store (fun _ _ => fps_nil _)
  obtain ⟨ln_a_store, le_a_store, mx_a_store, ni_a_store⟩ := Rd.inv v_a_store
  have V_v_a_touch_reads : Rd 1 encS okS (V H w []) w (.slice a_touch_reads_a a_touch_reads_n a_touch_reads_c) a.touch.reads := Rd.start v_a_touch_reads (fun _ _ => fps_nil _)
  obtain ⟨ln_a_touch_reads, le_a_touch_reads, mx_a_touch_reads, ni_a_touch_reads⟩ := Rd.inv v_a_touch_reads
  have V_v_a_touch_writes : Rd 1 encS okS (V H w []) w (.slice a_touch_writes_a a_touch_writes_n a_touch_writes_c) a.touch.writes := Rd.start v_a_touch_writes (fun _ _ => fps_nil _)
  obtain ⟨ln_a_touch_writes, le_a_touch_writes, mx_a_touch_writes, ni_a_touch_writes⟩ := Rd.inv v_a_touch_writes
  refine calls_enter 18 Try.func43 rfl Try.ntmps43 (Nat.le_of_ble_eq_true rfl) (fun a0 F0i => ?_)
  have F0 : Fr 18 [(0, .agg #[.slice a_store_a a_store_n a_store_c, .slice a_touch_reads_a a_touch_reads_n a_touch_reads_c, .slice a_touch_writes_a a_touch_writes_n a_touch_writes_c]), (1, .int .i64 ((k : Nat) : Int))] a0 := F0i
  clear F0i
  refine wp_seq ?_
  refine wp_region_lit ?_
  refine l_op (s_box (At.nil w) rfl rfl rfl (F0.ev 0 rfl) rfl fun b1 a1 w1 e1 S1i => ?_)
  have S1 : Mv [] w [bx b1 [.slice a_store_a a_store_n a_store_c, .slice a_touch_reads_a a_touch_reads_n a_touch_reads_c, .slice a_touch_writes_a a_touch_writes_n a_touch_writes_c] 48] w1 := S1i
  clear S1i
  have F2 : Fr 18 [(2, .pointer (some ⟨b1, 0, none⟩)), (1, .int .i64 ((k : Nat) : Int))] a1 := F0.put [1] e1 rfl
  clear e1 F0 a0
  refine l_op (s_val rfl rfl (r_assign rfl rfl) fun a3 e3 => ?_)
  have F4 : Fr 18 [(4, .int .i64 0), (2, .pointer (some ⟨b1, 0, none⟩)), (1, .int .i64 ((k : Nat) : Int))] a3 := F2.put [0, 1] e3 rfl
  clear e3 F2 a1
  refine s_end ?_
  refine x_normal ?_
  refine wp_seq ?_
  refine wp_region_lit ?_
  refine l_op (s_val rfl rfl (r_field FI_48_0 rfl (F4.ev 1 rfl) rfl) fun a5 e5 => ?_)
  have F6 : Fr 18 [(5, .pointer (some ⟨b1, 0, none⟩)), (2, .pointer (some ⟨b1, 0, none⟩)), (1, .int .i64 ((k : Nat) : Int))] a5 := F4.put [1, 2] e5 rfl
  clear e5 F4 a3
  refine l_op (s_val rfl rfl (r_loadB S1.at' 0 TI_46 rfl rfl (F6.ev 0 rfl) rfl rfl (fun _ => rfl) rfl) fun a7 e7 => ?_)
  have F8 : Fr 18 [(6, .slice a_store_a a_store_n a_store_c), (2, .pointer (some ⟨b1, 0, none⟩)), (1, .int .i64 ((k : Nat) : Int))] a7 := F6.put [1, 2] e7 rfl
  clear e7 F6 a5
  refine l_op (s_val rfl rfl (r_move rfl (F8.ev 2 rfl)) fun a9 e9 => ?_)
  have F10 : Fr 18 [(7, .int .i64 ((k : Nat) : Int)), (6, .slice a_store_a a_store_n a_store_c), (2, .pointer (some ⟨b1, 0, none⟩)), (1, .int .i64 ((k : Nat) : Int))] a9 := F8.put [0, 1, 2] e9 rfl
  clear e9 F8 a7
  refine l_op (c_call CF_97 rfl rfl rfl (lc (F10.ev 1 rfl) (lc (F10.ev 0 rfl) rfl)) (laws_heldCellS_c (H := V H w [bx b1 [.slice a_store_a a_store_n a_store_c, .slice a_touch_reads_a a_touch_reads_n a_touch_reads_c, .slice a_touch_writes_a a_touch_writes_n a_touch_writes_c] 48]) (n := d.store.length) (a := a.store) (k := k) (Rd.mv (Nat.succ_pos _) V_v_a_store S1) ⟨by omega, by first | omega | (unfold i64ok at *; omega)⟩ (show a.store = marksC k d.store.length from by rw [p0]; rfl) (show k + 2 * d.store.length ≤ 4611686018427387904 from by first | assumption | omega | (simp; done) | (simp; omega))) ?_)
  rintro _ w11 ⟨rfl, m11⟩
  refine ⟨_, rfl, fun a11 e11 => ?_⟩
  have S11 : Mv [bx b1 [.slice a_store_a a_store_n a_store_c, .slice a_touch_reads_a a_touch_reads_n a_touch_reads_c, .slice a_touch_writes_a a_touch_writes_n a_touch_writes_c] 48] w1 [bx b1 [.slice a_store_a a_store_n a_store_c, .slice a_touch_reads_a a_touch_reads_n a_touch_reads_c, .slice a_touch_writes_a a_touch_writes_n a_touch_writes_c] 48] w11 := At.frame S1.at' [] rfl m11
  clear m11
  have F12 : Fr 18 [(8, .int .i64 ((k + 2 * d.store.length : Nat) : Int)), (2, .pointer (some ⟨b1, 0, none⟩)), (1, .int .i64 ((k : Nat) : Int))] a11 := F10.put [2, 3] e11 rfl
  clear e11 F10 a9
  refine l_op (s_val rfl rfl (r_assign rfl (F12.ev 0 rfl)) fun a13 e13 => ?_)
  have F14 : Fr 18 [(1, .int .i64 ((k + 2 * d.store.length : Nat) : Int)), (2, .pointer (some ⟨b1, 0, none⟩))] a13 := F12.put [1] e13 rfl
  clear e13 F12 a11
  refine s_end ?_
  refine x_normal ?_
  refine wp_seq ?_
  refine wp_seq ?_
  refine wp_region_lit ?_
  refine l_op (s_val rfl rfl (r_move rfl (F14.ev 0 rfl)) fun a15 e15 => ?_)
  have F16 : Fr 18 [(9, .int .i64 ((k + 2 * d.store.length : Nat) : Int)), (1, .int .i64 ((k + 2 * d.store.length : Nat) : Int)), (2, .pointer (some ⟨b1, 0, none⟩))] a15 := F14.put [0, 1] e15 rfl
  clear e15 F14 a13
  refine l_op (s_val rfl rfl (r_cmp (b := false) (.inr (.inr (.inl rfl))) rfl (F16.ev 0 rfl) rfl (cmp_lt0 _ _ (by omega))) fun a17 e17 => ?_)
  have F18 : Fr 18 [(10, .bool false), (1, .int .i64 ((k + 2 * d.store.length : Nat) : Int)), (2, .pointer (some ⟨b1, 0, none⟩))] a17 := F16.put [1, 2] e17 rfl
  clear e17 F16 a15
  refine s_end ?_
  refine x_normal ?_
  refine wp_cond_false (F18.ev 0 rfl) ?_
  refine wp_skip ?_
  refine x_normal ?_
  refine wp_seq ?_
  refine wp_region_lit ?_
  refine l_op (s_val rfl rfl (r_field FI_48_1 rfl (F18.ev 2 rfl) rfl) fun a19 e19 => ?_)
  have F20 : Fr 18 [(11, .pointer (some ⟨b1, 1, none⟩)), (1, .int .i64 ((k + 2 * d.store.length : Nat) : Int))] a19 := F18.put [1] e19 rfl
  clear e19 F18 a17
  refine l_op (s_val rfl rfl (r_loadB S11.at' 0 TI_26 rfl rfl (F20.ev 0 rfl) rfl rfl (fun h => nomatch h) rfl) fun a21 e21 => ?_)
  have F22 : Fr 18 [(12, .agg #[.slice a_touch_reads_a a_touch_reads_n a_touch_reads_c, .slice a_touch_writes_a a_touch_writes_n a_touch_writes_c]), (1, .int .i64 ((k + 2 * d.store.length : Nat) : Int))] a21 := F20.put [1] e21 rfl
  clear e21 F20 a19
  refine l_op (s_val rfl rfl (r_move rfl (F22.ev 1 rfl)) fun a23 e23 => ?_)
  have F24 : Fr 18 [(13, .int .i64 ((k + 2 * d.store.length : Nat) : Int)), (12, .agg #[.slice a_touch_reads_a a_touch_reads_n a_touch_reads_c, .slice a_touch_writes_a a_touch_writes_n a_touch_writes_c]), (1, .int .i64 ((k + 2 * d.store.length : Nat) : Int))] a23 := F22.put [0, 1] e23 rfl
  clear e23 F22 a21
  refine l_op (c_call CF_18 rfl rfl rfl (lc (F24.ev 1 rfl) (lc (F24.ev 0 rfl) rfl)) (laws_heldTouch_c (H := V H w [bx b1 [.slice a_store_a a_store_n a_store_c, .slice a_touch_reads_a a_touch_reads_n a_touch_reads_c, .slice a_touch_writes_a a_touch_writes_n a_touch_writes_c] 48]) (d := d.touch) (a := a.touch) (k := k + 2 * d.store.length) (Rd.mv (Nat.succ_pos _) V_v_a_touch_reads (S1.trans S11)) (Rd.mv (Nat.succ_pos _) V_v_a_touch_writes (S1.trans S11)) ⟨by omega, by first | omega | (unfold i64ok at *; omega)⟩ (show a.touch = marksT (k + 2 * d.store.length) d.touch from by rw [p0]; rfl) (show (k + 2 * d.store.length) ≤ 1099511627776 from by first | assumption | omega | (simp; done) | (simp; omega)) (show d.touch.reads.length ≤ 1099511627776 from by first | assumption | omega | (simp; done) | (simp; omega)) (show d.touch.writes.length ≤ 1099511627776 from by first | assumption | omega | (simp; done) | (simp; omega))) ?_)
  rintro _ w25 ⟨rfl, m25⟩
  refine ⟨_, rfl, fun a25 e25 => ?_⟩
  have S25 : Mv [bx b1 [.slice a_store_a a_store_n a_store_c, .slice a_touch_reads_a a_touch_reads_n a_touch_reads_c, .slice a_touch_writes_a a_touch_writes_n a_touch_writes_c] 48] w11 [bx b1 [.slice a_store_a a_store_n a_store_c, .slice a_touch_reads_a a_touch_reads_n a_touch_reads_c, .slice a_touch_writes_a a_touch_writes_n a_touch_writes_c] 48] w25 := At.frame S11.at' [] rfl m25
  clear m25
  have F26 : Fr 18 [(14, .int .i64 (((k + 2 * d.store.length) + cntT d.touch : Nat) : Int)), (1, .int .i64 ((k + 2 * d.store.length : Nat) : Int))] a25 := F24.put [2] e25 rfl
  clear e25 F24 a23
  refine l_op (s_val rfl rfl (r_assign rfl (F26.ev 0 rfl)) fun a27 e27 => ?_)
  have F28 : Fr 18 [(1, .int .i64 (((k + 2 * d.store.length) + cntT d.touch : Nat) : Int))] a27 := F26.put [] e27 rfl
  clear e27 F26 a25
  refine s_end ?_
  refine x_normal ?_
  refine wp_seq ?_
  refine wp_seq ?_
  refine wp_region_lit ?_
  refine l_op (s_val rfl rfl (r_move rfl (F28.ev 0 rfl)) fun a29 e29 => ?_)
  have F30 : Fr 18 [(15, .int .i64 (((k + 2 * d.store.length) + cntT d.touch : Nat) : Int)), (1, .int .i64 (((k + 2 * d.store.length) + cntT d.touch : Nat) : Int))] a29 := F28.put [0] e29 rfl
  clear e29 F28 a27
  refine l_op (s_val rfl rfl (r_cmp (b := false) (.inr (.inr (.inl rfl))) rfl (F30.ev 0 rfl) rfl (cmp_lt0 _ _ (by omega))) fun a31 e31 => ?_)
  have F32 : Fr 18 [(16, .bool false), (1, .int .i64 (((k + 2 * d.store.length) + cntT d.touch : Nat) : Int))] a31 := F30.put [1] e31 rfl
  clear e31 F30 a29
  refine s_end ?_
  refine x_normal ?_
  refine wp_cond_false (F32.ev 0 rfl) ?_
  refine wp_skip ?_
  refine x_normal ?_
  refine wp_seq ?_
  refine wp_region_lit ?_
  refine l_op (s_val rfl rfl (r_move rfl (F32.ev 1 rfl)) fun a33 e33 => ?_)
  have F34 : Fr 18 [(17, .int .i64 (((k + 2 * d.store.length) + cntT d.touch : Nat) : Int))] a33 := F32.put [] e33 rfl
  clear e33 F32 a31
  refine l_op (s_val rfl rfl (r_assign rfl (F34.ev 0 rfl)) fun a35 e35 => ?_)
  have F36 : Fr 18 [(4, .int .i64 (((k + 2 * d.store.length) + cntT d.touch : Nat) : Int))] a35 := F34.put [] e35 rfl
  clear e35 F34 a33
  refine s_end ?_
  refine x_normal ?_
  refine wp_ret ?_
  refine x_done (v := .int .i64 (((k + 2 * d.store.length) + cntT d.touch : Nat) : Int)) F36 (results_1 Try.results43 (.tmp (F36.ev 0 rfl))) ?_
  exact ⟨(by rw [(show (((k + 2 * d.store.length) + cntT d.touch : Nat) : Int) = ((k + cntM d : Nat) : Int) from by unfold cntM; omega)]), (Mv.pick (S1.trans (S11.trans S25)) [] rfl)⟩
end Go.Proofs.Ytbbkihijhdpliaa
