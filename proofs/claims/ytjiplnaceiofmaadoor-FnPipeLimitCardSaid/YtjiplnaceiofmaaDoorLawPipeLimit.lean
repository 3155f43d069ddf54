/-
  PROVED HERE: whatever the input, the statement laws.FnPipeLimit returns true. Condition: the tables and errors of the library that the row lists stand as the program's text lays them (the card ties that).
-/
import Derived.Test.YtjiplnaceiofmaaDoorGenDp
import Derived.Test.YtjiplnaceiofmaaDoorGenSc
import Derived.Test.YtjiplnaceiofmaaDoorLaw2
import Derived.Test.YtjiplnaceiofmaaDoorLaw3
namespace Go.Proofs.YtjiplnaceiofmaaDoor
open Go.ChangeShapes Go.WideShapes Go.ChangeAt Go.RowKit
set_option maxRecDepth 100000
set_option maxHeartbeats 1000000
theorem laws_sameCells_c {w : World} {H : Nat → Prop} {a : List CellD} {a_a : Option Addr} {a_n a_c : Nat} {b : List CellD} {b_a : Option Addr} {b_n b_c : Nat} (v_a : Rd 2 encC okC H w (.slice a_a a_n a_c) a) (v_b : Rd 2 encC okC H w (.slice b_a b_n b_c) b) :
    Calls Tryd.prog 28 #[.slice a_a a_n a_c, .slice b_a b_n b_c] w fun e w' => e = .returned (.bool (decide (a = b))) ∧ Mv [] w [] w' := by
 have V_v_a : Rd 2 encC okC (V H w []) w (.slice a_a a_n a_c) a := Rd.start v_a (fun _ _ => fps_nil _)
 obtain ⟨ln_a, le_a, mx_a, ni_a⟩ := Rd.inv v_a
 have V_v_b : Rd 2 encC okC (V H w []) w (.slice b_a b_n b_c) b := Rd.start v_b (fun _ _ => fps_nil _)
 obtain ⟨ln_b, le_b, mx_b, ni_b⟩ := Rd.inv v_b
 refine calls_enter 26 Tryd.func28 rfl Tryd.ntmps28 (Nat.le_of_ble_eq_true rfl) (fun _ F0i => ?_)
 have F0 : Fr 26 [(0, .slice a_a a_n a_c), (1, .slice b_a b_n b_c)] _ := F0i
 clear F0i
 refine wp_seq (wp_region_lit (l_op (f_val F0 rfl rfl (r_assign rfl rfl) rfl fun _ F1 => ?_)))
 have F2 : Fr 26 [(4, .bool false), (0, .slice a_a a_n a_c), (1, .slice b_a b_n b_c)] _ := F1.cut rfl
 clear F0 F1
 refine s_end (x_normal (wp_seq (wp_seq (wp_region_lit (l_op (f_mv F2 rfl rfl rfl rfl rfl fun _ F3 => ?_))))))
 refine l_op (f_val F3 rfl rfl (r_len Tryd.underlying26 rfl (F3.ev 6 rfl)) rfl fun _ F4 => ?_)
 refine l_op (f_mv F4 rfl rfl rfl rfl rfl fun _ F5 => ?_)
 refine l_op (f_val F5 rfl rfl (r_len Tryd.underlying26 rfl (F5.ev 8 rfl)) rfl fun _ F6 => ?_)
 refine l_op (f_val F6 rfl rfl (r_cmp (b := decide (a_n ≠ b_n)) (.inr (.inl rfl)) rfl (F6.ev 7 rfl) (F6.ev 9 rfl) (dec_of (by omega))) rfl fun _ F7 => ?_)
 have F8 : Fr 26 [(10, .bool (decide (a_n ≠ b_n))), (0, .slice a_a a_n a_c), (1, .slice b_a b_n b_c)] _ := F7.cut rfl
 clear F2 F3 F4 F5 F6 F7
 refine s_end (x_normal (x_cond (p := a_n ≠ b_n) (F8.ev 10 rfl) (fun h9 => ?_) (fun h9 => ?_)))
 · skip
   refine wp_seq (wp_region_lit (l_op (f_val F8 rfl rfl (r_assign rfl rfl) rfl fun _ F10 => ?_)))
   have F11 : Fr 26 [(4, .bool false)] _ := F10.cut rfl
   clear F8 F10
   refine s_end (x_normal (wp_ret (x_then_ret ?_)))
   refine x_done (v := .bool false) F11 (results_1 Tryd.results28 (.tmp (F11.ev 4 rfl))) ?_
   exact ⟨(by rw [(show false = (decide (a = b)) from by first | exact (eqL_len ln_a ln_b (by assumption)).symm | exact (eqL_at hx1 hx2 (by assumption)).symm | exact (eqL_end hk_1 (by omega) (by omega)).symm)]), (Mv.pick (Mv.refl (At.nil w)) [] rfl)⟩
 · skip
   refine wp_skip (x_normal (wp_seq (wp_seq (wp_region_lit (l_op (f_val F8 rfl rfl (r_assign rfl rfl) rfl fun _ F12 => ?_))))))
   have F13 : Fr 26 [(5, .int .i64 0), (0, .slice a_a a_n a_c), (1, .slice b_a b_n b_c)] _ := F12.cut rfl
   clear F8 F12
   refine s_end (x_normal (wp_block ?_))
   refine x_loop (fun (k : Nat) aZ wZ => Fr 26 [(5, .int .i64 ((k : Nat) : Int)), (0, .slice a_a a_n a_c), (1, .slice b_a b_n b_c)] aZ ∧ Mv [] w [] wZ ∧ (k ≤ a_n) ∧ (a.take k = b.take k)) (fun (k : Nat) => a_n - k) (0) ?_ ?_
   · exact ⟨F13.cut rfl, (Mv.refl (At.nil w)), by omega, rfl⟩
   · rintro k a14 w14 ⟨F14, S14, hk_0, hk_1⟩
     refine wp_seq (wp_seq (wp_region_lit (l_op (f_mv F14 rfl rfl rfl rfl rfl fun _ F15 => ?_))))
     refine l_op (f_mv F15 rfl rfl rfl rfl rfl fun _ F16 => ?_)
     refine l_op (f_val F16 rfl rfl (r_len Tryd.underlying26 rfl (F16.ev 12 rfl)) rfl fun _ F17 => ?_)
     refine l_op (f_val F17 rfl rfl (r_cmp (b := decide (k < a_n)) (.inr (.inr (.inl rfl))) rfl (F17.ev 11 rfl) (F17.ev 13 rfl) (dec_of (by omega))) rfl fun _ F18 => ?_)
     have F19 : Fr 26 [(14, .bool (decide (k < a_n))), (5, .int .i64 ((k : Nat) : Int)), (0, .slice a_a a_n a_c), (1, .slice b_a b_n b_c)] _ := F18.cut rfl
     clear F14 F15 F16 F17 F18
     refine s_end (x_normal (x_cond (p := k < a_n) (F19.ev 14 rfl) (fun h20 => ?_) (fun h20 => ?_)))
     · skip
       refine wp_skip (x_normal (wp_seq (wp_block (wp_seq ?_))))
       obtain ⟨x1, hx1, okx1⟩ := Rd.elem (Rd.mv (Nat.succ_pos _) V_v_a S14) k (by first | assumption | omega)
       obtain ⟨x2, hx2, okx2⟩ := Rd.elem (Rd.mv (Nat.succ_pos _) V_v_b S14) k (by first | assumption | omega)
       refine x_draw (fun aZ wZ => Fr 26 [(0, .slice a_a a_n a_c), (1, .slice b_a b_n b_c), (5, .int .i64 ((k : Nat) : Int)), (25, .bool (decide (x1 ≠ x2)))] aZ ∧ Mv [] w14 [] wZ) [] mixed S14.at' (listed := #[false, false, false, false, false, false, false, false, false]) rfl (fun w22 S22 => ?_) [] rfl ?_
       · skip
         refine g_take F19 rfl (i := 0) (listed' := #[true, false, false, false, false, false, false, false, false]) rfl (by kernel_rfl) (by kernel_rfl) (by kernel_rfl) (fun _ _ _ h => h) (Sd.of (Mv.refl S22.at') [] rfl) rfl rfl rfl rfl (fun _ hz => (r_move rfl (F19.ev 0 rfl))) fun _ F23 => ?_
         refine g_take F23 rfl (i := 1) (listed' := #[true, true, false, false, false, false, false, false, false]) rfl (by kernel_rfl) (by kernel_rfl) (by kernel_rfl) (fun _ _ _ h => h) (Sd.of (Mv.refl S22.at') [] rfl) rfl rfl rfl rfl (fun _ hz => (r_move rfl (F23.ev 5 rfl))) fun _ F24 => ?_
         obtain ⟨B25, O25, y25, ad25, hy25, oky25, ln25, cl25⟩ := Rd.atK (Nat.succ_pos _) (Rd.mv (Nat.succ_pos _) V_v_a (S14.trans S22)) k (by first | assumption | omega)
         clear ln25
         obtain rfl := Option.some.inj (hx1.symm.trans hy25)
         clear hy25 oky25
         refine g_take F24 rfl (i := 2) (listed' := #[true, true, true, false, false, false, false, false, false]) rfl (by kernel_rfl) (by kernel_rfl) (by kernel_rfl) (fun _ _ _ h => h) (Sd.of (Mv.refl S22.at') [] rfl) rfl rfl rfl rfl (fun _ hz => (r_indexAddr (i := k) ET_26 rfl ((F24.ev 17 rfl).trans (by rw [ad25])) (F24.ev 18 rfl) (by omega) (by first | assumption | omega))) fun _ F26 => ?_
         refine g_take (v := .agg #[.string x1.key, .string x1.val]) F26 rfl (i := 3) (listed' := #[true, true, true, true, false, false, false, false, false]) rfl (by kernel_rfl) (by kernel_rfl) (by kernel_rfl) (fun _ _ _ h => h) (Sd.of (Mv.refl S22.at') [] rfl) rfl rfl rfl rfl (fun _ hz => (r_load (cs := [.string x1.key, .string x1.val]) TI_81 rfl (F26.ev 19 rfl) rfl (fun h => nomatch h) (elem_sub (f := 0) (cl25 _ hz.kp) [.string x1.key, .string x1.val] rfl))) fun _ F27 => ?_
         refine g_take F27 rfl (i := 4) (listed' := #[true, true, true, true, true, false, false, false, false]) rfl (by kernel_rfl) (by kernel_rfl) (by kernel_rfl) (fun _ _ _ h => h) (Sd.of (Mv.refl S22.at') [] rfl) rfl rfl rfl rfl (fun _ hz => (r_move rfl (F27.ev 1 rfl))) fun _ F28 => ?_
         refine g_take F28 rfl (i := 5) (listed' := #[true, true, true, true, true, true, false, false, false]) rfl (by kernel_rfl) (by kernel_rfl) (by kernel_rfl) (fun _ _ _ h => h) (Sd.of (Mv.refl S22.at') [] rfl) rfl rfl rfl rfl (fun _ hz => (r_move rfl (F28.ev 5 rfl))) fun _ F29 => ?_
         obtain ⟨B30, O30, y30, ad30, hy30, oky30, ln30, cl30⟩ := Rd.atK (Nat.succ_pos _) (Rd.mv (Nat.succ_pos _) V_v_b (S14.trans S22)) k (by first | assumption | omega)
         clear ln30
         obtain rfl := Option.some.inj (hx2.symm.trans hy30)
         clear hy30 oky30
         refine g_take F29 rfl (i := 6) (listed' := #[true, true, true, true, true, true, true, false, false]) rfl (by kernel_rfl) (by kernel_rfl) (by kernel_rfl) (fun _ _ _ h => h) (Sd.of (Mv.refl S22.at') [] rfl) rfl rfl rfl rfl (fun _ hz => (r_indexAddr (i := k) ET_26 rfl ((F29.ev 21 rfl).trans (by rw [ad30])) (F29.ev 22 rfl) (by omega) (by first | assumption | omega))) fun _ F31 => ?_
         refine g_take (v := .agg #[.string x2.key, .string x2.val]) F31 rfl (i := 7) (listed' := #[true, true, true, true, true, true, true, true, false]) rfl (by kernel_rfl) (by kernel_rfl) (by kernel_rfl) (fun _ _ _ h => h) (Sd.of (Mv.refl S22.at') [] rfl) rfl rfl rfl rfl (fun _ hz => (r_load (cs := [.string x2.key, .string x2.val]) TI_81 rfl (F31.ev 23 rfl) rfl (fun h => nomatch h) (elem_sub (f := 0) (cl30 _ hz.kp) [.string x2.key, .string x2.val] rfl))) fun _ F32 => ?_
         refine g_take F32 rfl (i := 8) (listed' := #[true, true, true, true, true, true, true, true, true]) rfl (by kernel_rfl) (by kernel_rfl) (by kernel_rfl) (fun _ _ _ h => h) (Sd.of (Mv.refl S22.at') [] rfl) rfl rfl rfl rfl (fun _ hz => (r_neqC rfl (F32.ev 20 rfl) (F32.ev 24 rfl))) fun _ F33 => ?_
         refine wpAnyH_done (by kernel_rfl) (x_normal ?_) _
         exact ⟨F33.cut rfl, (S22.pick [] rfl)⟩
       · rintro a34 w34 ⟨F34, S34⟩
         refine x_normal (x_cond (p := x1 ≠ x2) (F34.ev 25 rfl) (fun h35 => ?_) (fun h35 => ?_))
         · skip
           refine wp_seq (wp_region_lit (l_op (f_val F34 rfl rfl (r_assign rfl rfl) rfl fun _ F36 => ?_)))
           have F37 : Fr 26 [(4, .bool false)] _ := F36.cut rfl
           clear F34 F36
           refine s_end (x_normal (wp_ret (x_block_ret (x_then_ret (x_then_ret (x_block_ret (x_then_ret ?_)))))))
           refine x_done (v := .bool false) F37 (results_1 Tryd.results28 (.tmp (F37.ev 4 rfl))) ?_
           exact ⟨(by rw [(show false = (decide (a = b)) from by first | exact (eqL_len ln_a ln_b (by assumption)).symm | exact (eqL_at hx1 hx2 (by assumption)).symm | exact (eqL_end hk_1 (by omega) (by omega)).symm)]), (Mv.pick (S14.trans S34) [] rfl)⟩
         · skip
           refine wp_skip (x_block_normal (x_normal (wp_region_lit (l_op (f_mv F34 rfl rfl rfl rfl rfl fun _ F38 => ?_)))))
           refine l_op (f_val F38 rfl rfl (r_add (z := ((k + 1 : Nat) : Int)) rfl (F38.ev 15 rfl) rfl (by first | rfl | omega) ⟨by first | omega | (unfold i64ok at *; omega), by first | omega | (unfold i64ok at *; omega)⟩) rfl fun _ F39 => ?_)
           refine l_op (f_as F39 rfl rfl rfl rfl rfl fun _ F40 => ?_)
           have F41 : Fr 26 [(5, .int .i64 ((k + 1 : Nat) : Int)), (0, .slice a_a a_n a_c), (1, .slice b_a b_n b_c)] _ := F40.cut rfl
           clear F34 F38 F39 F40
           refine s_end ?_
           refine x_normal ⟨k + 1, by omega, F41.cut rfl, ((S14.trans S34).pick [] rfl), by omega, eqL_step hk_1 hx1 hx2 (by assumption)⟩
     · skip
       refine wp_exit (x_then_exit (x_then_exit (x_block_here (x_normal (wp_seq (wp_region_lit (l_op (f_val F19 rfl rfl (r_assign rfl rfl) rfl fun _ F42 => ?_))))))))
       have F43 : Fr 26 [(4, .bool true)] _ := F42.cut rfl
       clear F19 F42
       refine s_end (x_normal (wp_ret ?_))
       refine x_done (v := .bool true) F43 (results_1 Tryd.results28 (.tmp (F43.ev 4 rfl))) ?_
       exact ⟨(by rw [(show true = (decide (a = b)) from by first | exact (eqL_len ln_a ln_b (by assumption)).symm | exact (eqL_at hx1 hx2 (by assumption)).symm | exact (eqL_end hk_1 (by omega) (by omega)).symm)]), (Mv.pick S14 [] rfl)⟩
theorem laws_FnPipeLimit_c {w : World} {H : Nat → Prop} {code : List Nat} {code_a : Option Addr} {code_n code_c : Nat} (v_code : RdA 1 encB okB H w (.slice code_a code_n code_c) code) (tab0 : Tb 0 H w) (tab1 : Tb 1 H w) :
    Calls Tryd.prog 9 #[.slice code_a code_n code_c] w fun e w' => e = .returned (.bool true) ∧ Mv [] w [] w' := by
 have V_v_code : RdA 1 encB okB (V H w []) w (.slice code_a code_n code_c) code := RdA.start v_code (fun _ _ => fps_nil _)
 obtain ⟨ln_code, le_code, mx_code, ni_code⟩ := RdA.inv v_code
 have V_tab0 : Tb 0 (V H w []) w := Tb.start tab0 (fun _ _ => fps_nil _)
 have V_tab1 : Tb 1 (V H w []) w := Tb.start tab1 (fun _ _ => fps_nil _)
 refine calls_enter 74 Tryd.func9 rfl Tryd.ntmps9 (Nat.le_of_ble_eq_true rfl) (fun _ F0i => ?_)
 have F0 : Fr 74 [(0, .slice code_a code_n code_c)] _ := F0i
 clear F0i
 refine wp_seq (wp_region_lit (l_op (f_val F0 rfl rfl (r_assign rfl rfl) rfl fun _ F1 => ?_)))
 have F2 : Fr 74 [(2, .bool false), (0, .slice code_a code_n code_c)] _ := F1.cut rfl
 clear F0 F1
 refine s_end (x_normal (wp_seq (wp_seq (wp_region_lit (l_op (f_mv F2 rfl rfl rfl rfl rfl fun _ F3 => ?_))))))
 refine l_op (f_call F3 CF_15 rfl rfl rfl rfl (lc (F3.ev 14 rfl) rfl) (laws_big_c (code := code) V_v_code) ?_)
 rintro _ w4 ⟨rfl, m4⟩
 refine ⟨_, rfl, fun _ F5 => ?_⟩
 have S4 := At.frame0 (At.nil w) m4
 clear m4
 have F6 : Fr 74 [(15, .bool (decide (code.length > 1048576))), (0, .slice code_a code_n code_c)] _ := F5.cut rfl
 clear F2 F3 F5
 have T7 : Mv _ _ [] _ := S4
 refine s_end (x_normal (x_cond (p := code.length > 1048576) (F6.ev 15 rfl) (fun h8 => ?_) (fun h8 => ?_)))
 · skip
   refine wp_seq (wp_region_lit (l_op (f_val F6 rfl rfl (r_assign rfl rfl) rfl fun _ F9 => ?_)))
   have F10 : Fr 74 [(2, .bool true)] _ := F9.cut rfl
   clear F6 F9
   refine s_end (x_normal (wp_ret (x_then_ret ?_)))
   refine x_done (v := .bool true) F10 (results_1 Tryd.results9 (.tmp (F10.ev 2 rfl))) ?_
   exact ⟨rfl, (Mv.pick T7 [] rfl)⟩
 · skip
   refine wp_skip (x_normal (wp_seq (wp_region_lit (l_op (f_mv F6 rfl rfl rfl rfl rfl fun _ F11 => ?_)))))
   refine l_op (f_call F11 CF_16 rfl rfl rfl rfl (lc (F11.ev 16 rfl) rfl) (spec_DrawPlaces_c (code := code) (RdA.mv (Nat.succ_pos _) V_v_code T7) (by first | assumption | omega | (simp <;> omega))) ?_)
   rintro _ w12 ⟨p_12, r0_a_12, r0_n_12, r0_c_12, rfl, m12, v12_0, q12_0, q12_1⟩
   refine ⟨_, rfl, fun _ F13 => ?_⟩
   have S12 := At.frame0 T7.at' m12
   have V12_0 := Rd.got0 T7.at' (T7.kp.size) v12_0 S12
   obtain ⟨ln12_0, le12_0, mx12_0, ni12_0⟩ := Rd.inv V12_0
   clear m12 v12_0
   refine l_op (f_as F13 rfl rfl rfl rfl rfl fun _ F14 => ?_)
   have F15 : Fr 74 [(3, .slice r0_a_12 r0_n_12 r0_c_12)] _ := F14.cut rfl
   clear F6 F11 F13 F14
   have T16 : Mv _ _ [] _ := S12
   refine s_end (x_normal (wp_seq (wp_region_lit (l_op (f_call F15 CF_17 rfl rfl rfl rfl rfl (laws_base_c (H := V H w [])  ) ?_)))))
   rintro _ w17 ⟨r0_store_a_17, r0_store_n_17, r0_store_c_17, r0_touch_reads_a_17, r0_touch_reads_n_17, r0_touch_reads_c_17, r0_touch_writes_a_17, r0_touch_writes_n_17, r0_touch_writes_c_17, rfl, m17, v17_0, v17_1, v17_2⟩
   refine ⟨_, rfl, fun _ F18 => ?_⟩
   have S17 := At.frame0 T16.at' m17
   have V17_0 := Rd.got0 T16.at' ((T7.trans T16).kp.size) v17_0 S17
   obtain ⟨ln17_0, le17_0, mx17_0, ni17_0⟩ := Rd.inv V17_0
   have V17_1 := Rd.got0 T16.at' ((T7.trans T16).kp.size) v17_1 S17
   obtain ⟨ln17_1, le17_1, mx17_1, ni17_1⟩ := Rd.inv V17_1
   have V17_2 := Rd.got0 T16.at' ((T7.trans T16).kp.size) v17_2 S17
   obtain ⟨ln17_2, le17_2, mx17_2, ni17_2⟩ := Rd.inv V17_2
   clear m17 v17_0 v17_1 v17_2
   refine l_op (f_alloc F18 S17.at' ZI_31 rfl rfl rfl rfl rfl fun b19 _ w19 F20 S19 => ?_)
   refine l_op (s_store S19.at' 0 TI_31 rfl rfl rfl rfl rfl (F20.ev 4 rfl) (F20.ev 18 rfl) rfl rfl rfl rfl rfl fun w21 S21 => ?_)
   have F22 : Fr 74 [(4, .pointer (some ⟨b19, 0, none⟩)), (18, .agg #[.slice r0_store_a_17 r0_store_n_17 r0_store_c_17, .slice r0_touch_reads_a_17 r0_touch_reads_n_17 r0_touch_reads_c_17, .slice r0_touch_writes_a_17 r0_touch_writes_n_17 r0_touch_writes_c_17]), (3, .slice r0_a_12 r0_n_12 r0_c_12)] _ := F20.cut rfl
   clear F15 F18 F20
   have T23 : Mv _ _ [bx b19 [.slice r0_store_a_17 r0_store_n_17 r0_store_c_17, .slice r0_touch_reads_a_17 r0_touch_reads_n_17 r0_touch_reads_c_17, .slice r0_touch_writes_a_17 r0_touch_writes_n_17 r0_touch_writes_c_17] 31] _ := S21
   refine s_end (x_normal (wp_seq (wp_seq (wp_region_lit (l_op (f_val F22 rfl rfl (r_assign rfl rfl) rfl fun _ F24 => ?_))))))
   have F25 : Fr 74 [(5, .int .i64 1), (4, .pointer (some ⟨b19, 0, none⟩)), (3, .slice r0_a_12 r0_n_12 r0_c_12)] _ := F24.cut rfl
   clear F22 F24
   refine s_end (x_normal (wp_block ?_))
   refine x_loop (fun (k : Nat) aZ wZ => ∃ (M : MachD), ∃ (sa : Option Addr), ∃ (sn : Nat), ∃ (sc : Nat), ∃ (ra : Option Addr), ∃ (rn : Nat), ∃ (rc : Nat), ∃ (ua : Option Addr), ∃ (un : Nat), ∃ (uc : Nat), Fr 74 [(5, .int .i64 ((k + 1 : Nat) : Int)), (4, .pointer (some ⟨b19, 0, none⟩)), (3, .slice r0_a_12 r0_n_12 r0_c_12)] aZ ∧ Mv [bx b19 [.slice r0_store_a_17 r0_store_n_17 r0_store_c_17, .slice r0_touch_reads_a_17 r0_touch_reads_n_17 r0_touch_reads_c_17, .slice r0_touch_writes_a_17 r0_touch_writes_n_17 r0_touch_writes_c_17] 31] w21 [bx b19 [.slice sa sn sc, .slice ra rn rc, .slice ua un uc] 31] wZ ∧ Rd 2 encC okC (V H w [bx b19 [.slice sa sn sc, .slice ra rn rc, .slice ua un uc] 31]) wZ (.slice sa sn sc) M.store ∧ Rd 1 encS okS (V H w [bx b19 [.slice sa sn sc, .slice ra rn rc, .slice ua un uc] 31]) wZ (.slice ra rn rc) M.touch.reads ∧ Rd 1 encS okS (V H w [bx b19 [.slice sa sn sc, .slice ra rn rc, .slice ua un uc] 31]) wZ (.slice ua un uc) M.touch.writes ∧ (pipes k M) ∧ (k ≤ 8)) (fun (k : Nat) => 8 - k) (0) ?_ ?_
   · exact ⟨(⟨[], (⟨[], []⟩ : TouchD)⟩ : MachD), r0_store_a_17, r0_store_n_17, r0_store_c_17, r0_touch_reads_a_17, r0_touch_reads_n_17, r0_touch_reads_c_17, r0_touch_writes_a_17, r0_touch_writes_n_17, r0_touch_writes_c_17, F25.cut rfl, (Mv.refl T23.at'), (Rd.mv (Nat.succ_pos _) V17_0 (S19.trans T23)), (Rd.mv (Nat.succ_pos _) V17_1 (S19.trans T23)), (Rd.mv (Nat.succ_pos _) V17_2 (S19.trans T23)), pipes_base, by omega⟩
   · rintro k a26 w26 ⟨M, sa, sn, sc, ra, rn, rc, ua, un, uc, F26, S26, W26_0, W26_1, W26_2, hk_0, hk_1⟩
     obtain ⟨lv26_0, lw26_0, lx26_0, ly26_0⟩ := Rd.inv W26_0
     obtain ⟨lv26_1, lw26_1, lx26_1, ly26_1⟩ := Rd.inv W26_1
     obtain ⟨lv26_2, lw26_2, lx26_2, ly26_2⟩ := Rd.inv W26_2
     have hbM := hk_0.2.2.2
     refine wp_seq (wp_seq (wp_region_lit (l_op (f_mv F26 rfl rfl rfl rfl rfl fun _ F27 => ?_))))
     refine l_op (f_val F27 rfl rfl (r_cmp (b := decide (k + 1 ≤ 8)) (.inr (.inr (.inr (.inl rfl)))) rfl (F27.ev 19 rfl) rfl (dec_of (by omega))) rfl fun _ F28 => ?_)
     have F29 : Fr 74 [(20, .bool (decide (k + 1 ≤ 8))), (5, .int .i64 ((k + 1 : Nat) : Int)), (4, .pointer (some ⟨b19, 0, none⟩)), (3, .slice r0_a_12 r0_n_12 r0_c_12)] _ := F28.cut rfl
     clear F26 F27 F28
     refine s_end (x_normal (x_cond (p := k + 1 ≤ 8) (F29.ev 20 rfl) (fun h30 => ?_) (fun h30 => ?_)))
     · skip
       refine wp_skip (x_normal (wp_seq (wp_block (wp_seq (wp_region_lit (l_op (f_val F29 rfl rfl (r_assign rfl rfl) rfl fun _ F31 => ?_)))))))
       have F32 : Fr 74 [(6, .int .i64 0), (5, .int .i64 ((k + 1 : Nat) : Int)), (4, .pointer (some ⟨b19, 0, none⟩)), (3, .slice r0_a_12 r0_n_12 r0_c_12)] _ := F31.cut rfl
       clear F29 F31
       refine s_end (x_normal (wp_seq (wp_region_lit (l_op (f_val (v := .agg #[.slice sa sn sc, .slice ra rn rc, .slice ua un uc]) F32 rfl rfl (r_loadB S26.at' 0 TI_31 rfl rfl (F32.ev 4 rfl) rfl rfl (fun h => nomatch h) rfl) rfl fun _ F33 => ?_)))))
       refine l_op (f_call F33 CF_31 rfl rfl rfl rfl (lc (F33.ev 24 rfl) rfl) (impl_MakePipe_c (m := M) W26_0 W26_1 W26_2 (Tb.mv V_tab0 (T7.trans (T16.trans (S17.trans (S19.trans (T23.trans S26)))))) (Tb.mv V_tab1 (T7.trans (T16.trans (S17.trans (S19.trans (T23.trans S26)))))) (by first | assumption | omega | (refine bdC.s ?_; (repeat (first | with_reducible refine bdC.look ?_ | with_reducible refine bdC.lay ?_ | with_reducible refine bdC.set ?_ | with_reducible refine bdC.mp ?_ | with_reducible refine bdC.pp ?_)); exact bdC.le (by assumption) (by first | decide | omega)) | (refine bdC.r ?_; (repeat (first | with_reducible refine bdC.look ?_ | with_reducible refine bdC.lay ?_ | with_reducible refine bdC.set ?_ | with_reducible refine bdC.mp ?_ | with_reducible refine bdC.pp ?_)); exact bdC.le (by assumption) (by first | decide | omega)) | (refine bdC.w ?_; (repeat (first | with_reducible refine bdC.look ?_ | with_reducible refine bdC.lay ?_ | with_reducible refine bdC.set ?_ | with_reducible refine bdC.mp ?_ | with_reducible refine bdC.pp ?_)); exact bdC.le (by assumption) (by first | decide | omega)) | ((repeat (first | with_reducible refine bdC.look ?_ | with_reducible refine bdC.lay ?_ | with_reducible refine bdC.set ?_ | with_reducible refine bdC.mp ?_ | with_reducible refine bdC.pp ?_)); exact bdC.le (by assumption) (by first | decide | omega)) | decide | exact Nat.le_trans (keyNum_size _ _ (by assumption)) (by decide) | exact Nat.le_trans (keyNum_size _ _ ⟨by omega, by omega⟩) (by decide))) ?_)
       rintro _ w34 ⟨r0_store_a_34, r0_store_n_34, r0_store_c_34, r0_touch_reads_a_34, r0_touch_reads_n_34, r0_touch_reads_c_34, r0_touch_writes_a_34, r0_touch_writes_n_34, r0_touch_writes_c_34, rfl, m34⟩
       refine ⟨_, rfl, fun _ F35 => ?_⟩
       have S34 : Mv _ _ [ow 81 2 encC okC (.slice r0_store_a_34 r0_store_n_34 r0_store_c_34) (mpM M).store, ow 9 1 encS okS (.slice r0_touch_reads_a_34 r0_touch_reads_n_34 r0_touch_reads_c_34) (mpM M).touch.reads, ow 9 1 encS okS (.slice r0_touch_writes_a_34 r0_touch_writes_n_34 r0_touch_writes_c_34) (mpM M).touch.writes, bx b19 [.slice sa sn sc, .slice ra rn rc, .slice ua un uc] 31] _ := At.frame S26.at' [] rfl m34
       obtain ⟨lo34_0, lp34_0, lq34_0⟩ := At.ownInv S34.at' ET_26.hk 0 rfl
       obtain ⟨lo34_1, lp34_1, lq34_1⟩ := At.ownInv S34.at' ET_27.hk 1 rfl
       obtain ⟨lo34_2, lp34_2, lq34_2⟩ := At.ownInv S34.at' ET_27.hk 2 rfl
       clear m34
       refine l_op (f_mv F35 rfl rfl rfl rfl rfl fun _ F36 => ?_)
       refine l_op (f_val (v := .agg #[.slice r0_store_a_34 r0_store_n_34 r0_store_c_34, .slice r0_touch_reads_a_34 r0_touch_reads_n_34 r0_touch_reads_c_34, .slice r0_touch_writes_a_34 r0_touch_writes_n_34 r0_touch_writes_c_34]) F36 rfl rfl (r_extract rfl (F36.ev 23 rfl) rfl) rfl fun _ F37 => ?_)
       refine l_op (f_val (v := .int .i64 ((mpI M : Nat) : Int)) F37 rfl rfl (r_extract rfl (F37.ev 23 rfl) rfl) rfl fun _ F38 => ?_)
       refine l_op (f_val (v := .int .i64 (mpC M)) F38 rfl rfl (r_extract rfl (F38.ev 23 rfl) rfl) rfl fun _ F39 => ?_)
       refine l_op (s_store S34.at' 3 TI_31 rfl rfl rfl rfl rfl (F39.ev 4 rfl) (F39.ev 26 rfl) rfl rfl rfl rfl rfl fun w40 S40 => ?_)
       refine l_op (f_as F39 rfl rfl rfl rfl rfl fun _ F41 => ?_)
       have F42 : Fr 74 [(6, .int .i64 ((mpI M : Nat) : Int)), (5, .int .i64 ((k + 1 : Nat) : Int)), (4, .pointer (some ⟨b19, 0, none⟩)), (3, .slice r0_a_12 r0_n_12 r0_c_12)] _ := F41.cut rfl
       clear F32 F33 F35 F36 F37 F38 F39 F41
       have T43 : Mv _ _ [bx b19 [.slice r0_store_a_34 r0_store_n_34 r0_store_c_34, .slice r0_touch_reads_a_34 r0_touch_reads_n_34 r0_touch_reads_c_34, .slice r0_touch_writes_a_34 r0_touch_writes_n_34 r0_touch_writes_c_34] 31, ow 81 2 encC okC (.slice r0_store_a_34 r0_store_n_34 r0_store_c_34) (mpM M).store, ow 9 1 encS okS (.slice r0_touch_reads_a_34 r0_touch_reads_n_34 r0_touch_reads_c_34) (mpM M).touch.reads, ow 9 1 encS okS (.slice r0_touch_writes_a_34 r0_touch_writes_n_34 r0_touch_writes_c_34) (mpM M).touch.writes] _ := S40
       refine s_end (x_normal (wp_seq (wp_region_lit (l_op (f_mv F42 rfl rfl rfl rfl rfl fun _ F44 => ?_)))))
       refine l_op (f_mv F44 rfl rfl rfl rfl rfl fun _ F45 => ?_)
       refine l_op (f_val F45 rfl rfl (r_cmp (b := decide (mpI M ≠ k + 1)) (.inr (.inl rfl)) rfl (F45.ev 29 rfl) (F45.ev 30 rfl) (dec_of (by omega))) rfl fun _ F46 => ?_)
       rw [show (decide (mpI M ≠ k + 1)) = false from decide_eq_false (fun h => h (pipes.step hk_0 (by omega)).1)] at F46
       have F47 : Fr 74 [(31, .bool false), (5, .int .i64 ((k + 1 : Nat) : Int)), (4, .pointer (some ⟨b19, 0, none⟩)), (3, .slice r0_a_12 r0_n_12 r0_c_12)] _ := F46.cut rfl
       clear F42 F44 F45 F46
       refine s_end (x_normal (wp_cond_false (F47.ev 31 rfl) (wp_skip (x_block_normal (x_normal (wp_region_lit (l_op (f_mv F47 rfl rfl rfl rfl rfl fun _ F48 => ?_))))))))
       refine l_op (f_val F48 rfl rfl (r_add (z := (((k + 1) + 1 : Nat) : Int)) rfl (F48.ev 21 rfl) rfl (by first | rfl | omega) ⟨by first | omega | (unfold i64ok at *; omega), by first | omega | (unfold i64ok at *; omega)⟩) rfl fun _ F49 => ?_)
       refine l_op (f_as F49 rfl rfl rfl rfl rfl fun _ F50 => ?_)
       have F51 : Fr 74 [(5, .int .i64 (((k + 1) + 1 : Nat) : Int)), (4, .pointer (some ⟨b19, 0, none⟩)), (3, .slice r0_a_12 r0_n_12 r0_c_12)] _ := F50.cut rfl
       clear F47 F48 F49 F50
       refine s_end ?_
       have Z52 : Rd 2 encC okC (V H w [bx b19 [.slice r0_store_a_34 r0_store_n_34 r0_store_c_34, .slice r0_touch_reads_a_34 r0_touch_reads_n_34 r0_touch_reads_c_34, .slice r0_touch_writes_a_34 r0_touch_writes_n_34 r0_touch_writes_c_34] 31, ow 9 1 encS okS (.slice r0_touch_reads_a_34 r0_touch_reads_n_34 r0_touch_reads_c_34) (mpM M).touch.reads, ow 9 1 encS okS (.slice r0_touch_writes_a_34 r0_touch_writes_n_34 r0_touch_writes_c_34) (mpM M).touch.writes]) w40 (.slice r0_store_a_34 r0_store_n_34 r0_store_c_34) (mpM M).store := At.freeze (T7.trans (T16.trans (S17.trans (S19.trans (T23.trans (S26.trans (S34.trans T43))))))) ET_26.hk 1 rfl (fun b hb => ((T7.trans (T16.trans (S17.trans (S19.trans (T23.trans (S26.trans (S34.trans T43))))))).fresh b ⟨_, nth_mem (i := 1) rfl, hb⟩).resolve_left (fps_nil _))
       have S52 := At.drop T43.at' 1
       have Z53 : Rd 1 encS okS (V H w [bx b19 [.slice r0_store_a_34 r0_store_n_34 r0_store_c_34, .slice r0_touch_reads_a_34 r0_touch_reads_n_34 r0_touch_reads_c_34, .slice r0_touch_writes_a_34 r0_touch_writes_n_34 r0_touch_writes_c_34] 31, ow 9 1 encS okS (.slice r0_touch_writes_a_34 r0_touch_writes_n_34 r0_touch_writes_c_34) (mpM M).touch.writes]) w40 (.slice r0_touch_reads_a_34 r0_touch_reads_n_34 r0_touch_reads_c_34) (mpM M).touch.reads := At.freeze (T7.trans (T16.trans (S17.trans (S19.trans (T23.trans (S26.trans (S34.trans (T43.trans S52)))))))) ET_27.hk 1 rfl (fun b hb => ((T7.trans (T16.trans (S17.trans (S19.trans (T23.trans (S26.trans (S34.trans (T43.trans S52)))))))).fresh b ⟨_, nth_mem (i := 1) rfl, hb⟩).resolve_left (fps_nil _))
       have S53 := At.drop S52.at' 1
       have Z54 : Rd 1 encS okS (V H w [bx b19 [.slice r0_store_a_34 r0_store_n_34 r0_store_c_34, .slice r0_touch_reads_a_34 r0_touch_reads_n_34 r0_touch_reads_c_34, .slice r0_touch_writes_a_34 r0_touch_writes_n_34 r0_touch_writes_c_34] 31]) w40 (.slice r0_touch_writes_a_34 r0_touch_writes_n_34 r0_touch_writes_c_34) (mpM M).touch.writes := At.freeze (T7.trans (T16.trans (S17.trans (S19.trans (T23.trans (S26.trans (S34.trans (T43.trans (S52.trans S53))))))))) ET_27.hk 1 rfl (fun b hb => ((T7.trans (T16.trans (S17.trans (S19.trans (T23.trans (S26.trans (S34.trans (T43.trans (S52.trans S53))))))))).fresh b ⟨_, nth_mem (i := 1) rfl, hb⟩).resolve_left (fps_nil _))
       have S54 := At.drop S53.at' 1
       refine x_normal ⟨k + 1, by omega, (mpM M), r0_store_a_34, r0_store_n_34, r0_store_c_34, r0_touch_reads_a_34, r0_touch_reads_n_34, r0_touch_reads_c_34, r0_touch_writes_a_34, r0_touch_writes_n_34, r0_touch_writes_c_34, F51.cut rfl, ((S26.trans (S34.trans (T43.trans (S52.trans (S53.trans S54))))).pick [0] rfl), (Rd.mv (Nat.succ_pos _) Z52 (S53.trans S54)), (Rd.mv (Nat.succ_pos _) Z53 S54), Z54, (pipes.step hk_0 (by omega)).2, by omega⟩
     · skip
       refine wp_exit (x_then_exit (x_then_exit (x_block_here (x_normal (wp_seq ?_)))))
       have hP : pipes 8 M := (show k = 8 by omega) ▸ hk_0
       refine wp_region_lit (l_op (f_val (v := .agg #[.slice sa sn sc, .slice ra rn rc, .slice ua un uc]) F29 rfl rfl (r_loadB S26.at' 0 TI_31 rfl rfl (F29.ev 4 rfl) rfl rfl (fun h => nomatch h) rfl) rfl fun _ F55 => ?_))
       refine l_op (f_call F55 CF_31 rfl rfl rfl rfl (lc (F55.ev 33 rfl) rfl) (impl_MakePipe_c (m := M) W26_0 W26_1 W26_2 (Tb.mv V_tab0 (T7.trans (T16.trans (S17.trans (S19.trans (T23.trans S26)))))) (Tb.mv V_tab1 (T7.trans (T16.trans (S17.trans (S19.trans (T23.trans S26)))))) (by first | assumption | omega | (refine bdC.s ?_; (repeat (first | with_reducible refine bdC.look ?_ | with_reducible refine bdC.lay ?_ | with_reducible refine bdC.set ?_ | with_reducible refine bdC.mp ?_ | with_reducible refine bdC.pp ?_)); exact bdC.le (by assumption) (by first | decide | omega)) | (refine bdC.r ?_; (repeat (first | with_reducible refine bdC.look ?_ | with_reducible refine bdC.lay ?_ | with_reducible refine bdC.set ?_ | with_reducible refine bdC.mp ?_ | with_reducible refine bdC.pp ?_)); exact bdC.le (by assumption) (by first | decide | omega)) | (refine bdC.w ?_; (repeat (first | with_reducible refine bdC.look ?_ | with_reducible refine bdC.lay ?_ | with_reducible refine bdC.set ?_ | with_reducible refine bdC.mp ?_ | with_reducible refine bdC.pp ?_)); exact bdC.le (by assumption) (by first | decide | omega)) | ((repeat (first | with_reducible refine bdC.look ?_ | with_reducible refine bdC.lay ?_ | with_reducible refine bdC.set ?_ | with_reducible refine bdC.mp ?_ | with_reducible refine bdC.pp ?_)); exact bdC.le (by assumption) (by first | decide | omega)) | decide | exact Nat.le_trans (keyNum_size _ _ (by assumption)) (by decide) | exact Nat.le_trans (keyNum_size _ _ ⟨by omega, by omega⟩) (by decide))) ?_)
       rintro _ w56 ⟨r0_store_a_56, r0_store_n_56, r0_store_c_56, r0_touch_reads_a_56, r0_touch_reads_n_56, r0_touch_reads_c_56, r0_touch_writes_a_56, r0_touch_writes_n_56, r0_touch_writes_c_56, rfl, m56⟩
       refine ⟨_, rfl, fun _ F57 => ?_⟩
       have S56 : Mv _ _ [ow 81 2 encC okC (.slice r0_store_a_56 r0_store_n_56 r0_store_c_56) (mpM M).store, ow 9 1 encS okS (.slice r0_touch_reads_a_56 r0_touch_reads_n_56 r0_touch_reads_c_56) (mpM M).touch.reads, ow 9 1 encS okS (.slice r0_touch_writes_a_56 r0_touch_writes_n_56 r0_touch_writes_c_56) (mpM M).touch.writes, bx b19 [.slice sa sn sc, .slice ra rn rc, .slice ua un uc] 31] _ := At.frame S26.at' [] rfl m56
       obtain ⟨lo56_0, lp56_0, lq56_0⟩ := At.ownInv S56.at' ET_26.hk 0 rfl
       obtain ⟨lo56_1, lp56_1, lq56_1⟩ := At.ownInv S56.at' ET_27.hk 1 rfl
       obtain ⟨lo56_2, lp56_2, lq56_2⟩ := At.ownInv S56.at' ET_27.hk 2 rfl
       clear m56
       refine l_op (f_mv F57 rfl rfl rfl rfl rfl fun _ F58 => ?_)
       refine l_op (f_val (v := .agg #[.slice r0_store_a_56 r0_store_n_56 r0_store_c_56, .slice r0_touch_reads_a_56 r0_touch_reads_n_56 r0_touch_reads_c_56, .slice r0_touch_writes_a_56 r0_touch_writes_n_56 r0_touch_writes_c_56]) F58 rfl rfl (r_extract rfl (F58.ev 32 rfl) rfl) rfl fun _ F59 => ?_)
       refine l_op (f_val (v := .int .i64 ((mpI M : Nat) : Int)) F59 rfl rfl (r_extract rfl (F59.ev 32 rfl) rfl) rfl fun _ F60 => ?_)
       refine l_op (f_val (v := .int .i64 (mpC M)) F60 rfl rfl (r_extract rfl (F60.ev 32 rfl) rfl) rfl fun _ F61 => ?_)
       refine l_op (f_alloc F61 S56.at' ZI_31 rfl rfl rfl rfl rfl fun b62 _ w62 F63 S62 => ?_)
       refine l_op (s_store S62.at' 0 TI_31 rfl rfl rfl rfl rfl (F63.ev 7 rfl) (F63.ev 35 rfl) rfl rfl rfl rfl rfl fun w64 S64 => ?_)
       refine l_op (f_as F63 rfl rfl rfl rfl rfl fun _ F65 => ?_)
       refine l_op (f_as F65 rfl rfl rfl rfl rfl fun _ F66 => ?_)
       have F67 : Fr 74 [(9, .int .i64 (mpC M)), (8, .int .i64 ((mpI M : Nat) : Int)), (7, .pointer (some ⟨b62, 0, none⟩)), (4, .pointer (some ⟨b19, 0, none⟩)), (3, .slice r0_a_12 r0_n_12 r0_c_12)] _ := F66.cut rfl
       clear F29 F55 F57 F58 F59 F60 F61 F63 F65 F66
       have T68 : Mv _ _ [bx b62 [.slice r0_store_a_56 r0_store_n_56 r0_store_c_56, .slice r0_touch_reads_a_56 r0_touch_reads_n_56 r0_touch_reads_c_56, .slice r0_touch_writes_a_56 r0_touch_writes_n_56 r0_touch_writes_c_56] 31, ow 81 2 encC okC (.slice r0_store_a_56 r0_store_n_56 r0_store_c_56) (mpM M).store, ow 9 1 encS okS (.slice r0_touch_reads_a_56 r0_touch_reads_n_56 r0_touch_reads_c_56) (mpM M).touch.reads, ow 9 1 encS okS (.slice r0_touch_writes_a_56 r0_touch_writes_n_56 r0_touch_writes_c_56) (mpM M).touch.writes, bx b19 [.slice sa sn sc, .slice ra rn rc, .slice ua un uc] 31] _ := S64
       refine s_end (x_normal (wp_seq ?_))
       obtain ⟨x1, hx1, okx1⟩ := Rd.elem (Rd.mv (Nat.succ_pos _) V12_0 (S17.trans (S19.trans (T23.trans (S26.trans (S56.trans (S62.trans T68))))))) 0 (by first | assumption | omega)
       have pb70 := pOk_at (by assumption) hx1
       obtain ⟨r70, hr70, lr70⟩ := rem_nat (c := 8) pb70 (by decide)
       refine x_draw (fun aZ wZ => ∃ (r0_store_a_79 : Option Addr), ∃ (r0_store_n_79 : Nat), ∃ (r0_store_c_79 : Nat), ∃ (r0_touch_reads_a_79 : Option Addr), ∃ (r0_touch_reads_n_79 : Nat), ∃ (r0_touch_reads_c_79 : Nat), ∃ (r0_touch_writes_a_79 : Option Addr), ∃ (r0_touch_writes_n_79 : Nat), ∃ (r0_touch_writes_c_79 : Nat), ∃ (b84 : Nat), Fr 74 [(4, .pointer (some ⟨b19, 0, none⟩)), (7, .pointer (some ⟨b62, 0, none⟩)), (8, .int .i64 ((mpI M : Nat) : Int)), (9, .int .i64 (mpC M)), (11, .int .i64 (ppC M ((1 + r70 : Nat) : Int) (⟨#[49, 50, 51, 52, 53, 54, 55, 56, 57, 48, 49, 50, 51, 52, 53, 54, 55, 56, 57, 48, 49]⟩ : ByteArray)))] aZ ∧ Mv [bx b62 [.slice r0_store_a_56 r0_store_n_56 r0_store_c_56, .slice r0_touch_reads_a_56 r0_touch_reads_n_56 r0_touch_reads_c_56, .slice r0_touch_writes_a_56 r0_touch_writes_n_56 r0_touch_writes_c_56] 31, ow 81 2 encC okC (.slice r0_store_a_56 r0_store_n_56 r0_store_c_56) (mpM M).store, ow 9 1 encS okS (.slice r0_touch_reads_a_56 r0_touch_reads_n_56 r0_touch_reads_c_56) (mpM M).touch.reads, ow 9 1 encS okS (.slice r0_touch_writes_a_56 r0_touch_writes_n_56 r0_touch_writes_c_56) (mpM M).touch.writes, bx b19 [.slice sa sn sc, .slice ra rn rc, .slice ua un uc] 31] w64 [bx b62 [.slice r0_store_a_56 r0_store_n_56 r0_store_c_56, .slice r0_touch_reads_a_56 r0_touch_reads_n_56 r0_touch_reads_c_56, .slice r0_touch_writes_a_56 r0_touch_writes_n_56 r0_touch_writes_c_56] 31, ow 81 2 encC okC (.slice r0_store_a_56 r0_store_n_56 r0_store_c_56) (mpM M).store, ow 9 1 encS okS (.slice r0_touch_reads_a_56 r0_touch_reads_n_56 r0_touch_reads_c_56) (mpM M).touch.reads, ow 9 1 encS okS (.slice r0_touch_writes_a_56 r0_touch_writes_n_56 r0_touch_writes_c_56) (mpM M).touch.writes, bx b19 [.slice sa sn sc, .slice ra rn rc, .slice ua un uc] 31, ow 81 2 encC okC (.slice r0_store_a_79 r0_store_n_79 r0_store_c_79) (ppM M ((1 + r70 : Nat) : Int) (⟨#[49, 50, 51, 52, 53, 54, 55, 56, 57, 48, 49, 50, 51, 52, 53, 54, 55, 56, 57, 48, 49]⟩ : ByteArray)).store, ow 9 1 encS okS (.slice r0_touch_reads_a_79 r0_touch_reads_n_79 r0_touch_reads_c_79) (ppM M ((1 + r70 : Nat) : Int) (⟨#[49, 50, 51, 52, 53, 54, 55, 56, 57, 48, 49, 50, 51, 52, 53, 54, 55, 56, 57, 48, 49]⟩ : ByteArray)).touch.reads, ow 9 1 encS okS (.slice r0_touch_writes_a_79 r0_touch_writes_n_79 r0_touch_writes_c_79) (ppM M ((1 + r70 : Nat) : Int) (⟨#[49, 50, 51, 52, 53, 54, 55, 56, 57, 48, 49, 50, 51, 52, 53, 54, 55, 56, 57, 48, 49]⟩ : ByteArray)).touch.writes, bx b84 [.slice r0_store_a_79 r0_store_n_79 r0_store_c_79, .slice r0_touch_reads_a_79 r0_touch_reads_n_79 r0_touch_reads_c_79, .slice r0_touch_writes_a_79 r0_touch_writes_n_79 r0_touch_writes_c_79] 31] wZ) [bx b19 [.slice sa sn sc, .slice ra rn rc, .slice ua un uc] 31] mixed T68.at' (listed := #[false, false, false, false, false, false, false, false, false, false, false, false, false]) rfl (fun w71 S71 => ?_) [4] rfl ?_
       · skip
         refine g_take (v := .agg #[.slice sa sn sc, .slice ra rn rc, .slice ua un uc]) F67 rfl (i := 0) (listed' := #[true, false, false, false, false, false, false, false, false, false, false, false, false]) rfl (by kernel_rfl) (by kernel_rfl) (by kernel_rfl) (fun _ _ _ h => h) (Sd.of (Mv.refl S71.at') [4] rfl) rfl rfl rfl rfl (fun _ hz => (r_loadX (hz.bx 0 rfl) TI_31 rfl (F67.ev 4 rfl) rfl rfl (fun h => nomatch h) rfl)) fun _ F72 => ?_
         refine g_take F72 rfl (i := 1) (listed' := #[true, true, false, false, false, false, false, false, false, false, false, false, false]) rfl (by kernel_rfl) (by kernel_rfl) (by kernel_rfl) (fun _ _ _ h => h) (Sd.of (Mv.refl S71.at') [4] rfl) rfl rfl rfl rfl (fun _ hz => (r_move rfl (F72.ev 3 rfl))) fun _ F73 => ?_
         obtain ⟨B74, O74, y74, ad74, hy74, oky74, ln74, cl74⟩ := Rd.atK (Nat.succ_pos _) (Rd.mv (Nat.succ_pos _) V12_0 (S17.trans (S19.trans (T23.trans (S26.trans (S56.trans (S62.trans (T68.trans S71)))))))) 0 (by first | assumption | omega)
         clear ln74
         obtain rfl := Option.some.inj (hx1.symm.trans hy74)
         clear hy74 oky74
         refine g_take F73 rfl (i := 2) (listed' := #[true, true, true, false, false, false, false, false, false, false, false, false, false]) rfl (by kernel_rfl) (by kernel_rfl) (by kernel_rfl) (fun _ _ _ h => h) (Sd.of (Mv.refl S71.at') [4] rfl) rfl rfl rfl rfl (fun _ hz => (r_indexAddr (i := 0) ET_24 rfl ((F73.ev 40 rfl).trans (by rw [ad74])) rfl (by omega) (by first | assumption | omega))) fun _ F75 => ?_
         refine g_take (v := .int .i64 x1) F75 rfl (i := 3) (listed' := #[true, true, true, true, false, false, false, false, false, false, false, false, false]) rfl (by kernel_rfl) (by kernel_rfl) (by kernel_rfl) (fun _ _ _ h => h) (Sd.of (Mv.refl S71.at') [4] rfl) rfl rfl rfl rfl (fun _ hz => (r_load (cs := [.int .i64 x1]) TI_3 rfl (F75.ev 41 rfl) rfl (fun _ => rfl) (elem_sub (f := 0) (cl74 _ hz.kp) [.int .i64 x1] rfl))) fun _ F76 => ?_
         refine g_take F76 rfl (i := 4) (listed' := #[true, true, true, true, true, false, false, false, false, false, false, false, false]) rfl (by kernel_rfl) (by kernel_rfl) (by kernel_rfl) (fun _ _ _ h => h) (Sd.of (Mv.refl S71.at') [4] rfl) rfl rfl rfl rfl (fun _ hz => ((r_remI (c := 8) rfl (by decide) rfl (F76.ev 42 rfl) rfl).trans (by rw [hr70]))) fun _ F77 => ?_
         refine g_take F77 rfl (i := 5) (listed' := #[true, true, true, true, true, true, false, false, false, false, false, false, false]) rfl (by kernel_rfl) (by kernel_rfl) (by kernel_rfl) (fun _ _ _ h => h) (Sd.of (Mv.refl S71.at') [4] rfl) rfl rfl rfl rfl (fun _ hz => (r_add (z := ((1 + r70 : Nat) : Int)) rfl rfl (F77.ev 43 rfl) (by first | rfl | omega) ⟨by first | omega | (unfold i64ok at *; omega), by first | omega | (unfold i64ok at *; omega)⟩)) fun _ F78 => ?_
         refine d_all (rs := [6, 10]) rfl (by kernel_rfl) (by simp) (d_cons (i := 6) (listed' := #[true, true, true, true, true, true, true, false, false, false, false, false, false]) rfl rfl ?_ (d_cons (i := 10) (listed' := #[true, true, true, true, true, true, false, false, false, false, true, false, false]) rfl rfl ?_ d_nil))
         · skip
           refine f_call F78 CF_32 rfl rfl rfl rfl (lc (F78.ev 39 rfl) (lc (F78.ev 44 rfl) (lc rfl rfl))) (impl_PutPipe_c (m := M) (id := ((1 + r70 : Nat) : Int)) (text := (⟨#[49, 50, 51, 52, 53, 54, 55, 56, 57, 48, 49, 50, 51, 52, 53, 54, 55, 56, 57, 48, 49]⟩ : ByteArray)) (Rd.mv (Nat.succ_pos _) W26_0 (S56.trans (S62.trans (T68.trans S71)))) (Rd.mv (Nat.succ_pos _) W26_1 (S56.trans (S62.trans (T68.trans S71)))) (Rd.mv (Nat.succ_pos _) W26_2 (S56.trans (S62.trans (T68.trans S71)))) (by first | assumption | exact ⟨by omega, by omega⟩ | (unfold i64ok at *; omega)) (by unfold okS; decide) (Tb.mv V_tab0 (T7.trans (T16.trans (S17.trans (S19.trans (T23.trans (S26.trans (S56.trans (S62.trans (T68.trans S71)))))))))) (Tb.mv V_tab1 (T7.trans (T16.trans (S17.trans (S19.trans (T23.trans (S26.trans (S56.trans (S62.trans (T68.trans S71)))))))))) (by first | assumption | omega | (refine bdC.s ?_; (repeat (first | with_reducible refine bdC.look ?_ | with_reducible refine bdC.lay ?_ | with_reducible refine bdC.set ?_ | with_reducible refine bdC.mp ?_ | with_reducible refine bdC.pp ?_)); exact bdC.le (by assumption) (by first | decide | omega)) | (refine bdC.r ?_; (repeat (first | with_reducible refine bdC.look ?_ | with_reducible refine bdC.lay ?_ | with_reducible refine bdC.set ?_ | with_reducible refine bdC.mp ?_ | with_reducible refine bdC.pp ?_)); exact bdC.le (by assumption) (by first | decide | omega)) | (refine bdC.w ?_; (repeat (first | with_reducible refine bdC.look ?_ | with_reducible refine bdC.lay ?_ | with_reducible refine bdC.set ?_ | with_reducible refine bdC.mp ?_ | with_reducible refine bdC.pp ?_)); exact bdC.le (by assumption) (by first | decide | omega)) | ((repeat (first | with_reducible refine bdC.look ?_ | with_reducible refine bdC.lay ?_ | with_reducible refine bdC.set ?_ | with_reducible refine bdC.mp ?_ | with_reducible refine bdC.pp ?_)); exact bdC.le (by assumption) (by first | decide | omega)) | decide | exact Nat.le_trans (keyNum_size _ _ (by assumption)) (by decide) | exact Nat.le_trans (keyNum_size _ _ ⟨by omega, by omega⟩) (by decide))) ?_
           rintro _ w79 ⟨r0_store_a_79, r0_store_n_79, r0_store_c_79, r0_touch_reads_a_79, r0_touch_reads_n_79, r0_touch_reads_c_79, r0_touch_writes_a_79, r0_touch_writes_n_79, r0_touch_writes_c_79, rfl, m79⟩
           refine ⟨_, rfl, fun _ F80 => ?_⟩
           have S79 : Mv _ _ [ow 81 2 encC okC (.slice r0_store_a_79 r0_store_n_79 r0_store_c_79) (ppM M ((1 + r70 : Nat) : Int) (⟨#[49, 50, 51, 52, 53, 54, 55, 56, 57, 48, 49, 50, 51, 52, 53, 54, 55, 56, 57, 48, 49]⟩ : ByteArray)).store, ow 9 1 encS okS (.slice r0_touch_reads_a_79 r0_touch_reads_n_79 r0_touch_reads_c_79) (ppM M ((1 + r70 : Nat) : Int) (⟨#[49, 50, 51, 52, 53, 54, 55, 56, 57, 48, 49, 50, 51, 52, 53, 54, 55, 56, 57, 48, 49]⟩ : ByteArray)).touch.reads, ow 9 1 encS okS (.slice r0_touch_writes_a_79 r0_touch_writes_n_79 r0_touch_writes_c_79) (ppM M ((1 + r70 : Nat) : Int) (⟨#[49, 50, 51, 52, 53, 54, 55, 56, 57, 48, 49, 50, 51, 52, 53, 54, 55, 56, 57, 48, 49]⟩ : ByteArray)).touch.writes, bx b62 [.slice r0_store_a_56 r0_store_n_56 r0_store_c_56, .slice r0_touch_reads_a_56 r0_touch_reads_n_56 r0_touch_reads_c_56, .slice r0_touch_writes_a_56 r0_touch_writes_n_56 r0_touch_writes_c_56] 31, ow 81 2 encC okC (.slice r0_store_a_56 r0_store_n_56 r0_store_c_56) (mpM M).store, ow 9 1 encS okS (.slice r0_touch_reads_a_56 r0_touch_reads_n_56 r0_touch_reads_c_56) (mpM M).touch.reads, ow 9 1 encS okS (.slice r0_touch_writes_a_56 r0_touch_writes_n_56 r0_touch_writes_c_56) (mpM M).touch.writes, bx b19 [.slice sa sn sc, .slice ra rn rc, .slice ua un uc] 31] _ := At.frame S71.at' [] rfl m79
           obtain ⟨lo79_0, lp79_0, lq79_0⟩ := At.ownInv S79.at' ET_26.hk 0 rfl
           obtain ⟨lo79_1, lp79_1, lq79_1⟩ := At.ownInv S79.at' ET_27.hk 1 rfl
           obtain ⟨lo79_2, lp79_2, lq79_2⟩ := At.ownInv S79.at' ET_27.hk 2 rfl
           clear m79
           refine ⟨Sd.of S79 [7] rfl, ?_⟩
           refine g_take F80 rfl (i := 7) (listed' := #[true, true, true, true, true, true, true, true, false, false, false, false, false]) rfl (by kernel_rfl) (by kernel_rfl) (by kernel_rfl) (fun _ _ _ h => h) (Sd.of S79 [7] rfl) rfl rfl rfl rfl (fun _ hz => (r_move rfl (F80.ev 45 rfl))) fun _ F81 => ?_
           refine g_take (v := .agg #[.slice r0_store_a_79 r0_store_n_79 r0_store_c_79, .slice r0_touch_reads_a_79 r0_touch_reads_n_79 r0_touch_reads_c_79, .slice r0_touch_writes_a_79 r0_touch_writes_n_79 r0_touch_writes_c_79]) F81 rfl (i := 8) (listed' := #[true, true, true, true, true, true, true, true, true, false, false, false, false]) rfl (by kernel_rfl) (by kernel_rfl) (by kernel_rfl) (fun _ _ _ h => h) (Sd.of S79 [7] rfl) rfl rfl rfl rfl (fun _ hz => (r_extract rfl (F81.ev 38 rfl) rfl)) fun _ F82 => ?_
           refine g_take (v := .int .i64 (ppC M ((1 + r70 : Nat) : Int) (⟨#[49, 50, 51, 52, 53, 54, 55, 56, 57, 48, 49, 50, 51, 52, 53, 54, 55, 56, 57, 48, 49]⟩ : ByteArray))) F82 rfl (i := 9) (listed' := #[true, true, true, true, true, true, true, true, true, true, false, false, false]) rfl (by kernel_rfl) (by kernel_rfl) (by kernel_rfl) (fun _ _ _ h => h) (Sd.of S79 [7] rfl) rfl rfl rfl rfl (fun _ hz => (r_extract rfl (F82.ev 38 rfl) rfl)) fun _ F83 => ?_
           refine d_one (i := 10) (listed' := #[true, true, true, true, true, true, true, true, true, true, true, false, false]) rfl (by kernel_rfl) rfl rfl ?_
           refine f_alloc F83 S79.at' ZI_31 rfl rfl rfl rfl rfl fun b84 _ w84 F85 S84 => ?_
           refine ⟨Sd.of (S79.trans S84) [8] rfl, ?_⟩
           refine d_one (i := 11) (listed' := #[true, true, true, true, true, true, true, true, true, true, true, true, false]) rfl (by kernel_rfl) rfl rfl ?_
           refine s_store S84.at' 0 TI_31 rfl rfl rfl rfl rfl (F85.ev 10 rfl) (F85.ev 46 rfl) rfl rfl rfl rfl rfl fun w86 S86 => ?_
           refine ⟨Sd.of (S79.trans (S84.trans S86)) [8] rfl, ?_⟩
           refine g_take F85 rfl (i := 12) (listed' := #[true, true, true, true, true, true, true, true, true, true, true, true, true]) rfl (by kernel_rfl) (by kernel_rfl) (by kernel_rfl) (fun _ _ _ h => h) (Sd.of (S79.trans (S84.trans S86)) [8] rfl) rfl rfl rfl rfl (fun _ hz => (r_assign rfl (F85.ev 47 rfl))) fun _ F87 => ?_
           refine wpAnyH_done (by kernel_rfl) (x_normal ?_) _
           exact ⟨r0_store_a_79, r0_store_n_79, r0_store_c_79, r0_touch_reads_a_79, r0_touch_reads_n_79, r0_touch_reads_c_79, r0_touch_writes_a_79, r0_touch_writes_n_79, r0_touch_writes_c_79, b84, F87.cut rfl, ((S71.trans (S79.trans (S84.trans S86))).pick [4, 5, 6, 7, 8, 1, 2, 3, 0] rfl)⟩
         · skip
           refine f_alloc F78 S71.at' ZI_31 rfl rfl rfl rfl rfl fun b88 _ w88 F89 S88 => ?_
           refine ⟨Sd.of S88 [5] rfl, ?_⟩
           refine d_one (i := 6) (listed' := #[true, true, true, true, true, true, true, false, false, false, true, false, false]) rfl (by kernel_rfl) rfl rfl ?_
           refine f_call F89 CF_32 rfl rfl rfl rfl (lc (F89.ev 39 rfl) (lc (F89.ev 44 rfl) (lc rfl rfl))) (impl_PutPipe_c (m := M) (id := ((1 + r70 : Nat) : Int)) (text := (⟨#[49, 50, 51, 52, 53, 54, 55, 56, 57, 48, 49, 50, 51, 52, 53, 54, 55, 56, 57, 48, 49]⟩ : ByteArray)) (Rd.mv (Nat.succ_pos _) W26_0 (S56.trans (S62.trans (T68.trans (S71.trans S88))))) (Rd.mv (Nat.succ_pos _) W26_1 (S56.trans (S62.trans (T68.trans (S71.trans S88))))) (Rd.mv (Nat.succ_pos _) W26_2 (S56.trans (S62.trans (T68.trans (S71.trans S88))))) (by first | assumption | exact ⟨by omega, by omega⟩ | (unfold i64ok at *; omega)) (by unfold okS; decide) (Tb.mv V_tab0 (T7.trans (T16.trans (S17.trans (S19.trans (T23.trans (S26.trans (S56.trans (S62.trans (T68.trans (S71.trans S88))))))))))) (Tb.mv V_tab1 (T7.trans (T16.trans (S17.trans (S19.trans (T23.trans (S26.trans (S56.trans (S62.trans (T68.trans (S71.trans S88))))))))))) (by first | assumption | omega | (refine bdC.s ?_; (repeat (first | with_reducible refine bdC.look ?_ | with_reducible refine bdC.lay ?_ | with_reducible refine bdC.set ?_ | with_reducible refine bdC.mp ?_ | with_reducible refine bdC.pp ?_)); exact bdC.le (by assumption) (by first | decide | omega)) | (refine bdC.r ?_; (repeat (first | with_reducible refine bdC.look ?_ | with_reducible refine bdC.lay ?_ | with_reducible refine bdC.set ?_ | with_reducible refine bdC.mp ?_ | with_reducible refine bdC.pp ?_)); exact bdC.le (by assumption) (by first | decide | omega)) | (refine bdC.w ?_; (repeat (first | with_reducible refine bdC.look ?_ | with_reducible refine bdC.lay ?_ | with_reducible refine bdC.set ?_ | with_reducible refine bdC.mp ?_ | with_reducible refine bdC.pp ?_)); exact bdC.le (by assumption) (by first | decide | omega)) | ((repeat (first | with_reducible refine bdC.look ?_ | with_reducible refine bdC.lay ?_ | with_reducible refine bdC.set ?_ | with_reducible refine bdC.mp ?_ | with_reducible refine bdC.pp ?_)); exact bdC.le (by assumption) (by first | decide | omega)) | decide | exact Nat.le_trans (keyNum_size _ _ (by assumption)) (by decide) | exact Nat.le_trans (keyNum_size _ _ ⟨by omega, by omega⟩) (by decide))) ?_
           rintro _ w90 ⟨r0_store_a_90, r0_store_n_90, r0_store_c_90, r0_touch_reads_a_90, r0_touch_reads_n_90, r0_touch_reads_c_90, r0_touch_writes_a_90, r0_touch_writes_n_90, r0_touch_writes_c_90, rfl, m90⟩
           refine ⟨_, rfl, fun _ F91 => ?_⟩
           have S90 : Mv _ _ [ow 81 2 encC okC (.slice r0_store_a_90 r0_store_n_90 r0_store_c_90) (ppM M ((1 + r70 : Nat) : Int) (⟨#[49, 50, 51, 52, 53, 54, 55, 56, 57, 48, 49, 50, 51, 52, 53, 54, 55, 56, 57, 48, 49]⟩ : ByteArray)).store, ow 9 1 encS okS (.slice r0_touch_reads_a_90 r0_touch_reads_n_90 r0_touch_reads_c_90) (ppM M ((1 + r70 : Nat) : Int) (⟨#[49, 50, 51, 52, 53, 54, 55, 56, 57, 48, 49, 50, 51, 52, 53, 54, 55, 56, 57, 48, 49]⟩ : ByteArray)).touch.reads, ow 9 1 encS okS (.slice r0_touch_writes_a_90 r0_touch_writes_n_90 r0_touch_writes_c_90) (ppM M ((1 + r70 : Nat) : Int) (⟨#[49, 50, 51, 52, 53, 54, 55, 56, 57, 48, 49, 50, 51, 52, 53, 54, 55, 56, 57, 48, 49]⟩ : ByteArray)).touch.writes, bx b88 [.slice none 0 0, .slice none 0 0, .slice none 0 0] 31, bx b62 [.slice r0_store_a_56 r0_store_n_56 r0_store_c_56, .slice r0_touch_reads_a_56 r0_touch_reads_n_56 r0_touch_reads_c_56, .slice r0_touch_writes_a_56 r0_touch_writes_n_56 r0_touch_writes_c_56] 31, ow 81 2 encC okC (.slice r0_store_a_56 r0_store_n_56 r0_store_c_56) (mpM M).store, ow 9 1 encS okS (.slice r0_touch_reads_a_56 r0_touch_reads_n_56 r0_touch_reads_c_56) (mpM M).touch.reads, ow 9 1 encS okS (.slice r0_touch_writes_a_56 r0_touch_writes_n_56 r0_touch_writes_c_56) (mpM M).touch.writes, bx b19 [.slice sa sn sc, .slice ra rn rc, .slice ua un uc] 31] _ := At.frame S88.at' [] rfl m90
           obtain ⟨lo90_0, lp90_0, lq90_0⟩ := At.ownInv S90.at' ET_26.hk 0 rfl
           obtain ⟨lo90_1, lp90_1, lq90_1⟩ := At.ownInv S90.at' ET_27.hk 1 rfl
           obtain ⟨lo90_2, lp90_2, lq90_2⟩ := At.ownInv S90.at' ET_27.hk 2 rfl
           clear m90
           refine ⟨Sd.of (S88.trans S90) [8] rfl, ?_⟩
           refine g_take F91 rfl (i := 7) (listed' := #[true, true, true, true, true, true, true, true, false, false, true, false, false]) rfl (by kernel_rfl) (by kernel_rfl) (by kernel_rfl) (fun _ _ _ h => h) (Sd.of (S88.trans S90) [8] rfl) rfl rfl rfl rfl (fun _ hz => (r_move rfl (F91.ev 45 rfl))) fun _ F92 => ?_
           refine g_take (v := .agg #[.slice r0_store_a_90 r0_store_n_90 r0_store_c_90, .slice r0_touch_reads_a_90 r0_touch_reads_n_90 r0_touch_reads_c_90, .slice r0_touch_writes_a_90 r0_touch_writes_n_90 r0_touch_writes_c_90]) F92 rfl (i := 8) (listed' := #[true, true, true, true, true, true, true, true, true, false, true, false, false]) rfl (by kernel_rfl) (by kernel_rfl) (by kernel_rfl) (fun _ _ _ h => h) (Sd.of (S88.trans S90) [8] rfl) rfl rfl rfl rfl (fun _ hz => (r_extract rfl (F92.ev 38 rfl) rfl)) fun _ F93 => ?_
           refine g_take (v := .int .i64 (ppC M ((1 + r70 : Nat) : Int) (⟨#[49, 50, 51, 52, 53, 54, 55, 56, 57, 48, 49, 50, 51, 52, 53, 54, 55, 56, 57, 48, 49]⟩ : ByteArray))) F93 rfl (i := 9) (listed' := #[true, true, true, true, true, true, true, true, true, true, true, false, false]) rfl (by kernel_rfl) (by kernel_rfl) (by kernel_rfl) (fun _ _ _ h => h) (Sd.of (S88.trans S90) [8] rfl) rfl rfl rfl rfl (fun _ hz => (r_extract rfl (F93.ev 38 rfl) rfl)) fun _ F94 => ?_
           refine d_one (i := 11) (listed' := #[true, true, true, true, true, true, true, true, true, true, true, true, false]) rfl (by kernel_rfl) rfl rfl ?_
           refine s_store S90.at' 3 TI_31 rfl rfl rfl rfl rfl (F94.ev 10 rfl) (F94.ev 46 rfl) rfl rfl rfl rfl rfl fun w95 S95 => ?_
           refine ⟨Sd.of (S88.trans (S90.trans S95)) [8] rfl, ?_⟩
           refine g_take F94 rfl (i := 12) (listed' := #[true, true, true, true, true, true, true, true, true, true, true, true, true]) rfl (by kernel_rfl) (by kernel_rfl) (by kernel_rfl) (fun _ _ _ h => h) (Sd.of (S88.trans (S90.trans S95)) [8] rfl) rfl rfl rfl rfl (fun _ hz => (r_assign rfl (F94.ev 47 rfl))) fun _ F96 => ?_
           refine wpAnyH_done (by kernel_rfl) (x_normal ?_) _
           exact ⟨r0_store_a_90, r0_store_n_90, r0_store_c_90, r0_touch_reads_a_90, r0_touch_reads_n_90, r0_touch_reads_c_90, r0_touch_writes_a_90, r0_touch_writes_n_90, r0_touch_writes_c_90, b88, F96.cut rfl, ((S71.trans (S88.trans (S90.trans S95))).pick [4, 5, 6, 7, 8, 1, 2, 3, 0] rfl)⟩
       · rintro a97 w97 ⟨r0_store_a_79, r0_store_n_79, r0_store_c_79, r0_touch_reads_a_79, r0_touch_reads_n_79, r0_touch_reads_c_79, r0_touch_writes_a_79, r0_touch_writes_n_79, r0_touch_writes_c_79, b84, F97, S97⟩
         refine x_normal (wp_seq (wp_region_lit (l_op (f_val (v := .agg #[.slice sa sn sc, .slice ra rn rc, .slice ua un uc]) F97 rfl rfl (r_loadB S97.at' 4 TI_31 rfl rfl (F97.ev 4 rfl) rfl rfl (fun h => nomatch h) rfl) rfl fun _ F98 => ?_))))
         refine l_op (f_call F98 CF_33 rfl rfl rfl rfl (lc (F98.ev 49 rfl) (lc rfl rfl)) (impl_IsPipe_c (m := M) (id := 9) (Rd.mv (Nat.succ_pos _) W26_0 (S56.trans (S62.trans (T68.trans S97)))) (Rd.mv (Nat.succ_pos _) W26_1 (S56.trans (S62.trans (T68.trans S97)))) (Rd.mv (Nat.succ_pos _) W26_2 (S56.trans (S62.trans (T68.trans S97)))) (by first | assumption | exact ⟨by omega, by omega⟩ | (unfold i64ok at *; omega)) (Tb.mv V_tab0 (T7.trans (T16.trans (S17.trans (S19.trans (T23.trans (S26.trans (S56.trans (S62.trans (T68.trans S97)))))))))) (Tb.mv V_tab1 (T7.trans (T16.trans (S17.trans (S19.trans (T23.trans (S26.trans (S56.trans (S62.trans (T68.trans S97)))))))))) (by first | assumption | omega | (refine bdC.s ?_; (repeat (first | with_reducible refine bdC.look ?_ | with_reducible refine bdC.lay ?_ | with_reducible refine bdC.set ?_ | with_reducible refine bdC.mp ?_ | with_reducible refine bdC.pp ?_)); exact bdC.le (by assumption) (by first | decide | omega)) | (refine bdC.r ?_; (repeat (first | with_reducible refine bdC.look ?_ | with_reducible refine bdC.lay ?_ | with_reducible refine bdC.set ?_ | with_reducible refine bdC.mp ?_ | with_reducible refine bdC.pp ?_)); exact bdC.le (by assumption) (by first | decide | omega)) | (refine bdC.w ?_; (repeat (first | with_reducible refine bdC.look ?_ | with_reducible refine bdC.lay ?_ | with_reducible refine bdC.set ?_ | with_reducible refine bdC.mp ?_ | with_reducible refine bdC.pp ?_)); exact bdC.le (by assumption) (by first | decide | omega)) | ((repeat (first | with_reducible refine bdC.look ?_ | with_reducible refine bdC.lay ?_ | with_reducible refine bdC.set ?_ | with_reducible refine bdC.mp ?_ | with_reducible refine bdC.pp ?_)); exact bdC.le (by assumption) (by first | decide | omega)) | decide | exact Nat.le_trans (keyNum_size _ _ (by assumption)) (by decide) | exact Nat.le_trans (keyNum_size _ _ ⟨by omega, by omega⟩) (by decide))) ?_)
         rintro _ w99 ⟨r0_store_a_99, r0_store_n_99, r0_store_c_99, r0_touch_reads_a_99, r0_touch_reads_n_99, r0_touch_reads_c_99, r0_touch_writes_a_99, r0_touch_writes_n_99, r0_touch_writes_c_99, rfl, m99⟩
         refine ⟨_, rfl, fun _ F100 => ?_⟩
         have S99 : Mv _ _ [ow 81 2 encC okC (.slice r0_store_a_99 r0_store_n_99 r0_store_c_99) (lookM M (keyNum (⟨#[112, 47]⟩ : ByteArray) 9 (⟨#[47, 111]⟩ : ByteArray))).store, ow 9 1 encS okS (.slice r0_touch_reads_a_99 r0_touch_reads_n_99 r0_touch_reads_c_99) (lookM M (keyNum (⟨#[112, 47]⟩ : ByteArray) 9 (⟨#[47, 111]⟩ : ByteArray))).touch.reads, ow 9 1 encS okS (.slice r0_touch_writes_a_99 r0_touch_writes_n_99 r0_touch_writes_c_99) (lookM M (keyNum (⟨#[112, 47]⟩ : ByteArray) 9 (⟨#[47, 111]⟩ : ByteArray))).touch.writes, bx b62 [.slice r0_store_a_56 r0_store_n_56 r0_store_c_56, .slice r0_touch_reads_a_56 r0_touch_reads_n_56 r0_touch_reads_c_56, .slice r0_touch_writes_a_56 r0_touch_writes_n_56 r0_touch_writes_c_56] 31, ow 81 2 encC okC (.slice r0_store_a_56 r0_store_n_56 r0_store_c_56) (mpM M).store, ow 9 1 encS okS (.slice r0_touch_reads_a_56 r0_touch_reads_n_56 r0_touch_reads_c_56) (mpM M).touch.reads, ow 9 1 encS okS (.slice r0_touch_writes_a_56 r0_touch_writes_n_56 r0_touch_writes_c_56) (mpM M).touch.writes, bx b19 [.slice sa sn sc, .slice ra rn rc, .slice ua un uc] 31, ow 81 2 encC okC (.slice r0_store_a_79 r0_store_n_79 r0_store_c_79) (ppM M ((1 + r70 : Nat) : Int) (⟨#[49, 50, 51, 52, 53, 54, 55, 56, 57, 48, 49, 50, 51, 52, 53, 54, 55, 56, 57, 48, 49]⟩ : ByteArray)).store, ow 9 1 encS okS (.slice r0_touch_reads_a_79 r0_touch_reads_n_79 r0_touch_reads_c_79) (ppM M ((1 + r70 : Nat) : Int) (⟨#[49, 50, 51, 52, 53, 54, 55, 56, 57, 48, 49, 50, 51, 52, 53, 54, 55, 56, 57, 48, 49]⟩ : ByteArray)).touch.reads, ow 9 1 encS okS (.slice r0_touch_writes_a_79 r0_touch_writes_n_79 r0_touch_writes_c_79) (ppM M ((1 + r70 : Nat) : Int) (⟨#[49, 50, 51, 52, 53, 54, 55, 56, 57, 48, 49, 50, 51, 52, 53, 54, 55, 56, 57, 48, 49]⟩ : ByteArray)).touch.writes, bx b84 [.slice r0_store_a_79 r0_store_n_79 r0_store_c_79, .slice r0_touch_reads_a_79 r0_touch_reads_n_79 r0_touch_reads_c_79, .slice r0_touch_writes_a_79 r0_touch_writes_n_79 r0_touch_writes_c_79] 31] _ := At.frame S97.at' [] rfl m99
         obtain ⟨lo99_0, lp99_0, lq99_0⟩ := At.ownInv S99.at' ET_26.hk 0 rfl
         obtain ⟨lo99_1, lp99_1, lq99_1⟩ := At.ownInv S99.at' ET_27.hk 1 rfl
         obtain ⟨lo99_2, lp99_2, lq99_2⟩ := At.ownInv S99.at' ET_27.hk 2 rfl
         clear m99
         refine l_op (f_mv F100 rfl rfl rfl rfl rfl fun _ F101 => ?_)
         refine l_op (f_val (v := .agg #[.slice r0_store_a_99 r0_store_n_99 r0_store_c_99, .slice r0_touch_reads_a_99 r0_touch_reads_n_99 r0_touch_reads_c_99, .slice r0_touch_writes_a_99 r0_touch_writes_n_99 r0_touch_writes_c_99]) F101 rfl rfl (r_extract rfl (F101.ev 48 rfl) rfl) rfl fun _ F102 => ?_)
         refine l_op (f_val (v := .bool (isP M 9)) F102 rfl rfl (r_extract rfl (F102.ev 48 rfl) rfl) rfl fun _ F103 => ?_)
         refine l_op (f_alloc F103 S99.at' ZI_31 rfl rfl rfl rfl rfl fun b104 _ w104 F105 S104 => ?_)
         refine l_op (s_store S104.at' 0 TI_31 rfl rfl rfl rfl rfl (F105.ev 12 rfl) (F105.ev 51 rfl) rfl rfl rfl rfl rfl fun w106 S106 => ?_)
         refine l_op (f_as F105 rfl rfl rfl rfl rfl fun _ F107 => ?_)
         have F108 : Fr 74 [(13, .bool (isP M 9)), (4, .pointer (some ⟨b19, 0, none⟩)), (7, .pointer (some ⟨b62, 0, none⟩)), (8, .int .i64 ((mpI M : Nat) : Int)), (9, .int .i64 (mpC M)), (11, .int .i64 (ppC M ((1 + r70 : Nat) : Int) (⟨#[49, 50, 51, 52, 53, 54, 55, 56, 57, 48, 49, 50, 51, 52, 53, 54, 55, 56, 57, 48, 49]⟩ : ByteArray)))] _ := F107.cut rfl
         clear F97 F98 F100 F101 F102 F103 F105 F107
         have T109 : Mv _ _ [bx b104 [.slice r0_store_a_99 r0_store_n_99 r0_store_c_99, .slice r0_touch_reads_a_99 r0_touch_reads_n_99 r0_touch_reads_c_99, .slice r0_touch_writes_a_99 r0_touch_writes_n_99 r0_touch_writes_c_99] 31, ow 81 2 encC okC (.slice r0_store_a_99 r0_store_n_99 r0_store_c_99) (lookM M (keyNum (⟨#[112, 47]⟩ : ByteArray) 9 (⟨#[47, 111]⟩ : ByteArray))).store, ow 9 1 encS okS (.slice r0_touch_reads_a_99 r0_touch_reads_n_99 r0_touch_reads_c_99) (lookM M (keyNum (⟨#[112, 47]⟩ : ByteArray) 9 (⟨#[47, 111]⟩ : ByteArray))).touch.reads, ow 9 1 encS okS (.slice r0_touch_writes_a_99 r0_touch_writes_n_99 r0_touch_writes_c_99) (lookM M (keyNum (⟨#[112, 47]⟩ : ByteArray) 9 (⟨#[47, 111]⟩ : ByteArray))).touch.writes, bx b62 [.slice r0_store_a_56 r0_store_n_56 r0_store_c_56, .slice r0_touch_reads_a_56 r0_touch_reads_n_56 r0_touch_reads_c_56, .slice r0_touch_writes_a_56 r0_touch_writes_n_56 r0_touch_writes_c_56] 31, ow 81 2 encC okC (.slice r0_store_a_56 r0_store_n_56 r0_store_c_56) (mpM M).store, ow 9 1 encS okS (.slice r0_touch_reads_a_56 r0_touch_reads_n_56 r0_touch_reads_c_56) (mpM M).touch.reads, ow 9 1 encS okS (.slice r0_touch_writes_a_56 r0_touch_writes_n_56 r0_touch_writes_c_56) (mpM M).touch.writes, bx b19 [.slice sa sn sc, .slice ra rn rc, .slice ua un uc] 31, ow 81 2 encC okC (.slice r0_store_a_79 r0_store_n_79 r0_store_c_79) (ppM M ((1 + r70 : Nat) : Int) (⟨#[49, 50, 51, 52, 53, 54, 55, 56, 57, 48, 49, 50, 51, 52, 53, 54, 55, 56, 57, 48, 49]⟩ : ByteArray)).store, ow 9 1 encS okS (.slice r0_touch_reads_a_79 r0_touch_reads_n_79 r0_touch_reads_c_79) (ppM M ((1 + r70 : Nat) : Int) (⟨#[49, 50, 51, 52, 53, 54, 55, 56, 57, 48, 49, 50, 51, 52, 53, 54, 55, 56, 57, 48, 49]⟩ : ByteArray)).touch.reads, ow 9 1 encS okS (.slice r0_touch_writes_a_79 r0_touch_writes_n_79 r0_touch_writes_c_79) (ppM M ((1 + r70 : Nat) : Int) (⟨#[49, 50, 51, 52, 53, 54, 55, 56, 57, 48, 49, 50, 51, 52, 53, 54, 55, 56, 57, 48, 49]⟩ : ByteArray)).touch.writes, bx b84 [.slice r0_store_a_79 r0_store_n_79 r0_store_c_79, .slice r0_touch_reads_a_79 r0_touch_reads_n_79 r0_touch_reads_c_79, .slice r0_touch_writes_a_79 r0_touch_writes_n_79 r0_touch_writes_c_79] 31] _ := S106
         refine s_end (x_normal (wp_seq (wp_region_lit (l_op (f_mv F108 rfl rfl rfl rfl rfl fun _ F110 => ?_)))))
         refine l_op (f_val F110 rfl rfl (r_cmp (b := decide (mpI M = 0)) (.inl rfl) rfl (F110.ev 53 rfl) rfl (dec_of (by omega))) rfl fun _ F111 => ?_)
         rw [show (decide (mpI M = 0)) = true from decide_eq_true hP.full.1] at F111
         refine l_op (f_mv F111 rfl rfl rfl rfl rfl fun _ F112 => ?_)
         refine l_op (f_mv F112 (wanted_g F112 rfl rfl rfl rfl) rfl rfl rfl rfl fun _ F113 => ?_)
         refine l_op (f_val F113 (wanted_g F113 rfl rfl rfl rfl) rfl (r_cmp (b := decide ((mpC M) = 3)) (.inl rfl) rfl (F113.ev 56 rfl) rfl (dec_of (by omega))) rfl fun _ F114 => ?_)
         rw [show (decide ((mpC M) = 3)) = true from decide_eq_true hP.full.2.1] at F114
         refine l_op (f_val F114 rfl rfl (r_pick (b := true) rfl (F114.ev 55 rfl) (F114.ev 57 rfl)) rfl fun _ F115 => ?_)
         refine l_op (f_mv F115 rfl rfl rfl rfl rfl fun _ F116 => ?_)
         refine l_op (f_val F116 (wanted_g F116 rfl rfl rfl rfl) rfl (r_field FI_31_0 rfl (F116.ev 7 rfl) rfl) rfl fun _ F117 => ?_)
         refine l_op (f_val (v := .slice r0_store_a_56 r0_store_n_56 r0_store_c_56) F117 (wanted_g F117 rfl rfl rfl rfl) rfl (r_loadB T109.at' 4 TI_26 rfl rfl (F117.ev 60 rfl) rfl rfl (fun _ => rfl) rfl) rfl fun _ F118 => ?_)
         refine l_op (f_val F118 (wanted_g F118 rfl rfl rfl rfl) rfl (r_field FI_31_0 rfl (F118.ev 4 rfl) rfl) rfl fun _ F119 => ?_)
         refine l_op (f_val (v := .slice sa sn sc) F119 (wanted_g F119 rfl rfl rfl rfl) rfl (r_loadB T109.at' 8 TI_26 rfl rfl (F119.ev 62 rfl) rfl rfl (fun _ => rfl) rfl) rfl fun _ F120 => ?_)
         refine l_op (f_call F120 CF_28 (wanted_g F120 rfl rfl rfl rfl) rfl rfl rfl (lc (F120.ev 61 rfl) (lc (F120.ev 63 rfl) rfl)) (laws_sameCells_c (H := fun _ => True) (a := (mpM M).store) (b := M.store) (At.rd T109.at' ET_26.hk 5 rfl) (Rd.top (Rd.mv (Nat.succ_pos _) W26_0 (S56.trans (S62.trans (T68.trans (S97.trans (S99.trans (S104.trans T109))))))))) ?_)
         rintro _ w121 ⟨rfl, m121⟩
         refine ⟨_, rfl, fun _ F122 => ?_⟩
         have S121 := At.frame0 T109.at' m121
         rw [show (decide ((mpM M).store = M.store)) = true from decide_eq_true (hP.full.2.2)] at F122
         clear m121
         refine l_op (f_val F122 rfl rfl (r_pick (b := true) rfl (F122.ev 59 rfl) (F122.ev 64 rfl)) rfl fun _ F123 => ?_)
         refine l_op (f_mv F123 rfl rfl rfl rfl rfl fun _ F124 => ?_)
         refine l_op (f_mv F124 (wanted_g F124 rfl rfl rfl rfl) rfl rfl rfl rfl fun _ F125 => ?_)
         refine l_op (f_val F125 (wanted_g F125 rfl rfl rfl rfl) rfl (r_cmp (b := decide ((ppC M ((1 + r70 : Nat) : Int) (⟨#[49, 50, 51, 52, 53, 54, 55, 56, 57, 48, 49, 50, 51, 52, 53, 54, 55, 56, 57, 48, 49]⟩ : ByteArray)) = 4)) (.inl rfl) rfl (F125.ev 67 rfl) rfl (dec_of (by omega))) rfl fun _ F126 => ?_)
         rw [show (decide ((ppC M ((1 + r70 : Nat) : Int) (⟨#[49, 50, 51, 52, 53, 54, 55, 56, 57, 48, 49, 50, 51, 52, 53, 54, 55, 56, 57, 48, 49]⟩ : ByteArray)) = 4)) = true from decide_eq_true (hP.bad (by omega) rfl)] at F126
         refine l_op (f_val F126 rfl rfl (r_pick (b := true) rfl (F126.ev 66 rfl) (F126.ev 68 rfl)) rfl fun _ F127 => ?_)
         refine l_op (f_mv F127 rfl rfl rfl rfl rfl fun _ F128 => ?_)
         refine l_op (f_mv F128 (wanted_g F128 rfl rfl rfl rfl) rfl rfl rfl rfl fun _ F129 => ?_)
         refine l_op (f_val F129 (wanted_g F129 rfl rfl rfl rfl) rfl (r_not rfl (F129.ev 71 rfl)) rfl fun _ F130 => ?_)
         rw [show (!(isP M 9)) = true from by rw [hP.no9]; rfl] at F130
         refine l_op (f_val F130 rfl rfl (r_pick (b := true) rfl (F130.ev 70 rfl) (F130.ev 72 rfl)) rfl fun _ F131 => ?_)
         refine l_op (f_as F131 rfl rfl rfl rfl rfl fun _ F132 => ?_)
         have F133 : Fr 74 [(2, .bool true)] _ := F132.cut rfl
         clear F108 F110 F111 F112 F113 F114 F115 F116 F117 F118 F119 F120 F122 F123 F124 F125 F126 F127 F128 F129 F130 F131 F132
         have T134 : Mv _ _ [bx b104 [.slice r0_store_a_99 r0_store_n_99 r0_store_c_99, .slice r0_touch_reads_a_99 r0_touch_reads_n_99 r0_touch_reads_c_99, .slice r0_touch_writes_a_99 r0_touch_writes_n_99 r0_touch_writes_c_99] 31, ow 81 2 encC okC (.slice r0_store_a_99 r0_store_n_99 r0_store_c_99) (lookM M (keyNum (⟨#[112, 47]⟩ : ByteArray) 9 (⟨#[47, 111]⟩ : ByteArray))).store, ow 9 1 encS okS (.slice r0_touch_reads_a_99 r0_touch_reads_n_99 r0_touch_reads_c_99) (lookM M (keyNum (⟨#[112, 47]⟩ : ByteArray) 9 (⟨#[47, 111]⟩ : ByteArray))).touch.reads, ow 9 1 encS okS (.slice r0_touch_writes_a_99 r0_touch_writes_n_99 r0_touch_writes_c_99) (lookM M (keyNum (⟨#[112, 47]⟩ : ByteArray) 9 (⟨#[47, 111]⟩ : ByteArray))).touch.writes, bx b62 [.slice r0_store_a_56 r0_store_n_56 r0_store_c_56, .slice r0_touch_reads_a_56 r0_touch_reads_n_56 r0_touch_reads_c_56, .slice r0_touch_writes_a_56 r0_touch_writes_n_56 r0_touch_writes_c_56] 31, ow 81 2 encC okC (.slice r0_store_a_56 r0_store_n_56 r0_store_c_56) (mpM M).store, ow 9 1 encS okS (.slice r0_touch_reads_a_56 r0_touch_reads_n_56 r0_touch_reads_c_56) (mpM M).touch.reads, ow 9 1 encS okS (.slice r0_touch_writes_a_56 r0_touch_writes_n_56 r0_touch_writes_c_56) (mpM M).touch.writes, bx b19 [.slice sa sn sc, .slice ra rn rc, .slice ua un uc] 31, ow 81 2 encC okC (.slice r0_store_a_79 r0_store_n_79 r0_store_c_79) (ppM M ((1 + r70 : Nat) : Int) (⟨#[49, 50, 51, 52, 53, 54, 55, 56, 57, 48, 49, 50, 51, 52, 53, 54, 55, 56, 57, 48, 49]⟩ : ByteArray)).store, ow 9 1 encS okS (.slice r0_touch_reads_a_79 r0_touch_reads_n_79 r0_touch_reads_c_79) (ppM M ((1 + r70 : Nat) : Int) (⟨#[49, 50, 51, 52, 53, 54, 55, 56, 57, 48, 49, 50, 51, 52, 53, 54, 55, 56, 57, 48, 49]⟩ : ByteArray)).touch.reads, ow 9 1 encS okS (.slice r0_touch_writes_a_79 r0_touch_writes_n_79 r0_touch_writes_c_79) (ppM M ((1 + r70 : Nat) : Int) (⟨#[49, 50, 51, 52, 53, 54, 55, 56, 57, 48, 49, 50, 51, 52, 53, 54, 55, 56, 57, 48, 49]⟩ : ByteArray)).touch.writes, bx b84 [.slice r0_store_a_79 r0_store_n_79 r0_store_c_79, .slice r0_touch_reads_a_79 r0_touch_reads_n_79 r0_touch_reads_c_79, .slice r0_touch_writes_a_79 r0_touch_writes_n_79 r0_touch_writes_c_79] 31] _ := S121
         refine s_end (x_normal (wp_ret ?_))
         refine x_done (v := .bool true) F133 (results_1 Tryd.results9 (.tmp (F133.ev 2 rfl))) ?_
         exact ⟨rfl, (Mv.pick (T7.trans (T16.trans (S17.trans (S19.trans (T23.trans (S26.trans (S56.trans (S62.trans (T68.trans (S97.trans (S99.trans (S104.trans (T109.trans T134))))))))))))) [] rfl)⟩
end Go.Proofs.YtjiplnaceiofmaaDoor
namespace Go.Proofs.YtjiplnaceiofmaaDoor.pipelimit
open Go.ChangeShapes Go.WideShapes Go.ChangeAt Go.RowKit
set_option maxRecDepth 100000
theorem cells_5 : Tryd.prog.cellsOf 5 = 1 := by kernel_rfl
theorem starE : "*" ++ "errors.errorString" = "*errors.errorString" := by decide
theorem rowE (u : TypeId) (h : Tryd.prog.typeName? 3 u = some "*errors.errorString") : u = 184 :=
  typeName_ptr_named (nm := "errors.errorString") (by rw [starE]; kernel_rfl) (by kernel_rfl) (by decide) u (by rw [starE]; exact h)
theorem cellsE : Tryd.prog.cellsOf 186 = 1 := by kernel_rfl
theorem cells_9 : Tryd.prog.cellsOf 9 = 1 := by kernel_rfl
theorem ground0 {W : World} (h : laidMet Tryd.prog [("math/bits.deBruijn32tab", Rows.laid_math_bits_deBruijn32tab), ("math/bits.deBruijn64tab", Rows.laid_math_bits_deBruijn64tab), ("internal/strconv.uint64pow10", Rows.laid_internal_strconv_uint64pow10), ("strconv.ErrRange", Rows.laid_strconv_ErrRange), ("strconv.ErrSyntax", Rows.laid_strconv_ErrSyntax)] W) : Tb 0 (fun _ => True) W := by
  have e : (Rows.laid_internal_strconv_uint64pow10 : DataW Unit) = Lib.tabData .u64 Lib.pow10Tab := by kernel_rfl
  have h2 : laidMet Tryd.prog (("internal/strconv.uint64pow10", Lib.tabData .u64 Lib.pow10Tab) :: [("strconv.ErrRange", Rows.laid_strconv_ErrRange), ("strconv.ErrSyntax", Rows.laid_strconv_ErrSyntax)]) W := by rw [← e]; exact h.tail.tail
  have h3 : Lib.TabIs Tryd.prog W "internal/strconv.uint64pow10" .u64 Lib.pow10Tab := Lib.tabIs_of_head laysItoa.m17 (t := 159) (e := 146) (n := 20) (by kernel_rfl) Tryd.underlying159 Tryd.underlying146 (by kernel_rfl) (by kernel_rfl) h2
  exact ⟨h3, fun g hg => by rw [List.mem_singleton.1 hg]; exact ⟨trivial, Lib.lt_of_cell (h3.cell laysItoa.m17 0 (by decide))⟩⟩
theorem ground1 {W : World} (h : laidMet Tryd.prog [("math/bits.deBruijn32tab", Rows.laid_math_bits_deBruijn32tab), ("math/bits.deBruijn64tab", Rows.laid_math_bits_deBruijn64tab), ("internal/strconv.uint64pow10", Rows.laid_internal_strconv_uint64pow10), ("strconv.ErrRange", Rows.laid_strconv_ErrRange), ("strconv.ErrSyntax", Rows.laid_strconv_ErrSyntax)] W) : Tb 1 (fun _ => True) W := by
  have gS : Tryd.prog.globalNamed "strconv.ErrSyntax" = some (laysAtoi_ren.g 15) := by kernel_rfl
  obtain ⟨aS, sS, vS, -, -, -⟩ := laid_sentinel (h.tail.tail.tail.tail) gS (ti := 133) (by kernel_rfl) Tryd.underlying133 rowE Tryd.underlying184 Tryd.underlying186 rfl rfl Tryd.underlying9 cellsE cells_9
  have cS := var_cell gS vS
  have gR : Tryd.prog.globalNamed "strconv.ErrRange" = some (laysAtoi_ren.g 16) := by kernel_rfl
  obtain ⟨aR, sR, vR, -, -, -⟩ := laid_sentinel (h.tail.tail.tail) gR (ti := 133) (by kernel_rfl) Tryd.underlying133 rowE Tryd.underlying184 Tryd.underlying186 rfl rfl Tryd.underlying9 cellsE cells_9
  have cR := var_cell gR vR
  exact ⟨⟨⟨_, cS, .inr ⟨_, _, rfl⟩⟩, ⟨_, cR, .inr ⟨_, _, rfl⟩⟩⟩, fun g hg => by
    rcases List.mem_cons.1 hg with e | hg
    · rw [e]; exact ⟨trivial, Lib.lt_of_cell cS⟩
    · rw [List.mem_singleton.1 hg]; exact ⟨trivial, Lib.lt_of_cell cR⟩⟩
theorem called (W : World) (args : Array Value) (h : ArgsRead Tryd.prog W Tryd.f9.params.toList args.toList) (t0 : Tb 0 (fun _ => True) W) (t1 : Tb 1 (fun _ => True) W) : Calls Tryd.prog 9 args W fun e W' => e = .returned (.bool true) ∧ Bl W W' := by
  obtain ⟨hl, h⟩ := h
  rw [Tryd.params9] at hl h
  obtain ⟨v0, rfl⟩ : ∃ v0, args = #[v0] := by
    obtain ⟨l⟩ := args
    match l, hl with
    | [v0], _ => exact ⟨v0, rfl⟩
  obtain ⟨r0, o0⟩ := h 0 _ v0 rfl rfl
  have q0 := reads_one Tryd.underlying22 trivial o0 r0
  obtain ⟨a_0, n_0, c_0, l_0, e_0, v_0⟩ := rdA_of Tryd.underlying22 cells_5 (by decide) (u8_row Tryd.underlying5) q0
  cases e_0
  exact (laws_FnPipeLimit_c (w := W) (H := fun _ => True) (code := l_0) v_0 t0 t1).mono fun e W' ⟨h1, h2⟩ => ⟨h1, h2.bl⟩
theorem own : ownKnob Tryd.prog.godebug = none := by kernel_rfl
theorem laidOut : laidOutB Tryd.prog = true := by kernel_rfl
theorem readable : ∀ t ∈ Tryd.f9.params.toList, Tryd.prog.readableRec t = true ∧ t < Tryd.prog.types.size := of_decide_eq_true (by kernel_rfl)
theorem door_met (os : Os) (args : Array Value) : laidMetH Tryd.prog [("math/bits.deBruijn32tab", Rows.laid_math_bits_deBruijn32tab), ("math/bits.deBruijn64tab", Rows.laid_math_bits_deBruijn64tab), ("internal/strconv.uint64pow10", Rows.laid_internal_strconv_uint64pow10), ("strconv.ErrRange", Rows.laid_strconv_ErrRange), ("strconv.ErrSyntax", Rows.laid_strconv_ErrSyntax)] ((World.doorLaid Tryd.prog 81 os).forCall (fun _ _ => 0) ⟨#[], args, []⟩).memory :=
  laidMetH_of_parts3 (fuel := 8) (laidMet_of_run' 8 (by kernel_rfl) (by kernel_rfl)) (by kernel_rfl) (by kernel_rfl)
theorem lifted (os : Os) (started : os.Started) (H : Type) (enc : TypeId × Value → H) :
    ReturnsInHanded {} Tryd.checked os 9 .any (fun w args => (Rows.fnPipeLimitSpec.pre enc Tryd.prog Tryd.f9 [] false w args ∧ laidMetH Tryd.prog [("math/bits.deBruijn32tab", Rows.laid_math_bits_deBruijn32tab), ("math/bits.deBruijn64tab", Rows.laid_math_bits_deBruijn64tab), ("internal/strconv.uint64pow10", Rows.laid_internal_strconv_uint64pow10), ("strconv.ErrRange", Rows.laid_strconv_ErrRange), ("strconv.ErrSyntax", Rows.laid_strconv_ErrSyntax)] w) ∧ sizedMet enc Tryd.prog Tryd.f9 (OpenSpec.ofChange Rows.fnPipeLimitSpec) false w args)
      (Rows.fnPipeLimitSpec.post enc Tryd.prog Tryd.f9 false true false false) := by
  refine returnsInHanded_of_change_and (C := Tryd.checked) (X := fun w _ => laidMetH Tryd.prog [("math/bits.deBruijn32tab", Rows.laid_math_bits_deBruijn32tab), ("math/bits.deBruijn64tab", Rows.laid_math_bits_deBruijn64tab), ("internal/strconv.uint64pow10", Rows.laid_internal_strconv_uint64pow10), ("strconv.ErrRange", Rows.laid_strconv_ErrRange), ("strconv.ErrSyntax", Rows.laid_strconv_ErrSyntax)] w) (fun _ _ _ hh h => h.of_heap hh) own started (by kernel_rfl) Tryd.func9
    (ChangeSpec.witness_shaped (enc := enc) (C := Tryd.checked) (os := os) (X := fun w _ => laidMetH Tryd.prog [("math/bits.deBruijn32tab", Rows.laid_math_bits_deBruijn32tab), ("math/bits.deBruijn64tab", Rows.laid_math_bits_deBruijn64tab), ("internal/strconv.uint64pow10", Rows.laid_internal_strconv_uint64pow10), ("strconv.ErrRange", Rows.laid_strconv_ErrRange), ("strconv.ErrSyntax", Rows.laid_strconv_ErrSyntax)] w) false (World.doorLaid Tryd.prog 81 os) #[.slice none 0 0] 8 rfl (World.shaped_of_RefB (by kernel_rfl) (by kernel_rfl)) (by kernel_rfl) (by kernel_rfl) (by kernel_rfl) (door_met os _)) ?_
  intro W base args ds gs before hval0 hW _ _ hL _
  have hval : ∀ (j : Nat) t v, Tryd.f9.params[j]? = some t → args[j]? = some v → Value.okWide Tryd.prog W .any 0 t v := hval0
  have hM : laidMet Tryd.prog [("math/bits.deBruijn32tab", Rows.laid_math_bits_deBruijn32tab), ("math/bits.deBruijn64tab", Rows.laid_math_bits_deBruijn64tab), ("internal/strconv.uint64pow10", Rows.laid_internal_strconv_uint64pow10), ("strconv.ErrRange", Rows.laid_strconv_ErrRange), ("strconv.ErrSyntax", Rows.laid_strconv_ErrSyntax)] W := by
    have h := hL
    rw [MakeChecks.laidMetH_plain _ _ _ (by kernel_rfl)] at h
    exact h
  refine law_contractW laidOut readable Tryd.underlying4 rfl rfl ?_ H enc false true false false W args ds gs before (fun h => called W args h (ground0 hM) (ground1 hM)) hval hW
  intro H ds hd
  match ds, hd with
  | [a], _ => rfl
theorem bare : Rows.FnPipeLimitSaid :=
  OpenClaim.holds_of_wide 9 Tryd.f9 rfl rfl rfl rfl rfl rfl rfl ⟨rfl, rfl, rfl, rfl, rfl⟩ rfl rfl rfl rfl rfl (by kernel_rfl) Tryd.func9 (by kernel_rfl)
    (of_decide_eq_true (by kernel_rfl)) (by unfold Func.isWrapper; first | (rw [if_pos (by decide +kernel)]; kernel_rfl) | (rw [if_neg (by decide +kernel)]; exact ⟨rfl, rfl⟩))
    (fun os started H enc _ => lifted os started H enc)
theorem proved : Rows.FnPipeLimitCardSaid :=
  Claim7.holds_tied_plain_at .later [] [.data, .data, .data, .sentinel, .sentinel] true (true, "167e4d36e1bc60f6d5ed3739e3d5e09f6b5bab75b6f9b2c84f393379c264b4c4") true
    bare (fun _ h => by cases h) (by kernel_rfl) (fun _ h => by cases h) fnPipeLimit_row_tie rfl ⟨rfl, rfl⟩ (by kernel_rfl) rfl
    (fun f fn hf hfn => by
      obtain rfl : f = 9 := Option.some.inj ((show Tryd.prog.funcNamed "loop.example/g00974/laws.FnPipeLimit" = some 9 by kernel_rfl).symm.trans hf) |>.symm
      obtain rfl : fn = Tryd.f9 := (Option.some.inj (Tryd.func9.symm.trans hfn)).symm
      exact ⟨by kernel_rfl, fun j t ht => by
        rw [Tryd.params9] at ht
        have hm : t ∈ [22] := by simpa using Array.mem_of_getElem? ht
        have hall : ([22].all fun u => !Tryd.prog.wantsStandIn u) = true := by kernel_rfl
        exact (show Tryd.prog.wantsStandIn t = false by simpa using List.all_eq_true.1 hall t hm)⟩)
    (by kernel_rfl)
end Go.Proofs.YtjiplnaceiofmaaDoor.pipelimit
