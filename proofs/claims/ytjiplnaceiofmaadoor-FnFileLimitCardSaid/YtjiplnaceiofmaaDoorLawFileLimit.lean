/-
  PROVED HERE: whatever the input, the statement laws.FnFileLimit returns true. Condition: the tables and errors of the library that the row lists stand as the program's text lays them (the card ties that).
-/
import Derived.Test.YtjiplnaceiofmaaDoorGenDp
import Derived.Test.YtjiplnaceiofmaaDoorGenSh
import Derived.Test.YtjiplnaceiofmaaDoorLaw2
import Derived.Test.YtjiplnaceiofmaaDoorLaw3
namespace Go.Proofs.YtjiplnaceiofmaaDoor
open Go.ChangeShapes Go.WideShapes Go.ChangeAt Go.RowKit
set_option maxRecDepth 100000
set_option maxHeartbeats 1000000
theorem laws_sameCells_c {w : World} {H : Nat → Prop} {a : List CellD} {a_a : Option Addr} {a_n a_c : Nat} {b : List CellD} {b_a : Option Addr} {b_n b_c : Nat} (v_a : Rd 2 encC okC H w (.slice a_a a_n a_c) a) (v_b : Rd 2 encC okC H w (.slice b_a b_n b_c) b) :
    Calls Tryd.prog 28 #[.slice a_a a_n a_c, .slice b_a b_n b_c] w fun e w' => e = .returned (.bool (decide (a = b))) ∧ Mv [] w [] w' := by
 have V_v_a : Rd 2 encC okC (V H w []) w (.slice a_a a_n a_c) a := Rd.start v_a (fun _ _ => fps_nil _)
 obtain ⟨ln_a, le_a, mx_a, ni_a⟩ := Rd.inv v_a
 have V_v_b : Rd 2 encC okC (V H w []) w (.slice b_a b_n b_c) b := Rd.start v_b (fun _ _ => fps_nil _)
 obtain ⟨ln_b, le_b, mx_b, ni_b⟩ := Rd.inv v_b
 refine calls_enter 26 Tryd.func28 rfl Tryd.ntmps28 (Nat.le_of_ble_eq_true rfl) (fun _ F0i => ?_)
 have F0 : Fr 26 [(0, .slice a_a a_n a_c), (1, .slice b_a b_n b_c)] _ := F0i
 clear F0i
 refine wp_seq (wp_region_lit (l_op (f_val F0 rfl rfl (r_assign rfl rfl) rfl fun _ F1 => ?_)))
 have F2 : Fr 26 [(4, .bool false), (0, .slice a_a a_n a_c), (1, .slice b_a b_n b_c)] _ := F1.cut rfl
 clear F0 F1
 refine s_end (x_normal (wp_seq (wp_seq (wp_region_lit (l_op (f_mv F2 rfl rfl rfl rfl rfl fun _ F3 => ?_))))))
 refine l_op (f_val F3 rfl rfl (r_len Tryd.underlying26 rfl (F3.ev 6 rfl)) rfl fun _ F4 => ?_)
 refine l_op (f_mv F4 rfl rfl rfl rfl rfl fun _ F5 => ?_)
 refine l_op (f_val F5 rfl rfl (r_len Tryd.underlying26 rfl (F5.ev 8 rfl)) rfl fun _ F6 => ?_)
 refine l_op (f_val F6 rfl rfl (r_cmp (b := decide (a_n ≠ b_n)) (.inr (.inl rfl)) rfl (F6.ev 7 rfl) (F6.ev 9 rfl) (dec_of (by omega))) rfl fun _ F7 => ?_)
 have F8 : Fr 26 [(10, .bool (decide (a_n ≠ b_n))), (0, .slice a_a a_n a_c), (1, .slice b_a b_n b_c)] _ := F7.cut rfl
 clear F2 F3 F4 F5 F6 F7
 refine s_end (x_normal (x_cond (p := a_n ≠ b_n) (F8.ev 10 rfl) (fun h9 => ?_) (fun h9 => ?_)))
 · skip
   refine wp_seq (wp_region_lit (l_op (f_val F8 rfl rfl (r_assign rfl rfl) rfl fun _ F10 => ?_)))
   have F11 : Fr 26 [(4, .bool false)] _ := F10.cut rfl
   clear F8 F10
   refine s_end (x_normal (wp_ret (x_then_ret ?_)))
   refine x_done (v := .bool false) F11 (results_1 Tryd.results28 (.tmp (F11.ev 4 rfl))) ?_
   exact ⟨(by rw [(show false = (decide (a = b)) from by first | exact (eqL_len ln_a ln_b (by assumption)).symm | exact (eqL_at hx1 hx2 (by assumption)).symm | exact (eqL_end hk_1 (by omega) (by omega)).symm)]), (Mv.pick (Mv.refl (At.nil w)) [] rfl)⟩
 · skip
   refine wp_skip (x_normal (wp_seq (wp_seq (wp_region_lit (l_op (f_val F8 rfl rfl (r_assign rfl rfl) rfl fun _ F12 => ?_))))))
   have F13 : Fr 26 [(5, .int .i64 0), (0, .slice a_a a_n a_c), (1, .slice b_a b_n b_c)] _ := F12.cut rfl
   clear F8 F12
   refine s_end (x_normal (wp_block ?_))
   refine x_loop (fun (k : Nat) aZ wZ => Fr 26 [(5, .int .i64 ((k : Nat) : Int)), (0, .slice a_a a_n a_c), (1, .slice b_a b_n b_c)] aZ ∧ Mv [] w [] wZ ∧ (k ≤ a_n) ∧ (a.take k = b.take k)) (fun (k : Nat) => a_n - k) (0) ?_ ?_
   · exact ⟨F13.cut rfl, (Mv.refl (At.nil w)), by omega, rfl⟩
   · rintro k a14 w14 ⟨F14, S14, hk_0, hk_1⟩
     refine wp_seq (wp_seq (wp_region_lit (l_op (f_mv F14 rfl rfl rfl rfl rfl fun _ F15 => ?_))))
     refine l_op (f_mv F15 rfl rfl rfl rfl rfl fun _ F16 => ?_)
     refine l_op (f_val F16 rfl rfl (r_len Tryd.underlying26 rfl (F16.ev 12 rfl)) rfl fun _ F17 => ?_)
     refine l_op (f_val F17 rfl rfl (r_cmp (b := decide (k < a_n)) (.inr (.inr (.inl rfl))) rfl (F17.ev 11 rfl) (F17.ev 13 rfl) (dec_of (by omega))) rfl fun _ F18 => ?_)
     have F19 : Fr 26 [(14, .bool (decide (k < a_n))), (5, .int .i64 ((k : Nat) : Int)), (0, .slice a_a a_n a_c), (1, .slice b_a b_n b_c)] _ := F18.cut rfl
     clear F14 F15 F16 F17 F18
     refine s_end (x_normal (x_cond (p := k < a_n) (F19.ev 14 rfl) (fun h20 => ?_) (fun h20 => ?_)))
     · skip
       refine wp_skip (x_normal (wp_seq (wp_block (wp_seq ?_))))
       obtain ⟨x1, hx1, okx1⟩ := Rd.elem (Rd.mv (Nat.succ_pos _) V_v_a S14) k (by first | assumption | omega)
       obtain ⟨x2, hx2, okx2⟩ := Rd.elem (Rd.mv (Nat.succ_pos _) V_v_b S14) k (by first | assumption | omega)
       refine x_draw (fun aZ wZ => Fr 26 [(0, .slice a_a a_n a_c), (1, .slice b_a b_n b_c), (5, .int .i64 ((k : Nat) : Int)), (25, .bool (decide (x1 ≠ x2)))] aZ ∧ Mv [] w14 [] wZ) [] mixed S14.at' (listed := #[false, false, false, false, false, false, false, false, false]) rfl (fun w22 S22 => ?_) [] rfl ?_
       · skip
         refine g_take F19 rfl (i := 0) (listed' := #[true, false, false, false, false, false, false, false, false]) rfl (by kernel_rfl) (by kernel_rfl) (by kernel_rfl) (fun _ _ _ h => h) (Sd.of (Mv.refl S22.at') [] rfl) rfl rfl rfl rfl (fun _ hz => (r_move rfl (F19.ev 0 rfl))) fun _ F23 => ?_
         refine g_take F23 rfl (i := 1) (listed' := #[true, true, false, false, false, false, false, false, false]) rfl (by kernel_rfl) (by kernel_rfl) (by kernel_rfl) (fun _ _ _ h => h) (Sd.of (Mv.refl S22.at') [] rfl) rfl rfl rfl rfl (fun _ hz => (r_move rfl (F23.ev 5 rfl))) fun _ F24 => ?_
         obtain ⟨B25, O25, y25, ad25, hy25, oky25, ln25, cl25⟩ := Rd.atK (Nat.succ_pos _) (Rd.mv (Nat.succ_pos _) V_v_a (S14.trans S22)) k (by first | assumption | omega)
         clear ln25
         obtain rfl := Option.some.inj (hx1.symm.trans hy25)
         clear hy25 oky25
         refine g_take F24 rfl (i := 2) (listed' := #[true, true, true, false, false, false, false, false, false]) rfl (by kernel_rfl) (by kernel_rfl) (by kernel_rfl) (fun _ _ _ h => h) (Sd.of (Mv.refl S22.at') [] rfl) rfl rfl rfl rfl (fun _ hz => (r_indexAddr (i := k) ET_26 rfl ((F24.ev 17 rfl).trans (by rw [ad25])) (F24.ev 18 rfl) (by omega) (by first | assumption | omega))) fun _ F26 => ?_
         refine g_take (v := .agg #[.string x1.key, .string x1.val]) F26 rfl (i := 3) (listed' := #[true, true, true, true, false, false, false, false, false]) rfl (by kernel_rfl) (by kernel_rfl) (by kernel_rfl) (fun _ _ _ h => h) (Sd.of (Mv.refl S22.at') [] rfl) rfl rfl rfl rfl (fun _ hz => (r_load (cs := [.string x1.key, .string x1.val]) TI_81 rfl (F26.ev 19 rfl) rfl (fun h => nomatch h) (elem_sub (f := 0) (cl25 _ hz.kp) [.string x1.key, .string x1.val] rfl))) fun _ F27 => ?_
         refine g_take F27 rfl (i := 4) (listed' := #[true, true, true, true, true, false, false, false, false]) rfl (by kernel_rfl) (by kernel_rfl) (by kernel_rfl) (fun _ _ _ h => h) (Sd.of (Mv.refl S22.at') [] rfl) rfl rfl rfl rfl (fun _ hz => (r_move rfl (F27.ev 1 rfl))) fun _ F28 => ?_
         refine g_take F28 rfl (i := 5) (listed' := #[true, true, true, true, true, true, false, false, false]) rfl (by kernel_rfl) (by kernel_rfl) (by kernel_rfl) (fun _ _ _ h => h) (Sd.of (Mv.refl S22.at') [] rfl) rfl rfl rfl rfl (fun _ hz => (r_move rfl (F28.ev 5 rfl))) fun _ F29 => ?_
         obtain ⟨B30, O30, y30, ad30, hy30, oky30, ln30, cl30⟩ := Rd.atK (Nat.succ_pos _) (Rd.mv (Nat.succ_pos _) V_v_b (S14.trans S22)) k (by first | assumption | omega)
         clear ln30
         obtain rfl := Option.some.inj (hx2.symm.trans hy30)
         clear hy30 oky30
         refine g_take F29 rfl (i := 6) (listed' := #[true, true, true, true, true, true, true, false, false]) rfl (by kernel_rfl) (by kernel_rfl) (by kernel_rfl) (fun _ _ _ h => h) (Sd.of (Mv.refl S22.at') [] rfl) rfl rfl rfl rfl (fun _ hz => (r_indexAddr (i := k) ET_26 rfl ((F29.ev 21 rfl).trans (by rw [ad30])) (F29.ev 22 rfl) (by omega) (by first | assumption | omega))) fun _ F31 => ?_
         refine g_take (v := .agg #[.string x2.key, .string x2.val]) F31 rfl (i := 7) (listed' := #[true, true, true, true, true, true, true, true, false]) rfl (by kernel_rfl) (by kernel_rfl) (by kernel_rfl) (fun _ _ _ h => h) (Sd.of (Mv.refl S22.at') [] rfl) rfl rfl rfl rfl (fun _ hz => (r_load (cs := [.string x2.key, .string x2.val]) TI_81 rfl (F31.ev 23 rfl) rfl (fun h => nomatch h) (elem_sub (f := 0) (cl30 _ hz.kp) [.string x2.key, .string x2.val] rfl))) fun _ F32 => ?_
         refine g_take F32 rfl (i := 8) (listed' := #[true, true, true, true, true, true, true, true, true]) rfl (by kernel_rfl) (by kernel_rfl) (by kernel_rfl) (fun _ _ _ h => h) (Sd.of (Mv.refl S22.at') [] rfl) rfl rfl rfl rfl (fun _ hz => (r_neqC rfl (F32.ev 20 rfl) (F32.ev 24 rfl))) fun _ F33 => ?_
         refine wpAnyH_done (by kernel_rfl) (x_normal ?_) _
         exact ⟨F33.cut rfl, (S22.pick [] rfl)⟩
       · rintro a34 w34 ⟨F34, S34⟩
         refine x_normal (x_cond (p := x1 ≠ x2) (F34.ev 25 rfl) (fun h35 => ?_) (fun h35 => ?_))
         · skip
           refine wp_seq (wp_region_lit (l_op (f_val F34 rfl rfl (r_assign rfl rfl) rfl fun _ F36 => ?_)))
           have F37 : Fr 26 [(4, .bool false)] _ := F36.cut rfl
           clear F34 F36
           refine s_end (x_normal (wp_ret (x_block_ret (x_then_ret (x_then_ret (x_block_ret (x_then_ret ?_)))))))
           refine x_done (v := .bool false) F37 (results_1 Tryd.results28 (.tmp (F37.ev 4 rfl))) ?_
           exact ⟨(by rw [(show false = (decide (a = b)) from by first | exact (eqL_len ln_a ln_b (by assumption)).symm | exact (eqL_at hx1 hx2 (by assumption)).symm | exact (eqL_end hk_1 (by omega) (by omega)).symm)]), (Mv.pick (S14.trans S34) [] rfl)⟩
         · skip
           refine wp_skip (x_block_normal (x_normal (wp_region_lit (l_op (f_mv F34 rfl rfl rfl rfl rfl fun _ F38 => ?_)))))
           refine l_op (f_val F38 rfl rfl (r_add (z := ((k + 1 : Nat) : Int)) rfl (F38.ev 15 rfl) rfl (by first | rfl | omega) ⟨by first | omega | (unfold i64ok at *; omega), by first | omega | (unfold i64ok at *; omega)⟩) rfl fun _ F39 => ?_)
           refine l_op (f_as F39 rfl rfl rfl rfl rfl fun _ F40 => ?_)
           have F41 : Fr 26 [(5, .int .i64 ((k + 1 : Nat) : Int)), (0, .slice a_a a_n a_c), (1, .slice b_a b_n b_c)] _ := F40.cut rfl
           clear F34 F38 F39 F40
           refine s_end ?_
           refine x_normal ⟨k + 1, by omega, F41.cut rfl, ((S14.trans S34).pick [] rfl), by omega, eqL_step hk_1 hx1 hx2 (by assumption)⟩
     · skip
       refine wp_exit (x_then_exit (x_then_exit (x_block_here (x_normal (wp_seq (wp_region_lit (l_op (f_val F19 rfl rfl (r_assign rfl rfl) rfl fun _ F42 => ?_))))))))
       have F43 : Fr 26 [(4, .bool true)] _ := F42.cut rfl
       clear F19 F42
       refine s_end (x_normal (wp_ret ?_))
       refine x_done (v := .bool true) F43 (results_1 Tryd.results28 (.tmp (F43.ev 4 rfl))) ?_
       exact ⟨(by rw [(show true = (decide (a = b)) from by first | exact (eqL_len ln_a ln_b (by assumption)).symm | exact (eqL_at hx1 hx2 (by assumption)).symm | exact (eqL_end hk_1 (by omega) (by omega)).symm)]), (Mv.pick S14 [] rfl)⟩
theorem laws_FnFileLimit_c {w : World} {H : Nat → Prop} {code : List Nat} {code_a : Option Addr} {code_n code_c : Nat} (v_code : RdA 1 encB okB H w (.slice code_a code_n code_c) code) (tab0 : Tb 0 H w) (tab1 : Tb 1 H w) :
    Calls Tryd.prog 7 #[.slice code_a code_n code_c] w fun e w' => e = .returned (.bool true) ∧ Mv [] w [] w' := by
 have V_v_code : RdA 1 encB okB (V H w []) w (.slice code_a code_n code_c) code := RdA.start v_code (fun _ _ => fps_nil _)
 obtain ⟨ln_code, le_code, mx_code, ni_code⟩ := RdA.inv v_code
 have V_tab0 : Tb 0 (V H w []) w := Tb.start tab0 (fun _ _ => fps_nil _)
 have V_tab1 : Tb 1 (V H w []) w := Tb.start tab1 (fun _ _ => fps_nil _)
 refine calls_enter 71 Tryd.func7 rfl Tryd.ntmps7 (Nat.le_of_ble_eq_true rfl) (fun _ F0i => ?_)
 have F0 : Fr 71 [(0, .slice code_a code_n code_c)] _ := F0i
 clear F0i
 refine wp_seq (wp_region_lit (l_op (f_val F0 rfl rfl (r_assign rfl rfl) rfl fun _ F1 => ?_)))
 have F2 : Fr 71 [(2, .bool false), (0, .slice code_a code_n code_c)] _ := F1.cut rfl
 clear F0 F1
 refine s_end (x_normal (wp_seq (wp_seq (wp_region_lit (l_op (f_mv F2 rfl rfl rfl rfl rfl fun _ F3 => ?_))))))
 refine l_op (f_call F3 CF_15 rfl rfl rfl rfl (lc (F3.ev 12 rfl) rfl) (laws_big_c (code := code) V_v_code) ?_)
 rintro _ w4 ⟨rfl, m4⟩
 refine ⟨_, rfl, fun _ F5 => ?_⟩
 have S4 := At.frame0 (At.nil w) m4
 clear m4
 have F6 : Fr 71 [(13, .bool (decide (code.length > 1048576))), (0, .slice code_a code_n code_c)] _ := F5.cut rfl
 clear F2 F3 F5
 have T7 : Mv _ _ [] _ := S4
 refine s_end (x_normal (x_cond (p := code.length > 1048576) (F6.ev 13 rfl) (fun h8 => ?_) (fun h8 => ?_)))
 · skip
   refine wp_seq (wp_region_lit (l_op (f_val F6 rfl rfl (r_assign rfl rfl) rfl fun _ F9 => ?_)))
   have F10 : Fr 71 [(2, .bool true)] _ := F9.cut rfl
   clear F6 F9
   refine s_end (x_normal (wp_ret (x_then_ret ?_)))
   refine x_done (v := .bool true) F10 (results_1 Tryd.results7 (.tmp (F10.ev 2 rfl))) ?_
   exact ⟨rfl, (Mv.pick T7 [] rfl)⟩
 · skip
   refine wp_skip (x_normal (wp_seq (wp_region_lit (l_op (f_call F6 CF_17 rfl rfl rfl rfl rfl (laws_base_c (H := V H w [])  ) ?_)))))
   rintro _ w11 ⟨r0_store_a_11, r0_store_n_11, r0_store_c_11, r0_touch_reads_a_11, r0_touch_reads_n_11, r0_touch_reads_c_11, r0_touch_writes_a_11, r0_touch_writes_n_11, r0_touch_writes_c_11, rfl, m11, v11_0, v11_1, v11_2⟩
   refine ⟨_, rfl, fun _ F12 => ?_⟩
   have S11 := At.frame0 T7.at' m11
   have V11_0 := Rd.got0 T7.at' (T7.kp.size) v11_0 S11
   obtain ⟨ln11_0, le11_0, mx11_0, ni11_0⟩ := Rd.inv V11_0
   have V11_1 := Rd.got0 T7.at' (T7.kp.size) v11_1 S11
   obtain ⟨ln11_1, le11_1, mx11_1, ni11_1⟩ := Rd.inv V11_1
   have V11_2 := Rd.got0 T7.at' (T7.kp.size) v11_2 S11
   obtain ⟨ln11_2, le11_2, mx11_2, ni11_2⟩ := Rd.inv V11_2
   clear m11 v11_0 v11_1 v11_2
   refine l_op (f_alloc F12 S11.at' ZI_31 rfl rfl rfl rfl rfl fun b13 _ w13 F14 S13 => ?_)
   refine l_op (s_store S13.at' 0 TI_31 rfl rfl rfl rfl rfl (F14.ev 3 rfl) (F14.ev 14 rfl) rfl rfl rfl rfl rfl fun w15 S15 => ?_)
   have F16 : Fr 71 [(3, .pointer (some ⟨b13, 0, none⟩)), (14, .agg #[.slice r0_store_a_11 r0_store_n_11 r0_store_c_11, .slice r0_touch_reads_a_11 r0_touch_reads_n_11 r0_touch_reads_c_11, .slice r0_touch_writes_a_11 r0_touch_writes_n_11 r0_touch_writes_c_11]), (0, .slice code_a code_n code_c)] _ := F14.cut rfl
   clear F6 F12 F14
   have T17 : Mv _ _ [bx b13 [.slice r0_store_a_11 r0_store_n_11 r0_store_c_11, .slice r0_touch_reads_a_11 r0_touch_reads_n_11 r0_touch_reads_c_11, .slice r0_touch_writes_a_11 r0_touch_writes_n_11 r0_touch_writes_c_11] 31] _ := S15
   refine s_end (x_normal (wp_seq (wp_seq (wp_region_lit (l_op (f_val F16 rfl rfl (r_assign rfl rfl) rfl fun _ F18 => ?_))))))
   have F19 : Fr 71 [(4, .int .i64 0), (3, .pointer (some ⟨b13, 0, none⟩)), (0, .slice code_a code_n code_c)] _ := F18.cut rfl
   clear F16 F18
   refine s_end (x_normal (wp_block ?_))
   refine x_loop (fun (k : Nat) aZ wZ => ∃ (M : MachD), ∃ (sa : Option Addr), ∃ (sn : Nat), ∃ (sc : Nat), ∃ (ra : Option Addr), ∃ (rn : Nat), ∃ (rc : Nat), ∃ (ua : Option Addr), ∃ (un : Nat), ∃ (uc : Nat), Fr 71 [(4, .int .i64 ((k : Nat) : Int)), (3, .pointer (some ⟨b13, 0, none⟩)), (0, .slice code_a code_n code_c)] aZ ∧ Mv [bx b13 [.slice r0_store_a_11 r0_store_n_11 r0_store_c_11, .slice r0_touch_reads_a_11 r0_touch_reads_n_11 r0_touch_reads_c_11, .slice r0_touch_writes_a_11 r0_touch_writes_n_11 r0_touch_writes_c_11] 31] w15 [bx b13 [.slice sa sn sc, .slice ra rn rc, .slice ua un uc] 31] wZ ∧ Rd 2 encC okC (V H w [bx b13 [.slice sa sn sc, .slice ra rn rc, .slice ua un uc] 31]) wZ (.slice sa sn sc) M.store ∧ Rd 1 encS okS (V H w [bx b13 [.slice sa sn sc, .slice ra rn rc, .slice ua un uc] 31]) wZ (.slice ra rn rc) M.touch.reads ∧ Rd 1 encS okS (V H w [bx b13 [.slice sa sn sc, .slice ra rn rc, .slice ua un uc] 31]) wZ (.slice ua un uc) M.touch.writes ∧ (files k M) ∧ (k ≤ 20)) (fun (k : Nat) => 20 - k) (0) ?_ ?_
   · exact ⟨(⟨[], (⟨[], []⟩ : TouchD)⟩ : MachD), r0_store_a_11, r0_store_n_11, r0_store_c_11, r0_touch_reads_a_11, r0_touch_reads_n_11, r0_touch_reads_c_11, r0_touch_writes_a_11, r0_touch_writes_n_11, r0_touch_writes_c_11, F19.cut rfl, (Mv.refl T17.at'), (Rd.mv (Nat.succ_pos _) V11_0 (S13.trans T17)), (Rd.mv (Nat.succ_pos _) V11_1 (S13.trans T17)), (Rd.mv (Nat.succ_pos _) V11_2 (S13.trans T17)), files_base, by omega⟩
   · rintro k a20 w20 ⟨M, sa, sn, sc, ra, rn, rc, ua, un, uc, F20, S20, W20_0, W20_1, W20_2, hk_0, hk_1⟩
     obtain ⟨lv20_0, lw20_0, lx20_0, ly20_0⟩ := Rd.inv W20_0
     obtain ⟨lv20_1, lw20_1, lx20_1, ly20_1⟩ := Rd.inv W20_1
     obtain ⟨lv20_2, lw20_2, lx20_2, ly20_2⟩ := Rd.inv W20_2
     have hbM := hk_0.2.2.2.2
     refine wp_seq (wp_seq (wp_region_lit (l_op (f_mv F20 rfl rfl rfl rfl rfl fun _ F21 => ?_))))
     refine l_op (f_val F21 rfl rfl (r_cmp (b := decide (k < 20)) (.inr (.inr (.inl rfl))) rfl (F21.ev 15 rfl) rfl (dec_of (by omega))) rfl fun _ F22 => ?_)
     have F23 : Fr 71 [(16, .bool (decide (k < 20))), (4, .int .i64 ((k : Nat) : Int)), (3, .pointer (some ⟨b13, 0, none⟩)), (0, .slice code_a code_n code_c)] _ := F22.cut rfl
     clear F20 F21 F22
     refine s_end (x_normal (x_cond (p := k < 20) (F23.ev 16 rfl) (fun h24 => ?_) (fun h24 => ?_)))
     · skip
       refine wp_skip (x_normal (wp_seq (wp_block (wp_seq (wp_region_lit (l_op (f_val F23 rfl rfl (r_assign rfl rfl) rfl fun _ F25 => ?_)))))))
       have F26 : Fr 71 [(5, .int .i64 0), (4, .int .i64 ((k : Nat) : Int)), (3, .pointer (some ⟨b13, 0, none⟩)), (0, .slice code_a code_n code_c)] _ := F25.cut rfl
       clear F23 F25
       refine s_end (x_normal (wp_seq ?_))
       refine x_draw (fun aZ wZ => ∃ (r0_store_a_35 : Option Addr), ∃ (r0_store_n_35 : Nat), ∃ (r0_store_c_35 : Nat), ∃ (r0_touch_reads_a_35 : Option Addr), ∃ (r0_touch_reads_n_35 : Nat), ∃ (r0_touch_reads_c_35 : Nat), ∃ (r0_touch_writes_a_35 : Option Addr), ∃ (r0_touch_writes_n_35 : Nat), ∃ (r0_touch_writes_c_35 : Nat), Fr 71 [(0, .slice code_a code_n code_c), (3, .pointer (some ⟨b13, 0, none⟩)), (4, .int .i64 ((k : Nat) : Int)), (5, .int .i64 (mnC M ((⟨#[102]⟩ : ByteArray) ++ (decS ((k : Nat) : Int)))))] aZ ∧ Mv [bx b13 [.slice sa sn sc, .slice ra rn rc, .slice ua un uc] 31] w20 [bx b13 [.slice r0_store_a_35 r0_store_n_35 r0_store_c_35, .slice r0_touch_reads_a_35 r0_touch_reads_n_35 r0_touch_reads_c_35, .slice r0_touch_writes_a_35 r0_touch_writes_n_35 r0_touch_writes_c_35] 31, ow 81 2 encC okC (.slice r0_store_a_35 r0_store_n_35 r0_store_c_35) (mnM M ((⟨#[102]⟩ : ByteArray) ++ (decS ((k : Nat) : Int)))).store, ow 9 1 encS okS (.slice r0_touch_reads_a_35 r0_touch_reads_n_35 r0_touch_reads_c_35) (mnM M ((⟨#[102]⟩ : ByteArray) ++ (decS ((k : Nat) : Int)))).touch.reads, ow 9 1 encS okS (.slice r0_touch_writes_a_35 r0_touch_writes_n_35 r0_touch_writes_c_35) (mnM M ((⟨#[102]⟩ : ByteArray) ++ (decS ((k : Nat) : Int)))).touch.writes] wZ) [] mixed S20.at' (listed := #[false, false, false, false, false, false, false, false, false, false, false]) rfl (fun w28 S28 => ?_) [] rfl ?_
       · skip
         refine g_take F26 rfl (i := 1) (listed' := #[false, true, false, false, false, false, false, false, false, false, false]) rfl (by kernel_rfl) (by kernel_rfl) (by kernel_rfl) (fun _ _ _ h => h) (Sd.of (Mv.refl S28.at') [] rfl) rfl rfl rfl rfl (fun _ hz => (r_move rfl (F26.ev 4 rfl))) fun _ F29 => ?_
         refine d_all (rs := [0, 2]) rfl (by kernel_rfl) (by simp) (d_cons (i := 0) (listed' := #[true, true, false, false, false, false, false, false, false, false, false]) rfl rfl ?_ (d_cons (i := 2) (listed' := #[false, true, true, false, false, false, false, false, false, false, false]) rfl rfl ?_ d_nil))
         · skip
           refine f_val (v := .agg #[.slice sa sn sc, .slice ra rn rc, .slice ua un uc]) F29 rfl rfl (r_loadB S28.at' 0 TI_31 rfl rfl (F29.ev 3 rfl) rfl rfl (fun h => nomatch h) rfl) rfl fun _ F30 => ?_
           refine ⟨Sd.of (Mv.refl S28.at') [] rfl, ?_⟩
           refine d_one (i := 2) (listed' := #[true, true, true, false, false, false, false, false, false, false, false]) rfl (by kernel_rfl) rfl rfl ?_
           refine f_call F30 CF_19 rfl rfl rfl rfl (lc (F30.ev 21 rfl) rfl) (impl_Decimal_c (n := ((k : Nat) : Int)) (by first | assumption | exact ⟨by omega, by omega⟩ | (unfold i64ok at *; omega)) (Tb.mv V_tab0 (T7.trans (S11.trans (S13.trans (T17.trans (S20.trans S28))))))) ?_
           rintro _ w31 ⟨rfl, m31, ok_r0_31⟩
           refine ⟨_, rfl, fun _ F32 => ?_⟩
           have S31 := At.frame0 S28.at' m31
           clear m31
           refine ⟨Sd.of S31 [] rfl, ?_⟩
           have k33 : (⟨#[102]⟩ : ByteArray).size + (decS ((k : Nat) : Int)).size ≤ 9223372036854775807 := by exact Nat.le_trans (Nat.add_le_add_left (decS_size _ ⟨by omega, by omega⟩) _) (by decide)
           refine g_take F32 rfl (i := 3) (listed' := #[true, true, true, true, false, false, false, false, false, false, false]) rfl (by kernel_rfl) (by kernel_rfl) (by kernel_rfl) (fun _ _ _ h => h) (Sd.of S31 [] rfl) rfl rfl rfl rfl (fun _ hz => (r_cat rfl rfl (F32.ev 22 rfl) k33)) fun _ F34 => ?_
           refine d_one (i := 4) (listed' := #[true, true, true, true, true, false, false, false, false, false, false]) rfl (by kernel_rfl) rfl rfl ?_
           refine f_call F34 CF_26 rfl rfl rfl rfl (lc (F34.ev 20 rfl) (lc (F34.ev 23 rfl) rfl)) (impl_MakeName_c (m := M) (name := (⟨#[102]⟩ : ByteArray) ++ (decS ((k : Nat) : Int))) (Rd.mv (Nat.succ_pos _) W20_0 (S28.trans S31)) (Rd.mv (Nat.succ_pos _) W20_1 (S28.trans S31)) (Rd.mv (Nat.succ_pos _) W20_2 (S28.trans S31)) (okS_cat k33) (Tb.mv V_tab0 (T7.trans (S11.trans (S13.trans (T17.trans (S20.trans (S28.trans S31))))))) (Tb.mv V_tab1 (T7.trans (S11.trans (S13.trans (T17.trans (S20.trans (S28.trans S31))))))) (by first | assumption | omega | (refine bdC.s ?_; (repeat (first | with_reducible refine bdC.look ?_ | with_reducible refine bdC.lay ?_ | with_reducible refine bdC.set ?_ | with_reducible refine bdC.mn ?_)); exact bdC.le (by assumption) (by first | decide | omega)) | (refine bdC.r ?_; (repeat (first | with_reducible refine bdC.look ?_ | with_reducible refine bdC.lay ?_ | with_reducible refine bdC.set ?_ | with_reducible refine bdC.mn ?_)); exact bdC.le (by assumption) (by first | decide | omega)) | (refine bdC.w ?_; (repeat (first | with_reducible refine bdC.look ?_ | with_reducible refine bdC.lay ?_ | with_reducible refine bdC.set ?_ | with_reducible refine bdC.mn ?_)); exact bdC.le (by assumption) (by first | decide | omega)) | ((repeat (first | with_reducible refine bdC.look ?_ | with_reducible refine bdC.lay ?_ | with_reducible refine bdC.set ?_ | with_reducible refine bdC.mn ?_)); exact bdC.le (by assumption) (by first | decide | omega)) | decide | exact Nat.le_trans (keyNum_size _ _ (by assumption)) (by decide) | exact Nat.le_trans (keyNum_size _ _ ⟨by omega, by omega⟩) (by decide))) ?_
           rintro _ w35 ⟨r0_store_a_35, r0_store_n_35, r0_store_c_35, r0_touch_reads_a_35, r0_touch_reads_n_35, r0_touch_reads_c_35, r0_touch_writes_a_35, r0_touch_writes_n_35, r0_touch_writes_c_35, rfl, m35⟩
           refine ⟨_, rfl, fun _ F36 => ?_⟩
           have S35 : Mv _ _ [ow 81 2 encC okC (.slice r0_store_a_35 r0_store_n_35 r0_store_c_35) (mnM M ((⟨#[102]⟩ : ByteArray) ++ (decS ((k : Nat) : Int)))).store, ow 9 1 encS okS (.slice r0_touch_reads_a_35 r0_touch_reads_n_35 r0_touch_reads_c_35) (mnM M ((⟨#[102]⟩ : ByteArray) ++ (decS ((k : Nat) : Int)))).touch.reads, ow 9 1 encS okS (.slice r0_touch_writes_a_35 r0_touch_writes_n_35 r0_touch_writes_c_35) (mnM M ((⟨#[102]⟩ : ByteArray) ++ (decS ((k : Nat) : Int)))).touch.writes, bx b13 [.slice sa sn sc, .slice ra rn rc, .slice ua un uc] 31] _ := At.frame S31.at' [] rfl m35
           obtain ⟨lo35_0, lp35_0, lq35_0⟩ := At.ownInv S35.at' ET_26.hk 0 rfl
           obtain ⟨lo35_1, lp35_1, lq35_1⟩ := At.ownInv S35.at' ET_27.hk 1 rfl
           obtain ⟨lo35_2, lp35_2, lq35_2⟩ := At.ownInv S35.at' ET_27.hk 2 rfl
           clear m35
           refine ⟨Sd.of (S31.trans S35) [] rfl, ?_⟩
           refine g_take F36 rfl (i := 5) (listed' := #[true, true, true, true, true, true, false, false, false, false, false]) rfl (by kernel_rfl) (by kernel_rfl) (by kernel_rfl) (fun _ _ _ h => h) (Sd.of (S31.trans S35) [] rfl) rfl rfl rfl rfl (fun _ hz => (r_move rfl (F36.ev 24 rfl))) fun _ F37 => ?_
           refine g_take (v := .agg #[.slice r0_store_a_35 r0_store_n_35 r0_store_c_35, .slice r0_touch_reads_a_35 r0_touch_reads_n_35 r0_touch_reads_c_35, .slice r0_touch_writes_a_35 r0_touch_writes_n_35 r0_touch_writes_c_35]) F37 rfl (i := 6) (listed' := #[true, true, true, true, true, true, true, false, false, false, false]) rfl (by kernel_rfl) (by kernel_rfl) (by kernel_rfl) (fun _ _ _ h => h) (Sd.of (S31.trans S35) [] rfl) rfl rfl rfl rfl (fun _ hz => (r_extract rfl (F37.ev 19 rfl) rfl)) fun _ F38 => ?_
           refine g_take (v := .int .i64 ((mnI M ((⟨#[102]⟩ : ByteArray) ++ (decS ((k : Nat) : Int))) : Nat) : Int)) F38 rfl (i := 7) (listed' := #[true, true, true, true, true, true, true, true, false, false, false]) rfl (by kernel_rfl) (by kernel_rfl) (by kernel_rfl) (fun _ _ _ h => h) (Sd.of (S31.trans S35) [] rfl) rfl rfl rfl rfl (fun _ hz => (r_extract rfl (F38.ev 19 rfl) rfl)) fun _ F39 => ?_
           refine g_take (v := .int .i64 (mnC M ((⟨#[102]⟩ : ByteArray) ++ (decS ((k : Nat) : Int))))) F39 rfl (i := 8) (listed' := #[true, true, true, true, true, true, true, true, true, false, false]) rfl (by kernel_rfl) (by kernel_rfl) (by kernel_rfl) (fun _ _ _ h => h) (Sd.of (S31.trans S35) [] rfl) rfl rfl rfl rfl (fun _ hz => (r_extract rfl (F39.ev 19 rfl) rfl)) fun _ F40 => ?_
           refine d_one (i := 9) (listed' := #[true, true, true, true, true, true, true, true, true, true, false]) rfl (by kernel_rfl) rfl rfl ?_
           refine s_store S35.at' 3 TI_31 rfl rfl rfl rfl rfl (F40.ev 3 rfl) (F40.ev 25 rfl) rfl rfl rfl rfl rfl fun w41 S41 => ?_
           refine ⟨Sd.of (S31.trans (S35.trans S41)) [] rfl, ?_⟩
           refine g_take F40 rfl (i := 10) (listed' := #[true, true, true, true, true, true, true, true, true, true, true]) rfl (by kernel_rfl) (by kernel_rfl) (by kernel_rfl) (fun _ _ _ h => h) (Sd.of (S31.trans (S35.trans S41)) [] rfl) rfl rfl rfl rfl (fun _ hz => (r_assign rfl (F40.ev 27 rfl))) fun _ F42 => ?_
           refine wpAnyH_done (by kernel_rfl) (x_normal ?_) _
           exact ⟨r0_store_a_35, r0_store_n_35, r0_store_c_35, r0_touch_reads_a_35, r0_touch_reads_n_35, r0_touch_reads_c_35, r0_touch_writes_a_35, r0_touch_writes_n_35, r0_touch_writes_c_35, F42.cut rfl, ((S28.trans (S31.trans (S35.trans S41))).pick [0, 1, 2, 3] rfl)⟩
         · skip
           refine f_call F29 CF_19 rfl rfl rfl rfl (lc (F29.ev 21 rfl) rfl) (impl_Decimal_c (n := ((k : Nat) : Int)) (by first | assumption | exact ⟨by omega, by omega⟩ | (unfold i64ok at *; omega)) (Tb.mv V_tab0 (T7.trans (S11.trans (S13.trans (T17.trans (S20.trans S28))))))) ?_
           rintro _ w43 ⟨rfl, m43, ok_r0_43⟩
           refine ⟨_, rfl, fun _ F44 => ?_⟩
           have S43 := At.frame0 S28.at' m43
           clear m43
           refine ⟨Sd.of S43 [] rfl, ?_⟩
           have k45 : (⟨#[102]⟩ : ByteArray).size + (decS ((k : Nat) : Int)).size ≤ 9223372036854775807 := by exact Nat.le_trans (Nat.add_le_add_left (decS_size _ ⟨by omega, by omega⟩) _) (by decide)
           refine g_take F44 rfl (i := 3) (listed' := #[false, true, true, true, false, false, false, false, false, false, false]) rfl (by kernel_rfl) (by kernel_rfl) (by kernel_rfl) (fun _ _ _ h => h) (Sd.of S43 [] rfl) rfl rfl rfl rfl (fun _ hz => (r_cat rfl rfl (F44.ev 22 rfl) k45)) fun _ F46 => ?_
           refine d_one (i := 0) (listed' := #[true, true, true, true, false, false, false, false, false, false, false]) rfl (by kernel_rfl) rfl rfl ?_
           refine f_val (v := .agg #[.slice sa sn sc, .slice ra rn rc, .slice ua un uc]) F46 rfl rfl (r_loadB S43.at' 0 TI_31 rfl rfl (F46.ev 3 rfl) rfl rfl (fun h => nomatch h) rfl) rfl fun _ F47 => ?_
           refine ⟨Sd.of S43 [] rfl, ?_⟩
           refine d_one (i := 4) (listed' := #[true, true, true, true, true, false, false, false, false, false, false]) rfl (by kernel_rfl) rfl rfl ?_
           refine f_call F47 CF_26 rfl rfl rfl rfl (lc (F47.ev 20 rfl) (lc (F47.ev 23 rfl) rfl)) (impl_MakeName_c (m := M) (name := (⟨#[102]⟩ : ByteArray) ++ (decS ((k : Nat) : Int))) (Rd.mv (Nat.succ_pos _) W20_0 (S28.trans S43)) (Rd.mv (Nat.succ_pos _) W20_1 (S28.trans S43)) (Rd.mv (Nat.succ_pos _) W20_2 (S28.trans S43)) (okS_cat k45) (Tb.mv V_tab0 (T7.trans (S11.trans (S13.trans (T17.trans (S20.trans (S28.trans S43))))))) (Tb.mv V_tab1 (T7.trans (S11.trans (S13.trans (T17.trans (S20.trans (S28.trans S43))))))) (by first | assumption | omega | (refine bdC.s ?_; (repeat (first | with_reducible refine bdC.look ?_ | with_reducible refine bdC.lay ?_ | with_reducible refine bdC.set ?_ | with_reducible refine bdC.mn ?_)); exact bdC.le (by assumption) (by first | decide | omega)) | (refine bdC.r ?_; (repeat (first | with_reducible refine bdC.look ?_ | with_reducible refine bdC.lay ?_ | with_reducible refine bdC.set ?_ | with_reducible refine bdC.mn ?_)); exact bdC.le (by assumption) (by first | decide | omega)) | (refine bdC.w ?_; (repeat (first | with_reducible refine bdC.look ?_ | with_reducible refine bdC.lay ?_ | with_reducible refine bdC.set ?_ | with_reducible refine bdC.mn ?_)); exact bdC.le (by assumption) (by first | decide | omega)) | ((repeat (first | with_reducible refine bdC.look ?_ | with_reducible refine bdC.lay ?_ | with_reducible refine bdC.set ?_ | with_reducible refine bdC.mn ?_)); exact bdC.le (by assumption) (by first | decide | omega)) | decide | exact Nat.le_trans (keyNum_size _ _ (by assumption)) (by decide) | exact Nat.le_trans (keyNum_size _ _ ⟨by omega, by omega⟩) (by decide))) ?_
           rintro _ w48 ⟨r0_store_a_48, r0_store_n_48, r0_store_c_48, r0_touch_reads_a_48, r0_touch_reads_n_48, r0_touch_reads_c_48, r0_touch_writes_a_48, r0_touch_writes_n_48, r0_touch_writes_c_48, rfl, m48⟩
           refine ⟨_, rfl, fun _ F49 => ?_⟩
           have S48 : Mv _ _ [ow 81 2 encC okC (.slice r0_store_a_48 r0_store_n_48 r0_store_c_48) (mnM M ((⟨#[102]⟩ : ByteArray) ++ (decS ((k : Nat) : Int)))).store, ow 9 1 encS okS (.slice r0_touch_reads_a_48 r0_touch_reads_n_48 r0_touch_reads_c_48) (mnM M ((⟨#[102]⟩ : ByteArray) ++ (decS ((k : Nat) : Int)))).touch.reads, ow 9 1 encS okS (.slice r0_touch_writes_a_48 r0_touch_writes_n_48 r0_touch_writes_c_48) (mnM M ((⟨#[102]⟩ : ByteArray) ++ (decS ((k : Nat) : Int)))).touch.writes, bx b13 [.slice sa sn sc, .slice ra rn rc, .slice ua un uc] 31] _ := At.frame S43.at' [] rfl m48
           obtain ⟨lo48_0, lp48_0, lq48_0⟩ := At.ownInv S48.at' ET_26.hk 0 rfl
           obtain ⟨lo48_1, lp48_1, lq48_1⟩ := At.ownInv S48.at' ET_27.hk 1 rfl
           obtain ⟨lo48_2, lp48_2, lq48_2⟩ := At.ownInv S48.at' ET_27.hk 2 rfl
           clear m48
           refine ⟨Sd.of (S43.trans S48) [] rfl, ?_⟩
           refine g_take F49 rfl (i := 5) (listed' := #[true, true, true, true, true, true, false, false, false, false, false]) rfl (by kernel_rfl) (by kernel_rfl) (by kernel_rfl) (fun _ _ _ h => h) (Sd.of (S43.trans S48) [] rfl) rfl rfl rfl rfl (fun _ hz => (r_move rfl (F49.ev 24 rfl))) fun _ F50 => ?_
           refine g_take (v := .agg #[.slice r0_store_a_48 r0_store_n_48 r0_store_c_48, .slice r0_touch_reads_a_48 r0_touch_reads_n_48 r0_touch_reads_c_48, .slice r0_touch_writes_a_48 r0_touch_writes_n_48 r0_touch_writes_c_48]) F50 rfl (i := 6) (listed' := #[true, true, true, true, true, true, true, false, false, false, false]) rfl (by kernel_rfl) (by kernel_rfl) (by kernel_rfl) (fun _ _ _ h => h) (Sd.of (S43.trans S48) [] rfl) rfl rfl rfl rfl (fun _ hz => (r_extract rfl (F50.ev 19 rfl) rfl)) fun _ F51 => ?_
           refine g_take (v := .int .i64 ((mnI M ((⟨#[102]⟩ : ByteArray) ++ (decS ((k : Nat) : Int))) : Nat) : Int)) F51 rfl (i := 7) (listed' := #[true, true, true, true, true, true, true, true, false, false, false]) rfl (by kernel_rfl) (by kernel_rfl) (by kernel_rfl) (fun _ _ _ h => h) (Sd.of (S43.trans S48) [] rfl) rfl rfl rfl rfl (fun _ hz => (r_extract rfl (F51.ev 19 rfl) rfl)) fun _ F52 => ?_
           refine g_take (v := .int .i64 (mnC M ((⟨#[102]⟩ : ByteArray) ++ (decS ((k : Nat) : Int))))) F52 rfl (i := 8) (listed' := #[true, true, true, true, true, true, true, true, true, false, false]) rfl (by kernel_rfl) (by kernel_rfl) (by kernel_rfl) (fun _ _ _ h => h) (Sd.of (S43.trans S48) [] rfl) rfl rfl rfl rfl (fun _ hz => (r_extract rfl (F52.ev 19 rfl) rfl)) fun _ F53 => ?_
           refine d_one (i := 9) (listed' := #[true, true, true, true, true, true, true, true, true, true, false]) rfl (by kernel_rfl) rfl rfl ?_
           refine s_store S48.at' 3 TI_31 rfl rfl rfl rfl rfl (F53.ev 3 rfl) (F53.ev 25 rfl) rfl rfl rfl rfl rfl fun w54 S54 => ?_
           refine ⟨Sd.of (S43.trans (S48.trans S54)) [] rfl, ?_⟩
           refine g_take F53 rfl (i := 10) (listed' := #[true, true, true, true, true, true, true, true, true, true, true]) rfl (by kernel_rfl) (by kernel_rfl) (by kernel_rfl) (fun _ _ _ h => h) (Sd.of (S43.trans (S48.trans S54)) [] rfl) rfl rfl rfl rfl (fun _ hz => (r_assign rfl (F53.ev 27 rfl))) fun _ F55 => ?_
           refine wpAnyH_done (by kernel_rfl) (x_normal ?_) _
           exact ⟨r0_store_a_48, r0_store_n_48, r0_store_c_48, r0_touch_reads_a_48, r0_touch_reads_n_48, r0_touch_reads_c_48, r0_touch_writes_a_48, r0_touch_writes_n_48, r0_touch_writes_c_48, F55.cut rfl, ((S28.trans (S43.trans (S48.trans S54))).pick [0, 1, 2, 3] rfl)⟩
       · rintro a56 w56 ⟨r0_store_a_35, r0_store_n_35, r0_store_c_35, r0_touch_reads_a_35, r0_touch_reads_n_35, r0_touch_reads_c_35, r0_touch_writes_a_35, r0_touch_writes_n_35, r0_touch_writes_c_35, F56, S56⟩
         refine x_normal (wp_seq (wp_region_lit (l_op (f_mv F56 rfl rfl rfl rfl rfl fun _ F57 => ?_))))
         refine l_op (f_val F57 rfl rfl (r_cmp (b := decide ((mnC M ((⟨#[102]⟩ : ByteArray) ++ (decS ((k : Nat) : Int)))) ≠ 0)) (.inr (.inl rfl)) rfl (F57.ev 28 rfl) rfl (dec_of (by omega))) rfl fun _ F58 => ?_)
         rw [show (decide ((mnC M ((⟨#[102]⟩ : ByteArray) ++ (decS ((k : Nat) : Int)))) ≠ 0)) = false from decide_eq_false (fun h => h (files.step hk_0 (by omega)).1)] at F58
         have F59 : Fr 71 [(29, .bool false), (0, .slice code_a code_n code_c), (3, .pointer (some ⟨b13, 0, none⟩)), (4, .int .i64 ((k : Nat) : Int))] _ := F58.cut rfl
         clear F56 F57 F58
         refine s_end (x_normal (wp_cond_false (F59.ev 29 rfl) (wp_skip (x_block_normal (x_normal (wp_region_lit (l_op (f_mv F59 rfl rfl rfl rfl rfl fun _ F60 => ?_))))))))
         refine l_op (f_val F60 rfl rfl (r_add (z := ((k + 1 : Nat) : Int)) rfl (F60.ev 17 rfl) rfl (by first | rfl | omega) ⟨by first | omega | (unfold i64ok at *; omega), by first | omega | (unfold i64ok at *; omega)⟩) rfl fun _ F61 => ?_)
         refine l_op (f_as F61 rfl rfl rfl rfl rfl fun _ F62 => ?_)
         have F63 : Fr 71 [(4, .int .i64 ((k + 1 : Nat) : Int)), (0, .slice code_a code_n code_c), (3, .pointer (some ⟨b13, 0, none⟩))] _ := F62.cut rfl
         clear F59 F60 F61 F62
         refine s_end ?_
         have Z64 : Rd 2 encC okC (V H w [bx b13 [.slice r0_store_a_35 r0_store_n_35 r0_store_c_35, .slice r0_touch_reads_a_35 r0_touch_reads_n_35 r0_touch_reads_c_35, .slice r0_touch_writes_a_35 r0_touch_writes_n_35 r0_touch_writes_c_35] 31, ow 9 1 encS okS (.slice r0_touch_reads_a_35 r0_touch_reads_n_35 r0_touch_reads_c_35) (mnM M ((⟨#[102]⟩ : ByteArray) ++ (decS ((k : Nat) : Int)))).touch.reads, ow 9 1 encS okS (.slice r0_touch_writes_a_35 r0_touch_writes_n_35 r0_touch_writes_c_35) (mnM M ((⟨#[102]⟩ : ByteArray) ++ (decS ((k : Nat) : Int)))).touch.writes]) w56 (.slice r0_store_a_35 r0_store_n_35 r0_store_c_35) (mnM M ((⟨#[102]⟩ : ByteArray) ++ (decS ((k : Nat) : Int)))).store := At.freeze (T7.trans (S11.trans (S13.trans (T17.trans (S20.trans S56))))) ET_26.hk 1 rfl (fun b hb => ((T7.trans (S11.trans (S13.trans (T17.trans (S20.trans S56))))).fresh b ⟨_, nth_mem (i := 1) rfl, hb⟩).resolve_left (fps_nil _))
         have S64 := At.drop S56.at' 1
         have Z65 : Rd 1 encS okS (V H w [bx b13 [.slice r0_store_a_35 r0_store_n_35 r0_store_c_35, .slice r0_touch_reads_a_35 r0_touch_reads_n_35 r0_touch_reads_c_35, .slice r0_touch_writes_a_35 r0_touch_writes_n_35 r0_touch_writes_c_35] 31, ow 9 1 encS okS (.slice r0_touch_writes_a_35 r0_touch_writes_n_35 r0_touch_writes_c_35) (mnM M ((⟨#[102]⟩ : ByteArray) ++ (decS ((k : Nat) : Int)))).touch.writes]) w56 (.slice r0_touch_reads_a_35 r0_touch_reads_n_35 r0_touch_reads_c_35) (mnM M ((⟨#[102]⟩ : ByteArray) ++ (decS ((k : Nat) : Int)))).touch.reads := At.freeze (T7.trans (S11.trans (S13.trans (T17.trans (S20.trans (S56.trans S64)))))) ET_27.hk 1 rfl (fun b hb => ((T7.trans (S11.trans (S13.trans (T17.trans (S20.trans (S56.trans S64)))))).fresh b ⟨_, nth_mem (i := 1) rfl, hb⟩).resolve_left (fps_nil _))
         have S65 := At.drop S64.at' 1
         have Z66 : Rd 1 encS okS (V H w [bx b13 [.slice r0_store_a_35 r0_store_n_35 r0_store_c_35, .slice r0_touch_reads_a_35 r0_touch_reads_n_35 r0_touch_reads_c_35, .slice r0_touch_writes_a_35 r0_touch_writes_n_35 r0_touch_writes_c_35] 31]) w56 (.slice r0_touch_writes_a_35 r0_touch_writes_n_35 r0_touch_writes_c_35) (mnM M ((⟨#[102]⟩ : ByteArray) ++ (decS ((k : Nat) : Int)))).touch.writes := At.freeze (T7.trans (S11.trans (S13.trans (T17.trans (S20.trans (S56.trans (S64.trans S65))))))) ET_27.hk 1 rfl (fun b hb => ((T7.trans (S11.trans (S13.trans (T17.trans (S20.trans (S56.trans (S64.trans S65))))))).fresh b ⟨_, nth_mem (i := 1) rfl, hb⟩).resolve_left (fps_nil _))
         have S66 := At.drop S65.at' 1
         refine x_normal ⟨k + 1, by omega, (mnM M ((⟨#[102]⟩ : ByteArray) ++ (decS ((k : Nat) : Int)))), r0_store_a_35, r0_store_n_35, r0_store_c_35, r0_touch_reads_a_35, r0_touch_reads_n_35, r0_touch_reads_c_35, r0_touch_writes_a_35, r0_touch_writes_n_35, r0_touch_writes_c_35, F63.cut rfl, ((S20.trans (S56.trans (S64.trans (S65.trans S66)))).pick [0] rfl), (Rd.mv (Nat.succ_pos _) Z64 (S65.trans S66)), (Rd.mv (Nat.succ_pos _) Z65 S66), Z66, (files.step hk_0 (by omega)).2, by omega⟩
     · skip
       refine wp_exit (x_then_exit (x_then_exit (x_block_here (x_normal (wp_seq (wp_region_lit (l_op (f_mv F23 rfl rfl rfl rfl rfl fun _ F67 => ?_))))))))
       refine l_op (f_call F67 CF_16 rfl rfl rfl rfl (lc (F67.ev 30 rfl) rfl) (spec_DrawPlaces_c (code := code) (RdA.mv (Nat.succ_pos _) V_v_code (T7.trans (S11.trans (S13.trans (T17.trans S20))))) (by first | assumption | omega | (simp <;> omega))) ?_)
       rintro _ w68 ⟨p_68, r0_a_68, r0_n_68, r0_c_68, rfl, m68, v68_0, q68_0, q68_1⟩
       refine ⟨_, rfl, fun _ F69 => ?_⟩
       have S68 := At.frame0 S20.at' m68
       have V68_0 := Rd.got0 S20.at' ((T7.trans (S11.trans (S13.trans (T17.trans S20)))).kp.size) v68_0 S68
       obtain ⟨ln68_0, le68_0, mx68_0, ni68_0⟩ := Rd.inv V68_0
       clear m68 v68_0
       refine l_op (f_as F69 rfl rfl rfl rfl rfl fun _ F70 => ?_)
       have F71 : Fr 71 [(6, .slice r0_a_68 r0_n_68 r0_c_68), (3, .pointer (some ⟨b13, 0, none⟩))] _ := F70.cut rfl
       clear F23 F67 F69 F70
       have T72 : Mv _ _ [bx b13 [.slice sa sn sc, .slice ra rn rc, .slice ua un uc] 31] _ := S68
       refine s_end (x_normal (wp_seq ?_))
       have hP : files 20 M := (show k = 20 by omega) ▸ hk_0
       refine wp_region_lit (l_op (f_val (v := .agg #[.slice sa sn sc, .slice ra rn rc, .slice ua un uc]) F71 rfl rfl (r_loadB T72.at' 0 TI_31 rfl rfl (F71.ev 3 rfl) rfl rfl (fun h => nomatch h) rfl) rfl fun _ F73 => ?_))
       refine l_op (f_call F73 CF_26 rfl rfl rfl rfl (lc (F73.ev 33 rfl) (lc rfl rfl)) (impl_MakeName_c (m := M) (name := (⟨#[103]⟩ : ByteArray)) (Rd.mv (Nat.succ_pos _) W20_0 T72) (Rd.mv (Nat.succ_pos _) W20_1 T72) (Rd.mv (Nat.succ_pos _) W20_2 T72) (by unfold okS; decide) (Tb.mv V_tab0 (T7.trans (S11.trans (S13.trans (T17.trans (S20.trans T72)))))) (Tb.mv V_tab1 (T7.trans (S11.trans (S13.trans (T17.trans (S20.trans T72)))))) (by first | assumption | omega | (refine bdC.s ?_; (repeat (first | with_reducible refine bdC.look ?_ | with_reducible refine bdC.lay ?_ | with_reducible refine bdC.set ?_ | with_reducible refine bdC.mn ?_)); exact bdC.le (by assumption) (by first | decide | omega)) | (refine bdC.r ?_; (repeat (first | with_reducible refine bdC.look ?_ | with_reducible refine bdC.lay ?_ | with_reducible refine bdC.set ?_ | with_reducible refine bdC.mn ?_)); exact bdC.le (by assumption) (by first | decide | omega)) | (refine bdC.w ?_; (repeat (first | with_reducible refine bdC.look ?_ | with_reducible refine bdC.lay ?_ | with_reducible refine bdC.set ?_ | with_reducible refine bdC.mn ?_)); exact bdC.le (by assumption) (by first | decide | omega)) | ((repeat (first | with_reducible refine bdC.look ?_ | with_reducible refine bdC.lay ?_ | with_reducible refine bdC.set ?_ | with_reducible refine bdC.mn ?_)); exact bdC.le (by assumption) (by first | decide | omega)) | decide | exact Nat.le_trans (keyNum_size _ _ (by assumption)) (by decide) | exact Nat.le_trans (keyNum_size _ _ ⟨by omega, by omega⟩) (by decide))) ?_)
       rintro _ w74 ⟨r0_store_a_74, r0_store_n_74, r0_store_c_74, r0_touch_reads_a_74, r0_touch_reads_n_74, r0_touch_reads_c_74, r0_touch_writes_a_74, r0_touch_writes_n_74, r0_touch_writes_c_74, rfl, m74⟩
       refine ⟨_, rfl, fun _ F75 => ?_⟩
       have S74 : Mv _ _ [ow 81 2 encC okC (.slice r0_store_a_74 r0_store_n_74 r0_store_c_74) (mnM M (⟨#[103]⟩ : ByteArray)).store, ow 9 1 encS okS (.slice r0_touch_reads_a_74 r0_touch_reads_n_74 r0_touch_reads_c_74) (mnM M (⟨#[103]⟩ : ByteArray)).touch.reads, ow 9 1 encS okS (.slice r0_touch_writes_a_74 r0_touch_writes_n_74 r0_touch_writes_c_74) (mnM M (⟨#[103]⟩ : ByteArray)).touch.writes, bx b13 [.slice sa sn sc, .slice ra rn rc, .slice ua un uc] 31] _ := At.frame T72.at' [] rfl m74
       obtain ⟨lo74_0, lp74_0, lq74_0⟩ := At.ownInv S74.at' ET_26.hk 0 rfl
       obtain ⟨lo74_1, lp74_1, lq74_1⟩ := At.ownInv S74.at' ET_27.hk 1 rfl
       obtain ⟨lo74_2, lp74_2, lq74_2⟩ := At.ownInv S74.at' ET_27.hk 2 rfl
       clear m74
       refine l_op (f_mv F75 rfl rfl rfl rfl rfl fun _ F76 => ?_)
       refine l_op (f_val (v := .agg #[.slice r0_store_a_74 r0_store_n_74 r0_store_c_74, .slice r0_touch_reads_a_74 r0_touch_reads_n_74 r0_touch_reads_c_74, .slice r0_touch_writes_a_74 r0_touch_writes_n_74 r0_touch_writes_c_74]) F76 rfl rfl (r_extract rfl (F76.ev 32 rfl) rfl) rfl fun _ F77 => ?_)
       refine l_op (f_val (v := .int .i64 ((mnI M (⟨#[103]⟩ : ByteArray) : Nat) : Int)) F77 rfl rfl (r_extract rfl (F77.ev 32 rfl) rfl) rfl fun _ F78 => ?_)
       refine l_op (f_val (v := .int .i64 (mnC M (⟨#[103]⟩ : ByteArray))) F78 rfl rfl (r_extract rfl (F78.ev 32 rfl) rfl) rfl fun _ F79 => ?_)
       refine l_op (f_alloc F79 S74.at' ZI_31 rfl rfl rfl rfl rfl fun b80 _ w80 F81 S80 => ?_)
       refine l_op (s_store S80.at' 0 TI_31 rfl rfl rfl rfl rfl (F81.ev 7 rfl) (F81.ev 35 rfl) rfl rfl rfl rfl rfl fun w82 S82 => ?_)
       refine l_op (f_as F81 rfl rfl rfl rfl rfl fun _ F83 => ?_)
       refine l_op (f_as F83 rfl rfl rfl rfl rfl fun _ F84 => ?_)
       have F85 : Fr 71 [(9, .int .i64 (mnC M (⟨#[103]⟩ : ByteArray))), (8, .int .i64 ((mnI M (⟨#[103]⟩ : ByteArray) : Nat) : Int)), (7, .pointer (some ⟨b80, 0, none⟩)), (6, .slice r0_a_68 r0_n_68 r0_c_68), (3, .pointer (some ⟨b13, 0, none⟩))] _ := F84.cut rfl
       clear F71 F73 F75 F76 F77 F78 F79 F81 F83 F84
       have T86 : Mv _ _ [bx b80 [.slice r0_store_a_74 r0_store_n_74 r0_store_c_74, .slice r0_touch_reads_a_74 r0_touch_reads_n_74 r0_touch_reads_c_74, .slice r0_touch_writes_a_74 r0_touch_writes_n_74 r0_touch_writes_c_74] 31, ow 81 2 encC okC (.slice r0_store_a_74 r0_store_n_74 r0_store_c_74) (mnM M (⟨#[103]⟩ : ByteArray)).store, ow 9 1 encS okS (.slice r0_touch_reads_a_74 r0_touch_reads_n_74 r0_touch_reads_c_74) (mnM M (⟨#[103]⟩ : ByteArray)).touch.reads, ow 9 1 encS okS (.slice r0_touch_writes_a_74 r0_touch_writes_n_74 r0_touch_writes_c_74) (mnM M (⟨#[103]⟩ : ByteArray)).touch.writes, bx b13 [.slice sa sn sc, .slice ra rn rc, .slice ua un uc] 31] _ := S82
       refine s_end (x_normal (wp_seq ?_))
       obtain ⟨x1, hx1, okx1⟩ := Rd.elem (Rd.mv (Nat.succ_pos _) V68_0 (S74.trans (S80.trans T86))) 0 (by first | assumption | omega)
       have pb88 := pOk_at (by assumption) hx1
       obtain ⟨r88, hr88, lr88⟩ := rem_nat (c := 20) pb88 (by decide)
       refine x_draw (fun aZ wZ => ∃ (r0_store_a_100 : Option Addr), ∃ (r0_store_n_100 : Nat), ∃ (r0_store_c_100 : Nat), ∃ (r0_touch_reads_a_100 : Option Addr), ∃ (r0_touch_reads_n_100 : Nat), ∃ (r0_touch_reads_c_100 : Nat), ∃ (r0_touch_writes_a_100 : Option Addr), ∃ (r0_touch_writes_n_100 : Nat), ∃ (r0_touch_writes_c_100 : Nat), ∃ (b105 : Nat), Fr 71 [(3, .pointer (some ⟨b13, 0, none⟩)), (6, .slice r0_a_68 r0_n_68 r0_c_68), (7, .pointer (some ⟨b80, 0, none⟩)), (8, .int .i64 ((mnI M (⟨#[103]⟩ : ByteArray) : Nat) : Int)), (9, .int .i64 (mnC M (⟨#[103]⟩ : ByteArray))), (11, .int .i64 ((fo (mnM M (⟨#[103]⟩ : ByteArray)) ((⟨#[102]⟩ : ByteArray) ++ (decS ((r88 : Nat) : Int))) : Nat) : Int))] aZ ∧ Mv [bx b80 [.slice r0_store_a_74 r0_store_n_74 r0_store_c_74, .slice r0_touch_reads_a_74 r0_touch_reads_n_74 r0_touch_reads_c_74, .slice r0_touch_writes_a_74 r0_touch_writes_n_74 r0_touch_writes_c_74] 31, ow 81 2 encC okC (.slice r0_store_a_74 r0_store_n_74 r0_store_c_74) (mnM M (⟨#[103]⟩ : ByteArray)).store, ow 9 1 encS okS (.slice r0_touch_reads_a_74 r0_touch_reads_n_74 r0_touch_reads_c_74) (mnM M (⟨#[103]⟩ : ByteArray)).touch.reads, ow 9 1 encS okS (.slice r0_touch_writes_a_74 r0_touch_writes_n_74 r0_touch_writes_c_74) (mnM M (⟨#[103]⟩ : ByteArray)).touch.writes, bx b13 [.slice sa sn sc, .slice ra rn rc, .slice ua un uc] 31] w82 [bx b80 [.slice r0_store_a_74 r0_store_n_74 r0_store_c_74, .slice r0_touch_reads_a_74 r0_touch_reads_n_74 r0_touch_reads_c_74, .slice r0_touch_writes_a_74 r0_touch_writes_n_74 r0_touch_writes_c_74] 31, ow 81 2 encC okC (.slice r0_store_a_74 r0_store_n_74 r0_store_c_74) (mnM M (⟨#[103]⟩ : ByteArray)).store, ow 9 1 encS okS (.slice r0_touch_reads_a_74 r0_touch_reads_n_74 r0_touch_reads_c_74) (mnM M (⟨#[103]⟩ : ByteArray)).touch.reads, ow 9 1 encS okS (.slice r0_touch_writes_a_74 r0_touch_writes_n_74 r0_touch_writes_c_74) (mnM M (⟨#[103]⟩ : ByteArray)).touch.writes, bx b13 [.slice sa sn sc, .slice ra rn rc, .slice ua un uc] 31, ow 81 2 encC okC (.slice r0_store_a_100 r0_store_n_100 r0_store_c_100) (foM (mnM M (⟨#[103]⟩ : ByteArray)) ((⟨#[102]⟩ : ByteArray) ++ (decS ((r88 : Nat) : Int)))).store, ow 9 1 encS okS (.slice r0_touch_reads_a_100 r0_touch_reads_n_100 r0_touch_reads_c_100) (foM (mnM M (⟨#[103]⟩ : ByteArray)) ((⟨#[102]⟩ : ByteArray) ++ (decS ((r88 : Nat) : Int)))).touch.reads, ow 9 1 encS okS (.slice r0_touch_writes_a_100 r0_touch_writes_n_100 r0_touch_writes_c_100) (foM (mnM M (⟨#[103]⟩ : ByteArray)) ((⟨#[102]⟩ : ByteArray) ++ (decS ((r88 : Nat) : Int)))).touch.writes, bx b105 [.slice r0_store_a_100 r0_store_n_100 r0_store_c_100, .slice r0_touch_reads_a_100 r0_touch_reads_n_100 r0_touch_reads_c_100, .slice r0_touch_writes_a_100 r0_touch_writes_n_100 r0_touch_writes_c_100] 31] wZ) [bx b80 [.slice r0_store_a_74 r0_store_n_74 r0_store_c_74, .slice r0_touch_reads_a_74 r0_touch_reads_n_74 r0_touch_reads_c_74, .slice r0_touch_writes_a_74 r0_touch_writes_n_74 r0_touch_writes_c_74] 31] mixed T86.at' (listed := #[false, false, false, false, false, false, false, false, false, false, false, false, false, false]) rfl (fun w89 S89 => ?_) [0] rfl ?_
       · skip
         refine g_take (v := .agg #[.slice r0_store_a_74 r0_store_n_74 r0_store_c_74, .slice r0_touch_reads_a_74 r0_touch_reads_n_74 r0_touch_reads_c_74, .slice r0_touch_writes_a_74 r0_touch_writes_n_74 r0_touch_writes_c_74]) F85 rfl (i := 0) (listed' := #[true, false, false, false, false, false, false, false, false, false, false, false, false, false]) rfl (by kernel_rfl) (by kernel_rfl) (by kernel_rfl) (fun _ _ _ h => h) (Sd.of (Mv.refl S89.at') [0] rfl) rfl rfl rfl rfl (fun _ hz => (r_loadX (hz.bx 0 rfl) TI_31 rfl (F85.ev 7 rfl) rfl rfl (fun h => nomatch h) rfl)) fun _ F90 => ?_
         refine g_take F90 rfl (i := 1) (listed' := #[true, true, false, false, false, false, false, false, false, false, false, false, false, false]) rfl (by kernel_rfl) (by kernel_rfl) (by kernel_rfl) (fun _ _ _ h => h) (Sd.of (Mv.refl S89.at') [0] rfl) rfl rfl rfl rfl (fun _ hz => (r_move rfl (F90.ev 6 rfl))) fun _ F91 => ?_
         obtain ⟨B92, O92, y92, ad92, hy92, oky92, ln92, cl92⟩ := Rd.atK (Nat.succ_pos _) (Rd.mv (Nat.succ_pos _) V68_0 (S74.trans (S80.trans (T86.trans S89)))) 0 (by first | assumption | omega)
         clear ln92
         obtain rfl := Option.some.inj (hx1.symm.trans hy92)
         clear hy92 oky92
         refine g_take F91 rfl (i := 2) (listed' := #[true, true, true, false, false, false, false, false, false, false, false, false, false, false]) rfl (by kernel_rfl) (by kernel_rfl) (by kernel_rfl) (fun _ _ _ h => h) (Sd.of (Mv.refl S89.at') [0] rfl) rfl rfl rfl rfl (fun _ hz => (r_indexAddr (i := 0) ET_24 rfl ((F91.ev 40 rfl).trans (by rw [ad92])) rfl (by omega) (by first | assumption | omega))) fun _ F93 => ?_
         refine g_take (v := .int .i64 x1) F93 rfl (i := 3) (listed' := #[true, true, true, true, false, false, false, false, false, false, false, false, false, false]) rfl (by kernel_rfl) (by kernel_rfl) (by kernel_rfl) (fun _ _ _ h => h) (Sd.of (Mv.refl S89.at') [0] rfl) rfl rfl rfl rfl (fun _ hz => (r_load (cs := [.int .i64 x1]) TI_3 rfl (F93.ev 41 rfl) rfl (fun _ => rfl) (elem_sub (f := 0) (cl92 _ hz.kp) [.int .i64 x1] rfl))) fun _ F94 => ?_
         refine g_take F94 rfl (i := 4) (listed' := #[true, true, true, true, true, false, false, false, false, false, false, false, false, false]) rfl (by kernel_rfl) (by kernel_rfl) (by kernel_rfl) (fun _ _ _ h => h) (Sd.of (Mv.refl S89.at') [0] rfl) rfl rfl rfl rfl (fun _ hz => ((r_remI (c := 20) rfl (by decide) rfl (F94.ev 42 rfl) rfl).trans (by rw [hr88]))) fun _ F95 => ?_
         refine d_all (rs := [5, 11]) rfl (by kernel_rfl) (by simp) (d_cons (i := 5) (listed' := #[true, true, true, true, true, true, false, false, false, false, false, false, false, false]) rfl rfl ?_ (d_cons (i := 11) (listed' := #[true, true, true, true, true, false, false, false, false, false, false, true, false, false]) rfl rfl ?_ d_nil))
         · skip
           refine f_call F95 CF_19 rfl rfl rfl rfl (lc (F95.ev 43 rfl) rfl) (impl_Decimal_c (n := ((r88 : Nat) : Int)) (by first | assumption | exact ⟨by omega, by omega⟩ | (unfold i64ok at *; omega)) (Tb.mv V_tab0 (T7.trans (S11.trans (S13.trans (T17.trans (S20.trans (T72.trans (S74.trans (S80.trans (T86.trans S89))))))))))) ?_
           rintro _ w96 ⟨rfl, m96, ok_r0_96⟩
           refine ⟨_, rfl, fun _ F97 => ?_⟩
           have S96 := At.frame0 S89.at' m96
           clear m96
           refine ⟨Sd.of S96 [0] rfl, ?_⟩
           have k98 : (⟨#[102]⟩ : ByteArray).size + (decS ((r88 : Nat) : Int)).size ≤ 9223372036854775807 := by exact Nat.le_trans (Nat.add_le_add_left (decS_size _ ⟨by omega, by omega⟩) _) (by decide)
           refine g_take F97 rfl (i := 6) (listed' := #[true, true, true, true, true, true, true, false, false, false, false, false, false, false]) rfl (by kernel_rfl) (by kernel_rfl) (by kernel_rfl) (fun _ _ _ h => h) (Sd.of S96 [0] rfl) rfl rfl rfl rfl (fun _ hz => (r_cat rfl rfl (F97.ev 44 rfl) k98)) fun _ F99 => ?_
           refine d_all (rs := [7, 11]) rfl (by kernel_rfl) (by simp) (d_cons (i := 7) (listed' := #[true, true, true, true, true, true, true, true, false, false, false, false, false, false]) rfl rfl ?_ (d_cons (i := 11) (listed' := #[true, true, true, true, true, true, true, false, false, false, false, true, false, false]) rfl rfl ?_ d_nil))
           · skip
             refine f_call F99 CF_27 rfl rfl rfl rfl (lc (F99.ev 39 rfl) (lc (F99.ev 45 rfl) rfl)) (impl_FileOf_c (H := fun _ => True) (m := (mnM M (⟨#[103]⟩ : ByteArray))) (name := (⟨#[102]⟩ : ByteArray) ++ (decS ((r88 : Nat) : Int))) (At.rd S96.at' ET_26.hk 1 rfl) (At.rd S96.at' ET_27.hk 2 rfl) (At.rd S96.at' ET_27.hk 3 rfl) (okS_cat k98) (Tb.top (Tb.mv V_tab0 (T7.trans (S11.trans (S13.trans (T17.trans (S20.trans (T72.trans (S74.trans (S80.trans (T86.trans (S89.trans S96)))))))))))) (Tb.top (Tb.mv V_tab1 (T7.trans (S11.trans (S13.trans (T17.trans (S20.trans (T72.trans (S74.trans (S80.trans (T86.trans (S89.trans S96)))))))))))) (by first | assumption | omega | (refine bdC.s ?_; (repeat (first | with_reducible refine bdC.look ?_ | with_reducible refine bdC.lay ?_ | with_reducible refine bdC.set ?_ | with_reducible refine bdC.mn ?_)); exact bdC.le (by assumption) (by first | decide | omega)) | (refine bdC.r ?_; (repeat (first | with_reducible refine bdC.look ?_ | with_reducible refine bdC.lay ?_ | with_reducible refine bdC.set ?_ | with_reducible refine bdC.mn ?_)); exact bdC.le (by assumption) (by first | decide | omega)) | (refine bdC.w ?_; (repeat (first | with_reducible refine bdC.look ?_ | with_reducible refine bdC.lay ?_ | with_reducible refine bdC.set ?_ | with_reducible refine bdC.mn ?_)); exact bdC.le (by assumption) (by first | decide | omega)) | ((repeat (first | with_reducible refine bdC.look ?_ | with_reducible refine bdC.lay ?_ | with_reducible refine bdC.set ?_ | with_reducible refine bdC.mn ?_)); exact bdC.le (by assumption) (by first | decide | omega)) | decide | exact Nat.le_trans (keyNum_size _ _ (by assumption)) (by decide) | exact Nat.le_trans (keyNum_size _ _ ⟨by omega, by omega⟩) (by decide))) ?_
             rintro _ w100 ⟨r0_store_a_100, r0_store_n_100, r0_store_c_100, r0_touch_reads_a_100, r0_touch_reads_n_100, r0_touch_reads_c_100, r0_touch_writes_a_100, r0_touch_writes_n_100, r0_touch_writes_c_100, rfl, m100⟩
             refine ⟨_, rfl, fun _ F101 => ?_⟩
             have S100 : Mv _ _ [ow 81 2 encC okC (.slice r0_store_a_100 r0_store_n_100 r0_store_c_100) (foM (mnM M (⟨#[103]⟩ : ByteArray)) ((⟨#[102]⟩ : ByteArray) ++ (decS ((r88 : Nat) : Int)))).store, ow 9 1 encS okS (.slice r0_touch_reads_a_100 r0_touch_reads_n_100 r0_touch_reads_c_100) (foM (mnM M (⟨#[103]⟩ : ByteArray)) ((⟨#[102]⟩ : ByteArray) ++ (decS ((r88 : Nat) : Int)))).touch.reads, ow 9 1 encS okS (.slice r0_touch_writes_a_100 r0_touch_writes_n_100 r0_touch_writes_c_100) (foM (mnM M (⟨#[103]⟩ : ByteArray)) ((⟨#[102]⟩ : ByteArray) ++ (decS ((r88 : Nat) : Int)))).touch.writes, bx b80 [.slice r0_store_a_74 r0_store_n_74 r0_store_c_74, .slice r0_touch_reads_a_74 r0_touch_reads_n_74 r0_touch_reads_c_74, .slice r0_touch_writes_a_74 r0_touch_writes_n_74 r0_touch_writes_c_74] 31, ow 81 2 encC okC (.slice r0_store_a_74 r0_store_n_74 r0_store_c_74) (mnM M (⟨#[103]⟩ : ByteArray)).store, ow 9 1 encS okS (.slice r0_touch_reads_a_74 r0_touch_reads_n_74 r0_touch_reads_c_74) (mnM M (⟨#[103]⟩ : ByteArray)).touch.reads, ow 9 1 encS okS (.slice r0_touch_writes_a_74 r0_touch_writes_n_74 r0_touch_writes_c_74) (mnM M (⟨#[103]⟩ : ByteArray)).touch.writes, bx b13 [.slice sa sn sc, .slice ra rn rc, .slice ua un uc] 31] _ := At.frame S96.at' [] rfl m100
             obtain ⟨lo100_0, lp100_0, lq100_0⟩ := At.ownInv S100.at' ET_26.hk 0 rfl
             obtain ⟨lo100_1, lp100_1, lq100_1⟩ := At.ownInv S100.at' ET_27.hk 1 rfl
             obtain ⟨lo100_2, lp100_2, lq100_2⟩ := At.ownInv S100.at' ET_27.hk 2 rfl
             clear m100
             refine ⟨Sd.of (S96.trans S100) [3] rfl, ?_⟩
             refine g_take F101 rfl (i := 8) (listed' := #[true, true, true, true, true, true, true, true, true, false, false, false, false, false]) rfl (by kernel_rfl) (by kernel_rfl) (by kernel_rfl) (fun _ _ _ h => h) (Sd.of (S96.trans S100) [3] rfl) rfl rfl rfl rfl (fun _ hz => (r_move rfl (F101.ev 46 rfl))) fun _ F102 => ?_
             refine g_take (v := .agg #[.slice r0_store_a_100 r0_store_n_100 r0_store_c_100, .slice r0_touch_reads_a_100 r0_touch_reads_n_100 r0_touch_reads_c_100, .slice r0_touch_writes_a_100 r0_touch_writes_n_100 r0_touch_writes_c_100]) F102 rfl (i := 9) (listed' := #[true, true, true, true, true, true, true, true, true, true, false, false, false, false]) rfl (by kernel_rfl) (by kernel_rfl) (by kernel_rfl) (fun _ _ _ h => h) (Sd.of (S96.trans S100) [3] rfl) rfl rfl rfl rfl (fun _ hz => (r_extract rfl (F102.ev 38 rfl) rfl)) fun _ F103 => ?_
             refine g_take (v := .int .i64 ((fo (mnM M (⟨#[103]⟩ : ByteArray)) ((⟨#[102]⟩ : ByteArray) ++ (decS ((r88 : Nat) : Int))) : Nat) : Int)) F103 rfl (i := 10) (listed' := #[true, true, true, true, true, true, true, true, true, true, true, false, false, false]) rfl (by kernel_rfl) (by kernel_rfl) (by kernel_rfl) (fun _ _ _ h => h) (Sd.of (S96.trans S100) [3] rfl) rfl rfl rfl rfl (fun _ hz => (r_extract rfl (F103.ev 38 rfl) rfl)) fun _ F104 => ?_
             refine d_one (i := 11) (listed' := #[true, true, true, true, true, true, true, true, true, true, true, true, false, false]) rfl (by kernel_rfl) rfl rfl ?_
             refine f_alloc F104 S100.at' ZI_31 rfl rfl rfl rfl rfl fun b105 _ w105 F106 S105 => ?_
             refine ⟨Sd.of (S96.trans (S100.trans S105)) [4] rfl, ?_⟩
             refine d_one (i := 12) (listed' := #[true, true, true, true, true, true, true, true, true, true, true, true, true, false]) rfl (by kernel_rfl) rfl rfl ?_
             refine s_store S105.at' 0 TI_31 rfl rfl rfl rfl rfl (F106.ev 10 rfl) (F106.ev 47 rfl) rfl rfl rfl rfl rfl fun w107 S107 => ?_
             refine ⟨Sd.of (S96.trans (S100.trans (S105.trans S107))) [4] rfl, ?_⟩
             refine g_take F106 rfl (i := 13) (listed' := #[true, true, true, true, true, true, true, true, true, true, true, true, true, true]) rfl (by kernel_rfl) (by kernel_rfl) (by kernel_rfl) (fun _ _ _ h => h) (Sd.of (S96.trans (S100.trans (S105.trans S107))) [4] rfl) rfl rfl rfl rfl (fun _ hz => (r_assign rfl (F106.ev 48 rfl))) fun _ F108 => ?_
             refine wpAnyH_done (by kernel_rfl) (x_normal ?_) _
             exact ⟨r0_store_a_100, r0_store_n_100, r0_store_c_100, r0_touch_reads_a_100, r0_touch_reads_n_100, r0_touch_reads_c_100, r0_touch_writes_a_100, r0_touch_writes_n_100, r0_touch_writes_c_100, b105, F108.cut rfl, ((S89.trans (S96.trans (S100.trans (S105.trans S107)))).pick [4, 5, 6, 7, 8, 1, 2, 3, 0] rfl)⟩
           · skip
             refine f_alloc F99 S96.at' ZI_31 rfl rfl rfl rfl rfl fun b109 _ w109 F110 S109 => ?_
             refine ⟨Sd.of (S96.trans S109) [1] rfl, ?_⟩
             refine d_one (i := 7) (listed' := #[true, true, true, true, true, true, true, true, false, false, false, true, false, false]) rfl (by kernel_rfl) rfl rfl ?_
             refine f_call F110 CF_27 rfl rfl rfl rfl (lc (F110.ev 39 rfl) (lc (F110.ev 45 rfl) rfl)) (impl_FileOf_c (H := fun _ => True) (m := (mnM M (⟨#[103]⟩ : ByteArray))) (name := (⟨#[102]⟩ : ByteArray) ++ (decS ((r88 : Nat) : Int))) (At.rd S109.at' ET_26.hk 2 rfl) (At.rd S109.at' ET_27.hk 3 rfl) (At.rd S109.at' ET_27.hk 4 rfl) (okS_cat k98) (Tb.top (Tb.mv V_tab0 (T7.trans (S11.trans (S13.trans (T17.trans (S20.trans (T72.trans (S74.trans (S80.trans (T86.trans (S89.trans (S96.trans S109))))))))))))) (Tb.top (Tb.mv V_tab1 (T7.trans (S11.trans (S13.trans (T17.trans (S20.trans (T72.trans (S74.trans (S80.trans (T86.trans (S89.trans (S96.trans S109))))))))))))) (by first | assumption | omega | (refine bdC.s ?_; (repeat (first | with_reducible refine bdC.look ?_ | with_reducible refine bdC.lay ?_ | with_reducible refine bdC.set ?_ | with_reducible refine bdC.mn ?_)); exact bdC.le (by assumption) (by first | decide | omega)) | (refine bdC.r ?_; (repeat (first | with_reducible refine bdC.look ?_ | with_reducible refine bdC.lay ?_ | with_reducible refine bdC.set ?_ | with_reducible refine bdC.mn ?_)); exact bdC.le (by assumption) (by first | decide | omega)) | (refine bdC.w ?_; (repeat (first | with_reducible refine bdC.look ?_ | with_reducible refine bdC.lay ?_ | with_reducible refine bdC.set ?_ | with_reducible refine bdC.mn ?_)); exact bdC.le (by assumption) (by first | decide | omega)) | ((repeat (first | with_reducible refine bdC.look ?_ | with_reducible refine bdC.lay ?_ | with_reducible refine bdC.set ?_ | with_reducible refine bdC.mn ?_)); exact bdC.le (by assumption) (by first | decide | omega)) | decide | exact Nat.le_trans (keyNum_size _ _ (by assumption)) (by decide) | exact Nat.le_trans (keyNum_size _ _ ⟨by omega, by omega⟩) (by decide))) ?_
             rintro _ w111 ⟨r0_store_a_111, r0_store_n_111, r0_store_c_111, r0_touch_reads_a_111, r0_touch_reads_n_111, r0_touch_reads_c_111, r0_touch_writes_a_111, r0_touch_writes_n_111, r0_touch_writes_c_111, rfl, m111⟩
             refine ⟨_, rfl, fun _ F112 => ?_⟩
             have S111 : Mv _ _ [ow 81 2 encC okC (.slice r0_store_a_111 r0_store_n_111 r0_store_c_111) (foM (mnM M (⟨#[103]⟩ : ByteArray)) ((⟨#[102]⟩ : ByteArray) ++ (decS ((r88 : Nat) : Int)))).store, ow 9 1 encS okS (.slice r0_touch_reads_a_111 r0_touch_reads_n_111 r0_touch_reads_c_111) (foM (mnM M (⟨#[103]⟩ : ByteArray)) ((⟨#[102]⟩ : ByteArray) ++ (decS ((r88 : Nat) : Int)))).touch.reads, ow 9 1 encS okS (.slice r0_touch_writes_a_111 r0_touch_writes_n_111 r0_touch_writes_c_111) (foM (mnM M (⟨#[103]⟩ : ByteArray)) ((⟨#[102]⟩ : ByteArray) ++ (decS ((r88 : Nat) : Int)))).touch.writes, bx b109 [.slice none 0 0, .slice none 0 0, .slice none 0 0] 31, bx b80 [.slice r0_store_a_74 r0_store_n_74 r0_store_c_74, .slice r0_touch_reads_a_74 r0_touch_reads_n_74 r0_touch_reads_c_74, .slice r0_touch_writes_a_74 r0_touch_writes_n_74 r0_touch_writes_c_74] 31, ow 81 2 encC okC (.slice r0_store_a_74 r0_store_n_74 r0_store_c_74) (mnM M (⟨#[103]⟩ : ByteArray)).store, ow 9 1 encS okS (.slice r0_touch_reads_a_74 r0_touch_reads_n_74 r0_touch_reads_c_74) (mnM M (⟨#[103]⟩ : ByteArray)).touch.reads, ow 9 1 encS okS (.slice r0_touch_writes_a_74 r0_touch_writes_n_74 r0_touch_writes_c_74) (mnM M (⟨#[103]⟩ : ByteArray)).touch.writes, bx b13 [.slice sa sn sc, .slice ra rn rc, .slice ua un uc] 31] _ := At.frame S109.at' [] rfl m111
             obtain ⟨lo111_0, lp111_0, lq111_0⟩ := At.ownInv S111.at' ET_26.hk 0 rfl
             obtain ⟨lo111_1, lp111_1, lq111_1⟩ := At.ownInv S111.at' ET_27.hk 1 rfl
             obtain ⟨lo111_2, lp111_2, lq111_2⟩ := At.ownInv S111.at' ET_27.hk 2 rfl
             clear m111
             refine ⟨Sd.of (S96.trans (S109.trans S111)) [4] rfl, ?_⟩
             refine g_take F112 rfl (i := 8) (listed' := #[true, true, true, true, true, true, true, true, true, false, false, true, false, false]) rfl (by kernel_rfl) (by kernel_rfl) (by kernel_rfl) (fun _ _ _ h => h) (Sd.of (S96.trans (S109.trans S111)) [4] rfl) rfl rfl rfl rfl (fun _ hz => (r_move rfl (F112.ev 46 rfl))) fun _ F113 => ?_
             refine g_take (v := .agg #[.slice r0_store_a_111 r0_store_n_111 r0_store_c_111, .slice r0_touch_reads_a_111 r0_touch_reads_n_111 r0_touch_reads_c_111, .slice r0_touch_writes_a_111 r0_touch_writes_n_111 r0_touch_writes_c_111]) F113 rfl (i := 9) (listed' := #[true, true, true, true, true, true, true, true, true, true, false, true, false, false]) rfl (by kernel_rfl) (by kernel_rfl) (by kernel_rfl) (fun _ _ _ h => h) (Sd.of (S96.trans (S109.trans S111)) [4] rfl) rfl rfl rfl rfl (fun _ hz => (r_extract rfl (F113.ev 38 rfl) rfl)) fun _ F114 => ?_
             refine g_take (v := .int .i64 ((fo (mnM M (⟨#[103]⟩ : ByteArray)) ((⟨#[102]⟩ : ByteArray) ++ (decS ((r88 : Nat) : Int))) : Nat) : Int)) F114 rfl (i := 10) (listed' := #[true, true, true, true, true, true, true, true, true, true, true, true, false, false]) rfl (by kernel_rfl) (by kernel_rfl) (by kernel_rfl) (fun _ _ _ h => h) (Sd.of (S96.trans (S109.trans S111)) [4] rfl) rfl rfl rfl rfl (fun _ hz => (r_extract rfl (F114.ev 38 rfl) rfl)) fun _ F115 => ?_
             refine d_one (i := 12) (listed' := #[true, true, true, true, true, true, true, true, true, true, true, true, true, false]) rfl (by kernel_rfl) rfl rfl ?_
             refine s_store S111.at' 3 TI_31 rfl rfl rfl rfl rfl (F115.ev 10 rfl) (F115.ev 47 rfl) rfl rfl rfl rfl rfl fun w116 S116 => ?_
             refine ⟨Sd.of (S96.trans (S109.trans (S111.trans S116))) [4] rfl, ?_⟩
             refine g_take F115 rfl (i := 13) (listed' := #[true, true, true, true, true, true, true, true, true, true, true, true, true, true]) rfl (by kernel_rfl) (by kernel_rfl) (by kernel_rfl) (fun _ _ _ h => h) (Sd.of (S96.trans (S109.trans (S111.trans S116))) [4] rfl) rfl rfl rfl rfl (fun _ hz => (r_assign rfl (F115.ev 48 rfl))) fun _ F117 => ?_
             refine wpAnyH_done (by kernel_rfl) (x_normal ?_) _
             exact ⟨r0_store_a_111, r0_store_n_111, r0_store_c_111, r0_touch_reads_a_111, r0_touch_reads_n_111, r0_touch_reads_c_111, r0_touch_writes_a_111, r0_touch_writes_n_111, r0_touch_writes_c_111, b109, F117.cut rfl, ((S89.trans (S96.trans (S109.trans (S111.trans S116)))).pick [4, 5, 6, 7, 8, 1, 2, 3, 0] rfl)⟩
         · skip
           refine f_alloc F95 S89.at' ZI_31 rfl rfl rfl rfl rfl fun b118 _ w118 F119 S118 => ?_
           refine ⟨Sd.of S118 [1] rfl, ?_⟩
           refine d_one (i := 5) (listed' := #[true, true, true, true, true, true, false, false, false, false, false, true, false, false]) rfl (by kernel_rfl) rfl rfl ?_
           refine f_call F119 CF_19 rfl rfl rfl rfl (lc (F119.ev 43 rfl) rfl) (impl_Decimal_c (n := ((r88 : Nat) : Int)) (by first | assumption | exact ⟨by omega, by omega⟩ | (unfold i64ok at *; omega)) (Tb.mv V_tab0 (T7.trans (S11.trans (S13.trans (T17.trans (S20.trans (T72.trans (S74.trans (S80.trans (T86.trans (S89.trans S118)))))))))))) ?_
           rintro _ w120 ⟨rfl, m120, ok_r0_120⟩
           refine ⟨_, rfl, fun _ F121 => ?_⟩
           have S120 := At.frame0 S118.at' m120
           clear m120
           refine ⟨Sd.of (S118.trans S120) [1] rfl, ?_⟩
           have k122 : (⟨#[102]⟩ : ByteArray).size + (decS ((r88 : Nat) : Int)).size ≤ 9223372036854775807 := by exact Nat.le_trans (Nat.add_le_add_left (decS_size _ ⟨by omega, by omega⟩) _) (by decide)
           refine g_take F121 rfl (i := 6) (listed' := #[true, true, true, true, true, true, true, false, false, false, false, true, false, false]) rfl (by kernel_rfl) (by kernel_rfl) (by kernel_rfl) (fun _ _ _ h => h) (Sd.of (S118.trans S120) [1] rfl) rfl rfl rfl rfl (fun _ hz => (r_cat rfl rfl (F121.ev 44 rfl) k122)) fun _ F123 => ?_
           refine d_one (i := 7) (listed' := #[true, true, true, true, true, true, true, true, false, false, false, true, false, false]) rfl (by kernel_rfl) rfl rfl ?_
           refine f_call F123 CF_27 rfl rfl rfl rfl (lc (F123.ev 39 rfl) (lc (F123.ev 45 rfl) rfl)) (impl_FileOf_c (H := fun _ => True) (m := (mnM M (⟨#[103]⟩ : ByteArray))) (name := (⟨#[102]⟩ : ByteArray) ++ (decS ((r88 : Nat) : Int))) (At.rd S120.at' ET_26.hk 2 rfl) (At.rd S120.at' ET_27.hk 3 rfl) (At.rd S120.at' ET_27.hk 4 rfl) (okS_cat k122) (Tb.top (Tb.mv V_tab0 (T7.trans (S11.trans (S13.trans (T17.trans (S20.trans (T72.trans (S74.trans (S80.trans (T86.trans (S89.trans (S118.trans S120))))))))))))) (Tb.top (Tb.mv V_tab1 (T7.trans (S11.trans (S13.trans (T17.trans (S20.trans (T72.trans (S74.trans (S80.trans (T86.trans (S89.trans (S118.trans S120))))))))))))) (by first | assumption | omega | (refine bdC.s ?_; (repeat (first | with_reducible refine bdC.look ?_ | with_reducible refine bdC.lay ?_ | with_reducible refine bdC.set ?_ | with_reducible refine bdC.mn ?_)); exact bdC.le (by assumption) (by first | decide | omega)) | (refine bdC.r ?_; (repeat (first | with_reducible refine bdC.look ?_ | with_reducible refine bdC.lay ?_ | with_reducible refine bdC.set ?_ | with_reducible refine bdC.mn ?_)); exact bdC.le (by assumption) (by first | decide | omega)) | (refine bdC.w ?_; (repeat (first | with_reducible refine bdC.look ?_ | with_reducible refine bdC.lay ?_ | with_reducible refine bdC.set ?_ | with_reducible refine bdC.mn ?_)); exact bdC.le (by assumption) (by first | decide | omega)) | ((repeat (first | with_reducible refine bdC.look ?_ | with_reducible refine bdC.lay ?_ | with_reducible refine bdC.set ?_ | with_reducible refine bdC.mn ?_)); exact bdC.le (by assumption) (by first | decide | omega)) | decide | exact Nat.le_trans (keyNum_size _ _ (by assumption)) (by decide) | exact Nat.le_trans (keyNum_size _ _ ⟨by omega, by omega⟩) (by decide))) ?_
           rintro _ w124 ⟨r0_store_a_124, r0_store_n_124, r0_store_c_124, r0_touch_reads_a_124, r0_touch_reads_n_124, r0_touch_reads_c_124, r0_touch_writes_a_124, r0_touch_writes_n_124, r0_touch_writes_c_124, rfl, m124⟩
           refine ⟨_, rfl, fun _ F125 => ?_⟩
           have S124 : Mv _ _ [ow 81 2 encC okC (.slice r0_store_a_124 r0_store_n_124 r0_store_c_124) (foM (mnM M (⟨#[103]⟩ : ByteArray)) ((⟨#[102]⟩ : ByteArray) ++ (decS ((r88 : Nat) : Int)))).store, ow 9 1 encS okS (.slice r0_touch_reads_a_124 r0_touch_reads_n_124 r0_touch_reads_c_124) (foM (mnM M (⟨#[103]⟩ : ByteArray)) ((⟨#[102]⟩ : ByteArray) ++ (decS ((r88 : Nat) : Int)))).touch.reads, ow 9 1 encS okS (.slice r0_touch_writes_a_124 r0_touch_writes_n_124 r0_touch_writes_c_124) (foM (mnM M (⟨#[103]⟩ : ByteArray)) ((⟨#[102]⟩ : ByteArray) ++ (decS ((r88 : Nat) : Int)))).touch.writes, bx b118 [.slice none 0 0, .slice none 0 0, .slice none 0 0] 31, bx b80 [.slice r0_store_a_74 r0_store_n_74 r0_store_c_74, .slice r0_touch_reads_a_74 r0_touch_reads_n_74 r0_touch_reads_c_74, .slice r0_touch_writes_a_74 r0_touch_writes_n_74 r0_touch_writes_c_74] 31, ow 81 2 encC okC (.slice r0_store_a_74 r0_store_n_74 r0_store_c_74) (mnM M (⟨#[103]⟩ : ByteArray)).store, ow 9 1 encS okS (.slice r0_touch_reads_a_74 r0_touch_reads_n_74 r0_touch_reads_c_74) (mnM M (⟨#[103]⟩ : ByteArray)).touch.reads, ow 9 1 encS okS (.slice r0_touch_writes_a_74 r0_touch_writes_n_74 r0_touch_writes_c_74) (mnM M (⟨#[103]⟩ : ByteArray)).touch.writes, bx b13 [.slice sa sn sc, .slice ra rn rc, .slice ua un uc] 31] _ := At.frame S120.at' [] rfl m124
           obtain ⟨lo124_0, lp124_0, lq124_0⟩ := At.ownInv S124.at' ET_26.hk 0 rfl
           obtain ⟨lo124_1, lp124_1, lq124_1⟩ := At.ownInv S124.at' ET_27.hk 1 rfl
           obtain ⟨lo124_2, lp124_2, lq124_2⟩ := At.ownInv S124.at' ET_27.hk 2 rfl
           clear m124
           refine ⟨Sd.of (S118.trans (S120.trans S124)) [4] rfl, ?_⟩
           refine g_take F125 rfl (i := 8) (listed' := #[true, true, true, true, true, true, true, true, true, false, false, true, false, false]) rfl (by kernel_rfl) (by kernel_rfl) (by kernel_rfl) (fun _ _ _ h => h) (Sd.of (S118.trans (S120.trans S124)) [4] rfl) rfl rfl rfl rfl (fun _ hz => (r_move rfl (F125.ev 46 rfl))) fun _ F126 => ?_
           refine g_take (v := .agg #[.slice r0_store_a_124 r0_store_n_124 r0_store_c_124, .slice r0_touch_reads_a_124 r0_touch_reads_n_124 r0_touch_reads_c_124, .slice r0_touch_writes_a_124 r0_touch_writes_n_124 r0_touch_writes_c_124]) F126 rfl (i := 9) (listed' := #[true, true, true, true, true, true, true, true, true, true, false, true, false, false]) rfl (by kernel_rfl) (by kernel_rfl) (by kernel_rfl) (fun _ _ _ h => h) (Sd.of (S118.trans (S120.trans S124)) [4] rfl) rfl rfl rfl rfl (fun _ hz => (r_extract rfl (F126.ev 38 rfl) rfl)) fun _ F127 => ?_
           refine g_take (v := .int .i64 ((fo (mnM M (⟨#[103]⟩ : ByteArray)) ((⟨#[102]⟩ : ByteArray) ++ (decS ((r88 : Nat) : Int))) : Nat) : Int)) F127 rfl (i := 10) (listed' := #[true, true, true, true, true, true, true, true, true, true, true, true, false, false]) rfl (by kernel_rfl) (by kernel_rfl) (by kernel_rfl) (fun _ _ _ h => h) (Sd.of (S118.trans (S120.trans S124)) [4] rfl) rfl rfl rfl rfl (fun _ hz => (r_extract rfl (F127.ev 38 rfl) rfl)) fun _ F128 => ?_
           refine d_one (i := 12) (listed' := #[true, true, true, true, true, true, true, true, true, true, true, true, true, false]) rfl (by kernel_rfl) rfl rfl ?_
           refine s_store S124.at' 3 TI_31 rfl rfl rfl rfl rfl (F128.ev 10 rfl) (F128.ev 47 rfl) rfl rfl rfl rfl rfl fun w129 S129 => ?_
           refine ⟨Sd.of (S118.trans (S120.trans (S124.trans S129))) [4] rfl, ?_⟩
           refine g_take F128 rfl (i := 13) (listed' := #[true, true, true, true, true, true, true, true, true, true, true, true, true, true]) rfl (by kernel_rfl) (by kernel_rfl) (by kernel_rfl) (fun _ _ _ h => h) (Sd.of (S118.trans (S120.trans (S124.trans S129))) [4] rfl) rfl rfl rfl rfl (fun _ hz => (r_assign rfl (F128.ev 48 rfl))) fun _ F130 => ?_
           refine wpAnyH_done (by kernel_rfl) (x_normal ?_) _
           exact ⟨r0_store_a_124, r0_store_n_124, r0_store_c_124, r0_touch_reads_a_124, r0_touch_reads_n_124, r0_touch_reads_c_124, r0_touch_writes_a_124, r0_touch_writes_n_124, r0_touch_writes_c_124, b118, F130.cut rfl, ((S89.trans (S118.trans (S120.trans (S124.trans S129)))).pick [4, 5, 6, 7, 8, 1, 2, 3, 0] rfl)⟩
       · rintro a131 w131 ⟨r0_store_a_100, r0_store_n_100, r0_store_c_100, r0_touch_reads_a_100, r0_touch_reads_n_100, r0_touch_reads_c_100, r0_touch_writes_a_100, r0_touch_writes_n_100, r0_touch_writes_c_100, b105, F131, S131⟩
         refine x_normal (wp_seq (wp_region_lit (l_op (f_mv F131 rfl rfl rfl rfl rfl fun _ F132 => ?_))))
         refine l_op (f_val F132 rfl rfl (r_cmp (b := decide ((mnC M (⟨#[103]⟩ : ByteArray)) = 3)) (.inl rfl) rfl (F132.ev 49 rfl) rfl (dec_of (by omega))) rfl fun _ F133 => ?_)
         rw [show (decide ((mnC M (⟨#[103]⟩ : ByteArray)) = 3)) = true from decide_eq_true hP.full.1] at F133
         refine l_op (f_mv F133 rfl rfl rfl rfl rfl fun _ F134 => ?_)
         refine l_op (f_mv F134 (wanted_g F134 rfl rfl rfl rfl) rfl rfl rfl rfl fun _ F135 => ?_)
         refine l_op (f_val F135 (wanted_g F135 rfl rfl rfl rfl) rfl (r_cmp (b := decide (mnI M (⟨#[103]⟩ : ByteArray) = 0)) (.inl rfl) rfl (F135.ev 52 rfl) rfl (dec_of (by omega))) rfl fun _ F136 => ?_)
         rw [show (decide (mnI M (⟨#[103]⟩ : ByteArray) = 0)) = true from decide_eq_true hP.full.2.1] at F136
         refine l_op (f_val F136 rfl rfl (r_pick (b := true) rfl (F136.ev 51 rfl) (F136.ev 53 rfl)) rfl fun _ F137 => ?_)
         refine l_op (f_mv F137 rfl rfl rfl rfl rfl fun _ F138 => ?_)
         refine l_op (f_mv F138 (wanted_g F138 rfl rfl rfl rfl) rfl rfl rfl rfl fun _ F139 => ?_)
         refine l_op (f_mv F139 (wanted_g F139 rfl rfl rfl rfl) rfl rfl rfl rfl fun _ F140 => ?_)
         obtain ⟨B141, O141, y141, ad141, hy141, oky141, ln141, cl141⟩ := Rd.at (Rd.mv (Nat.succ_pos _) V68_0 (S74.trans (S80.trans (T86.trans S131)))) 0 (by first | assumption | omega)
         clear ln141
         obtain rfl := Option.some.inj (hx1.symm.trans hy141)
         clear hy141 oky141
         refine l_op (f_val F140 (wanted_g F140 rfl rfl rfl rfl) rfl (r_indexAddr (i := 0) ET_24 rfl ((F140.ev 57 rfl).trans (by rw [ad141])) rfl (by omega) (by first | assumption | omega)) rfl fun _ F142 => ?_)
         refine l_op (f_val (v := .int .i64 x1) F142 (wanted_g F142 rfl rfl rfl rfl) rfl (r_load (cs := [.int .i64 x1]) TI_3 rfl (F142.ev 58 rfl) rfl (fun _ => rfl) (elem_sub (f := 0) cl141 [.int .i64 x1] rfl)) rfl fun _ F143 => ?_)
         refine l_op (f_val F143 (wanted_g F143 rfl rfl rfl rfl) rfl ((r_remI (c := 20) rfl (by decide) rfl (F143.ev 59 rfl) rfl).trans (by rw [hr88])) rfl fun _ F144 => ?_)
         refine l_op (f_val F144 (wanted_g F144 rfl rfl rfl rfl) rfl (r_add (z := ((r88 + 1 : Nat) : Int)) rfl (F144.ev 60 rfl) rfl (by first | rfl | omega) ⟨by first | omega | (unfold i64ok at *; omega), by first | omega | (unfold i64ok at *; omega)⟩) rfl fun _ F145 => ?_)
         refine l_op (f_val F145 (wanted_g F145 rfl rfl rfl rfl) rfl (r_cmp (b := decide (fo (mnM M (⟨#[103]⟩ : ByteArray)) ((⟨#[102]⟩ : ByteArray) ++ (decS ((r88 : Nat) : Int))) = r88 + 1)) (.inl rfl) rfl (F145.ev 56 rfl) (F145.ev 61 rfl) (dec_of (by omega))) rfl fun _ F146 => ?_)
         rw [show (decide (fo (mnM M (⟨#[103]⟩ : ByteArray)) ((⟨#[102]⟩ : ByteArray) ++ (decS ((r88 : Nat) : Int))) = r88 + 1)) = true from decide_eq_true (hP.file (by omega))] at F146
         refine l_op (f_val F146 rfl rfl (r_pick (b := true) rfl (F146.ev 55 rfl) (F146.ev 62 rfl)) rfl fun _ F147 => ?_)
         refine l_op (f_mv F147 rfl rfl rfl rfl rfl fun _ F148 => ?_)
         refine l_op (f_val F148 (wanted_g F148 rfl rfl rfl rfl) rfl (r_field FI_31_0 rfl (F148.ev 7 rfl) rfl) rfl fun _ F149 => ?_)
         refine l_op (f_val (v := .slice r0_store_a_74 r0_store_n_74 r0_store_c_74) F149 (wanted_g F149 rfl rfl rfl rfl) rfl (r_loadB S131.at' 0 TI_26 rfl rfl (F149.ev 65 rfl) rfl rfl (fun _ => rfl) rfl) rfl fun _ F150 => ?_)
         refine l_op (f_val F150 (wanted_g F150 rfl rfl rfl rfl) rfl (r_field FI_31_0 rfl (F150.ev 3 rfl) rfl) rfl fun _ F151 => ?_)
         refine l_op (f_val (v := .slice sa sn sc) F151 (wanted_g F151 rfl rfl rfl rfl) rfl (r_loadB S131.at' 4 TI_26 rfl rfl (F151.ev 67 rfl) rfl rfl (fun _ => rfl) rfl) rfl fun _ F152 => ?_)
         refine l_op (f_call F152 CF_28 (wanted_g F152 rfl rfl rfl rfl) rfl rfl rfl (lc (F152.ev 66 rfl) (lc (F152.ev 68 rfl) rfl)) (laws_sameCells_c (H := fun _ => True) (a := (mnM M (⟨#[103]⟩ : ByteArray)).store) (b := M.store) (At.rd S131.at' ET_26.hk 1 rfl) (Rd.top (Rd.mv (Nat.succ_pos _) W20_0 (T72.trans (S74.trans (S80.trans (T86.trans S131))))))) ?_)
         rintro _ w153 ⟨rfl, m153⟩
         refine ⟨_, rfl, fun _ F154 => ?_⟩
         have S153 := At.frame0 S131.at' m153
         rw [show (decide ((mnM M (⟨#[103]⟩ : ByteArray)).store = M.store)) = true from decide_eq_true (hP.full.2.2)] at F154
         clear m153
         refine l_op (f_val F154 rfl rfl (r_pick (b := true) rfl (F154.ev 64 rfl) (F154.ev 69 rfl)) rfl fun _ F155 => ?_)
         refine l_op (f_as F155 rfl rfl rfl rfl rfl fun _ F156 => ?_)
         have F157 : Fr 71 [(2, .bool true)] _ := F156.cut rfl
         clear F131 F132 F133 F134 F135 F136 F137 F138 F139 F140 F142 F143 F144 F145 F146 F147 F148 F149 F150 F151 F152 F154 F155 F156
         have T158 : Mv _ _ [bx b80 [.slice r0_store_a_74 r0_store_n_74 r0_store_c_74, .slice r0_touch_reads_a_74 r0_touch_reads_n_74 r0_touch_reads_c_74, .slice r0_touch_writes_a_74 r0_touch_writes_n_74 r0_touch_writes_c_74] 31, ow 81 2 encC okC (.slice r0_store_a_74 r0_store_n_74 r0_store_c_74) (mnM M (⟨#[103]⟩ : ByteArray)).store, ow 9 1 encS okS (.slice r0_touch_reads_a_74 r0_touch_reads_n_74 r0_touch_reads_c_74) (mnM M (⟨#[103]⟩ : ByteArray)).touch.reads, ow 9 1 encS okS (.slice r0_touch_writes_a_74 r0_touch_writes_n_74 r0_touch_writes_c_74) (mnM M (⟨#[103]⟩ : ByteArray)).touch.writes, bx b13 [.slice sa sn sc, .slice ra rn rc, .slice ua un uc] 31, ow 81 2 encC okC (.slice r0_store_a_100 r0_store_n_100 r0_store_c_100) (foM (mnM M (⟨#[103]⟩ : ByteArray)) ((⟨#[102]⟩ : ByteArray) ++ (decS ((r88 : Nat) : Int)))).store, ow 9 1 encS okS (.slice r0_touch_reads_a_100 r0_touch_reads_n_100 r0_touch_reads_c_100) (foM (mnM M (⟨#[103]⟩ : ByteArray)) ((⟨#[102]⟩ : ByteArray) ++ (decS ((r88 : Nat) : Int)))).touch.reads, ow 9 1 encS okS (.slice r0_touch_writes_a_100 r0_touch_writes_n_100 r0_touch_writes_c_100) (foM (mnM M (⟨#[103]⟩ : ByteArray)) ((⟨#[102]⟩ : ByteArray) ++ (decS ((r88 : Nat) : Int)))).touch.writes, bx b105 [.slice r0_store_a_100 r0_store_n_100 r0_store_c_100, .slice r0_touch_reads_a_100 r0_touch_reads_n_100 r0_touch_reads_c_100, .slice r0_touch_writes_a_100 r0_touch_writes_n_100 r0_touch_writes_c_100] 31] _ := S153
         refine s_end (x_normal (wp_ret ?_))
         refine x_done (v := .bool true) F157 (results_1 Tryd.results7 (.tmp (F157.ev 2 rfl))) ?_
         exact ⟨rfl, (Mv.pick (T7.trans (S11.trans (S13.trans (T17.trans (S20.trans (T72.trans (S74.trans (S80.trans (T86.trans (S131.trans T158)))))))))) [] rfl)⟩
end Go.Proofs.YtjiplnaceiofmaaDoor
namespace Go.Proofs.YtjiplnaceiofmaaDoor.filelimit
open Go.ChangeShapes Go.WideShapes Go.ChangeAt Go.RowKit
set_option maxRecDepth 100000
theorem cells_5 : Tryd.prog.cellsOf 5 = 1 := by kernel_rfl
theorem starE : "*" ++ "errors.errorString" = "*errors.errorString" := by decide
theorem rowE (u : TypeId) (h : Tryd.prog.typeName? 3 u = some "*errors.errorString") : u = 184 :=
  typeName_ptr_named (nm := "errors.errorString") (by rw [starE]; kernel_rfl) (by kernel_rfl) (by decide) u (by rw [starE]; exact h)
theorem cellsE : Tryd.prog.cellsOf 186 = 1 := by kernel_rfl
theorem cells_9 : Tryd.prog.cellsOf 9 = 1 := by kernel_rfl
theorem ground0 {W : World} (h : laidMet Tryd.prog [("math/bits.deBruijn32tab", Rows.laid_math_bits_deBruijn32tab), ("math/bits.deBruijn64tab", Rows.laid_math_bits_deBruijn64tab), ("internal/strconv.uint64pow10", Rows.laid_internal_strconv_uint64pow10), ("strconv.ErrRange", Rows.laid_strconv_ErrRange), ("strconv.ErrSyntax", Rows.laid_strconv_ErrSyntax)] W) : Tb 0 (fun _ => True) W := by
  have e : (Rows.laid_internal_strconv_uint64pow10 : DataW Unit) = Lib.tabData .u64 Lib.pow10Tab := by kernel_rfl
  have h2 : laidMet Tryd.prog (("internal/strconv.uint64pow10", Lib.tabData .u64 Lib.pow10Tab) :: [("strconv.ErrRange", Rows.laid_strconv_ErrRange), ("strconv.ErrSyntax", Rows.laid_strconv_ErrSyntax)]) W := by rw [← e]; exact h.tail.tail
  have h3 : Lib.TabIs Tryd.prog W "internal/strconv.uint64pow10" .u64 Lib.pow10Tab := Lib.tabIs_of_head laysItoa.m17 (t := 159) (e := 146) (n := 20) (by kernel_rfl) Tryd.underlying159 Tryd.underlying146 (by kernel_rfl) (by kernel_rfl) h2
  exact ⟨h3, fun g hg => by rw [List.mem_singleton.1 hg]; exact ⟨trivial, Lib.lt_of_cell (h3.cell laysItoa.m17 0 (by decide))⟩⟩
theorem ground1 {W : World} (h : laidMet Tryd.prog [("math/bits.deBruijn32tab", Rows.laid_math_bits_deBruijn32tab), ("math/bits.deBruijn64tab", Rows.laid_math_bits_deBruijn64tab), ("internal/strconv.uint64pow10", Rows.laid_internal_strconv_uint64pow10), ("strconv.ErrRange", Rows.laid_strconv_ErrRange), ("strconv.ErrSyntax", Rows.laid_strconv_ErrSyntax)] W) : Tb 1 (fun _ => True) W := by
  have gS : Tryd.prog.globalNamed "strconv.ErrSyntax" = some (laysAtoi_ren.g 15) := by kernel_rfl
  obtain ⟨aS, sS, vS, -, -, -⟩ := laid_sentinel (h.tail.tail.tail.tail) gS (ti := 133) (by kernel_rfl) Tryd.underlying133 rowE Tryd.underlying184 Tryd.underlying186 rfl rfl Tryd.underlying9 cellsE cells_9
  have cS := var_cell gS vS
  have gR : Tryd.prog.globalNamed "strconv.ErrRange" = some (laysAtoi_ren.g 16) := by kernel_rfl
  obtain ⟨aR, sR, vR, -, -, -⟩ := laid_sentinel (h.tail.tail.tail) gR (ti := 133) (by kernel_rfl) Tryd.underlying133 rowE Tryd.underlying184 Tryd.underlying186 rfl rfl Tryd.underlying9 cellsE cells_9
  have cR := var_cell gR vR
  exact ⟨⟨⟨_, cS, .inr ⟨_, _, rfl⟩⟩, ⟨_, cR, .inr ⟨_, _, rfl⟩⟩⟩, fun g hg => by
    rcases List.mem_cons.1 hg with e | hg
    · rw [e]; exact ⟨trivial, Lib.lt_of_cell cS⟩
    · rw [List.mem_singleton.1 hg]; exact ⟨trivial, Lib.lt_of_cell cR⟩⟩
theorem called (W : World) (args : Array Value) (h : ArgsRead Tryd.prog W Tryd.f7.params.toList args.toList) (t0 : Tb 0 (fun _ => True) W) (t1 : Tb 1 (fun _ => True) W) : Calls Tryd.prog 7 args W fun e W' => e = .returned (.bool true) ∧ Bl W W' := by
  obtain ⟨hl, h⟩ := h
  rw [Tryd.params7] at hl h
  obtain ⟨v0, rfl⟩ : ∃ v0, args = #[v0] := by
    obtain ⟨l⟩ := args
    match l, hl with
    | [v0], _ => exact ⟨v0, rfl⟩
  obtain ⟨r0, o0⟩ := h 0 _ v0 rfl rfl
  have q0 := reads_one Tryd.underlying22 trivial o0 r0
  obtain ⟨a_0, n_0, c_0, l_0, e_0, v_0⟩ := rdA_of Tryd.underlying22 cells_5 (by decide) (u8_row Tryd.underlying5) q0
  cases e_0
  exact (laws_FnFileLimit_c (w := W) (H := fun _ => True) (code := l_0) v_0 t0 t1).mono fun e W' ⟨h1, h2⟩ => ⟨h1, h2.bl⟩
theorem own : ownKnob Tryd.prog.godebug = none := by kernel_rfl
theorem laidOut : laidOutB Tryd.prog = true := by kernel_rfl
theorem readable : ∀ t ∈ Tryd.f7.params.toList, Tryd.prog.readableRec t = true ∧ t < Tryd.prog.types.size := of_decide_eq_true (by kernel_rfl)
theorem door_met (os : Os) (args : Array Value) : laidMetH Tryd.prog [("math/bits.deBruijn32tab", Rows.laid_math_bits_deBruijn32tab), ("math/bits.deBruijn64tab", Rows.laid_math_bits_deBruijn64tab), ("internal/strconv.uint64pow10", Rows.laid_internal_strconv_uint64pow10), ("strconv.ErrRange", Rows.laid_strconv_ErrRange), ("strconv.ErrSyntax", Rows.laid_strconv_ErrSyntax)] ((World.doorLaid Tryd.prog 81 os).forCall (fun _ _ => 0) ⟨#[], args, []⟩).memory :=
  laidMetH_of_parts3 (fuel := 8) (laidMet_of_run' 8 (by kernel_rfl) (by kernel_rfl)) (by kernel_rfl) (by kernel_rfl)
theorem lifted (os : Os) (started : os.Started) (H : Type) (enc : TypeId × Value → H) :
    ReturnsInHanded {} Tryd.checked os 7 .any (fun w args => (Rows.fnFileLimitSpec.pre enc Tryd.prog Tryd.f7 [] false w args ∧ laidMetH Tryd.prog [("math/bits.deBruijn32tab", Rows.laid_math_bits_deBruijn32tab), ("math/bits.deBruijn64tab", Rows.laid_math_bits_deBruijn64tab), ("internal/strconv.uint64pow10", Rows.laid_internal_strconv_uint64pow10), ("strconv.ErrRange", Rows.laid_strconv_ErrRange), ("strconv.ErrSyntax", Rows.laid_strconv_ErrSyntax)] w) ∧ sizedMet enc Tryd.prog Tryd.f7 (OpenSpec.ofChange Rows.fnFileLimitSpec) false w args)
      (Rows.fnFileLimitSpec.post enc Tryd.prog Tryd.f7 false true false false) := by
  refine returnsInHanded_of_change_and (C := Tryd.checked) (X := fun w _ => laidMetH Tryd.prog [("math/bits.deBruijn32tab", Rows.laid_math_bits_deBruijn32tab), ("math/bits.deBruijn64tab", Rows.laid_math_bits_deBruijn64tab), ("internal/strconv.uint64pow10", Rows.laid_internal_strconv_uint64pow10), ("strconv.ErrRange", Rows.laid_strconv_ErrRange), ("strconv.ErrSyntax", Rows.laid_strconv_ErrSyntax)] w) (fun _ _ _ hh h => h.of_heap hh) own started (by kernel_rfl) Tryd.func7
    (ChangeSpec.witness_shaped (enc := enc) (C := Tryd.checked) (os := os) (X := fun w _ => laidMetH Tryd.prog [("math/bits.deBruijn32tab", Rows.laid_math_bits_deBruijn32tab), ("math/bits.deBruijn64tab", Rows.laid_math_bits_deBruijn64tab), ("internal/strconv.uint64pow10", Rows.laid_internal_strconv_uint64pow10), ("strconv.ErrRange", Rows.laid_strconv_ErrRange), ("strconv.ErrSyntax", Rows.laid_strconv_ErrSyntax)] w) false (World.doorLaid Tryd.prog 81 os) #[.slice none 0 0] 8 rfl (World.shaped_of_RefB (by kernel_rfl) (by kernel_rfl)) (by kernel_rfl) (by kernel_rfl) (by kernel_rfl) (door_met os _)) ?_
  intro W base args ds gs before hval0 hW _ _ hL _
  have hval : ∀ (j : Nat) t v, Tryd.f7.params[j]? = some t → args[j]? = some v → Value.okWide Tryd.prog W .any 0 t v := hval0
  have hM : laidMet Tryd.prog [("math/bits.deBruijn32tab", Rows.laid_math_bits_deBruijn32tab), ("math/bits.deBruijn64tab", Rows.laid_math_bits_deBruijn64tab), ("internal/strconv.uint64pow10", Rows.laid_internal_strconv_uint64pow10), ("strconv.ErrRange", Rows.laid_strconv_ErrRange), ("strconv.ErrSyntax", Rows.laid_strconv_ErrSyntax)] W := by
    have h := hL
    rw [MakeChecks.laidMetH_plain _ _ _ (by kernel_rfl)] at h
    exact h
  refine law_contractW laidOut readable Tryd.underlying4 rfl rfl ?_ H enc false true false false W args ds gs before (fun h => called W args h (ground0 hM) (ground1 hM)) hval hW
  intro H ds hd
  match ds, hd with
  | [a], _ => rfl
theorem bare : Rows.FnFileLimitSaid :=
  OpenClaim.holds_of_wide 7 Tryd.f7 rfl rfl rfl rfl rfl rfl rfl ⟨rfl, rfl, rfl, rfl, rfl⟩ rfl rfl rfl rfl rfl (by kernel_rfl) Tryd.func7 (by kernel_rfl)
    (of_decide_eq_true (by kernel_rfl)) (by unfold Func.isWrapper; first | (rw [if_pos (by decide +kernel)]; kernel_rfl) | (rw [if_neg (by decide +kernel)]; exact ⟨rfl, rfl⟩))
    (fun os started H enc _ => lifted os started H enc)
theorem proved : Rows.FnFileLimitCardSaid :=
  Claim7.holds_tied_plain_at .later [] [.data, .data, .data, .sentinel, .sentinel] true (true, "167e4d36e1bc60f6d5ed3739e3d5e09f6b5bab75b6f9b2c84f393379c264b4c4") true
    bare (fun _ h => by cases h) (by kernel_rfl) (fun _ h => by cases h) fnFileLimit_row_tie rfl ⟨rfl, rfl⟩ (by kernel_rfl) rfl
    (fun f fn hf hfn => by
      obtain rfl : f = 7 := Option.some.inj ((show Tryd.prog.funcNamed "loop.example/g00974/laws.FnFileLimit" = some 7 by kernel_rfl).symm.trans hf) |>.symm
      obtain rfl : fn = Tryd.f7 := (Option.some.inj (Tryd.func7.symm.trans hfn)).symm
      exact ⟨by kernel_rfl, fun j t ht => by
        rw [Tryd.params7] at ht
        have hm : t ∈ [22] := by simpa using Array.mem_of_getElem? ht
        have hall : ([22].all fun u => !Tryd.prog.wantsStandIn u) = true := by kernel_rfl
        exact (show Tryd.prog.wantsStandIn t = false by simpa using List.all_eq_true.1 hall t hm)⟩)
    (by kernel_rfl)
end Go.Proofs.YtjiplnaceiofmaaDoor.filelimit
