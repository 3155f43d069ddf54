/-
  Walks: room is kept free.
-/
import Derived.Test.YtglapnkicmkamaaDatHe
namespace Go.Proofs.Ytglapnkicmkamaa
open Go.ChangeShapes Go.WideShapes Go.ChangeAt Go.RowKit
set_option maxRecDepth 100000
set_option maxHeartbeats 1000000
theorem spec_l01New_c {w : World} {H : Nat → Prop} {code : List Nat} {code_a : Option Addr} {code_n code_c : Nat} (v_code : RdA 1 encB okB H w (.slice code_a code_n code_c) code) (p0 : code_n ≤ 1048576) :
    Calls Try.prog 9 #[.slice code_a code_n code_c] w fun e w' => ∃ (h2 : Int), ∃ (r0_b : Nat), e = .returned (.pointer (some ⟨r0_b, 0, none⟩)) ∧ Mv [] w [bx r0_b [.slice code_a code_n code_c, .int .i64 ((0 : Nat) : Int), .int .i64 h2] 47] w' ∧ i64ok h2 := by
 have uU : True := (fun _ => trivial) p0
 clear uU
 have V_v_code : RdA 1 encB okB (V H w []) w (.slice code_a code_n code_c) code := RdA.start v_code (fun _ _ => fps_nil _)
 obtain ⟨ln_code, le_code, mx_code, ni_code⟩ := RdA.inv v_code
 refine calls_enter 32 Try.func9 rfl Try.ntmps9 (Nat.le_of_ble_eq_true rfl) (fun _ F0i => ?_)
 have F0 : Fr 32 [(0, .slice code_a code_n code_c)] _ := F0i
 clear F0i
 refine wp_seq (wp_region_lit (l_op (f_val F0 rfl rfl (r_assign rfl rfl) rfl fun _ F1 => ?_)))
 have F2 : Fr 32 [(2, .pointer none), (0, .slice code_a code_n code_c)] _ := F1.cut rfl
 clear F0 F1
 refine s_end (x_normal (wp_seq (wp_region_lit (l_op (f_mv F2 rfl rfl rfl rfl rfl fun _ F3 => ?_)))))
 refine l_op (f_val F3 rfl rfl (r_len Try.underlying22 rfl (F3.ev 5 rfl)) rfl fun _ F4 => ?_)
 refine l_op (f_val F4 rfl rfl (r_add (z := ((94701 + code_n : Nat) : Int)) rfl rfl (F4.ev 6 rfl) (by first | rfl | omega) ⟨by first | omega | (unfold i64ok at *; omega), by first | omega | (unfold i64ok at *; omega)⟩) rfl fun _ F5 => ?_)
 refine l_op (f_as F5 rfl rfl rfl rfl rfl fun _ F6 => ?_)
 have F7 : Fr 32 [(3, .int .i64 ((94701 + code_n : Nat) : Int)), (0, .slice code_a code_n code_c)] _ := F6.cut rfl
 clear F2 F3 F4 F5 F6
 refine s_end (x_normal (wp_seq (wp_seq (wp_region_lit (l_op (f_val F7 rfl rfl (r_assign rfl rfl) rfl fun _ F8 => ?_))))))
 have F9 : Fr 32 [(4, .int .i64 0), (3, .int .i64 ((94701 + code_n : Nat) : Int)), (0, .slice code_a code_n code_c)] _ := F8.cut rfl
 clear F7 F8
 refine s_end (x_normal (wp_block ?_))
 refine x_loop (fun (k : Nat) aZ wZ => ∃ (hh : Nat), Fr 32 [(4, .int .i64 ((k : Nat) : Int)), (3, .int .i64 ((hh : Nat) : Int)), (0, .slice code_a code_n code_c)] aZ ∧ Mv [] w [] wZ ∧ (k ≤ code_n) ∧ (hh ≤ 1073741823)) (fun (k : Nat) => code_n - k) (0) ?_ ?_
 · exact ⟨94701 + code_n, F9.cut rfl, (Mv.refl (At.nil w)), by omega, by omega⟩
 · rintro k a10 w10 ⟨hh, F10, S10, hk_0, hk_1⟩
   refine wp_seq (wp_seq (wp_region_lit (l_op (f_mv F10 rfl rfl rfl rfl rfl fun _ F11 => ?_))))
   refine l_op (f_mv F11 rfl rfl rfl rfl rfl fun _ F12 => ?_)
   refine l_op (f_val F12 rfl rfl (r_len Try.underlying22 rfl (F12.ev 9 rfl)) rfl fun _ F13 => ?_)
   refine l_op (f_val F13 rfl rfl (r_cmp (b := decide (k < code_n)) (.inr (.inr (.inl rfl))) rfl (F13.ev 8 rfl) (F13.ev 10 rfl) (dec_of (by omega))) rfl fun _ F14 => ?_)
   refine l_op (f_mv F14 rfl rfl rfl rfl rfl fun _ F15 => ?_)
   rcases Decidable.em (k < code_n) with h16 | h16
   · rw [decide_eq_true h16] at F15
     refine l_op (f_mv F15 (wanted_g F15 rfl rfl rfl rfl) rfl rfl rfl rfl fun _ F17 => ?_)
     refine l_op (f_val F17 (wanted_g F17 rfl rfl rfl rfl) rfl (r_cmp (b := decide (k < 4000)) (.inr (.inr (.inl rfl))) rfl (F17.ev 13 rfl) rfl (dec_of (by omega))) rfl fun _ F18 => ?_)
     refine l_op (f_val F18 rfl rfl (r_pick (b := true) rfl (F18.ev 12 rfl) (F18.ev 14 rfl)) rfl fun _ F19 => ?_)
     have F20 : Fr 32 [(15, .bool (decide (k < 4000))), (4, .int .i64 ((k : Nat) : Int)), (3, .int .i64 ((hh : Nat) : Int)), (0, .slice code_a code_n code_c)] _ := F19.cut rfl
     clear F10 F11 F12 F13 F14 F15 F17 F18 F19
     refine s_end (x_normal (x_cond (p := k < 4000) (F20.ev 15 rfl) (fun h21 => ?_) (fun h21 => ?_)))
     · skip
       refine wp_skip (x_normal (wp_seq (wp_block (wp_region_lit (l_op (f_mv F20 rfl rfl rfl rfl rfl fun _ F22 => ?_))))))
       refine l_op (f_val F22 rfl rfl (r_mul (z := ((hh * 131 : Nat) : Int)) rfl (F22.ev 18 rfl) rfl (by first | rfl | omega) ⟨by first | omega | (unfold i64ok at *; omega), by first | omega | (unfold i64ok at *; omega)⟩) rfl fun _ F23 => ?_)
       refine l_op (f_mv F23 rfl rfl rfl rfl rfl fun _ F24 => ?_)
       refine l_op (f_mv F24 rfl rfl rfl rfl rfl fun _ F25 => ?_)
       obtain ⟨B26, O26, x1, ad26, hx1, okx1, ln26, cl26⟩ := RdA.at (RdA.mv (Nat.succ_pos _) V_v_code S10) k (by first | assumption | omega)
       clear ln26
       refine l_op (f_val F25 rfl rfl (r_indexAddr (i := k) ET_22 rfl ((F25.ev 20 rfl).trans (by rw [ad26])) (F25.ev 21 rfl) (by omega) (by first | assumption | omega)) rfl fun _ F27 => ?_)
       refine l_op (f_val (v := .int .u8 ((x1 : Nat) : Int)) F27 rfl rfl (r_load (cs := [.int .u8 ((x1 : Nat) : Int)]) TI_5 rfl (F27.ev 22 rfl) rfl (fun _ => rfl) (elem_sub (f := 0) cl26 [.int .u8 ((x1 : Nat) : Int)] rfl)) rfl fun _ F28 => ?_)
       have ob29 : x1 < 256 := okx1
       refine l_op (f_val F28 rfl rfl (r_convU8 Try.underlying3 Try.underlying5 rfl (F28.ev 23 rfl) ⟨by omega, by omega⟩) rfl fun _ F30 => ?_)
       refine l_op (f_val F30 rfl rfl (r_add (z := (((hh * 131) + x1 : Nat) : Int)) rfl (F30.ev 19 rfl) (F30.ev 24 rfl) (by first | rfl | omega) ⟨by first | omega | (unfold i64ok at *; omega), by first | omega | (unfold i64ok at *; omega)⟩) rfl fun _ F31 => ?_)
       refine l_op (f_val F31 rfl rfl (r_add (z := ((((hh * 131) + x1) + 7 : Nat) : Int)) rfl (F31.ev 25 rfl) rfl (by first | rfl | omega) ⟨by first | omega | (unfold i64ok at *; omega), by first | omega | (unfold i64ok at *; omega)⟩) rfl fun _ F32 => ?_)
       have an33 := andN_le ((((hh * 131) + x1) + 7 : Nat) : Int) 1073741823 (by decide)
       refine l_op (f_val F32 rfl rfl (r_andN (c := 1073741823) rfl (by decide) rfl (F32.ev 26 rfl) rfl) rfl fun _ F34 => ?_)
       refine l_op (f_as F34 rfl rfl rfl rfl rfl fun _ F35 => ?_)
       have F36 : Fr 32 [(3, .int .i64 ((andN ((((hh * 131) + x1) + 7 : Nat) : Int) 1073741823 : Nat) : Int)), (4, .int .i64 ((k : Nat) : Int)), (0, .slice code_a code_n code_c)] _ := F35.cut rfl
       clear F20 F22 F23 F24 F25 F27 F28 F30 F31 F32 F34 F35
       refine s_end (x_block_normal (x_normal (wp_region_lit (l_op (f_mv F36 rfl rfl rfl rfl rfl fun _ F37 => ?_)))))
       refine l_op (f_val F37 rfl rfl (r_add (z := ((k + 1 : Nat) : Int)) rfl (F37.ev 16 rfl) rfl (by first | rfl | omega) ⟨by first | omega | (unfold i64ok at *; omega), by first | omega | (unfold i64ok at *; omega)⟩) rfl fun _ F38 => ?_)
       refine l_op (f_as F38 rfl rfl rfl rfl rfl fun _ F39 => ?_)
       have F40 : Fr 32 [(4, .int .i64 ((k + 1 : Nat) : Int)), (3, .int .i64 ((andN ((((hh * 131) + x1) + 7 : Nat) : Int) 1073741823 : Nat) : Int)), (0, .slice code_a code_n code_c)] _ := F39.cut rfl
       clear F36 F37 F38 F39
       refine s_end ?_
       refine x_normal ⟨k + 1, by omega, andN ((((hh * 131) + x1) + 7 : Nat) : Int) 1073741823, F40.cut rfl, (S10.pick [] rfl), by omega, by omega⟩
     · skip
       refine wp_exit (x_then_exit (x_then_exit (x_block_here (x_normal (wp_seq (wp_region_lit (l_op (f_mv F20 rfl rfl rfl rfl rfl fun _ F41 => ?_))))))))
       refine l_op (f_mv F41 rfl rfl rfl rfl rfl fun _ F42 => ?_)
       refine l_op (f_val (v := .agg #[.slice code_a code_n code_c, .int .i64 0, .int .i64 ((hh : Nat) : Int)]) F42 rfl rfl (r_build BI_47 rfl (lc (pr2 (F42.ev 28 rfl)) (lc (pr2 (F42.ev 29 rfl)) rfl)) rfl) rfl fun _ F43 => ?_)
       refine l_op (f_box F43 S10.at' rfl rfl rfl (F43.ev 30 rfl) rfl rfl fun b44 _ w44 F45 S44 => ?_)
       refine l_op (f_as F45 rfl rfl rfl rfl rfl fun _ F46 => ?_)
       have F47 : Fr 32 [(2, .pointer (some ⟨b44, 0, none⟩))] _ := F46.cut rfl
       clear F20 F41 F42 F43 F45 F46
       have T48 : Mv _ _ [bx b44 [.slice code_a code_n code_c, .int .i64 0, .int .i64 ((hh : Nat) : Int)] 47] _ := S44
       refine s_end (x_normal (wp_ret ?_))
       refine x_done (v := .pointer (some ⟨b44, 0, none⟩)) F47 (results_1 Try.results9 (.tmp (F47.ev 2 rfl))) ?_
       exact ⟨((hh : Nat) : Int), b44, rfl, (Mv.cast (Mv.pick (S10.trans T48) [0] rfl) rfl), by first | assumption | exact w64_ok _ | omega | (unfold i64ok; omega)⟩
   · rw [decide_eq_false h16] at F15
     refine l_op (f_skip F15 (wanted_g F15 rfl rfl rfl rfl) rfl rfl fun _ F49 => ?_)
     refine l_op (f_skip F49 (wanted_g F49 rfl rfl rfl rfl) rfl rfl fun _ F50 => ?_)
     refine l_op (f_val F50 rfl rfl (r_pick (b := false) rfl (F50.ev 12 rfl) rfl) rfl fun _ F51 => ?_)
     have F52 : Fr 32 [(15, .bool false), (4, .int .i64 ((k : Nat) : Int)), (3, .int .i64 ((hh : Nat) : Int)), (0, .slice code_a code_n code_c)] _ := F51.cut rfl
     clear F10 F11 F12 F13 F14 F15 F49 F50 F51
     refine s_end (x_normal (wp_cond_false (F52.ev 15 rfl) (wp_exit (x_then_exit (x_then_exit (x_block_here (x_normal (wp_seq (wp_region_lit (l_op (f_mv F52 rfl rfl rfl rfl rfl fun _ F53 => ?_)))))))))))
     refine l_op (f_mv F53 rfl rfl rfl rfl rfl fun _ F54 => ?_)
     refine l_op (f_val (v := .agg #[.slice code_a code_n code_c, .int .i64 0, .int .i64 ((hh : Nat) : Int)]) F54 rfl rfl (r_build BI_47 rfl (lc (pr2 (F54.ev 28 rfl)) (lc (pr2 (F54.ev 29 rfl)) rfl)) rfl) rfl fun _ F55 => ?_)
     refine l_op (f_box F55 S10.at' rfl rfl rfl (F55.ev 30 rfl) rfl rfl fun b56 _ w56 F57 S56 => ?_)
     refine l_op (f_as F57 rfl rfl rfl rfl rfl fun _ F58 => ?_)
     have F59 : Fr 32 [(2, .pointer (some ⟨b56, 0, none⟩))] _ := F58.cut rfl
     clear F52 F53 F54 F55 F57 F58
     have T60 : Mv _ _ [bx b56 [.slice code_a code_n code_c, .int .i64 0, .int .i64 ((hh : Nat) : Int)] 47] _ := S56
     refine s_end (x_normal (wp_ret ?_))
     refine x_done (v := .pointer (some ⟨b56, 0, none⟩)) F59 (results_1 Try.results9 (.tmp (F59.ev 2 rfl))) ?_
     exact ⟨((hh : Nat) : Int), b56, rfl, (Mv.cast (Mv.pick (S10.trans T60) [0] rfl) rfl), by first | assumption | exact w64_ok _ | omega | (unfold i64ok; omega)⟩
theorem spec_l01Byte_c {w : World} {H : Nat → Prop} {c : CurD} {c_code_a : Option Addr} {c_code_n c_code_c : Nat} {c_b : Nat} (v_c_code : RdA 1 encB okB H w (.slice c_code_a c_code_n c_code_c) c.code) (h_c_pos : i64ok (c.pos : Int)) (h_c_h : i64ok c.h) (p0 : c.pos ≤ c_code_n) (hA : At w [bx c_b [.slice c_code_a c_code_n c_code_c, .int .i64 ((c.pos : Nat) : Int), .int .i64 c.h] 47]) (hD : ∀ b, H b → ¬ fps [bx c_b [.slice c_code_a c_code_n c_code_c, .int .i64 ((c.pos : Nat) : Int), .int .i64 c.h] 47] b) :
    Calls Try.prog 14 #[.pointer (some ⟨c_b, 0, none⟩)] w fun e w' => ∃ (i2 : Nat), ∃ (h2 : Int), ∃ (r : Nat), e = .returned (.int .i64 ((r : Nat) : Int)) ∧ Mv [bx c_b [.slice c_code_a c_code_n c_code_c, .int .i64 ((c.pos : Nat) : Int), .int .i64 c.h] 47] w [bx c_b [.slice c_code_a c_code_n c_code_c, .int .i64 ((i2 : Nat) : Int), .int .i64 h2] 47] w' ∧ i2 ≤ c_code_n ∧ i64ok h2 ∧ r < 256 := by
 have uU : True := (fun _ _ _ => trivial) h_c_pos h_c_h p0
 clear uU
 have V_v_c_code : RdA 1 encB okB (V H w [bx c_b [.slice c_code_a c_code_n c_code_c, .int .i64 ((c.pos : Nat) : Int), .int .i64 c.h] 47]) w (.slice c_code_a c_code_n c_code_c) c.code := RdA.start v_c_code hD
 obtain ⟨ln_c_code, le_c_code, mx_c_code, ni_c_code⟩ := RdA.inv v_c_code
 refine calls_enter 58 Try.func14 rfl Try.ntmps14 (Nat.le_of_ble_eq_true rfl) (fun _ F0i => ?_)
 have F0 : Fr 58 [(0, .pointer (some ⟨c_b, 0, none⟩))] _ := F0i
 clear F0i
 refine wp_seq (wp_region_lit (l_op (f_val F0 rfl rfl (r_assign rfl rfl) rfl fun _ F1 => ?_)))
 have F2 : Fr 58 [(2, .int .i64 0), (0, .pointer (some ⟨c_b, 0, none⟩))] _ := F1.cut rfl
 clear F0 F1
 refine s_end (x_normal (wp_seq (wp_region_lit (l_op (f_mv F2 rfl rfl rfl rfl rfl fun _ F3 => ?_)))))
 refine l_op (f_mv F3 rfl rfl rfl rfl rfl fun _ F4 => ?_)
 refine l_op (f_val F4 rfl rfl (r_nilCheck rfl (F4.ev 5 rfl)) rfl fun _ F5 => ?_)
 refine l_op (f_val F5 rfl rfl (r_field FI_47_2 rfl (F5.ev 6 rfl) rfl) rfl fun _ F6 => ?_)
 refine l_op (f_val (v := .int .i64 c.h) F6 rfl rfl (r_loadB hA 0 TI_3 rfl rfl (F6.ev 7 rfl) rfl rfl (fun _ => rfl) rfl) rfl fun _ F7 => ?_)
 refine l_op (f_val F7 rfl rfl (r_mulW rfl (F7.ev 8 rfl) rfl) rfl fun _ F8 => ?_)
 refine l_op (f_val F8 rfl rfl (r_addW rfl (F8.ev 9 rfl) rfl) rfl fun _ F9 => ?_)
 refine l_op (f_val F9 rfl rfl (r_nilCheck rfl (F9.ev 4 rfl)) rfl fun _ F10 => ?_)
 refine l_op (f_val F10 rfl rfl (r_field FI_47_2 rfl (F10.ev 11 rfl) rfl) rfl fun _ F11 => ?_)
 refine l_op (s_store hA 0 TI_3 rfl rfl rfl rfl rfl (F11.ev 12 rfl) (F11.ev 10 rfl) rfl rfl rfl rfl rfl fun w12 S12 => ?_)
 have F13 : Fr 58 [(12, .pointer (some ⟨c_b, 2, none⟩)), (10, .int .i64 (w64 ((w64 (c.h * 6364136223846793005)) + 1442695040888963407))), (0, .pointer (some ⟨c_b, 0, none⟩))] _ := F11.cut rfl
 clear F2 F3 F4 F5 F6 F7 F8 F9 F10 F11
 have T14 : Mv _ _ [bx c_b [.slice c_code_a c_code_n c_code_c, .int .i64 ((c.pos : Nat) : Int), .int .i64 (w64 ((w64 (c.h * 6364136223846793005)) + 1442695040888963407))] 47] _ := S12
 refine s_end (x_normal (wp_seq ?_))
 refine x_draw (fun aZ wZ => Fr 58 [(0, .pointer (some ⟨c_b, 0, none⟩)), (3, .int .i64 ((andN (xorI (shrI (w64 ((w64 (c.h * 6364136223846793005)) + 1442695040888963407)) 33) (shrI (w64 ((w64 (c.h * 6364136223846793005)) + 1442695040888963407)) 45)) 255 : Nat) : Int))] aZ ∧ Mv [bx c_b [.slice c_code_a c_code_n c_code_c, .int .i64 ((c.pos : Nat) : Int), .int .i64 (w64 ((w64 (c.h * 6364136223846793005)) + 1442695040888963407))] 47] w12 [bx c_b [.slice c_code_a c_code_n c_code_c, .int .i64 ((c.pos : Nat) : Int), .int .i64 (w64 ((w64 (c.h * 6364136223846793005)) + 1442695040888963407))] 47] wZ) [bx c_b [.slice c_code_a c_code_n c_code_c, .int .i64 ((c.pos : Nat) : Int), .int .i64 (w64 ((w64 (c.h * 6364136223846793005)) + 1442695040888963407))] 47] mixed T14.at' (listed := #[false, false, false, false, false, false, false, false, false, false, false, false, false]) rfl (fun w16 S16 => ?_) [0] rfl ?_
 · skip
   refine g_take F13 rfl (i := 0) (listed' := #[true, false, false, false, false, false, false, false, false, false, false, false, false]) rfl (by kernel_rfl) (by kernel_rfl) (by kernel_rfl) (fun _ _ _ h => h) (Sd.of (Mv.refl S16.at') [0] rfl) rfl rfl rfl rfl (fun _ hz => (r_move rfl (F13.ev 0 rfl))) fun _ F17 => ?_
   refine g_take F17 rfl (i := 1) (listed' := #[true, true, false, false, false, false, false, false, false, false, false, false, false]) rfl (by kernel_rfl) (by kernel_rfl) (by kernel_rfl) (fun _ _ _ h => h) (Sd.of (Mv.refl S16.at') [0] rfl) rfl rfl rfl rfl (fun _ hz => (r_nilCheck rfl (F17.ev 13 rfl))) fun _ F18 => ?_
   refine g_take F18 rfl (i := 2) (listed' := #[true, true, true, false, false, false, false, false, false, false, false, false, false]) rfl (by kernel_rfl) (by kernel_rfl) (by kernel_rfl) (fun _ _ _ h => h) (Sd.of (Mv.refl S16.at') [0] rfl) rfl rfl rfl rfl (fun _ hz => (r_field FI_47_2 rfl (F18.ev 14 rfl) rfl)) fun _ F19 => ?_
   refine g_take (v := .int .i64 (w64 ((w64 (c.h * 6364136223846793005)) + 1442695040888963407))) F19 rfl (i := 3) (listed' := #[true, true, true, true, false, false, false, false, false, false, false, false, false]) rfl (by kernel_rfl) (by kernel_rfl) (by kernel_rfl) (fun _ _ _ h => h) (Sd.of (Mv.refl S16.at') [0] rfl) rfl rfl rfl rfl (fun _ hz => (r_loadX (hz.bx 0 rfl) TI_3 rfl (F19.ev 15 rfl) rfl rfl (fun _ => rfl) rfl)) fun _ F20 => ?_
   refine g_take F20 rfl (i := 4) (listed' := #[true, true, true, true, true, false, false, false, false, false, false, false, false]) rfl (by kernel_rfl) (by kernel_rfl) (by kernel_rfl) (fun _ _ _ h => h) (Sd.of (Mv.refl S16.at') [0] rfl) rfl rfl rfl rfl (fun _ hz => (r_shr (c := 33) rfl (by decide) rfl (F20.ev 16 rfl) rfl)) fun _ F21 => ?_
   refine g_take F21 rfl (i := 5) (listed' := #[true, true, true, true, true, true, false, false, false, false, false, false, false]) rfl (by kernel_rfl) (by kernel_rfl) (by kernel_rfl) (fun _ _ _ h => h) (Sd.of (Mv.refl S16.at') [0] rfl) rfl rfl rfl rfl (fun _ hz => (r_move rfl (F21.ev 0 rfl))) fun _ F22 => ?_
   refine g_take F22 rfl (i := 6) (listed' := #[true, true, true, true, true, true, true, false, false, false, false, false, false]) rfl (by kernel_rfl) (by kernel_rfl) (by kernel_rfl) (fun _ _ _ h => h) (Sd.of (Mv.refl S16.at') [0] rfl) rfl rfl rfl rfl (fun _ hz => (r_nilCheck rfl (F22.ev 18 rfl))) fun _ F23 => ?_
   refine g_take F23 rfl (i := 7) (listed' := #[true, true, true, true, true, true, true, true, false, false, false, false, false]) rfl (by kernel_rfl) (by kernel_rfl) (by kernel_rfl) (fun _ _ _ h => h) (Sd.of (Mv.refl S16.at') [0] rfl) rfl rfl rfl rfl (fun _ hz => (r_field FI_47_2 rfl (F23.ev 19 rfl) rfl)) fun _ F24 => ?_
   refine g_take (v := .int .i64 (w64 ((w64 (c.h * 6364136223846793005)) + 1442695040888963407))) F24 rfl (i := 8) (listed' := #[true, true, true, true, true, true, true, true, true, false, false, false, false]) rfl (by kernel_rfl) (by kernel_rfl) (by kernel_rfl) (fun _ _ _ h => h) (Sd.of (Mv.refl S16.at') [0] rfl) rfl rfl rfl rfl (fun _ hz => (r_loadX (hz.bx 0 rfl) TI_3 rfl (F24.ev 20 rfl) rfl rfl (fun _ => rfl) rfl)) fun _ F25 => ?_
   refine g_take F25 rfl (i := 9) (listed' := #[true, true, true, true, true, true, true, true, true, true, false, false, false]) rfl (by kernel_rfl) (by kernel_rfl) (by kernel_rfl) (fun _ _ _ h => h) (Sd.of (Mv.refl S16.at') [0] rfl) rfl rfl rfl rfl (fun _ hz => (r_shr (c := 45) rfl (by decide) rfl (F25.ev 21 rfl) rfl)) fun _ F26 => ?_
   refine g_take F26 rfl (i := 10) (listed' := #[true, true, true, true, true, true, true, true, true, true, true, false, false]) rfl (by kernel_rfl) (by kernel_rfl) (by kernel_rfl) (fun _ _ _ h => h) (Sd.of (Mv.refl S16.at') [0] rfl) rfl rfl rfl rfl (fun _ hz => (r_xor rfl (F26.ev 17 rfl) (F26.ev 22 rfl))) fun _ F27 => ?_
   have an28 := andN_le (xorI (shrI (w64 ((w64 (c.h * 6364136223846793005)) + 1442695040888963407)) 33) (shrI (w64 ((w64 (c.h * 6364136223846793005)) + 1442695040888963407)) 45)) 255 (by decide)
   refine g_take F27 rfl (i := 11) (listed' := #[true, true, true, true, true, true, true, true, true, true, true, true, false]) rfl (by kernel_rfl) (by kernel_rfl) (by kernel_rfl) (fun _ _ _ h => h) (Sd.of (Mv.refl S16.at') [0] rfl) rfl rfl rfl rfl (fun _ hz => (r_andN (c := 255) rfl (by decide) rfl (F27.ev 23 rfl) rfl)) fun _ F29 => ?_
   refine g_take F29 rfl (i := 12) (listed' := #[true, true, true, true, true, true, true, true, true, true, true, true, true]) rfl (by kernel_rfl) (by kernel_rfl) (by kernel_rfl) (fun _ _ _ h => h) (Sd.of (Mv.refl S16.at') [0] rfl) rfl rfl rfl rfl (fun _ hz => (r_assign rfl (F29.ev 24 rfl))) fun _ F30 => ?_
   refine wpAnyH_done (by kernel_rfl) (x_normal ?_) _
   exact ⟨F30.cut rfl, (S16.pick [0] rfl)⟩
 · rintro a31 w31 ⟨F31, S31⟩
   have an32 := andN_le (xorI (shrI (w64 ((w64 (c.h * 6364136223846793005)) + 1442695040888963407)) 33) (shrI (w64 ((w64 (c.h * 6364136223846793005)) + 1442695040888963407)) 45)) 255 (by decide)
   refine x_normal (wp_seq (wp_seq ?_))
   refine x_draw (fun aZ wZ => Fr 58 [(0, .pointer (some ⟨c_b, 0, none⟩)), (3, .int .i64 ((andN (xorI (shrI (w64 ((w64 (c.h * 6364136223846793005)) + 1442695040888963407)) 33) (shrI (w64 ((w64 (c.h * 6364136223846793005)) + 1442695040888963407)) 45)) 255 : Nat) : Int)), (34, .bool (decide (c.pos < c_code_n)))] aZ ∧ Mv [bx c_b [.slice c_code_a c_code_n c_code_c, .int .i64 ((c.pos : Nat) : Int), .int .i64 (w64 ((w64 (c.h * 6364136223846793005)) + 1442695040888963407))] 47] w31 [bx c_b [.slice c_code_a c_code_n c_code_c, .int .i64 ((c.pos : Nat) : Int), .int .i64 (w64 ((w64 (c.h * 6364136223846793005)) + 1442695040888963407))] 47] wZ) [bx c_b [.slice c_code_a c_code_n c_code_c, .int .i64 ((c.pos : Nat) : Int), .int .i64 (w64 ((w64 (c.h * 6364136223846793005)) + 1442695040888963407))] 47] mixed S31.at' (listed := #[false, false, false, false, false, false, false, false, false, false]) rfl (fun w34 S34 => ?_) [0] rfl ?_
   · skip
     refine g_take F31 rfl (i := 0) (listed' := #[true, false, false, false, false, false, false, false, false, false]) rfl (by kernel_rfl) (by kernel_rfl) (by kernel_rfl) (fun _ _ _ h => h) (Sd.of (Mv.refl S34.at') [0] rfl) rfl rfl rfl rfl (fun _ hz => (r_move rfl (F31.ev 0 rfl))) fun _ F35 => ?_
     refine g_take F35 rfl (i := 1) (listed' := #[true, true, false, false, false, false, false, false, false, false]) rfl (by kernel_rfl) (by kernel_rfl) (by kernel_rfl) (fun _ _ _ h => h) (Sd.of (Mv.refl S34.at') [0] rfl) rfl rfl rfl rfl (fun _ hz => (r_nilCheck rfl (F35.ev 25 rfl))) fun _ F36 => ?_
     refine g_take F36 rfl (i := 2) (listed' := #[true, true, true, false, false, false, false, false, false, false]) rfl (by kernel_rfl) (by kernel_rfl) (by kernel_rfl) (fun _ _ _ h => h) (Sd.of (Mv.refl S34.at') [0] rfl) rfl rfl rfl rfl (fun _ hz => (r_field FI_47_1 rfl (F36.ev 26 rfl) rfl)) fun _ F37 => ?_
     refine g_take (v := .int .i64 ((c.pos : Nat) : Int)) F37 rfl (i := 3) (listed' := #[true, true, true, true, false, false, false, false, false, false]) rfl (by kernel_rfl) (by kernel_rfl) (by kernel_rfl) (fun _ _ _ h => h) (Sd.of (Mv.refl S34.at') [0] rfl) rfl rfl rfl rfl (fun _ hz => (r_loadX (hz.bx 0 rfl) TI_3 rfl (F37.ev 27 rfl) rfl rfl (fun _ => rfl) rfl)) fun _ F38 => ?_
     refine g_take F38 rfl (i := 4) (listed' := #[true, true, true, true, true, false, false, false, false, false]) rfl (by kernel_rfl) (by kernel_rfl) (by kernel_rfl) (fun _ _ _ h => h) (Sd.of (Mv.refl S34.at') [0] rfl) rfl rfl rfl rfl (fun _ hz => (r_move rfl (F38.ev 0 rfl))) fun _ F39 => ?_
     refine g_take F39 rfl (i := 5) (listed' := #[true, true, true, true, true, true, false, false, false, false]) rfl (by kernel_rfl) (by kernel_rfl) (by kernel_rfl) (fun _ _ _ h => h) (Sd.of (Mv.refl S34.at') [0] rfl) rfl rfl rfl rfl (fun _ hz => (r_nilCheck rfl (F39.ev 29 rfl))) fun _ F40 => ?_
     refine g_take F40 rfl (i := 6) (listed' := #[true, true, true, true, true, true, true, false, false, false]) rfl (by kernel_rfl) (by kernel_rfl) (by kernel_rfl) (fun _ _ _ h => h) (Sd.of (Mv.refl S34.at') [0] rfl) rfl rfl rfl rfl (fun _ hz => (r_field FI_47_0 rfl (F40.ev 30 rfl) rfl)) fun _ F41 => ?_
     refine g_take (v := .slice c_code_a c_code_n c_code_c) F41 rfl (i := 7) (listed' := #[true, true, true, true, true, true, true, true, false, false]) rfl (by kernel_rfl) (by kernel_rfl) (by kernel_rfl) (fun _ _ _ h => h) (Sd.of (Mv.refl S34.at') [0] rfl) rfl rfl rfl rfl (fun _ hz => (r_loadX (hz.bx 0 rfl) TI_22 rfl (F41.ev 31 rfl) rfl rfl (fun _ => rfl) rfl)) fun _ F42 => ?_
     refine g_take F42 rfl (i := 8) (listed' := #[true, true, true, true, true, true, true, true, true, false]) rfl (by kernel_rfl) (by kernel_rfl) (by kernel_rfl) (fun _ _ _ h => h) (Sd.of (Mv.refl S34.at') [0] rfl) rfl rfl rfl rfl (fun _ hz => (r_len Try.underlying22 rfl (F42.ev 32 rfl))) fun _ F43 => ?_
     refine g_take F43 rfl (i := 9) (listed' := #[true, true, true, true, true, true, true, true, true, true]) rfl (by kernel_rfl) (by kernel_rfl) (by kernel_rfl) (fun _ _ _ h => h) (Sd.of (Mv.refl S34.at') [0] rfl) rfl rfl rfl rfl (fun _ hz => (r_cmp (b := decide (c.pos < c_code_n)) (.inr (.inr (.inl rfl))) rfl (F43.ev 28 rfl) (F43.ev 33 rfl) (dec_of (by omega)))) fun _ F44 => ?_
     refine wpAnyH_done (by kernel_rfl) (x_normal ?_) _
     exact ⟨F44.cut rfl, (S34.pick [0] rfl)⟩
   · rintro a45 w45 ⟨F45, S45⟩
     have an46 := andN_le (xorI (shrI (w64 ((w64 (c.h * 6364136223846793005)) + 1442695040888963407)) 33) (shrI (w64 ((w64 (c.h * 6364136223846793005)) + 1442695040888963407)) 45)) 255 (by decide)
     refine x_normal (x_cond (p := c.pos < c_code_n) (F45.ev 34 rfl) (fun h47 => ?_) (fun h47 => ?_))
     · skip
       refine wp_seq ?_
       obtain ⟨x1, hx1, okx1⟩ := RdA.elem (RdA.mv (Nat.succ_pos _) V_v_c_code (T14.trans (S31.trans S45))) c.pos (by first | assumption | omega)
       refine x_draw (fun aZ wZ => Fr 58 [(0, .pointer (some ⟨c_b, 0, none⟩)), (3, .int .i64 ((andN (((andN (xorI (shrI (w64 ((w64 (c.h * 6364136223846793005)) + 1442695040888963407)) 33) (shrI (w64 ((w64 (c.h * 6364136223846793005)) + 1442695040888963407)) 45)) 255) + x1 : Nat) : Int) 255 : Nat) : Int))] aZ ∧ Mv [bx c_b [.slice c_code_a c_code_n c_code_c, .int .i64 ((c.pos : Nat) : Int), .int .i64 (w64 ((w64 (c.h * 6364136223846793005)) + 1442695040888963407))] 47] w45 [bx c_b [.slice c_code_a c_code_n c_code_c, .int .i64 ((c.pos : Nat) : Int), .int .i64 (w64 ((w64 (c.h * 6364136223846793005)) + 1442695040888963407))] 47] wZ) [bx c_b [.slice c_code_a c_code_n c_code_c, .int .i64 ((c.pos : Nat) : Int), .int .i64 (w64 ((w64 (c.h * 6364136223846793005)) + 1442695040888963407))] 47] mixed S45.at' (listed := #[false, false, false, false, false, false, false, false, false, false, false, false, false, false, false]) rfl (fun w49 S49 => ?_) [0] rfl ?_
       · skip
         refine g_take F45 rfl (i := 0) (listed' := #[true, false, false, false, false, false, false, false, false, false, false, false, false, false, false]) rfl (by kernel_rfl) (by kernel_rfl) (by kernel_rfl) (fun _ _ _ h => h) (Sd.of (Mv.refl S49.at') [0] rfl) rfl rfl rfl rfl (fun _ hz => (r_move rfl (F45.ev 3 rfl))) fun _ F50 => ?_
         refine g_take F50 rfl (i := 1) (listed' := #[true, true, false, false, false, false, false, false, false, false, false, false, false, false, false]) rfl (by kernel_rfl) (by kernel_rfl) (by kernel_rfl) (fun _ _ _ h => h) (Sd.of (Mv.refl S49.at') [0] rfl) rfl rfl rfl rfl (fun _ hz => (r_move rfl (F50.ev 0 rfl))) fun _ F51 => ?_
         refine g_take F51 rfl (i := 2) (listed' := #[true, true, true, false, false, false, false, false, false, false, false, false, false, false, false]) rfl (by kernel_rfl) (by kernel_rfl) (by kernel_rfl) (fun _ _ _ h => h) (Sd.of (Mv.refl S49.at') [0] rfl) rfl rfl rfl rfl (fun _ hz => (r_nilCheck rfl (F51.ev 36 rfl))) fun _ F52 => ?_
         refine g_take F52 rfl (i := 3) (listed' := #[true, true, true, true, false, false, false, false, false, false, false, false, false, false, false]) rfl (by kernel_rfl) (by kernel_rfl) (by kernel_rfl) (fun _ _ _ h => h) (Sd.of (Mv.refl S49.at') [0] rfl) rfl rfl rfl rfl (fun _ hz => (r_field FI_47_0 rfl (F52.ev 37 rfl) rfl)) fun _ F53 => ?_
         refine g_take (v := .slice c_code_a c_code_n c_code_c) F53 rfl (i := 4) (listed' := #[true, true, true, true, true, false, false, false, false, false, false, false, false, false, false]) rfl (by kernel_rfl) (by kernel_rfl) (by kernel_rfl) (fun _ _ _ h => h) (Sd.of (Mv.refl S49.at') [0] rfl) rfl rfl rfl rfl (fun _ hz => (r_loadX (hz.bx 0 rfl) TI_22 rfl (F53.ev 38 rfl) rfl rfl (fun _ => rfl) rfl)) fun _ F54 => ?_
         refine g_take F54 rfl (i := 5) (listed' := #[true, true, true, true, true, true, false, false, false, false, false, false, false, false, false]) rfl (by kernel_rfl) (by kernel_rfl) (by kernel_rfl) (fun _ _ _ h => h) (Sd.of (Mv.refl S49.at') [0] rfl) rfl rfl rfl rfl (fun _ hz => (r_move rfl (F54.ev 0 rfl))) fun _ F55 => ?_
         refine g_take F55 rfl (i := 6) (listed' := #[true, true, true, true, true, true, true, false, false, false, false, false, false, false, false]) rfl (by kernel_rfl) (by kernel_rfl) (by kernel_rfl) (fun _ _ _ h => h) (Sd.of (Mv.refl S49.at') [0] rfl) rfl rfl rfl rfl (fun _ hz => (r_nilCheck rfl (F55.ev 40 rfl))) fun _ F56 => ?_
         refine g_take F56 rfl (i := 7) (listed' := #[true, true, true, true, true, true, true, true, false, false, false, false, false, false, false]) rfl (by kernel_rfl) (by kernel_rfl) (by kernel_rfl) (fun _ _ _ h => h) (Sd.of (Mv.refl S49.at') [0] rfl) rfl rfl rfl rfl (fun _ hz => (r_field FI_47_1 rfl (F56.ev 41 rfl) rfl)) fun _ F57 => ?_
         refine g_take (v := .int .i64 ((c.pos : Nat) : Int)) F57 rfl (i := 8) (listed' := #[true, true, true, true, true, true, true, true, true, false, false, false, false, false, false]) rfl (by kernel_rfl) (by kernel_rfl) (by kernel_rfl) (fun _ _ _ h => h) (Sd.of (Mv.refl S49.at') [0] rfl) rfl rfl rfl rfl (fun _ hz => (r_loadX (hz.bx 0 rfl) TI_3 rfl (F57.ev 42 rfl) rfl rfl (fun _ => rfl) rfl)) fun _ F58 => ?_
         obtain ⟨B59, O59, y59, ad59, hy59, oky59, ln59, cl59⟩ := RdA.atK (Nat.succ_pos _) (RdA.mv (Nat.succ_pos _) V_v_c_code (T14.trans (S31.trans (S45.trans S49)))) c.pos (by first | assumption | omega)
         clear ln59
         obtain rfl := Option.some.inj (hx1.symm.trans hy59)
         clear hy59 oky59
         refine g_take F58 rfl (i := 9) (listed' := #[true, true, true, true, true, true, true, true, true, true, false, false, false, false, false]) rfl (by kernel_rfl) (by kernel_rfl) (by kernel_rfl) (fun _ _ _ h => h) (Sd.of (Mv.refl S49.at') [0] rfl) rfl rfl rfl rfl (fun _ hz => (r_indexAddr (i := c.pos) ET_22 rfl ((F58.ev 39 rfl).trans (by rw [ad59])) (F58.ev 43 rfl) (by omega) (by first | assumption | omega))) fun _ F60 => ?_
         refine g_take (v := .int .u8 ((x1 : Nat) : Int)) F60 rfl (i := 10) (listed' := #[true, true, true, true, true, true, true, true, true, true, true, false, false, false, false]) rfl (by kernel_rfl) (by kernel_rfl) (by kernel_rfl) (fun _ _ _ h => h) (Sd.of (Mv.refl S49.at') [0] rfl) rfl rfl rfl rfl (fun _ hz => (r_load (cs := [.int .u8 ((x1 : Nat) : Int)]) TI_5 rfl (F60.ev 44 rfl) rfl (fun _ => rfl) (elem_sub (f := 0) (cl59 _ hz.kp) [.int .u8 ((x1 : Nat) : Int)] rfl))) fun _ F61 => ?_
         have ob62 : x1 < 256 := okx1
         refine g_take F61 rfl (i := 11) (listed' := #[true, true, true, true, true, true, true, true, true, true, true, true, false, false, false]) rfl (by kernel_rfl) (by kernel_rfl) (by kernel_rfl) (fun _ _ _ h => h) (Sd.of (Mv.refl S49.at') [0] rfl) rfl rfl rfl rfl (fun _ hz => (r_convU8 Try.underlying3 Try.underlying5 rfl (F61.ev 45 rfl) ⟨by omega, by omega⟩)) fun _ F63 => ?_
         refine g_take F63 rfl (i := 12) (listed' := #[true, true, true, true, true, true, true, true, true, true, true, true, true, false, false]) rfl (by kernel_rfl) (by kernel_rfl) (by kernel_rfl) (fun _ _ _ h => h) (Sd.of (Mv.refl S49.at') [0] rfl) rfl rfl rfl rfl (fun _ hz => (r_add (z := (((andN (xorI (shrI (w64 ((w64 (c.h * 6364136223846793005)) + 1442695040888963407)) 33) (shrI (w64 ((w64 (c.h * 6364136223846793005)) + 1442695040888963407)) 45)) 255) + x1 : Nat) : Int)) rfl (F63.ev 35 rfl) (F63.ev 46 rfl) (by first | rfl | omega) ⟨by first | omega | (unfold i64ok at *; omega), by first | omega | (unfold i64ok at *; omega)⟩)) fun _ F64 => ?_
         have an65 := andN_le (((andN (xorI (shrI (w64 ((w64 (c.h * 6364136223846793005)) + 1442695040888963407)) 33) (shrI (w64 ((w64 (c.h * 6364136223846793005)) + 1442695040888963407)) 45)) 255) + x1 : Nat) : Int) 255 (by decide)
         refine g_take F64 rfl (i := 13) (listed' := #[true, true, true, true, true, true, true, true, true, true, true, true, true, true, false]) rfl (by kernel_rfl) (by kernel_rfl) (by kernel_rfl) (fun _ _ _ h => h) (Sd.of (Mv.refl S49.at') [0] rfl) rfl rfl rfl rfl (fun _ hz => (r_andN (c := 255) rfl (by decide) rfl (F64.ev 47 rfl) rfl)) fun _ F66 => ?_
         refine g_take F66 rfl (i := 14) (listed' := #[true, true, true, true, true, true, true, true, true, true, true, true, true, true, true]) rfl (by kernel_rfl) (by kernel_rfl) (by kernel_rfl) (fun _ _ _ h => h) (Sd.of (Mv.refl S49.at') [0] rfl) rfl rfl rfl rfl (fun _ hz => (r_assign rfl (F66.ev 48 rfl))) fun _ F67 => ?_
         refine wpAnyH_done (by kernel_rfl) (x_normal ?_) _
         exact ⟨F67.cut rfl, (S49.pick [0] rfl)⟩
       · rintro a68 w68 ⟨F68, S68⟩
         have an69 := andN_le (((andN (xorI (shrI (w64 ((w64 (c.h * 6364136223846793005)) + 1442695040888963407)) 33) (shrI (w64 ((w64 (c.h * 6364136223846793005)) + 1442695040888963407)) 45)) 255) + x1 : Nat) : Int) 255 (by decide)
         refine x_normal (wp_region_lit (l_op (f_mv F68 rfl rfl rfl rfl rfl fun _ F70 => ?_)))
         refine l_op (f_mv F70 rfl rfl rfl rfl rfl fun _ F71 => ?_)
         refine l_op (f_val F71 rfl rfl (r_nilCheck rfl (F71.ev 50 rfl)) rfl fun _ F72 => ?_)
         refine l_op (f_val F72 rfl rfl (r_field FI_47_1 rfl (F72.ev 51 rfl) rfl) rfl fun _ F73 => ?_)
         refine l_op (f_val (v := .int .i64 ((c.pos : Nat) : Int)) F73 rfl rfl (r_loadB S68.at' 0 TI_3 rfl rfl (F73.ev 52 rfl) rfl rfl (fun _ => rfl) rfl) rfl fun _ F74 => ?_)
         refine l_op (f_val F74 rfl rfl (r_add (z := ((c.pos + 1 : Nat) : Int)) rfl (F74.ev 53 rfl) rfl (by first | rfl | omega) ⟨by first | omega | (unfold i64ok at *; omega), by first | omega | (unfold i64ok at *; omega)⟩) rfl fun _ F75 => ?_)
         refine l_op (f_val F75 rfl rfl (r_nilCheck rfl (F75.ev 49 rfl)) rfl fun _ F76 => ?_)
         refine l_op (f_val F76 rfl rfl (r_field FI_47_1 rfl (F76.ev 55 rfl) rfl) rfl fun _ F77 => ?_)
         refine l_op (s_store S68.at' 0 TI_3 rfl rfl rfl rfl rfl (F77.ev 56 rfl) (F77.ev 54 rfl) rfl rfl rfl rfl rfl fun w78 S78 => ?_)
         have F79 : Fr 58 [(56, .pointer (some ⟨c_b, 1, none⟩)), (54, .int .i64 ((c.pos + 1 : Nat) : Int)), (3, .int .i64 ((andN (((andN (xorI (shrI (w64 ((w64 (c.h * 6364136223846793005)) + 1442695040888963407)) 33) (shrI (w64 ((w64 (c.h * 6364136223846793005)) + 1442695040888963407)) 45)) 255) + x1 : Nat) : Int) 255 : Nat) : Int))] _ := F77.cut rfl
         clear F68 F70 F71 F72 F73 F74 F75 F76 F77
         have T80 : Mv _ _ [bx c_b [.slice c_code_a c_code_n c_code_c, .int .i64 ((c.pos + 1 : Nat) : Int), .int .i64 (w64 ((w64 (c.h * 6364136223846793005)) + 1442695040888963407))] 47] _ := S78
         refine s_end (x_normal (wp_seq (wp_region_lit (l_op (f_mv F79 rfl rfl rfl rfl rfl fun _ F81 => ?_)))))
         refine l_op (f_as F81 rfl rfl rfl rfl rfl fun _ F82 => ?_)
         have F83 : Fr 58 [(2, .int .i64 ((andN (((andN (xorI (shrI (w64 ((w64 (c.h * 6364136223846793005)) + 1442695040888963407)) 33) (shrI (w64 ((w64 (c.h * 6364136223846793005)) + 1442695040888963407)) 45)) 255) + x1 : Nat) : Int) 255 : Nat) : Int))] _ := F82.cut rfl
         clear F79 F81 F82
         refine s_end (x_normal (wp_ret ?_))
         refine x_done (v := .int .i64 ((andN (((andN (xorI (shrI (w64 ((w64 (c.h * 6364136223846793005)) + 1442695040888963407)) 33) (shrI (w64 ((w64 (c.h * 6364136223846793005)) + 1442695040888963407)) 45)) 255) + x1 : Nat) : Int) 255 : Nat) : Int)) F83 (results_1 Try.results14 (.tmp (F83.ev 2 rfl))) ?_
         exact ⟨c.pos + 1, (w64 ((w64 (c.h * 6364136223846793005)) + 1442695040888963407)), andN (((andN (xorI (shrI (w64 ((w64 (c.h * 6364136223846793005)) + 1442695040888963407)) 33) (shrI (w64 ((w64 (c.h * 6364136223846793005)) + 1442695040888963407)) 45)) 255) + x1 : Nat) : Int) 255, rfl, (Mv.pick (T14.trans (S31.trans (S45.trans (S68.trans T80)))) [0] rfl), by first | assumption | exact w64_ok _ | omega | (unfold i64ok; omega), by first | assumption | exact w64_ok _ | omega | (unfold i64ok; omega), by first | assumption | exact w64_ok _ | omega | (unfold i64ok; omega)⟩
     · skip
       refine wp_skip (x_normal (wp_seq (wp_region_lit (l_op (f_mv F45 rfl rfl rfl rfl rfl fun _ F84 => ?_)))))
       refine l_op (f_as F84 rfl rfl rfl rfl rfl fun _ F85 => ?_)
       have F86 : Fr 58 [(2, .int .i64 ((andN (xorI (shrI (w64 ((w64 (c.h * 6364136223846793005)) + 1442695040888963407)) 33) (shrI (w64 ((w64 (c.h * 6364136223846793005)) + 1442695040888963407)) 45)) 255 : Nat) : Int))] _ := F85.cut rfl
       clear F45 F84 F85
       refine s_end (x_normal (wp_ret ?_))
       refine x_done (v := .int .i64 ((andN (xorI (shrI (w64 ((w64 (c.h * 6364136223846793005)) + 1442695040888963407)) 33) (shrI (w64 ((w64 (c.h * 6364136223846793005)) + 1442695040888963407)) 45)) 255 : Nat) : Int)) F86 (results_1 Try.results14 (.tmp (F86.ev 2 rfl))) ?_
       exact ⟨c.pos, (w64 ((w64 (c.h * 6364136223846793005)) + 1442695040888963407)), andN (xorI (shrI (w64 ((w64 (c.h * 6364136223846793005)) + 1442695040888963407)) 33) (shrI (w64 ((w64 (c.h * 6364136223846793005)) + 1442695040888963407)) 45)) 255, rfl, (Mv.pick (T14.trans (S31.trans S45)) [0] rfl), by first | assumption | exact w64_ok _ | omega | (unfold i64ok; omega), by first | assumption | exact w64_ok _ | omega | (unfold i64ok; omega), by first | assumption | exact w64_ok _ | omega | (unfold i64ok; omega)⟩
theorem spec_l01Below_c {w : World} {H : Nat → Prop} {c : CurD} {c_code_a : Option Addr} {c_code_n c_code_c : Nat} {c_b : Nat} {n : Int} (v_c_code : RdA 1 encB okB H w (.slice c_code_a c_code_n c_code_c) c.code) (h_c_pos : i64ok (c.pos : Int)) (h_c_h : i64ok c.h) (h_n : i64ok n) (p0 : c.pos ≤ c_code_n) (hA : At w [bx c_b [.slice c_code_a c_code_n c_code_c, .int .i64 ((c.pos : Nat) : Int), .int .i64 c.h] 47]) (hD : ∀ b, H b → ¬ fps [bx c_b [.slice c_code_a c_code_n c_code_c, .int .i64 ((c.pos : Nat) : Int), .int .i64 c.h] 47] b) :
    Calls Try.prog 10 #[.pointer (some ⟨c_b, 0, none⟩), .int .i64 n] w fun e w' => ∃ (i2 : Nat), ∃ (h2 : Int), ∃ (r : Nat), e = .returned (.int .i64 ((r : Nat) : Int)) ∧ Mv [bx c_b [.slice c_code_a c_code_n c_code_c, .int .i64 ((c.pos : Nat) : Int), .int .i64 c.h] 47] w [bx c_b [.slice c_code_a c_code_n c_code_c, .int .i64 ((i2 : Nat) : Int), .int .i64 h2] 47] w' ∧ i2 ≤ c_code_n ∧ i64ok h2 ∧ (0 < n → (r : Int) < n) ∧ (n ≤ 0 → r = 0) := by
 have uU : True := (fun _ _ _ _ => trivial) h_c_pos h_c_h h_n p0
 clear uU
 have V_v_c_code : RdA 1 encB okB (V H w [bx c_b [.slice c_code_a c_code_n c_code_c, .int .i64 ((c.pos : Nat) : Int), .int .i64 c.h] 47]) w (.slice c_code_a c_code_n c_code_c) c.code := RdA.start v_c_code hD
 obtain ⟨ln_c_code, le_c_code, mx_c_code, ni_c_code⟩ := RdA.inv v_c_code
 refine calls_enter 37 Try.func10 rfl Try.ntmps10 (Nat.le_of_ble_eq_true rfl) (fun _ F0i => ?_)
 have F0 : Fr 37 [(0, .pointer (some ⟨c_b, 0, none⟩)), (1, .int .i64 n)] _ := F0i
 clear F0i
 refine wp_seq (wp_region_lit (l_op (f_val F0 rfl rfl (r_assign rfl rfl) rfl fun _ F1 => ?_)))
 have F2 : Fr 37 [(4, .int .i64 0), (0, .pointer (some ⟨c_b, 0, none⟩)), (1, .int .i64 n)] _ := F1.cut rfl
 clear F0 F1
 refine s_end (x_normal (wp_seq (wp_seq (wp_region_lit (l_op (f_mv F2 rfl rfl rfl rfl rfl fun _ F3 => ?_))))))
 refine l_op (f_val F3 rfl rfl (r_cmp (b := decide (n ≤ 0)) (.inr (.inr (.inr (.inl rfl)))) rfl (F3.ev 9 rfl) rfl (dec_of (by omega))) rfl fun _ F4 => ?_)
 have F5 : Fr 37 [(10, .bool (decide (n ≤ 0))), (0, .pointer (some ⟨c_b, 0, none⟩)), (1, .int .i64 n)] _ := F4.cut rfl
 clear F2 F3 F4
 refine s_end (x_normal (x_cond (p := n ≤ 0) (F5.ev 10 rfl) (fun h6 => ?_) (fun h6 => ?_)))
 · skip
   refine wp_seq (wp_region_lit (l_op (f_val F5 rfl rfl (r_assign rfl rfl) rfl fun _ F7 => ?_)))
   have F8 : Fr 37 [(4, .int .i64 0)] _ := F7.cut rfl
   clear F5 F7
   refine s_end (x_normal (wp_ret (x_then_ret ?_)))
   refine x_done (v := .int .i64 0) F8 (results_1 Try.results10 (.tmp (F8.ev 4 rfl))) ?_
   exact ⟨c.pos, c.h, 0, rfl, (Mv.pick (Mv.refl hA) [0] rfl), by first | assumption | exact w64_ok _ | omega | (unfold i64ok; omega), by first | assumption | exact w64_ok _ | omega | (unfold i64ok; omega), by omega, by omega⟩
 · skip
   refine wp_skip (x_normal (wp_seq (wp_seq (wp_region_lit (l_op (f_mv F5 rfl rfl rfl rfl rfl fun _ F9 => ?_))))))
   refine l_op (f_val F9 rfl rfl (r_cmp (b := decide (n ≤ 256)) (.inr (.inr (.inr (.inl rfl)))) rfl (F9.ev 11 rfl) rfl (dec_of (by omega))) rfl fun _ F10 => ?_)
   have F11 : Fr 37 [(12, .bool (decide (n ≤ 256))), (0, .pointer (some ⟨c_b, 0, none⟩)), (1, .int .i64 n)] _ := F10.cut rfl
   clear F5 F9 F10
   refine s_end (x_normal (x_cond (p := n ≤ 256) (F11.ev 12 rfl) (fun h12 => ?_) (fun h12 => ?_)))
   · skip
     refine wp_seq (wp_region_lit (l_op (f_mv F11 rfl rfl rfl rfl rfl fun _ F13 => ?_)))
     refine l_op (f_call F13 CF_14 rfl rfl rfl rfl (lc (F13.ev 13 rfl) rfl) (spec_l01Byte_c (c := c) V_v_c_code (by unfold i64ok; (try dsimp only); omega) (by first | assumption | exact w64_ok _ | exact ⟨by omega, by omega⟩ | (unfold i64ok at *; omega)) (by first | assumption | omega | (simp <;> omega)) (At.pick (is := [0]) hA rfl) (V_off (is := [0]))) ?_)
     rintro _ w14 ⟨i2_14, h2_14, r_14, rfl, m14, q14_0, q14_1, q14_2⟩
     refine ⟨_, rfl, fun _ F15 => ?_⟩
     have S14 : Mv _ _ [bx c_b [.slice c_code_a c_code_n c_code_c, .int .i64 ((i2_14 : Nat) : Int), .int .i64 h2_14] 47] _ := At.frame hA [0] rfl m14
     clear m14
     refine l_op (f_mv F15 rfl rfl rfl rfl rfl fun _ F16 => ?_)
     have rm17 := Nat.mod_lt r_14 (show 0 < (n).toNat by omega)
     refine l_op (f_val F16 rfl rfl (r_remN (by omega) rfl (F16.ev 14 rfl) (F16.ev 15 rfl)) rfl fun _ F18 => ?_)
     refine l_op (f_as F18 rfl rfl rfl rfl rfl fun _ F19 => ?_)
     have F20 : Fr 37 [(4, .int .i64 ((r_14 % (n).toNat : Nat) : Int))] _ := F19.cut rfl
     clear F11 F13 F15 F16 F18 F19
     refine s_end (x_normal (wp_ret (x_then_ret ?_)))
     refine x_done (v := .int .i64 ((r_14 % (n).toNat : Nat) : Int)) F20 (results_1 Try.results10 (.tmp (F20.ev 4 rfl))) ?_
     exact ⟨i2_14, h2_14, r_14 % (n).toNat, rfl, (Mv.pick S14 [0] rfl), by first | assumption | exact w64_ok _ | omega | (unfold i64ok; omega), by first | assumption | exact w64_ok _ | omega | (unfold i64ok; omega), by omega, by omega⟩
   · skip
     refine wp_skip (x_normal (wp_seq (wp_region_lit (l_op (f_mv F11 rfl rfl rfl rfl rfl fun _ F21 => ?_)))))
     refine l_op (f_call F21 CF_14 rfl rfl rfl rfl (lc (F21.ev 17 rfl) rfl) (spec_l01Byte_c (c := c) V_v_c_code (by unfold i64ok; (try dsimp only); omega) (by first | assumption | exact w64_ok _ | exact ⟨by omega, by omega⟩ | (unfold i64ok at *; omega)) (by first | assumption | omega | (simp <;> omega)) (At.pick (is := [0]) hA rfl) (V_off (is := [0]))) ?_)
     rintro _ w22 ⟨i2_22, h2_22, r_22, rfl, m22, q22_0, q22_1, q22_2⟩
     refine ⟨_, rfl, fun _ F23 => ?_⟩
     have S22 : Mv _ _ [bx c_b [.slice c_code_a c_code_n c_code_c, .int .i64 ((i2_22 : Nat) : Int), .int .i64 h2_22] 47] _ := At.frame hA [0] rfl m22
     clear m22
     refine l_op (f_as F23 rfl rfl rfl rfl rfl fun _ F24 => ?_)
     have F25 : Fr 37 [(5, .int .i64 ((r_22 : Nat) : Int)), (0, .pointer (some ⟨c_b, 0, none⟩)), (1, .int .i64 n)] _ := F24.cut rfl
     clear F11 F21 F23 F24
     refine s_end (x_normal (wp_seq (wp_region_lit (l_op (f_mv F25 rfl rfl rfl rfl rfl fun _ F26 => ?_)))))
     refine l_op (f_call F26 CF_14 rfl rfl rfl rfl (lc (F26.ev 19 rfl) rfl) (spec_l01Byte_c (c := (⟨c.code, i2_22, h2_22⟩ : CurD)) (RdA.mv (Nat.succ_pos _) V_v_c_code S22) (by unfold i64ok; (try dsimp only); omega) (by first | assumption | exact w64_ok _ | exact ⟨by omega, by omega⟩ | (unfold i64ok at *; omega)) (by first | assumption | omega | (simp <;> omega)) (At.pick (is := [0]) S22.at' rfl) (V_off (is := [0]))) ?_)
     rintro _ w27 ⟨i2_27, h2_27, r_27, rfl, m27, q27_0, q27_1, q27_2⟩
     refine ⟨_, rfl, fun _ F28 => ?_⟩
     have S27 : Mv _ _ [bx c_b [.slice c_code_a c_code_n c_code_c, .int .i64 ((i2_27 : Nat) : Int), .int .i64 h2_27] 47] _ := At.frame S22.at' [0] rfl m27
     clear m27
     refine l_op (f_as F28 rfl rfl rfl rfl rfl fun _ F29 => ?_)
     have F30 : Fr 37 [(6, .int .i64 ((r_27 : Nat) : Int)), (5, .int .i64 ((r_22 : Nat) : Int)), (0, .pointer (some ⟨c_b, 0, none⟩)), (1, .int .i64 n)] _ := F29.cut rfl
     clear F25 F26 F28 F29
     refine s_end (x_normal (wp_seq (wp_region_lit (l_op (f_mv F30 rfl rfl rfl rfl rfl fun _ F31 => ?_)))))
     refine l_op (f_call F31 CF_14 rfl rfl rfl rfl (lc (F31.ev 21 rfl) rfl) (spec_l01Byte_c (c := (⟨c.code, i2_27, h2_27⟩ : CurD)) (RdA.mv (Nat.succ_pos _) V_v_c_code (S22.trans S27)) (by unfold i64ok; (try dsimp only); omega) (by first | assumption | exact w64_ok _ | exact ⟨by omega, by omega⟩ | (unfold i64ok at *; omega)) (by first | assumption | omega | (simp <;> omega)) (At.pick (is := [0]) S27.at' rfl) (V_off (is := [0]))) ?_)
     rintro _ w32 ⟨i2_32, h2_32, r_32, rfl, m32, q32_0, q32_1, q32_2⟩
     refine ⟨_, rfl, fun _ F33 => ?_⟩
     have S32 : Mv _ _ [bx c_b [.slice c_code_a c_code_n c_code_c, .int .i64 ((i2_32 : Nat) : Int), .int .i64 h2_32] 47] _ := At.frame S27.at' [0] rfl m32
     clear m32
     refine l_op (f_as F33 rfl rfl rfl rfl rfl fun _ F34 => ?_)
     have F35 : Fr 37 [(7, .int .i64 ((r_32 : Nat) : Int)), (6, .int .i64 ((r_27 : Nat) : Int)), (5, .int .i64 ((r_22 : Nat) : Int)), (0, .pointer (some ⟨c_b, 0, none⟩)), (1, .int .i64 n)] _ := F34.cut rfl
     clear F30 F31 F33 F34
     refine s_end (x_normal (wp_seq (wp_region_lit (l_op (f_mv F35 rfl rfl rfl rfl rfl fun _ F36 => ?_)))))
     refine l_op (f_call F36 CF_14 rfl rfl rfl rfl (lc (F36.ev 23 rfl) rfl) (spec_l01Byte_c (c := (⟨c.code, i2_32, h2_32⟩ : CurD)) (RdA.mv (Nat.succ_pos _) V_v_c_code (S22.trans (S27.trans S32))) (by unfold i64ok; (try dsimp only); omega) (by first | assumption | exact w64_ok _ | exact ⟨by omega, by omega⟩ | (unfold i64ok at *; omega)) (by first | assumption | omega | (simp <;> omega)) (At.pick (is := [0]) S32.at' rfl) (V_off (is := [0]))) ?_)
     rintro _ w37 ⟨i2_37, h2_37, r_37, rfl, m37, q37_0, q37_1, q37_2⟩
     refine ⟨_, rfl, fun _ F38 => ?_⟩
     have S37 : Mv _ _ [bx c_b [.slice c_code_a c_code_n c_code_c, .int .i64 ((i2_37 : Nat) : Int), .int .i64 h2_37] 47] _ := At.frame S32.at' [0] rfl m37
     clear m37
     refine l_op (f_as F38 rfl rfl rfl rfl rfl fun _ F39 => ?_)
     have F40 : Fr 37 [(8, .int .i64 ((r_37 : Nat) : Int)), (7, .int .i64 ((r_32 : Nat) : Int)), (6, .int .i64 ((r_27 : Nat) : Int)), (5, .int .i64 ((r_22 : Nat) : Int)), (1, .int .i64 n)] _ := F39.cut rfl
     clear F35 F36 F38 F39
     refine s_end (x_normal (wp_seq (wp_region_lit (l_op (f_mv F40 rfl rfl rfl rfl rfl fun _ F41 => ?_)))))
     refine l_op (f_val F41 rfl rfl (r_mul (z := ((r_22 * 16777216 : Nat) : Int)) rfl (F41.ev 25 rfl) rfl (by first | rfl | omega) ⟨by first | omega | (unfold i64ok at *; omega), by first | omega | (unfold i64ok at *; omega)⟩) rfl fun _ F42 => ?_)
     refine l_op (f_mv F42 rfl rfl rfl rfl rfl fun _ F43 => ?_)
     refine l_op (f_val F43 rfl rfl (r_mul (z := ((r_27 * 65536 : Nat) : Int)) rfl (F43.ev 27 rfl) rfl (by first | rfl | omega) ⟨by first | omega | (unfold i64ok at *; omega), by first | omega | (unfold i64ok at *; omega)⟩) rfl fun _ F44 => ?_)
     refine l_op (f_val F44 rfl rfl (r_add (z := (((r_22 * 16777216) + (r_27 * 65536) : Nat) : Int)) rfl (F44.ev 26 rfl) (F44.ev 28 rfl) (by first | rfl | omega) ⟨by first | omega | (unfold i64ok at *; omega), by first | omega | (unfold i64ok at *; omega)⟩) rfl fun _ F45 => ?_)
     refine l_op (f_mv F45 rfl rfl rfl rfl rfl fun _ F46 => ?_)
     refine l_op (f_val F46 rfl rfl (r_mul (z := ((r_32 * 256 : Nat) : Int)) rfl (F46.ev 30 rfl) rfl (by first | rfl | omega) ⟨by first | omega | (unfold i64ok at *; omega), by first | omega | (unfold i64ok at *; omega)⟩) rfl fun _ F47 => ?_)
     refine l_op (f_val F47 rfl rfl (r_add (z := ((((r_22 * 16777216) + (r_27 * 65536)) + (r_32 * 256) : Nat) : Int)) rfl (F47.ev 29 rfl) (F47.ev 31 rfl) (by first | rfl | omega) ⟨by first | omega | (unfold i64ok at *; omega), by first | omega | (unfold i64ok at *; omega)⟩) rfl fun _ F48 => ?_)
     refine l_op (f_mv F48 rfl rfl rfl rfl rfl fun _ F49 => ?_)
     refine l_op (f_val F49 rfl rfl (r_add (z := (((((r_22 * 16777216) + (r_27 * 65536)) + (r_32 * 256)) + r_37 : Nat) : Int)) rfl (F49.ev 32 rfl) (F49.ev 33 rfl) (by first | rfl | omega) ⟨by first | omega | (unfold i64ok at *; omega), by first | omega | (unfold i64ok at *; omega)⟩) rfl fun _ F50 => ?_)
     refine l_op (f_mv F50 rfl rfl rfl rfl rfl fun _ F51 => ?_)
     have rm52 := Nat.mod_lt ((((r_22 * 16777216) + (r_27 * 65536)) + (r_32 * 256)) + r_37) (show 0 < (n).toNat by omega)
     refine l_op (f_val F51 rfl rfl (r_remN (by omega) rfl (F51.ev 34 rfl) (F51.ev 35 rfl)) rfl fun _ F53 => ?_)
     refine l_op (f_as F53 rfl rfl rfl rfl rfl fun _ F54 => ?_)
     have F55 : Fr 37 [(4, .int .i64 ((((((r_22 * 16777216) + (r_27 * 65536)) + (r_32 * 256)) + r_37) % (n).toNat : Nat) : Int))] _ := F54.cut rfl
     clear F40 F41 F42 F43 F44 F45 F46 F47 F48 F49 F50 F51 F53 F54
     refine s_end (x_normal (wp_ret ?_))
     refine x_done (v := .int .i64 ((((((r_22 * 16777216) + (r_27 * 65536)) + (r_32 * 256)) + r_37) % (n).toNat : Nat) : Int)) F55 (results_1 Try.results10 (.tmp (F55.ev 4 rfl))) ?_
     exact ⟨i2_37, h2_37, ((((r_22 * 16777216) + (r_27 * 65536)) + (r_32 * 256)) + r_37) % (n).toNat, rfl, (Mv.pick (S22.trans (S27.trans (S32.trans S37))) [0] rfl), by first | assumption | exact w64_ok _ | omega | (unfold i64ok; omega), by first | assumption | exact w64_ok _ | omega | (unfold i64ok; omega), by omega, by omega⟩
theorem spec_DrawPlaces_c {w : World} {H : Nat → Prop} {code : List Nat} {code_a : Option Addr} {code_n code_c : Nat} (v_code : RdA 1 encB okB H w (.slice code_a code_n code_c) code) (p0 : code_n ≤ 1048576) :
    Calls Try.prog 5 #[.slice code_a code_n code_c] w fun e w' => ∃ (p : List Int), ∃ (r0_a : Option Addr), ∃ (r0_n : Nat), ∃ (r0_c : Nat), e = .returned (.slice r0_a r0_n r0_c) ∧ Mv [] w [] w' ∧ Rd 1 encI okI (Fsh H w) w' (.slice r0_a r0_n r0_c) p ∧ p.length = 12 ∧ pOk p := by
 have uU : True := (fun _ => trivial) p0
 clear uU
 have V_v_code : RdA 1 encB okB (V H w []) w (.slice code_a code_n code_c) code := RdA.start v_code (fun _ _ => fps_nil _)
 obtain ⟨ln_code, le_code, mx_code, ni_code⟩ := RdA.inv v_code
 refine calls_enter 19 Try.func5 rfl Try.ntmps5 (Nat.le_of_ble_eq_true rfl) (fun _ F0i => ?_)
 have F0 : Fr 19 [(0, .slice code_a code_n code_c)] _ := F0i
 clear F0i
 refine wp_seq (wp_region_lit (l_op (f_val F0 rfl rfl (r_assign rfl rfl) rfl fun _ F1 => ?_)))
 have F2 : Fr 19 [(2, .slice none 0 0), (0, .slice code_a code_n code_c)] _ := F1.cut rfl
 clear F0 F1
 refine s_end (x_normal (wp_seq (wp_region_lit (l_op (f_mv F2 rfl rfl rfl rfl rfl fun _ F3 => ?_)))))
 refine l_op (f_call F3 CF_9 rfl rfl rfl rfl (lc (F3.ev 6 rfl) rfl) (spec_l01New_c (code := code) V_v_code (by first | assumption | omega | (simp <;> omega))) ?_)
 rintro _ w4 ⟨h2_4, r0_b_4, rfl, m4, q4_0⟩
 refine ⟨_, rfl, fun _ F5 => ?_⟩
 have S4 : Mv _ _ [bx r0_b_4 [.slice code_a code_n code_c, .int .i64 ((0 : Nat) : Int), .int .i64 h2_4] 47] _ := At.frame (At.nil w) [] rfl m4
 clear m4
 refine l_op (f_as F5 rfl rfl rfl rfl rfl fun _ F6 => ?_)
 have F7 : Fr 19 [(3, .pointer (some ⟨r0_b_4, 0, none⟩))] _ := F6.cut rfl
 clear F2 F3 F5 F6
 refine s_end (x_normal (wp_seq (wp_region_lit (l_op (f_buildSl (ok := okI) (vs := []) F7 S4.at' (([] : List Int)) ET_24 rfl rfl rfl rfl rfl rfl rfl rfl rfl (by simp) fun b8 _ w8 F9 S8 => ?_)))))
 refine l_op (f_as F9 rfl rfl rfl rfl rfl fun _ F10 => ?_)
 have F11 : Fr 19 [(4, .slice (some ⟨b8, 0, none⟩) 0 0), (3, .pointer (some ⟨r0_b_4, 0, none⟩))] _ := F10.cut rfl
 clear F7 F9 F10
 have T12 : Mv _ _ [ow 3 1 encI okI (.slice (some ⟨b8, 0, none⟩) 0 0) ([] : List Int), bx r0_b_4 [.slice code_a code_n code_c, .int .i64 ((0 : Nat) : Int), .int .i64 h2_4] 47] _ := S8
 refine s_end (x_normal (wp_seq (wp_seq (wp_region_lit (l_op (f_val F11 rfl rfl (r_assign rfl rfl) rfl fun _ F13 => ?_))))))
 have F14 : Fr 19 [(5, .int .i64 0), (4, .slice (some ⟨b8, 0, none⟩) 0 0), (3, .pointer (some ⟨r0_b_4, 0, none⟩))] _ := F13.cut rfl
 clear F11 F13
 refine s_end (x_normal (wp_block ?_))
 refine x_loop (fun (k : Nat) aZ wZ => ∃ (pp : Nat), ∃ (hh : Int), ∃ (D : List Int), ∃ (oa : Option Addr), ∃ (on : Nat), ∃ (oc : Nat), Fr 19 [(5, .int .i64 ((k : Nat) : Int)), (4, .slice oa on oc), (3, .pointer (some ⟨r0_b_4, 0, none⟩))] aZ ∧ Mv [ow 3 1 encI okI (.slice (some ⟨b8, 0, none⟩) 0 0) ([] : List Int), bx r0_b_4 [.slice code_a code_n code_c, .int .i64 ((0 : Nat) : Int), .int .i64 h2_4] 47] w8 [ow 3 1 encI okI (.slice oa on oc) D, bx r0_b_4 [.slice code_a code_n code_c, .int .i64 ((pp : Nat) : Int), .int .i64 hh] 47] wZ ∧ (pp ≤ code_n) ∧ (i64ok hh) ∧ (D.length = k) ∧ (pOk D) ∧ (k ≤ 12)) (fun (k : Nat) => 12 - k) (0) ?_ ?_
 · exact ⟨0, h2_4, ([] : List Int), (some ⟨b8, 0, none⟩), 0, 0, F14.cut rfl, (Mv.refl T12.at'), by omega, by assumption, rfl, pOk_nil, by omega⟩
 · rintro k a15 w15 ⟨pp, hh, D, oa, on, oc, F15, S15, hk_0, hk_1, hk_2, hk_3, hk_4⟩
   refine wp_seq (wp_seq (wp_region_lit (l_op (f_mv F15 rfl rfl rfl rfl rfl fun _ F16 => ?_))))
   refine l_op (f_val F16 rfl rfl (r_cmp (b := decide (k < 12)) (.inr (.inr (.inl rfl))) rfl (F16.ev 9 rfl) rfl (dec_of (by omega))) rfl fun _ F17 => ?_)
   have F18 : Fr 19 [(10, .bool (decide (k < 12))), (5, .int .i64 ((k : Nat) : Int)), (4, .slice oa on oc), (3, .pointer (some ⟨r0_b_4, 0, none⟩))] _ := F17.cut rfl
   clear F15 F16 F17
   refine s_end (x_normal (x_cond (p := k < 12) (F18.ev 10 rfl) (fun h19 => ?_) (fun h19 => ?_)))
   · skip
     refine wp_skip (x_normal (wp_seq (wp_block (wp_region_lit (l_op (f_mv F18 rfl rfl rfl rfl rfl fun _ F20 => ?_))))))
     refine l_op (f_mv F20 rfl rfl rfl rfl rfl fun _ F21 => ?_)
     refine l_op (f_call F21 CF_10 rfl rfl rfl rfl (lc (F21.ev 14 rfl) (lc rfl rfl)) (spec_l01Below_c (c := (⟨code, pp, hh⟩ : CurD)) (n := 10000) (RdA.mv (Nat.succ_pos _) V_v_code (S4.trans (T12.trans S15))) (by unfold i64ok; (try dsimp only); omega) (by first | assumption | exact w64_ok _ | exact ⟨by omega, by omega⟩ | (unfold i64ok at *; omega)) (by first | assumption | exact ⟨by omega, by omega⟩ | (unfold i64ok at *; omega)) (by first | assumption | omega | (simp <;> omega)) (At.pick (is := [1]) S15.at' rfl) (V_off (is := [1]))) ?_)
     rintro _ w22 ⟨i2_22, h2_22, r_22, rfl, m22, q22_0, q22_1, q22_2, q22_3⟩
     refine ⟨_, rfl, fun _ F23 => ?_⟩
     have S22 : Mv _ _ [bx r0_b_4 [.slice code_a code_n code_c, .int .i64 ((i2_22 : Nat) : Int), .int .i64 h2_22] 47, ow 3 1 encI okI (.slice oa on oc) D] _ := At.frame S15.at' [1] rfl m22
     clear m22
     refine l_op (f_buildSl (ok := okI) (vs := [.int .i64 ((r_22 : Nat) : Int)]) F23 S22.at' ([((r_22 : Nat) : Int)]) ET_24 rfl rfl rfl rfl rfl rfl (lc (pr2 (F23.ev 15 rfl)) rfl) rfl rfl (fun x hx => (List.mem_singleton.1 hx) ▸ ⟨by omega, by omega⟩) fun b24 _ w24 F25 S24 => ?_)
     refine l_op (f_app (news := [((r_22 : Nat) : Int)]) F25 S24.at' 2 ET_24 rfl rfl rfl rfl rfl rfl (F25.ev 13 rfl) (F25.ev 16 rfl) ((At.rd S24.at' ET_24.hk 0 rfl)).1 (by ((repeat (first | rw [List.length_append] | rw [List.length_cons] | rw [List.length_nil] | rw [List.length_take] | rw [List.length_drop])) <;> omega)) fun A26 N26 C26 _ w26 F27 S26 l26 => ?_)
     have S28 := At.drop S26.at' 1
     refine l_op (f_as F27 rfl rfl rfl rfl rfl fun _ F29 => ?_)
     have F30 : Fr 19 [(4, .slice A26 N26 C26), (5, .int .i64 ((k : Nat) : Int)), (3, .pointer (some ⟨r0_b_4, 0, none⟩))] _ := F29.cut rfl
     clear F18 F20 F21 F23 F25 F27 F29
     have T31 : Mv _ _ [ow 3 1 encI okI (.slice A26 N26 C26) (D ++ ([((r_22 : Nat) : Int)])), bx r0_b_4 [.slice code_a code_n code_c, .int .i64 ((i2_22 : Nat) : Int), .int .i64 h2_22] 47] _ := S28
     refine s_end (x_block_normal (x_normal (wp_region_lit (l_op (f_mv F30 rfl rfl rfl rfl rfl fun _ F32 => ?_)))))
     refine l_op (f_val F32 rfl rfl (r_add (z := ((k + 1 : Nat) : Int)) rfl (F32.ev 11 rfl) rfl (by first | rfl | omega) ⟨by first | omega | (unfold i64ok at *; omega), by first | omega | (unfold i64ok at *; omega)⟩) rfl fun _ F33 => ?_)
     refine l_op (f_as F33 rfl rfl rfl rfl rfl fun _ F34 => ?_)
     have F35 : Fr 19 [(5, .int .i64 ((k + 1 : Nat) : Int)), (4, .slice A26 N26 C26), (3, .pointer (some ⟨r0_b_4, 0, none⟩))] _ := F34.cut rfl
     clear F30 F32 F33 F34
     refine s_end ?_
     refine x_normal ⟨k + 1, by omega, i2_22, h2_22, D ++ ([((r_22 : Nat) : Int)]), A26, N26, C26, F35.cut rfl, ((S15.trans (S22.trans (S24.trans (S26.trans T31)))).pick [0, 1] rfl), by omega, by assumption, by rw [List.length_append, List.length_singleton]; omega, pOk_snoc (by assumption) (by omega), by omega⟩
   · skip
     refine wp_exit (x_then_exit (x_then_exit (x_block_here (x_normal (wp_seq (wp_region_lit (l_op (f_mv F18 rfl rfl rfl rfl rfl fun _ F36 => ?_))))))))
     refine l_op (f_as F36 rfl rfl rfl rfl rfl fun _ F37 => ?_)
     have F38 : Fr 19 [(2, .slice oa on oc)] _ := F37.cut rfl
     clear F18 F36 F37
     refine s_end (x_normal (wp_ret ?_))
     have Z39 : Rd 1 encI okI (V H w [bx r0_b_4 [.slice code_a code_n code_c, .int .i64 ((pp : Nat) : Int), .int .i64 hh] 47]) w15 (.slice oa on oc) D := At.freeze (S4.trans (T12.trans S15)) ET_24.hk 0 rfl (fun b hb => ((S4.trans (T12.trans S15)).fresh b ⟨_, nth_mem (i := 0) rfl, hb⟩).resolve_left (fps_nil _))
     have S39 := At.drop S15.at' 0
     refine x_done (v := .slice oa on oc) F38 (results_1 Try.results5 (.tmp (F38.ev 2 rfl))) ?_
     exact ⟨D, oa, on, oc, rfl, (Mv.pick (S4.trans (T12.trans (S15.trans S39))) [] rfl), (Rd.give Z39), by omega, by assumption⟩
theorem laws_big_c {w : World} {H : Nat → Prop} {code : List Nat} {code_a : Option Addr} {code_n code_c : Nat} (v_code : RdA 1 encB okB H w (.slice code_a code_n code_c) code) :
    Calls Try.prog 4 #[.slice code_a code_n code_c] w fun e w' => e = .returned (.bool (decide (code.length > 1048576))) ∧ Mv [] w [] w' := by
 have V_v_code : RdA 1 encB okB (V H w []) w (.slice code_a code_n code_c) code := RdA.start v_code (fun _ _ => fps_nil _)
 obtain ⟨ln_code, le_code, mx_code, ni_code⟩ := RdA.inv v_code
 refine calls_enter 6 Try.func4 rfl Try.ntmps4 (Nat.le_of_ble_eq_true rfl) (fun _ F0i => ?_)
 have F0 : Fr 6 [(0, .slice code_a code_n code_c)] _ := F0i
 clear F0i
 refine wp_seq (wp_region_lit (l_op (f_val F0 rfl rfl (r_assign rfl rfl) rfl fun _ F1 => ?_)))
 have F2 : Fr 6 [(2, .bool false), (0, .slice code_a code_n code_c)] _ := F1.cut rfl
 clear F0 F1
 refine s_end (x_normal (wp_seq (wp_region_lit (l_op (f_mv F2 rfl rfl rfl rfl rfl fun _ F3 => ?_)))))
 refine l_op (f_val F3 rfl rfl (r_len Try.underlying22 rfl (F3.ev 3 rfl)) rfl fun _ F4 => ?_)
 refine l_op (f_val F4 rfl rfl (r_cmp (b := decide (code_n > 1048576)) (.inr (.inr (.inr (.inr (.inl rfl))))) rfl (F4.ev 4 rfl) rfl (dec_of (by omega))) rfl fun _ F5 => ?_)
 refine l_op (f_as F5 rfl rfl rfl rfl rfl fun _ F6 => ?_)
 have F7 : Fr 6 [(2, .bool (decide (code_n > 1048576)))] _ := F6.cut rfl
 clear F2 F3 F4 F5 F6
 refine s_end (x_normal (wp_ret ?_))
 refine x_done (v := .bool (decide (code_n > 1048576))) F7 (results_1 Try.results4 (.tmp (F7.ev 2 rfl))) ?_
 exact ⟨(by rw [(show (decide (code_n > 1048576)) = (decide (code.length > 1048576)) from by rw [ln_code])]), (Mv.pick (Mv.refl (At.nil w)) [] rfl)⟩
theorem impl_within_c {w : World} {H : Nat → Prop} {n : Int} {low : Int} {high : Int} (h_n : i64ok n) (h_low : i64ok low) (h_high : i64ok high) :
    Calls Try.prog 16 #[.int .i64 n, .int .i64 low, .int .i64 high] w fun e w' => e = .returned (.bool (inB n low high)) ∧ Mv [] w [] w' := by
 have uU : True := (fun _ _ _ _ => trivial) H h_n h_low h_high
 clear uU
 refine calls_enter 15 Try.func16 rfl Try.ntmps16 (Nat.le_of_ble_eq_true rfl) (fun _ F0i => ?_)
 have F0 : Fr 15 [(0, .int .i64 n), (1, .int .i64 low), (2, .int .i64 high)] _ := F0i
 clear F0i
 refine wp_seq (wp_region_lit (l_op (f_val F0 rfl rfl (r_assign rfl rfl) rfl fun _ F1 => ?_)))
 have F2 : Fr 15 [(6, .bool false), (0, .int .i64 n), (1, .int .i64 low), (2, .int .i64 high)] _ := F1.cut rfl
 clear F0 F1
 refine s_end (x_normal (wp_seq (wp_region_lit (l_op (f_mv F2 rfl rfl rfl rfl rfl fun _ F3 => ?_)))))
 refine l_op (f_mv F3 rfl rfl rfl rfl rfl fun _ F4 => ?_)
 refine l_op (f_val F4 rfl rfl (r_cmp (b := decide (n ≥ low)) (.inr (.inr (.inr (.inr (.inr rfl))))) rfl (F4.ev 7 rfl) (F4.ev 8 rfl) (dec_of (by omega))) rfl fun _ F5 => ?_)
 refine l_op (f_mv F5 rfl rfl rfl rfl rfl fun _ F6 => ?_)
 rcases Decidable.em (n ≥ low) with h7 | h7
 · rw [decide_eq_true h7] at F6
   refine l_op (f_mv F6 (wanted_g F6 rfl rfl rfl rfl) rfl rfl rfl rfl fun _ F8 => ?_)
   refine l_op (f_mv F8 (wanted_g F8 rfl rfl rfl rfl) rfl rfl rfl rfl fun _ F9 => ?_)
   refine l_op (f_val F9 (wanted_g F9 rfl rfl rfl rfl) rfl (r_cmp (b := decide (n ≤ high)) (.inr (.inr (.inr (.inl rfl)))) rfl (F9.ev 11 rfl) (F9.ev 12 rfl) (dec_of (by omega))) rfl fun _ F10 => ?_)
   refine l_op (f_val F10 rfl rfl (r_pick (b := true) rfl (F10.ev 10 rfl) (F10.ev 13 rfl)) rfl fun _ F11 => ?_)
   refine l_op (f_as F11 rfl rfl rfl rfl rfl fun _ F12 => ?_)
   have F13 : Fr 15 [(6, .bool (decide (n ≤ high)))] _ := F12.cut rfl
   clear F2 F3 F4 F5 F6 F8 F9 F10 F11 F12
   refine s_end (x_normal (wp_ret ?_))
   refine x_done (v := .bool (decide (n ≤ high))) F13 (results_1 Try.results16 (.tmp (F13.ev 6 rfl))) ?_
   exact ⟨(by rw [(show (decide (n ≤ high)) = (inB n low high) from by unfold inB; first | rfl | exact dec_of (by omega) | exact (decide_eq_false (by omega)).symm | exact (decide_eq_true (by omega)).symm)]), (Mv.pick (Mv.refl (At.nil w)) [] rfl)⟩
 · rw [decide_eq_false h7] at F6
   refine l_op (f_skip F6 (wanted_g F6 rfl rfl rfl rfl) rfl rfl fun _ F14 => ?_)
   refine l_op (f_skip F14 (wanted_g F14 rfl rfl rfl rfl) rfl rfl fun _ F15 => ?_)
   refine l_op (f_skip F15 (wanted_g F15 rfl rfl rfl rfl) rfl rfl fun _ F16 => ?_)
   refine l_op (f_val F16 rfl rfl (r_pick (b := false) rfl (F16.ev 10 rfl) rfl) rfl fun _ F17 => ?_)
   refine l_op (f_as F17 rfl rfl rfl rfl rfl fun _ F18 => ?_)
   have F19 : Fr 15 [(6, .bool false)] _ := F18.cut rfl
   clear F2 F3 F4 F5 F6 F14 F15 F16 F17 F18
   refine s_end (x_normal (wp_ret ?_))
   refine x_done (v := .bool false) F19 (results_1 Try.results16 (.tmp (F19.ev 6 rfl))) ?_
   exact ⟨(by rw [(show false = (inB n low high) from by unfold inB; first | rfl | exact dec_of (by omega) | exact (decide_eq_false (by omega)).symm | exact (decide_eq_true (by omega)).symm)]), (Mv.pick (Mv.refl (At.nil w)) [] rfl)⟩
theorem impl_Brought_c {w : World} {H : Nat → Prop} {n : Int} {least : Int} {most : Int} (h_n : i64ok n) (h_least : i64ok least) (h_most : i64ok most) :
    Calls Try.prog 11 #[.int .i64 n, .int .i64 least, .int .i64 most] w fun e w' => e = .returned (.int .i64 (max least (min n most))) ∧ Mv [] w [] w' := by
 have uU : True := (fun _ _ _ _ => trivial) H h_n h_least h_most
 clear uU
 refine calls_enter 12 Try.func11 rfl Try.ntmps11 (Nat.le_of_ble_eq_true rfl) (fun _ F0i => ?_)
 have F0 : Fr 12 [(0, .int .i64 n), (1, .int .i64 least), (2, .int .i64 most)] _ := F0i
 clear F0i
 refine wp_seq (wp_region_lit (l_op (f_val F0 rfl rfl (r_assign rfl rfl) rfl fun _ F1 => ?_)))
 have F2 : Fr 12 [(6, .int .i64 0), (0, .int .i64 n), (1, .int .i64 least), (2, .int .i64 most)] _ := F1.cut rfl
 clear F0 F1
 refine s_end (x_normal (wp_seq (wp_region_lit (l_op (f_mv F2 rfl rfl rfl rfl rfl fun _ F3 => ?_)))))
 refine l_op (f_mv F3 rfl rfl rfl rfl rfl fun _ F4 => ?_)
 refine l_op (f_mv F4 rfl rfl rfl rfl rfl fun _ F5 => ?_)
 refine l_op (f_val F5 rfl rfl (r_minI rfl (F5.ev 8 rfl) (F5.ev 9 rfl)) rfl fun _ F6 => ?_)
 refine l_op (f_val F6 rfl rfl (r_maxI rfl (F6.ev 7 rfl) (F6.ev 10 rfl)) rfl fun _ F7 => ?_)
 refine l_op (f_as F7 rfl rfl rfl rfl rfl fun _ F8 => ?_)
 have F9 : Fr 12 [(6, .int .i64 (max least (min n most)))] _ := F8.cut rfl
 clear F2 F3 F4 F5 F6 F7 F8
 refine s_end (x_normal (wp_ret ?_))
 refine x_done (v := .int .i64 (max least (min n most))) F9 (results_1 Try.results11 (.tmp (F9.ev 6 rfl))) ?_
 exact ⟨rfl, (Mv.pick (Mv.refl (At.nil w)) [] rfl)⟩
theorem impl_JournalOk_c {w : World} {H : Nat → Prop} {j : JouD} (h_j_text : okS j.text) (h_j_sure : i64ok j.sure) :
    Calls Try.prog 13 #[.agg #[.string j.text, .int .i64 j.sure]] w fun e w' => e = .returned (.bool (jouOk j)) ∧ Mv [] w [] w' := by
 have uU : True := (fun _ _ => trivial) H h_j_sure
 clear uU
 have z1 := h_j_text
 unfold okS at z1
 refine calls_enter 15 Try.func13 rfl Try.ntmps13 (Nat.le_of_ble_eq_true rfl) (fun _ F0i => ?_)
 have F0 : Fr 15 [(0, .agg #[.string j.text, .int .i64 j.sure])] _ := F0i
 clear F0i
 refine wp_seq (wp_region_lit (l_op (f_box F0 (At.nil w) rfl rfl rfl (F0.ev 0 rfl) rfl rfl fun b1 _ w1 F2 S1 => ?_)))
 refine l_op (f_val F2 rfl rfl (r_assign rfl rfl) rfl fun _ F3 => ?_)
 have F4 : Fr 15 [(2, .bool false), (1, .pointer (some ⟨b1, 0, none⟩))] _ := F3.cut rfl
 clear F0 F2 F3
 have T5 : Mv _ _ [bx b1 [.string j.text, .int .i64 j.sure] 35] _ := S1
 refine s_end (x_normal (wp_seq (wp_region_lit (l_op (f_val F4 rfl rfl (r_field FI_35_0 rfl (F4.ev 1 rfl) rfl) rfl fun _ F6 => ?_)))))
 refine l_op (f_val (v := .string j.text) F6 rfl rfl (r_loadB T5.at' 0 TI_9 rfl rfl (F6.ev 3 rfl) rfl rfl (fun _ => rfl) rfl) rfl fun _ F7 => ?_)
 refine l_op (f_val F7 rfl rfl (r_lenS (fun t ht => by cases ht; exact Try.underlying9) rfl rfl (F7.ev 4 rfl)) rfl fun _ F8 => ?_)
 refine l_op (f_val F8 rfl rfl (r_cmp (b := decide (j.text.size ≤ 20000)) (.inr (.inr (.inr (.inl rfl)))) rfl (F8.ev 5 rfl) rfl (dec_of (by omega))) rfl fun _ F9 => ?_)
 refine l_op (f_mv F9 rfl rfl rfl rfl rfl fun _ F10 => ?_)
 rcases Decidable.em (j.text.size ≤ 20000) with h11 | h11
 · rw [decide_eq_true h11] at F10
   refine l_op (f_val F10 (wanted_g F10 rfl rfl rfl rfl) rfl (r_field FI_35_1 rfl (F10.ev 1 rfl) rfl) rfl fun _ F12 => ?_)
   refine l_op (f_val (v := .int .i64 j.sure) F12 (wanted_g F12 rfl rfl rfl rfl) rfl (r_loadB T5.at' 0 TI_3 rfl rfl (F12.ev 8 rfl) rfl rfl (fun _ => rfl) rfl) rfl fun _ F13 => ?_)
   refine l_op (f_val F13 (wanted_g F13 rfl rfl rfl rfl) rfl (r_field FI_35_0 rfl (F13.ev 1 rfl) rfl) rfl fun _ F14 => ?_)
   refine l_op (f_val (v := .string j.text) F14 (wanted_g F14 rfl rfl rfl rfl) rfl (r_loadB T5.at' 0 TI_9 rfl rfl (F14.ev 10 rfl) rfl rfl (fun _ => rfl) rfl) rfl fun _ F15 => ?_)
   refine l_op (f_val F15 (wanted_g F15 rfl rfl rfl rfl) rfl (r_lenS (fun t ht => by cases ht; exact Try.underlying9) rfl rfl (F15.ev 11 rfl)) rfl fun _ F16 => ?_)
   refine l_op (f_call F16 CF_16 (wanted_g F16 rfl rfl rfl rfl) rfl rfl rfl (lc (F16.ev 9 rfl) (lc rfl (lc (F16.ev 12 rfl) rfl))) (impl_within_c (H := fun _ => True) (n := j.sure) (low := 0) (high := ((j.text.size : Nat) : Int)) (by first | assumption | exact ⟨by omega, by omega⟩ | (unfold i64ok at *; omega)) (by first | assumption | exact ⟨by omega, by omega⟩ | (unfold i64ok at *; omega)) (by first | assumption | exact ⟨by omega, by omega⟩ | (unfold i64ok at *; omega))) ?_)
   rintro _ w17 ⟨rfl, m17⟩
   refine ⟨_, rfl, fun _ F18 => ?_⟩
   have S17 := At.frame0 T5.at' m17
   clear m17
   refine l_op (f_val F18 rfl rfl (r_pick (b := true) rfl (F18.ev 7 rfl) (F18.ev 13 rfl)) rfl fun _ F19 => ?_)
   refine l_op (f_as F19 rfl rfl rfl rfl rfl fun _ F20 => ?_)
   have F21 : Fr 15 [(2, .bool (inB j.sure 0 ((j.text.size : Nat) : Int)))] _ := F20.cut rfl
   clear F4 F6 F7 F8 F9 F10 F12 F13 F14 F15 F16 F18 F19 F20
   have T22 : Mv _ _ [bx b1 [.string j.text, .int .i64 j.sure] 35] _ := S17
   refine s_end (x_normal (wp_ret ?_))
   refine x_done (v := .bool (inB j.sure 0 ((j.text.size : Nat) : Int))) F21 (results_1 Try.results13 (.tmp (F21.ev 2 rfl))) ?_
   exact ⟨(by rw [(show (inB j.sure 0 ((j.text.size : Nat) : Int)) = (jouOk j) from by first | exact jo_t (by assumption) | exact jo_f (by assumption))]), (Mv.pick (T5.trans T22) [] rfl)⟩
 · rw [decide_eq_false h11] at F10
   refine l_op (f_skip F10 (wanted_g F10 rfl rfl rfl rfl) rfl rfl fun _ F23 => ?_)
   refine l_op (f_skip F23 (wanted_g F23 rfl rfl rfl rfl) rfl rfl fun _ F24 => ?_)
   refine l_op (f_skip F24 (wanted_g F24 rfl rfl rfl rfl) rfl rfl fun _ F25 => ?_)
   refine l_op (f_skip F25 (wanted_g F25 rfl rfl rfl rfl) rfl rfl fun _ F26 => ?_)
   refine l_op (f_skip F26 (wanted_g F26 rfl rfl rfl rfl) rfl rfl fun _ F27 => ?_)
   refine l_op (f_skip F27 (wanted_g F27 rfl rfl rfl rfl) rfl rfl fun _ F28 => ?_)
   refine l_op (f_val F28 rfl rfl (r_pick (b := false) rfl (F28.ev 7 rfl) rfl) rfl fun _ F29 => ?_)
   refine l_op (f_as F29 rfl rfl rfl rfl rfl fun _ F30 => ?_)
   have F31 : Fr 15 [(2, .bool false)] _ := F30.cut rfl
   clear F4 F6 F7 F8 F9 F10 F23 F24 F25 F26 F27 F28 F29 F30
   refine s_end (x_normal (wp_ret ?_))
   refine x_done (v := .bool false) F31 (results_1 Try.results13 (.tmp (F31.ev 2 rfl))) ?_
   exact ⟨(by rw [(show false = (jouOk j) from by first | exact jo_t (by assumption) | exact jo_f (by assumption))]), (Mv.pick T5 [] rfl)⟩
theorem impl_FitsIn_c {w : World} {H : Nat → Prop} {j : JouD} {n : Int} (h_j_text : okS j.text) (h_j_sure : i64ok j.sure) (h_n : i64ok n) :
    Calls Try.prog 8 #[.agg #[.string j.text, .int .i64 j.sure], .int .i64 n] w fun e w' => e = .returned (.bool (fitsR j n)) ∧ Mv [] w [] w' := by
 have uU : True := (fun _ _ _ => trivial) H h_j_sure h_n
 clear uU
 have z1 := h_j_text
 unfold okS at z1
 refine calls_enter 19 Try.func8 rfl Try.ntmps8 (Nat.le_of_ble_eq_true rfl) (fun _ F0i => ?_)
 have F0 : Fr 19 [(0, .agg #[.string j.text, .int .i64 j.sure]), (1, .int .i64 n)] _ := F0i
 clear F0i
 refine wp_seq (wp_region_lit (l_op (f_box F0 (At.nil w) rfl rfl rfl (F0.ev 0 rfl) rfl rfl fun b1 _ w1 F2 S1 => ?_)))
 refine l_op (f_val F2 rfl rfl (r_assign rfl rfl) rfl fun _ F3 => ?_)
 have F4 : Fr 19 [(4, .bool false), (2, .pointer (some ⟨b1, 0, none⟩)), (1, .int .i64 n)] _ := F3.cut rfl
 clear F0 F2 F3
 have T5 : Mv _ _ [bx b1 [.string j.text, .int .i64 j.sure] 35] _ := S1
 refine s_end (x_normal (wp_seq (wp_region_lit (l_op (f_val (v := .agg #[.string j.text, .int .i64 j.sure]) F4 rfl rfl (r_loadB T5.at' 0 TI_35 rfl rfl (F4.ev 2 rfl) rfl rfl (fun h => nomatch h) rfl) rfl fun _ F6 => ?_)))))
 refine l_op (f_call F6 CF_13 rfl rfl rfl rfl (lc (F6.ev 5 rfl) rfl) (impl_JournalOk_c (H := fun _ => True) (j := j) h_j_text (by first | assumption | exact ⟨by omega, by omega⟩ | (unfold i64ok at *; omega) | (simp only [i64ok]; omega))) ?_)
 rintro _ w7 ⟨rfl, m7⟩
 refine ⟨_, rfl, fun _ F8 => ?_⟩
 have S7 := At.frame0 T5.at' m7
 clear m7
 refine l_op (f_mv F8 rfl rfl rfl rfl rfl fun _ F9 => ?_)
 rcases Bool.eq_false_or_eq_true (jouOk j) with h10 | h10
 · rw [h10] at F9
   refine l_op (f_mv F9 (wanted_g F9 rfl rfl rfl rfl) rfl rfl rfl rfl fun _ F11 => ?_)
   refine l_op (f_val F11 (wanted_g F11 rfl rfl rfl rfl) rfl (r_cmp (b := decide (n ≥ 0)) (.inr (.inr (.inr (.inr (.inr rfl))))) rfl (F11.ev 8 rfl) rfl (dec_of (by omega))) rfl fun _ F12 => ?_)
   refine l_op (f_val F12 rfl rfl (r_pick (b := true) rfl (F12.ev 7 rfl) (F12.ev 9 rfl)) rfl fun _ F13 => ?_)
   refine l_op (f_mv F13 rfl rfl rfl rfl rfl fun _ F14 => ?_)
   rcases Decidable.em (n ≥ 0) with h15 | h15
   · rw [decide_eq_true h15] at F14
     refine l_op (f_mv F14 (wanted_g F14 rfl rfl rfl rfl) rfl rfl rfl rfl fun _ F16 => ?_)
     refine l_op (f_val F16 (wanted_g F16 rfl rfl rfl rfl) rfl (r_field FI_35_0 rfl (F16.ev 2 rfl) rfl) rfl fun _ F17 => ?_)
     refine l_op (f_val (v := .string j.text) F17 (wanted_g F17 rfl rfl rfl rfl) rfl (r_loadB S7.at' 0 TI_9 rfl rfl (F17.ev 13 rfl) rfl rfl (fun _ => rfl) rfl) rfl fun _ F18 => ?_)
     refine l_op (f_val F18 (wanted_g F18 rfl rfl rfl rfl) rfl (r_lenS (fun t ht => by cases ht; exact Try.underlying9) rfl rfl (F18.ev 14 rfl)) rfl fun _ F19 => ?_)
     refine l_op (f_val F19 (wanted_g F19 rfl rfl rfl rfl) rfl (r_sub (z := (20000 - ((j.text.size : Nat) : Int))) rfl rfl (F19.ev 15 rfl) (by first | rfl | omega) ⟨by first | omega | (unfold i64ok at *; omega), by first | omega | (unfold i64ok at *; omega)⟩) rfl fun _ F20 => ?_)
     refine l_op (f_val F20 (wanted_g F20 rfl rfl rfl rfl) rfl (r_cmp (b := decide (n ≤ (20000 - ((j.text.size : Nat) : Int)))) (.inr (.inr (.inr (.inl rfl)))) rfl (F20.ev 12 rfl) (F20.ev 16 rfl) (dec_of (by omega))) rfl fun _ F21 => ?_)
     refine l_op (f_val F21 rfl rfl (r_pick (b := true) rfl (F21.ev 11 rfl) (F21.ev 17 rfl)) rfl fun _ F22 => ?_)
     refine l_op (f_as F22 rfl rfl rfl rfl rfl fun _ F23 => ?_)
     have F24 : Fr 19 [(4, .bool (decide (n ≤ (20000 - ((j.text.size : Nat) : Int)))))] _ := F23.cut rfl
     clear F4 F6 F8 F9 F11 F12 F13 F14 F16 F17 F18 F19 F20 F21 F22 F23
     have T25 : Mv _ _ [bx b1 [.string j.text, .int .i64 j.sure] 35] _ := S7
     refine s_end (x_normal (wp_ret ?_))
     refine x_done (v := .bool (decide (n ≤ (20000 - ((j.text.size : Nat) : Int))))) F24 (results_1 Try.results8 (.tmp (F24.ev 4 rfl))) ?_
     exact ⟨(by rw [(show (decide (n ≤ (20000 - ((j.text.size : Nat) : Int)))) = (fitsR j n) from by first | exact fr_a (by assumption) | exact fr_b (by assumption) (by assumption) | exact fr_c (by assumption) (by assumption))]), (Mv.pick (T5.trans T25) [] rfl)⟩
   · rw [decide_eq_false h15] at F14
     refine l_op (f_skip F14 (wanted_g F14 rfl rfl rfl rfl) rfl rfl fun _ F26 => ?_)
     refine l_op (f_skip F26 (wanted_g F26 rfl rfl rfl rfl) rfl rfl fun _ F27 => ?_)
     refine l_op (f_skip F27 (wanted_g F27 rfl rfl rfl rfl) rfl rfl fun _ F28 => ?_)
     refine l_op (f_skip F28 (wanted_g F28 rfl rfl rfl rfl) rfl rfl fun _ F29 => ?_)
     refine l_op (f_skip F29 (wanted_g F29 rfl rfl rfl rfl) rfl rfl fun _ F30 => ?_)
     refine l_op (f_skip F30 (wanted_g F30 rfl rfl rfl rfl) rfl rfl fun _ F31 => ?_)
     refine l_op (f_val F31 rfl rfl (r_pick (b := false) rfl (F31.ev 11 rfl) rfl) rfl fun _ F32 => ?_)
     refine l_op (f_as F32 rfl rfl rfl rfl rfl fun _ F33 => ?_)
     have F34 : Fr 19 [(4, .bool false)] _ := F33.cut rfl
     clear F4 F6 F8 F9 F11 F12 F13 F14 F26 F27 F28 F29 F30 F31 F32 F33
     have T35 : Mv _ _ [bx b1 [.string j.text, .int .i64 j.sure] 35] _ := S7
     refine s_end (x_normal (wp_ret ?_))
     refine x_done (v := .bool false) F34 (results_1 Try.results8 (.tmp (F34.ev 4 rfl))) ?_
     exact ⟨(by rw [(show false = (fitsR j n) from by first | exact fr_a (by assumption) | exact fr_b (by assumption) (by assumption) | exact fr_c (by assumption) (by assumption))]), (Mv.pick (T5.trans T35) [] rfl)⟩
 · rw [h10] at F9
   refine l_op (f_skip F9 (wanted_g F9 rfl rfl rfl rfl) rfl rfl fun _ F36 => ?_)
   refine l_op (f_skip F36 (wanted_g F36 rfl rfl rfl rfl) rfl rfl fun _ F37 => ?_)
   refine l_op (f_val F37 rfl rfl (r_pick (b := false) rfl (F37.ev 7 rfl) rfl) rfl fun _ F38 => ?_)
   refine l_op (f_mv F38 rfl rfl rfl rfl rfl fun _ F39 => ?_)
   refine l_op (f_skip F39 (wanted_g F39 rfl rfl rfl rfl) rfl rfl fun _ F40 => ?_)
   refine l_op (f_skip F40 (wanted_g F40 rfl rfl rfl rfl) rfl rfl fun _ F41 => ?_)
   refine l_op (f_skip F41 (wanted_g F41 rfl rfl rfl rfl) rfl rfl fun _ F42 => ?_)
   refine l_op (f_skip F42 (wanted_g F42 rfl rfl rfl rfl) rfl rfl fun _ F43 => ?_)
   refine l_op (f_skip F43 (wanted_g F43 rfl rfl rfl rfl) rfl rfl fun _ F44 => ?_)
   refine l_op (f_skip F44 (wanted_g F44 rfl rfl rfl rfl) rfl rfl fun _ F45 => ?_)
   refine l_op (f_val F45 rfl rfl (r_pick (b := false) rfl (F45.ev 11 rfl) rfl) rfl fun _ F46 => ?_)
   refine l_op (f_as F46 rfl rfl rfl rfl rfl fun _ F47 => ?_)
   have F48 : Fr 19 [(4, .bool false)] _ := F47.cut rfl
   clear F4 F6 F8 F9 F36 F37 F38 F39 F40 F41 F42 F43 F44 F45 F46 F47
   have T49 : Mv _ _ [bx b1 [.string j.text, .int .i64 j.sure] 35] _ := S7
   refine s_end (x_normal (wp_ret ?_))
   refine x_done (v := .bool false) F48 (results_1 Try.results8 (.tmp (F48.ev 4 rfl))) ?_
   exact ⟨(by rw [(show false = (fitsR j n) from by first | exact fr_a (by assumption) | exact fr_b (by assumption) (by assumption) | exact fr_c (by assumption) (by assumption))]), (Mv.pick (T5.trans T49) [] rfl)⟩
theorem impl_LiveIn_1_c {w : World} {H : Nat → Prop} {x : TxD} {x_calls_a : Option Addr} {x_calls_n x_calls_c : Nat} {x_answers_a : Option Addr} {x_answers_n x_answers_c : Nat} {x_touch_reads_a : Option Addr} {x_touch_reads_n x_touch_reads_c : Nat} {x_touch_writes_a : Option Addr} {x_touch_writes_n x_touch_writes_c : Nat} {x_marks_a : Option Addr} {x_marks_n x_marks_c : Nat} (h_x_id : i64ok x.id) (h_x_age : i64ok x.age) (h_x_proc : i64ok x.proc) (h_x_began : i64ok x.began) (v_x_calls : Rd 6 encK okK H w (.slice x_calls_a x_calls_n x_calls_c) x.calls) (v_x_answers : Rd 3 encR okR H w (.slice x_answers_a x_answers_n x_answers_c) x.answers) (v_x_touch_reads : Rd 1 encS okS H w (.slice x_touch_reads_a x_touch_reads_n x_touch_reads_c) x.touch.reads) (v_x_touch_writes : Rd 1 encS okS H w (.slice x_touch_writes_a x_touch_writes_n x_touch_writes_c) x.touch.writes) (v_x_marks : Rd 1 encI okI H w (.slice x_marks_a x_marks_n x_marks_c) x.marks) (h_x_state : i64ok x.state) :
    Calls Try.prog 18 #[.agg #[.int .i64 x.id, .int .i64 x.age, .int .i64 x.proc, .int .i64 x.began, .slice x_calls_a x_calls_n x_calls_c, .slice x_answers_a x_answers_n x_answers_c, .slice x_touch_reads_a x_touch_reads_n x_touch_reads_c, .slice x_touch_writes_a x_touch_writes_n x_touch_writes_c, .slice x_marks_a x_marks_n x_marks_c, .int .i64 x.state]] w fun e w' => e = .returned (.bool (decide (x.state = 1))) ∧ Mv [] w [] w' := by
 have uU : True := (fun _ _ _ _ _ => trivial) h_x_id h_x_age h_x_proc h_x_began h_x_state
 clear uU
 have V_v_x_calls : Rd 6 encK okK (V H w []) w (.slice x_calls_a x_calls_n x_calls_c) x.calls := Rd.start v_x_calls (fun _ _ => fps_nil _)
 obtain ⟨ln_x_calls, le_x_calls, mx_x_calls, ni_x_calls⟩ := Rd.inv v_x_calls
 have V_v_x_answers : Rd 3 encR okR (V H w []) w (.slice x_answers_a x_answers_n x_answers_c) x.answers := Rd.start v_x_answers (fun _ _ => fps_nil _)
 obtain ⟨ln_x_answers, le_x_answers, mx_x_answers, ni_x_answers⟩ := Rd.inv v_x_answers
 have V_v_x_touch_reads : Rd 1 encS okS (V H w []) w (.slice x_touch_reads_a x_touch_reads_n x_touch_reads_c) x.touch.reads := Rd.start v_x_touch_reads (fun _ _ => fps_nil _)
 obtain ⟨ln_x_touch_reads, le_x_touch_reads, mx_x_touch_reads, ni_x_touch_reads⟩ := Rd.inv v_x_touch_reads
 have V_v_x_touch_writes : Rd 1 encS okS (V H w []) w (.slice x_touch_writes_a x_touch_writes_n x_touch_writes_c) x.touch.writes := Rd.start v_x_touch_writes (fun _ _ => fps_nil _)
 obtain ⟨ln_x_touch_writes, le_x_touch_writes, mx_x_touch_writes, ni_x_touch_writes⟩ := Rd.inv v_x_touch_writes
 have V_v_x_marks : Rd 1 encI okI (V H w []) w (.slice x_marks_a x_marks_n x_marks_c) x.marks := Rd.start v_x_marks (fun _ _ => fps_nil _)
 obtain ⟨ln_x_marks, le_x_marks, mx_x_marks, ni_x_marks⟩ := Rd.inv v_x_marks
 refine calls_enter 6 Try.func18 rfl Try.ntmps18 (Nat.le_of_ble_eq_true rfl) (fun _ F0i => ?_)
 have F0 : Fr 6 [(0, .agg #[.int .i64 x.id, .int .i64 x.age, .int .i64 x.proc, .int .i64 x.began, .slice x_calls_a x_calls_n x_calls_c, .slice x_answers_a x_answers_n x_answers_c, .slice x_touch_reads_a x_touch_reads_n x_touch_reads_c, .slice x_touch_writes_a x_touch_writes_n x_touch_writes_c, .slice x_marks_a x_marks_n x_marks_c, .int .i64 x.state])] _ := F0i
 clear F0i
 refine wp_seq (wp_region_lit (l_op (f_box F0 (At.nil w) rfl rfl rfl (F0.ev 0 rfl) rfl rfl fun b1 _ w1 F2 S1 => ?_)))
 refine l_op (f_val F2 rfl rfl (r_assign rfl rfl) rfl fun _ F3 => ?_)
 have F4 : Fr 6 [(2, .bool false), (1, .pointer (some ⟨b1, 0, none⟩))] _ := F3.cut rfl
 clear F0 F2 F3
 have T5 : Mv _ _ [bx b1 [.int .i64 x.id, .int .i64 x.age, .int .i64 x.proc, .int .i64 x.began, .slice x_calls_a x_calls_n x_calls_c, .slice x_answers_a x_answers_n x_answers_c, .slice x_touch_reads_a x_touch_reads_n x_touch_reads_c, .slice x_touch_writes_a x_touch_writes_n x_touch_writes_c, .slice x_marks_a x_marks_n x_marks_c, .int .i64 x.state] 33] _ := S1
 refine s_end (x_normal (wp_seq (wp_region_lit (l_op (f_val F4 rfl rfl (r_field FI_33_8 rfl (F4.ev 1 rfl) rfl) rfl fun _ F6 => ?_)))))
 refine l_op (f_val (v := .int .i64 x.state) F6 rfl rfl (r_loadB T5.at' 0 TI_3 rfl rfl (F6.ev 3 rfl) rfl rfl (fun _ => rfl) rfl) rfl fun _ F7 => ?_)
 refine l_op (f_val F7 rfl rfl (r_cmp (b := decide (x.state = 1)) (.inl rfl) rfl (F7.ev 4 rfl) rfl (dec_of (by omega))) rfl fun _ F8 => ?_)
 refine l_op (f_as F8 rfl rfl rfl rfl rfl fun _ F9 => ?_)
 have F10 : Fr 6 [(2, .bool (decide (x.state = 1)))] _ := F9.cut rfl
 clear F4 F6 F7 F8 F9
 refine s_end (x_normal (wp_ret ?_))
 refine x_done (v := .bool (decide (x.state = 1))) F10 (results_1 Try.results18 (.tmp (F10.ev 2 rfl))) ?_
 exact ⟨rfl, (Mv.pick T5 [] rfl)⟩
theorem impl_idsIn_impl_LiveIn_1_c {w : World} {H : Nat → Prop} {list : List TxD} {list_a : Option Addr} {list_n list_c : Nat} (v_list : Rd 10 encT okT H w (.slice list_a list_n list_c) list) (p0 : list_n ≤ 1000) :
    Calls Try.prog 17 #[.slice list_a list_n list_c, .func (.func 18) #[] #[]] w fun e w' => ∃ (r0_a : Option Addr), ∃ (r0_n : Nat), ∃ (r0_c : Nat), e = .returned (.slice r0_a r0_n r0_c) ∧ Mv [] w [ow 3 1 encI okI (.slice r0_a r0_n r0_c) (liveL list)] w' := by
 have uU : True := (fun _ => trivial) p0
 clear uU
 have V_v_list : Rd 10 encT okT (V H w []) w (.slice list_a list_n list_c) list := Rd.start v_list (fun _ _ => fps_nil _)
 obtain ⟨ln_list, le_list, mx_list, ni_list⟩ := Rd.inv v_list
 refine calls_enter 24 Try.func17 rfl Try.ntmps17 (Nat.le_of_ble_eq_true rfl) (fun _ F0i => ?_)
 have F0 : Fr 24 [(0, .slice list_a list_n list_c), (1, .func (.func 18) #[] #[])] _ := F0i
 clear F0i
 refine wp_seq (wp_region_lit (l_op (f_val F0 rfl rfl (r_assign rfl rfl) rfl fun _ F1 => ?_)))
 have F2 : Fr 24 [(4, .slice none 0 0), (0, .slice list_a list_n list_c), (1, .func (.func 18) #[] #[])] _ := F1.cut rfl
 clear F0 F1
 refine s_end (x_normal (wp_seq (wp_region_lit (l_op (f_val F2 rfl rfl (r_assign rfl rfl) rfl fun _ F3 => ?_)))))
 have F4 : Fr 24 [(5, .slice none 0 0), (0, .slice list_a list_n list_c), (1, .func (.func 18) #[] #[])] _ := F3.cut rfl
 clear F2 F3
 refine s_end (x_normal (wp_seq (wp_seq (wp_region_lit (l_op (f_mv F4 rfl rfl rfl rfl rfl fun _ F5 => ?_))))))
 refine l_op (f_val F5 rfl rfl (r_len Try.underlying26 rfl (F5.ev 8 rfl)) rfl fun _ F6 => ?_)
 refine l_op (f_val F6 rfl rfl (r_move rfl rfl) rfl fun _ F7 => ?_)
 have F8 : Fr 24 [(10, .int .i64 0), (9, .int .i64 ((list_n : Nat) : Int)), (8, .slice list_a list_n list_c), (5, .slice none 0 0), (1, .func (.func 18) #[] #[])] _ := F7.cut rfl
 clear F4 F5 F6 F7
 refine s_end (x_normal (wp_block ?_))
 have S10 : Mv [] w [ow 3 1 encI okI (.slice none 0 0) ([] : List Int)] w := mv_nil (At.nil w)
 refine x_loop (fun (k : Nat) aZ wZ => ∃ (D : List Int), ∃ (oa : Option Addr), ∃ (on : Nat), ∃ (oc : Nat), Fr 24 [(10, .int .i64 ((k : Nat) : Int)), (9, .int .i64 ((list_n : Nat) : Int)), (8, .slice list_a list_n list_c), (5, .slice oa on oc), (1, .func (.func 18) #[] #[])] aZ ∧ Mv [ow 3 1 encI okI (.slice none 0 0) ([] : List Int)] w [ow 3 1 encI okI (.slice oa on oc) D] wZ ∧ (k ≤ list_n) ∧ (D = liveL (list.take k)) ∧ (on = D.length)) (fun (k : Nat) => list_n - k) (0) ?_ ?_
 · exact ⟨([] : List Int), none, 0, 0, F8.cut rfl, (Mv.refl S10.at'), by omega, rfl, rfl⟩
 · rintro k a9 w9 ⟨D, oa, on, oc, F9, S9, hk_0, hk_1, hk_2⟩
   have hll := liveL_take list k
   rw [← hk_1] at hll
   refine wp_seq (wp_region_lit (l_op (f_val F9 rfl rfl (r_cmp (b := decide (k < list_n)) (.inr (.inr (.inl rfl))) rfl (F9.ev 10 rfl) (F9.ev 9 rfl) (dec_of (by omega))) rfl fun _ F11 => ?_)))
   have F12 : Fr 24 [(11, .bool (decide (k < list_n))), (10, .int .i64 ((k : Nat) : Int)), (9, .int .i64 ((list_n : Nat) : Int)), (8, .slice list_a list_n list_c), (5, .slice oa on oc), (1, .func (.func 18) #[] #[])] _ := F11.cut rfl
   clear F9 F11
   refine s_end (x_normal (wp_seq (x_cond (p := k < list_n) (F12.ev 11 rfl) (fun h13 => ?_) (fun h13 => ?_))))
   · skip
     refine wp_skip (x_normal (wp_seq (wp_block (wp_seq (wp_region_lit ?_)))))
     obtain ⟨B14, O14, x1, ad14, hx1, okx1, ln14, cl14⟩ := Rd.at (Rd.mv (Nat.succ_pos _) V_v_list (S10.trans S9)) k (by first | assumption | omega)
     clear ln14
     refine l_op (f_val F12 rfl rfl (r_indexAddr (i := k) ET_26 rfl ((F12.ev 8 rfl).trans (by rw [ad14])) (F12.ev 10 rfl) (by omega) (by first | assumption | omega)) rfl fun _ F15 => ?_)
     refine l_op (f_val (v := .agg #[.int .i64 x1.id, .int .i64 x1.age, .int .i64 x1.proc, .int .i64 x1.began, .slice none 0 0, .slice none 0 0, .slice none 0 0, .slice none 0 0, .slice none 0 0, .int .i64 x1.state]) F15 rfl rfl (r_load (cs := [.int .i64 x1.id, .int .i64 x1.age, .int .i64 x1.proc, .int .i64 x1.began, .slice none 0 0, .slice none 0 0, .slice none 0 0, .slice none 0 0, .slice none 0 0, .int .i64 x1.state]) TI_33 rfl (F15.ev 12 rfl) rfl (fun h => nomatch h) (elem_sub (f := 0) cl14 [.int .i64 x1.id, .int .i64 x1.age, .int .i64 x1.proc, .int .i64 x1.began, .slice none 0 0, .slice none 0 0, .slice none 0 0, .slice none 0 0, .slice none 0 0, .int .i64 x1.state] rfl)) rfl fun _ F16 => ?_)
     refine l_op (f_alloc F16 S9.at' ZI_33 rfl rfl rfl rfl rfl fun b17 _ w17 F18 S17 => ?_)
     refine l_op (s_store S17.at' 0 TI_33 rfl rfl rfl rfl rfl (F18.ev 7 rfl) (F18.ev 13 rfl) rfl rfl rfl rfl rfl fun w19 S19 => ?_)
     have F20 : Fr 24 [(7, .pointer (some ⟨b17, 0, none⟩)), (13, .agg #[.int .i64 x1.id, .int .i64 x1.age, .int .i64 x1.proc, .int .i64 x1.began, .slice none 0 0, .slice none 0 0, .slice none 0 0, .slice none 0 0, .slice none 0 0, .int .i64 x1.state]), (10, .int .i64 ((k : Nat) : Int)), (9, .int .i64 ((list_n : Nat) : Int)), (8, .slice list_a list_n list_c), (5, .slice oa on oc), (1, .func (.func 18) #[] #[])] _ := F18.cut rfl
     clear F12 F15 F16 F18
     have T21 : Mv _ _ [bx b17 [.int .i64 x1.id, .int .i64 x1.age, .int .i64 x1.proc, .int .i64 x1.began, .slice none 0 0, .slice none 0 0, .slice none 0 0, .slice none 0 0, .slice none 0 0, .int .i64 x1.state] 33, ow 3 1 encI okI (.slice oa on oc) D] _ := S19
     refine s_end (x_normal (wp_seq (wp_region_lit (l_op (f_mv F20 rfl rfl rfl rfl rfl fun _ F22 => ?_)))))
     refine l_op (f_val (v := .agg #[.int .i64 x1.id, .int .i64 x1.age, .int .i64 x1.proc, .int .i64 x1.began, .slice none 0 0, .slice none 0 0, .slice none 0 0, .slice none 0 0, .slice none 0 0, .int .i64 x1.state]) F22 rfl rfl (r_loadB T21.at' 0 TI_33 rfl rfl (F22.ev 7 rfl) rfl rfl (fun h => nomatch h) rfl) rfl fun _ F23 => ?_)
     refine l_op (f_callv F23 CF_18 rfl rfl rfl rfl (F23.ev 14 rfl) (lc (F23.ev 15 rfl) rfl) (impl_LiveIn_1_c (H := V H w [bx b17 [.int .i64 x1.id, .int .i64 x1.age, .int .i64 x1.proc, .int .i64 x1.began, .slice none 0 0, .slice none 0 0, .slice none 0 0, .slice none 0 0, .slice none 0 0, .int .i64 x1.state] 33, ow 3 1 encI okI (.slice oa on oc) D]) (x := (⟨x1.id, x1.age, x1.proc, x1.began, ([] : List CallD), ([] : List AnsD), (⟨([] : List ByteArray), ([] : List ByteArray)⟩ : TouchD), ([] : List Int), x1.state⟩ : TxD)) okx1.1 okx1.2.1 okx1.2.2.1 okx1.2.2.2.1 Rd.nil Rd.nil Rd.nil Rd.nil Rd.nil okx1.2.2.2.2) ?_)
     rintro _ w24 ⟨rfl, m24⟩
     refine ⟨_, rfl, fun _ F25 => ?_⟩
     have S24 := At.frame0 T21.at' m24
     clear m24
     have F26 : Fr 24 [(16, .bool (decide ((⟨x1.id, x1.age, x1.proc, x1.began, ([] : List CallD), ([] : List AnsD), (⟨([] : List ByteArray), ([] : List ByteArray)⟩ : TouchD), ([] : List Int), x1.state⟩ : TxD).state = 1))), (7, .pointer (some ⟨b17, 0, none⟩)), (10, .int .i64 ((k : Nat) : Int)), (9, .int .i64 ((list_n : Nat) : Int)), (8, .slice list_a list_n list_c), (5, .slice oa on oc), (1, .func (.func 18) #[] #[])] _ := F25.cut rfl
     clear F20 F22 F23 F25
     have T27 : Mv _ _ [bx b17 [.int .i64 x1.id, .int .i64 x1.age, .int .i64 x1.proc, .int .i64 x1.began, .slice none 0 0, .slice none 0 0, .slice none 0 0, .slice none 0 0, .slice none 0 0, .int .i64 x1.state] 33, ow 3 1 encI okI (.slice oa on oc) D] _ := S24
     refine s_end (x_normal (x_condb (b := (decide ((⟨x1.id, x1.age, x1.proc, x1.began, ([] : List CallD), ([] : List AnsD), (⟨([] : List ByteArray), ([] : List ByteArray)⟩ : TouchD), ([] : List Int), x1.state⟩ : TxD).state = 1))) (F26.ev 16 rfl) (fun h28 => ?_) (fun h28 => ?_)))
     · skip
       refine wp_region_lit (l_op (f_mv F26 rfl rfl rfl rfl rfl fun _ F29 => ?_))
       refine l_op (f_val F29 rfl rfl (r_field FI_33_0 rfl (F29.ev 7 rfl) rfl) rfl fun _ F30 => ?_)
       refine l_op (f_val (v := .int .i64 x1.id) F30 rfl rfl (r_loadB T27.at' 0 TI_3 rfl rfl (F30.ev 18 rfl) rfl rfl (fun _ => rfl) rfl) rfl fun _ F31 => ?_)
       refine l_op (f_buildSl (ok := okI) (vs := [.int .i64 x1.id]) F31 T27.at' ([x1.id]) ET_24 rfl rfl rfl rfl rfl rfl (lc (pr2 (F31.ev 19 rfl)) rfl) rfl rfl (fun x hx => (List.mem_singleton.1 hx) ▸ okx1.1) fun b32 _ w32 F33 S32 => ?_)
       refine l_op (f_app (news := [x1.id]) F33 S32.at' 2 ET_24 rfl rfl rfl rfl rfl rfl (F33.ev 17 rfl) (F33.ev 20 rfl) ((At.rd S32.at' ET_24.hk 0 rfl)).1 (by ((repeat (first | rw [List.length_append] | rw [List.length_cons] | rw [List.length_nil] | rw [List.length_take] | rw [List.length_drop])) <;> omega)) fun A34 N34 C34 _ w34 F35 S34 l34 => ?_)
       have S36 := At.drop S34.at' 1
       refine l_op (f_as F35 rfl rfl rfl rfl rfl fun _ F37 => ?_)
       have F38 : Fr 24 [(5, .slice A34 N34 C34), (10, .int .i64 ((k : Nat) : Int)), (9, .int .i64 ((list_n : Nat) : Int)), (8, .slice list_a list_n list_c), (1, .func (.func 18) #[] #[])] _ := F37.cut rfl
       clear F26 F29 F30 F31 F33 F35 F37
       have T39 : Mv _ _ [ow 3 1 encI okI (.slice A34 N34 C34) (D ++ ([x1.id])), bx b17 [.int .i64 x1.id, .int .i64 x1.age, .int .i64 x1.proc, .int .i64 x1.began, .slice none 0 0, .slice none 0 0, .slice none 0 0, .slice none 0 0, .slice none 0 0, .int .i64 x1.state] 33] _ := S36
       refine s_end (x_block_normal (x_normal (wp_region_lit (l_op (f_val F38 rfl rfl (r_add (z := ((k + 1 : Nat) : Int)) rfl (F38.ev 10 rfl) rfl (by first | rfl | omega) ⟨by first | omega | (unfold i64ok at *; omega), by first | omega | (unfold i64ok at *; omega)⟩) rfl fun _ F40 => ?_)))))
       refine l_op (f_mv F40 rfl rfl rfl rfl rfl fun _ F41 => ?_)
       have F42 : Fr 24 [(10, .int .i64 ((k + 1 : Nat) : Int)), (5, .slice A34 N34 C34), (9, .int .i64 ((list_n : Nat) : Int)), (8, .slice list_a list_n list_c), (1, .func (.func 18) #[] #[])] _ := F41.cut rfl
       clear F38 F40 F41
       refine s_end ?_
       refine x_normal ⟨k + 1, by omega, D ++ ([x1.id]), A34, N34, C34, F42.cut rfl, ((S9.trans (S17.trans (T21.trans (T27.trans (S32.trans (S34.trans T39)))))).pick [0] rfl), by omega, by first | rw [hk_1, liveL_t hx1 (of_decide_eq_true (by assumption))] | rw [hk_1, liveL_f hx1 (of_decide_eq_false (by assumption))] | rw [hk_1, liveL_t hx1 (by assumption)] | rw [hk_1, liveL_f hx1 (by assumption)], by assumption⟩
     · skip
       refine wp_skip (x_block_normal (x_normal (wp_region_lit (l_op (f_val F26 rfl rfl (r_add (z := ((k + 1 : Nat) : Int)) rfl (F26.ev 10 rfl) rfl (by first | rfl | omega) ⟨by first | omega | (unfold i64ok at *; omega), by first | omega | (unfold i64ok at *; omega)⟩) rfl fun _ F43 => ?_)))))
       refine l_op (f_mv F43 rfl rfl rfl rfl rfl fun _ F44 => ?_)
       have F45 : Fr 24 [(10, .int .i64 ((k + 1 : Nat) : Int)), (9, .int .i64 ((list_n : Nat) : Int)), (8, .slice list_a list_n list_c), (5, .slice oa on oc), (1, .func (.func 18) #[] #[])] _ := F44.cut rfl
       clear F26 F43 F44
       refine s_end ?_
       refine x_normal ⟨k + 1, by omega, D, oa, on, oc, F45.cut rfl, ((S9.trans (S17.trans (T21.trans T27))).pick [1] rfl), by omega, by first | rw [hk_1, liveL_t hx1 (of_decide_eq_true (by assumption))] | rw [hk_1, liveL_f hx1 (of_decide_eq_false (by assumption))] | rw [hk_1, liveL_t hx1 (by assumption)] | rw [hk_1, liveL_f hx1 (by assumption)], by assumption⟩
   · skip
     refine wp_exit (x_then_exit (x_then_exit (x_block_here (x_normal (wp_seq (wp_region_lit (l_op (f_mv F12 rfl rfl rfl rfl rfl fun _ F46 => ?_))))))))
     refine l_op (f_as F46 rfl rfl rfl rfl rfl fun _ F47 => ?_)
     have F48 : Fr 24 [(4, .slice oa on oc)] _ := F47.cut rfl
     clear F12 F46 F47
     refine s_end (x_normal (wp_ret ?_))
     refine x_done (v := .slice oa on oc) F48 (results_1 Try.results17 (.tmp (F48.ev 4 rfl))) ?_
     exact ⟨oa, on, oc, rfl, (Mv.cast (Mv.pick (S10.trans S9) [0] rfl) (by rw [(show D = (liveL list) from by rw [hk_1, List.take_of_length_le (by omega)])]; all_goals rfl))⟩
theorem impl_LiveIn_c {w : World} {H : Nat → Prop} {list : List TxD} {list_a : Option Addr} {list_n list_c : Nat} (v_list : Rd 10 encT okT H w (.slice list_a list_n list_c) list) (p0 : list_n ≤ 1000) :
    Calls Try.prog 15 #[.slice list_a list_n list_c] w fun e w' => ∃ (r0_a : Option Addr), ∃ (r0_n : Nat), ∃ (r0_c : Nat), e = .returned (.slice r0_a r0_n r0_c) ∧ Mv [] w [ow 3 1 encI okI (.slice r0_a r0_n r0_c) (liveL list)] w' := by
 have uU : True := (fun _ => trivial) p0
 clear uU
 have V_v_list : Rd 10 encT okT (V H w []) w (.slice list_a list_n list_c) list := Rd.start v_list (fun _ _ => fps_nil _)
 obtain ⟨ln_list, le_list, mx_list, ni_list⟩ := Rd.inv v_list
 refine calls_enter 5 Try.func15 rfl Try.ntmps15 (Nat.le_of_ble_eq_true rfl) (fun _ F0i => ?_)
 have F0 : Fr 5 [(0, .slice list_a list_n list_c)] _ := F0i
 clear F0i
 refine wp_seq (wp_region_lit (l_op (f_val F0 rfl rfl (r_assign rfl rfl) rfl fun _ F1 => ?_)))
 have F2 : Fr 5 [(2, .slice none 0 0), (0, .slice list_a list_n list_c)] _ := F1.cut rfl
 clear F0 F1
 refine s_end (x_normal (wp_seq (wp_region_lit (l_op (f_mv F2 rfl rfl rfl rfl rfl fun _ F3 => ?_)))))
 refine l_op (f_call F3 CF_17 rfl rfl rfl rfl (lc (F3.ev 3 rfl) (lc rfl rfl)) (impl_idsIn_impl_LiveIn_1_c (list := list) V_v_list (by first | assumption | omega | (simp <;> omega))) ?_)
 rintro _ w4 ⟨r0_a_4, r0_n_4, r0_c_4, rfl, m4⟩
 refine ⟨_, rfl, fun _ F5 => ?_⟩
 have S4 : Mv _ _ [ow 3 1 encI okI (.slice r0_a_4 r0_n_4 r0_c_4) (liveL list)] _ := At.frame (At.nil w) [] rfl m4
 obtain ⟨lo4_0, lp4_0, lq4_0⟩ := At.ownInv S4.at' ET_24.hk 0 rfl
 clear m4
 refine l_op (f_as F5 rfl rfl rfl rfl rfl fun _ F6 => ?_)
 have F7 : Fr 5 [(2, .slice r0_a_4 r0_n_4 r0_c_4)] _ := F6.cut rfl
 clear F2 F3 F5 F6
 refine s_end (x_normal (wp_ret ?_))
 refine x_done (v := .slice r0_a_4 r0_n_4 r0_c_4) F7 (results_1 Try.results15 (.tmp (F7.ev 2 rfl))) ?_
 exact ⟨r0_a_4, r0_n_4, r0_c_4, rfl, (Mv.pick S4 [0] rfl)⟩
theorem impl_HeldBack_c {w : World} {H : Nat → Prop} {list : List TxD} {list_a : Option Addr} {list_n list_c : Nat} (v_list : Rd 10 encT okT H w (.slice list_a list_n list_c) list) (p0 : list_n ≤ 1000) :
    Calls Try.prog 12 #[.slice list_a list_n list_c] w fun e w' => e = .returned (.int .i64 ((backN list : Nat) : Int)) ∧ Mv [] w [] w' := by
 have uU : True := (fun _ => trivial) p0
 clear uU
 have hll := liveL_length list
 have V_v_list : Rd 10 encT okT (V H w []) w (.slice list_a list_n list_c) list := Rd.start v_list (fun _ _ => fps_nil _)
 obtain ⟨ln_list, le_list, mx_list, ni_list⟩ := Rd.inv v_list
 refine calls_enter 7 Try.func12 rfl Try.ntmps12 (Nat.le_of_ble_eq_true rfl) (fun _ F0i => ?_)
 have F0 : Fr 7 [(0, .slice list_a list_n list_c)] _ := F0i
 clear F0i
 refine wp_seq (wp_region_lit (l_op (f_val F0 rfl rfl (r_assign rfl rfl) rfl fun _ F1 => ?_)))
 have F2 : Fr 7 [(2, .int .i64 0), (0, .slice list_a list_n list_c)] _ := F1.cut rfl
 clear F0 F1
 refine s_end (x_normal (wp_seq (wp_region_lit (l_op (f_mv F2 rfl rfl rfl rfl rfl fun _ F3 => ?_)))))
 refine l_op (f_call F3 CF_15 rfl rfl rfl rfl (lc (F3.ev 3 rfl) rfl) (impl_LiveIn_c (list := list) V_v_list (by first | assumption | omega | (simp <;> omega))) ?_)
 rintro _ w4 ⟨r0_a_4, r0_n_4, r0_c_4, rfl, m4⟩
 refine ⟨_, rfl, fun _ F5 => ?_⟩
 have S4 : Mv _ _ [ow 3 1 encI okI (.slice r0_a_4 r0_n_4 r0_c_4) (liveL list)] _ := At.frame (At.nil w) [] rfl m4
 obtain ⟨lo4_0, lp4_0, lq4_0⟩ := At.ownInv S4.at' ET_24.hk 0 rfl
 clear m4
 refine l_op (f_val F5 rfl rfl (r_len Try.underlying24 rfl (F5.ev 4 rfl)) rfl fun _ F6 => ?_)
 refine l_op (f_val F6 rfl rfl (r_mul (z := ((4000 * r0_n_4 : Nat) : Int)) rfl rfl (F6.ev 5 rfl) (by first | rfl | omega) ⟨by first | omega | (unfold i64ok at *; omega), by first | omega | (unfold i64ok at *; omega)⟩) rfl fun _ F7 => ?_)
 refine l_op (f_as F7 rfl rfl rfl rfl rfl fun _ F8 => ?_)
 have F9 : Fr 7 [(2, .int .i64 ((4000 * r0_n_4 : Nat) : Int))] _ := F8.cut rfl
 clear F2 F3 F5 F6 F7 F8
 refine s_end (x_normal (wp_ret ?_))
 refine x_done (v := .int .i64 ((4000 * r0_n_4 : Nat) : Int)) F9 (results_1 Try.results12 (.tmp (F9.ev 2 rfl))) ?_
 exact ⟨(by rw [(show ((4000 * r0_n_4 : Nat) : Int) = ((backN list : Nat) : Int) from by unfold backN; omega)]), (Mv.pick S4 [] rfl)⟩
theorem impl_MayLay_c {w : World} {H : Nat → Prop} {j : JouD} {list : List TxD} {list_a : Option Addr} {list_n list_c : Nat} {n : Int} (h_j_text : okS j.text) (h_j_sure : i64ok j.sure) (v_list : Rd 10 encT okT H w (.slice list_a list_n list_c) list) (h_n : i64ok n) (p0 : list_n ≤ 1000) :
    Calls Try.prog 6 #[.agg #[.string j.text, .int .i64 j.sure], .slice list_a list_n list_c, .int .i64 n] w fun e w' => e = .returned (.bool (mayL j list n)) ∧ Mv [] w [] w' := by
 have uU : True := (fun _ => trivial) h_j_sure
 clear uU
 have V_v_list : Rd 10 encT okT (V H w []) w (.slice list_a list_n list_c) list := Rd.start v_list (fun _ _ => fps_nil _)
 obtain ⟨ln_list, le_list, mx_list, ni_list⟩ := Rd.inv v_list
 refine calls_enter 14 Try.func6 rfl Try.ntmps6 (Nat.le_of_ble_eq_true rfl) (fun _ F0i => ?_)
 have F0 : Fr 14 [(0, .agg #[.string j.text, .int .i64 j.sure]), (1, .slice list_a list_n list_c), (2, .int .i64 n)] _ := F0i
 clear F0i
 refine wp_seq (wp_region_lit (l_op (f_box F0 (At.nil w) rfl rfl rfl (F0.ev 0 rfl) rfl rfl fun b1 _ w1 F2 S1 => ?_)))
 refine l_op (f_val F2 rfl rfl (r_assign rfl rfl) rfl fun _ F3 => ?_)
 have F4 : Fr 14 [(6, .bool false), (3, .pointer (some ⟨b1, 0, none⟩)), (1, .slice list_a list_n list_c), (2, .int .i64 n)] _ := F3.cut rfl
 clear F0 F2 F3
 have T5 : Mv _ _ [bx b1 [.string j.text, .int .i64 j.sure] 35] _ := S1
 refine s_end (x_normal (wp_seq ?_))
 have hbk := backN_le ln_list p0
 refine x_draw (fun aZ wZ => Fr 14 [(6, .bool (fitsR j ((max 0 (min n 20000)) + ((backN list : Nat) : Int))))] aZ ∧ Mv [bx b1 [.string j.text, .int .i64 j.sure] 35] w1 [bx b1 [.string j.text, .int .i64 j.sure] 35] wZ) [bx b1 [.string j.text, .int .i64 j.sure] 35] mixed T5.at' (listed := #[false, false, false, false, false, false, false, false]) rfl (fun w7 S7 => ?_) [0] rfl ?_
 · skip
   refine g_take (v := .agg #[.string j.text, .int .i64 j.sure]) F4 rfl (i := 0) (listed' := #[true, false, false, false, false, false, false, false]) rfl (by kernel_rfl) (by kernel_rfl) (by kernel_rfl) (fun _ _ _ h => h) (Sd.of (Mv.refl S7.at') [0] rfl) rfl rfl rfl rfl (fun _ hz => (r_loadX (hz.bx 0 rfl) TI_35 rfl (F4.ev 3 rfl) rfl rfl (fun h => nomatch h) rfl)) fun _ F8 => ?_
   refine g_take F8 rfl (i := 1) (listed' := #[true, true, false, false, false, false, false, false]) rfl (by kernel_rfl) (by kernel_rfl) (by kernel_rfl) (fun _ _ _ h => h) (Sd.of (Mv.refl S7.at') [0] rfl) rfl rfl rfl rfl (fun _ hz => (r_move rfl (F8.ev 2 rfl))) fun _ F9 => ?_
   refine g_take F9 rfl (i := 3) (listed' := #[true, true, false, true, false, false, false, false]) rfl (by kernel_rfl) (by kernel_rfl) (by kernel_rfl) (fun _ _ _ h => h) (Sd.of (Mv.refl S7.at') [0] rfl) rfl rfl rfl rfl (fun _ hz => (r_move rfl (F9.ev 1 rfl))) fun _ F10 => ?_
   refine d_one (i := 2) (listed' := #[true, true, true, true, false, false, false, false]) rfl (by kernel_rfl) rfl rfl ?_
   refine f_call F10 CF_11 rfl rfl rfl rfl (lc (F10.ev 8 rfl) (lc rfl (lc rfl rfl))) (impl_Brought_c (H := fun _ => True) (n := n) (least := 0) (most := 20000) h_n (by first | assumption | exact ⟨by omega, by omega⟩ | (unfold i64ok at *; omega)) (by first | assumption | exact ⟨by omega, by omega⟩ | (unfold i64ok at *; omega))) ?_
   rintro _ w11 ⟨rfl, m11⟩
   refine ⟨_, rfl, fun _ F12 => ?_⟩
   have S11 := At.frame0 S7.at' m11
   clear m11
   refine ⟨Sd.of S11 [0] rfl, ?_⟩
   refine d_one (i := 4) (listed' := #[true, true, true, true, true, false, false, false]) rfl (by kernel_rfl) rfl rfl ?_
   refine f_call F12 CF_12 rfl rfl rfl rfl (lc (F12.ev 10 rfl) rfl) (impl_HeldBack_c (list := list) (Rd.mv (Nat.succ_pos _) V_v_list (T5.trans (S7.trans S11))) (by first | assumption | omega | (simp <;> omega))) ?_
   rintro _ w13 ⟨rfl, m13⟩
   refine ⟨_, rfl, fun _ F14 => ?_⟩
   have S13 := At.frame0 S11.at' m13
   clear m13
   refine ⟨Sd.of (S11.trans S13) [0] rfl, ?_⟩
   refine g_take F14 rfl (i := 5) (listed' := #[true, true, true, true, true, true, false, false]) rfl (by kernel_rfl) (by kernel_rfl) (by kernel_rfl) (fun _ _ _ h => h) (Sd.of (S11.trans S13) [0] rfl) rfl rfl rfl rfl (fun _ hz => (r_add (z := ((max 0 (min n 20000)) + ((backN list : Nat) : Int))) rfl (F14.ev 9 rfl) (F14.ev 11 rfl) (by first | rfl | omega) ⟨by first | omega | (unfold i64ok at *; omega), by first | omega | (unfold i64ok at *; omega)⟩)) fun _ F15 => ?_
   refine d_one (i := 6) (listed' := #[true, true, true, true, true, true, true, false]) rfl (by kernel_rfl) rfl rfl ?_
   refine f_call F15 CF_8 rfl rfl rfl rfl (lc (F15.ev 7 rfl) (lc (F15.ev 12 rfl) rfl)) (impl_FitsIn_c (H := fun _ => True) (j := j) (n := ((max 0 (min n 20000)) + ((backN list : Nat) : Int))) h_j_text (by first | assumption | exact ⟨by omega, by omega⟩ | (unfold i64ok at *; omega) | (simp only [i64ok]; omega)) (by first | assumption | exact ⟨by omega, by omega⟩ | (unfold i64ok at *; omega))) ?_
   rintro _ w16 ⟨rfl, m16⟩
   refine ⟨_, rfl, fun _ F17 => ?_⟩
   have S16 := At.frame0 S13.at' m16
   clear m16
   refine ⟨Sd.of (S11.trans (S13.trans S16)) [0] rfl, ?_⟩
   refine g_take F17 rfl (i := 7) (listed' := #[true, true, true, true, true, true, true, true]) rfl (by kernel_rfl) (by kernel_rfl) (by kernel_rfl) (fun _ _ _ h => h) (Sd.of (S11.trans (S13.trans S16)) [0] rfl) rfl rfl rfl rfl (fun _ hz => (r_assign rfl (F17.ev 13 rfl))) fun _ F18 => ?_
   refine wpAnyH_done (by kernel_rfl) (x_normal ?_) _
   exact ⟨F18.cut rfl, ((S7.trans (S11.trans (S13.trans S16))).pick [0] rfl)⟩
 · rintro a19 w19 ⟨F19, S19⟩
   refine x_normal (wp_ret ?_)
   refine x_done (v := .bool (fitsR j ((max 0 (min n 20000)) + ((backN list : Nat) : Int)))) F19 (results_1 Try.results6 (.tmp (F19.ev 6 rfl))) ?_
   exact ⟨rfl, (Mv.pick (T5.trans S19) [] rfl)⟩
theorem impl_AddText_c {w : World} {H : Nat → Prop} {j : JouD} {text : ByteArray} (h_j_text : okS j.text) (h_j_sure : i64ok j.sure) (h_text : okS text) (p0 : text.size ≤ 20000) (p1 : j.text.size ≤ 1000000) :
    Calls Try.prog 7 #[.agg #[.string j.text, .int .i64 j.sure], .string text] w fun e w' => e = .returned (.tuple #[.agg #[.string (addJ j text).text, .int .i64 (addJ j text).sure], .bool (addB j text)]) ∧ Mv [] w [] w' ∧ okS (addJ j text).text ∧ i64ok (addJ j text).sure := by
 have uU : True := (fun _ _ _ _ => trivial) H h_text p0 p1
 clear uU
 have z1 := h_j_text
 unfold okS at z1
 refine calls_enter 25 Try.func7 rfl Try.ntmps7 (Nat.le_of_ble_eq_true rfl) (fun _ F0i => ?_)
 have F0 : Fr 25 [(0, .agg #[.string j.text, .int .i64 j.sure]), (1, .string text)] _ := F0i
 clear F0i
 refine wp_seq (wp_region_lit (l_op (f_box F0 (At.nil w) rfl rfl rfl (F0.ev 0 rfl) rfl rfl fun b1 _ w1 F2 S1 => ?_)))
 refine l_op (f_alloc F2 S1.at' ZI_35 rfl rfl rfl rfl rfl fun b3 _ w3 F4 S3 => ?_)
 refine l_op (f_val F4 rfl rfl (r_assign rfl rfl) rfl fun _ F5 => ?_)
 have F6 : Fr 25 [(5, .bool false), (4, .pointer (some ⟨b3, 0, none⟩)), (2, .pointer (some ⟨b1, 0, none⟩)), (1, .string text)] _ := F5.cut rfl
 clear F0 F2 F4 F5
 have T7 : Mv _ _ [bx b3 [.string (⟨#[]⟩ : ByteArray), .int .i64 0] 35, bx b1 [.string j.text, .int .i64 j.sure] 35] _ := S3
 refine s_end (x_normal (wp_seq (wp_seq (wp_region_lit (l_op (f_val (v := .agg #[.string j.text, .int .i64 j.sure]) F6 rfl rfl (r_loadB T7.at' 1 TI_35 rfl rfl (F6.ev 2 rfl) rfl rfl (fun h => nomatch h) rfl) rfl fun _ F8 => ?_))))))
 refine l_op (f_call F8 CF_13 rfl rfl rfl rfl (lc (F8.ev 6 rfl) rfl) (impl_JournalOk_c (H := fun _ => True) (j := j) h_j_text (by first | assumption | exact ⟨by omega, by omega⟩ | (unfold i64ok at *; omega) | (simp only [i64ok]; omega))) ?_)
 rintro _ w9 ⟨rfl, m9⟩
 refine ⟨_, rfl, fun _ F10 => ?_⟩
 have S9 := At.frame0 T7.at' m9
 clear m9
 refine l_op (f_val F10 rfl rfl (r_not rfl (F10.ev 7 rfl)) rfl fun _ F11 => ?_)
 refine l_op (f_mv F11 rfl rfl rfl rfl rfl fun _ F12 => ?_)
 rcases Bool.eq_false_or_eq_true (!(jouOk j)) with h13 | h13
 · rw [h13] at F12
   refine l_op (f_skip F12 (wanted_g F12 rfl rfl rfl rfl) rfl rfl fun _ F14 => ?_)
   refine l_op (f_skip F14 (wanted_g F14 rfl rfl rfl rfl) rfl rfl fun _ F15 => ?_)
   refine l_op (f_skip F15 (wanted_g F15 rfl rfl rfl rfl) rfl rfl fun _ F16 => ?_)
   refine l_op (f_skip F16 (wanted_g F16 rfl rfl rfl rfl) rfl rfl fun _ F17 => ?_)
   refine l_op (f_skip F17 (wanted_g F17 rfl rfl rfl rfl) rfl rfl fun _ F18 => ?_)
   refine l_op (f_skip F18 (wanted_g F18 rfl rfl rfl rfl) rfl rfl fun _ F19 => ?_)
   refine l_op (f_skip F19 (wanted_g F19 rfl rfl rfl rfl) rfl rfl fun _ F20 => ?_)
   refine l_op (f_val F20 rfl rfl (r_pick (b := true) rfl (F20.ev 9 rfl) rfl) rfl fun _ F21 => ?_)
   have F22 : Fr 25 [(17, .bool true), (4, .pointer (some ⟨b3, 0, none⟩)), (2, .pointer (some ⟨b1, 0, none⟩)), (1, .string text)] _ := F21.cut rfl
   clear F6 F8 F10 F11 F12 F14 F15 F16 F17 F18 F19 F20 F21
   have T23 : Mv _ _ [bx b3 [.string (⟨#[]⟩ : ByteArray), .int .i64 0] 35, bx b1 [.string j.text, .int .i64 j.sure] 35] _ := S9
   refine s_end (x_normal (wp_cond_true (F22.ev 17 rfl) (wp_seq (wp_region_lit (l_op (f_val (v := .agg #[.string j.text, .int .i64 j.sure]) F22 rfl rfl (r_loadB T23.at' 1 TI_35 rfl rfl (F22.ev 2 rfl) rfl rfl (fun h => nomatch h) rfl) rfl fun _ F24 => ?_))))))
   refine l_op (s_store T23.at' 0 TI_35 rfl rfl rfl rfl rfl (F24.ev 4 rfl) (F24.ev 18 rfl) rfl rfl rfl rfl rfl fun w25 S25 => ?_)
   refine l_op (f_val F24 rfl rfl (r_assign rfl rfl) rfl fun _ F26 => ?_)
   have F27 : Fr 25 [(5, .bool false), (4, .pointer (some ⟨b3, 0, none⟩))] _ := F26.cut rfl
   clear F22 F24 F26
   have T28 : Mv _ _ [bx b3 [.string j.text, .int .i64 j.sure] 35, bx b1 [.string j.text, .int .i64 j.sure] 35] _ := S25
   refine s_end (x_normal (wp_ret (x_then_ret ?_)))
   refine x_done (v := .tuple #[.agg #[.string j.text, .int .i64 j.sure], .bool false]) F27 (results_2 Try.results7 (.cell (F27.ev 4 rfl) (run_loadVar' TI_35 _ [.string j.text, .int .i64 j.sure] rfl (fun h => nomatch h) (At.cells T28.at' 0 rfl 0 [.string j.text, .int .i64 j.sure] rfl))) (.tmp (F27.ev 5 rfl))) ?_
   exact ⟨(by rw [(show j.text = (addJ j text).text from by first | rw [(addJ_t (nf (by assumption)) (by assumption)).1] | rw [(addJ_f (nt (by assumption))).1] | rw [(addJ_g (by assumption)).1] | exact (addJ_t (nf (by assumption)) (by assumption)).2.symm | exact (addJ_f (nt (by assumption))).2.symm | exact (addJ_g (by assumption)).2.symm), (show j.sure = (addJ j text).sure from by first | rw [(addJ_t (nf (by assumption)) (by assumption)).1] | rw [(addJ_f (nt (by assumption))).1] | rw [(addJ_g (by assumption)).1] | exact (addJ_t (nf (by assumption)) (by assumption)).2.symm | exact (addJ_f (nt (by assumption))).2.symm | exact (addJ_g (by assumption)).2.symm), (show false = (addB j text) from by first | rw [(addJ_t (nf (by assumption)) (by assumption)).1] | rw [(addJ_f (nt (by assumption))).1] | rw [(addJ_g (by assumption)).1] | exact (addJ_t (nf (by assumption)) (by assumption)).2.symm | exact (addJ_f (nt (by assumption))).2.symm | exact (addJ_g (by assumption)).2.symm)]), (Mv.pick (S1.trans (T7.trans (T23.trans T28))) [] rfl), ((show j.text = (addJ j text).text from by first | rw [(addJ_t (nf (by assumption)) (by assumption)).1] | rw [(addJ_f (nt (by assumption))).1] | rw [(addJ_g (by assumption)).1] | exact (addJ_t (nf (by assumption)) (by assumption)).2.symm | exact (addJ_f (nt (by assumption))).2.symm | exact (addJ_g (by assumption)).2.symm) ▸ h_j_text), by rw [addJ_sure]; exact h_j_sure⟩
 · rw [h13] at F12
   refine l_op (f_val F12 (wanted_g F12 rfl rfl rfl rfl) rfl (r_field FI_35_0 rfl (F12.ev 2 rfl) rfl) rfl fun _ F29 => ?_)
   refine l_op (f_val (v := .string j.text) F29 (wanted_g F29 rfl rfl rfl rfl) rfl (r_loadB S9.at' 1 TI_9 rfl rfl (F29.ev 10 rfl) rfl rfl (fun _ => rfl) rfl) rfl fun _ F30 => ?_)
   refine l_op (f_val F30 (wanted_g F30 rfl rfl rfl rfl) rfl (r_lenS (fun t ht => by cases ht; exact Try.underlying9) rfl rfl (F30.ev 11 rfl)) rfl fun _ F31 => ?_)
   refine l_op (f_mv F31 (wanted_g F31 rfl rfl rfl rfl) rfl rfl rfl rfl fun _ F32 => ?_)
   refine l_op (f_val F32 (wanted_g F32 rfl rfl rfl rfl) rfl (r_lenS (fun t ht => by cases ht; exact Try.underlying9) rfl rfl (F32.ev 13 rfl)) rfl fun _ F33 => ?_)
   refine l_op (f_val F33 (wanted_g F33 rfl rfl rfl rfl) rfl (r_add (z := ((j.text.size + text.size : Nat) : Int)) rfl (F33.ev 12 rfl) (F33.ev 14 rfl) (by first | rfl | omega) ⟨by first | omega | (unfold i64ok at *; omega), by first | omega | (unfold i64ok at *; omega)⟩) rfl fun _ F34 => ?_)
   refine l_op (f_val F34 (wanted_g F34 rfl rfl rfl rfl) rfl (r_cmp (b := decide (j.text.size + text.size > 20000)) (.inr (.inr (.inr (.inr (.inl rfl))))) rfl (F34.ev 15 rfl) rfl (dec_of (by omega))) rfl fun _ F35 => ?_)
   refine l_op (f_val F35 rfl rfl (r_pick (b := false) rfl (F35.ev 9 rfl) (F35.ev 16 rfl)) rfl fun _ F36 => ?_)
   have F37 : Fr 25 [(17, .bool (decide (j.text.size + text.size > 20000))), (4, .pointer (some ⟨b3, 0, none⟩)), (2, .pointer (some ⟨b1, 0, none⟩)), (1, .string text)] _ := F36.cut rfl
   clear F6 F8 F10 F11 F12 F29 F30 F31 F32 F33 F34 F35 F36
   have T38 : Mv _ _ [bx b3 [.string (⟨#[]⟩ : ByteArray), .int .i64 0] 35, bx b1 [.string j.text, .int .i64 j.sure] 35] _ := S9
   refine s_end (x_normal (x_cond (p := j.text.size + text.size > 20000) (F37.ev 17 rfl) (fun h39 => ?_) (fun h39 => ?_)))
   · skip
     refine wp_seq (wp_region_lit (l_op (f_val (v := .agg #[.string j.text, .int .i64 j.sure]) F37 rfl rfl (r_loadB T38.at' 1 TI_35 rfl rfl (F37.ev 2 rfl) rfl rfl (fun h => nomatch h) rfl) rfl fun _ F40 => ?_)))
     refine l_op (s_store T38.at' 0 TI_35 rfl rfl rfl rfl rfl (F40.ev 4 rfl) (F40.ev 18 rfl) rfl rfl rfl rfl rfl fun w41 S41 => ?_)
     refine l_op (f_val F40 rfl rfl (r_assign rfl rfl) rfl fun _ F42 => ?_)
     have F43 : Fr 25 [(5, .bool false), (4, .pointer (some ⟨b3, 0, none⟩))] _ := F42.cut rfl
     clear F37 F40 F42
     have T44 : Mv _ _ [bx b3 [.string j.text, .int .i64 j.sure] 35, bx b1 [.string j.text, .int .i64 j.sure] 35] _ := S41
     refine s_end (x_normal (wp_ret (x_then_ret ?_)))
     refine x_done (v := .tuple #[.agg #[.string j.text, .int .i64 j.sure], .bool false]) F43 (results_2 Try.results7 (.cell (F43.ev 4 rfl) (run_loadVar' TI_35 _ [.string j.text, .int .i64 j.sure] rfl (fun h => nomatch h) (At.cells T44.at' 0 rfl 0 [.string j.text, .int .i64 j.sure] rfl))) (.tmp (F43.ev 5 rfl))) ?_
     exact ⟨(by rw [(show j.text = (addJ j text).text from by first | rw [(addJ_t (nf (by assumption)) (by assumption)).1] | rw [(addJ_f (nt (by assumption))).1] | rw [(addJ_g (by assumption)).1] | exact (addJ_t (nf (by assumption)) (by assumption)).2.symm | exact (addJ_f (nt (by assumption))).2.symm | exact (addJ_g (by assumption)).2.symm), (show j.sure = (addJ j text).sure from by first | rw [(addJ_t (nf (by assumption)) (by assumption)).1] | rw [(addJ_f (nt (by assumption))).1] | rw [(addJ_g (by assumption)).1] | exact (addJ_t (nf (by assumption)) (by assumption)).2.symm | exact (addJ_f (nt (by assumption))).2.symm | exact (addJ_g (by assumption)).2.symm), (show false = (addB j text) from by first | rw [(addJ_t (nf (by assumption)) (by assumption)).1] | rw [(addJ_f (nt (by assumption))).1] | rw [(addJ_g (by assumption)).1] | exact (addJ_t (nf (by assumption)) (by assumption)).2.symm | exact (addJ_f (nt (by assumption))).2.symm | exact (addJ_g (by assumption)).2.symm)]), (Mv.pick (S1.trans (T7.trans (T38.trans T44))) [] rfl), ((show j.text = (addJ j text).text from by first | rw [(addJ_t (nf (by assumption)) (by assumption)).1] | rw [(addJ_f (nt (by assumption))).1] | rw [(addJ_g (by assumption)).1] | exact (addJ_t (nf (by assumption)) (by assumption)).2.symm | exact (addJ_f (nt (by assumption))).2.symm | exact (addJ_g (by assumption)).2.symm) ▸ h_j_text), by rw [addJ_sure]; exact h_j_sure⟩
   · skip
     refine wp_skip (x_normal (wp_seq (wp_region_lit (l_op (f_val F37 rfl rfl (r_field FI_35_0 rfl (F37.ev 2 rfl) rfl) rfl fun _ F45 => ?_)))))
     refine l_op (f_val (v := .string j.text) F45 rfl rfl (r_loadB T38.at' 1 TI_9 rfl rfl (F45.ev 19 rfl) rfl rfl (fun _ => rfl) rfl) rfl fun _ F46 => ?_)
     refine l_op (f_mv F46 rfl rfl rfl rfl rfl fun _ F47 => ?_)
     have k48 : j.text.size + text.size ≤ 9223372036854775807 := by first | assumption | omega | (unfold okS at *; omega)
     refine l_op (f_val F47 rfl rfl (r_cat rfl (F47.ev 20 rfl) (F47.ev 21 rfl) k48) rfl fun _ F49 => ?_)
     refine l_op (f_val F49 rfl rfl (r_field FI_35_0 rfl (F49.ev 2 rfl) rfl) rfl fun _ F50 => ?_)
     refine l_op (s_store T38.at' 1 TI_9 rfl rfl rfl rfl rfl (F50.ev 23 rfl) (F50.ev 22 rfl) rfl rfl rfl rfl rfl fun w51 S51 => ?_)
     have F52 : Fr 25 [(23, .pointer (some ⟨b1, 0, none⟩)), (22, .string (j.text ++ text)), (4, .pointer (some ⟨b3, 0, none⟩)), (2, .pointer (some ⟨b1, 0, none⟩))] _ := F50.cut rfl
     clear F37 F45 F46 F47 F49 F50
     have T53 : Mv _ _ [bx b1 [.string (j.text ++ text), .int .i64 j.sure] 35, bx b3 [.string (⟨#[]⟩ : ByteArray), .int .i64 0] 35] _ := S51
     refine s_end (x_normal (wp_seq (wp_region_lit (l_op (f_val (v := .agg #[.string (j.text ++ text), .int .i64 j.sure]) F52 rfl rfl (r_loadB T53.at' 0 TI_35 rfl rfl (F52.ev 2 rfl) rfl rfl (fun h => nomatch h) rfl) rfl fun _ F54 => ?_)))))
     refine l_op (s_store T53.at' 1 TI_35 rfl rfl rfl rfl rfl (F54.ev 4 rfl) (F54.ev 24 rfl) rfl rfl rfl rfl rfl fun w55 S55 => ?_)
     refine l_op (f_val F54 rfl rfl (r_assign rfl rfl) rfl fun _ F56 => ?_)
     have F57 : Fr 25 [(5, .bool true), (4, .pointer (some ⟨b3, 0, none⟩))] _ := F56.cut rfl
     clear F52 F54 F56
     have T58 : Mv _ _ [bx b3 [.string (j.text ++ text), .int .i64 j.sure] 35, bx b1 [.string (j.text ++ text), .int .i64 j.sure] 35] _ := S55
     refine s_end (x_normal (wp_ret ?_))
     refine x_done (v := .tuple #[.agg #[.string (j.text ++ text), .int .i64 j.sure], .bool true]) F57 (results_2 Try.results7 (.cell (F57.ev 4 rfl) (run_loadVar' TI_35 _ [.string (j.text ++ text), .int .i64 j.sure] rfl (fun h => nomatch h) (At.cells T58.at' 0 rfl 0 [.string (j.text ++ text), .int .i64 j.sure] rfl))) (.tmp (F57.ev 5 rfl))) ?_
     exact ⟨(by rw [(show (j.text ++ text) = (addJ j text).text from by first | rw [(addJ_t (nf (by assumption)) (by assumption)).1] | rw [(addJ_f (nt (by assumption))).1] | rw [(addJ_g (by assumption)).1] | exact (addJ_t (nf (by assumption)) (by assumption)).2.symm | exact (addJ_f (nt (by assumption))).2.symm | exact (addJ_g (by assumption)).2.symm), (show j.sure = (addJ j text).sure from by first | rw [(addJ_t (nf (by assumption)) (by assumption)).1] | rw [(addJ_f (nt (by assumption))).1] | rw [(addJ_g (by assumption)).1] | exact (addJ_t (nf (by assumption)) (by assumption)).2.symm | exact (addJ_f (nt (by assumption))).2.symm | exact (addJ_g (by assumption)).2.symm), (show true = (addB j text) from by first | rw [(addJ_t (nf (by assumption)) (by assumption)).1] | rw [(addJ_f (nt (by assumption))).1] | rw [(addJ_g (by assumption)).1] | exact (addJ_t (nf (by assumption)) (by assumption)).2.symm | exact (addJ_f (nt (by assumption))).2.symm | exact (addJ_g (by assumption)).2.symm)]), (Mv.pick (S1.trans (T7.trans (T38.trans (T53.trans T58)))) [] rfl), ((show (j.text ++ text) = (addJ j text).text from by first | rw [(addJ_t (nf (by assumption)) (by assumption)).1] | rw [(addJ_f (nt (by assumption))).1] | rw [(addJ_g (by assumption)).1] | exact (addJ_t (nf (by assumption)) (by assumption)).2.symm | exact (addJ_f (nt (by assumption))).2.symm | exact (addJ_g (by assumption)).2.symm) ▸ (okS_cat k48)), by rw [addJ_sure]; exact h_j_sure⟩
end Go.Proofs.Ytglapnkicmkamaa
