/-
  Walks: drawn places; the empty machine.
-/
import Derived.Test.YtibgmijfnbnfkaaDoorDat7
import Derived.Test.YtibgmijfnbnfkaaDoorDatV
import Derived.Test.YtibgmijfnbnfkaaDoorFactsB
import Derived.Test.YtibgmijfnbnfkaaDoorGenR
namespace Go.Proofs.YtibgmijfnbnfkaaDoor
open Go.ChangeShapes Go.WideShapes Go.ChangeAt Go.RowKit
set_option maxRecDepth 100000
set_option maxHeartbeats 1000000
theorem spec_l01New_c {w : World} {H : Nat → Prop} {code : List Nat} {code_a : Option Addr} {code_n code_c : Nat} (v_code : RdA 1 encB okB H w (.slice code_a code_n code_c) code) (p0 : code_n ≤ 1048576) :
    Calls Tryd.prog 19 #[.slice code_a code_n code_c] w fun e w' => ∃ (h2 : Int), ∃ (r0_b : Nat), e = .returned (.pointer (some ⟨r0_b, 0, none⟩)) ∧ Mv [] w [bx r0_b [.slice code_a code_n code_c, .int .i64 ((0 : Nat) : Int), .int .i64 h2] 57] w' ∧ i64ok h2 := by
 have uU : True := (fun _ => trivial) p0
 clear uU
 have V_v_code : RdA 1 encB okB (V H w []) w (.slice code_a code_n code_c) code := RdA.start v_code (fun _ _ => fps_nil _)
 obtain ⟨ln_code, le_code, mx_code, ni_code⟩ := RdA.inv v_code
 refine calls_enter 32 Tryd.func19 rfl Tryd.ntmps19 (Nat.le_of_ble_eq_true rfl) (fun _ F0i => ?_)
 have F0 : Fr 32 [(0, .slice code_a code_n code_c)] _ := F0i
 clear F0i
 refine wp_seq (wp_region_lit (l_op (f_val F0 rfl rfl (r_assign rfl rfl) rfl fun _ F1 => ?_)))
 have F2 : Fr 32 [(2, .pointer none), (0, .slice code_a code_n code_c)] _ := F1.cut rfl
 clear F0 F1
 refine s_end (x_normal (wp_seq (wp_region_lit (l_op (f_mv F2 rfl rfl rfl rfl rfl fun _ F3 => ?_)))))
 refine l_op (f_val F3 rfl rfl (r_len Tryd.underlying22 rfl (F3.ev 5 rfl)) rfl fun _ F4 => ?_)
 refine l_op (f_val F4 rfl rfl (r_add (z := ((94701 + code_n : Nat) : Int)) rfl rfl (F4.ev 6 rfl) (by first | rfl | omega) ⟨by first | omega | (unfold i64ok at *; omega), by first | omega | (unfold i64ok at *; omega)⟩) rfl fun _ F5 => ?_)
 refine l_op (f_as F5 rfl rfl rfl rfl rfl fun _ F6 => ?_)
 have F7 : Fr 32 [(3, .int .i64 ((94701 + code_n : Nat) : Int)), (0, .slice code_a code_n code_c)] _ := F6.cut rfl
 clear F2 F3 F4 F5 F6
 refine s_end (x_normal (wp_seq (wp_seq (wp_region_lit (l_op (f_val F7 rfl rfl (r_assign rfl rfl) rfl fun _ F8 => ?_))))))
 have F9 : Fr 32 [(4, .int .i64 0), (3, .int .i64 ((94701 + code_n : Nat) : Int)), (0, .slice code_a code_n code_c)] _ := F8.cut rfl
 clear F7 F8
 refine s_end (x_normal (wp_block ?_))
 refine x_loop (fun (k : Nat) aZ wZ => ∃ (hh : Nat), Fr 32 [(4, .int .i64 ((k : Nat) : Int)), (3, .int .i64 ((hh : Nat) : Int)), (0, .slice code_a code_n code_c)] aZ ∧ Mv [] w [] wZ ∧ (k ≤ code_n) ∧ (hh ≤ 1073741823)) (fun (k : Nat) => code_n - k) (0) ?_ ?_
 · exact ⟨94701 + code_n, F9.cut rfl, (Mv.refl (At.nil w)), by omega, by omega⟩
 · rintro k a10 w10 ⟨hh, F10, S10, hk_0, hk_1⟩
   refine wp_seq (wp_seq (wp_region_lit (l_op (f_mv F10 rfl rfl rfl rfl rfl fun _ F11 => ?_))))
   refine l_op (f_mv F11 rfl rfl rfl rfl rfl fun _ F12 => ?_)
   refine l_op (f_val F12 rfl rfl (r_len Tryd.underlying22 rfl (F12.ev 9 rfl)) rfl fun _ F13 => ?_)
   refine l_op (f_val F13 rfl rfl (r_cmp (b := decide (k < code_n)) (.inr (.inr (.inl rfl))) rfl (F13.ev 8 rfl) (F13.ev 10 rfl) (dec_of (by omega))) rfl fun _ F14 => ?_)
   refine l_op (f_mv F14 rfl rfl rfl rfl rfl fun _ F15 => ?_)
   rcases Decidable.em (k < code_n) with h16 | h16
   · rw [decide_eq_true h16] at F15
     refine l_op (f_mv F15 (wanted_g F15 rfl rfl rfl rfl) rfl rfl rfl rfl fun _ F17 => ?_)
     refine l_op (f_val F17 (wanted_g F17 rfl rfl rfl rfl) rfl (r_cmp (b := decide (k < 4000)) (.inr (.inr (.inl rfl))) rfl (F17.ev 13 rfl) rfl (dec_of (by omega))) rfl fun _ F18 => ?_)
     refine l_op (f_val F18 rfl rfl (r_pick (b := true) rfl (F18.ev 12 rfl) (F18.ev 14 rfl)) rfl fun _ F19 => ?_)
     have F20 : Fr 32 [(15, .bool (decide (k < 4000))), (4, .int .i64 ((k : Nat) : Int)), (3, .int .i64 ((hh : Nat) : Int)), (0, .slice code_a code_n code_c)] _ := F19.cut rfl
     clear F10 F11 F12 F13 F14 F15 F17 F18 F19
     refine s_end (x_normal (x_cond (p := k < 4000) (F20.ev 15 rfl) (fun h21 => ?_) (fun h21 => ?_)))
     · skip
       refine wp_skip (x_normal (wp_seq (wp_block (wp_region_lit (l_op (f_mv F20 rfl rfl rfl rfl rfl fun _ F22 => ?_))))))
       refine l_op (f_val F22 rfl rfl (r_mul (z := ((hh * 131 : Nat) : Int)) rfl (F22.ev 18 rfl) rfl (by first | rfl | omega) ⟨by first | omega | (unfold i64ok at *; omega), by first | omega | (unfold i64ok at *; omega)⟩) rfl fun _ F23 => ?_)
       refine l_op (f_mv F23 rfl rfl rfl rfl rfl fun _ F24 => ?_)
       refine l_op (f_mv F24 rfl rfl rfl rfl rfl fun _ F25 => ?_)
       obtain ⟨B26, O26, x1, ad26, hx1, okx1, ln26, cl26⟩ := RdA.at (RdA.mv (Nat.succ_pos _) V_v_code S10) k (by first | assumption | omega)
       clear ln26
       refine l_op (f_val F25 rfl rfl (r_indexAddr (i := k) ET_22 rfl ((F25.ev 20 rfl).trans (by rw [ad26])) (F25.ev 21 rfl) (by omega) (by first | assumption | omega)) rfl fun _ F27 => ?_)
       refine l_op (f_val (v := .int .u8 ((x1 : Nat) : Int)) F27 rfl rfl (r_load (cs := [.int .u8 ((x1 : Nat) : Int)]) TI_5 rfl (F27.ev 22 rfl) rfl (fun _ => rfl) (elem_sub (f := 0) cl26 [.int .u8 ((x1 : Nat) : Int)] rfl)) rfl fun _ F28 => ?_)
       have ob29 : x1 < 256 := okx1
       refine l_op (f_val F28 rfl rfl (r_convU8 Tryd.underlying3 Tryd.underlying5 rfl (F28.ev 23 rfl) ⟨by omega, by omega⟩) rfl fun _ F30 => ?_)
       refine l_op (f_val F30 rfl rfl (r_add (z := (((hh * 131) + x1 : Nat) : Int)) rfl (F30.ev 19 rfl) (F30.ev 24 rfl) (by first | rfl | omega) ⟨by first | omega | (unfold i64ok at *; omega), by first | omega | (unfold i64ok at *; omega)⟩) rfl fun _ F31 => ?_)
       refine l_op (f_val F31 rfl rfl (r_add (z := ((((hh * 131) + x1) + 7 : Nat) : Int)) rfl (F31.ev 25 rfl) rfl (by first | rfl | omega) ⟨by first | omega | (unfold i64ok at *; omega), by first | omega | (unfold i64ok at *; omega)⟩) rfl fun _ F32 => ?_)
       have an33 := andN_le ((((hh * 131) + x1) + 7 : Nat) : Int) 1073741823 (by decide)
       refine l_op (f_val F32 rfl rfl (r_andN (c := 1073741823) rfl (by decide) rfl (F32.ev 26 rfl) rfl) rfl fun _ F34 => ?_)
       refine l_op (f_as F34 rfl rfl rfl rfl rfl fun _ F35 => ?_)
       have F36 : Fr 32 [(3, .int .i64 ((andN ((((hh * 131) + x1) + 7 : Nat) : Int) 1073741823 : Nat) : Int)), (4, .int .i64 ((k : Nat) : Int)), (0, .slice code_a code_n code_c)] _ := F35.cut rfl
       clear F20 F22 F23 F24 F25 F27 F28 F30 F31 F32 F34 F35
       refine s_end (x_block_normal (x_normal (wp_region_lit (l_op (f_mv F36 rfl rfl rfl rfl rfl fun _ F37 => ?_)))))
       refine l_op (f_val F37 rfl rfl (r_add (z := ((k + 1 : Nat) : Int)) rfl (F37.ev 16 rfl) rfl (by first | rfl | omega) ⟨by first | omega | (unfold i64ok at *; omega), by first | omega | (unfold i64ok at *; omega)⟩) rfl fun _ F38 => ?_)
       refine l_op (f_as F38 rfl rfl rfl rfl rfl fun _ F39 => ?_)
       have F40 : Fr 32 [(4, .int .i64 ((k + 1 : Nat) : Int)), (3, .int .i64 ((andN ((((hh * 131) + x1) + 7 : Nat) : Int) 1073741823 : Nat) : Int)), (0, .slice code_a code_n code_c)] _ := F39.cut rfl
       clear F36 F37 F38 F39
       refine s_end ?_
       refine x_normal ⟨k + 1, by omega, andN ((((hh * 131) + x1) + 7 : Nat) : Int) 1073741823, F40.cut rfl, (S10.pick [] rfl), by omega, by omega⟩
     · skip
       refine wp_exit (x_then_exit (x_then_exit (x_block_here (x_normal (wp_seq (wp_region_lit (l_op (f_mv F20 rfl rfl rfl rfl rfl fun _ F41 => ?_))))))))
       refine l_op (f_mv F41 rfl rfl rfl rfl rfl fun _ F42 => ?_)
       refine l_op (f_val (v := .agg #[.slice code_a code_n code_c, .int .i64 0, .int .i64 ((hh : Nat) : Int)]) F42 rfl rfl (r_build BI_57 rfl (lc (pr2 (F42.ev 28 rfl)) (lc (pr2 (F42.ev 29 rfl)) rfl)) rfl) rfl fun _ F43 => ?_)
       refine l_op (f_box F43 S10.at' rfl rfl rfl (F43.ev 30 rfl) rfl rfl fun b44 _ w44 F45 S44 => ?_)
       refine l_op (f_as F45 rfl rfl rfl rfl rfl fun _ F46 => ?_)
       have F47 : Fr 32 [(2, .pointer (some ⟨b44, 0, none⟩))] _ := F46.cut rfl
       clear F20 F41 F42 F43 F45 F46
       have T48 : Mv _ _ [bx b44 [.slice code_a code_n code_c, .int .i64 0, .int .i64 ((hh : Nat) : Int)] 57] _ := S44
       refine s_end (x_normal (wp_ret ?_))
       refine x_done (v := .pointer (some ⟨b44, 0, none⟩)) F47 (results_1 Tryd.results19 (.tmp (F47.ev 2 rfl))) ?_
       exact ⟨((hh : Nat) : Int), b44, rfl, (Mv.cast (Mv.pick (S10.trans T48) [0] rfl) rfl), by first | assumption | exact w64_ok _ | omega | (unfold i64ok; omega)⟩
   · rw [decide_eq_false h16] at F15
     refine l_op (f_skip F15 (wanted_g F15 rfl rfl rfl rfl) rfl rfl fun _ F49 => ?_)
     refine l_op (f_skip F49 (wanted_g F49 rfl rfl rfl rfl) rfl rfl fun _ F50 => ?_)
     refine l_op (f_val F50 rfl rfl (r_pick (b := false) rfl (F50.ev 12 rfl) rfl) rfl fun _ F51 => ?_)
     have F52 : Fr 32 [(15, .bool false), (4, .int .i64 ((k : Nat) : Int)), (3, .int .i64 ((hh : Nat) : Int)), (0, .slice code_a code_n code_c)] _ := F51.cut rfl
     clear F10 F11 F12 F13 F14 F15 F49 F50 F51
     refine s_end (x_normal (wp_cond_false (F52.ev 15 rfl) (wp_exit (x_then_exit (x_then_exit (x_block_here (x_normal (wp_seq (wp_region_lit (l_op (f_mv F52 rfl rfl rfl rfl rfl fun _ F53 => ?_)))))))))))
     refine l_op (f_mv F53 rfl rfl rfl rfl rfl fun _ F54 => ?_)
     refine l_op (f_val (v := .agg #[.slice code_a code_n code_c, .int .i64 0, .int .i64 ((hh : Nat) : Int)]) F54 rfl rfl (r_build BI_57 rfl (lc (pr2 (F54.ev 28 rfl)) (lc (pr2 (F54.ev 29 rfl)) rfl)) rfl) rfl fun _ F55 => ?_)
     refine l_op (f_box F55 S10.at' rfl rfl rfl (F55.ev 30 rfl) rfl rfl fun b56 _ w56 F57 S56 => ?_)
     refine l_op (f_as F57 rfl rfl rfl rfl rfl fun _ F58 => ?_)
     have F59 : Fr 32 [(2, .pointer (some ⟨b56, 0, none⟩))] _ := F58.cut rfl
     clear F52 F53 F54 F55 F57 F58
     have T60 : Mv _ _ [bx b56 [.slice code_a code_n code_c, .int .i64 0, .int .i64 ((hh : Nat) : Int)] 57] _ := S56
     refine s_end (x_normal (wp_ret ?_))
     refine x_done (v := .pointer (some ⟨b56, 0, none⟩)) F59 (results_1 Tryd.results19 (.tmp (F59.ev 2 rfl))) ?_
     exact ⟨((hh : Nat) : Int), b56, rfl, (Mv.cast (Mv.pick (S10.trans T60) [0] rfl) rfl), by first | assumption | exact w64_ok _ | omega | (unfold i64ok; omega)⟩
theorem spec_l01Byte_c {w : World} {H : Nat → Prop} {c : CurD} {c_code_a : Option Addr} {c_code_n c_code_c : Nat} {c_b : Nat} (v_c_code : RdA 1 encB okB H w (.slice c_code_a c_code_n c_code_c) c.code) (h_c_pos : i64ok (c.pos : Int)) (h_c_h : i64ok c.h) (p0 : c.pos ≤ c_code_n) (hA : At w [bx c_b [.slice c_code_a c_code_n c_code_c, .int .i64 ((c.pos : Nat) : Int), .int .i64 c.h] 57]) (hD : ∀ b, H b → ¬ fps [bx c_b [.slice c_code_a c_code_n c_code_c, .int .i64 ((c.pos : Nat) : Int), .int .i64 c.h] 57] b) :
    Calls Tryd.prog 31 #[.pointer (some ⟨c_b, 0, none⟩)] w fun e w' => ∃ (i2 : Nat), ∃ (h2 : Int), ∃ (r : Nat), e = .returned (.int .i64 ((r : Nat) : Int)) ∧ Mv [bx c_b [.slice c_code_a c_code_n c_code_c, .int .i64 ((c.pos : Nat) : Int), .int .i64 c.h] 57] w [bx c_b [.slice c_code_a c_code_n c_code_c, .int .i64 ((i2 : Nat) : Int), .int .i64 h2] 57] w' ∧ i2 ≤ c_code_n ∧ i64ok h2 ∧ r < 256 := by
 have uU : True := (fun _ _ _ => trivial) h_c_pos h_c_h p0
 clear uU
 have V_v_c_code : RdA 1 encB okB (V H w [bx c_b [.slice c_code_a c_code_n c_code_c, .int .i64 ((c.pos : Nat) : Int), .int .i64 c.h] 57]) w (.slice c_code_a c_code_n c_code_c) c.code := RdA.start v_c_code hD
 obtain ⟨ln_c_code, le_c_code, mx_c_code, ni_c_code⟩ := RdA.inv v_c_code
 refine calls_enter 58 Tryd.func31 rfl Tryd.ntmps31 (Nat.le_of_ble_eq_true rfl) (fun _ F0i => ?_)
 have F0 : Fr 58 [(0, .pointer (some ⟨c_b, 0, none⟩))] _ := F0i
 clear F0i
 refine wp_seq (wp_region_lit (l_op (f_val F0 rfl rfl (r_assign rfl rfl) rfl fun _ F1 => ?_)))
 have F2 : Fr 58 [(2, .int .i64 0), (0, .pointer (some ⟨c_b, 0, none⟩))] _ := F1.cut rfl
 clear F0 F1
 refine s_end (x_normal (wp_seq (wp_region_lit (l_op (f_mv F2 rfl rfl rfl rfl rfl fun _ F3 => ?_)))))
 refine l_op (f_mv F3 rfl rfl rfl rfl rfl fun _ F4 => ?_)
 refine l_op (f_val F4 rfl rfl (r_nilCheck rfl (F4.ev 5 rfl)) rfl fun _ F5 => ?_)
 refine l_op (f_val F5 rfl rfl (r_field FI_57_2 rfl (F5.ev 6 rfl) rfl) rfl fun _ F6 => ?_)
 refine l_op (f_val (v := .int .i64 c.h) F6 rfl rfl (r_loadB hA 0 TI_3 rfl rfl (F6.ev 7 rfl) rfl rfl (fun _ => rfl) rfl) rfl fun _ F7 => ?_)
 refine l_op (f_val F7 rfl rfl (r_mulW rfl (F7.ev 8 rfl) rfl) rfl fun _ F8 => ?_)
 refine l_op (f_val F8 rfl rfl (r_addW rfl (F8.ev 9 rfl) rfl) rfl fun _ F9 => ?_)
 refine l_op (f_val F9 rfl rfl (r_nilCheck rfl (F9.ev 4 rfl)) rfl fun _ F10 => ?_)
 refine l_op (f_val F10 rfl rfl (r_field FI_57_2 rfl (F10.ev 11 rfl) rfl) rfl fun _ F11 => ?_)
 refine l_op (s_store hA 0 TI_3 rfl rfl rfl rfl rfl (F11.ev 12 rfl) (F11.ev 10 rfl) rfl rfl rfl rfl rfl fun w12 S12 => ?_)
 have F13 : Fr 58 [(12, .pointer (some ⟨c_b, 2, none⟩)), (10, .int .i64 (w64 ((w64 (c.h * 6364136223846793005)) + 1442695040888963407))), (0, .pointer (some ⟨c_b, 0, none⟩))] _ := F11.cut rfl
 clear F2 F3 F4 F5 F6 F7 F8 F9 F10 F11
 have T14 : Mv _ _ [bx c_b [.slice c_code_a c_code_n c_code_c, .int .i64 ((c.pos : Nat) : Int), .int .i64 (w64 ((w64 (c.h * 6364136223846793005)) + 1442695040888963407))] 57] _ := S12
 refine s_end (x_normal (wp_seq ?_))
 refine x_draw (fun aZ wZ => Fr 58 [(0, .pointer (some ⟨c_b, 0, none⟩)), (3, .int .i64 ((andN (xorI (shrI (w64 ((w64 (c.h * 6364136223846793005)) + 1442695040888963407)) 33) (shrI (w64 ((w64 (c.h * 6364136223846793005)) + 1442695040888963407)) 45)) 255 : Nat) : Int))] aZ ∧ Mv [bx c_b [.slice c_code_a c_code_n c_code_c, .int .i64 ((c.pos : Nat) : Int), .int .i64 (w64 ((w64 (c.h * 6364136223846793005)) + 1442695040888963407))] 57] w12 [bx c_b [.slice c_code_a c_code_n c_code_c, .int .i64 ((c.pos : Nat) : Int), .int .i64 (w64 ((w64 (c.h * 6364136223846793005)) + 1442695040888963407))] 57] wZ) [bx c_b [.slice c_code_a c_code_n c_code_c, .int .i64 ((c.pos : Nat) : Int), .int .i64 (w64 ((w64 (c.h * 6364136223846793005)) + 1442695040888963407))] 57] mixed T14.at' (listed := #[false, false, false, false, false, false, false, false, false, false, false, false, false]) rfl (fun w16 S16 => ?_) [0] rfl ?_
 · skip
   refine g_take F13 rfl (i := 0) (listed' := #[true, false, false, false, false, false, false, false, false, false, false, false, false]) rfl (by kernel_rfl) (by kernel_rfl) (by kernel_rfl) (fun _ _ _ h => h) (Sd.of (Mv.refl S16.at') [0] rfl) rfl rfl rfl rfl (fun _ hz => (r_move rfl (F13.ev 0 rfl))) fun _ F17 => ?_
   refine g_take F17 rfl (i := 1) (listed' := #[true, true, false, false, false, false, false, false, false, false, false, false, false]) rfl (by kernel_rfl) (by kernel_rfl) (by kernel_rfl) (fun _ _ _ h => h) (Sd.of (Mv.refl S16.at') [0] rfl) rfl rfl rfl rfl (fun _ hz => (r_nilCheck rfl (F17.ev 13 rfl))) fun _ F18 => ?_
   refine g_take F18 rfl (i := 2) (listed' := #[true, true, true, false, false, false, false, false, false, false, false, false, false]) rfl (by kernel_rfl) (by kernel_rfl) (by kernel_rfl) (fun _ _ _ h => h) (Sd.of (Mv.refl S16.at') [0] rfl) rfl rfl rfl rfl (fun _ hz => (r_field FI_57_2 rfl (F18.ev 14 rfl) rfl)) fun _ F19 => ?_
   refine g_take (v := .int .i64 (w64 ((w64 (c.h * 6364136223846793005)) + 1442695040888963407))) F19 rfl (i := 3) (listed' := #[true, true, true, true, false, false, false, false, false, false, false, false, false]) rfl (by kernel_rfl) (by kernel_rfl) (by kernel_rfl) (fun _ _ _ h => h) (Sd.of (Mv.refl S16.at') [0] rfl) rfl rfl rfl rfl (fun _ hz => (r_loadX (hz.bx 0 rfl) TI_3 rfl (F19.ev 15 rfl) rfl rfl (fun _ => rfl) rfl)) fun _ F20 => ?_
   refine g_take F20 rfl (i := 4) (listed' := #[true, true, true, true, true, false, false, false, false, false, false, false, false]) rfl (by kernel_rfl) (by kernel_rfl) (by kernel_rfl) (fun _ _ _ h => h) (Sd.of (Mv.refl S16.at') [0] rfl) rfl rfl rfl rfl (fun _ hz => (r_shr (c := 33) rfl (by decide) rfl (F20.ev 16 rfl) rfl)) fun _ F21 => ?_
   refine g_take F21 rfl (i := 5) (listed' := #[true, true, true, true, true, true, false, false, false, false, false, false, false]) rfl (by kernel_rfl) (by kernel_rfl) (by kernel_rfl) (fun _ _ _ h => h) (Sd.of (Mv.refl S16.at') [0] rfl) rfl rfl rfl rfl (fun _ hz => (r_move rfl (F21.ev 0 rfl))) fun _ F22 => ?_
   refine g_take F22 rfl (i := 6) (listed' := #[true, true, true, true, true, true, true, false, false, false, false, false, false]) rfl (by kernel_rfl) (by kernel_rfl) (by kernel_rfl) (fun _ _ _ h => h) (Sd.of (Mv.refl S16.at') [0] rfl) rfl rfl rfl rfl (fun _ hz => (r_nilCheck rfl (F22.ev 18 rfl))) fun _ F23 => ?_
   refine g_take F23 rfl (i := 7) (listed' := #[true, true, true, true, true, true, true, true, false, false, false, false, false]) rfl (by kernel_rfl) (by kernel_rfl) (by kernel_rfl) (fun _ _ _ h => h) (Sd.of (Mv.refl S16.at') [0] rfl) rfl rfl rfl rfl (fun _ hz => (r_field FI_57_2 rfl (F23.ev 19 rfl) rfl)) fun _ F24 => ?_
   refine g_take (v := .int .i64 (w64 ((w64 (c.h * 6364136223846793005)) + 1442695040888963407))) F24 rfl (i := 8) (listed' := #[true, true, true, true, true, true, true, true, true, false, false, false, false]) rfl (by kernel_rfl) (by kernel_rfl) (by kernel_rfl) (fun _ _ _ h => h) (Sd.of (Mv.refl S16.at') [0] rfl) rfl rfl rfl rfl (fun _ hz => (r_loadX (hz.bx 0 rfl) TI_3 rfl (F24.ev 20 rfl) rfl rfl (fun _ => rfl) rfl)) fun _ F25 => ?_
   refine g_take F25 rfl (i := 9) (listed' := #[true, true, true, true, true, true, true, true, true, true, false, false, false]) rfl (by kernel_rfl) (by kernel_rfl) (by kernel_rfl) (fun _ _ _ h => h) (Sd.of (Mv.refl S16.at') [0] rfl) rfl rfl rfl rfl (fun _ hz => (r_shr (c := 45) rfl (by decide) rfl (F25.ev 21 rfl) rfl)) fun _ F26 => ?_
   refine g_take F26 rfl (i := 10) (listed' := #[true, true, true, true, true, true, true, true, true, true, true, false, false]) rfl (by kernel_rfl) (by kernel_rfl) (by kernel_rfl) (fun _ _ _ h => h) (Sd.of (Mv.refl S16.at') [0] rfl) rfl rfl rfl rfl (fun _ hz => (r_xor rfl (F26.ev 17 rfl) (F26.ev 22 rfl))) fun _ F27 => ?_
   have an28 := andN_le (xorI (shrI (w64 ((w64 (c.h * 6364136223846793005)) + 1442695040888963407)) 33) (shrI (w64 ((w64 (c.h * 6364136223846793005)) + 1442695040888963407)) 45)) 255 (by decide)
   refine g_take F27 rfl (i := 11) (listed' := #[true, true, true, true, true, true, true, true, true, true, true, true, false]) rfl (by kernel_rfl) (by kernel_rfl) (by kernel_rfl) (fun _ _ _ h => h) (Sd.of (Mv.refl S16.at') [0] rfl) rfl rfl rfl rfl (fun _ hz => (r_andN (c := 255) rfl (by decide) rfl (F27.ev 23 rfl) rfl)) fun _ F29 => ?_
   refine g_take F29 rfl (i := 12) (listed' := #[true, true, true, true, true, true, true, true, true, true, true, true, true]) rfl (by kernel_rfl) (by kernel_rfl) (by kernel_rfl) (fun _ _ _ h => h) (Sd.of (Mv.refl S16.at') [0] rfl) rfl rfl rfl rfl (fun _ hz => (r_assign rfl (F29.ev 24 rfl))) fun _ F30 => ?_
   refine wpAnyH_done (by kernel_rfl) (x_normal ?_) _
   exact ⟨F30.cut rfl, (S16.pick [0] rfl)⟩
 · rintro a31 w31 ⟨F31, S31⟩
   have an32 := andN_le (xorI (shrI (w64 ((w64 (c.h * 6364136223846793005)) + 1442695040888963407)) 33) (shrI (w64 ((w64 (c.h * 6364136223846793005)) + 1442695040888963407)) 45)) 255 (by decide)
   refine x_normal (wp_seq (wp_seq ?_))
   refine x_draw (fun aZ wZ => Fr 58 [(0, .pointer (some ⟨c_b, 0, none⟩)), (3, .int .i64 ((andN (xorI (shrI (w64 ((w64 (c.h * 6364136223846793005)) + 1442695040888963407)) 33) (shrI (w64 ((w64 (c.h * 6364136223846793005)) + 1442695040888963407)) 45)) 255 : Nat) : Int)), (34, .bool (decide (c.pos < c_code_n)))] aZ ∧ Mv [bx c_b [.slice c_code_a c_code_n c_code_c, .int .i64 ((c.pos : Nat) : Int), .int .i64 (w64 ((w64 (c.h * 6364136223846793005)) + 1442695040888963407))] 57] w31 [bx c_b [.slice c_code_a c_code_n c_code_c, .int .i64 ((c.pos : Nat) : Int), .int .i64 (w64 ((w64 (c.h * 6364136223846793005)) + 1442695040888963407))] 57] wZ) [bx c_b [.slice c_code_a c_code_n c_code_c, .int .i64 ((c.pos : Nat) : Int), .int .i64 (w64 ((w64 (c.h * 6364136223846793005)) + 1442695040888963407))] 57] mixed S31.at' (listed := #[false, false, false, false, false, false, false, false, false, false]) rfl (fun w34 S34 => ?_) [0] rfl ?_
   · skip
     refine g_take F31 rfl (i := 0) (listed' := #[true, false, false, false, false, false, false, false, false, false]) rfl (by kernel_rfl) (by kernel_rfl) (by kernel_rfl) (fun _ _ _ h => h) (Sd.of (Mv.refl S34.at') [0] rfl) rfl rfl rfl rfl (fun _ hz => (r_move rfl (F31.ev 0 rfl))) fun _ F35 => ?_
     refine g_take F35 rfl (i := 1) (listed' := #[true, true, false, false, false, false, false, false, false, false]) rfl (by kernel_rfl) (by kernel_rfl) (by kernel_rfl) (fun _ _ _ h => h) (Sd.of (Mv.refl S34.at') [0] rfl) rfl rfl rfl rfl (fun _ hz => (r_nilCheck rfl (F35.ev 25 rfl))) fun _ F36 => ?_
     refine g_take F36 rfl (i := 2) (listed' := #[true, true, true, false, false, false, false, false, false, false]) rfl (by kernel_rfl) (by kernel_rfl) (by kernel_rfl) (fun _ _ _ h => h) (Sd.of (Mv.refl S34.at') [0] rfl) rfl rfl rfl rfl (fun _ hz => (r_field FI_57_1 rfl (F36.ev 26 rfl) rfl)) fun _ F37 => ?_
     refine g_take (v := .int .i64 ((c.pos : Nat) : Int)) F37 rfl (i := 3) (listed' := #[true, true, true, true, false, false, false, false, false, false]) rfl (by kernel_rfl) (by kernel_rfl) (by kernel_rfl) (fun _ _ _ h => h) (Sd.of (Mv.refl S34.at') [0] rfl) rfl rfl rfl rfl (fun _ hz => (r_loadX (hz.bx 0 rfl) TI_3 rfl (F37.ev 27 rfl) rfl rfl (fun _ => rfl) rfl)) fun _ F38 => ?_
     refine g_take F38 rfl (i := 4) (listed' := #[true, true, true, true, true, false, false, false, false, false]) rfl (by kernel_rfl) (by kernel_rfl) (by kernel_rfl) (fun _ _ _ h => h) (Sd.of (Mv.refl S34.at') [0] rfl) rfl rfl rfl rfl (fun _ hz => (r_move rfl (F38.ev 0 rfl))) fun _ F39 => ?_
     refine g_take F39 rfl (i := 5) (listed' := #[true, true, true, true, true, true, false, false, false, false]) rfl (by kernel_rfl) (by kernel_rfl) (by kernel_rfl) (fun _ _ _ h => h) (Sd.of (Mv.refl S34.at') [0] rfl) rfl rfl rfl rfl (fun _ hz => (r_nilCheck rfl (F39.ev 29 rfl))) fun _ F40 => ?_
     refine g_take F40 rfl (i := 6) (listed' := #[true, true, true, true, true, true, true, false, false, false]) rfl (by kernel_rfl) (by kernel_rfl) (by kernel_rfl) (fun _ _ _ h => h) (Sd.of (Mv.refl S34.at') [0] rfl) rfl rfl rfl rfl (fun _ hz => (r_field FI_57_0 rfl (F40.ev 30 rfl) rfl)) fun _ F41 => ?_
     refine g_take (v := .slice c_code_a c_code_n c_code_c) F41 rfl (i := 7) (listed' := #[true, true, true, true, true, true, true, true, false, false]) rfl (by kernel_rfl) (by kernel_rfl) (by kernel_rfl) (fun _ _ _ h => h) (Sd.of (Mv.refl S34.at') [0] rfl) rfl rfl rfl rfl (fun _ hz => (r_loadX (hz.bx 0 rfl) TI_22 rfl (F41.ev 31 rfl) rfl rfl (fun _ => rfl) rfl)) fun _ F42 => ?_
     refine g_take F42 rfl (i := 8) (listed' := #[true, true, true, true, true, true, true, true, true, false]) rfl (by kernel_rfl) (by kernel_rfl) (by kernel_rfl) (fun _ _ _ h => h) (Sd.of (Mv.refl S34.at') [0] rfl) rfl rfl rfl rfl (fun _ hz => (r_len Tryd.underlying22 rfl (F42.ev 32 rfl))) fun _ F43 => ?_
     refine g_take F43 rfl (i := 9) (listed' := #[true, true, true, true, true, true, true, true, true, true]) rfl (by kernel_rfl) (by kernel_rfl) (by kernel_rfl) (fun _ _ _ h => h) (Sd.of (Mv.refl S34.at') [0] rfl) rfl rfl rfl rfl (fun _ hz => (r_cmp (b := decide (c.pos < c_code_n)) (.inr (.inr (.inl rfl))) rfl (F43.ev 28 rfl) (F43.ev 33 rfl) (dec_of (by omega)))) fun _ F44 => ?_
     refine wpAnyH_done (by kernel_rfl) (x_normal ?_) _
     exact ⟨F44.cut rfl, (S34.pick [0] rfl)⟩
   · rintro a45 w45 ⟨F45, S45⟩
     have an46 := andN_le (xorI (shrI (w64 ((w64 (c.h * 6364136223846793005)) + 1442695040888963407)) 33) (shrI (w64 ((w64 (c.h * 6364136223846793005)) + 1442695040888963407)) 45)) 255 (by decide)
     refine x_normal (x_cond (p := c.pos < c_code_n) (F45.ev 34 rfl) (fun h47 => ?_) (fun h47 => ?_))
     · skip
       refine wp_seq ?_
       obtain ⟨x1, hx1, okx1⟩ := RdA.elem (RdA.mv (Nat.succ_pos _) V_v_c_code (T14.trans (S31.trans S45))) c.pos (by first | assumption | omega)
       refine x_draw (fun aZ wZ => Fr 58 [(0, .pointer (some ⟨c_b, 0, none⟩)), (3, .int .i64 ((andN (((andN (xorI (shrI (w64 ((w64 (c.h * 6364136223846793005)) + 1442695040888963407)) 33) (shrI (w64 ((w64 (c.h * 6364136223846793005)) + 1442695040888963407)) 45)) 255) + x1 : Nat) : Int) 255 : Nat) : Int))] aZ ∧ Mv [bx c_b [.slice c_code_a c_code_n c_code_c, .int .i64 ((c.pos : Nat) : Int), .int .i64 (w64 ((w64 (c.h * 6364136223846793005)) + 1442695040888963407))] 57] w45 [bx c_b [.slice c_code_a c_code_n c_code_c, .int .i64 ((c.pos : Nat) : Int), .int .i64 (w64 ((w64 (c.h * 6364136223846793005)) + 1442695040888963407))] 57] wZ) [bx c_b [.slice c_code_a c_code_n c_code_c, .int .i64 ((c.pos : Nat) : Int), .int .i64 (w64 ((w64 (c.h * 6364136223846793005)) + 1442695040888963407))] 57] mixed S45.at' (listed := #[false, false, false, false, false, false, false, false, false, false, false, false, false, false, false]) rfl (fun w49 S49 => ?_) [0] rfl ?_
       · skip
         refine g_take F45 rfl (i := 0) (listed' := #[true, false, false, false, false, false, false, false, false, false, false, false, false, false, false]) rfl (by kernel_rfl) (by kernel_rfl) (by kernel_rfl) (fun _ _ _ h => h) (Sd.of (Mv.refl S49.at') [0] rfl) rfl rfl rfl rfl (fun _ hz => (r_move rfl (F45.ev 3 rfl))) fun _ F50 => ?_
         refine g_take F50 rfl (i := 1) (listed' := #[true, true, false, false, false, false, false, false, false, false, false, false, false, false, false]) rfl (by kernel_rfl) (by kernel_rfl) (by kernel_rfl) (fun _ _ _ h => h) (Sd.of (Mv.refl S49.at') [0] rfl) rfl rfl rfl rfl (fun _ hz => (r_move rfl (F50.ev 0 rfl))) fun _ F51 => ?_
         refine g_take F51 rfl (i := 2) (listed' := #[true, true, true, false, false, false, false, false, false, false, false, false, false, false, false]) rfl (by kernel_rfl) (by kernel_rfl) (by kernel_rfl) (fun _ _ _ h => h) (Sd.of (Mv.refl S49.at') [0] rfl) rfl rfl rfl rfl (fun _ hz => (r_nilCheck rfl (F51.ev 36 rfl))) fun _ F52 => ?_
         refine g_take F52 rfl (i := 3) (listed' := #[true, true, true, true, false, false, false, false, false, false, false, false, false, false, false]) rfl (by kernel_rfl) (by kernel_rfl) (by kernel_rfl) (fun _ _ _ h => h) (Sd.of (Mv.refl S49.at') [0] rfl) rfl rfl rfl rfl (fun _ hz => (r_field FI_57_0 rfl (F52.ev 37 rfl) rfl)) fun _ F53 => ?_
         refine g_take (v := .slice c_code_a c_code_n c_code_c) F53 rfl (i := 4) (listed' := #[true, true, true, true, true, false, false, false, false, false, false, false, false, false, false]) rfl (by kernel_rfl) (by kernel_rfl) (by kernel_rfl) (fun _ _ _ h => h) (Sd.of (Mv.refl S49.at') [0] rfl) rfl rfl rfl rfl (fun _ hz => (r_loadX (hz.bx 0 rfl) TI_22 rfl (F53.ev 38 rfl) rfl rfl (fun _ => rfl) rfl)) fun _ F54 => ?_
         refine g_take F54 rfl (i := 5) (listed' := #[true, true, true, true, true, true, false, false, false, false, false, false, false, false, false]) rfl (by kernel_rfl) (by kernel_rfl) (by kernel_rfl) (fun _ _ _ h => h) (Sd.of (Mv.refl S49.at') [0] rfl) rfl rfl rfl rfl (fun _ hz => (r_move rfl (F54.ev 0 rfl))) fun _ F55 => ?_
         refine g_take F55 rfl (i := 6) (listed' := #[true, true, true, true, true, true, true, false, false, false, false, false, false, false, false]) rfl (by kernel_rfl) (by kernel_rfl) (by kernel_rfl) (fun _ _ _ h => h) (Sd.of (Mv.refl S49.at') [0] rfl) rfl rfl rfl rfl (fun _ hz => (r_nilCheck rfl (F55.ev 40 rfl))) fun _ F56 => ?_
         refine g_take F56 rfl (i := 7) (listed' := #[true, true, true, true, true, true, true, true, false, false, false, false, false, false, false]) rfl (by kernel_rfl) (by kernel_rfl) (by kernel_rfl) (fun _ _ _ h => h) (Sd.of (Mv.refl S49.at') [0] rfl) rfl rfl rfl rfl (fun _ hz => (r_field FI_57_1 rfl (F56.ev 41 rfl) rfl)) fun _ F57 => ?_
         refine g_take (v := .int .i64 ((c.pos : Nat) : Int)) F57 rfl (i := 8) (listed' := #[true, true, true, true, true, true, true, true, true, false, false, false, false, false, false]) rfl (by kernel_rfl) (by kernel_rfl) (by kernel_rfl) (fun _ _ _ h => h) (Sd.of (Mv.refl S49.at') [0] rfl) rfl rfl rfl rfl (fun _ hz => (r_loadX (hz.bx 0 rfl) TI_3 rfl (F57.ev 42 rfl) rfl rfl (fun _ => rfl) rfl)) fun _ F58 => ?_
         obtain ⟨B59, O59, y59, ad59, hy59, oky59, ln59, cl59⟩ := RdA.atK (Nat.succ_pos _) (RdA.mv (Nat.succ_pos _) V_v_c_code (T14.trans (S31.trans (S45.trans S49)))) c.pos (by first | assumption | omega)
         clear ln59
         obtain rfl := Option.some.inj (hx1.symm.trans hy59)
         clear hy59 oky59
         refine g_take F58 rfl (i := 9) (listed' := #[true, true, true, true, true, true, true, true, true, true, false, false, false, false, false]) rfl (by kernel_rfl) (by kernel_rfl) (by kernel_rfl) (fun _ _ _ h => h) (Sd.of (Mv.refl S49.at') [0] rfl) rfl rfl rfl rfl (fun _ hz => (r_indexAddr (i := c.pos) ET_22 rfl ((F58.ev 39 rfl).trans (by rw [ad59])) (F58.ev 43 rfl) (by omega) (by first | assumption | omega))) fun _ F60 => ?_
         refine g_take (v := .int .u8 ((x1 : Nat) : Int)) F60 rfl (i := 10) (listed' := #[true, true, true, true, true, true, true, true, true, true, true, false, false, false, false]) rfl (by kernel_rfl) (by kernel_rfl) (by kernel_rfl) (fun _ _ _ h => h) (Sd.of (Mv.refl S49.at') [0] rfl) rfl rfl rfl rfl (fun _ hz => (r_load (cs := [.int .u8 ((x1 : Nat) : Int)]) TI_5 rfl (F60.ev 44 rfl) rfl (fun _ => rfl) (elem_sub (f := 0) (cl59 _ hz.kp) [.int .u8 ((x1 : Nat) : Int)] rfl))) fun _ F61 => ?_
         have ob62 : x1 < 256 := okx1
         refine g_take F61 rfl (i := 11) (listed' := #[true, true, true, true, true, true, true, true, true, true, true, true, false, false, false]) rfl (by kernel_rfl) (by kernel_rfl) (by kernel_rfl) (fun _ _ _ h => h) (Sd.of (Mv.refl S49.at') [0] rfl) rfl rfl rfl rfl (fun _ hz => (r_convU8 Tryd.underlying3 Tryd.underlying5 rfl (F61.ev 45 rfl) ⟨by omega, by omega⟩)) fun _ F63 => ?_
         refine g_take F63 rfl (i := 12) (listed' := #[true, true, true, true, true, true, true, true, true, true, true, true, true, false, false]) rfl (by kernel_rfl) (by kernel_rfl) (by kernel_rfl) (fun _ _ _ h => h) (Sd.of (Mv.refl S49.at') [0] rfl) rfl rfl rfl rfl (fun _ hz => (r_add (z := (((andN (xorI (shrI (w64 ((w64 (c.h * 6364136223846793005)) + 1442695040888963407)) 33) (shrI (w64 ((w64 (c.h * 6364136223846793005)) + 1442695040888963407)) 45)) 255) + x1 : Nat) : Int)) rfl (F63.ev 35 rfl) (F63.ev 46 rfl) (by first | rfl | omega) ⟨by first | omega | (unfold i64ok at *; omega), by first | omega | (unfold i64ok at *; omega)⟩)) fun _ F64 => ?_
         have an65 := andN_le (((andN (xorI (shrI (w64 ((w64 (c.h * 6364136223846793005)) + 1442695040888963407)) 33) (shrI (w64 ((w64 (c.h * 6364136223846793005)) + 1442695040888963407)) 45)) 255) + x1 : Nat) : Int) 255 (by decide)
         refine g_take F64 rfl (i := 13) (listed' := #[true, true, true, true, true, true, true, true, true, true, true, true, true, true, false]) rfl (by kernel_rfl) (by kernel_rfl) (by kernel_rfl) (fun _ _ _ h => h) (Sd.of (Mv.refl S49.at') [0] rfl) rfl rfl rfl rfl (fun _ hz => (r_andN (c := 255) rfl (by decide) rfl (F64.ev 47 rfl) rfl)) fun _ F66 => ?_
         refine g_take F66 rfl (i := 14) (listed' := #[true, true, true, true, true, true, true, true, true, true, true, true, true, true, true]) rfl (by kernel_rfl) (by kernel_rfl) (by kernel_rfl) (fun _ _ _ h => h) (Sd.of (Mv.refl S49.at') [0] rfl) rfl rfl rfl rfl (fun _ hz => (r_assign rfl (F66.ev 48 rfl))) fun _ F67 => ?_
         refine wpAnyH_done (by kernel_rfl) (x_normal ?_) _
         exact ⟨F67.cut rfl, (S49.pick [0] rfl)⟩
       · rintro a68 w68 ⟨F68, S68⟩
         have an69 := andN_le (((andN (xorI (shrI (w64 ((w64 (c.h * 6364136223846793005)) + 1442695040888963407)) 33) (shrI (w64 ((w64 (c.h * 6364136223846793005)) + 1442695040888963407)) 45)) 255) + x1 : Nat) : Int) 255 (by decide)
         refine x_normal (wp_region_lit (l_op (f_mv F68 rfl rfl rfl rfl rfl fun _ F70 => ?_)))
         refine l_op (f_mv F70 rfl rfl rfl rfl rfl fun _ F71 => ?_)
         refine l_op (f_val F71 rfl rfl (r_nilCheck rfl (F71.ev 50 rfl)) rfl fun _ F72 => ?_)
         refine l_op (f_val F72 rfl rfl (r_field FI_57_1 rfl (F72.ev 51 rfl) rfl) rfl fun _ F73 => ?_)
         refine l_op (f_val (v := .int .i64 ((c.pos : Nat) : Int)) F73 rfl rfl (r_loadB S68.at' 0 TI_3 rfl rfl (F73.ev 52 rfl) rfl rfl (fun _ => rfl) rfl) rfl fun _ F74 => ?_)
         refine l_op (f_val F74 rfl rfl (r_add (z := ((c.pos + 1 : Nat) : Int)) rfl (F74.ev 53 rfl) rfl (by first | rfl | omega) ⟨by first | omega | (unfold i64ok at *; omega), by first | omega | (unfold i64ok at *; omega)⟩) rfl fun _ F75 => ?_)
         refine l_op (f_val F75 rfl rfl (r_nilCheck rfl (F75.ev 49 rfl)) rfl fun _ F76 => ?_)
         refine l_op (f_val F76 rfl rfl (r_field FI_57_1 rfl (F76.ev 55 rfl) rfl) rfl fun _ F77 => ?_)
         refine l_op (s_store S68.at' 0 TI_3 rfl rfl rfl rfl rfl (F77.ev 56 rfl) (F77.ev 54 rfl) rfl rfl rfl rfl rfl fun w78 S78 => ?_)
         have F79 : Fr 58 [(56, .pointer (some ⟨c_b, 1, none⟩)), (54, .int .i64 ((c.pos + 1 : Nat) : Int)), (3, .int .i64 ((andN (((andN (xorI (shrI (w64 ((w64 (c.h * 6364136223846793005)) + 1442695040888963407)) 33) (shrI (w64 ((w64 (c.h * 6364136223846793005)) + 1442695040888963407)) 45)) 255) + x1 : Nat) : Int) 255 : Nat) : Int))] _ := F77.cut rfl
         clear F68 F70 F71 F72 F73 F74 F75 F76 F77
         have T80 : Mv _ _ [bx c_b [.slice c_code_a c_code_n c_code_c, .int .i64 ((c.pos + 1 : Nat) : Int), .int .i64 (w64 ((w64 (c.h * 6364136223846793005)) + 1442695040888963407))] 57] _ := S78
         refine s_end (x_normal (wp_seq (wp_region_lit (l_op (f_mv F79 rfl rfl rfl rfl rfl fun _ F81 => ?_)))))
         refine l_op (f_as F81 rfl rfl rfl rfl rfl fun _ F82 => ?_)
         have F83 : Fr 58 [(2, .int .i64 ((andN (((andN (xorI (shrI (w64 ((w64 (c.h * 6364136223846793005)) + 1442695040888963407)) 33) (shrI (w64 ((w64 (c.h * 6364136223846793005)) + 1442695040888963407)) 45)) 255) + x1 : Nat) : Int) 255 : Nat) : Int))] _ := F82.cut rfl
         clear F79 F81 F82
         refine s_end (x_normal (wp_ret ?_))
         refine x_done (v := .int .i64 ((andN (((andN (xorI (shrI (w64 ((w64 (c.h * 6364136223846793005)) + 1442695040888963407)) 33) (shrI (w64 ((w64 (c.h * 6364136223846793005)) + 1442695040888963407)) 45)) 255) + x1 : Nat) : Int) 255 : Nat) : Int)) F83 (results_1 Tryd.results31 (.tmp (F83.ev 2 rfl))) ?_
         exact ⟨c.pos + 1, (w64 ((w64 (c.h * 6364136223846793005)) + 1442695040888963407)), andN (((andN (xorI (shrI (w64 ((w64 (c.h * 6364136223846793005)) + 1442695040888963407)) 33) (shrI (w64 ((w64 (c.h * 6364136223846793005)) + 1442695040888963407)) 45)) 255) + x1 : Nat) : Int) 255, rfl, (Mv.pick (T14.trans (S31.trans (S45.trans (S68.trans T80)))) [0] rfl), by first | assumption | exact w64_ok _ | omega | (unfold i64ok; omega), by first | assumption | exact w64_ok _ | omega | (unfold i64ok; omega), by first | assumption | exact w64_ok _ | omega | (unfold i64ok; omega)⟩
     · skip
       refine wp_skip (x_normal (wp_seq (wp_region_lit (l_op (f_mv F45 rfl rfl rfl rfl rfl fun _ F84 => ?_)))))
       refine l_op (f_as F84 rfl rfl rfl rfl rfl fun _ F85 => ?_)
       have F86 : Fr 58 [(2, .int .i64 ((andN (xorI (shrI (w64 ((w64 (c.h * 6364136223846793005)) + 1442695040888963407)) 33) (shrI (w64 ((w64 (c.h * 6364136223846793005)) + 1442695040888963407)) 45)) 255 : Nat) : Int))] _ := F85.cut rfl
       clear F45 F84 F85
       refine s_end (x_normal (wp_ret ?_))
       refine x_done (v := .int .i64 ((andN (xorI (shrI (w64 ((w64 (c.h * 6364136223846793005)) + 1442695040888963407)) 33) (shrI (w64 ((w64 (c.h * 6364136223846793005)) + 1442695040888963407)) 45)) 255 : Nat) : Int)) F86 (results_1 Tryd.results31 (.tmp (F86.ev 2 rfl))) ?_
       exact ⟨c.pos, (w64 ((w64 (c.h * 6364136223846793005)) + 1442695040888963407)), andN (xorI (shrI (w64 ((w64 (c.h * 6364136223846793005)) + 1442695040888963407)) 33) (shrI (w64 ((w64 (c.h * 6364136223846793005)) + 1442695040888963407)) 45)) 255, rfl, (Mv.pick (T14.trans (S31.trans S45)) [0] rfl), by first | assumption | exact w64_ok _ | omega | (unfold i64ok; omega), by first | assumption | exact w64_ok _ | omega | (unfold i64ok; omega), by first | assumption | exact w64_ok _ | omega | (unfold i64ok; omega)⟩
theorem spec_l01Below_c {w : World} {H : Nat → Prop} {c : CurD} {c_code_a : Option Addr} {c_code_n c_code_c : Nat} {c_b : Nat} {n : Int} (v_c_code : RdA 1 encB okB H w (.slice c_code_a c_code_n c_code_c) c.code) (h_c_pos : i64ok (c.pos : Int)) (h_c_h : i64ok c.h) (h_n : i64ok n) (p0 : c.pos ≤ c_code_n) (hA : At w [bx c_b [.slice c_code_a c_code_n c_code_c, .int .i64 ((c.pos : Nat) : Int), .int .i64 c.h] 57]) (hD : ∀ b, H b → ¬ fps [bx c_b [.slice c_code_a c_code_n c_code_c, .int .i64 ((c.pos : Nat) : Int), .int .i64 c.h] 57] b) :
    Calls Tryd.prog 20 #[.pointer (some ⟨c_b, 0, none⟩), .int .i64 n] w fun e w' => ∃ (i2 : Nat), ∃ (h2 : Int), ∃ (r : Nat), e = .returned (.int .i64 ((r : Nat) : Int)) ∧ Mv [bx c_b [.slice c_code_a c_code_n c_code_c, .int .i64 ((c.pos : Nat) : Int), .int .i64 c.h] 57] w [bx c_b [.slice c_code_a c_code_n c_code_c, .int .i64 ((i2 : Nat) : Int), .int .i64 h2] 57] w' ∧ i2 ≤ c_code_n ∧ i64ok h2 ∧ ((0 : Int) < n → (r : Int) < n) ∧ (n ≤ (0 : Int) → r = 0) := by
 have uU : True := (fun _ _ _ _ => trivial) h_c_pos h_c_h h_n p0
 clear uU
 have V_v_c_code : RdA 1 encB okB (V H w [bx c_b [.slice c_code_a c_code_n c_code_c, .int .i64 ((c.pos : Nat) : Int), .int .i64 c.h] 57]) w (.slice c_code_a c_code_n c_code_c) c.code := RdA.start v_c_code hD
 obtain ⟨ln_c_code, le_c_code, mx_c_code, ni_c_code⟩ := RdA.inv v_c_code
 refine calls_enter 37 Tryd.func20 rfl Tryd.ntmps20 (Nat.le_of_ble_eq_true rfl) (fun _ F0i => ?_)
 have F0 : Fr 37 [(0, .pointer (some ⟨c_b, 0, none⟩)), (1, .int .i64 n)] _ := F0i
 clear F0i
 refine wp_seq (wp_region_lit (l_op (f_val F0 rfl rfl (r_assign rfl rfl) rfl fun _ F1 => ?_)))
 have F2 : Fr 37 [(4, .int .i64 0), (0, .pointer (some ⟨c_b, 0, none⟩)), (1, .int .i64 n)] _ := F1.cut rfl
 clear F0 F1
 refine s_end (x_normal (wp_seq (wp_seq (wp_region_lit (l_op (f_mv F2 rfl rfl rfl rfl rfl fun _ F3 => ?_))))))
 refine l_op (f_val F3 rfl rfl (r_cmp (b := decide (n ≤ 0)) (.inr (.inr (.inr (.inl rfl)))) rfl (F3.ev 9 rfl) rfl (dec_of (by omega))) rfl fun _ F4 => ?_)
 have F5 : Fr 37 [(10, .bool (decide (n ≤ 0))), (0, .pointer (some ⟨c_b, 0, none⟩)), (1, .int .i64 n)] _ := F4.cut rfl
 clear F2 F3 F4
 refine s_end (x_normal (x_cond (p := n ≤ 0) (F5.ev 10 rfl) (fun h6 => ?_) (fun h6 => ?_)))
 · skip
   refine wp_seq (wp_region_lit (l_op (f_val F5 rfl rfl (r_assign rfl rfl) rfl fun _ F7 => ?_)))
   have F8 : Fr 37 [(4, .int .i64 0)] _ := F7.cut rfl
   clear F5 F7
   refine s_end (x_normal (wp_ret (x_then_ret ?_)))
   refine x_done (v := .int .i64 0) F8 (results_1 Tryd.results20 (.tmp (F8.ev 4 rfl))) ?_
   exact ⟨c.pos, c.h, 0, rfl, (Mv.pick (Mv.refl hA) [0] rfl), by first | assumption | exact w64_ok _ | omega | (unfold i64ok; omega), by first | assumption | exact w64_ok _ | omega | (unfold i64ok; omega), by omega, by omega⟩
 · skip
   refine wp_skip (x_normal (wp_seq (wp_seq (wp_region_lit (l_op (f_mv F5 rfl rfl rfl rfl rfl fun _ F9 => ?_))))))
   refine l_op (f_val F9 rfl rfl (r_cmp (b := decide (n ≤ 256)) (.inr (.inr (.inr (.inl rfl)))) rfl (F9.ev 11 rfl) rfl (dec_of (by omega))) rfl fun _ F10 => ?_)
   have F11 : Fr 37 [(12, .bool (decide (n ≤ 256))), (0, .pointer (some ⟨c_b, 0, none⟩)), (1, .int .i64 n)] _ := F10.cut rfl
   clear F5 F9 F10
   refine s_end (x_normal (x_cond (p := n ≤ 256) (F11.ev 12 rfl) (fun h12 => ?_) (fun h12 => ?_)))
   · skip
     refine wp_seq (wp_region_lit (l_op (f_mv F11 rfl rfl rfl rfl rfl fun _ F13 => ?_)))
     refine l_op (f_call F13 CF_31 rfl rfl rfl rfl (lc (F13.ev 13 rfl) rfl) (spec_l01Byte_c (c := c) V_v_c_code (by unfold i64ok; (try dsimp only); omega) (by first | assumption | exact w64_ok _ | exact ⟨by omega, by omega⟩ | (unfold i64ok at *; omega)) (by first | assumption | omega | (simp <;> omega)) (At.pick (is := [0]) hA rfl) (V_off (is := [0]))) ?_)
     rintro _ w14 ⟨i2_14, h2_14, r_14, rfl, m14, q14_0, q14_1, q14_2⟩
     refine ⟨_, rfl, fun _ F15 => ?_⟩
     have S14 : Mv _ _ [bx c_b [.slice c_code_a c_code_n c_code_c, .int .i64 ((i2_14 : Nat) : Int), .int .i64 h2_14] 57] _ := At.frame hA [0] rfl m14
     clear m14
     refine l_op (f_mv F15 rfl rfl rfl rfl rfl fun _ F16 => ?_)
     have rm17 := Nat.mod_lt r_14 (show 0 < (n).toNat by omega)
     refine l_op (f_val F16 rfl rfl (r_remN (by omega) rfl (F16.ev 14 rfl) (F16.ev 15 rfl)) rfl fun _ F18 => ?_)
     refine l_op (f_as F18 rfl rfl rfl rfl rfl fun _ F19 => ?_)
     have F20 : Fr 37 [(4, .int .i64 ((r_14 % (n).toNat : Nat) : Int))] _ := F19.cut rfl
     clear F11 F13 F15 F16 F18 F19
     refine s_end (x_normal (wp_ret (x_then_ret ?_)))
     refine x_done (v := .int .i64 ((r_14 % (n).toNat : Nat) : Int)) F20 (results_1 Tryd.results20 (.tmp (F20.ev 4 rfl))) ?_
     exact ⟨i2_14, h2_14, r_14 % (n).toNat, rfl, (Mv.pick S14 [0] rfl), by first | assumption | exact w64_ok _ | omega | (unfold i64ok; omega), by first | assumption | exact w64_ok _ | omega | (unfold i64ok; omega), by omega, by omega⟩
   · skip
     refine wp_skip (x_normal (wp_seq (wp_region_lit (l_op (f_mv F11 rfl rfl rfl rfl rfl fun _ F21 => ?_)))))
     refine l_op (f_call F21 CF_31 rfl rfl rfl rfl (lc (F21.ev 17 rfl) rfl) (spec_l01Byte_c (c := c) V_v_c_code (by unfold i64ok; (try dsimp only); omega) (by first | assumption | exact w64_ok _ | exact ⟨by omega, by omega⟩ | (unfold i64ok at *; omega)) (by first | assumption | omega | (simp <;> omega)) (At.pick (is := [0]) hA rfl) (V_off (is := [0]))) ?_)
     rintro _ w22 ⟨i2_22, h2_22, r_22, rfl, m22, q22_0, q22_1, q22_2⟩
     refine ⟨_, rfl, fun _ F23 => ?_⟩
     have S22 : Mv _ _ [bx c_b [.slice c_code_a c_code_n c_code_c, .int .i64 ((i2_22 : Nat) : Int), .int .i64 h2_22] 57] _ := At.frame hA [0] rfl m22
     clear m22
     refine l_op (f_as F23 rfl rfl rfl rfl rfl fun _ F24 => ?_)
     have F25 : Fr 37 [(5, .int .i64 ((r_22 : Nat) : Int)), (0, .pointer (some ⟨c_b, 0, none⟩)), (1, .int .i64 n)] _ := F24.cut rfl
     clear F11 F21 F23 F24
     refine s_end (x_normal (wp_seq (wp_region_lit (l_op (f_mv F25 rfl rfl rfl rfl rfl fun _ F26 => ?_)))))
     refine l_op (f_call F26 CF_31 rfl rfl rfl rfl (lc (F26.ev 19 rfl) rfl) (spec_l01Byte_c (c := (⟨c.code, i2_22, h2_22⟩ : CurD)) (RdA.mv (Nat.succ_pos _) V_v_c_code S22) (by unfold i64ok; (try dsimp only); omega) (by first | assumption | exact w64_ok _ | exact ⟨by omega, by omega⟩ | (unfold i64ok at *; omega)) (by first | assumption | omega | (simp <;> omega)) (At.pick (is := [0]) S22.at' rfl) (V_off (is := [0]))) ?_)
     rintro _ w27 ⟨i2_27, h2_27, r_27, rfl, m27, q27_0, q27_1, q27_2⟩
     refine ⟨_, rfl, fun _ F28 => ?_⟩
     have S27 : Mv _ _ [bx c_b [.slice c_code_a c_code_n c_code_c, .int .i64 ((i2_27 : Nat) : Int), .int .i64 h2_27] 57] _ := At.frame S22.at' [0] rfl m27
     clear m27
     refine l_op (f_as F28 rfl rfl rfl rfl rfl fun _ F29 => ?_)
     have F30 : Fr 37 [(6, .int .i64 ((r_27 : Nat) : Int)), (5, .int .i64 ((r_22 : Nat) : Int)), (0, .pointer (some ⟨c_b, 0, none⟩)), (1, .int .i64 n)] _ := F29.cut rfl
     clear F25 F26 F28 F29
     refine s_end (x_normal (wp_seq (wp_region_lit (l_op (f_mv F30 rfl rfl rfl rfl rfl fun _ F31 => ?_)))))
     refine l_op (f_call F31 CF_31 rfl rfl rfl rfl (lc (F31.ev 21 rfl) rfl) (spec_l01Byte_c (c := (⟨c.code, i2_27, h2_27⟩ : CurD)) (RdA.mv (Nat.succ_pos _) V_v_c_code (S22.trans S27)) (by unfold i64ok; (try dsimp only); omega) (by first | assumption | exact w64_ok _ | exact ⟨by omega, by omega⟩ | (unfold i64ok at *; omega)) (by first | assumption | omega | (simp <;> omega)) (At.pick (is := [0]) S27.at' rfl) (V_off (is := [0]))) ?_)
     rintro _ w32 ⟨i2_32, h2_32, r_32, rfl, m32, q32_0, q32_1, q32_2⟩
     refine ⟨_, rfl, fun _ F33 => ?_⟩
     have S32 : Mv _ _ [bx c_b [.slice c_code_a c_code_n c_code_c, .int .i64 ((i2_32 : Nat) : Int), .int .i64 h2_32] 57] _ := At.frame S27.at' [0] rfl m32
     clear m32
     refine l_op (f_as F33 rfl rfl rfl rfl rfl fun _ F34 => ?_)
     have F35 : Fr 37 [(7, .int .i64 ((r_32 : Nat) : Int)), (6, .int .i64 ((r_27 : Nat) : Int)), (5, .int .i64 ((r_22 : Nat) : Int)), (0, .pointer (some ⟨c_b, 0, none⟩)), (1, .int .i64 n)] _ := F34.cut rfl
     clear F30 F31 F33 F34
     refine s_end (x_normal (wp_seq (wp_region_lit (l_op (f_mv F35 rfl rfl rfl rfl rfl fun _ F36 => ?_)))))
     refine l_op (f_call F36 CF_31 rfl rfl rfl rfl (lc (F36.ev 23 rfl) rfl) (spec_l01Byte_c (c := (⟨c.code, i2_32, h2_32⟩ : CurD)) (RdA.mv (Nat.succ_pos _) V_v_c_code (S22.trans (S27.trans S32))) (by unfold i64ok; (try dsimp only); omega) (by first | assumption | exact w64_ok _ | exact ⟨by omega, by omega⟩ | (unfold i64ok at *; omega)) (by first | assumption | omega | (simp <;> omega)) (At.pick (is := [0]) S32.at' rfl) (V_off (is := [0]))) ?_)
     rintro _ w37 ⟨i2_37, h2_37, r_37, rfl, m37, q37_0, q37_1, q37_2⟩
     refine ⟨_, rfl, fun _ F38 => ?_⟩
     have S37 : Mv _ _ [bx c_b [.slice c_code_a c_code_n c_code_c, .int .i64 ((i2_37 : Nat) : Int), .int .i64 h2_37] 57] _ := At.frame S32.at' [0] rfl m37
     clear m37
     refine l_op (f_as F38 rfl rfl rfl rfl rfl fun _ F39 => ?_)
     have F40 : Fr 37 [(8, .int .i64 ((r_37 : Nat) : Int)), (7, .int .i64 ((r_32 : Nat) : Int)), (6, .int .i64 ((r_27 : Nat) : Int)), (5, .int .i64 ((r_22 : Nat) : Int)), (1, .int .i64 n)] _ := F39.cut rfl
     clear F35 F36 F38 F39
     refine s_end (x_normal (wp_seq (wp_region_lit (l_op (f_mv F40 rfl rfl rfl rfl rfl fun _ F41 => ?_)))))
     refine l_op (f_val F41 rfl rfl (r_mul (z := ((r_22 * 16777216 : Nat) : Int)) rfl (F41.ev 25 rfl) rfl (by first | rfl | omega) ⟨by first | omega | (unfold i64ok at *; omega), by first | omega | (unfold i64ok at *; omega)⟩) rfl fun _ F42 => ?_)
     refine l_op (f_mv F42 rfl rfl rfl rfl rfl fun _ F43 => ?_)
     refine l_op (f_val F43 rfl rfl (r_mul (z := ((r_27 * 65536 : Nat) : Int)) rfl (F43.ev 27 rfl) rfl (by first | rfl | omega) ⟨by first | omega | (unfold i64ok at *; omega), by first | omega | (unfold i64ok at *; omega)⟩) rfl fun _ F44 => ?_)
     refine l_op (f_val F44 rfl rfl (r_add (z := (((r_22 * 16777216) + (r_27 * 65536) : Nat) : Int)) rfl (F44.ev 26 rfl) (F44.ev 28 rfl) (by first | rfl | omega) ⟨by first | omega | (unfold i64ok at *; omega), by first | omega | (unfold i64ok at *; omega)⟩) rfl fun _ F45 => ?_)
     refine l_op (f_mv F45 rfl rfl rfl rfl rfl fun _ F46 => ?_)
     refine l_op (f_val F46 rfl rfl (r_mul (z := ((r_32 * 256 : Nat) : Int)) rfl (F46.ev 30 rfl) rfl (by first | rfl | omega) ⟨by first | omega | (unfold i64ok at *; omega), by first | omega | (unfold i64ok at *; omega)⟩) rfl fun _ F47 => ?_)
     refine l_op (f_val F47 rfl rfl (r_add (z := ((((r_22 * 16777216) + (r_27 * 65536)) + (r_32 * 256) : Nat) : Int)) rfl (F47.ev 29 rfl) (F47.ev 31 rfl) (by first | rfl | omega) ⟨by first | omega | (unfold i64ok at *; omega), by first | omega | (unfold i64ok at *; omega)⟩) rfl fun _ F48 => ?_)
     refine l_op (f_mv F48 rfl rfl rfl rfl rfl fun _ F49 => ?_)
     refine l_op (f_val F49 rfl rfl (r_add (z := (((((r_22 * 16777216) + (r_27 * 65536)) + (r_32 * 256)) + r_37 : Nat) : Int)) rfl (F49.ev 32 rfl) (F49.ev 33 rfl) (by first | rfl | omega) ⟨by first | omega | (unfold i64ok at *; omega), by first | omega | (unfold i64ok at *; omega)⟩) rfl fun _ F50 => ?_)
     refine l_op (f_mv F50 rfl rfl rfl rfl rfl fun _ F51 => ?_)
     have rm52 := Nat.mod_lt ((((r_22 * 16777216) + (r_27 * 65536)) + (r_32 * 256)) + r_37) (show 0 < (n).toNat by omega)
     refine l_op (f_val F51 rfl rfl (r_remN (by omega) rfl (F51.ev 34 rfl) (F51.ev 35 rfl)) rfl fun _ F53 => ?_)
     refine l_op (f_as F53 rfl rfl rfl rfl rfl fun _ F54 => ?_)
     have F55 : Fr 37 [(4, .int .i64 ((((((r_22 * 16777216) + (r_27 * 65536)) + (r_32 * 256)) + r_37) % (n).toNat : Nat) : Int))] _ := F54.cut rfl
     clear F40 F41 F42 F43 F44 F45 F46 F47 F48 F49 F50 F51 F53 F54
     refine s_end (x_normal (wp_ret ?_))
     refine x_done (v := .int .i64 ((((((r_22 * 16777216) + (r_27 * 65536)) + (r_32 * 256)) + r_37) % (n).toNat : Nat) : Int)) F55 (results_1 Tryd.results20 (.tmp (F55.ev 4 rfl))) ?_
     exact ⟨i2_37, h2_37, ((((r_22 * 16777216) + (r_27 * 65536)) + (r_32 * 256)) + r_37) % (n).toNat, rfl, (Mv.pick (S22.trans (S27.trans (S32.trans S37))) [0] rfl), by first | assumption | exact w64_ok _ | omega | (unfold i64ok; omega), by first | assumption | exact w64_ok _ | omega | (unfold i64ok; omega), by omega, by omega⟩
theorem spec_DrawPlaces_c {w : World} {H : Nat → Prop} {code : List Nat} {code_a : Option Addr} {code_n code_c : Nat} (v_code : RdA 1 encB okB H w (.slice code_a code_n code_c) code) (p0 : code_n ≤ 1048576) :
    Calls Tryd.prog 8 #[.slice code_a code_n code_c] w fun e w' => ∃ (p : List Int), ∃ (r0_a : Option Addr), ∃ (r0_n : Nat), ∃ (r0_c : Nat), e = .returned (.slice r0_a r0_n r0_c) ∧ Mv [] w [] w' ∧ Rd 1 encI okI (Fsh H w) w' (.slice r0_a r0_n r0_c) p ∧ p.length = 12 ∧ pOk p := by
 have uU : True := (fun _ => trivial) p0
 clear uU
 have V_v_code : RdA 1 encB okB (V H w []) w (.slice code_a code_n code_c) code := RdA.start v_code (fun _ _ => fps_nil _)
 obtain ⟨ln_code, le_code, mx_code, ni_code⟩ := RdA.inv v_code
 refine calls_enter 19 Tryd.func8 rfl Tryd.ntmps8 (Nat.le_of_ble_eq_true rfl) (fun _ F0i => ?_)
 have F0 : Fr 19 [(0, .slice code_a code_n code_c)] _ := F0i
 clear F0i
 refine wp_seq (wp_region_lit (l_op (f_val F0 rfl rfl (r_assign rfl rfl) rfl fun _ F1 => ?_)))
 have F2 : Fr 19 [(2, .slice none 0 0), (0, .slice code_a code_n code_c)] _ := F1.cut rfl
 clear F0 F1
 refine s_end (x_normal (wp_seq (wp_region_lit (l_op (f_mv F2 rfl rfl rfl rfl rfl fun _ F3 => ?_)))))
 refine l_op (f_call F3 CF_19 rfl rfl rfl rfl (lc (F3.ev 6 rfl) rfl) (spec_l01New_c (code := code) V_v_code (by first | assumption | omega | (simp <;> omega))) ?_)
 rintro _ w4 ⟨h2_4, r0_b_4, rfl, m4, q4_0⟩
 refine ⟨_, rfl, fun _ F5 => ?_⟩
 have S4 : Mv _ _ [bx r0_b_4 [.slice code_a code_n code_c, .int .i64 ((0 : Nat) : Int), .int .i64 h2_4] 57] _ := At.frame (At.nil w) [] rfl m4
 clear m4
 refine l_op (f_as F5 rfl rfl rfl rfl rfl fun _ F6 => ?_)
 have F7 : Fr 19 [(3, .pointer (some ⟨r0_b_4, 0, none⟩))] _ := F6.cut rfl
 clear F2 F3 F5 F6
 refine s_end (x_normal (wp_seq (wp_region_lit (l_op (f_buildSl (ok := okI) (vs := []) F7 S4.at' (([] : List Int)) ET_24 rfl rfl rfl rfl rfl rfl rfl rfl rfl (by simp) fun b8 _ w8 F9 S8 => ?_)))))
 refine l_op (f_as F9 rfl rfl rfl rfl rfl fun _ F10 => ?_)
 have F11 : Fr 19 [(4, .slice (some ⟨b8, 0, none⟩) 0 0), (3, .pointer (some ⟨r0_b_4, 0, none⟩))] _ := F10.cut rfl
 clear F7 F9 F10
 have T12 : Mv _ _ [ow 3 1 encI okI (.slice (some ⟨b8, 0, none⟩) 0 0) ([] : List Int), bx r0_b_4 [.slice code_a code_n code_c, .int .i64 ((0 : Nat) : Int), .int .i64 h2_4] 57] _ := S8
 refine s_end (x_normal (wp_seq (wp_seq (wp_region_lit (l_op (f_val F11 rfl rfl (r_assign rfl rfl) rfl fun _ F13 => ?_))))))
 have F14 : Fr 19 [(5, .int .i64 0), (4, .slice (some ⟨b8, 0, none⟩) 0 0), (3, .pointer (some ⟨r0_b_4, 0, none⟩))] _ := F13.cut rfl
 clear F11 F13
 refine s_end (x_normal (wp_block ?_))
 refine x_loop (fun (k : Nat) aZ wZ => ∃ (pp : Nat), ∃ (hh : Int), ∃ (D : List Int), ∃ (oa : Option Addr), ∃ (on : Nat), ∃ (oc : Nat), Fr 19 [(5, .int .i64 ((k : Nat) : Int)), (4, .slice oa on oc), (3, .pointer (some ⟨r0_b_4, 0, none⟩))] aZ ∧ Mv [ow 3 1 encI okI (.slice (some ⟨b8, 0, none⟩) 0 0) ([] : List Int), bx r0_b_4 [.slice code_a code_n code_c, .int .i64 ((0 : Nat) : Int), .int .i64 h2_4] 57] w8 [ow 3 1 encI okI (.slice oa on oc) D, bx r0_b_4 [.slice code_a code_n code_c, .int .i64 ((pp : Nat) : Int), .int .i64 hh] 57] wZ ∧ (pp ≤ code_n) ∧ (i64ok hh) ∧ (D.length = k) ∧ (pOk D) ∧ (k ≤ 12)) (fun (k : Nat) => 12 - k) (0) ?_ ?_
 · exact ⟨0, h2_4, ([] : List Int), (some ⟨b8, 0, none⟩), 0, 0, F14.cut rfl, (Mv.refl T12.at'), by omega, by assumption, rfl, pOk_nil, by omega⟩
 · rintro k a15 w15 ⟨pp, hh, D, oa, on, oc, F15, S15, hk_0, hk_1, hk_2, hk_3, hk_4⟩
   refine wp_seq (wp_seq (wp_region_lit (l_op (f_mv F15 rfl rfl rfl rfl rfl fun _ F16 => ?_))))
   refine l_op (f_val F16 rfl rfl (r_cmp (b := decide (k < 12)) (.inr (.inr (.inl rfl))) rfl (F16.ev 9 rfl) rfl (dec_of (by omega))) rfl fun _ F17 => ?_)
   have F18 : Fr 19 [(10, .bool (decide (k < 12))), (5, .int .i64 ((k : Nat) : Int)), (4, .slice oa on oc), (3, .pointer (some ⟨r0_b_4, 0, none⟩))] _ := F17.cut rfl
   clear F15 F16 F17
   refine s_end (x_normal (x_cond (p := k < 12) (F18.ev 10 rfl) (fun h19 => ?_) (fun h19 => ?_)))
   · skip
     refine wp_skip (x_normal (wp_seq (wp_block (wp_region_lit (l_op (f_mv F18 rfl rfl rfl rfl rfl fun _ F20 => ?_))))))
     refine l_op (f_mv F20 rfl rfl rfl rfl rfl fun _ F21 => ?_)
     refine l_op (f_call F21 CF_20 rfl rfl rfl rfl (lc (F21.ev 14 rfl) (lc rfl rfl)) (spec_l01Below_c (c := (⟨code, pp, hh⟩ : CurD)) (n := 10000) (RdA.mv (Nat.succ_pos _) V_v_code (S4.trans (T12.trans S15))) (by unfold i64ok; (try dsimp only); omega) (by first | assumption | exact w64_ok _ | exact ⟨by omega, by omega⟩ | (unfold i64ok at *; omega)) (by first | assumption | exact ⟨by omega, by omega⟩ | (unfold i64ok at *; omega)) (by first | assumption | omega | (simp <;> omega)) (At.pick (is := [1]) S15.at' rfl) (V_off (is := [1]))) ?_)
     rintro _ w22 ⟨i2_22, h2_22, r_22, rfl, m22, q22_0, q22_1, q22_2, q22_3⟩
     refine ⟨_, rfl, fun _ F23 => ?_⟩
     have S22 : Mv _ _ [bx r0_b_4 [.slice code_a code_n code_c, .int .i64 ((i2_22 : Nat) : Int), .int .i64 h2_22] 57, ow 3 1 encI okI (.slice oa on oc) D] _ := At.frame S15.at' [1] rfl m22
     clear m22
     refine l_op (f_buildSl (ok := okI) (vs := [.int .i64 ((r_22 : Nat) : Int)]) F23 S22.at' ([((r_22 : Nat) : Int)]) ET_24 rfl rfl rfl rfl rfl rfl (lc (pr2 (F23.ev 15 rfl)) rfl) rfl rfl (fun x hx => (List.mem_singleton.1 hx) ▸ ⟨by omega, by omega⟩) fun b24 _ w24 F25 S24 => ?_)
     refine l_op (f_app (news := [((r_22 : Nat) : Int)]) F25 S24.at' 2 ET_24 rfl rfl rfl rfl rfl rfl (F25.ev 13 rfl) (F25.ev 16 rfl) ((At.rd S24.at' ET_24.hk 0 rfl)).1 (by ((repeat (first | rw [List.length_append] | rw [List.length_cons] | rw [List.length_nil] | rw [List.length_take] | rw [List.length_drop])) <;> omega)) fun A26 N26 C26 _ w26 F27 S26 l26 => ?_)
     have S28 := At.drop S26.at' 1
     refine l_op (f_as F27 rfl rfl rfl rfl rfl fun _ F29 => ?_)
     have F30 : Fr 19 [(4, .slice A26 N26 C26), (5, .int .i64 ((k : Nat) : Int)), (3, .pointer (some ⟨r0_b_4, 0, none⟩))] _ := F29.cut rfl
     clear F18 F20 F21 F23 F25 F27 F29
     have T31 : Mv _ _ [ow 3 1 encI okI (.slice A26 N26 C26) (D ++ ([((r_22 : Nat) : Int)])), bx r0_b_4 [.slice code_a code_n code_c, .int .i64 ((i2_22 : Nat) : Int), .int .i64 h2_22] 57] _ := S28
     refine s_end (x_block_normal (x_normal (wp_region_lit (l_op (f_mv F30 rfl rfl rfl rfl rfl fun _ F32 => ?_)))))
     refine l_op (f_val F32 rfl rfl (r_add (z := ((k + 1 : Nat) : Int)) rfl (F32.ev 11 rfl) rfl (by first | rfl | omega) ⟨by first | omega | (unfold i64ok at *; omega), by first | omega | (unfold i64ok at *; omega)⟩) rfl fun _ F33 => ?_)
     refine l_op (f_as F33 rfl rfl rfl rfl rfl fun _ F34 => ?_)
     have F35 : Fr 19 [(5, .int .i64 ((k + 1 : Nat) : Int)), (4, .slice A26 N26 C26), (3, .pointer (some ⟨r0_b_4, 0, none⟩))] _ := F34.cut rfl
     clear F30 F32 F33 F34
     refine s_end ?_
     refine x_normal ⟨k + 1, by omega, i2_22, h2_22, D ++ ([((r_22 : Nat) : Int)]), A26, N26, C26, F35.cut rfl, ((S15.trans (S22.trans (S24.trans (S26.trans T31)))).pick [0, 1] rfl), by omega, by assumption, by rw [List.length_append, List.length_singleton]; omega, pOk_snoc (by assumption) (by omega), by omega⟩
   · skip
     refine wp_exit (x_then_exit (x_then_exit (x_block_here (x_normal (wp_seq (wp_region_lit (l_op (f_mv F18 rfl rfl rfl rfl rfl fun _ F36 => ?_))))))))
     refine l_op (f_as F36 rfl rfl rfl rfl rfl fun _ F37 => ?_)
     have F38 : Fr 19 [(2, .slice oa on oc)] _ := F37.cut rfl
     clear F18 F36 F37
     refine s_end (x_normal (wp_ret ?_))
     have Z39 : Rd 1 encI okI (V H w [bx r0_b_4 [.slice code_a code_n code_c, .int .i64 ((pp : Nat) : Int), .int .i64 hh] 57]) w15 (.slice oa on oc) D := At.freeze (S4.trans (T12.trans S15)) ET_24.hk 0 rfl (fun b hb => ((S4.trans (T12.trans S15)).fresh b ⟨_, nth_mem (i := 0) rfl, hb⟩).resolve_left (fps_nil _))
     have S39 := At.drop S15.at' 0
     refine x_done (v := .slice oa on oc) F38 (results_1 Tryd.results8 (.tmp (F38.ev 2 rfl))) ?_
     exact ⟨D, oa, on, oc, rfl, (Mv.pick (S4.trans (T12.trans (S15.trans S39))) [] rfl), (Rd.give Z39), by omega, by assumption⟩
theorem spec_MachOf_c {w : World} {H : Nat → Prop} {s : List CellD} {s_a : Option Addr} {s_n s_c : Nat} (v_s : Rd 2 encC okC H w (.slice s_a s_n s_c) s) (p0 : s_n ≤ 274877906944) :
    Calls Tryd.prog 23 #[.slice s_a s_n s_c] w fun e w' => ∃ (r0_store_a : Option Addr), ∃ (r0_store_n : Nat), ∃ (r0_store_c : Nat), ∃ (r0_touch_reads_a : Option Addr), ∃ (r0_touch_reads_n : Nat), ∃ (r0_touch_reads_c : Nat), ∃ (r0_touch_writes_a : Option Addr), ∃ (r0_touch_writes_n : Nat), ∃ (r0_touch_writes_c : Nat), e = .returned (.agg #[.slice r0_store_a r0_store_n r0_store_c, .slice r0_touch_reads_a r0_touch_reads_n r0_touch_reads_c, .slice r0_touch_writes_a r0_touch_writes_n r0_touch_writes_c]) ∧ Mv [] w [] w' ∧ Rd 2 encC okC (Fsh H w) w' (.slice r0_store_a r0_store_n r0_store_c) s ∧ Rd 1 encS okS (Fsh H w) w' (.slice r0_touch_reads_a r0_touch_reads_n r0_touch_reads_c) ([]) ∧ Rd 1 encS okS (Fsh H w) w' (.slice r0_touch_writes_a r0_touch_writes_n r0_touch_writes_c) ([]) := by
 have uU : True := (fun _ => trivial) p0
 clear uU
 have V_v_s : Rd 2 encC okC (V H w []) w (.slice s_a s_n s_c) s := Rd.start v_s (fun _ _ => fps_nil _)
 obtain ⟨ln_s, le_s, mx_s, ni_s⟩ := Rd.inv v_s
 refine calls_enter 7 Tryd.func23 rfl Tryd.ntmps23 (Nat.le_of_ble_eq_true rfl) (fun _ F0i => ?_)
 have F0 : Fr 7 [(0, .slice s_a s_n s_c)] _ := F0i
 clear F0i
 refine wp_seq (wp_region_lit (l_op (f_alloc F0 (At.nil w) ZI_31 rfl rfl rfl rfl rfl fun b1 _ w1 F2 S1 => ?_)))
 have F3 : Fr 7 [(2, .pointer (some ⟨b1, 0, none⟩)), (0, .slice s_a s_n s_c)] _ := F2.cut rfl
 clear F0 F2
 have T4 : Mv _ _ [bx b1 [.slice none 0 0, .slice none 0 0, .slice none 0 0] 31] _ := S1
 refine s_end (x_normal (wp_seq (wp_region_lit (l_op (f_buildSl (ok := okC) (vs := []) F3 T4.at' (([] : List CellD)) ET_26 rfl rfl rfl rfl rfl rfl rfl rfl rfl (by simp) fun b5 _ w5 F6 S5 => ?_)))))
 refine l_op (f_mv F6 rfl rfl rfl rfl rfl fun _ F7 => ?_)
 refine l_op (f_app (news := s) F7 S5.at' 0 ET_26 rfl rfl rfl rfl rfl rfl (F7.ev 3 rfl) (F7.ev 4 rfl) ((Rd.mv (Nat.succ_pos _) V_v_s (T4.trans S5))).1 (by ((repeat (first | rw [List.length_append] | rw [List.length_cons] | rw [List.length_nil] | rw [List.length_take] | rw [List.length_drop])) <;> omega)) fun A8 N8 C8 _ w8 F9 S8 l8 => ?_)
 refine l_op (f_val (v := .agg #[.slice A8 N8 C8, .slice none 0 0, .slice none 0 0]) F9 rfl rfl (r_build BI_31 rfl (lc (pr2 (F9.ev 5 rfl)) rfl) rfl) rfl fun _ F10 => ?_)
 refine l_op (s_store S8.at' 1 TI_31 rfl rfl rfl rfl rfl (F10.ev 2 rfl) (F10.ev 6 rfl) rfl rfl rfl rfl rfl fun w11 S11 => ?_)
 have F12 : Fr 7 [(6, .agg #[.slice A8 N8 C8, .slice none 0 0, .slice none 0 0]), (2, .pointer (some ⟨b1, 0, none⟩))] _ := F10.cut rfl
 clear F3 F6 F7 F9 F10
 have T13 : Mv _ _ [bx b1 [.slice A8 N8 C8, .slice none 0 0, .slice none 0 0] 31, ow 53 2 encC okC (.slice A8 N8 C8) (([] : List CellD) ++ s)] _ := S11
 refine s_end (x_normal (wp_ret ?_))
 have Z14 : Rd 2 encC okC (V H w [bx b1 [.slice A8 N8 C8, .slice none 0 0, .slice none 0 0] 31]) w11 (.slice A8 N8 C8) (([] : List CellD) ++ s) := At.freeze (T4.trans (S5.trans (S8.trans T13))) ET_26.hk 1 rfl (fun b hb => ((T4.trans (S5.trans (S8.trans T13))).fresh b ⟨_, nth_mem (i := 1) rfl, hb⟩).resolve_left (fps_nil _))
 have S14 := At.drop T13.at' 1
 refine x_done (v := .agg #[.slice A8 N8 C8, .slice none 0 0, .slice none 0 0]) F12 (results_1 Tryd.results23 (.cell (F12.ev 2 rfl) (run_loadVar' TI_31 _ [.slice A8 N8 C8, .slice none 0 0, .slice none 0 0] rfl (fun h => nomatch h) (At.cells T13.at' 0 rfl 0 [.slice A8 N8 C8, .slice none 0 0, .slice none 0 0] rfl)))) ?_
 exact ⟨A8, N8, C8, none, 0, 0, none, 0, 0, rfl, (Mv.pick (T4.trans (S5.trans (S8.trans (T13.trans S14)))) [] rfl), (Rd.cast (Rd.give Z14) (show (([] : List CellD) ++ s) = s from by rfl)), Rd.nil, Rd.nil⟩
theorem laws_big_c {w : World} {H : Nat → Prop} {code : List Nat} {code_a : Option Addr} {code_n code_c : Nat} (v_code : RdA 1 encB okB H w (.slice code_a code_n code_c) code) :
    Calls Tryd.prog 7 #[.slice code_a code_n code_c] w fun e w' => e = .returned (.bool (decide (code.length > 1048576))) ∧ Mv [] w [] w' := by
 have V_v_code : RdA 1 encB okB (V H w []) w (.slice code_a code_n code_c) code := RdA.start v_code (fun _ _ => fps_nil _)
 obtain ⟨ln_code, le_code, mx_code, ni_code⟩ := RdA.inv v_code
 refine calls_enter 6 Tryd.func7 rfl Tryd.ntmps7 (Nat.le_of_ble_eq_true rfl) (fun _ F0i => ?_)
 have F0 : Fr 6 [(0, .slice code_a code_n code_c)] _ := F0i
 clear F0i
 refine wp_seq (wp_region_lit (l_op (f_val F0 rfl rfl (r_assign rfl rfl) rfl fun _ F1 => ?_)))
 have F2 : Fr 6 [(2, .bool false), (0, .slice code_a code_n code_c)] _ := F1.cut rfl
 clear F0 F1
 refine s_end (x_normal (wp_seq (wp_region_lit (l_op (f_mv F2 rfl rfl rfl rfl rfl fun _ F3 => ?_)))))
 refine l_op (f_val F3 rfl rfl (r_len Tryd.underlying22 rfl (F3.ev 3 rfl)) rfl fun _ F4 => ?_)
 refine l_op (f_val F4 rfl rfl (r_cmp (b := decide (code_n > 1048576)) (.inr (.inr (.inr (.inr (.inl rfl))))) rfl (F4.ev 4 rfl) rfl (dec_of (by omega))) rfl fun _ F5 => ?_)
 refine l_op (f_as F5 rfl rfl rfl rfl rfl fun _ F6 => ?_)
 have F7 : Fr 6 [(2, .bool (decide (code_n > 1048576)))] _ := F6.cut rfl
 clear F2 F3 F4 F5 F6
 refine s_end (x_normal (wp_ret ?_))
 refine x_done (v := .bool (decide (code_n > 1048576))) F7 (results_1 Tryd.results7 (.tmp (F7.ev 2 rfl))) ?_
 exact ⟨(by rw [(show (decide (code_n > 1048576)) = (decide (code.length > 1048576)) from by rw [ln_code])]), (Mv.pick (Mv.refl (At.nil w)) [] rfl)⟩
theorem laws_base_c {w : World} {H : Nat → Prop}   :
    Calls Tryd.prog 10 #[] w fun e w' => ∃ (r0_store_a : Option Addr), ∃ (r0_store_n : Nat), ∃ (r0_store_c : Nat), ∃ (r0_touch_reads_a : Option Addr), ∃ (r0_touch_reads_n : Nat), ∃ (r0_touch_reads_c : Nat), ∃ (r0_touch_writes_a : Option Addr), ∃ (r0_touch_writes_n : Nat), ∃ (r0_touch_writes_c : Nat), e = .returned (.agg #[.slice r0_store_a r0_store_n r0_store_c, .slice r0_touch_reads_a r0_touch_reads_n r0_touch_reads_c, .slice r0_touch_writes_a r0_touch_writes_n r0_touch_writes_c]) ∧ Mv [] w [] w' ∧ Rd 2 encC okC (Fsh H w) w' (.slice r0_store_a r0_store_n r0_store_c) ([]) ∧ Rd 1 encS okS (Fsh H w) w' (.slice r0_touch_reads_a r0_touch_reads_n r0_touch_reads_c) ([]) ∧ Rd 1 encS okS (Fsh H w) w' (.slice r0_touch_writes_a r0_touch_writes_n r0_touch_writes_c) ([]) := by
 refine calls_enter 3 Tryd.func10 rfl Tryd.ntmps10 (Nat.le_of_ble_eq_true rfl) (fun _ F0i => ?_)
 have F0 : Fr 3 [] _ := F0i
 clear F0i
 refine wp_seq (wp_region_lit (l_op (f_alloc F0 (At.nil w) ZI_31 rfl rfl rfl rfl rfl fun b1 _ w1 F2 S1 => ?_)))
 have F3 : Fr 3 [(0, .pointer (some ⟨b1, 0, none⟩))] _ := F2.cut rfl
 clear F0 F2
 have T4 : Mv _ _ [bx b1 [.slice none 0 0, .slice none 0 0, .slice none 0 0] 31] _ := S1
 refine s_end (x_normal (wp_seq (wp_region_lit (l_op (f_buildSl (ok := okC) (vs := []) F3 T4.at' (([] : List CellD)) ET_26 rfl rfl rfl rfl rfl rfl rfl rfl rfl (by simp) fun b5 _ w5 F6 S5 => ?_)))))
 have Z8 : Rd 2 encC okC (V H w [bx b1 [.slice none 0 0, .slice none 0 0, .slice none 0 0] 31]) w5 (.slice (some ⟨b5, 0, none⟩) 0 0) ([] : List CellD) := At.freeze (T4.trans S5) ET_26.hk 0 rfl (fun b hb => ((T4.trans S5).fresh b ⟨_, nth_mem (i := 0) rfl, hb⟩).resolve_left (fps_nil _))
 have S8 := At.drop S5.at' 0
 refine l_op (f_call F6 CF_23 rfl rfl rfl rfl (lc (F6.ev 1 rfl) rfl) (spec_MachOf_c (s := ([] : List CellD)) Z8 (by first | assumption | omega | (simp <;> omega))) ?_)
 rintro _ w7 ⟨r0_store_a_7, r0_store_n_7, r0_store_c_7, r0_touch_reads_a_7, r0_touch_reads_n_7, r0_touch_reads_c_7, r0_touch_writes_a_7, r0_touch_writes_n_7, r0_touch_writes_c_7, rfl, m7, v7_0, v7_1, v7_2⟩
 refine ⟨_, rfl, fun _ F9 => ?_⟩
 have S7 := At.frame0 S8.at' m7
 have V7_0 := Rd.got0 S8.at' ((T4.trans (S5.trans S8)).kp.size) v7_0 S7
 obtain ⟨ln7_0, le7_0, mx7_0, ni7_0⟩ := Rd.inv V7_0
 have V7_1 := Rd.got0 S8.at' ((T4.trans (S5.trans S8)).kp.size) v7_1 S7
 obtain ⟨ln7_1, le7_1, mx7_1, ni7_1⟩ := Rd.inv V7_1
 have V7_2 := Rd.got0 S8.at' ((T4.trans (S5.trans S8)).kp.size) v7_2 S7
 obtain ⟨ln7_2, le7_2, mx7_2, ni7_2⟩ := Rd.inv V7_2
 clear m7 v7_0 v7_1 v7_2
 refine l_op (s_store S7.at' 0 TI_31 rfl rfl rfl rfl rfl (F9.ev 0 rfl) (F9.ev 2 rfl) rfl rfl rfl rfl rfl fun w10 S10 => ?_)
 have F11 : Fr 3 [(2, .agg #[.slice r0_store_a_7 r0_store_n_7 r0_store_c_7, .slice r0_touch_reads_a_7 r0_touch_reads_n_7 r0_touch_reads_c_7, .slice r0_touch_writes_a_7 r0_touch_writes_n_7 r0_touch_writes_c_7]), (0, .pointer (some ⟨b1, 0, none⟩))] _ := F9.cut rfl
 clear F3 F6 F9
 have T12 : Mv _ _ [bx b1 [.slice r0_store_a_7 r0_store_n_7 r0_store_c_7, .slice r0_touch_reads_a_7 r0_touch_reads_n_7 r0_touch_reads_c_7, .slice r0_touch_writes_a_7 r0_touch_writes_n_7 r0_touch_writes_c_7] 31] _ := S10
 refine s_end (x_normal (wp_ret ?_))
 refine x_done (v := .agg #[.slice r0_store_a_7 r0_store_n_7 r0_store_c_7, .slice r0_touch_reads_a_7 r0_touch_reads_n_7 r0_touch_reads_c_7, .slice r0_touch_writes_a_7 r0_touch_writes_n_7 r0_touch_writes_c_7]) F11 (results_1 Tryd.results10 (.cell (F11.ev 0 rfl) (run_loadVar' TI_31 _ [.slice r0_store_a_7 r0_store_n_7 r0_store_c_7, .slice r0_touch_reads_a_7 r0_touch_reads_n_7 r0_touch_reads_c_7, .slice r0_touch_writes_a_7 r0_touch_writes_n_7 r0_touch_writes_c_7] rfl (fun h => nomatch h) (At.cells T12.at' 0 rfl 0 [.slice r0_store_a_7 r0_store_n_7 r0_store_c_7, .slice r0_touch_reads_a_7 r0_touch_reads_n_7 r0_touch_reads_c_7, .slice r0_touch_writes_a_7 r0_touch_writes_n_7 r0_touch_writes_c_7] rfl)))) ?_
 exact ⟨r0_store_a_7, r0_store_n_7, r0_store_c_7, r0_touch_reads_a_7, r0_touch_reads_n_7, r0_touch_reads_c_7, r0_touch_writes_a_7, r0_touch_writes_n_7, r0_touch_writes_c_7, rfl, (Mv.pick (T4.trans (S5.trans (S8.trans (S7.trans T12)))) [] rfl), (Rd.cast (Rd.give (Rd.mv (Nat.succ_pos _) V7_0 T12)) (show ([] : List CellD) = ([]) from by rfl)), (Rd.give (Rd.mv (Nat.succ_pos _) V7_1 T12)), (Rd.give (Rd.mv (Nat.succ_pos _) V7_2 T12))⟩
end Go.Proofs.YtibgmijfnbnfkaaDoor
