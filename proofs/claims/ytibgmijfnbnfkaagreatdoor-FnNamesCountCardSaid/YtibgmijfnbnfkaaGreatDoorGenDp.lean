/-
  Walks: drawn places; the empty machine.
-/
import Derived.Test.YtibgmijfnbnfkaaGreatDoorDat7
import Derived.Test.YtibgmijfnbnfkaaGreatDoorDatV
import Derived.Test.YtibgmijfnbnfkaaGreatDoorFactsB
import Derived.Test.YtibgmijfnbnfkaaGreatDoorGenR
namespace Go.Proofs.YtibgmijfnbnfkaaGreatDoor
open Go.ChangeShapes Go.WideShapes Go.ChangeAt Go.RowKit
set_option maxRecDepth 100000
set_option maxHeartbeats 1000000
theorem spec_l01New_c {w : World} {H : Nat → Prop} {code : List Nat} {Q1 : Option Addr} {Q0 Q2 : Nat} (Q3 : RdA 1 encB okB H w (.slice Q1 Q0 Q2) code) (p0 : Q0 ≤ 1048576) :
    Calls Tryz.prog 34 #[.slice Q1 Q0 Q2] w fun e w' => ∃ (h2 : Int), ∃ (r0_b : Nat), e = .returned (.pointer (some ⟨r0_b, 0, none⟩)) ∧ Mv [] w [bx r0_b [.slice Q1 Q0 Q2, .int .i64 ((0 : Nat) : Int), .int .i64 h2] 80] w' ∧ i64ok h2 := by
 have uU : True := (fun _ => trivial) p0
 clear uU
 have Q4 : RdA 1 encB okB (V H w []) w (.slice Q1 Q0 Q2) code := RdA.start Q3 (fun _ _ => fps_nil _)
 obtain ⟨Q6, Q5, Q7, Q8⟩ := RdA.inv Q3
 refine calls_enter 32 Tryz.func34 rfl Tryz.ntmps34 (Nat.le_of_ble_eq_true rfl) (fun _ F0i => ?_)
 have F0 : Fr 32 [(0, .slice Q1 Q0 Q2)] _ := F0i
 clear F0i
 refine wp_seq (wp_region_lit (l_op (f_val F0 rfl rfl (r_assign rfl rfl) rfl fun _ F1 => ?_)))
 refine s_end (x_normal (wp_seq (wp_region_lit (l_op (f_mv F1 rfl rfl rfl rfl rfl fun _ F2 => ?_)))))
 refine l_op (f_val F2 rfl rfl (r_len Tryz.underlying22 rfl (F2.ev 5 rfl)) rfl fun _ F3 => ?_)
 refine l_op (f_val F3 rfl rfl (r_add (z := ((94701 + Q0 : Nat) : Int)) rfl rfl (F3.ev 6 rfl) (by first | rfl | omega) ⟨by first | omega | (unfold i64ok at *; omega), by first | omega | (unfold i64ok at *; omega)⟩) rfl fun _ F4 => ?_)
 refine l_op (f_as F4 rfl rfl rfl rfl rfl fun _ F5 => ?_)
 refine s_end (x_normal (wp_seq (wp_seq (wp_region_lit (l_op (f_val F5 rfl rfl (r_assign rfl rfl) rfl fun _ F6 => ?_))))))
 refine s_end (x_normal (wp_block ?_))
 refine x_loop (fun (k : Nat) aZ wZ => ∃ (hh : Nat), Fr 32 [(4, .int .i64 ((k : Nat) : Int)), (3, .int .i64 ((hh : Nat) : Int)), (0, .slice Q1 Q0 Q2)] aZ ∧ Mv [] w [] wZ ∧ (k ≤ Q0) ∧ (hh ≤ 1073741823)) (fun (k : Nat) => Q0 - k) (0) ?_ ?_
 · exact ⟨94701 + Q0, F6.cut rfl, (Mv.refl (At.nil w)), by omega, by omega⟩
 · rintro k a7 w7 ⟨hh, F7, S7, hk_0, hk_1⟩
   refine wp_seq (wp_seq (wp_region_lit (l_op (f_mv F7 rfl rfl rfl rfl rfl fun _ F8 => ?_))))
   refine l_op (f_mv F8 rfl rfl rfl rfl rfl fun _ F9 => ?_)
   refine l_op (f_val F9 rfl rfl (r_len Tryz.underlying22 rfl (F9.ev 9 rfl)) rfl fun _ F10 => ?_)
   refine l_op (f_val F10 rfl rfl (r_cmp (b := decide (k < Q0)) (.inr (.inr (.inl rfl))) rfl (F10.ev 8 rfl) (F10.ev 10 rfl) (dec_of (by omega))) rfl fun _ F11 => ?_)
   refine l_op (f_mv F11 rfl rfl rfl rfl rfl fun _ F12 => ?_)
   rcases Decidable.em (k < Q0) with h13 | h13
   · rw [decide_eq_true h13] at F12
     refine l_op (f_mv F12 (wanted_g F12 rfl rfl rfl rfl) rfl rfl rfl rfl fun _ F14 => ?_)
     refine l_op (f_val F14 (wanted_g F14 rfl rfl rfl rfl) rfl (r_cmp (b := decide (k < 4000)) (.inr (.inr (.inl rfl))) rfl (F14.ev 13 rfl) rfl (dec_of (by omega))) rfl fun _ F15 => ?_)
     refine l_op (f_val F15 rfl rfl (r_pick (b := true) rfl (F15.ev 12 rfl) (F15.ev 14 rfl)) rfl fun _ F16 => ?_)
     refine s_end (x_normal (x_cond (p := k < 4000) (F16.ev 15 rfl) (fun h17 => ?_) (fun h17 => ?_)))
     · skip
       refine wp_skip (x_normal (wp_seq (wp_block (wp_region_lit (l_op (f_mv F16 rfl rfl rfl rfl rfl fun _ F18 => ?_))))))
       refine l_op (f_val F18 rfl rfl (r_mul (z := ((hh * 131 : Nat) : Int)) rfl (F18.ev 18 rfl) rfl (by first | rfl | omega) ⟨by first | omega | (unfold i64ok at *; omega), by first | omega | (unfold i64ok at *; omega)⟩) rfl fun _ F19 => ?_)
       refine l_op (f_mv F19 rfl rfl rfl rfl rfl fun _ F20 => ?_)
       refine l_op (f_mv F20 rfl rfl rfl rfl rfl fun _ F21 => ?_)
       obtain ⟨B22, O22, x1, ad22, hx1, okx1, ln22, cl22⟩ := RdA.at (RdA.mv (Nat.succ_pos _) Q4 S7) k (by first | assumption | omega)
       clear ln22
       refine l_op (f_val F21 rfl rfl (r_indexAddr (i := k) ET_22 rfl ((F21.ev 20 rfl).trans (by rw [ad22])) (F21.ev 21 rfl) (by omega) (by first | assumption | omega)) rfl fun _ F23 => ?_)
       refine l_op (f_val (v := .int .u8 ((x1 : Nat) : Int)) F23 rfl rfl (r_load (cs := [.int .u8 ((x1 : Nat) : Int)]) TI_5 rfl (F23.ev 22 rfl) rfl (fun _ => rfl) (elem_sub (f := 0) cl22 [.int .u8 ((x1 : Nat) : Int)] rfl)) rfl fun _ F24 => ?_)
       have ob25 : x1 < 256 := okx1
       refine l_op (f_val F24 rfl rfl (r_convU8 Tryz.underlying3 Tryz.underlying5 rfl (F24.ev 23 rfl) ⟨by omega, by omega⟩) rfl fun _ F26 => ?_)
       refine l_op (f_val F26 rfl rfl (r_add (z := (((hh * 131) + x1 : Nat) : Int)) rfl (F26.ev 19 rfl) (F26.ev 24 rfl) (by first | rfl | omega) ⟨by first | omega | (unfold i64ok at *; omega), by first | omega | (unfold i64ok at *; omega)⟩) rfl fun _ F27 => ?_)
       refine l_op (f_val F27 rfl rfl (r_add (z := ((((hh * 131) + x1) + 7 : Nat) : Int)) rfl (F27.ev 25 rfl) rfl (by first | rfl | omega) ⟨by first | omega | (unfold i64ok at *; omega), by first | omega | (unfold i64ok at *; omega)⟩) rfl fun _ F28 => ?_)
       have an29 := andN_le ((((hh * 131) + x1) + 7 : Nat) : Int) 1073741823 (by decide)
       refine l_op (f_val F28 rfl rfl (r_andN (c := 1073741823) rfl (by decide) rfl (F28.ev 26 rfl) rfl) rfl fun _ F30 => ?_)
       refine l_op (f_as F30 rfl rfl rfl rfl rfl fun _ F31 => ?_)
       refine s_end (x_block_normal (x_normal (wp_region_lit (l_op (f_mv F31 rfl rfl rfl rfl rfl fun _ F32 => ?_)))))
       refine l_op (f_val F32 rfl rfl (r_add (z := ((k + 1 : Nat) : Int)) rfl (F32.ev 16 rfl) rfl (by first | rfl | omega) ⟨by first | omega | (unfold i64ok at *; omega), by first | omega | (unfold i64ok at *; omega)⟩) rfl fun _ F33 => ?_)
       refine l_op (f_as F33 rfl rfl rfl rfl rfl fun _ F34 => ?_)
       refine s_end ?_
       refine x_normal ⟨k + 1, by omega, andN ((((hh * 131) + x1) + 7 : Nat) : Int) 1073741823, F34.cut rfl, (S7.pick [] rfl), by omega, by omega⟩
     · skip
       refine wp_exit (x_then_exit (x_then_exit (x_block_here (x_normal (wp_seq (wp_region_lit (l_op (f_mv F16 rfl rfl rfl rfl rfl fun _ F35 => ?_))))))))
       refine l_op (f_mv F35 rfl rfl rfl rfl rfl fun _ F36 => ?_)
       refine l_op (f_val (v := .agg #[.slice Q1 Q0 Q2, .int .i64 0, .int .i64 ((hh : Nat) : Int)]) F36 rfl rfl (r_build BI_80 rfl (lc (pr2 (F36.ev 28 rfl)) (lc (pr2 (F36.ev 29 rfl)) rfl)) rfl) rfl fun _ F37 => ?_)
       refine l_op (f_box F37 S7.at' rfl rfl rfl (F37.ev 30 rfl) rfl rfl fun b38 _ w38 F39 S38 => ?_)
       refine l_op (f_as F39 rfl rfl rfl rfl rfl fun _ F40 => ?_)
       refine s_end (x_normal (wp_ret ?_))
       refine x_done (v := .pointer (some ⟨b38, 0, none⟩)) F40 (results_1 Tryz.results34 (.tmp (F40.ev 2 rfl))) ?_
       exact ⟨((hh : Nat) : Int), b38, rfl, (Mv.cast (Mv.pick (S7.trans S38) [0] rfl) rfl), by first | assumption | exact w64_ok _ | omega | (unfold i64ok; omega)⟩
   · rw [decide_eq_false h13] at F12
     refine l_op (f_skip F12 (wanted_g F12 rfl rfl rfl rfl) rfl rfl fun _ F41 => ?_)
     refine l_op (f_skip F41 (wanted_g F41 rfl rfl rfl rfl) rfl rfl fun _ F42 => ?_)
     refine l_op (f_val F42 rfl rfl (r_pick (b := false) rfl (F42.ev 12 rfl) rfl) rfl fun _ F43 => ?_)
     refine s_end (x_normal (wp_cond_false (F43.ev 15 rfl) (wp_exit (x_then_exit (x_then_exit (x_block_here (x_normal (wp_seq (wp_region_lit (l_op (f_mv F43 rfl rfl rfl rfl rfl fun _ F44 => ?_)))))))))))
     refine l_op (f_mv F44 rfl rfl rfl rfl rfl fun _ F45 => ?_)
     refine l_op (f_val (v := .agg #[.slice Q1 Q0 Q2, .int .i64 0, .int .i64 ((hh : Nat) : Int)]) F45 rfl rfl (r_build BI_80 rfl (lc (pr2 (F45.ev 28 rfl)) (lc (pr2 (F45.ev 29 rfl)) rfl)) rfl) rfl fun _ F46 => ?_)
     refine l_op (f_box F46 S7.at' rfl rfl rfl (F46.ev 30 rfl) rfl rfl fun b47 _ w47 F48 S47 => ?_)
     refine l_op (f_as F48 rfl rfl rfl rfl rfl fun _ F49 => ?_)
     refine s_end (x_normal (wp_ret ?_))
     refine x_done (v := .pointer (some ⟨b47, 0, none⟩)) F49 (results_1 Tryz.results34 (.tmp (F49.ev 2 rfl))) ?_
     exact ⟨((hh : Nat) : Int), b47, rfl, (Mv.cast (Mv.pick (S7.trans S47) [0] rfl) rfl), by first | assumption | exact w64_ok _ | omega | (unfold i64ok; omega)⟩
theorem spec_l01Byte_c {w : World} {H : Nat → Prop} {c : CurD} {Q1 : Option Addr} {Q0 Q2 : Nat} {c_b : Nat} (Q4 : RdA 1 encB okB H w (.slice Q1 Q0 Q2) c.code) (Q6 : i64ok (c.pos : Int)) (Q5 : i64ok c.h) (p0 : c.pos ≤ Q0) (hA : At w [bx c_b [.slice Q1 Q0 Q2, .int .i64 ((c.pos : Nat) : Int), .int .i64 c.h] 80]) (hD : ∀ b, H b → ¬ fps [bx c_b [.slice Q1 Q0 Q2, .int .i64 ((c.pos : Nat) : Int), .int .i64 c.h] 80] b) :
    Calls Tryz.prog 69 #[.pointer (some ⟨c_b, 0, none⟩)] w fun e w' => ∃ (i2 : Nat), ∃ (h2 : Int), ∃ (r : Nat), e = .returned (.int .i64 ((r : Nat) : Int)) ∧ Mv [bx c_b [.slice Q1 Q0 Q2, .int .i64 ((c.pos : Nat) : Int), .int .i64 c.h] 80] w [bx c_b [.slice Q1 Q0 Q2, .int .i64 ((i2 : Nat) : Int), .int .i64 h2] 80] w' ∧ i2 ≤ Q0 ∧ i64ok h2 ∧ r < 256 := by
 have uU : True := (fun _ _ _ => trivial) Q6 Q5 p0
 clear uU
 have Q3 : RdA 1 encB okB (V H w [bx c_b [.slice Q1 Q0 Q2, .int .i64 ((c.pos : Nat) : Int), .int .i64 c.h] 80]) w (.slice Q1 Q0 Q2) c.code := RdA.start Q4 hD
 obtain ⟨Q8, Q7, Q9, Q10⟩ := RdA.inv Q4
 refine calls_enter 58 Tryz.func69 rfl Tryz.ntmps69 (Nat.le_of_ble_eq_true rfl) (fun _ F0i => ?_)
 have F0 : Fr 58 [(0, .pointer (some ⟨c_b, 0, none⟩))] _ := F0i
 clear F0i
 refine wp_seq (wp_region_lit (l_op (f_val F0 rfl rfl (r_assign rfl rfl) rfl fun _ F1 => ?_)))
 refine s_end (x_normal (wp_seq (wp_region_lit (l_op (f_mv F1 rfl rfl rfl rfl rfl fun _ F2 => ?_)))))
 refine l_op (f_mv F2 rfl rfl rfl rfl rfl fun _ F3 => ?_)
 refine l_op (f_val F3 rfl rfl (r_nilCheck rfl (F3.ev 5 rfl)) rfl fun _ F4 => ?_)
 refine l_op (f_val F4 rfl rfl (r_field FI_80_2 rfl (F4.ev 6 rfl) rfl) rfl fun _ F5 => ?_)
 refine l_op (f_val (v := .int .i64 c.h) F5 rfl rfl (r_loadB hA 0 TI_3 rfl rfl (F5.ev 7 rfl) rfl rfl (fun _ => rfl) rfl) rfl fun _ F6 => ?_)
 refine l_op (f_val F6 rfl rfl (r_mulW rfl (F6.ev 8 rfl) rfl) rfl fun _ F7 => ?_)
 refine l_op (f_val F7 rfl rfl (r_addW rfl (F7.ev 9 rfl) rfl) rfl fun _ F8 => ?_)
 refine l_op (f_val F8 rfl rfl (r_nilCheck rfl (F8.ev 4 rfl)) rfl fun _ F9 => ?_)
 refine l_op (f_val F9 rfl rfl (r_field FI_80_2 rfl (F9.ev 11 rfl) rfl) rfl fun _ F10 => ?_)
 refine l_op (s_store hA 0 TI_3 rfl rfl rfl rfl rfl (F10.ev 12 rfl) (F10.ev 10 rfl) rfl rfl rfl rfl rfl fun w11 S11 => ?_)
 refine s_end (x_normal (wp_seq ?_))
 refine x_draw (fun aZ wZ => Fr 58 [(0, .pointer (some ⟨c_b, 0, none⟩)), (3, .int .i64 ((andN (xorI (shrI (w64 ((w64 (c.h * 6364136223846793005)) + 1442695040888963407)) 33) (shrI (w64 ((w64 (c.h * 6364136223846793005)) + 1442695040888963407)) 45)) 255 : Nat) : Int))] aZ ∧ Mv [bx c_b [.slice Q1 Q0 Q2, .int .i64 ((c.pos : Nat) : Int), .int .i64 (w64 ((w64 (c.h * 6364136223846793005)) + 1442695040888963407))] 80] w11 [bx c_b [.slice Q1 Q0 Q2, .int .i64 ((c.pos : Nat) : Int), .int .i64 (w64 ((w64 (c.h * 6364136223846793005)) + 1442695040888963407))] 80] wZ) [bx c_b [.slice Q1 Q0 Q2, .int .i64 ((c.pos : Nat) : Int), .int .i64 (w64 ((w64 (c.h * 6364136223846793005)) + 1442695040888963407))] 80] mixed S11.at' (listed := #[false, false, false, false, false, false, false, false, false, false, false, false, false]) rfl (fun w13 S13 => ?_) [0] rfl ?_
 · skip
   refine g_take F10 rfl (i := 0) (listed' := #[true, false, false, false, false, false, false, false, false, false, false, false, false]) rfl (by kernel_rfl) (by kernel_rfl) (by kernel_rfl) (fun _ _ _ h => h) (Sd.of (Mv.refl S13.at') [0] rfl) rfl rfl rfl rfl (fun _ hz => (r_move rfl (F10.ev 0 rfl))) fun _ F14 => ?_
   refine g_take F14 rfl (i := 1) (listed' := #[true, true, false, false, false, false, false, false, false, false, false, false, false]) rfl (by kernel_rfl) (by kernel_rfl) (by kernel_rfl) (fun _ _ _ h => h) (Sd.of (Mv.refl S13.at') [0] rfl) rfl rfl rfl rfl (fun _ hz => (r_nilCheck rfl (F14.ev 13 rfl))) fun _ F15 => ?_
   refine g_take F15 rfl (i := 2) (listed' := #[true, true, true, false, false, false, false, false, false, false, false, false, false]) rfl (by kernel_rfl) (by kernel_rfl) (by kernel_rfl) (fun _ _ _ h => h) (Sd.of (Mv.refl S13.at') [0] rfl) rfl rfl rfl rfl (fun _ hz => (r_field FI_80_2 rfl (F15.ev 14 rfl) rfl)) fun _ F16 => ?_
   refine g_take (v := .int .i64 (w64 ((w64 (c.h * 6364136223846793005)) + 1442695040888963407))) F16 rfl (i := 3) (listed' := #[true, true, true, true, false, false, false, false, false, false, false, false, false]) rfl (by kernel_rfl) (by kernel_rfl) (by kernel_rfl) (fun _ _ _ h => h) (Sd.of (Mv.refl S13.at') [0] rfl) rfl rfl rfl rfl (fun _ hz => (r_loadX (hz.bx 0 rfl) TI_3 rfl (F16.ev 15 rfl) rfl rfl (fun _ => rfl) rfl)) fun _ F17 => ?_
   refine g_take F17 rfl (i := 4) (listed' := #[true, true, true, true, true, false, false, false, false, false, false, false, false]) rfl (by kernel_rfl) (by kernel_rfl) (by kernel_rfl) (fun _ _ _ h => h) (Sd.of (Mv.refl S13.at') [0] rfl) rfl rfl rfl rfl (fun _ hz => (r_shr (c := 33) rfl (by decide) rfl (F17.ev 16 rfl) rfl)) fun _ F18 => ?_
   refine g_take F18 rfl (i := 5) (listed' := #[true, true, true, true, true, true, false, false, false, false, false, false, false]) rfl (by kernel_rfl) (by kernel_rfl) (by kernel_rfl) (fun _ _ _ h => h) (Sd.of (Mv.refl S13.at') [0] rfl) rfl rfl rfl rfl (fun _ hz => (r_move rfl (F18.ev 0 rfl))) fun _ F19 => ?_
   refine g_take F19 rfl (i := 6) (listed' := #[true, true, true, true, true, true, true, false, false, false, false, false, false]) rfl (by kernel_rfl) (by kernel_rfl) (by kernel_rfl) (fun _ _ _ h => h) (Sd.of (Mv.refl S13.at') [0] rfl) rfl rfl rfl rfl (fun _ hz => (r_nilCheck rfl (F19.ev 18 rfl))) fun _ F20 => ?_
   refine g_take F20 rfl (i := 7) (listed' := #[true, true, true, true, true, true, true, true, false, false, false, false, false]) rfl (by kernel_rfl) (by kernel_rfl) (by kernel_rfl) (fun _ _ _ h => h) (Sd.of (Mv.refl S13.at') [0] rfl) rfl rfl rfl rfl (fun _ hz => (r_field FI_80_2 rfl (F20.ev 19 rfl) rfl)) fun _ F21 => ?_
   refine g_take (v := .int .i64 (w64 ((w64 (c.h * 6364136223846793005)) + 1442695040888963407))) F21 rfl (i := 8) (listed' := #[true, true, true, true, true, true, true, true, true, false, false, false, false]) rfl (by kernel_rfl) (by kernel_rfl) (by kernel_rfl) (fun _ _ _ h => h) (Sd.of (Mv.refl S13.at') [0] rfl) rfl rfl rfl rfl (fun _ hz => (r_loadX (hz.bx 0 rfl) TI_3 rfl (F21.ev 20 rfl) rfl rfl (fun _ => rfl) rfl)) fun _ F22 => ?_
   refine g_take F22 rfl (i := 9) (listed' := #[true, true, true, true, true, true, true, true, true, true, false, false, false]) rfl (by kernel_rfl) (by kernel_rfl) (by kernel_rfl) (fun _ _ _ h => h) (Sd.of (Mv.refl S13.at') [0] rfl) rfl rfl rfl rfl (fun _ hz => (r_shr (c := 45) rfl (by decide) rfl (F22.ev 21 rfl) rfl)) fun _ F23 => ?_
   refine g_take F23 rfl (i := 10) (listed' := #[true, true, true, true, true, true, true, true, true, true, true, false, false]) rfl (by kernel_rfl) (by kernel_rfl) (by kernel_rfl) (fun _ _ _ h => h) (Sd.of (Mv.refl S13.at') [0] rfl) rfl rfl rfl rfl (fun _ hz => (r_xor rfl (F23.ev 17 rfl) (F23.ev 22 rfl))) fun _ F24 => ?_
   have an25 := andN_le (xorI (shrI (w64 ((w64 (c.h * 6364136223846793005)) + 1442695040888963407)) 33) (shrI (w64 ((w64 (c.h * 6364136223846793005)) + 1442695040888963407)) 45)) 255 (by decide)
   refine g_take F24 rfl (i := 11) (listed' := #[true, true, true, true, true, true, true, true, true, true, true, true, false]) rfl (by kernel_rfl) (by kernel_rfl) (by kernel_rfl) (fun _ _ _ h => h) (Sd.of (Mv.refl S13.at') [0] rfl) rfl rfl rfl rfl (fun _ hz => (r_andN (c := 255) rfl (by decide) rfl (F24.ev 23 rfl) rfl)) fun _ F26 => ?_
   refine g_take F26 rfl (i := 12) (listed' := #[true, true, true, true, true, true, true, true, true, true, true, true, true]) rfl (by kernel_rfl) (by kernel_rfl) (by kernel_rfl) (fun _ _ _ h => h) (Sd.of (Mv.refl S13.at') [0] rfl) rfl rfl rfl rfl (fun _ hz => (r_assign rfl (F26.ev 24 rfl))) fun _ F27 => ?_
   refine wpAnyH_done (by kernel_rfl) (x_normal ?_) _
   exact ⟨F27.cut rfl, (S13.pick [0] rfl)⟩
 · rintro a28 w28 ⟨F28, S28⟩
   have an29 := andN_le (xorI (shrI (w64 ((w64 (c.h * 6364136223846793005)) + 1442695040888963407)) 33) (shrI (w64 ((w64 (c.h * 6364136223846793005)) + 1442695040888963407)) 45)) 255 (by decide)
   refine x_normal (wp_seq (wp_seq ?_))
   refine x_draw (fun aZ wZ => Fr 58 [(0, .pointer (some ⟨c_b, 0, none⟩)), (3, .int .i64 ((andN (xorI (shrI (w64 ((w64 (c.h * 6364136223846793005)) + 1442695040888963407)) 33) (shrI (w64 ((w64 (c.h * 6364136223846793005)) + 1442695040888963407)) 45)) 255 : Nat) : Int)), (34, .bool (decide (c.pos < Q0)))] aZ ∧ Mv [bx c_b [.slice Q1 Q0 Q2, .int .i64 ((c.pos : Nat) : Int), .int .i64 (w64 ((w64 (c.h * 6364136223846793005)) + 1442695040888963407))] 80] w28 [bx c_b [.slice Q1 Q0 Q2, .int .i64 ((c.pos : Nat) : Int), .int .i64 (w64 ((w64 (c.h * 6364136223846793005)) + 1442695040888963407))] 80] wZ) [bx c_b [.slice Q1 Q0 Q2, .int .i64 ((c.pos : Nat) : Int), .int .i64 (w64 ((w64 (c.h * 6364136223846793005)) + 1442695040888963407))] 80] mixed S28.at' (listed := #[false, false, false, false, false, false, false, false, false, false]) rfl (fun w31 S31 => ?_) [0] rfl ?_
   · skip
     refine g_take F28 rfl (i := 0) (listed' := #[true, false, false, false, false, false, false, false, false, false]) rfl (by kernel_rfl) (by kernel_rfl) (by kernel_rfl) (fun _ _ _ h => h) (Sd.of (Mv.refl S31.at') [0] rfl) rfl rfl rfl rfl (fun _ hz => (r_move rfl (F28.ev 0 rfl))) fun _ F32 => ?_
     refine g_take F32 rfl (i := 1) (listed' := #[true, true, false, false, false, false, false, false, false, false]) rfl (by kernel_rfl) (by kernel_rfl) (by kernel_rfl) (fun _ _ _ h => h) (Sd.of (Mv.refl S31.at') [0] rfl) rfl rfl rfl rfl (fun _ hz => (r_nilCheck rfl (F32.ev 25 rfl))) fun _ F33 => ?_
     refine g_take F33 rfl (i := 2) (listed' := #[true, true, true, false, false, false, false, false, false, false]) rfl (by kernel_rfl) (by kernel_rfl) (by kernel_rfl) (fun _ _ _ h => h) (Sd.of (Mv.refl S31.at') [0] rfl) rfl rfl rfl rfl (fun _ hz => (r_field FI_80_1 rfl (F33.ev 26 rfl) rfl)) fun _ F34 => ?_
     refine g_take (v := .int .i64 ((c.pos : Nat) : Int)) F34 rfl (i := 3) (listed' := #[true, true, true, true, false, false, false, false, false, false]) rfl (by kernel_rfl) (by kernel_rfl) (by kernel_rfl) (fun _ _ _ h => h) (Sd.of (Mv.refl S31.at') [0] rfl) rfl rfl rfl rfl (fun _ hz => (r_loadX (hz.bx 0 rfl) TI_3 rfl (F34.ev 27 rfl) rfl rfl (fun _ => rfl) rfl)) fun _ F35 => ?_
     refine g_take F35 rfl (i := 4) (listed' := #[true, true, true, true, true, false, false, false, false, false]) rfl (by kernel_rfl) (by kernel_rfl) (by kernel_rfl) (fun _ _ _ h => h) (Sd.of (Mv.refl S31.at') [0] rfl) rfl rfl rfl rfl (fun _ hz => (r_move rfl (F35.ev 0 rfl))) fun _ F36 => ?_
     refine g_take F36 rfl (i := 5) (listed' := #[true, true, true, true, true, true, false, false, false, false]) rfl (by kernel_rfl) (by kernel_rfl) (by kernel_rfl) (fun _ _ _ h => h) (Sd.of (Mv.refl S31.at') [0] rfl) rfl rfl rfl rfl (fun _ hz => (r_nilCheck rfl (F36.ev 29 rfl))) fun _ F37 => ?_
     refine g_take F37 rfl (i := 6) (listed' := #[true, true, true, true, true, true, true, false, false, false]) rfl (by kernel_rfl) (by kernel_rfl) (by kernel_rfl) (fun _ _ _ h => h) (Sd.of (Mv.refl S31.at') [0] rfl) rfl rfl rfl rfl (fun _ hz => (r_field FI_80_0 rfl (F37.ev 30 rfl) rfl)) fun _ F38 => ?_
     refine g_take (v := .slice Q1 Q0 Q2) F38 rfl (i := 7) (listed' := #[true, true, true, true, true, true, true, true, false, false]) rfl (by kernel_rfl) (by kernel_rfl) (by kernel_rfl) (fun _ _ _ h => h) (Sd.of (Mv.refl S31.at') [0] rfl) rfl rfl rfl rfl (fun _ hz => (r_loadX (hz.bx 0 rfl) TI_22 rfl (F38.ev 31 rfl) rfl rfl (fun _ => rfl) rfl)) fun _ F39 => ?_
     refine g_take F39 rfl (i := 8) (listed' := #[true, true, true, true, true, true, true, true, true, false]) rfl (by kernel_rfl) (by kernel_rfl) (by kernel_rfl) (fun _ _ _ h => h) (Sd.of (Mv.refl S31.at') [0] rfl) rfl rfl rfl rfl (fun _ hz => (r_len Tryz.underlying22 rfl (F39.ev 32 rfl))) fun _ F40 => ?_
     refine g_take F40 rfl (i := 9) (listed' := #[true, true, true, true, true, true, true, true, true, true]) rfl (by kernel_rfl) (by kernel_rfl) (by kernel_rfl) (fun _ _ _ h => h) (Sd.of (Mv.refl S31.at') [0] rfl) rfl rfl rfl rfl (fun _ hz => (r_cmp (b := decide (c.pos < Q0)) (.inr (.inr (.inl rfl))) rfl (F40.ev 28 rfl) (F40.ev 33 rfl) (dec_of (by omega)))) fun _ F41 => ?_
     refine wpAnyH_done (by kernel_rfl) (x_normal ?_) _
     exact ⟨F41.cut rfl, (S31.pick [0] rfl)⟩
   · rintro a42 w42 ⟨F42, S42⟩
     have an43 := andN_le (xorI (shrI (w64 ((w64 (c.h * 6364136223846793005)) + 1442695040888963407)) 33) (shrI (w64 ((w64 (c.h * 6364136223846793005)) + 1442695040888963407)) 45)) 255 (by decide)
     refine x_normal (x_cond (p := c.pos < Q0) (F42.ev 34 rfl) (fun h44 => ?_) (fun h44 => ?_))
     · skip
       refine wp_seq ?_
       obtain ⟨x1, hx1, okx1⟩ := RdA.elem (RdA.mv (Nat.succ_pos _) Q3 (S11.trans (S28.trans S42))) c.pos (by first | assumption | omega)
       refine x_draw (fun aZ wZ => Fr 58 [(0, .pointer (some ⟨c_b, 0, none⟩)), (3, .int .i64 ((andN (((andN (xorI (shrI (w64 ((w64 (c.h * 6364136223846793005)) + 1442695040888963407)) 33) (shrI (w64 ((w64 (c.h * 6364136223846793005)) + 1442695040888963407)) 45)) 255) + x1 : Nat) : Int) 255 : Nat) : Int))] aZ ∧ Mv [bx c_b [.slice Q1 Q0 Q2, .int .i64 ((c.pos : Nat) : Int), .int .i64 (w64 ((w64 (c.h * 6364136223846793005)) + 1442695040888963407))] 80] w42 [bx c_b [.slice Q1 Q0 Q2, .int .i64 ((c.pos : Nat) : Int), .int .i64 (w64 ((w64 (c.h * 6364136223846793005)) + 1442695040888963407))] 80] wZ) [bx c_b [.slice Q1 Q0 Q2, .int .i64 ((c.pos : Nat) : Int), .int .i64 (w64 ((w64 (c.h * 6364136223846793005)) + 1442695040888963407))] 80] mixed S42.at' (listed := #[false, false, false, false, false, false, false, false, false, false, false, false, false, false, false]) rfl (fun w46 S46 => ?_) [0] rfl ?_
       · skip
         refine g_take F42 rfl (i := 0) (listed' := #[true, false, false, false, false, false, false, false, false, false, false, false, false, false, false]) rfl (by kernel_rfl) (by kernel_rfl) (by kernel_rfl) (fun _ _ _ h => h) (Sd.of (Mv.refl S46.at') [0] rfl) rfl rfl rfl rfl (fun _ hz => (r_move rfl (F42.ev 3 rfl))) fun _ F47 => ?_
         refine g_take F47 rfl (i := 1) (listed' := #[true, true, false, false, false, false, false, false, false, false, false, false, false, false, false]) rfl (by kernel_rfl) (by kernel_rfl) (by kernel_rfl) (fun _ _ _ h => h) (Sd.of (Mv.refl S46.at') [0] rfl) rfl rfl rfl rfl (fun _ hz => (r_move rfl (F47.ev 0 rfl))) fun _ F48 => ?_
         refine g_take F48 rfl (i := 2) (listed' := #[true, true, true, false, false, false, false, false, false, false, false, false, false, false, false]) rfl (by kernel_rfl) (by kernel_rfl) (by kernel_rfl) (fun _ _ _ h => h) (Sd.of (Mv.refl S46.at') [0] rfl) rfl rfl rfl rfl (fun _ hz => (r_nilCheck rfl (F48.ev 36 rfl))) fun _ F49 => ?_
         refine g_take F49 rfl (i := 3) (listed' := #[true, true, true, true, false, false, false, false, false, false, false, false, false, false, false]) rfl (by kernel_rfl) (by kernel_rfl) (by kernel_rfl) (fun _ _ _ h => h) (Sd.of (Mv.refl S46.at') [0] rfl) rfl rfl rfl rfl (fun _ hz => (r_field FI_80_0 rfl (F49.ev 37 rfl) rfl)) fun _ F50 => ?_
         refine g_take (v := .slice Q1 Q0 Q2) F50 rfl (i := 4) (listed' := #[true, true, true, true, true, false, false, false, false, false, false, false, false, false, false]) rfl (by kernel_rfl) (by kernel_rfl) (by kernel_rfl) (fun _ _ _ h => h) (Sd.of (Mv.refl S46.at') [0] rfl) rfl rfl rfl rfl (fun _ hz => (r_loadX (hz.bx 0 rfl) TI_22 rfl (F50.ev 38 rfl) rfl rfl (fun _ => rfl) rfl)) fun _ F51 => ?_
         refine g_take F51 rfl (i := 5) (listed' := #[true, true, true, true, true, true, false, false, false, false, false, false, false, false, false]) rfl (by kernel_rfl) (by kernel_rfl) (by kernel_rfl) (fun _ _ _ h => h) (Sd.of (Mv.refl S46.at') [0] rfl) rfl rfl rfl rfl (fun _ hz => (r_move rfl (F51.ev 0 rfl))) fun _ F52 => ?_
         refine g_take F52 rfl (i := 6) (listed' := #[true, true, true, true, true, true, true, false, false, false, false, false, false, false, false]) rfl (by kernel_rfl) (by kernel_rfl) (by kernel_rfl) (fun _ _ _ h => h) (Sd.of (Mv.refl S46.at') [0] rfl) rfl rfl rfl rfl (fun _ hz => (r_nilCheck rfl (F52.ev 40 rfl))) fun _ F53 => ?_
         refine g_take F53 rfl (i := 7) (listed' := #[true, true, true, true, true, true, true, true, false, false, false, false, false, false, false]) rfl (by kernel_rfl) (by kernel_rfl) (by kernel_rfl) (fun _ _ _ h => h) (Sd.of (Mv.refl S46.at') [0] rfl) rfl rfl rfl rfl (fun _ hz => (r_field FI_80_1 rfl (F53.ev 41 rfl) rfl)) fun _ F54 => ?_
         refine g_take (v := .int .i64 ((c.pos : Nat) : Int)) F54 rfl (i := 8) (listed' := #[true, true, true, true, true, true, true, true, true, false, false, false, false, false, false]) rfl (by kernel_rfl) (by kernel_rfl) (by kernel_rfl) (fun _ _ _ h => h) (Sd.of (Mv.refl S46.at') [0] rfl) rfl rfl rfl rfl (fun _ hz => (r_loadX (hz.bx 0 rfl) TI_3 rfl (F54.ev 42 rfl) rfl rfl (fun _ => rfl) rfl)) fun _ F55 => ?_
         obtain ⟨B56, O56, y56, ad56, hy56, oky56, ln56, cl56⟩ := RdA.atK (Nat.succ_pos _) (RdA.mv (Nat.succ_pos _) Q3 (S11.trans (S28.trans (S42.trans S46)))) c.pos (by first | assumption | omega)
         clear ln56
         obtain rfl := Option.some.inj (hx1.symm.trans hy56)
         clear hy56 oky56
         refine g_take F55 rfl (i := 9) (listed' := #[true, true, true, true, true, true, true, true, true, true, false, false, false, false, false]) rfl (by kernel_rfl) (by kernel_rfl) (by kernel_rfl) (fun _ _ _ h => h) (Sd.of (Mv.refl S46.at') [0] rfl) rfl rfl rfl rfl (fun _ hz => (r_indexAddr (i := c.pos) ET_22 rfl ((F55.ev 39 rfl).trans (by rw [ad56])) (F55.ev 43 rfl) (by omega) (by first | assumption | omega))) fun _ F57 => ?_
         refine g_take (v := .int .u8 ((x1 : Nat) : Int)) F57 rfl (i := 10) (listed' := #[true, true, true, true, true, true, true, true, true, true, true, false, false, false, false]) rfl (by kernel_rfl) (by kernel_rfl) (by kernel_rfl) (fun _ _ _ h => h) (Sd.of (Mv.refl S46.at') [0] rfl) rfl rfl rfl rfl (fun _ hz => (r_load (cs := [.int .u8 ((x1 : Nat) : Int)]) TI_5 rfl (F57.ev 44 rfl) rfl (fun _ => rfl) (elem_sub (f := 0) (cl56 _ hz.kp) [.int .u8 ((x1 : Nat) : Int)] rfl))) fun _ F58 => ?_
         have ob59 : x1 < 256 := okx1
         refine g_take F58 rfl (i := 11) (listed' := #[true, true, true, true, true, true, true, true, true, true, true, true, false, false, false]) rfl (by kernel_rfl) (by kernel_rfl) (by kernel_rfl) (fun _ _ _ h => h) (Sd.of (Mv.refl S46.at') [0] rfl) rfl rfl rfl rfl (fun _ hz => (r_convU8 Tryz.underlying3 Tryz.underlying5 rfl (F58.ev 45 rfl) ⟨by omega, by omega⟩)) fun _ F60 => ?_
         refine g_take F60 rfl (i := 12) (listed' := #[true, true, true, true, true, true, true, true, true, true, true, true, true, false, false]) rfl (by kernel_rfl) (by kernel_rfl) (by kernel_rfl) (fun _ _ _ h => h) (Sd.of (Mv.refl S46.at') [0] rfl) rfl rfl rfl rfl (fun _ hz => (r_add (z := (((andN (xorI (shrI (w64 ((w64 (c.h * 6364136223846793005)) + 1442695040888963407)) 33) (shrI (w64 ((w64 (c.h * 6364136223846793005)) + 1442695040888963407)) 45)) 255) + x1 : Nat) : Int)) rfl (F60.ev 35 rfl) (F60.ev 46 rfl) (by first | rfl | omega) ⟨by first | omega | (unfold i64ok at *; omega), by first | omega | (unfold i64ok at *; omega)⟩)) fun _ F61 => ?_
         have an62 := andN_le (((andN (xorI (shrI (w64 ((w64 (c.h * 6364136223846793005)) + 1442695040888963407)) 33) (shrI (w64 ((w64 (c.h * 6364136223846793005)) + 1442695040888963407)) 45)) 255) + x1 : Nat) : Int) 255 (by decide)
         refine g_take F61 rfl (i := 13) (listed' := #[true, true, true, true, true, true, true, true, true, true, true, true, true, true, false]) rfl (by kernel_rfl) (by kernel_rfl) (by kernel_rfl) (fun _ _ _ h => h) (Sd.of (Mv.refl S46.at') [0] rfl) rfl rfl rfl rfl (fun _ hz => (r_andN (c := 255) rfl (by decide) rfl (F61.ev 47 rfl) rfl)) fun _ F63 => ?_
         refine g_take F63 rfl (i := 14) (listed' := #[true, true, true, true, true, true, true, true, true, true, true, true, true, true, true]) rfl (by kernel_rfl) (by kernel_rfl) (by kernel_rfl) (fun _ _ _ h => h) (Sd.of (Mv.refl S46.at') [0] rfl) rfl rfl rfl rfl (fun _ hz => (r_assign rfl (F63.ev 48 rfl))) fun _ F64 => ?_
         refine wpAnyH_done (by kernel_rfl) (x_normal ?_) _
         exact ⟨F64.cut rfl, (S46.pick [0] rfl)⟩
       · rintro a65 w65 ⟨F65, S65⟩
         have an66 := andN_le (((andN (xorI (shrI (w64 ((w64 (c.h * 6364136223846793005)) + 1442695040888963407)) 33) (shrI (w64 ((w64 (c.h * 6364136223846793005)) + 1442695040888963407)) 45)) 255) + x1 : Nat) : Int) 255 (by decide)
         refine x_normal (wp_region_lit (l_op (f_mv F65 rfl rfl rfl rfl rfl fun _ F67 => ?_)))
         refine l_op (f_mv F67 rfl rfl rfl rfl rfl fun _ F68 => ?_)
         refine l_op (f_val F68 rfl rfl (r_nilCheck rfl (F68.ev 50 rfl)) rfl fun _ F69 => ?_)
         refine l_op (f_val F69 rfl rfl (r_field FI_80_1 rfl (F69.ev 51 rfl) rfl) rfl fun _ F70 => ?_)
         refine l_op (f_val (v := .int .i64 ((c.pos : Nat) : Int)) F70 rfl rfl (r_loadB S65.at' 0 TI_3 rfl rfl (F70.ev 52 rfl) rfl rfl (fun _ => rfl) rfl) rfl fun _ F71 => ?_)
         refine l_op (f_val F71 rfl rfl (r_add (z := ((c.pos + 1 : Nat) : Int)) rfl (F71.ev 53 rfl) rfl (by first | rfl | omega) ⟨by first | omega | (unfold i64ok at *; omega), by first | omega | (unfold i64ok at *; omega)⟩) rfl fun _ F72 => ?_)
         refine l_op (f_val F72 rfl rfl (r_nilCheck rfl (F72.ev 49 rfl)) rfl fun _ F73 => ?_)
         refine l_op (f_val F73 rfl rfl (r_field FI_80_1 rfl (F73.ev 55 rfl) rfl) rfl fun _ F74 => ?_)
         refine l_op (s_store S65.at' 0 TI_3 rfl rfl rfl rfl rfl (F74.ev 56 rfl) (F74.ev 54 rfl) rfl rfl rfl rfl rfl fun w75 S75 => ?_)
         have T76 : Mv _ _ [bx c_b [.slice Q1 Q0 Q2, .int .i64 ((c.pos + 1 : Nat) : Int), .int .i64 (w64 ((w64 (c.h * 6364136223846793005)) + 1442695040888963407))] 80] _ := S75
         refine s_end (x_normal (wp_seq (wp_region_lit (l_op (f_mv F74 rfl rfl rfl rfl rfl fun _ F77 => ?_)))))
         refine l_op (f_as F77 rfl rfl rfl rfl rfl fun _ F78 => ?_)
         refine s_end (x_normal (wp_ret ?_))
         refine x_done (v := .int .i64 ((andN (((andN (xorI (shrI (w64 ((w64 (c.h * 6364136223846793005)) + 1442695040888963407)) 33) (shrI (w64 ((w64 (c.h * 6364136223846793005)) + 1442695040888963407)) 45)) 255) + x1 : Nat) : Int) 255 : Nat) : Int)) F78 (results_1 Tryz.results69 (.tmp (F78.ev 2 rfl))) ?_
         exact ⟨c.pos + 1, (w64 ((w64 (c.h * 6364136223846793005)) + 1442695040888963407)), andN (((andN (xorI (shrI (w64 ((w64 (c.h * 6364136223846793005)) + 1442695040888963407)) 33) (shrI (w64 ((w64 (c.h * 6364136223846793005)) + 1442695040888963407)) 45)) 255) + x1 : Nat) : Int) 255, rfl, (Mv.pick (S11.trans (S28.trans (S42.trans (S65.trans T76)))) [0] rfl), by first | assumption | exact w64_ok _ | omega | (unfold i64ok; omega), by first | assumption | exact w64_ok _ | omega | (unfold i64ok; omega), by first | assumption | exact w64_ok _ | omega | (unfold i64ok; omega)⟩
     · skip
       refine wp_skip (x_normal (wp_seq (wp_region_lit (l_op (f_mv F42 rfl rfl rfl rfl rfl fun _ F79 => ?_)))))
       refine l_op (f_as F79 rfl rfl rfl rfl rfl fun _ F80 => ?_)
       refine s_end (x_normal (wp_ret ?_))
       refine x_done (v := .int .i64 ((andN (xorI (shrI (w64 ((w64 (c.h * 6364136223846793005)) + 1442695040888963407)) 33) (shrI (w64 ((w64 (c.h * 6364136223846793005)) + 1442695040888963407)) 45)) 255 : Nat) : Int)) F80 (results_1 Tryz.results69 (.tmp (F80.ev 2 rfl))) ?_
       exact ⟨c.pos, (w64 ((w64 (c.h * 6364136223846793005)) + 1442695040888963407)), andN (xorI (shrI (w64 ((w64 (c.h * 6364136223846793005)) + 1442695040888963407)) 33) (shrI (w64 ((w64 (c.h * 6364136223846793005)) + 1442695040888963407)) 45)) 255, rfl, (Mv.pick (S11.trans (S28.trans S42)) [0] rfl), by first | assumption | exact w64_ok _ | omega | (unfold i64ok; omega), by first | assumption | exact w64_ok _ | omega | (unfold i64ok; omega), by first | assumption | exact w64_ok _ | omega | (unfold i64ok; omega)⟩
theorem spec_l01Below_c {w : World} {H : Nat → Prop} {c : CurD} {Q1 : Option Addr} {Q0 Q2 : Nat} {c_b : Nat} {n : Int} (Q4 : RdA 1 encB okB H w (.slice Q1 Q0 Q2) c.code) (Q6 : i64ok (c.pos : Int)) (Q5 : i64ok c.h) (h_n : i64ok n) (p0 : c.pos ≤ Q0) (hA : At w [bx c_b [.slice Q1 Q0 Q2, .int .i64 ((c.pos : Nat) : Int), .int .i64 c.h] 80]) (hD : ∀ b, H b → ¬ fps [bx c_b [.slice Q1 Q0 Q2, .int .i64 ((c.pos : Nat) : Int), .int .i64 c.h] 80] b) :
    Calls Tryz.prog 36 #[.pointer (some ⟨c_b, 0, none⟩), .int .i64 n] w fun e w' => ∃ (i2 : Nat), ∃ (h2 : Int), ∃ (r : Nat), e = .returned (.int .i64 ((r : Nat) : Int)) ∧ Mv [bx c_b [.slice Q1 Q0 Q2, .int .i64 ((c.pos : Nat) : Int), .int .i64 c.h] 80] w [bx c_b [.slice Q1 Q0 Q2, .int .i64 ((i2 : Nat) : Int), .int .i64 h2] 80] w' ∧ i2 ≤ Q0 ∧ i64ok h2 ∧ ((0 : Int) < n → (r : Int) < n) ∧ (n ≤ (0 : Int) → r = 0) := by
 have uU : True := (fun _ _ _ _ => trivial) Q6 Q5 h_n p0
 clear uU
 have Q3 : RdA 1 encB okB (V H w [bx c_b [.slice Q1 Q0 Q2, .int .i64 ((c.pos : Nat) : Int), .int .i64 c.h] 80]) w (.slice Q1 Q0 Q2) c.code := RdA.start Q4 hD
 obtain ⟨Q8, Q7, Q9, Q10⟩ := RdA.inv Q4
 refine calls_enter 37 Tryz.func36 rfl Tryz.ntmps36 (Nat.le_of_ble_eq_true rfl) (fun _ F0i => ?_)
 have F0 : Fr 37 [(0, .pointer (some ⟨c_b, 0, none⟩)), (1, .int .i64 n)] _ := F0i
 clear F0i
 refine wp_seq (wp_region_lit (l_op (f_val F0 rfl rfl (r_assign rfl rfl) rfl fun _ F1 => ?_)))
 refine s_end (x_normal (wp_seq (wp_seq (wp_region_lit (l_op (f_mv F1 rfl rfl rfl rfl rfl fun _ F2 => ?_))))))
 refine l_op (f_val F2 rfl rfl (r_cmp (b := decide (n ≤ 0)) (.inr (.inr (.inr (.inl rfl)))) rfl (F2.ev 9 rfl) rfl (dec_of (by omega))) rfl fun _ F3 => ?_)
 refine s_end (x_normal (x_cond (p := n ≤ 0) (F3.ev 10 rfl) (fun h4 => ?_) (fun h4 => ?_)))
 · skip
   refine wp_seq (wp_region_lit (l_op (f_val F3 rfl rfl (r_assign rfl rfl) rfl fun _ F5 => ?_)))
   refine s_end (x_normal (wp_ret (x_then_ret ?_)))
   refine x_done (v := .int .i64 0) F5 (results_1 Tryz.results36 (.tmp (F5.ev 4 rfl))) ?_
   exact ⟨c.pos, c.h, 0, rfl, (Mv.pick (Mv.refl hA) [0] rfl), by first | assumption | exact w64_ok _ | omega | (unfold i64ok; omega), by first | assumption | exact w64_ok _ | omega | (unfold i64ok; omega), by omega, by omega⟩
 · skip
   refine wp_skip (x_normal (wp_seq (wp_seq (wp_region_lit (l_op (f_mv F3 rfl rfl rfl rfl rfl fun _ F6 => ?_))))))
   refine l_op (f_val F6 rfl rfl (r_cmp (b := decide (n ≤ 256)) (.inr (.inr (.inr (.inl rfl)))) rfl (F6.ev 11 rfl) rfl (dec_of (by omega))) rfl fun _ F7 => ?_)
   refine s_end (x_normal (x_cond (p := n ≤ 256) (F7.ev 12 rfl) (fun h8 => ?_) (fun h8 => ?_)))
   · skip
     refine wp_seq (wp_region_lit (l_op (f_mv F7 rfl rfl rfl rfl rfl fun _ F9 => ?_)))
     refine l_op (f_call F9 CF_69 rfl rfl rfl rfl (lc (F9.ev 13 rfl) rfl) (spec_l01Byte_c (c := c) Q3 (by unfold i64ok; (try dsimp only); omega) (by first | assumption | exact w64_ok _ | exact ⟨by omega, by omega⟩ | (unfold i64ok at *; omega)) (by first | assumption | omega | (simp <;> omega)) (At.pick (is := [0]) hA rfl) (V_off (is := [0]))) ?_)
     rintro _ w10 ⟨i2_10, h2_10, r_10, rfl, m10, q10_0, q10_1, q10_2⟩
     refine ⟨_, rfl, fun _ F11 => ?_⟩
     have S10 : Mv _ _ [bx c_b [.slice Q1 Q0 Q2, .int .i64 ((i2_10 : Nat) : Int), .int .i64 h2_10] 80] _ := At.frame hA [0] rfl m10
     clear m10
     refine l_op (f_mv F11 rfl rfl rfl rfl rfl fun _ F12 => ?_)
     have rm13 := Nat.mod_lt r_10 (show 0 < (n).toNat by omega)
     refine l_op (f_val F12 rfl rfl (r_remN (by omega) rfl (F12.ev 14 rfl) (F12.ev 15 rfl)) rfl fun _ F14 => ?_)
     refine l_op (f_as F14 rfl rfl rfl rfl rfl fun _ F15 => ?_)
     refine s_end (x_normal (wp_ret (x_then_ret ?_)))
     refine x_done (v := .int .i64 ((r_10 % (n).toNat : Nat) : Int)) F15 (results_1 Tryz.results36 (.tmp (F15.ev 4 rfl))) ?_
     exact ⟨i2_10, h2_10, r_10 % (n).toNat, rfl, (Mv.pick S10 [0] rfl), by first | assumption | exact w64_ok _ | omega | (unfold i64ok; omega), by first | assumption | exact w64_ok _ | omega | (unfold i64ok; omega), by omega, by omega⟩
   · skip
     refine wp_skip (x_normal (wp_seq (wp_region_lit (l_op (f_mv F7 rfl rfl rfl rfl rfl fun _ F16 => ?_)))))
     refine l_op (f_call F16 CF_69 rfl rfl rfl rfl (lc (F16.ev 17 rfl) rfl) (spec_l01Byte_c (c := c) Q3 (by unfold i64ok; (try dsimp only); omega) (by first | assumption | exact w64_ok _ | exact ⟨by omega, by omega⟩ | (unfold i64ok at *; omega)) (by first | assumption | omega | (simp <;> omega)) (At.pick (is := [0]) hA rfl) (V_off (is := [0]))) ?_)
     rintro _ w17 ⟨i2_17, h2_17, r_17, rfl, m17, q17_0, q17_1, q17_2⟩
     refine ⟨_, rfl, fun _ F18 => ?_⟩
     have S17 : Mv _ _ [bx c_b [.slice Q1 Q0 Q2, .int .i64 ((i2_17 : Nat) : Int), .int .i64 h2_17] 80] _ := At.frame hA [0] rfl m17
     clear m17
     refine l_op (f_as F18 rfl rfl rfl rfl rfl fun _ F19 => ?_)
     refine s_end (x_normal (wp_seq (wp_region_lit (l_op (f_mv F19 rfl rfl rfl rfl rfl fun _ F20 => ?_)))))
     refine l_op (f_call F20 CF_69 rfl rfl rfl rfl (lc (F20.ev 19 rfl) rfl) (spec_l01Byte_c (c := (⟨c.code, i2_17, h2_17⟩ : CurD)) (RdA.mv (Nat.succ_pos _) Q3 S17) (by unfold i64ok; (try dsimp only); omega) (by first | assumption | exact w64_ok _ | exact ⟨by omega, by omega⟩ | (unfold i64ok at *; omega)) (by first | assumption | omega | (simp <;> omega)) (At.pick (is := [0]) S17.at' rfl) (V_off (is := [0]))) ?_)
     rintro _ w21 ⟨i2_21, h2_21, r_21, rfl, m21, q21_0, q21_1, q21_2⟩
     refine ⟨_, rfl, fun _ F22 => ?_⟩
     have S21 : Mv _ _ [bx c_b [.slice Q1 Q0 Q2, .int .i64 ((i2_21 : Nat) : Int), .int .i64 h2_21] 80] _ := At.frame S17.at' [0] rfl m21
     clear m21
     refine l_op (f_as F22 rfl rfl rfl rfl rfl fun _ F23 => ?_)
     refine s_end (x_normal (wp_seq (wp_region_lit (l_op (f_mv F23 rfl rfl rfl rfl rfl fun _ F24 => ?_)))))
     refine l_op (f_call F24 CF_69 rfl rfl rfl rfl (lc (F24.ev 21 rfl) rfl) (spec_l01Byte_c (c := (⟨c.code, i2_21, h2_21⟩ : CurD)) (RdA.mv (Nat.succ_pos _) Q3 (S17.trans S21)) (by unfold i64ok; (try dsimp only); omega) (by first | assumption | exact w64_ok _ | exact ⟨by omega, by omega⟩ | (unfold i64ok at *; omega)) (by first | assumption | omega | (simp <;> omega)) (At.pick (is := [0]) S21.at' rfl) (V_off (is := [0]))) ?_)
     rintro _ w25 ⟨i2_25, h2_25, r_25, rfl, m25, q25_0, q25_1, q25_2⟩
     refine ⟨_, rfl, fun _ F26 => ?_⟩
     have S25 : Mv _ _ [bx c_b [.slice Q1 Q0 Q2, .int .i64 ((i2_25 : Nat) : Int), .int .i64 h2_25] 80] _ := At.frame S21.at' [0] rfl m25
     clear m25
     refine l_op (f_as F26 rfl rfl rfl rfl rfl fun _ F27 => ?_)
     refine s_end (x_normal (wp_seq (wp_region_lit (l_op (f_mv F27 rfl rfl rfl rfl rfl fun _ F28 => ?_)))))
     refine l_op (f_call F28 CF_69 rfl rfl rfl rfl (lc (F28.ev 23 rfl) rfl) (spec_l01Byte_c (c := (⟨c.code, i2_25, h2_25⟩ : CurD)) (RdA.mv (Nat.succ_pos _) Q3 (S17.trans (S21.trans S25))) (by unfold i64ok; (try dsimp only); omega) (by first | assumption | exact w64_ok _ | exact ⟨by omega, by omega⟩ | (unfold i64ok at *; omega)) (by first | assumption | omega | (simp <;> omega)) (At.pick (is := [0]) S25.at' rfl) (V_off (is := [0]))) ?_)
     rintro _ w29 ⟨i2_29, h2_29, r_29, rfl, m29, q29_0, q29_1, q29_2⟩
     refine ⟨_, rfl, fun _ F30 => ?_⟩
     have S29 : Mv _ _ [bx c_b [.slice Q1 Q0 Q2, .int .i64 ((i2_29 : Nat) : Int), .int .i64 h2_29] 80] _ := At.frame S25.at' [0] rfl m29
     clear m29
     refine l_op (f_as F30 rfl rfl rfl rfl rfl fun _ F31 => ?_)
     refine s_end (x_normal (wp_seq (wp_region_lit (l_op (f_mv F31 rfl rfl rfl rfl rfl fun _ F32 => ?_)))))
     refine l_op (f_val F32 rfl rfl (r_mul (z := ((r_17 * 16777216 : Nat) : Int)) rfl (F32.ev 25 rfl) rfl (by first | rfl | omega) ⟨by first | omega | (unfold i64ok at *; omega), by first | omega | (unfold i64ok at *; omega)⟩) rfl fun _ F33 => ?_)
     refine l_op (f_mv F33 rfl rfl rfl rfl rfl fun _ F34 => ?_)
     refine l_op (f_val F34 rfl rfl (r_mul (z := ((r_21 * 65536 : Nat) : Int)) rfl (F34.ev 27 rfl) rfl (by first | rfl | omega) ⟨by first | omega | (unfold i64ok at *; omega), by first | omega | (unfold i64ok at *; omega)⟩) rfl fun _ F35 => ?_)
     refine l_op (f_val F35 rfl rfl (r_add (z := (((r_17 * 16777216) + (r_21 * 65536) : Nat) : Int)) rfl (F35.ev 26 rfl) (F35.ev 28 rfl) (by first | rfl | omega) ⟨by first | omega | (unfold i64ok at *; omega), by first | omega | (unfold i64ok at *; omega)⟩) rfl fun _ F36 => ?_)
     refine l_op (f_mv F36 rfl rfl rfl rfl rfl fun _ F37 => ?_)
     refine l_op (f_val F37 rfl rfl (r_mul (z := ((r_25 * 256 : Nat) : Int)) rfl (F37.ev 30 rfl) rfl (by first | rfl | omega) ⟨by first | omega | (unfold i64ok at *; omega), by first | omega | (unfold i64ok at *; omega)⟩) rfl fun _ F38 => ?_)
     refine l_op (f_val F38 rfl rfl (r_add (z := ((((r_17 * 16777216) + (r_21 * 65536)) + (r_25 * 256) : Nat) : Int)) rfl (F38.ev 29 rfl) (F38.ev 31 rfl) (by first | rfl | omega) ⟨by first | omega | (unfold i64ok at *; omega), by first | omega | (unfold i64ok at *; omega)⟩) rfl fun _ F39 => ?_)
     refine l_op (f_mv F39 rfl rfl rfl rfl rfl fun _ F40 => ?_)
     refine l_op (f_val F40 rfl rfl (r_add (z := (((((r_17 * 16777216) + (r_21 * 65536)) + (r_25 * 256)) + r_29 : Nat) : Int)) rfl (F40.ev 32 rfl) (F40.ev 33 rfl) (by first | rfl | omega) ⟨by first | omega | (unfold i64ok at *; omega), by first | omega | (unfold i64ok at *; omega)⟩) rfl fun _ F41 => ?_)
     refine l_op (f_mv F41 rfl rfl rfl rfl rfl fun _ F42 => ?_)
     have rm43 := Nat.mod_lt ((((r_17 * 16777216) + (r_21 * 65536)) + (r_25 * 256)) + r_29) (show 0 < (n).toNat by omega)
     refine l_op (f_val F42 rfl rfl (r_remN (by omega) rfl (F42.ev 34 rfl) (F42.ev 35 rfl)) rfl fun _ F44 => ?_)
     refine l_op (f_as F44 rfl rfl rfl rfl rfl fun _ F45 => ?_)
     refine s_end (x_normal (wp_ret ?_))
     refine x_done (v := .int .i64 ((((((r_17 * 16777216) + (r_21 * 65536)) + (r_25 * 256)) + r_29) % (n).toNat : Nat) : Int)) F45 (results_1 Tryz.results36 (.tmp (F45.ev 4 rfl))) ?_
     exact ⟨i2_29, h2_29, ((((r_17 * 16777216) + (r_21 * 65536)) + (r_25 * 256)) + r_29) % (n).toNat, rfl, (Mv.pick (S17.trans (S21.trans (S25.trans S29))) [0] rfl), by first | assumption | exact w64_ok _ | omega | (unfold i64ok; omega), by first | assumption | exact w64_ok _ | omega | (unfold i64ok; omega), by omega, by omega⟩
theorem spec_DrawPlaces_c {w : World} {H : Nat → Prop} {code : List Nat} {Q1 : Option Addr} {Q0 Q2 : Nat} (Q4 : RdA 1 encB okB H w (.slice Q1 Q0 Q2) code) (p0 : Q0 ≤ 1048576) :
    Calls Tryz.prog 24 #[.slice Q1 Q0 Q2] w fun e w' => ∃ (p : List Int), ∃ (r0_a : Option Addr), ∃ (r0_n : Nat), ∃ (r0_c : Nat), e = .returned (.slice r0_a r0_n r0_c) ∧ Mv [] w [] w' ∧ Rd 1 encI okI (Fsh H w) w' (.slice r0_a r0_n r0_c) p ∧ p.length = 12 ∧ pOk p := by
 have uU : True := (fun _ => trivial) p0
 clear uU
 have Q3 : RdA 1 encB okB (V H w []) w (.slice Q1 Q0 Q2) code := RdA.start Q4 (fun _ _ => fps_nil _)
 obtain ⟨Q6, Q5, Q7, Q8⟩ := RdA.inv Q4
 refine calls_enter 19 Tryz.func24 rfl Tryz.ntmps24 (Nat.le_of_ble_eq_true rfl) (fun _ F0i => ?_)
 have F0 : Fr 19 [(0, .slice Q1 Q0 Q2)] _ := F0i
 clear F0i
 refine wp_seq (wp_region_lit (l_op (f_val F0 rfl rfl (r_assign rfl rfl) rfl fun _ F1 => ?_)))
 refine s_end (x_normal (wp_seq (wp_region_lit (l_op (f_mv F1 rfl rfl rfl rfl rfl fun _ F2 => ?_)))))
 refine l_op (f_call F2 CF_34 rfl rfl rfl rfl (lc (F2.ev 6 rfl) rfl) (spec_l01New_c (code := code) Q3 (by first | assumption | omega | (simp <;> omega))) ?_)
 rintro _ w3 ⟨h2_3, r0_b_3, rfl, m3, q3_0⟩
 refine ⟨_, rfl, fun _ F4 => ?_⟩
 have S3 : Mv _ _ [bx r0_b_3 [.slice Q1 Q0 Q2, .int .i64 ((0 : Nat) : Int), .int .i64 h2_3] 80] _ := At.frame (At.nil w) [] rfl m3
 clear m3
 refine l_op (f_as F4 rfl rfl rfl rfl rfl fun _ F5 => ?_)
 refine s_end (x_normal (wp_seq (wp_region_lit (l_op (f_buildSl (ok := okI) (vs := []) F5 S3.at' (([] : List Int)) ET_47 rfl rfl rfl rfl rfl rfl rfl rfl rfl (by simp) fun b6 _ w6 F7 S6 => ?_)))))
 refine l_op (f_as F7 rfl rfl rfl rfl rfl fun _ F8 => ?_)
 refine s_end (x_normal (wp_seq (wp_seq (wp_region_lit (l_op (f_val F8 rfl rfl (r_assign rfl rfl) rfl fun _ F9 => ?_))))))
 refine s_end (x_normal (wp_block ?_))
 refine x_loop (fun (k : Nat) aZ wZ => ∃ (pp : Nat), ∃ (hh : Int), ∃ (D : List Int), ∃ (oa : Option Addr), ∃ (on : Nat), ∃ (oc : Nat), Fr 19 [(5, .int .i64 ((k : Nat) : Int)), (4, .slice oa on oc), (3, .pointer (some ⟨r0_b_3, 0, none⟩))] aZ ∧ Mv [ow 3 1 encI okI (.slice (some ⟨b6, 0, none⟩) 0 0) ([] : List Int), bx r0_b_3 [.slice Q1 Q0 Q2, .int .i64 ((0 : Nat) : Int), .int .i64 h2_3] 80] w6 [ow 3 1 encI okI (.slice oa on oc) D, bx r0_b_3 [.slice Q1 Q0 Q2, .int .i64 ((pp : Nat) : Int), .int .i64 hh] 80] wZ ∧ (pp ≤ Q0) ∧ (i64ok hh) ∧ (D.length = k) ∧ (pOk D) ∧ (k ≤ 12)) (fun (k : Nat) => 12 - k) (0) ?_ ?_
 · exact ⟨0, h2_3, ([] : List Int), (some ⟨b6, 0, none⟩), 0, 0, F9.cut rfl, (Mv.refl S6.at'), by omega, by assumption, rfl, pOk_nil, by omega⟩
 · rintro k a10 w10 ⟨pp, hh, D, oa, on, oc, F10, S10, hk_0, hk_1, hk_2, hk_3, hk_4⟩
   refine wp_seq (wp_seq (wp_region_lit (l_op (f_mv F10 rfl rfl rfl rfl rfl fun _ F11 => ?_))))
   refine l_op (f_val F11 rfl rfl (r_cmp (b := decide (k < 12)) (.inr (.inr (.inl rfl))) rfl (F11.ev 9 rfl) rfl (dec_of (by omega))) rfl fun _ F12 => ?_)
   refine s_end (x_normal (x_cond (p := k < 12) (F12.ev 10 rfl) (fun h13 => ?_) (fun h13 => ?_)))
   · skip
     refine wp_skip (x_normal (wp_seq (wp_block (wp_region_lit (l_op (f_mv F12 rfl rfl rfl rfl rfl fun _ F14 => ?_))))))
     refine l_op (f_mv F14 rfl rfl rfl rfl rfl fun _ F15 => ?_)
     refine l_op (f_call F15 CF_36 rfl rfl rfl rfl (lc (F15.ev 14 rfl) (lc rfl rfl)) (spec_l01Below_c (c := (⟨code, pp, hh⟩ : CurD)) (n := 10000) (RdA.mv (Nat.succ_pos _) Q3 (S3.trans (S6.trans S10))) (by unfold i64ok; (try dsimp only); omega) (by first | assumption | exact w64_ok _ | exact ⟨by omega, by omega⟩ | (unfold i64ok at *; omega)) (by first | assumption | exact ⟨by omega, by omega⟩ | (unfold i64ok at *; omega)) (by first | assumption | omega | (simp <;> omega)) (At.pick (is := [1]) S10.at' rfl) (V_off (is := [1]))) ?_)
     rintro _ w16 ⟨i2_16, h2_16, r_16, rfl, m16, q16_0, q16_1, q16_2, q16_3⟩
     refine ⟨_, rfl, fun _ F17 => ?_⟩
     have S16 : Mv _ _ [bx r0_b_3 [.slice Q1 Q0 Q2, .int .i64 ((i2_16 : Nat) : Int), .int .i64 h2_16] 80, ow 3 1 encI okI (.slice oa on oc) D] _ := At.frame S10.at' [1] rfl m16
     clear m16
     refine l_op (f_buildSl (ok := okI) (vs := [.int .i64 ((r_16 : Nat) : Int)]) F17 S16.at' ([((r_16 : Nat) : Int)]) ET_47 rfl rfl rfl rfl rfl rfl (lc (pr2 (F17.ev 15 rfl)) rfl) rfl rfl (fun x hx => (List.mem_singleton.1 hx) ▸ ⟨by omega, by omega⟩) fun b18 _ w18 F19 S18 => ?_)
     refine l_op (f_app (news := [((r_16 : Nat) : Int)]) F19 S18.at' 2 ET_47 rfl rfl rfl rfl rfl rfl (F19.ev 13 rfl) (F19.ev 16 rfl) ((At.rd S18.at' ET_47.hk 0 rfl)).1 (by ((repeat (first | rw [List.length_append] | rw [List.length_cons] | rw [List.length_nil] | rw [List.length_take] | rw [List.length_drop])) <;> omega)) fun A20 N20 C20 _ w20 F21 S20 l20 => ?_)
     have S22 := At.drop S20.at' 1
     refine l_op (f_as F21 rfl rfl rfl rfl rfl fun _ F23 => ?_)
     have T24 : Mv _ _ [ow 3 1 encI okI (.slice A20 N20 C20) (D ++ ([((r_16 : Nat) : Int)])), bx r0_b_3 [.slice Q1 Q0 Q2, .int .i64 ((i2_16 : Nat) : Int), .int .i64 h2_16] 80] _ := S22
     refine s_end (x_block_normal (x_normal (wp_region_lit (l_op (f_mv F23 rfl rfl rfl rfl rfl fun _ F25 => ?_)))))
     refine l_op (f_val F25 rfl rfl (r_add (z := ((k + 1 : Nat) : Int)) rfl (F25.ev 11 rfl) rfl (by first | rfl | omega) ⟨by first | omega | (unfold i64ok at *; omega), by first | omega | (unfold i64ok at *; omega)⟩) rfl fun _ F26 => ?_)
     refine l_op (f_as F26 rfl rfl rfl rfl rfl fun _ F27 => ?_)
     refine s_end ?_
     refine x_normal ⟨k + 1, by omega, i2_16, h2_16, D ++ ([((r_16 : Nat) : Int)]), A20, N20, C20, F27.cut rfl, ((S10.trans (S16.trans (S18.trans (S20.trans T24)))).pick [0, 1] rfl), by omega, by assumption, by rw [List.length_append, List.length_singleton]; omega, pOk_snoc ‹_› (by omega), by omega⟩
   · skip
     refine wp_exit (x_then_exit (x_then_exit (x_block_here (x_normal (wp_seq (wp_region_lit (l_op (f_mv F12 rfl rfl rfl rfl rfl fun _ F28 => ?_))))))))
     refine l_op (f_as F28 rfl rfl rfl rfl rfl fun _ F29 => ?_)
     refine s_end (x_normal (wp_ret ?_))
     have Z30 : Rd 1 encI okI (V H w [bx r0_b_3 [.slice Q1 Q0 Q2, .int .i64 ((pp : Nat) : Int), .int .i64 hh] 80]) w10 (.slice oa on oc) D := At.freeze (S3.trans (S6.trans S10)) ET_47.hk 0 rfl (fun b hb => ((S3.trans (S6.trans S10)).fresh b ⟨_, nth_mem (i := 0) rfl, hb⟩).resolve_left (fps_nil _))
     have S30 := At.drop S10.at' 0
     refine x_done (v := .slice oa on oc) F29 (results_1 Tryz.results24 (.tmp (F29.ev 2 rfl))) ?_
     exact ⟨D, oa, on, oc, rfl, (Mv.pick (S3.trans (S6.trans (S10.trans S30))) [] rfl), (Rd.give Z30), by omega, by assumption⟩
theorem spec_MachOf_c {w : World} {H : Nat → Prop} {s : List CellD} {s_a : Option Addr} {s_n s_c : Nat} (v_s : Rd 2 encC okC H w (.slice s_a s_n s_c) s) (p0 : s_n ≤ 274877906944) :
    Calls Tryz.prog 55 #[.slice s_a s_n s_c] w fun e w' => ∃ (Q3 : Option Addr), ∃ (Q5 : Nat), ∃ (Q4 : Nat), ∃ (Q0 : Option Addr), ∃ (Q2 : Nat), ∃ (Q1 : Nat), ∃ (Q6 : Option Addr), ∃ (Q8 : Nat), ∃ (Q7 : Nat), e = .returned (.agg #[.slice Q3 Q5 Q4, .slice Q0 Q2 Q1, .slice Q6 Q8 Q7]) ∧ Mv [] w [] w' ∧ Rd 2 encC okC (Fsh H w) w' (.slice Q3 Q5 Q4) s ∧ Rd 1 encS okS (Fsh H w) w' (.slice Q0 Q2 Q1) ([]) ∧ Rd 1 encS okS (Fsh H w) w' (.slice Q6 Q8 Q7) ([]) := by
 have uU : True := (fun _ => trivial) p0
 clear uU
 have Q9 : Rd 2 encC okC (V H w []) w (.slice s_a s_n s_c) s := Rd.start v_s (fun _ _ => fps_nil _)
 obtain ⟨ln_s, le_s, mx_s, ni_s⟩ := Rd.inv v_s
 refine calls_enter 7 Tryz.func55 rfl Tryz.ntmps55 (Nat.le_of_ble_eq_true rfl) (fun _ F0i => ?_)
 have F0 : Fr 7 [(0, .slice s_a s_n s_c)] _ := F0i
 clear F0i
 refine wp_seq (wp_region_lit (l_op (f_alloc F0 (At.nil w) ZI_29 rfl rfl rfl rfl rfl fun b1 _ w1 F2 S1 => ?_)))
 refine s_end (x_normal (wp_seq (wp_region_lit (l_op (f_buildSl (ok := okC) (vs := []) F2 S1.at' (([] : List CellD)) ET_24 rfl rfl rfl rfl rfl rfl rfl rfl rfl (by simp) fun b3 _ w3 F4 S3 => ?_)))))
 refine l_op (f_mv F4 rfl rfl rfl rfl rfl fun _ F5 => ?_)
 refine l_op (f_app (news := s) F5 S3.at' 0 ET_24 rfl rfl rfl rfl rfl rfl (F5.ev 3 rfl) (F5.ev 4 rfl) ((Rd.mq Q9 (S1.trans S3))).1 (by ((repeat (first | rw [List.length_append] | rw [List.length_cons] | rw [List.length_nil] | rw [List.length_take] | rw [List.length_drop])) <;> omega)) fun A6 N6 C6 _ w6 F7 S6 l6 => ?_)
 refine l_op (f_val (v := .agg #[.slice A6 N6 C6, .slice none 0 0, .slice none 0 0]) F7 rfl rfl (r_build BI_29 rfl (lc (pr2 (F7.ev 5 rfl)) rfl) rfl) rfl fun _ F8 => ?_)
 refine l_op (s_store S6.at' 1 TI_29 rfl rfl rfl rfl rfl (F8.ev 2 rfl) (F8.ev 6 rfl) rfl rfl rfl rfl rfl fun w9 S9 => ?_)
 have T10 : Mv _ _ [bx b1 [.slice A6 N6 C6, .slice none 0 0, .slice none 0 0] 29, ow 73 2 encC okC (.slice A6 N6 C6) (([] : List CellD) ++ s)] _ := S9
 refine s_end (x_normal (wp_ret ?_))
 have Z11 : Rd 2 encC okC (V H w [bx b1 [.slice A6 N6 C6, .slice none 0 0, .slice none 0 0] 29]) w9 (.slice A6 N6 C6) (([] : List CellD) ++ s) := At.freeze (S1.trans (S3.trans (S6.trans T10))) ET_24.hk 1 rfl (fun b hb => ((S1.trans (S3.trans (S6.trans T10))).fresh b ⟨_, nth_mem (i := 1) rfl, hb⟩).resolve_left (fps_nil _))
 have S11 := At.drop T10.at' 1
 refine x_done (v := .agg #[.slice A6 N6 C6, .slice none 0 0, .slice none 0 0]) F8 (results_1 Tryz.results55 (.cell (F8.ev 2 rfl) (run_loadVar' TI_29 _ [.slice A6 N6 C6, .slice none 0 0, .slice none 0 0] rfl (fun h => nomatch h) (At.cells T10.at' 0 rfl 0 [.slice A6 N6 C6, .slice none 0 0, .slice none 0 0] rfl)))) ?_
 exact ⟨A6, N6, C6, none, 0, 0, none, 0, 0, rfl, (Mv.pick (S1.trans (S3.trans (S6.trans (T10.trans S11)))) [] rfl), (Rd.cast (Rd.give Z11) (show (([] : List CellD) ++ s) = s from by rfl)), Rd.nil, Rd.nil⟩
theorem laws_big_c {w : World} {H : Nat → Prop} {code : List Nat} {Q1 : Option Addr} {Q0 Q2 : Nat} (Q3 : RdA 1 encB okB H w (.slice Q1 Q0 Q2) code) :
    Calls Tryz.prog 5 #[.slice Q1 Q0 Q2] w fun e w' => e = .returned (.bool (decide (code.length > 1048576))) ∧ Mv [] w [] w' := by
 have Q5 : RdA 1 encB okB (V H w []) w (.slice Q1 Q0 Q2) code := RdA.start Q3 (fun _ _ => fps_nil _)
 obtain ⟨Q4, Q6, Q7, Q8⟩ := RdA.inv Q3
 refine calls_enter 6 Tryz.func5 rfl Tryz.ntmps5 (Nat.le_of_ble_eq_true rfl) (fun _ F0i => ?_)
 have F0 : Fr 6 [(0, .slice Q1 Q0 Q2)] _ := F0i
 clear F0i
 refine wp_seq (wp_region_lit (l_op (f_val F0 rfl rfl (r_assign rfl rfl) rfl fun _ F1 => ?_)))
 refine s_end (x_normal (wp_seq (wp_region_lit (l_op (f_mv F1 rfl rfl rfl rfl rfl fun _ F2 => ?_)))))
 refine l_op (f_val F2 rfl rfl (r_len Tryz.underlying22 rfl (F2.ev 3 rfl)) rfl fun _ F3 => ?_)
 refine l_op (f_val F3 rfl rfl (r_cmp (b := decide (Q0 > 1048576)) (.inr (.inr (.inr (.inr (.inl rfl))))) rfl (F3.ev 4 rfl) rfl (dec_of (by omega))) rfl fun _ F4 => ?_)
 refine l_op (f_as F4 rfl rfl rfl rfl rfl fun _ F5 => ?_)
 refine s_end (x_normal (wp_ret ?_))
 refine x_done (v := .bool (decide (Q0 > 1048576))) F5 (results_1 Tryz.results5 (.tmp (F5.ev 2 rfl))) ?_
 exact ⟨(by rw [(show (decide (Q0 > 1048576)) = (decide (code.length > 1048576)) from by rw [Q4])]), (Mv.pick (Mv.refl (At.nil w)) [] rfl)⟩
theorem laws_base_c {w : World} {H : Nat → Prop}   :
    Calls Tryz.prog 22 #[] w fun e w' => ∃ (Q12 : Option Addr), ∃ (Q14 : Nat), ∃ (Q13 : Nat), ∃ (Q9 : Option Addr), ∃ (Q11 : Nat), ∃ (Q10 : Nat), ∃ (Q15 : Option Addr), ∃ (Q17 : Nat), ∃ (Q16 : Nat), e = .returned (.agg #[.slice Q12 Q14 Q13, .slice Q9 Q11 Q10, .slice Q15 Q17 Q16]) ∧ Mv [] w [] w' ∧ Rd 2 encC okC (Fsh H w) w' (.slice Q12 Q14 Q13) ([]) ∧ Rd 1 encS okS (Fsh H w) w' (.slice Q9 Q11 Q10) ([]) ∧ Rd 1 encS okS (Fsh H w) w' (.slice Q15 Q17 Q16) ([]) := by
 refine calls_enter 3 Tryz.func22 rfl Tryz.ntmps22 (Nat.le_of_ble_eq_true rfl) (fun _ F0i => ?_)
 have F0 : Fr 3 [] _ := F0i
 clear F0i
 refine wp_seq (wp_region_lit (l_op (f_alloc F0 (At.nil w) ZI_29 rfl rfl rfl rfl rfl fun b1 _ w1 F2 S1 => ?_)))
 refine s_end (x_normal (wp_seq (wp_region_lit (l_op (f_buildSl (ok := okC) (vs := []) F2 S1.at' (([] : List CellD)) ET_24 rfl rfl rfl rfl rfl rfl rfl rfl rfl (by simp) fun b3 _ w3 F4 S3 => ?_)))))
 have Z6 : Rd 2 encC okC (V H w [bx b1 [.slice none 0 0, .slice none 0 0, .slice none 0 0] 29]) w3 (.slice (some ⟨b3, 0, none⟩) 0 0) ([] : List CellD) := At.freeze (S1.trans S3) ET_24.hk 0 rfl (fun b hb => ((S1.trans S3).fresh b ⟨_, nth_mem (i := 0) rfl, hb⟩).resolve_left (fps_nil _))
 have S6 := At.drop S3.at' 0
 refine l_op (f_call F4 CF_55 rfl rfl rfl rfl (lc (F4.ev 1 rfl) rfl) (spec_MachOf_c (s := ([] : List CellD)) Z6 (by first | assumption | omega | (simp <;> omega))) ?_)
 rintro _ w5 ⟨Q3, Q5, Q4, Q0, Q2, Q1, Q6, Q8, Q7, rfl, m5, v5_0, v5_1, v5_2⟩
 refine ⟨_, rfl, fun _ F7 => ?_⟩
 have S5 := At.frame0 S6.at' m5
 have V5_0 := Rd.got0 S6.at' ((S1.trans (S3.trans S6)).kp.size) v5_0 S5
 obtain ⟨ln5_0, le5_0, mx5_0, ni5_0⟩ := Rd.inv V5_0
 have V5_1 := Rd.got0 S6.at' ((S1.trans (S3.trans S6)).kp.size) v5_1 S5
 obtain ⟨ln5_1, le5_1, mx5_1, ni5_1⟩ := Rd.inv V5_1
 have V5_2 := Rd.got0 S6.at' ((S1.trans (S3.trans S6)).kp.size) v5_2 S5
 obtain ⟨ln5_2, le5_2, mx5_2, ni5_2⟩ := Rd.inv V5_2
 clear m5 v5_0 v5_1 v5_2
 refine l_op (s_store S5.at' 0 TI_29 rfl rfl rfl rfl rfl (F7.ev 0 rfl) (F7.ev 2 rfl) rfl rfl rfl rfl rfl fun w8 S8 => ?_)
 have T9 : Mv _ _ [bx b1 [.slice Q3 Q5 Q4, .slice Q0 Q2 Q1, .slice Q6 Q8 Q7] 29] _ := S8
 refine s_end (x_normal (wp_ret ?_))
 refine x_done (v := .agg #[.slice Q3 Q5 Q4, .slice Q0 Q2 Q1, .slice Q6 Q8 Q7]) F7 (results_1 Tryz.results22 (.cell (F7.ev 0 rfl) (run_loadVar' TI_29 _ [.slice Q3 Q5 Q4, .slice Q0 Q2 Q1, .slice Q6 Q8 Q7] rfl (fun h => nomatch h) (At.cells T9.at' 0 rfl 0 [.slice Q3 Q5 Q4, .slice Q0 Q2 Q1, .slice Q6 Q8 Q7] rfl)))) ?_
 exact ⟨Q3, Q5, Q4, Q0, Q2, Q1, Q6, Q8, Q7, rfl, (Mv.pick (S1.trans (S3.trans (S6.trans (S5.trans T9)))) [] rfl), (Rd.cast (Rd.give (Rd.mq V5_0 T9)) (show ([] : List CellD) = ([]) from by rfl)), (Rd.give (Rd.mq V5_1 T9)), (Rd.give (Rd.mq V5_2 T9))⟩
end Go.Proofs.YtibgmijfnbnfkaaGreatDoor
