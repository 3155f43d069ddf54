/-
  Walks: clashes, covers, equal lists.
-/
import Derived.Test.YtbbkihijhdpliaaDat7
import Derived.Test.YtbbkihijhdpliaaGenX
namespace Go.Proofs.Ytbbkihijhdpliaa
open Go.ChangeShapes Go.WideShapes Go.ChangeAt Go.RowKit
set_option maxRecDepth 100000
set_option maxHeartbeats 1000000
theorem spec_Covers_c {w : World} {H : Nat → Prop} {list : List ByteArray} {list_a : Option Addr} {list_n list_c : Nat} {keys : List ByteArray} {keys_a : Option Addr} {keys_n keys_c : Nat} (v_list : Rd 1 encS okS H w (.slice list_a list_n list_c) list) (v_keys : Rd 1 encS okS H w (.slice keys_a keys_n keys_c) keys) :
    Calls Try.prog 36 #[.slice list_a list_n list_c, .slice keys_a keys_n keys_c] w fun e w' => e = .returned (.bool (coversL list keys)) ∧ Mv [] w [] w' := by
 have V_v_list : Rd 1 encS okS (V H w []) w (.slice list_a list_n list_c) list := Rd.start v_list (fun _ _ => fps_nil _)
 obtain ⟨ln_list, le_list, mx_list, ni_list⟩ := Rd.inv v_list
 have V_v_keys : Rd 1 encS okS (V H w []) w (.slice keys_a keys_n keys_c) keys := Rd.start v_keys (fun _ _ => fps_nil _)
 obtain ⟨ln_keys, le_keys, mx_keys, ni_keys⟩ := Rd.inv v_keys
 refine calls_enter 34 Try.func36 rfl Try.ntmps36 (Nat.le_of_ble_eq_true rfl) (fun _ F0i => ?_)
 have F0 : Fr 34 [(0, .slice list_a list_n list_c), (1, .slice keys_a keys_n keys_c)] _ := F0i
 clear F0i
 refine wp_seq (wp_region_lit (l_op (f_val F0 rfl rfl (r_assign rfl rfl) rfl fun _ F1 => ?_)))
 have F2 : Fr 34 [(4, .bool false), (0, .slice list_a list_n list_c), (1, .slice keys_a keys_n keys_c)] _ := F1.cut rfl
 clear F0 F1
 refine s_end (x_normal (wp_seq (wp_seq (wp_region_lit (l_op (f_val F2 rfl rfl (r_assign rfl rfl) rfl fun _ F3 => ?_))))))
 have F4 : Fr 34 [(5, .int .i64 0), (0, .slice list_a list_n list_c), (1, .slice keys_a keys_n keys_c)] _ := F3.cut rfl
 clear F2 F3
 refine s_end (x_normal (wp_block ?_))
 refine x_loop (fun (k : Nat) aZ wZ => Fr 34 [(5, .int .i64 ((k : Nat) : Int)), (0, .slice list_a list_n list_c), (1, .slice keys_a keys_n keys_c)] aZ ∧ Mv [] w [] wZ ∧ (k ≤ keys_n) ∧ (∀ j, j < k → ∀ x, nth keys j = some x → (list.any fun s => spanHas s x) = true)) (fun (k : Nat) => keys_n - k) (0) ?_ ?_
 · exact ⟨F4.cut rfl, (Mv.refl (At.nil w)), by omega, all_none⟩
 · rintro k a5 w5 ⟨F5, S5, hk_0, hk_1⟩
   refine wp_seq (wp_seq (wp_region_lit (l_op (f_mv F5 rfl rfl rfl rfl rfl fun _ F6 => ?_))))
   refine l_op (f_mv F6 rfl rfl rfl rfl rfl fun _ F7 => ?_)
   refine l_op (f_val F7 rfl rfl (r_len Try.underlying22 rfl (F7.ev 9 rfl)) rfl fun _ F8 => ?_)
   refine l_op (f_val F8 rfl rfl (r_cmp (b := decide (k < keys_n)) (.inr (.inr (.inl rfl))) rfl (F8.ev 8 rfl) (F8.ev 10 rfl) (dec_of (by omega))) rfl fun _ F9 => ?_)
   have F10 : Fr 34 [(11, .bool (decide (k < keys_n))), (5, .int .i64 ((k : Nat) : Int)), (0, .slice list_a list_n list_c), (1, .slice keys_a keys_n keys_c)] _ := F9.cut rfl
   clear F5 F6 F7 F8 F9
   refine s_end (x_normal (x_cond (p := k < keys_n) (F10.ev 11 rfl) (fun h11 => ?_) (fun h11 => ?_)))
   · skip
     refine wp_skip (x_normal (wp_seq (wp_block (wp_seq (wp_region_lit (l_op (f_val F10 rfl rfl (r_assign rfl rfl) rfl fun _ F12 => ?_)))))))
     have F13 : Fr 34 [(6, .bool false), (5, .int .i64 ((k : Nat) : Int)), (0, .slice list_a list_n list_c), (1, .slice keys_a keys_n keys_c)] _ := F12.cut rfl
     clear F10 F12
     refine s_end (x_normal (wp_seq (wp_seq (wp_region_lit (l_op (f_val F13 rfl rfl (r_assign rfl rfl) rfl fun _ F14 => ?_))))))
     have F15 : Fr 34 [(7, .int .i64 0), (6, .bool false), (5, .int .i64 ((k : Nat) : Int)), (0, .slice list_a list_n list_c), (1, .slice keys_a keys_n keys_c)] _ := F14.cut rfl
     clear F13 F14
     refine s_end (x_normal (wp_block ?_))
     refine x_loop (fun (q : Nat) aZ wZ => ∃ (ii : Bool), Fr 34 [(7, .int .i64 ((q : Nat) : Int)), (6, .bool ii), (5, .int .i64 ((k : Nat) : Int)), (0, .slice list_a list_n list_c), (1, .slice keys_a keys_n keys_c)] aZ ∧ Mv [] w5 [] wZ ∧ (q ≤ list_n) ∧ (∀ x, nth keys k = some x → ii = (list.take q).any fun s => spanHas s x)) (fun (q : Nat) => list_n - q) (0) ?_ ?_
     · exact ⟨false, F15.cut rfl, (Mv.refl S5.at'), by omega, fun x _ => rfl⟩
     · rintro q a16 w16 ⟨ii, F16, S16, hq_0, hq_1⟩
       refine wp_seq (wp_seq (wp_region_lit (l_op (f_mv F16 rfl rfl rfl rfl rfl fun _ F17 => ?_))))
       refine l_op (f_mv F17 rfl rfl rfl rfl rfl fun _ F18 => ?_)
       refine l_op (f_val F18 rfl rfl (r_len Try.underlying22 rfl (F18.ev 15 rfl)) rfl fun _ F19 => ?_)
       refine l_op (f_val F19 rfl rfl (r_cmp (b := decide (q < list_n)) (.inr (.inr (.inl rfl))) rfl (F19.ev 14 rfl) (F19.ev 16 rfl) (dec_of (by omega))) rfl fun _ F20 => ?_)
       have F21 : Fr 34 [(17, .bool (decide (q < list_n))), (7, .int .i64 ((q : Nat) : Int)), (6, .bool ii), (5, .int .i64 ((k : Nat) : Int)), (0, .slice list_a list_n list_c), (1, .slice keys_a keys_n keys_c)] _ := F20.cut rfl
       clear F16 F17 F18 F19 F20
       refine s_end (x_normal (x_cond (p := q < list_n) (F21.ev 17 rfl) (fun h22 => ?_) (fun h22 => ?_)))
       · skip
         refine wp_skip (x_normal (wp_seq (wp_block ?_)))
         rcases Bool.eq_false_or_eq_true ii with h24 | h24
         · skip
           obtain ⟨x1, hx1, okx1⟩ := Rd.elem (Rd.mv (Nat.succ_pos _) V_v_list (S5.trans S16)) q (by first | assumption | omega)
           obtain ⟨x2, hx2, okx2⟩ := Rd.elem (Rd.mv (Nat.succ_pos _) V_v_keys (S5.trans S16)) k (by first | assumption | omega)
           refine x_draw (fun aZ wZ => Fr 34 [(0, .slice list_a list_n list_c), (1, .slice keys_a keys_n keys_c), (5, .int .i64 ((k : Nat) : Int)), (6, .bool true), (7, .int .i64 ((q : Nat) : Int))] aZ ∧ Mv [] w16 [] wZ) [] mixed S16.at' (listed := #[false, false, false, false, false, false, false, false, false, false, false, false, false]) rfl (fun w26 S26 => ?_) [] rfl ?_
           · skip
             refine g_take F21 rfl (i := 0) (listed' := #[true, false, false, false, false, false, false, false, false, false, false, false, false]) rfl (by kernel_rfl) (by kernel_rfl) (by kernel_rfl) (fun _ _ _ h => h) (Sd.of (Mv.refl S26.at') [] rfl) rfl rfl rfl rfl (fun _ hz => (r_move rfl (F21.ev 6 rfl))) fun _ F27 => ?_
             refine g_take F27 rfl (i := 1) (listed' := #[true, true, false, false, false, false, false, false, false, false, false, false, false]) rfl (by kernel_rfl) (by kernel_rfl) (by kernel_rfl) (fun _ _ _ h => h) (Sd.of (Mv.refl S26.at') [] rfl) rfl rfl rfl rfl (fun _ hz => (r_move rfl (F27.ev 20 rfl))) fun _ F28 => ?_
             rw [h24] at F28
             refine g_skip F28 rfl (i := 2) (listed' := #[true, true, true, false, false, false, false, false, false, false, false, false, false]) rfl (by kernel_rfl) (by kernel_rfl) (by kernel_rfl) (fun _ _ _ h => h) (Sd.of (Mv.refl S26.at') [] rfl) rfl (wanted_g F28 rfl rfl rfl rfl) rfl rfl fun _ F29 => ?_
             refine g_skip F29 rfl (i := 3) (listed' := #[true, true, true, true, false, false, false, false, false, false, false, false, false]) rfl (by kernel_rfl) (by kernel_rfl) (by kernel_rfl) (fun _ _ _ h => h) (Sd.of (Mv.refl S26.at') [] rfl) rfl (wanted_g F29 rfl rfl rfl rfl) rfl rfl fun _ F30 => ?_
             refine g_skip F30 rfl (i := 4) (listed' := #[true, true, true, true, true, false, false, false, false, false, false, false, false]) rfl (by kernel_rfl) (by kernel_rfl) (by kernel_rfl) (fun _ _ _ h => h) (Sd.of (Mv.refl S26.at') [] rfl) rfl (wanted_g F30 rfl rfl rfl rfl) rfl rfl fun _ F31 => ?_
             refine g_skip F31 rfl (i := 5) (listed' := #[true, true, true, true, true, true, false, false, false, false, false, false, false]) rfl (by kernel_rfl) (by kernel_rfl) (by kernel_rfl) (fun _ _ _ h => h) (Sd.of (Mv.refl S26.at') [] rfl) rfl (wanted_g F31 rfl rfl rfl rfl) rfl rfl fun _ F32 => ?_
             refine g_skip F32 rfl (i := 6) (listed' := #[true, true, true, true, true, true, true, false, false, false, false, false, false]) rfl (by kernel_rfl) (by kernel_rfl) (by kernel_rfl) (fun _ _ _ h => h) (Sd.of (Mv.refl S26.at') [] rfl) rfl (wanted_g F32 rfl rfl rfl rfl) rfl rfl fun _ F33 => ?_
             refine g_skip F33 rfl (i := 7) (listed' := #[true, true, true, true, true, true, true, true, false, false, false, false, false]) rfl (by kernel_rfl) (by kernel_rfl) (by kernel_rfl) (fun _ _ _ h => h) (Sd.of (Mv.refl S26.at') [] rfl) rfl (wanted_g F33 rfl rfl rfl rfl) rfl rfl fun _ F34 => ?_
             refine g_skip F34 rfl (i := 8) (listed' := #[true, true, true, true, true, true, true, true, true, false, false, false, false]) rfl (by kernel_rfl) (by kernel_rfl) (by kernel_rfl) (fun _ _ _ h => h) (Sd.of (Mv.refl S26.at') [] rfl) rfl (wanted_g F34 rfl rfl rfl rfl) rfl rfl fun _ F35 => ?_
             refine g_skip F35 rfl (i := 9) (listed' := #[true, true, true, true, true, true, true, true, true, true, false, false, false]) rfl (by kernel_rfl) (by kernel_rfl) (by kernel_rfl) (fun _ _ _ h => h) (Sd.of (Mv.refl S26.at') [] rfl) rfl (wanted_g F35 rfl rfl rfl rfl) rfl rfl fun _ F36 => ?_
             refine g_skip F36 rfl (i := 10) (listed' := #[true, true, true, true, true, true, true, true, true, true, true, false, false]) rfl (by kernel_rfl) (by kernel_rfl) (by kernel_rfl) (fun _ _ _ h => h) (Sd.of (Mv.refl S26.at') [] rfl) rfl (wanted_g F36 rfl rfl rfl rfl) rfl rfl fun _ F37 => ?_
             refine g_take F37 rfl (i := 11) (listed' := #[true, true, true, true, true, true, true, true, true, true, true, true, false]) rfl (by kernel_rfl) (by kernel_rfl) (by kernel_rfl) (fun _ _ _ h => h) (Sd.of (Mv.refl S26.at') [] rfl) rfl rfl rfl rfl (fun _ hz => (r_pick (b := true) rfl (F37.ev 21 rfl) rfl)) fun _ F38 => ?_
             refine g_take F38 rfl (i := 12) (listed' := #[true, true, true, true, true, true, true, true, true, true, true, true, true]) rfl (by kernel_rfl) (by kernel_rfl) (by kernel_rfl) (fun _ _ _ h => h) (Sd.of (Mv.refl S26.at') [] rfl) rfl rfl rfl rfl (fun _ hz => (r_assign rfl (F38.ev 31 rfl))) fun _ F39 => ?_
             refine wpAnyH_done (by kernel_rfl) (x_normal ?_) _
             exact ⟨F39.cut rfl, (S26.pick [] rfl)⟩
           · rintro a40 w40 ⟨F40, S40⟩
             refine x_block_normal (x_normal (wp_region_lit (l_op (f_mv F40 rfl rfl rfl rfl rfl fun _ F41 => ?_))))
             refine l_op (f_val F41 rfl rfl (r_add (z := ((q + 1 : Nat) : Int)) rfl (F41.ev 18 rfl) rfl (by first | rfl | omega) ⟨by first | omega | (unfold i64ok at *; omega), by first | omega | (unfold i64ok at *; omega)⟩) rfl fun _ F42 => ?_)
             refine l_op (f_as F42 rfl rfl rfl rfl rfl fun _ F43 => ?_)
             have F44 : Fr 34 [(7, .int .i64 ((q + 1 : Nat) : Int)), (0, .slice list_a list_n list_c), (1, .slice keys_a keys_n keys_c), (5, .int .i64 ((k : Nat) : Int)), (6, .bool true)] _ := F43.cut rfl
             clear F40 F41 F42 F43
             refine s_end ?_
             refine x_normal ⟨q + 1, by omega, true, F44.cut rfl, ((S16.trans S40).pick [] rfl), by omega, fun x hx => by first | exact any_more (hq_1 x hx) (by assumption) | (obtain rfl := Option.some.inj (hx2.symm.trans hx); exact any_step (hq_1 _ hx) (by assumption) hx1)⟩
         · skip
           obtain ⟨x1, hx1, okx1⟩ := Rd.elem (Rd.mv (Nat.succ_pos _) V_v_list (S5.trans S16)) q (by first | assumption | omega)
           obtain ⟨x2, hx2, okx2⟩ := Rd.elem (Rd.mv (Nat.succ_pos _) V_v_keys (S5.trans S16)) k (by first | assumption | omega)
           refine x_draw (fun aZ wZ => Fr 34 [(0, .slice list_a list_n list_c), (1, .slice keys_a keys_n keys_c), (5, .int .i64 ((k : Nat) : Int)), (6, .bool (spanHas x1 x2)), (7, .int .i64 ((q : Nat) : Int))] aZ ∧ Mv [] w16 [] wZ) [] mixed S16.at' (listed := #[false, false, false, false, false, false, false, false, false, false, false, false, false]) rfl (fun w46 S46 => ?_) [] rfl ?_
           · skip
             refine g_take F21 rfl (i := 0) (listed' := #[true, false, false, false, false, false, false, false, false, false, false, false, false]) rfl (by kernel_rfl) (by kernel_rfl) (by kernel_rfl) (fun _ _ _ h => h) (Sd.of (Mv.refl S46.at') [] rfl) rfl rfl rfl rfl (fun _ hz => (r_move rfl (F21.ev 6 rfl))) fun _ F47 => ?_
             refine g_take F47 rfl (i := 1) (listed' := #[true, true, false, false, false, false, false, false, false, false, false, false, false]) rfl (by kernel_rfl) (by kernel_rfl) (by kernel_rfl) (fun _ _ _ h => h) (Sd.of (Mv.refl S46.at') [] rfl) rfl rfl rfl rfl (fun _ hz => (r_move rfl (F47.ev 20 rfl))) fun _ F48 => ?_
             rw [h24] at F48
             refine g_take F48 rfl (i := 2) (listed' := #[true, true, true, false, false, false, false, false, false, false, false, false, false]) rfl (by kernel_rfl) (by kernel_rfl) (by kernel_rfl) (fun _ _ _ h => h) (Sd.of (Mv.refl S46.at') [] rfl) rfl (wanted_g F48 rfl rfl rfl rfl) rfl rfl (fun _ hz => (r_move rfl (F48.ev 0 rfl))) fun _ F49 => ?_
             refine g_take F49 rfl (i := 3) (listed' := #[true, true, true, true, false, false, false, false, false, false, false, false, false]) rfl (by kernel_rfl) (by kernel_rfl) (by kernel_rfl) (fun _ _ _ h => h) (Sd.of (Mv.refl S46.at') [] rfl) rfl (wanted_g F49 rfl rfl rfl rfl) rfl rfl (fun _ hz => (r_move rfl (F49.ev 7 rfl))) fun _ F50 => ?_
             obtain ⟨B51, O51, y51, ad51, hy51, oky51, ln51, cl51⟩ := Rd.atK (Nat.succ_pos _) (Rd.mv (Nat.succ_pos _) V_v_list (S5.trans (S16.trans S46))) q (by first | assumption | omega)
             clear ln51
             obtain rfl := Option.some.inj (hx1.symm.trans hy51)
             clear hy51 oky51
             refine g_take F50 rfl (i := 4) (listed' := #[true, true, true, true, true, false, false, false, false, false, false, false, false]) rfl (by kernel_rfl) (by kernel_rfl) (by kernel_rfl) (fun _ _ _ h => h) (Sd.of (Mv.refl S46.at') [] rfl) rfl (wanted_g F50 rfl rfl rfl rfl) rfl rfl (fun _ hz => (r_indexAddr (i := q) ET_22 rfl ((F50.ev 22 rfl).trans (by rw [ad51])) (F50.ev 23 rfl) (by omega) (by first | assumption | omega))) fun _ F52 => ?_
             refine g_take (v := .string x1) F52 rfl (i := 5) (listed' := #[true, true, true, true, true, true, false, false, false, false, false, false, false]) rfl (by kernel_rfl) (by kernel_rfl) (by kernel_rfl) (fun _ _ _ h => h) (Sd.of (Mv.refl S46.at') [] rfl) rfl (wanted_g F52 rfl rfl rfl rfl) rfl rfl (fun _ hz => (r_load (cs := [.string x1]) TI_9 rfl (F52.ev 24 rfl) rfl (fun _ => rfl) (elem_sub (f := 0) (cl51 _ hz.kp) [.string x1] rfl))) fun _ F53 => ?_
             refine g_take F53 rfl (i := 6) (listed' := #[true, true, true, true, true, true, true, false, false, false, false, false, false]) rfl (by kernel_rfl) (by kernel_rfl) (by kernel_rfl) (fun _ _ _ h => h) (Sd.of (Mv.refl S46.at') [] rfl) rfl (wanted_g F53 rfl rfl rfl rfl) rfl rfl (fun _ hz => (r_move rfl (F53.ev 1 rfl))) fun _ F54 => ?_
             refine g_take F54 rfl (i := 7) (listed' := #[true, true, true, true, true, true, true, true, false, false, false, false, false]) rfl (by kernel_rfl) (by kernel_rfl) (by kernel_rfl) (fun _ _ _ h => h) (Sd.of (Mv.refl S46.at') [] rfl) rfl (wanted_g F54 rfl rfl rfl rfl) rfl rfl (fun _ hz => (r_move rfl (F54.ev 5 rfl))) fun _ F55 => ?_
             obtain ⟨B56, O56, y56, ad56, hy56, oky56, ln56, cl56⟩ := Rd.atK (Nat.succ_pos _) (Rd.mv (Nat.succ_pos _) V_v_keys (S5.trans (S16.trans S46))) k (by first | assumption | omega)
             clear ln56
             obtain rfl := Option.some.inj (hx2.symm.trans hy56)
             clear hy56 oky56
             refine g_take F55 rfl (i := 8) (listed' := #[true, true, true, true, true, true, true, true, true, false, false, false, false]) rfl (by kernel_rfl) (by kernel_rfl) (by kernel_rfl) (fun _ _ _ h => h) (Sd.of (Mv.refl S46.at') [] rfl) rfl (wanted_g F55 rfl rfl rfl rfl) rfl rfl (fun _ hz => (r_indexAddr (i := k) ET_22 rfl ((F55.ev 26 rfl).trans (by rw [ad56])) (F55.ev 27 rfl) (by omega) (by first | assumption | omega))) fun _ F57 => ?_
             refine g_take (v := .string x2) F57 rfl (i := 9) (listed' := #[true, true, true, true, true, true, true, true, true, true, false, false, false]) rfl (by kernel_rfl) (by kernel_rfl) (by kernel_rfl) (fun _ _ _ h => h) (Sd.of (Mv.refl S46.at') [] rfl) rfl (wanted_g F57 rfl rfl rfl rfl) rfl rfl (fun _ hz => (r_load (cs := [.string x2]) TI_9 rfl (F57.ev 28 rfl) rfl (fun _ => rfl) (elem_sub (f := 0) (cl56 _ hz.kp) [.string x2] rfl))) fun _ F58 => ?_
             refine d_one (i := 10) (listed' := #[true, true, true, true, true, true, true, true, true, true, true, false, false]) rfl (by kernel_rfl) rfl rfl ?_
             refine f_call F58 CF_88 (wanted_g F58 rfl rfl rfl rfl) rfl rfl rfl (lc (F58.ev 25 rfl) (lc (F58.ev 29 rfl) rfl)) (spec_SpanHas_c (H := fun _ => True) (span := x1) (key := x2) okx1 okx2) ?_
             rintro _ w59 ⟨rfl, m59⟩
             refine ⟨_, rfl, fun _ F60 => ?_⟩
             have S59 := At.frame0 S46.at' m59
             clear m59
             refine ⟨Sd.of S59 [] rfl, ?_⟩
             refine g_take F60 rfl (i := 11) (listed' := #[true, true, true, true, true, true, true, true, true, true, true, true, false]) rfl (by kernel_rfl) (by kernel_rfl) (by kernel_rfl) (fun _ _ _ h => h) (Sd.of S59 [] rfl) rfl rfl rfl rfl (fun _ hz => (r_pick (b := false) rfl (F60.ev 21 rfl) (F60.ev 30 rfl))) fun _ F61 => ?_
             refine g_take F61 rfl (i := 12) (listed' := #[true, true, true, true, true, true, true, true, true, true, true, true, true]) rfl (by kernel_rfl) (by kernel_rfl) (by kernel_rfl) (fun _ _ _ h => h) (Sd.of S59 [] rfl) rfl rfl rfl rfl (fun _ hz => (r_assign rfl (F61.ev 31 rfl))) fun _ F62 => ?_
             refine wpAnyH_done (by kernel_rfl) (x_normal ?_) _
             exact ⟨F62.cut rfl, ((S46.trans S59).pick [] rfl)⟩
           · rintro a63 w63 ⟨F63, S63⟩
             refine x_block_normal (x_normal (wp_region_lit (l_op (f_mv F63 rfl rfl rfl rfl rfl fun _ F64 => ?_))))
             refine l_op (f_val F64 rfl rfl (r_add (z := ((q + 1 : Nat) : Int)) rfl (F64.ev 18 rfl) rfl (by first | rfl | omega) ⟨by first | omega | (unfold i64ok at *; omega), by first | omega | (unfold i64ok at *; omega)⟩) rfl fun _ F65 => ?_)
             refine l_op (f_as F65 rfl rfl rfl rfl rfl fun _ F66 => ?_)
             have F67 : Fr 34 [(7, .int .i64 ((q + 1 : Nat) : Int)), (0, .slice list_a list_n list_c), (1, .slice keys_a keys_n keys_c), (5, .int .i64 ((k : Nat) : Int)), (6, .bool (spanHas x1 x2))] _ := F66.cut rfl
             clear F63 F64 F65 F66
             refine s_end ?_
             refine x_normal ⟨q + 1, by omega, (spanHas x1 x2), F67.cut rfl, ((S16.trans S63).pick [] rfl), by omega, fun x hx => by first | exact any_more (hq_1 x hx) (by assumption) | (obtain rfl := Option.some.inj (hx2.symm.trans hx); exact any_step (hq_1 _ hx) (by assumption) hx1)⟩
       · skip
         refine wp_exit (x_then_exit (x_then_exit (x_block_here (x_normal (wp_seq (wp_region_lit (l_op (f_mv F21 rfl rfl rfl rfl rfl fun _ F68 => ?_))))))))
         refine l_op (f_val F68 rfl rfl (r_not rfl (F68.ev 32 rfl)) rfl fun _ F69 => ?_)
         have F70 : Fr 34 [(33, .bool (!ii)), (5, .int .i64 ((k : Nat) : Int)), (0, .slice list_a list_n list_c), (1, .slice keys_a keys_n keys_c)] _ := F69.cut rfl
         clear F21 F68 F69
         refine s_end (x_normal (x_condb (b := (!ii)) (F70.ev 33 rfl) (fun h71 => ?_) (fun h71 => ?_)))
         · skip
           refine wp_seq (wp_region_lit (l_op (f_val F70 rfl rfl (r_assign rfl rfl) rfl fun _ F72 => ?_)))
           have F73 : Fr 34 [(4, .bool false)] _ := F72.cut rfl
           clear F70 F72
           refine s_end (x_normal (wp_ret (x_block_ret (x_then_ret (x_then_ret (x_block_ret (x_then_ret ?_)))))))
           refine x_done (v := .bool false) F73 (results_1 Try.results36 (.tmp (F73.ev 4 rfl))) ?_
           exact ⟨(by rw [(show false = (coversL list keys) from by exact (by obtain ⟨x, hx⟩ : ∃ x, nth keys k = some x := nth_some (by omega); exact (all_bad hx (by rw [← nt (b := ii) (by assumption), hq_1 x hx, List.take_of_length_le (by omega)])).symm))]), (Mv.pick (S5.trans S16) [] rfl)⟩
         · skip
           refine wp_skip (x_block_normal (x_normal (wp_region_lit (l_op (f_mv F70 rfl rfl rfl rfl rfl fun _ F74 => ?_)))))
           refine l_op (f_val F74 rfl rfl (r_add (z := ((k + 1 : Nat) : Int)) rfl (F74.ev 12 rfl) rfl (by first | rfl | omega) ⟨by first | omega | (unfold i64ok at *; omega), by first | omega | (unfold i64ok at *; omega)⟩) rfl fun _ F75 => ?_)
           refine l_op (f_as F75 rfl rfl rfl rfl rfl fun _ F76 => ?_)
           have F77 : Fr 34 [(5, .int .i64 ((k + 1 : Nat) : Int)), (0, .slice list_a list_n list_c), (1, .slice keys_a keys_n keys_c)] _ := F76.cut rfl
           clear F70 F74 F75 F76
           refine s_end ?_
           refine x_normal ⟨k + 1, by omega, F77.cut rfl, ((S5.trans S16).pick [] rfl), by omega, all_step hk_1 (fun c hc => by rw [← nf (b := ii) (by assumption), hq_1 c hc, List.take_of_length_le (by omega)])⟩
   · skip
     refine wp_exit (x_then_exit (x_then_exit (x_block_here (x_normal (wp_seq (wp_region_lit (l_op (f_val F10 rfl rfl (r_assign rfl rfl) rfl fun _ F78 => ?_))))))))
     have F79 : Fr 34 [(4, .bool true)] _ := F78.cut rfl
     clear F10 F78
     refine s_end (x_normal (wp_ret ?_))
     refine x_done (v := .bool true) F79 (results_1 Try.results36 (.tmp (F79.ev 4 rfl))) ?_
     exact ⟨(by rw [(show true = (coversL list keys) from by exact (all_good (by omega) hk_1).symm)]), (Mv.pick S5 [] rfl)⟩
end Go.Proofs.Ytbbkihijhdpliaa
