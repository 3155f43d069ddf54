/-
  Walks: decimal texts, keys with numbers.
-/
import Derived.Test.YtibgmijfnbnfkaaDoorDatV
import Derived.Test.YtibgmijfnbnfkaaDoorGenR
namespace Go.Proofs.YtibgmijfnbnfkaaDoor
open Go.ChangeShapes Go.WideShapes Go.ChangeAt Go.RowKit
set_option maxRecDepth 100000
set_option maxHeartbeats 1000000
theorem strconv_Itoa_c {w : World} {H : Nat → Prop} {i : Int} (h_i : i64ok i) (tab0 : Tb 0 H w) :
    Calls Tryd.prog 29 #[.int .i64 i] w fun e w' => e = .returned (.string (decS i)) ∧ Mv [] w [] w' ∧ okS (decS i) := by
  obtain ⟨b1, b2⟩ := h_i
  refine (Any.strconv_Itoa laysItoa i (by omega) (by omega) w tab0.1).mono ?_
  rintro e w' ⟨rfl, k, os, rfl⟩
  exact ⟨rfl, mv_below (below_grow w k os), Nat.le_trans (decS_size i ⟨b1, b2⟩) (by decide)⟩
theorem impl_Decimal_c {w : World} {H : Nat → Prop} {n : Int} (h_n : i64ok n) (tab0 : Tb 0 H w) :
    Calls Tryd.prog 16 #[.int .i64 n] w fun e w' => e = .returned (.string (decS n)) ∧ Mv [] w [] w' ∧ okS (decS n) := by
 have V_tab0 : Tb 0 (V H w []) w := Tb.start tab0 (fun _ _ => fps_nil _)
 refine calls_enter 5 Tryd.func16 rfl Tryd.ntmps16 (Nat.le_of_ble_eq_true rfl) (fun _ F0i => ?_)
 have F0 : Fr 5 [(0, .int .i64 n)] _ := F0i
 clear F0i
 refine wp_seq (wp_region_lit (l_op (f_val F0 rfl rfl (r_assign rfl rfl) rfl fun _ F1 => ?_)))
 have F2 : Fr 5 [(2, .string (⟨#[]⟩ : ByteArray)), (0, .int .i64 n)] _ := F1.cut rfl
 clear F0 F1
 refine s_end (x_normal (wp_seq (wp_region_lit (l_op (f_mv F2 rfl rfl rfl rfl rfl fun _ F3 => ?_)))))
 refine l_op (f_call F3 CF_29 rfl rfl rfl rfl (lc (F3.ev 3 rfl) rfl) (strconv_Itoa_c (i := n) h_n V_tab0) ?_)
 rintro _ w4 ⟨rfl, m4, ok_r0_4⟩
 refine ⟨_, rfl, fun _ F5 => ?_⟩
 have S4 := At.frame0 (At.nil w) m4
 clear m4
 refine l_op (f_as F5 rfl rfl rfl rfl rfl fun _ F6 => ?_)
 have F7 : Fr 5 [(2, .string (decS n))] _ := F6.cut rfl
 clear F2 F3 F5 F6
 have T8 : Mv _ _ [] _ := S4
 refine s_end (x_normal (wp_ret ?_))
 refine x_done (v := .string (decS n)) F7 (results_1 Tryd.results16 (.tmp (F7.ev 2 rfl))) ?_
 exact ⟨rfl, (Mv.pick T8 [] rfl), ok_r0_4⟩
theorem impl_KeyNum_c {w : World} {H : Nat → Prop} {head : ByteArray} {n : Int} {tail : ByteArray} (h_head : okS head) (h_n : i64ok n) (h_tail : okS tail) (tab0 : Tb 0 H w) (p0 : head.size ≤ 1000) (p1 : tail.size ≤ 1000) :
    Calls Tryd.prog 41 #[.string head, .int .i64 n, .string tail] w fun e w' => e = .returned (.string (keyNum head n tail)) ∧ Mv [] w [] w' ∧ okS (keyNum head n tail) := by
 have uU : True := (fun _ _ _ _ => trivial) h_head h_tail p0 p1
 clear uU
 have dz := decS_size n h_n
 have V_tab0 : Tb 0 (V H w []) w := Tb.start tab0 (fun _ _ => fps_nil _)
 refine calls_enter 13 Tryd.func41 rfl Tryd.ntmps41 (Nat.le_of_ble_eq_true rfl) (fun _ F0i => ?_)
 have F0 : Fr 13 [(0, .string head), (1, .int .i64 n), (2, .string tail)] _ := F0i
 clear F0i
 refine wp_seq (wp_region_lit (l_op (f_val F0 rfl rfl (r_assign rfl rfl) rfl fun _ F1 => ?_)))
 have F2 : Fr 13 [(6, .string (⟨#[]⟩ : ByteArray)), (0, .string head), (1, .int .i64 n), (2, .string tail)] _ := F1.cut rfl
 clear F0 F1
 refine s_end (x_normal (wp_seq (wp_region_lit (l_op (f_mv F2 rfl rfl rfl rfl rfl fun _ F3 => ?_)))))
 refine l_op (f_mv F3 rfl rfl rfl rfl rfl fun _ F4 => ?_)
 refine l_op (f_call F4 CF_16 rfl rfl rfl rfl (lc (F4.ev 8 rfl) rfl) (impl_Decimal_c (n := n) h_n V_tab0) ?_)
 rintro _ w5 ⟨rfl, m5, ok_r0_5⟩
 refine ⟨_, rfl, fun _ F6 => ?_⟩
 have S5 := At.frame0 (At.nil w) m5
 clear m5
 have k7 : head.size + (decS n).size ≤ 9223372036854775807 := by first | omega | (simp only [ByteArray.size_append]; omega)
 refine l_op (f_val F6 rfl rfl (r_cat rfl (F6.ev 7 rfl) (F6.ev 9 rfl) k7) rfl fun _ F8 => ?_)
 refine l_op (f_mv F8 rfl rfl rfl rfl rfl fun _ F9 => ?_)
 have k10 : (head ++ (decS n)).size + tail.size ≤ 9223372036854775807 := by first | omega | (simp only [ByteArray.size_append]; omega)
 refine l_op (f_val F9 rfl rfl (r_cat rfl (F9.ev 10 rfl) (F9.ev 11 rfl) k10) rfl fun _ F11 => ?_)
 refine l_op (f_as F11 rfl rfl rfl rfl rfl fun _ F12 => ?_)
 have F13 : Fr 13 [(6, .string ((head ++ (decS n)) ++ tail))] _ := F12.cut rfl
 clear F2 F3 F4 F6 F8 F9 F11 F12
 have T14 : Mv _ _ [] _ := S5
 refine s_end (x_normal (wp_ret ?_))
 refine x_done (v := .string ((head ++ (decS n)) ++ tail)) F13 (results_1 Tryd.results41 (.tmp (F13.ev 6 rfl))) ?_
 exact ⟨rfl, (Mv.pick T14 [] rfl), ((show ((head ++ (decS n)) ++ tail) = (keyNum head n tail) from by rfl) ▸ (okS_cat k10))⟩
end Go.Proofs.YtibgmijfnbnfkaaDoor
