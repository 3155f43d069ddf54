/-
  Walks: decimal texts, keys with numbers.
-/
import Derived.Test.YtibgmijfnbnfkaaGreatDoorDatV
import Derived.Test.YtibgmijfnbnfkaaGreatDoorGenR
namespace Go.Proofs.YtibgmijfnbnfkaaGreatDoor
open Go.ChangeShapes Go.WideShapes Go.ChangeAt Go.RowKit
set_option maxRecDepth 100000
set_option maxHeartbeats 1000000
theorem strconv_Itoa_c {w : World} {H : Nat → Prop} {i : Int} (h_i : i64ok i) (tab0 : Tb 0 H w) :
    Calls Tryz.prog 95 #[.int .i64 i] w fun e w' => e = .returned (.string (decS i)) ∧ Mv [] w [] w' ∧ okS (decS i) := by
  obtain ⟨b1, b2⟩ := h_i
  refine (Any.strconv_Itoa laysItoa i (by omega) (by omega) w tab0.1).mono ?_
  rintro e w' ⟨rfl, k, os, rfl⟩
  exact ⟨rfl, mv_below (below_grow w k os), Nat.le_trans (decS_size i ⟨b1, b2⟩) (by decide)⟩
theorem impl_Decimal_c {w : World} {H : Nat → Prop} {n : Int} (h_n : i64ok n) (tab0 : Tb 0 H w) :
    Calls Tryz.prog 63 #[.int .i64 n] w fun e w' => e = .returned (.string (decS n)) ∧ Mv [] w [] w' ∧ okS (decS n) := by
 have V_tab0 : Tb 0 (V H w []) w := Tb.start tab0 (fun _ _ => fps_nil _)
 refine calls_enter 5 Tryz.func63 rfl Tryz.ntmps63 (Nat.le_of_ble_eq_true rfl) (fun _ F0i => ?_)
 have F0 : Fr 5 [(0, .int .i64 n)] _ := F0i
 clear F0i
 refine wp_seq (wp_region_lit (l_op (f_val F0 rfl rfl (r_assign rfl rfl) rfl fun _ F1 => ?_)))
 refine s_end (x_normal (wp_seq (wp_region_lit (l_op (f_mv F1 rfl rfl rfl rfl rfl fun _ F2 => ?_)))))
 refine l_op (f_call F2 CF_95 rfl rfl rfl rfl (lc (F2.ev 3 rfl) rfl) (strconv_Itoa_c (i := n) h_n V_tab0) ?_)
 rintro _ w3 ⟨rfl, m3, Q0⟩
 refine ⟨_, rfl, fun _ F4 => ?_⟩
 have S3 := At.frame0 (At.nil w) m3
 clear m3
 refine l_op (f_as F4 rfl rfl rfl rfl rfl fun _ F5 => ?_)
 refine s_end (x_normal (wp_ret ?_))
 refine x_done (v := .string (decS n)) F5 (results_1 Tryz.results63 (.tmp (F5.ev 2 rfl))) ?_
 exact ⟨rfl, (Mv.pick S3 [] rfl), Q0⟩
theorem impl_KeyNum_c {w : World} {H : Nat → Prop} {head : ByteArray} {n : Int} {tail : ByteArray} (Q0 : okS head) (h_n : i64ok n) (Q1 : okS tail) (tab0 : Tb 0 H w) (p0 : head.size ≤ 1000) (p1 : tail.size ≤ 1000) :
    Calls Tryz.prog 31 #[.string head, .int .i64 n, .string tail] w fun e w' => e = .returned (.string (keyNum head n tail)) ∧ Mv [] w [] w' ∧ okS (keyNum head n tail) := by
 have uU : True := (fun _ _ _ _ => trivial) Q0 Q1 p0 p1
 clear uU
 have dz := decS_size n h_n
 have V_tab0 : Tb 0 (V H w []) w := Tb.start tab0 (fun _ _ => fps_nil _)
 refine calls_enter 13 Tryz.func31 rfl Tryz.ntmps31 (Nat.le_of_ble_eq_true rfl) (fun _ F0i => ?_)
 have F0 : Fr 13 [(0, .string head), (1, .int .i64 n), (2, .string tail)] _ := F0i
 clear F0i
 refine wp_seq (wp_region_lit (l_op (f_val F0 rfl rfl (r_assign rfl rfl) rfl fun _ F1 => ?_)))
 refine s_end (x_normal (wp_seq (wp_region_lit (l_op (f_mv F1 rfl rfl rfl rfl rfl fun _ F2 => ?_)))))
 refine l_op (f_mv F2 rfl rfl rfl rfl rfl fun _ F3 => ?_)
 refine l_op (f_call F3 CF_63 rfl rfl rfl rfl (lc (F3.ev 8 rfl) rfl) (impl_Decimal_c (n := n) h_n V_tab0) ?_)
 rintro _ w4 ⟨rfl, m4, Q2⟩
 refine ⟨_, rfl, fun _ F5 => ?_⟩
 have S4 := At.frame0 (At.nil w) m4
 clear m4
 have k6 : head.size + (decS n).size ≤ 9223372036854775807 := by first | omega | (simp only [ByteArray.size_append]; omega)
 refine l_op (f_val F5 rfl rfl (r_cat rfl (F5.ev 7 rfl) (F5.ev 9 rfl) k6) rfl fun _ F7 => ?_)
 refine l_op (f_mv F7 rfl rfl rfl rfl rfl fun _ F8 => ?_)
 have k9 : (head ++ (decS n)).size + tail.size ≤ 9223372036854775807 := by first | omega | (simp only [ByteArray.size_append]; omega)
 refine l_op (f_val F8 rfl rfl (r_cat rfl (F8.ev 10 rfl) (F8.ev 11 rfl) k9) rfl fun _ F10 => ?_)
 refine l_op (f_as F10 rfl rfl rfl rfl rfl fun _ F11 => ?_)
 refine s_end (x_normal (wp_ret ?_))
 refine x_done (v := .string ((head ++ (decS n)) ++ tail)) F11 (results_1 Tryz.results31 (.tmp (F11.ev 6 rfl))) ?_
 exact ⟨rfl, (Mv.pick S4 [] rfl), ((show ((head ++ (decS n)) ++ tail) = (keyNum head n tail) from by rfl) ▸ (okS_cat k9))⟩
end Go.Proofs.YtibgmijfnbnfkaaGreatDoor
