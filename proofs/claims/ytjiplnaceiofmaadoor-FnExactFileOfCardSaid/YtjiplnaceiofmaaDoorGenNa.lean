/-
  Walks: decimal texts, keys with numbers.
-/
import Derived.Test.YtjiplnaceiofmaaDoorDatV
import Derived.Test.YtjiplnaceiofmaaDoorGenR
namespace Go.Proofs.YtjiplnaceiofmaaDoor
open Go.ChangeShapes Go.WideShapes Go.ChangeAt Go.RowKit
set_option maxRecDepth 100000
set_option maxHeartbeats 1000000
theorem strconv_Itoa_c {w : World} {H : Nat → Prop} {i : Int} (h_i : i64ok i) (tab0 : Tb 0 H w) :
    Calls Tryd.prog 54 #[.int .i64 i] w fun e w' => e = .returned (.string (decS i)) ∧ Mv [] w [] w' ∧ okS (decS i) := by
  obtain ⟨b1, b2⟩ := h_i
  refine (Any.strconv_Itoa laysItoa i (by omega) (by omega) w tab0.1).mono ?_
  rintro e w' ⟨rfl, k, os, rfl⟩
  exact ⟨rfl, mv_below (below_grow w k os), Nat.le_trans (decS_size i ⟨b1, b2⟩) (by decide)⟩
theorem impl_Decimal_c {w : World} {H : Nat → Prop} {n : Int} (h_n : i64ok n) (tab0 : Tb 0 H w) :
    Calls Tryd.prog 19 #[.int .i64 n] w fun e w' => e = .returned (.string (decS n)) ∧ Mv [] w [] w' ∧ okS (decS n) := by
 have V_tab0 : Tb 0 (V H w []) w := Tb.start tab0 (fun _ _ => fps_nil _)
 refine calls_enter 5 Tryd.func19 rfl Tryd.ntmps19 (Nat.le_of_ble_eq_true rfl) (fun _ F0i => ?_)
 have F0 : Fr 5 [(0, .int .i64 n)] _ := F0i
 clear F0i
 refine wp_seq (wp_region_lit (l_op (f_val F0 rfl rfl (r_assign rfl rfl) rfl fun _ F1 => ?_)))
 have F2 : Fr 5 [(2, .string (⟨#[]⟩ : ByteArray)), (0, .int .i64 n)] _ := F1.cut rfl
 clear F0 F1
 refine s_end (x_normal (wp_seq (wp_region_lit (l_op (f_mv F2 rfl rfl rfl rfl rfl fun _ F3 => ?_)))))
 refine l_op (f_call F3 CF_54 rfl rfl rfl rfl (lc (F3.ev 3 rfl) rfl) (strconv_Itoa_c (i := n) h_n V_tab0) ?_)
 rintro _ w4 ⟨rfl, m4, ok_r0_4⟩
 refine ⟨_, rfl, fun _ F5 => ?_⟩
 have S4 := At.frame0 (At.nil w) m4
 clear m4
 refine l_op (f_as F5 rfl rfl rfl rfl rfl fun _ F6 => ?_)
 have F7 : Fr 5 [(2, .string (decS n))] _ := F6.cut rfl
 clear F2 F3 F5 F6
 have T8 : Mv _ _ [] _ := S4
 refine s_end (x_normal (wp_ret ?_))
 refine x_done (v := .string (decS n)) F7 (results_1 Tryd.results19 (.tmp (F7.ev 2 rfl))) ?_
 exact ⟨rfl, (Mv.pick T8 [] rfl), ok_r0_4⟩
theorem spec_l01Figure_c {w : World} {H : Nat → Prop} {x : Int} (h_x : i64ok x) (p0 : 0 ≤ x) (p1 : x < 16) :
    Calls Tryd.prog 180 #[.int .i64 x] w fun e w' => e = .returned (.int .u8 ((fig x.toNat : Nat) : Int)) ∧ Mv [] w [] w' ∧ fig x.toNat < 256 := by
 have uU : True := (fun _ _ _ _ => trivial) H h_x p0 p1
 clear uU
 refine calls_enter 12 Tryd.func180 rfl Tryd.ntmps180 (Nat.le_of_ble_eq_true rfl) (fun _ F0i => ?_)
 have F0 : Fr 12 [(0, .int .i64 x)] _ := F0i
 clear F0i
 refine wp_seq (wp_region_lit (l_op (f_val F0 rfl rfl (r_assign rfl rfl) rfl fun _ F1 => ?_)))
 have F2 : Fr 12 [(2, .int .u8 0), (0, .int .i64 x)] _ := F1.cut rfl
 clear F0 F1
 refine s_end (x_normal (wp_seq (wp_seq (wp_region_lit (l_op (f_mv F2 rfl rfl rfl rfl rfl fun _ F3 => ?_))))))
 refine l_op (f_val F3 rfl rfl (r_cmp (b := decide (x < 10)) (.inr (.inr (.inl rfl))) rfl (F3.ev 3 rfl) rfl (dec_of (by omega))) rfl fun _ F4 => ?_)
 have F5 : Fr 12 [(4, .bool (decide (x < 10))), (0, .int .i64 x)] _ := F4.cut rfl
 clear F2 F3 F4
 refine s_end (x_normal (x_cond (p := x < 10) (F5.ev 4 rfl) (fun h6 => ?_) (fun h6 => ?_)))
 · skip
   refine wp_seq (wp_region_lit (l_op (f_mv F5 rfl rfl rfl rfl rfl fun _ F7 => ?_)))
   refine l_op (f_val F7 rfl rfl (r_add (z := (48 + x)) rfl rfl (F7.ev 5 rfl) (by first | rfl | omega) ⟨by first | omega | (unfold i64ok at *; omega), by first | omega | (unfold i64ok at *; omega)⟩) rfl fun _ F8 => ?_)
   refine l_op (f_val F8 rfl rfl (r_conv8 Tryd.underlying5 Tryd.underlying3 rfl ((F8.ev 6 rfl).trans (congrArg _ (show 48 + x = (((48 + x).toNat : Nat) : Int) by omega))) (by omega)) rfl fun _ F9 => ?_)
   refine l_op (f_as F9 rfl rfl rfl rfl rfl fun _ F10 => ?_)
   have F11 : Fr 12 [(2, .int .u8 (((48 + x).toNat : Nat) : Int))] _ := F10.cut rfl
   clear F5 F7 F8 F9 F10
   refine s_end (x_normal (wp_ret (x_then_ret ?_)))
   refine x_done (v := .int .u8 (((48 + x).toNat : Nat) : Int)) F11 (results_1 Tryd.results180 (.tmp (F11.ev 2 rfl))) ?_
   exact ⟨(by rw [(show (((48 + x).toNat : Nat) : Int) = ((fig x.toNat : Nat) : Int) from by exact congrArg (fun n : Nat => (n : Int)) (fig_lo (by assumption) (by assumption)))]), (Mv.pick (Mv.refl (At.nil w)) [] rfl), fig_lt (by omega)⟩
 · skip
   refine wp_skip (x_normal (wp_seq (wp_region_lit (l_op (f_mv F5 rfl rfl rfl rfl rfl fun _ F12 => ?_)))))
   refine l_op (f_val F12 rfl rfl (r_add (z := (97 + x)) rfl rfl (F12.ev 8 rfl) (by first | rfl | omega) ⟨by first | omega | (unfold i64ok at *; omega), by first | omega | (unfold i64ok at *; omega)⟩) rfl fun _ F13 => ?_)
   refine l_op (f_val F13 rfl rfl (r_sub (z := ((97 + x) - 10)) rfl (F13.ev 9 rfl) rfl (by first | rfl | omega) ⟨by first | omega | (unfold i64ok at *; omega), by first | omega | (unfold i64ok at *; omega)⟩) rfl fun _ F14 => ?_)
   refine l_op (f_val F14 rfl rfl (r_conv8 Tryd.underlying5 Tryd.underlying3 rfl ((F14.ev 10 rfl).trans (congrArg _ (show (97 + x) - 10 = ((((97 + x) - 10).toNat : Nat) : Int) by omega))) (by omega)) rfl fun _ F15 => ?_)
   refine l_op (f_as F15 rfl rfl rfl rfl rfl fun _ F16 => ?_)
   have F17 : Fr 12 [(2, .int .u8 ((((97 + x) - 10).toNat : Nat) : Int))] _ := F16.cut rfl
   clear F5 F12 F13 F14 F15 F16
   refine s_end (x_normal (wp_ret ?_))
   refine x_done (v := .int .u8 ((((97 + x) - 10).toNat : Nat) : Int)) F17 (results_1 Tryd.results180 (.tmp (F17.ev 2 rfl))) ?_
   exact ⟨(by rw [(show ((((97 + x) - 10).toNat : Nat) : Int) = ((fig x.toNat : Nat) : Int) from by rw [show (97 + x) - 10 = 87 + x by omega, fig_hi (by assumption)])]), (Mv.pick (Mv.refl (At.nil w)) [] rfl), fig_lt (by omega)⟩
theorem spec_Decimal_c {w : World} {H : Nat → Prop} {n : Int} (h_n : i64ok n) :
    Calls Tryd.prog 167 #[.int .i64 n] w fun e w' => e = .returned (.string (decS n)) ∧ Mv [] w [] w' ∧ okS (decS n) := by
 have uU : True := (fun _ => trivial) H
 clear uU
 refine calls_enter 30 Tryd.func167 rfl Tryd.ntmps167 (Nat.le_of_ble_eq_true rfl) (fun _ F0i => ?_)
 have F0 : Fr 30 [(0, .int .i64 n)] _ := F0i
 clear F0i
 refine wp_seq (wp_region_lit (l_op (f_val F0 rfl rfl (r_assign rfl rfl) rfl fun _ F1 => ?_)))
 have F2 : Fr 30 [(2, .string (⟨#[]⟩ : ByteArray)), (0, .int .i64 n)] _ := F1.cut rfl
 clear F0 F1
 refine s_end (x_normal (wp_seq (wp_seq (wp_region_lit (l_op (f_mv F2 rfl rfl rfl rfl rfl fun _ F3 => ?_))))))
 refine l_op (f_val F3 rfl rfl (r_cmp (b := decide (n = 0)) (.inl rfl) rfl (F3.ev 6 rfl) rfl (dec_of (by omega))) rfl fun _ F4 => ?_)
 have F5 : Fr 30 [(7, .bool (decide (n = 0))), (0, .int .i64 n)] _ := F4.cut rfl
 clear F2 F3 F4
 refine s_end (x_normal (x_cond (p := n = 0) (F5.ev 7 rfl) (fun h6 => ?_) (fun h6 => ?_)))
 · skip
   refine wp_seq (wp_region_lit (l_op (f_val F5 rfl rfl (r_assign rfl rfl) rfl fun _ F7 => ?_)))
   have F8 : Fr 30 [(2, .string (⟨#[48]⟩ : ByteArray))] _ := F7.cut rfl
   clear F5 F7
   refine s_end (x_normal (wp_ret (x_then_ret ?_)))
   refine x_done (v := .string (⟨#[48]⟩ : ByteArray)) F8 (results_1 Tryd.results167 (.tmp (F8.ev 2 rfl))) ?_
   exact ⟨(by rw [(show (⟨#[48]⟩ : ByteArray) = (decS n) from by exact dec0 (by assumption))]), (Mv.pick (Mv.refl (At.nil w)) [] rfl), ((show (⟨#[48]⟩ : ByteArray) = (decS n) from by exact dec0 (by assumption)) ▸ (by unfold okS; decide))⟩
 · skip
   refine wp_skip (x_normal (wp_seq (wp_region_lit (l_op (f_mv F5 rfl rfl rfl rfl rfl fun _ F9 => ?_)))))
   refine l_op (f_val F9 rfl rfl (r_cmp (b := decide (n < 0)) (.inr (.inr (.inl rfl))) rfl (F9.ev 8 rfl) rfl (dec_of (by omega))) rfl fun _ F10 => ?_)
   refine l_op (f_as F10 rfl rfl rfl rfl rfl fun _ F11 => ?_)
   have F12 : Fr 30 [(3, .bool (decide (n < 0))), (0, .int .i64 n)] _ := F11.cut rfl
   clear F5 F9 F10 F11
   refine s_end (x_normal (wp_seq (wp_region_lit (l_op (f_val F12 rfl rfl (r_assign rfl rfl) rfl fun _ F13 => ?_)))))
   have F14 : Fr 30 [(4, .string (⟨#[]⟩ : ByteArray)), (3, .bool (decide (n < 0))), (0, .int .i64 n)] _ := F13.cut rfl
   clear F12 F13
   refine s_end (x_normal (wp_seq (wp_block ?_)))
   refine x_loop (fun (m : Int) aZ wZ => ∃ (s : ByteArray), Fr 30 [(4, .string s), (3, .bool (decide (n < 0))), (0, .int .i64 m)] aZ ∧ Mv [] w [] wZ ∧ okS s ∧ (decInv n m s)) (fun (m : Int) => m.natAbs) (n) ?_ ?_
   · exact ⟨(⟨#[]⟩ : ByteArray), F14.cut rfl, (Mv.refl (At.nil w)), (by unfold okS; decide), decInv.start n⟩
   · rintro m a15 w15 ⟨s, F15, S15, kk15_0, hk_0⟩
     have hsz := hk_0.size h_n
     have h_m := hk_0.i64 h_n
     refine wp_seq (wp_seq (wp_region_lit (l_op (f_mv F15 rfl rfl rfl rfl rfl fun _ F16 => ?_))))
     refine l_op (f_val F16 rfl rfl (r_cmp (b := decide (m ≠ 0)) (.inr (.inl rfl)) rfl (F16.ev 10 rfl) rfl (dec_of (by omega))) rfl fun _ F17 => ?_)
     have F18 : Fr 30 [(11, .bool (decide (m ≠ 0))), (4, .string s), (3, .bool (decide (n < 0))), (0, .int .i64 m)] _ := F17.cut rfl
     clear F15 F16 F17
     refine s_end (x_normal (x_cond (p := m ≠ 0) (F18.ev 11 rfl) (fun h19 => ?_) (fun h19 => ?_)))
     · skip
       refine wp_skip (x_normal (wp_block (wp_seq (wp_region_lit (l_op (f_mv F18 rfl rfl rfl rfl rfl fun _ F20 => ?_))))))
       have rm21 : -10 < m.tmod 10 ∧ m.tmod 10 < 10 := tmod_bd _ (by decide)
       refine l_op (f_val F20 rfl rfl (r_remI (c := 10) rfl (by decide) rfl (F20.ev 12 rfl) rfl) rfl fun _ F22 => ?_)
       refine l_op (f_as F22 rfl rfl rfl rfl rfl fun _ F23 => ?_)
       have F24 : Fr 30 [(5, .int .i64 (m.tmod 10)), (4, .string s), (3, .bool (decide (n < 0))), (0, .int .i64 m)] _ := F23.cut rfl
       clear F18 F20 F22 F23
       refine s_end (x_normal (wp_seq (wp_seq (wp_region_lit (l_op (f_mv F24 rfl rfl rfl rfl rfl fun _ F25 => ?_))))))
       refine l_op (f_val F25 rfl rfl (r_cmp (b := decide ((m.tmod 10) < 0)) (.inr (.inr (.inl rfl))) rfl (F25.ev 14 rfl) rfl (dec_of (by omega))) rfl fun _ F26 => ?_)
       have F27 : Fr 30 [(15, .bool (decide ((m.tmod 10) < 0))), (5, .int .i64 (m.tmod 10)), (4, .string s), (3, .bool (decide (n < 0))), (0, .int .i64 m)] _ := F26.cut rfl
       clear F24 F25 F26
       refine s_end (x_normal (x_cond (p := (m.tmod 10) < 0) (F27.ev 15 rfl) (fun h28 => ?_) (fun h28 => ?_)))
       · skip
         refine wp_region_lit (l_op (f_mv F27 rfl rfl rfl rfl rfl fun _ F29 => ?_))
         refine l_op (f_val F29 rfl rfl (r_negI rfl (F29.ev 16 rfl) ⟨by omega, by omega⟩) rfl fun _ F30 => ?_)
         refine l_op (f_as F30 rfl rfl rfl rfl rfl fun _ F31 => ?_)
         have F32 : Fr 30 [(5, .int .i64 (-(m.tmod 10))), (4, .string s), (3, .bool (decide (n < 0))), (0, .int .i64 m)] _ := F31.cut rfl
         clear F27 F29 F30 F31
         refine s_end (x_normal (wp_seq (wp_region_lit (l_op (f_mv F32 rfl rfl rfl rfl rfl fun _ F33 => ?_)))))
         refine l_op (f_call F33 CF_180 rfl rfl rfl rfl (lc (F33.ev 18 rfl) rfl) (spec_l01Figure_c (H := fun _ => True) (x := (-(m.tmod 10))) (by first | assumption | exact ⟨by omega, by omega⟩ | (unfold i64ok at *; omega)) (by first | assumption | omega | (simp <;> omega)) (by first | assumption | omega | (simp <;> omega))) ?_)
         rintro _ w34 ⟨rfl, m34, q34_0⟩
         refine ⟨_, rfl, fun _ F35 => ?_⟩
         have S34 := At.frame0 S15.at' m34
         clear m34
         refine l_op (f_buildSl (ok := okB) (vs := [.int .u8 ((fig (-(m.tmod 10)).toNat : Nat) : Int)]) F35 S34.at' ([fig (-(m.tmod 10)).toNat]) ET_22 rfl rfl rfl rfl rfl rfl (lc (pr2 (F35.ev 19 rfl)) rfl) rfl rfl (fun x hx => (List.mem_singleton.1 hx) ▸ (show fig (-(m.tmod 10)).toNat < 256 by omega)) fun b36 _ w36 F37 S36 => ?_)
         refine l_op (f_val F37 rfl rfl (r_bstr Tryd.underlying22 Tryd.underlying5 Tryd.underlying9 ((At.rd S36.at' ET_22.hk 0 rfl)).1 rfl (F37.ev 20 rfl)) rfl fun _ F38 => ?_)
         refine l_op (f_mv F38 rfl rfl rfl rfl rfl fun _ F39 => ?_)
         have k40 : (bstr ([fig (-(m.tmod 10)).toNat])).size + s.size ≤ 9223372036854775807 := by first | (rw [bstr_size]; ((repeat (first | rw [List.length_append] | rw [List.length_cons] | rw [List.length_nil] | rw [List.length_take] | rw [List.length_drop])) <;> omega)) | (have : (⟨#[45]⟩ : ByteArray).size = 1 := rfl; omega)
         refine l_op (f_val F39 rfl rfl (r_cat rfl (F39.ev 21 rfl) (F39.ev 22 rfl) k40) rfl fun _ F41 => ?_)
         refine l_op (f_as F41 rfl rfl rfl rfl rfl fun _ F42 => ?_)
         have F43 : Fr 30 [(4, .string ((bstr ([fig (-(m.tmod 10)).toNat])) ++ s)), (3, .bool (decide (n < 0))), (0, .int .i64 m)] _ := F42.cut rfl
         clear F32 F33 F35 F37 F38 F39 F41 F42
         have T44 : Mv _ _ [ow 5 1 encB okB (.slice (some ⟨b36, 0, none⟩) 1 1) ([fig (-(m.tmod 10)).toNat])] _ := S36
         refine s_end (x_normal (wp_region_lit (l_op (f_mv F43 rfl rfl rfl rfl rfl fun _ F45 => ?_))))
         refine l_op (f_val F45 rfl rfl (r_quoI (c := 10) rfl (by decide) (by first | assumption | exact ⟨by omega, by omega⟩) rfl (F45.ev 24 rfl) rfl) rfl fun _ F46 => ?_)
         refine l_op (f_as F46 rfl rfl rfl rfl rfl fun _ F47 => ?_)
         have F48 : Fr 30 [(0, .int .i64 (m.tdiv 10)), (4, .string ((bstr ([fig (-(m.tmod 10)).toNat])) ++ s)), (3, .bool (decide (n < 0)))] _ := F47.cut rfl
         clear F43 F45 F46 F47
         refine s_end (x_block_normal ?_)
         refine x_normal ⟨m.tdiv 10, by exact tdiv_dec (by assumption), ((bstr ([fig (-(m.tmod 10)).toNat])) ++ s), F48.cut rfl, ((S15.trans (S34.trans T44)).pick [] rfl), (okS_cat k40), by first | exact hk_0.stepA (by assumption) (by assumption) | exact hk_0.stepB (by assumption) (by assumption)⟩
       · skip
         refine wp_skip (x_normal (wp_seq (wp_region_lit (l_op (f_mv F27 rfl rfl rfl rfl rfl fun _ F49 => ?_)))))
         refine l_op (f_call F49 CF_180 rfl rfl rfl rfl (lc (F49.ev 18 rfl) rfl) (spec_l01Figure_c (H := fun _ => True) (x := (m.tmod 10)) (by first | assumption | exact ⟨by omega, by omega⟩ | (unfold i64ok at *; omega)) (by first | assumption | omega | (simp <;> omega)) (by first | assumption | omega | (simp <;> omega))) ?_)
         rintro _ w50 ⟨rfl, m50, q50_0⟩
         refine ⟨_, rfl, fun _ F51 => ?_⟩
         have S50 := At.frame0 S15.at' m50
         clear m50
         refine l_op (f_buildSl (ok := okB) (vs := [.int .u8 ((fig (m.tmod 10).toNat : Nat) : Int)]) F51 S50.at' ([fig (m.tmod 10).toNat]) ET_22 rfl rfl rfl rfl rfl rfl (lc (pr2 (F51.ev 19 rfl)) rfl) rfl rfl (fun x hx => (List.mem_singleton.1 hx) ▸ (show fig (m.tmod 10).toNat < 256 by omega)) fun b52 _ w52 F53 S52 => ?_)
         refine l_op (f_val F53 rfl rfl (r_bstr Tryd.underlying22 Tryd.underlying5 Tryd.underlying9 ((At.rd S52.at' ET_22.hk 0 rfl)).1 rfl (F53.ev 20 rfl)) rfl fun _ F54 => ?_)
         refine l_op (f_mv F54 rfl rfl rfl rfl rfl fun _ F55 => ?_)
         have k56 : (bstr ([fig (m.tmod 10).toNat])).size + s.size ≤ 9223372036854775807 := by first | (rw [bstr_size]; ((repeat (first | rw [List.length_append] | rw [List.length_cons] | rw [List.length_nil] | rw [List.length_take] | rw [List.length_drop])) <;> omega)) | (have : (⟨#[45]⟩ : ByteArray).size = 1 := rfl; omega)
         refine l_op (f_val F55 rfl rfl (r_cat rfl (F55.ev 21 rfl) (F55.ev 22 rfl) k56) rfl fun _ F57 => ?_)
         refine l_op (f_as F57 rfl rfl rfl rfl rfl fun _ F58 => ?_)
         have F59 : Fr 30 [(4, .string ((bstr ([fig (m.tmod 10).toNat])) ++ s)), (3, .bool (decide (n < 0))), (0, .int .i64 m)] _ := F58.cut rfl
         clear F27 F49 F51 F53 F54 F55 F57 F58
         have T60 : Mv _ _ [ow 5 1 encB okB (.slice (some ⟨b52, 0, none⟩) 1 1) ([fig (m.tmod 10).toNat])] _ := S52
         refine s_end (x_normal (wp_region_lit (l_op (f_mv F59 rfl rfl rfl rfl rfl fun _ F61 => ?_))))
         refine l_op (f_val F61 rfl rfl (r_quoI (c := 10) rfl (by decide) (by first | assumption | exact ⟨by omega, by omega⟩) rfl (F61.ev 24 rfl) rfl) rfl fun _ F62 => ?_)
         refine l_op (f_as F62 rfl rfl rfl rfl rfl fun _ F63 => ?_)
         have F64 : Fr 30 [(0, .int .i64 (m.tdiv 10)), (4, .string ((bstr ([fig (m.tmod 10).toNat])) ++ s)), (3, .bool (decide (n < 0)))] _ := F63.cut rfl
         clear F59 F61 F62 F63
         refine s_end (x_block_normal ?_)
         refine x_normal ⟨m.tdiv 10, by exact tdiv_dec (by assumption), ((bstr ([fig (m.tmod 10).toNat])) ++ s), F64.cut rfl, ((S15.trans (S50.trans T60)).pick [] rfl), (okS_cat k56), by first | exact hk_0.stepA (by assumption) (by assumption) | exact hk_0.stepB (by assumption) (by assumption)⟩
     · skip
       refine wp_exit (x_then_exit (x_then_exit (x_block_here (x_normal (wp_seq (wp_seq (wp_region_lit (l_op (f_mv F18 rfl rfl rfl rfl rfl fun _ F65 => ?_)))))))))
       have F66 : Fr 30 [(26, .bool (decide (n < 0))), (4, .string s)] _ := F65.cut rfl
       clear F18 F65
       refine s_end (x_normal (x_cond (p := n < 0) (F66.ev 26 rfl) (fun h67 => ?_) (fun h67 => ?_)))
       · skip
         refine wp_seq (wp_region_lit (l_op (f_mv F66 rfl rfl rfl rfl rfl fun _ F68 => ?_)))
         have k69 : (⟨#[45]⟩ : ByteArray).size + s.size ≤ 9223372036854775807 := by first | (rw [bstr_size]; ((repeat (first | rw [List.length_append] | rw [List.length_cons] | rw [List.length_nil] | rw [List.length_take] | rw [List.length_drop])) <;> omega)) | (have : (⟨#[45]⟩ : ByteArray).size = 1 := rfl; omega)
         refine l_op (f_val F68 rfl rfl (r_cat rfl rfl (F68.ev 27 rfl) k69) rfl fun _ F70 => ?_)
         refine l_op (f_as F70 rfl rfl rfl rfl rfl fun _ F71 => ?_)
         have F72 : Fr 30 [(2, .string ((⟨#[45]⟩ : ByteArray) ++ s))] _ := F71.cut rfl
         clear F66 F68 F70 F71
         refine s_end (x_normal (wp_ret (x_then_ret ?_)))
         refine x_done (v := .string ((⟨#[45]⟩ : ByteArray) ++ s)) F72 (results_1 Tryd.results167 (.tmp (F72.ev 2 rfl))) ?_
         exact ⟨(by rw [(show ((⟨#[45]⟩ : ByteArray) ++ s) = (decS n) from by exact hk_0.end2 (by assumption) (by assumption))]), (Mv.pick S15 [] rfl), ((show ((⟨#[45]⟩ : ByteArray) ++ s) = (decS n) from by exact hk_0.end2 (by assumption) (by assumption)) ▸ (okS_cat k69))⟩
       · skip
         refine wp_skip (x_normal (wp_seq (wp_region_lit (l_op (f_mv F66 rfl rfl rfl rfl rfl fun _ F73 => ?_)))))
         refine l_op (f_as F73 rfl rfl rfl rfl rfl fun _ F74 => ?_)
         have F75 : Fr 30 [(2, .string s)] _ := F74.cut rfl
         clear F66 F73 F74
         refine s_end (x_normal (wp_ret ?_))
         refine x_done (v := .string s) F75 (results_1 Tryd.results167 (.tmp (F75.ev 2 rfl))) ?_
         exact ⟨(by rw [(show s = (decS n) from by exact hk_0.end1 (by assumption) (by assumption) (by assumption))]), (Mv.pick S15 [] rfl), ((show s = (decS n) from by exact hk_0.end1 (by assumption) (by assumption) (by assumption)) ▸ kk15_0)⟩
theorem impl_KeyNum_c {w : World} {H : Nat → Prop} {head : ByteArray} {n : Int} {tail : ByteArray} (h_head : okS head) (h_n : i64ok n) (h_tail : okS tail) (tab0 : Tb 0 H w) (p0 : head.size ≤ 1000) (p1 : tail.size ≤ 1000) :
    Calls Tryd.prog 71 #[.string head, .int .i64 n, .string tail] w fun e w' => e = .returned (.string (keyNum head n tail)) ∧ Mv [] w [] w' ∧ okS (keyNum head n tail) := by
 have uU : True := (fun _ _ _ _ => trivial) h_head h_tail p0 p1
 clear uU
 have dz := decS_size n h_n
 have V_tab0 : Tb 0 (V H w []) w := Tb.start tab0 (fun _ _ => fps_nil _)
 refine calls_enter 13 Tryd.func71 rfl Tryd.ntmps71 (Nat.le_of_ble_eq_true rfl) (fun _ F0i => ?_)
 have F0 : Fr 13 [(0, .string head), (1, .int .i64 n), (2, .string tail)] _ := F0i
 clear F0i
 refine wp_seq (wp_region_lit (l_op (f_val F0 rfl rfl (r_assign rfl rfl) rfl fun _ F1 => ?_)))
 have F2 : Fr 13 [(6, .string (⟨#[]⟩ : ByteArray)), (0, .string head), (1, .int .i64 n), (2, .string tail)] _ := F1.cut rfl
 clear F0 F1
 refine s_end (x_normal (wp_seq (wp_region_lit (l_op (f_mv F2 rfl rfl rfl rfl rfl fun _ F3 => ?_)))))
 refine l_op (f_mv F3 rfl rfl rfl rfl rfl fun _ F4 => ?_)
 refine l_op (f_call F4 CF_19 rfl rfl rfl rfl (lc (F4.ev 8 rfl) rfl) (impl_Decimal_c (n := n) h_n V_tab0) ?_)
 rintro _ w5 ⟨rfl, m5, ok_r0_5⟩
 refine ⟨_, rfl, fun _ F6 => ?_⟩
 have S5 := At.frame0 (At.nil w) m5
 clear m5
 have k7 : head.size + (decS n).size ≤ 9223372036854775807 := by first | omega | (simp only [ByteArray.size_append]; omega)
 refine l_op (f_val F6 rfl rfl (r_cat rfl (F6.ev 7 rfl) (F6.ev 9 rfl) k7) rfl fun _ F8 => ?_)
 refine l_op (f_mv F8 rfl rfl rfl rfl rfl fun _ F9 => ?_)
 have k10 : (head ++ (decS n)).size + tail.size ≤ 9223372036854775807 := by first | omega | (simp only [ByteArray.size_append]; omega)
 refine l_op (f_val F9 rfl rfl (r_cat rfl (F9.ev 10 rfl) (F9.ev 11 rfl) k10) rfl fun _ F11 => ?_)
 refine l_op (f_as F11 rfl rfl rfl rfl rfl fun _ F12 => ?_)
 have F13 : Fr 13 [(6, .string ((head ++ (decS n)) ++ tail))] _ := F12.cut rfl
 clear F2 F3 F4 F6 F8 F9 F11 F12
 have T14 : Mv _ _ [] _ := S5
 refine s_end (x_normal (wp_ret ?_))
 refine x_done (v := .string ((head ++ (decS n)) ++ tail)) F13 (results_1 Tryd.results71 (.tmp (F13.ev 6 rfl))) ?_
 exact ⟨rfl, (Mv.pick T14 [] rfl), ((show ((head ++ (decS n)) ++ tail) = (keyNum head n tail) from by rfl) ▸ (okS_cat k10))⟩
theorem spec_KeyNum_c {w : World} {H : Nat → Prop} {head : ByteArray} {n : Int} {tail : ByteArray} (h_head : okS head) (h_n : i64ok n) (h_tail : okS tail) (p0 : head.size ≤ 1000) (p1 : tail.size ≤ 1000) :
    Calls Tryd.prog 142 #[.string head, .int .i64 n, .string tail] w fun e w' => e = .returned (.string (keyNum head n tail)) ∧ Mv [] w [] w' ∧ okS (keyNum head n tail) := by
 have uU : True := (fun _ _ _ _ _ => trivial) H h_head h_tail p0 p1
 clear uU
 have dz := decS_size n h_n
 refine calls_enter 13 Tryd.func142 rfl Tryd.ntmps142 (Nat.le_of_ble_eq_true rfl) (fun _ F0i => ?_)
 have F0 : Fr 13 [(0, .string head), (1, .int .i64 n), (2, .string tail)] _ := F0i
 clear F0i
 refine wp_seq (wp_region_lit (l_op (f_val F0 rfl rfl (r_assign rfl rfl) rfl fun _ F1 => ?_)))
 have F2 : Fr 13 [(6, .string (⟨#[]⟩ : ByteArray)), (0, .string head), (1, .int .i64 n), (2, .string tail)] _ := F1.cut rfl
 clear F0 F1
 refine s_end (x_normal (wp_seq (wp_region_lit (l_op (f_mv F2 rfl rfl rfl rfl rfl fun _ F3 => ?_)))))
 refine l_op (f_mv F3 rfl rfl rfl rfl rfl fun _ F4 => ?_)
 refine l_op (f_call F4 CF_167 rfl rfl rfl rfl (lc (F4.ev 8 rfl) rfl) (spec_Decimal_c (H := fun _ => True) (n := n) h_n) ?_)
 rintro _ w5 ⟨rfl, m5, ok_r0_5⟩
 refine ⟨_, rfl, fun _ F6 => ?_⟩
 have S5 := At.frame0 (At.nil w) m5
 clear m5
 have k7 : head.size + (decS n).size ≤ 9223372036854775807 := by first | omega | (simp only [ByteArray.size_append]; omega)
 refine l_op (f_val F6 rfl rfl (r_cat rfl (F6.ev 7 rfl) (F6.ev 9 rfl) k7) rfl fun _ F8 => ?_)
 refine l_op (f_mv F8 rfl rfl rfl rfl rfl fun _ F9 => ?_)
 have k10 : (head ++ (decS n)).size + tail.size ≤ 9223372036854775807 := by first | omega | (simp only [ByteArray.size_append]; omega)
 refine l_op (f_val F9 rfl rfl (r_cat rfl (F9.ev 10 rfl) (F9.ev 11 rfl) k10) rfl fun _ F11 => ?_)
 refine l_op (f_as F11 rfl rfl rfl rfl rfl fun _ F12 => ?_)
 have F13 : Fr 13 [(6, .string ((head ++ (decS n)) ++ tail))] _ := F12.cut rfl
 clear F2 F3 F4 F6 F8 F9 F11 F12
 have T14 : Mv _ _ [] _ := S5
 refine s_end (x_normal (wp_ret ?_))
 refine x_done (v := .string ((head ++ (decS n)) ++ tail)) F13 (results_1 Tryd.results142 (.tmp (F13.ev 6 rfl))) ?_
 exact ⟨rfl, (Mv.pick T14 [] rfl), ((show ((head ++ (decS n)) ++ tail) = (keyNum head n tail) from by rfl) ▸ (okS_cat k10))⟩
end Go.Proofs.YtjiplnaceiofmaaDoor
