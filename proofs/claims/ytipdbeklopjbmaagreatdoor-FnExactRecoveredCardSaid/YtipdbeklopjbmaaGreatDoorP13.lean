/-
  Texts laid together: GenNa, GenNb.
-/
import Derived.Test.YtipdbeklopjbmaaGreatDoorP06
import Derived.Test.YtipdbeklopjbmaaGreatDoorP12
/-
  Walks: decimal texts, keys with numbers.
-/

namespace Go.Proofs.YtipdbeklopjbmaaGreatDoor
open Go.ChangeShapes Go.WideShapes Go.ChangeAt Go.RowKit
set_option maxRecDepth 100000
set_option maxHeartbeats 1000000
theorem strconv_Itoa_c {w : World} {H : Nat → Prop} {i : Int} (h_i : i64ok i) (tab0 : Tb 0 H w) :
    Calls Tryz.prog 182 #[.int .i64 i] w fun e w' => e = .returned (.string (decS i)) ∧ Mv [] w [] w' ∧ okS (decS i) := by
  obtain ⟨b1, b2⟩ := h_i
  refine (Any.strconv_Itoa laysItoa i (by omega) (by omega) w tab0.1).mono ?_
  rintro e w' ⟨rfl, k, os, rfl⟩
  exact ⟨rfl, mv_below (below_grow w k os), Nat.le_trans (decS_size i ⟨b1, b2⟩) (by decide)⟩
theorem impl_Decimal_c {w : World} {H : Nat → Prop} {n : Int} (h_n : i64ok n) (tab0 : Tb 0 H w) :
    Calls Tryz.prog 151 #[.int .i64 n] w fun e w' => e = .returned (.string (decS n)) ∧ Mv [] w [] w' ∧ okS (decS n) := by
 have V_tab0 : Tb 0 (V H w []) w := Tb.start tab0 (fun _ _ => fps_nil _)
 refine calls_enter 5 Tryz.func151 rfl Tryz.ntmps151 (Nat.le_of_ble_eq_true rfl) (fun _ F0i => ?_)
 have F0 : Fr 5 [(0, .int .i64 n)] _ := F0i
 clear F0i
 refine wp_seq (wp_region_lit (l_op (f_val F0 rfl rfl (r_assign rfl rfl) rfl fun _ F1 => ?_)))
 refine s_end (x_normal (wp_seq (wp_region_lit (l_op (f_mv F1 rfl rfl rfl rfl rfl fun _ F2 => ?_)))))
 refine l_op (f_call F2 CF_182 rfl rfl rfl rfl (lc (F2.ev 3 rfl) rfl) (strconv_Itoa_c (i := n) h_n V_tab0) ?_)
 rintro _ w3 ⟨rfl, m3, Q0⟩
 refine ⟨_, rfl, fun _ F4 => ?_⟩
 have S3 := At.frame0 (At.nil w) m3
 clear m3
 refine l_op (f_as F4 rfl rfl rfl rfl rfl fun _ F5 => ?_)
 refine s_end (x_normal (wp_ret ?_))
 refine x_done (v := .string (decS n)) F5 (results_1 Tryz.results151 (.tmp (F5.ev 2 rfl))) ?_
 exact ⟨rfl, (Mv.pick S3 [] rfl), Q0⟩
theorem spec_l01Figure_c {w : World} {H : Nat → Prop} {x : Int} (h_x : i64ok x) (p0 : 0 ≤ x) (p1 : x < 16) :
    Calls Tryz.prog 177 #[.int .i64 x] w fun e w' => e = .returned (.int .u8 ((fig x.toNat : Nat) : Int)) ∧ Mv [] w [] w' ∧ fig x.toNat < 256 := by
 have uU : True := (fun _ _ _ _ => trivial) H h_x p0 p1
 clear uU
 refine calls_enter 12 Tryz.func177 rfl Tryz.ntmps177 (Nat.le_of_ble_eq_true rfl) (fun _ F0i => ?_)
 have F0 : Fr 12 [(0, .int .i64 x)] _ := F0i
 clear F0i
 refine wp_seq (wp_region_lit (l_op (f_val F0 rfl rfl (r_assign rfl rfl) rfl fun _ F1 => ?_)))
 refine s_end (x_normal (wp_seq (wp_seq (wp_region_lit (l_op (f_mv F1 rfl rfl rfl rfl rfl fun _ F2 => ?_))))))
 refine l_op (f_val F2 rfl rfl (r_cmp (b := decide (x < 10)) (.inr (.inr (.inl rfl))) rfl (F2.ev 3 rfl) rfl (dec_of (by omega))) rfl fun _ F3 => ?_)
 refine s_end (x_normal (x_cond (p := x < 10) (F3.ev 4 rfl) (fun h4 => ?_) (fun h4 => ?_)))
 · skip
   refine wp_seq (wp_region_lit (l_op (f_mv F3 rfl rfl rfl rfl rfl fun _ F5 => ?_)))
   refine l_op (f_val F5 rfl rfl (r_add (z := (48 + x)) rfl rfl (F5.ev 5 rfl) (by first | rfl | omega) ⟨by first | omega | (unfold i64ok at *; omega), by first | omega | (unfold i64ok at *; omega)⟩) rfl fun _ F6 => ?_)
   refine l_op (f_val F6 rfl rfl (r_conv8 Tryz.underlying5 Tryz.underlying3 rfl ((F6.ev 6 rfl).trans (congrArg _ (show 48 + x = (((48 + x).toNat : Nat) : Int) by omega))) (by omega)) rfl fun _ F7 => ?_)
   refine l_op (f_as F7 rfl rfl rfl rfl rfl fun _ F8 => ?_)
   refine s_end (x_normal (wp_ret (x_then_ret ?_)))
   refine x_done (v := .int .u8 (((48 + x).toNat : Nat) : Int)) F8 (results_1 Tryz.results177 (.tmp (F8.ev 2 rfl))) ?_
   exact ⟨(by rw [(show (((48 + x).toNat : Nat) : Int) = ((fig x.toNat : Nat) : Int) from by exact congrArg (fun n : Nat => (n : Int)) (fig_lo ‹_› ‹_›))]), (Mv.pick (Mv.refl (At.nil w)) [] rfl), fig_lt (by omega)⟩
 · skip
   refine wp_skip (x_normal (wp_seq (wp_region_lit (l_op (f_mv F3 rfl rfl rfl rfl rfl fun _ F9 => ?_)))))
   refine l_op (f_val F9 rfl rfl (r_add (z := (97 + x)) rfl rfl (F9.ev 8 rfl) (by first | rfl | omega) ⟨by first | omega | (unfold i64ok at *; omega), by first | omega | (unfold i64ok at *; omega)⟩) rfl fun _ F10 => ?_)
   refine l_op (f_val F10 rfl rfl (r_sub (z := ((97 + x) - 10)) rfl (F10.ev 9 rfl) rfl (by first | rfl | omega) ⟨by first | omega | (unfold i64ok at *; omega), by first | omega | (unfold i64ok at *; omega)⟩) rfl fun _ F11 => ?_)
   refine l_op (f_val F11 rfl rfl (r_conv8 Tryz.underlying5 Tryz.underlying3 rfl ((F11.ev 10 rfl).trans (congrArg _ (show (97 + x) - 10 = ((((97 + x) - 10).toNat : Nat) : Int) by omega))) (by omega)) rfl fun _ F12 => ?_)
   refine l_op (f_as F12 rfl rfl rfl rfl rfl fun _ F13 => ?_)
   refine s_end (x_normal (wp_ret ?_))
   refine x_done (v := .int .u8 ((((97 + x) - 10).toNat : Nat) : Int)) F13 (results_1 Tryz.results177 (.tmp (F13.ev 2 rfl))) ?_
   exact ⟨(by rw [(show ((((97 + x) - 10).toNat : Nat) : Int) = ((fig x.toNat : Nat) : Int) from by rw [show (97 + x) - 10 = 87 + x by omega, fig_hi ‹_›])]), (Mv.pick (Mv.refl (At.nil w)) [] rfl), fig_lt (by omega)⟩
theorem spec_Decimal_c {w : World} {H : Nat → Prop} {n : Int} (h_n : i64ok n) :
    Calls Tryz.prog 144 #[.int .i64 n] w fun e w' => e = .returned (.string (decS n)) ∧ Mv [] w [] w' ∧ okS (decS n) := by
 have uU : True := (fun _ => trivial) H
 clear uU
 refine calls_enter 30 Tryz.func144 rfl Tryz.ntmps144 (Nat.le_of_ble_eq_true rfl) (fun _ F0i => ?_)
 have F0 : Fr 30 [(0, .int .i64 n)] _ := F0i
 clear F0i
 refine wp_seq (wp_region_lit (l_op (f_val F0 rfl rfl (r_assign rfl rfl) rfl fun _ F1 => ?_)))
 refine s_end (x_normal (wp_seq (wp_seq (wp_region_lit (l_op (f_mv F1 rfl rfl rfl rfl rfl fun _ F2 => ?_))))))
 refine l_op (f_val F2 rfl rfl (r_cmp (b := decide (n = 0)) (.inl rfl) rfl (F2.ev 6 rfl) rfl (dec_of (by omega))) rfl fun _ F3 => ?_)
 refine s_end (x_normal (x_cond (p := n = 0) (F3.ev 7 rfl) (fun h4 => ?_) (fun h4 => ?_)))
 · skip
   refine wp_seq (wp_region_lit (l_op (f_val F3 rfl rfl (r_assign rfl rfl) rfl fun _ F5 => ?_)))
   refine s_end (x_normal (wp_ret (x_then_ret ?_)))
   refine x_done (v := .string (⟨#[48]⟩ : ByteArray)) F5 (results_1 Tryz.results144 (.tmp (F5.ev 2 rfl))) ?_
   exact ⟨(by rw [(show (⟨#[48]⟩ : ByteArray) = (decS n) from by exact dec0 ‹_›)]), (Mv.pick (Mv.refl (At.nil w)) [] rfl), ((show (⟨#[48]⟩ : ByteArray) = (decS n) from by exact dec0 ‹_›) ▸ (by unfold okS; decide))⟩
 · skip
   refine wp_skip (x_normal (wp_seq (wp_region_lit (l_op (f_mv F3 rfl rfl rfl rfl rfl fun _ F6 => ?_)))))
   refine l_op (f_val F6 rfl rfl (r_cmp (b := decide (n < 0)) (.inr (.inr (.inl rfl))) rfl (F6.ev 8 rfl) rfl (dec_of (by omega))) rfl fun _ F7 => ?_)
   refine l_op (f_as F7 rfl rfl rfl rfl rfl fun _ F8 => ?_)
   refine s_end (x_normal (wp_seq (wp_region_lit (l_op (f_val F8 rfl rfl (r_assign rfl rfl) rfl fun _ F9 => ?_)))))
   refine s_end (x_normal (wp_seq (wp_block ?_)))
   refine x_loop (fun (m : Int) aZ wZ => ∃ (s : ByteArray), Fr 30 [(4, .string s), (3, .bool (decide (n < 0))), (0, .int .i64 m)] aZ ∧ Mv [] w [] wZ ∧ okS s ∧ (decInv n m s)) (fun (m : Int) => m.natAbs) (n) ?_ ?_
   · exact ⟨bE_, F9.cut rfl, (Mv.refl (At.nil w)), (by unfold okS; decide), decInv.start n⟩
   · rintro m a10 w10 ⟨s, F10, S10, kk10_0, hk_0⟩
     have hsz := hk_0.size h_n
     have h_m := hk_0.i64 h_n
     refine wp_seq (wp_seq (wp_region_lit (l_op (f_mv F10 rfl rfl rfl rfl rfl fun _ F11 => ?_))))
     refine l_op (f_val F11 rfl rfl (r_cmp (b := decide (m ≠ 0)) (.inr (.inl rfl)) rfl (F11.ev 10 rfl) rfl (dec_of (by omega))) rfl fun _ F12 => ?_)
     refine s_end (x_normal (x_cond (p := m ≠ 0) (F12.ev 11 rfl) (fun h13 => ?_) (fun h13 => ?_)))
     · skip
       refine wp_skip (x_normal (wp_block (wp_seq (wp_region_lit (l_op (f_mv F12 rfl rfl rfl rfl rfl fun _ F14 => ?_))))))
       have rm15 : -10 < m.tmod 10 ∧ m.tmod 10 < 10 := tmod_bd _ (by decide)
       refine l_op (f_val (v := .int .i64 (m.tmod 10)) F14 rfl rfl (r_remI (c := 10) rfl (by decide) rfl (F14.ev 12 rfl) rfl) rfl fun _ F16 => ?_)
       refine l_op (f_as F16 rfl rfl rfl rfl rfl fun _ F17 => ?_)
       refine s_end (x_normal (wp_seq (wp_seq (wp_region_lit (l_op (f_mv F17 rfl rfl rfl rfl rfl fun _ F18 => ?_))))))
       refine l_op (f_val F18 rfl rfl (r_cmp (b := decide ((m.tmod 10) < 0)) (.inr (.inr (.inl rfl))) rfl (F18.ev 14 rfl) rfl (dec_of (by omega))) rfl fun _ F19 => ?_)
       refine s_end (x_normal (x_cond (p := (m.tmod 10) < 0) (F19.ev 15 rfl) (fun h20 => ?_) (fun h20 => ?_)))
       · skip
         refine wp_region_lit (l_op (f_mv F19 rfl rfl rfl rfl rfl fun _ F21 => ?_))
         refine l_op (f_val F21 rfl rfl (r_negI rfl (F21.ev 16 rfl) ⟨by omega, by omega⟩) rfl fun _ F22 => ?_)
         refine l_op (f_as F22 rfl rfl rfl rfl rfl fun _ F23 => ?_)
         refine s_end (x_normal (wp_seq (wp_region_lit (l_op (f_mv F23 rfl rfl rfl rfl rfl fun _ F24 => ?_)))))
         refine l_op (f_call F24 CF_177 rfl rfl rfl rfl (lc (F24.ev 18 rfl) rfl) (spec_l01Figure_c (H := fun _ => True) (x := (-(m.tmod 10))) (by first | assumption | exact ⟨by omega, by omega⟩ | (unfold i64ok at *; omega)) (by first | assumption | omega | (simp <;> omega)) (by first | assumption | omega | (simp <;> omega))) ?_)
         rintro _ w25 ⟨rfl, m25, q25_0⟩
         refine ⟨_, rfl, fun _ F26 => ?_⟩
         have S25 := At.frame0 S10.at' m25
         clear m25
         refine l_op (f_buildSl (ok := okB) (vs := [.int .u8 ((fig (-(m.tmod 10)).toNat : Nat) : Int)]) F26 S25.at' ([fig (-(m.tmod 10)).toNat]) ET_62 rfl rfl rfl rfl rfl rfl (lc (pr2 (F26.ev 19 rfl)) rfl) rfl rfl (fun x hx => (List.mem_singleton.1 hx) ▸ (show fig (-(m.tmod 10)).toNat < 256 by omega)) fun b27 _ w27 F28 S27 => ?_)
         refine l_op (f_val F28 rfl rfl (r_bstr Tryz.underlying62 Tryz.underlying5 Tryz.underlying9 ((At.rd S27.at' ET_62.hk 0 rfl)).1 rfl (F28.ev 20 rfl)) rfl fun _ F29 => ?_)
         refine l_op (f_mv F29 rfl rfl rfl rfl rfl fun _ F30 => ?_)
         have k31 : (bstr ([fig (-(m.tmod 10)).toNat])).size + s.size ≤ 9223372036854775807 := by first | (rw [bstr_size]; ((repeat (first | rw [List.length_append] | rw [List.length_cons] | rw [List.length_nil] | rw [List.length_take] | rw [List.length_drop])) <;> omega)) | (have : (⟨#[45]⟩ : ByteArray).size = 1 := rfl; omega)
         refine l_op (f_val F30 rfl rfl (r_cat rfl (F30.ev 21 rfl) (F30.ev 22 rfl) k31) rfl fun _ F32 => ?_)
         refine l_op (f_as F32 rfl rfl rfl rfl rfl fun _ F33 => ?_)
         refine s_end (x_normal (wp_region_lit (l_op (f_mv F33 rfl rfl rfl rfl rfl fun _ F34 => ?_))))
         refine l_op (f_val (v := .int .i64 (m.tdiv 10)) F34 rfl rfl (r_quoI (c := 10) rfl (by decide) (by first | assumption | exact ⟨by omega, by omega⟩) rfl (F34.ev 24 rfl) rfl) rfl fun _ F35 => ?_)
         refine l_op (f_as F35 rfl rfl rfl rfl rfl fun _ F36 => ?_)
         refine s_end (x_block_normal ?_)
         refine x_normal ⟨m.tdiv 10, by exact tdiv_dec ‹_›, ((bstr ([fig (-(m.tmod 10)).toNat])) ++ s), F36.cut rfl, ((S10.trans (S25.trans S27)).pick [] rfl), (okS_cat k31), by first | exact hk_0.stepA ‹_› ‹_› | exact hk_0.stepB ‹_› ‹_›⟩
       · skip
         refine wp_skip (x_normal (wp_seq (wp_region_lit (l_op (f_mv F19 rfl rfl rfl rfl rfl fun _ F37 => ?_)))))
         refine l_op (f_call F37 CF_177 rfl rfl rfl rfl (lc (F37.ev 18 rfl) rfl) (spec_l01Figure_c (H := fun _ => True) (x := (m.tmod 10)) (by first | assumption | exact ⟨by omega, by omega⟩ | (unfold i64ok at *; omega)) (by first | assumption | omega | (simp <;> omega)) (by first | assumption | omega | (simp <;> omega))) ?_)
         rintro _ w38 ⟨rfl, m38, q38_0⟩
         refine ⟨_, rfl, fun _ F39 => ?_⟩
         have S38 := At.frame0 S10.at' m38
         clear m38
         refine l_op (f_buildSl (ok := okB) (vs := [.int .u8 ((fig (m.tmod 10).toNat : Nat) : Int)]) F39 S38.at' ([fig (m.tmod 10).toNat]) ET_62 rfl rfl rfl rfl rfl rfl (lc (pr2 (F39.ev 19 rfl)) rfl) rfl rfl (fun x hx => (List.mem_singleton.1 hx) ▸ (show fig (m.tmod 10).toNat < 256 by omega)) fun b40 _ w40 F41 S40 => ?_)
         refine l_op (f_val F41 rfl rfl (r_bstr Tryz.underlying62 Tryz.underlying5 Tryz.underlying9 ((At.rd S40.at' ET_62.hk 0 rfl)).1 rfl (F41.ev 20 rfl)) rfl fun _ F42 => ?_)
         refine l_op (f_mv F42 rfl rfl rfl rfl rfl fun _ F43 => ?_)
         have k44 : (bstr ([fig (m.tmod 10).toNat])).size + s.size ≤ 9223372036854775807 := by first | (rw [bstr_size]; ((repeat (first | rw [List.length_append] | rw [List.length_cons] | rw [List.length_nil] | rw [List.length_take] | rw [List.length_drop])) <;> omega)) | (have : (⟨#[45]⟩ : ByteArray).size = 1 := rfl; omega)
         refine l_op (f_val F43 rfl rfl (r_cat rfl (F43.ev 21 rfl) (F43.ev 22 rfl) k44) rfl fun _ F45 => ?_)
         refine l_op (f_as F45 rfl rfl rfl rfl rfl fun _ F46 => ?_)
         refine s_end (x_normal (wp_region_lit (l_op (f_mv F46 rfl rfl rfl rfl rfl fun _ F47 => ?_))))
         refine l_op (f_val (v := .int .i64 (m.tdiv 10)) F47 rfl rfl (r_quoI (c := 10) rfl (by decide) (by first | assumption | exact ⟨by omega, by omega⟩) rfl (F47.ev 24 rfl) rfl) rfl fun _ F48 => ?_)
         refine l_op (f_as F48 rfl rfl rfl rfl rfl fun _ F49 => ?_)
         refine s_end (x_block_normal ?_)
         refine x_normal ⟨m.tdiv 10, by exact tdiv_dec ‹_›, ((bstr ([fig (m.tmod 10).toNat])) ++ s), F49.cut rfl, ((S10.trans (S38.trans S40)).pick [] rfl), (okS_cat k44), by first | exact hk_0.stepA ‹_› ‹_› | exact hk_0.stepB ‹_› ‹_›⟩
     · skip
       refine wp_exit (x_then_exit (x_then_exit (x_block_here (x_normal (wp_seq (wp_seq (wp_region_lit (l_op (f_mv F12 rfl rfl rfl rfl rfl fun _ F50 => ?_)))))))))
       refine s_end (x_normal (x_cond (p := n < 0) (F50.ev 26 rfl) (fun h51 => ?_) (fun h51 => ?_)))
       · skip
         refine wp_seq (wp_region_lit (l_op (f_mv F50 rfl rfl rfl rfl rfl fun _ F52 => ?_)))
         have k53 : (⟨#[45]⟩ : ByteArray).size + s.size ≤ 9223372036854775807 := by first | (rw [bstr_size]; ((repeat (first | rw [List.length_append] | rw [List.length_cons] | rw [List.length_nil] | rw [List.length_take] | rw [List.length_drop])) <;> omega)) | (have : (⟨#[45]⟩ : ByteArray).size = 1 := rfl; omega)
         refine l_op (f_val F52 rfl rfl (r_cat rfl rfl (F52.ev 27 rfl) k53) rfl fun _ F54 => ?_)
         refine l_op (f_as F54 rfl rfl rfl rfl rfl fun _ F55 => ?_)
         refine s_end (x_normal (wp_ret (x_then_ret ?_)))
         refine x_done (v := .string ((⟨#[45]⟩ : ByteArray) ++ s)) F55 (results_1 Tryz.results144 (.tmp (F55.ev 2 rfl))) ?_
         exact ⟨(by rw [(show ((⟨#[45]⟩ : ByteArray) ++ s) = (decS n) from by exact hk_0.end2 ‹_› ‹_›)]), (Mv.pick S10 [] rfl), ((show ((⟨#[45]⟩ : ByteArray) ++ s) = (decS n) from by exact hk_0.end2 ‹_› ‹_›) ▸ (okS_cat k53))⟩
       · skip
         refine wp_skip (x_normal (wp_seq (wp_region_lit (l_op (f_mv F50 rfl rfl rfl rfl rfl fun _ F56 => ?_)))))
         refine l_op (f_as F56 rfl rfl rfl rfl rfl fun _ F57 => ?_)
         refine s_end (x_normal (wp_ret ?_))
         refine x_done (v := .string s) F57 (results_1 Tryz.results144 (.tmp (F57.ev 2 rfl))) ?_
         exact ⟨(by rw [(show s = (decS n) from by exact hk_0.end1 ‹_› ‹_› ‹_›)]), (Mv.pick S10 [] rfl), ((show s = (decS n) from by exact hk_0.end1 ‹_› ‹_› ‹_›) ▸ kk10_0)⟩
end Go.Proofs.YtipdbeklopjbmaaGreatDoor
/-
  Walks: a number is set.
-/

namespace Go.Proofs.YtipdbeklopjbmaaGreatDoor
open Go.ChangeShapes Go.WideShapes Go.ChangeAt Go.RowKit
set_option maxRecDepth 100000
set_option maxHeartbeats 1000000
end Go.Proofs.YtipdbeklopjbmaaGreatDoor
