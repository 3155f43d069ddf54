/-
  PROVED HERE: whatever the input, the statement laws.FnClockUp returns true. Condition: the tables and errors of the library that the row lists stand as the program's text lays them (the card ties that).
-/
import Derived.Test.YtjiplnaceiofmaaDoorGenDp
import Derived.Test.YtjiplnaceiofmaaDoorGenSe
import Derived.Test.YtjiplnaceiofmaaDoorLaw2
import Derived.Test.YtjiplnaceiofmaaDoorLaw3
namespace Go.Proofs.YtjiplnaceiofmaaDoor
open Go.ChangeShapes Go.WideShapes Go.ChangeAt Go.RowKit
set_option maxRecDepth 100000
set_option maxHeartbeats 1000000
theorem laws_FnClockUp_c {w : World} {H : Nat → Prop} {code : List Nat} {code_a : Option Addr} {code_n code_c : Nat} (v_code : RdA 1 encB okB H w (.slice code_a code_n code_c) code) (tab0 : Tb 0 H w) (tab1 : Tb 1 H w) :
    Calls Tryd.prog 8 #[.slice code_a code_n code_c] w fun e w' => e = .returned (.bool true) ∧ Mv [] w [] w' := by
 have V_v_code : RdA 1 encB okB (V H w []) w (.slice code_a code_n code_c) code := RdA.start v_code (fun _ _ => fps_nil _)
 obtain ⟨ln_code, le_code, mx_code, ni_code⟩ := RdA.inv v_code
 have V_tab0 : Tb 0 (V H w []) w := Tb.start tab0 (fun _ _ => fps_nil _)
 have V_tab1 : Tb 1 (V H w []) w := Tb.start tab1 (fun _ _ => fps_nil _)
 refine calls_enter 72 Tryd.func8 rfl Tryd.ntmps8 (Nat.le_of_ble_eq_true rfl) (fun _ F0i => ?_)
 have F0 : Fr 72 [(0, .slice code_a code_n code_c)] _ := F0i
 clear F0i
 refine wp_seq (wp_region_lit (l_op (f_val F0 rfl rfl (r_assign rfl rfl) rfl fun _ F1 => ?_)))
 have F2 : Fr 72 [(2, .bool false), (0, .slice code_a code_n code_c)] _ := F1.cut rfl
 clear F0 F1
 refine s_end (x_normal (wp_seq (wp_seq (wp_region_lit (l_op (f_mv F2 rfl rfl rfl rfl rfl fun _ F3 => ?_))))))
 refine l_op (f_call F3 CF_15 rfl rfl rfl rfl (lc (F3.ev 15 rfl) rfl) (laws_big_c (code := code) V_v_code) ?_)
 rintro _ w4 ⟨rfl, m4⟩
 refine ⟨_, rfl, fun _ F5 => ?_⟩
 have S4 := At.frame0 (At.nil w) m4
 clear m4
 have F6 : Fr 72 [(16, .bool (decide (code.length > 1048576))), (0, .slice code_a code_n code_c)] _ := F5.cut rfl
 clear F2 F3 F5
 have T7 : Mv _ _ [] _ := S4
 refine s_end (x_normal (x_cond (p := code.length > 1048576) (F6.ev 16 rfl) (fun h8 => ?_) (fun h8 => ?_)))
 · skip
   refine wp_seq (wp_region_lit (l_op (f_val F6 rfl rfl (r_assign rfl rfl) rfl fun _ F9 => ?_)))
   have F10 : Fr 72 [(2, .bool true)] _ := F9.cut rfl
   clear F6 F9
   refine s_end (x_normal (wp_ret (x_then_ret ?_)))
   refine x_done (v := .bool true) F10 (results_1 Tryd.results8 (.tmp (F10.ev 2 rfl))) ?_
   exact ⟨rfl, (Mv.pick T7 [] rfl)⟩
 · skip
   refine wp_skip (x_normal (wp_seq (wp_region_lit (l_op (f_mv F6 rfl rfl rfl rfl rfl fun _ F11 => ?_)))))
   refine l_op (f_call F11 CF_16 rfl rfl rfl rfl (lc (F11.ev 17 rfl) rfl) (spec_DrawPlaces_c (code := code) (RdA.mv (Nat.succ_pos _) V_v_code T7) (by first | assumption | omega | (simp <;> omega))) ?_)
   rintro _ w12 ⟨p_12, r0_a_12, r0_n_12, r0_c_12, rfl, m12, v12_0, q12_0, q12_1⟩
   refine ⟨_, rfl, fun _ F13 => ?_⟩
   have S12 := At.frame0 T7.at' m12
   have V12_0 := Rd.got0 T7.at' (T7.kp.size) v12_0 S12
   obtain ⟨ln12_0, le12_0, mx12_0, ni12_0⟩ := Rd.inv V12_0
   clear m12 v12_0
   refine l_op (f_as F13 rfl rfl rfl rfl rfl fun _ F14 => ?_)
   have F15 : Fr 72 [(3, .slice r0_a_12 r0_n_12 r0_c_12)] _ := F14.cut rfl
   clear F6 F11 F13 F14
   have T16 : Mv _ _ [] _ := S12
   refine s_end (x_normal (wp_seq (wp_region_lit (l_op (f_call F15 CF_17 rfl rfl rfl rfl rfl (laws_base_c (H := V H w [])  ) ?_)))))
   rintro _ w17 ⟨r0_store_a_17, r0_store_n_17, r0_store_c_17, r0_touch_reads_a_17, r0_touch_reads_n_17, r0_touch_reads_c_17, r0_touch_writes_a_17, r0_touch_writes_n_17, r0_touch_writes_c_17, rfl, m17, v17_0, v17_1, v17_2⟩
   refine ⟨_, rfl, fun _ F18 => ?_⟩
   have S17 := At.frame0 T16.at' m17
   have V17_0 := Rd.got0 T16.at' ((T7.trans T16).kp.size) v17_0 S17
   obtain ⟨ln17_0, le17_0, mx17_0, ni17_0⟩ := Rd.inv V17_0
   have V17_1 := Rd.got0 T16.at' ((T7.trans T16).kp.size) v17_1 S17
   obtain ⟨ln17_1, le17_1, mx17_1, ni17_1⟩ := Rd.inv V17_1
   have V17_2 := Rd.got0 T16.at' ((T7.trans T16).kp.size) v17_2 S17
   obtain ⟨ln17_2, le17_2, mx17_2, ni17_2⟩ := Rd.inv V17_2
   clear m17 v17_0 v17_1 v17_2
   refine l_op (f_alloc F18 S17.at' ZI_31 rfl rfl rfl rfl rfl fun b19 _ w19 F20 S19 => ?_)
   refine l_op (s_store S19.at' 0 TI_31 rfl rfl rfl rfl rfl (F20.ev 4 rfl) (F20.ev 19 rfl) rfl rfl rfl rfl rfl fun w21 S21 => ?_)
   have F22 : Fr 72 [(4, .pointer (some ⟨b19, 0, none⟩)), (19, .agg #[.slice r0_store_a_17 r0_store_n_17 r0_store_c_17, .slice r0_touch_reads_a_17 r0_touch_reads_n_17 r0_touch_reads_c_17, .slice r0_touch_writes_a_17 r0_touch_writes_n_17 r0_touch_writes_c_17]), (3, .slice r0_a_12 r0_n_12 r0_c_12)] _ := F20.cut rfl
   clear F15 F18 F20
   have T23 : Mv _ _ [bx b19 [.slice r0_store_a_17 r0_store_n_17 r0_store_c_17, .slice r0_touch_reads_a_17 r0_touch_reads_n_17 r0_touch_reads_c_17, .slice r0_touch_writes_a_17 r0_touch_writes_n_17 r0_touch_writes_c_17] 31] _ := S21
   refine s_end (x_normal (wp_seq (wp_region_lit (l_op (f_val F22 rfl rfl (r_assign rfl rfl) rfl fun _ F24 => ?_)))))
   have F25 : Fr 72 [(5, .int .i64 0), (4, .pointer (some ⟨b19, 0, none⟩)), (3, .slice r0_a_12 r0_n_12 r0_c_12)] _ := F24.cut rfl
   clear F22 F24
   refine s_end (x_normal (wp_seq (wp_seq (wp_region_lit (l_op (f_val F25 rfl rfl (r_assign rfl rfl) rfl fun _ F26 => ?_))))))
   have F27 : Fr 72 [(6, .int .i64 0), (5, .int .i64 0), (4, .pointer (some ⟨b19, 0, none⟩)), (3, .slice r0_a_12 r0_n_12 r0_c_12)] _ := F26.cut rfl
   clear F25 F26
   refine s_end (x_normal (wp_block ?_))
   refine x_loop (fun (k : Nat) aZ wZ => ∃ (M : MachD), ∃ (su : Nat), ∃ (sa : Option Addr), ∃ (sn : Nat), ∃ (sc : Nat), ∃ (ra : Option Addr), ∃ (rn : Nat), ∃ (rc : Nat), ∃ (ua : Option Addr), ∃ (un : Nat), ∃ (uc : Nat), Fr 72 [(6, .int .i64 ((k : Nat) : Int)), (5, .int .i64 ((su : Nat) : Int)), (4, .pointer (some ⟨b19, 0, none⟩)), (3, .slice r0_a_12 r0_n_12 r0_c_12)] aZ ∧ Mv [bx b19 [.slice r0_store_a_17 r0_store_n_17 r0_store_c_17, .slice r0_touch_reads_a_17 r0_touch_reads_n_17 r0_touch_reads_c_17, .slice r0_touch_writes_a_17 r0_touch_writes_n_17 r0_touch_writes_c_17] 31] w21 [bx b19 [.slice sa sn sc, .slice ra rn rc, .slice ua un uc] 31] wZ ∧ Rd 2 encC okC (V H w [bx b19 [.slice sa sn sc, .slice ra rn rc, .slice ua un uc] 31]) wZ (.slice sa sn sc) M.store ∧ Rd 1 encS okS (V H w [bx b19 [.slice sa sn sc, .slice ra rn rc, .slice ua un uc] 31]) wZ (.slice ra rn rc) M.touch.reads ∧ Rd 1 encS okS (V H w [bx b19 [.slice sa sn sc, .slice ra rn rc, .slice ua un uc] 31]) wZ (.slice ua un uc) M.touch.writes ∧ (clocks k su M) ∧ (k ≤ 6) ∧ (su ≤ 50 * k) ∧ (k ≤ su)) (fun (k : Nat) => 6 - k) (0) ?_ ?_
   · exact ⟨(⟨[], (⟨[], []⟩ : TouchD)⟩ : MachD), 0, r0_store_a_17, r0_store_n_17, r0_store_c_17, r0_touch_reads_a_17, r0_touch_reads_n_17, r0_touch_reads_c_17, r0_touch_writes_a_17, r0_touch_writes_n_17, r0_touch_writes_c_17, F27.cut rfl, (Mv.refl T23.at'), (Rd.mv (Nat.succ_pos _) V17_0 (S19.trans T23)), (Rd.mv (Nat.succ_pos _) V17_1 (S19.trans T23)), (Rd.mv (Nat.succ_pos _) V17_2 (S19.trans T23)), clocks_base, by omega, by omega, by omega⟩
   · rintro k a28 w28 ⟨M, su, sa, sn, sc, ra, rn, rc, ua, un, uc, F28, S28, W28_0, W28_1, W28_2, hk_0, hk_1, hk_2, hk_3⟩
     obtain ⟨lv28_0, lw28_0, lx28_0, ly28_0⟩ := Rd.inv W28_0
     obtain ⟨lv28_1, lw28_1, lx28_1, ly28_1⟩ := Rd.inv W28_1
     obtain ⟨lv28_2, lw28_2, lx28_2, ly28_2⟩ := Rd.inv W28_2
     have hbM := hk_0.2.2
     refine wp_seq (wp_seq (wp_region_lit (l_op (f_mv F28 rfl rfl rfl rfl rfl fun _ F29 => ?_))))
     refine l_op (f_val F29 rfl rfl (r_cmp (b := decide (k < 6)) (.inr (.inr (.inl rfl))) rfl (F29.ev 20 rfl) rfl (dec_of (by omega))) rfl fun _ F30 => ?_)
     have F31 : Fr 72 [(21, .bool (decide (k < 6))), (6, .int .i64 ((k : Nat) : Int)), (5, .int .i64 ((su : Nat) : Int)), (4, .pointer (some ⟨b19, 0, none⟩)), (3, .slice r0_a_12 r0_n_12 r0_c_12)] _ := F30.cut rfl
     clear F28 F29 F30
     refine s_end (x_normal (x_cond (p := k < 6) (F31.ev 21 rfl) (fun h32 => ?_) (fun h32 => ?_)))
     · skip
       refine wp_skip (x_normal (wp_seq (wp_block (wp_seq ?_))))
       obtain ⟨x1, hx1, okx1⟩ := Rd.elem (Rd.mv (Nat.succ_pos _) V12_0 (S17.trans (S19.trans (T23.trans S28)))) k (by first | assumption | omega)
       have pb34 := pOk_at (by assumption) hx1
       obtain ⟨r34, hr34, lr34⟩ := rem_nat (c := 50) pb34 (by decide)
       refine x_draw (fun aZ wZ => ∃ (r0_store_a_44 : Option Addr), ∃ (r0_store_n_44 : Nat), ∃ (r0_store_c_44 : Nat), ∃ (r0_touch_reads_a_44 : Option Addr), ∃ (r0_touch_reads_n_44 : Nat), ∃ (r0_touch_reads_c_44 : Nat), ∃ (r0_touch_writes_a_44 : Option Addr), ∃ (r0_touch_writes_n_44 : Nat), ∃ (r0_touch_writes_c_44 : Nat), Fr 72 [(3, .slice r0_a_12 r0_n_12 r0_c_12), (4, .pointer (some ⟨b19, 0, none⟩)), (5, .int .i64 ((su : Nat) : Int)), (6, .int .i64 ((k : Nat) : Int))] aZ ∧ Mv [bx b19 [.slice sa sn sc, .slice ra rn rc, .slice ua un uc] 31] w28 [bx b19 [.slice r0_store_a_44 r0_store_n_44 r0_store_c_44, .slice r0_touch_reads_a_44 r0_touch_reads_n_44 r0_touch_reads_c_44, .slice r0_touch_writes_a_44 r0_touch_writes_n_44 r0_touch_writes_c_44] 31, ow 81 2 encC okC (.slice r0_store_a_44 r0_store_n_44 r0_store_c_44) (tickM M ((1 + r34 : Nat) : Int)).store, ow 9 1 encS okS (.slice r0_touch_reads_a_44 r0_touch_reads_n_44 r0_touch_reads_c_44) (tickM M ((1 + r34 : Nat) : Int)).touch.reads, ow 9 1 encS okS (.slice r0_touch_writes_a_44 r0_touch_writes_n_44 r0_touch_writes_c_44) (tickM M ((1 + r34 : Nat) : Int)).touch.writes] wZ) [] mixed S28.at' (listed := #[false, false, false, false, false, false, false, false, false, false, false, false, false]) rfl (fun w35 S35 => ?_) [] rfl ?_
       · skip
         refine g_take F31 rfl (i := 1) (listed' := #[false, true, false, false, false, false, false, false, false, false, false, false, false]) rfl (by kernel_rfl) (by kernel_rfl) (by kernel_rfl) (fun _ _ _ h => h) (Sd.of (Mv.refl S35.at') [] rfl) rfl rfl rfl rfl (fun _ hz => (r_move rfl (F31.ev 3 rfl))) fun _ F36 => ?_
         refine g_take F36 rfl (i := 2) (listed' := #[false, true, true, false, false, false, false, false, false, false, false, false, false]) rfl (by kernel_rfl) (by kernel_rfl) (by kernel_rfl) (fun _ _ _ h => h) (Sd.of (Mv.refl S35.at') [] rfl) rfl rfl rfl rfl (fun _ hz => (r_move rfl (F36.ev 6 rfl))) fun _ F37 => ?_
         obtain ⟨B38, O38, y38, ad38, hy38, oky38, ln38, cl38⟩ := Rd.atK (Nat.succ_pos _) (Rd.mv (Nat.succ_pos _) V12_0 (S17.trans (S19.trans (T23.trans (S28.trans S35))))) k (by first | assumption | omega)
         clear ln38
         obtain rfl := Option.some.inj (hx1.symm.trans hy38)
         clear hy38 oky38
         refine g_take F37 rfl (i := 3) (listed' := #[false, true, true, true, false, false, false, false, false, false, false, false, false]) rfl (by kernel_rfl) (by kernel_rfl) (by kernel_rfl) (fun _ _ _ h => h) (Sd.of (Mv.refl S35.at') [] rfl) rfl rfl rfl rfl (fun _ hz => (r_indexAddr (i := k) ET_24 rfl ((F37.ev 26 rfl).trans (by rw [ad38])) (F37.ev 27 rfl) (by omega) (by first | assumption | omega))) fun _ F39 => ?_
         refine g_take (v := .int .i64 x1) F39 rfl (i := 4) (listed' := #[false, true, true, true, true, false, false, false, false, false, false, false, false]) rfl (by kernel_rfl) (by kernel_rfl) (by kernel_rfl) (fun _ _ _ h => h) (Sd.of (Mv.refl S35.at') [] rfl) rfl rfl rfl rfl (fun _ hz => (r_load (cs := [.int .i64 x1]) TI_3 rfl (F39.ev 28 rfl) rfl (fun _ => rfl) (elem_sub (f := 0) (cl38 _ hz.kp) [.int .i64 x1] rfl))) fun _ F40 => ?_
         refine g_take F40 rfl (i := 5) (listed' := #[false, true, true, true, true, true, false, false, false, false, false, false, false]) rfl (by kernel_rfl) (by kernel_rfl) (by kernel_rfl) (fun _ _ _ h => h) (Sd.of (Mv.refl S35.at') [] rfl) rfl rfl rfl rfl (fun _ hz => ((r_remI (c := 50) rfl (by decide) rfl (F40.ev 29 rfl) rfl).trans (by rw [hr34]))) fun _ F41 => ?_
         refine g_take F41 rfl (i := 6) (listed' := #[false, true, true, true, true, true, true, false, false, false, false, false, false]) rfl (by kernel_rfl) (by kernel_rfl) (by kernel_rfl) (fun _ _ _ h => h) (Sd.of (Mv.refl S35.at') [] rfl) rfl rfl rfl rfl (fun _ hz => (r_add (z := ((1 + r34 : Nat) : Int)) rfl rfl (F41.ev 30 rfl) (by first | rfl | omega) ⟨by first | omega | (unfold i64ok at *; omega), by first | omega | (unfold i64ok at *; omega)⟩)) fun _ F42 => ?_
         refine d_one (i := 0) (listed' := #[true, true, true, true, true, true, true, false, false, false, false, false, false]) rfl (by kernel_rfl) rfl rfl ?_
         refine f_val (v := .agg #[.slice sa sn sc, .slice ra rn rc, .slice ua un uc]) F42 rfl rfl (r_loadB S35.at' 0 TI_31 rfl rfl (F42.ev 4 rfl) rfl rfl (fun h => nomatch h) rfl) rfl fun _ F43 => ?_
         refine ⟨Sd.of (Mv.refl S35.at') [] rfl, ?_⟩
         refine d_one (i := 7) (listed' := #[true, true, true, true, true, true, true, true, false, false, false, false, false]) rfl (by kernel_rfl) rfl rfl ?_
         refine f_call F43 CF_29 rfl rfl rfl rfl (lc (F43.ev 25 rfl) (lc (F43.ev 31 rfl) rfl)) (impl_Tick_c (m := M) (n := ((1 + r34 : Nat) : Int)) (Rd.mv (Nat.succ_pos _) W28_0 S35) (Rd.mv (Nat.succ_pos _) W28_1 S35) (Rd.mv (Nat.succ_pos _) W28_2 S35) (by first | assumption | exact ⟨by omega, by omega⟩ | (unfold i64ok at *; omega)) (Tb.mv V_tab0 (T7.trans (T16.trans (S17.trans (S19.trans (T23.trans (S28.trans S35))))))) (Tb.mv V_tab1 (T7.trans (T16.trans (S17.trans (S19.trans (T23.trans (S28.trans S35))))))) (by first | assumption | omega | (refine bdC.s ?_; (repeat (first | with_reducible refine bdC.look ?_ | with_reducible refine bdC.lay ?_ | with_reducible refine bdC.set ?_ | with_reducible refine bdC.tick ?_)); exact bdC.le (by assumption) (by first | decide | omega)) | (refine bdC.r ?_; (repeat (first | with_reducible refine bdC.look ?_ | with_reducible refine bdC.lay ?_ | with_reducible refine bdC.set ?_ | with_reducible refine bdC.tick ?_)); exact bdC.le (by assumption) (by first | decide | omega)) | (refine bdC.w ?_; (repeat (first | with_reducible refine bdC.look ?_ | with_reducible refine bdC.lay ?_ | with_reducible refine bdC.set ?_ | with_reducible refine bdC.tick ?_)); exact bdC.le (by assumption) (by first | decide | omega)) | ((repeat (first | with_reducible refine bdC.look ?_ | with_reducible refine bdC.lay ?_ | with_reducible refine bdC.set ?_ | with_reducible refine bdC.tick ?_)); exact bdC.le (by assumption) (by first | decide | omega)) | decide | exact Nat.le_trans (keyNum_size _ _ (by assumption)) (by decide) | exact Nat.le_trans (keyNum_size _ _ ⟨by omega, by omega⟩) (by decide)) (by exact hk_0.2.1)) ?_
         rintro _ w44 ⟨r0_store_a_44, r0_store_n_44, r0_store_c_44, r0_touch_reads_a_44, r0_touch_reads_n_44, r0_touch_reads_c_44, r0_touch_writes_a_44, r0_touch_writes_n_44, r0_touch_writes_c_44, rfl, m44⟩
         refine ⟨_, rfl, fun _ F45 => ?_⟩
         have S44 : Mv _ _ [ow 81 2 encC okC (.slice r0_store_a_44 r0_store_n_44 r0_store_c_44) (tickM M ((1 + r34 : Nat) : Int)).store, ow 9 1 encS okS (.slice r0_touch_reads_a_44 r0_touch_reads_n_44 r0_touch_reads_c_44) (tickM M ((1 + r34 : Nat) : Int)).touch.reads, ow 9 1 encS okS (.slice r0_touch_writes_a_44 r0_touch_writes_n_44 r0_touch_writes_c_44) (tickM M ((1 + r34 : Nat) : Int)).touch.writes, bx b19 [.slice sa sn sc, .slice ra rn rc, .slice ua un uc] 31] _ := At.frame S35.at' [] rfl m44
         obtain ⟨lo44_0, lp44_0, lq44_0⟩ := At.ownInv S44.at' ET_26.hk 0 rfl
         obtain ⟨lo44_1, lp44_1, lq44_1⟩ := At.ownInv S44.at' ET_27.hk 1 rfl
         obtain ⟨lo44_2, lp44_2, lq44_2⟩ := At.ownInv S44.at' ET_27.hk 2 rfl
         clear m44
         refine ⟨Sd.of S44 [] rfl, ?_⟩
         refine g_take F45 rfl (i := 8) (listed' := #[true, true, true, true, true, true, true, true, true, false, false, false, false]) rfl (by kernel_rfl) (by kernel_rfl) (by kernel_rfl) (fun _ _ _ h => h) (Sd.of S44 [] rfl) rfl rfl rfl rfl (fun _ hz => (r_move rfl (F45.ev 32 rfl))) fun _ F46 => ?_
         refine g_take (v := .agg #[.slice r0_store_a_44 r0_store_n_44 r0_store_c_44, .slice r0_touch_reads_a_44 r0_touch_reads_n_44 r0_touch_reads_c_44, .slice r0_touch_writes_a_44 r0_touch_writes_n_44 r0_touch_writes_c_44]) F46 rfl (i := 9) (listed' := #[true, true, true, true, true, true, true, true, true, true, false, false, false]) rfl (by kernel_rfl) (by kernel_rfl) (by kernel_rfl) (fun _ _ _ h => h) (Sd.of S44 [] rfl) rfl rfl rfl rfl (fun _ hz => (r_extract rfl (F46.ev 24 rfl) rfl)) fun _ F47 => ?_
         refine g_take (v := .int .i64 0) F47 rfl (i := 10) (listed' := #[true, true, true, true, true, true, true, true, true, true, true, false, false]) rfl (by kernel_rfl) (by kernel_rfl) (by kernel_rfl) (fun _ _ _ h => h) (Sd.of S44 [] rfl) rfl rfl rfl rfl (fun _ hz => (r_extract rfl (F47.ev 24 rfl) rfl)) fun _ F48 => ?_
         refine g_take (v := .int .i64 (tickC M ((1 + r34 : Nat) : Int))) F48 rfl (i := 11) (listed' := #[true, true, true, true, true, true, true, true, true, true, true, true, false]) rfl (by kernel_rfl) (by kernel_rfl) (by kernel_rfl) (fun _ _ _ h => h) (Sd.of S44 [] rfl) rfl rfl rfl rfl (fun _ hz => (r_extract rfl (F48.ev 24 rfl) rfl)) fun _ F49 => ?_
         refine d_one (i := 12) (listed' := #[true, true, true, true, true, true, true, true, true, true, true, true, true]) rfl (by kernel_rfl) rfl rfl ?_
         refine s_store S44.at' 3 TI_31 rfl rfl rfl rfl rfl (F49.ev 4 rfl) (F49.ev 33 rfl) rfl rfl rfl rfl rfl fun w50 S50 => ?_
         refine ⟨Sd.of (S44.trans S50) [] rfl, ?_⟩
         refine wpAnyH_done (by kernel_rfl) (x_normal ?_) _
         exact ⟨r0_store_a_44, r0_store_n_44, r0_store_c_44, r0_touch_reads_a_44, r0_touch_reads_n_44, r0_touch_reads_c_44, r0_touch_writes_a_44, r0_touch_writes_n_44, r0_touch_writes_c_44, F49.cut rfl, ((S35.trans (S44.trans S50)).pick [0, 1, 2, 3] rfl)⟩
       · rintro a51 w51 ⟨r0_store_a_44, r0_store_n_44, r0_store_c_44, r0_touch_reads_a_44, r0_touch_reads_n_44, r0_touch_reads_c_44, r0_touch_writes_a_44, r0_touch_writes_n_44, r0_touch_writes_c_44, F51, S51⟩
         refine x_normal (wp_region_lit (l_op (f_mv F51 rfl rfl rfl rfl rfl fun _ F52 => ?_)))
         refine l_op (f_val F52 rfl rfl (r_add (z := ((su + 1 : Nat) : Int)) rfl (F52.ev 36 rfl) rfl (by first | rfl | omega) ⟨by first | omega | (unfold i64ok at *; omega), by first | omega | (unfold i64ok at *; omega)⟩) rfl fun _ F53 => ?_)
         refine l_op (f_mv F53 rfl rfl rfl rfl rfl fun _ F54 => ?_)
         refine l_op (f_mv F54 rfl rfl rfl rfl rfl fun _ F55 => ?_)
         obtain ⟨B56, O56, y56, ad56, hy56, oky56, ln56, cl56⟩ := Rd.at (Rd.mv (Nat.succ_pos _) V12_0 (S17.trans (S19.trans (T23.trans (S28.trans S51))))) k (by first | assumption | omega)
         clear ln56
         obtain rfl := Option.some.inj (hx1.symm.trans hy56)
         clear hy56 oky56
         refine l_op (f_val F55 rfl rfl (r_indexAddr (i := k) ET_24 rfl ((F55.ev 38 rfl).trans (by rw [ad56])) (F55.ev 39 rfl) (by omega) (by first | assumption | omega)) rfl fun _ F57 => ?_)
         refine l_op (f_val (v := .int .i64 x1) F57 rfl rfl (r_load (cs := [.int .i64 x1]) TI_3 rfl (F57.ev 40 rfl) rfl (fun _ => rfl) (elem_sub (f := 0) cl56 [.int .i64 x1] rfl)) rfl fun _ F58 => ?_)
         refine l_op (f_val F58 rfl rfl ((r_remI (c := 50) rfl (by decide) rfl (F58.ev 41 rfl) rfl).trans (by rw [hr34])) rfl fun _ F59 => ?_)
         refine l_op (f_val F59 rfl rfl (r_add (z := (((su + 1) + r34 : Nat) : Int)) rfl (F59.ev 37 rfl) (F59.ev 42 rfl) (by first | rfl | omega) ⟨by first | omega | (unfold i64ok at *; omega), by first | omega | (unfold i64ok at *; omega)⟩) rfl fun _ F60 => ?_)
         refine l_op (f_as F60 rfl rfl rfl rfl rfl fun _ F61 => ?_)
         have F62 : Fr 72 [(5, .int .i64 (((su + 1) + r34 : Nat) : Int)), (3, .slice r0_a_12 r0_n_12 r0_c_12), (4, .pointer (some ⟨b19, 0, none⟩)), (6, .int .i64 ((k : Nat) : Int))] _ := F61.cut rfl
         clear F51 F52 F53 F54 F55 F57 F58 F59 F60 F61
         refine s_end (x_block_normal (x_normal (wp_region_lit (l_op (f_mv F62 rfl rfl rfl rfl rfl fun _ F63 => ?_)))))
         refine l_op (f_val F63 rfl rfl (r_add (z := ((k + 1 : Nat) : Int)) rfl (F63.ev 22 rfl) rfl (by first | rfl | omega) ⟨by first | omega | (unfold i64ok at *; omega), by first | omega | (unfold i64ok at *; omega)⟩) rfl fun _ F64 => ?_)
         refine l_op (f_as F64 rfl rfl rfl rfl rfl fun _ F65 => ?_)
         have F66 : Fr 72 [(6, .int .i64 ((k + 1 : Nat) : Int)), (5, .int .i64 (((su + 1) + r34 : Nat) : Int)), (3, .slice r0_a_12 r0_n_12 r0_c_12), (4, .pointer (some ⟨b19, 0, none⟩))] _ := F65.cut rfl
         clear F62 F63 F64 F65
         refine s_end ?_
         have Z67 : Rd 2 encC okC (V H w [bx b19 [.slice r0_store_a_44 r0_store_n_44 r0_store_c_44, .slice r0_touch_reads_a_44 r0_touch_reads_n_44 r0_touch_reads_c_44, .slice r0_touch_writes_a_44 r0_touch_writes_n_44 r0_touch_writes_c_44] 31, ow 9 1 encS okS (.slice r0_touch_reads_a_44 r0_touch_reads_n_44 r0_touch_reads_c_44) (tickM M ((1 + r34 : Nat) : Int)).touch.reads, ow 9 1 encS okS (.slice r0_touch_writes_a_44 r0_touch_writes_n_44 r0_touch_writes_c_44) (tickM M ((1 + r34 : Nat) : Int)).touch.writes]) w51 (.slice r0_store_a_44 r0_store_n_44 r0_store_c_44) (tickM M ((1 + r34 : Nat) : Int)).store := At.freeze (T7.trans (T16.trans (S17.trans (S19.trans (T23.trans (S28.trans S51)))))) ET_26.hk 1 rfl (fun b hb => ((T7.trans (T16.trans (S17.trans (S19.trans (T23.trans (S28.trans S51)))))).fresh b ⟨_, nth_mem (i := 1) rfl, hb⟩).resolve_left (fps_nil _))
         have S67 := At.drop S51.at' 1
         have Z68 : Rd 1 encS okS (V H w [bx b19 [.slice r0_store_a_44 r0_store_n_44 r0_store_c_44, .slice r0_touch_reads_a_44 r0_touch_reads_n_44 r0_touch_reads_c_44, .slice r0_touch_writes_a_44 r0_touch_writes_n_44 r0_touch_writes_c_44] 31, ow 9 1 encS okS (.slice r0_touch_writes_a_44 r0_touch_writes_n_44 r0_touch_writes_c_44) (tickM M ((1 + r34 : Nat) : Int)).touch.writes]) w51 (.slice r0_touch_reads_a_44 r0_touch_reads_n_44 r0_touch_reads_c_44) (tickM M ((1 + r34 : Nat) : Int)).touch.reads := At.freeze (T7.trans (T16.trans (S17.trans (S19.trans (T23.trans (S28.trans (S51.trans S67))))))) ET_27.hk 1 rfl (fun b hb => ((T7.trans (T16.trans (S17.trans (S19.trans (T23.trans (S28.trans (S51.trans S67))))))).fresh b ⟨_, nth_mem (i := 1) rfl, hb⟩).resolve_left (fps_nil _))
         have S68 := At.drop S67.at' 1
         have Z69 : Rd 1 encS okS (V H w [bx b19 [.slice r0_store_a_44 r0_store_n_44 r0_store_c_44, .slice r0_touch_reads_a_44 r0_touch_reads_n_44 r0_touch_reads_c_44, .slice r0_touch_writes_a_44 r0_touch_writes_n_44 r0_touch_writes_c_44] 31]) w51 (.slice r0_touch_writes_a_44 r0_touch_writes_n_44 r0_touch_writes_c_44) (tickM M ((1 + r34 : Nat) : Int)).touch.writes := At.freeze (T7.trans (T16.trans (S17.trans (S19.trans (T23.trans (S28.trans (S51.trans (S67.trans S68)))))))) ET_27.hk 1 rfl (fun b hb => ((T7.trans (T16.trans (S17.trans (S19.trans (T23.trans (S28.trans (S51.trans (S67.trans S68)))))))).fresh b ⟨_, nth_mem (i := 1) rfl, hb⟩).resolve_left (fps_nil _))
         have S69 := At.drop S68.at' 1
         refine x_normal ⟨k + 1, by omega, (tickM M ((1 + r34 : Nat) : Int)), (su + 1) + r34, r0_store_a_44, r0_store_n_44, r0_store_c_44, r0_touch_reads_a_44, r0_touch_reads_n_44, r0_touch_reads_c_44, r0_touch_writes_a_44, r0_touch_writes_n_44, r0_touch_writes_c_44, F66.cut rfl, ((S28.trans (S51.trans (S67.trans (S68.trans S69)))).pick [0] rfl), (Rd.mv (Nat.succ_pos _) Z67 (S68.trans S69)), (Rd.mv (Nat.succ_pos _) Z68 S69), Z69, clocks.step2 hk_0 (by omega), by omega, by omega, by omega⟩
     · skip
       refine wp_exit (x_then_exit (x_then_exit (x_block_here (x_normal (wp_seq (wp_region_lit (l_op (f_val (v := .agg #[.slice sa sn sc, .slice ra rn rc, .slice ua un uc]) F31 rfl rfl (r_loadB S28.at' 0 TI_31 rfl rfl (F31.ev 4 rfl) rfl rfl (fun h => nomatch h) rfl) rfl fun _ F70 => ?_))))))))
       refine l_op (f_call F70 CF_30 rfl rfl rfl rfl (lc (F70.ev 45 rfl) rfl) (impl_ClockOf_c (m := M) W28_0 W28_1 W28_2 (Tb.mv V_tab0 (T7.trans (T16.trans (S17.trans (S19.trans (T23.trans S28)))))) (Tb.mv V_tab1 (T7.trans (T16.trans (S17.trans (S19.trans (T23.trans S28)))))) (by first | assumption | omega | (refine bdC.s ?_; (repeat (first | with_reducible refine bdC.look ?_ | with_reducible refine bdC.lay ?_ | with_reducible refine bdC.set ?_ | with_reducible refine bdC.tick ?_)); exact bdC.le (by assumption) (by first | decide | omega)) | (refine bdC.r ?_; (repeat (first | with_reducible refine bdC.look ?_ | with_reducible refine bdC.lay ?_ | with_reducible refine bdC.set ?_ | with_reducible refine bdC.tick ?_)); exact bdC.le (by assumption) (by first | decide | omega)) | (refine bdC.w ?_; (repeat (first | with_reducible refine bdC.look ?_ | with_reducible refine bdC.lay ?_ | with_reducible refine bdC.set ?_ | with_reducible refine bdC.tick ?_)); exact bdC.le (by assumption) (by first | decide | omega)) | ((repeat (first | with_reducible refine bdC.look ?_ | with_reducible refine bdC.lay ?_ | with_reducible refine bdC.set ?_ | with_reducible refine bdC.tick ?_)); exact bdC.le (by assumption) (by first | decide | omega)) | decide | exact Nat.le_trans (keyNum_size _ _ (by assumption)) (by decide) | exact Nat.le_trans (keyNum_size _ _ ⟨by omega, by omega⟩) (by decide))) ?_)
       rintro _ w71 ⟨r0_store_a_71, r0_store_n_71, r0_store_c_71, r0_touch_reads_a_71, r0_touch_reads_n_71, r0_touch_reads_c_71, r0_touch_writes_a_71, r0_touch_writes_n_71, r0_touch_writes_c_71, rfl, m71⟩
       refine ⟨_, rfl, fun _ F72 => ?_⟩
       have S71 : Mv _ _ [ow 81 2 encC okC (.slice r0_store_a_71 r0_store_n_71 r0_store_c_71) (lookM M (⟨#[99, 47, 99, 108, 111, 99, 107]⟩ : ByteArray)).store, ow 9 1 encS okS (.slice r0_touch_reads_a_71 r0_touch_reads_n_71 r0_touch_reads_c_71) (lookM M (⟨#[99, 47, 99, 108, 111, 99, 107]⟩ : ByteArray)).touch.reads, ow 9 1 encS okS (.slice r0_touch_writes_a_71 r0_touch_writes_n_71 r0_touch_writes_c_71) (lookM M (⟨#[99, 47, 99, 108, 111, 99, 107]⟩ : ByteArray)).touch.writes, bx b19 [.slice sa sn sc, .slice ra rn rc, .slice ua un uc] 31] _ := At.frame S28.at' [] rfl m71
       obtain ⟨lo71_0, lp71_0, lq71_0⟩ := At.ownInv S71.at' ET_26.hk 0 rfl
       obtain ⟨lo71_1, lp71_1, lq71_1⟩ := At.ownInv S71.at' ET_27.hk 1 rfl
       obtain ⟨lo71_2, lp71_2, lq71_2⟩ := At.ownInv S71.at' ET_27.hk 2 rfl
       clear m71
       refine l_op (f_mv F72 rfl rfl rfl rfl rfl fun _ F73 => ?_)
       refine l_op (f_val (v := .agg #[.slice r0_store_a_71 r0_store_n_71 r0_store_c_71, .slice r0_touch_reads_a_71 r0_touch_reads_n_71 r0_touch_reads_c_71, .slice r0_touch_writes_a_71 r0_touch_writes_n_71 r0_touch_writes_c_71]) F73 rfl rfl (r_extract rfl (F73.ev 44 rfl) rfl) rfl fun _ F74 => ?_)
       refine l_op (f_val (v := .int .i64 ((numOf (getKey M.store (⟨#[99, 47, 99, 108, 111, 99, 107]⟩ : ByteArray)) : Nat) : Int)) F74 rfl rfl (r_extract rfl (F74.ev 44 rfl) rfl) rfl fun _ F75 => ?_)
       refine l_op (f_alloc F75 S71.at' ZI_31 rfl rfl rfl rfl rfl fun b76 _ w76 F77 S76 => ?_)
       refine l_op (s_store S76.at' 0 TI_31 rfl rfl rfl rfl rfl (F77.ev 7 rfl) (F77.ev 47 rfl) rfl rfl rfl rfl rfl fun w78 S78 => ?_)
       refine l_op (f_as F77 rfl rfl rfl rfl rfl fun _ F79 => ?_)
       have F80 : Fr 72 [(8, .int .i64 ((numOf (getKey M.store (⟨#[99, 47, 99, 108, 111, 99, 107]⟩ : ByteArray)) : Nat) : Int)), (5, .int .i64 ((su : Nat) : Int)), (4, .pointer (some ⟨b19, 0, none⟩))] _ := F79.cut rfl
       clear F31 F70 F72 F73 F74 F75 F77 F79
       have T81 : Mv _ _ [bx b76 [.slice r0_store_a_71 r0_store_n_71 r0_store_c_71, .slice r0_touch_reads_a_71 r0_touch_reads_n_71 r0_touch_reads_c_71, .slice r0_touch_writes_a_71 r0_touch_writes_n_71 r0_touch_writes_c_71] 31, ow 81 2 encC okC (.slice r0_store_a_71 r0_store_n_71 r0_store_c_71) (lookM M (⟨#[99, 47, 99, 108, 111, 99, 107]⟩ : ByteArray)).store, ow 9 1 encS okS (.slice r0_touch_reads_a_71 r0_touch_reads_n_71 r0_touch_reads_c_71) (lookM M (⟨#[99, 47, 99, 108, 111, 99, 107]⟩ : ByteArray)).touch.reads, ow 9 1 encS okS (.slice r0_touch_writes_a_71 r0_touch_writes_n_71 r0_touch_writes_c_71) (lookM M (⟨#[99, 47, 99, 108, 111, 99, 107]⟩ : ByteArray)).touch.writes, bx b19 [.slice sa sn sc, .slice ra rn rc, .slice ua un uc] 31] _ := S78
       refine s_end (x_normal (wp_seq (wp_region_lit (l_op (f_val (v := .agg #[.slice sa sn sc, .slice ra rn rc, .slice ua un uc]) F80 rfl rfl (r_loadB T81.at' 4 TI_31 rfl rfl (F80.ev 4 rfl) rfl rfl (fun h => nomatch h) rfl) rfl fun _ F82 => ?_)))))
       refine l_op (f_call F82 CF_29 rfl rfl rfl rfl (lc (F82.ev 50 rfl) (lc rfl rfl)) (impl_Tick_c (m := M) (n := 0) (Rd.mv (Nat.succ_pos _) W28_0 (S71.trans (S76.trans T81))) (Rd.mv (Nat.succ_pos _) W28_1 (S71.trans (S76.trans T81))) (Rd.mv (Nat.succ_pos _) W28_2 (S71.trans (S76.trans T81))) (by first | assumption | exact ⟨by omega, by omega⟩ | (unfold i64ok at *; omega)) (Tb.mv V_tab0 (T7.trans (T16.trans (S17.trans (S19.trans (T23.trans (S28.trans (S71.trans (S76.trans T81))))))))) (Tb.mv V_tab1 (T7.trans (T16.trans (S17.trans (S19.trans (T23.trans (S28.trans (S71.trans (S76.trans T81))))))))) (by first | assumption | omega | (refine bdC.s ?_; (repeat (first | with_reducible refine bdC.look ?_ | with_reducible refine bdC.lay ?_ | with_reducible refine bdC.set ?_ | with_reducible refine bdC.tick ?_)); exact bdC.le (by assumption) (by first | decide | omega)) | (refine bdC.r ?_; (repeat (first | with_reducible refine bdC.look ?_ | with_reducible refine bdC.lay ?_ | with_reducible refine bdC.set ?_ | with_reducible refine bdC.tick ?_)); exact bdC.le (by assumption) (by first | decide | omega)) | (refine bdC.w ?_; (repeat (first | with_reducible refine bdC.look ?_ | with_reducible refine bdC.lay ?_ | with_reducible refine bdC.set ?_ | with_reducible refine bdC.tick ?_)); exact bdC.le (by assumption) (by first | decide | omega)) | ((repeat (first | with_reducible refine bdC.look ?_ | with_reducible refine bdC.lay ?_ | with_reducible refine bdC.set ?_ | with_reducible refine bdC.tick ?_)); exact bdC.le (by assumption) (by first | decide | omega)) | decide | exact Nat.le_trans (keyNum_size _ _ (by assumption)) (by decide) | exact Nat.le_trans (keyNum_size _ _ ⟨by omega, by omega⟩) (by decide)) (by exact hk_0.2.1)) ?_)
       rintro _ w83 ⟨r0_store_a_83, r0_store_n_83, r0_store_c_83, r0_touch_reads_a_83, r0_touch_reads_n_83, r0_touch_reads_c_83, r0_touch_writes_a_83, r0_touch_writes_n_83, r0_touch_writes_c_83, rfl, m83⟩
       refine ⟨_, rfl, fun _ F84 => ?_⟩
       have S83 : Mv _ _ [ow 81 2 encC okC (.slice r0_store_a_83 r0_store_n_83 r0_store_c_83) (tickM M 0).store, ow 9 1 encS okS (.slice r0_touch_reads_a_83 r0_touch_reads_n_83 r0_touch_reads_c_83) (tickM M 0).touch.reads, ow 9 1 encS okS (.slice r0_touch_writes_a_83 r0_touch_writes_n_83 r0_touch_writes_c_83) (tickM M 0).touch.writes, bx b76 [.slice r0_store_a_71 r0_store_n_71 r0_store_c_71, .slice r0_touch_reads_a_71 r0_touch_reads_n_71 r0_touch_reads_c_71, .slice r0_touch_writes_a_71 r0_touch_writes_n_71 r0_touch_writes_c_71] 31, ow 81 2 encC okC (.slice r0_store_a_71 r0_store_n_71 r0_store_c_71) (lookM M (⟨#[99, 47, 99, 108, 111, 99, 107]⟩ : ByteArray)).store, ow 9 1 encS okS (.slice r0_touch_reads_a_71 r0_touch_reads_n_71 r0_touch_reads_c_71) (lookM M (⟨#[99, 47, 99, 108, 111, 99, 107]⟩ : ByteArray)).touch.reads, ow 9 1 encS okS (.slice r0_touch_writes_a_71 r0_touch_writes_n_71 r0_touch_writes_c_71) (lookM M (⟨#[99, 47, 99, 108, 111, 99, 107]⟩ : ByteArray)).touch.writes, bx b19 [.slice sa sn sc, .slice ra rn rc, .slice ua un uc] 31] _ := At.frame T81.at' [] rfl m83
       obtain ⟨lo83_0, lp83_0, lq83_0⟩ := At.ownInv S83.at' ET_26.hk 0 rfl
       obtain ⟨lo83_1, lp83_1, lq83_1⟩ := At.ownInv S83.at' ET_27.hk 1 rfl
       obtain ⟨lo83_2, lp83_2, lq83_2⟩ := At.ownInv S83.at' ET_27.hk 2 rfl
       clear m83
       refine l_op (f_mv F84 rfl rfl rfl rfl rfl fun _ F85 => ?_)
       refine l_op (f_val (v := .agg #[.slice r0_store_a_83 r0_store_n_83 r0_store_c_83, .slice r0_touch_reads_a_83 r0_touch_reads_n_83 r0_touch_reads_c_83, .slice r0_touch_writes_a_83 r0_touch_writes_n_83 r0_touch_writes_c_83]) F85 rfl rfl (r_extract rfl (F85.ev 49 rfl) rfl) rfl fun _ F86 => ?_)
       refine l_op (f_val (v := .int .i64 0) F86 rfl rfl (r_extract rfl (F86.ev 49 rfl) rfl) rfl fun _ F87 => ?_)
       refine l_op (f_val (v := .int .i64 (tickC M 0)) F87 rfl rfl (r_extract rfl (F87.ev 49 rfl) rfl) rfl fun _ F88 => ?_)
       refine l_op (f_alloc F88 S83.at' ZI_31 rfl rfl rfl rfl rfl fun b89 _ w89 F90 S89 => ?_)
       refine l_op (s_store S89.at' 0 TI_31 rfl rfl rfl rfl rfl (F90.ev 9 rfl) (F90.ev 52 rfl) rfl rfl rfl rfl rfl fun w91 S91 => ?_)
       refine l_op (f_as F90 rfl rfl rfl rfl rfl fun _ F92 => ?_)
       refine l_op (f_as F92 rfl rfl rfl rfl rfl fun _ F93 => ?_)
       have F94 : Fr 72 [(11, .int .i64 (tickC M 0)), (8, .int .i64 ((numOf (getKey M.store (⟨#[99, 47, 99, 108, 111, 99, 107]⟩ : ByteArray)) : Nat) : Int)), (5, .int .i64 ((su : Nat) : Int)), (4, .pointer (some ⟨b19, 0, none⟩))] _ := F93.cut rfl
       clear F80 F82 F84 F85 F86 F87 F88 F90 F92 F93
       have T95 : Mv _ _ [bx b89 [.slice r0_store_a_83 r0_store_n_83 r0_store_c_83, .slice r0_touch_reads_a_83 r0_touch_reads_n_83 r0_touch_reads_c_83, .slice r0_touch_writes_a_83 r0_touch_writes_n_83 r0_touch_writes_c_83] 31, ow 81 2 encC okC (.slice r0_store_a_83 r0_store_n_83 r0_store_c_83) (tickM M 0).store, ow 9 1 encS okS (.slice r0_touch_reads_a_83 r0_touch_reads_n_83 r0_touch_reads_c_83) (tickM M 0).touch.reads, ow 9 1 encS okS (.slice r0_touch_writes_a_83 r0_touch_writes_n_83 r0_touch_writes_c_83) (tickM M 0).touch.writes, bx b76 [.slice r0_store_a_71 r0_store_n_71 r0_store_c_71, .slice r0_touch_reads_a_71 r0_touch_reads_n_71 r0_touch_reads_c_71, .slice r0_touch_writes_a_71 r0_touch_writes_n_71 r0_touch_writes_c_71] 31, ow 81 2 encC okC (.slice r0_store_a_71 r0_store_n_71 r0_store_c_71) (lookM M (⟨#[99, 47, 99, 108, 111, 99, 107]⟩ : ByteArray)).store, ow 9 1 encS okS (.slice r0_touch_reads_a_71 r0_touch_reads_n_71 r0_touch_reads_c_71) (lookM M (⟨#[99, 47, 99, 108, 111, 99, 107]⟩ : ByteArray)).touch.reads, ow 9 1 encS okS (.slice r0_touch_writes_a_71 r0_touch_writes_n_71 r0_touch_writes_c_71) (lookM M (⟨#[99, 47, 99, 108, 111, 99, 107]⟩ : ByteArray)).touch.writes, bx b19 [.slice sa sn sc, .slice ra rn rc, .slice ua un uc] 31] _ := S91
       refine s_end (x_normal (wp_seq (wp_region_lit (l_op (f_val (v := .agg #[.slice sa sn sc, .slice ra rn rc, .slice ua un uc]) F94 rfl rfl (r_loadB T95.at' 8 TI_31 rfl rfl (F94.ev 4 rfl) rfl rfl (fun h => nomatch h) rfl) rfl fun _ F96 => ?_)))))
       refine l_op (f_call F96 CF_29 rfl rfl rfl rfl (lc (F96.ev 56 rfl) (lc rfl rfl)) (impl_Tick_c (m := M) (n := 999) (Rd.mv (Nat.succ_pos _) W28_0 (S71.trans (S76.trans (T81.trans (S83.trans (S89.trans T95)))))) (Rd.mv (Nat.succ_pos _) W28_1 (S71.trans (S76.trans (T81.trans (S83.trans (S89.trans T95)))))) (Rd.mv (Nat.succ_pos _) W28_2 (S71.trans (S76.trans (T81.trans (S83.trans (S89.trans T95)))))) (by first | assumption | exact ⟨by omega, by omega⟩ | (unfold i64ok at *; omega)) (Tb.mv V_tab0 (T7.trans (T16.trans (S17.trans (S19.trans (T23.trans (S28.trans (S71.trans (S76.trans (T81.trans (S83.trans (S89.trans T95)))))))))))) (Tb.mv V_tab1 (T7.trans (T16.trans (S17.trans (S19.trans (T23.trans (S28.trans (S71.trans (S76.trans (T81.trans (S83.trans (S89.trans T95)))))))))))) (by first | assumption | omega | (refine bdC.s ?_; (repeat (first | with_reducible refine bdC.look ?_ | with_reducible refine bdC.lay ?_ | with_reducible refine bdC.set ?_ | with_reducible refine bdC.tick ?_)); exact bdC.le (by assumption) (by first | decide | omega)) | (refine bdC.r ?_; (repeat (first | with_reducible refine bdC.look ?_ | with_reducible refine bdC.lay ?_ | with_reducible refine bdC.set ?_ | with_reducible refine bdC.tick ?_)); exact bdC.le (by assumption) (by first | decide | omega)) | (refine bdC.w ?_; (repeat (first | with_reducible refine bdC.look ?_ | with_reducible refine bdC.lay ?_ | with_reducible refine bdC.set ?_ | with_reducible refine bdC.tick ?_)); exact bdC.le (by assumption) (by first | decide | omega)) | ((repeat (first | with_reducible refine bdC.look ?_ | with_reducible refine bdC.lay ?_ | with_reducible refine bdC.set ?_ | with_reducible refine bdC.tick ?_)); exact bdC.le (by assumption) (by first | decide | omega)) | decide | exact Nat.le_trans (keyNum_size _ _ (by assumption)) (by decide) | exact Nat.le_trans (keyNum_size _ _ ⟨by omega, by omega⟩) (by decide)) (by exact hk_0.2.1)) ?_)
       rintro _ w97 ⟨r0_store_a_97, r0_store_n_97, r0_store_c_97, r0_touch_reads_a_97, r0_touch_reads_n_97, r0_touch_reads_c_97, r0_touch_writes_a_97, r0_touch_writes_n_97, r0_touch_writes_c_97, rfl, m97⟩
       refine ⟨_, rfl, fun _ F98 => ?_⟩
       have S97 : Mv _ _ [ow 81 2 encC okC (.slice r0_store_a_97 r0_store_n_97 r0_store_c_97) (tickM M 999).store, ow 9 1 encS okS (.slice r0_touch_reads_a_97 r0_touch_reads_n_97 r0_touch_reads_c_97) (tickM M 999).touch.reads, ow 9 1 encS okS (.slice r0_touch_writes_a_97 r0_touch_writes_n_97 r0_touch_writes_c_97) (tickM M 999).touch.writes, bx b89 [.slice r0_store_a_83 r0_store_n_83 r0_store_c_83, .slice r0_touch_reads_a_83 r0_touch_reads_n_83 r0_touch_reads_c_83, .slice r0_touch_writes_a_83 r0_touch_writes_n_83 r0_touch_writes_c_83] 31, ow 81 2 encC okC (.slice r0_store_a_83 r0_store_n_83 r0_store_c_83) (tickM M 0).store, ow 9 1 encS okS (.slice r0_touch_reads_a_83 r0_touch_reads_n_83 r0_touch_reads_c_83) (tickM M 0).touch.reads, ow 9 1 encS okS (.slice r0_touch_writes_a_83 r0_touch_writes_n_83 r0_touch_writes_c_83) (tickM M 0).touch.writes, bx b76 [.slice r0_store_a_71 r0_store_n_71 r0_store_c_71, .slice r0_touch_reads_a_71 r0_touch_reads_n_71 r0_touch_reads_c_71, .slice r0_touch_writes_a_71 r0_touch_writes_n_71 r0_touch_writes_c_71] 31, ow 81 2 encC okC (.slice r0_store_a_71 r0_store_n_71 r0_store_c_71) (lookM M (⟨#[99, 47, 99, 108, 111, 99, 107]⟩ : ByteArray)).store, ow 9 1 encS okS (.slice r0_touch_reads_a_71 r0_touch_reads_n_71 r0_touch_reads_c_71) (lookM M (⟨#[99, 47, 99, 108, 111, 99, 107]⟩ : ByteArray)).touch.reads, ow 9 1 encS okS (.slice r0_touch_writes_a_71 r0_touch_writes_n_71 r0_touch_writes_c_71) (lookM M (⟨#[99, 47, 99, 108, 111, 99, 107]⟩ : ByteArray)).touch.writes, bx b19 [.slice sa sn sc, .slice ra rn rc, .slice ua un uc] 31] _ := At.frame T95.at' [] rfl m97
       obtain ⟨lo97_0, lp97_0, lq97_0⟩ := At.ownInv S97.at' ET_26.hk 0 rfl
       obtain ⟨lo97_1, lp97_1, lq97_1⟩ := At.ownInv S97.at' ET_27.hk 1 rfl
       obtain ⟨lo97_2, lp97_2, lq97_2⟩ := At.ownInv S97.at' ET_27.hk 2 rfl
       clear m97
       refine l_op (f_mv F98 rfl rfl rfl rfl rfl fun _ F99 => ?_)
       refine l_op (f_val (v := .agg #[.slice r0_store_a_97 r0_store_n_97 r0_store_c_97, .slice r0_touch_reads_a_97 r0_touch_reads_n_97 r0_touch_reads_c_97, .slice r0_touch_writes_a_97 r0_touch_writes_n_97 r0_touch_writes_c_97]) F99 rfl rfl (r_extract rfl (F99.ev 55 rfl) rfl) rfl fun _ F100 => ?_)
       refine l_op (f_val (v := .int .i64 0) F100 rfl rfl (r_extract rfl (F100.ev 55 rfl) rfl) rfl fun _ F101 => ?_)
       refine l_op (f_val (v := .int .i64 (tickC M 999)) F101 rfl rfl (r_extract rfl (F101.ev 55 rfl) rfl) rfl fun _ F102 => ?_)
       refine l_op (f_alloc F102 S97.at' ZI_31 rfl rfl rfl rfl rfl fun b103 _ w103 F104 S103 => ?_)
       refine l_op (s_store S103.at' 0 TI_31 rfl rfl rfl rfl rfl (F104.ev 12 rfl) (F104.ev 58 rfl) rfl rfl rfl rfl rfl fun w105 S105 => ?_)
       refine l_op (f_as F104 rfl rfl rfl rfl rfl fun _ F106 => ?_)
       refine l_op (f_as F106 rfl rfl rfl rfl rfl fun _ F107 => ?_)
       have F108 : Fr 72 [(14, .int .i64 (tickC M 999)), (11, .int .i64 (tickC M 0)), (8, .int .i64 ((numOf (getKey M.store (⟨#[99, 47, 99, 108, 111, 99, 107]⟩ : ByteArray)) : Nat) : Int)), (5, .int .i64 ((su : Nat) : Int))] _ := F107.cut rfl
       clear F94 F96 F98 F99 F100 F101 F102 F104 F106 F107
       have T109 : Mv _ _ [bx b103 [.slice r0_store_a_97 r0_store_n_97 r0_store_c_97, .slice r0_touch_reads_a_97 r0_touch_reads_n_97 r0_touch_reads_c_97, .slice r0_touch_writes_a_97 r0_touch_writes_n_97 r0_touch_writes_c_97] 31, ow 81 2 encC okC (.slice r0_store_a_97 r0_store_n_97 r0_store_c_97) (tickM M 999).store, ow 9 1 encS okS (.slice r0_touch_reads_a_97 r0_touch_reads_n_97 r0_touch_reads_c_97) (tickM M 999).touch.reads, ow 9 1 encS okS (.slice r0_touch_writes_a_97 r0_touch_writes_n_97 r0_touch_writes_c_97) (tickM M 999).touch.writes, bx b89 [.slice r0_store_a_83 r0_store_n_83 r0_store_c_83, .slice r0_touch_reads_a_83 r0_touch_reads_n_83 r0_touch_reads_c_83, .slice r0_touch_writes_a_83 r0_touch_writes_n_83 r0_touch_writes_c_83] 31, ow 81 2 encC okC (.slice r0_store_a_83 r0_store_n_83 r0_store_c_83) (tickM M 0).store, ow 9 1 encS okS (.slice r0_touch_reads_a_83 r0_touch_reads_n_83 r0_touch_reads_c_83) (tickM M 0).touch.reads, ow 9 1 encS okS (.slice r0_touch_writes_a_83 r0_touch_writes_n_83 r0_touch_writes_c_83) (tickM M 0).touch.writes, bx b76 [.slice r0_store_a_71 r0_store_n_71 r0_store_c_71, .slice r0_touch_reads_a_71 r0_touch_reads_n_71 r0_touch_reads_c_71, .slice r0_touch_writes_a_71 r0_touch_writes_n_71 r0_touch_writes_c_71] 31, ow 81 2 encC okC (.slice r0_store_a_71 r0_store_n_71 r0_store_c_71) (lookM M (⟨#[99, 47, 99, 108, 111, 99, 107]⟩ : ByteArray)).store, ow 9 1 encS okS (.slice r0_touch_reads_a_71 r0_touch_reads_n_71 r0_touch_reads_c_71) (lookM M (⟨#[99, 47, 99, 108, 111, 99, 107]⟩ : ByteArray)).touch.reads, ow 9 1 encS okS (.slice r0_touch_writes_a_71 r0_touch_writes_n_71 r0_touch_writes_c_71) (lookM M (⟨#[99, 47, 99, 108, 111, 99, 107]⟩ : ByteArray)).touch.writes, bx b19 [.slice sa sn sc, .slice ra rn rc, .slice ua un uc] 31] _ := S105
       refine s_end (x_normal (wp_seq (wp_region_lit (l_op (f_mv F108 rfl rfl rfl rfl rfl fun _ F110 => ?_)))))
       refine l_op (f_mv F110 rfl rfl rfl rfl rfl fun _ F111 => ?_)
       refine l_op (f_val F111 rfl rfl (r_cmp (b := decide (numOf (getKey M.store (⟨#[99, 47, 99, 108, 111, 99, 107]⟩ : ByteArray)) = su)) (.inl rfl) rfl (F111.ev 61 rfl) (F111.ev 62 rfl) (dec_of (by omega))) rfl fun _ F112 => ?_)
       rw [show (decide (numOf (getKey M.store (⟨#[99, 47, 99, 108, 111, 99, 107]⟩ : ByteArray)) = su)) = true from decide_eq_true hk_0.1] at F112
       refine l_op (f_mv F112 rfl rfl rfl rfl rfl fun _ F113 => ?_)
       refine l_op (f_mv F113 (wanted_g F113 rfl rfl rfl rfl) rfl rfl rfl rfl fun _ F114 => ?_)
       refine l_op (f_val F114 (wanted_g F114 rfl rfl rfl rfl) rfl (r_cmp (b := true) (.inl rfl) rfl (F114.ev 65 rfl) rfl rfl) rfl fun _ F115 => ?_)
       refine l_op (f_val F115 rfl rfl (r_pick (b := true) rfl (F115.ev 64 rfl) (F115.ev 66 rfl)) rfl fun _ F116 => ?_)
       refine l_op (f_mv F116 rfl rfl rfl rfl rfl fun _ F117 => ?_)
       refine l_op (f_mv F117 (wanted_g F117 rfl rfl rfl rfl) rfl rfl rfl rfl fun _ F118 => ?_)
       refine l_op (f_val F118 (wanted_g F118 rfl rfl rfl rfl) rfl (r_cmp (b := decide ((tickC M 999) = 3)) (.inl rfl) rfl (F118.ev 69 rfl) rfl (dec_of (by omega))) rfl fun _ F119 => ?_)
       rw [show (decide ((tickC M 999) = 3)) = true from decide_eq_true (hk_0.full (by omega))] at F119
       refine l_op (f_val F119 rfl rfl (r_pick (b := true) rfl (F119.ev 68 rfl) (F119.ev 70 rfl)) rfl fun _ F120 => ?_)
       refine l_op (f_as F120 rfl rfl rfl rfl rfl fun _ F121 => ?_)
       have F122 : Fr 72 [(2, .bool true)] _ := F121.cut rfl
       clear F108 F110 F111 F112 F113 F114 F115 F116 F117 F118 F119 F120 F121
       refine s_end (x_normal (wp_ret ?_))
       refine x_done (v := .bool true) F122 (results_1 Tryd.results8 (.tmp (F122.ev 2 rfl))) ?_
       exact ⟨rfl, (Mv.pick (T7.trans (T16.trans (S17.trans (S19.trans (T23.trans (S28.trans (S71.trans (S76.trans (T81.trans (S83.trans (S89.trans (T95.trans (S97.trans (S103.trans T109)))))))))))))) [] rfl)⟩
end Go.Proofs.YtjiplnaceiofmaaDoor
namespace Go.Proofs.YtjiplnaceiofmaaDoor.clockup
open Go.ChangeShapes Go.WideShapes Go.ChangeAt Go.RowKit
set_option maxRecDepth 100000
theorem cells_5 : Tryd.prog.cellsOf 5 = 1 := by kernel_rfl
theorem starE : "*" ++ "errors.errorString" = "*errors.errorString" := by decide
theorem rowE (u : TypeId) (h : Tryd.prog.typeName? 3 u = some "*errors.errorString") : u = 184 :=
  typeName_ptr_named (nm := "errors.errorString") (by rw [starE]; kernel_rfl) (by kernel_rfl) (by decide) u (by rw [starE]; exact h)
theorem cellsE : Tryd.prog.cellsOf 186 = 1 := by kernel_rfl
theorem cells_9 : Tryd.prog.cellsOf 9 = 1 := by kernel_rfl
theorem ground0 {W : World} (h : laidMet Tryd.prog [("math/bits.deBruijn32tab", Rows.laid_math_bits_deBruijn32tab), ("math/bits.deBruijn64tab", Rows.laid_math_bits_deBruijn64tab), ("internal/strconv.uint64pow10", Rows.laid_internal_strconv_uint64pow10), ("strconv.ErrRange", Rows.laid_strconv_ErrRange), ("strconv.ErrSyntax", Rows.laid_strconv_ErrSyntax)] W) : Tb 0 (fun _ => True) W := by
  have e : (Rows.laid_internal_strconv_uint64pow10 : DataW Unit) = Lib.tabData .u64 Lib.pow10Tab := by kernel_rfl
  have h2 : laidMet Tryd.prog (("internal/strconv.uint64pow10", Lib.tabData .u64 Lib.pow10Tab) :: [("strconv.ErrRange", Rows.laid_strconv_ErrRange), ("strconv.ErrSyntax", Rows.laid_strconv_ErrSyntax)]) W := by rw [← e]; exact h.tail.tail
  have h3 : Lib.TabIs Tryd.prog W "internal/strconv.uint64pow10" .u64 Lib.pow10Tab := Lib.tabIs_of_head laysItoa.m17 (t := 159) (e := 146) (n := 20) (by kernel_rfl) Tryd.underlying159 Tryd.underlying146 (by kernel_rfl) (by kernel_rfl) h2
  exact ⟨h3, fun g hg => by rw [List.mem_singleton.1 hg]; exact ⟨trivial, Lib.lt_of_cell (h3.cell laysItoa.m17 0 (by decide))⟩⟩
theorem ground1 {W : World} (h : laidMet Tryd.prog [("math/bits.deBruijn32tab", Rows.laid_math_bits_deBruijn32tab), ("math/bits.deBruijn64tab", Rows.laid_math_bits_deBruijn64tab), ("internal/strconv.uint64pow10", Rows.laid_internal_strconv_uint64pow10), ("strconv.ErrRange", Rows.laid_strconv_ErrRange), ("strconv.ErrSyntax", Rows.laid_strconv_ErrSyntax)] W) : Tb 1 (fun _ => True) W := by
  have gS : Tryd.prog.globalNamed "strconv.ErrSyntax" = some (laysAtoi_ren.g 15) := by kernel_rfl
  obtain ⟨aS, sS, vS, -, -, -⟩ := laid_sentinel (h.tail.tail.tail.tail) gS (ti := 133) (by kernel_rfl) Tryd.underlying133 rowE Tryd.underlying184 Tryd.underlying186 rfl rfl Tryd.underlying9 cellsE cells_9
  have cS := var_cell gS vS
  have gR : Tryd.prog.globalNamed "strconv.ErrRange" = some (laysAtoi_ren.g 16) := by kernel_rfl
  obtain ⟨aR, sR, vR, -, -, -⟩ := laid_sentinel (h.tail.tail.tail) gR (ti := 133) (by kernel_rfl) Tryd.underlying133 rowE Tryd.underlying184 Tryd.underlying186 rfl rfl Tryd.underlying9 cellsE cells_9
  have cR := var_cell gR vR
  exact ⟨⟨⟨_, cS, .inr ⟨_, _, rfl⟩⟩, ⟨_, cR, .inr ⟨_, _, rfl⟩⟩⟩, fun g hg => by
    rcases List.mem_cons.1 hg with e | hg
    · rw [e]; exact ⟨trivial, Lib.lt_of_cell cS⟩
    · rw [List.mem_singleton.1 hg]; exact ⟨trivial, Lib.lt_of_cell cR⟩⟩
theorem called (W : World) (args : Array Value) (h : ArgsRead Tryd.prog W Tryd.f8.params.toList args.toList) (t0 : Tb 0 (fun _ => True) W) (t1 : Tb 1 (fun _ => True) W) : Calls Tryd.prog 8 args W fun e W' => e = .returned (.bool true) ∧ Bl W W' := by
  obtain ⟨hl, h⟩ := h
  rw [Tryd.params8] at hl h
  obtain ⟨v0, rfl⟩ : ∃ v0, args = #[v0] := by
    obtain ⟨l⟩ := args
    match l, hl with
    | [v0], _ => exact ⟨v0, rfl⟩
  obtain ⟨r0, o0⟩ := h 0 _ v0 rfl rfl
  have q0 := reads_one Tryd.underlying22 trivial o0 r0
  obtain ⟨a_0, n_0, c_0, l_0, e_0, v_0⟩ := rdA_of Tryd.underlying22 cells_5 (by decide) (u8_row Tryd.underlying5) q0
  cases e_0
  exact (laws_FnClockUp_c (w := W) (H := fun _ => True) (code := l_0) v_0 t0 t1).mono fun e W' ⟨h1, h2⟩ => ⟨h1, h2.bl⟩
theorem own : ownKnob Tryd.prog.godebug = none := by kernel_rfl
theorem laidOut : laidOutB Tryd.prog = true := by kernel_rfl
theorem readable : ∀ t ∈ Tryd.f8.params.toList, Tryd.prog.readableRec t = true ∧ t < Tryd.prog.types.size := of_decide_eq_true (by kernel_rfl)
theorem door_met (os : Os) (args : Array Value) : laidMetH Tryd.prog [("math/bits.deBruijn32tab", Rows.laid_math_bits_deBruijn32tab), ("math/bits.deBruijn64tab", Rows.laid_math_bits_deBruijn64tab), ("internal/strconv.uint64pow10", Rows.laid_internal_strconv_uint64pow10), ("strconv.ErrRange", Rows.laid_strconv_ErrRange), ("strconv.ErrSyntax", Rows.laid_strconv_ErrSyntax)] ((World.doorLaid Tryd.prog 81 os).forCall (fun _ _ => 0) ⟨#[], args, []⟩).memory :=
  laidMetH_of_parts3 (fuel := 8) (laidMet_of_run' 8 (by kernel_rfl) (by kernel_rfl)) (by kernel_rfl) (by kernel_rfl)
theorem lifted (os : Os) (started : os.Started) (H : Type) (enc : TypeId × Value → H) :
    ReturnsInHanded {} Tryd.checked os 8 .any (fun w args => (Rows.fnClockUpSpec.pre enc Tryd.prog Tryd.f8 [] false w args ∧ laidMetH Tryd.prog [("math/bits.deBruijn32tab", Rows.laid_math_bits_deBruijn32tab), ("math/bits.deBruijn64tab", Rows.laid_math_bits_deBruijn64tab), ("internal/strconv.uint64pow10", Rows.laid_internal_strconv_uint64pow10), ("strconv.ErrRange", Rows.laid_strconv_ErrRange), ("strconv.ErrSyntax", Rows.laid_strconv_ErrSyntax)] w) ∧ sizedMet enc Tryd.prog Tryd.f8 (OpenSpec.ofChange Rows.fnClockUpSpec) false w args)
      (Rows.fnClockUpSpec.post enc Tryd.prog Tryd.f8 false true false false) := by
  refine returnsInHanded_of_change_and (C := Tryd.checked) (X := fun w _ => laidMetH Tryd.prog [("math/bits.deBruijn32tab", Rows.laid_math_bits_deBruijn32tab), ("math/bits.deBruijn64tab", Rows.laid_math_bits_deBruijn64tab), ("internal/strconv.uint64pow10", Rows.laid_internal_strconv_uint64pow10), ("strconv.ErrRange", Rows.laid_strconv_ErrRange), ("strconv.ErrSyntax", Rows.laid_strconv_ErrSyntax)] w) (fun _ _ _ hh h => h.of_heap hh) own started (by kernel_rfl) Tryd.func8
    (ChangeSpec.witness_shaped (enc := enc) (C := Tryd.checked) (os := os) (X := fun w _ => laidMetH Tryd.prog [("math/bits.deBruijn32tab", Rows.laid_math_bits_deBruijn32tab), ("math/bits.deBruijn64tab", Rows.laid_math_bits_deBruijn64tab), ("internal/strconv.uint64pow10", Rows.laid_internal_strconv_uint64pow10), ("strconv.ErrRange", Rows.laid_strconv_ErrRange), ("strconv.ErrSyntax", Rows.laid_strconv_ErrSyntax)] w) false (World.doorLaid Tryd.prog 81 os) #[.slice none 0 0] 8 rfl (World.shaped_of_RefB (by kernel_rfl) (by kernel_rfl)) (by kernel_rfl) (by kernel_rfl) (by kernel_rfl) (door_met os _)) ?_
  intro W base args ds gs before hval0 hW _ _ hL _
  have hval : ∀ (j : Nat) t v, Tryd.f8.params[j]? = some t → args[j]? = some v → Value.okWide Tryd.prog W .any 0 t v := hval0
  have hM : laidMet Tryd.prog [("math/bits.deBruijn32tab", Rows.laid_math_bits_deBruijn32tab), ("math/bits.deBruijn64tab", Rows.laid_math_bits_deBruijn64tab), ("internal/strconv.uint64pow10", Rows.laid_internal_strconv_uint64pow10), ("strconv.ErrRange", Rows.laid_strconv_ErrRange), ("strconv.ErrSyntax", Rows.laid_strconv_ErrSyntax)] W := by
    have h := hL
    rw [MakeChecks.laidMetH_plain _ _ _ (by kernel_rfl)] at h
    exact h
  refine law_contractW laidOut readable Tryd.underlying4 rfl rfl ?_ H enc false true false false W args ds gs before (fun h => called W args h (ground0 hM) (ground1 hM)) hval hW
  intro H ds hd
  match ds, hd with
  | [a], _ => rfl
theorem bare : Rows.FnClockUpSaid :=
  OpenClaim.holds_of_wide 8 Tryd.f8 rfl rfl rfl rfl rfl rfl rfl ⟨rfl, rfl, rfl, rfl, rfl⟩ rfl rfl rfl rfl rfl (by kernel_rfl) Tryd.func8 (by kernel_rfl)
    (of_decide_eq_true (by kernel_rfl)) (by unfold Func.isWrapper; first | (rw [if_pos (by decide +kernel)]; kernel_rfl) | (rw [if_neg (by decide +kernel)]; exact ⟨rfl, rfl⟩))
    (fun os started H enc _ => lifted os started H enc)
theorem proved : Rows.FnClockUpCardSaid :=
  Claim7.holds_tied_plain_at .later [] [.data, .data, .data, .sentinel, .sentinel] true (true, "167e4d36e1bc60f6d5ed3739e3d5e09f6b5bab75b6f9b2c84f393379c264b4c4") true
    bare (fun _ h => by cases h) (by kernel_rfl) (fun _ h => by cases h) fnClockUp_row_tie rfl ⟨rfl, rfl⟩ (by kernel_rfl) rfl
    (fun f fn hf hfn => by
      obtain rfl : f = 8 := Option.some.inj ((show Tryd.prog.funcNamed "loop.example/g00974/laws.FnClockUp" = some 8 by kernel_rfl).symm.trans hf) |>.symm
      obtain rfl : fn = Tryd.f8 := (Option.some.inj (Tryd.func8.symm.trans hfn)).symm
      exact ⟨by kernel_rfl, fun j t ht => by
        rw [Tryd.params8] at ht
        have hm : t ∈ [22] := by simpa using Array.mem_of_getElem? ht
        have hall : ([22].all fun u => !Tryd.prog.wantsStandIn u) = true := by kernel_rfl
        exact (show Tryd.prog.wantsStandIn t = false by simpa using List.all_eq_true.1 hall t hm)⟩)
    (by kernel_rfl)
end Go.Proofs.YtjiplnaceiofmaaDoor.clockup
