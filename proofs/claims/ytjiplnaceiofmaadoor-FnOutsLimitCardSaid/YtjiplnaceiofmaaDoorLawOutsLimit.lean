/-
  PROVED HERE: whatever the input, the statement laws.FnOutsLimit returns true. Condition: the tables and errors of the library that the row lists stand as the program's text lays them (the card ties that).
-/
import Derived.Test.YtjiplnaceiofmaaDoorGenDp
import Derived.Test.YtjiplnaceiofmaaDoorGenSf
import Derived.Test.YtjiplnaceiofmaaDoorLaw2
import Derived.Test.YtjiplnaceiofmaaDoorLaw3
namespace Go.Proofs.YtjiplnaceiofmaaDoor
open Go.ChangeShapes Go.WideShapes Go.ChangeAt Go.RowKit
set_option maxRecDepth 100000
set_option maxHeartbeats 1000000
theorem laws_FnOutsLimit_c {w : World} {H : Nat → Prop} {code : List Nat} {code_a : Option Addr} {code_n code_c : Nat} (v_code : RdA 1 encB okB H w (.slice code_a code_n code_c) code) (tab0 : Tb 0 H w) (tab1 : Tb 1 H w) (tab2 : Tb 2 H w) :
    Calls Tryd.prog 10 #[.slice code_a code_n code_c] w fun e w' => e = .returned (.bool true) ∧ Mv [] w [] w' := by
 have V_v_code : RdA 1 encB okB (V H w []) w (.slice code_a code_n code_c) code := RdA.start v_code (fun _ _ => fps_nil _)
 obtain ⟨ln_code, le_code, mx_code, ni_code⟩ := RdA.inv v_code
 have V_tab0 : Tb 0 (V H w []) w := Tb.start tab0 (fun _ _ => fps_nil _)
 have V_tab1 : Tb 1 (V H w []) w := Tb.start tab1 (fun _ _ => fps_nil _)
 have V_tab2 : Tb 2 (V H w []) w := Tb.start tab2 (fun _ _ => fps_nil _)
 refine calls_enter 76 Tryd.func10 rfl Tryd.ntmps10 (Nat.le_of_ble_eq_true rfl) (fun _ F0i => ?_)
 have F0 : Fr 76 [(0, .slice code_a code_n code_c)] _ := F0i
 clear F0i
 refine wp_seq (wp_region_lit (l_op (f_val F0 rfl rfl (r_assign rfl rfl) rfl fun _ F1 => ?_)))
 have F2 : Fr 76 [(2, .bool false), (0, .slice code_a code_n code_c)] _ := F1.cut rfl
 clear F0 F1
 refine s_end (x_normal (wp_seq (wp_seq (wp_region_lit (l_op (f_mv F2 rfl rfl rfl rfl rfl fun _ F3 => ?_))))))
 refine l_op (f_call F3 CF_15 rfl rfl rfl rfl (lc (F3.ev 10 rfl) rfl) (laws_big_c (code := code) V_v_code) ?_)
 rintro _ w4 ⟨rfl, m4⟩
 refine ⟨_, rfl, fun _ F5 => ?_⟩
 have S4 := At.frame0 (At.nil w) m4
 clear m4
 have F6 : Fr 76 [(11, .bool (decide (code.length > 1048576))), (0, .slice code_a code_n code_c)] _ := F5.cut rfl
 clear F2 F3 F5
 have T7 : Mv _ _ [] _ := S4
 refine s_end (x_normal (x_cond (p := code.length > 1048576) (F6.ev 11 rfl) (fun h8 => ?_) (fun h8 => ?_)))
 · skip
   refine wp_seq (wp_region_lit (l_op (f_val F6 rfl rfl (r_assign rfl rfl) rfl fun _ F9 => ?_)))
   have F10 : Fr 76 [(2, .bool true)] _ := F9.cut rfl
   clear F6 F9
   refine s_end (x_normal (wp_ret (x_then_ret ?_)))
   refine x_done (v := .bool true) F10 (results_1 Tryd.results10 (.tmp (F10.ev 2 rfl))) ?_
   exact ⟨rfl, (Mv.pick T7 [] rfl)⟩
 · skip
   refine wp_skip (x_normal (wp_seq (wp_region_lit (l_op (f_mv F6 rfl rfl rfl rfl rfl fun _ F11 => ?_)))))
   refine l_op (f_call F11 CF_16 rfl rfl rfl rfl (lc (F11.ev 12 rfl) rfl) (spec_DrawPlaces_c (code := code) (RdA.mv (Nat.succ_pos _) V_v_code T7) (by first | assumption | omega | (simp <;> omega))) ?_)
   rintro _ w12 ⟨p_12, r0_a_12, r0_n_12, r0_c_12, rfl, m12, v12_0, q12_0, q12_1⟩
   refine ⟨_, rfl, fun _ F13 => ?_⟩
   have S12 := At.frame0 T7.at' m12
   have V12_0 := Rd.got0 T7.at' (T7.kp.size) v12_0 S12
   obtain ⟨ln12_0, le12_0, mx12_0, ni12_0⟩ := Rd.inv V12_0
   clear m12 v12_0
   refine l_op (f_as F13 rfl rfl rfl rfl rfl fun _ F14 => ?_)
   have F15 : Fr 76 [(3, .slice r0_a_12 r0_n_12 r0_c_12)] _ := F14.cut rfl
   clear F6 F11 F13 F14
   have T16 : Mv _ _ [] _ := S12
   refine s_end (x_normal (wp_seq (wp_region_lit (l_op (f_call F15 CF_17 rfl rfl rfl rfl rfl (laws_base_c (H := V H w [])  ) ?_)))))
   rintro _ w17 ⟨r0_store_a_17, r0_store_n_17, r0_store_c_17, r0_touch_reads_a_17, r0_touch_reads_n_17, r0_touch_reads_c_17, r0_touch_writes_a_17, r0_touch_writes_n_17, r0_touch_writes_c_17, rfl, m17, v17_0, v17_1, v17_2⟩
   refine ⟨_, rfl, fun _ F18 => ?_⟩
   have S17 := At.frame0 T16.at' m17
   have V17_0 := Rd.got0 T16.at' ((T7.trans T16).kp.size) v17_0 S17
   obtain ⟨ln17_0, le17_0, mx17_0, ni17_0⟩ := Rd.inv V17_0
   have V17_1 := Rd.got0 T16.at' ((T7.trans T16).kp.size) v17_1 S17
   obtain ⟨ln17_1, le17_1, mx17_1, ni17_1⟩ := Rd.inv V17_1
   have V17_2 := Rd.got0 T16.at' ((T7.trans T16).kp.size) v17_2 S17
   obtain ⟨ln17_2, le17_2, mx17_2, ni17_2⟩ := Rd.inv V17_2
   clear m17 v17_0 v17_1 v17_2
   refine l_op (f_alloc F18 S17.at' ZI_31 rfl rfl rfl rfl rfl fun b19 _ w19 F20 S19 => ?_)
   refine l_op (s_store S19.at' 0 TI_31 rfl rfl rfl rfl rfl (F20.ev 4 rfl) (F20.ev 14 rfl) rfl rfl rfl rfl rfl fun w21 S21 => ?_)
   have F22 : Fr 76 [(4, .pointer (some ⟨b19, 0, none⟩)), (14, .agg #[.slice r0_store_a_17 r0_store_n_17 r0_store_c_17, .slice r0_touch_reads_a_17 r0_touch_reads_n_17 r0_touch_reads_c_17, .slice r0_touch_writes_a_17 r0_touch_writes_n_17 r0_touch_writes_c_17]), (3, .slice r0_a_12 r0_n_12 r0_c_12)] _ := F20.cut rfl
   clear F15 F18 F20
   have T23 : Mv _ _ [bx b19 [.slice r0_store_a_17 r0_store_n_17 r0_store_c_17, .slice r0_touch_reads_a_17 r0_touch_reads_n_17 r0_touch_reads_c_17, .slice r0_touch_writes_a_17 r0_touch_writes_n_17 r0_touch_writes_c_17] 31] _ := S21
   refine s_end (x_normal (wp_seq (wp_seq (wp_region_lit (l_op (f_val F22 rfl rfl (r_assign rfl rfl) rfl fun _ F24 => ?_))))))
   have F25 : Fr 76 [(5, .int .i64 0), (4, .pointer (some ⟨b19, 0, none⟩)), (3, .slice r0_a_12 r0_n_12 r0_c_12)] _ := F24.cut rfl
   clear F22 F24
   refine s_end (x_normal (wp_block ?_))
   refine x_loop (fun (k : Nat) aZ wZ => ∃ (M : MachD), ∃ (sa : Option Addr), ∃ (sn : Nat), ∃ (sc : Nat), ∃ (ra : Option Addr), ∃ (rn : Nat), ∃ (rc : Nat), ∃ (ua : Option Addr), ∃ (un : Nat), ∃ (uc : Nat), Fr 76 [(5, .int .i64 ((k : Nat) : Int)), (4, .pointer (some ⟨b19, 0, none⟩)), (3, .slice r0_a_12 r0_n_12 r0_c_12)] aZ ∧ Mv [bx b19 [.slice r0_store_a_17 r0_store_n_17 r0_store_c_17, .slice r0_touch_reads_a_17 r0_touch_reads_n_17 r0_touch_reads_c_17, .slice r0_touch_writes_a_17 r0_touch_writes_n_17 r0_touch_writes_c_17] 31] w21 [bx b19 [.slice sa sn sc, .slice ra rn rc, .slice ua un uc] 31] wZ ∧ Rd 2 encC okC (V H w [bx b19 [.slice sa sn sc, .slice ra rn rc, .slice ua un uc] 31]) wZ (.slice sa sn sc) M.store ∧ Rd 1 encS okS (V H w [bx b19 [.slice sa sn sc, .slice ra rn rc, .slice ua un uc] 31]) wZ (.slice ra rn rc) M.touch.reads ∧ Rd 1 encS okS (V H w [bx b19 [.slice sa sn sc, .slice ra rn rc, .slice ua un uc] 31]) wZ (.slice ua un uc) M.touch.writes ∧ (outs k M) ∧ (k ≤ 40)) (fun (k : Nat) => 40 - k) (0) ?_ ?_
   · exact ⟨(⟨[], (⟨[], []⟩ : TouchD)⟩ : MachD), r0_store_a_17, r0_store_n_17, r0_store_c_17, r0_touch_reads_a_17, r0_touch_reads_n_17, r0_touch_reads_c_17, r0_touch_writes_a_17, r0_touch_writes_n_17, r0_touch_writes_c_17, F25.cut rfl, (Mv.refl T23.at'), (Rd.mv (Nat.succ_pos _) V17_0 (S19.trans T23)), (Rd.mv (Nat.succ_pos _) V17_1 (S19.trans T23)), (Rd.mv (Nat.succ_pos _) V17_2 (S19.trans T23)), outs_base, by omega⟩
   · rintro k a26 w26 ⟨M, sa, sn, sc, ra, rn, rc, ua, un, uc, F26, S26, W26_0, W26_1, W26_2, hk_0, hk_1⟩
     obtain ⟨lv26_0, lw26_0, lx26_0, ly26_0⟩ := Rd.inv W26_0
     obtain ⟨lv26_1, lw26_1, lx26_1, ly26_1⟩ := Rd.inv W26_1
     obtain ⟨lv26_2, lw26_2, lx26_2, ly26_2⟩ := Rd.inv W26_2
     have hbM := hk_0.2.2
     refine wp_seq (wp_seq (wp_region_lit (l_op (f_mv F26 rfl rfl rfl rfl rfl fun _ F27 => ?_))))
     refine l_op (f_val F27 rfl rfl (r_cmp (b := decide (k < 40)) (.inr (.inr (.inl rfl))) rfl (F27.ev 15 rfl) rfl (dec_of (by omega))) rfl fun _ F28 => ?_)
     have F29 : Fr 76 [(16, .bool (decide (k < 40))), (5, .int .i64 ((k : Nat) : Int)), (4, .pointer (some ⟨b19, 0, none⟩)), (3, .slice r0_a_12 r0_n_12 r0_c_12)] _ := F28.cut rfl
     clear F26 F27 F28
     refine s_end (x_normal (x_cond (p := k < 40) (F29.ev 16 rfl) (fun h30 => ?_) (fun h30 => ?_)))
     · skip
       refine wp_skip (x_normal (wp_seq (wp_block (wp_seq (wp_region_lit (l_op (f_val F29 rfl rfl (r_assign rfl rfl) rfl fun _ F31 => ?_)))))))
       have F32 : Fr 76 [(6, .int .i64 0), (5, .int .i64 ((k : Nat) : Int)), (4, .pointer (some ⟨b19, 0, none⟩)), (3, .slice r0_a_12 r0_n_12 r0_c_12)] _ := F31.cut rfl
       clear F29 F31
       refine s_end (x_normal (wp_seq ?_))
       refine x_draw (fun aZ wZ => ∃ (r0_store_a_41 : Option Addr), ∃ (r0_store_n_41 : Nat), ∃ (r0_store_c_41 : Nat), ∃ (r0_touch_reads_a_41 : Option Addr), ∃ (r0_touch_reads_n_41 : Nat), ∃ (r0_touch_reads_c_41 : Nat), ∃ (r0_touch_writes_a_41 : Option Addr), ∃ (r0_touch_writes_n_41 : Nat), ∃ (r0_touch_writes_c_41 : Nat), Fr 76 [(3, .slice r0_a_12 r0_n_12 r0_c_12), (4, .pointer (some ⟨b19, 0, none⟩)), (5, .int .i64 ((k : Nat) : Int)), (6, .int .i64 (poC M ((⟨#[120]⟩ : ByteArray) ++ (decS ((k : Nat) : Int)))))] aZ ∧ Mv [bx b19 [.slice sa sn sc, .slice ra rn rc, .slice ua un uc] 31] w26 [bx b19 [.slice r0_store_a_41 r0_store_n_41 r0_store_c_41, .slice r0_touch_reads_a_41 r0_touch_reads_n_41 r0_touch_reads_c_41, .slice r0_touch_writes_a_41 r0_touch_writes_n_41 r0_touch_writes_c_41] 31, ow 81 2 encC okC (.slice r0_store_a_41 r0_store_n_41 r0_store_c_41) (poM M ((⟨#[120]⟩ : ByteArray) ++ (decS ((k : Nat) : Int)))).store, ow 9 1 encS okS (.slice r0_touch_reads_a_41 r0_touch_reads_n_41 r0_touch_reads_c_41) (poM M ((⟨#[120]⟩ : ByteArray) ++ (decS ((k : Nat) : Int)))).touch.reads, ow 9 1 encS okS (.slice r0_touch_writes_a_41 r0_touch_writes_n_41 r0_touch_writes_c_41) (poM M ((⟨#[120]⟩ : ByteArray) ++ (decS ((k : Nat) : Int)))).touch.writes] wZ) [] mixed S26.at' (listed := #[false, false, false, false, false, false, false, false, false, false]) rfl (fun w34 S34 => ?_) [] rfl ?_
       · skip
         refine g_take F32 rfl (i := 1) (listed' := #[false, true, false, false, false, false, false, false, false, false]) rfl (by kernel_rfl) (by kernel_rfl) (by kernel_rfl) (fun _ _ _ h => h) (Sd.of (Mv.refl S34.at') [] rfl) rfl rfl rfl rfl (fun _ hz => (r_move rfl (F32.ev 5 rfl))) fun _ F35 => ?_
         refine d_all (rs := [0, 2]) rfl (by kernel_rfl) (by simp) (d_cons (i := 0) (listed' := #[true, true, false, false, false, false, false, false, false, false]) rfl rfl ?_ (d_cons (i := 2) (listed' := #[false, true, true, false, false, false, false, false, false, false]) rfl rfl ?_ d_nil))
         · skip
           refine f_val (v := .agg #[.slice sa sn sc, .slice ra rn rc, .slice ua un uc]) F35 rfl rfl (r_loadB S34.at' 0 TI_31 rfl rfl (F35.ev 4 rfl) rfl rfl (fun h => nomatch h) rfl) rfl fun _ F36 => ?_
           refine ⟨Sd.of (Mv.refl S34.at') [] rfl, ?_⟩
           refine d_one (i := 2) (listed' := #[true, true, true, false, false, false, false, false, false, false]) rfl (by kernel_rfl) rfl rfl ?_
           refine f_call F36 CF_19 rfl rfl rfl rfl (lc (F36.ev 21 rfl) rfl) (impl_Decimal_c (n := ((k : Nat) : Int)) (by first | assumption | exact ⟨by omega, by omega⟩ | (unfold i64ok at *; omega)) (Tb.mv V_tab0 (T7.trans (T16.trans (S17.trans (S19.trans (T23.trans (S26.trans S34)))))))) ?_
           rintro _ w37 ⟨rfl, m37, ok_r0_37⟩
           refine ⟨_, rfl, fun _ F38 => ?_⟩
           have S37 := At.frame0 S34.at' m37
           clear m37
           refine ⟨Sd.of S37 [] rfl, ?_⟩
           have k39 : (⟨#[120]⟩ : ByteArray).size + (decS ((k : Nat) : Int)).size ≤ 9223372036854775807 := by exact Nat.le_trans (Nat.add_le_add_left (decS_size _ ⟨by omega, by omega⟩) _) (by decide)
           refine g_take F38 rfl (i := 3) (listed' := #[true, true, true, true, false, false, false, false, false, false]) rfl (by kernel_rfl) (by kernel_rfl) (by kernel_rfl) (fun _ _ _ h => h) (Sd.of S37 [] rfl) rfl rfl rfl rfl (fun _ hz => (r_cat rfl rfl (F38.ev 22 rfl) k39)) fun _ F40 => ?_
           refine d_one (i := 4) (listed' := #[true, true, true, true, true, false, false, false, false, false]) rfl (by kernel_rfl) rfl rfl ?_
           refine f_call F40 CF_34 rfl rfl rfl rfl (lc (F40.ev 20 rfl) (lc (F40.ev 23 rfl) rfl)) (impl_PutOut_c (m := M) (text := (⟨#[120]⟩ : ByteArray) ++ (decS ((k : Nat) : Int))) (Rd.mv (Nat.succ_pos _) W26_0 (S34.trans S37)) (Rd.mv (Nat.succ_pos _) W26_1 (S34.trans S37)) (Rd.mv (Nat.succ_pos _) W26_2 (S34.trans S37)) (okS_cat k39) (Tb.mv V_tab0 (T7.trans (T16.trans (S17.trans (S19.trans (T23.trans (S26.trans (S34.trans S37)))))))) (Tb.mv V_tab1 (T7.trans (T16.trans (S17.trans (S19.trans (T23.trans (S26.trans (S34.trans S37)))))))) (by first | assumption | omega | (refine bdC.s ?_; (repeat (first | with_reducible refine bdC.look ?_ | with_reducible refine bdC.lay ?_ | with_reducible refine bdC.set ?_ | with_reducible refine bdC.po ?_)); exact bdC.le (by assumption) (by first | decide | omega)) | (refine bdC.r ?_; (repeat (first | with_reducible refine bdC.look ?_ | with_reducible refine bdC.lay ?_ | with_reducible refine bdC.set ?_ | with_reducible refine bdC.po ?_)); exact bdC.le (by assumption) (by first | decide | omega)) | (refine bdC.w ?_; (repeat (first | with_reducible refine bdC.look ?_ | with_reducible refine bdC.lay ?_ | with_reducible refine bdC.set ?_ | with_reducible refine bdC.po ?_)); exact bdC.le (by assumption) (by first | decide | omega)) | ((repeat (first | with_reducible refine bdC.look ?_ | with_reducible refine bdC.lay ?_ | with_reducible refine bdC.set ?_ | with_reducible refine bdC.po ?_)); exact bdC.le (by assumption) (by first | decide | omega)) | decide | exact Nat.le_trans (keyNum_size _ _ (by assumption)) (by decide) | exact Nat.le_trans (keyNum_size _ _ ⟨by omega, by omega⟩) (by decide))) ?_
           rintro _ w41 ⟨r0_store_a_41, r0_store_n_41, r0_store_c_41, r0_touch_reads_a_41, r0_touch_reads_n_41, r0_touch_reads_c_41, r0_touch_writes_a_41, r0_touch_writes_n_41, r0_touch_writes_c_41, rfl, m41⟩
           refine ⟨_, rfl, fun _ F42 => ?_⟩
           have S41 : Mv _ _ [ow 81 2 encC okC (.slice r0_store_a_41 r0_store_n_41 r0_store_c_41) (poM M ((⟨#[120]⟩ : ByteArray) ++ (decS ((k : Nat) : Int)))).store, ow 9 1 encS okS (.slice r0_touch_reads_a_41 r0_touch_reads_n_41 r0_touch_reads_c_41) (poM M ((⟨#[120]⟩ : ByteArray) ++ (decS ((k : Nat) : Int)))).touch.reads, ow 9 1 encS okS (.slice r0_touch_writes_a_41 r0_touch_writes_n_41 r0_touch_writes_c_41) (poM M ((⟨#[120]⟩ : ByteArray) ++ (decS ((k : Nat) : Int)))).touch.writes, bx b19 [.slice sa sn sc, .slice ra rn rc, .slice ua un uc] 31] _ := At.frame S37.at' [] rfl m41
           obtain ⟨lo41_0, lp41_0, lq41_0⟩ := At.ownInv S41.at' ET_26.hk 0 rfl
           obtain ⟨lo41_1, lp41_1, lq41_1⟩ := At.ownInv S41.at' ET_27.hk 1 rfl
           obtain ⟨lo41_2, lp41_2, lq41_2⟩ := At.ownInv S41.at' ET_27.hk 2 rfl
           clear m41
           refine ⟨Sd.of (S37.trans S41) [] rfl, ?_⟩
           refine g_take F42 rfl (i := 5) (listed' := #[true, true, true, true, true, true, false, false, false, false]) rfl (by kernel_rfl) (by kernel_rfl) (by kernel_rfl) (fun _ _ _ h => h) (Sd.of (S37.trans S41) [] rfl) rfl rfl rfl rfl (fun _ hz => (r_move rfl (F42.ev 24 rfl))) fun _ F43 => ?_
           refine g_take (v := .agg #[.slice r0_store_a_41 r0_store_n_41 r0_store_c_41, .slice r0_touch_reads_a_41 r0_touch_reads_n_41 r0_touch_reads_c_41, .slice r0_touch_writes_a_41 r0_touch_writes_n_41 r0_touch_writes_c_41]) F43 rfl (i := 6) (listed' := #[true, true, true, true, true, true, true, false, false, false]) rfl (by kernel_rfl) (by kernel_rfl) (by kernel_rfl) (fun _ _ _ h => h) (Sd.of (S37.trans S41) [] rfl) rfl rfl rfl rfl (fun _ hz => (r_extract rfl (F43.ev 19 rfl) rfl)) fun _ F44 => ?_
           refine g_take (v := .int .i64 (poC M ((⟨#[120]⟩ : ByteArray) ++ (decS ((k : Nat) : Int))))) F44 rfl (i := 7) (listed' := #[true, true, true, true, true, true, true, true, false, false]) rfl (by kernel_rfl) (by kernel_rfl) (by kernel_rfl) (fun _ _ _ h => h) (Sd.of (S37.trans S41) [] rfl) rfl rfl rfl rfl (fun _ hz => (r_extract rfl (F44.ev 19 rfl) rfl)) fun _ F45 => ?_
           refine d_one (i := 8) (listed' := #[true, true, true, true, true, true, true, true, true, false]) rfl (by kernel_rfl) rfl rfl ?_
           refine s_store S41.at' 3 TI_31 rfl rfl rfl rfl rfl (F45.ev 4 rfl) (F45.ev 25 rfl) rfl rfl rfl rfl rfl fun w46 S46 => ?_
           refine ⟨Sd.of (S37.trans (S41.trans S46)) [] rfl, ?_⟩
           refine g_take F45 rfl (i := 9) (listed' := #[true, true, true, true, true, true, true, true, true, true]) rfl (by kernel_rfl) (by kernel_rfl) (by kernel_rfl) (fun _ _ _ h => h) (Sd.of (S37.trans (S41.trans S46)) [] rfl) rfl rfl rfl rfl (fun _ hz => (r_assign rfl (F45.ev 26 rfl))) fun _ F47 => ?_
           refine wpAnyH_done (by kernel_rfl) (x_normal ?_) _
           exact ⟨r0_store_a_41, r0_store_n_41, r0_store_c_41, r0_touch_reads_a_41, r0_touch_reads_n_41, r0_touch_reads_c_41, r0_touch_writes_a_41, r0_touch_writes_n_41, r0_touch_writes_c_41, F47.cut rfl, ((S34.trans (S37.trans (S41.trans S46))).pick [0, 1, 2, 3] rfl)⟩
         · skip
           refine f_call F35 CF_19 rfl rfl rfl rfl (lc (F35.ev 21 rfl) rfl) (impl_Decimal_c (n := ((k : Nat) : Int)) (by first | assumption | exact ⟨by omega, by omega⟩ | (unfold i64ok at *; omega)) (Tb.mv V_tab0 (T7.trans (T16.trans (S17.trans (S19.trans (T23.trans (S26.trans S34)))))))) ?_
           rintro _ w48 ⟨rfl, m48, ok_r0_48⟩
           refine ⟨_, rfl, fun _ F49 => ?_⟩
           have S48 := At.frame0 S34.at' m48
           clear m48
           refine ⟨Sd.of S48 [] rfl, ?_⟩
           have k50 : (⟨#[120]⟩ : ByteArray).size + (decS ((k : Nat) : Int)).size ≤ 9223372036854775807 := by exact Nat.le_trans (Nat.add_le_add_left (decS_size _ ⟨by omega, by omega⟩) _) (by decide)
           refine g_take F49 rfl (i := 3) (listed' := #[false, true, true, true, false, false, false, false, false, false]) rfl (by kernel_rfl) (by kernel_rfl) (by kernel_rfl) (fun _ _ _ h => h) (Sd.of S48 [] rfl) rfl rfl rfl rfl (fun _ hz => (r_cat rfl rfl (F49.ev 22 rfl) k50)) fun _ F51 => ?_
           refine d_one (i := 0) (listed' := #[true, true, true, true, false, false, false, false, false, false]) rfl (by kernel_rfl) rfl rfl ?_
           refine f_val (v := .agg #[.slice sa sn sc, .slice ra rn rc, .slice ua un uc]) F51 rfl rfl (r_loadB S48.at' 0 TI_31 rfl rfl (F51.ev 4 rfl) rfl rfl (fun h => nomatch h) rfl) rfl fun _ F52 => ?_
           refine ⟨Sd.of S48 [] rfl, ?_⟩
           refine d_one (i := 4) (listed' := #[true, true, true, true, true, false, false, false, false, false]) rfl (by kernel_rfl) rfl rfl ?_
           refine f_call F52 CF_34 rfl rfl rfl rfl (lc (F52.ev 20 rfl) (lc (F52.ev 23 rfl) rfl)) (impl_PutOut_c (m := M) (text := (⟨#[120]⟩ : ByteArray) ++ (decS ((k : Nat) : Int))) (Rd.mv (Nat.succ_pos _) W26_0 (S34.trans S48)) (Rd.mv (Nat.succ_pos _) W26_1 (S34.trans S48)) (Rd.mv (Nat.succ_pos _) W26_2 (S34.trans S48)) (okS_cat k50) (Tb.mv V_tab0 (T7.trans (T16.trans (S17.trans (S19.trans (T23.trans (S26.trans (S34.trans S48)))))))) (Tb.mv V_tab1 (T7.trans (T16.trans (S17.trans (S19.trans (T23.trans (S26.trans (S34.trans S48)))))))) (by first | assumption | omega | (refine bdC.s ?_; (repeat (first | with_reducible refine bdC.look ?_ | with_reducible refine bdC.lay ?_ | with_reducible refine bdC.set ?_ | with_reducible refine bdC.po ?_)); exact bdC.le (by assumption) (by first | decide | omega)) | (refine bdC.r ?_; (repeat (first | with_reducible refine bdC.look ?_ | with_reducible refine bdC.lay ?_ | with_reducible refine bdC.set ?_ | with_reducible refine bdC.po ?_)); exact bdC.le (by assumption) (by first | decide | omega)) | (refine bdC.w ?_; (repeat (first | with_reducible refine bdC.look ?_ | with_reducible refine bdC.lay ?_ | with_reducible refine bdC.set ?_ | with_reducible refine bdC.po ?_)); exact bdC.le (by assumption) (by first | decide | omega)) | ((repeat (first | with_reducible refine bdC.look ?_ | with_reducible refine bdC.lay ?_ | with_reducible refine bdC.set ?_ | with_reducible refine bdC.po ?_)); exact bdC.le (by assumption) (by first | decide | omega)) | decide | exact Nat.le_trans (keyNum_size _ _ (by assumption)) (by decide) | exact Nat.le_trans (keyNum_size _ _ ⟨by omega, by omega⟩) (by decide))) ?_
           rintro _ w53 ⟨r0_store_a_53, r0_store_n_53, r0_store_c_53, r0_touch_reads_a_53, r0_touch_reads_n_53, r0_touch_reads_c_53, r0_touch_writes_a_53, r0_touch_writes_n_53, r0_touch_writes_c_53, rfl, m53⟩
           refine ⟨_, rfl, fun _ F54 => ?_⟩
           have S53 : Mv _ _ [ow 81 2 encC okC (.slice r0_store_a_53 r0_store_n_53 r0_store_c_53) (poM M ((⟨#[120]⟩ : ByteArray) ++ (decS ((k : Nat) : Int)))).store, ow 9 1 encS okS (.slice r0_touch_reads_a_53 r0_touch_reads_n_53 r0_touch_reads_c_53) (poM M ((⟨#[120]⟩ : ByteArray) ++ (decS ((k : Nat) : Int)))).touch.reads, ow 9 1 encS okS (.slice r0_touch_writes_a_53 r0_touch_writes_n_53 r0_touch_writes_c_53) (poM M ((⟨#[120]⟩ : ByteArray) ++ (decS ((k : Nat) : Int)))).touch.writes, bx b19 [.slice sa sn sc, .slice ra rn rc, .slice ua un uc] 31] _ := At.frame S48.at' [] rfl m53
           obtain ⟨lo53_0, lp53_0, lq53_0⟩ := At.ownInv S53.at' ET_26.hk 0 rfl
           obtain ⟨lo53_1, lp53_1, lq53_1⟩ := At.ownInv S53.at' ET_27.hk 1 rfl
           obtain ⟨lo53_2, lp53_2, lq53_2⟩ := At.ownInv S53.at' ET_27.hk 2 rfl
           clear m53
           refine ⟨Sd.of (S48.trans S53) [] rfl, ?_⟩
           refine g_take F54 rfl (i := 5) (listed' := #[true, true, true, true, true, true, false, false, false, false]) rfl (by kernel_rfl) (by kernel_rfl) (by kernel_rfl) (fun _ _ _ h => h) (Sd.of (S48.trans S53) [] rfl) rfl rfl rfl rfl (fun _ hz => (r_move rfl (F54.ev 24 rfl))) fun _ F55 => ?_
           refine g_take (v := .agg #[.slice r0_store_a_53 r0_store_n_53 r0_store_c_53, .slice r0_touch_reads_a_53 r0_touch_reads_n_53 r0_touch_reads_c_53, .slice r0_touch_writes_a_53 r0_touch_writes_n_53 r0_touch_writes_c_53]) F55 rfl (i := 6) (listed' := #[true, true, true, true, true, true, true, false, false, false]) rfl (by kernel_rfl) (by kernel_rfl) (by kernel_rfl) (fun _ _ _ h => h) (Sd.of (S48.trans S53) [] rfl) rfl rfl rfl rfl (fun _ hz => (r_extract rfl (F55.ev 19 rfl) rfl)) fun _ F56 => ?_
           refine g_take (v := .int .i64 (poC M ((⟨#[120]⟩ : ByteArray) ++ (decS ((k : Nat) : Int))))) F56 rfl (i := 7) (listed' := #[true, true, true, true, true, true, true, true, false, false]) rfl (by kernel_rfl) (by kernel_rfl) (by kernel_rfl) (fun _ _ _ h => h) (Sd.of (S48.trans S53) [] rfl) rfl rfl rfl rfl (fun _ hz => (r_extract rfl (F56.ev 19 rfl) rfl)) fun _ F57 => ?_
           refine d_one (i := 8) (listed' := #[true, true, true, true, true, true, true, true, true, false]) rfl (by kernel_rfl) rfl rfl ?_
           refine s_store S53.at' 3 TI_31 rfl rfl rfl rfl rfl (F57.ev 4 rfl) (F57.ev 25 rfl) rfl rfl rfl rfl rfl fun w58 S58 => ?_
           refine ⟨Sd.of (S48.trans (S53.trans S58)) [] rfl, ?_⟩
           refine g_take F57 rfl (i := 9) (listed' := #[true, true, true, true, true, true, true, true, true, true]) rfl (by kernel_rfl) (by kernel_rfl) (by kernel_rfl) (fun _ _ _ h => h) (Sd.of (S48.trans (S53.trans S58)) [] rfl) rfl rfl rfl rfl (fun _ hz => (r_assign rfl (F57.ev 26 rfl))) fun _ F59 => ?_
           refine wpAnyH_done (by kernel_rfl) (x_normal ?_) _
           exact ⟨r0_store_a_53, r0_store_n_53, r0_store_c_53, r0_touch_reads_a_53, r0_touch_reads_n_53, r0_touch_reads_c_53, r0_touch_writes_a_53, r0_touch_writes_n_53, r0_touch_writes_c_53, F59.cut rfl, ((S34.trans (S48.trans (S53.trans S58))).pick [0, 1, 2, 3] rfl)⟩
       · rintro a60 w60 ⟨r0_store_a_41, r0_store_n_41, r0_store_c_41, r0_touch_reads_a_41, r0_touch_reads_n_41, r0_touch_reads_c_41, r0_touch_writes_a_41, r0_touch_writes_n_41, r0_touch_writes_c_41, F60, S60⟩
         refine x_normal (wp_seq (wp_region_lit (l_op (f_mv F60 rfl rfl rfl rfl rfl fun _ F61 => ?_))))
         refine l_op (f_val F61 rfl rfl (r_cmp (b := decide ((poC M ((⟨#[120]⟩ : ByteArray) ++ (decS ((k : Nat) : Int)))) ≠ 0)) (.inr (.inl rfl)) rfl (F61.ev 27 rfl) rfl (dec_of (by omega))) rfl fun _ F62 => ?_)
         rw [show (decide ((poC M ((⟨#[120]⟩ : ByteArray) ++ (decS ((k : Nat) : Int)))) ≠ 0)) = false from decide_eq_false (fun h => h (outs.step hk_0 (by omega)).1)] at F62
         have F63 : Fr 76 [(28, .bool false), (3, .slice r0_a_12 r0_n_12 r0_c_12), (4, .pointer (some ⟨b19, 0, none⟩)), (5, .int .i64 ((k : Nat) : Int))] _ := F62.cut rfl
         clear F60 F61 F62
         refine s_end (x_normal (wp_cond_false (F63.ev 28 rfl) (wp_skip (x_block_normal (x_normal (wp_region_lit (l_op (f_mv F63 rfl rfl rfl rfl rfl fun _ F64 => ?_))))))))
         refine l_op (f_val F64 rfl rfl (r_add (z := ((k + 1 : Nat) : Int)) rfl (F64.ev 17 rfl) rfl (by first | rfl | omega) ⟨by first | omega | (unfold i64ok at *; omega), by first | omega | (unfold i64ok at *; omega)⟩) rfl fun _ F65 => ?_)
         refine l_op (f_as F65 rfl rfl rfl rfl rfl fun _ F66 => ?_)
         have F67 : Fr 76 [(5, .int .i64 ((k + 1 : Nat) : Int)), (3, .slice r0_a_12 r0_n_12 r0_c_12), (4, .pointer (some ⟨b19, 0, none⟩))] _ := F66.cut rfl
         clear F63 F64 F65 F66
         refine s_end ?_
         have Z68 : Rd 2 encC okC (V H w [bx b19 [.slice r0_store_a_41 r0_store_n_41 r0_store_c_41, .slice r0_touch_reads_a_41 r0_touch_reads_n_41 r0_touch_reads_c_41, .slice r0_touch_writes_a_41 r0_touch_writes_n_41 r0_touch_writes_c_41] 31, ow 9 1 encS okS (.slice r0_touch_reads_a_41 r0_touch_reads_n_41 r0_touch_reads_c_41) (poM M ((⟨#[120]⟩ : ByteArray) ++ (decS ((k : Nat) : Int)))).touch.reads, ow 9 1 encS okS (.slice r0_touch_writes_a_41 r0_touch_writes_n_41 r0_touch_writes_c_41) (poM M ((⟨#[120]⟩ : ByteArray) ++ (decS ((k : Nat) : Int)))).touch.writes]) w60 (.slice r0_store_a_41 r0_store_n_41 r0_store_c_41) (poM M ((⟨#[120]⟩ : ByteArray) ++ (decS ((k : Nat) : Int)))).store := At.freeze (T7.trans (T16.trans (S17.trans (S19.trans (T23.trans (S26.trans S60)))))) ET_26.hk 1 rfl (fun b hb => ((T7.trans (T16.trans (S17.trans (S19.trans (T23.trans (S26.trans S60)))))).fresh b ⟨_, nth_mem (i := 1) rfl, hb⟩).resolve_left (fps_nil _))
         have S68 := At.drop S60.at' 1
         have Z69 : Rd 1 encS okS (V H w [bx b19 [.slice r0_store_a_41 r0_store_n_41 r0_store_c_41, .slice r0_touch_reads_a_41 r0_touch_reads_n_41 r0_touch_reads_c_41, .slice r0_touch_writes_a_41 r0_touch_writes_n_41 r0_touch_writes_c_41] 31, ow 9 1 encS okS (.slice r0_touch_writes_a_41 r0_touch_writes_n_41 r0_touch_writes_c_41) (poM M ((⟨#[120]⟩ : ByteArray) ++ (decS ((k : Nat) : Int)))).touch.writes]) w60 (.slice r0_touch_reads_a_41 r0_touch_reads_n_41 r0_touch_reads_c_41) (poM M ((⟨#[120]⟩ : ByteArray) ++ (decS ((k : Nat) : Int)))).touch.reads := At.freeze (T7.trans (T16.trans (S17.trans (S19.trans (T23.trans (S26.trans (S60.trans S68))))))) ET_27.hk 1 rfl (fun b hb => ((T7.trans (T16.trans (S17.trans (S19.trans (T23.trans (S26.trans (S60.trans S68))))))).fresh b ⟨_, nth_mem (i := 1) rfl, hb⟩).resolve_left (fps_nil _))
         have S69 := At.drop S68.at' 1
         have Z70 : Rd 1 encS okS (V H w [bx b19 [.slice r0_store_a_41 r0_store_n_41 r0_store_c_41, .slice r0_touch_reads_a_41 r0_touch_reads_n_41 r0_touch_reads_c_41, .slice r0_touch_writes_a_41 r0_touch_writes_n_41 r0_touch_writes_c_41] 31]) w60 (.slice r0_touch_writes_a_41 r0_touch_writes_n_41 r0_touch_writes_c_41) (poM M ((⟨#[120]⟩ : ByteArray) ++ (decS ((k : Nat) : Int)))).touch.writes := At.freeze (T7.trans (T16.trans (S17.trans (S19.trans (T23.trans (S26.trans (S60.trans (S68.trans S69)))))))) ET_27.hk 1 rfl (fun b hb => ((T7.trans (T16.trans (S17.trans (S19.trans (T23.trans (S26.trans (S60.trans (S68.trans S69)))))))).fresh b ⟨_, nth_mem (i := 1) rfl, hb⟩).resolve_left (fps_nil _))
         have S70 := At.drop S69.at' 1
         refine x_normal ⟨k + 1, by omega, (poM M ((⟨#[120]⟩ : ByteArray) ++ (decS ((k : Nat) : Int)))), r0_store_a_41, r0_store_n_41, r0_store_c_41, r0_touch_reads_a_41, r0_touch_reads_n_41, r0_touch_reads_c_41, r0_touch_writes_a_41, r0_touch_writes_n_41, r0_touch_writes_c_41, F67.cut rfl, ((S26.trans (S60.trans (S68.trans (S69.trans S70)))).pick [0] rfl), (Rd.mv (Nat.succ_pos _) Z68 (S69.trans S70)), (Rd.mv (Nat.succ_pos _) Z69 S70), Z70, (outs.step hk_0 (by omega)).2, by omega⟩
     · skip
       refine wp_exit (x_then_exit (x_then_exit (x_block_here (x_normal (wp_seq ?_)))))
       have hP : outs 40 M := (show k = 40 by omega) ▸ hk_0
       refine wp_region_lit (l_op (f_val (v := .agg #[.slice sa sn sc, .slice ra rn rc, .slice ua un uc]) F29 rfl rfl (r_loadB S26.at' 0 TI_31 rfl rfl (F29.ev 4 rfl) rfl rfl (fun h => nomatch h) rfl) rfl fun _ F71 => ?_))
       refine l_op (f_call F71 CF_34 rfl rfl rfl rfl (lc (F71.ev 30 rfl) (lc rfl rfl)) (impl_PutOut_c (m := M) (text := (⟨#[121]⟩ : ByteArray)) W26_0 W26_1 W26_2 (by unfold okS; decide) (Tb.mv V_tab0 (T7.trans (T16.trans (S17.trans (S19.trans (T23.trans S26)))))) (Tb.mv V_tab1 (T7.trans (T16.trans (S17.trans (S19.trans (T23.trans S26)))))) (by first | assumption | omega | (refine bdC.s ?_; (repeat (first | with_reducible refine bdC.look ?_ | with_reducible refine bdC.lay ?_ | with_reducible refine bdC.set ?_ | with_reducible refine bdC.po ?_)); exact bdC.le (by assumption) (by first | decide | omega)) | (refine bdC.r ?_; (repeat (first | with_reducible refine bdC.look ?_ | with_reducible refine bdC.lay ?_ | with_reducible refine bdC.set ?_ | with_reducible refine bdC.po ?_)); exact bdC.le (by assumption) (by first | decide | omega)) | (refine bdC.w ?_; (repeat (first | with_reducible refine bdC.look ?_ | with_reducible refine bdC.lay ?_ | with_reducible refine bdC.set ?_ | with_reducible refine bdC.po ?_)); exact bdC.le (by assumption) (by first | decide | omega)) | ((repeat (first | with_reducible refine bdC.look ?_ | with_reducible refine bdC.lay ?_ | with_reducible refine bdC.set ?_ | with_reducible refine bdC.po ?_)); exact bdC.le (by assumption) (by first | decide | omega)) | decide | exact Nat.le_trans (keyNum_size _ _ (by assumption)) (by decide) | exact Nat.le_trans (keyNum_size _ _ ⟨by omega, by omega⟩) (by decide))) ?_)
       rintro _ w72 ⟨r0_store_a_72, r0_store_n_72, r0_store_c_72, r0_touch_reads_a_72, r0_touch_reads_n_72, r0_touch_reads_c_72, r0_touch_writes_a_72, r0_touch_writes_n_72, r0_touch_writes_c_72, rfl, m72⟩
       refine ⟨_, rfl, fun _ F73 => ?_⟩
       have S72 : Mv _ _ [ow 81 2 encC okC (.slice r0_store_a_72 r0_store_n_72 r0_store_c_72) (poM M (⟨#[121]⟩ : ByteArray)).store, ow 9 1 encS okS (.slice r0_touch_reads_a_72 r0_touch_reads_n_72 r0_touch_reads_c_72) (poM M (⟨#[121]⟩ : ByteArray)).touch.reads, ow 9 1 encS okS (.slice r0_touch_writes_a_72 r0_touch_writes_n_72 r0_touch_writes_c_72) (poM M (⟨#[121]⟩ : ByteArray)).touch.writes, bx b19 [.slice sa sn sc, .slice ra rn rc, .slice ua un uc] 31] _ := At.frame S26.at' [] rfl m72
       obtain ⟨lo72_0, lp72_0, lq72_0⟩ := At.ownInv S72.at' ET_26.hk 0 rfl
       obtain ⟨lo72_1, lp72_1, lq72_1⟩ := At.ownInv S72.at' ET_27.hk 1 rfl
       obtain ⟨lo72_2, lp72_2, lq72_2⟩ := At.ownInv S72.at' ET_27.hk 2 rfl
       clear m72
       refine l_op (f_mv F73 rfl rfl rfl rfl rfl fun _ F74 => ?_)
       refine l_op (f_val (v := .agg #[.slice r0_store_a_72 r0_store_n_72 r0_store_c_72, .slice r0_touch_reads_a_72 r0_touch_reads_n_72 r0_touch_reads_c_72, .slice r0_touch_writes_a_72 r0_touch_writes_n_72 r0_touch_writes_c_72]) F74 rfl rfl (r_extract rfl (F74.ev 29 rfl) rfl) rfl fun _ F75 => ?_)
       refine l_op (f_val (v := .int .i64 (poC M (⟨#[121]⟩ : ByteArray))) F75 rfl rfl (r_extract rfl (F75.ev 29 rfl) rfl) rfl fun _ F76 => ?_)
       refine l_op (f_alloc F76 S72.at' ZI_31 rfl rfl rfl rfl rfl fun b77 _ w77 F78 S77 => ?_)
       refine l_op (s_store S77.at' 0 TI_31 rfl rfl rfl rfl rfl (F78.ev 7 rfl) (F78.ev 32 rfl) rfl rfl rfl rfl rfl fun w79 S79 => ?_)
       refine l_op (f_as F78 rfl rfl rfl rfl rfl fun _ F80 => ?_)
       have F81 : Fr 76 [(8, .int .i64 (poC M (⟨#[121]⟩ : ByteArray))), (4, .pointer (some ⟨b19, 0, none⟩)), (3, .slice r0_a_12 r0_n_12 r0_c_12)] _ := F80.cut rfl
       clear F29 F71 F73 F74 F75 F76 F78 F80
       have T82 : Mv _ _ [bx b77 [.slice r0_store_a_72 r0_store_n_72 r0_store_c_72, .slice r0_touch_reads_a_72 r0_touch_reads_n_72 r0_touch_reads_c_72, .slice r0_touch_writes_a_72 r0_touch_writes_n_72 r0_touch_writes_c_72] 31, ow 81 2 encC okC (.slice r0_store_a_72 r0_store_n_72 r0_store_c_72) (poM M (⟨#[121]⟩ : ByteArray)).store, ow 9 1 encS okS (.slice r0_touch_reads_a_72 r0_touch_reads_n_72 r0_touch_reads_c_72) (poM M (⟨#[121]⟩ : ByteArray)).touch.reads, ow 9 1 encS okS (.slice r0_touch_writes_a_72 r0_touch_writes_n_72 r0_touch_writes_c_72) (poM M (⟨#[121]⟩ : ByteArray)).touch.writes, bx b19 [.slice sa sn sc, .slice ra rn rc, .slice ua un uc] 31] _ := S79
       refine s_end (x_normal (wp_seq (wp_region_lit (l_op (f_val F81 rfl rfl (r_field FI_31_0 rfl (F81.ev 4 rfl) rfl) rfl fun _ F83 => ?_)))))
       refine l_op (f_val (v := .slice sa sn sc) F83 rfl rfl (r_loadB T82.at' 4 TI_26 rfl rfl (F83.ev 34 rfl) rfl rfl (fun _ => rfl) rfl) rfl fun _ F84 => ?_)
       refine l_op (f_call F84 CF_35 rfl rfl rfl rfl (lc (F84.ev 35 rfl) rfl) (impl_OutsIn_c (s := M.store) (Rd.mv (Nat.succ_pos _) W26_0 (S72.trans (S77.trans T82))) (Tb.mv V_tab0 (T7.trans (T16.trans (S17.trans (S19.trans (T23.trans (S26.trans (S72.trans (S77.trans T82))))))))) (Tb.mv V_tab1 (T7.trans (T16.trans (S17.trans (S19.trans (T23.trans (S26.trans (S72.trans (S77.trans T82))))))))) (Tb.mv V_tab2 (T7.trans (T16.trans (S17.trans (S19.trans (T23.trans (S26.trans (S72.trans (S77.trans T82))))))))) (by exact hbM.2)) ?_)
       rintro _ w85 ⟨r0_a_85, r0_n_85, r0_c_85, rfl, m85, v85_0⟩
       refine ⟨_, rfl, fun _ F86 => ?_⟩
       have S85 := At.frame0 T82.at' m85
       have V85_0 := Rd.got0 T82.at' ((T7.trans (T16.trans (S17.trans (S19.trans (T23.trans (S26.trans (S72.trans (S77.trans T82)))))))).kp.size) v85_0 S85
       obtain ⟨ln85_0, le85_0, mx85_0, ni85_0⟩ := Rd.inv V85_0
       clear m85 v85_0
       refine l_op (f_as F86 rfl rfl rfl rfl rfl fun _ F87 => ?_)
       have F88 : Fr 76 [(9, .slice r0_a_85 r0_n_85 r0_c_85), (8, .int .i64 (poC M (⟨#[121]⟩ : ByteArray))), (4, .pointer (some ⟨b19, 0, none⟩)), (3, .slice r0_a_12 r0_n_12 r0_c_12)] _ := F87.cut rfl
       clear F81 F83 F84 F86 F87
       have T89 : Mv _ _ [bx b77 [.slice r0_store_a_72 r0_store_n_72 r0_store_c_72, .slice r0_touch_reads_a_72 r0_touch_reads_n_72 r0_touch_reads_c_72, .slice r0_touch_writes_a_72 r0_touch_writes_n_72 r0_touch_writes_c_72] 31, ow 81 2 encC okC (.slice r0_store_a_72 r0_store_n_72 r0_store_c_72) (poM M (⟨#[121]⟩ : ByteArray)).store, ow 9 1 encS okS (.slice r0_touch_reads_a_72 r0_touch_reads_n_72 r0_touch_reads_c_72) (poM M (⟨#[121]⟩ : ByteArray)).touch.reads, ow 9 1 encS okS (.slice r0_touch_writes_a_72 r0_touch_writes_n_72 r0_touch_writes_c_72) (poM M (⟨#[121]⟩ : ByteArray)).touch.writes, bx b19 [.slice sa sn sc, .slice ra rn rc, .slice ua un uc] 31] _ := S85
       refine s_end (x_normal (wp_seq ?_))
       have hol := outL_length M.store (outN M.store)
       have hon := hP.list.1
       obtain ⟨x1, hx1, okx1⟩ := Rd.elem (Rd.mv (Nat.succ_pos _) V12_0 (S17.trans (S19.trans (T23.trans (S26.trans (S72.trans (S77.trans (T82.trans T89)))))))) 0 (by first | assumption | omega)
       obtain ⟨x2, hx2, okx2⟩ := Rd.elem (Rd.mv (Nat.succ_pos _) V12_0 (S17.trans (S19.trans (T23.trans (S26.trans (S72.trans (S77.trans (T82.trans T89)))))))) 1 (by first | assumption | omega)
       have pb91 := pOk_at (by assumption) hx1
       obtain ⟨r91, hr91, lr91⟩ := rem_nat (c := 40) pb91 (by decide)
       have pb92 := pOk_at (by assumption) hx2
       obtain ⟨r92, hr92, lr92⟩ := rem_nat (c := 41) pb92 (by decide)
       refine x_draw (fun aZ wZ => ∃ (r0_a_136 : Option Addr), ∃ (r0_n_136 : Nat), ∃ (r0_c_136 : Nat), Fr 76 [(2, .bool true)] aZ ∧ Mv [bx b77 [.slice r0_store_a_72 r0_store_n_72 r0_store_c_72, .slice r0_touch_reads_a_72 r0_touch_reads_n_72 r0_touch_reads_c_72, .slice r0_touch_writes_a_72 r0_touch_writes_n_72 r0_touch_writes_c_72] 31, ow 81 2 encC okC (.slice r0_store_a_72 r0_store_n_72 r0_store_c_72) (poM M (⟨#[121]⟩ : ByteArray)).store, ow 9 1 encS okS (.slice r0_touch_reads_a_72 r0_touch_reads_n_72 r0_touch_reads_c_72) (poM M (⟨#[121]⟩ : ByteArray)).touch.reads, ow 9 1 encS okS (.slice r0_touch_writes_a_72 r0_touch_writes_n_72 r0_touch_writes_c_72) (poM M (⟨#[121]⟩ : ByteArray)).touch.writes, bx b19 [.slice sa sn sc, .slice ra rn rc, .slice ua un uc] 31] w85 [bx b77 [.slice r0_store_a_72 r0_store_n_72 r0_store_c_72, .slice r0_touch_reads_a_72 r0_touch_reads_n_72 r0_touch_reads_c_72, .slice r0_touch_writes_a_72 r0_touch_writes_n_72 r0_touch_writes_c_72] 31, ow 81 2 encC okC (.slice r0_store_a_72 r0_store_n_72 r0_store_c_72) (poM M (⟨#[121]⟩ : ByteArray)).store, ow 9 1 encS okS (.slice r0_touch_reads_a_72 r0_touch_reads_n_72 r0_touch_reads_c_72) (poM M (⟨#[121]⟩ : ByteArray)).touch.reads, ow 9 1 encS okS (.slice r0_touch_writes_a_72 r0_touch_writes_n_72 r0_touch_writes_c_72) (poM M (⟨#[121]⟩ : ByteArray)).touch.writes, bx b19 [.slice sa sn sc, .slice ra rn rc, .slice ua un uc] 31, ow 9 1 encS okS (.slice r0_a_136 r0_n_136 r0_c_136) ((outL M.store (outN M.store)).drop (max 0 (min ((r92 : Nat) : Int) (((outL M.store (outN M.store)).length : Nat) : Int))).toNat)] wZ) [bx b19 [.slice sa sn sc, .slice ra rn rc, .slice ua un uc] 31] mixed T89.at' (listed := #[false, false, false, false, false, false, false, false, false, false, false, false, false, false, false, false, false, false, false, false, false, false, false, false, false, false, false, false, false, false, false, false, false, false, false, false, false, false, false, false]) rfl (fun w93 S93 => ?_) [4] rfl ?_
       · skip
         refine g_take F88 rfl (i := 0) (listed' := #[true, false, false, false, false, false, false, false, false, false, false, false, false, false, false, false, false, false, false, false, false, false, false, false, false, false, false, false, false, false, false, false, false, false, false, false, false, false, false, false]) rfl (by kernel_rfl) (by kernel_rfl) (by kernel_rfl) (fun _ _ _ h => h) (Sd.of (Mv.refl S93.at') [4] rfl) rfl rfl rfl rfl (fun _ hz => (r_move rfl (F88.ev 8 rfl))) fun _ F94 => ?_
         refine g_take F94 rfl (i := 1) (listed' := #[true, true, false, false, false, false, false, false, false, false, false, false, false, false, false, false, false, false, false, false, false, false, false, false, false, false, false, false, false, false, false, false, false, false, false, false, false, false, false, false]) rfl (by kernel_rfl) (by kernel_rfl) (by kernel_rfl) (fun _ _ _ h => h) (Sd.of (Mv.refl S93.at') [4] rfl) rfl rfl rfl rfl (fun _ hz => (r_cmp (b := decide ((poC M (⟨#[121]⟩ : ByteArray)) = 3)) (.inl rfl) rfl (F94.ev 37 rfl) rfl (dec_of (by omega)))) fun _ F95 => ?_
         rw [show (decide ((poC M (⟨#[121]⟩ : ByteArray)) = 3)) = true from decide_eq_true (hP.full rfl)] at F95
         refine g_take F95 rfl (i := 2) (listed' := #[true, true, true, false, false, false, false, false, false, false, false, false, false, false, false, false, false, false, false, false, false, false, false, false, false, false, false, false, false, false, false, false, false, false, false, false, false, false, false, false]) rfl (by kernel_rfl) (by kernel_rfl) (by kernel_rfl) (fun _ _ _ h => h) (Sd.of (Mv.refl S93.at') [4] rfl) rfl rfl rfl rfl (fun _ hz => (r_move rfl (F95.ev 38 rfl))) fun _ F96 => ?_
         refine g_take F96 rfl (i := 3) (listed' := #[true, true, true, true, false, false, false, false, false, false, false, false, false, false, false, false, false, false, false, false, false, false, false, false, false, false, false, false, false, false, false, false, false, false, false, false, false, false, false, false]) rfl (by kernel_rfl) (by kernel_rfl) (by kernel_rfl) (fun _ _ _ h => h) (Sd.of (Mv.refl S93.at') [4] rfl) rfl (wanted_g F96 rfl rfl rfl rfl) rfl rfl (fun _ hz => (r_move rfl (F96.ev 9 rfl))) fun _ F97 => ?_
         refine g_take F97 rfl (i := 4) (listed' := #[true, true, true, true, true, false, false, false, false, false, false, false, false, false, false, false, false, false, false, false, false, false, false, false, false, false, false, false, false, false, false, false, false, false, false, false, false, false, false, false]) rfl (by kernel_rfl) (by kernel_rfl) (by kernel_rfl) (fun _ _ _ h => h) (Sd.of (Mv.refl S93.at') [4] rfl) rfl (wanted_g F97 rfl rfl rfl rfl) rfl rfl (fun _ hz => (r_len Tryd.underlying27 rfl (F97.ev 40 rfl))) fun _ F98 => ?_
         refine g_take F98 rfl (i := 5) (listed' := #[true, true, true, true, true, true, false, false, false, false, false, false, false, false, false, false, false, false, false, false, false, false, false, false, false, false, false, false, false, false, false, false, false, false, false, false, false, false, false, false]) rfl (by kernel_rfl) (by kernel_rfl) (by kernel_rfl) (fun _ _ _ h => h) (Sd.of (Mv.refl S93.at') [4] rfl) rfl (wanted_g F98 rfl rfl rfl rfl) rfl rfl (fun _ hz => (r_cmp (b := decide (r0_n_85 = 40)) (.inl rfl) rfl (F98.ev 41 rfl) rfl (dec_of (by omega)))) fun _ F99 => ?_
         rw [show (decide (r0_n_85 = 40)) = true from decide_eq_true (by omega)] at F99
         refine g_take F99 rfl (i := 6) (listed' := #[true, true, true, true, true, true, true, false, false, false, false, false, false, false, false, false, false, false, false, false, false, false, false, false, false, false, false, false, false, false, false, false, false, false, false, false, false, false, false, false]) rfl (by kernel_rfl) (by kernel_rfl) (by kernel_rfl) (fun _ _ _ h => h) (Sd.of (Mv.refl S93.at') [4] rfl) rfl rfl rfl rfl (fun _ hz => (r_pick (b := true) rfl (F99.ev 39 rfl) (F99.ev 42 rfl))) fun _ F100 => ?_
         refine g_take F100 rfl (i := 7) (listed' := #[true, true, true, true, true, true, true, true, false, false, false, false, false, false, false, false, false, false, false, false, false, false, false, false, false, false, false, false, false, false, false, false, false, false, false, false, false, false, false, false]) rfl (by kernel_rfl) (by kernel_rfl) (by kernel_rfl) (fun _ _ _ h => h) (Sd.of (Mv.refl S93.at') [4] rfl) rfl rfl rfl rfl (fun _ hz => (r_move rfl (F100.ev 43 rfl))) fun _ F101 => ?_
         refine g_take F101 rfl (i := 8) (listed' := #[true, true, true, true, true, true, true, true, true, false, false, false, false, false, false, false, false, false, false, false, false, false, false, false, false, false, false, false, false, false, false, false, false, false, false, false, false, false, false, false]) rfl (by kernel_rfl) (by kernel_rfl) (by kernel_rfl) (fun _ _ _ h => h) (Sd.of (Mv.refl S93.at') [4] rfl) rfl (wanted_g F101 rfl rfl rfl rfl) rfl rfl (fun _ hz => (r_move rfl (F101.ev 9 rfl))) fun _ F102 => ?_
         refine g_take F102 rfl (i := 9) (listed' := #[true, true, true, true, true, true, true, true, true, true, false, false, false, false, false, false, false, false, false, false, false, false, false, false, false, false, false, false, false, false, false, false, false, false, false, false, false, false, false, false]) rfl (by kernel_rfl) (by kernel_rfl) (by kernel_rfl) (fun _ _ _ h => h) (Sd.of (Mv.refl S93.at') [4] rfl) rfl (wanted_g F102 rfl rfl rfl rfl) rfl rfl (fun _ hz => (r_move rfl (F102.ev 3 rfl))) fun _ F103 => ?_
         obtain ⟨B104, O104, y104, ad104, hy104, oky104, ln104, cl104⟩ := Rd.atK (Nat.succ_pos _) (Rd.mv (Nat.succ_pos _) V12_0 (S17.trans (S19.trans (T23.trans (S26.trans (S72.trans (S77.trans (T82.trans (T89.trans S93))))))))) 0 (by first | assumption | omega)
         clear ln104
         obtain rfl := Option.some.inj (hx1.symm.trans hy104)
         clear hy104 oky104
         refine g_take F103 rfl (i := 10) (listed' := #[true, true, true, true, true, true, true, true, true, true, true, false, false, false, false, false, false, false, false, false, false, false, false, false, false, false, false, false, false, false, false, false, false, false, false, false, false, false, false, false]) rfl (by kernel_rfl) (by kernel_rfl) (by kernel_rfl) (fun _ _ _ h => h) (Sd.of (Mv.refl S93.at') [4] rfl) rfl (wanted_g F103 rfl rfl rfl rfl) rfl rfl (fun _ hz => (r_indexAddr (i := 0) ET_24 rfl ((F103.ev 46 rfl).trans (by rw [ad104])) rfl (by omega) (by first | assumption | omega))) fun _ F105 => ?_
         refine g_take (v := .int .i64 x1) F105 rfl (i := 11) (listed' := #[true, true, true, true, true, true, true, true, true, true, true, true, false, false, false, false, false, false, false, false, false, false, false, false, false, false, false, false, false, false, false, false, false, false, false, false, false, false, false, false]) rfl (by kernel_rfl) (by kernel_rfl) (by kernel_rfl) (fun _ _ _ h => h) (Sd.of (Mv.refl S93.at') [4] rfl) rfl (wanted_g F105 rfl rfl rfl rfl) rfl rfl (fun _ hz => (r_load (cs := [.int .i64 x1]) TI_3 rfl (F105.ev 47 rfl) rfl (fun _ => rfl) (elem_sub (f := 0) (cl104 _ hz.kp) [.int .i64 x1] rfl))) fun _ F106 => ?_
         refine g_take F106 rfl (i := 12) (listed' := #[true, true, true, true, true, true, true, true, true, true, true, true, true, false, false, false, false, false, false, false, false, false, false, false, false, false, false, false, false, false, false, false, false, false, false, false, false, false, false, false]) rfl (by kernel_rfl) (by kernel_rfl) (by kernel_rfl) (fun _ _ _ h => h) (Sd.of (Mv.refl S93.at') [4] rfl) rfl (wanted_g F106 rfl rfl rfl rfl) rfl rfl (fun _ hz => ((r_remI (c := 40) rfl (by decide) rfl (F106.ev 48 rfl) rfl).trans (by rw [hr91]))) fun _ F107 => ?_
         obtain ⟨B108, O108, x3, ad108, hx3, okx3, ln108, cl108⟩ := Rd.atK (Nat.succ_pos _) (Rd.mv (Nat.succ_pos _) V85_0 S93) r91 (by first | assumption | omega)
         clear ln108
         refine g_take F107 rfl (i := 13) (listed' := #[true, true, true, true, true, true, true, true, true, true, true, true, true, true, false, false, false, false, false, false, false, false, false, false, false, false, false, false, false, false, false, false, false, false, false, false, false, false, false, false]) rfl (by kernel_rfl) (by kernel_rfl) (by kernel_rfl) (fun _ _ _ h => h) (Sd.of (Mv.refl S93.at') [4] rfl) rfl (wanted_g F107 rfl rfl rfl rfl) rfl rfl (fun _ hz => (r_indexAddr (i := r91) ET_27 rfl ((F107.ev 45 rfl).trans (by rw [ad108])) (F107.ev 49 rfl) (by omega) (by first | assumption | omega))) fun _ F109 => ?_
         refine g_take (v := .string x3) F109 rfl (i := 14) (listed' := #[true, true, true, true, true, true, true, true, true, true, true, true, true, true, true, false, false, false, false, false, false, false, false, false, false, false, false, false, false, false, false, false, false, false, false, false, false, false, false, false]) rfl (by kernel_rfl) (by kernel_rfl) (by kernel_rfl) (fun _ _ _ h => h) (Sd.of (Mv.refl S93.at') [4] rfl) rfl (wanted_g F109 rfl rfl rfl rfl) rfl rfl (fun _ hz => (r_load (cs := [.string x3]) TI_9 rfl (F109.ev 50 rfl) rfl (fun _ => rfl) (elem_sub (f := 0) (cl108 _ hz.kp) [.string x3] rfl))) fun _ F110 => ?_
         refine g_take F110 rfl (i := 15) (listed' := #[true, true, true, true, true, true, true, true, true, true, true, true, true, true, true, true, false, false, false, false, false, false, false, false, false, false, false, false, false, false, false, false, false, false, false, false, false, false, false, false]) rfl (by kernel_rfl) (by kernel_rfl) (by kernel_rfl) (fun _ _ _ h => h) (Sd.of (Mv.refl S93.at') [4] rfl) rfl (wanted_g F110 rfl rfl rfl rfl) rfl rfl (fun _ hz => (r_move rfl (F110.ev 3 rfl))) fun _ F111 => ?_
         obtain ⟨B112, O112, y112, ad112, hy112, oky112, ln112, cl112⟩ := Rd.atK (Nat.succ_pos _) (Rd.mv (Nat.succ_pos _) V12_0 (S17.trans (S19.trans (T23.trans (S26.trans (S72.trans (S77.trans (T82.trans (T89.trans S93))))))))) 0 (by first | assumption | omega)
         clear ln112
         obtain rfl := Option.some.inj (hx1.symm.trans hy112)
         clear hy112 oky112
         refine g_take F111 rfl (i := 16) (listed' := #[true, true, true, true, true, true, true, true, true, true, true, true, true, true, true, true, true, false, false, false, false, false, false, false, false, false, false, false, false, false, false, false, false, false, false, false, false, false, false, false]) rfl (by kernel_rfl) (by kernel_rfl) (by kernel_rfl) (fun _ _ _ h => h) (Sd.of (Mv.refl S93.at') [4] rfl) rfl (wanted_g F111 rfl rfl rfl rfl) rfl rfl (fun _ hz => (r_indexAddr (i := 0) ET_24 rfl ((F111.ev 52 rfl).trans (by rw [ad112])) rfl (by omega) (by first | assumption | omega))) fun _ F113 => ?_
         refine g_take (v := .int .i64 x1) F113 rfl (i := 17) (listed' := #[true, true, true, true, true, true, true, true, true, true, true, true, true, true, true, true, true, true, false, false, false, false, false, false, false, false, false, false, false, false, false, false, false, false, false, false, false, false, false, false]) rfl (by kernel_rfl) (by kernel_rfl) (by kernel_rfl) (fun _ _ _ h => h) (Sd.of (Mv.refl S93.at') [4] rfl) rfl (wanted_g F113 rfl rfl rfl rfl) rfl rfl (fun _ hz => (r_load (cs := [.int .i64 x1]) TI_3 rfl (F113.ev 53 rfl) rfl (fun _ => rfl) (elem_sub (f := 0) (cl112 _ hz.kp) [.int .i64 x1] rfl))) fun _ F114 => ?_
         refine g_take F114 rfl (i := 18) (listed' := #[true, true, true, true, true, true, true, true, true, true, true, true, true, true, true, true, true, true, true, false, false, false, false, false, false, false, false, false, false, false, false, false, false, false, false, false, false, false, false, false]) rfl (by kernel_rfl) (by kernel_rfl) (by kernel_rfl) (fun _ _ _ h => h) (Sd.of (Mv.refl S93.at') [4] rfl) rfl (wanted_g F114 rfl rfl rfl rfl) rfl rfl (fun _ hz => ((r_remI (c := 40) rfl (by decide) rfl (F114.ev 54 rfl) rfl).trans (by rw [hr91]))) fun _ F115 => ?_
         refine d_one (i := 19) (listed' := #[true, true, true, true, true, true, true, true, true, true, true, true, true, true, true, true, true, true, true, true, false, false, false, false, false, false, false, false, false, false, false, false, false, false, false, false, false, false, false, false]) rfl (by kernel_rfl) rfl rfl ?_
         refine f_call F115 CF_19 (wanted_g F115 rfl rfl rfl rfl) rfl rfl rfl (lc (F115.ev 55 rfl) rfl) (impl_Decimal_c (n := ((r91 : Nat) : Int)) (by first | assumption | exact ⟨by omega, by omega⟩ | (unfold i64ok at *; omega)) (Tb.mv V_tab0 (T7.trans (T16.trans (S17.trans (S19.trans (T23.trans (S26.trans (S72.trans (S77.trans (T82.trans (T89.trans S93)))))))))))) ?_
         rintro _ w116 ⟨rfl, m116, ok_r0_116⟩
         refine ⟨_, rfl, fun _ F117 => ?_⟩
         have S116 := At.frame0 S93.at' m116
         clear m116
         refine ⟨Sd.of S116 [4] rfl, ?_⟩
         have k118 : (⟨#[120]⟩ : ByteArray).size + (decS ((r91 : Nat) : Int)).size ≤ 9223372036854775807 := by exact Nat.le_trans (Nat.add_le_add_left (decS_size _ ⟨by omega, by omega⟩) _) (by decide)
         refine g_take F117 rfl (i := 20) (listed' := #[true, true, true, true, true, true, true, true, true, true, true, true, true, true, true, true, true, true, true, true, true, false, false, false, false, false, false, false, false, false, false, false, false, false, false, false, false, false, false, false]) rfl (by kernel_rfl) (by kernel_rfl) (by kernel_rfl) (fun _ _ _ h => h) (Sd.of S116 [4] rfl) rfl (wanted_g F117 rfl rfl rfl rfl) rfl rfl (fun _ hz => (r_cat rfl rfl (F117.ev 56 rfl) k118)) fun _ F119 => ?_
         refine g_take F119 rfl (i := 21) (listed' := #[true, true, true, true, true, true, true, true, true, true, true, true, true, true, true, true, true, true, true, true, true, true, false, false, false, false, false, false, false, false, false, false, false, false, false, false, false, false, false, false]) rfl (by kernel_rfl) (by kernel_rfl) (by kernel_rfl) (fun _ _ _ h => h) (Sd.of S116 [4] rfl) rfl (wanted_g F119 rfl rfl rfl rfl) rfl rfl (fun _ hz => (r_cmps (b := (decide (x3 = ((⟨#[120]⟩ : ByteArray) ++ (decS ((r91 : Nat) : Int)))))) (.inl rfl) rfl (F119.ev 51 rfl) (F119.ev 57 rfl) rfl)) fun _ F120 => ?_
         rw [show (decide (x3 = ((⟨#[120]⟩ : ByteArray) ++ (decS ((r91 : Nat) : Int))))) = true from decide_eq_true (outs.elem hP (by assumption) (by omega))] at F120
         refine g_take F120 rfl (i := 22) (listed' := #[true, true, true, true, true, true, true, true, true, true, true, true, true, true, true, true, true, true, true, true, true, true, true, false, false, false, false, false, false, false, false, false, false, false, false, false, false, false, false, false]) rfl (by kernel_rfl) (by kernel_rfl) (by kernel_rfl) (fun _ _ _ h => h) (Sd.of S116 [4] rfl) rfl rfl rfl rfl (fun _ hz => (r_pick (b := true) rfl (F120.ev 44 rfl) (F120.ev 58 rfl))) fun _ F121 => ?_
         refine g_take F121 rfl (i := 23) (listed' := #[true, true, true, true, true, true, true, true, true, true, true, true, true, true, true, true, true, true, true, true, true, true, true, true, false, false, false, false, false, false, false, false, false, false, false, false, false, false, false, false]) rfl (by kernel_rfl) (by kernel_rfl) (by kernel_rfl) (fun _ _ _ h => h) (Sd.of S116 [4] rfl) rfl rfl rfl rfl (fun _ hz => (r_move rfl (F121.ev 59 rfl))) fun _ F122 => ?_
         refine g_take F122 rfl (i := 24) (listed' := #[true, true, true, true, true, true, true, true, true, true, true, true, true, true, true, true, true, true, true, true, true, true, true, true, true, false, false, false, false, false, false, false, false, false, false, false, false, false, false, false]) rfl (by kernel_rfl) (by kernel_rfl) (by kernel_rfl) (fun _ _ _ h => h) (Sd.of S116 [4] rfl) rfl (wanted_g F122 rfl rfl rfl rfl) rfl rfl (fun _ hz => (r_field FI_31_0 rfl (F122.ev 4 rfl) rfl)) fun _ F123 => ?_
         refine g_take (v := .slice sa sn sc) F123 rfl (i := 25) (listed' := #[true, true, true, true, true, true, true, true, true, true, true, true, true, true, true, true, true, true, true, true, true, true, true, true, true, true, false, false, false, false, false, false, false, false, false, false, false, false, false, false]) rfl (by kernel_rfl) (by kernel_rfl) (by kernel_rfl) (fun _ _ _ h => h) (Sd.of S116 [4] rfl) rfl (wanted_g F123 rfl rfl rfl rfl) rfl rfl (fun _ hz => (r_loadX (hz.bx 0 rfl) TI_26 rfl (F123.ev 61 rfl) rfl rfl (fun _ => rfl) rfl)) fun _ F124 => ?_
         refine g_take F124 rfl (i := 26) (listed' := #[true, true, true, true, true, true, true, true, true, true, true, true, true, true, true, true, true, true, true, true, true, true, true, true, true, true, true, false, false, false, false, false, false, false, false, false, false, false, false, false]) rfl (by kernel_rfl) (by kernel_rfl) (by kernel_rfl) (fun _ _ _ h => h) (Sd.of S116 [4] rfl) rfl (wanted_g F124 rfl rfl rfl rfl) rfl rfl (fun _ hz => (r_move rfl (F124.ev 3 rfl))) fun _ F125 => ?_
         obtain ⟨B126, O126, y126, ad126, hy126, oky126, ln126, cl126⟩ := Rd.atK (Nat.succ_pos _) (Rd.mv (Nat.succ_pos _) V12_0 (S17.trans (S19.trans (T23.trans (S26.trans (S72.trans (S77.trans (T82.trans (T89.trans S93))))))))) 1 (by first | assumption | omega)
         clear ln126
         obtain rfl := Option.some.inj (hx2.symm.trans hy126)
         clear hy126 oky126
         refine g_take F125 rfl (i := 27) (listed' := #[true, true, true, true, true, true, true, true, true, true, true, true, true, true, true, true, true, true, true, true, true, true, true, true, true, true, true, true, false, false, false, false, false, false, false, false, false, false, false, false]) rfl (by kernel_rfl) (by kernel_rfl) (by kernel_rfl) (fun _ _ _ h => h) (Sd.of S116 [4] rfl) rfl (wanted_g F125 rfl rfl rfl rfl) rfl rfl (fun _ hz => (r_indexAddr (i := 1) ET_24 rfl ((F125.ev 63 rfl).trans (by rw [ad126])) rfl (by omega) (by first | assumption | omega))) fun _ F127 => ?_
         refine g_take (v := .int .i64 x2) F127 rfl (i := 28) (listed' := #[true, true, true, true, true, true, true, true, true, true, true, true, true, true, true, true, true, true, true, true, true, true, true, true, true, true, true, true, true, false, false, false, false, false, false, false, false, false, false, false]) rfl (by kernel_rfl) (by kernel_rfl) (by kernel_rfl) (fun _ _ _ h => h) (Sd.of S116 [4] rfl) rfl (wanted_g F127 rfl rfl rfl rfl) rfl rfl (fun _ hz => (r_load (cs := [.int .i64 x2]) TI_3 rfl (F127.ev 64 rfl) rfl (fun _ => rfl) (elem_sub (f := 0) (cl126 _ hz.kp) [.int .i64 x2] rfl))) fun _ F128 => ?_
         refine g_take F128 rfl (i := 29) (listed' := #[true, true, true, true, true, true, true, true, true, true, true, true, true, true, true, true, true, true, true, true, true, true, true, true, true, true, true, true, true, true, false, false, false, false, false, false, false, false, false, false]) rfl (by kernel_rfl) (by kernel_rfl) (by kernel_rfl) (fun _ _ _ h => h) (Sd.of S116 [4] rfl) rfl (wanted_g F128 rfl rfl rfl rfl) rfl rfl (fun _ hz => ((r_remI (c := 41) rfl (by decide) rfl (F128.ev 65 rfl) rfl).trans (by rw [hr92]))) fun _ F129 => ?_
         refine g_take F129 rfl (i := 32) (listed' := #[true, true, true, true, true, true, true, true, true, true, true, true, true, true, true, true, true, true, true, true, true, true, true, true, true, true, true, true, true, true, false, false, true, false, false, false, false, false, false, false]) rfl (by kernel_rfl) (by kernel_rfl) (by kernel_rfl) (fun _ _ _ h => h) (Sd.of S116 [4] rfl) rfl (wanted_g F129 rfl rfl rfl rfl) rfl rfl (fun _ hz => (r_move rfl (F129.ev 3 rfl))) fun _ F130 => ?_
         obtain ⟨B131, O131, y131, ad131, hy131, oky131, ln131, cl131⟩ := Rd.atK (Nat.succ_pos _) (Rd.mv (Nat.succ_pos _) V12_0 (S17.trans (S19.trans (T23.trans (S26.trans (S72.trans (S77.trans (T82.trans (T89.trans S93))))))))) 1 (by first | assumption | omega)
         clear ln131
         obtain rfl := Option.some.inj (hx2.symm.trans hy131)
         clear hy131 oky131
         refine g_take F130 rfl (i := 33) (listed' := #[true, true, true, true, true, true, true, true, true, true, true, true, true, true, true, true, true, true, true, true, true, true, true, true, true, true, true, true, true, true, false, false, true, true, false, false, false, false, false, false]) rfl (by kernel_rfl) (by kernel_rfl) (by kernel_rfl) (fun _ _ _ h => h) (Sd.of S116 [4] rfl) rfl (wanted_g F130 rfl rfl rfl rfl) rfl rfl (fun _ hz => (r_indexAddr (i := 1) ET_24 rfl ((F130.ev 69 rfl).trans (by rw [ad131])) rfl (by omega) (by first | assumption | omega))) fun _ F132 => ?_
         refine g_take (v := .int .i64 x2) F132 rfl (i := 34) (listed' := #[true, true, true, true, true, true, true, true, true, true, true, true, true, true, true, true, true, true, true, true, true, true, true, true, true, true, true, true, true, true, false, false, true, true, true, false, false, false, false, false]) rfl (by kernel_rfl) (by kernel_rfl) (by kernel_rfl) (fun _ _ _ h => h) (Sd.of S116 [4] rfl) rfl (wanted_g F132 rfl rfl rfl rfl) rfl rfl (fun _ hz => (r_load (cs := [.int .i64 x2]) TI_3 rfl (F132.ev 70 rfl) rfl (fun _ => rfl) (elem_sub (f := 0) (cl131 _ hz.kp) [.int .i64 x2] rfl))) fun _ F133 => ?_
         refine g_take F133 rfl (i := 35) (listed' := #[true, true, true, true, true, true, true, true, true, true, true, true, true, true, true, true, true, true, true, true, true, true, true, true, true, true, true, true, true, true, false, false, true, true, true, true, false, false, false, false]) rfl (by kernel_rfl) (by kernel_rfl) (by kernel_rfl) (fun _ _ _ h => h) (Sd.of S116 [4] rfl) rfl (wanted_g F133 rfl rfl rfl rfl) rfl rfl (fun _ hz => ((r_remI (c := 41) rfl (by decide) rfl (F133.ev 71 rfl) rfl).trans (by rw [hr92]))) fun _ F134 => ?_
         refine g_take F134 rfl (i := 36) (listed' := #[true, true, true, true, true, true, true, true, true, true, true, true, true, true, true, true, true, true, true, true, true, true, true, true, true, true, true, true, true, true, false, false, true, true, true, true, true, false, false, false]) rfl (by kernel_rfl) (by kernel_rfl) (by kernel_rfl) (fun _ _ _ h => h) (Sd.of S116 [4] rfl) rfl (wanted_g F134 rfl rfl rfl rfl) rfl rfl (fun _ hz => (r_sub (z := (40 - ((r92 : Nat) : Int))) rfl rfl (F134.ev 72 rfl) (by first | rfl | omega) ⟨by first | omega | (unfold i64ok at *; omega), by first | omega | (unfold i64ok at *; omega)⟩)) fun _ F135 => ?_
         refine d_one (i := 30) (listed' := #[true, true, true, true, true, true, true, true, true, true, true, true, true, true, true, true, true, true, true, true, true, true, true, true, true, true, true, true, true, true, true, false, true, true, true, true, true, false, false, false]) rfl (by kernel_rfl) rfl rfl ?_
         refine f_call F135 CF_36 (wanted_g F135 rfl rfl rfl rfl) rfl rfl rfl (lc (F135.ev 62 rfl) (lc (F135.ev 66 rfl) rfl)) (impl_OutsFrom_c (s := M.store) (n := ((r92 : Nat) : Int)) (Rd.mv (Nat.succ_pos _) W26_0 (S72.trans (S77.trans (T82.trans (T89.trans (S93.trans S116)))))) (by first | assumption | exact ⟨by omega, by omega⟩ | (unfold i64ok at *; omega)) (Tb.mv V_tab0 (T7.trans (T16.trans (S17.trans (S19.trans (T23.trans (S26.trans (S72.trans (S77.trans (T82.trans (T89.trans (S93.trans S116)))))))))))) (Tb.mv V_tab1 (T7.trans (T16.trans (S17.trans (S19.trans (T23.trans (S26.trans (S72.trans (S77.trans (T82.trans (T89.trans (S93.trans S116)))))))))))) (Tb.mv V_tab2 (T7.trans (T16.trans (S17.trans (S19.trans (T23.trans (S26.trans (S72.trans (S77.trans (T82.trans (T89.trans (S93.trans S116)))))))))))) (by exact hbM.2)) ?_
         rintro _ w136 ⟨r0_a_136, r0_n_136, r0_c_136, rfl, m136⟩
         refine ⟨_, rfl, fun _ F137 => ?_⟩
         have S136 : Mv _ _ [ow 9 1 encS okS (.slice r0_a_136 r0_n_136 r0_c_136) ((outL M.store (outN M.store)).drop (max 0 (min ((r92 : Nat) : Int) (((outL M.store (outN M.store)).length : Nat) : Int))).toNat), bx b77 [.slice r0_store_a_72 r0_store_n_72 r0_store_c_72, .slice r0_touch_reads_a_72 r0_touch_reads_n_72 r0_touch_reads_c_72, .slice r0_touch_writes_a_72 r0_touch_writes_n_72 r0_touch_writes_c_72] 31, ow 81 2 encC okC (.slice r0_store_a_72 r0_store_n_72 r0_store_c_72) (poM M (⟨#[121]⟩ : ByteArray)).store, ow 9 1 encS okS (.slice r0_touch_reads_a_72 r0_touch_reads_n_72 r0_touch_reads_c_72) (poM M (⟨#[121]⟩ : ByteArray)).touch.reads, ow 9 1 encS okS (.slice r0_touch_writes_a_72 r0_touch_writes_n_72 r0_touch_writes_c_72) (poM M (⟨#[121]⟩ : ByteArray)).touch.writes, bx b19 [.slice sa sn sc, .slice ra rn rc, .slice ua un uc] 31] _ := At.frame S116.at' [] rfl m136
         obtain ⟨lo136_0, lp136_0, lq136_0⟩ := At.ownInv S136.at' ET_27.hk 0 rfl
         clear m136
         refine ⟨Sd.of (S116.trans S136) [5] rfl, ?_⟩
         refine g_take F137 rfl (i := 31) (listed' := #[true, true, true, true, true, true, true, true, true, true, true, true, true, true, true, true, true, true, true, true, true, true, true, true, true, true, true, true, true, true, true, true, true, true, true, true, true, false, false, false]) rfl (by kernel_rfl) (by kernel_rfl) (by kernel_rfl) (fun _ _ _ h => h) (Sd.of (S116.trans S136) [5] rfl) rfl (wanted_g F137 rfl rfl rfl rfl) rfl rfl (fun _ hz => (r_len Tryd.underlying27 rfl (F137.ev 67 rfl))) fun _ F138 => ?_
         refine g_take F138 rfl (i := 37) (listed' := #[true, true, true, true, true, true, true, true, true, true, true, true, true, true, true, true, true, true, true, true, true, true, true, true, true, true, true, true, true, true, true, true, true, true, true, true, true, true, false, false]) rfl (by kernel_rfl) (by kernel_rfl) (by kernel_rfl) (fun _ _ _ h => h) (Sd.of (S116.trans S136) [5] rfl) rfl (wanted_g F138 rfl rfl rfl rfl) rfl rfl (fun _ hz => (r_cmp (b := decide (((r0_n_136 : Nat) : Int) = (40 - ((r92 : Nat) : Int)))) (.inl rfl) rfl (F138.ev 68 rfl) (F138.ev 73 rfl) (dec_of (by omega)))) fun _ F139 => ?_
         rw [show (decide (((r0_n_136 : Nat) : Int) = (40 - ((r92 : Nat) : Int)))) = true from decide_eq_true (by simp only [List.length_drop] at *; omega)] at F139
         refine g_take F139 rfl (i := 38) (listed' := #[true, true, true, true, true, true, true, true, true, true, true, true, true, true, true, true, true, true, true, true, true, true, true, true, true, true, true, true, true, true, true, true, true, true, true, true, true, true, true, false]) rfl (by kernel_rfl) (by kernel_rfl) (by kernel_rfl) (fun _ _ _ h => h) (Sd.of (S116.trans S136) [5] rfl) rfl rfl rfl rfl (fun _ hz => (r_pick (b := true) rfl (F139.ev 60 rfl) (F139.ev 74 rfl))) fun _ F140 => ?_
         refine g_take F140 rfl (i := 39) (listed' := #[true, true, true, true, true, true, true, true, true, true, true, true, true, true, true, true, true, true, true, true, true, true, true, true, true, true, true, true, true, true, true, true, true, true, true, true, true, true, true, true]) rfl (by kernel_rfl) (by kernel_rfl) (by kernel_rfl) (fun _ _ _ h => h) (Sd.of (S116.trans S136) [5] rfl) rfl rfl rfl rfl (fun _ hz => (r_assign rfl (F140.ev 75 rfl))) fun _ F141 => ?_
         refine wpAnyH_done (by kernel_rfl) (x_normal ?_) _
         exact ⟨r0_a_136, r0_n_136, r0_c_136, F141.cut rfl, ((S93.trans (S116.trans S136)).pick [1, 2, 3, 4, 5, 0] rfl)⟩
       · rintro a142 w142 ⟨r0_a_136, r0_n_136, r0_c_136, F142, S142⟩
         refine x_normal (wp_ret ?_)
         refine x_done (v := .bool true) F142 (results_1 Tryd.results10 (.tmp (F142.ev 2 rfl))) ?_
         exact ⟨rfl, (Mv.pick (T7.trans (T16.trans (S17.trans (S19.trans (T23.trans (S26.trans (S72.trans (S77.trans (T82.trans (T89.trans S142)))))))))) [] rfl)⟩
end Go.Proofs.YtjiplnaceiofmaaDoor
namespace Go.Proofs.YtjiplnaceiofmaaDoor.outslimit
open Go.ChangeShapes Go.WideShapes Go.ChangeAt Go.RowKit
set_option maxRecDepth 100000
theorem cells_5 : Tryd.prog.cellsOf 5 = 1 := by kernel_rfl
theorem starE : "*" ++ "errors.errorString" = "*errors.errorString" := by decide
theorem rowE (u : TypeId) (h : Tryd.prog.typeName? 3 u = some "*errors.errorString") : u = 184 :=
  typeName_ptr_named (nm := "errors.errorString") (by rw [starE]; kernel_rfl) (by kernel_rfl) (by decide) u (by rw [starE]; exact h)
theorem cellsE : Tryd.prog.cellsOf 186 = 1 := by kernel_rfl
theorem cells_9 : Tryd.prog.cellsOf 9 = 1 := by kernel_rfl
theorem ground0 {W : World} (h : laidMet Tryd.prog [("math/bits.deBruijn32tab", Rows.laid_math_bits_deBruijn32tab), ("math/bits.deBruijn64tab", Rows.laid_math_bits_deBruijn64tab), ("internal/strconv.uint64pow10", Rows.laid_internal_strconv_uint64pow10), ("strconv.ErrRange", Rows.laid_strconv_ErrRange), ("strconv.ErrSyntax", Rows.laid_strconv_ErrSyntax), ("encoding/hex.ErrLength", Rows.laid_encoding_hex_ErrLength)] W) : Tb 0 (fun _ => True) W := by
  have e : (Rows.laid_internal_strconv_uint64pow10 : DataW Unit) = Lib.tabData .u64 Lib.pow10Tab := by kernel_rfl
  have h2 : laidMet Tryd.prog (("internal/strconv.uint64pow10", Lib.tabData .u64 Lib.pow10Tab) :: [("strconv.ErrRange", Rows.laid_strconv_ErrRange), ("strconv.ErrSyntax", Rows.laid_strconv_ErrSyntax), ("encoding/hex.ErrLength", Rows.laid_encoding_hex_ErrLength)]) W := by rw [← e]; exact h.tail.tail
  have h3 : Lib.TabIs Tryd.prog W "internal/strconv.uint64pow10" .u64 Lib.pow10Tab := Lib.tabIs_of_head laysItoa.m17 (t := 159) (e := 146) (n := 20) (by kernel_rfl) Tryd.underlying159 Tryd.underlying146 (by kernel_rfl) (by kernel_rfl) h2
  exact ⟨h3, fun g hg => by rw [List.mem_singleton.1 hg]; exact ⟨trivial, Lib.lt_of_cell (h3.cell laysItoa.m17 0 (by decide))⟩⟩
theorem ground1 {W : World} (h : laidMet Tryd.prog [("math/bits.deBruijn32tab", Rows.laid_math_bits_deBruijn32tab), ("math/bits.deBruijn64tab", Rows.laid_math_bits_deBruijn64tab), ("internal/strconv.uint64pow10", Rows.laid_internal_strconv_uint64pow10), ("strconv.ErrRange", Rows.laid_strconv_ErrRange), ("strconv.ErrSyntax", Rows.laid_strconv_ErrSyntax), ("encoding/hex.ErrLength", Rows.laid_encoding_hex_ErrLength)] W) : Tb 1 (fun _ => True) W := by
  have gS : Tryd.prog.globalNamed "strconv.ErrSyntax" = some (laysAtoi_ren.g 15) := by kernel_rfl
  obtain ⟨aS, sS, vS, -, -, -⟩ := laid_sentinel (h.tail.tail.tail.tail) gS (ti := 133) (by kernel_rfl) Tryd.underlying133 rowE Tryd.underlying184 Tryd.underlying186 rfl rfl Tryd.underlying9 cellsE cells_9
  have cS := var_cell gS vS
  have gR : Tryd.prog.globalNamed "strconv.ErrRange" = some (laysAtoi_ren.g 16) := by kernel_rfl
  obtain ⟨aR, sR, vR, -, -, -⟩ := laid_sentinel (h.tail.tail.tail) gR (ti := 133) (by kernel_rfl) Tryd.underlying133 rowE Tryd.underlying184 Tryd.underlying186 rfl rfl Tryd.underlying9 cellsE cells_9
  have cR := var_cell gR vR
  exact ⟨⟨⟨_, cS, .inr ⟨_, _, rfl⟩⟩, ⟨_, cR, .inr ⟨_, _, rfl⟩⟩⟩, fun g hg => by
    rcases List.mem_cons.1 hg with e | hg
    · rw [e]; exact ⟨trivial, Lib.lt_of_cell cS⟩
    · rw [List.mem_singleton.1 hg]; exact ⟨trivial, Lib.lt_of_cell cR⟩⟩
theorem ground2 {W : World} (h : laidMet Tryd.prog [("math/bits.deBruijn32tab", Rows.laid_math_bits_deBruijn32tab), ("math/bits.deBruijn64tab", Rows.laid_math_bits_deBruijn64tab), ("internal/strconv.uint64pow10", Rows.laid_internal_strconv_uint64pow10), ("strconv.ErrRange", Rows.laid_strconv_ErrRange), ("strconv.ErrSyntax", Rows.laid_strconv_ErrSyntax), ("encoding/hex.ErrLength", Rows.laid_encoding_hex_ErrLength)] W) : Tb 2 (fun _ => True) W := by
  have gH : Tryd.prog.globalNamed "encoding/hex.ErrLength" = some (laysUnhex_ren.g 0) := by kernel_rfl
  obtain ⟨aH, sH, vH, -, -, -⟩ := laid_sentinel (h.tail.tail.tail.tail.tail) gH (ti := 133) (by kernel_rfl) Tryd.underlying133 rowE Tryd.underlying184 Tryd.underlying186 rfl rfl Tryd.underlying9 cellsE cells_9
  have cH := var_cell gH vH
  exact ⟨⟨_, cH, .inr ⟨_, _, rfl⟩⟩, fun g hg => by rw [List.mem_singleton.1 hg]; exact ⟨trivial, Lib.lt_of_cell cH⟩⟩
theorem called (W : World) (args : Array Value) (h : ArgsRead Tryd.prog W Tryd.f10.params.toList args.toList) (t0 : Tb 0 (fun _ => True) W) (t1 : Tb 1 (fun _ => True) W) (t2 : Tb 2 (fun _ => True) W) : Calls Tryd.prog 10 args W fun e W' => e = .returned (.bool true) ∧ Bl W W' := by
  obtain ⟨hl, h⟩ := h
  rw [Tryd.params10] at hl h
  obtain ⟨v0, rfl⟩ : ∃ v0, args = #[v0] := by
    obtain ⟨l⟩ := args
    match l, hl with
    | [v0], _ => exact ⟨v0, rfl⟩
  obtain ⟨r0, o0⟩ := h 0 _ v0 rfl rfl
  have q0 := reads_one Tryd.underlying22 trivial o0 r0
  obtain ⟨a_0, n_0, c_0, l_0, e_0, v_0⟩ := rdA_of Tryd.underlying22 cells_5 (by decide) (u8_row Tryd.underlying5) q0
  cases e_0
  exact (laws_FnOutsLimit_c (w := W) (H := fun _ => True) (code := l_0) v_0 t0 t1 t2).mono fun e W' ⟨h1, h2⟩ => ⟨h1, h2.bl⟩
theorem own : ownKnob Tryd.prog.godebug = none := by kernel_rfl
theorem laidOut : laidOutB Tryd.prog = true := by kernel_rfl
theorem readable : ∀ t ∈ Tryd.f10.params.toList, Tryd.prog.readableRec t = true ∧ t < Tryd.prog.types.size := of_decide_eq_true (by kernel_rfl)
theorem door_met (os : Os) (args : Array Value) : laidMetH Tryd.prog [("math/bits.deBruijn32tab", Rows.laid_math_bits_deBruijn32tab), ("math/bits.deBruijn64tab", Rows.laid_math_bits_deBruijn64tab), ("internal/strconv.uint64pow10", Rows.laid_internal_strconv_uint64pow10), ("strconv.ErrRange", Rows.laid_strconv_ErrRange), ("strconv.ErrSyntax", Rows.laid_strconv_ErrSyntax), ("encoding/hex.ErrLength", Rows.laid_encoding_hex_ErrLength)] ((World.doorLaid Tryd.prog 81 os).forCall (fun _ _ => 0) ⟨#[], args, []⟩).memory :=
  laidMetH_of_parts3 (fuel := 8) (laidMet_of_run' 8 (by kernel_rfl) (by kernel_rfl)) (by kernel_rfl) (by kernel_rfl)
theorem lifted (os : Os) (started : os.Started) (H : Type) (enc : TypeId × Value → H) :
    ReturnsInHanded {} Tryd.checked os 10 .any (fun w args => (Rows.fnOutsLimitSpec.pre enc Tryd.prog Tryd.f10 [] false w args ∧ laidMetH Tryd.prog [("math/bits.deBruijn32tab", Rows.laid_math_bits_deBruijn32tab), ("math/bits.deBruijn64tab", Rows.laid_math_bits_deBruijn64tab), ("internal/strconv.uint64pow10", Rows.laid_internal_strconv_uint64pow10), ("strconv.ErrRange", Rows.laid_strconv_ErrRange), ("strconv.ErrSyntax", Rows.laid_strconv_ErrSyntax), ("encoding/hex.ErrLength", Rows.laid_encoding_hex_ErrLength)] w) ∧ sizedMet enc Tryd.prog Tryd.f10 (OpenSpec.ofChange Rows.fnOutsLimitSpec) false w args)
      (Rows.fnOutsLimitSpec.post enc Tryd.prog Tryd.f10 false true false false) := by
  refine returnsInHanded_of_change_and (C := Tryd.checked) (X := fun w _ => laidMetH Tryd.prog [("math/bits.deBruijn32tab", Rows.laid_math_bits_deBruijn32tab), ("math/bits.deBruijn64tab", Rows.laid_math_bits_deBruijn64tab), ("internal/strconv.uint64pow10", Rows.laid_internal_strconv_uint64pow10), ("strconv.ErrRange", Rows.laid_strconv_ErrRange), ("strconv.ErrSyntax", Rows.laid_strconv_ErrSyntax), ("encoding/hex.ErrLength", Rows.laid_encoding_hex_ErrLength)] w) (fun _ _ _ hh h => h.of_heap hh) own started (by kernel_rfl) Tryd.func10
    (ChangeSpec.witness_shaped (enc := enc) (C := Tryd.checked) (os := os) (X := fun w _ => laidMetH Tryd.prog [("math/bits.deBruijn32tab", Rows.laid_math_bits_deBruijn32tab), ("math/bits.deBruijn64tab", Rows.laid_math_bits_deBruijn64tab), ("internal/strconv.uint64pow10", Rows.laid_internal_strconv_uint64pow10), ("strconv.ErrRange", Rows.laid_strconv_ErrRange), ("strconv.ErrSyntax", Rows.laid_strconv_ErrSyntax), ("encoding/hex.ErrLength", Rows.laid_encoding_hex_ErrLength)] w) false (World.doorLaid Tryd.prog 81 os) #[.slice none 0 0] 8 rfl (World.shaped_of_RefB (by kernel_rfl) (by kernel_rfl)) (by kernel_rfl) (by kernel_rfl) (by kernel_rfl) (door_met os _)) ?_
  intro W base args ds gs before hval0 hW _ _ hL _
  have hval : ∀ (j : Nat) t v, Tryd.f10.params[j]? = some t → args[j]? = some v → Value.okWide Tryd.prog W .any 0 t v := hval0
  have hM : laidMet Tryd.prog [("math/bits.deBruijn32tab", Rows.laid_math_bits_deBruijn32tab), ("math/bits.deBruijn64tab", Rows.laid_math_bits_deBruijn64tab), ("internal/strconv.uint64pow10", Rows.laid_internal_strconv_uint64pow10), ("strconv.ErrRange", Rows.laid_strconv_ErrRange), ("strconv.ErrSyntax", Rows.laid_strconv_ErrSyntax), ("encoding/hex.ErrLength", Rows.laid_encoding_hex_ErrLength)] W := by
    have h := hL
    rw [MakeChecks.laidMetH_plain _ _ _ (by kernel_rfl)] at h
    exact h
  refine law_contractW laidOut readable Tryd.underlying4 rfl rfl ?_ H enc false true false false W args ds gs before (fun h => called W args h (ground0 hM) (ground1 hM) (ground2 hM)) hval hW
  intro H ds hd
  match ds, hd with
  | [a], _ => rfl
theorem bare : Rows.FnOutsLimitSaid :=
  OpenClaim.holds_of_wide 10 Tryd.f10 rfl rfl rfl rfl rfl rfl rfl ⟨rfl, rfl, rfl, rfl, rfl⟩ rfl rfl rfl rfl rfl (by kernel_rfl) Tryd.func10 (by kernel_rfl)
    (of_decide_eq_true (by kernel_rfl)) (by unfold Func.isWrapper; first | (rw [if_pos (by decide +kernel)]; kernel_rfl) | (rw [if_neg (by decide +kernel)]; exact ⟨rfl, rfl⟩))
    (fun os started H enc _ => lifted os started H enc)
theorem proved : Rows.FnOutsLimitCardSaid :=
  Claim7.holds_tied_plain_at .later [] [.data, .data, .data, .sentinel, .sentinel, .sentinel] true (true, "167e4d36e1bc60f6d5ed3739e3d5e09f6b5bab75b6f9b2c84f393379c264b4c4") true
    bare (fun _ h => by cases h) (by kernel_rfl) (fun _ h => by cases h) fnOutsLimit_row_tie rfl ⟨rfl, rfl⟩ (by kernel_rfl) rfl
    (fun f fn hf hfn => by
      obtain rfl : f = 10 := Option.some.inj ((show Tryd.prog.funcNamed "loop.example/g00974/laws.FnOutsLimit" = some 10 by kernel_rfl).symm.trans hf) |>.symm
      obtain rfl : fn = Tryd.f10 := (Option.some.inj (Tryd.func10.symm.trans hfn)).symm
      exact ⟨by kernel_rfl, fun j t ht => by
        rw [Tryd.params10] at ht
        have hm : t ∈ [22] := by simpa using Array.mem_of_getElem? ht
        have hall : ([22].all fun u => !Tryd.prog.wantsStandIn u) = true := by kernel_rfl
        exact (show Tryd.prog.wantsStandIn t = false by simpa using List.all_eq_true.1 hall t hm)⟩)
    (by kernel_rfl)
end Go.Proofs.YtjiplnaceiofmaaDoor.outslimit
