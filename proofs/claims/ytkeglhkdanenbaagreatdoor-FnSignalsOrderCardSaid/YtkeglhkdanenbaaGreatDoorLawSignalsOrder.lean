/-
  PROVED HERE: whatever the input, the statement laws.FnSignalsOrder returns true. Condition: the tables and errors of the library that the row lists stand as the program's text lays them (the card ties that).
-/
import Derived.Test.YtkeglhkdanenbaaGreatDoorGenDp
import Derived.Test.YtkeglhkdanenbaaGreatDoorGenSk
import Derived.Test.YtkeglhkdanenbaaGreatDoorLaw2
import Derived.Test.YtkeglhkdanenbaaGreatDoorLaw3
namespace Go.Proofs.YtkeglhkdanenbaaGreatDoor
open Go.ChangeShapes Go.WideShapes Go.ChangeAt Go.RowKit
set_option maxRecDepth 100000
set_option maxHeartbeats 1000000
theorem laws_FnSignalsOrder_c {w : World} {H : Nat → Prop} {code : List Nat} {code_a : Option Addr} {code_n code_c : Nat} (v_code : RdA 1 encB okB H w (.slice code_a code_n code_c) code) (tab0 : Tb 0 H w) (tab1 : Tb 1 H w) :
    Calls Tryz.prog 6 #[.slice code_a code_n code_c] w fun e w' => e = .returned (.bool true) ∧ Mv [] w [] w' := by
 have hb0 := bdC_base
 have V_v_code : RdA 1 encB okB (V H w []) w (.slice code_a code_n code_c) code := RdA.start v_code (fun _ _ => fps_nil _)
 obtain ⟨ln_code, le_code, mx_code, ni_code⟩ := RdA.inv v_code
 have V_tab0 : Tb 0 (V H w []) w := Tb.start tab0 (fun _ _ => fps_nil _)
 have V_tab1 : Tb 1 (V H w []) w := Tb.start tab1 (fun _ _ => fps_nil _)
 refine calls_enter 96 Tryz.func6 rfl Tryz.ntmps6 (Nat.le_of_ble_eq_true rfl) (fun _ F0i => ?_)
 have F0 : Fr 96 [(0, .slice code_a code_n code_c)] _ := F0i
 clear F0i
 refine wp_seq (wp_region_lit (l_op (f_val F0 rfl rfl (r_assign rfl rfl) rfl fun _ F1 => ?_)))
 have F2 : Fr 96 [(2, .bool false), (0, .slice code_a code_n code_c)] _ := F1.cut rfl
 clear F0 F1
 refine s_end (x_normal (wp_seq (wp_seq (wp_region_lit (l_op (f_mv F2 rfl rfl rfl rfl rfl fun _ F3 => ?_))))))
 refine l_op (f_call F3 CF_7 rfl rfl rfl rfl (lc (F3.ev 16 rfl) rfl) (laws_big_c (code := code) V_v_code) ?_)
 rintro _ w4 ⟨rfl, m4⟩
 refine ⟨_, rfl, fun _ F5 => ?_⟩
 have S4 := At.frame0 (At.nil w) m4
 clear m4
 have F6 : Fr 96 [(17, .bool (decide (code.length > 1048576))), (0, .slice code_a code_n code_c)] _ := F5.cut rfl
 clear F2 F3 F5
 have T7 : Mv _ _ [] _ := S4
 refine s_end (x_normal (x_cond (p := code.length > 1048576) (F6.ev 17 rfl) (fun h8 => ?_) (fun h8 => ?_)))
 · skip
   refine wp_seq (wp_region_lit (l_op (f_val F6 rfl rfl (r_assign rfl rfl) rfl fun _ F9 => ?_)))
   have F10 : Fr 96 [(2, .bool true)] _ := F9.cut rfl
   clear F6 F9
   refine s_end (x_normal (wp_ret (x_then_ret ?_)))
   refine x_done (v := .bool true) F10 (results_1 Tryz.results6 (.tmp (F10.ev 2 rfl))) ?_
   exact ⟨rfl, (Mv.pick T7 [] rfl)⟩
 · skip
   refine wp_skip (x_normal (wp_seq (wp_region_lit (l_op (f_mv F6 rfl rfl rfl rfl rfl fun _ F11 => ?_)))))
   refine l_op (f_call F11 CF_26 rfl rfl rfl rfl (lc (F11.ev 18 rfl) rfl) (spec_DrawPlaces_c (code := code) (RdA.mv (Nat.succ_pos _) V_v_code T7) (by first | assumption | omega | (simp <;> omega))) ?_)
   rintro _ w12 ⟨p_12, r0_a_12, r0_n_12, r0_c_12, rfl, m12, v12_0, q12_0, q12_1⟩
   refine ⟨_, rfl, fun _ F13 => ?_⟩
   have S12 := At.frame0 T7.at' m12
   have V12_0 := Rd.got0 T7.at' (T7.kp.size) v12_0 S12
   obtain ⟨ln12_0, le12_0, mx12_0, ni12_0⟩ := Rd.inv V12_0
   clear m12 v12_0
   refine l_op (f_as F13 rfl rfl rfl rfl rfl fun _ F14 => ?_)
   have F15 : Fr 96 [(3, .slice r0_a_12 r0_n_12 r0_c_12)] _ := F14.cut rfl
   clear F6 F11 F13 F14
   have T16 : Mv _ _ [] _ := S12
   refine s_end (x_normal (wp_seq (wp_region_lit (l_op (f_call F15 CF_24 rfl rfl rfl rfl rfl (laws_base_c (H := V H w [])  ) ?_)))))
   rintro _ w17 ⟨r0_store_a_17, r0_store_n_17, r0_store_c_17, r0_touch_reads_a_17, r0_touch_reads_n_17, r0_touch_reads_c_17, r0_touch_writes_a_17, r0_touch_writes_n_17, r0_touch_writes_c_17, rfl, m17, v17_0, v17_1, v17_2⟩
   refine ⟨_, rfl, fun _ F18 => ?_⟩
   have S17 := At.frame0 T16.at' m17
   have V17_0 := Rd.got0 T16.at' ((T7.trans T16).kp.size) v17_0 S17
   obtain ⟨ln17_0, le17_0, mx17_0, ni17_0⟩ := Rd.inv V17_0
   have V17_1 := Rd.got0 T16.at' ((T7.trans T16).kp.size) v17_1 S17
   obtain ⟨ln17_1, le17_1, mx17_1, ni17_1⟩ := Rd.inv V17_1
   have V17_2 := Rd.got0 T16.at' ((T7.trans T16).kp.size) v17_2 S17
   obtain ⟨ln17_2, le17_2, mx17_2, ni17_2⟩ := Rd.inv V17_2
   clear m17 v17_0 v17_1 v17_2
   refine l_op (f_call F18 CF_32 rfl rfl rfl rfl (lc (F18.ev 21 rfl) (lc rfl rfl)) (spec_SpawnProc_c (m := (⟨[], (⟨[], []⟩ : TouchD)⟩ : MachD)) (parent := 0) V17_0 V17_1 V17_2 (by first | assumption | exact ⟨by omega, by omega⟩ | (unfold i64ok at *; omega)) (by first | assumption | omega | (refine bdC.s ?_; (repeat (first | with_reducible refine bdC.look ?_ | with_reducible refine bdC.lay ?_ | with_reducible refine bdC.set ?_ | with_reducible refine bdC.spawn ?_ | with_reducible refine bdC.sg ?_ | with_reducible refine bdC.ts ?_)); exact bdC.le (by assumption) (by first | decide | omega)) | (refine bdC.r ?_; (repeat (first | with_reducible refine bdC.look ?_ | with_reducible refine bdC.lay ?_ | with_reducible refine bdC.set ?_ | with_reducible refine bdC.spawn ?_ | with_reducible refine bdC.sg ?_ | with_reducible refine bdC.ts ?_)); exact bdC.le (by assumption) (by first | decide | omega)) | (refine bdC.w ?_; (repeat (first | with_reducible refine bdC.look ?_ | with_reducible refine bdC.lay ?_ | with_reducible refine bdC.set ?_ | with_reducible refine bdC.spawn ?_ | with_reducible refine bdC.sg ?_ | with_reducible refine bdC.ts ?_)); exact bdC.le (by assumption) (by first | decide | omega)) | ((repeat (first | with_reducible refine bdC.look ?_ | with_reducible refine bdC.lay ?_ | with_reducible refine bdC.set ?_ | with_reducible refine bdC.spawn ?_ | with_reducible refine bdC.sg ?_ | with_reducible refine bdC.ts ?_)); exact bdC.le (by assumption) (by first | decide | omega)) | decide | exact Nat.le_trans (keyNum_size _ _ (by assumption)) (by decide) | exact Nat.le_trans (keyNum_size _ _ ⟨by omega, by omega⟩) (by decide))) ?_)
   rintro _ w19 ⟨r0_store_a_19, r0_store_n_19, r0_store_c_19, r0_touch_reads_a_19, r0_touch_reads_n_19, r0_touch_reads_c_19, r0_touch_writes_a_19, r0_touch_writes_n_19, r0_touch_writes_c_19, rfl, m19, v19_0, v19_1, v19_2⟩
   refine ⟨_, rfl, fun _ F20 => ?_⟩
   have S19 := At.frame0 S17.at' m19
   have V19_0 := Rd.got0 S17.at' ((T7.trans (T16.trans S17)).kp.size) v19_0 S19
   obtain ⟨ln19_0, le19_0, mx19_0, ni19_0⟩ := Rd.inv V19_0
   have V19_1 := Rd.got0 S17.at' ((T7.trans (T16.trans S17)).kp.size) v19_1 S19
   obtain ⟨ln19_1, le19_1, mx19_1, ni19_1⟩ := Rd.inv V19_1
   have V19_2 := Rd.got0 S17.at' ((T7.trans (T16.trans S17)).kp.size) v19_2 S19
   obtain ⟨ln19_2, le19_2, mx19_2, ni19_2⟩ := Rd.inv V19_2
   clear m19 v19_0 v19_1 v19_2
   refine l_op (f_mv F20 rfl rfl rfl rfl rfl fun _ F21 => ?_)
   refine l_op (f_val (v := .agg #[.slice r0_store_a_19 r0_store_n_19 r0_store_c_19, .slice r0_touch_reads_a_19 r0_touch_reads_n_19 r0_touch_reads_c_19, .slice r0_touch_writes_a_19 r0_touch_writes_n_19 r0_touch_writes_c_19]) F21 rfl rfl (r_extract rfl (F21.ev 20 rfl) rfl) rfl fun _ F22 => ?_)
   refine l_op (f_val (v := .int .i64 ((spawnI (⟨[], (⟨[], []⟩ : TouchD)⟩ : MachD) : Nat) : Int)) F22 rfl rfl (r_extract rfl (F22.ev 20 rfl) rfl) rfl fun _ F23 => ?_)
   refine l_op (f_val (v := .int .i64 (spawnC (⟨[], (⟨[], []⟩ : TouchD)⟩ : MachD))) F23 rfl rfl (r_extract rfl (F23.ev 20 rfl) rfl) rfl fun _ F24 => ?_)
   refine l_op (f_alloc F24 S19.at' ZI_29 rfl rfl rfl rfl rfl fun b25 _ w25 F26 S25 => ?_)
   refine l_op (s_store S25.at' 0 TI_29 rfl rfl rfl rfl rfl (F26.ev 4 rfl) (F26.ev 23 rfl) rfl rfl rfl rfl rfl fun w27 S27 => ?_)
   refine l_op (f_as F26 rfl rfl rfl rfl rfl fun _ F28 => ?_)
   rw [show ((spawnI (⟨[], (⟨[], []⟩ : TouchD)⟩ : MachD) : Nat) : Int) = 1 from by rw [sst_base.1]; rfl] at F28
   refine l_op (f_as F28 rfl rfl rfl rfl rfl fun _ F29 => ?_)
   have F30 : Fr 96 [(6, .int .i64 (spawnC (⟨[], (⟨[], []⟩ : TouchD)⟩ : MachD))), (5, .int .i64 1), (4, .pointer (some ⟨b25, 0, none⟩)), (3, .slice r0_a_12 r0_n_12 r0_c_12)] _ := F29.cut rfl
   clear F15 F18 F20 F21 F22 F23 F24 F26 F28 F29
   have T31 : Mv _ _ [bx b25 [.slice r0_store_a_19 r0_store_n_19 r0_store_c_19, .slice r0_touch_reads_a_19 r0_touch_reads_n_19 r0_touch_reads_c_19, .slice r0_touch_writes_a_19 r0_touch_writes_n_19 r0_touch_writes_c_19] 29] _ := S27
   refine s_end (x_normal (wp_seq (wp_region_lit (l_op (f_buildSl (ok := okI) (vs := []) F30 T31.at' (([] : List Int)) ET_47 rfl rfl rfl rfl rfl rfl rfl rfl rfl (by simp) fun b32 _ w32 F33 S32 => ?_)))))
   refine l_op (f_as F33 rfl rfl rfl rfl rfl fun _ F34 => ?_)
   have F35 : Fr 96 [(7, .slice (some ⟨b32, 0, none⟩) 0 0), (5, .int .i64 1), (4, .pointer (some ⟨b25, 0, none⟩)), (3, .slice r0_a_12 r0_n_12 r0_c_12)] _ := F34.cut rfl
   clear F30 F33 F34
   have T36 : Mv _ _ [ow 3 1 encI okI (.slice (some ⟨b32, 0, none⟩) 0 0) ([] : List Int), bx b25 [.slice r0_store_a_19 r0_store_n_19 r0_store_c_19, .slice r0_touch_reads_a_19 r0_touch_reads_n_19 r0_touch_reads_c_19, .slice r0_touch_writes_a_19 r0_touch_writes_n_19 r0_touch_writes_c_19] 29] _ := S32
   refine s_end (x_normal (wp_seq (wp_seq (wp_region_lit (l_op (f_val F35 rfl rfl (r_assign rfl rfl) rfl fun _ F37 => ?_))))))
   have F38 : Fr 96 [(8, .int .i64 0), (7, .slice (some ⟨b32, 0, none⟩) 0 0), (5, .int .i64 1), (4, .pointer (some ⟨b25, 0, none⟩)), (3, .slice r0_a_12 r0_n_12 r0_c_12)] _ := F37.cut rfl
   clear F35 F37
   refine s_end (x_normal (wp_block ?_))
   refine x_loop (fun (k : Nat) aZ wZ => ∃ (M : MachD), ∃ (W : List Nat), ∃ (D : List Int), ∃ (oa : Option Addr), ∃ (on : Nat), ∃ (oc : Nat), ∃ (sa : Option Addr), ∃ (sn : Nat), ∃ (sc : Nat), ∃ (ra : Option Addr), ∃ (rn : Nat), ∃ (rc : Nat), ∃ (ua : Option Addr), ∃ (un : Nat), ∃ (uc : Nat), Fr 96 [(8, .int .i64 ((k : Nat) : Int)), (7, .slice oa on oc), (5, .int .i64 1), (4, .pointer (some ⟨b25, 0, none⟩)), (3, .slice r0_a_12 r0_n_12 r0_c_12)] aZ ∧ Mv [ow 3 1 encI okI (.slice (some ⟨b32, 0, none⟩) 0 0) ([] : List Int), bx b25 [.slice r0_store_a_19 r0_store_n_19 r0_store_c_19, .slice r0_touch_reads_a_19 r0_touch_reads_n_19 r0_touch_reads_c_19, .slice r0_touch_writes_a_19 r0_touch_writes_n_19 r0_touch_writes_c_19] 29] w32 [ow 3 1 encI okI (.slice oa on oc) D, bx b25 [.slice sa sn sc, .slice ra rn rc, .slice ua un uc] 29] wZ ∧ Rd 2 encC okC (V H w [ow 3 1 encI okI (.slice oa on oc) D, bx b25 [.slice sa sn sc, .slice ra rn rc, .slice ua un uc] 29]) wZ (.slice sa sn sc) M.store ∧ Rd 1 encS okS (V H w [ow 3 1 encI okI (.slice oa on oc) D, bx b25 [.slice sa sn sc, .slice ra rn rc, .slice ua un uc] 29]) wZ (.slice ra rn rc) M.touch.reads ∧ Rd 1 encS okS (V H w [ow 3 1 encI okI (.slice oa on oc) D, bx b25 [.slice sa sn sc, .slice ra rn rc, .slice ua un uc] 29]) wZ (.slice ua un uc) M.touch.writes ∧ (sst W 0 M) ∧ (W.length = min k 4) ∧ (k ≤ 6) ∧ (bdC (20 * k + 20) M) ∧ (D = wL W) ∧ (on = D.length)) (fun (k : Nat) => 6 - k) (0) ?_ ?_
   · exact ⟨(spawnM (⟨[], (⟨[], []⟩ : TouchD)⟩ : MachD) 0), [], ([] : List Int), (some ⟨b32, 0, none⟩), 0, 0, r0_store_a_19, r0_store_n_19, r0_store_c_19, r0_touch_reads_a_19, r0_touch_reads_n_19, r0_touch_reads_c_19, r0_touch_writes_a_19, r0_touch_writes_n_19, r0_touch_writes_c_19, F38.cut rfl, (Mv.refl T36.at'), (Rd.mv (Nat.succ_pos _) V19_0 (S25.trans (T31.trans T36))), (Rd.mv (Nat.succ_pos _) V19_1 (S25.trans (T31.trans T36))), (Rd.mv (Nat.succ_pos _) V19_2 (S25.trans (T31.trans T36))), sst_base.2, by rfl, by omega, bdC.le (bdC.spawn bdC_base) (by decide), rfl, rfl⟩
   · rintro k a39 w39 ⟨M, W, D, oa, on, oc, sa, sn, sc, ra, rn, rc, ua, un, uc, F39, S39, W39_0, W39_1, W39_2, hk_0, hk_1, hk_2, hk_3, hk_4, hk_5⟩
     obtain ⟨lv39_0, lw39_0, lx39_0, ly39_0⟩ := Rd.inv W39_0
     obtain ⟨lv39_1, lw39_1, lx39_1, ly39_1⟩ := Rd.inv W39_1
     obtain ⟨lv39_2, lw39_2, lx39_2, ly39_2⟩ := Rd.inv W39_2
     have hwl : D.length = W.length := by rw [hk_4, wL_length]
     refine wp_seq (wp_seq (wp_region_lit (l_op (f_mv F39 rfl rfl rfl rfl rfl fun _ F40 => ?_))))
     refine l_op (f_val F40 rfl rfl (r_cmp (b := decide (k < 6)) (.inr (.inr (.inl rfl))) rfl (F40.ev 27 rfl) rfl (dec_of (by omega))) rfl fun _ F41 => ?_)
     have F42 : Fr 96 [(28, .bool (decide (k < 6))), (8, .int .i64 ((k : Nat) : Int)), (7, .slice oa on oc), (5, .int .i64 1), (4, .pointer (some ⟨b25, 0, none⟩)), (3, .slice r0_a_12 r0_n_12 r0_c_12)] _ := F41.cut rfl
     clear F39 F40 F41
     refine s_end (x_normal (x_cond (p := k < 6) (F42.ev 28 rfl) (fun h43 => ?_) (fun h43 => ?_)))
     · skip
       refine wp_skip (x_normal (wp_seq (wp_block (wp_seq (wp_region_lit (l_op (f_val F42 rfl rfl (r_assign rfl rfl) rfl fun _ F44 => ?_)))))))
       have F45 : Fr 96 [(9, .int .i64 0), (8, .int .i64 ((k : Nat) : Int)), (7, .slice oa on oc), (5, .int .i64 1), (4, .pointer (some ⟨b25, 0, none⟩)), (3, .slice r0_a_12 r0_n_12 r0_c_12)] _ := F44.cut rfl
       clear F42 F44
       refine s_end (x_normal (wp_seq ?_))
       obtain ⟨x1, hx1, okx1⟩ := Rd.elem (Rd.mv (Nat.succ_pos _) V12_0 (S17.trans (S19.trans (S25.trans (T31.trans (T36.trans S39)))))) k (by first | assumption | omega)
       have pb47 := pOk_at (by assumption) hx1
       obtain ⟨r47, hr47, lr47⟩ := rem_nat (c := 31) pb47 (by decide)
       refine x_draw (fun aZ wZ => ∃ (r0_store_a_58 : Option Addr), ∃ (r0_store_n_58 : Nat), ∃ (r0_store_c_58 : Nat), ∃ (r0_touch_reads_a_58 : Option Addr), ∃ (r0_touch_reads_n_58 : Nat), ∃ (r0_touch_reads_c_58 : Nat), ∃ (r0_touch_writes_a_58 : Option Addr), ∃ (r0_touch_writes_n_58 : Nat), ∃ (r0_touch_writes_c_58 : Nat), Fr 96 [(3, .slice r0_a_12 r0_n_12 r0_c_12), (4, .pointer (some ⟨b25, 0, none⟩)), (5, .int .i64 1), (7, .slice oa on oc), (8, .int .i64 ((k : Nat) : Int)), (9, .int .i64 (sgC M 1 ((1 + r47 : Nat) : Int)))] aZ ∧ Mv [ow 3 1 encI okI (.slice oa on oc) D, bx b25 [.slice sa sn sc, .slice ra rn rc, .slice ua un uc] 29] w39 [ow 3 1 encI okI (.slice oa on oc) D, bx b25 [.slice r0_store_a_58 r0_store_n_58 r0_store_c_58, .slice r0_touch_reads_a_58 r0_touch_reads_n_58 r0_touch_reads_c_58, .slice r0_touch_writes_a_58 r0_touch_writes_n_58 r0_touch_writes_c_58] 29, ow 74 2 encC okC (.slice r0_store_a_58 r0_store_n_58 r0_store_c_58) (sgM M 1 ((1 + r47 : Nat) : Int)).store, ow 9 1 encS okS (.slice r0_touch_reads_a_58 r0_touch_reads_n_58 r0_touch_reads_c_58) (sgM M 1 ((1 + r47 : Nat) : Int)).touch.reads, ow 9 1 encS okS (.slice r0_touch_writes_a_58 r0_touch_writes_n_58 r0_touch_writes_c_58) (sgM M 1 ((1 + r47 : Nat) : Int)).touch.writes] wZ) [] mixed S39.at' (listed := #[false, false, false, false, false, false, false, false, false, false, false, false, false, false]) rfl (fun w48 S48 => ?_) [] rfl ?_
       · skip
         refine g_take F45 rfl (i := 1) (listed' := #[false, true, false, false, false, false, false, false, false, false, false, false, false, false]) rfl (by kernel_rfl) (by kernel_rfl) (by kernel_rfl) (fun _ _ _ h => h) (Sd.of (Mv.refl S48.at') [] rfl) rfl rfl rfl rfl (fun _ hz => (r_move rfl (F45.ev 5 rfl))) fun _ F49 => ?_
         refine g_take F49 rfl (i := 2) (listed' := #[false, true, true, false, false, false, false, false, false, false, false, false, false, false]) rfl (by kernel_rfl) (by kernel_rfl) (by kernel_rfl) (fun _ _ _ h => h) (Sd.of (Mv.refl S48.at') [] rfl) rfl rfl rfl rfl (fun _ hz => (r_move rfl (F49.ev 3 rfl))) fun _ F50 => ?_
         refine g_take F50 rfl (i := 3) (listed' := #[false, true, true, true, false, false, false, false, false, false, false, false, false, false]) rfl (by kernel_rfl) (by kernel_rfl) (by kernel_rfl) (fun _ _ _ h => h) (Sd.of (Mv.refl S48.at') [] rfl) rfl rfl rfl rfl (fun _ hz => (r_move rfl (F50.ev 8 rfl))) fun _ F51 => ?_
         obtain ⟨B52, O52, y52, ad52, hy52, oky52, ln52, cl52⟩ := Rd.atK (Nat.succ_pos _) (Rd.mv (Nat.succ_pos _) V12_0 (S17.trans (S19.trans (S25.trans (T31.trans (T36.trans (S39.trans S48))))))) k (by first | assumption | omega)
         clear ln52
         obtain rfl := Option.some.inj (hx1.symm.trans hy52)
         clear hy52 oky52
         refine g_take F51 rfl (i := 4) (listed' := #[false, true, true, true, true, false, false, false, false, false, false, false, false, false]) rfl (by kernel_rfl) (by kernel_rfl) (by kernel_rfl) (fun _ _ _ h => h) (Sd.of (Mv.refl S48.at') [] rfl) rfl rfl rfl rfl (fun _ hz => (r_indexAddr (i := k) ET_47 rfl ((F51.ev 34 rfl).trans (by rw [ad52])) (F51.ev 35 rfl) (by omega) (by first | assumption | omega))) fun _ F53 => ?_
         refine g_take (v := .int .i64 x1) F53 rfl (i := 5) (listed' := #[false, true, true, true, true, true, false, false, false, false, false, false, false, false]) rfl (by kernel_rfl) (by kernel_rfl) (by kernel_rfl) (fun _ _ _ h => h) (Sd.of (Mv.refl S48.at') [] rfl) rfl rfl rfl rfl (fun _ hz => (r_load (cs := [.int .i64 x1]) TI_3 rfl (F53.ev 36 rfl) rfl (fun _ => rfl) (elem_sub (f := 0) (cl52 _ hz.kp) [.int .i64 x1] rfl))) fun _ F54 => ?_
         refine g_take F54 rfl (i := 6) (listed' := #[false, true, true, true, true, true, true, false, false, false, false, false, false, false]) rfl (by kernel_rfl) (by kernel_rfl) (by kernel_rfl) (fun _ _ _ h => h) (Sd.of (Mv.refl S48.at') [] rfl) rfl rfl rfl rfl (fun _ hz => ((r_remI (c := 31) rfl (by decide) rfl (F54.ev 37 rfl) rfl).trans (by rw [hr47]))) fun _ F55 => ?_
         refine g_take F55 rfl (i := 7) (listed' := #[false, true, true, true, true, true, true, true, false, false, false, false, false, false]) rfl (by kernel_rfl) (by kernel_rfl) (by kernel_rfl) (fun _ _ _ h => h) (Sd.of (Mv.refl S48.at') [] rfl) rfl rfl rfl rfl (fun _ hz => (r_add (z := ((1 + r47 : Nat) : Int)) rfl rfl (F55.ev 38 rfl) (by first | rfl | omega) ⟨by first | omega | (unfold i64ok at *; omega), by first | omega | (unfold i64ok at *; omega)⟩)) fun _ F56 => ?_
         refine d_one (i := 0) (listed' := #[true, true, true, true, true, true, true, true, false, false, false, false, false, false]) rfl (by kernel_rfl) rfl rfl ?_
         refine f_val (v := .agg #[.slice sa sn sc, .slice ra rn rc, .slice ua un uc]) F56 rfl rfl (r_loadB S48.at' 1 TI_29 rfl rfl (F56.ev 4 rfl) rfl rfl (fun h => nomatch h) rfl) rfl fun _ F57 => ?_
         refine ⟨Sd.of (Mv.refl S48.at') [] rfl, ?_⟩
         refine d_one (i := 8) (listed' := #[true, true, true, true, true, true, true, true, true, false, false, false, false, false]) rfl (by kernel_rfl) rfl rfl ?_
         refine f_call F57 CF_33 rfl rfl rfl rfl (lc (F57.ev 32 rfl) (lc (F57.ev 33 rfl) (lc (F57.ev 39 rfl) rfl))) (impl_SendSignal_c (m := M) (id := 1) (n := ((1 + r47 : Nat) : Int)) (Rd.mv (Nat.succ_pos _) W39_0 S48) (Rd.mv (Nat.succ_pos _) W39_1 S48) (Rd.mv (Nat.succ_pos _) W39_2 S48) (by first | assumption | exact ⟨by omega, by omega⟩ | (unfold i64ok at *; omega)) (by first | assumption | exact ⟨by omega, by omega⟩ | (unfold i64ok at *; omega)) (Tb.mv V_tab0 (T7.trans (T16.trans (S17.trans (S19.trans (S25.trans (T31.trans (T36.trans (S39.trans S48))))))))) (Tb.mv V_tab1 (T7.trans (T16.trans (S17.trans (S19.trans (S25.trans (T31.trans (T36.trans (S39.trans S48))))))))) (by first | assumption | omega | (refine bdC.s ?_; (repeat (first | with_reducible refine bdC.look ?_ | with_reducible refine bdC.lay ?_ | with_reducible refine bdC.set ?_ | with_reducible refine bdC.spawn ?_ | with_reducible refine bdC.sg ?_ | with_reducible refine bdC.ts ?_)); exact bdC.le (by assumption) (by first | decide | omega)) | (refine bdC.r ?_; (repeat (first | with_reducible refine bdC.look ?_ | with_reducible refine bdC.lay ?_ | with_reducible refine bdC.set ?_ | with_reducible refine bdC.spawn ?_ | with_reducible refine bdC.sg ?_ | with_reducible refine bdC.ts ?_)); exact bdC.le (by assumption) (by first | decide | omega)) | (refine bdC.w ?_; (repeat (first | with_reducible refine bdC.look ?_ | with_reducible refine bdC.lay ?_ | with_reducible refine bdC.set ?_ | with_reducible refine bdC.spawn ?_ | with_reducible refine bdC.sg ?_ | with_reducible refine bdC.ts ?_)); exact bdC.le (by assumption) (by first | decide | omega)) | ((repeat (first | with_reducible refine bdC.look ?_ | with_reducible refine bdC.lay ?_ | with_reducible refine bdC.set ?_ | with_reducible refine bdC.spawn ?_ | with_reducible refine bdC.sg ?_ | with_reducible refine bdC.ts ?_)); exact bdC.le (by assumption) (by first | decide | omega)) | decide | exact Nat.le_trans (keyNum_size _ _ (by assumption)) (by decide) | exact Nat.le_trans (keyNum_size _ _ ⟨by omega, by omega⟩) (by decide))) ?_
         rintro _ w58 ⟨r0_store_a_58, r0_store_n_58, r0_store_c_58, r0_touch_reads_a_58, r0_touch_reads_n_58, r0_touch_reads_c_58, r0_touch_writes_a_58, r0_touch_writes_n_58, r0_touch_writes_c_58, rfl, m58⟩
         refine ⟨_, rfl, fun _ F59 => ?_⟩
         have S58 : Mv _ _ [ow 74 2 encC okC (.slice r0_store_a_58 r0_store_n_58 r0_store_c_58) (sgM M 1 ((1 + r47 : Nat) : Int)).store, ow 9 1 encS okS (.slice r0_touch_reads_a_58 r0_touch_reads_n_58 r0_touch_reads_c_58) (sgM M 1 ((1 + r47 : Nat) : Int)).touch.reads, ow 9 1 encS okS (.slice r0_touch_writes_a_58 r0_touch_writes_n_58 r0_touch_writes_c_58) (sgM M 1 ((1 + r47 : Nat) : Int)).touch.writes, ow 3 1 encI okI (.slice oa on oc) D, bx b25 [.slice sa sn sc, .slice ra rn rc, .slice ua un uc] 29] _ := At.frame S48.at' [] rfl m58
         obtain ⟨lo58_0, lp58_0, lq58_0⟩ := At.ownInv S58.at' ET_24.hk 0 rfl
         obtain ⟨lo58_1, lp58_1, lq58_1⟩ := At.ownInv S58.at' ET_25.hk 1 rfl
         obtain ⟨lo58_2, lp58_2, lq58_2⟩ := At.ownInv S58.at' ET_25.hk 2 rfl
         clear m58
         refine ⟨Sd.of S58 [] rfl, ?_⟩
         refine g_take F59 rfl (i := 9) (listed' := #[true, true, true, true, true, true, true, true, true, true, false, false, false, false]) rfl (by kernel_rfl) (by kernel_rfl) (by kernel_rfl) (fun _ _ _ h => h) (Sd.of S58 [] rfl) rfl rfl rfl rfl (fun _ hz => (r_move rfl (F59.ev 40 rfl))) fun _ F60 => ?_
         refine g_take (v := .agg #[.slice r0_store_a_58 r0_store_n_58 r0_store_c_58, .slice r0_touch_reads_a_58 r0_touch_reads_n_58 r0_touch_reads_c_58, .slice r0_touch_writes_a_58 r0_touch_writes_n_58 r0_touch_writes_c_58]) F60 rfl (i := 10) (listed' := #[true, true, true, true, true, true, true, true, true, true, true, false, false, false]) rfl (by kernel_rfl) (by kernel_rfl) (by kernel_rfl) (fun _ _ _ h => h) (Sd.of S58 [] rfl) rfl rfl rfl rfl (fun _ hz => (r_extract rfl (F60.ev 31 rfl) rfl)) fun _ F61 => ?_
         refine g_take (v := .int .i64 (sgC M 1 ((1 + r47 : Nat) : Int))) F61 rfl (i := 11) (listed' := #[true, true, true, true, true, true, true, true, true, true, true, true, false, false]) rfl (by kernel_rfl) (by kernel_rfl) (by kernel_rfl) (fun _ _ _ h => h) (Sd.of S58 [] rfl) rfl rfl rfl rfl (fun _ hz => (r_extract rfl (F61.ev 31 rfl) rfl)) fun _ F62 => ?_
         refine d_one (i := 12) (listed' := #[true, true, true, true, true, true, true, true, true, true, true, true, true, false]) rfl (by kernel_rfl) rfl rfl ?_
         refine s_store S58.at' 4 TI_29 rfl rfl rfl rfl rfl (F62.ev 4 rfl) (F62.ev 41 rfl) rfl rfl rfl rfl rfl fun w63 S63 => ?_
         refine ⟨Sd.of (S58.trans S63) [] rfl, ?_⟩
         refine g_take F62 rfl (i := 13) (listed' := #[true, true, true, true, true, true, true, true, true, true, true, true, true, true]) rfl (by kernel_rfl) (by kernel_rfl) (by kernel_rfl) (fun _ _ _ h => h) (Sd.of (S58.trans S63) [] rfl) rfl rfl rfl rfl (fun _ hz => (r_assign rfl (F62.ev 42 rfl))) fun _ F64 => ?_
         refine wpAnyH_done (by kernel_rfl) (x_normal ?_) _
         exact ⟨r0_store_a_58, r0_store_n_58, r0_store_c_58, r0_touch_reads_a_58, r0_touch_reads_n_58, r0_touch_reads_c_58, r0_touch_writes_a_58, r0_touch_writes_n_58, r0_touch_writes_c_58, F64.cut rfl, ((S48.trans (S58.trans S63)).pick [4, 0, 1, 2, 3] rfl)⟩
       · rintro a65 w65 ⟨r0_store_a_58, r0_store_n_58, r0_store_c_58, r0_touch_reads_a_58, r0_touch_reads_n_58, r0_touch_reads_c_58, r0_touch_writes_a_58, r0_touch_writes_n_58, r0_touch_writes_c_58, F65, S65⟩
         refine x_normal (wp_seq (wp_seq (wp_region_lit (l_op (f_mv F65 rfl rfl rfl rfl rfl fun _ F66 => ?_)))))
         refine l_op (f_val F66 rfl rfl (r_cmp (b := decide ((sgC M 1 ((1 + r47 : Nat) : Int)) = 0)) (.inl rfl) rfl (F66.ev 43 rfl) rfl (dec_of (by omega))) rfl fun _ F67 => ?_)
         refine l_op (f_mv F67 rfl rfl rfl rfl rfl fun _ F68 => ?_)
         refine l_op (f_val F68 rfl rfl (r_cmp (b := decide (k < 4)) (.inr (.inr (.inl rfl))) rfl (F68.ev 45 rfl) rfl (dec_of (by omega))) rfl fun _ F69 => ?_)
         refine l_op (f_val F69 rfl rfl (r_cmpb (b := false) Tryz.underlying4 (.inr rfl) rfl (F69.ev 44 rfl) (F69.ev 46 rfl) (cmpb_ne (show (decide ((sgC M 1 ((1 + r47 : Nat) : Int)) = 0)) = (decide (k < 4)) from sg_iff hk_0 (by omega) hk_1))) rfl fun _ F70 => ?_)
         have F71 : Fr 96 [(47, .bool false), (3, .slice r0_a_12 r0_n_12 r0_c_12), (4, .pointer (some ⟨b25, 0, none⟩)), (5, .int .i64 1), (7, .slice oa on oc), (8, .int .i64 ((k : Nat) : Int)), (9, .int .i64 (sgC M 1 ((1 + r47 : Nat) : Int)))] _ := F70.cut rfl
         clear F65 F66 F67 F68 F69 F70
         refine s_end (x_normal (wp_cond_false (F71.ev 47 rfl) (wp_skip (x_normal (wp_seq (wp_region_lit (l_op (f_mv F71 rfl rfl rfl rfl rfl fun _ F72 => ?_))))))))
         refine l_op (f_val F72 rfl rfl (r_cmp (b := decide ((sgC M 1 ((1 + r47 : Nat) : Int)) = 0)) (.inl rfl) rfl (F72.ev 48 rfl) rfl (dec_of (by omega))) rfl fun _ F73 => ?_)
         have F74 : Fr 96 [(49, .bool (decide ((sgC M 1 ((1 + r47 : Nat) : Int)) = 0))), (3, .slice r0_a_12 r0_n_12 r0_c_12), (4, .pointer (some ⟨b25, 0, none⟩)), (5, .int .i64 1), (7, .slice oa on oc), (8, .int .i64 ((k : Nat) : Int))] _ := F73.cut rfl
         clear F71 F72 F73
         refine s_end (x_normal (x_cond (p := (sgC M 1 ((1 + r47 : Nat) : Int)) = 0) (F74.ev 49 rfl) (fun h75 => ?_) (fun h75 => ?_)))
         · skip
           refine wp_region_lit (l_op (f_mv F74 rfl rfl rfl rfl rfl fun _ F76 => ?_))
           refine l_op (f_mv F76 rfl rfl rfl rfl rfl fun _ F77 => ?_)
           refine l_op (f_mv F77 rfl rfl rfl rfl rfl fun _ F78 => ?_)
           obtain ⟨B79, O79, y79, ad79, hy79, oky79, ln79, cl79⟩ := Rd.at (Rd.mv (Nat.succ_pos _) V12_0 (S17.trans (S19.trans (S25.trans (T31.trans (T36.trans (S39.trans S65))))))) k (by first | assumption | omega)
           clear ln79
           obtain rfl := Option.some.inj (hx1.symm.trans hy79)
           clear hy79 oky79
           refine l_op (f_val F78 rfl rfl (r_indexAddr (i := k) ET_47 rfl ((F78.ev 51 rfl).trans (by rw [ad79])) (F78.ev 52 rfl) (by omega) (by first | assumption | omega)) rfl fun _ F80 => ?_)
           refine l_op (f_val (v := .int .i64 x1) F80 rfl rfl (r_load (cs := [.int .i64 x1]) TI_3 rfl (F80.ev 53 rfl) rfl (fun _ => rfl) (elem_sub (f := 0) cl79 [.int .i64 x1] rfl)) rfl fun _ F81 => ?_)
           refine l_op (f_val F81 rfl rfl ((r_remI (c := 31) rfl (by decide) rfl (F81.ev 54 rfl) rfl).trans (by rw [hr47])) rfl fun _ F82 => ?_)
           refine l_op (f_val F82 rfl rfl (r_add (z := ((1 + r47 : Nat) : Int)) rfl rfl (F82.ev 55 rfl) (by first | rfl | omega) ⟨by first | omega | (unfold i64ok at *; omega), by first | omega | (unfold i64ok at *; omega)⟩) rfl fun _ F83 => ?_)
           refine l_op (f_buildSl (ok := okI) (vs := [.int .i64 ((1 + r47 : Nat) : Int)]) F83 S65.at' ([((1 + r47 : Nat) : Int)]) ET_47 rfl rfl rfl rfl rfl rfl (lc (pr2 (F83.ev 56 rfl)) rfl) rfl rfl (fun x hx => (List.mem_singleton.1 hx) ▸ ⟨by omega, by omega⟩) fun b84 _ w84 F85 S84 => ?_)
           refine l_op (f_app (news := [((1 + r47 : Nat) : Int)]) F85 S84.at' 1 ET_47 rfl rfl rfl rfl rfl rfl (F85.ev 50 rfl) (F85.ev 57 rfl) ((At.rd S84.at' ET_47.hk 0 rfl)).1 (by ((repeat (first | rw [List.length_append] | rw [List.length_cons] | rw [List.length_nil] | rw [List.length_take] | rw [List.length_drop])) <;> omega)) fun A86 N86 C86 _ w86 F87 S86 l86 => ?_)
           have S88 := At.drop S86.at' 1
           refine l_op (f_as F87 rfl rfl rfl rfl rfl fun _ F89 => ?_)
           have F90 : Fr 96 [(7, .slice A86 N86 C86), (3, .slice r0_a_12 r0_n_12 r0_c_12), (4, .pointer (some ⟨b25, 0, none⟩)), (5, .int .i64 1), (8, .int .i64 ((k : Nat) : Int))] _ := F89.cut rfl
           clear F74 F76 F77 F78 F80 F81 F82 F83 F85 F87 F89
           have T91 : Mv _ _ [ow 3 1 encI okI (.slice A86 N86 C86) (D ++ ([((1 + r47 : Nat) : Int)])), bx b25 [.slice r0_store_a_58 r0_store_n_58 r0_store_c_58, .slice r0_touch_reads_a_58 r0_touch_reads_n_58 r0_touch_reads_c_58, .slice r0_touch_writes_a_58 r0_touch_writes_n_58 r0_touch_writes_c_58] 29, ow 74 2 encC okC (.slice r0_store_a_58 r0_store_n_58 r0_store_c_58) (sgM M 1 ((1 + r47 : Nat) : Int)).store, ow 9 1 encS okS (.slice r0_touch_reads_a_58 r0_touch_reads_n_58 r0_touch_reads_c_58) (sgM M 1 ((1 + r47 : Nat) : Int)).touch.reads, ow 9 1 encS okS (.slice r0_touch_writes_a_58 r0_touch_writes_n_58 r0_touch_writes_c_58) (sgM M 1 ((1 + r47 : Nat) : Int)).touch.writes] _ := S88
           refine s_end (x_block_normal (x_normal (wp_region_lit (l_op (f_mv F90 rfl rfl rfl rfl rfl fun _ F92 => ?_)))))
           refine l_op (f_val F92 rfl rfl (r_add (z := ((k + 1 : Nat) : Int)) rfl (F92.ev 29 rfl) rfl (by first | rfl | omega) ⟨by first | omega | (unfold i64ok at *; omega), by first | omega | (unfold i64ok at *; omega)⟩) rfl fun _ F93 => ?_)
           refine l_op (f_as F93 rfl rfl rfl rfl rfl fun _ F94 => ?_)
           have F95 : Fr 96 [(8, .int .i64 ((k + 1 : Nat) : Int)), (7, .slice A86 N86 C86), (3, .slice r0_a_12 r0_n_12 r0_c_12), (4, .pointer (some ⟨b25, 0, none⟩)), (5, .int .i64 1)] _ := F94.cut rfl
           clear F90 F92 F93 F94
           refine s_end ?_
           have Z96 : Rd 2 encC okC (V H w [ow 3 1 encI okI (.slice A86 N86 C86) (D ++ ([((1 + r47 : Nat) : Int)])), bx b25 [.slice r0_store_a_58 r0_store_n_58 r0_store_c_58, .slice r0_touch_reads_a_58 r0_touch_reads_n_58 r0_touch_reads_c_58, .slice r0_touch_writes_a_58 r0_touch_writes_n_58 r0_touch_writes_c_58] 29, ow 9 1 encS okS (.slice r0_touch_reads_a_58 r0_touch_reads_n_58 r0_touch_reads_c_58) (sgM M 1 ((1 + r47 : Nat) : Int)).touch.reads, ow 9 1 encS okS (.slice r0_touch_writes_a_58 r0_touch_writes_n_58 r0_touch_writes_c_58) (sgM M 1 ((1 + r47 : Nat) : Int)).touch.writes]) w86 (.slice r0_store_a_58 r0_store_n_58 r0_store_c_58) (sgM M 1 ((1 + r47 : Nat) : Int)).store := At.freeze (T7.trans (T16.trans (S17.trans (S19.trans (S25.trans (T31.trans (T36.trans (S39.trans (S65.trans (S84.trans (S86.trans T91))))))))))) ET_24.hk 2 rfl (fun b hb => ((T7.trans (T16.trans (S17.trans (S19.trans (S25.trans (T31.trans (T36.trans (S39.trans (S65.trans (S84.trans (S86.trans T91))))))))))).fresh b ⟨_, nth_mem (i := 2) rfl, hb⟩).resolve_left (fps_nil _))
           have S96 := At.drop T91.at' 2
           have Z97 : Rd 1 encS okS (V H w [ow 3 1 encI okI (.slice A86 N86 C86) (D ++ ([((1 + r47 : Nat) : Int)])), bx b25 [.slice r0_store_a_58 r0_store_n_58 r0_store_c_58, .slice r0_touch_reads_a_58 r0_touch_reads_n_58 r0_touch_reads_c_58, .slice r0_touch_writes_a_58 r0_touch_writes_n_58 r0_touch_writes_c_58] 29, ow 9 1 encS okS (.slice r0_touch_writes_a_58 r0_touch_writes_n_58 r0_touch_writes_c_58) (sgM M 1 ((1 + r47 : Nat) : Int)).touch.writes]) w86 (.slice r0_touch_reads_a_58 r0_touch_reads_n_58 r0_touch_reads_c_58) (sgM M 1 ((1 + r47 : Nat) : Int)).touch.reads := At.freeze (T7.trans (T16.trans (S17.trans (S19.trans (S25.trans (T31.trans (T36.trans (S39.trans (S65.trans (S84.trans (S86.trans (T91.trans S96)))))))))))) ET_25.hk 2 rfl (fun b hb => ((T7.trans (T16.trans (S17.trans (S19.trans (S25.trans (T31.trans (T36.trans (S39.trans (S65.trans (S84.trans (S86.trans (T91.trans S96)))))))))))).fresh b ⟨_, nth_mem (i := 2) rfl, hb⟩).resolve_left (fps_nil _))
           have S97 := At.drop S96.at' 2
           have Z98 : Rd 1 encS okS (V H w [ow 3 1 encI okI (.slice A86 N86 C86) (D ++ ([((1 + r47 : Nat) : Int)])), bx b25 [.slice r0_store_a_58 r0_store_n_58 r0_store_c_58, .slice r0_touch_reads_a_58 r0_touch_reads_n_58 r0_touch_reads_c_58, .slice r0_touch_writes_a_58 r0_touch_writes_n_58 r0_touch_writes_c_58] 29]) w86 (.slice r0_touch_writes_a_58 r0_touch_writes_n_58 r0_touch_writes_c_58) (sgM M 1 ((1 + r47 : Nat) : Int)).touch.writes := At.freeze (T7.trans (T16.trans (S17.trans (S19.trans (S25.trans (T31.trans (T36.trans (S39.trans (S65.trans (S84.trans (S86.trans (T91.trans (S96.trans S97))))))))))))) ET_25.hk 2 rfl (fun b hb => ((T7.trans (T16.trans (S17.trans (S19.trans (S25.trans (T31.trans (T36.trans (S39.trans (S65.trans (S84.trans (S86.trans (T91.trans (S96.trans S97))))))))))))).fresh b ⟨_, nth_mem (i := 2) rfl, hb⟩).resolve_left (fps_nil _))
           have S98 := At.drop S97.at' 2
           refine x_normal ⟨k + 1, by omega, (sgM M 1 ((1 + r47 : Nat) : Int)), W ++ [1 + r47], D ++ ([((1 + r47 : Nat) : Int)]), A86, N86, C86, r0_store_a_58, r0_store_n_58, r0_store_c_58, r0_touch_reads_a_58, r0_touch_reads_n_58, r0_touch_reads_c_58, r0_touch_writes_a_58, r0_touch_writes_n_58, r0_touch_writes_c_58, F95.cut rfl, ((S39.trans (S65.trans (S84.trans (S86.trans (T91.trans (S96.trans (S97.trans S98))))))).pick [0, 1] rfl), (Rd.mv (Nat.succ_pos _) Z96 (S97.trans S98)), (Rd.mv (Nat.succ_pos _) Z97 S98), Z98, by first | with_reducible exact (sg_nextA hk_0 (by omega) hk_1 (by assumption)).1 | with_reducible exact (sg_nextB hk_0 (by omega) hk_1 (by assumption)).1, by first | exact (sg_nextA hk_0 (by omega) hk_1 (by assumption)).2 | exact (sg_nextB hk_0 (by omega) hk_1 (by assumption)).2, by omega, bdC.le (bdC.sg (by assumption)) (by omega), by first | assumption | rw [wL_snoc, hk_4], by assumption⟩
         · skip
           refine wp_skip (x_block_normal (x_normal (wp_region_lit (l_op (f_mv F74 rfl rfl rfl rfl rfl fun _ F99 => ?_)))))
           refine l_op (f_val F99 rfl rfl (r_add (z := ((k + 1 : Nat) : Int)) rfl (F99.ev 29 rfl) rfl (by first | rfl | omega) ⟨by first | omega | (unfold i64ok at *; omega), by first | omega | (unfold i64ok at *; omega)⟩) rfl fun _ F100 => ?_)
           refine l_op (f_as F100 rfl rfl rfl rfl rfl fun _ F101 => ?_)
           have F102 : Fr 96 [(8, .int .i64 ((k + 1 : Nat) : Int)), (3, .slice r0_a_12 r0_n_12 r0_c_12), (4, .pointer (some ⟨b25, 0, none⟩)), (5, .int .i64 1), (7, .slice oa on oc)] _ := F101.cut rfl
           clear F74 F99 F100 F101
           refine s_end ?_
           have Z103 : Rd 2 encC okC (V H w [ow 3 1 encI okI (.slice oa on oc) D, bx b25 [.slice r0_store_a_58 r0_store_n_58 r0_store_c_58, .slice r0_touch_reads_a_58 r0_touch_reads_n_58 r0_touch_reads_c_58, .slice r0_touch_writes_a_58 r0_touch_writes_n_58 r0_touch_writes_c_58] 29, ow 9 1 encS okS (.slice r0_touch_reads_a_58 r0_touch_reads_n_58 r0_touch_reads_c_58) (sgM M 1 ((1 + r47 : Nat) : Int)).touch.reads, ow 9 1 encS okS (.slice r0_touch_writes_a_58 r0_touch_writes_n_58 r0_touch_writes_c_58) (sgM M 1 ((1 + r47 : Nat) : Int)).touch.writes]) w65 (.slice r0_store_a_58 r0_store_n_58 r0_store_c_58) (sgM M 1 ((1 + r47 : Nat) : Int)).store := At.freeze (T7.trans (T16.trans (S17.trans (S19.trans (S25.trans (T31.trans (T36.trans (S39.trans S65)))))))) ET_24.hk 2 rfl (fun b hb => ((T7.trans (T16.trans (S17.trans (S19.trans (S25.trans (T31.trans (T36.trans (S39.trans S65)))))))).fresh b ⟨_, nth_mem (i := 2) rfl, hb⟩).resolve_left (fps_nil _))
           have S103 := At.drop S65.at' 2
           have Z104 : Rd 1 encS okS (V H w [ow 3 1 encI okI (.slice oa on oc) D, bx b25 [.slice r0_store_a_58 r0_store_n_58 r0_store_c_58, .slice r0_touch_reads_a_58 r0_touch_reads_n_58 r0_touch_reads_c_58, .slice r0_touch_writes_a_58 r0_touch_writes_n_58 r0_touch_writes_c_58] 29, ow 9 1 encS okS (.slice r0_touch_writes_a_58 r0_touch_writes_n_58 r0_touch_writes_c_58) (sgM M 1 ((1 + r47 : Nat) : Int)).touch.writes]) w65 (.slice r0_touch_reads_a_58 r0_touch_reads_n_58 r0_touch_reads_c_58) (sgM M 1 ((1 + r47 : Nat) : Int)).touch.reads := At.freeze (T7.trans (T16.trans (S17.trans (S19.trans (S25.trans (T31.trans (T36.trans (S39.trans (S65.trans S103))))))))) ET_25.hk 2 rfl (fun b hb => ((T7.trans (T16.trans (S17.trans (S19.trans (S25.trans (T31.trans (T36.trans (S39.trans (S65.trans S103))))))))).fresh b ⟨_, nth_mem (i := 2) rfl, hb⟩).resolve_left (fps_nil _))
           have S104 := At.drop S103.at' 2
           have Z105 : Rd 1 encS okS (V H w [ow 3 1 encI okI (.slice oa on oc) D, bx b25 [.slice r0_store_a_58 r0_store_n_58 r0_store_c_58, .slice r0_touch_reads_a_58 r0_touch_reads_n_58 r0_touch_reads_c_58, .slice r0_touch_writes_a_58 r0_touch_writes_n_58 r0_touch_writes_c_58] 29]) w65 (.slice r0_touch_writes_a_58 r0_touch_writes_n_58 r0_touch_writes_c_58) (sgM M 1 ((1 + r47 : Nat) : Int)).touch.writes := At.freeze (T7.trans (T16.trans (S17.trans (S19.trans (S25.trans (T31.trans (T36.trans (S39.trans (S65.trans (S103.trans S104)))))))))) ET_25.hk 2 rfl (fun b hb => ((T7.trans (T16.trans (S17.trans (S19.trans (S25.trans (T31.trans (T36.trans (S39.trans (S65.trans (S103.trans S104)))))))))).fresh b ⟨_, nth_mem (i := 2) rfl, hb⟩).resolve_left (fps_nil _))
           have S105 := At.drop S104.at' 2
           refine x_normal ⟨k + 1, by omega, (sgM M 1 ((1 + r47 : Nat) : Int)), W, D, oa, on, oc, r0_store_a_58, r0_store_n_58, r0_store_c_58, r0_touch_reads_a_58, r0_touch_reads_n_58, r0_touch_reads_c_58, r0_touch_writes_a_58, r0_touch_writes_n_58, r0_touch_writes_c_58, F102.cut rfl, ((S39.trans (S65.trans (S103.trans (S104.trans S105)))).pick [0, 1] rfl), (Rd.mv (Nat.succ_pos _) Z103 (S104.trans S105)), (Rd.mv (Nat.succ_pos _) Z104 S105), Z105, by first | with_reducible exact (sg_nextA hk_0 (by omega) hk_1 (by assumption)).1 | with_reducible exact (sg_nextB hk_0 (by omega) hk_1 (by assumption)).1, by first | exact (sg_nextA hk_0 (by omega) hk_1 (by assumption)).2 | exact (sg_nextB hk_0 (by omega) hk_1 (by assumption)).2, by omega, bdC.le (bdC.sg (by assumption)) (by omega), by first | assumption | rw [wL_snoc, hk_4], by assumption⟩
     · skip
       refine wp_exit (x_then_exit (x_then_exit (x_block_here (x_normal (wp_seq (wp_seq (wp_region_lit (l_op (f_val F42 rfl rfl (r_assign rfl rfl) rfl fun _ F106 => ?_)))))))))
       have F107 : Fr 96 [(10, .int .i64 0), (7, .slice oa on oc), (5, .int .i64 1), (4, .pointer (some ⟨b25, 0, none⟩))] _ := F106.cut rfl
       clear F42 F106
       refine s_end (x_normal (wp_block ?_))
       refine x_loop (fun (j : Nat) aZ wZ => ∃ (M2 : MachD), ∃ (sb : Option Addr), ∃ (sm : Nat), ∃ (sd : Nat), ∃ (rb : Option Addr), ∃ (rm : Nat), ∃ (rd : Nat), ∃ (ub : Option Addr), ∃ (um : Nat), ∃ (ud : Nat), Fr 96 [(10, .int .i64 ((j : Nat) : Int)), (7, .slice oa on oc), (5, .int .i64 1), (4, .pointer (some ⟨b25, 0, none⟩))] aZ ∧ Mv [ow 3 1 encI okI (.slice oa on oc) D, bx b25 [.slice sa sn sc, .slice ra rn rc, .slice ua un uc] 29] w39 [ow 3 1 encI okI (.slice oa on oc) D, bx b25 [.slice sb sm sd, .slice rb rm rd, .slice ub um ud] 29] wZ ∧ Rd 2 encC okC (V H w [ow 3 1 encI okI (.slice oa on oc) D, bx b25 [.slice sb sm sd, .slice rb rm rd, .slice ub um ud] 29]) wZ (.slice sb sm sd) M2.store ∧ Rd 1 encS okS (V H w [ow 3 1 encI okI (.slice oa on oc) D, bx b25 [.slice sb sm sd, .slice rb rm rd, .slice ub um ud] 29]) wZ (.slice rb rm rd) M2.touch.reads ∧ Rd 1 encS okS (V H w [ow 3 1 encI okI (.slice oa on oc) D, bx b25 [.slice sb sm sd, .slice rb rm rd, .slice ub um ud] 29]) wZ (.slice ub um ud) M2.touch.writes ∧ (sst (W.drop j) j M2) ∧ (j ≤ W.length) ∧ (bdC (20 * j + 200) M2)) (fun (j : Nat) => W.length - j) (0) ?_ ?_
       · exact ⟨M, sa, sn, sc, ra, rn, rc, ua, un, uc, F107.cut rfl, (Mv.refl S39.at'), W39_0, W39_1, W39_2, ts_start hk_0, by omega, bdC.le hk_3 (by omega)⟩
       · rintro j a108 w108 ⟨M2, sb, sm, sd, rb, rm, rd, ub, um, ud, F108, S108, W108_0, W108_1, W108_2, hj_0, hj_1, hj_2⟩
         obtain ⟨lv108_0, lw108_0, lx108_0, ly108_0⟩ := Rd.inv W108_0
         obtain ⟨lv108_1, lw108_1, lx108_1, ly108_1⟩ := Rd.inv W108_1
         obtain ⟨lv108_2, lw108_2, lx108_2, ly108_2⟩ := Rd.inv W108_2
         refine wp_seq (wp_seq (wp_region_lit (l_op (f_mv F108 rfl rfl rfl rfl rfl fun _ F109 => ?_))))
         refine l_op (f_mv F109 rfl rfl rfl rfl rfl fun _ F110 => ?_)
         refine l_op (f_val F110 rfl rfl (r_len Tryz.underlying47 rfl (F110.ev 60 rfl)) rfl fun _ F111 => ?_)
         refine l_op (f_val F111 rfl rfl (r_cmp (b := decide (j < on)) (.inr (.inr (.inl rfl))) rfl (F111.ev 59 rfl) (F111.ev 61 rfl) (dec_of (by omega))) rfl fun _ F112 => ?_)
         have F113 : Fr 96 [(62, .bool (decide (j < on))), (10, .int .i64 ((j : Nat) : Int)), (7, .slice oa on oc), (5, .int .i64 1), (4, .pointer (some ⟨b25, 0, none⟩))] _ := F112.cut rfl
         clear F108 F109 F110 F111 F112
         refine s_end (x_normal (x_cond (p := j < on) (F113.ev 62 rfl) (fun h114 => ?_) (fun h114 => ?_)))
         · skip
           refine wp_skip (x_normal (wp_seq (wp_block (wp_seq (wp_region_lit (l_op (f_val F113 rfl rfl (r_assign rfl rfl) rfl fun _ F115 => ?_)))))))
           have F116 : Fr 96 [(11, .int .i64 0), (10, .int .i64 ((j : Nat) : Int)), (7, .slice oa on oc), (5, .int .i64 1), (4, .pointer (some ⟨b25, 0, none⟩))] _ := F115.cut rfl
           clear F113 F115
           refine s_end (x_normal (wp_seq (wp_region_lit (l_op (f_val F116 rfl rfl (r_assign rfl rfl) rfl fun _ F117 => ?_)))))
           have F118 : Fr 96 [(12, .int .i64 0), (10, .int .i64 ((j : Nat) : Int)), (7, .slice oa on oc), (5, .int .i64 1), (4, .pointer (some ⟨b25, 0, none⟩))] _ := F117.cut rfl
           clear F116 F117
           refine s_end (x_normal (wp_seq (wp_region_lit (l_op (f_val (v := .agg #[.slice sb sm sd, .slice rb rm rd, .slice ub um ud]) F118 rfl rfl (r_loadB S108.at' 1 TI_29 rfl rfl (F118.ev 4 rfl) rfl rfl (fun h => nomatch h) rfl) rfl fun _ F119 => ?_)))))
           refine l_op (f_mv F119 rfl rfl rfl rfl rfl fun _ F120 => ?_)
           refine l_op (f_call F120 CF_34 rfl rfl rfl rfl (lc (F120.ev 66 rfl) (lc (F120.ev 67 rfl) rfl)) (impl_TakeSignal_c (m := M2) (id := 1) W108_0 W108_1 W108_2 (by first | assumption | exact ⟨by omega, by omega⟩ | (unfold i64ok at *; omega)) (Tb.mv V_tab0 (T7.trans (T16.trans (S17.trans (S19.trans (S25.trans (T31.trans (T36.trans (S39.trans S108))))))))) (Tb.mv V_tab1 (T7.trans (T16.trans (S17.trans (S19.trans (S25.trans (T31.trans (T36.trans (S39.trans S108))))))))) (by first | assumption | omega | (refine bdC.s ?_; (repeat (first | with_reducible refine bdC.look ?_ | with_reducible refine bdC.lay ?_ | with_reducible refine bdC.set ?_ | with_reducible refine bdC.spawn ?_ | with_reducible refine bdC.sg ?_ | with_reducible refine bdC.ts ?_)); exact bdC.le (by assumption) (by first | decide | omega)) | (refine bdC.r ?_; (repeat (first | with_reducible refine bdC.look ?_ | with_reducible refine bdC.lay ?_ | with_reducible refine bdC.set ?_ | with_reducible refine bdC.spawn ?_ | with_reducible refine bdC.sg ?_ | with_reducible refine bdC.ts ?_)); exact bdC.le (by assumption) (by first | decide | omega)) | (refine bdC.w ?_; (repeat (first | with_reducible refine bdC.look ?_ | with_reducible refine bdC.lay ?_ | with_reducible refine bdC.set ?_ | with_reducible refine bdC.spawn ?_ | with_reducible refine bdC.sg ?_ | with_reducible refine bdC.ts ?_)); exact bdC.le (by assumption) (by first | decide | omega)) | ((repeat (first | with_reducible refine bdC.look ?_ | with_reducible refine bdC.lay ?_ | with_reducible refine bdC.set ?_ | with_reducible refine bdC.spawn ?_ | with_reducible refine bdC.sg ?_ | with_reducible refine bdC.ts ?_)); exact bdC.le (by assumption) (by first | decide | omega)) | decide | exact Nat.le_trans (keyNum_size _ _ (by assumption)) (by decide) | exact Nat.le_trans (keyNum_size _ _ ⟨by omega, by omega⟩) (by decide))) ?_)
           rintro _ w121 ⟨r0_store_a_121, r0_store_n_121, r0_store_c_121, r0_touch_reads_a_121, r0_touch_reads_n_121, r0_touch_reads_c_121, r0_touch_writes_a_121, r0_touch_writes_n_121, r0_touch_writes_c_121, rfl, m121⟩
           refine ⟨_, rfl, fun _ F122 => ?_⟩
           have S121 : Mv _ _ [ow 74 2 encC okC (.slice r0_store_a_121 r0_store_n_121 r0_store_c_121) (tsM M2 1).store, ow 9 1 encS okS (.slice r0_touch_reads_a_121 r0_touch_reads_n_121 r0_touch_reads_c_121) (tsM M2 1).touch.reads, ow 9 1 encS okS (.slice r0_touch_writes_a_121 r0_touch_writes_n_121 r0_touch_writes_c_121) (tsM M2 1).touch.writes, ow 3 1 encI okI (.slice oa on oc) D, bx b25 [.slice sb sm sd, .slice rb rm rd, .slice ub um ud] 29] _ := At.frame S108.at' [] rfl m121
           obtain ⟨lo121_0, lp121_0, lq121_0⟩ := At.ownInv S121.at' ET_24.hk 0 rfl
           obtain ⟨lo121_1, lp121_1, lq121_1⟩ := At.ownInv S121.at' ET_25.hk 1 rfl
           obtain ⟨lo121_2, lp121_2, lq121_2⟩ := At.ownInv S121.at' ET_25.hk 2 rfl
           clear m121
           refine l_op (f_mv F122 rfl rfl rfl rfl rfl fun _ F123 => ?_)
           refine l_op (f_val (v := .agg #[.slice r0_store_a_121 r0_store_n_121 r0_store_c_121, .slice r0_touch_reads_a_121 r0_touch_reads_n_121 r0_touch_reads_c_121, .slice r0_touch_writes_a_121 r0_touch_writes_n_121 r0_touch_writes_c_121]) F123 rfl rfl (r_extract rfl (F123.ev 65 rfl) rfl) rfl fun _ F124 => ?_)
           refine l_op (f_val (v := .int .i64 ((tsN M2 1 : Nat) : Int)) F124 rfl rfl (r_extract rfl (F124.ev 65 rfl) rfl) rfl fun _ F125 => ?_)
           refine l_op (f_val (v := .int .i64 (tsC M2 1)) F125 rfl rfl (r_extract rfl (F125.ev 65 rfl) rfl) rfl fun _ F126 => ?_)
           refine l_op (s_store S121.at' 4 TI_29 rfl rfl rfl rfl rfl (F126.ev 4 rfl) (F126.ev 69 rfl) rfl rfl rfl rfl rfl fun w127 S127 => ?_)
           refine l_op (f_as F126 rfl rfl rfl rfl rfl fun _ F128 => ?_)
           refine l_op (f_as F128 rfl rfl rfl rfl rfl fun _ F129 => ?_)
           have F130 : Fr 96 [(12, .int .i64 (tsC M2 1)), (11, .int .i64 ((tsN M2 1 : Nat) : Int)), (10, .int .i64 ((j : Nat) : Int)), (7, .slice oa on oc), (5, .int .i64 1), (4, .pointer (some ⟨b25, 0, none⟩))] _ := F129.cut rfl
           clear F118 F119 F120 F122 F123 F124 F125 F126 F128 F129
           have T131 : Mv _ _ [bx b25 [.slice r0_store_a_121 r0_store_n_121 r0_store_c_121, .slice r0_touch_reads_a_121 r0_touch_reads_n_121 r0_touch_reads_c_121, .slice r0_touch_writes_a_121 r0_touch_writes_n_121 r0_touch_writes_c_121] 29, ow 74 2 encC okC (.slice r0_store_a_121 r0_store_n_121 r0_store_c_121) (tsM M2 1).store, ow 9 1 encS okS (.slice r0_touch_reads_a_121 r0_touch_reads_n_121 r0_touch_reads_c_121) (tsM M2 1).touch.reads, ow 9 1 encS okS (.slice r0_touch_writes_a_121 r0_touch_writes_n_121 r0_touch_writes_c_121) (tsM M2 1).touch.writes, ow 3 1 encI okI (.slice oa on oc) D] _ := S127
           refine s_end (x_normal (wp_seq (wp_region_lit (l_op (f_mv F130 rfl rfl rfl rfl rfl fun _ F132 => ?_)))))
           refine l_op (f_mv F132 rfl rfl rfl rfl rfl fun _ F133 => ?_)
           refine l_op (f_mv F133 rfl rfl rfl rfl rfl fun _ F134 => ?_)
           obtain ⟨B135, O135, x1, ad135, hx1, okx1, ln135, cl135⟩ := Rd.at (At.rd T131.at' ET_47.hk 4 rfl) j (by first | assumption | omega)
           clear ln135
           refine l_op (f_val F134 rfl rfl (r_indexAddr (i := j) ET_47 rfl ((F134.ev 73 rfl).trans (by rw [ad135])) (F134.ev 74 rfl) (by omega) (by first | assumption | omega)) rfl fun _ F136 => ?_)
           refine l_op (f_val (v := .int .i64 x1) F136 rfl rfl (r_load (cs := [.int .i64 x1]) TI_3 rfl (F136.ev 75 rfl) rfl (fun _ => rfl) (elem_sub (f := 0) cl135 [.int .i64 x1] rfl)) rfl fun _ F137 => ?_)
           refine l_op (f_val F137 rfl rfl (r_cmp (b := decide (((tsN M2 1 : Nat) : Int) ≠ x1)) (.inr (.inl rfl)) rfl (F137.ev 72 rfl) (F137.ev 76 rfl) (dec_of (by omega))) rfl fun _ F138 => ?_)
           rw [show (decide (((tsN M2 1 : Nat) : Int) ≠ x1)) = false from decide_eq_false (fun e => e (ts_at hk_4 hj_0 (by assumption)).1)] at F138
           refine l_op (f_mv F138 rfl rfl rfl rfl rfl fun _ F139 => ?_)
           refine l_op (f_mv F139 (wanted_g F139 rfl rfl rfl rfl) rfl rfl rfl rfl fun _ F140 => ?_)
           refine l_op (f_val F140 (wanted_g F140 rfl rfl rfl rfl) rfl (r_cmp (b := decide ((tsC M2 1) ≠ 0)) (.inr (.inl rfl)) rfl (F140.ev 79 rfl) rfl (dec_of (by omega))) rfl fun _ F141 => ?_)
           rw [show (decide ((tsC M2 1) ≠ 0)) = false from decide_eq_false (fun e => e (ts_at hk_4 hj_0 (by assumption)).2.1)] at F141
           refine l_op (f_val F141 rfl rfl (r_pick (b := false) rfl (F141.ev 78 rfl) (F141.ev 80 rfl)) rfl fun _ F142 => ?_)
           have F143 : Fr 96 [(81, .bool false), (10, .int .i64 ((j : Nat) : Int)), (7, .slice oa on oc), (5, .int .i64 1), (4, .pointer (some ⟨b25, 0, none⟩))] _ := F142.cut rfl
           clear F130 F132 F133 F134 F136 F137 F138 F139 F140 F141 F142
           refine s_end (x_normal (wp_cond_false (F143.ev 81 rfl) (wp_skip (x_block_normal (x_normal (wp_region_lit (l_op (f_mv F143 rfl rfl rfl rfl rfl fun _ F144 => ?_))))))))
           refine l_op (f_val F144 rfl rfl (r_add (z := ((j + 1 : Nat) : Int)) rfl (F144.ev 63 rfl) rfl (by first | rfl | omega) ⟨by first | omega | (unfold i64ok at *; omega), by first | omega | (unfold i64ok at *; omega)⟩) rfl fun _ F145 => ?_)
           refine l_op (f_as F145 rfl rfl rfl rfl rfl fun _ F146 => ?_)
           have F147 : Fr 96 [(10, .int .i64 ((j + 1 : Nat) : Int)), (7, .slice oa on oc), (5, .int .i64 1), (4, .pointer (some ⟨b25, 0, none⟩))] _ := F146.cut rfl
           clear F143 F144 F145 F146
           refine s_end ?_
           have Z148 : Rd 2 encC okC (V H w [bx b25 [.slice r0_store_a_121 r0_store_n_121 r0_store_c_121, .slice r0_touch_reads_a_121 r0_touch_reads_n_121 r0_touch_reads_c_121, .slice r0_touch_writes_a_121 r0_touch_writes_n_121 r0_touch_writes_c_121] 29, ow 9 1 encS okS (.slice r0_touch_reads_a_121 r0_touch_reads_n_121 r0_touch_reads_c_121) (tsM M2 1).touch.reads, ow 9 1 encS okS (.slice r0_touch_writes_a_121 r0_touch_writes_n_121 r0_touch_writes_c_121) (tsM M2 1).touch.writes, ow 3 1 encI okI (.slice oa on oc) D]) w127 (.slice r0_store_a_121 r0_store_n_121 r0_store_c_121) (tsM M2 1).store := At.freeze (T7.trans (T16.trans (S17.trans (S19.trans (S25.trans (T31.trans (T36.trans (S39.trans (S108.trans (S121.trans T131)))))))))) ET_24.hk 1 rfl (fun b hb => ((T7.trans (T16.trans (S17.trans (S19.trans (S25.trans (T31.trans (T36.trans (S39.trans (S108.trans (S121.trans T131)))))))))).fresh b ⟨_, nth_mem (i := 1) rfl, hb⟩).resolve_left (fps_nil _))
           have S148 := At.drop T131.at' 1
           have Z149 : Rd 1 encS okS (V H w [bx b25 [.slice r0_store_a_121 r0_store_n_121 r0_store_c_121, .slice r0_touch_reads_a_121 r0_touch_reads_n_121 r0_touch_reads_c_121, .slice r0_touch_writes_a_121 r0_touch_writes_n_121 r0_touch_writes_c_121] 29, ow 9 1 encS okS (.slice r0_touch_writes_a_121 r0_touch_writes_n_121 r0_touch_writes_c_121) (tsM M2 1).touch.writes, ow 3 1 encI okI (.slice oa on oc) D]) w127 (.slice r0_touch_reads_a_121 r0_touch_reads_n_121 r0_touch_reads_c_121) (tsM M2 1).touch.reads := At.freeze (T7.trans (T16.trans (S17.trans (S19.trans (S25.trans (T31.trans (T36.trans (S39.trans (S108.trans (S121.trans (T131.trans S148))))))))))) ET_25.hk 1 rfl (fun b hb => ((T7.trans (T16.trans (S17.trans (S19.trans (S25.trans (T31.trans (T36.trans (S39.trans (S108.trans (S121.trans (T131.trans S148))))))))))).fresh b ⟨_, nth_mem (i := 1) rfl, hb⟩).resolve_left (fps_nil _))
           have S149 := At.drop S148.at' 1
           have Z150 : Rd 1 encS okS (V H w [bx b25 [.slice r0_store_a_121 r0_store_n_121 r0_store_c_121, .slice r0_touch_reads_a_121 r0_touch_reads_n_121 r0_touch_reads_c_121, .slice r0_touch_writes_a_121 r0_touch_writes_n_121 r0_touch_writes_c_121] 29, ow 3 1 encI okI (.slice oa on oc) D]) w127 (.slice r0_touch_writes_a_121 r0_touch_writes_n_121 r0_touch_writes_c_121) (tsM M2 1).touch.writes := At.freeze (T7.trans (T16.trans (S17.trans (S19.trans (S25.trans (T31.trans (T36.trans (S39.trans (S108.trans (S121.trans (T131.trans (S148.trans S149)))))))))))) ET_25.hk 1 rfl (fun b hb => ((T7.trans (T16.trans (S17.trans (S19.trans (S25.trans (T31.trans (T36.trans (S39.trans (S108.trans (S121.trans (T131.trans (S148.trans S149)))))))))))).fresh b ⟨_, nth_mem (i := 1) rfl, hb⟩).resolve_left (fps_nil _))
           have S150 := At.drop S149.at' 1
           refine x_normal ⟨j + 1, by omega, (tsM M2 1), r0_store_a_121, r0_store_n_121, r0_store_c_121, r0_touch_reads_a_121, r0_touch_reads_n_121, r0_touch_reads_c_121, r0_touch_writes_a_121, r0_touch_writes_n_121, r0_touch_writes_c_121, F147.cut rfl, ((S108.trans (S121.trans (T131.trans (S148.trans (S149.trans S150))))).pick [1, 0] rfl), (Rd.mv (Nat.succ_pos _) (Rd.mv (Nat.succ_pos _) Z148 (S149.trans S150)) (Mv.pick (Mv.refl S150.at') [1, 0] rfl)), (Rd.mv (Nat.succ_pos _) (Rd.mv (Nat.succ_pos _) Z149 S150) (Mv.pick (Mv.refl S150.at') [1, 0] rfl)), (Rd.mv (Nat.succ_pos _) Z150 (Mv.pick (Mv.refl S150.at') [1, 0] rfl)), (ts_at hk_4 hj_0 (by assumption)).2.2, by omega, bdC.le (bdC.ts (by assumption)) (by omega)⟩
         · skip
           refine wp_exit (x_then_exit (x_then_exit (x_block_here (x_normal (wp_seq (wp_region_lit (l_op (f_val (v := .agg #[.slice sb sm sd, .slice rb rm rd, .slice ub um ud]) F113 rfl rfl (r_loadB S108.at' 1 TI_29 rfl rfl (F113.ev 4 rfl) rfl rfl (fun h => nomatch h) rfl) rfl fun _ F151 => ?_))))))))
           refine l_op (f_mv F151 rfl rfl rfl rfl rfl fun _ F152 => ?_)
           refine l_op (f_call F152 CF_34 rfl rfl rfl rfl (lc (F152.ev 83 rfl) (lc (F152.ev 84 rfl) rfl)) (impl_TakeSignal_c (m := M2) (id := 1) W108_0 W108_1 W108_2 (by first | assumption | exact ⟨by omega, by omega⟩ | (unfold i64ok at *; omega)) (Tb.mv V_tab0 (T7.trans (T16.trans (S17.trans (S19.trans (S25.trans (T31.trans (T36.trans (S39.trans S108))))))))) (Tb.mv V_tab1 (T7.trans (T16.trans (S17.trans (S19.trans (S25.trans (T31.trans (T36.trans (S39.trans S108))))))))) (by first | assumption | omega | (refine bdC.s ?_; (repeat (first | with_reducible refine bdC.look ?_ | with_reducible refine bdC.lay ?_ | with_reducible refine bdC.set ?_ | with_reducible refine bdC.spawn ?_ | with_reducible refine bdC.sg ?_ | with_reducible refine bdC.ts ?_)); exact bdC.le (by assumption) (by first | decide | omega)) | (refine bdC.r ?_; (repeat (first | with_reducible refine bdC.look ?_ | with_reducible refine bdC.lay ?_ | with_reducible refine bdC.set ?_ | with_reducible refine bdC.spawn ?_ | with_reducible refine bdC.sg ?_ | with_reducible refine bdC.ts ?_)); exact bdC.le (by assumption) (by first | decide | omega)) | (refine bdC.w ?_; (repeat (first | with_reducible refine bdC.look ?_ | with_reducible refine bdC.lay ?_ | with_reducible refine bdC.set ?_ | with_reducible refine bdC.spawn ?_ | with_reducible refine bdC.sg ?_ | with_reducible refine bdC.ts ?_)); exact bdC.le (by assumption) (by first | decide | omega)) | ((repeat (first | with_reducible refine bdC.look ?_ | with_reducible refine bdC.lay ?_ | with_reducible refine bdC.set ?_ | with_reducible refine bdC.spawn ?_ | with_reducible refine bdC.sg ?_ | with_reducible refine bdC.ts ?_)); exact bdC.le (by assumption) (by first | decide | omega)) | decide | exact Nat.le_trans (keyNum_size _ _ (by assumption)) (by decide) | exact Nat.le_trans (keyNum_size _ _ ⟨by omega, by omega⟩) (by decide))) ?_)
           rintro _ w153 ⟨r0_store_a_153, r0_store_n_153, r0_store_c_153, r0_touch_reads_a_153, r0_touch_reads_n_153, r0_touch_reads_c_153, r0_touch_writes_a_153, r0_touch_writes_n_153, r0_touch_writes_c_153, rfl, m153⟩
           refine ⟨_, rfl, fun _ F154 => ?_⟩
           have S153 : Mv _ _ [ow 74 2 encC okC (.slice r0_store_a_153 r0_store_n_153 r0_store_c_153) (tsM M2 1).store, ow 9 1 encS okS (.slice r0_touch_reads_a_153 r0_touch_reads_n_153 r0_touch_reads_c_153) (tsM M2 1).touch.reads, ow 9 1 encS okS (.slice r0_touch_writes_a_153 r0_touch_writes_n_153 r0_touch_writes_c_153) (tsM M2 1).touch.writes, ow 3 1 encI okI (.slice oa on oc) D, bx b25 [.slice sb sm sd, .slice rb rm rd, .slice ub um ud] 29] _ := At.frame S108.at' [] rfl m153
           obtain ⟨lo153_0, lp153_0, lq153_0⟩ := At.ownInv S153.at' ET_24.hk 0 rfl
           obtain ⟨lo153_1, lp153_1, lq153_1⟩ := At.ownInv S153.at' ET_25.hk 1 rfl
           obtain ⟨lo153_2, lp153_2, lq153_2⟩ := At.ownInv S153.at' ET_25.hk 2 rfl
           clear m153
           refine l_op (f_mv F154 rfl rfl rfl rfl rfl fun _ F155 => ?_)
           refine l_op (f_val (v := .agg #[.slice r0_store_a_153 r0_store_n_153 r0_store_c_153, .slice r0_touch_reads_a_153 r0_touch_reads_n_153 r0_touch_reads_c_153, .slice r0_touch_writes_a_153 r0_touch_writes_n_153 r0_touch_writes_c_153]) F155 rfl rfl (r_extract rfl (F155.ev 82 rfl) rfl) rfl fun _ F156 => ?_)
           refine l_op (f_val (v := .int .i64 ((tsN M2 1 : Nat) : Int)) F156 rfl rfl (r_extract rfl (F156.ev 82 rfl) rfl) rfl fun _ F157 => ?_)
           refine l_op (f_val (v := .int .i64 (tsC M2 1)) F157 rfl rfl (r_extract rfl (F157.ev 82 rfl) rfl) rfl fun _ F158 => ?_)
           refine l_op (f_alloc F158 S153.at' ZI_29 rfl rfl rfl rfl rfl fun b159 _ w159 F160 S159 => ?_)
           refine l_op (s_store S159.at' 0 TI_29 rfl rfl rfl rfl rfl (F160.ev 13 rfl) (F160.ev 86 rfl) rfl rfl rfl rfl rfl fun w161 S161 => ?_)
           refine l_op (f_as F160 rfl rfl rfl rfl rfl fun _ F162 => ?_)
           refine l_op (f_as F162 rfl rfl rfl rfl rfl fun _ F163 => ?_)
           have F164 : Fr 96 [(15, .int .i64 (tsC M2 1)), (7, .slice oa on oc)] _ := F163.cut rfl
           clear F113 F151 F152 F154 F155 F156 F157 F158 F160 F162 F163
           have T165 : Mv _ _ [bx b159 [.slice r0_store_a_153 r0_store_n_153 r0_store_c_153, .slice r0_touch_reads_a_153 r0_touch_reads_n_153 r0_touch_reads_c_153, .slice r0_touch_writes_a_153 r0_touch_writes_n_153 r0_touch_writes_c_153] 29, ow 74 2 encC okC (.slice r0_store_a_153 r0_store_n_153 r0_store_c_153) (tsM M2 1).store, ow 9 1 encS okS (.slice r0_touch_reads_a_153 r0_touch_reads_n_153 r0_touch_reads_c_153) (tsM M2 1).touch.reads, ow 9 1 encS okS (.slice r0_touch_writes_a_153 r0_touch_writes_n_153 r0_touch_writes_c_153) (tsM M2 1).touch.writes, ow 3 1 encI okI (.slice oa on oc) D, bx b25 [.slice sb sm sd, .slice rb rm rd, .slice ub um ud] 29] _ := S161
           refine s_end (x_normal (wp_seq (wp_region_lit (l_op (f_mv F164 rfl rfl rfl rfl rfl fun _ F166 => ?_)))))
           refine l_op (f_val F166 rfl rfl (r_cmp (b := decide ((tsC M2 1) = 5)) (.inl rfl) rfl (F166.ev 89 rfl) rfl (dec_of (by omega))) rfl fun _ F167 => ?_)
           rw [show (decide ((tsC M2 1) = 5)) = true from decide_eq_true (ts_end hj_0 (by omega))] at F167
           refine l_op (f_mv F167 rfl rfl rfl rfl rfl fun _ F168 => ?_)
           refine l_op (f_mv F168 (wanted_g F168 rfl rfl rfl rfl) rfl rfl rfl rfl fun _ F169 => ?_)
           refine l_op (f_val F169 (wanted_g F169 rfl rfl rfl rfl) rfl (r_len Tryz.underlying47 rfl (F169.ev 92 rfl)) rfl fun _ F170 => ?_)
           refine l_op (f_val F170 (wanted_g F170 rfl rfl rfl rfl) rfl (r_cmp (b := decide (on = 4)) (.inl rfl) rfl (F170.ev 93 rfl) rfl (dec_of (by omega))) rfl fun _ F171 => ?_)
           rw [show (decide (on = 4)) = true from decide_eq_true (by omega)] at F171
           refine l_op (f_val F171 rfl rfl (r_pick (b := true) rfl (F171.ev 91 rfl) (F171.ev 94 rfl)) rfl fun _ F172 => ?_)
           refine l_op (f_as F172 rfl rfl rfl rfl rfl fun _ F173 => ?_)
           have F174 : Fr 96 [(2, .bool true)] _ := F173.cut rfl
           clear F164 F166 F167 F168 F169 F170 F171 F172 F173
           refine s_end (x_normal (wp_ret ?_))
           refine x_done (v := .bool true) F174 (results_1 Tryz.results6 (.tmp (F174.ev 2 rfl))) ?_
           exact ⟨rfl, (Mv.pick (T7.trans (T16.trans (S17.trans (S19.trans (S25.trans (T31.trans (T36.trans (S39.trans (S108.trans (S153.trans (S159.trans T165))))))))))) [] rfl)⟩
end Go.Proofs.YtkeglhkdanenbaaGreatDoor
namespace Go.Proofs.YtkeglhkdanenbaaGreatDoor.signalsorder
open Go.ChangeShapes Go.WideShapes Go.ChangeAt Go.RowKit
set_option maxRecDepth 100000
theorem cells_5 : Tryz.prog.cellsOf 5 = 1 := by kernel_rfl
theorem starE : "*" ++ "errors.errorString" = "*errors.errorString" := by decide
theorem rowE (u : TypeId) (h : Tryz.prog.typeName? 3 u = some "*errors.errorString") : u = 170 :=
  typeName_ptr_named (nm := "errors.errorString") (by rw [starE]; kernel_rfl) (by kernel_rfl) (by decide) u (by rw [starE]; exact h)
theorem cellsE : Tryz.prog.cellsOf 172 = 1 := by kernel_rfl
theorem cells_9 : Tryz.prog.cellsOf 9 = 1 := by kernel_rfl
theorem ground0 {W : World} (h : laidMet Tryz.prog [("math/bits.deBruijn32tab", Rows.laid_math_bits_deBruijn32tab), ("math/bits.deBruijn64tab", Rows.laid_math_bits_deBruijn64tab), ("internal/strconv.uint64pow10", Rows.laid_internal_strconv_uint64pow10), ("strconv.ErrRange", Rows.laid_strconv_ErrRange), ("strconv.ErrSyntax", Rows.laid_strconv_ErrSyntax)] W) : Tb 0 (fun _ => True) W := by
  have e : (Rows.laid_internal_strconv_uint64pow10 : DataW Unit) = Lib.tabData .u64 Lib.pow10Tab := by kernel_rfl
  have h2 : laidMet Tryz.prog (("internal/strconv.uint64pow10", Lib.tabData .u64 Lib.pow10Tab) :: [("strconv.ErrRange", Rows.laid_strconv_ErrRange), ("strconv.ErrSyntax", Rows.laid_strconv_ErrSyntax)]) W := by rw [← e]; exact h.tail.tail
  have h3 : Lib.TabIs Tryz.prog W "internal/strconv.uint64pow10" .u64 Lib.pow10Tab := Lib.tabIs_of_head laysItoa.m17 (t := 146) (e := 135) (n := 20) (by kernel_rfl) Tryz.underlying146 Tryz.underlying135 (by kernel_rfl) (by kernel_rfl) h2
  exact ⟨h3, fun g hg => by rw [List.mem_singleton.1 hg]; exact ⟨trivial, Lib.lt_of_cell (h3.cell laysItoa.m17 0 (by decide))⟩⟩
theorem ground1 {W : World} (h : laidMet Tryz.prog [("math/bits.deBruijn32tab", Rows.laid_math_bits_deBruijn32tab), ("math/bits.deBruijn64tab", Rows.laid_math_bits_deBruijn64tab), ("internal/strconv.uint64pow10", Rows.laid_internal_strconv_uint64pow10), ("strconv.ErrRange", Rows.laid_strconv_ErrRange), ("strconv.ErrSyntax", Rows.laid_strconv_ErrSyntax)] W) : Tb 1 (fun _ => True) W := by
  have gS : Tryz.prog.globalNamed "strconv.ErrSyntax" = some (laysAtoi_ren.g 15) := by kernel_rfl
  obtain ⟨aS, sS, vS, -, -, -⟩ := laid_sentinel (h.tail.tail.tail.tail) gS (ti := 131) (by kernel_rfl) Tryz.underlying131 rowE Tryz.underlying170 Tryz.underlying172 rfl rfl Tryz.underlying9 cellsE cells_9
  have cS := var_cell gS vS
  have gR : Tryz.prog.globalNamed "strconv.ErrRange" = some (laysAtoi_ren.g 16) := by kernel_rfl
  obtain ⟨aR, sR, vR, -, -, -⟩ := laid_sentinel (h.tail.tail.tail) gR (ti := 131) (by kernel_rfl) Tryz.underlying131 rowE Tryz.underlying170 Tryz.underlying172 rfl rfl Tryz.underlying9 cellsE cells_9
  have cR := var_cell gR vR
  exact ⟨⟨⟨_, cS, .inr ⟨_, _, rfl⟩⟩, ⟨_, cR, .inr ⟨_, _, rfl⟩⟩⟩, fun g hg => by
    rcases List.mem_cons.1 hg with e | hg
    · rw [e]; exact ⟨trivial, Lib.lt_of_cell cS⟩
    · rw [List.mem_singleton.1 hg]; exact ⟨trivial, Lib.lt_of_cell cR⟩⟩
theorem called (W : World) (args : Array Value) (h : ArgsRead Tryz.prog W Tryz.f6.params.toList args.toList) (t0 : Tb 0 (fun _ => True) W) (t1 : Tb 1 (fun _ => True) W) : Calls Tryz.prog 6 args W fun e W' => e = .returned (.bool true) ∧ Bl W W' := by
  obtain ⟨hl, h⟩ := h
  rw [Tryz.params6] at hl h
  obtain ⟨v0, rfl⟩ : ∃ v0, args = #[v0] := by
    obtain ⟨l⟩ := args
    match l, hl with
    | [v0], _ => exact ⟨v0, rfl⟩
  obtain ⟨r0, o0⟩ := h 0 _ v0 rfl rfl
  have q0 := reads_one Tryz.underlying22 trivial o0 r0
  obtain ⟨a_0, n_0, c_0, l_0, e_0, v_0⟩ := rdA_of Tryz.underlying22 cells_5 (by decide) (u8_row Tryz.underlying5) q0
  cases e_0
  exact (laws_FnSignalsOrder_c (w := W) (H := fun _ => True) (code := l_0) v_0 t0 t1).mono fun e W' ⟨h1, h2⟩ => ⟨h1, h2.bl⟩
theorem own : ownKnob Tryz.prog.godebug = none := by kernel_rfl
theorem laidOut : laidOutB Tryz.prog = true := by kernel_rfl
theorem readable : ∀ t ∈ Tryz.f6.params.toList, Tryz.prog.readableRec t = true ∧ t < Tryz.prog.types.size := of_decide_eq_true (by kernel_rfl)
theorem door_met (os : Os) (args : Array Value) : laidMetH Tryz.prog [("math/bits.deBruijn32tab", Rows.laid_math_bits_deBruijn32tab), ("math/bits.deBruijn64tab", Rows.laid_math_bits_deBruijn64tab), ("internal/strconv.uint64pow10", Rows.laid_internal_strconv_uint64pow10), ("strconv.ErrRange", Rows.laid_strconv_ErrRange), ("strconv.ErrSyntax", Rows.laid_strconv_ErrSyntax)] ((World.doorLaid Tryz.prog 81 os).forCall (fun _ _ => 0) ⟨#[], args, []⟩).memory :=
  laidMetH_of_parts3 (fuel := 8) (laidMet_of_run' 8 (by kernel_rfl) (by kernel_rfl)) (by kernel_rfl) (by kernel_rfl)
theorem lifted (os : Os) (started : os.Started) (H : Type) (enc : TypeId × Value → H) :
    ReturnsInHanded {} Tryz.checked os 6 .any (fun w args => (Rows.fnSignalsOrderSpec.pre enc Tryz.prog Tryz.f6 [] false w args ∧ laidMetH Tryz.prog [("math/bits.deBruijn32tab", Rows.laid_math_bits_deBruijn32tab), ("math/bits.deBruijn64tab", Rows.laid_math_bits_deBruijn64tab), ("internal/strconv.uint64pow10", Rows.laid_internal_strconv_uint64pow10), ("strconv.ErrRange", Rows.laid_strconv_ErrRange), ("strconv.ErrSyntax", Rows.laid_strconv_ErrSyntax)] w) ∧ sizedMet enc Tryz.prog Tryz.f6 (OpenSpec.ofChange Rows.fnSignalsOrderSpec) false w args)
      (Rows.fnSignalsOrderSpec.post enc Tryz.prog Tryz.f6 false true false false) := by
  refine returnsInHanded_of_change_and (C := Tryz.checked) (X := fun w _ => laidMetH Tryz.prog [("math/bits.deBruijn32tab", Rows.laid_math_bits_deBruijn32tab), ("math/bits.deBruijn64tab", Rows.laid_math_bits_deBruijn64tab), ("internal/strconv.uint64pow10", Rows.laid_internal_strconv_uint64pow10), ("strconv.ErrRange", Rows.laid_strconv_ErrRange), ("strconv.ErrSyntax", Rows.laid_strconv_ErrSyntax)] w) (fun _ _ _ hh h => h.of_heap hh) own started (by kernel_rfl) Tryz.func6
    (ChangeSpec.witness_shaped (enc := enc) (C := Tryz.checked) (os := os) (X := fun w _ => laidMetH Tryz.prog [("math/bits.deBruijn32tab", Rows.laid_math_bits_deBruijn32tab), ("math/bits.deBruijn64tab", Rows.laid_math_bits_deBruijn64tab), ("internal/strconv.uint64pow10", Rows.laid_internal_strconv_uint64pow10), ("strconv.ErrRange", Rows.laid_strconv_ErrRange), ("strconv.ErrSyntax", Rows.laid_strconv_ErrSyntax)] w) false (World.doorLaid Tryz.prog 81 os) #[.slice none 0 0] 8 rfl (World.shaped_of_RefB (by kernel_rfl) (by kernel_rfl)) (by kernel_rfl) (by kernel_rfl) (by kernel_rfl) (door_met os _)) ?_
  intro W base args ds gs before hval0 hW _ _ hL _
  have hval : ∀ (j : Nat) t v, Tryz.f6.params[j]? = some t → args[j]? = some v → Value.okWide Tryz.prog W .any 0 t v := hval0
  have hM : laidMet Tryz.prog [("math/bits.deBruijn32tab", Rows.laid_math_bits_deBruijn32tab), ("math/bits.deBruijn64tab", Rows.laid_math_bits_deBruijn64tab), ("internal/strconv.uint64pow10", Rows.laid_internal_strconv_uint64pow10), ("strconv.ErrRange", Rows.laid_strconv_ErrRange), ("strconv.ErrSyntax", Rows.laid_strconv_ErrSyntax)] W := by
    have h := hL
    rw [MakeChecks.laidMetH_plain _ _ _ (by kernel_rfl)] at h
    exact h
  refine law_contractW laidOut readable Tryz.underlying4 rfl rfl ?_ H enc false true false false W args ds gs before (fun h => called W args h (ground0 hM) (ground1 hM)) hval hW
  intro H ds hd
  match ds, hd with
  | [a], _ => rfl
theorem bare : Rows.FnSignalsOrderSaid :=
  OpenClaim.holds_of_wide 6 Tryz.f6 rfl rfl rfl rfl rfl rfl rfl ⟨rfl, rfl, rfl, rfl, rfl⟩ rfl rfl rfl rfl rfl (by kernel_rfl) Tryz.func6 (by kernel_rfl)
    (of_decide_eq_true (by kernel_rfl)) (by unfold Func.isWrapper; first | (rw [if_pos (by decide +kernel)]; kernel_rfl) | (rw [if_neg (by decide +kernel)]; exact ⟨rfl, rfl⟩))
    (fun os started H enc _ => lifted os started H enc)
theorem proved : Rows.FnSignalsOrderCardSaid :=
  Claim7.holds_tied_plain_at .later [] [.data, .data, .data, .sentinel, .sentinel] true (true, "38c2d26bb8fa83a95fd7a9deaac422001cb2db97dd62ee41e149756f9c118c48") true
    bare (fun _ h => by cases h) (by kernel_rfl) (fun _ h => by cases h) fnSignalsOrder_row_tie rfl ⟨rfl, rfl⟩ (by kernel_rfl) rfl
    (fun f fn hf hfn => by
      obtain rfl : f = 6 := Option.some.inj ((show Tryz.prog.funcNamed "loop.example/g00974/laws.FnSignalsOrder" = some 6 by kernel_rfl).symm.trans hf) |>.symm
      obtain rfl : fn = Tryz.f6 := (Option.some.inj (Tryz.func6.symm.trans hfn)).symm
      exact ⟨by kernel_rfl, fun j t ht => by
        rw [Tryz.params6] at ht
        have hm : t ∈ [22] := by simpa using Array.mem_of_getElem? ht
        have hall : ([22].all fun u => !Tryz.prog.wantsStandIn u) = true := by kernel_rfl
        exact (show Tryz.prog.wantsStandIn t = false by simpa using List.all_eq_true.1 hall t hm)⟩)
    (by kernel_rfl)
end Go.Proofs.YtkeglhkdanenbaaGreatDoor.signalsorder
