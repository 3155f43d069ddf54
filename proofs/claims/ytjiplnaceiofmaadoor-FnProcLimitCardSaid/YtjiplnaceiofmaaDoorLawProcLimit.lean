/-
  PROVED HERE: whatever the input, the statement laws.FnProcLimit returns true. Condition: the tables and errors of the library that the row lists stand as the program's text lays them (the card ties that).
-/
import Derived.Test.YtjiplnaceiofmaaDoorGenDp
import Derived.Test.YtjiplnaceiofmaaDoorGenSb
import Derived.Test.YtjiplnaceiofmaaDoorLaw2
import Derived.Test.YtjiplnaceiofmaaDoorLaw3
namespace Go.Proofs.YtjiplnaceiofmaaDoor
open Go.ChangeShapes Go.WideShapes Go.ChangeAt Go.RowKit
set_option maxRecDepth 100000
set_option maxHeartbeats 1000000
theorem laws_FnProcLimit_c {w : World} {H : Nat → Prop} {code : List Nat} {code_a : Option Addr} {code_n code_c : Nat} (v_code : RdA 1 encB okB H w (.slice code_a code_n code_c) code) (tab0 : Tb 0 H w) (tab1 : Tb 1 H w) :
    Calls Tryd.prog 6 #[.slice code_a code_n code_c] w fun e w' => e = .returned (.bool true) ∧ Mv [] w [] w' := by
 have V_v_code : RdA 1 encB okB (V H w []) w (.slice code_a code_n code_c) code := RdA.start v_code (fun _ _ => fps_nil _)
 obtain ⟨ln_code, le_code, mx_code, ni_code⟩ := RdA.inv v_code
 have V_tab0 : Tb 0 (V H w []) w := Tb.start tab0 (fun _ _ => fps_nil _)
 have V_tab1 : Tb 1 (V H w []) w := Tb.start tab1 (fun _ _ => fps_nil _)
 refine calls_enter 70 Tryd.func6 rfl Tryd.ntmps6 (Nat.le_of_ble_eq_true rfl) (fun _ F0i => ?_)
 have F0 : Fr 70 [(0, .slice code_a code_n code_c)] _ := F0i
 clear F0i
 refine wp_seq (wp_region_lit (l_op (f_val F0 rfl rfl (r_assign rfl rfl) rfl fun _ F1 => ?_)))
 have F2 : Fr 70 [(2, .bool false), (0, .slice code_a code_n code_c)] _ := F1.cut rfl
 clear F0 F1
 refine s_end (x_normal (wp_seq (wp_seq (wp_region_lit (l_op (f_mv F2 rfl rfl rfl rfl rfl fun _ F3 => ?_))))))
 refine l_op (f_call F3 CF_15 rfl rfl rfl rfl (lc (F3.ev 15 rfl) rfl) (laws_big_c (code := code) V_v_code) ?_)
 rintro _ w4 ⟨rfl, m4⟩
 refine ⟨_, rfl, fun _ F5 => ?_⟩
 have S4 := At.frame0 (At.nil w) m4
 clear m4
 have F6 : Fr 70 [(16, .bool (decide (code.length > 1048576))), (0, .slice code_a code_n code_c)] _ := F5.cut rfl
 clear F2 F3 F5
 have T7 : Mv _ _ [] _ := S4
 refine s_end (x_normal (x_cond (p := code.length > 1048576) (F6.ev 16 rfl) (fun h8 => ?_) (fun h8 => ?_)))
 · skip
   refine wp_seq (wp_region_lit (l_op (f_val F6 rfl rfl (r_assign rfl rfl) rfl fun _ F9 => ?_)))
   have F10 : Fr 70 [(2, .bool true)] _ := F9.cut rfl
   clear F6 F9
   refine s_end (x_normal (wp_ret (x_then_ret ?_)))
   refine x_done (v := .bool true) F10 (results_1 Tryd.results6 (.tmp (F10.ev 2 rfl))) ?_
   exact ⟨rfl, (Mv.pick T7 [] rfl)⟩
 · skip
   refine wp_skip (x_normal (wp_seq (wp_region_lit (l_op (f_mv F6 rfl rfl rfl rfl rfl fun _ F11 => ?_)))))
   refine l_op (f_call F11 CF_16 rfl rfl rfl rfl (lc (F11.ev 17 rfl) rfl) (spec_DrawPlaces_c (code := code) (RdA.mv (Nat.succ_pos _) V_v_code T7) (by first | assumption | omega | (simp <;> omega))) ?_)
   rintro _ w12 ⟨p_12, r0_a_12, r0_n_12, r0_c_12, rfl, m12, v12_0, q12_0, q12_1⟩
   refine ⟨_, rfl, fun _ F13 => ?_⟩
   have S12 := At.frame0 T7.at' m12
   have V12_0 := Rd.got0 T7.at' (T7.kp.size) v12_0 S12
   obtain ⟨ln12_0, le12_0, mx12_0, ni12_0⟩ := Rd.inv V12_0
   clear m12 v12_0
   refine l_op (f_as F13 rfl rfl rfl rfl rfl fun _ F14 => ?_)
   have F15 : Fr 70 [(3, .slice r0_a_12 r0_n_12 r0_c_12)] _ := F14.cut rfl
   clear F6 F11 F13 F14
   have T16 : Mv _ _ [] _ := S12
   refine s_end (x_normal (wp_seq (wp_region_lit (l_op (f_call F15 CF_17 rfl rfl rfl rfl rfl (laws_base_c (H := V H w [])  ) ?_)))))
   rintro _ w17 ⟨r0_store_a_17, r0_store_n_17, r0_store_c_17, r0_touch_reads_a_17, r0_touch_reads_n_17, r0_touch_reads_c_17, r0_touch_writes_a_17, r0_touch_writes_n_17, r0_touch_writes_c_17, rfl, m17, v17_0, v17_1, v17_2⟩
   refine ⟨_, rfl, fun _ F18 => ?_⟩
   have S17 := At.frame0 T16.at' m17
   have V17_0 := Rd.got0 T16.at' ((T7.trans T16).kp.size) v17_0 S17
   obtain ⟨ln17_0, le17_0, mx17_0, ni17_0⟩ := Rd.inv V17_0
   have V17_1 := Rd.got0 T16.at' ((T7.trans T16).kp.size) v17_1 S17
   obtain ⟨ln17_1, le17_1, mx17_1, ni17_1⟩ := Rd.inv V17_1
   have V17_2 := Rd.got0 T16.at' ((T7.trans T16).kp.size) v17_2 S17
   obtain ⟨ln17_2, le17_2, mx17_2, ni17_2⟩ := Rd.inv V17_2
   clear m17 v17_0 v17_1 v17_2
   refine l_op (f_alloc F18 S17.at' ZI_31 rfl rfl rfl rfl rfl fun b19 _ w19 F20 S19 => ?_)
   refine l_op (s_store S19.at' 0 TI_31 rfl rfl rfl rfl rfl (F20.ev 4 rfl) (F20.ev 19 rfl) rfl rfl rfl rfl rfl fun w21 S21 => ?_)
   have F22 : Fr 70 [(4, .pointer (some ⟨b19, 0, none⟩)), (19, .agg #[.slice r0_store_a_17 r0_store_n_17 r0_store_c_17, .slice r0_touch_reads_a_17 r0_touch_reads_n_17 r0_touch_reads_c_17, .slice r0_touch_writes_a_17 r0_touch_writes_n_17 r0_touch_writes_c_17]), (3, .slice r0_a_12 r0_n_12 r0_c_12)] _ := F20.cut rfl
   clear F15 F18 F20
   have T23 : Mv _ _ [bx b19 [.slice r0_store_a_17 r0_store_n_17 r0_store_c_17, .slice r0_touch_reads_a_17 r0_touch_reads_n_17 r0_touch_reads_c_17, .slice r0_touch_writes_a_17 r0_touch_writes_n_17 r0_touch_writes_c_17] 31] _ := S21
   refine s_end (x_normal (wp_seq (wp_seq (wp_region_lit (l_op (f_val F22 rfl rfl (r_assign rfl rfl) rfl fun _ F24 => ?_))))))
   have F25 : Fr 70 [(5, .int .i64 1), (4, .pointer (some ⟨b19, 0, none⟩)), (3, .slice r0_a_12 r0_n_12 r0_c_12)] _ := F24.cut rfl
   clear F22 F24
   refine s_end (x_normal (wp_block ?_))
   refine x_loop (fun (k : Nat) aZ wZ => ∃ (M : MachD), ∃ (sa : Option Addr), ∃ (sn : Nat), ∃ (sc : Nat), ∃ (ra : Option Addr), ∃ (rn : Nat), ∃ (rc : Nat), ∃ (ua : Option Addr), ∃ (un : Nat), ∃ (uc : Nat), Fr 70 [(5, .int .i64 ((k + 1 : Nat) : Int)), (4, .pointer (some ⟨b19, 0, none⟩)), (3, .slice r0_a_12 r0_n_12 r0_c_12)] aZ ∧ Mv [bx b19 [.slice r0_store_a_17 r0_store_n_17 r0_store_c_17, .slice r0_touch_reads_a_17 r0_touch_reads_n_17 r0_touch_reads_c_17, .slice r0_touch_writes_a_17 r0_touch_writes_n_17 r0_touch_writes_c_17] 31] w21 [bx b19 [.slice sa sn sc, .slice ra rn rc, .slice ua un uc] 31] wZ ∧ Rd 2 encC okC (V H w [bx b19 [.slice sa sn sc, .slice ra rn rc, .slice ua un uc] 31]) wZ (.slice sa sn sc) M.store ∧ Rd 1 encS okS (V H w [bx b19 [.slice sa sn sc, .slice ra rn rc, .slice ua un uc] 31]) wZ (.slice ra rn rc) M.touch.reads ∧ Rd 1 encS okS (V H w [bx b19 [.slice sa sn sc, .slice ra rn rc, .slice ua un uc] 31]) wZ (.slice ua un uc) M.touch.writes ∧ (procs k M) ∧ (k ≤ 12)) (fun (k : Nat) => 12 - k) (0) ?_ ?_
   · exact ⟨(⟨[], (⟨[], []⟩ : TouchD)⟩ : MachD), r0_store_a_17, r0_store_n_17, r0_store_c_17, r0_touch_reads_a_17, r0_touch_reads_n_17, r0_touch_reads_c_17, r0_touch_writes_a_17, r0_touch_writes_n_17, r0_touch_writes_c_17, F25.cut rfl, (Mv.refl T23.at'), (Rd.mv (Nat.succ_pos _) V17_0 (S19.trans T23)), (Rd.mv (Nat.succ_pos _) V17_1 (S19.trans T23)), (Rd.mv (Nat.succ_pos _) V17_2 (S19.trans T23)), procs_base, by omega⟩
   · rintro k a26 w26 ⟨M, sa, sn, sc, ra, rn, rc, ua, un, uc, F26, S26, W26_0, W26_1, W26_2, hk_0, hk_1⟩
     obtain ⟨lv26_0, lw26_0, lx26_0, ly26_0⟩ := Rd.inv W26_0
     obtain ⟨lv26_1, lw26_1, lx26_1, ly26_1⟩ := Rd.inv W26_1
     obtain ⟨lv26_2, lw26_2, lx26_2, ly26_2⟩ := Rd.inv W26_2
     have hbM := hk_0.2.2
     refine wp_seq (wp_seq (wp_region_lit (l_op (f_mv F26 rfl rfl rfl rfl rfl fun _ F27 => ?_))))
     refine l_op (f_val F27 rfl rfl (r_cmp (b := decide (k + 1 ≤ 12)) (.inr (.inr (.inr (.inl rfl)))) rfl (F27.ev 20 rfl) rfl (dec_of (by omega))) rfl fun _ F28 => ?_)
     have F29 : Fr 70 [(21, .bool (decide (k + 1 ≤ 12))), (5, .int .i64 ((k + 1 : Nat) : Int)), (4, .pointer (some ⟨b19, 0, none⟩)), (3, .slice r0_a_12 r0_n_12 r0_c_12)] _ := F28.cut rfl
     clear F26 F27 F28
     refine s_end (x_normal (x_cond (p := k + 1 ≤ 12) (F29.ev 21 rfl) (fun h30 => ?_) (fun h30 => ?_)))
     · skip
       refine wp_skip (x_normal (wp_seq (wp_block (wp_seq (wp_region_lit (l_op (f_val F29 rfl rfl (r_assign rfl rfl) rfl fun _ F31 => ?_)))))))
       have F32 : Fr 70 [(6, .int .i64 0), (5, .int .i64 ((k + 1 : Nat) : Int)), (4, .pointer (some ⟨b19, 0, none⟩)), (3, .slice r0_a_12 r0_n_12 r0_c_12)] _ := F31.cut rfl
       clear F29 F31
       refine s_end (x_normal (wp_seq (wp_region_lit (l_op (f_val (v := .agg #[.slice sa sn sc, .slice ra rn rc, .slice ua un uc]) F32 rfl rfl (r_loadB S26.at' 0 TI_31 rfl rfl (F32.ev 4 rfl) rfl rfl (fun h => nomatch h) rfl) rfl fun _ F33 => ?_)))))
       refine l_op (f_call F33 CF_24 rfl rfl rfl rfl (lc (F33.ev 25 rfl) (lc rfl rfl)) (impl_SpawnProc_c (m := M) (parent := 1) W26_0 W26_1 W26_2 (by first | assumption | exact ⟨by omega, by omega⟩ | (unfold i64ok at *; omega)) (Tb.mv V_tab0 (T7.trans (T16.trans (S17.trans (S19.trans (T23.trans S26)))))) (Tb.mv V_tab1 (T7.trans (T16.trans (S17.trans (S19.trans (T23.trans S26)))))) (by first | assumption | omega | (refine bdC.s ?_; (repeat (first | with_reducible refine bdC.look ?_ | with_reducible refine bdC.lay ?_ | with_reducible refine bdC.set ?_ | with_reducible refine bdC.spawn ?_ | with_reducible refine bdC.ends ?_)); exact bdC.le (by assumption) (by first | decide | omega)) | (refine bdC.r ?_; (repeat (first | with_reducible refine bdC.look ?_ | with_reducible refine bdC.lay ?_ | with_reducible refine bdC.set ?_ | with_reducible refine bdC.spawn ?_ | with_reducible refine bdC.ends ?_)); exact bdC.le (by assumption) (by first | decide | omega)) | (refine bdC.w ?_; (repeat (first | with_reducible refine bdC.look ?_ | with_reducible refine bdC.lay ?_ | with_reducible refine bdC.set ?_ | with_reducible refine bdC.spawn ?_ | with_reducible refine bdC.ends ?_)); exact bdC.le (by assumption) (by first | decide | omega)) | ((repeat (first | with_reducible refine bdC.look ?_ | with_reducible refine bdC.lay ?_ | with_reducible refine bdC.set ?_ | with_reducible refine bdC.spawn ?_ | with_reducible refine bdC.ends ?_)); exact bdC.le (by assumption) (by first | decide | omega)) | decide | exact Nat.le_trans (keyNum_size _ _ (by assumption)) (by decide) | exact Nat.le_trans (keyNum_size _ _ ⟨by omega, by omega⟩) (by decide))) ?_)
       rintro _ w34 ⟨r0_store_a_34, r0_store_n_34, r0_store_c_34, r0_touch_reads_a_34, r0_touch_reads_n_34, r0_touch_reads_c_34, r0_touch_writes_a_34, r0_touch_writes_n_34, r0_touch_writes_c_34, rfl, m34⟩
       refine ⟨_, rfl, fun _ F35 => ?_⟩
       have S34 : Mv _ _ [ow 81 2 encC okC (.slice r0_store_a_34 r0_store_n_34 r0_store_c_34) (spawnM M 1).store, ow 9 1 encS okS (.slice r0_touch_reads_a_34 r0_touch_reads_n_34 r0_touch_reads_c_34) (spawnM M 1).touch.reads, ow 9 1 encS okS (.slice r0_touch_writes_a_34 r0_touch_writes_n_34 r0_touch_writes_c_34) (spawnM M 1).touch.writes, bx b19 [.slice sa sn sc, .slice ra rn rc, .slice ua un uc] 31] _ := At.frame S26.at' [] rfl m34
       obtain ⟨lo34_0, lp34_0, lq34_0⟩ := At.ownInv S34.at' ET_26.hk 0 rfl
       obtain ⟨lo34_1, lp34_1, lq34_1⟩ := At.ownInv S34.at' ET_27.hk 1 rfl
       obtain ⟨lo34_2, lp34_2, lq34_2⟩ := At.ownInv S34.at' ET_27.hk 2 rfl
       clear m34
       refine l_op (f_mv F35 rfl rfl rfl rfl rfl fun _ F36 => ?_)
       refine l_op (f_val (v := .agg #[.slice r0_store_a_34 r0_store_n_34 r0_store_c_34, .slice r0_touch_reads_a_34 r0_touch_reads_n_34 r0_touch_reads_c_34, .slice r0_touch_writes_a_34 r0_touch_writes_n_34 r0_touch_writes_c_34]) F36 rfl rfl (r_extract rfl (F36.ev 24 rfl) rfl) rfl fun _ F37 => ?_)
       refine l_op (f_val (v := .int .i64 ((spawnI M : Nat) : Int)) F37 rfl rfl (r_extract rfl (F37.ev 24 rfl) rfl) rfl fun _ F38 => ?_)
       refine l_op (f_val (v := .int .i64 (spawnC M)) F38 rfl rfl (r_extract rfl (F38.ev 24 rfl) rfl) rfl fun _ F39 => ?_)
       refine l_op (s_store S34.at' 3 TI_31 rfl rfl rfl rfl rfl (F39.ev 4 rfl) (F39.ev 27 rfl) rfl rfl rfl rfl rfl fun w40 S40 => ?_)
       refine l_op (f_as F39 rfl rfl rfl rfl rfl fun _ F41 => ?_)
       have F42 : Fr 70 [(6, .int .i64 ((spawnI M : Nat) : Int)), (5, .int .i64 ((k + 1 : Nat) : Int)), (4, .pointer (some ⟨b19, 0, none⟩)), (3, .slice r0_a_12 r0_n_12 r0_c_12)] _ := F41.cut rfl
       clear F32 F33 F35 F36 F37 F38 F39 F41
       have T43 : Mv _ _ [bx b19 [.slice r0_store_a_34 r0_store_n_34 r0_store_c_34, .slice r0_touch_reads_a_34 r0_touch_reads_n_34 r0_touch_reads_c_34, .slice r0_touch_writes_a_34 r0_touch_writes_n_34 r0_touch_writes_c_34] 31, ow 81 2 encC okC (.slice r0_store_a_34 r0_store_n_34 r0_store_c_34) (spawnM M 1).store, ow 9 1 encS okS (.slice r0_touch_reads_a_34 r0_touch_reads_n_34 r0_touch_reads_c_34) (spawnM M 1).touch.reads, ow 9 1 encS okS (.slice r0_touch_writes_a_34 r0_touch_writes_n_34 r0_touch_writes_c_34) (spawnM M 1).touch.writes] _ := S40
       refine s_end (x_normal (wp_seq (wp_region_lit (l_op (f_mv F42 rfl rfl rfl rfl rfl fun _ F44 => ?_)))))
       refine l_op (f_mv F44 rfl rfl rfl rfl rfl fun _ F45 => ?_)
       refine l_op (f_val F45 rfl rfl (r_cmp (b := decide (spawnI M ≠ k + 1)) (.inr (.inl rfl)) rfl (F45.ev 30 rfl) (F45.ev 31 rfl) (dec_of (by omega))) rfl fun _ F46 => ?_)
       rw [show (decide (spawnI M ≠ k + 1)) = false from decide_eq_false (fun h => h (procs.step hk_0 (by omega)).1)] at F46
       have F47 : Fr 70 [(32, .bool false), (5, .int .i64 ((k + 1 : Nat) : Int)), (4, .pointer (some ⟨b19, 0, none⟩)), (3, .slice r0_a_12 r0_n_12 r0_c_12)] _ := F46.cut rfl
       clear F42 F44 F45 F46
       refine s_end (x_normal (wp_cond_false (F47.ev 32 rfl) (wp_skip (x_block_normal (x_normal (wp_region_lit (l_op (f_mv F47 rfl rfl rfl rfl rfl fun _ F48 => ?_))))))))
       refine l_op (f_val F48 rfl rfl (r_add (z := (((k + 1) + 1 : Nat) : Int)) rfl (F48.ev 22 rfl) rfl (by first | rfl | omega) ⟨by first | omega | (unfold i64ok at *; omega), by first | omega | (unfold i64ok at *; omega)⟩) rfl fun _ F49 => ?_)
       refine l_op (f_as F49 rfl rfl rfl rfl rfl fun _ F50 => ?_)
       have F51 : Fr 70 [(5, .int .i64 (((k + 1) + 1 : Nat) : Int)), (4, .pointer (some ⟨b19, 0, none⟩)), (3, .slice r0_a_12 r0_n_12 r0_c_12)] _ := F50.cut rfl
       clear F47 F48 F49 F50
       refine s_end ?_
       have Z52 : Rd 2 encC okC (V H w [bx b19 [.slice r0_store_a_34 r0_store_n_34 r0_store_c_34, .slice r0_touch_reads_a_34 r0_touch_reads_n_34 r0_touch_reads_c_34, .slice r0_touch_writes_a_34 r0_touch_writes_n_34 r0_touch_writes_c_34] 31, ow 9 1 encS okS (.slice r0_touch_reads_a_34 r0_touch_reads_n_34 r0_touch_reads_c_34) (spawnM M 1).touch.reads, ow 9 1 encS okS (.slice r0_touch_writes_a_34 r0_touch_writes_n_34 r0_touch_writes_c_34) (spawnM M 1).touch.writes]) w40 (.slice r0_store_a_34 r0_store_n_34 r0_store_c_34) (spawnM M 1).store := At.freeze (T7.trans (T16.trans (S17.trans (S19.trans (T23.trans (S26.trans (S34.trans T43))))))) ET_26.hk 1 rfl (fun b hb => ((T7.trans (T16.trans (S17.trans (S19.trans (T23.trans (S26.trans (S34.trans T43))))))).fresh b ⟨_, nth_mem (i := 1) rfl, hb⟩).resolve_left (fps_nil _))
       have S52 := At.drop T43.at' 1
       have Z53 : Rd 1 encS okS (V H w [bx b19 [.slice r0_store_a_34 r0_store_n_34 r0_store_c_34, .slice r0_touch_reads_a_34 r0_touch_reads_n_34 r0_touch_reads_c_34, .slice r0_touch_writes_a_34 r0_touch_writes_n_34 r0_touch_writes_c_34] 31, ow 9 1 encS okS (.slice r0_touch_writes_a_34 r0_touch_writes_n_34 r0_touch_writes_c_34) (spawnM M 1).touch.writes]) w40 (.slice r0_touch_reads_a_34 r0_touch_reads_n_34 r0_touch_reads_c_34) (spawnM M 1).touch.reads := At.freeze (T7.trans (T16.trans (S17.trans (S19.trans (T23.trans (S26.trans (S34.trans (T43.trans S52)))))))) ET_27.hk 1 rfl (fun b hb => ((T7.trans (T16.trans (S17.trans (S19.trans (T23.trans (S26.trans (S34.trans (T43.trans S52)))))))).fresh b ⟨_, nth_mem (i := 1) rfl, hb⟩).resolve_left (fps_nil _))
       have S53 := At.drop S52.at' 1
       have Z54 : Rd 1 encS okS (V H w [bx b19 [.slice r0_store_a_34 r0_store_n_34 r0_store_c_34, .slice r0_touch_reads_a_34 r0_touch_reads_n_34 r0_touch_reads_c_34, .slice r0_touch_writes_a_34 r0_touch_writes_n_34 r0_touch_writes_c_34] 31]) w40 (.slice r0_touch_writes_a_34 r0_touch_writes_n_34 r0_touch_writes_c_34) (spawnM M 1).touch.writes := At.freeze (T7.trans (T16.trans (S17.trans (S19.trans (T23.trans (S26.trans (S34.trans (T43.trans (S52.trans S53))))))))) ET_27.hk 1 rfl (fun b hb => ((T7.trans (T16.trans (S17.trans (S19.trans (T23.trans (S26.trans (S34.trans (T43.trans (S52.trans S53))))))))).fresh b ⟨_, nth_mem (i := 1) rfl, hb⟩).resolve_left (fps_nil _))
       have S54 := At.drop S53.at' 1
       refine x_normal ⟨k + 1, by omega, (spawnM M 1), r0_store_a_34, r0_store_n_34, r0_store_c_34, r0_touch_reads_a_34, r0_touch_reads_n_34, r0_touch_reads_c_34, r0_touch_writes_a_34, r0_touch_writes_n_34, r0_touch_writes_c_34, F51.cut rfl, ((S26.trans (S34.trans (T43.trans (S52.trans (S53.trans S54))))).pick [0] rfl), (Rd.mv (Nat.succ_pos _) Z52 (S53.trans S54)), (Rd.mv (Nat.succ_pos _) Z53 S54), Z54, (procs.step hk_0 (by omega)).2, by omega⟩
     · skip
       refine wp_exit (x_then_exit (x_then_exit (x_block_here (x_normal (wp_seq ?_)))))
       have hP : procs 12 M := (show k = 12 by omega) ▸ hk_0
       refine wp_region_lit (l_op (f_val (v := .agg #[.slice sa sn sc, .slice ra rn rc, .slice ua un uc]) F29 rfl rfl (r_loadB S26.at' 0 TI_31 rfl rfl (F29.ev 4 rfl) rfl rfl (fun h => nomatch h) rfl) rfl fun _ F55 => ?_))
       refine l_op (f_call F55 CF_24 rfl rfl rfl rfl (lc (F55.ev 34 rfl) (lc rfl rfl)) (impl_SpawnProc_c (m := M) (parent := 1) W26_0 W26_1 W26_2 (by first | assumption | exact ⟨by omega, by omega⟩ | (unfold i64ok at *; omega)) (Tb.mv V_tab0 (T7.trans (T16.trans (S17.trans (S19.trans (T23.trans S26)))))) (Tb.mv V_tab1 (T7.trans (T16.trans (S17.trans (S19.trans (T23.trans S26)))))) (by first | assumption | omega | (refine bdC.s ?_; (repeat (first | with_reducible refine bdC.look ?_ | with_reducible refine bdC.lay ?_ | with_reducible refine bdC.set ?_ | with_reducible refine bdC.spawn ?_ | with_reducible refine bdC.ends ?_)); exact bdC.le (by assumption) (by first | decide | omega)) | (refine bdC.r ?_; (repeat (first | with_reducible refine bdC.look ?_ | with_reducible refine bdC.lay ?_ | with_reducible refine bdC.set ?_ | with_reducible refine bdC.spawn ?_ | with_reducible refine bdC.ends ?_)); exact bdC.le (by assumption) (by first | decide | omega)) | (refine bdC.w ?_; (repeat (first | with_reducible refine bdC.look ?_ | with_reducible refine bdC.lay ?_ | with_reducible refine bdC.set ?_ | with_reducible refine bdC.spawn ?_ | with_reducible refine bdC.ends ?_)); exact bdC.le (by assumption) (by first | decide | omega)) | ((repeat (first | with_reducible refine bdC.look ?_ | with_reducible refine bdC.lay ?_ | with_reducible refine bdC.set ?_ | with_reducible refine bdC.spawn ?_ | with_reducible refine bdC.ends ?_)); exact bdC.le (by assumption) (by first | decide | omega)) | decide | exact Nat.le_trans (keyNum_size _ _ (by assumption)) (by decide) | exact Nat.le_trans (keyNum_size _ _ ⟨by omega, by omega⟩) (by decide))) ?_)
       rintro _ w56 ⟨r0_store_a_56, r0_store_n_56, r0_store_c_56, r0_touch_reads_a_56, r0_touch_reads_n_56, r0_touch_reads_c_56, r0_touch_writes_a_56, r0_touch_writes_n_56, r0_touch_writes_c_56, rfl, m56⟩
       refine ⟨_, rfl, fun _ F57 => ?_⟩
       have S56 : Mv _ _ [ow 81 2 encC okC (.slice r0_store_a_56 r0_store_n_56 r0_store_c_56) (spawnM M 1).store, ow 9 1 encS okS (.slice r0_touch_reads_a_56 r0_touch_reads_n_56 r0_touch_reads_c_56) (spawnM M 1).touch.reads, ow 9 1 encS okS (.slice r0_touch_writes_a_56 r0_touch_writes_n_56 r0_touch_writes_c_56) (spawnM M 1).touch.writes, bx b19 [.slice sa sn sc, .slice ra rn rc, .slice ua un uc] 31] _ := At.frame S26.at' [] rfl m56
       obtain ⟨lo56_0, lp56_0, lq56_0⟩ := At.ownInv S56.at' ET_26.hk 0 rfl
       obtain ⟨lo56_1, lp56_1, lq56_1⟩ := At.ownInv S56.at' ET_27.hk 1 rfl
       obtain ⟨lo56_2, lp56_2, lq56_2⟩ := At.ownInv S56.at' ET_27.hk 2 rfl
       clear m56
       refine l_op (f_mv F57 rfl rfl rfl rfl rfl fun _ F58 => ?_)
       refine l_op (f_val (v := .agg #[.slice r0_store_a_56 r0_store_n_56 r0_store_c_56, .slice r0_touch_reads_a_56 r0_touch_reads_n_56 r0_touch_reads_c_56, .slice r0_touch_writes_a_56 r0_touch_writes_n_56 r0_touch_writes_c_56]) F58 rfl rfl (r_extract rfl (F58.ev 33 rfl) rfl) rfl fun _ F59 => ?_)
       refine l_op (f_val (v := .int .i64 ((spawnI M : Nat) : Int)) F59 rfl rfl (r_extract rfl (F59.ev 33 rfl) rfl) rfl fun _ F60 => ?_)
       refine l_op (f_val (v := .int .i64 (spawnC M)) F60 rfl rfl (r_extract rfl (F60.ev 33 rfl) rfl) rfl fun _ F61 => ?_)
       refine l_op (f_alloc F61 S56.at' ZI_31 rfl rfl rfl rfl rfl fun b62 _ w62 F63 S62 => ?_)
       refine l_op (s_store S62.at' 0 TI_31 rfl rfl rfl rfl rfl (F63.ev 7 rfl) (F63.ev 36 rfl) rfl rfl rfl rfl rfl fun w64 S64 => ?_)
       refine l_op (f_as F63 rfl rfl rfl rfl rfl fun _ F65 => ?_)
       refine l_op (f_as F65 rfl rfl rfl rfl rfl fun _ F66 => ?_)
       have F67 : Fr 70 [(9, .int .i64 (spawnC M)), (8, .int .i64 ((spawnI M : Nat) : Int)), (4, .pointer (some ⟨b19, 0, none⟩)), (3, .slice r0_a_12 r0_n_12 r0_c_12)] _ := F66.cut rfl
       clear F29 F55 F57 F58 F59 F60 F61 F63 F65 F66
       have T68 : Mv _ _ [bx b62 [.slice r0_store_a_56 r0_store_n_56 r0_store_c_56, .slice r0_touch_reads_a_56 r0_touch_reads_n_56 r0_touch_reads_c_56, .slice r0_touch_writes_a_56 r0_touch_writes_n_56 r0_touch_writes_c_56] 31, ow 81 2 encC okC (.slice r0_store_a_56 r0_store_n_56 r0_store_c_56) (spawnM M 1).store, ow 9 1 encS okS (.slice r0_touch_reads_a_56 r0_touch_reads_n_56 r0_touch_reads_c_56) (spawnM M 1).touch.reads, ow 9 1 encS okS (.slice r0_touch_writes_a_56 r0_touch_writes_n_56 r0_touch_writes_c_56) (spawnM M 1).touch.writes, bx b19 [.slice sa sn sc, .slice ra rn rc, .slice ua un uc] 31] _ := S64
       refine s_end (x_normal (wp_seq (wp_region_lit (l_op (f_mv F67 rfl rfl rfl rfl rfl fun _ F69 => ?_)))))
       obtain ⟨B70, O70, x1, ad70, hx1, okx1, ln70, cl70⟩ := Rd.at (Rd.mv (Nat.succ_pos _) V12_0 (S17.trans (S19.trans (T23.trans (S26.trans (S56.trans (S62.trans T68))))))) 0 (by first | assumption | omega)
       clear ln70
       refine l_op (f_val F69 rfl rfl (r_indexAddr (i := 0) ET_24 rfl ((F69.ev 39 rfl).trans (by rw [ad70])) rfl (by omega) (by first | assumption | omega)) rfl fun _ F71 => ?_)
       refine l_op (f_val (v := .int .i64 x1) F71 rfl rfl (r_load (cs := [.int .i64 x1]) TI_3 rfl (F71.ev 40 rfl) rfl (fun _ => rfl) (elem_sub (f := 0) cl70 [.int .i64 x1] rfl)) rfl fun _ F72 => ?_)
       have pb73 := pOk_at (by assumption) hx1
       obtain ⟨r73, hr73, lr73⟩ := rem_nat (c := 12) pb73 (by decide)
       refine l_op (f_val F72 rfl rfl ((r_remI (c := 12) rfl (by decide) rfl (F72.ev 41 rfl) rfl).trans (by rw [hr73])) rfl fun _ F74 => ?_)
       refine l_op (f_val F74 rfl rfl (r_add (z := ((1 + r73 : Nat) : Int)) rfl rfl (F74.ev 42 rfl) (by first | rfl | omega) ⟨by first | omega | (unfold i64ok at *; omega), by first | omega | (unfold i64ok at *; omega)⟩) rfl fun _ F75 => ?_)
       refine l_op (f_as F75 rfl rfl rfl rfl rfl fun _ F76 => ?_)
       have F77 : Fr 70 [(10, .int .i64 ((1 + r73 : Nat) : Int)), (9, .int .i64 (spawnC M)), (8, .int .i64 ((spawnI M : Nat) : Int)), (4, .pointer (some ⟨b19, 0, none⟩))] _ := F76.cut rfl
       clear F67 F69 F71 F72 F74 F75 F76
       refine s_end (x_normal (wp_seq (wp_region_lit (l_op (f_val (v := .agg #[.slice sa sn sc, .slice ra rn rc, .slice ua un uc]) F77 rfl rfl (r_loadB T68.at' 4 TI_31 rfl rfl (F77.ev 4 rfl) rfl rfl (fun h => nomatch h) rfl) rfl fun _ F78 => ?_)))))
       refine l_op (f_mv F78 rfl rfl rfl rfl rfl fun _ F79 => ?_)
       refine l_op (f_call F79 CF_25 rfl rfl rfl rfl (lc (F79.ev 45 rfl) (lc (F79.ev 46 rfl) (lc rfl rfl))) (impl_EndProc_c (m := M) (id := ((1 + r73 : Nat) : Int)) (n := 3) (Rd.mv (Nat.succ_pos _) W26_0 (S56.trans (S62.trans T68))) (Rd.mv (Nat.succ_pos _) W26_1 (S56.trans (S62.trans T68))) (Rd.mv (Nat.succ_pos _) W26_2 (S56.trans (S62.trans T68))) (by first | assumption | exact ⟨by omega, by omega⟩ | (unfold i64ok at *; omega)) (by first | assumption | exact ⟨by omega, by omega⟩ | (unfold i64ok at *; omega)) (Tb.mv V_tab0 (T7.trans (T16.trans (S17.trans (S19.trans (T23.trans (S26.trans (S56.trans (S62.trans T68))))))))) (Tb.mv V_tab1 (T7.trans (T16.trans (S17.trans (S19.trans (T23.trans (S26.trans (S56.trans (S62.trans T68))))))))) (by first | assumption | omega | (refine bdC.s ?_; (repeat (first | with_reducible refine bdC.look ?_ | with_reducible refine bdC.lay ?_ | with_reducible refine bdC.set ?_ | with_reducible refine bdC.spawn ?_ | with_reducible refine bdC.ends ?_)); exact bdC.le (by assumption) (by first | decide | omega)) | (refine bdC.r ?_; (repeat (first | with_reducible refine bdC.look ?_ | with_reducible refine bdC.lay ?_ | with_reducible refine bdC.set ?_ | with_reducible refine bdC.spawn ?_ | with_reducible refine bdC.ends ?_)); exact bdC.le (by assumption) (by first | decide | omega)) | (refine bdC.w ?_; (repeat (first | with_reducible refine bdC.look ?_ | with_reducible refine bdC.lay ?_ | with_reducible refine bdC.set ?_ | with_reducible refine bdC.spawn ?_ | with_reducible refine bdC.ends ?_)); exact bdC.le (by assumption) (by first | decide | omega)) | ((repeat (first | with_reducible refine bdC.look ?_ | with_reducible refine bdC.lay ?_ | with_reducible refine bdC.set ?_ | with_reducible refine bdC.spawn ?_ | with_reducible refine bdC.ends ?_)); exact bdC.le (by assumption) (by first | decide | omega)) | decide | exact Nat.le_trans (keyNum_size _ _ (by assumption)) (by decide) | exact Nat.le_trans (keyNum_size _ _ ⟨by omega, by omega⟩) (by decide))) ?_)
       rintro _ w80 ⟨r0_store_a_80, r0_store_n_80, r0_store_c_80, r0_touch_reads_a_80, r0_touch_reads_n_80, r0_touch_reads_c_80, r0_touch_writes_a_80, r0_touch_writes_n_80, r0_touch_writes_c_80, rfl, m80⟩
       refine ⟨_, rfl, fun _ F81 => ?_⟩
       have S80 : Mv _ _ [ow 81 2 encC okC (.slice r0_store_a_80 r0_store_n_80 r0_store_c_80) (endM M ((1 + r73 : Nat) : Int) 3).store, ow 9 1 encS okS (.slice r0_touch_reads_a_80 r0_touch_reads_n_80 r0_touch_reads_c_80) (endM M ((1 + r73 : Nat) : Int) 3).touch.reads, ow 9 1 encS okS (.slice r0_touch_writes_a_80 r0_touch_writes_n_80 r0_touch_writes_c_80) (endM M ((1 + r73 : Nat) : Int) 3).touch.writes, bx b62 [.slice r0_store_a_56 r0_store_n_56 r0_store_c_56, .slice r0_touch_reads_a_56 r0_touch_reads_n_56 r0_touch_reads_c_56, .slice r0_touch_writes_a_56 r0_touch_writes_n_56 r0_touch_writes_c_56] 31, ow 81 2 encC okC (.slice r0_store_a_56 r0_store_n_56 r0_store_c_56) (spawnM M 1).store, ow 9 1 encS okS (.slice r0_touch_reads_a_56 r0_touch_reads_n_56 r0_touch_reads_c_56) (spawnM M 1).touch.reads, ow 9 1 encS okS (.slice r0_touch_writes_a_56 r0_touch_writes_n_56 r0_touch_writes_c_56) (spawnM M 1).touch.writes, bx b19 [.slice sa sn sc, .slice ra rn rc, .slice ua un uc] 31] _ := At.frame T68.at' [] rfl m80
       obtain ⟨lo80_0, lp80_0, lq80_0⟩ := At.ownInv S80.at' ET_26.hk 0 rfl
       obtain ⟨lo80_1, lp80_1, lq80_1⟩ := At.ownInv S80.at' ET_27.hk 1 rfl
       obtain ⟨lo80_2, lp80_2, lq80_2⟩ := At.ownInv S80.at' ET_27.hk 2 rfl
       clear m80
       refine l_op (f_mv F81 rfl rfl rfl rfl rfl fun _ F82 => ?_)
       refine l_op (f_val (v := .agg #[.slice r0_store_a_80 r0_store_n_80 r0_store_c_80, .slice r0_touch_reads_a_80 r0_touch_reads_n_80 r0_touch_reads_c_80, .slice r0_touch_writes_a_80 r0_touch_writes_n_80 r0_touch_writes_c_80]) F82 rfl rfl (r_extract rfl (F82.ev 44 rfl) rfl) rfl fun _ F83 => ?_)
       refine l_op (f_val (v := .int .i64 (endC M ((1 + r73 : Nat) : Int) 3)) F83 rfl rfl (r_extract rfl (F83.ev 44 rfl) rfl) rfl fun _ F84 => ?_)
       refine l_op (f_alloc F84 S80.at' ZI_31 rfl rfl rfl rfl rfl fun b85 _ w85 F86 S85 => ?_)
       refine l_op (s_store S85.at' 0 TI_31 rfl rfl rfl rfl rfl (F86.ev 11 rfl) (F86.ev 48 rfl) rfl rfl rfl rfl rfl fun w87 S87 => ?_)
       refine l_op (f_as F86 rfl rfl rfl rfl rfl fun _ F88 => ?_)
       have F89 : Fr 70 [(12, .int .i64 (endC M ((1 + r73 : Nat) : Int) 3)), (11, .pointer (some ⟨b85, 0, none⟩)), (10, .int .i64 ((1 + r73 : Nat) : Int)), (9, .int .i64 (spawnC M)), (8, .int .i64 ((spawnI M : Nat) : Int))] _ := F88.cut rfl
       clear F77 F78 F79 F81 F82 F83 F84 F86 F88
       have T90 : Mv _ _ [bx b85 [.slice r0_store_a_80 r0_store_n_80 r0_store_c_80, .slice r0_touch_reads_a_80 r0_touch_reads_n_80 r0_touch_reads_c_80, .slice r0_touch_writes_a_80 r0_touch_writes_n_80 r0_touch_writes_c_80] 31, ow 81 2 encC okC (.slice r0_store_a_80 r0_store_n_80 r0_store_c_80) (endM M ((1 + r73 : Nat) : Int) 3).store, ow 9 1 encS okS (.slice r0_touch_reads_a_80 r0_touch_reads_n_80 r0_touch_reads_c_80) (endM M ((1 + r73 : Nat) : Int) 3).touch.reads, ow 9 1 encS okS (.slice r0_touch_writes_a_80 r0_touch_writes_n_80 r0_touch_writes_c_80) (endM M ((1 + r73 : Nat) : Int) 3).touch.writes, bx b62 [.slice r0_store_a_56 r0_store_n_56 r0_store_c_56, .slice r0_touch_reads_a_56 r0_touch_reads_n_56 r0_touch_reads_c_56, .slice r0_touch_writes_a_56 r0_touch_writes_n_56 r0_touch_writes_c_56] 31, ow 81 2 encC okC (.slice r0_store_a_56 r0_store_n_56 r0_store_c_56) (spawnM M 1).store, ow 9 1 encS okS (.slice r0_touch_reads_a_56 r0_touch_reads_n_56 r0_touch_reads_c_56) (spawnM M 1).touch.reads, ow 9 1 encS okS (.slice r0_touch_writes_a_56 r0_touch_writes_n_56 r0_touch_writes_c_56) (spawnM M 1).touch.writes, bx b19 [.slice sa sn sc, .slice ra rn rc, .slice ua un uc] 31] _ := S87
       refine s_end (x_normal (wp_seq (wp_region_lit (l_op (f_val (v := .agg #[.slice r0_store_a_80 r0_store_n_80 r0_store_c_80, .slice r0_touch_reads_a_80 r0_touch_reads_n_80 r0_touch_reads_c_80, .slice r0_touch_writes_a_80 r0_touch_writes_n_80 r0_touch_writes_c_80]) F89 rfl rfl (r_loadB T90.at' 0 TI_31 rfl rfl (F89.ev 11 rfl) rfl rfl (fun h => nomatch h) rfl) rfl fun _ F91 => ?_)))))
       refine l_op (f_mv F91 rfl rfl rfl rfl rfl fun _ F92 => ?_)
       refine l_op (f_call F92 CF_25 rfl rfl rfl rfl (lc (F92.ev 51 rfl) (lc (F92.ev 52 rfl) (lc rfl rfl))) (impl_EndProc_c (H := fun _ => True) (m := (endM M ((1 + r73 : Nat) : Int) 3)) (id := ((1 + r73 : Nat) : Int)) (n := 3) (At.rd T90.at' ET_26.hk 1 rfl) (At.rd T90.at' ET_27.hk 2 rfl) (At.rd T90.at' ET_27.hk 3 rfl) (by first | assumption | exact ⟨by omega, by omega⟩ | (unfold i64ok at *; omega)) (by first | assumption | exact ⟨by omega, by omega⟩ | (unfold i64ok at *; omega)) (Tb.top (Tb.mv V_tab0 (T7.trans (T16.trans (S17.trans (S19.trans (T23.trans (S26.trans (S56.trans (S62.trans (T68.trans (S80.trans (S85.trans T90))))))))))))) (Tb.top (Tb.mv V_tab1 (T7.trans (T16.trans (S17.trans (S19.trans (T23.trans (S26.trans (S56.trans (S62.trans (T68.trans (S80.trans (S85.trans T90))))))))))))) (by first | assumption | omega | (refine bdC.s ?_; (repeat (first | with_reducible refine bdC.look ?_ | with_reducible refine bdC.lay ?_ | with_reducible refine bdC.set ?_ | with_reducible refine bdC.spawn ?_ | with_reducible refine bdC.ends ?_)); exact bdC.le (by assumption) (by first | decide | omega)) | (refine bdC.r ?_; (repeat (first | with_reducible refine bdC.look ?_ | with_reducible refine bdC.lay ?_ | with_reducible refine bdC.set ?_ | with_reducible refine bdC.spawn ?_ | with_reducible refine bdC.ends ?_)); exact bdC.le (by assumption) (by first | decide | omega)) | (refine bdC.w ?_; (repeat (first | with_reducible refine bdC.look ?_ | with_reducible refine bdC.lay ?_ | with_reducible refine bdC.set ?_ | with_reducible refine bdC.spawn ?_ | with_reducible refine bdC.ends ?_)); exact bdC.le (by assumption) (by first | decide | omega)) | ((repeat (first | with_reducible refine bdC.look ?_ | with_reducible refine bdC.lay ?_ | with_reducible refine bdC.set ?_ | with_reducible refine bdC.spawn ?_ | with_reducible refine bdC.ends ?_)); exact bdC.le (by assumption) (by first | decide | omega)) | decide | exact Nat.le_trans (keyNum_size _ _ (by assumption)) (by decide) | exact Nat.le_trans (keyNum_size _ _ ⟨by omega, by omega⟩) (by decide))) ?_)
       rintro _ w93 ⟨r0_store_a_93, r0_store_n_93, r0_store_c_93, r0_touch_reads_a_93, r0_touch_reads_n_93, r0_touch_reads_c_93, r0_touch_writes_a_93, r0_touch_writes_n_93, r0_touch_writes_c_93, rfl, m93⟩
       refine ⟨_, rfl, fun _ F94 => ?_⟩
       have S93 : Mv _ _ [ow 81 2 encC okC (.slice r0_store_a_93 r0_store_n_93 r0_store_c_93) (endM (endM M ((1 + r73 : Nat) : Int) 3) ((1 + r73 : Nat) : Int) 3).store, ow 9 1 encS okS (.slice r0_touch_reads_a_93 r0_touch_reads_n_93 r0_touch_reads_c_93) (endM (endM M ((1 + r73 : Nat) : Int) 3) ((1 + r73 : Nat) : Int) 3).touch.reads, ow 9 1 encS okS (.slice r0_touch_writes_a_93 r0_touch_writes_n_93 r0_touch_writes_c_93) (endM (endM M ((1 + r73 : Nat) : Int) 3) ((1 + r73 : Nat) : Int) 3).touch.writes, bx b85 [.slice r0_store_a_80 r0_store_n_80 r0_store_c_80, .slice r0_touch_reads_a_80 r0_touch_reads_n_80 r0_touch_reads_c_80, .slice r0_touch_writes_a_80 r0_touch_writes_n_80 r0_touch_writes_c_80] 31, ow 81 2 encC okC (.slice r0_store_a_80 r0_store_n_80 r0_store_c_80) (endM M ((1 + r73 : Nat) : Int) 3).store, ow 9 1 encS okS (.slice r0_touch_reads_a_80 r0_touch_reads_n_80 r0_touch_reads_c_80) (endM M ((1 + r73 : Nat) : Int) 3).touch.reads, ow 9 1 encS okS (.slice r0_touch_writes_a_80 r0_touch_writes_n_80 r0_touch_writes_c_80) (endM M ((1 + r73 : Nat) : Int) 3).touch.writes, bx b62 [.slice r0_store_a_56 r0_store_n_56 r0_store_c_56, .slice r0_touch_reads_a_56 r0_touch_reads_n_56 r0_touch_reads_c_56, .slice r0_touch_writes_a_56 r0_touch_writes_n_56 r0_touch_writes_c_56] 31, ow 81 2 encC okC (.slice r0_store_a_56 r0_store_n_56 r0_store_c_56) (spawnM M 1).store, ow 9 1 encS okS (.slice r0_touch_reads_a_56 r0_touch_reads_n_56 r0_touch_reads_c_56) (spawnM M 1).touch.reads, ow 9 1 encS okS (.slice r0_touch_writes_a_56 r0_touch_writes_n_56 r0_touch_writes_c_56) (spawnM M 1).touch.writes, bx b19 [.slice sa sn sc, .slice ra rn rc, .slice ua un uc] 31] _ := At.frame T90.at' [] rfl m93
       obtain ⟨lo93_0, lp93_0, lq93_0⟩ := At.ownInv S93.at' ET_26.hk 0 rfl
       obtain ⟨lo93_1, lp93_1, lq93_1⟩ := At.ownInv S93.at' ET_27.hk 1 rfl
       obtain ⟨lo93_2, lp93_2, lq93_2⟩ := At.ownInv S93.at' ET_27.hk 2 rfl
       clear m93
       refine l_op (f_mv F94 rfl rfl rfl rfl rfl fun _ F95 => ?_)
       refine l_op (f_val (v := .agg #[.slice r0_store_a_93 r0_store_n_93 r0_store_c_93, .slice r0_touch_reads_a_93 r0_touch_reads_n_93 r0_touch_reads_c_93, .slice r0_touch_writes_a_93 r0_touch_writes_n_93 r0_touch_writes_c_93]) F95 rfl rfl (r_extract rfl (F95.ev 50 rfl) rfl) rfl fun _ F96 => ?_)
       refine l_op (f_val (v := .int .i64 (endC (endM M ((1 + r73 : Nat) : Int) 3) ((1 + r73 : Nat) : Int) 3)) F96 rfl rfl (r_extract rfl (F96.ev 50 rfl) rfl) rfl fun _ F97 => ?_)
       refine l_op (f_alloc F97 S93.at' ZI_31 rfl rfl rfl rfl rfl fun b98 _ w98 F99 S98 => ?_)
       refine l_op (s_store S98.at' 0 TI_31 rfl rfl rfl rfl rfl (F99.ev 13 rfl) (F99.ev 54 rfl) rfl rfl rfl rfl rfl fun w100 S100 => ?_)
       refine l_op (f_as F99 rfl rfl rfl rfl rfl fun _ F101 => ?_)
       have F102 : Fr 70 [(14, .int .i64 (endC (endM M ((1 + r73 : Nat) : Int) 3) ((1 + r73 : Nat) : Int) 3)), (12, .int .i64 (endC M ((1 + r73 : Nat) : Int) 3)), (9, .int .i64 (spawnC M)), (8, .int .i64 ((spawnI M : Nat) : Int))] _ := F101.cut rfl
       clear F89 F91 F92 F94 F95 F96 F97 F99 F101
       have T103 : Mv _ _ [bx b98 [.slice r0_store_a_93 r0_store_n_93 r0_store_c_93, .slice r0_touch_reads_a_93 r0_touch_reads_n_93 r0_touch_reads_c_93, .slice r0_touch_writes_a_93 r0_touch_writes_n_93 r0_touch_writes_c_93] 31, ow 81 2 encC okC (.slice r0_store_a_93 r0_store_n_93 r0_store_c_93) (endM (endM M ((1 + r73 : Nat) : Int) 3) ((1 + r73 : Nat) : Int) 3).store, ow 9 1 encS okS (.slice r0_touch_reads_a_93 r0_touch_reads_n_93 r0_touch_reads_c_93) (endM (endM M ((1 + r73 : Nat) : Int) 3) ((1 + r73 : Nat) : Int) 3).touch.reads, ow 9 1 encS okS (.slice r0_touch_writes_a_93 r0_touch_writes_n_93 r0_touch_writes_c_93) (endM (endM M ((1 + r73 : Nat) : Int) 3) ((1 + r73 : Nat) : Int) 3).touch.writes, bx b85 [.slice r0_store_a_80 r0_store_n_80 r0_store_c_80, .slice r0_touch_reads_a_80 r0_touch_reads_n_80 r0_touch_reads_c_80, .slice r0_touch_writes_a_80 r0_touch_writes_n_80 r0_touch_writes_c_80] 31, ow 81 2 encC okC (.slice r0_store_a_80 r0_store_n_80 r0_store_c_80) (endM M ((1 + r73 : Nat) : Int) 3).store, ow 9 1 encS okS (.slice r0_touch_reads_a_80 r0_touch_reads_n_80 r0_touch_reads_c_80) (endM M ((1 + r73 : Nat) : Int) 3).touch.reads, ow 9 1 encS okS (.slice r0_touch_writes_a_80 r0_touch_writes_n_80 r0_touch_writes_c_80) (endM M ((1 + r73 : Nat) : Int) 3).touch.writes, bx b62 [.slice r0_store_a_56 r0_store_n_56 r0_store_c_56, .slice r0_touch_reads_a_56 r0_touch_reads_n_56 r0_touch_reads_c_56, .slice r0_touch_writes_a_56 r0_touch_writes_n_56 r0_touch_writes_c_56] 31, ow 81 2 encC okC (.slice r0_store_a_56 r0_store_n_56 r0_store_c_56) (spawnM M 1).store, ow 9 1 encS okS (.slice r0_touch_reads_a_56 r0_touch_reads_n_56 r0_touch_reads_c_56) (spawnM M 1).touch.reads, ow 9 1 encS okS (.slice r0_touch_writes_a_56 r0_touch_writes_n_56 r0_touch_writes_c_56) (spawnM M 1).touch.writes, bx b19 [.slice sa sn sc, .slice ra rn rc, .slice ua un uc] 31] _ := S100
       refine s_end (x_normal (wp_seq (wp_region_lit (l_op (f_mv F102 rfl rfl rfl rfl rfl fun _ F104 => ?_)))))
       refine l_op (f_val F104 rfl rfl (r_cmp (b := decide (spawnI M = 0)) (.inl rfl) rfl (F104.ev 56 rfl) rfl (dec_of (by omega))) rfl fun _ F105 => ?_)
       rw [show (decide (spawnI M = 0)) = true from decide_eq_true hP.full.1] at F105
       refine l_op (f_mv F105 rfl rfl rfl rfl rfl fun _ F106 => ?_)
       refine l_op (f_mv F106 (wanted_g F106 rfl rfl rfl rfl) rfl rfl rfl rfl fun _ F107 => ?_)
       refine l_op (f_val F107 (wanted_g F107 rfl rfl rfl rfl) rfl (r_cmp (b := decide ((spawnC M) = 3)) (.inl rfl) rfl (F107.ev 59 rfl) rfl (dec_of (by omega))) rfl fun _ F108 => ?_)
       rw [show (decide ((spawnC M) = 3)) = true from decide_eq_true hP.full.2] at F108
       refine l_op (f_val F108 rfl rfl (r_pick (b := true) rfl (F108.ev 58 rfl) (F108.ev 60 rfl)) rfl fun _ F109 => ?_)
       refine l_op (f_mv F109 rfl rfl rfl rfl rfl fun _ F110 => ?_)
       refine l_op (f_mv F110 (wanted_g F110 rfl rfl rfl rfl) rfl rfl rfl rfl fun _ F111 => ?_)
       refine l_op (f_val F111 (wanted_g F111 rfl rfl rfl rfl) rfl (r_cmp (b := decide ((endC M ((1 + r73 : Nat) : Int) 3) = 0)) (.inl rfl) rfl (F111.ev 63 rfl) rfl (dec_of (by omega))) rfl fun _ F112 => ?_)
       rw [show (decide ((endC M ((1 + r73 : Nat) : Int) 3) = 0)) = true from decide_eq_true (hP.ends (by omega)).1] at F112
       refine l_op (f_val F112 rfl rfl (r_pick (b := true) rfl (F112.ev 62 rfl) (F112.ev 64 rfl)) rfl fun _ F113 => ?_)
       refine l_op (f_mv F113 rfl rfl rfl rfl rfl fun _ F114 => ?_)
       refine l_op (f_mv F114 (wanted_g F114 rfl rfl rfl rfl) rfl rfl rfl rfl fun _ F115 => ?_)
       refine l_op (f_val F115 (wanted_g F115 rfl rfl rfl rfl) rfl (r_cmp (b := decide ((endC (endM M ((1 + r73 : Nat) : Int) 3) ((1 + r73 : Nat) : Int) 3) = 2)) (.inl rfl) rfl (F115.ev 67 rfl) rfl (dec_of (by omega))) rfl fun _ F116 => ?_)
       rw [show (decide ((endC (endM M ((1 + r73 : Nat) : Int) 3) ((1 + r73 : Nat) : Int) 3) = 2)) = true from decide_eq_true (hP.ends (by omega)).2] at F116
       refine l_op (f_val F116 rfl rfl (r_pick (b := true) rfl (F116.ev 66 rfl) (F116.ev 68 rfl)) rfl fun _ F117 => ?_)
       refine l_op (f_as F117 rfl rfl rfl rfl rfl fun _ F118 => ?_)
       have F119 : Fr 70 [(2, .bool true)] _ := F118.cut rfl
       clear F102 F104 F105 F106 F107 F108 F109 F110 F111 F112 F113 F114 F115 F116 F117 F118
       refine s_end (x_normal (wp_ret ?_))
       refine x_done (v := .bool true) F119 (results_1 Tryd.results6 (.tmp (F119.ev 2 rfl))) ?_
       exact ⟨rfl, (Mv.pick (T7.trans (T16.trans (S17.trans (S19.trans (T23.trans (S26.trans (S56.trans (S62.trans (T68.trans (S80.trans (S85.trans (T90.trans (S93.trans (S98.trans T103)))))))))))))) [] rfl)⟩
end Go.Proofs.YtjiplnaceiofmaaDoor
namespace Go.Proofs.YtjiplnaceiofmaaDoor.proclimit
open Go.ChangeShapes Go.WideShapes Go.ChangeAt Go.RowKit
set_option maxRecDepth 100000
theorem cells_5 : Tryd.prog.cellsOf 5 = 1 := by kernel_rfl
theorem starE : "*" ++ "errors.errorString" = "*errors.errorString" := by decide
theorem rowE (u : TypeId) (h : Tryd.prog.typeName? 3 u = some "*errors.errorString") : u = 184 :=
  typeName_ptr_named (nm := "errors.errorString") (by rw [starE]; kernel_rfl) (by kernel_rfl) (by decide) u (by rw [starE]; exact h)
theorem cellsE : Tryd.prog.cellsOf 186 = 1 := by kernel_rfl
theorem cells_9 : Tryd.prog.cellsOf 9 = 1 := by kernel_rfl
theorem ground0 {W : World} (h : laidMet Tryd.prog [("math/bits.deBruijn32tab", Rows.laid_math_bits_deBruijn32tab), ("math/bits.deBruijn64tab", Rows.laid_math_bits_deBruijn64tab), ("internal/strconv.uint64pow10", Rows.laid_internal_strconv_uint64pow10), ("strconv.ErrRange", Rows.laid_strconv_ErrRange), ("strconv.ErrSyntax", Rows.laid_strconv_ErrSyntax)] W) : Tb 0 (fun _ => True) W := by
  have e : (Rows.laid_internal_strconv_uint64pow10 : DataW Unit) = Lib.tabData .u64 Lib.pow10Tab := by kernel_rfl
  have h2 : laidMet Tryd.prog (("internal/strconv.uint64pow10", Lib.tabData .u64 Lib.pow10Tab) :: [("strconv.ErrRange", Rows.laid_strconv_ErrRange), ("strconv.ErrSyntax", Rows.laid_strconv_ErrSyntax)]) W := by rw [← e]; exact h.tail.tail
  have h3 : Lib.TabIs Tryd.prog W "internal/strconv.uint64pow10" .u64 Lib.pow10Tab := Lib.tabIs_of_head laysItoa.m17 (t := 159) (e := 146) (n := 20) (by kernel_rfl) Tryd.underlying159 Tryd.underlying146 (by kernel_rfl) (by kernel_rfl) h2
  exact ⟨h3, fun g hg => by rw [List.mem_singleton.1 hg]; exact ⟨trivial, Lib.lt_of_cell (h3.cell laysItoa.m17 0 (by decide))⟩⟩
theorem ground1 {W : World} (h : laidMet Tryd.prog [("math/bits.deBruijn32tab", Rows.laid_math_bits_deBruijn32tab), ("math/bits.deBruijn64tab", Rows.laid_math_bits_deBruijn64tab), ("internal/strconv.uint64pow10", Rows.laid_internal_strconv_uint64pow10), ("strconv.ErrRange", Rows.laid_strconv_ErrRange), ("strconv.ErrSyntax", Rows.laid_strconv_ErrSyntax)] W) : Tb 1 (fun _ => True) W := by
  have gS : Tryd.prog.globalNamed "strconv.ErrSyntax" = some (laysAtoi_ren.g 15) := by kernel_rfl
  obtain ⟨aS, sS, vS, -, -, -⟩ := laid_sentinel (h.tail.tail.tail.tail) gS (ti := 133) (by kernel_rfl) Tryd.underlying133 rowE Tryd.underlying184 Tryd.underlying186 rfl rfl Tryd.underlying9 cellsE cells_9
  have cS := var_cell gS vS
  have gR : Tryd.prog.globalNamed "strconv.ErrRange" = some (laysAtoi_ren.g 16) := by kernel_rfl
  obtain ⟨aR, sR, vR, -, -, -⟩ := laid_sentinel (h.tail.tail.tail) gR (ti := 133) (by kernel_rfl) Tryd.underlying133 rowE Tryd.underlying184 Tryd.underlying186 rfl rfl Tryd.underlying9 cellsE cells_9
  have cR := var_cell gR vR
  exact ⟨⟨⟨_, cS, .inr ⟨_, _, rfl⟩⟩, ⟨_, cR, .inr ⟨_, _, rfl⟩⟩⟩, fun g hg => by
    rcases List.mem_cons.1 hg with e | hg
    · rw [e]; exact ⟨trivial, Lib.lt_of_cell cS⟩
    · rw [List.mem_singleton.1 hg]; exact ⟨trivial, Lib.lt_of_cell cR⟩⟩
theorem called (W : World) (args : Array Value) (h : ArgsRead Tryd.prog W Tryd.f6.params.toList args.toList) (t0 : Tb 0 (fun _ => True) W) (t1 : Tb 1 (fun _ => True) W) : Calls Tryd.prog 6 args W fun e W' => e = .returned (.bool true) ∧ Bl W W' := by
  obtain ⟨hl, h⟩ := h
  rw [Tryd.params6] at hl h
  obtain ⟨v0, rfl⟩ : ∃ v0, args = #[v0] := by
    obtain ⟨l⟩ := args
    match l, hl with
    | [v0], _ => exact ⟨v0, rfl⟩
  obtain ⟨r0, o0⟩ := h 0 _ v0 rfl rfl
  have q0 := reads_one Tryd.underlying22 trivial o0 r0
  obtain ⟨a_0, n_0, c_0, l_0, e_0, v_0⟩ := rdA_of Tryd.underlying22 cells_5 (by decide) (u8_row Tryd.underlying5) q0
  cases e_0
  exact (laws_FnProcLimit_c (w := W) (H := fun _ => True) (code := l_0) v_0 t0 t1).mono fun e W' ⟨h1, h2⟩ => ⟨h1, h2.bl⟩
theorem own : ownKnob Tryd.prog.godebug = none := by kernel_rfl
theorem laidOut : laidOutB Tryd.prog = true := by kernel_rfl
theorem readable : ∀ t ∈ Tryd.f6.params.toList, Tryd.prog.readableRec t = true ∧ t < Tryd.prog.types.size := of_decide_eq_true (by kernel_rfl)
theorem door_met (os : Os) (args : Array Value) : laidMetH Tryd.prog [("math/bits.deBruijn32tab", Rows.laid_math_bits_deBruijn32tab), ("math/bits.deBruijn64tab", Rows.laid_math_bits_deBruijn64tab), ("internal/strconv.uint64pow10", Rows.laid_internal_strconv_uint64pow10), ("strconv.ErrRange", Rows.laid_strconv_ErrRange), ("strconv.ErrSyntax", Rows.laid_strconv_ErrSyntax)] ((World.doorLaid Tryd.prog 81 os).forCall (fun _ _ => 0) ⟨#[], args, []⟩).memory :=
  laidMetH_of_parts3 (fuel := 8) (laidMet_of_run' 8 (by kernel_rfl) (by kernel_rfl)) (by kernel_rfl) (by kernel_rfl)
theorem lifted (os : Os) (started : os.Started) (H : Type) (enc : TypeId × Value → H) :
    ReturnsInHanded {} Tryd.checked os 6 .any (fun w args => (Rows.fnProcLimitSpec.pre enc Tryd.prog Tryd.f6 [] false w args ∧ laidMetH Tryd.prog [("math/bits.deBruijn32tab", Rows.laid_math_bits_deBruijn32tab), ("math/bits.deBruijn64tab", Rows.laid_math_bits_deBruijn64tab), ("internal/strconv.uint64pow10", Rows.laid_internal_strconv_uint64pow10), ("strconv.ErrRange", Rows.laid_strconv_ErrRange), ("strconv.ErrSyntax", Rows.laid_strconv_ErrSyntax)] w) ∧ sizedMet enc Tryd.prog Tryd.f6 (OpenSpec.ofChange Rows.fnProcLimitSpec) false w args)
      (Rows.fnProcLimitSpec.post enc Tryd.prog Tryd.f6 false true false false) := by
  refine returnsInHanded_of_change_and (C := Tryd.checked) (X := fun w _ => laidMetH Tryd.prog [("math/bits.deBruijn32tab", Rows.laid_math_bits_deBruijn32tab), ("math/bits.deBruijn64tab", Rows.laid_math_bits_deBruijn64tab), ("internal/strconv.uint64pow10", Rows.laid_internal_strconv_uint64pow10), ("strconv.ErrRange", Rows.laid_strconv_ErrRange), ("strconv.ErrSyntax", Rows.laid_strconv_ErrSyntax)] w) (fun _ _ _ hh h => h.of_heap hh) own started (by kernel_rfl) Tryd.func6
    (ChangeSpec.witness_shaped (enc := enc) (C := Tryd.checked) (os := os) (X := fun w _ => laidMetH Tryd.prog [("math/bits.deBruijn32tab", Rows.laid_math_bits_deBruijn32tab), ("math/bits.deBruijn64tab", Rows.laid_math_bits_deBruijn64tab), ("internal/strconv.uint64pow10", Rows.laid_internal_strconv_uint64pow10), ("strconv.ErrRange", Rows.laid_strconv_ErrRange), ("strconv.ErrSyntax", Rows.laid_strconv_ErrSyntax)] w) false (World.doorLaid Tryd.prog 81 os) #[.slice none 0 0] 8 rfl (World.shaped_of_RefB (by kernel_rfl) (by kernel_rfl)) (by kernel_rfl) (by kernel_rfl) (by kernel_rfl) (door_met os _)) ?_
  intro W base args ds gs before hval0 hW _ _ hL _
  have hval : ∀ (j : Nat) t v, Tryd.f6.params[j]? = some t → args[j]? = some v → Value.okWide Tryd.prog W .any 0 t v := hval0
  have hM : laidMet Tryd.prog [("math/bits.deBruijn32tab", Rows.laid_math_bits_deBruijn32tab), ("math/bits.deBruijn64tab", Rows.laid_math_bits_deBruijn64tab), ("internal/strconv.uint64pow10", Rows.laid_internal_strconv_uint64pow10), ("strconv.ErrRange", Rows.laid_strconv_ErrRange), ("strconv.ErrSyntax", Rows.laid_strconv_ErrSyntax)] W := by
    have h := hL
    rw [MakeChecks.laidMetH_plain _ _ _ (by kernel_rfl)] at h
    exact h
  refine law_contractW laidOut readable Tryd.underlying4 rfl rfl ?_ H enc false true false false W args ds gs before (fun h => called W args h (ground0 hM) (ground1 hM)) hval hW
  intro H ds hd
  match ds, hd with
  | [a], _ => rfl
theorem bare : Rows.FnProcLimitSaid :=
  OpenClaim.holds_of_wide 6 Tryd.f6 rfl rfl rfl rfl rfl rfl rfl ⟨rfl, rfl, rfl, rfl, rfl⟩ rfl rfl rfl rfl rfl (by kernel_rfl) Tryd.func6 (by kernel_rfl)
    (of_decide_eq_true (by kernel_rfl)) (by unfold Func.isWrapper; first | (rw [if_pos (by decide +kernel)]; kernel_rfl) | (rw [if_neg (by decide +kernel)]; exact ⟨rfl, rfl⟩))
    (fun os started H enc _ => lifted os started H enc)
theorem proved : Rows.FnProcLimitCardSaid :=
  Claim7.holds_tied_plain_at .later [] [.data, .data, .data, .sentinel, .sentinel] true (true, "167e4d36e1bc60f6d5ed3739e3d5e09f6b5bab75b6f9b2c84f393379c264b4c4") true
    bare (fun _ h => by cases h) (by kernel_rfl) (fun _ h => by cases h) fnProcLimit_row_tie rfl ⟨rfl, rfl⟩ (by kernel_rfl) rfl
    (fun f fn hf hfn => by
      obtain rfl : f = 6 := Option.some.inj ((show Tryd.prog.funcNamed "loop.example/g00974/laws.FnProcLimit" = some 6 by kernel_rfl).symm.trans hf) |>.symm
      obtain rfl : fn = Tryd.f6 := (Option.some.inj (Tryd.func6.symm.trans hfn)).symm
      exact ⟨by kernel_rfl, fun j t ht => by
        rw [Tryd.params6] at ht
        have hm : t ∈ [22] := by simpa using Array.mem_of_getElem? ht
        have hall : ([22].all fun u => !Tryd.prog.wantsStandIn u) = true := by kernel_rfl
        exact (show Tryd.prog.wantsStandIn t = false by simpa using List.all_eq_true.1 hall t hm)⟩)
    (by kernel_rfl)
end Go.Proofs.YtjiplnaceiofmaaDoor.proclimit
