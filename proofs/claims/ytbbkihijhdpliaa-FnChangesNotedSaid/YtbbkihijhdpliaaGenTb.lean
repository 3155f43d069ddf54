/-
  Walks: equal machines.
-/
import Derived.Test.YtbbkihijhdpliaaDatA
import Derived.Test.YtbbkihijhdpliaaGenTa
namespace Go.Proofs.Ytbbkihijhdpliaa
open Go.ChangeShapes Go.WideShapes Go.ChangeAt Go.RowKit
set_option maxRecDepth 100000
set_option maxHeartbeats 1000000
theorem laws_base_c {w : World} {H : Nat → Prop}   :
    Calls Try.prog 55 #[] w fun e w' => ∃ (r0_store_a : Option Addr), ∃ (r0_store_n : Nat), ∃ (r0_store_c : Nat), ∃ (r0_touch_reads_a : Option Addr), ∃ (r0_touch_reads_n : Nat), ∃ (r0_touch_reads_c : Nat), ∃ (r0_touch_writes_a : Option Addr), ∃ (r0_touch_writes_n : Nat), ∃ (r0_touch_writes_c : Nat), e = .returned (.agg #[.slice r0_store_a r0_store_n r0_store_c, .slice r0_touch_reads_a r0_touch_reads_n r0_touch_reads_c, .slice r0_touch_writes_a r0_touch_writes_n r0_touch_writes_c]) ∧ Mv [] w [] w' ∧ Rd 2 encC okC (Fsh H w) w' (.slice r0_store_a r0_store_n r0_store_c) ([]) ∧ Rd 1 encS okS (Fsh H w) w' (.slice r0_touch_reads_a r0_touch_reads_n r0_touch_reads_c) ([]) ∧ Rd 1 encS okS (Fsh H w) w' (.slice r0_touch_writes_a r0_touch_writes_n r0_touch_writes_c) ([]) := by
 refine calls_enter 3 Try.func55 rfl Try.ntmps55 (Nat.le_of_ble_eq_true rfl) (fun _ F0i => ?_)
 have F0 : Fr 3 [] _ := F0i
 clear F0i
 refine wp_seq (wp_region_lit (l_op (f_alloc F0 (At.nil w) ZI_48 rfl rfl rfl rfl rfl fun b1 _ w1 F2 S1 => ?_)))
 have F3 : Fr 3 [(0, .pointer (some ⟨b1, 0, none⟩))] _ := F2.cut rfl
 clear F0 F2
 have T4 : Mv _ _ [bx b1 [.slice none 0 0, .slice none 0 0, .slice none 0 0] 48] _ := S1
 refine s_end (x_normal (wp_seq (wp_region_lit (l_op (f_buildSl (ok := okC) (vs := []) F3 T4.at' (([] : List CellD)) ET_46 rfl rfl rfl rfl rfl rfl rfl rfl rfl (by simp) fun b5 _ w5 F6 S5 => ?_)))))
 have Z8 : Rd 2 encC okC (V H w [bx b1 [.slice none 0 0, .slice none 0 0, .slice none 0 0] 48]) w5 (.slice (some ⟨b5, 0, none⟩) 0 0) ([] : List CellD) := At.freeze (T4.trans S5) ET_46.hk 0 rfl (fun b hb => ((T4.trans S5).fresh b ⟨_, nth_mem (i := 0) rfl, hb⟩).resolve_left (fps_nil _))
 have S8 := At.drop S5.at' 0
 refine l_op (f_call F6 CF_109 rfl rfl rfl rfl (lc (F6.ev 1 rfl) rfl) (spec_MachOf_c (s := ([] : List CellD)) Z8 (by first | assumption | omega | (simp <;> omega))) ?_)
 rintro _ w7 ⟨r0_store_a_7, r0_store_n_7, r0_store_c_7, r0_touch_reads_a_7, r0_touch_reads_n_7, r0_touch_reads_c_7, r0_touch_writes_a_7, r0_touch_writes_n_7, r0_touch_writes_c_7, rfl, m7, v7_0, v7_1, v7_2⟩
 refine ⟨_, rfl, fun _ F9 => ?_⟩
 have S7 := At.frame0 S8.at' m7
 have V7_0 := Rd.got0 S8.at' ((T4.trans (S5.trans S8)).kp.size) v7_0 S7
 obtain ⟨ln7_0, le7_0, mx7_0, ni7_0⟩ := Rd.inv V7_0
 have V7_1 := Rd.got0 S8.at' ((T4.trans (S5.trans S8)).kp.size) v7_1 S7
 obtain ⟨ln7_1, le7_1, mx7_1, ni7_1⟩ := Rd.inv V7_1
 have V7_2 := Rd.got0 S8.at' ((T4.trans (S5.trans S8)).kp.size) v7_2 S7
 obtain ⟨ln7_2, le7_2, mx7_2, ni7_2⟩ := Rd.inv V7_2
 clear m7 v7_0 v7_1 v7_2
 refine l_op (s_store S7.at' 0 TI_48 rfl rfl rfl rfl rfl (F9.ev 0 rfl) (F9.ev 2 rfl) rfl rfl rfl rfl rfl fun w10 S10 => ?_)
 have F11 : Fr 3 [(2, .agg #[.slice r0_store_a_7 r0_store_n_7 r0_store_c_7, .slice r0_touch_reads_a_7 r0_touch_reads_n_7 r0_touch_reads_c_7, .slice r0_touch_writes_a_7 r0_touch_writes_n_7 r0_touch_writes_c_7]), (0, .pointer (some ⟨b1, 0, none⟩))] _ := F9.cut rfl
 clear F3 F6 F9
 have T12 : Mv _ _ [bx b1 [.slice r0_store_a_7 r0_store_n_7 r0_store_c_7, .slice r0_touch_reads_a_7 r0_touch_reads_n_7 r0_touch_reads_c_7, .slice r0_touch_writes_a_7 r0_touch_writes_n_7 r0_touch_writes_c_7] 48] _ := S10
 refine s_end (x_normal (wp_ret ?_))
 refine x_done (v := .agg #[.slice r0_store_a_7 r0_store_n_7 r0_store_c_7, .slice r0_touch_reads_a_7 r0_touch_reads_n_7 r0_touch_reads_c_7, .slice r0_touch_writes_a_7 r0_touch_writes_n_7 r0_touch_writes_c_7]) F11 (results_1 Try.results55 (.cell (F11.ev 0 rfl) (run_loadVar' TI_48 _ [.slice r0_store_a_7 r0_store_n_7 r0_store_c_7, .slice r0_touch_reads_a_7 r0_touch_reads_n_7 r0_touch_reads_c_7, .slice r0_touch_writes_a_7 r0_touch_writes_n_7 r0_touch_writes_c_7] rfl (fun h => nomatch h) (At.cells T12.at' 0 rfl 0 [.slice r0_store_a_7 r0_store_n_7 r0_store_c_7, .slice r0_touch_reads_a_7 r0_touch_reads_n_7 r0_touch_reads_c_7, .slice r0_touch_writes_a_7 r0_touch_writes_n_7 r0_touch_writes_c_7] rfl)))) ?_
 exact ⟨r0_store_a_7, r0_store_n_7, r0_store_c_7, r0_touch_reads_a_7, r0_touch_reads_n_7, r0_touch_reads_c_7, r0_touch_writes_a_7, r0_touch_writes_n_7, r0_touch_writes_c_7, rfl, (Mv.pick (T4.trans (S5.trans (S8.trans (S7.trans T12)))) [] rfl), (Rd.cast (Rd.give (Rd.mv (Nat.succ_pos _) V7_0 T12)) (show ([] : List CellD) = ([]) from by rfl)), (Rd.give (Rd.mv (Nat.succ_pos _) V7_1 T12)), (Rd.give (Rd.mv (Nat.succ_pos _) V7_2 T12))⟩
end Go.Proofs.Ytbbkihijhdpliaa
