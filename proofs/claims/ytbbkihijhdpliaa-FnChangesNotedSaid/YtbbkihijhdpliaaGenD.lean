/-
  Walks: machines are looked at.
-/
import Derived.Test.YtbbkihijhdpliaaGenC
namespace Go.Proofs.Ytbbkihijhdpliaa
open Go.ChangeShapes Go.WideShapes Go.ChangeAt Go.RowKit
set_option maxRecDepth 100000
set_option maxHeartbeats 1000000
theorem spec_l04Look_c {w : World} {H : Nat → Prop} {m : MachD} {m_store_a : Option Addr} {m_store_n m_store_c : Nat} {m_touch_reads_a : Option Addr} {m_touch_reads_n m_touch_reads_c : Nat} {m_touch_writes_a : Option Addr} {m_touch_writes_n m_touch_writes_c : Nat} {key : ByteArray} (v_m_store : Rd 2 encC okC H w (.slice m_store_a m_store_n m_store_c) m.store) (v_m_touch_reads : Rd 1 encS okS H w (.slice m_touch_reads_a m_touch_reads_n m_touch_reads_c) m.touch.reads) (v_m_touch_writes : Rd 1 encS okS H w (.slice m_touch_writes_a m_touch_writes_n m_touch_writes_c) m.touch.writes) (h_key : okS key) (p0 : m.touch.reads.length ≤ 274877906944) :
    Calls Try.prog 90 #[.agg #[.slice m_store_a m_store_n m_store_c, .slice m_touch_reads_a m_touch_reads_n m_touch_reads_c, .slice m_touch_writes_a m_touch_writes_n m_touch_writes_c], .string key] w fun e w' => ∃ (r0_store_a : Option Addr), ∃ (r0_store_n : Nat), ∃ (r0_store_c : Nat), ∃ (r0_touch_reads_a : Option Addr), ∃ (r0_touch_reads_n : Nat), ∃ (r0_touch_reads_c : Nat), ∃ (r0_touch_writes_a : Option Addr), ∃ (r0_touch_writes_n : Nat), ∃ (r0_touch_writes_c : Nat), e = .returned (.tuple #[.agg #[.slice r0_store_a r0_store_n r0_store_c, .slice r0_touch_reads_a r0_touch_reads_n r0_touch_reads_c, .slice r0_touch_writes_a r0_touch_writes_n r0_touch_writes_c], .string (getKey m.store key)]) ∧ Mv [] w [] w' ∧ Rd 2 encC okC (Fsh H w) w' (.slice r0_store_a r0_store_n r0_store_c) (lookM m key).store ∧ Rd 1 encS okS (Fsh H w) w' (.slice r0_touch_reads_a r0_touch_reads_n r0_touch_reads_c) (lookM m key).touch.reads ∧ Rd 1 encS okS (Fsh H w) w' (.slice r0_touch_writes_a r0_touch_writes_n r0_touch_writes_c) (lookM m key).touch.writes ∧ okS (getKey m.store key) := by
 have V_v_m_store : Rd 2 encC okC (V H w []) w (.slice m_store_a m_store_n m_store_c) m.store := Rd.start v_m_store (fun _ _ => fps_nil _)
 obtain ⟨ln_m_store, le_m_store, mx_m_store, ni_m_store⟩ := Rd.inv v_m_store
 have V_v_m_touch_reads : Rd 1 encS okS (V H w []) w (.slice m_touch_reads_a m_touch_reads_n m_touch_reads_c) m.touch.reads := Rd.start v_m_touch_reads (fun _ _ => fps_nil _)
 obtain ⟨ln_m_touch_reads, le_m_touch_reads, mx_m_touch_reads, ni_m_touch_reads⟩ := Rd.inv v_m_touch_reads
 have V_v_m_touch_writes : Rd 1 encS okS (V H w []) w (.slice m_touch_writes_a m_touch_writes_n m_touch_writes_c) m.touch.writes := Rd.start v_m_touch_writes (fun _ _ => fps_nil _)
 obtain ⟨ln_m_touch_writes, le_m_touch_writes, mx_m_touch_writes, ni_m_touch_writes⟩ := Rd.inv v_m_touch_writes
 refine calls_enter 18 Try.func90 rfl Try.ntmps90 (Nat.le_of_ble_eq_true rfl) (fun _ F0i => ?_)
 have F0 : Fr 18 [(0, .agg #[.slice m_store_a m_store_n m_store_c, .slice m_touch_reads_a m_touch_reads_n m_touch_reads_c, .slice m_touch_writes_a m_touch_writes_n m_touch_writes_c]), (1, .string key)] _ := F0i
 clear F0i
 refine wp_seq (wp_region_lit (l_op (f_box F0 (At.nil w) rfl rfl rfl (F0.ev 0 rfl) rfl rfl fun b1 _ w1 F2 S1 => ?_)))
 refine l_op (f_alloc F2 S1.at' ZI_48 rfl rfl rfl rfl rfl fun b3 _ w3 F4 S3 => ?_)
 refine l_op (f_val F4 rfl rfl (r_assign rfl rfl) rfl fun _ F5 => ?_)
 have F6 : Fr 18 [(5, .string (⟨#[]⟩ : ByteArray)), (4, .pointer (some ⟨b3, 0, none⟩)), (2, .pointer (some ⟨b1, 0, none⟩)), (1, .string key)] _ := F5.cut rfl
 clear F0 F2 F4 F5
 have T7 : Mv _ _ [bx b3 [.slice none 0 0, .slice none 0 0, .slice none 0 0] 48, bx b1 [.slice m_store_a m_store_n m_store_c, .slice m_touch_reads_a m_touch_reads_n m_touch_reads_c, .slice m_touch_writes_a m_touch_writes_n m_touch_writes_c] 48] _ := S3
 refine s_end (x_normal (wp_seq (wp_region_lit (l_op (f_val F6 rfl rfl (r_field FI_48_1 rfl (F6.ev 2 rfl) rfl) rfl fun _ F8 => ?_)))))
 refine l_op (f_val F8 rfl rfl (r_field FI_26_0 rfl (F8.ev 6 rfl) rfl) rfl fun _ F9 => ?_)
 refine l_op (f_val (v := .slice m_touch_reads_a m_touch_reads_n m_touch_reads_c) F9 rfl rfl (r_loadB T7.at' 1 TI_22 rfl rfl (F9.ev 7 rfl) rfl rfl (fun _ => rfl) rfl) rfl fun _ F10 => ?_)
 refine l_op (f_mv F10 rfl rfl rfl rfl rfl fun _ F11 => ?_)
 refine l_op (f_call F11 CF_32 rfl rfl rfl rfl (lc (F11.ev 8 rfl) (lc (F11.ev 9 rfl) rfl)) (spec_AddSpan_c (list := m.touch.reads) (span := key) (Rd.mv (Nat.succ_pos _) V_v_m_touch_reads (S1.trans T7)) h_key (by first | assumption | omega | (simp <;> omega))) ?_)
 rintro _ w12 ⟨r0_a_12, r0_n_12, r0_c_12, rfl, m12, v12_0⟩
 refine ⟨_, rfl, fun _ F13 => ?_⟩
 have S12 := At.frame0 T7.at' m12
 have V12_0 := Rd.got0 T7.at' ((S1.trans T7).kp.size) v12_0 S12
 obtain ⟨ln12_0, le12_0, mx12_0, ni12_0⟩ := Rd.inv V12_0
 clear m12 v12_0
 refine l_op (f_val F13 rfl rfl (r_field FI_48_1 rfl (F13.ev 2 rfl) rfl) rfl fun _ F14 => ?_)
 refine l_op (f_val F14 rfl rfl (r_field FI_26_0 rfl (F14.ev 11 rfl) rfl) rfl fun _ F15 => ?_)
 refine l_op (s_store S12.at' 1 TI_22 rfl rfl rfl rfl rfl (F15.ev 12 rfl) (F15.ev 10 rfl) rfl rfl rfl rfl rfl fun w16 S16 => ?_)
 have F17 : Fr 18 [(12, .pointer (some ⟨b1, 1, none⟩)), (10, .slice r0_a_12 r0_n_12 r0_c_12), (4, .pointer (some ⟨b3, 0, none⟩)), (2, .pointer (some ⟨b1, 0, none⟩)), (1, .string key)] _ := F15.cut rfl
 clear F6 F8 F9 F10 F11 F13 F14 F15
 have T18 : Mv _ _ [bx b1 [.slice m_store_a m_store_n m_store_c, .slice r0_a_12 r0_n_12 r0_c_12, .slice m_touch_writes_a m_touch_writes_n m_touch_writes_c] 48, bx b3 [.slice none 0 0, .slice none 0 0, .slice none 0 0] 48] _ := S16
 refine s_end (x_normal (wp_seq ?_))
 refine x_draw (fun aZ wZ => Fr 18 [(4, .pointer (some ⟨b3, 0, none⟩)), (5, .string (getKey m.store key))] aZ ∧ Mv [bx b1 [.slice m_store_a m_store_n m_store_c, .slice r0_a_12 r0_n_12 r0_c_12, .slice m_touch_writes_a m_touch_writes_n m_touch_writes_c] 48, bx b3 [.slice none 0 0, .slice none 0 0, .slice none 0 0] 48] w16 [bx b1 [.slice m_store_a m_store_n m_store_c, .slice r0_a_12 r0_n_12 r0_c_12, .slice m_touch_writes_a m_touch_writes_n m_touch_writes_c] 48, bx b3 [.slice m_store_a m_store_n m_store_c, .slice r0_a_12 r0_n_12 r0_c_12, .slice m_touch_writes_a m_touch_writes_n m_touch_writes_c] 48] wZ ∧ okS (getKey m.store key)) [bx b1 [.slice m_store_a m_store_n m_store_c, .slice r0_a_12 r0_n_12 r0_c_12, .slice m_touch_writes_a m_touch_writes_n m_touch_writes_c] 48] mixed T18.at' (listed := #[false, false, false, false, false, false, false]) rfl (fun w20 S20 => ?_) [0] rfl ?_
 · skip
   refine g_take (v := .agg #[.slice m_store_a m_store_n m_store_c, .slice r0_a_12 r0_n_12 r0_c_12, .slice m_touch_writes_a m_touch_writes_n m_touch_writes_c]) F17 rfl (i := 0) (listed' := #[true, false, false, false, false, false, false]) rfl (by kernel_rfl) (by kernel_rfl) (by kernel_rfl) (fun _ _ _ h => h) (Sd.of (Mv.refl S20.at') [0] rfl) rfl rfl rfl rfl (fun _ hz => (r_loadX (hz.bx 0 rfl) TI_48 rfl (F17.ev 2 rfl) rfl rfl (fun h => nomatch h) rfl)) fun _ F21 => ?_
   refine g_take F21 rfl (i := 1) (listed' := #[true, true, false, false, false, false, false]) rfl (by kernel_rfl) (by kernel_rfl) (by kernel_rfl) (fun _ _ _ h => h) (Sd.of (Mv.refl S20.at') [0] rfl) rfl rfl rfl rfl (fun _ hz => (r_field FI_48_0 rfl (F21.ev 2 rfl) rfl)) fun _ F22 => ?_
   refine g_take (v := .slice m_store_a m_store_n m_store_c) F22 rfl (i := 2) (listed' := #[true, true, true, false, false, false, false]) rfl (by kernel_rfl) (by kernel_rfl) (by kernel_rfl) (fun _ _ _ h => h) (Sd.of (Mv.refl S20.at') [0] rfl) rfl rfl rfl rfl (fun _ hz => (r_loadX (hz.bx 0 rfl) TI_46 rfl (F22.ev 14 rfl) rfl rfl (fun _ => rfl) rfl)) fun _ F23 => ?_
   refine g_take F23 rfl (i := 3) (listed' := #[true, true, true, true, false, false, false]) rfl (by kernel_rfl) (by kernel_rfl) (by kernel_rfl) (fun _ _ _ h => h) (Sd.of (Mv.refl S20.at') [0] rfl) rfl rfl rfl rfl (fun _ hz => (r_move rfl (F23.ev 1 rfl))) fun _ F24 => ?_
   refine d_one (i := 4) (listed' := #[true, true, true, true, true, false, false]) rfl (by kernel_rfl) rfl rfl ?_
   refine f_call F24 CF_107 rfl rfl rfl rfl (lc (F24.ev 15 rfl) (lc (F24.ev 16 rfl) rfl)) (spec_GetKey_c (s := m.store) (key := key) (Rd.mv (Nat.succ_pos _) V_v_m_store (S1.trans (T7.trans (S12.trans (T18.trans S20))))) h_key) ?_
   rintro _ w25 ⟨rfl, m25, ok_r0_25⟩
   refine ⟨_, rfl, fun _ F26 => ?_⟩
   have S25 := At.frame0 S20.at' m25
   clear m25
   refine ⟨Sd.of S25 [0] rfl, ?_⟩
   refine d_one (i := 5) (listed' := #[true, true, true, true, true, true, false]) rfl (by kernel_rfl) rfl rfl ?_
   refine s_store S25.at' 1 TI_48 rfl rfl rfl rfl rfl (F26.ev 4 rfl) (F26.ev 13 rfl) rfl rfl rfl rfl rfl fun w27 S27 => ?_
   refine ⟨Sd.of (S25.trans S27) [1] rfl, ?_⟩
   refine g_take F26 rfl (i := 6) (listed' := #[true, true, true, true, true, true, true]) rfl (by kernel_rfl) (by kernel_rfl) (by kernel_rfl) (fun _ _ _ h => h) (Sd.of (S25.trans S27) [1] rfl) rfl rfl rfl rfl (fun _ hz => (r_assign rfl (F26.ev 17 rfl))) fun _ F28 => ?_
   refine wpAnyH_done (by kernel_rfl) (x_normal ?_) _
   exact ⟨F28.cut rfl, ((S20.trans (S25.trans S27)).pick [1, 0] rfl), ok_r0_25⟩
 · rintro a29 w29 ⟨F29, S29, ko29_0⟩
   refine x_normal (wp_ret ?_)
   refine x_done (v := .tuple #[.agg #[.slice m_store_a m_store_n m_store_c, .slice r0_a_12 r0_n_12 r0_c_12, .slice m_touch_writes_a m_touch_writes_n m_touch_writes_c], .string (getKey m.store key)]) F29 (results_2 Try.results90 (.cell (F29.ev 4 rfl) (run_loadVar' TI_48 _ [.slice m_store_a m_store_n m_store_c, .slice r0_a_12 r0_n_12 r0_c_12, .slice m_touch_writes_a m_touch_writes_n m_touch_writes_c] rfl (fun h => nomatch h) (At.cells S29.at' 1 rfl 0 [.slice m_store_a m_store_n m_store_c, .slice r0_a_12 r0_n_12 r0_c_12, .slice m_touch_writes_a m_touch_writes_n m_touch_writes_c] rfl))) (.tmp (F29.ev 5 rfl))) ?_
   exact ⟨m_store_a, m_store_n, m_store_c, r0_a_12, r0_n_12, r0_c_12, m_touch_writes_a, m_touch_writes_n, m_touch_writes_c, rfl, (Mv.pick (S1.trans (T7.trans (S12.trans (T18.trans S29)))) [] rfl), (Rd.cast (Rd.give (Rd.mv (Nat.succ_pos _) V_v_m_store (S1.trans (T7.trans (S12.trans (T18.trans S29)))))) (show m.store = (lookM m key).store from by rfl)), (Rd.cast (Rd.give (Rd.mv (Nat.succ_pos _) V12_0 (T18.trans S29))) (show (putL m.touch.reads key) = (lookM m key).touch.reads from by rfl)), (Rd.cast (Rd.give (Rd.mv (Nat.succ_pos _) V_v_m_touch_writes (S1.trans (T7.trans (S12.trans (T18.trans S29)))))) (show m.touch.writes = (lookM m key).touch.writes from by rfl)), ko29_0⟩
end Go.Proofs.Ytbbkihijhdpliaa
