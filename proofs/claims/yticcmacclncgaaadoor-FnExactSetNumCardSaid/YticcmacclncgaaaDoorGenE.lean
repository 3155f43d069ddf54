/-
  Walks: the program's machines are looked at.
-/
import Derived.Test.YticcmacclncgaaaDoorGenD
namespace Go.Proofs.YticcmacclncgaaaDoor
open Go.ChangeShapes Go.WideShapes Go.ChangeAt Go.RowKit
set_option maxRecDepth 100000
set_option maxHeartbeats 1000000
theorem impl_Touch_clone_c {w : World} {H : Nat → Prop} {t : TouchD} {t_reads_a : Option Addr} {t_reads_n t_reads_c : Nat} {t_writes_a : Option Addr} {t_writes_n t_writes_c : Nat} (v_t_reads : Rd 1 encS okS H w (.slice t_reads_a t_reads_n t_reads_c) t.reads) (v_t_writes : Rd 1 encS okS H w (.slice t_writes_a t_writes_n t_writes_c) t.writes) (p0 : t.reads.length ≤ 1099511627776) (p1 : t.writes.length ≤ 1099511627776) :
    Calls Tryd.prog 93 #[.agg #[.slice t_reads_a t_reads_n t_reads_c, .slice t_writes_a t_writes_n t_writes_c]] w fun e w' => ∃ (r0_reads_a : Option Addr), ∃ (r0_reads_n : Nat), ∃ (r0_reads_c : Nat), ∃ (r0_writes_a : Option Addr), ∃ (r0_writes_n : Nat), ∃ (r0_writes_c : Nat), e = .returned (.agg #[.slice r0_reads_a r0_reads_n r0_reads_c, .slice r0_writes_a r0_writes_n r0_writes_c]) ∧ Mv [] w [ow 9 1 encS okS (.slice r0_reads_a r0_reads_n r0_reads_c) t.reads, ow 9 1 encS okS (.slice r0_writes_a r0_writes_n r0_writes_c) t.writes] w' := by
 have V_v_t_reads : Rd 1 encS okS (V H w []) w (.slice t_reads_a t_reads_n t_reads_c) t.reads := Rd.start v_t_reads (fun _ _ => fps_nil _)
 obtain ⟨ln_t_reads, le_t_reads, mx_t_reads, ni_t_reads⟩ := Rd.inv v_t_reads
 have V_v_t_writes : Rd 1 encS okS (V H w []) w (.slice t_writes_a t_writes_n t_writes_c) t.writes := Rd.start v_t_writes (fun _ _ => fps_nil _)
 obtain ⟨ln_t_writes, le_t_writes, mx_t_writes, ni_t_writes⟩ := Rd.inv v_t_writes
 refine calls_enter 10 Tryd.func93 rfl Tryd.ntmps93 (Nat.le_of_ble_eq_true rfl) (fun _ F0i => ?_)
 have F0 : Fr 10 [(0, .agg #[.slice t_reads_a t_reads_n t_reads_c, .slice t_writes_a t_writes_n t_writes_c])] _ := F0i
 clear F0i
 refine wp_seq (wp_region_lit (l_op (f_box F0 (At.nil w) rfl rfl rfl (F0.ev 0 rfl) rfl rfl fun b1 _ w1 F2 S1 => ?_)))
 refine l_op (f_alloc F2 S1.at' ZI_30 rfl rfl rfl rfl rfl fun b3 _ w3 F4 S3 => ?_)
 have F5 : Fr 10 [(2, .pointer (some ⟨b3, 0, none⟩)), (1, .pointer (some ⟨b1, 0, none⟩))] _ := F4.cut rfl
 clear F0 F2 F4
 have T6 : Mv _ _ [bx b3 [.slice none 0 0, .slice none 0 0] 30, bx b1 [.slice t_reads_a t_reads_n t_reads_c, .slice t_writes_a t_writes_n t_writes_c] 30] _ := S3
 refine s_end (x_normal (wp_seq ?_))
 refine x_draw (fun aZ wZ => ∃ (r0_a_13 : Option Addr), ∃ (r0_n_13 : Nat), ∃ (r0_c_13 : Nat), ∃ (r0_a_15 : Option Addr), ∃ (r0_n_15 : Nat), ∃ (r0_c_15 : Nat), Fr 10 [(2, .pointer (some ⟨b3, 0, none⟩))] aZ ∧ Mv [bx b3 [.slice none 0 0, .slice none 0 0] 30, bx b1 [.slice t_reads_a t_reads_n t_reads_c, .slice t_writes_a t_writes_n t_writes_c] 30] w3 [bx b3 [.slice r0_a_13 r0_n_13 r0_c_13, .slice r0_a_15 r0_n_15 r0_c_15] 30, bx b1 [.slice t_reads_a t_reads_n t_reads_c, .slice t_writes_a t_writes_n t_writes_c] 30, ow 9 1 encS okS (.slice r0_a_13 r0_n_13 r0_c_13) t.reads, ow 9 1 encS okS (.slice r0_a_15 r0_n_15 r0_c_15) t.writes] wZ) [bx b1 [.slice t_reads_a t_reads_n t_reads_c, .slice t_writes_a t_writes_n t_writes_c] 30] mixed T6.at' (listed := #[false, false, false, false, false, false, false, false]) rfl (fun w8 S8 => ?_) [1] rfl ?_
 · skip
   refine g_take F5 rfl (i := 0) (listed' := #[true, false, false, false, false, false, false, false]) rfl (by kernel_rfl) (by kernel_rfl) (by kernel_rfl) (fun _ _ _ h => h) (Sd.of (Mv.refl S8.at') [1] rfl) rfl rfl rfl rfl (fun _ hz => (r_field FI_30_0 rfl (F5.ev 1 rfl) rfl)) fun _ F9 => ?_
   refine g_take (v := .slice t_reads_a t_reads_n t_reads_c) F9 rfl (i := 1) (listed' := #[true, true, false, false, false, false, false, false]) rfl (by kernel_rfl) (by kernel_rfl) (by kernel_rfl) (fun _ _ _ h => h) (Sd.of (Mv.refl S8.at') [1] rfl) rfl rfl rfl rfl (fun _ hz => (r_loadX (hz.bx 0 rfl) TI_23 rfl (F9.ev 3 rfl) rfl rfl (fun _ => rfl) rfl)) fun _ F10 => ?_
   refine g_take F10 rfl (i := 3) (listed' := #[true, true, false, true, false, false, false, false]) rfl (by kernel_rfl) (by kernel_rfl) (by kernel_rfl) (fun _ _ _ h => h) (Sd.of (Mv.refl S8.at') [1] rfl) rfl rfl rfl rfl (fun _ hz => (r_field FI_30_1 rfl (F10.ev 1 rfl) rfl)) fun _ F11 => ?_
   refine g_take (v := .slice t_writes_a t_writes_n t_writes_c) F11 rfl (i := 4) (listed' := #[true, true, false, true, true, false, false, false]) rfl (by kernel_rfl) (by kernel_rfl) (by kernel_rfl) (fun _ _ _ h => h) (Sd.of (Mv.refl S8.at') [1] rfl) rfl rfl rfl rfl (fun _ hz => (r_loadX (hz.bx 0 rfl) TI_23 rfl (F11.ev 6 rfl) rfl rfl (fun _ => rfl) rfl)) fun _ F12 => ?_
   refine d_one (i := 2) (listed' := #[true, true, true, true, true, false, false, false]) rfl (by kernel_rfl) rfl rfl ?_
   refine f_call F12 CF_122 rfl rfl rfl rfl (lc (F12.ev 4 rfl) rfl) (slices_Clone_Sstring_string_c (s := t.reads) (Rd.mv (Nat.succ_pos _) V_v_t_reads (S1.trans (T6.trans S8))) (by first | assumption | omega | (simp <;> omega))) ?_
   rintro _ w13 ⟨r0_a_13, r0_n_13, r0_c_13, rfl, m13⟩
   refine ⟨_, rfl, fun _ F14 => ?_⟩
   have S13 : Mv _ _ [ow 9 1 encS okS (.slice r0_a_13 r0_n_13 r0_c_13) t.reads, bx b3 [.slice none 0 0, .slice none 0 0] 30, bx b1 [.slice t_reads_a t_reads_n t_reads_c, .slice t_writes_a t_writes_n t_writes_c] 30] _ := At.frame S8.at' [] rfl m13
   obtain ⟨lo13_0, lp13_0, lq13_0⟩ := At.ownInv S13.at' ET_23.hk 0 rfl
   clear m13
   refine ⟨Sd.of S13 [2] rfl, ?_⟩
   refine d_one (i := 5) (listed' := #[true, true, true, true, true, true, false, false]) rfl (by kernel_rfl) rfl rfl ?_
   refine f_call F14 CF_122 rfl rfl rfl rfl (lc (F14.ev 7 rfl) rfl) (slices_Clone_Sstring_string_c (s := t.writes) (Rd.mv (Nat.succ_pos _) V_v_t_writes (S1.trans (T6.trans (S8.trans S13)))) (by first | assumption | omega | (simp <;> omega))) ?_
   rintro _ w15 ⟨r0_a_15, r0_n_15, r0_c_15, rfl, m15⟩
   refine ⟨_, rfl, fun _ F16 => ?_⟩
   have S15 : Mv _ _ [ow 9 1 encS okS (.slice r0_a_15 r0_n_15 r0_c_15) t.writes, ow 9 1 encS okS (.slice r0_a_13 r0_n_13 r0_c_13) t.reads, bx b3 [.slice none 0 0, .slice none 0 0] 30, bx b1 [.slice t_reads_a t_reads_n t_reads_c, .slice t_writes_a t_writes_n t_writes_c] 30] _ := At.frame S13.at' [] rfl m15
   obtain ⟨lo15_0, lp15_0, lq15_0⟩ := At.ownInv S15.at' ET_23.hk 0 rfl
   clear m15
   refine ⟨Sd.of (S13.trans S15) [3] rfl, ?_⟩
   refine g_take (v := .agg #[.slice r0_a_13 r0_n_13 r0_c_13, .slice r0_a_15 r0_n_15 r0_c_15]) F16 rfl (i := 6) (listed' := #[true, true, true, true, true, true, true, false]) rfl (by kernel_rfl) (by kernel_rfl) (by kernel_rfl) (fun _ _ _ h => h) (Sd.of (S13.trans S15) [3] rfl) rfl rfl rfl rfl (fun _ hz => (r_build BI_30 rfl (lc (pr2 (F16.ev 5 rfl)) (lc (pr2 (F16.ev 8 rfl)) rfl)) rfl)) fun _ F17 => ?_
   refine d_one (i := 7) (listed' := #[true, true, true, true, true, true, true, true]) rfl (by kernel_rfl) rfl rfl ?_
   refine s_store S15.at' 2 TI_30 rfl rfl rfl rfl rfl (F17.ev 2 rfl) (F17.ev 9 rfl) rfl rfl rfl rfl rfl fun w18 S18 => ?_
   refine ⟨Sd.of (S13.trans (S15.trans S18)) [3] rfl, ?_⟩
   refine wpAnyH_done (by kernel_rfl) (x_normal ?_) _
   exact ⟨r0_a_13, r0_n_13, r0_c_13, r0_a_15, r0_n_15, r0_c_15, F17.cut rfl, ((S8.trans (S13.trans (S15.trans S18))).pick [0, 3, 2, 1] rfl)⟩
 · rintro a19 w19 ⟨r0_a_13, r0_n_13, r0_c_13, r0_a_15, r0_n_15, r0_c_15, F19, S19⟩
   refine x_normal (wp_ret ?_)
   refine x_done (v := .agg #[.slice r0_a_13 r0_n_13 r0_c_13, .slice r0_a_15 r0_n_15 r0_c_15]) F19 (results_1 Tryd.results93 (.cell (F19.ev 2 rfl) (run_loadVar' TI_30 _ [.slice r0_a_13 r0_n_13 r0_c_13, .slice r0_a_15 r0_n_15 r0_c_15] rfl (fun h => nomatch h) (At.cells S19.at' 0 rfl 0 [.slice r0_a_13 r0_n_13 r0_c_13, .slice r0_a_15 r0_n_15 r0_c_15] rfl)))) ?_
   exact ⟨r0_a_13, r0_n_13, r0_c_13, r0_a_15, r0_n_15, r0_c_15, rfl, (Mv.pick (S1.trans (T6.trans S19)) [2, 3] rfl)⟩
theorem impl_Mach_clone_c {w : World} {H : Nat → Prop} {m : MachD} {m_store_a : Option Addr} {m_store_n m_store_c : Nat} {m_touch_reads_a : Option Addr} {m_touch_reads_n m_touch_reads_c : Nat} {m_touch_writes_a : Option Addr} {m_touch_writes_n m_touch_writes_c : Nat} (v_m_store : Rd 2 encC okC H w (.slice m_store_a m_store_n m_store_c) m.store) (v_m_touch_reads : Rd 1 encS okS H w (.slice m_touch_reads_a m_touch_reads_n m_touch_reads_c) m.touch.reads) (v_m_touch_writes : Rd 1 encS okS H w (.slice m_touch_writes_a m_touch_writes_n m_touch_writes_c) m.touch.writes) (p0 : m.store.length ≤ 1099511627776) (p1 : m.touch.reads.length ≤ 1099511627776) (p2 : m.touch.writes.length ≤ 1099511627776) :
    Calls Tryd.prog 53 #[.agg #[.slice m_store_a m_store_n m_store_c, .slice m_touch_reads_a m_touch_reads_n m_touch_reads_c, .slice m_touch_writes_a m_touch_writes_n m_touch_writes_c]] w fun e w' => ∃ (r0_store_a : Option Addr), ∃ (r0_store_n : Nat), ∃ (r0_store_c : Nat), ∃ (r0_touch_reads_a : Option Addr), ∃ (r0_touch_reads_n : Nat), ∃ (r0_touch_reads_c : Nat), ∃ (r0_touch_writes_a : Option Addr), ∃ (r0_touch_writes_n : Nat), ∃ (r0_touch_writes_c : Nat), e = .returned (.agg #[.slice r0_store_a r0_store_n r0_store_c, .slice r0_touch_reads_a r0_touch_reads_n r0_touch_reads_c, .slice r0_touch_writes_a r0_touch_writes_n r0_touch_writes_c]) ∧ Mv [] w [ow 87 2 encC okC (.slice r0_store_a r0_store_n r0_store_c) m.store, ow 9 1 encS okS (.slice r0_touch_reads_a r0_touch_reads_n r0_touch_reads_c) m.touch.reads, ow 9 1 encS okS (.slice r0_touch_writes_a r0_touch_writes_n r0_touch_writes_c) m.touch.writes] w' := by
 have V_v_m_store : Rd 2 encC okC (V H w []) w (.slice m_store_a m_store_n m_store_c) m.store := Rd.start v_m_store (fun _ _ => fps_nil _)
 obtain ⟨ln_m_store, le_m_store, mx_m_store, ni_m_store⟩ := Rd.inv v_m_store
 have V_v_m_touch_reads : Rd 1 encS okS (V H w []) w (.slice m_touch_reads_a m_touch_reads_n m_touch_reads_c) m.touch.reads := Rd.start v_m_touch_reads (fun _ _ => fps_nil _)
 obtain ⟨ln_m_touch_reads, le_m_touch_reads, mx_m_touch_reads, ni_m_touch_reads⟩ := Rd.inv v_m_touch_reads
 have V_v_m_touch_writes : Rd 1 encS okS (V H w []) w (.slice m_touch_writes_a m_touch_writes_n m_touch_writes_c) m.touch.writes := Rd.start v_m_touch_writes (fun _ _ => fps_nil _)
 obtain ⟨ln_m_touch_writes, le_m_touch_writes, mx_m_touch_writes, ni_m_touch_writes⟩ := Rd.inv v_m_touch_writes
 refine calls_enter 10 Tryd.func53 rfl Tryd.ntmps53 (Nat.le_of_ble_eq_true rfl) (fun _ F0i => ?_)
 have F0 : Fr 10 [(0, .agg #[.slice m_store_a m_store_n m_store_c, .slice m_touch_reads_a m_touch_reads_n m_touch_reads_c, .slice m_touch_writes_a m_touch_writes_n m_touch_writes_c])] _ := F0i
 clear F0i
 refine wp_seq (wp_region_lit (l_op (f_box F0 (At.nil w) rfl rfl rfl (F0.ev 0 rfl) rfl rfl fun b1 _ w1 F2 S1 => ?_)))
 refine l_op (f_alloc F2 S1.at' ZI_32 rfl rfl rfl rfl rfl fun b3 _ w3 F4 S3 => ?_)
 have F5 : Fr 10 [(2, .pointer (some ⟨b3, 0, none⟩)), (1, .pointer (some ⟨b1, 0, none⟩))] _ := F4.cut rfl
 clear F0 F2 F4
 have T6 : Mv _ _ [bx b3 [.slice none 0 0, .slice none 0 0, .slice none 0 0] 32, bx b1 [.slice m_store_a m_store_n m_store_c, .slice m_touch_reads_a m_touch_reads_n m_touch_reads_c, .slice m_touch_writes_a m_touch_writes_n m_touch_writes_c] 32] _ := S3
 refine s_end (x_normal (wp_seq ?_))
 refine x_draw (fun aZ wZ => ∃ (r0_a_13 : Option Addr), ∃ (r0_n_13 : Nat), ∃ (r0_c_13 : Nat), ∃ (r0_reads_a_15 : Option Addr), ∃ (r0_reads_n_15 : Nat), ∃ (r0_reads_c_15 : Nat), ∃ (r0_writes_a_15 : Option Addr), ∃ (r0_writes_n_15 : Nat), ∃ (r0_writes_c_15 : Nat), Fr 10 [(2, .pointer (some ⟨b3, 0, none⟩))] aZ ∧ Mv [bx b3 [.slice none 0 0, .slice none 0 0, .slice none 0 0] 32, bx b1 [.slice m_store_a m_store_n m_store_c, .slice m_touch_reads_a m_touch_reads_n m_touch_reads_c, .slice m_touch_writes_a m_touch_writes_n m_touch_writes_c] 32] w3 [bx b3 [.slice r0_a_13 r0_n_13 r0_c_13, .slice r0_reads_a_15 r0_reads_n_15 r0_reads_c_15, .slice r0_writes_a_15 r0_writes_n_15 r0_writes_c_15] 32, bx b1 [.slice m_store_a m_store_n m_store_c, .slice m_touch_reads_a m_touch_reads_n m_touch_reads_c, .slice m_touch_writes_a m_touch_writes_n m_touch_writes_c] 32, ow 87 2 encC okC (.slice r0_a_13 r0_n_13 r0_c_13) m.store, ow 9 1 encS okS (.slice r0_reads_a_15 r0_reads_n_15 r0_reads_c_15) m.touch.reads, ow 9 1 encS okS (.slice r0_writes_a_15 r0_writes_n_15 r0_writes_c_15) m.touch.writes] wZ) [bx b1 [.slice m_store_a m_store_n m_store_c, .slice m_touch_reads_a m_touch_reads_n m_touch_reads_c, .slice m_touch_writes_a m_touch_writes_n m_touch_writes_c] 32] mixed T6.at' (listed := #[false, false, false, false, false, false, false, false]) rfl (fun w8 S8 => ?_) [1] rfl ?_
 · skip
   refine g_take F5 rfl (i := 0) (listed' := #[true, false, false, false, false, false, false, false]) rfl (by kernel_rfl) (by kernel_rfl) (by kernel_rfl) (fun _ _ _ h => h) (Sd.of (Mv.refl S8.at') [1] rfl) rfl rfl rfl rfl (fun _ hz => (r_field FI_32_0 rfl (F5.ev 1 rfl) rfl)) fun _ F9 => ?_
   refine g_take (v := .slice m_store_a m_store_n m_store_c) F9 rfl (i := 1) (listed' := #[true, true, false, false, false, false, false, false]) rfl (by kernel_rfl) (by kernel_rfl) (by kernel_rfl) (fun _ _ _ h => h) (Sd.of (Mv.refl S8.at') [1] rfl) rfl rfl rfl rfl (fun _ hz => (r_loadX (hz.bx 0 rfl) TI_29 rfl (F9.ev 3 rfl) rfl rfl (fun _ => rfl) rfl)) fun _ F10 => ?_
   refine g_take F10 rfl (i := 3) (listed' := #[true, true, false, true, false, false, false, false]) rfl (by kernel_rfl) (by kernel_rfl) (by kernel_rfl) (fun _ _ _ h => h) (Sd.of (Mv.refl S8.at') [1] rfl) rfl rfl rfl rfl (fun _ hz => (r_field FI_32_1 rfl (F10.ev 1 rfl) rfl)) fun _ F11 => ?_
   refine g_take (v := .agg #[.slice m_touch_reads_a m_touch_reads_n m_touch_reads_c, .slice m_touch_writes_a m_touch_writes_n m_touch_writes_c]) F11 rfl (i := 4) (listed' := #[true, true, false, true, true, false, false, false]) rfl (by kernel_rfl) (by kernel_rfl) (by kernel_rfl) (fun _ _ _ h => h) (Sd.of (Mv.refl S8.at') [1] rfl) rfl rfl rfl rfl (fun _ hz => (r_loadX (hz.bx 0 rfl) TI_30 rfl (F11.ev 6 rfl) rfl rfl (fun h => nomatch h) rfl)) fun _ F12 => ?_
   refine d_one (i := 2) (listed' := #[true, true, true, true, true, false, false, false]) rfl (by kernel_rfl) rfl rfl ?_
   refine f_call F12 CF_92 rfl rfl rfl rfl (lc (F12.ev 4 rfl) rfl) (slices_Clone_Simpl_Cell_impl_Cell_c (s := m.store) (Rd.mv (Nat.succ_pos _) V_v_m_store (S1.trans (T6.trans S8))) (by first | assumption | omega | (simp <;> omega))) ?_
   rintro _ w13 ⟨r0_a_13, r0_n_13, r0_c_13, rfl, m13⟩
   refine ⟨_, rfl, fun _ F14 => ?_⟩
   have S13 : Mv _ _ [ow 87 2 encC okC (.slice r0_a_13 r0_n_13 r0_c_13) m.store, bx b3 [.slice none 0 0, .slice none 0 0, .slice none 0 0] 32, bx b1 [.slice m_store_a m_store_n m_store_c, .slice m_touch_reads_a m_touch_reads_n m_touch_reads_c, .slice m_touch_writes_a m_touch_writes_n m_touch_writes_c] 32] _ := At.frame S8.at' [] rfl m13
   obtain ⟨lo13_0, lp13_0, lq13_0⟩ := At.ownInv S13.at' ET_29.hk 0 rfl
   clear m13
   refine ⟨Sd.of S13 [2] rfl, ?_⟩
   refine d_one (i := 5) (listed' := #[true, true, true, true, true, true, false, false]) rfl (by kernel_rfl) rfl rfl ?_
   refine f_call F14 CF_93 rfl rfl rfl rfl (lc (F14.ev 7 rfl) rfl) (impl_Touch_clone_c (t := m.touch) (Rd.mv (Nat.succ_pos _) V_v_m_touch_reads (S1.trans (T6.trans (S8.trans S13)))) (Rd.mv (Nat.succ_pos _) V_v_m_touch_writes (S1.trans (T6.trans (S8.trans S13)))) (by first | assumption | omega | (simp <;> omega)) (by first | assumption | omega | (simp <;> omega))) ?_
   rintro _ w15 ⟨r0_reads_a_15, r0_reads_n_15, r0_reads_c_15, r0_writes_a_15, r0_writes_n_15, r0_writes_c_15, rfl, m15⟩
   refine ⟨_, rfl, fun _ F16 => ?_⟩
   have S15 : Mv _ _ [ow 9 1 encS okS (.slice r0_reads_a_15 r0_reads_n_15 r0_reads_c_15) m.touch.reads, ow 9 1 encS okS (.slice r0_writes_a_15 r0_writes_n_15 r0_writes_c_15) m.touch.writes, ow 87 2 encC okC (.slice r0_a_13 r0_n_13 r0_c_13) m.store, bx b3 [.slice none 0 0, .slice none 0 0, .slice none 0 0] 32, bx b1 [.slice m_store_a m_store_n m_store_c, .slice m_touch_reads_a m_touch_reads_n m_touch_reads_c, .slice m_touch_writes_a m_touch_writes_n m_touch_writes_c] 32] _ := At.frame S13.at' [] rfl m15
   obtain ⟨lo15_0, lp15_0, lq15_0⟩ := At.ownInv S15.at' ET_23.hk 0 rfl
   obtain ⟨lo15_1, lp15_1, lq15_1⟩ := At.ownInv S15.at' ET_23.hk 1 rfl
   clear m15
   refine ⟨Sd.of (S13.trans S15) [4] rfl, ?_⟩
   refine g_take (v := .agg #[.slice r0_a_13 r0_n_13 r0_c_13, .slice r0_reads_a_15 r0_reads_n_15 r0_reads_c_15, .slice r0_writes_a_15 r0_writes_n_15 r0_writes_c_15]) F16 rfl (i := 6) (listed' := #[true, true, true, true, true, true, true, false]) rfl (by kernel_rfl) (by kernel_rfl) (by kernel_rfl) (fun _ _ _ h => h) (Sd.of (S13.trans S15) [4] rfl) rfl rfl rfl rfl (fun _ hz => (r_build BI_32 rfl (lc (pr2 (F16.ev 5 rfl)) (lc (pr2 (F16.ev 8 rfl)) rfl)) rfl)) fun _ F17 => ?_
   refine d_one (i := 7) (listed' := #[true, true, true, true, true, true, true, true]) rfl (by kernel_rfl) rfl rfl ?_
   refine s_store S15.at' 3 TI_32 rfl rfl rfl rfl rfl (F17.ev 2 rfl) (F17.ev 9 rfl) rfl rfl rfl rfl rfl fun w18 S18 => ?_
   refine ⟨Sd.of (S13.trans (S15.trans S18)) [4] rfl, ?_⟩
   refine wpAnyH_done (by kernel_rfl) (x_normal ?_) _
   exact ⟨r0_a_13, r0_n_13, r0_c_13, r0_reads_a_15, r0_reads_n_15, r0_reads_c_15, r0_writes_a_15, r0_writes_n_15, r0_writes_c_15, F17.cut rfl, ((S8.trans (S13.trans (S15.trans S18))).pick [0, 4, 3, 1, 2] rfl)⟩
 · rintro a19 w19 ⟨r0_a_13, r0_n_13, r0_c_13, r0_reads_a_15, r0_reads_n_15, r0_reads_c_15, r0_writes_a_15, r0_writes_n_15, r0_writes_c_15, F19, S19⟩
   refine x_normal (wp_ret ?_)
   refine x_done (v := .agg #[.slice r0_a_13 r0_n_13 r0_c_13, .slice r0_reads_a_15 r0_reads_n_15 r0_reads_c_15, .slice r0_writes_a_15 r0_writes_n_15 r0_writes_c_15]) F19 (results_1 Tryd.results53 (.cell (F19.ev 2 rfl) (run_loadVar' TI_32 _ [.slice r0_a_13 r0_n_13 r0_c_13, .slice r0_reads_a_15 r0_reads_n_15 r0_reads_c_15, .slice r0_writes_a_15 r0_writes_n_15 r0_writes_c_15] rfl (fun h => nomatch h) (At.cells S19.at' 0 rfl 0 [.slice r0_a_13 r0_n_13 r0_c_13, .slice r0_reads_a_15 r0_reads_n_15 r0_reads_c_15, .slice r0_writes_a_15 r0_writes_n_15 r0_writes_c_15] rfl)))) ?_
   exact ⟨r0_a_13, r0_n_13, r0_c_13, r0_reads_a_15, r0_reads_n_15, r0_reads_c_15, r0_writes_a_15, r0_writes_n_15, r0_writes_c_15, rfl, (Mv.pick (S1.trans (T6.trans S19)) [2, 3, 4] rfl)⟩
end Go.Proofs.YticcmacclncgaaaDoor
