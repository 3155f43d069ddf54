/-
  Walks: a key is laid, a beginning is wiped.
-/
import Derived.Test.YticcmacclncgaaaDoorDat3
import Derived.Test.YticcmacclncgaaaDoorGenQ
namespace Go.Proofs.YticcmacclncgaaaDoor
open Go.ChangeShapes Go.WideShapes Go.ChangeAt Go.RowKit
set_option maxRecDepth 100000
set_option maxHeartbeats 1000000
theorem spec_l04Lay_c {w : World} {H : Nat → Prop} {m : MachD} {m_store_a : Option Addr} {m_store_n m_store_c : Nat} {m_touch_reads_a : Option Addr} {m_touch_reads_n m_touch_reads_c : Nat} {m_touch_writes_a : Option Addr} {m_touch_writes_n m_touch_writes_c : Nat} {key : ByteArray} {val : ByteArray} (v_m_store : Rd 2 encC okC H w (.slice m_store_a m_store_n m_store_c) m.store) (v_m_touch_reads : Rd 1 encS okS H w (.slice m_touch_reads_a m_touch_reads_n m_touch_reads_c) m.touch.reads) (v_m_touch_writes : Rd 1 encS okS H w (.slice m_touch_writes_a m_touch_writes_n m_touch_writes_c) m.touch.writes) (h_key : okS key) (h_val : okS val) (p0 : m.store.length ≤ 274877906943) (p1 : m.touch.writes.length ≤ 274877906943) :
    Calls Tryd.prog 87 #[.agg #[.slice m_store_a m_store_n m_store_c, .slice m_touch_reads_a m_touch_reads_n m_touch_reads_c, .slice m_touch_writes_a m_touch_writes_n m_touch_writes_c], .string key, .string val] w fun e w' => ∃ (r0_store_a : Option Addr), ∃ (r0_store_n : Nat), ∃ (r0_store_c : Nat), ∃ (r0_touch_reads_a : Option Addr), ∃ (r0_touch_reads_n : Nat), ∃ (r0_touch_reads_c : Nat), ∃ (r0_touch_writes_a : Option Addr), ∃ (r0_touch_writes_n : Nat), ∃ (r0_touch_writes_c : Nat), e = .returned (.agg #[.slice r0_store_a r0_store_n r0_store_c, .slice r0_touch_reads_a r0_touch_reads_n r0_touch_reads_c, .slice r0_touch_writes_a r0_touch_writes_n r0_touch_writes_c]) ∧ Mv [] w [] w' ∧ Rd 2 encC okC (Fsh H w) w' (.slice r0_store_a r0_store_n r0_store_c) (layM m key val).store ∧ Rd 1 encS okS (Fsh H w) w' (.slice r0_touch_reads_a r0_touch_reads_n r0_touch_reads_c) (layM m key val).touch.reads ∧ Rd 1 encS okS (Fsh H w) w' (.slice r0_touch_writes_a r0_touch_writes_n r0_touch_writes_c) (layM m key val).touch.writes := by
 have uU : True := (fun _ _ => trivial) p0 p1
 clear uU
 have V_v_m_store : Rd 2 encC okC (V H w []) w (.slice m_store_a m_store_n m_store_c) m.store := Rd.start v_m_store (fun _ _ => fps_nil _)
 obtain ⟨ln_m_store, le_m_store, mx_m_store, ni_m_store⟩ := Rd.inv v_m_store
 have V_v_m_touch_reads : Rd 1 encS okS (V H w []) w (.slice m_touch_reads_a m_touch_reads_n m_touch_reads_c) m.touch.reads := Rd.start v_m_touch_reads (fun _ _ => fps_nil _)
 obtain ⟨ln_m_touch_reads, le_m_touch_reads, mx_m_touch_reads, ni_m_touch_reads⟩ := Rd.inv v_m_touch_reads
 have V_v_m_touch_writes : Rd 1 encS okS (V H w []) w (.slice m_touch_writes_a m_touch_writes_n m_touch_writes_c) m.touch.writes := Rd.start v_m_touch_writes (fun _ _ => fps_nil _)
 obtain ⟨ln_m_touch_writes, le_m_touch_writes, mx_m_touch_writes, ni_m_touch_writes⟩ := Rd.inv v_m_touch_writes
 refine calls_enter 21 Tryd.func87 rfl Tryd.ntmps87 (Nat.le_of_ble_eq_true rfl) (fun _ F0i => ?_)
 have F0 : Fr 21 [(0, .agg #[.slice m_store_a m_store_n m_store_c, .slice m_touch_reads_a m_touch_reads_n m_touch_reads_c, .slice m_touch_writes_a m_touch_writes_n m_touch_writes_c]), (1, .string key), (2, .string val)] _ := F0i
 clear F0i
 refine wp_seq (wp_region_lit (l_op (f_box F0 (At.nil w) rfl rfl rfl (F0.ev 0 rfl) rfl rfl fun b1 _ w1 F2 S1 => ?_)))
 refine l_op (f_alloc F2 S1.at' ZI_32 rfl rfl rfl rfl rfl fun b3 _ w3 F4 S3 => ?_)
 have F5 : Fr 21 [(6, .pointer (some ⟨b3, 0, none⟩)), (3, .pointer (some ⟨b1, 0, none⟩)), (1, .string key), (2, .string val)] _ := F4.cut rfl
 clear F0 F2 F4
 have T6 : Mv _ _ [bx b3 [.slice none 0 0, .slice none 0 0, .slice none 0 0] 32, bx b1 [.slice m_store_a m_store_n m_store_c, .slice m_touch_reads_a m_touch_reads_n m_touch_reads_c, .slice m_touch_writes_a m_touch_writes_n m_touch_writes_c] 32] _ := S3
 refine s_end (x_normal (wp_seq (wp_region_lit (l_op (f_val F5 rfl rfl (r_field FI_32_1 rfl (F5.ev 3 rfl) rfl) rfl fun _ F7 => ?_)))))
 refine l_op (f_val F7 rfl rfl (r_field FI_30_1 rfl (F7.ev 7 rfl) rfl) rfl fun _ F8 => ?_)
 refine l_op (f_val (v := .slice m_touch_writes_a m_touch_writes_n m_touch_writes_c) F8 rfl rfl (r_loadB T6.at' 1 TI_23 rfl rfl (F8.ev 8 rfl) rfl rfl (fun _ => rfl) rfl) rfl fun _ F9 => ?_)
 refine l_op (f_mv F9 rfl rfl rfl rfl rfl fun _ F10 => ?_)
 refine l_op (f_call F10 CF_119 rfl rfl rfl rfl (lc (F10.ev 9 rfl) (lc (F10.ev 10 rfl) rfl)) (spec_AddSpan_c (list := m.touch.writes) (span := key) (Rd.mv (Nat.succ_pos _) V_v_m_touch_writes (S1.trans T6)) h_key (by first | assumption | omega | (simp <;> omega))) ?_)
 rintro _ w11 ⟨r0_a_11, r0_n_11, r0_c_11, rfl, m11, v11_0⟩
 refine ⟨_, rfl, fun _ F12 => ?_⟩
 have S11 := At.frame0 T6.at' m11
 have V11_0 := Rd.got0 T6.at' ((S1.trans T6).kp.size) v11_0 S11
 obtain ⟨ln11_0, le11_0, mx11_0, ni11_0⟩ := Rd.inv V11_0
 clear m11 v11_0
 refine l_op (f_val F12 rfl rfl (r_field FI_32_1 rfl (F12.ev 3 rfl) rfl) rfl fun _ F13 => ?_)
 refine l_op (f_val F13 rfl rfl (r_field FI_30_1 rfl (F13.ev 12 rfl) rfl) rfl fun _ F14 => ?_)
 refine l_op (s_store S11.at' 1 TI_23 rfl rfl rfl rfl rfl (F14.ev 13 rfl) (F14.ev 11 rfl) rfl rfl rfl rfl rfl fun w15 S15 => ?_)
 have F16 : Fr 21 [(13, .pointer (some ⟨b1, 2, none⟩)), (11, .slice r0_a_11 r0_n_11 r0_c_11), (6, .pointer (some ⟨b3, 0, none⟩)), (3, .pointer (some ⟨b1, 0, none⟩)), (1, .string key), (2, .string val)] _ := F14.cut rfl
 clear F5 F7 F8 F9 F10 F12 F13 F14
 have T17 : Mv _ _ [bx b1 [.slice m_store_a m_store_n m_store_c, .slice m_touch_reads_a m_touch_reads_n m_touch_reads_c, .slice r0_a_11 r0_n_11 r0_c_11] 32, bx b3 [.slice none 0 0, .slice none 0 0, .slice none 0 0] 32] _ := S15
 refine s_end (x_normal (wp_seq (wp_region_lit (l_op (f_val F16 rfl rfl (r_field FI_32_0 rfl (F16.ev 3 rfl) rfl) rfl fun _ F18 => ?_)))))
 refine l_op (f_val (v := .slice m_store_a m_store_n m_store_c) F18 rfl rfl (r_loadB T17.at' 0 TI_29 rfl rfl (F18.ev 14 rfl) rfl rfl (fun _ => rfl) rfl) rfl fun _ F19 => ?_)
 refine l_op (f_mv F19 rfl rfl rfl rfl rfl fun _ F20 => ?_)
 refine l_op (f_mv F20 rfl rfl rfl rfl rfl fun _ F21 => ?_)
 refine l_op (f_call F21 CF_120 rfl rfl rfl rfl (lc (F21.ev 15 rfl) (lc (F21.ev 16 rfl) (lc (F21.ev 17 rfl) rfl))) (spec_PutKey_c (s := m.store) (key := key) (val := val) (Rd.mv (Nat.succ_pos _) V_v_m_store (S1.trans (T6.trans (S11.trans T17)))) h_key h_val (by first | assumption | omega | (simp <;> omega))) ?_)
 rintro _ w22 ⟨r0_a_22, r0_n_22, r0_c_22, rfl, m22⟩
 refine ⟨_, rfl, fun _ F23 => ?_⟩
 have S22 : Mv _ _ [ow 87 2 encC okC (.slice r0_a_22 r0_n_22 r0_c_22) (putKey m.store key val), bx b1 [.slice m_store_a m_store_n m_store_c, .slice m_touch_reads_a m_touch_reads_n m_touch_reads_c, .slice r0_a_11 r0_n_11 r0_c_11] 32, bx b3 [.slice none 0 0, .slice none 0 0, .slice none 0 0] 32] _ := At.frame T17.at' [] rfl m22
 obtain ⟨lo22_0, lp22_0, lq22_0⟩ := At.ownInv S22.at' ET_29.hk 0 rfl
 clear m22
 refine l_op (f_val F23 rfl rfl (r_field FI_32_0 rfl (F23.ev 3 rfl) rfl) rfl fun _ F24 => ?_)
 refine l_op (s_store S22.at' 1 TI_29 rfl rfl rfl rfl rfl (F24.ev 19 rfl) (F24.ev 18 rfl) rfl rfl rfl rfl rfl fun w25 S25 => ?_)
 have F26 : Fr 21 [(19, .pointer (some ⟨b1, 0, none⟩)), (18, .slice r0_a_22 r0_n_22 r0_c_22), (6, .pointer (some ⟨b3, 0, none⟩)), (3, .pointer (some ⟨b1, 0, none⟩))] _ := F24.cut rfl
 clear F16 F18 F19 F20 F21 F23 F24
 have T27 : Mv _ _ [bx b1 [.slice r0_a_22 r0_n_22 r0_c_22, .slice m_touch_reads_a m_touch_reads_n m_touch_reads_c, .slice r0_a_11 r0_n_11 r0_c_11] 32, ow 87 2 encC okC (.slice r0_a_22 r0_n_22 r0_c_22) (putKey m.store key val), bx b3 [.slice none 0 0, .slice none 0 0, .slice none 0 0] 32] _ := S25
 refine s_end (x_normal (wp_seq (wp_region_lit (l_op (f_val (v := .agg #[.slice r0_a_22 r0_n_22 r0_c_22, .slice m_touch_reads_a m_touch_reads_n m_touch_reads_c, .slice r0_a_11 r0_n_11 r0_c_11]) F26 rfl rfl (r_loadB T27.at' 0 TI_32 rfl rfl (F26.ev 3 rfl) rfl rfl (fun h => nomatch h) rfl) rfl fun _ F28 => ?_)))))
 refine l_op (s_store T27.at' 2 TI_32 rfl rfl rfl rfl rfl (F28.ev 6 rfl) (F28.ev 20 rfl) rfl rfl rfl rfl rfl fun w29 S29 => ?_)
 have F30 : Fr 21 [(20, .agg #[.slice r0_a_22 r0_n_22 r0_c_22, .slice m_touch_reads_a m_touch_reads_n m_touch_reads_c, .slice r0_a_11 r0_n_11 r0_c_11]), (6, .pointer (some ⟨b3, 0, none⟩))] _ := F28.cut rfl
 clear F26 F28
 have T31 : Mv _ _ [bx b3 [.slice r0_a_22 r0_n_22 r0_c_22, .slice m_touch_reads_a m_touch_reads_n m_touch_reads_c, .slice r0_a_11 r0_n_11 r0_c_11] 32, bx b1 [.slice r0_a_22 r0_n_22 r0_c_22, .slice m_touch_reads_a m_touch_reads_n m_touch_reads_c, .slice r0_a_11 r0_n_11 r0_c_11] 32, ow 87 2 encC okC (.slice r0_a_22 r0_n_22 r0_c_22) (putKey m.store key val)] _ := S29
 refine s_end (x_normal (wp_ret ?_))
 have Z32 : Rd 2 encC okC (V H w [bx b3 [.slice r0_a_22 r0_n_22 r0_c_22, .slice m_touch_reads_a m_touch_reads_n m_touch_reads_c, .slice r0_a_11 r0_n_11 r0_c_11] 32, bx b1 [.slice r0_a_22 r0_n_22 r0_c_22, .slice m_touch_reads_a m_touch_reads_n m_touch_reads_c, .slice r0_a_11 r0_n_11 r0_c_11] 32]) w29 (.slice r0_a_22 r0_n_22 r0_c_22) (putKey m.store key val) := At.freeze (S1.trans (T6.trans (S11.trans (T17.trans (S22.trans (T27.trans T31)))))) ET_29.hk 2 rfl (fun b hb => ((S1.trans (T6.trans (S11.trans (T17.trans (S22.trans (T27.trans T31)))))).fresh b ⟨_, nth_mem (i := 2) rfl, hb⟩).resolve_left (fps_nil _))
 have S32 := At.drop T31.at' 2
 refine x_done (v := .agg #[.slice r0_a_22 r0_n_22 r0_c_22, .slice m_touch_reads_a m_touch_reads_n m_touch_reads_c, .slice r0_a_11 r0_n_11 r0_c_11]) F30 (results_1 Tryd.results87 (.cell (F30.ev 6 rfl) (run_loadVar' TI_32 _ [.slice r0_a_22 r0_n_22 r0_c_22, .slice m_touch_reads_a m_touch_reads_n m_touch_reads_c, .slice r0_a_11 r0_n_11 r0_c_11] rfl (fun h => nomatch h) (At.cells T31.at' 0 rfl 0 [.slice r0_a_22 r0_n_22 r0_c_22, .slice m_touch_reads_a m_touch_reads_n m_touch_reads_c, .slice r0_a_11 r0_n_11 r0_c_11] rfl)))) ?_
 exact ⟨r0_a_22, r0_n_22, r0_c_22, m_touch_reads_a, m_touch_reads_n, m_touch_reads_c, r0_a_11, r0_n_11, r0_c_11, rfl, (Mv.pick (S1.trans (T6.trans (S11.trans (T17.trans (S22.trans (T27.trans (T31.trans S32))))))) [] rfl), (Rd.cast (Rd.give Z32) (show (putKey m.store key val) = (layM m key val).store from by rfl)), (Rd.cast (Rd.give (Rd.mv (Nat.succ_pos _) V_v_m_touch_reads (S1.trans (T6.trans (S11.trans (T17.trans (S22.trans (T27.trans (T31.trans S32))))))))) (show m.touch.reads = (layM m key val).touch.reads from by rfl)), (Rd.cast (Rd.give (Rd.mv (Nat.succ_pos _) V11_0 (T17.trans (S22.trans (T27.trans (T31.trans S32)))))) (show (putL m.touch.writes key) = (layM m key val).touch.writes from by rfl))⟩
theorem impl_Mach_lay_c {w : World} {H : Nat → Prop} {m : MachD} {m_store_a : Option Addr} {m_store_n m_store_c : Nat} {m_touch_reads_a : Option Addr} {m_touch_reads_n m_touch_reads_c : Nat} {m_touch_writes_a : Option Addr} {m_touch_writes_n m_touch_writes_c : Nat} {m_b : Nat} {key : ByteArray} {val : ByteArray} (h_key : okS key) (h_val : okS val) (p0 : m.store.length ≤ 274877906943) (p1 : m.touch.writes.length ≤ 274877906943) (hA : At w [bx m_b [.slice m_store_a m_store_n m_store_c, .slice m_touch_reads_a m_touch_reads_n m_touch_reads_c, .slice m_touch_writes_a m_touch_writes_n m_touch_writes_c] 32, ow 87 2 encC okC (.slice m_store_a m_store_n m_store_c) m.store, ow 9 1 encS okS (.slice m_touch_reads_a m_touch_reads_n m_touch_reads_c) m.touch.reads, ow 9 1 encS okS (.slice m_touch_writes_a m_touch_writes_n m_touch_writes_c) m.touch.writes]) :
    Calls Tryd.prog 96 #[.pointer (some ⟨m_b, 0, none⟩), .string key, .string val] w fun e w' => ∃ (q_m_store_a : Option Addr), ∃ (q_m_store_n : Nat), ∃ (q_m_store_c : Nat), ∃ (q_m_touch_reads_a : Option Addr), ∃ (q_m_touch_reads_n : Nat), ∃ (q_m_touch_reads_c : Nat), ∃ (q_m_touch_writes_a : Option Addr), ∃ (q_m_touch_writes_n : Nat), ∃ (q_m_touch_writes_c : Nat), e = .returned (.tuple #[]) ∧ Mv [bx m_b [.slice m_store_a m_store_n m_store_c, .slice m_touch_reads_a m_touch_reads_n m_touch_reads_c, .slice m_touch_writes_a m_touch_writes_n m_touch_writes_c] 32, ow 87 2 encC okC (.slice m_store_a m_store_n m_store_c) m.store, ow 9 1 encS okS (.slice m_touch_reads_a m_touch_reads_n m_touch_reads_c) m.touch.reads, ow 9 1 encS okS (.slice m_touch_writes_a m_touch_writes_n m_touch_writes_c) m.touch.writes] w [bx m_b [.slice q_m_store_a q_m_store_n q_m_store_c, .slice q_m_touch_reads_a q_m_touch_reads_n q_m_touch_reads_c, .slice q_m_touch_writes_a q_m_touch_writes_n q_m_touch_writes_c] 32, ow 87 2 encC okC (.slice q_m_store_a q_m_store_n q_m_store_c) (layM m key val).store, ow 9 1 encS okS (.slice q_m_touch_reads_a q_m_touch_reads_n q_m_touch_reads_c) (layM m key val).touch.reads, ow 9 1 encS okS (.slice q_m_touch_writes_a q_m_touch_writes_n q_m_touch_writes_c) (layM m key val).touch.writes] w' := by
 have uU : True := (fun _ _ _ => trivial) H p0 p1
 clear uU
 obtain ⟨lo1, lp1, lq1⟩ := At.ownInv hA ET_29.hk 1 rfl
 obtain ⟨lo2, lp2, lq2⟩ := At.ownInv hA ET_23.hk 2 rfl
 obtain ⟨lo3, lp3, lq3⟩ := At.ownInv hA ET_23.hk 3 rfl
 refine calls_enter 27 Tryd.func96 rfl Tryd.ntmps96 (Nat.le_of_ble_eq_true rfl) (fun _ F0i => ?_)
 have F0 : Fr 27 [(0, .pointer (some ⟨m_b, 0, none⟩)), (1, .string key), (2, .string val)] _ := F0i
 clear F0i
 refine wp_seq (wp_region_lit (l_op (f_mv F0 rfl rfl rfl rfl rfl fun _ F1 => ?_)))
 refine l_op (f_mv F1 rfl rfl rfl rfl rfl fun _ F2 => ?_)
 refine l_op (f_val F2 rfl rfl (r_nilCheck rfl (F2.ev 7 rfl)) rfl fun _ F3 => ?_)
 refine l_op (f_val F3 rfl rfl (r_field FI_32_1 rfl (F3.ev 8 rfl) rfl) rfl fun _ F4 => ?_)
 refine l_op (f_val F4 rfl rfl (r_field FI_30_1 rfl (F4.ev 9 rfl) rfl) rfl fun _ F5 => ?_)
 refine l_op (f_val (v := .slice m_touch_writes_a m_touch_writes_n m_touch_writes_c) F5 rfl rfl (r_loadB hA 0 TI_23 rfl rfl (F5.ev 10 rfl) rfl rfl (fun _ => rfl) rfl) rfl fun _ F6 => ?_)
 refine l_op (f_mv F6 rfl rfl rfl rfl rfl fun _ F7 => ?_)
 refine l_op (f_call F7 CF_106 rfl rfl rfl rfl (lc (F7.ev 11 rfl) (lc (F7.ev 12 rfl) rfl)) (impl_addSpan_c (H := fun _ => True) (list := m.touch.writes) (span := key) h_key (by first | assumption | omega | (simp <;> omega)) (At.pick (is := [3]) hA rfl)) ?_)
 rintro _ w8 ⟨r0_a_8, r0_n_8, r0_c_8, rfl, m8⟩
 refine ⟨_, rfl, fun _ F9 => ?_⟩
 have S8 : Mv _ _ [ow 9 1 encS okS (.slice r0_a_8 r0_n_8 r0_c_8) (putL m.touch.writes key), bx m_b [.slice m_store_a m_store_n m_store_c, .slice m_touch_reads_a m_touch_reads_n m_touch_reads_c, .slice m_touch_writes_a m_touch_writes_n m_touch_writes_c] 32, ow 87 2 encC okC (.slice m_store_a m_store_n m_store_c) m.store, ow 9 1 encS okS (.slice m_touch_reads_a m_touch_reads_n m_touch_reads_c) m.touch.reads] _ := At.frame hA [3] rfl m8
 obtain ⟨lo8_0, lp8_0, lq8_0⟩ := At.ownInv S8.at' ET_23.hk 0 rfl
 clear m8
 refine l_op (f_val F9 rfl rfl (r_nilCheck rfl (F9.ev 6 rfl)) rfl fun _ F10 => ?_)
 refine l_op (f_val F10 rfl rfl (r_field FI_32_1 rfl (F10.ev 14 rfl) rfl) rfl fun _ F11 => ?_)
 refine l_op (f_val F11 rfl rfl (r_field FI_30_1 rfl (F11.ev 15 rfl) rfl) rfl fun _ F12 => ?_)
 refine l_op (s_store S8.at' 1 TI_23 rfl rfl rfl rfl rfl (F12.ev 16 rfl) (F12.ev 13 rfl) rfl rfl rfl rfl rfl fun w13 S13 => ?_)
 have F14 : Fr 27 [(16, .pointer (some ⟨m_b, 2, none⟩)), (13, .slice r0_a_8 r0_n_8 r0_c_8), (0, .pointer (some ⟨m_b, 0, none⟩)), (1, .string key), (2, .string val)] _ := F12.cut rfl
 clear F0 F1 F2 F3 F4 F5 F6 F7 F9 F10 F11 F12
 have T15 : Mv _ _ [bx m_b [.slice m_store_a m_store_n m_store_c, .slice m_touch_reads_a m_touch_reads_n m_touch_reads_c, .slice r0_a_8 r0_n_8 r0_c_8] 32, ow 9 1 encS okS (.slice r0_a_8 r0_n_8 r0_c_8) (putL m.touch.writes key), ow 87 2 encC okC (.slice m_store_a m_store_n m_store_c) m.store, ow 9 1 encS okS (.slice m_touch_reads_a m_touch_reads_n m_touch_reads_c) m.touch.reads] _ := S13
 refine s_end (x_normal (wp_region_lit (l_op (f_mv F14 rfl rfl rfl rfl rfl fun _ F16 => ?_))))
 refine l_op (f_mv F16 rfl rfl rfl rfl rfl fun _ F17 => ?_)
 refine l_op (f_val F17 rfl rfl (r_nilCheck rfl (F17.ev 18 rfl)) rfl fun _ F18 => ?_)
 refine l_op (f_val F18 rfl rfl (r_field FI_32_0 rfl (F18.ev 19 rfl) rfl) rfl fun _ F19 => ?_)
 refine l_op (f_val (v := .slice m_store_a m_store_n m_store_c) F19 rfl rfl (r_loadB T15.at' 0 TI_29 rfl rfl (F19.ev 20 rfl) rfl rfl (fun _ => rfl) rfl) rfl fun _ F20 => ?_)
 refine l_op (f_mv F20 rfl rfl rfl rfl rfl fun _ F21 => ?_)
 refine l_op (f_mv F21 rfl rfl rfl rfl rfl fun _ F22 => ?_)
 refine l_op (f_call F22 CF_124 rfl rfl rfl rfl (lc (F22.ev 21 rfl) (lc (F22.ev 22 rfl) (lc (F22.ev 23 rfl) rfl))) (impl_put_c (H := fun _ => True) (s := m.store) (key := key) (val := val) h_key h_val (by first | assumption | omega | (simp <;> omega)) (At.pick (is := [2]) T15.at' rfl)) ?_)
 rintro _ w23 ⟨r0_a_23, r0_n_23, r0_c_23, rfl, m23⟩
 refine ⟨_, rfl, fun _ F24 => ?_⟩
 have S23 : Mv _ _ [ow 87 2 encC okC (.slice r0_a_23 r0_n_23 r0_c_23) (putKey m.store key val), bx m_b [.slice m_store_a m_store_n m_store_c, .slice m_touch_reads_a m_touch_reads_n m_touch_reads_c, .slice r0_a_8 r0_n_8 r0_c_8] 32, ow 9 1 encS okS (.slice r0_a_8 r0_n_8 r0_c_8) (putL m.touch.writes key), ow 9 1 encS okS (.slice m_touch_reads_a m_touch_reads_n m_touch_reads_c) m.touch.reads] _ := At.frame T15.at' [2] rfl m23
 obtain ⟨lo23_0, lp23_0, lq23_0⟩ := At.ownInv S23.at' ET_29.hk 0 rfl
 clear m23
 refine l_op (f_val F24 rfl rfl (r_nilCheck rfl (F24.ev 17 rfl)) rfl fun _ F25 => ?_)
 refine l_op (f_val F25 rfl rfl (r_field FI_32_0 rfl (F25.ev 25 rfl) rfl) rfl fun _ F26 => ?_)
 refine l_op (s_store S23.at' 1 TI_29 rfl rfl rfl rfl rfl (F26.ev 26 rfl) (F26.ev 24 rfl) rfl rfl rfl rfl rfl fun w27 S27 => ?_)
 have F28 : Fr 27 [(26, .pointer (some ⟨m_b, 0, none⟩)), (24, .slice r0_a_23 r0_n_23 r0_c_23)] _ := F26.cut rfl
 clear F14 F16 F17 F18 F19 F20 F21 F22 F24 F25 F26
 have T29 : Mv _ _ [bx m_b [.slice r0_a_23 r0_n_23 r0_c_23, .slice m_touch_reads_a m_touch_reads_n m_touch_reads_c, .slice r0_a_8 r0_n_8 r0_c_8] 32, ow 87 2 encC okC (.slice r0_a_23 r0_n_23 r0_c_23) (putKey m.store key val), ow 9 1 encS okS (.slice r0_a_8 r0_n_8 r0_c_8) (putL m.touch.writes key), ow 9 1 encS okS (.slice m_touch_reads_a m_touch_reads_n m_touch_reads_c) m.touch.reads] _ := S27
 refine s_end ?_
 refine x_done_end (v := .tuple #[]) F28 (results_0 Tryd.results96) ?_
 exact ⟨r0_a_23, r0_n_23, r0_c_23, m_touch_reads_a, m_touch_reads_n, m_touch_reads_c, r0_a_8, r0_n_8, r0_c_8, rfl, (Mv.cast (Mv.pick (S8.trans (T15.trans (S23.trans T29))) [0, 1, 3, 2] rfl) rfl)⟩
theorem spec_l04Wipe_c {w : World} {H : Nat → Prop} {m : MachD} {m_store_a : Option Addr} {m_store_n m_store_c : Nat} {m_touch_reads_a : Option Addr} {m_touch_reads_n m_touch_reads_c : Nat} {m_touch_writes_a : Option Addr} {m_touch_writes_n m_touch_writes_c : Nat} {pfx : ByteArray} (v_m_store : Rd 2 encC okC H w (.slice m_store_a m_store_n m_store_c) m.store) (v_m_touch_reads : Rd 1 encS okS H w (.slice m_touch_reads_a m_touch_reads_n m_touch_reads_c) m.touch.reads) (v_m_touch_writes : Rd 1 encS okS H w (.slice m_touch_writes_a m_touch_writes_n m_touch_writes_c) m.touch.writes) (h_pfx : okS pfx) (p0 : m.store.length ≤ 68719476736) (p1 : m.touch.reads.length ≤ 68719476736) (p2 : m.touch.writes.length ≤ 68719476736) (p3 : pfx.size ≤ 4611686018427387904) :
    Calls Tryd.prog 103 #[.agg #[.slice m_store_a m_store_n m_store_c, .slice m_touch_reads_a m_touch_reads_n m_touch_reads_c, .slice m_touch_writes_a m_touch_writes_n m_touch_writes_c], .string pfx] w fun e w' => ∃ (r0_store_a : Option Addr), ∃ (r0_store_n : Nat), ∃ (r0_store_c : Nat), ∃ (r0_touch_reads_a : Option Addr), ∃ (r0_touch_reads_n : Nat), ∃ (r0_touch_reads_c : Nat), ∃ (r0_touch_writes_a : Option Addr), ∃ (r0_touch_writes_n : Nat), ∃ (r0_touch_writes_c : Nat), e = .returned (.agg #[.slice r0_store_a r0_store_n r0_store_c, .slice r0_touch_reads_a r0_touch_reads_n r0_touch_reads_c, .slice r0_touch_writes_a r0_touch_writes_n r0_touch_writes_c]) ∧ Mv [] w [] w' ∧ Rd 2 encC okC (Fsh H w) w' (.slice r0_store_a r0_store_n r0_store_c) (wipeM m pfx).store ∧ Rd 1 encS okS (Fsh H w) w' (.slice r0_touch_reads_a r0_touch_reads_n r0_touch_reads_c) (wipeM m pfx).touch.reads ∧ Rd 1 encS okS (Fsh H w) w' (.slice r0_touch_writes_a r0_touch_writes_n r0_touch_writes_c) (wipeM m pfx).touch.writes := by
 have uU : True := (fun _ _ _ _ => trivial) p0 p1 p2 p3
 clear uU
 have V_v_m_store : Rd 2 encC okC (V H w []) w (.slice m_store_a m_store_n m_store_c) m.store := Rd.start v_m_store (fun _ _ => fps_nil _)
 obtain ⟨ln_m_store, le_m_store, mx_m_store, ni_m_store⟩ := Rd.inv v_m_store
 have V_v_m_touch_reads : Rd 1 encS okS (V H w []) w (.slice m_touch_reads_a m_touch_reads_n m_touch_reads_c) m.touch.reads := Rd.start v_m_touch_reads (fun _ _ => fps_nil _)
 obtain ⟨ln_m_touch_reads, le_m_touch_reads, mx_m_touch_reads, ni_m_touch_reads⟩ := Rd.inv v_m_touch_reads
 have V_v_m_touch_writes : Rd 1 encS okS (V H w []) w (.slice m_touch_writes_a m_touch_writes_n m_touch_writes_c) m.touch.writes := Rd.start v_m_touch_writes (fun _ _ => fps_nil _)
 obtain ⟨ln_m_touch_writes, le_m_touch_writes, mx_m_touch_writes, ni_m_touch_writes⟩ := Rd.inv v_m_touch_writes
 refine calls_enter 26 Tryd.func103 rfl Tryd.ntmps103 (Nat.le_of_ble_eq_true rfl) (fun _ F0i => ?_)
 have F0 : Fr 26 [(0, .agg #[.slice m_store_a m_store_n m_store_c, .slice m_touch_reads_a m_touch_reads_n m_touch_reads_c, .slice m_touch_writes_a m_touch_writes_n m_touch_writes_c]), (1, .string pfx)] _ := F0i
 clear F0i
 refine wp_seq (wp_region_lit (l_op (f_box F0 (At.nil w) rfl rfl rfl (F0.ev 0 rfl) rfl rfl fun b1 _ w1 F2 S1 => ?_)))
 refine l_op (f_alloc F2 S1.at' ZI_32 rfl rfl rfl rfl rfl fun b3 _ w3 F4 S3 => ?_)
 have F5 : Fr 26 [(4, .pointer (some ⟨b3, 0, none⟩)), (2, .pointer (some ⟨b1, 0, none⟩)), (1, .string pfx)] _ := F4.cut rfl
 clear F0 F2 F4
 have T6 : Mv _ _ [bx b3 [.slice none 0 0, .slice none 0 0, .slice none 0 0] 32, bx b1 [.slice m_store_a m_store_n m_store_c, .slice m_touch_reads_a m_touch_reads_n m_touch_reads_c, .slice m_touch_writes_a m_touch_writes_n m_touch_writes_c] 32] _ := S3
 refine s_end (x_normal (wp_seq (wp_region_lit (l_op (f_val (v := .agg #[.slice m_store_a m_store_n m_store_c, .slice m_touch_reads_a m_touch_reads_n m_touch_reads_c, .slice m_touch_writes_a m_touch_writes_n m_touch_writes_c]) F5 rfl rfl (r_loadB T6.at' 1 TI_32 rfl rfl (F5.ev 2 rfl) rfl rfl (fun h => nomatch h) rfl) rfl fun _ F7 => ?_)))))
 refine l_op (f_mv F7 rfl rfl rfl rfl rfl fun _ F8 => ?_)
 refine l_op (f_call F8 CF_105 rfl rfl rfl rfl (lc (F8.ev 8 rfl) (lc (F8.ev 9 rfl) rfl)) (spec_l04Under_c (m := m) (pfx := pfx) (Rd.mv (Nat.succ_pos _) V_v_m_store (S1.trans T6)) (Rd.mv (Nat.succ_pos _) V_v_m_touch_reads (S1.trans T6)) (Rd.mv (Nat.succ_pos _) V_v_m_touch_writes (S1.trans T6)) h_pfx (by first | assumption | omega | (simp <;> omega)) (by first | assumption | omega | (simp <;> omega)) (by first | assumption | omega | (simp <;> omega))) ?_)
 rintro _ w9 ⟨r0_store_a_9, r0_store_n_9, r0_store_c_9, r0_touch_reads_a_9, r0_touch_reads_n_9, r0_touch_reads_c_9, r0_touch_writes_a_9, r0_touch_writes_n_9, r0_touch_writes_c_9, r1_a_9, r1_n_9, r1_c_9, rfl, m9, v9_0, v9_1, v9_2, v9_3⟩
 refine ⟨_, rfl, fun _ F10 => ?_⟩
 have S9 := At.frame0 T6.at' m9
 have V9_0 := Rd.got0 T6.at' ((S1.trans T6).kp.size) v9_0 S9
 obtain ⟨ln9_0, le9_0, mx9_0, ni9_0⟩ := Rd.inv V9_0
 have V9_1 := Rd.got0 T6.at' ((S1.trans T6).kp.size) v9_1 S9
 obtain ⟨ln9_1, le9_1, mx9_1, ni9_1⟩ := Rd.inv V9_1
 have V9_2 := Rd.got0 T6.at' ((S1.trans T6).kp.size) v9_2 S9
 obtain ⟨ln9_2, le9_2, mx9_2, ni9_2⟩ := Rd.inv V9_2
 have V9_3 := Rd.got0 T6.at' ((S1.trans T6).kp.size) v9_3 S9
 obtain ⟨ln9_3, le9_3, mx9_3, ni9_3⟩ := Rd.inv V9_3
 clear m9 v9_0 v9_1 v9_2 v9_3
 refine l_op (f_mv F10 rfl rfl rfl rfl rfl fun _ F11 => ?_)
 refine l_op (f_val (v := .agg #[.slice r0_store_a_9 r0_store_n_9 r0_store_c_9, .slice r0_touch_reads_a_9 r0_touch_reads_n_9 r0_touch_reads_c_9, .slice r0_touch_writes_a_9 r0_touch_writes_n_9 r0_touch_writes_c_9]) F11 rfl rfl (r_extract rfl (F11.ev 7 rfl) rfl) rfl fun _ F12 => ?_)
 refine l_op (f_val (v := .slice r1_a_9 r1_n_9 r1_c_9) F12 rfl rfl (r_extract rfl (F12.ev 7 rfl) rfl) rfl fun _ F13 => ?_)
 refine l_op (s_store S9.at' 1 TI_32 rfl rfl rfl rfl rfl (F13.ev 2 rfl) (F13.ev 11 rfl) rfl rfl rfl rfl rfl fun w14 S14 => ?_)
 refine l_op (f_as F13 rfl rfl rfl rfl rfl fun _ F15 => ?_)
 have F16 : Fr 26 [(5, .slice r1_a_9 r1_n_9 r1_c_9), (4, .pointer (some ⟨b3, 0, none⟩)), (2, .pointer (some ⟨b1, 0, none⟩))] _ := F15.cut rfl
 clear F5 F7 F8 F10 F11 F12 F13 F15
 have T17 : Mv _ _ [bx b1 [.slice r0_store_a_9 r0_store_n_9 r0_store_c_9, .slice r0_touch_reads_a_9 r0_touch_reads_n_9 r0_touch_reads_c_9, .slice r0_touch_writes_a_9 r0_touch_writes_n_9 r0_touch_writes_c_9] 32, bx b3 [.slice none 0 0, .slice none 0 0, .slice none 0 0] 32] _ := S14
 refine s_end (x_normal (wp_seq (wp_seq (wp_region_lit (l_op (f_val F16 rfl rfl (r_assign rfl rfl) rfl fun _ F18 => ?_))))))
 have F19 : Fr 26 [(6, .int .i64 0), (5, .slice r1_a_9 r1_n_9 r1_c_9), (4, .pointer (some ⟨b3, 0, none⟩)), (2, .pointer (some ⟨b1, 0, none⟩))] _ := F18.cut rfl
 clear F16 F18
 refine s_end (x_normal (wp_block ?_))
 refine x_loop (fun (k : Nat) aZ wZ => ∃ (M : MachD), ∃ (sa : Option Addr), ∃ (sn : Nat), ∃ (sc : Nat), ∃ (ra : Option Addr), ∃ (rn : Nat), ∃ (rc : Nat), ∃ (ua : Option Addr), ∃ (un : Nat), ∃ (uc : Nat), Fr 26 [(6, .int .i64 ((k : Nat) : Int)), (5, .slice r1_a_9 r1_n_9 r1_c_9), (4, .pointer (some ⟨b3, 0, none⟩)), (2, .pointer (some ⟨b1, 0, none⟩))] aZ ∧ Mv [bx b1 [.slice r0_store_a_9 r0_store_n_9 r0_store_c_9, .slice r0_touch_reads_a_9 r0_touch_reads_n_9 r0_touch_reads_c_9, .slice r0_touch_writes_a_9 r0_touch_writes_n_9 r0_touch_writes_c_9] 32, bx b3 [.slice none 0 0, .slice none 0 0, .slice none 0 0] 32] w14 [bx b1 [.slice sa sn sc, .slice ra rn rc, .slice ua un uc] 32, bx b3 [.slice none 0 0, .slice none 0 0, .slice none 0 0] 32] wZ ∧ Rd 2 encC okC (V H w [bx b1 [.slice sa sn sc, .slice ra rn rc, .slice ua un uc] 32, bx b3 [.slice none 0 0, .slice none 0 0, .slice none 0 0] 32]) wZ (.slice sa sn sc) M.store ∧ Rd 1 encS okS (V H w [bx b1 [.slice sa sn sc, .slice ra rn rc, .slice ua un uc] 32, bx b3 [.slice none 0 0, .slice none 0 0, .slice none 0 0] 32]) wZ (.slice ra rn rc) M.touch.reads ∧ Rd 1 encS okS (V H w [bx b1 [.slice sa sn sc, .slice ra rn rc, .slice ua un uc] 32, bx b3 [.slice none 0 0, .slice none 0 0, .slice none 0 0] 32]) wZ (.slice ua un uc) M.touch.writes ∧ (k ≤ (keysUnder m.store pfx).length) ∧ (M = (wipeL (lookM m (pfx ++ (⟨#[42]⟩ : ByteArray))) ((keysUnder m.store pfx).take k)))) (fun (k : Nat) => (keysUnder m.store pfx).length - k) (0) ?_ ?_
 · exact ⟨lookM m (pfx ++ (⟨#[42]⟩ : ByteArray)), r0_store_a_9, r0_store_n_9, r0_store_c_9, r0_touch_reads_a_9, r0_touch_reads_n_9, r0_touch_reads_c_9, r0_touch_writes_a_9, r0_touch_writes_n_9, r0_touch_writes_c_9, F19.cut rfl, (Mv.refl T17.at'), (Rd.mv (Nat.succ_pos _) V9_0 T17), (Rd.mv (Nat.succ_pos _) V9_1 T17), (Rd.mv (Nat.succ_pos _) V9_2 T17), by omega, rfl⟩
 · rintro k a20 w20 ⟨M, sa, sn, sc, ra, rn, rc, ua, un, uc, F20, S20, W20_0, W20_1, W20_2, hk_0, hk_1⟩
   obtain ⟨lv20_0, lw20_0, lx20_0, ly20_0⟩ := Rd.inv W20_0
   obtain ⟨lv20_1, lw20_1, lx20_1, ly20_1⟩ := Rd.inv W20_1
   obtain ⟨lv20_2, lw20_2, lx20_2, ly20_2⟩ := Rd.inv W20_2
   have wb := wipeL_bd (lookM m (pfx ++ (⟨#[42]⟩ : ByteArray))) ((keysUnder m.store pfx).take k)
   have kl := keysUnder_length m.store pfx
   have pl := putL_length m.touch.reads (pfx ++ (⟨#[42]⟩ : ByteArray))
   rw [List.length_take, ← hk_1] at wb
   simp only [lookM] at wb
   refine wp_seq (wp_seq (wp_region_lit (l_op (f_mv F20 rfl rfl rfl rfl rfl fun _ F21 => ?_))))
   refine l_op (f_mv F21 rfl rfl rfl rfl rfl fun _ F22 => ?_)
   refine l_op (f_val F22 rfl rfl (r_len Tryd.underlying23 rfl (F22.ev 14 rfl)) rfl fun _ F23 => ?_)
   refine l_op (f_val F23 rfl rfl (r_cmp (b := decide (k < r1_n_9)) (.inr (.inr (.inl rfl))) rfl (F23.ev 13 rfl) (F23.ev 15 rfl) (dec_of (by omega))) rfl fun _ F24 => ?_)
   have F25 : Fr 26 [(16, .bool (decide (k < r1_n_9))), (6, .int .i64 ((k : Nat) : Int)), (5, .slice r1_a_9 r1_n_9 r1_c_9), (4, .pointer (some ⟨b3, 0, none⟩)), (2, .pointer (some ⟨b1, 0, none⟩))] _ := F24.cut rfl
   clear F20 F21 F22 F23 F24
   refine s_end (x_normal (x_cond (p := k < r1_n_9) (F25.ev 16 rfl) (fun h26 => ?_) (fun h26 => ?_)))
   · skip
     refine wp_skip (x_normal (wp_seq (wp_block ?_)))
     obtain ⟨x1, hx1, okx1⟩ := Rd.elem (Rd.mv (Nat.succ_pos _) V9_3 (T17.trans S20)) k (by first | assumption | omega)
     refine x_draw (fun aZ wZ => ∃ (r0_store_a_35 : Option Addr), ∃ (r0_store_n_35 : Nat), ∃ (r0_store_c_35 : Nat), ∃ (r0_touch_reads_a_35 : Option Addr), ∃ (r0_touch_reads_n_35 : Nat), ∃ (r0_touch_reads_c_35 : Nat), ∃ (r0_touch_writes_a_35 : Option Addr), ∃ (r0_touch_writes_n_35 : Nat), ∃ (r0_touch_writes_c_35 : Nat), Fr 26 [(2, .pointer (some ⟨b1, 0, none⟩)), (4, .pointer (some ⟨b3, 0, none⟩)), (5, .slice r1_a_9 r1_n_9 r1_c_9), (6, .int .i64 ((k : Nat) : Int))] aZ ∧ Mv [bx b1 [.slice sa sn sc, .slice ra rn rc, .slice ua un uc] 32, bx b3 [.slice none 0 0, .slice none 0 0, .slice none 0 0] 32] w20 [bx b1 [.slice r0_store_a_35 r0_store_n_35 r0_store_c_35, .slice r0_touch_reads_a_35 r0_touch_reads_n_35 r0_touch_reads_c_35, .slice r0_touch_writes_a_35 r0_touch_writes_n_35 r0_touch_writes_c_35] 32, bx b3 [.slice none 0 0, .slice none 0 0, .slice none 0 0] 32] wZ ∧ Rd 2 encC okC (V H w [bx b1 [.slice r0_store_a_35 r0_store_n_35 r0_store_c_35, .slice r0_touch_reads_a_35 r0_touch_reads_n_35 r0_touch_reads_c_35, .slice r0_touch_writes_a_35 r0_touch_writes_n_35 r0_touch_writes_c_35] 32, bx b3 [.slice none 0 0, .slice none 0 0, .slice none 0 0] 32]) wZ (.slice r0_store_a_35 r0_store_n_35 r0_store_c_35) (layM M x1 (⟨#[]⟩ : ByteArray)).store ∧ Rd 1 encS okS (V H w [bx b1 [.slice r0_store_a_35 r0_store_n_35 r0_store_c_35, .slice r0_touch_reads_a_35 r0_touch_reads_n_35 r0_touch_reads_c_35, .slice r0_touch_writes_a_35 r0_touch_writes_n_35 r0_touch_writes_c_35] 32, bx b3 [.slice none 0 0, .slice none 0 0, .slice none 0 0] 32]) wZ (.slice r0_touch_reads_a_35 r0_touch_reads_n_35 r0_touch_reads_c_35) (layM M x1 (⟨#[]⟩ : ByteArray)).touch.reads ∧ Rd 1 encS okS (V H w [bx b1 [.slice r0_store_a_35 r0_store_n_35 r0_store_c_35, .slice r0_touch_reads_a_35 r0_touch_reads_n_35 r0_touch_reads_c_35, .slice r0_touch_writes_a_35 r0_touch_writes_n_35 r0_touch_writes_c_35] 32, bx b3 [.slice none 0 0, .slice none 0 0, .slice none 0 0] 32]) wZ (.slice r0_touch_writes_a_35 r0_touch_writes_n_35 r0_touch_writes_c_35) (layM M x1 (⟨#[]⟩ : ByteArray)).touch.writes) [] mixed S20.at' (listed := #[false, false, false, false, false, false, false]) rfl (fun w28 S28 => ?_) [] rfl ?_
     · skip
       refine g_take F25 rfl (i := 1) (listed' := #[false, true, false, false, false, false, false]) rfl (by kernel_rfl) (by kernel_rfl) (by kernel_rfl) (fun _ _ _ h => h) (Sd.of (Mv.refl S28.at') [] rfl) rfl rfl rfl rfl (fun _ hz => (r_move rfl (F25.ev 5 rfl))) fun _ F29 => ?_
       refine g_take F29 rfl (i := 2) (listed' := #[false, true, true, false, false, false, false]) rfl (by kernel_rfl) (by kernel_rfl) (by kernel_rfl) (fun _ _ _ h => h) (Sd.of (Mv.refl S28.at') [] rfl) rfl rfl rfl rfl (fun _ hz => (r_move rfl (F29.ev 6 rfl))) fun _ F30 => ?_
       obtain ⟨B31, O31, y31, ad31, hy31, oky31, ln31, cl31⟩ := Rd.atK (Nat.succ_pos _) (Rd.mv (Nat.succ_pos _) V9_3 (T17.trans (S20.trans S28))) k (by first | assumption | omega)
       clear ln31
       obtain rfl := Option.some.inj (hx1.symm.trans hy31)
       clear hy31 oky31
       refine g_take F30 rfl (i := 3) (listed' := #[false, true, true, true, false, false, false]) rfl (by kernel_rfl) (by kernel_rfl) (by kernel_rfl) (fun _ _ _ h => h) (Sd.of (Mv.refl S28.at') [] rfl) rfl rfl rfl rfl (fun _ hz => (r_indexAddr (i := k) ET_23 rfl ((F30.ev 20 rfl).trans (by rw [ad31])) (F30.ev 21 rfl) (by omega) (by first | assumption | omega))) fun _ F32 => ?_
       refine g_take (v := .string x1) F32 rfl (i := 4) (listed' := #[false, true, true, true, true, false, false]) rfl (by kernel_rfl) (by kernel_rfl) (by kernel_rfl) (fun _ _ _ h => h) (Sd.of (Mv.refl S28.at') [] rfl) rfl rfl rfl rfl (fun _ hz => (r_load (cs := [.string x1]) TI_9 rfl (F32.ev 22 rfl) rfl (fun _ => rfl) (elem_sub (f := 0) (cl31 _ hz.kp) [.string x1] rfl))) fun _ F33 => ?_
       refine d_one (i := 0) (listed' := #[true, true, true, true, true, false, false]) rfl (by kernel_rfl) rfl rfl ?_
       refine f_val (v := .agg #[.slice sa sn sc, .slice ra rn rc, .slice ua un uc]) F33 rfl rfl (r_loadB S28.at' 0 TI_32 rfl rfl (F33.ev 2 rfl) rfl rfl (fun h => nomatch h) rfl) rfl fun _ F34 => ?_
       refine ⟨Sd.of (Mv.refl S28.at') [] rfl, ?_⟩
       refine d_one (i := 5) (listed' := #[true, true, true, true, true, true, false]) rfl (by kernel_rfl) rfl rfl ?_
       refine f_call F34 CF_87 rfl rfl rfl rfl (lc (F34.ev 19 rfl) (lc (F34.ev 23 rfl) (lc rfl rfl))) (spec_l04Lay_c (m := M) (key := x1) (val := (⟨#[]⟩ : ByteArray)) (Rd.mv (Nat.succ_pos _) W20_0 S28) (Rd.mv (Nat.succ_pos _) W20_1 S28) (Rd.mv (Nat.succ_pos _) W20_2 S28) okx1 (by unfold okS; decide) (by first | assumption | omega | (simp <;> omega)) (by first | assumption | omega | (simp <;> omega))) ?_
       rintro _ w35 ⟨r0_store_a_35, r0_store_n_35, r0_store_c_35, r0_touch_reads_a_35, r0_touch_reads_n_35, r0_touch_reads_c_35, r0_touch_writes_a_35, r0_touch_writes_n_35, r0_touch_writes_c_35, rfl, m35, v35_0, v35_1, v35_2⟩
       refine ⟨_, rfl, fun _ F36 => ?_⟩
       have S35 := At.frame0 S28.at' m35
       have V35_0 := Rd.got0 S28.at' ((S1.trans (T6.trans (S9.trans (T17.trans (S20.trans S28))))).kp.size) v35_0 S35
       obtain ⟨ln35_0, le35_0, mx35_0, ni35_0⟩ := Rd.inv V35_0
       have V35_1 := Rd.got0 S28.at' ((S1.trans (T6.trans (S9.trans (T17.trans (S20.trans S28))))).kp.size) v35_1 S35
       obtain ⟨ln35_1, le35_1, mx35_1, ni35_1⟩ := Rd.inv V35_1
       have V35_2 := Rd.got0 S28.at' ((S1.trans (T6.trans (S9.trans (T17.trans (S20.trans S28))))).kp.size) v35_2 S35
       obtain ⟨ln35_2, le35_2, mx35_2, ni35_2⟩ := Rd.inv V35_2
       clear m35 v35_0 v35_1 v35_2
       refine ⟨Sd.of S35 [] rfl, ?_⟩
       refine d_one (i := 6) (listed' := #[true, true, true, true, true, true, true]) rfl (by kernel_rfl) rfl rfl ?_
       refine s_store S35.at' 0 TI_32 rfl rfl rfl rfl rfl (F36.ev 2 rfl) (F36.ev 24 rfl) rfl rfl rfl rfl rfl fun w37 S37 => ?_
       refine ⟨Sd.of (S35.trans S37) [] rfl, ?_⟩
       refine wpAnyH_done (by kernel_rfl) (x_normal ?_) _
       exact ⟨r0_store_a_35, r0_store_n_35, r0_store_c_35, r0_touch_reads_a_35, r0_touch_reads_n_35, r0_touch_reads_c_35, r0_touch_writes_a_35, r0_touch_writes_n_35, r0_touch_writes_c_35, F36.cut rfl, ((S28.trans (S35.trans S37)).pick [0, 1] rfl), (Rd.mv (Nat.succ_pos _) V35_0 S37), (Rd.mv (Nat.succ_pos _) V35_1 S37), (Rd.mv (Nat.succ_pos _) V35_2 S37)⟩
     · rintro a38 w38 ⟨r0_store_a_35, r0_store_n_35, r0_store_c_35, r0_touch_reads_a_35, r0_touch_reads_n_35, r0_touch_reads_c_35, r0_touch_writes_a_35, r0_touch_writes_n_35, r0_touch_writes_c_35, F38, S38, V38_0, V38_1, V38_2⟩
       obtain ⟨ln38_0, le38_0, mx38_0, ni38_0⟩ := Rd.inv V38_0
       obtain ⟨ln38_1, le38_1, mx38_1, ni38_1⟩ := Rd.inv V38_1
       obtain ⟨ln38_2, le38_2, mx38_2, ni38_2⟩ := Rd.inv V38_2
       refine x_block_normal (x_normal (wp_region_lit (l_op (f_mv F38 rfl rfl rfl rfl rfl fun _ F39 => ?_))))
       refine l_op (f_val F39 rfl rfl (r_add (z := ((k + 1 : Nat) : Int)) rfl (F39.ev 17 rfl) rfl (by first | rfl | omega) ⟨by first | omega | (unfold i64ok at *; omega), by first | omega | (unfold i64ok at *; omega)⟩) rfl fun _ F40 => ?_)
       refine l_op (f_as F40 rfl rfl rfl rfl rfl fun _ F41 => ?_)
       have F42 : Fr 26 [(6, .int .i64 ((k + 1 : Nat) : Int)), (2, .pointer (some ⟨b1, 0, none⟩)), (4, .pointer (some ⟨b3, 0, none⟩)), (5, .slice r1_a_9 r1_n_9 r1_c_9)] _ := F41.cut rfl
       clear F38 F39 F40 F41
       refine s_end ?_
       refine x_normal ⟨k + 1, by omega, (layM M x1 (⟨#[]⟩ : ByteArray)), r0_store_a_35, r0_store_n_35, r0_store_c_35, r0_touch_reads_a_35, r0_touch_reads_n_35, r0_touch_reads_c_35, r0_touch_writes_a_35, r0_touch_writes_n_35, r0_touch_writes_c_35, F42.cut rfl, ((S20.trans S38).pick [0, 1] rfl), V38_0, V38_1, V38_2, by omega, by rw [wipeL_step hx1, ← hk_1]⟩
   · skip
     refine wp_exit (x_then_exit (x_then_exit (x_block_here (x_normal (wp_seq (wp_region_lit (l_op (f_val (v := .agg #[.slice sa sn sc, .slice ra rn rc, .slice ua un uc]) F25 rfl rfl (r_loadB S20.at' 0 TI_32 rfl rfl (F25.ev 2 rfl) rfl rfl (fun h => nomatch h) rfl) rfl fun _ F43 => ?_))))))))
     refine l_op (s_store S20.at' 1 TI_32 rfl rfl rfl rfl rfl (F43.ev 4 rfl) (F43.ev 25 rfl) rfl rfl rfl rfl rfl fun w44 S44 => ?_)
     have F45 : Fr 26 [(25, .agg #[.slice sa sn sc, .slice ra rn rc, .slice ua un uc]), (4, .pointer (some ⟨b3, 0, none⟩))] _ := F43.cut rfl
     clear F25 F43
     have T46 : Mv _ _ [bx b3 [.slice sa sn sc, .slice ra rn rc, .slice ua un uc] 32, bx b1 [.slice sa sn sc, .slice ra rn rc, .slice ua un uc] 32] _ := S44
     refine s_end (x_normal (wp_ret ?_))
     refine x_done (v := .agg #[.slice sa sn sc, .slice ra rn rc, .slice ua un uc]) F45 (results_1 Tryd.results103 (.cell (F45.ev 4 rfl) (run_loadVar' TI_32 _ [.slice sa sn sc, .slice ra rn rc, .slice ua un uc] rfl (fun h => nomatch h) (At.cells T46.at' 0 rfl 0 [.slice sa sn sc, .slice ra rn rc, .slice ua un uc] rfl)))) ?_
     exact ⟨sa, sn, sc, ra, rn, rc, ua, un, uc, rfl, (Mv.pick (S1.trans (T6.trans (S9.trans (T17.trans (S20.trans T46))))) [] rfl), (Rd.cast (Rd.give (Rd.mv (Nat.succ_pos _) W20_0 T46)) (show M.store = (wipeM m pfx).store from by subst hk_1; unfold wipeM; rw [List.take_of_length_le (by omega)])), (Rd.cast (Rd.give (Rd.mv (Nat.succ_pos _) W20_1 T46)) (show M.touch.reads = (wipeM m pfx).touch.reads from by subst hk_1; unfold wipeM; rw [List.take_of_length_le (by omega)])), (Rd.cast (Rd.give (Rd.mv (Nat.succ_pos _) W20_2 T46)) (show M.touch.writes = (wipeM m pfx).touch.writes from by subst hk_1; unfold wipeM; rw [List.take_of_length_le (by omega)]))⟩
theorem impl_Mach_wipe_c {w : World} {H : Nat → Prop} {m : MachD} {m_store_a : Option Addr} {m_store_n m_store_c : Nat} {m_touch_reads_a : Option Addr} {m_touch_reads_n m_touch_reads_c : Nat} {m_touch_writes_a : Option Addr} {m_touch_writes_n m_touch_writes_c : Nat} {m_b : Nat} {pfx : ByteArray} (h_pfx : okS pfx) (p0 : m.store.length ≤ 68719476736) (p1 : m.touch.reads.length ≤ 68719476736) (p2 : m.touch.writes.length ≤ 68719476736) (p3 : pfx.size ≤ 4611686018427387904) (hA : At w [bx m_b [.slice m_store_a m_store_n m_store_c, .slice m_touch_reads_a m_touch_reads_n m_touch_reads_c, .slice m_touch_writes_a m_touch_writes_n m_touch_writes_c] 32, ow 87 2 encC okC (.slice m_store_a m_store_n m_store_c) m.store, ow 9 1 encS okS (.slice m_touch_reads_a m_touch_reads_n m_touch_reads_c) m.touch.reads, ow 9 1 encS okS (.slice m_touch_writes_a m_touch_writes_n m_touch_writes_c) m.touch.writes]) :
    Calls Tryd.prog 104 #[.pointer (some ⟨m_b, 0, none⟩), .string pfx] w fun e w' => ∃ (q_m_store_a : Option Addr), ∃ (q_m_store_n : Nat), ∃ (q_m_store_c : Nat), ∃ (q_m_touch_reads_a : Option Addr), ∃ (q_m_touch_reads_n : Nat), ∃ (q_m_touch_reads_c : Nat), ∃ (q_m_touch_writes_a : Option Addr), ∃ (q_m_touch_writes_n : Nat), ∃ (q_m_touch_writes_c : Nat), e = .returned (.tuple #[]) ∧ Mv [bx m_b [.slice m_store_a m_store_n m_store_c, .slice m_touch_reads_a m_touch_reads_n m_touch_reads_c, .slice m_touch_writes_a m_touch_writes_n m_touch_writes_c] 32, ow 87 2 encC okC (.slice m_store_a m_store_n m_store_c) m.store, ow 9 1 encS okS (.slice m_touch_reads_a m_touch_reads_n m_touch_reads_c) m.touch.reads, ow 9 1 encS okS (.slice m_touch_writes_a m_touch_writes_n m_touch_writes_c) m.touch.writes] w [bx m_b [.slice q_m_store_a q_m_store_n q_m_store_c, .slice q_m_touch_reads_a q_m_touch_reads_n q_m_touch_reads_c, .slice q_m_touch_writes_a q_m_touch_writes_n q_m_touch_writes_c] 32, ow 87 2 encC okC (.slice q_m_store_a q_m_store_n q_m_store_c) (wipeM m pfx).store, ow 9 1 encS okS (.slice q_m_touch_reads_a q_m_touch_reads_n q_m_touch_reads_c) (wipeM m pfx).touch.reads, ow 9 1 encS okS (.slice q_m_touch_writes_a q_m_touch_writes_n q_m_touch_writes_c) (wipeM m pfx).touch.writes] w' := by
 have uU : True := (fun _ _ _ _ _ => trivial) H p0 p1 p2 p3
 clear uU
 obtain ⟨lo1, lp1, lq1⟩ := At.ownInv hA ET_29.hk 1 rfl
 obtain ⟨lo2, lp2, lq2⟩ := At.ownInv hA ET_23.hk 2 rfl
 obtain ⟨lo3, lp3, lq3⟩ := At.ownInv hA ET_23.hk 3 rfl
 refine calls_enter 18 Tryd.func104 rfl Tryd.ntmps104 (Nat.le_of_ble_eq_true rfl) (fun _ F0i => ?_)
 have F0 : Fr 18 [(0, .pointer (some ⟨m_b, 0, none⟩)), (1, .string pfx)] _ := F0i
 clear F0i
 refine wp_seq (wp_region_lit (l_op (f_mv F0 rfl rfl rfl rfl rfl fun _ F1 => ?_)))
 refine l_op (f_mv F1 rfl rfl rfl rfl rfl fun _ F2 => ?_)
 refine l_op (f_call F2 CF_68 rfl rfl rfl rfl (lc (F2.ev 6 rfl) (lc (F2.ev 7 rfl) rfl)) (impl_Mach_under_c (H := fun _ => True) (m := m) (pfx := pfx) h_pfx (by first | assumption | omega | (simp <;> omega)) (by first | assumption | omega | (simp <;> omega)) (by first | assumption | omega | (simp <;> omega)) (At.pick (is := [0, 1, 2, 3]) hA rfl)) ?_)
 rintro _ w3 ⟨r0_a_3, r0_n_3, r0_c_3, qm_store_a_3, qm_store_n_3, qm_store_c_3, qm_touch_reads_a_3, qm_touch_reads_n_3, qm_touch_reads_c_3, qm_touch_writes_a_3, qm_touch_writes_n_3, qm_touch_writes_c_3, rfl, m3⟩
 refine ⟨_, rfl, fun _ F4 => ?_⟩
 have S3 : Mv _ _ [ow 9 1 encS okS (.slice r0_a_3 r0_n_3 r0_c_3) (keysUnder m.store pfx), bx m_b [.slice qm_store_a_3 qm_store_n_3 qm_store_c_3, .slice qm_touch_reads_a_3 qm_touch_reads_n_3 qm_touch_reads_c_3, .slice qm_touch_writes_a_3 qm_touch_writes_n_3 qm_touch_writes_c_3] 32, ow 87 2 encC okC (.slice qm_store_a_3 qm_store_n_3 qm_store_c_3) (lookM m (pfx ++ (⟨#[42]⟩ : ByteArray))).store, ow 9 1 encS okS (.slice qm_touch_reads_a_3 qm_touch_reads_n_3 qm_touch_reads_c_3) (lookM m (pfx ++ (⟨#[42]⟩ : ByteArray))).touch.reads, ow 9 1 encS okS (.slice qm_touch_writes_a_3 qm_touch_writes_n_3 qm_touch_writes_c_3) (lookM m (pfx ++ (⟨#[42]⟩ : ByteArray))).touch.writes] _ := At.frame hA [0, 1, 2, 3] rfl m3
 obtain ⟨lo3_0, lp3_0, lq3_0⟩ := At.ownInv S3.at' ET_23.hk 0 rfl
 obtain ⟨lo3_2, lp3_2, lq3_2⟩ := At.ownInv S3.at' ET_29.hk 2 rfl
 obtain ⟨lo3_3, lp3_3, lq3_3⟩ := At.ownInv S3.at' ET_23.hk 3 rfl
 obtain ⟨lo3_4, lp3_4, lq3_4⟩ := At.ownInv S3.at' ET_23.hk 4 rfl
 clear m3
 refine l_op (f_val F4 rfl rfl (r_len Tryd.underlying23 rfl (F4.ev 8 rfl)) rfl fun _ F5 => ?_)
 refine l_op (f_val F5 rfl rfl (r_move rfl rfl) rfl fun _ F6 => ?_)
 have F7 : Fr 18 [(10, .int .i64 0), (9, .int .i64 ((r0_n_3 : Nat) : Int)), (8, .slice r0_a_3 r0_n_3 r0_c_3), (0, .pointer (some ⟨m_b, 0, none⟩))] _ := F6.cut rfl
 clear F0 F1 F2 F4 F5 F6
 refine s_end (x_normal (wp_block ?_))
 refine x_loop (fun (k : Nat) aZ wZ => ∃ (M : MachD), ∃ (sa : Option Addr), ∃ (sn : Nat), ∃ (sc : Nat), ∃ (ra : Option Addr), ∃ (rn : Nat), ∃ (rc : Nat), ∃ (ua : Option Addr), ∃ (un : Nat), ∃ (uc : Nat), Fr 18 [(10, .int .i64 ((k : Nat) : Int)), (9, .int .i64 ((r0_n_3 : Nat) : Int)), (8, .slice r0_a_3 r0_n_3 r0_c_3), (0, .pointer (some ⟨m_b, 0, none⟩))] aZ ∧ Mv [ow 9 1 encS okS (.slice r0_a_3 r0_n_3 r0_c_3) (keysUnder m.store pfx), bx m_b [.slice qm_store_a_3 qm_store_n_3 qm_store_c_3, .slice qm_touch_reads_a_3 qm_touch_reads_n_3 qm_touch_reads_c_3, .slice qm_touch_writes_a_3 qm_touch_writes_n_3 qm_touch_writes_c_3] 32, ow 87 2 encC okC (.slice qm_store_a_3 qm_store_n_3 qm_store_c_3) (lookM m (pfx ++ (⟨#[42]⟩ : ByteArray))).store, ow 9 1 encS okS (.slice qm_touch_reads_a_3 qm_touch_reads_n_3 qm_touch_reads_c_3) (lookM m (pfx ++ (⟨#[42]⟩ : ByteArray))).touch.reads, ow 9 1 encS okS (.slice qm_touch_writes_a_3 qm_touch_writes_n_3 qm_touch_writes_c_3) (lookM m (pfx ++ (⟨#[42]⟩ : ByteArray))).touch.writes] w3 [ow 9 1 encS okS (.slice r0_a_3 r0_n_3 r0_c_3) (keysUnder m.store pfx), bx m_b [.slice sa sn sc, .slice ra rn rc, .slice ua un uc] 32, ow 87 2 encC okC (.slice sa sn sc) M.store, ow 9 1 encS okS (.slice ra rn rc) M.touch.reads, ow 9 1 encS okS (.slice ua un uc) M.touch.writes] wZ ∧ (k ≤ (keysUnder m.store pfx).length) ∧ (M = (wipeL (lookM m (pfx ++ (⟨#[42]⟩ : ByteArray))) ((keysUnder m.store pfx).take k)))) (fun (k : Nat) => (keysUnder m.store pfx).length - k) (0) ?_ ?_
 · exact ⟨lookM m (pfx ++ (⟨#[42]⟩ : ByteArray)), qm_store_a_3, qm_store_n_3, qm_store_c_3, qm_touch_reads_a_3, qm_touch_reads_n_3, qm_touch_reads_c_3, qm_touch_writes_a_3, qm_touch_writes_n_3, qm_touch_writes_c_3, F7.cut rfl, (Mv.refl S3.at'), by omega, rfl⟩
 · rintro k a8 w8 ⟨M, sa, sn, sc, ra, rn, rc, ua, un, uc, F8, S8, hk_0, hk_1⟩
   have wb := wipeL_bd (lookM m (pfx ++ (⟨#[42]⟩ : ByteArray))) ((keysUnder m.store pfx).take k)
   have kl := keysUnder_length m.store pfx
   have pl := putL_length m.touch.reads (pfx ++ (⟨#[42]⟩ : ByteArray))
   rw [List.length_take, ← hk_1] at wb
   simp only [lookM] at wb
   refine wp_seq (wp_region_lit (l_op (f_val F8 rfl rfl (r_cmp (b := decide (k < r0_n_3)) (.inr (.inr (.inl rfl))) rfl (F8.ev 10 rfl) (F8.ev 9 rfl) (dec_of (by omega))) rfl fun _ F9 => ?_)))
   have F10 : Fr 18 [(11, .bool (decide (k < r0_n_3))), (10, .int .i64 ((k : Nat) : Int)), (9, .int .i64 ((r0_n_3 : Nat) : Int)), (8, .slice r0_a_3 r0_n_3 r0_c_3), (0, .pointer (some ⟨m_b, 0, none⟩))] _ := F9.cut rfl
   clear F8 F9
   refine s_end (x_normal (wp_seq (x_cond (p := k < r0_n_3) (F10.ev 11 rfl) (fun h11 => ?_) (fun h11 => ?_))))
   · skip
     refine wp_skip (x_normal (wp_seq (wp_block (wp_seq (wp_region_lit ?_)))))
     obtain ⟨B12, O12, x1, ad12, hx1, okx1, ln12, cl12⟩ := Rd.at (At.rd S8.at' ET_23.hk 0 rfl) k (by first | assumption | omega)
     clear ln12
     refine l_op (f_val F10 rfl rfl (r_indexAddr (i := k) ET_23 rfl ((F10.ev 8 rfl).trans (by rw [ad12])) (F10.ev 10 rfl) (by omega) (by first | assumption | omega)) rfl fun _ F13 => ?_)
     refine l_op (f_val (v := .string x1) F13 rfl rfl (r_load (cs := [.string x1]) TI_9 rfl (F13.ev 12 rfl) rfl (fun _ => rfl) (elem_sub (f := 0) cl12 [.string x1] rfl)) rfl fun _ F14 => ?_)
     refine l_op (f_as F14 rfl rfl rfl rfl rfl fun _ F15 => ?_)
     have F16 : Fr 18 [(5, .string x1), (10, .int .i64 ((k : Nat) : Int)), (9, .int .i64 ((r0_n_3 : Nat) : Int)), (8, .slice r0_a_3 r0_n_3 r0_c_3), (0, .pointer (some ⟨m_b, 0, none⟩))] _ := F15.cut rfl
     clear F10 F13 F14 F15
     refine s_end (x_normal (wp_region_lit (l_op (f_mv F16 rfl rfl rfl rfl rfl fun _ F17 => ?_))))
     refine l_op (f_mv F17 rfl rfl rfl rfl rfl fun _ F18 => ?_)
     refine l_op (f_call F18 CF_96 rfl rfl rfl rfl (lc (F18.ev 14 rfl) (lc (F18.ev 15 rfl) (lc rfl rfl))) (impl_Mach_lay_c (H := fun _ => True) (m := M) (key := x1) (val := (⟨#[]⟩ : ByteArray)) okx1 (by unfold okS; decide) (by first | assumption | omega | (simp <;> omega)) (by first | assumption | omega | (simp <;> omega)) (At.pick (is := [1, 2, 3, 4]) S8.at' rfl)) ?_)
     rintro _ w19 ⟨qm_store_a_19, qm_store_n_19, qm_store_c_19, qm_touch_reads_a_19, qm_touch_reads_n_19, qm_touch_reads_c_19, qm_touch_writes_a_19, qm_touch_writes_n_19, qm_touch_writes_c_19, rfl, m19⟩
     refine ⟨_, rfl, fun _ F20 => ?_⟩
     have S19 : Mv _ _ [bx m_b [.slice qm_store_a_19 qm_store_n_19 qm_store_c_19, .slice qm_touch_reads_a_19 qm_touch_reads_n_19 qm_touch_reads_c_19, .slice qm_touch_writes_a_19 qm_touch_writes_n_19 qm_touch_writes_c_19] 32, ow 87 2 encC okC (.slice qm_store_a_19 qm_store_n_19 qm_store_c_19) (layM M x1 (⟨#[]⟩ : ByteArray)).store, ow 9 1 encS okS (.slice qm_touch_reads_a_19 qm_touch_reads_n_19 qm_touch_reads_c_19) (layM M x1 (⟨#[]⟩ : ByteArray)).touch.reads, ow 9 1 encS okS (.slice qm_touch_writes_a_19 qm_touch_writes_n_19 qm_touch_writes_c_19) (layM M x1 (⟨#[]⟩ : ByteArray)).touch.writes, ow 9 1 encS okS (.slice r0_a_3 r0_n_3 r0_c_3) (keysUnder m.store pfx)] _ := At.frame S8.at' [1, 2, 3, 4] rfl m19
     obtain ⟨lo19_1, lp19_1, lq19_1⟩ := At.ownInv S19.at' ET_29.hk 1 rfl
     obtain ⟨lo19_2, lp19_2, lq19_2⟩ := At.ownInv S19.at' ET_23.hk 2 rfl
     obtain ⟨lo19_3, lp19_3, lq19_3⟩ := At.ownInv S19.at' ET_23.hk 3 rfl
     clear m19
     have F21 : Fr 18 [(16, .tuple #[]), (10, .int .i64 ((k : Nat) : Int)), (9, .int .i64 ((r0_n_3 : Nat) : Int)), (8, .slice r0_a_3 r0_n_3 r0_c_3), (0, .pointer (some ⟨m_b, 0, none⟩))] _ := F20.cut rfl
     clear F16 F17 F18 F20
     refine s_end (x_block_normal (x_normal (wp_region_lit (l_op (f_val F21 rfl rfl (r_add (z := ((k + 1 : Nat) : Int)) rfl (F21.ev 10 rfl) rfl (by first | rfl | omega) ⟨by first | omega | (unfold i64ok at *; omega), by first | omega | (unfold i64ok at *; omega)⟩) rfl fun _ F22 => ?_)))))
     refine l_op (f_mv F22 rfl rfl rfl rfl rfl fun _ F23 => ?_)
     have F24 : Fr 18 [(10, .int .i64 ((k + 1 : Nat) : Int)), (9, .int .i64 ((r0_n_3 : Nat) : Int)), (8, .slice r0_a_3 r0_n_3 r0_c_3), (0, .pointer (some ⟨m_b, 0, none⟩))] _ := F23.cut rfl
     clear F21 F22 F23
     refine s_end ?_
     refine x_normal ⟨k + 1, by omega, (layM M x1 (⟨#[]⟩ : ByteArray)), qm_store_a_19, qm_store_n_19, qm_store_c_19, qm_touch_reads_a_19, qm_touch_reads_n_19, qm_touch_reads_c_19, qm_touch_writes_a_19, qm_touch_writes_n_19, qm_touch_writes_c_19, F24.cut rfl, ((S8.trans S19).pick [4, 0, 1, 2, 3] rfl), by omega, by rw [wipeL_step hx1, ← hk_1]⟩
   · skip
     refine wp_exit (x_then_exit (x_then_exit (x_block_here ?_)))
     refine x_done_end (v := .tuple #[]) F10 (results_0 Tryd.results104) ?_
     exact ⟨sa, sn, sc, ra, rn, rc, ua, un, uc, rfl, (Mv.cast (Mv.pick (S3.trans S8) [1, 2, 3, 4] rfl) (by rw [(show M.store = (wipeM m pfx).store from by subst hk_1; unfold wipeM; rw [List.take_of_length_le (by omega)]), (show M.touch.reads = (wipeM m pfx).touch.reads from by subst hk_1; unfold wipeM; rw [List.take_of_length_le (by omega)]), (show M.touch.writes = (wipeM m pfx).touch.writes from by subst hk_1; unfold wipeM; rw [List.take_of_length_le (by omega)])]; all_goals rfl))⟩
end Go.Proofs.YticcmacclncgaaaDoor
