/-
  Walks: a key is laid, a beginning is wiped.
-/
import Derived.Test.YtkeglhkdanenbaaGreatDoorDat
import Derived.Test.YtkeglhkdanenbaaGreatDoorGenQ
namespace Go.Proofs.YtkeglhkdanenbaaGreatDoor
open Go.ChangeShapes Go.WideShapes Go.ChangeAt Go.RowKit
set_option maxRecDepth 100000
set_option maxHeartbeats 1000000
theorem spec_l04Lay_c {w : World} {H : Nat → Prop} {m : MachD} {m_store_a : Option Addr} {m_store_n m_store_c : Nat} {m_touch_reads_a : Option Addr} {m_touch_reads_n m_touch_reads_c : Nat} {m_touch_writes_a : Option Addr} {m_touch_writes_n m_touch_writes_c : Nat} {key : ByteArray} {val : ByteArray} (v_m_store : Rd 2 encC okC H w (.slice m_store_a m_store_n m_store_c) m.store) (v_m_touch_reads : Rd 1 encS okS H w (.slice m_touch_reads_a m_touch_reads_n m_touch_reads_c) m.touch.reads) (v_m_touch_writes : Rd 1 encS okS H w (.slice m_touch_writes_a m_touch_writes_n m_touch_writes_c) m.touch.writes) (h_key : okS key) (h_val : okS val) (p0 : m.store.length ≤ 274877906943) (p1 : m.touch.writes.length ≤ 274877906943) :
    Calls Tryz.prog 68 #[.agg #[.slice m_store_a m_store_n m_store_c, .slice m_touch_reads_a m_touch_reads_n m_touch_reads_c, .slice m_touch_writes_a m_touch_writes_n m_touch_writes_c], .string key, .string val] w fun e w' => ∃ (r0_store_a : Option Addr), ∃ (r0_store_n : Nat), ∃ (r0_store_c : Nat), ∃ (r0_touch_reads_a : Option Addr), ∃ (r0_touch_reads_n : Nat), ∃ (r0_touch_reads_c : Nat), ∃ (r0_touch_writes_a : Option Addr), ∃ (r0_touch_writes_n : Nat), ∃ (r0_touch_writes_c : Nat), e = .returned (.agg #[.slice r0_store_a r0_store_n r0_store_c, .slice r0_touch_reads_a r0_touch_reads_n r0_touch_reads_c, .slice r0_touch_writes_a r0_touch_writes_n r0_touch_writes_c]) ∧ Mv [] w [] w' ∧ Rd 2 encC okC (Fsh H w) w' (.slice r0_store_a r0_store_n r0_store_c) (layM m key val).store ∧ Rd 1 encS okS (Fsh H w) w' (.slice r0_touch_reads_a r0_touch_reads_n r0_touch_reads_c) (layM m key val).touch.reads ∧ Rd 1 encS okS (Fsh H w) w' (.slice r0_touch_writes_a r0_touch_writes_n r0_touch_writes_c) (layM m key val).touch.writes := by
 have uU : True := (fun _ _ => trivial) p0 p1
 clear uU
 have V_v_m_store : Rd 2 encC okC (V H w []) w (.slice m_store_a m_store_n m_store_c) m.store := Rd.start v_m_store (fun _ _ => fps_nil _)
 obtain ⟨ln_m_store, le_m_store, mx_m_store, ni_m_store⟩ := Rd.inv v_m_store
 have V_v_m_touch_reads : Rd 1 encS okS (V H w []) w (.slice m_touch_reads_a m_touch_reads_n m_touch_reads_c) m.touch.reads := Rd.start v_m_touch_reads (fun _ _ => fps_nil _)
 obtain ⟨ln_m_touch_reads, le_m_touch_reads, mx_m_touch_reads, ni_m_touch_reads⟩ := Rd.inv v_m_touch_reads
 have V_v_m_touch_writes : Rd 1 encS okS (V H w []) w (.slice m_touch_writes_a m_touch_writes_n m_touch_writes_c) m.touch.writes := Rd.start v_m_touch_writes (fun _ _ => fps_nil _)
 obtain ⟨ln_m_touch_writes, le_m_touch_writes, mx_m_touch_writes, ni_m_touch_writes⟩ := Rd.inv v_m_touch_writes
 refine calls_enter 21 Tryz.func68 rfl Tryz.ntmps68 (Nat.le_of_ble_eq_true rfl) (fun _ F0i => ?_)
 have F0 : Fr 21 [(0, .agg #[.slice m_store_a m_store_n m_store_c, .slice m_touch_reads_a m_touch_reads_n m_touch_reads_c, .slice m_touch_writes_a m_touch_writes_n m_touch_writes_c]), (1, .string key), (2, .string val)] _ := F0i
 clear F0i
 refine wp_seq (wp_region_lit (l_op (f_box F0 (At.nil w) rfl rfl rfl (F0.ev 0 rfl) rfl rfl fun b1 _ w1 F2 S1 => ?_)))
 refine l_op (f_alloc F2 S1.at' ZI_29 rfl rfl rfl rfl rfl fun b3 _ w3 F4 S3 => ?_)
 have F5 : Fr 21 [(6, .pointer (some ⟨b3, 0, none⟩)), (3, .pointer (some ⟨b1, 0, none⟩)), (1, .string key), (2, .string val)] _ := F4.cut rfl
 clear F0 F2 F4
 have T6 : Mv _ _ [bx b3 [.slice none 0 0, .slice none 0 0, .slice none 0 0] 29, bx b1 [.slice m_store_a m_store_n m_store_c, .slice m_touch_reads_a m_touch_reads_n m_touch_reads_c, .slice m_touch_writes_a m_touch_writes_n m_touch_writes_c] 29] _ := S3
 refine s_end (x_normal (wp_seq (wp_region_lit (l_op (f_val F5 rfl rfl (r_field FI_29_1 rfl (F5.ev 3 rfl) rfl) rfl fun _ F7 => ?_)))))
 refine l_op (f_val F7 rfl rfl (r_field FI_27_1 rfl (F7.ev 7 rfl) rfl) rfl fun _ F8 => ?_)
 refine l_op (f_val (v := .slice m_touch_writes_a m_touch_writes_n m_touch_writes_c) F8 rfl rfl (r_loadB T6.at' 1 TI_25 rfl rfl (F8.ev 8 rfl) rfl rfl (fun _ => rfl) rfl) rfl fun _ F9 => ?_)
 refine l_op (f_mv F9 rfl rfl rfl rfl rfl fun _ F10 => ?_)
 refine l_op (f_call F10 CF_102 rfl rfl rfl rfl (lc (F10.ev 9 rfl) (lc (F10.ev 10 rfl) rfl)) (spec_AddSpan_c (list := m.touch.writes) (span := key) (Rd.mv (Nat.succ_pos _) V_v_m_touch_writes (S1.trans T6)) h_key (by first | assumption | omega | (simp <;> omega))) ?_)
 rintro _ w11 ⟨r0_a_11, r0_n_11, r0_c_11, rfl, m11, v11_0⟩
 refine ⟨_, rfl, fun _ F12 => ?_⟩
 have S11 := At.frame0 T6.at' m11
 have V11_0 := Rd.got0 T6.at' ((S1.trans T6).kp.size) v11_0 S11
 obtain ⟨ln11_0, le11_0, mx11_0, ni11_0⟩ := Rd.inv V11_0
 clear m11 v11_0
 refine l_op (f_val F12 rfl rfl (r_field FI_29_1 rfl (F12.ev 3 rfl) rfl) rfl fun _ F13 => ?_)
 refine l_op (f_val F13 rfl rfl (r_field FI_27_1 rfl (F13.ev 12 rfl) rfl) rfl fun _ F14 => ?_)
 refine l_op (s_store S11.at' 1 TI_25 rfl rfl rfl rfl rfl (F14.ev 13 rfl) (F14.ev 11 rfl) rfl rfl rfl rfl rfl fun w15 S15 => ?_)
 have F16 : Fr 21 [(13, .pointer (some ⟨b1, 2, none⟩)), (11, .slice r0_a_11 r0_n_11 r0_c_11), (6, .pointer (some ⟨b3, 0, none⟩)), (3, .pointer (some ⟨b1, 0, none⟩)), (1, .string key), (2, .string val)] _ := F14.cut rfl
 clear F5 F7 F8 F9 F10 F12 F13 F14
 have T17 : Mv _ _ [bx b1 [.slice m_store_a m_store_n m_store_c, .slice m_touch_reads_a m_touch_reads_n m_touch_reads_c, .slice r0_a_11 r0_n_11 r0_c_11] 29, bx b3 [.slice none 0 0, .slice none 0 0, .slice none 0 0] 29] _ := S15
 refine s_end (x_normal (wp_seq (wp_region_lit (l_op (f_val F16 rfl rfl (r_field FI_29_0 rfl (F16.ev 3 rfl) rfl) rfl fun _ F18 => ?_)))))
 refine l_op (f_val (v := .slice m_store_a m_store_n m_store_c) F18 rfl rfl (r_loadB T17.at' 0 TI_24 rfl rfl (F18.ev 14 rfl) rfl rfl (fun _ => rfl) rfl) rfl fun _ F19 => ?_)
 refine l_op (f_mv F19 rfl rfl rfl rfl rfl fun _ F20 => ?_)
 refine l_op (f_mv F20 rfl rfl rfl rfl rfl fun _ F21 => ?_)
 refine l_op (f_call F21 CF_103 rfl rfl rfl rfl (lc (F21.ev 15 rfl) (lc (F21.ev 16 rfl) (lc (F21.ev 17 rfl) rfl))) (spec_PutKey_c (s := m.store) (key := key) (val := val) (Rd.mv (Nat.succ_pos _) V_v_m_store (S1.trans (T6.trans (S11.trans T17)))) h_key h_val (by first | assumption | omega | (simp <;> omega))) ?_)
 rintro _ w22 ⟨r0_a_22, r0_n_22, r0_c_22, rfl, m22⟩
 refine ⟨_, rfl, fun _ F23 => ?_⟩
 have S22 : Mv _ _ [ow 74 2 encC okC (.slice r0_a_22 r0_n_22 r0_c_22) (putKey m.store key val), bx b1 [.slice m_store_a m_store_n m_store_c, .slice m_touch_reads_a m_touch_reads_n m_touch_reads_c, .slice r0_a_11 r0_n_11 r0_c_11] 29, bx b3 [.slice none 0 0, .slice none 0 0, .slice none 0 0] 29] _ := At.frame T17.at' [] rfl m22
 obtain ⟨lo22_0, lp22_0, lq22_0⟩ := At.ownInv S22.at' ET_24.hk 0 rfl
 clear m22
 refine l_op (f_val F23 rfl rfl (r_field FI_29_0 rfl (F23.ev 3 rfl) rfl) rfl fun _ F24 => ?_)
 refine l_op (s_store S22.at' 1 TI_24 rfl rfl rfl rfl rfl (F24.ev 19 rfl) (F24.ev 18 rfl) rfl rfl rfl rfl rfl fun w25 S25 => ?_)
 have F26 : Fr 21 [(19, .pointer (some ⟨b1, 0, none⟩)), (18, .slice r0_a_22 r0_n_22 r0_c_22), (6, .pointer (some ⟨b3, 0, none⟩)), (3, .pointer (some ⟨b1, 0, none⟩))] _ := F24.cut rfl
 clear F16 F18 F19 F20 F21 F23 F24
 have T27 : Mv _ _ [bx b1 [.slice r0_a_22 r0_n_22 r0_c_22, .slice m_touch_reads_a m_touch_reads_n m_touch_reads_c, .slice r0_a_11 r0_n_11 r0_c_11] 29, ow 74 2 encC okC (.slice r0_a_22 r0_n_22 r0_c_22) (putKey m.store key val), bx b3 [.slice none 0 0, .slice none 0 0, .slice none 0 0] 29] _ := S25
 refine s_end (x_normal (wp_seq (wp_region_lit (l_op (f_val (v := .agg #[.slice r0_a_22 r0_n_22 r0_c_22, .slice m_touch_reads_a m_touch_reads_n m_touch_reads_c, .slice r0_a_11 r0_n_11 r0_c_11]) F26 rfl rfl (r_loadB T27.at' 0 TI_29 rfl rfl (F26.ev 3 rfl) rfl rfl (fun h => nomatch h) rfl) rfl fun _ F28 => ?_)))))
 refine l_op (s_store T27.at' 2 TI_29 rfl rfl rfl rfl rfl (F28.ev 6 rfl) (F28.ev 20 rfl) rfl rfl rfl rfl rfl fun w29 S29 => ?_)
 have F30 : Fr 21 [(20, .agg #[.slice r0_a_22 r0_n_22 r0_c_22, .slice m_touch_reads_a m_touch_reads_n m_touch_reads_c, .slice r0_a_11 r0_n_11 r0_c_11]), (6, .pointer (some ⟨b3, 0, none⟩))] _ := F28.cut rfl
 clear F26 F28
 have T31 : Mv _ _ [bx b3 [.slice r0_a_22 r0_n_22 r0_c_22, .slice m_touch_reads_a m_touch_reads_n m_touch_reads_c, .slice r0_a_11 r0_n_11 r0_c_11] 29, bx b1 [.slice r0_a_22 r0_n_22 r0_c_22, .slice m_touch_reads_a m_touch_reads_n m_touch_reads_c, .slice r0_a_11 r0_n_11 r0_c_11] 29, ow 74 2 encC okC (.slice r0_a_22 r0_n_22 r0_c_22) (putKey m.store key val)] _ := S29
 refine s_end (x_normal (wp_ret ?_))
 have Z32 : Rd 2 encC okC (V H w [bx b3 [.slice r0_a_22 r0_n_22 r0_c_22, .slice m_touch_reads_a m_touch_reads_n m_touch_reads_c, .slice r0_a_11 r0_n_11 r0_c_11] 29, bx b1 [.slice r0_a_22 r0_n_22 r0_c_22, .slice m_touch_reads_a m_touch_reads_n m_touch_reads_c, .slice r0_a_11 r0_n_11 r0_c_11] 29]) w29 (.slice r0_a_22 r0_n_22 r0_c_22) (putKey m.store key val) := At.freeze (S1.trans (T6.trans (S11.trans (T17.trans (S22.trans (T27.trans T31)))))) ET_24.hk 2 rfl (fun b hb => ((S1.trans (T6.trans (S11.trans (T17.trans (S22.trans (T27.trans T31)))))).fresh b ⟨_, nth_mem (i := 2) rfl, hb⟩).resolve_left (fps_nil _))
 have S32 := At.drop T31.at' 2
 refine x_done (v := .agg #[.slice r0_a_22 r0_n_22 r0_c_22, .slice m_touch_reads_a m_touch_reads_n m_touch_reads_c, .slice r0_a_11 r0_n_11 r0_c_11]) F30 (results_1 Tryz.results68 (.cell (F30.ev 6 rfl) (run_loadVar' TI_29 _ [.slice r0_a_22 r0_n_22 r0_c_22, .slice m_touch_reads_a m_touch_reads_n m_touch_reads_c, .slice r0_a_11 r0_n_11 r0_c_11] rfl (fun h => nomatch h) (At.cells T31.at' 0 rfl 0 [.slice r0_a_22 r0_n_22 r0_c_22, .slice m_touch_reads_a m_touch_reads_n m_touch_reads_c, .slice r0_a_11 r0_n_11 r0_c_11] rfl)))) ?_
 exact ⟨r0_a_22, r0_n_22, r0_c_22, m_touch_reads_a, m_touch_reads_n, m_touch_reads_c, r0_a_11, r0_n_11, r0_c_11, rfl, (Mv.pick (S1.trans (T6.trans (S11.trans (T17.trans (S22.trans (T27.trans (T31.trans S32))))))) [] rfl), (Rd.cast (Rd.give Z32) (show (putKey m.store key val) = (layM m key val).store from by rfl)), (Rd.cast (Rd.give (Rd.mv (Nat.succ_pos _) V_v_m_touch_reads (S1.trans (T6.trans (S11.trans (T17.trans (S22.trans (T27.trans (T31.trans S32))))))))) (show m.touch.reads = (layM m key val).touch.reads from by rfl)), (Rd.cast (Rd.give (Rd.mv (Nat.succ_pos _) V11_0 (T17.trans (S22.trans (T27.trans (T31.trans S32)))))) (show (putL m.touch.writes key) = (layM m key val).touch.writes from by rfl))⟩
theorem impl_Mach_lay_c {w : World} {H : Nat → Prop} {m : MachD} {m_store_a : Option Addr} {m_store_n m_store_c : Nat} {m_touch_reads_a : Option Addr} {m_touch_reads_n m_touch_reads_c : Nat} {m_touch_writes_a : Option Addr} {m_touch_writes_n m_touch_writes_c : Nat} {m_b : Nat} {key : ByteArray} {val : ByteArray} (h_key : okS key) (h_val : okS val) (p0 : m.store.length ≤ 274877906943) (p1 : m.touch.writes.length ≤ 274877906943) (hA : At w [bx m_b [.slice m_store_a m_store_n m_store_c, .slice m_touch_reads_a m_touch_reads_n m_touch_reads_c, .slice m_touch_writes_a m_touch_writes_n m_touch_writes_c] 29, ow 74 2 encC okC (.slice m_store_a m_store_n m_store_c) m.store, ow 9 1 encS okS (.slice m_touch_reads_a m_touch_reads_n m_touch_reads_c) m.touch.reads, ow 9 1 encS okS (.slice m_touch_writes_a m_touch_writes_n m_touch_writes_c) m.touch.writes]) :
    Calls Tryz.prog 75 #[.pointer (some ⟨m_b, 0, none⟩), .string key, .string val] w fun e w' => ∃ (q_m_store_a : Option Addr), ∃ (q_m_store_n : Nat), ∃ (q_m_store_c : Nat), ∃ (q_m_touch_reads_a : Option Addr), ∃ (q_m_touch_reads_n : Nat), ∃ (q_m_touch_reads_c : Nat), ∃ (q_m_touch_writes_a : Option Addr), ∃ (q_m_touch_writes_n : Nat), ∃ (q_m_touch_writes_c : Nat), e = .returned (.tuple #[]) ∧ Mv [bx m_b [.slice m_store_a m_store_n m_store_c, .slice m_touch_reads_a m_touch_reads_n m_touch_reads_c, .slice m_touch_writes_a m_touch_writes_n m_touch_writes_c] 29, ow 74 2 encC okC (.slice m_store_a m_store_n m_store_c) m.store, ow 9 1 encS okS (.slice m_touch_reads_a m_touch_reads_n m_touch_reads_c) m.touch.reads, ow 9 1 encS okS (.slice m_touch_writes_a m_touch_writes_n m_touch_writes_c) m.touch.writes] w [bx m_b [.slice q_m_store_a q_m_store_n q_m_store_c, .slice q_m_touch_reads_a q_m_touch_reads_n q_m_touch_reads_c, .slice q_m_touch_writes_a q_m_touch_writes_n q_m_touch_writes_c] 29, ow 74 2 encC okC (.slice q_m_store_a q_m_store_n q_m_store_c) (layM m key val).store, ow 9 1 encS okS (.slice q_m_touch_reads_a q_m_touch_reads_n q_m_touch_reads_c) (layM m key val).touch.reads, ow 9 1 encS okS (.slice q_m_touch_writes_a q_m_touch_writes_n q_m_touch_writes_c) (layM m key val).touch.writes] w' := by
 have uU : True := (fun _ _ _ => trivial) H p0 p1
 clear uU
 obtain ⟨lo1, lp1, lq1⟩ := At.ownInv hA ET_24.hk 1 rfl
 obtain ⟨lo2, lp2, lq2⟩ := At.ownInv hA ET_25.hk 2 rfl
 obtain ⟨lo3, lp3, lq3⟩ := At.ownInv hA ET_25.hk 3 rfl
 refine calls_enter 27 Tryz.func75 rfl Tryz.ntmps75 (Nat.le_of_ble_eq_true rfl) (fun _ F0i => ?_)
 have F0 : Fr 27 [(0, .pointer (some ⟨m_b, 0, none⟩)), (1, .string key), (2, .string val)] _ := F0i
 clear F0i
 refine wp_seq (wp_region_lit (l_op (f_mv F0 rfl rfl rfl rfl rfl fun _ F1 => ?_)))
 refine l_op (f_mv F1 rfl rfl rfl rfl rfl fun _ F2 => ?_)
 refine l_op (f_val F2 rfl rfl (r_nilCheck rfl (F2.ev 7 rfl)) rfl fun _ F3 => ?_)
 refine l_op (f_val F3 rfl rfl (r_field FI_29_1 rfl (F3.ev 8 rfl) rfl) rfl fun _ F4 => ?_)
 refine l_op (f_val F4 rfl rfl (r_field FI_27_1 rfl (F4.ev 9 rfl) rfl) rfl fun _ F5 => ?_)
 refine l_op (f_val (v := .slice m_touch_writes_a m_touch_writes_n m_touch_writes_c) F5 rfl rfl (r_loadB hA 0 TI_25 rfl rfl (F5.ev 10 rfl) rfl rfl (fun _ => rfl) rfl) rfl fun _ F6 => ?_)
 refine l_op (f_mv F6 rfl rfl rfl rfl rfl fun _ F7 => ?_)
 refine l_op (f_call F7 CF_86 rfl rfl rfl rfl (lc (F7.ev 11 rfl) (lc (F7.ev 12 rfl) rfl)) (impl_addSpan_c (H := fun _ => True) (list := m.touch.writes) (span := key) h_key (by first | assumption | omega | (simp <;> omega)) (At.pick (is := [3]) hA rfl)) ?_)
 rintro _ w8 ⟨r0_a_8, r0_n_8, r0_c_8, rfl, m8⟩
 refine ⟨_, rfl, fun _ F9 => ?_⟩
 have S8 : Mv _ _ [ow 9 1 encS okS (.slice r0_a_8 r0_n_8 r0_c_8) (putL m.touch.writes key), bx m_b [.slice m_store_a m_store_n m_store_c, .slice m_touch_reads_a m_touch_reads_n m_touch_reads_c, .slice m_touch_writes_a m_touch_writes_n m_touch_writes_c] 29, ow 74 2 encC okC (.slice m_store_a m_store_n m_store_c) m.store, ow 9 1 encS okS (.slice m_touch_reads_a m_touch_reads_n m_touch_reads_c) m.touch.reads] _ := At.frame hA [3] rfl m8
 obtain ⟨lo8_0, lp8_0, lq8_0⟩ := At.ownInv S8.at' ET_25.hk 0 rfl
 clear m8
 refine l_op (f_val F9 rfl rfl (r_nilCheck rfl (F9.ev 6 rfl)) rfl fun _ F10 => ?_)
 refine l_op (f_val F10 rfl rfl (r_field FI_29_1 rfl (F10.ev 14 rfl) rfl) rfl fun _ F11 => ?_)
 refine l_op (f_val F11 rfl rfl (r_field FI_27_1 rfl (F11.ev 15 rfl) rfl) rfl fun _ F12 => ?_)
 refine l_op (s_store S8.at' 1 TI_25 rfl rfl rfl rfl rfl (F12.ev 16 rfl) (F12.ev 13 rfl) rfl rfl rfl rfl rfl fun w13 S13 => ?_)
 have F14 : Fr 27 [(16, .pointer (some ⟨m_b, 2, none⟩)), (13, .slice r0_a_8 r0_n_8 r0_c_8), (0, .pointer (some ⟨m_b, 0, none⟩)), (1, .string key), (2, .string val)] _ := F12.cut rfl
 clear F0 F1 F2 F3 F4 F5 F6 F7 F9 F10 F11 F12
 have T15 : Mv _ _ [bx m_b [.slice m_store_a m_store_n m_store_c, .slice m_touch_reads_a m_touch_reads_n m_touch_reads_c, .slice r0_a_8 r0_n_8 r0_c_8] 29, ow 9 1 encS okS (.slice r0_a_8 r0_n_8 r0_c_8) (putL m.touch.writes key), ow 74 2 encC okC (.slice m_store_a m_store_n m_store_c) m.store, ow 9 1 encS okS (.slice m_touch_reads_a m_touch_reads_n m_touch_reads_c) m.touch.reads] _ := S13
 refine s_end (x_normal (wp_region_lit (l_op (f_mv F14 rfl rfl rfl rfl rfl fun _ F16 => ?_))))
 refine l_op (f_mv F16 rfl rfl rfl rfl rfl fun _ F17 => ?_)
 refine l_op (f_val F17 rfl rfl (r_nilCheck rfl (F17.ev 18 rfl)) rfl fun _ F18 => ?_)
 refine l_op (f_val F18 rfl rfl (r_field FI_29_0 rfl (F18.ev 19 rfl) rfl) rfl fun _ F19 => ?_)
 refine l_op (f_val (v := .slice m_store_a m_store_n m_store_c) F19 rfl rfl (r_loadB T15.at' 0 TI_24 rfl rfl (F19.ev 20 rfl) rfl rfl (fun _ => rfl) rfl) rfl fun _ F20 => ?_)
 refine l_op (f_mv F20 rfl rfl rfl rfl rfl fun _ F21 => ?_)
 refine l_op (f_mv F21 rfl rfl rfl rfl rfl fun _ F22 => ?_)
 refine l_op (f_call F22 CF_106 rfl rfl rfl rfl (lc (F22.ev 21 rfl) (lc (F22.ev 22 rfl) (lc (F22.ev 23 rfl) rfl))) (impl_put_c (H := fun _ => True) (s := m.store) (key := key) (val := val) h_key h_val (by first | assumption | omega | (simp <;> omega)) (At.pick (is := [2]) T15.at' rfl)) ?_)
 rintro _ w23 ⟨r0_a_23, r0_n_23, r0_c_23, rfl, m23⟩
 refine ⟨_, rfl, fun _ F24 => ?_⟩
 have S23 : Mv _ _ [ow 74 2 encC okC (.slice r0_a_23 r0_n_23 r0_c_23) (putKey m.store key val), bx m_b [.slice m_store_a m_store_n m_store_c, .slice m_touch_reads_a m_touch_reads_n m_touch_reads_c, .slice r0_a_8 r0_n_8 r0_c_8] 29, ow 9 1 encS okS (.slice r0_a_8 r0_n_8 r0_c_8) (putL m.touch.writes key), ow 9 1 encS okS (.slice m_touch_reads_a m_touch_reads_n m_touch_reads_c) m.touch.reads] _ := At.frame T15.at' [2] rfl m23
 obtain ⟨lo23_0, lp23_0, lq23_0⟩ := At.ownInv S23.at' ET_24.hk 0 rfl
 clear m23
 refine l_op (f_val F24 rfl rfl (r_nilCheck rfl (F24.ev 17 rfl)) rfl fun _ F25 => ?_)
 refine l_op (f_val F25 rfl rfl (r_field FI_29_0 rfl (F25.ev 25 rfl) rfl) rfl fun _ F26 => ?_)
 refine l_op (s_store S23.at' 1 TI_24 rfl rfl rfl rfl rfl (F26.ev 26 rfl) (F26.ev 24 rfl) rfl rfl rfl rfl rfl fun w27 S27 => ?_)
 have F28 : Fr 27 [(26, .pointer (some ⟨m_b, 0, none⟩)), (24, .slice r0_a_23 r0_n_23 r0_c_23)] _ := F26.cut rfl
 clear F14 F16 F17 F18 F19 F20 F21 F22 F24 F25 F26
 have T29 : Mv _ _ [bx m_b [.slice r0_a_23 r0_n_23 r0_c_23, .slice m_touch_reads_a m_touch_reads_n m_touch_reads_c, .slice r0_a_8 r0_n_8 r0_c_8] 29, ow 74 2 encC okC (.slice r0_a_23 r0_n_23 r0_c_23) (putKey m.store key val), ow 9 1 encS okS (.slice r0_a_8 r0_n_8 r0_c_8) (putL m.touch.writes key), ow 9 1 encS okS (.slice m_touch_reads_a m_touch_reads_n m_touch_reads_c) m.touch.reads] _ := S27
 refine s_end ?_
 refine x_done_end (v := .tuple #[]) F28 (results_0 Tryz.results75) ?_
 exact ⟨r0_a_23, r0_n_23, r0_c_23, m_touch_reads_a, m_touch_reads_n, m_touch_reads_c, r0_a_8, r0_n_8, r0_c_8, rfl, (Mv.cast (Mv.pick (S8.trans (T15.trans (S23.trans T29))) [0, 1, 3, 2] rfl) rfl)⟩
end Go.Proofs.YtkeglhkdanenbaaGreatDoor
