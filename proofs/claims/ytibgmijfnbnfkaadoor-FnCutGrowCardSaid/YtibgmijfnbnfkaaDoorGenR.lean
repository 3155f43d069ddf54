/-
  Walks: a key is laid, a beginning is wiped.
-/
import Derived.Test.YtibgmijfnbnfkaaDoorDat
import Derived.Test.YtibgmijfnbnfkaaDoorGenQ
namespace Go.Proofs.YtibgmijfnbnfkaaDoor
open Go.ChangeShapes Go.WideShapes Go.ChangeAt Go.RowKit
set_option maxRecDepth 100000
set_option maxHeartbeats 1000000
theorem impl_Mach_lay_c {w : World} {H : Nat → Prop} {m : MachD} {m_store_a : Option Addr} {m_store_n m_store_c : Nat} {m_touch_reads_a : Option Addr} {m_touch_reads_n m_touch_reads_c : Nat} {m_touch_writes_a : Option Addr} {m_touch_writes_n m_touch_writes_c : Nat} {m_b : Nat} {key : ByteArray} {val : ByteArray} (h_key : okS key) (h_val : okS val) (p0 : m.store.length ≤ 274877906943) (p1 : m.touch.writes.length ≤ 274877906943) (hA : At w [bx m_b [.slice m_store_a m_store_n m_store_c, .slice m_touch_reads_a m_touch_reads_n m_touch_reads_c, .slice m_touch_writes_a m_touch_writes_n m_touch_writes_c] 31, ow 53 2 encC okC (.slice m_store_a m_store_n m_store_c) m.store, ow 9 1 encS okS (.slice m_touch_reads_a m_touch_reads_n m_touch_reads_c) m.touch.reads, ow 9 1 encS okS (.slice m_touch_writes_a m_touch_writes_n m_touch_writes_c) m.touch.writes]) :
    Calls Tryd.prog 35 #[.pointer (some ⟨m_b, 0, none⟩), .string key, .string val] w fun e w' => ∃ (q_m_store_a : Option Addr), ∃ (q_m_store_n : Nat), ∃ (q_m_store_c : Nat), ∃ (q_m_touch_reads_a : Option Addr), ∃ (q_m_touch_reads_n : Nat), ∃ (q_m_touch_reads_c : Nat), ∃ (q_m_touch_writes_a : Option Addr), ∃ (q_m_touch_writes_n : Nat), ∃ (q_m_touch_writes_c : Nat), e = .returned (.tuple #[]) ∧ Mv [bx m_b [.slice m_store_a m_store_n m_store_c, .slice m_touch_reads_a m_touch_reads_n m_touch_reads_c, .slice m_touch_writes_a m_touch_writes_n m_touch_writes_c] 31, ow 53 2 encC okC (.slice m_store_a m_store_n m_store_c) m.store, ow 9 1 encS okS (.slice m_touch_reads_a m_touch_reads_n m_touch_reads_c) m.touch.reads, ow 9 1 encS okS (.slice m_touch_writes_a m_touch_writes_n m_touch_writes_c) m.touch.writes] w [bx m_b [.slice q_m_store_a q_m_store_n q_m_store_c, .slice q_m_touch_reads_a q_m_touch_reads_n q_m_touch_reads_c, .slice q_m_touch_writes_a q_m_touch_writes_n q_m_touch_writes_c] 31, ow 53 2 encC okC (.slice q_m_store_a q_m_store_n q_m_store_c) (layM m key val).store, ow 9 1 encS okS (.slice q_m_touch_reads_a q_m_touch_reads_n q_m_touch_reads_c) (layM m key val).touch.reads, ow 9 1 encS okS (.slice q_m_touch_writes_a q_m_touch_writes_n q_m_touch_writes_c) (layM m key val).touch.writes] w' := by
 have uU : True := (fun _ _ _ => trivial) H p0 p1
 clear uU
 obtain ⟨lo1, lp1, lq1⟩ := At.ownInv hA ET_26.hk 1 rfl
 obtain ⟨lo2, lp2, lq2⟩ := At.ownInv hA ET_27.hk 2 rfl
 obtain ⟨lo3, lp3, lq3⟩ := At.ownInv hA ET_27.hk 3 rfl
 refine calls_enter 27 Tryd.func35 rfl Tryd.ntmps35 (Nat.le_of_ble_eq_true rfl) (fun _ F0i => ?_)
 have F0 : Fr 27 [(0, .pointer (some ⟨m_b, 0, none⟩)), (1, .string key), (2, .string val)] _ := F0i
 clear F0i
 refine wp_seq (wp_region_lit (l_op (f_mv F0 rfl rfl rfl rfl rfl fun _ F1 => ?_)))
 refine l_op (f_mv F1 rfl rfl rfl rfl rfl fun _ F2 => ?_)
 refine l_op (f_val F2 rfl rfl (r_nilCheck rfl (F2.ev 7 rfl)) rfl fun _ F3 => ?_)
 refine l_op (f_val F3 rfl rfl (r_field FI_31_1 rfl (F3.ev 8 rfl) rfl) rfl fun _ F4 => ?_)
 refine l_op (f_val F4 rfl rfl (r_field FI_29_1 rfl (F4.ev 9 rfl) rfl) rfl fun _ F5 => ?_)
 refine l_op (f_val (v := .slice m_touch_writes_a m_touch_writes_n m_touch_writes_c) F5 rfl rfl (r_loadB hA 0 TI_27 rfl rfl (F5.ev 10 rfl) rfl rfl (fun _ => rfl) rfl) rfl fun _ F6 => ?_)
 refine l_op (f_mv F6 rfl rfl rfl rfl rfl fun _ F7 => ?_)
 refine l_op (f_call F7 CF_45 rfl rfl rfl rfl (lc (F7.ev 11 rfl) (lc (F7.ev 12 rfl) rfl)) (impl_addSpan_c (H := fun _ => True) (list := m.touch.writes) (span := key) h_key (by first | assumption | omega | (simp <;> omega)) (At.pick (is := [3]) hA rfl)) ?_)
 rintro _ w8 ⟨r0_a_8, r0_n_8, r0_c_8, rfl, m8⟩
 refine ⟨_, rfl, fun _ F9 => ?_⟩
 have S8 : Mv _ _ [ow 9 1 encS okS (.slice r0_a_8 r0_n_8 r0_c_8) (putL m.touch.writes key), bx m_b [.slice m_store_a m_store_n m_store_c, .slice m_touch_reads_a m_touch_reads_n m_touch_reads_c, .slice m_touch_writes_a m_touch_writes_n m_touch_writes_c] 31, ow 53 2 encC okC (.slice m_store_a m_store_n m_store_c) m.store, ow 9 1 encS okS (.slice m_touch_reads_a m_touch_reads_n m_touch_reads_c) m.touch.reads] _ := At.frame hA [3] rfl m8
 obtain ⟨lo8_0, lp8_0, lq8_0⟩ := At.ownInv S8.at' ET_27.hk 0 rfl
 clear m8
 refine l_op (f_val F9 rfl rfl (r_nilCheck rfl (F9.ev 6 rfl)) rfl fun _ F10 => ?_)
 refine l_op (f_val F10 rfl rfl (r_field FI_31_1 rfl (F10.ev 14 rfl) rfl) rfl fun _ F11 => ?_)
 refine l_op (f_val F11 rfl rfl (r_field FI_29_1 rfl (F11.ev 15 rfl) rfl) rfl fun _ F12 => ?_)
 refine l_op (s_store S8.at' 1 TI_27 rfl rfl rfl rfl rfl (F12.ev 16 rfl) (F12.ev 13 rfl) rfl rfl rfl rfl rfl fun w13 S13 => ?_)
 have F14 : Fr 27 [(16, .pointer (some ⟨m_b, 2, none⟩)), (13, .slice r0_a_8 r0_n_8 r0_c_8), (0, .pointer (some ⟨m_b, 0, none⟩)), (1, .string key), (2, .string val)] _ := F12.cut rfl
 clear F0 F1 F2 F3 F4 F5 F6 F7 F9 F10 F11 F12
 have T15 : Mv _ _ [bx m_b [.slice m_store_a m_store_n m_store_c, .slice m_touch_reads_a m_touch_reads_n m_touch_reads_c, .slice r0_a_8 r0_n_8 r0_c_8] 31, ow 9 1 encS okS (.slice r0_a_8 r0_n_8 r0_c_8) (putL m.touch.writes key), ow 53 2 encC okC (.slice m_store_a m_store_n m_store_c) m.store, ow 9 1 encS okS (.slice m_touch_reads_a m_touch_reads_n m_touch_reads_c) m.touch.reads] _ := S13
 refine s_end (x_normal (wp_region_lit (l_op (f_mv F14 rfl rfl rfl rfl rfl fun _ F16 => ?_))))
 refine l_op (f_mv F16 rfl rfl rfl rfl rfl fun _ F17 => ?_)
 refine l_op (f_val F17 rfl rfl (r_nilCheck rfl (F17.ev 18 rfl)) rfl fun _ F18 => ?_)
 refine l_op (f_val F18 rfl rfl (r_field FI_31_0 rfl (F18.ev 19 rfl) rfl) rfl fun _ F19 => ?_)
 refine l_op (f_val (v := .slice m_store_a m_store_n m_store_c) F19 rfl rfl (r_loadB T15.at' 0 TI_26 rfl rfl (F19.ev 20 rfl) rfl rfl (fun _ => rfl) rfl) rfl fun _ F20 => ?_)
 refine l_op (f_mv F20 rfl rfl rfl rfl rfl fun _ F21 => ?_)
 refine l_op (f_mv F21 rfl rfl rfl rfl rfl fun _ F22 => ?_)
 refine l_op (f_call F22 CF_46 rfl rfl rfl rfl (lc (F22.ev 21 rfl) (lc (F22.ev 22 rfl) (lc (F22.ev 23 rfl) rfl))) (impl_put_c (H := fun _ => True) (s := m.store) (key := key) (val := val) h_key h_val (by first | assumption | omega | (simp <;> omega)) (At.pick (is := [2]) T15.at' rfl)) ?_)
 rintro _ w23 ⟨r0_a_23, r0_n_23, r0_c_23, rfl, m23⟩
 refine ⟨_, rfl, fun _ F24 => ?_⟩
 have S23 : Mv _ _ [ow 53 2 encC okC (.slice r0_a_23 r0_n_23 r0_c_23) (putKey m.store key val), bx m_b [.slice m_store_a m_store_n m_store_c, .slice m_touch_reads_a m_touch_reads_n m_touch_reads_c, .slice r0_a_8 r0_n_8 r0_c_8] 31, ow 9 1 encS okS (.slice r0_a_8 r0_n_8 r0_c_8) (putL m.touch.writes key), ow 9 1 encS okS (.slice m_touch_reads_a m_touch_reads_n m_touch_reads_c) m.touch.reads] _ := At.frame T15.at' [2] rfl m23
 obtain ⟨lo23_0, lp23_0, lq23_0⟩ := At.ownInv S23.at' ET_26.hk 0 rfl
 clear m23
 refine l_op (f_val F24 rfl rfl (r_nilCheck rfl (F24.ev 17 rfl)) rfl fun _ F25 => ?_)
 refine l_op (f_val F25 rfl rfl (r_field FI_31_0 rfl (F25.ev 25 rfl) rfl) rfl fun _ F26 => ?_)
 refine l_op (s_store S23.at' 1 TI_26 rfl rfl rfl rfl rfl (F26.ev 26 rfl) (F26.ev 24 rfl) rfl rfl rfl rfl rfl fun w27 S27 => ?_)
 have F28 : Fr 27 [(26, .pointer (some ⟨m_b, 0, none⟩)), (24, .slice r0_a_23 r0_n_23 r0_c_23)] _ := F26.cut rfl
 clear F14 F16 F17 F18 F19 F20 F21 F22 F24 F25 F26
 have T29 : Mv _ _ [bx m_b [.slice r0_a_23 r0_n_23 r0_c_23, .slice m_touch_reads_a m_touch_reads_n m_touch_reads_c, .slice r0_a_8 r0_n_8 r0_c_8] 31, ow 53 2 encC okC (.slice r0_a_23 r0_n_23 r0_c_23) (putKey m.store key val), ow 9 1 encS okS (.slice r0_a_8 r0_n_8 r0_c_8) (putL m.touch.writes key), ow 9 1 encS okS (.slice m_touch_reads_a m_touch_reads_n m_touch_reads_c) m.touch.reads] _ := S27
 refine s_end ?_
 refine x_done_end (v := .tuple #[]) F28 (results_0 Tryd.results35) ?_
 exact ⟨r0_a_23, r0_n_23, r0_c_23, m_touch_reads_a, m_touch_reads_n, m_touch_reads_c, r0_a_8, r0_n_8, r0_c_8, rfl, (Mv.cast (Mv.pick (S8.trans (T15.trans (S23.trans T29))) [0, 1, 3, 2] rfl) rfl)⟩
end Go.Proofs.YtibgmijfnbnfkaaDoor
