/-
  Walks: a key is laid, a beginning is wiped.
-/
import Derived.Test.YtjiplnaceiofmaaDoorDat
import Derived.Test.YtjiplnaceiofmaaDoorGenQ
namespace Go.Proofs.YtjiplnaceiofmaaDoor
open Go.ChangeShapes Go.WideShapes Go.ChangeAt Go.RowKit
set_option maxRecDepth 100000
set_option maxHeartbeats 1000000
theorem impl_Mach_lay_c {w : World} {H : Nat → Prop} {m : MachD} {m_store_a : Option Addr} {m_store_n m_store_c : Nat} {m_touch_reads_a : Option Addr} {m_touch_reads_n m_touch_reads_c : Nat} {m_touch_writes_a : Option Addr} {m_touch_writes_n m_touch_writes_c : Nat} {m_b : Nat} {key : ByteArray} {val : ByteArray} (h_key : okS key) (h_val : okS val) (p0 : m.store.length ≤ 274877906943) (p1 : m.touch.writes.length ≤ 274877906943) (hA : At w [bx m_b [.slice m_store_a m_store_n m_store_c, .slice m_touch_reads_a m_touch_reads_n m_touch_reads_c, .slice m_touch_writes_a m_touch_writes_n m_touch_writes_c] 31, ow 81 2 encC okC (.slice m_store_a m_store_n m_store_c) m.store, ow 9 1 encS okS (.slice m_touch_reads_a m_touch_reads_n m_touch_reads_c) m.touch.reads, ow 9 1 encS okS (.slice m_touch_writes_a m_touch_writes_n m_touch_writes_c) m.touch.writes]) :
    Calls Tryd.prog 96 #[.pointer (some ⟨m_b, 0, none⟩), .string key, .string val] w fun e w' => ∃ (q_m_store_a : Option Addr), ∃ (q_m_store_n : Nat), ∃ (q_m_store_c : Nat), ∃ (q_m_touch_reads_a : Option Addr), ∃ (q_m_touch_reads_n : Nat), ∃ (q_m_touch_reads_c : Nat), ∃ (q_m_touch_writes_a : Option Addr), ∃ (q_m_touch_writes_n : Nat), ∃ (q_m_touch_writes_c : Nat), e = .returned (.tuple #[]) ∧ Mv [bx m_b [.slice m_store_a m_store_n m_store_c, .slice m_touch_reads_a m_touch_reads_n m_touch_reads_c, .slice m_touch_writes_a m_touch_writes_n m_touch_writes_c] 31, ow 81 2 encC okC (.slice m_store_a m_store_n m_store_c) m.store, ow 9 1 encS okS (.slice m_touch_reads_a m_touch_reads_n m_touch_reads_c) m.touch.reads, ow 9 1 encS okS (.slice m_touch_writes_a m_touch_writes_n m_touch_writes_c) m.touch.writes] w [bx m_b [.slice q_m_store_a q_m_store_n q_m_store_c, .slice q_m_touch_reads_a q_m_touch_reads_n q_m_touch_reads_c, .slice q_m_touch_writes_a q_m_touch_writes_n q_m_touch_writes_c] 31, ow 81 2 encC okC (.slice q_m_store_a q_m_store_n q_m_store_c) (layM m key val).store, ow 9 1 encS okS (.slice q_m_touch_reads_a q_m_touch_reads_n q_m_touch_reads_c) (layM m key val).touch.reads, ow 9 1 encS okS (.slice q_m_touch_writes_a q_m_touch_writes_n q_m_touch_writes_c) (layM m key val).touch.writes] w' := by
 have uU : True := (fun _ _ _ => trivial) H p0 p1
 clear uU
 obtain ⟨lo1, lp1, lq1⟩ := At.ownInv hA ET_26.hk 1 rfl
 obtain ⟨lo2, lp2, lq2⟩ := At.ownInv hA ET_27.hk 2 rfl
 obtain ⟨lo3, lp3, lq3⟩ := At.ownInv hA ET_27.hk 3 rfl
 refine calls_enter 27 Tryd.func96 rfl Tryd.ntmps96 (Nat.le_of_ble_eq_true rfl) (fun _ F0i => ?_)
 have F0 : Fr 27 [(0, .pointer (some ⟨m_b, 0, none⟩)), (1, .string key), (2, .string val)] _ := F0i
 clear F0i
 refine wp_seq (wp_region_lit (l_op (f_mv F0 rfl rfl rfl rfl rfl fun _ F1 => ?_)))
 refine l_op (f_mv F1 rfl rfl rfl rfl rfl fun _ F2 => ?_)
 refine l_op (f_val F2 rfl rfl (r_nilCheck rfl (F2.ev 7 rfl)) rfl fun _ F3 => ?_)
 refine l_op (f_val F3 rfl rfl (r_field FI_31_1 rfl (F3.ev 8 rfl) rfl) rfl fun _ F4 => ?_)
 refine l_op (f_val F4 rfl rfl (r_field FI_29_1 rfl (F4.ev 9 rfl) rfl) rfl fun _ F5 => ?_)
 refine l_op (f_val (v := .slice m_touch_writes_a m_touch_writes_n m_touch_writes_c) F5 rfl rfl (r_loadB hA 0 TI_27 rfl rfl (F5.ev 10 rfl) rfl rfl (fun _ => rfl) rfl) rfl fun _ F6 => ?_)
 refine l_op (f_mv F6 rfl rfl rfl rfl rfl fun _ F7 => ?_)
 refine l_op (f_call F7 CF_128 rfl rfl rfl rfl (lc (F7.ev 11 rfl) (lc (F7.ev 12 rfl) rfl)) (impl_addSpan_c (H := fun _ => True) (list := m.touch.writes) (span := key) h_key (by first | assumption | omega | (simp <;> omega)) (At.pick (is := [3]) hA rfl)) ?_)
 rintro _ w8 ⟨r0_a_8, r0_n_8, r0_c_8, rfl, m8⟩
 refine ⟨_, rfl, fun _ F9 => ?_⟩
 have S8 : Mv _ _ [ow 9 1 encS okS (.slice r0_a_8 r0_n_8 r0_c_8) (putL m.touch.writes key), bx m_b [.slice m_store_a m_store_n m_store_c, .slice m_touch_reads_a m_touch_reads_n m_touch_reads_c, .slice m_touch_writes_a m_touch_writes_n m_touch_writes_c] 31, ow 81 2 encC okC (.slice m_store_a m_store_n m_store_c) m.store, ow 9 1 encS okS (.slice m_touch_reads_a m_touch_reads_n m_touch_reads_c) m.touch.reads] _ := At.frame hA [3] rfl m8
 obtain ⟨lo8_0, lp8_0, lq8_0⟩ := At.ownInv S8.at' ET_27.hk 0 rfl
 clear m8
 refine l_op (f_val F9 rfl rfl (r_nilCheck rfl (F9.ev 6 rfl)) rfl fun _ F10 => ?_)
 refine l_op (f_val F10 rfl rfl (r_field FI_31_1 rfl (F10.ev 14 rfl) rfl) rfl fun _ F11 => ?_)
 refine l_op (f_val F11 rfl rfl (r_field FI_29_1 rfl (F11.ev 15 rfl) rfl) rfl fun _ F12 => ?_)
 refine l_op (s_store S8.at' 1 TI_27 rfl rfl rfl rfl rfl (F12.ev 16 rfl) (F12.ev 13 rfl) rfl rfl rfl rfl rfl fun w13 S13 => ?_)
 have F14 : Fr 27 [(16, .pointer (some ⟨m_b, 2, none⟩)), (13, .slice r0_a_8 r0_n_8 r0_c_8), (0, .pointer (some ⟨m_b, 0, none⟩)), (1, .string key), (2, .string val)] _ := F12.cut rfl
 clear F0 F1 F2 F3 F4 F5 F6 F7 F9 F10 F11 F12
 have T15 : Mv _ _ [bx m_b [.slice m_store_a m_store_n m_store_c, .slice m_touch_reads_a m_touch_reads_n m_touch_reads_c, .slice r0_a_8 r0_n_8 r0_c_8] 31, ow 9 1 encS okS (.slice r0_a_8 r0_n_8 r0_c_8) (putL m.touch.writes key), ow 81 2 encC okC (.slice m_store_a m_store_n m_store_c) m.store, ow 9 1 encS okS (.slice m_touch_reads_a m_touch_reads_n m_touch_reads_c) m.touch.reads] _ := S13
 refine s_end (x_normal (wp_region_lit (l_op (f_mv F14 rfl rfl rfl rfl rfl fun _ F16 => ?_))))
 refine l_op (f_mv F16 rfl rfl rfl rfl rfl fun _ F17 => ?_)
 refine l_op (f_val F17 rfl rfl (r_nilCheck rfl (F17.ev 18 rfl)) rfl fun _ F18 => ?_)
 refine l_op (f_val F18 rfl rfl (r_field FI_31_0 rfl (F18.ev 19 rfl) rfl) rfl fun _ F19 => ?_)
 refine l_op (f_val (v := .slice m_store_a m_store_n m_store_c) F19 rfl rfl (r_loadB T15.at' 0 TI_26 rfl rfl (F19.ev 20 rfl) rfl rfl (fun _ => rfl) rfl) rfl fun _ F20 => ?_)
 refine l_op (f_mv F20 rfl rfl rfl rfl rfl fun _ F21 => ?_)
 refine l_op (f_mv F21 rfl rfl rfl rfl rfl fun _ F22 => ?_)
 refine l_op (f_call F22 CF_129 rfl rfl rfl rfl (lc (F22.ev 21 rfl) (lc (F22.ev 22 rfl) (lc (F22.ev 23 rfl) rfl))) (impl_put_c (H := fun _ => True) (s := m.store) (key := key) (val := val) h_key h_val (by first | assumption | omega | (simp <;> omega)) (At.pick (is := [2]) T15.at' rfl)) ?_)
 rintro _ w23 ⟨r0_a_23, r0_n_23, r0_c_23, rfl, m23⟩
 refine ⟨_, rfl, fun _ F24 => ?_⟩
 have S23 : Mv _ _ [ow 81 2 encC okC (.slice r0_a_23 r0_n_23 r0_c_23) (putKey m.store key val), bx m_b [.slice m_store_a m_store_n m_store_c, .slice m_touch_reads_a m_touch_reads_n m_touch_reads_c, .slice r0_a_8 r0_n_8 r0_c_8] 31, ow 9 1 encS okS (.slice r0_a_8 r0_n_8 r0_c_8) (putL m.touch.writes key), ow 9 1 encS okS (.slice m_touch_reads_a m_touch_reads_n m_touch_reads_c) m.touch.reads] _ := At.frame T15.at' [2] rfl m23
 obtain ⟨lo23_0, lp23_0, lq23_0⟩ := At.ownInv S23.at' ET_26.hk 0 rfl
 clear m23
 refine l_op (f_val F24 rfl rfl (r_nilCheck rfl (F24.ev 17 rfl)) rfl fun _ F25 => ?_)
 refine l_op (f_val F25 rfl rfl (r_field FI_31_0 rfl (F25.ev 25 rfl) rfl) rfl fun _ F26 => ?_)
 refine l_op (s_store S23.at' 1 TI_26 rfl rfl rfl rfl rfl (F26.ev 26 rfl) (F26.ev 24 rfl) rfl rfl rfl rfl rfl fun w27 S27 => ?_)
 have F28 : Fr 27 [(26, .pointer (some ⟨m_b, 0, none⟩)), (24, .slice r0_a_23 r0_n_23 r0_c_23)] _ := F26.cut rfl
 clear F14 F16 F17 F18 F19 F20 F21 F22 F24 F25 F26
 have T29 : Mv _ _ [bx m_b [.slice r0_a_23 r0_n_23 r0_c_23, .slice m_touch_reads_a m_touch_reads_n m_touch_reads_c, .slice r0_a_8 r0_n_8 r0_c_8] 31, ow 81 2 encC okC (.slice r0_a_23 r0_n_23 r0_c_23) (putKey m.store key val), ow 9 1 encS okS (.slice r0_a_8 r0_n_8 r0_c_8) (putL m.touch.writes key), ow 9 1 encS okS (.slice m_touch_reads_a m_touch_reads_n m_touch_reads_c) m.touch.reads] _ := S27
 refine s_end ?_
 refine x_done_end (v := .tuple #[]) F28 (results_0 Tryd.results96) ?_
 exact ⟨r0_a_23, r0_n_23, r0_c_23, m_touch_reads_a, m_touch_reads_n, m_touch_reads_c, r0_a_8, r0_n_8, r0_c_8, rfl, (Mv.cast (Mv.pick (S8.trans (T15.trans (S23.trans T29))) [0, 1, 3, 2] rfl) rfl)⟩
theorem impl_Mach_wipe_c {w : World} {H : Nat → Prop} {m : MachD} {m_store_a : Option Addr} {m_store_n m_store_c : Nat} {m_touch_reads_a : Option Addr} {m_touch_reads_n m_touch_reads_c : Nat} {m_touch_writes_a : Option Addr} {m_touch_writes_n m_touch_writes_c : Nat} {m_b : Nat} {pfx : ByteArray} (h_pfx : okS pfx) (p0 : m.store.length ≤ 68719476736) (p1 : m.touch.reads.length ≤ 68719476736) (p2 : m.touch.writes.length ≤ 68719476736) (p3 : pfx.size ≤ 4611686018427387904) (hA : At w [bx m_b [.slice m_store_a m_store_n m_store_c, .slice m_touch_reads_a m_touch_reads_n m_touch_reads_c, .slice m_touch_writes_a m_touch_writes_n m_touch_writes_c] 31, ow 81 2 encC okC (.slice m_store_a m_store_n m_store_c) m.store, ow 9 1 encS okS (.slice m_touch_reads_a m_touch_reads_n m_touch_reads_c) m.touch.reads, ow 9 1 encS okS (.slice m_touch_writes_a m_touch_writes_n m_touch_writes_c) m.touch.writes]) :
    Calls Tryd.prog 112 #[.pointer (some ⟨m_b, 0, none⟩), .string pfx] w fun e w' => ∃ (q_m_store_a : Option Addr), ∃ (q_m_store_n : Nat), ∃ (q_m_store_c : Nat), ∃ (q_m_touch_reads_a : Option Addr), ∃ (q_m_touch_reads_n : Nat), ∃ (q_m_touch_reads_c : Nat), ∃ (q_m_touch_writes_a : Option Addr), ∃ (q_m_touch_writes_n : Nat), ∃ (q_m_touch_writes_c : Nat), e = .returned (.tuple #[]) ∧ Mv [bx m_b [.slice m_store_a m_store_n m_store_c, .slice m_touch_reads_a m_touch_reads_n m_touch_reads_c, .slice m_touch_writes_a m_touch_writes_n m_touch_writes_c] 31, ow 81 2 encC okC (.slice m_store_a m_store_n m_store_c) m.store, ow 9 1 encS okS (.slice m_touch_reads_a m_touch_reads_n m_touch_reads_c) m.touch.reads, ow 9 1 encS okS (.slice m_touch_writes_a m_touch_writes_n m_touch_writes_c) m.touch.writes] w [bx m_b [.slice q_m_store_a q_m_store_n q_m_store_c, .slice q_m_touch_reads_a q_m_touch_reads_n q_m_touch_reads_c, .slice q_m_touch_writes_a q_m_touch_writes_n q_m_touch_writes_c] 31, ow 81 2 encC okC (.slice q_m_store_a q_m_store_n q_m_store_c) (wipeM m pfx).store, ow 9 1 encS okS (.slice q_m_touch_reads_a q_m_touch_reads_n q_m_touch_reads_c) (wipeM m pfx).touch.reads, ow 9 1 encS okS (.slice q_m_touch_writes_a q_m_touch_writes_n q_m_touch_writes_c) (wipeM m pfx).touch.writes] w' := by
 have uU : True := (fun _ _ _ _ _ => trivial) H p0 p1 p2 p3
 clear uU
 obtain ⟨lo1, lp1, lq1⟩ := At.ownInv hA ET_26.hk 1 rfl
 obtain ⟨lo2, lp2, lq2⟩ := At.ownInv hA ET_27.hk 2 rfl
 obtain ⟨lo3, lp3, lq3⟩ := At.ownInv hA ET_27.hk 3 rfl
 refine calls_enter 18 Tryd.func112 rfl Tryd.ntmps112 (Nat.le_of_ble_eq_true rfl) (fun _ F0i => ?_)
 have F0 : Fr 18 [(0, .pointer (some ⟨m_b, 0, none⟩)), (1, .string pfx)] _ := F0i
 clear F0i
 refine wp_seq (wp_region_lit (l_op (f_mv F0 rfl rfl rfl rfl rfl fun _ F1 => ?_)))
 refine l_op (f_mv F1 rfl rfl rfl rfl rfl fun _ F2 => ?_)
 refine l_op (f_call F2 CF_107 rfl rfl rfl rfl (lc (F2.ev 6 rfl) (lc (F2.ev 7 rfl) rfl)) (impl_Mach_under_c (H := fun _ => True) (m := m) (pfx := pfx) h_pfx (by first | assumption | omega | (simp <;> omega)) (by first | assumption | omega | (simp <;> omega)) (by first | assumption | omega | (simp <;> omega)) (At.pick (is := [0, 1, 2, 3]) hA rfl)) ?_)
 rintro _ w3 ⟨r0_a_3, r0_n_3, r0_c_3, qm_store_a_3, qm_store_n_3, qm_store_c_3, qm_touch_reads_a_3, qm_touch_reads_n_3, qm_touch_reads_c_3, qm_touch_writes_a_3, qm_touch_writes_n_3, qm_touch_writes_c_3, rfl, m3⟩
 refine ⟨_, rfl, fun _ F4 => ?_⟩
 have S3 : Mv _ _ [ow 9 1 encS okS (.slice r0_a_3 r0_n_3 r0_c_3) (keysUnder m.store pfx), bx m_b [.slice qm_store_a_3 qm_store_n_3 qm_store_c_3, .slice qm_touch_reads_a_3 qm_touch_reads_n_3 qm_touch_reads_c_3, .slice qm_touch_writes_a_3 qm_touch_writes_n_3 qm_touch_writes_c_3] 31, ow 81 2 encC okC (.slice qm_store_a_3 qm_store_n_3 qm_store_c_3) (lookM m (pfx ++ (⟨#[42]⟩ : ByteArray))).store, ow 9 1 encS okS (.slice qm_touch_reads_a_3 qm_touch_reads_n_3 qm_touch_reads_c_3) (lookM m (pfx ++ (⟨#[42]⟩ : ByteArray))).touch.reads, ow 9 1 encS okS (.slice qm_touch_writes_a_3 qm_touch_writes_n_3 qm_touch_writes_c_3) (lookM m (pfx ++ (⟨#[42]⟩ : ByteArray))).touch.writes] _ := At.frame hA [0, 1, 2, 3] rfl m3
 obtain ⟨lo3_0, lp3_0, lq3_0⟩ := At.ownInv S3.at' ET_27.hk 0 rfl
 obtain ⟨lo3_2, lp3_2, lq3_2⟩ := At.ownInv S3.at' ET_26.hk 2 rfl
 obtain ⟨lo3_3, lp3_3, lq3_3⟩ := At.ownInv S3.at' ET_27.hk 3 rfl
 obtain ⟨lo3_4, lp3_4, lq3_4⟩ := At.ownInv S3.at' ET_27.hk 4 rfl
 clear m3
 refine l_op (f_val F4 rfl rfl (r_len Tryd.underlying27 rfl (F4.ev 8 rfl)) rfl fun _ F5 => ?_)
 refine l_op (f_val F5 rfl rfl (r_move rfl rfl) rfl fun _ F6 => ?_)
 have F7 : Fr 18 [(10, .int .i64 0), (9, .int .i64 ((r0_n_3 : Nat) : Int)), (8, .slice r0_a_3 r0_n_3 r0_c_3), (0, .pointer (some ⟨m_b, 0, none⟩))] _ := F6.cut rfl
 clear F0 F1 F2 F4 F5 F6
 refine s_end (x_normal (wp_block ?_))
 refine x_loop (fun (k : Nat) aZ wZ => ∃ (M : MachD), ∃ (sa : Option Addr), ∃ (sn : Nat), ∃ (sc : Nat), ∃ (ra : Option Addr), ∃ (rn : Nat), ∃ (rc : Nat), ∃ (ua : Option Addr), ∃ (un : Nat), ∃ (uc : Nat), Fr 18 [(10, .int .i64 ((k : Nat) : Int)), (9, .int .i64 ((r0_n_3 : Nat) : Int)), (8, .slice r0_a_3 r0_n_3 r0_c_3), (0, .pointer (some ⟨m_b, 0, none⟩))] aZ ∧ Mv [ow 9 1 encS okS (.slice r0_a_3 r0_n_3 r0_c_3) (keysUnder m.store pfx), bx m_b [.slice qm_store_a_3 qm_store_n_3 qm_store_c_3, .slice qm_touch_reads_a_3 qm_touch_reads_n_3 qm_touch_reads_c_3, .slice qm_touch_writes_a_3 qm_touch_writes_n_3 qm_touch_writes_c_3] 31, ow 81 2 encC okC (.slice qm_store_a_3 qm_store_n_3 qm_store_c_3) (lookM m (pfx ++ (⟨#[42]⟩ : ByteArray))).store, ow 9 1 encS okS (.slice qm_touch_reads_a_3 qm_touch_reads_n_3 qm_touch_reads_c_3) (lookM m (pfx ++ (⟨#[42]⟩ : ByteArray))).touch.reads, ow 9 1 encS okS (.slice qm_touch_writes_a_3 qm_touch_writes_n_3 qm_touch_writes_c_3) (lookM m (pfx ++ (⟨#[42]⟩ : ByteArray))).touch.writes] w3 [ow 9 1 encS okS (.slice r0_a_3 r0_n_3 r0_c_3) (keysUnder m.store pfx), bx m_b [.slice sa sn sc, .slice ra rn rc, .slice ua un uc] 31, ow 81 2 encC okC (.slice sa sn sc) M.store, ow 9 1 encS okS (.slice ra rn rc) M.touch.reads, ow 9 1 encS okS (.slice ua un uc) M.touch.writes] wZ ∧ (k ≤ (keysUnder m.store pfx).length) ∧ (M = (wipeL (lookM m (pfx ++ (⟨#[42]⟩ : ByteArray))) ((keysUnder m.store pfx).take k)))) (fun (k : Nat) => (keysUnder m.store pfx).length - k) (0) ?_ ?_
 · exact ⟨lookM m (pfx ++ (⟨#[42]⟩ : ByteArray)), qm_store_a_3, qm_store_n_3, qm_store_c_3, qm_touch_reads_a_3, qm_touch_reads_n_3, qm_touch_reads_c_3, qm_touch_writes_a_3, qm_touch_writes_n_3, qm_touch_writes_c_3, F7.cut rfl, (Mv.refl S3.at'), by omega, rfl⟩
 · rintro k a8 w8 ⟨M, sa, sn, sc, ra, rn, rc, ua, un, uc, F8, S8, hk_0, hk_1⟩
   have wb := wipeL_bd (lookM m (pfx ++ (⟨#[42]⟩ : ByteArray))) ((keysUnder m.store pfx).take k)
   have kl := keysUnder_length m.store pfx
   have pl := putL_length m.touch.reads (pfx ++ (⟨#[42]⟩ : ByteArray))
   rw [List.length_take, ← hk_1] at wb
   simp only [lookM] at wb
   refine wp_seq (wp_region_lit (l_op (f_val F8 rfl rfl (r_cmp (b := decide (k < r0_n_3)) (.inr (.inr (.inl rfl))) rfl (F8.ev 10 rfl) (F8.ev 9 rfl) (dec_of (by omega))) rfl fun _ F9 => ?_)))
   have F10 : Fr 18 [(11, .bool (decide (k < r0_n_3))), (10, .int .i64 ((k : Nat) : Int)), (9, .int .i64 ((r0_n_3 : Nat) : Int)), (8, .slice r0_a_3 r0_n_3 r0_c_3), (0, .pointer (some ⟨m_b, 0, none⟩))] _ := F9.cut rfl
   clear F8 F9
   refine s_end (x_normal (wp_seq (x_cond (p := k < r0_n_3) (F10.ev 11 rfl) (fun h11 => ?_) (fun h11 => ?_))))
   · skip
     refine wp_skip (x_normal (wp_seq (wp_block (wp_seq (wp_region_lit ?_)))))
     obtain ⟨B12, O12, x1, ad12, hx1, okx1, ln12, cl12⟩ := Rd.at (At.rd S8.at' ET_27.hk 0 rfl) k (by first | assumption | omega)
     clear ln12
     refine l_op (f_val F10 rfl rfl (r_indexAddr (i := k) ET_27 rfl ((F10.ev 8 rfl).trans (by rw [ad12])) (F10.ev 10 rfl) (by omega) (by first | assumption | omega)) rfl fun _ F13 => ?_)
     refine l_op (f_val (v := .string x1) F13 rfl rfl (r_load (cs := [.string x1]) TI_9 rfl (F13.ev 12 rfl) rfl (fun _ => rfl) (elem_sub (f := 0) cl12 [.string x1] rfl)) rfl fun _ F14 => ?_)
     refine l_op (f_as F14 rfl rfl rfl rfl rfl fun _ F15 => ?_)
     have F16 : Fr 18 [(5, .string x1), (10, .int .i64 ((k : Nat) : Int)), (9, .int .i64 ((r0_n_3 : Nat) : Int)), (8, .slice r0_a_3 r0_n_3 r0_c_3), (0, .pointer (some ⟨m_b, 0, none⟩))] _ := F15.cut rfl
     clear F10 F13 F14 F15
     refine s_end (x_normal (wp_region_lit (l_op (f_mv F16 rfl rfl rfl rfl rfl fun _ F17 => ?_))))
     refine l_op (f_mv F17 rfl rfl rfl rfl rfl fun _ F18 => ?_)
     refine l_op (f_call F18 CF_96 rfl rfl rfl rfl (lc (F18.ev 14 rfl) (lc (F18.ev 15 rfl) (lc rfl rfl))) (impl_Mach_lay_c (H := fun _ => True) (m := M) (key := x1) (val := (⟨#[]⟩ : ByteArray)) okx1 (by unfold okS; decide) (by first | assumption | omega | (simp <;> omega)) (by first | assumption | omega | (simp <;> omega)) (At.pick (is := [1, 2, 3, 4]) S8.at' rfl)) ?_)
     rintro _ w19 ⟨qm_store_a_19, qm_store_n_19, qm_store_c_19, qm_touch_reads_a_19, qm_touch_reads_n_19, qm_touch_reads_c_19, qm_touch_writes_a_19, qm_touch_writes_n_19, qm_touch_writes_c_19, rfl, m19⟩
     refine ⟨_, rfl, fun _ F20 => ?_⟩
     have S19 : Mv _ _ [bx m_b [.slice qm_store_a_19 qm_store_n_19 qm_store_c_19, .slice qm_touch_reads_a_19 qm_touch_reads_n_19 qm_touch_reads_c_19, .slice qm_touch_writes_a_19 qm_touch_writes_n_19 qm_touch_writes_c_19] 31, ow 81 2 encC okC (.slice qm_store_a_19 qm_store_n_19 qm_store_c_19) (layM M x1 (⟨#[]⟩ : ByteArray)).store, ow 9 1 encS okS (.slice qm_touch_reads_a_19 qm_touch_reads_n_19 qm_touch_reads_c_19) (layM M x1 (⟨#[]⟩ : ByteArray)).touch.reads, ow 9 1 encS okS (.slice qm_touch_writes_a_19 qm_touch_writes_n_19 qm_touch_writes_c_19) (layM M x1 (⟨#[]⟩ : ByteArray)).touch.writes, ow 9 1 encS okS (.slice r0_a_3 r0_n_3 r0_c_3) (keysUnder m.store pfx)] _ := At.frame S8.at' [1, 2, 3, 4] rfl m19
     obtain ⟨lo19_1, lp19_1, lq19_1⟩ := At.ownInv S19.at' ET_26.hk 1 rfl
     obtain ⟨lo19_2, lp19_2, lq19_2⟩ := At.ownInv S19.at' ET_27.hk 2 rfl
     obtain ⟨lo19_3, lp19_3, lq19_3⟩ := At.ownInv S19.at' ET_27.hk 3 rfl
     clear m19
     have F21 : Fr 18 [(16, .tuple #[]), (10, .int .i64 ((k : Nat) : Int)), (9, .int .i64 ((r0_n_3 : Nat) : Int)), (8, .slice r0_a_3 r0_n_3 r0_c_3), (0, .pointer (some ⟨m_b, 0, none⟩))] _ := F20.cut rfl
     clear F16 F17 F18 F20
     refine s_end (x_block_normal (x_normal (wp_region_lit (l_op (f_val F21 rfl rfl (r_add (z := ((k + 1 : Nat) : Int)) rfl (F21.ev 10 rfl) rfl (by first | rfl | omega) ⟨by first | omega | (unfold i64ok at *; omega), by first | omega | (unfold i64ok at *; omega)⟩) rfl fun _ F22 => ?_)))))
     refine l_op (f_mv F22 rfl rfl rfl rfl rfl fun _ F23 => ?_)
     have F24 : Fr 18 [(10, .int .i64 ((k + 1 : Nat) : Int)), (9, .int .i64 ((r0_n_3 : Nat) : Int)), (8, .slice r0_a_3 r0_n_3 r0_c_3), (0, .pointer (some ⟨m_b, 0, none⟩))] _ := F23.cut rfl
     clear F21 F22 F23
     refine s_end ?_
     refine x_normal ⟨k + 1, by omega, (layM M x1 (⟨#[]⟩ : ByteArray)), qm_store_a_19, qm_store_n_19, qm_store_c_19, qm_touch_reads_a_19, qm_touch_reads_n_19, qm_touch_reads_c_19, qm_touch_writes_a_19, qm_touch_writes_n_19, qm_touch_writes_c_19, F24.cut rfl, ((S8.trans S19).pick [4, 0, 1, 2, 3] rfl), by omega, by rw [wipeL_step hx1, ← hk_1]⟩
   · skip
     refine wp_exit (x_then_exit (x_then_exit (x_block_here ?_)))
     refine x_done_end (v := .tuple #[]) F10 (results_0 Tryd.results112) ?_
     exact ⟨sa, sn, sc, ra, rn, rc, ua, un, uc, rfl, (Mv.cast (Mv.pick (S3.trans S8) [1, 2, 3, 4] rfl) (by rw [(show M.store = (wipeM m pfx).store from by subst hk_1; unfold wipeM; rw [List.take_of_length_le (by omega)]), (show M.touch.reads = (wipeM m pfx).touch.reads from by subst hk_1; unfold wipeM; rw [List.take_of_length_le (by omega)]), (show M.touch.writes = (wipeM m pfx).touch.writes from by subst hk_1; unfold wipeM; rw [List.take_of_length_le (by omega)])]; all_goals rfl))⟩
end Go.Proofs.YtjiplnaceiofmaaDoor
