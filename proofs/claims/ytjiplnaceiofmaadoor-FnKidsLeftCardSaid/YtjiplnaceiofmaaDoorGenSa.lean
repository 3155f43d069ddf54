/-
  Walks: counters.
-/
import Derived.Test.YtjiplnaceiofmaaDoorGenRa
import Derived.Test.YtjiplnaceiofmaaDoorDatV
namespace Go.Proofs.YtjiplnaceiofmaaDoor
open Go.ChangeShapes Go.WideShapes Go.ChangeAt Go.RowKit
set_option maxRecDepth 100000
set_option maxHeartbeats 1000000
theorem impl_Mach_bump_c {w : World} {H : Nat → Prop} {m : MachD} {m_store_a : Option Addr} {m_store_n m_store_c : Nat} {m_touch_reads_a : Option Addr} {m_touch_reads_n m_touch_reads_c : Nat} {m_touch_writes_a : Option Addr} {m_touch_writes_n m_touch_writes_c : Nat} {m_b : Nat} {key : ByteArray} (h_key : okS key) (tab0 : Tb 0 H w) (tab1 : Tb 1 H w) (p0 : bdC 34359738368 m) (hA : At w [bx m_b [.slice m_store_a m_store_n m_store_c, .slice m_touch_reads_a m_touch_reads_n m_touch_reads_c, .slice m_touch_writes_a m_touch_writes_n m_touch_writes_c] 31, ow 81 2 encC okC (.slice m_store_a m_store_n m_store_c) m.store, ow 9 1 encS okS (.slice m_touch_reads_a m_touch_reads_n m_touch_reads_c) m.touch.reads, ow 9 1 encS okS (.slice m_touch_writes_a m_touch_writes_n m_touch_writes_c) m.touch.writes]) (hD : ∀ b, H b → ¬ fps [bx m_b [.slice m_store_a m_store_n m_store_c, .slice m_touch_reads_a m_touch_reads_n m_touch_reads_c, .slice m_touch_writes_a m_touch_writes_n m_touch_writes_c] 31, ow 81 2 encC okC (.slice m_store_a m_store_n m_store_c) m.store, ow 9 1 encS okS (.slice m_touch_reads_a m_touch_reads_n m_touch_reads_c) m.touch.reads, ow 9 1 encS okS (.slice m_touch_writes_a m_touch_writes_n m_touch_writes_c) m.touch.writes] b) :
    Calls Tryd.prog 58 #[.pointer (some ⟨m_b, 0, none⟩), .string key] w fun e w' => ∃ (q_m_store_a : Option Addr), ∃ (q_m_store_n : Nat), ∃ (q_m_store_c : Nat), ∃ (q_m_touch_reads_a : Option Addr), ∃ (q_m_touch_reads_n : Nat), ∃ (q_m_touch_reads_c : Nat), ∃ (q_m_touch_writes_a : Option Addr), ∃ (q_m_touch_writes_n : Nat), ∃ (q_m_touch_writes_c : Nat), e = .returned (.int .i64 ((bumpN m key : Nat) : Int)) ∧ Mv [bx m_b [.slice m_store_a m_store_n m_store_c, .slice m_touch_reads_a m_touch_reads_n m_touch_reads_c, .slice m_touch_writes_a m_touch_writes_n m_touch_writes_c] 31, ow 81 2 encC okC (.slice m_store_a m_store_n m_store_c) m.store, ow 9 1 encS okS (.slice m_touch_reads_a m_touch_reads_n m_touch_reads_c) m.touch.reads, ow 9 1 encS okS (.slice m_touch_writes_a m_touch_writes_n m_touch_writes_c) m.touch.writes] w [bx m_b [.slice q_m_store_a q_m_store_n q_m_store_c, .slice q_m_touch_reads_a q_m_touch_reads_n q_m_touch_reads_c, .slice q_m_touch_writes_a q_m_touch_writes_n q_m_touch_writes_c] 31, ow 81 2 encC okC (.slice q_m_store_a q_m_store_n q_m_store_c) (bumpM m key).store, ow 9 1 encS okS (.slice q_m_touch_reads_a q_m_touch_reads_n q_m_touch_reads_c) (bumpM m key).touch.reads, ow 9 1 encS okS (.slice q_m_touch_writes_a q_m_touch_writes_n q_m_touch_writes_c) (bumpM m key).touch.writes] w' := by
 have uU : True := (fun _ => trivial) p0
 clear uU
 have hnl := numOf_le (getKey m.store key)
 have V_tab0 : Tb 0 (V H w [bx m_b [.slice m_store_a m_store_n m_store_c, .slice m_touch_reads_a m_touch_reads_n m_touch_reads_c, .slice m_touch_writes_a m_touch_writes_n m_touch_writes_c] 31, ow 81 2 encC okC (.slice m_store_a m_store_n m_store_c) m.store, ow 9 1 encS okS (.slice m_touch_reads_a m_touch_reads_n m_touch_reads_c) m.touch.reads, ow 9 1 encS okS (.slice m_touch_writes_a m_touch_writes_n m_touch_writes_c) m.touch.writes]) w := Tb.start tab0 hD
 have V_tab1 : Tb 1 (V H w [bx m_b [.slice m_store_a m_store_n m_store_c, .slice m_touch_reads_a m_touch_reads_n m_touch_reads_c, .slice m_touch_writes_a m_touch_writes_n m_touch_writes_c] 31, ow 81 2 encC okC (.slice m_store_a m_store_n m_store_c) m.store, ow 9 1 encS okS (.slice m_touch_reads_a m_touch_reads_n m_touch_reads_c) m.touch.reads, ow 9 1 encS okS (.slice m_touch_writes_a m_touch_writes_n m_touch_writes_c) m.touch.writes]) w := Tb.start tab1 hD
 obtain ⟨lo1, lp1, lq1⟩ := At.ownInv hA ET_26.hk 1 rfl
 obtain ⟨lo2, lp2, lq2⟩ := At.ownInv hA ET_27.hk 2 rfl
 obtain ⟨lo3, lp3, lq3⟩ := At.ownInv hA ET_27.hk 3 rfl
 refine calls_enter 17 Tryd.func58 rfl Tryd.ntmps58 (Nat.le_of_ble_eq_true rfl) (fun _ F0i => ?_)
 have F0 : Fr 17 [(0, .pointer (some ⟨m_b, 0, none⟩)), (1, .string key)] _ := F0i
 clear F0i
 refine wp_seq (wp_region_lit (l_op (f_val F0 rfl rfl (r_assign rfl rfl) rfl fun _ F1 => ?_)))
 have F2 : Fr 17 [(4, .int .i64 0), (0, .pointer (some ⟨m_b, 0, none⟩)), (1, .string key)] _ := F1.cut rfl
 clear F0 F1
 refine s_end (x_normal (wp_seq (wp_region_lit (l_op (f_mv F2 rfl rfl rfl rfl rfl fun _ F3 => ?_)))))
 refine l_op (f_mv F3 rfl rfl rfl rfl rfl fun _ F4 => ?_)
 refine l_op (f_call F4 CF_57 rfl rfl rfl rfl (lc (F4.ev 6 rfl) (lc (F4.ev 7 rfl) rfl)) (impl_Mach_num_c (m := m) (key := key) h_key V_tab0 V_tab1 (by first | assumption | omega | (refine bdC.s ?_; (repeat (first | with_reducible refine bdC.look ?_ | with_reducible refine bdC.lay ?_ | with_reducible refine bdC.set ?_ | with_reducible refine bdC.bump ?_)); exact bdC.le (by assumption) (by first | decide | omega)) | (refine bdC.r ?_; (repeat (first | with_reducible refine bdC.look ?_ | with_reducible refine bdC.lay ?_ | with_reducible refine bdC.set ?_ | with_reducible refine bdC.bump ?_)); exact bdC.le (by assumption) (by first | decide | omega)) | (refine bdC.w ?_; (repeat (first | with_reducible refine bdC.look ?_ | with_reducible refine bdC.lay ?_ | with_reducible refine bdC.set ?_ | with_reducible refine bdC.bump ?_)); exact bdC.le (by assumption) (by first | decide | omega)) | ((repeat (first | with_reducible refine bdC.look ?_ | with_reducible refine bdC.lay ?_ | with_reducible refine bdC.set ?_ | with_reducible refine bdC.bump ?_)); exact bdC.le (by assumption) (by first | decide | omega)) | decide | exact Nat.le_trans (keyNum_size _ _ (by assumption)) (by decide) | exact Nat.le_trans (keyNum_size _ _ ⟨by omega, by omega⟩) (by decide)) (At.pick (is := [0, 1, 2, 3]) hA rfl) (V_off (is := [0, 1, 2, 3]))) ?_)
 rintro _ w5 ⟨qm_store_a_5, qm_store_n_5, qm_store_c_5, qm_touch_reads_a_5, qm_touch_reads_n_5, qm_touch_reads_c_5, qm_touch_writes_a_5, qm_touch_writes_n_5, qm_touch_writes_c_5, rfl, m5⟩
 refine ⟨_, rfl, fun _ F6 => ?_⟩
 have S5 : Mv _ _ [bx m_b [.slice qm_store_a_5 qm_store_n_5 qm_store_c_5, .slice qm_touch_reads_a_5 qm_touch_reads_n_5 qm_touch_reads_c_5, .slice qm_touch_writes_a_5 qm_touch_writes_n_5 qm_touch_writes_c_5] 31, ow 81 2 encC okC (.slice qm_store_a_5 qm_store_n_5 qm_store_c_5) (lookM m key).store, ow 9 1 encS okS (.slice qm_touch_reads_a_5 qm_touch_reads_n_5 qm_touch_reads_c_5) (lookM m key).touch.reads, ow 9 1 encS okS (.slice qm_touch_writes_a_5 qm_touch_writes_n_5 qm_touch_writes_c_5) (lookM m key).touch.writes] _ := At.frame hA [0, 1, 2, 3] rfl m5
 obtain ⟨lo5_1, lp5_1, lq5_1⟩ := At.ownInv S5.at' ET_26.hk 1 rfl
 obtain ⟨lo5_2, lp5_2, lq5_2⟩ := At.ownInv S5.at' ET_27.hk 2 rfl
 obtain ⟨lo5_3, lp5_3, lq5_3⟩ := At.ownInv S5.at' ET_27.hk 3 rfl
 clear m5
 refine l_op (f_val F6 rfl rfl (r_add (z := (((numOf (getKey m.store key)) + 1 : Nat) : Int)) rfl (F6.ev 8 rfl) rfl (by first | rfl | omega) ⟨by first | omega | (unfold i64ok at *; omega), by first | omega | (unfold i64ok at *; omega)⟩) rfl fun _ F7 => ?_)
 refine l_op (f_as F7 rfl rfl rfl rfl rfl fun _ F8 => ?_)
 have F9 : Fr 17 [(5, .int .i64 (((numOf (getKey m.store key)) + 1 : Nat) : Int)), (0, .pointer (some ⟨m_b, 0, none⟩)), (1, .string key)] _ := F8.cut rfl
 clear F2 F3 F4 F6 F7 F8
 refine s_end (x_normal (wp_seq (wp_seq (wp_region_lit (l_op (f_mv F9 rfl rfl rfl rfl rfl fun _ F10 => ?_))))))
 refine l_op (f_val F10 rfl rfl (r_cmp (b := decide ((numOf (getKey m.store key)) + 1 > 999)) (.inr (.inr (.inr (.inr (.inl rfl))))) rfl (F10.ev 10 rfl) rfl (dec_of (by omega))) rfl fun _ F11 => ?_)
 have F12 : Fr 17 [(11, .bool (decide ((numOf (getKey m.store key)) + 1 > 999))), (5, .int .i64 (((numOf (getKey m.store key)) + 1 : Nat) : Int)), (0, .pointer (some ⟨m_b, 0, none⟩)), (1, .string key)] _ := F11.cut rfl
 clear F9 F10 F11
 refine s_end (x_normal (x_cond (p := (numOf (getKey m.store key)) + 1 > 999) (F12.ev 11 rfl) (fun h13 => ?_) (fun h13 => ?_)))
 · skip
   refine wp_seq (wp_region_lit (l_op (f_val F12 rfl rfl (r_assign rfl rfl) rfl fun _ F14 => ?_)))
   have F15 : Fr 17 [(4, .int .i64 0)] _ := F14.cut rfl
   clear F12 F14
   refine s_end (x_normal (wp_ret (x_then_ret ?_)))
   refine x_done (v := .int .i64 0) F15 (results_1 Tryd.results58 (.tmp (F15.ev 4 rfl))) ?_
   exact ⟨qm_store_a_5, qm_store_n_5, qm_store_c_5, qm_touch_reads_a_5, qm_touch_reads_n_5, qm_touch_reads_c_5, qm_touch_writes_a_5, qm_touch_writes_n_5, qm_touch_writes_c_5, (by rw [(show 0 = ((bumpN m key : Nat) : Int) from by first | exact bumpN_t (by assumption) | exact bumpN_f (by assumption) | rw [bumpM_t (by assumption)] | rw [bumpM_f (by assumption)])]), (Mv.cast (Mv.pick S5 [0, 1, 2, 3] rfl) (by rw [(show (lookM m key).store = (bumpM m key).store from by first | exact bumpN_t (by assumption) | exact bumpN_f (by assumption) | rw [bumpM_t (by assumption)] | rw [bumpM_f (by assumption)]), (show (lookM m key).touch.reads = (bumpM m key).touch.reads from by first | exact bumpN_t (by assumption) | exact bumpN_f (by assumption) | rw [bumpM_t (by assumption)] | rw [bumpM_f (by assumption)]), (show (lookM m key).touch.writes = (bumpM m key).touch.writes from by first | exact bumpN_t (by assumption) | exact bumpN_f (by assumption) | rw [bumpM_t (by assumption)] | rw [bumpM_f (by assumption)])]; all_goals rfl))⟩
 · skip
   refine wp_skip (x_normal (wp_seq (wp_region_lit (l_op (f_mv F12 rfl rfl rfl rfl rfl fun _ F16 => ?_)))))
   refine l_op (f_mv F16 rfl rfl rfl rfl rfl fun _ F17 => ?_)
   refine l_op (f_mv F17 rfl rfl rfl rfl rfl fun _ F18 => ?_)
   refine l_op (f_call F18 CF_56 rfl rfl rfl rfl (lc (F18.ev 12 rfl) (lc (F18.ev 13 rfl) (lc (F18.ev 14 rfl) rfl))) (impl_Mach_setNum_c (m := (lookM m key)) (key := key) (n := (((numOf (getKey m.store key)) + 1 : Nat) : Int)) h_key (by first | assumption | exact ⟨by omega, by omega⟩ | (unfold i64ok at *; omega)) (Tb.mv V_tab0 S5) (by first | assumption | omega | (refine bdC.s ?_; (repeat (first | with_reducible refine bdC.look ?_ | with_reducible refine bdC.lay ?_ | with_reducible refine bdC.set ?_ | with_reducible refine bdC.bump ?_)); exact bdC.le (by assumption) (by first | decide | omega)) | (refine bdC.r ?_; (repeat (first | with_reducible refine bdC.look ?_ | with_reducible refine bdC.lay ?_ | with_reducible refine bdC.set ?_ | with_reducible refine bdC.bump ?_)); exact bdC.le (by assumption) (by first | decide | omega)) | (refine bdC.w ?_; (repeat (first | with_reducible refine bdC.look ?_ | with_reducible refine bdC.lay ?_ | with_reducible refine bdC.set ?_ | with_reducible refine bdC.bump ?_)); exact bdC.le (by assumption) (by first | decide | omega)) | ((repeat (first | with_reducible refine bdC.look ?_ | with_reducible refine bdC.lay ?_ | with_reducible refine bdC.set ?_ | with_reducible refine bdC.bump ?_)); exact bdC.le (by assumption) (by first | decide | omega)) | decide | exact Nat.le_trans (keyNum_size _ _ (by assumption)) (by decide) | exact Nat.le_trans (keyNum_size _ _ ⟨by omega, by omega⟩) (by decide)) (At.pick (is := [0, 1, 2, 3]) S5.at' rfl) (V_off (is := [0, 1, 2, 3]))) ?_)
   rintro _ w19 ⟨qm_store_a_19, qm_store_n_19, qm_store_c_19, qm_touch_reads_a_19, qm_touch_reads_n_19, qm_touch_reads_c_19, qm_touch_writes_a_19, qm_touch_writes_n_19, qm_touch_writes_c_19, rfl, m19⟩
   refine ⟨_, rfl, fun _ F20 => ?_⟩
   have S19 : Mv _ _ [bx m_b [.slice qm_store_a_19 qm_store_n_19 qm_store_c_19, .slice qm_touch_reads_a_19 qm_touch_reads_n_19 qm_touch_reads_c_19, .slice qm_touch_writes_a_19 qm_touch_writes_n_19 qm_touch_writes_c_19] 31, ow 81 2 encC okC (.slice qm_store_a_19 qm_store_n_19 qm_store_c_19) (setM (lookM m key) key (((numOf (getKey m.store key)) + 1 : Nat) : Int)).store, ow 9 1 encS okS (.slice qm_touch_reads_a_19 qm_touch_reads_n_19 qm_touch_reads_c_19) (setM (lookM m key) key (((numOf (getKey m.store key)) + 1 : Nat) : Int)).touch.reads, ow 9 1 encS okS (.slice qm_touch_writes_a_19 qm_touch_writes_n_19 qm_touch_writes_c_19) (setM (lookM m key) key (((numOf (getKey m.store key)) + 1 : Nat) : Int)).touch.writes] _ := At.frame S5.at' [0, 1, 2, 3] rfl m19
   obtain ⟨lo19_1, lp19_1, lq19_1⟩ := At.ownInv S19.at' ET_26.hk 1 rfl
   obtain ⟨lo19_2, lp19_2, lq19_2⟩ := At.ownInv S19.at' ET_27.hk 2 rfl
   obtain ⟨lo19_3, lp19_3, lq19_3⟩ := At.ownInv S19.at' ET_27.hk 3 rfl
   clear m19
   have F21 : Fr 17 [(15, .tuple #[]), (5, .int .i64 (((numOf (getKey m.store key)) + 1 : Nat) : Int))] _ := F20.cut rfl
   clear F12 F16 F17 F18 F20
   refine s_end (x_normal (wp_seq (wp_region_lit (l_op (f_mv F21 rfl rfl rfl rfl rfl fun _ F22 => ?_)))))
   refine l_op (f_as F22 rfl rfl rfl rfl rfl fun _ F23 => ?_)
   have F24 : Fr 17 [(4, .int .i64 (((numOf (getKey m.store key)) + 1 : Nat) : Int))] _ := F23.cut rfl
   clear F21 F22 F23
   refine s_end (x_normal (wp_ret ?_))
   refine x_done (v := .int .i64 (((numOf (getKey m.store key)) + 1 : Nat) : Int)) F24 (results_1 Tryd.results58 (.tmp (F24.ev 4 rfl))) ?_
   exact ⟨qm_store_a_19, qm_store_n_19, qm_store_c_19, qm_touch_reads_a_19, qm_touch_reads_n_19, qm_touch_reads_c_19, qm_touch_writes_a_19, qm_touch_writes_n_19, qm_touch_writes_c_19, (by rw [(show (((numOf (getKey m.store key)) + 1 : Nat) : Int) = ((bumpN m key : Nat) : Int) from by first | exact bumpN_t (by assumption) | exact bumpN_f (by assumption) | rw [bumpM_t (by assumption)] | rw [bumpM_f (by assumption)])]), (Mv.cast (Mv.pick (S5.trans S19) [0, 1, 2, 3] rfl) (by rw [(show (setM (lookM m key) key (((numOf (getKey m.store key)) + 1 : Nat) : Int)).store = (bumpM m key).store from by first | exact bumpN_t (by assumption) | exact bumpN_f (by assumption) | rw [bumpM_t (by assumption)] | rw [bumpM_f (by assumption)]), (show (setM (lookM m key) key (((numOf (getKey m.store key)) + 1 : Nat) : Int)).touch.reads = (bumpM m key).touch.reads from by first | exact bumpN_t (by assumption) | exact bumpN_f (by assumption) | rw [bumpM_t (by assumption)] | rw [bumpM_f (by assumption)]), (show (setM (lookM m key) key (((numOf (getKey m.store key)) + 1 : Nat) : Int)).touch.writes = (bumpM m key).touch.writes from by first | exact bumpN_t (by assumption) | exact bumpN_f (by assumption) | rw [bumpM_t (by assumption)] | rw [bumpM_f (by assumption)])]; all_goals rfl))⟩
end Go.Proofs.YtjiplnaceiofmaaDoor
