/-
  Walks: a number is set.
-/
import Derived.Test.YtibgmijfnbnfkaaDoorGenNa
namespace Go.Proofs.YtibgmijfnbnfkaaDoor
open Go.ChangeShapes Go.WideShapes Go.ChangeAt Go.RowKit
set_option maxRecDepth 100000
set_option maxHeartbeats 1000000
theorem impl_Mach_setNum_c {w : World} {H : Nat → Prop} {m : MachD} {m_store_a : Option Addr} {m_store_n m_store_c : Nat} {m_touch_reads_a : Option Addr} {m_touch_reads_n m_touch_reads_c : Nat} {m_touch_writes_a : Option Addr} {m_touch_writes_n m_touch_writes_c : Nat} {m_b : Nat} {key : ByteArray} {n : Int} (h_key : okS key) (h_n : i64ok n) (tab0 : Tb 0 H w) (p0 : bdC 137438953472 m) (hA : At w [bx m_b [.slice m_store_a m_store_n m_store_c, .slice m_touch_reads_a m_touch_reads_n m_touch_reads_c, .slice m_touch_writes_a m_touch_writes_n m_touch_writes_c] 31, ow 53 2 encC okC (.slice m_store_a m_store_n m_store_c) m.store, ow 9 1 encS okS (.slice m_touch_reads_a m_touch_reads_n m_touch_reads_c) m.touch.reads, ow 9 1 encS okS (.slice m_touch_writes_a m_touch_writes_n m_touch_writes_c) m.touch.writes]) (hD : ∀ b, H b → ¬ fps [bx m_b [.slice m_store_a m_store_n m_store_c, .slice m_touch_reads_a m_touch_reads_n m_touch_reads_c, .slice m_touch_writes_a m_touch_writes_n m_touch_writes_c] 31, ow 53 2 encC okC (.slice m_store_a m_store_n m_store_c) m.store, ow 9 1 encS okS (.slice m_touch_reads_a m_touch_reads_n m_touch_reads_c) m.touch.reads, ow 9 1 encS okS (.slice m_touch_writes_a m_touch_writes_n m_touch_writes_c) m.touch.writes] b) :
    Calls Tryd.prog 38 #[.pointer (some ⟨m_b, 0, none⟩), .string key, .int .i64 n] w fun e w' => ∃ (q_m_store_a : Option Addr), ∃ (q_m_store_n : Nat), ∃ (q_m_store_c : Nat), ∃ (q_m_touch_reads_a : Option Addr), ∃ (q_m_touch_reads_n : Nat), ∃ (q_m_touch_reads_c : Nat), ∃ (q_m_touch_writes_a : Option Addr), ∃ (q_m_touch_writes_n : Nat), ∃ (q_m_touch_writes_c : Nat), e = .returned (.tuple #[]) ∧ Mv [bx m_b [.slice m_store_a m_store_n m_store_c, .slice m_touch_reads_a m_touch_reads_n m_touch_reads_c, .slice m_touch_writes_a m_touch_writes_n m_touch_writes_c] 31, ow 53 2 encC okC (.slice m_store_a m_store_n m_store_c) m.store, ow 9 1 encS okS (.slice m_touch_reads_a m_touch_reads_n m_touch_reads_c) m.touch.reads, ow 9 1 encS okS (.slice m_touch_writes_a m_touch_writes_n m_touch_writes_c) m.touch.writes] w [bx m_b [.slice q_m_store_a q_m_store_n q_m_store_c, .slice q_m_touch_reads_a q_m_touch_reads_n q_m_touch_reads_c, .slice q_m_touch_writes_a q_m_touch_writes_n q_m_touch_writes_c] 31, ow 53 2 encC okC (.slice q_m_store_a q_m_store_n q_m_store_c) (setM m key n).store, ow 9 1 encS okS (.slice q_m_touch_reads_a q_m_touch_reads_n q_m_touch_reads_c) (setM m key n).touch.reads, ow 9 1 encS okS (.slice q_m_touch_writes_a q_m_touch_writes_n q_m_touch_writes_c) (setM m key n).touch.writes] w' := by
 have uU : True := (fun _ => trivial) p0
 clear uU
 have V_tab0 : Tb 0 (V H w [bx m_b [.slice m_store_a m_store_n m_store_c, .slice m_touch_reads_a m_touch_reads_n m_touch_reads_c, .slice m_touch_writes_a m_touch_writes_n m_touch_writes_c] 31, ow 53 2 encC okC (.slice m_store_a m_store_n m_store_c) m.store, ow 9 1 encS okS (.slice m_touch_reads_a m_touch_reads_n m_touch_reads_c) m.touch.reads, ow 9 1 encS okS (.slice m_touch_writes_a m_touch_writes_n m_touch_writes_c) m.touch.writes]) w := Tb.start tab0 hD
 obtain ⟨lo1, lp1, lq1⟩ := At.ownInv hA ET_26.hk 1 rfl
 obtain ⟨lo2, lp2, lq2⟩ := At.ownInv hA ET_27.hk 2 rfl
 obtain ⟨lo3, lp3, lq3⟩ := At.ownInv hA ET_27.hk 3 rfl
 refine calls_enter 15 Tryd.func38 rfl Tryd.ntmps38 (Nat.le_of_ble_eq_true rfl) (fun _ F0i => ?_)
 have F0 : Fr 15 [(0, .pointer (some ⟨m_b, 0, none⟩)), (1, .string key), (2, .int .i64 n)] _ := F0i
 clear F0i
 refine wp_seq (wp_region_lit (l_op (f_val F0 rfl rfl (r_assign rfl rfl) rfl fun _ F1 => ?_)))
 have F2 : Fr 15 [(6, .string (⟨#[]⟩ : ByteArray)), (0, .pointer (some ⟨m_b, 0, none⟩)), (1, .string key), (2, .int .i64 n)] _ := F1.cut rfl
 clear F0 F1
 refine s_end (x_normal (wp_seq (wp_seq (wp_region_lit (l_op (f_mv F2 rfl rfl rfl rfl rfl fun _ F3 => ?_))))))
 refine l_op (f_call F3 CF_34 rfl rfl rfl rfl (lc (F3.ev 7 rfl) (lc rfl (lc rfl rfl))) (impl_within_c (H := fun _ => True) (n := n) (low := 1) (high := 999) h_n (by first | assumption | exact ⟨by omega, by omega⟩ | (unfold i64ok at *; omega)) (by first | assumption | exact ⟨by omega, by omega⟩ | (unfold i64ok at *; omega))) ?_)
 rintro _ w4 ⟨rfl, m4⟩
 refine ⟨_, rfl, fun _ F5 => ?_⟩
 have S4 := At.frame0 hA m4
 clear m4
 have F6 : Fr 15 [(8, .bool (inB n 1 999)), (6, .string (⟨#[]⟩ : ByteArray)), (0, .pointer (some ⟨m_b, 0, none⟩)), (1, .string key), (2, .int .i64 n)] _ := F5.cut rfl
 clear F2 F3 F5
 have T7 : Mv _ _ [bx m_b [.slice m_store_a m_store_n m_store_c, .slice m_touch_reads_a m_touch_reads_n m_touch_reads_c, .slice m_touch_writes_a m_touch_writes_n m_touch_writes_c] 31, ow 53 2 encC okC (.slice m_store_a m_store_n m_store_c) m.store, ow 9 1 encS okS (.slice m_touch_reads_a m_touch_reads_n m_touch_reads_c) m.touch.reads, ow 9 1 encS okS (.slice m_touch_writes_a m_touch_writes_n m_touch_writes_c) m.touch.writes] _ := S4
 refine s_end (x_normal (x_condb (b := (inB n 1 999)) (F6.ev 8 rfl) (fun h8 => ?_) (fun h8 => ?_)))
 · skip
   refine wp_region_lit (l_op (f_mv F6 rfl rfl rfl rfl rfl fun _ F9 => ?_))
   refine l_op (f_call F9 CF_16 rfl rfl rfl rfl (lc (F9.ev 9 rfl) rfl) (impl_Decimal_c (n := n) h_n (Tb.mv V_tab0 T7)) ?_)
   rintro _ w10 ⟨rfl, m10, ok_r0_10⟩
   refine ⟨_, rfl, fun _ F11 => ?_⟩
   have S10 := At.frame0 T7.at' m10
   clear m10
   refine l_op (f_as F11 rfl rfl rfl rfl rfl fun _ F12 => ?_)
   have F13 : Fr 15 [(6, .string (decS n)), (0, .pointer (some ⟨m_b, 0, none⟩)), (1, .string key)] _ := F12.cut rfl
   clear F6 F9 F11 F12
   have T14 : Mv _ _ [bx m_b [.slice m_store_a m_store_n m_store_c, .slice m_touch_reads_a m_touch_reads_n m_touch_reads_c, .slice m_touch_writes_a m_touch_writes_n m_touch_writes_c] 31, ow 53 2 encC okC (.slice m_store_a m_store_n m_store_c) m.store, ow 9 1 encS okS (.slice m_touch_reads_a m_touch_reads_n m_touch_reads_c) m.touch.reads, ow 9 1 encS okS (.slice m_touch_writes_a m_touch_writes_n m_touch_writes_c) m.touch.writes] _ := S10
   refine s_end (x_normal (wp_region_lit (l_op (f_mv F13 rfl rfl rfl rfl rfl fun _ F15 => ?_))))
   refine l_op (f_mv F15 rfl rfl rfl rfl rfl fun _ F16 => ?_)
   refine l_op (f_mv F16 rfl rfl rfl rfl rfl fun _ F17 => ?_)
   refine l_op (f_call F17 CF_35 rfl rfl rfl rfl (lc (F17.ev 11 rfl) (lc (F17.ev 12 rfl) (lc (F17.ev 13 rfl) rfl))) (impl_Mach_lay_c (H := fun _ => True) (m := m) (key := key) (val := decS n) h_key ok_r0_10 (by first | assumption | omega | (refine bdC.s ?_; (repeat (first | refine bdC.look ?_ | refine bdC.lay ?_ | refine bdC.set ?_)); exact bdC.le (by assumption) (by decide)) | (refine bdC.r ?_; (repeat (first | refine bdC.look ?_ | refine bdC.lay ?_ | refine bdC.set ?_)); exact bdC.le (by assumption) (by decide)) | (refine bdC.w ?_; (repeat (first | refine bdC.look ?_ | refine bdC.lay ?_ | refine bdC.set ?_)); exact bdC.le (by assumption) (by decide)) | ((repeat (first | refine bdC.look ?_ | refine bdC.lay ?_ | refine bdC.set ?_)); exact bdC.le (by assumption) (by decide)) | decide | exact Nat.le_trans (keyNum_size _ _ (by assumption)) (by decide)) (by first | assumption | omega | (refine bdC.s ?_; (repeat (first | refine bdC.look ?_ | refine bdC.lay ?_ | refine bdC.set ?_)); exact bdC.le (by assumption) (by decide)) | (refine bdC.r ?_; (repeat (first | refine bdC.look ?_ | refine bdC.lay ?_ | refine bdC.set ?_)); exact bdC.le (by assumption) (by decide)) | (refine bdC.w ?_; (repeat (first | refine bdC.look ?_ | refine bdC.lay ?_ | refine bdC.set ?_)); exact bdC.le (by assumption) (by decide)) | ((repeat (first | refine bdC.look ?_ | refine bdC.lay ?_ | refine bdC.set ?_)); exact bdC.le (by assumption) (by decide)) | decide | exact Nat.le_trans (keyNum_size _ _ (by assumption)) (by decide)) (At.pick (is := [0, 1, 2, 3]) T14.at' rfl)) ?_)
   rintro _ w18 ⟨qm_store_a_18, qm_store_n_18, qm_store_c_18, qm_touch_reads_a_18, qm_touch_reads_n_18, qm_touch_reads_c_18, qm_touch_writes_a_18, qm_touch_writes_n_18, qm_touch_writes_c_18, rfl, m18⟩
   refine ⟨_, rfl, fun _ F19 => ?_⟩
   have S18 : Mv _ _ [bx m_b [.slice qm_store_a_18 qm_store_n_18 qm_store_c_18, .slice qm_touch_reads_a_18 qm_touch_reads_n_18 qm_touch_reads_c_18, .slice qm_touch_writes_a_18 qm_touch_writes_n_18 qm_touch_writes_c_18] 31, ow 53 2 encC okC (.slice qm_store_a_18 qm_store_n_18 qm_store_c_18) (layM m key (decS n)).store, ow 9 1 encS okS (.slice qm_touch_reads_a_18 qm_touch_reads_n_18 qm_touch_reads_c_18) (layM m key (decS n)).touch.reads, ow 9 1 encS okS (.slice qm_touch_writes_a_18 qm_touch_writes_n_18 qm_touch_writes_c_18) (layM m key (decS n)).touch.writes] _ := At.frame T14.at' [0, 1, 2, 3] rfl m18
   obtain ⟨lo18_1, lp18_1, lq18_1⟩ := At.ownInv S18.at' ET_26.hk 1 rfl
   obtain ⟨lo18_2, lp18_2, lq18_2⟩ := At.ownInv S18.at' ET_27.hk 2 rfl
   obtain ⟨lo18_3, lp18_3, lq18_3⟩ := At.ownInv S18.at' ET_27.hk 3 rfl
   clear m18
   have F20 : Fr 15 [(14, .tuple #[])] _ := F19.cut rfl
   clear F13 F15 F16 F17 F19
   refine s_end ?_
   refine x_done_end (v := .tuple #[]) F20 (results_0 Tryd.results38) ?_
   exact ⟨qm_store_a_18, qm_store_n_18, qm_store_c_18, qm_touch_reads_a_18, qm_touch_reads_n_18, qm_touch_reads_c_18, qm_touch_writes_a_18, qm_touch_writes_n_18, qm_touch_writes_c_18, rfl, (Mv.cast (Mv.pick (T7.trans (T14.trans S18)) [0, 1, 2, 3] rfl) (by rw [(show (layM m key (decS n)).store = (setM m key n).store from by unfold setM; first | rw [numV_t (by assumption)] | rw [numV_f (by assumption)]), (show (layM m key (decS n)).touch.reads = (setM m key n).touch.reads from by unfold setM; first | rw [numV_t (by assumption)] | rw [numV_f (by assumption)]), (show (layM m key (decS n)).touch.writes = (setM m key n).touch.writes from by unfold setM; first | rw [numV_t (by assumption)] | rw [numV_f (by assumption)])]; all_goals rfl))⟩
 · skip
   refine wp_skip (x_normal (wp_region_lit (l_op (f_mv F6 rfl rfl rfl rfl rfl fun _ F21 => ?_))))
   refine l_op (f_mv F21 rfl rfl rfl rfl rfl fun _ F22 => ?_)
   refine l_op (f_mv F22 rfl rfl rfl rfl rfl fun _ F23 => ?_)
   refine l_op (f_call F23 CF_35 rfl rfl rfl rfl (lc (F23.ev 11 rfl) (lc (F23.ev 12 rfl) (lc (F23.ev 13 rfl) rfl))) (impl_Mach_lay_c (H := fun _ => True) (m := m) (key := key) (val := (⟨#[]⟩ : ByteArray)) h_key (by unfold okS; decide) (by first | assumption | omega | (refine bdC.s ?_; (repeat (first | refine bdC.look ?_ | refine bdC.lay ?_ | refine bdC.set ?_)); exact bdC.le (by assumption) (by decide)) | (refine bdC.r ?_; (repeat (first | refine bdC.look ?_ | refine bdC.lay ?_ | refine bdC.set ?_)); exact bdC.le (by assumption) (by decide)) | (refine bdC.w ?_; (repeat (first | refine bdC.look ?_ | refine bdC.lay ?_ | refine bdC.set ?_)); exact bdC.le (by assumption) (by decide)) | ((repeat (first | refine bdC.look ?_ | refine bdC.lay ?_ | refine bdC.set ?_)); exact bdC.le (by assumption) (by decide)) | decide | exact Nat.le_trans (keyNum_size _ _ (by assumption)) (by decide)) (by first | assumption | omega | (refine bdC.s ?_; (repeat (first | refine bdC.look ?_ | refine bdC.lay ?_ | refine bdC.set ?_)); exact bdC.le (by assumption) (by decide)) | (refine bdC.r ?_; (repeat (first | refine bdC.look ?_ | refine bdC.lay ?_ | refine bdC.set ?_)); exact bdC.le (by assumption) (by decide)) | (refine bdC.w ?_; (repeat (first | refine bdC.look ?_ | refine bdC.lay ?_ | refine bdC.set ?_)); exact bdC.le (by assumption) (by decide)) | ((repeat (first | refine bdC.look ?_ | refine bdC.lay ?_ | refine bdC.set ?_)); exact bdC.le (by assumption) (by decide)) | decide | exact Nat.le_trans (keyNum_size _ _ (by assumption)) (by decide)) (At.pick (is := [0, 1, 2, 3]) T7.at' rfl)) ?_)
   rintro _ w24 ⟨qm_store_a_24, qm_store_n_24, qm_store_c_24, qm_touch_reads_a_24, qm_touch_reads_n_24, qm_touch_reads_c_24, qm_touch_writes_a_24, qm_touch_writes_n_24, qm_touch_writes_c_24, rfl, m24⟩
   refine ⟨_, rfl, fun _ F25 => ?_⟩
   have S24 : Mv _ _ [bx m_b [.slice qm_store_a_24 qm_store_n_24 qm_store_c_24, .slice qm_touch_reads_a_24 qm_touch_reads_n_24 qm_touch_reads_c_24, .slice qm_touch_writes_a_24 qm_touch_writes_n_24 qm_touch_writes_c_24] 31, ow 53 2 encC okC (.slice qm_store_a_24 qm_store_n_24 qm_store_c_24) (layM m key (⟨#[]⟩ : ByteArray)).store, ow 9 1 encS okS (.slice qm_touch_reads_a_24 qm_touch_reads_n_24 qm_touch_reads_c_24) (layM m key (⟨#[]⟩ : ByteArray)).touch.reads, ow 9 1 encS okS (.slice qm_touch_writes_a_24 qm_touch_writes_n_24 qm_touch_writes_c_24) (layM m key (⟨#[]⟩ : ByteArray)).touch.writes] _ := At.frame T7.at' [0, 1, 2, 3] rfl m24
   obtain ⟨lo24_1, lp24_1, lq24_1⟩ := At.ownInv S24.at' ET_26.hk 1 rfl
   obtain ⟨lo24_2, lp24_2, lq24_2⟩ := At.ownInv S24.at' ET_27.hk 2 rfl
   obtain ⟨lo24_3, lp24_3, lq24_3⟩ := At.ownInv S24.at' ET_27.hk 3 rfl
   clear m24
   have F26 : Fr 15 [(14, .tuple #[])] _ := F25.cut rfl
   clear F6 F21 F22 F23 F25
   refine s_end ?_
   refine x_done_end (v := .tuple #[]) F26 (results_0 Tryd.results38) ?_
   exact ⟨qm_store_a_24, qm_store_n_24, qm_store_c_24, qm_touch_reads_a_24, qm_touch_reads_n_24, qm_touch_reads_c_24, qm_touch_writes_a_24, qm_touch_writes_n_24, qm_touch_writes_c_24, rfl, (Mv.cast (Mv.pick (T7.trans S24) [0, 1, 2, 3] rfl) (by rw [(show (layM m key (⟨#[]⟩ : ByteArray)).store = (setM m key n).store from by unfold setM; first | rw [numV_t (by assumption)] | rw [numV_f (by assumption)]), (show (layM m key (⟨#[]⟩ : ByteArray)).touch.reads = (setM m key n).touch.reads from by unfold setM; first | rw [numV_t (by assumption)] | rw [numV_f (by assumption)]), (show (layM m key (⟨#[]⟩ : ByteArray)).touch.writes = (setM m key n).touch.writes from by unfold setM; first | rw [numV_t (by assumption)] | rw [numV_f (by assumption)])]; all_goals rfl))⟩
end Go.Proofs.YtibgmijfnbnfkaaDoor
