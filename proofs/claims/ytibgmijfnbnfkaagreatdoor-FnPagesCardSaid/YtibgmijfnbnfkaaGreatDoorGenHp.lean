/-
  Walks: pages are stored.
-/
import Derived.Test.YtibgmijfnbnfkaaGreatDoorGenH
namespace Go.Proofs.YtibgmijfnbnfkaaGreatDoor
open Go.ChangeShapes Go.WideShapes Go.ChangeAt Go.RowKit
set_option maxRecDepth 100000
set_option maxHeartbeats 1000000
theorem impl_pagesKey_c {w : World} {H : Nat → Prop} {id : Int} (h_id : i64ok id) (tab0 : Tb 0 H w) :
    Calls Tryz.prog 48 #[.int .i64 id] w fun e w' => e = .returned (.string (kP_ id)) ∧ Mv [] w [] w' ∧ okS (kP_ id) := by
 have V_tab0 : Tb 0 (V H w []) w := Tb.start tab0 (fun _ _ => fps_nil _)
 refine calls_enter 5 Tryz.func48 rfl Tryz.ntmps48 (Nat.le_of_ble_eq_true rfl) (fun _ F0i => ?_)
 have F0 : Fr 5 [(0, .int .i64 id)] _ := F0i
 clear F0i
 refine wp_seq (wp_region_lit (l_op (f_val F0 rfl rfl (r_assign rfl rfl) rfl fun _ F1 => ?_)))
 refine s_end (x_normal (wp_seq (wp_region_lit (l_op (f_mv F1 rfl rfl rfl rfl rfl fun _ F2 => ?_)))))
 refine l_op (f_call F2 CF_31 rfl rfl rfl rfl (lc rfl (lc (F2.ev 3 rfl) (lc rfl rfl))) (impl_KeyNum_c (head := bM_) (n := id) (tail := bS_) (by unfold okS; decide) h_id (by unfold okS; decide) V_tab0 (by first | assumption | omega | ((repeat first | apply b1_ | apply b2_ | apply b3_ | apply b4_ | apply b5_ | apply b6_); exact bdC.le ‹_› (by decide)) | decide | exact Nat.le_trans (keyNum_size _ _ ‹_›) (by decide)) (by first | assumption | omega | ((repeat first | apply b1_ | apply b2_ | apply b3_ | apply b4_ | apply b5_ | apply b6_); exact bdC.le ‹_› (by decide)) | decide | exact Nat.le_trans (keyNum_size _ _ ‹_›) (by decide))) ?_)
 rintro _ w3 ⟨rfl, m3, Q0⟩
 refine ⟨_, rfl, fun _ F4 => ?_⟩
 have S3 := At.frame0 (At.nil w) m3
 clear m3
 refine l_op (f_as F4 rfl rfl rfl rfl rfl fun _ F5 => ?_)
 refine s_end (x_normal (wp_ret ?_))
 refine x_done (v := .string (kP_ id)) F5 (results_1 Tryz.results48 (.tmp (F5.ev 2 rfl))) ?_
 exact ⟨rfl, (Mv.pick S3 [] rfl), Q0⟩
theorem spec_l11Head_c {w : World} {H : Nat → Prop} {id : Int} (h_id : i64ok id) :
    Calls Tryz.prog 77 #[.int .i64 id] w fun e w' => e = .returned (.string (kP_ id)) ∧ Mv [] w [] w' ∧ okS (kP_ id) := by
 have uU : True := (fun _ => trivial) H
 clear uU
 refine calls_enter 5 Tryz.func77 rfl Tryz.ntmps77 (Nat.le_of_ble_eq_true rfl) (fun _ F0i => ?_)
 have F0 : Fr 5 [(0, .int .i64 id)] _ := F0i
 clear F0i
 refine wp_seq (wp_region_lit (l_op (f_val F0 rfl rfl (r_assign rfl rfl) rfl fun _ F1 => ?_)))
 refine s_end (x_normal (wp_seq (wp_region_lit (l_op (f_mv F1 rfl rfl rfl rfl rfl fun _ F2 => ?_)))))
 refine l_op (f_call F2 CF_76 rfl rfl rfl rfl (lc rfl (lc (F2.ev 3 rfl) (lc rfl rfl))) (spec_KeyNum_c (H := fun _ => True) (head := bM_) (n := id) (tail := bS_) (by unfold okS; decide) h_id (by unfold okS; decide) (by first | assumption | omega | ((repeat first | apply b1_ | apply b2_ | apply b3_ | apply b4_ | apply b5_ | apply b6_); exact bdC.le ‹_› (by decide)) | decide | exact Nat.le_trans (keyNum_size _ _ ‹_›) (by decide)) (by first | assumption | omega | ((repeat first | apply b1_ | apply b2_ | apply b3_ | apply b4_ | apply b5_ | apply b6_); exact bdC.le ‹_› (by decide)) | decide | exact Nat.le_trans (keyNum_size _ _ ‹_›) (by decide))) ?_)
 rintro _ w3 ⟨rfl, m3, Q0⟩
 refine ⟨_, rfl, fun _ F4 => ?_⟩
 have S3 := At.frame0 (At.nil w) m3
 clear m3
 refine l_op (f_as F4 rfl rfl rfl rfl rfl fun _ F5 => ?_)
 refine s_end (x_normal (wp_ret ?_))
 refine x_done (v := .string (kP_ id)) F5 (results_1 Tryz.results77 (.tmp (F5.ev 2 rfl))) ?_
 exact ⟨rfl, (Mv.pick S3 [] rfl), Q0⟩
theorem impl_Mach_storePage_c {w : World} {H : Nat → Prop} {m : MachD} {m_Sa : Option Addr} {m_Sn m_Sc : Nat} {m_Ra : Option Addr} {m_Rn m_Rc : Nat} {m_Wa : Option Addr} {m_Wn m_Wc : Nat} {m_b : Nat} {id : Int} {page : Int} {text : ByteArray} (h_id : i64ok id) (Q0 : i64ok page) (Q28 : okS text) (tab0 : Tb 0 H w) (p0 : bdC 137438953472 m) (hA : At w [bx m_b [.slice m_Sa m_Sn m_Sc, .slice m_Ra m_Rn m_Rc, .slice m_Wa m_Wn m_Wc] 29, ow 73 2 encC okC (.slice m_Sa m_Sn m_Sc) m.store, ow 9 1 encS okS (.slice m_Ra m_Rn m_Rc) m.touch.reads, ow 9 1 encS okS (.slice m_Wa m_Wn m_Wc) m.touch.writes]) (hD : ∀ b, H b → ¬ fps [bx m_b [.slice m_Sa m_Sn m_Sc, .slice m_Ra m_Rn m_Rc, .slice m_Wa m_Wn m_Wc] 29, ow 73 2 encC okC (.slice m_Sa m_Sn m_Sc) m.store, ow 9 1 encS okS (.slice m_Ra m_Rn m_Rc) m.touch.reads, ow 9 1 encS okS (.slice m_Wa m_Wn m_Wc) m.touch.writes] b) :
    Calls Tryz.prog 40 #[.pointer (some ⟨m_b, 0, none⟩), .int .i64 id, .int .i64 page, .string text] w fun e w' => ∃ (Q22 : Option Addr), ∃ (Q24 : Nat), ∃ (Q23 : Nat), ∃ (Q19 : Option Addr), ∃ (Q21 : Nat), ∃ (Q20 : Nat), ∃ (Q25 : Option Addr), ∃ (Q27 : Nat), ∃ (Q26 : Nat), e = .returned (.int .i64 (storeC page text)) ∧ Mv [bx m_b [.slice m_Sa m_Sn m_Sc, .slice m_Ra m_Rn m_Rc, .slice m_Wa m_Wn m_Wc] 29, ow 73 2 encC okC (.slice m_Sa m_Sn m_Sc) m.store, ow 9 1 encS okS (.slice m_Ra m_Rn m_Rc) m.touch.reads, ow 9 1 encS okS (.slice m_Wa m_Wn m_Wc) m.touch.writes] w [bx m_b [.slice Q22 Q24 Q23, .slice Q19 Q21 Q20, .slice Q25 Q27 Q26] 29, ow 73 2 encC okC (.slice Q22 Q24 Q23) (storeM m (kQ_ id page) page text).store, ow 9 1 encS okS (.slice Q19 Q21 Q20) (storeM m (kQ_ id page) page text).touch.reads, ow 9 1 encS okS (.slice Q25 Q27 Q26) (storeM m (kQ_ id page) page text).touch.writes] w' := by
 have uU : True := (fun _ => trivial) p0
 clear uU
 have V_tab0 : Tb 0 (V H w [bx m_b [.slice m_Sa m_Sn m_Sc, .slice m_Ra m_Rn m_Rc, .slice m_Wa m_Wn m_Wc] 29, ow 73 2 encC okC (.slice m_Sa m_Sn m_Sc) m.store, ow 9 1 encS okS (.slice m_Ra m_Rn m_Rc) m.touch.reads, ow 9 1 encS okS (.slice m_Wa m_Wn m_Wc) m.touch.writes]) w := Tb.start tab0 hD
 obtain ⟨lo1, lp1, lq1⟩ := At.ownInv hA ET_24.hk 1 rfl
 obtain ⟨lo2, lp2, lq2⟩ := At.ownInv hA ET_25.hk 2 rfl
 obtain ⟨lo3, lp3, lq3⟩ := At.ownInv hA ET_25.hk 3 rfl
 refine calls_enter 30 Tryz.func40 rfl Tryz.ntmps40 (Nat.le_of_ble_eq_true rfl) (fun _ F0i => ?_)
 have F0 : Fr 30 [(0, .pointer (some ⟨m_b, 0, none⟩)), (1, .int .i64 id), (2, .int .i64 page), (3, .string text)] _ := F0i
 clear F0i
 refine wp_seq (wp_region_lit (l_op (f_val F0 rfl rfl (r_assign rfl rfl) rfl fun _ F1 => ?_)))
 refine s_end (x_normal (wp_seq (wp_seq (wp_region_lit (l_op (f_mv F1 rfl rfl rfl rfl rfl fun _ F2 => ?_))))))
 refine l_op (f_call F2 CF_72 rfl rfl rfl rfl (lc (F2.ev 10 rfl) (lc rfl (lc rfl rfl))) (impl_within_c (H := fun _ => True) (n := page) (low := 0) (high := 3) Q0 (by first | assumption | exact ⟨by omega, by omega⟩ | (unfold i64ok at *; omega)) (by first | assumption | exact ⟨by omega, by omega⟩ | (unfold i64ok at *; omega))) ?_)
 rintro _ w3 ⟨rfl, m3⟩
 refine ⟨_, rfl, fun _ F4 => ?_⟩
 have S3 := At.frame0 hA m3
 clear m3
 refine l_op (f_val F4 rfl rfl (r_not rfl (F4.ev 11 rfl)) rfl fun _ F5 => ?_)
 refine l_op (f_mv F5 rfl rfl rfl rfl rfl fun _ F6 => ?_)
 rcases Bool.eq_false_or_eq_true (!(inB page 0 3)) with h7 | h7
 · rw [h7] at F6
   refine l_op (f_skip F6 (wanted_g F6 rfl rfl rfl rfl) rfl rfl fun _ F8 => ?_)
   refine l_op (f_skip F8 (wanted_g F8 rfl rfl rfl rfl) rfl rfl fun _ F9 => ?_)
   refine l_op (f_skip F9 (wanted_g F9 rfl rfl rfl rfl) rfl rfl fun _ F10 => ?_)
   refine l_op (f_val F10 rfl rfl (r_pick (b := true) rfl (F10.ev 13 rfl) rfl) rfl fun _ F11 => ?_)
   refine s_end (x_normal (wp_cond_true (F11.ev 17 rfl) (wp_seq (wp_region_lit (l_op (f_val F11 rfl rfl (r_assign rfl rfl) rfl fun _ F12 => ?_))))))
   refine s_end (x_normal (wp_ret (x_then_ret ?_)))
   refine x_done (v := .int .i64 4) F12 (results_1 Tryz.results40 (.tmp (F12.ev 8 rfl))) ?_
   exact ⟨m_Sa, m_Sn, m_Sc, m_Ra, m_Rn, m_Rc, m_Wa, m_Wn, m_Wc, (by rw [(show 4 = (storeC page text) from by first | (rw [storeM_t (pageB_t (nf ‹_›) ‹_›), ← pageV_e ‹_›]) | (rw [storeM_t (pageB_t (nf ‹_›) ‹_›), ← pageV_e (Classical.not_not.1 ‹_›)]) | (rw [storeM_t (pageB_t (nf ‹_›) ‹_›), ← pageV_n ‹_›]) | (rw [storeM_t (pageB_t (nf ‹_›) ‹_›), ← pageV_n ‹_›]) | rw [storeM_f (pageB_f1 (nt ‹_›))] | rw [storeM_f (pageB_f2 ‹_›)] | with_reducible exact storeC_t (pageB_t (nf ‹_›) ‹_›) | with_reducible exact storeC_f (pageB_f1 (nt ‹_›)) | with_reducible exact storeC_f (pageB_f2 ‹_›))]), (Mv.cast (Mv.pick S3 [0, 1, 2, 3] rfl) (by rw [(show m.store = (storeM m (kQ_ id page) page text).store from by first | (rw [storeM_t (pageB_t (nf ‹_›) ‹_›), ← pageV_e ‹_›]) | (rw [storeM_t (pageB_t (nf ‹_›) ‹_›), ← pageV_e (Classical.not_not.1 ‹_›)]) | (rw [storeM_t (pageB_t (nf ‹_›) ‹_›), ← pageV_n ‹_›]) | (rw [storeM_t (pageB_t (nf ‹_›) ‹_›), ← pageV_n ‹_›]) | rw [storeM_f (pageB_f1 (nt ‹_›))] | rw [storeM_f (pageB_f2 ‹_›)] | with_reducible exact storeC_t (pageB_t (nf ‹_›) ‹_›) | with_reducible exact storeC_f (pageB_f1 (nt ‹_›)) | with_reducible exact storeC_f (pageB_f2 ‹_›)), (show m.touch.reads = (storeM m (kQ_ id page) page text).touch.reads from by first | (rw [storeM_t (pageB_t (nf ‹_›) ‹_›), ← pageV_e ‹_›]) | (rw [storeM_t (pageB_t (nf ‹_›) ‹_›), ← pageV_e (Classical.not_not.1 ‹_›)]) | (rw [storeM_t (pageB_t (nf ‹_›) ‹_›), ← pageV_n ‹_›]) | (rw [storeM_t (pageB_t (nf ‹_›) ‹_›), ← pageV_n ‹_›]) | rw [storeM_f (pageB_f1 (nt ‹_›))] | rw [storeM_f (pageB_f2 ‹_›)] | with_reducible exact storeC_t (pageB_t (nf ‹_›) ‹_›) | with_reducible exact storeC_f (pageB_f1 (nt ‹_›)) | with_reducible exact storeC_f (pageB_f2 ‹_›)), (show m.touch.writes = (storeM m (kQ_ id page) page text).touch.writes from by first | (rw [storeM_t (pageB_t (nf ‹_›) ‹_›), ← pageV_e ‹_›]) | (rw [storeM_t (pageB_t (nf ‹_›) ‹_›), ← pageV_e (Classical.not_not.1 ‹_›)]) | (rw [storeM_t (pageB_t (nf ‹_›) ‹_›), ← pageV_n ‹_›]) | (rw [storeM_t (pageB_t (nf ‹_›) ‹_›), ← pageV_n ‹_›]) | rw [storeM_f (pageB_f1 (nt ‹_›))] | rw [storeM_f (pageB_f2 ‹_›)] | with_reducible exact storeC_t (pageB_t (nf ‹_›) ‹_›) | with_reducible exact storeC_f (pageB_f1 (nt ‹_›)) | with_reducible exact storeC_f (pageB_f2 ‹_›))]; all_goals rfl))⟩
 · rw [h7] at F6
   refine l_op (f_mv F6 (wanted_g F6 rfl rfl rfl rfl) rfl rfl rfl rfl fun _ F13 => ?_)
   refine l_op (f_val F13 (wanted_g F13 rfl rfl rfl rfl) rfl (r_lenS (fun t ht => by cases ht; exact Tryz.underlying9) rfl rfl (F13.ev 14 rfl)) rfl fun _ F14 => ?_)
   refine l_op (f_val F14 (wanted_g F14 rfl rfl rfl rfl) rfl (r_cmp (b := decide (text.size > 20)) (.inr (.inr (.inr (.inr (.inl rfl))))) rfl (F14.ev 15 rfl) rfl (dec_of (by omega))) rfl fun _ F15 => ?_)
   refine l_op (f_val F15 rfl rfl (r_pick (b := false) rfl (F15.ev 13 rfl) (F15.ev 16 rfl)) rfl fun _ F16 => ?_)
   refine s_end (x_normal (x_cond (p := text.size > 20) (F16.ev 17 rfl) (fun h17 => ?_) (fun h17 => ?_)))
   · skip
     refine wp_seq (wp_region_lit (l_op (f_val F16 rfl rfl (r_assign rfl rfl) rfl fun _ F18 => ?_)))
     refine s_end (x_normal (wp_ret (x_then_ret ?_)))
     refine x_done (v := .int .i64 4) F18 (results_1 Tryz.results40 (.tmp (F18.ev 8 rfl))) ?_
     exact ⟨m_Sa, m_Sn, m_Sc, m_Ra, m_Rn, m_Rc, m_Wa, m_Wn, m_Wc, (by rw [(show 4 = (storeC page text) from by first | (rw [storeM_t (pageB_t (nf ‹_›) ‹_›), ← pageV_e ‹_›]) | (rw [storeM_t (pageB_t (nf ‹_›) ‹_›), ← pageV_e (Classical.not_not.1 ‹_›)]) | (rw [storeM_t (pageB_t (nf ‹_›) ‹_›), ← pageV_n ‹_›]) | (rw [storeM_t (pageB_t (nf ‹_›) ‹_›), ← pageV_n ‹_›]) | rw [storeM_f (pageB_f1 (nt ‹_›))] | rw [storeM_f (pageB_f2 ‹_›)] | with_reducible exact storeC_t (pageB_t (nf ‹_›) ‹_›) | with_reducible exact storeC_f (pageB_f1 (nt ‹_›)) | with_reducible exact storeC_f (pageB_f2 ‹_›))]), (Mv.cast (Mv.pick S3 [0, 1, 2, 3] rfl) (by rw [(show m.store = (storeM m (kQ_ id page) page text).store from by first | (rw [storeM_t (pageB_t (nf ‹_›) ‹_›), ← pageV_e ‹_›]) | (rw [storeM_t (pageB_t (nf ‹_›) ‹_›), ← pageV_e (Classical.not_not.1 ‹_›)]) | (rw [storeM_t (pageB_t (nf ‹_›) ‹_›), ← pageV_n ‹_›]) | (rw [storeM_t (pageB_t (nf ‹_›) ‹_›), ← pageV_n ‹_›]) | rw [storeM_f (pageB_f1 (nt ‹_›))] | rw [storeM_f (pageB_f2 ‹_›)] | with_reducible exact storeC_t (pageB_t (nf ‹_›) ‹_›) | with_reducible exact storeC_f (pageB_f1 (nt ‹_›)) | with_reducible exact storeC_f (pageB_f2 ‹_›)), (show m.touch.reads = (storeM m (kQ_ id page) page text).touch.reads from by first | (rw [storeM_t (pageB_t (nf ‹_›) ‹_›), ← pageV_e ‹_›]) | (rw [storeM_t (pageB_t (nf ‹_›) ‹_›), ← pageV_e (Classical.not_not.1 ‹_›)]) | (rw [storeM_t (pageB_t (nf ‹_›) ‹_›), ← pageV_n ‹_›]) | (rw [storeM_t (pageB_t (nf ‹_›) ‹_›), ← pageV_n ‹_›]) | rw [storeM_f (pageB_f1 (nt ‹_›))] | rw [storeM_f (pageB_f2 ‹_›)] | with_reducible exact storeC_t (pageB_t (nf ‹_›) ‹_›) | with_reducible exact storeC_f (pageB_f1 (nt ‹_›)) | with_reducible exact storeC_f (pageB_f2 ‹_›)), (show m.touch.writes = (storeM m (kQ_ id page) page text).touch.writes from by first | (rw [storeM_t (pageB_t (nf ‹_›) ‹_›), ← pageV_e ‹_›]) | (rw [storeM_t (pageB_t (nf ‹_›) ‹_›), ← pageV_e (Classical.not_not.1 ‹_›)]) | (rw [storeM_t (pageB_t (nf ‹_›) ‹_›), ← pageV_n ‹_›]) | (rw [storeM_t (pageB_t (nf ‹_›) ‹_›), ← pageV_n ‹_›]) | rw [storeM_f (pageB_f1 (nt ‹_›))] | rw [storeM_f (pageB_f2 ‹_›)] | with_reducible exact storeC_t (pageB_t (nf ‹_›) ‹_›) | with_reducible exact storeC_f (pageB_f1 (nt ‹_›)) | with_reducible exact storeC_f (pageB_f2 ‹_›))]; all_goals rfl))⟩
   · skip
     refine wp_skip (x_normal (wp_seq (wp_region_lit (l_op (f_val F16 rfl rfl (r_assign rfl rfl) rfl fun _ F19 => ?_)))))
     refine s_end (x_normal (wp_seq (wp_seq (wp_region_lit (l_op (f_mv F19 rfl rfl rfl rfl rfl fun _ F20 => ?_))))))
     refine l_op (f_val F20 rfl rfl (r_cmps (b := (decide (text ≠ bE_))) (.inr (.inl rfl)) rfl (F20.ev 18 rfl) rfl rfl) rfl fun _ F21 => ?_)
     refine s_end (x_normal (x_cond (p := text ≠ bE_) (F21.ev 19 rfl) (fun h22 => ?_) (fun h22 => ?_)))
     · skip
       refine wp_region_lit (l_op (f_mv F21 rfl rfl rfl rfl rfl fun _ F23 => ?_))
       refine l_op (f_call F23 CF_73 rfl rfl rfl rfl (lc (F23.ev 20 rfl) rfl) (impl_hexOf_c (H := fun _ => True) (text := text) Q28 (by first | assumption | omega | (simp <;> omega))) ?_)
       rintro _ w24 ⟨rfl, m24, Q51⟩
       refine ⟨_, rfl, fun _ F25 => ?_⟩
       have S24 := At.frame0 S3.at' m24
       clear m24
       have k26 : (⟨#[45]⟩ : ByteArray).size + (hexS text).size ≤ 9223372036854775807 := by have : (⟨#[45]⟩ : ByteArray).size = 1 := rfl; have hh := hexS_size text; omega
       refine l_op (f_val F25 rfl rfl (r_cat rfl rfl (F25.ev 21 rfl) k26) rfl fun _ F27 => ?_)
       refine l_op (f_as F27 rfl rfl rfl rfl rfl fun _ F28 => ?_)
       refine s_end (x_normal (wp_seq (wp_region_lit (l_op (f_mv F28 rfl rfl rfl rfl rfl fun _ F29 => ?_)))))
       refine l_op (f_mv F29 rfl rfl rfl rfl rfl fun _ F30 => ?_)
       refine l_op (f_call F30 CF_48 rfl rfl rfl rfl (lc (F30.ev 24 rfl) rfl) (impl_pagesKey_c (id := id) h_id (Tb.mv V_tab0 (S3.trans S24))) ?_)
       rintro _ w31 ⟨rfl, m31, Q29⟩
       refine ⟨_, rfl, fun _ F32 => ?_⟩
       have S31 := At.frame0 S24.at' m31
       clear m31
       refine l_op (f_mv F32 rfl rfl rfl rfl rfl fun _ F33 => ?_)
       refine l_op (f_call F33 CF_31 rfl rfl rfl rfl (lc (F33.ev 25 rfl) (lc (F33.ev 26 rfl) (lc rfl rfl))) (impl_KeyNum_c (head := kP_ id) (n := page) (tail := bE_) Q29 Q0 (by unfold okS; decide) (Tb.mv V_tab0 (S3.trans (S24.trans S31))) (by first | assumption | omega | ((repeat first | apply b1_ | apply b2_ | apply b3_ | apply b4_ | apply b5_ | apply b6_); exact bdC.le ‹_› (by decide)) | decide | exact Nat.le_trans (keyNum_size _ _ ‹_›) (by decide)) (by first | assumption | omega | ((repeat first | apply b1_ | apply b2_ | apply b3_ | apply b4_ | apply b5_ | apply b6_); exact bdC.le ‹_› (by decide)) | decide | exact Nat.le_trans (keyNum_size _ _ ‹_›) (by decide))) ?_)
       rintro _ w34 ⟨rfl, m34, Q30⟩
       refine ⟨_, rfl, fun _ F35 => ?_⟩
       have S34 := At.frame0 S31.at' m34
       clear m34
       refine l_op (f_mv F35 rfl rfl rfl rfl rfl fun _ F36 => ?_)
       refine l_op (f_call F36 CF_74 rfl rfl rfl rfl (lc (F36.ev 23 rfl) (lc (F36.ev 27 rfl) (lc (F36.ev 28 rfl) rfl))) (impl_Mach_lay_c (H := fun _ => True) (m := m) (key := kQ_ id page) (val := (⟨#[45]⟩ : ByteArray) ++ (hexS text)) Q30 (okS_cat k26) (by first | assumption | omega | ((repeat first | apply b1_ | apply b2_ | apply b3_ | apply b4_ | apply b5_ | apply b6_); exact bdC.le ‹_› (by decide)) | decide | exact Nat.le_trans (keyNum_size _ _ ‹_›) (by decide)) (by first | assumption | omega | ((repeat first | apply b1_ | apply b2_ | apply b3_ | apply b4_ | apply b5_ | apply b6_); exact bdC.le ‹_› (by decide)) | decide | exact Nat.le_trans (keyNum_size _ _ ‹_›) (by decide)) (At.pick (is := [0, 1, 2, 3]) S34.at' rfl)) ?_)
       rintro _ w37 ⟨Q7, Q11, Q9, Q1, Q5, Q3, Q13, Q17, Q15, rfl, m37⟩
       refine ⟨_, rfl, fun _ F38 => ?_⟩
       have S37 : Mv _ _ [bx m_b [.slice Q7 Q11 Q9, .slice Q1 Q5 Q3, .slice Q13 Q17 Q15] 29, ow 73 2 encC okC (.slice Q7 Q11 Q9) (layM m (kQ_ id page) ((⟨#[45]⟩ : ByteArray) ++ (hexS text))).store, ow 9 1 encS okS (.slice Q1 Q5 Q3) (layM m (kQ_ id page) ((⟨#[45]⟩ : ByteArray) ++ (hexS text))).touch.reads, ow 9 1 encS okS (.slice Q13 Q17 Q15) (layM m (kQ_ id page) ((⟨#[45]⟩ : ByteArray) ++ (hexS text))).touch.writes] _ := At.frame S34.at' [0, 1, 2, 3] rfl m37
       obtain ⟨Q33, Q39, Q45⟩ := At.ownInv S37.at' ET_24.hk 1 rfl
       obtain ⟨Q34, Q40, Q46⟩ := At.ownInv S37.at' ET_25.hk 2 rfl
       obtain ⟨Q35, Q41, Q47⟩ := At.ownInv S37.at' ET_25.hk 3 rfl
       clear m37
       refine s_end (x_normal (wp_seq (wp_region_lit (l_op (f_val F38 rfl rfl (r_assign rfl rfl) rfl fun _ F39 => ?_)))))
       refine s_end (x_normal (wp_ret ?_))
       refine x_done (v := .int .i64 0) F39 (results_1 Tryz.results40 (.tmp (F39.ev 8 rfl))) ?_
       exact ⟨Q7, Q11, Q9, Q1, Q5, Q3, Q13, Q17, Q15, (by rw [(show 0 = (storeC page text) from by first | (rw [storeM_t (pageB_t (nf ‹_›) ‹_›), ← pageV_e ‹_›]) | (rw [storeM_t (pageB_t (nf ‹_›) ‹_›), ← pageV_e (Classical.not_not.1 ‹_›)]) | (rw [storeM_t (pageB_t (nf ‹_›) ‹_›), ← pageV_n ‹_›]) | (rw [storeM_t (pageB_t (nf ‹_›) ‹_›), ← pageV_n ‹_›]) | rw [storeM_f (pageB_f1 (nt ‹_›))] | rw [storeM_f (pageB_f2 ‹_›)] | with_reducible exact storeC_t (pageB_t (nf ‹_›) ‹_›) | with_reducible exact storeC_f (pageB_f1 (nt ‹_›)) | with_reducible exact storeC_f (pageB_f2 ‹_›))]), (Mv.cast (Mv.pick (S3.trans (S24.trans (S31.trans (S34.trans S37)))) [0, 1, 2, 3] rfl) (by rw [(show (layM m (kQ_ id page) ((⟨#[45]⟩ : ByteArray) ++ (hexS text))).store = (storeM m (kQ_ id page) page text).store from by first | (rw [storeM_t (pageB_t (nf ‹_›) ‹_›), ← pageV_e ‹_›]) | (rw [storeM_t (pageB_t (nf ‹_›) ‹_›), ← pageV_e (Classical.not_not.1 ‹_›)]) | (rw [storeM_t (pageB_t (nf ‹_›) ‹_›), ← pageV_n ‹_›]) | (rw [storeM_t (pageB_t (nf ‹_›) ‹_›), ← pageV_n ‹_›]) | rw [storeM_f (pageB_f1 (nt ‹_›))] | rw [storeM_f (pageB_f2 ‹_›)] | with_reducible exact storeC_t (pageB_t (nf ‹_›) ‹_›) | with_reducible exact storeC_f (pageB_f1 (nt ‹_›)) | with_reducible exact storeC_f (pageB_f2 ‹_›)), (show (layM m (kQ_ id page) ((⟨#[45]⟩ : ByteArray) ++ (hexS text))).touch.reads = (storeM m (kQ_ id page) page text).touch.reads from by first | (rw [storeM_t (pageB_t (nf ‹_›) ‹_›), ← pageV_e ‹_›]) | (rw [storeM_t (pageB_t (nf ‹_›) ‹_›), ← pageV_e (Classical.not_not.1 ‹_›)]) | (rw [storeM_t (pageB_t (nf ‹_›) ‹_›), ← pageV_n ‹_›]) | (rw [storeM_t (pageB_t (nf ‹_›) ‹_›), ← pageV_n ‹_›]) | rw [storeM_f (pageB_f1 (nt ‹_›))] | rw [storeM_f (pageB_f2 ‹_›)] | with_reducible exact storeC_t (pageB_t (nf ‹_›) ‹_›) | with_reducible exact storeC_f (pageB_f1 (nt ‹_›)) | with_reducible exact storeC_f (pageB_f2 ‹_›)), (show (layM m (kQ_ id page) ((⟨#[45]⟩ : ByteArray) ++ (hexS text))).touch.writes = (storeM m (kQ_ id page) page text).touch.writes from by first | (rw [storeM_t (pageB_t (nf ‹_›) ‹_›), ← pageV_e ‹_›]) | (rw [storeM_t (pageB_t (nf ‹_›) ‹_›), ← pageV_e (Classical.not_not.1 ‹_›)]) | (rw [storeM_t (pageB_t (nf ‹_›) ‹_›), ← pageV_n ‹_›]) | (rw [storeM_t (pageB_t (nf ‹_›) ‹_›), ← pageV_n ‹_›]) | rw [storeM_f (pageB_f1 (nt ‹_›))] | rw [storeM_f (pageB_f2 ‹_›)] | with_reducible exact storeC_t (pageB_t (nf ‹_›) ‹_›) | with_reducible exact storeC_f (pageB_f1 (nt ‹_›)) | with_reducible exact storeC_f (pageB_f2 ‹_›))]; all_goals rfl))⟩
     · skip
       refine wp_skip (x_normal (wp_seq (wp_region_lit (l_op (f_mv F21 rfl rfl rfl rfl rfl fun _ F40 => ?_)))))
       refine l_op (f_mv F40 rfl rfl rfl rfl rfl fun _ F41 => ?_)
       refine l_op (f_call F41 CF_48 rfl rfl rfl rfl (lc (F41.ev 24 rfl) rfl) (impl_pagesKey_c (id := id) h_id (Tb.mv V_tab0 S3)) ?_)
       rintro _ w42 ⟨rfl, m42, Q31⟩
       refine ⟨_, rfl, fun _ F43 => ?_⟩
       have S42 := At.frame0 S3.at' m42
       clear m42
       refine l_op (f_mv F43 rfl rfl rfl rfl rfl fun _ F44 => ?_)
       refine l_op (f_call F44 CF_31 rfl rfl rfl rfl (lc (F44.ev 25 rfl) (lc (F44.ev 26 rfl) (lc rfl rfl))) (impl_KeyNum_c (head := kP_ id) (n := page) (tail := bE_) Q31 Q0 (by unfold okS; decide) (Tb.mv V_tab0 (S3.trans S42)) (by first | assumption | omega | ((repeat first | apply b1_ | apply b2_ | apply b3_ | apply b4_ | apply b5_ | apply b6_); exact bdC.le ‹_› (by decide)) | decide | exact Nat.le_trans (keyNum_size _ _ ‹_›) (by decide)) (by first | assumption | omega | ((repeat first | apply b1_ | apply b2_ | apply b3_ | apply b4_ | apply b5_ | apply b6_); exact bdC.le ‹_› (by decide)) | decide | exact Nat.le_trans (keyNum_size _ _ ‹_›) (by decide))) ?_)
       rintro _ w45 ⟨rfl, m45, Q32⟩
       refine ⟨_, rfl, fun _ F46 => ?_⟩
       have S45 := At.frame0 S42.at' m45
       clear m45
       refine l_op (f_mv F46 rfl rfl rfl rfl rfl fun _ F47 => ?_)
       refine l_op (f_call F47 CF_74 rfl rfl rfl rfl (lc (F47.ev 23 rfl) (lc (F47.ev 27 rfl) (lc (F47.ev 28 rfl) rfl))) (impl_Mach_lay_c (H := fun _ => True) (m := m) (key := kQ_ id page) (val := bE_) Q32 (by unfold okS; decide) (by first | assumption | omega | ((repeat first | apply b1_ | apply b2_ | apply b3_ | apply b4_ | apply b5_ | apply b6_); exact bdC.le ‹_› (by decide)) | decide | exact Nat.le_trans (keyNum_size _ _ ‹_›) (by decide)) (by first | assumption | omega | ((repeat first | apply b1_ | apply b2_ | apply b3_ | apply b4_ | apply b5_ | apply b6_); exact bdC.le ‹_› (by decide)) | decide | exact Nat.le_trans (keyNum_size _ _ ‹_›) (by decide)) (At.pick (is := [0, 1, 2, 3]) S45.at' rfl)) ?_)
       rintro _ w48 ⟨Q8, Q12, Q10, Q2, Q6, Q4, Q14, Q18, Q16, rfl, m48⟩
       refine ⟨_, rfl, fun _ F49 => ?_⟩
       have S48 : Mv _ _ [bx m_b [.slice Q8 Q12 Q10, .slice Q2 Q6 Q4, .slice Q14 Q18 Q16] 29, ow 73 2 encC okC (.slice Q8 Q12 Q10) (layM m (kQ_ id page) bE_).store, ow 9 1 encS okS (.slice Q2 Q6 Q4) (layM m (kQ_ id page) bE_).touch.reads, ow 9 1 encS okS (.slice Q14 Q18 Q16) (layM m (kQ_ id page) bE_).touch.writes] _ := At.frame S45.at' [0, 1, 2, 3] rfl m48
       obtain ⟨Q36, Q42, Q48⟩ := At.ownInv S48.at' ET_24.hk 1 rfl
       obtain ⟨Q37, Q43, Q49⟩ := At.ownInv S48.at' ET_25.hk 2 rfl
       obtain ⟨Q38, Q44, Q50⟩ := At.ownInv S48.at' ET_25.hk 3 rfl
       clear m48
       refine s_end (x_normal (wp_seq (wp_region_lit (l_op (f_val F49 rfl rfl (r_assign rfl rfl) rfl fun _ F50 => ?_)))))
       refine s_end (x_normal (wp_ret ?_))
       refine x_done (v := .int .i64 0) F50 (results_1 Tryz.results40 (.tmp (F50.ev 8 rfl))) ?_
       exact ⟨Q8, Q12, Q10, Q2, Q6, Q4, Q14, Q18, Q16, (by rw [(show 0 = (storeC page text) from by first | (rw [storeM_t (pageB_t (nf ‹_›) ‹_›), ← pageV_e ‹_›]) | (rw [storeM_t (pageB_t (nf ‹_›) ‹_›), ← pageV_e (Classical.not_not.1 ‹_›)]) | (rw [storeM_t (pageB_t (nf ‹_›) ‹_›), ← pageV_n ‹_›]) | (rw [storeM_t (pageB_t (nf ‹_›) ‹_›), ← pageV_n ‹_›]) | rw [storeM_f (pageB_f1 (nt ‹_›))] | rw [storeM_f (pageB_f2 ‹_›)] | with_reducible exact storeC_t (pageB_t (nf ‹_›) ‹_›) | with_reducible exact storeC_f (pageB_f1 (nt ‹_›)) | with_reducible exact storeC_f (pageB_f2 ‹_›))]), (Mv.cast (Mv.pick (S3.trans (S42.trans (S45.trans S48))) [0, 1, 2, 3] rfl) (by rw [(show (layM m (kQ_ id page) bE_).store = (storeM m (kQ_ id page) page text).store from by first | (rw [storeM_t (pageB_t (nf ‹_›) ‹_›), ← pageV_e ‹_›]) | (rw [storeM_t (pageB_t (nf ‹_›) ‹_›), ← pageV_e (Classical.not_not.1 ‹_›)]) | (rw [storeM_t (pageB_t (nf ‹_›) ‹_›), ← pageV_n ‹_›]) | (rw [storeM_t (pageB_t (nf ‹_›) ‹_›), ← pageV_n ‹_›]) | rw [storeM_f (pageB_f1 (nt ‹_›))] | rw [storeM_f (pageB_f2 ‹_›)] | with_reducible exact storeC_t (pageB_t (nf ‹_›) ‹_›) | with_reducible exact storeC_f (pageB_f1 (nt ‹_›)) | with_reducible exact storeC_f (pageB_f2 ‹_›)), (show (layM m (kQ_ id page) bE_).touch.reads = (storeM m (kQ_ id page) page text).touch.reads from by first | (rw [storeM_t (pageB_t (nf ‹_›) ‹_›), ← pageV_e ‹_›]) | (rw [storeM_t (pageB_t (nf ‹_›) ‹_›), ← pageV_e (Classical.not_not.1 ‹_›)]) | (rw [storeM_t (pageB_t (nf ‹_›) ‹_›), ← pageV_n ‹_›]) | (rw [storeM_t (pageB_t (nf ‹_›) ‹_›), ← pageV_n ‹_›]) | rw [storeM_f (pageB_f1 (nt ‹_›))] | rw [storeM_f (pageB_f2 ‹_›)] | with_reducible exact storeC_t (pageB_t (nf ‹_›) ‹_›) | with_reducible exact storeC_f (pageB_f1 (nt ‹_›)) | with_reducible exact storeC_f (pageB_f2 ‹_›)), (show (layM m (kQ_ id page) bE_).touch.writes = (storeM m (kQ_ id page) page text).touch.writes from by first | (rw [storeM_t (pageB_t (nf ‹_›) ‹_›), ← pageV_e ‹_›]) | (rw [storeM_t (pageB_t (nf ‹_›) ‹_›), ← pageV_e (Classical.not_not.1 ‹_›)]) | (rw [storeM_t (pageB_t (nf ‹_›) ‹_›), ← pageV_n ‹_›]) | (rw [storeM_t (pageB_t (nf ‹_›) ‹_›), ← pageV_n ‹_›]) | rw [storeM_f (pageB_f1 (nt ‹_›))] | rw [storeM_f (pageB_f2 ‹_›)] | with_reducible exact storeC_t (pageB_t (nf ‹_›) ‹_›) | with_reducible exact storeC_f (pageB_f1 (nt ‹_›)) | with_reducible exact storeC_f (pageB_f2 ‹_›))]; all_goals rfl))⟩
theorem spec_l11StorePage_c {w : World} {H : Nat → Prop} {m : MachD} {m_Sa : Option Addr} {m_Sn m_Sc : Nat} {m_Ra : Option Addr} {m_Rn m_Rc : Nat} {m_Wa : Option Addr} {m_Wn m_Wc : Nat} {id : Int} {page : Int} {text : ByteArray} (Q31 : Rd 2 encC okC H w (.slice m_Sa m_Sn m_Sc) m.store) (Q32 : Rd 1 encS okS H w (.slice m_Ra m_Rn m_Rc) m.touch.reads) (Q33 : Rd 1 encS okS H w (.slice m_Wa m_Wn m_Wc) m.touch.writes) (h_id : i64ok id) (Q21 : i64ok page) (Q34 : okS text) (p0 : bdC 137438953472 m) :
    Calls Tryz.prog 41 #[.agg #[.slice m_Sa m_Sn m_Sc, .slice m_Ra m_Rn m_Rc, .slice m_Wa m_Wn m_Wc], .int .i64 id, .int .i64 page, .string text] w fun e w' => ∃ (Q25 : Option Addr), ∃ (Q27 : Nat), ∃ (Q26 : Nat), ∃ (Q22 : Option Addr), ∃ (Q24 : Nat), ∃ (Q23 : Nat), ∃ (Q28 : Option Addr), ∃ (Q30 : Nat), ∃ (Q29 : Nat), e = .returned (.tuple #[.agg #[.slice Q25 Q27 Q26, .slice Q22 Q24 Q23, .slice Q28 Q30 Q29], .int .i64 (storeC page text)]) ∧ Mv [] w [] w' ∧ Rd 2 encC okC (Fsh H w) w' (.slice Q25 Q27 Q26) (storeM m (kQ_ id page) page text).store ∧ Rd 1 encS okS (Fsh H w) w' (.slice Q22 Q24 Q23) (storeM m (kQ_ id page) page text).touch.reads ∧ Rd 1 encS okS (Fsh H w) w' (.slice Q28 Q30 Q29) (storeM m (kQ_ id page) page text).touch.writes := by
 have uU : True := (fun _ => trivial) p0
 clear uU
 have Q18 : Rd 2 encC okC (V H w []) w (.slice m_Sa m_Sn m_Sc) m.store := Rd.start Q31 (fun _ _ => fps_nil _)
 obtain ⟨Q42, Q39, Q45, Q48⟩ := Rd.inv Q31
 have Q19 : Rd 1 encS okS (V H w []) w (.slice m_Ra m_Rn m_Rc) m.touch.reads := Rd.start Q32 (fun _ _ => fps_nil _)
 obtain ⟨Q43, Q40, Q46, Q49⟩ := Rd.inv Q32
 have Q20 : Rd 1 encS okS (V H w []) w (.slice m_Wa m_Wn m_Wc) m.touch.writes := Rd.start Q33 (fun _ _ => fps_nil _)
 obtain ⟨Q44, Q41, Q47, Q50⟩ := Rd.inv Q33
 refine calls_enter 42 Tryz.func41 rfl Tryz.ntmps41 (Nat.le_of_ble_eq_true rfl) (fun _ F0i => ?_)
 have F0 : Fr 42 [(0, .agg #[.slice m_Sa m_Sn m_Sc, .slice m_Ra m_Rn m_Rc, .slice m_Wa m_Wn m_Wc]), (1, .int .i64 id), (2, .int .i64 page), (3, .string text)] _ := F0i
 clear F0i
 refine wp_seq (wp_region_lit (l_op (f_box F0 (At.nil w) rfl rfl rfl (F0.ev 0 rfl) rfl rfl fun b1 _ w1 F2 S1 => ?_)))
 refine l_op (f_alloc F2 S1.at' ZI_29 rfl rfl rfl rfl rfl fun b3 _ w3 F4 S3 => ?_)
 refine l_op (f_val F4 rfl rfl (r_assign rfl rfl) rfl fun _ F5 => ?_)
 refine s_end (x_normal (wp_seq (wp_seq (wp_region_lit (l_op (f_mv F5 rfl rfl rfl rfl rfl fun _ F6 => ?_))))))
 refine l_op (f_call F6 CF_75 rfl rfl rfl rfl (lc (F6.ev 12 rfl) (lc rfl (lc rfl rfl))) (spec_l01In_c (H := fun _ => True) (x := page) (least := 0) (most := 3) Q21 (by first | assumption | exact ⟨by omega, by omega⟩ | (unfold i64ok at *; omega)) (by first | assumption | exact ⟨by omega, by omega⟩ | (unfold i64ok at *; omega))) ?_)
 rintro _ w7 ⟨rfl, m7⟩
 refine ⟨_, rfl, fun _ F8 => ?_⟩
 have S7 := At.frame0 S3.at' m7
 clear m7
 refine l_op (f_val F8 rfl rfl (r_not rfl (F8.ev 13 rfl)) rfl fun _ F9 => ?_)
 refine l_op (f_mv F9 rfl rfl rfl rfl rfl fun _ F10 => ?_)
 rcases Bool.eq_false_or_eq_true (!(inB page 0 3)) with h11 | h11
 · rw [h11] at F10
   refine l_op (f_skip F10 (wanted_g F10 rfl rfl rfl rfl) rfl rfl fun _ F12 => ?_)
   refine l_op (f_skip F12 (wanted_g F12 rfl rfl rfl rfl) rfl rfl fun _ F13 => ?_)
   refine l_op (f_skip F13 (wanted_g F13 rfl rfl rfl rfl) rfl rfl fun _ F14 => ?_)
   refine l_op (f_val F14 rfl rfl (r_pick (b := true) rfl (F14.ev 15 rfl) rfl) rfl fun _ F15 => ?_)
   refine s_end (x_normal (wp_cond_true (F15.ev 19 rfl) (wp_seq (wp_region_lit (l_op (f_val (v := .agg #[.slice m_Sa m_Sn m_Sc, .slice m_Ra m_Rn m_Rc, .slice m_Wa m_Wn m_Wc]) F15 rfl rfl (r_loadB S7.at' 1 TI_29 rfl rfl (F15.ev 4 rfl) rfl rfl (fun h => nomatch h) rfl) rfl fun _ F16 => ?_))))))
   refine l_op (s_store S7.at' 0 TI_29 rfl rfl rfl rfl rfl (F16.ev 8 rfl) (F16.ev 20 rfl) rfl rfl rfl rfl rfl fun w17 S17 => ?_)
   refine l_op (f_val F16 rfl rfl (r_assign rfl rfl) rfl fun _ F18 => ?_)
   refine s_end (x_normal (wp_ret (x_then_ret ?_)))
   refine x_done (v := .tuple #[.agg #[.slice m_Sa m_Sn m_Sc, .slice m_Ra m_Rn m_Rc, .slice m_Wa m_Wn m_Wc], .int .i64 4]) F18 (results_2 Tryz.results41 (.cell (F18.ev 8 rfl) (run_loadVar' TI_29 _ [.slice m_Sa m_Sn m_Sc, .slice m_Ra m_Rn m_Rc, .slice m_Wa m_Wn m_Wc] rfl (fun h => nomatch h) (At.cells S17.at' 0 rfl 0 [.slice m_Sa m_Sn m_Sc, .slice m_Ra m_Rn m_Rc, .slice m_Wa m_Wn m_Wc] rfl))) (.tmp (F18.ev 9 rfl))) ?_
   exact ⟨m_Sa, m_Sn, m_Sc, m_Ra, m_Rn, m_Rc, m_Wa, m_Wn, m_Wc, (by rw [(show 4 = (storeC page text) from by first | (rw [storeM_t (pageB_t (nf ‹_›) ‹_›), ← pageV_e ‹_›]) | (rw [storeM_t (pageB_t (nf ‹_›) ‹_›), ← pageV_e (Classical.not_not.1 ‹_›)]) | (rw [storeM_t (pageB_t (nf ‹_›) ‹_›), ← pageV_n ‹_›]) | (rw [storeM_t (pageB_t (nf ‹_›) ‹_›), ← pageV_n ‹_›]) | rw [storeM_f (pageB_f1 (nt ‹_›))] | rw [storeM_f (pageB_f2 ‹_›)] | with_reducible exact storeC_t (pageB_t (nf ‹_›) ‹_›) | with_reducible exact storeC_f (pageB_f1 (nt ‹_›)) | with_reducible exact storeC_f (pageB_f2 ‹_›))]), (Mv.pick (S1.trans (S3.trans (S7.trans S17))) [] rfl), (Rd.cast (Rd.give (Rd.mq Q18 (S1.trans (S3.trans (S7.trans S17))))) (show m.store = (storeM m (kQ_ id page) page text).store from by first | (rw [storeM_t (pageB_t (nf ‹_›) ‹_›), ← pageV_e ‹_›]) | (rw [storeM_t (pageB_t (nf ‹_›) ‹_›), ← pageV_e (Classical.not_not.1 ‹_›)]) | (rw [storeM_t (pageB_t (nf ‹_›) ‹_›), ← pageV_n ‹_›]) | (rw [storeM_t (pageB_t (nf ‹_›) ‹_›), ← pageV_n ‹_›]) | rw [storeM_f (pageB_f1 (nt ‹_›))] | rw [storeM_f (pageB_f2 ‹_›)] | with_reducible exact storeC_t (pageB_t (nf ‹_›) ‹_›) | with_reducible exact storeC_f (pageB_f1 (nt ‹_›)) | with_reducible exact storeC_f (pageB_f2 ‹_›))), (Rd.cast (Rd.give (Rd.mq Q19 (S1.trans (S3.trans (S7.trans S17))))) (show m.touch.reads = (storeM m (kQ_ id page) page text).touch.reads from by first | (rw [storeM_t (pageB_t (nf ‹_›) ‹_›), ← pageV_e ‹_›]) | (rw [storeM_t (pageB_t (nf ‹_›) ‹_›), ← pageV_e (Classical.not_not.1 ‹_›)]) | (rw [storeM_t (pageB_t (nf ‹_›) ‹_›), ← pageV_n ‹_›]) | (rw [storeM_t (pageB_t (nf ‹_›) ‹_›), ← pageV_n ‹_›]) | rw [storeM_f (pageB_f1 (nt ‹_›))] | rw [storeM_f (pageB_f2 ‹_›)] | with_reducible exact storeC_t (pageB_t (nf ‹_›) ‹_›) | with_reducible exact storeC_f (pageB_f1 (nt ‹_›)) | with_reducible exact storeC_f (pageB_f2 ‹_›))), (Rd.cast (Rd.give (Rd.mq Q20 (S1.trans (S3.trans (S7.trans S17))))) (show m.touch.writes = (storeM m (kQ_ id page) page text).touch.writes from by first | (rw [storeM_t (pageB_t (nf ‹_›) ‹_›), ← pageV_e ‹_›]) | (rw [storeM_t (pageB_t (nf ‹_›) ‹_›), ← pageV_e (Classical.not_not.1 ‹_›)]) | (rw [storeM_t (pageB_t (nf ‹_›) ‹_›), ← pageV_n ‹_›]) | (rw [storeM_t (pageB_t (nf ‹_›) ‹_›), ← pageV_n ‹_›]) | rw [storeM_f (pageB_f1 (nt ‹_›))] | rw [storeM_f (pageB_f2 ‹_›)] | with_reducible exact storeC_t (pageB_t (nf ‹_›) ‹_›) | with_reducible exact storeC_f (pageB_f1 (nt ‹_›)) | with_reducible exact storeC_f (pageB_f2 ‹_›)))⟩
 · rw [h11] at F10
   refine l_op (f_mv F10 (wanted_g F10 rfl rfl rfl rfl) rfl rfl rfl rfl fun _ F19 => ?_)
   refine l_op (f_val F19 (wanted_g F19 rfl rfl rfl rfl) rfl (r_lenS (fun t ht => by cases ht; exact Tryz.underlying9) rfl rfl (F19.ev 16 rfl)) rfl fun _ F20 => ?_)
   refine l_op (f_val F20 (wanted_g F20 rfl rfl rfl rfl) rfl (r_cmp (b := decide (text.size > 20)) (.inr (.inr (.inr (.inr (.inl rfl))))) rfl (F20.ev 17 rfl) rfl (dec_of (by omega))) rfl fun _ F21 => ?_)
   refine l_op (f_val F21 rfl rfl (r_pick (b := false) rfl (F21.ev 15 rfl) (F21.ev 18 rfl)) rfl fun _ F22 => ?_)
   refine s_end (x_normal (x_cond (p := text.size > 20) (F22.ev 19 rfl) (fun h23 => ?_) (fun h23 => ?_)))
   · skip
     refine wp_seq (wp_region_lit (l_op (f_val (v := .agg #[.slice m_Sa m_Sn m_Sc, .slice m_Ra m_Rn m_Rc, .slice m_Wa m_Wn m_Wc]) F22 rfl rfl (r_loadB S7.at' 1 TI_29 rfl rfl (F22.ev 4 rfl) rfl rfl (fun h => nomatch h) rfl) rfl fun _ F24 => ?_)))
     refine l_op (s_store S7.at' 0 TI_29 rfl rfl rfl rfl rfl (F24.ev 8 rfl) (F24.ev 20 rfl) rfl rfl rfl rfl rfl fun w25 S25 => ?_)
     refine l_op (f_val F24 rfl rfl (r_assign rfl rfl) rfl fun _ F26 => ?_)
     refine s_end (x_normal (wp_ret (x_then_ret ?_)))
     refine x_done (v := .tuple #[.agg #[.slice m_Sa m_Sn m_Sc, .slice m_Ra m_Rn m_Rc, .slice m_Wa m_Wn m_Wc], .int .i64 4]) F26 (results_2 Tryz.results41 (.cell (F26.ev 8 rfl) (run_loadVar' TI_29 _ [.slice m_Sa m_Sn m_Sc, .slice m_Ra m_Rn m_Rc, .slice m_Wa m_Wn m_Wc] rfl (fun h => nomatch h) (At.cells S25.at' 0 rfl 0 [.slice m_Sa m_Sn m_Sc, .slice m_Ra m_Rn m_Rc, .slice m_Wa m_Wn m_Wc] rfl))) (.tmp (F26.ev 9 rfl))) ?_
     exact ⟨m_Sa, m_Sn, m_Sc, m_Ra, m_Rn, m_Rc, m_Wa, m_Wn, m_Wc, (by rw [(show 4 = (storeC page text) from by first | (rw [storeM_t (pageB_t (nf ‹_›) ‹_›), ← pageV_e ‹_›]) | (rw [storeM_t (pageB_t (nf ‹_›) ‹_›), ← pageV_e (Classical.not_not.1 ‹_›)]) | (rw [storeM_t (pageB_t (nf ‹_›) ‹_›), ← pageV_n ‹_›]) | (rw [storeM_t (pageB_t (nf ‹_›) ‹_›), ← pageV_n ‹_›]) | rw [storeM_f (pageB_f1 (nt ‹_›))] | rw [storeM_f (pageB_f2 ‹_›)] | with_reducible exact storeC_t (pageB_t (nf ‹_›) ‹_›) | with_reducible exact storeC_f (pageB_f1 (nt ‹_›)) | with_reducible exact storeC_f (pageB_f2 ‹_›))]), (Mv.pick (S1.trans (S3.trans (S7.trans S25))) [] rfl), (Rd.cast (Rd.give (Rd.mq Q18 (S1.trans (S3.trans (S7.trans S25))))) (show m.store = (storeM m (kQ_ id page) page text).store from by first | (rw [storeM_t (pageB_t (nf ‹_›) ‹_›), ← pageV_e ‹_›]) | (rw [storeM_t (pageB_t (nf ‹_›) ‹_›), ← pageV_e (Classical.not_not.1 ‹_›)]) | (rw [storeM_t (pageB_t (nf ‹_›) ‹_›), ← pageV_n ‹_›]) | (rw [storeM_t (pageB_t (nf ‹_›) ‹_›), ← pageV_n ‹_›]) | rw [storeM_f (pageB_f1 (nt ‹_›))] | rw [storeM_f (pageB_f2 ‹_›)] | with_reducible exact storeC_t (pageB_t (nf ‹_›) ‹_›) | with_reducible exact storeC_f (pageB_f1 (nt ‹_›)) | with_reducible exact storeC_f (pageB_f2 ‹_›))), (Rd.cast (Rd.give (Rd.mq Q19 (S1.trans (S3.trans (S7.trans S25))))) (show m.touch.reads = (storeM m (kQ_ id page) page text).touch.reads from by first | (rw [storeM_t (pageB_t (nf ‹_›) ‹_›), ← pageV_e ‹_›]) | (rw [storeM_t (pageB_t (nf ‹_›) ‹_›), ← pageV_e (Classical.not_not.1 ‹_›)]) | (rw [storeM_t (pageB_t (nf ‹_›) ‹_›), ← pageV_n ‹_›]) | (rw [storeM_t (pageB_t (nf ‹_›) ‹_›), ← pageV_n ‹_›]) | rw [storeM_f (pageB_f1 (nt ‹_›))] | rw [storeM_f (pageB_f2 ‹_›)] | with_reducible exact storeC_t (pageB_t (nf ‹_›) ‹_›) | with_reducible exact storeC_f (pageB_f1 (nt ‹_›)) | with_reducible exact storeC_f (pageB_f2 ‹_›))), (Rd.cast (Rd.give (Rd.mq Q20 (S1.trans (S3.trans (S7.trans S25))))) (show m.touch.writes = (storeM m (kQ_ id page) page text).touch.writes from by first | (rw [storeM_t (pageB_t (nf ‹_›) ‹_›), ← pageV_e ‹_›]) | (rw [storeM_t (pageB_t (nf ‹_›) ‹_›), ← pageV_e (Classical.not_not.1 ‹_›)]) | (rw [storeM_t (pageB_t (nf ‹_›) ‹_›), ← pageV_n ‹_›]) | (rw [storeM_t (pageB_t (nf ‹_›) ‹_›), ← pageV_n ‹_›]) | rw [storeM_f (pageB_f1 (nt ‹_›))] | rw [storeM_f (pageB_f2 ‹_›)] | with_reducible exact storeC_t (pageB_t (nf ‹_›) ‹_›) | with_reducible exact storeC_f (pageB_f1 (nt ‹_›)) | with_reducible exact storeC_f (pageB_f2 ‹_›)))⟩
   · skip
     refine wp_skip (x_normal (wp_seq (wp_seq (wp_region_lit (l_op (f_mv F22 rfl rfl rfl rfl rfl fun _ F27 => ?_))))))
     refine l_op (f_val F27 rfl rfl (r_cmps (b := (decide (text = bE_))) (.inl rfl) rfl (F27.ev 21 rfl) rfl rfl) rfl fun _ F28 => ?_)
     refine s_end (x_normal (x_cond (p := text = bE_) (F28.ev 22 rfl) (fun h29 => ?_) (fun h29 => ?_)))
     · skip
       refine wp_seq ?_
       refine x_draw (fun aZ wZ => ∃ (Q6 : Option Addr), ∃ (Q10 : Nat), ∃ (Q8 : Nat), ∃ (Q0 : Option Addr), ∃ (Q4 : Nat), ∃ (Q2 : Nat), ∃ (Q12 : Option Addr), ∃ (Q16 : Nat), ∃ (Q14 : Nat), Fr 42 [(8, .pointer (some ⟨b3, 0, none⟩)), (9, .int .i64 0)] aZ ∧ Mv [bx b3 [.slice none 0 0, .slice none 0 0, .slice none 0 0] 29, bx b1 [.slice m_Sa m_Sn m_Sc, .slice m_Ra m_Rn m_Rc, .slice m_Wa m_Wn m_Wc] 29] w7 [bx b3 [.slice Q6 Q10 Q8, .slice Q0 Q4 Q2, .slice Q12 Q16 Q14] 29, bx b1 [.slice m_Sa m_Sn m_Sc, .slice m_Ra m_Rn m_Rc, .slice m_Wa m_Wn m_Wc] 29] wZ ∧ Rd 2 encC okC (V H w [bx b3 [.slice Q6 Q10 Q8, .slice Q0 Q4 Q2, .slice Q12 Q16 Q14] 29, bx b1 [.slice m_Sa m_Sn m_Sc, .slice m_Ra m_Rn m_Rc, .slice m_Wa m_Wn m_Wc] 29]) wZ (.slice Q6 Q10 Q8) (layM m (kQ_ id page) bE_).store ∧ Rd 1 encS okS (V H w [bx b3 [.slice Q6 Q10 Q8, .slice Q0 Q4 Q2, .slice Q12 Q16 Q14] 29, bx b1 [.slice m_Sa m_Sn m_Sc, .slice m_Ra m_Rn m_Rc, .slice m_Wa m_Wn m_Wc] 29]) wZ (.slice Q0 Q4 Q2) (layM m (kQ_ id page) bE_).touch.reads ∧ Rd 1 encS okS (V H w [bx b3 [.slice Q6 Q10 Q8, .slice Q0 Q4 Q2, .slice Q12 Q16 Q14] 29, bx b1 [.slice m_Sa m_Sn m_Sc, .slice m_Ra m_Rn m_Rc, .slice m_Wa m_Wn m_Wc] 29]) wZ (.slice Q12 Q16 Q14) (layM m (kQ_ id page) bE_).touch.writes) [bx b1 [.slice m_Sa m_Sn m_Sc, .slice m_Ra m_Rn m_Rc, .slice m_Wa m_Wn m_Wc] 29] mixed S7.at' (listed := #[false, false, false, false, false, false, false, false]) rfl (fun w31 S31 => ?_) [1] rfl ?_
       · skip
         refine g_take (v := .agg #[.slice m_Sa m_Sn m_Sc, .slice m_Ra m_Rn m_Rc, .slice m_Wa m_Wn m_Wc]) F28 rfl (i := 0) (listed' := #[true, false, false, false, false, false, false, false]) rfl (by kernel_rfl) (by kernel_rfl) (by kernel_rfl) (fun _ _ _ h => h) (Sd.of (Mv.refl S31.at') [1] rfl) rfl rfl rfl rfl (fun _ hz => (r_loadX (hz.bx 0 rfl) TI_29 rfl (F28.ev 4 rfl) rfl rfl (fun h => nomatch h) rfl)) fun _ F32 => ?_
         refine g_take F32 rfl (i := 1) (listed' := #[true, true, false, false, false, false, false, false]) rfl (by kernel_rfl) (by kernel_rfl) (by kernel_rfl) (fun _ _ _ h => h) (Sd.of (Mv.refl S31.at') [1] rfl) rfl rfl rfl rfl (fun _ hz => (r_move rfl (F32.ev 1 rfl))) fun _ F33 => ?_
         refine g_take F33 rfl (i := 3) (listed' := #[true, true, false, true, false, false, false, false]) rfl (by kernel_rfl) (by kernel_rfl) (by kernel_rfl) (fun _ _ _ h => h) (Sd.of (Mv.refl S31.at') [1] rfl) rfl rfl rfl rfl (fun _ hz => (r_move rfl (F33.ev 2 rfl))) fun _ F34 => ?_
         refine d_one (i := 2) (listed' := #[true, true, true, true, false, false, false, false]) rfl (by kernel_rfl) rfl rfl ?_
         refine f_call F34 CF_77 rfl rfl rfl rfl (lc (F34.ev 24 rfl) rfl) (spec_l11Head_c (H := fun _ => True) (id := id) h_id) ?_
         rintro _ w35 ⟨rfl, m35, Q35⟩
         refine ⟨_, rfl, fun _ F36 => ?_⟩
         have S35 := At.frame0 S31.at' m35
         clear m35
         refine ⟨Sd.of S35 [1] rfl, ?_⟩
         refine d_one (i := 4) (listed' := #[true, true, true, true, true, false, false, false]) rfl (by kernel_rfl) rfl rfl ?_
         refine f_call F36 CF_76 rfl rfl rfl rfl (lc (F36.ev 25 rfl) (lc (F36.ev 26 rfl) (lc rfl rfl))) (spec_KeyNum_c (H := fun _ => True) (head := kP_ id) (n := page) (tail := bE_) Q35 Q21 (by unfold okS; decide) (by first | assumption | omega | ((repeat first | apply b1_ | apply b2_ | apply b3_ | apply b4_ | apply b5_ | apply b6_); exact bdC.le ‹_› (by decide)) | decide | exact Nat.le_trans (keyNum_size _ _ ‹_›) (by decide)) (by first | assumption | omega | ((repeat first | apply b1_ | apply b2_ | apply b3_ | apply b4_ | apply b5_ | apply b6_); exact bdC.le ‹_› (by decide)) | decide | exact Nat.le_trans (keyNum_size _ _ ‹_›) (by decide))) ?_
         rintro _ w37 ⟨rfl, m37, Q36⟩
         refine ⟨_, rfl, fun _ F38 => ?_⟩
         have S37 := At.frame0 S35.at' m37
         clear m37
         refine ⟨Sd.of (S35.trans S37) [1] rfl, ?_⟩
         refine d_one (i := 5) (listed' := #[true, true, true, true, true, true, false, false]) rfl (by kernel_rfl) rfl rfl ?_
         refine f_call F38 CF_67 rfl rfl rfl rfl (lc (F38.ev 23 rfl) (lc (F38.ev 27 rfl) (lc rfl rfl))) (spec_l04Lay_c (m := m) (key := kQ_ id page) (val := bE_) (Rd.mq Q18 (S1.trans (S3.trans (S7.trans (S31.trans (S35.trans S37)))))) (Rd.mq Q19 (S1.trans (S3.trans (S7.trans (S31.trans (S35.trans S37)))))) (Rd.mq Q20 (S1.trans (S3.trans (S7.trans (S31.trans (S35.trans S37)))))) Q36 (by unfold okS; decide) (by first | assumption | omega | ((repeat first | apply b1_ | apply b2_ | apply b3_ | apply b4_ | apply b5_ | apply b6_); exact bdC.le ‹_› (by decide)) | decide | exact Nat.le_trans (keyNum_size _ _ ‹_›) (by decide)) (by first | assumption | omega | ((repeat first | apply b1_ | apply b2_ | apply b3_ | apply b4_ | apply b5_ | apply b6_); exact bdC.le ‹_› (by decide)) | decide | exact Nat.le_trans (keyNum_size _ _ ‹_›) (by decide))) ?_
         rintro _ w39 ⟨Q6, Q10, Q8, Q0, Q4, Q2, Q12, Q16, Q14, rfl, m39, v39_0, v39_1, v39_2⟩
         refine ⟨_, rfl, fun _ F40 => ?_⟩
         have S39 := At.frame0 S37.at' m39
         have V39_0 := Rd.got0 S37.at' ((S1.trans (S3.trans (S7.trans (S31.trans (S35.trans S37))))).kp.size) v39_0 S39
         obtain ⟨ln39_0, le39_0, mx39_0, ni39_0⟩ := Rd.inv V39_0
         have V39_1 := Rd.got0 S37.at' ((S1.trans (S3.trans (S7.trans (S31.trans (S35.trans S37))))).kp.size) v39_1 S39
         obtain ⟨ln39_1, le39_1, mx39_1, ni39_1⟩ := Rd.inv V39_1
         have V39_2 := Rd.got0 S37.at' ((S1.trans (S3.trans (S7.trans (S31.trans (S35.trans S37))))).kp.size) v39_2 S39
         obtain ⟨ln39_2, le39_2, mx39_2, ni39_2⟩ := Rd.inv V39_2
         clear m39 v39_0 v39_1 v39_2
         refine ⟨Sd.of (S35.trans (S37.trans S39)) [1] rfl, ?_⟩
         refine d_one (i := 6) (listed' := #[true, true, true, true, true, true, true, false]) rfl (by kernel_rfl) rfl rfl ?_
         refine s_store S39.at' 0 TI_29 rfl rfl rfl rfl rfl (F40.ev 8 rfl) (F40.ev 28 rfl) rfl rfl rfl rfl rfl fun w41 S41 => ?_
         refine ⟨Sd.of (S35.trans (S37.trans (S39.trans S41))) [1] rfl, ?_⟩
         refine g_take F40 rfl (i := 7) (listed' := #[true, true, true, true, true, true, true, true]) rfl (by kernel_rfl) (by kernel_rfl) (by kernel_rfl) (fun _ _ _ h => h) (Sd.of (S35.trans (S37.trans (S39.trans S41))) [1] rfl) rfl rfl rfl rfl (fun _ hz => (r_assign rfl rfl)) fun _ F42 => ?_
         refine wpAnyH_done (by kernel_rfl) (x_normal ?_) _
         exact ⟨Q6, Q10, Q8, Q0, Q4, Q2, Q12, Q16, Q14, F42.cut rfl, ((S31.trans (S35.trans (S37.trans (S39.trans S41)))).pick [0, 1] rfl), (Rd.mq V39_0 S41), (Rd.mq V39_1 S41), (Rd.mq V39_2 S41)⟩
       · rintro a43 w43 ⟨Q6, Q10, Q8, Q0, Q4, Q2, Q12, Q16, Q14, F43, S43, V43_0, V43_1, V43_2⟩
         obtain ⟨ln43_0, le43_0, mx43_0, ni43_0⟩ := Rd.inv V43_0
         obtain ⟨ln43_1, le43_1, mx43_1, ni43_1⟩ := Rd.inv V43_1
         obtain ⟨ln43_2, le43_2, mx43_2, ni43_2⟩ := Rd.inv V43_2
         refine x_normal (wp_ret (x_then_ret ?_))
         refine x_done (v := .tuple #[.agg #[.slice Q6 Q10 Q8, .slice Q0 Q4 Q2, .slice Q12 Q16 Q14], .int .i64 0]) F43 (results_2 Tryz.results41 (.cell (F43.ev 8 rfl) (run_loadVar' TI_29 _ [.slice Q6 Q10 Q8, .slice Q0 Q4 Q2, .slice Q12 Q16 Q14] rfl (fun h => nomatch h) (At.cells S43.at' 0 rfl 0 [.slice Q6 Q10 Q8, .slice Q0 Q4 Q2, .slice Q12 Q16 Q14] rfl))) (.tmp (F43.ev 9 rfl))) ?_
         exact ⟨Q6, Q10, Q8, Q0, Q4, Q2, Q12, Q16, Q14, (by rw [(show 0 = (storeC page text) from by first | (rw [storeM_t (pageB_t (nf ‹_›) ‹_›), ← pageV_e ‹_›]) | (rw [storeM_t (pageB_t (nf ‹_›) ‹_›), ← pageV_e (Classical.not_not.1 ‹_›)]) | (rw [storeM_t (pageB_t (nf ‹_›) ‹_›), ← pageV_n ‹_›]) | (rw [storeM_t (pageB_t (nf ‹_›) ‹_›), ← pageV_n ‹_›]) | rw [storeM_f (pageB_f1 (nt ‹_›))] | rw [storeM_f (pageB_f2 ‹_›)] | with_reducible exact storeC_t (pageB_t (nf ‹_›) ‹_›) | with_reducible exact storeC_f (pageB_f1 (nt ‹_›)) | with_reducible exact storeC_f (pageB_f2 ‹_›))]), (Mv.pick (S1.trans (S3.trans (S7.trans S43))) [] rfl), (Rd.cast (Rd.give V43_0) (show (layM m (kQ_ id page) bE_).store = (storeM m (kQ_ id page) page text).store from by first | (rw [storeM_t (pageB_t (nf ‹_›) ‹_›), ← pageV_e ‹_›]) | (rw [storeM_t (pageB_t (nf ‹_›) ‹_›), ← pageV_e (Classical.not_not.1 ‹_›)]) | (rw [storeM_t (pageB_t (nf ‹_›) ‹_›), ← pageV_n ‹_›]) | (rw [storeM_t (pageB_t (nf ‹_›) ‹_›), ← pageV_n ‹_›]) | rw [storeM_f (pageB_f1 (nt ‹_›))] | rw [storeM_f (pageB_f2 ‹_›)] | with_reducible exact storeC_t (pageB_t (nf ‹_›) ‹_›) | with_reducible exact storeC_f (pageB_f1 (nt ‹_›)) | with_reducible exact storeC_f (pageB_f2 ‹_›))), (Rd.cast (Rd.give V43_1) (show (layM m (kQ_ id page) bE_).touch.reads = (storeM m (kQ_ id page) page text).touch.reads from by first | (rw [storeM_t (pageB_t (nf ‹_›) ‹_›), ← pageV_e ‹_›]) | (rw [storeM_t (pageB_t (nf ‹_›) ‹_›), ← pageV_e (Classical.not_not.1 ‹_›)]) | (rw [storeM_t (pageB_t (nf ‹_›) ‹_›), ← pageV_n ‹_›]) | (rw [storeM_t (pageB_t (nf ‹_›) ‹_›), ← pageV_n ‹_›]) | rw [storeM_f (pageB_f1 (nt ‹_›))] | rw [storeM_f (pageB_f2 ‹_›)] | with_reducible exact storeC_t (pageB_t (nf ‹_›) ‹_›) | with_reducible exact storeC_f (pageB_f1 (nt ‹_›)) | with_reducible exact storeC_f (pageB_f2 ‹_›))), (Rd.cast (Rd.give V43_2) (show (layM m (kQ_ id page) bE_).touch.writes = (storeM m (kQ_ id page) page text).touch.writes from by first | (rw [storeM_t (pageB_t (nf ‹_›) ‹_›), ← pageV_e ‹_›]) | (rw [storeM_t (pageB_t (nf ‹_›) ‹_›), ← pageV_e (Classical.not_not.1 ‹_›)]) | (rw [storeM_t (pageB_t (nf ‹_›) ‹_›), ← pageV_n ‹_›]) | (rw [storeM_t (pageB_t (nf ‹_›) ‹_›), ← pageV_n ‹_›]) | rw [storeM_f (pageB_f1 (nt ‹_›))] | rw [storeM_f (pageB_f2 ‹_›)] | with_reducible exact storeC_t (pageB_t (nf ‹_›) ‹_›) | with_reducible exact storeC_f (pageB_f1 (nt ‹_›)) | with_reducible exact storeC_f (pageB_f2 ‹_›)))⟩
     · skip
       refine wp_skip (x_normal (wp_seq (wp_region_lit (l_op (f_mv F28 rfl rfl rfl rfl rfl fun _ F44 => ?_)))))
       refine l_op (f_call F44 CF_78 rfl rfl rfl rfl (lc (F44.ev 30 rfl) rfl) (spec_Hex_c (H := fun _ => True) (text := text) Q34 (by first | assumption | omega | (simp <;> omega))) ?_)
       rintro _ w45 ⟨rfl, m45, Q51⟩
       refine ⟨_, rfl, fun _ F46 => ?_⟩
       have S45 := At.frame0 S7.at' m45
       clear m45
       refine l_op (f_mv F46 rfl rfl rfl rfl rfl fun _ F47 => ?_)
       refine l_op (f_val (v := .string (hexS text)) F47 rfl rfl (r_extract rfl (F47.ev 29 rfl) rfl) rfl fun _ F48 => ?_)
       refine l_op (f_val (v := .bool true) F48 rfl rfl (r_extract rfl (F48.ev 29 rfl) rfl) rfl fun _ F49 => ?_)
       refine l_op (f_as F49 rfl rfl rfl rfl rfl fun _ F50 => ?_)
       refine l_op (f_as F50 rfl rfl rfl rfl rfl fun _ F51 => ?_)
       refine s_end (x_normal (wp_seq ?_))
       refine x_draw (fun aZ wZ => ∃ (Q7 : Option Addr), ∃ (Q11 : Nat), ∃ (Q9 : Nat), ∃ (Q1 : Option Addr), ∃ (Q5 : Nat), ∃ (Q3 : Nat), ∃ (Q13 : Option Addr), ∃ (Q17 : Nat), ∃ (Q15 : Nat), Fr 42 [(8, .pointer (some ⟨b3, 0, none⟩)), (9, .int .i64 0)] aZ ∧ Mv [bx b3 [.slice none 0 0, .slice none 0 0, .slice none 0 0] 29, bx b1 [.slice m_Sa m_Sn m_Sc, .slice m_Ra m_Rn m_Rc, .slice m_Wa m_Wn m_Wc] 29] w45 [bx b3 [.slice Q7 Q11 Q9, .slice Q1 Q5 Q3, .slice Q13 Q17 Q15] 29, bx b1 [.slice m_Sa m_Sn m_Sc, .slice m_Ra m_Rn m_Rc, .slice m_Wa m_Wn m_Wc] 29] wZ ∧ Rd 2 encC okC (V H w [bx b3 [.slice Q7 Q11 Q9, .slice Q1 Q5 Q3, .slice Q13 Q17 Q15] 29, bx b1 [.slice m_Sa m_Sn m_Sc, .slice m_Ra m_Rn m_Rc, .slice m_Wa m_Wn m_Wc] 29]) wZ (.slice Q7 Q11 Q9) (layM m (kQ_ id page) ((⟨#[45]⟩ : ByteArray) ++ (hexS text))).store ∧ Rd 1 encS okS (V H w [bx b3 [.slice Q7 Q11 Q9, .slice Q1 Q5 Q3, .slice Q13 Q17 Q15] 29, bx b1 [.slice m_Sa m_Sn m_Sc, .slice m_Ra m_Rn m_Rc, .slice m_Wa m_Wn m_Wc] 29]) wZ (.slice Q1 Q5 Q3) (layM m (kQ_ id page) ((⟨#[45]⟩ : ByteArray) ++ (hexS text))).touch.reads ∧ Rd 1 encS okS (V H w [bx b3 [.slice Q7 Q11 Q9, .slice Q1 Q5 Q3, .slice Q13 Q17 Q15] 29, bx b1 [.slice m_Sa m_Sn m_Sc, .slice m_Ra m_Rn m_Rc, .slice m_Wa m_Wn m_Wc] 29]) wZ (.slice Q13 Q17 Q15) (layM m (kQ_ id page) ((⟨#[45]⟩ : ByteArray) ++ (hexS text))).touch.writes) [bx b1 [.slice m_Sa m_Sn m_Sc, .slice m_Ra m_Rn m_Rc, .slice m_Wa m_Wn m_Wc] 29] mixed S45.at' (listed := #[false, false, false, false, false, false, false, false, false, false]) rfl (fun w53 S53 => ?_) [1] rfl ?_
       · skip
         refine g_take (v := .agg #[.slice m_Sa m_Sn m_Sc, .slice m_Ra m_Rn m_Rc, .slice m_Wa m_Wn m_Wc]) F51 rfl (i := 0) (listed' := #[true, false, false, false, false, false, false, false, false, false]) rfl (by kernel_rfl) (by kernel_rfl) (by kernel_rfl) (fun _ _ _ h => h) (Sd.of (Mv.refl S53.at') [1] rfl) rfl rfl rfl rfl (fun _ hz => (r_loadX (hz.bx 0 rfl) TI_29 rfl (F51.ev 4 rfl) rfl rfl (fun h => nomatch h) rfl)) fun _ F54 => ?_
         refine g_take F54 rfl (i := 1) (listed' := #[true, true, false, false, false, false, false, false, false, false]) rfl (by kernel_rfl) (by kernel_rfl) (by kernel_rfl) (fun _ _ _ h => h) (Sd.of (Mv.refl S53.at') [1] rfl) rfl rfl rfl rfl (fun _ hz => (r_move rfl (F54.ev 1 rfl))) fun _ F55 => ?_
         refine g_take F55 rfl (i := 3) (listed' := #[true, true, false, true, false, false, false, false, false, false]) rfl (by kernel_rfl) (by kernel_rfl) (by kernel_rfl) (fun _ _ _ h => h) (Sd.of (Mv.refl S53.at') [1] rfl) rfl rfl rfl rfl (fun _ hz => (r_move rfl (F55.ev 2 rfl))) fun _ F56 => ?_
         refine g_take F56 rfl (i := 5) (listed' := #[true, true, false, true, false, true, false, false, false, false]) rfl (by kernel_rfl) (by kernel_rfl) (by kernel_rfl) (fun _ _ _ h => h) (Sd.of (Mv.refl S53.at') [1] rfl) rfl rfl rfl rfl (fun _ hz => (r_move rfl (F56.ev 10 rfl))) fun _ F57 => ?_
         have k58 : (⟨#[45]⟩ : ByteArray).size + (hexS text).size ≤ 9223372036854775807 := by have : (⟨#[45]⟩ : ByteArray).size = 1 := rfl; have hh := hexS_size text; omega
         refine g_take F57 rfl (i := 6) (listed' := #[true, true, false, true, false, true, true, false, false, false]) rfl (by kernel_rfl) (by kernel_rfl) (by kernel_rfl) (fun _ _ _ h => h) (Sd.of (Mv.refl S53.at') [1] rfl) rfl rfl rfl rfl (fun _ hz => (r_cat rfl rfl (F57.ev 39 rfl) k58)) fun _ F59 => ?_
         refine d_one (i := 2) (listed' := #[true, true, true, true, false, true, true, false, false, false]) rfl (by kernel_rfl) rfl rfl ?_
         refine f_call F59 CF_77 rfl rfl rfl rfl (lc (F59.ev 35 rfl) rfl) (spec_l11Head_c (H := fun _ => True) (id := id) h_id) ?_
         rintro _ w60 ⟨rfl, m60, Q37⟩
         refine ⟨_, rfl, fun _ F61 => ?_⟩
         have S60 := At.frame0 S53.at' m60
         clear m60
         refine ⟨Sd.of S60 [1] rfl, ?_⟩
         refine d_one (i := 4) (listed' := #[true, true, true, true, true, true, true, false, false, false]) rfl (by kernel_rfl) rfl rfl ?_
         refine f_call F61 CF_76 rfl rfl rfl rfl (lc (F61.ev 36 rfl) (lc (F61.ev 37 rfl) (lc rfl rfl))) (spec_KeyNum_c (H := fun _ => True) (head := kP_ id) (n := page) (tail := bE_) Q37 Q21 (by unfold okS; decide) (by first | assumption | omega | ((repeat first | apply b1_ | apply b2_ | apply b3_ | apply b4_ | apply b5_ | apply b6_); exact bdC.le ‹_› (by decide)) | decide | exact Nat.le_trans (keyNum_size _ _ ‹_›) (by decide)) (by first | assumption | omega | ((repeat first | apply b1_ | apply b2_ | apply b3_ | apply b4_ | apply b5_ | apply b6_); exact bdC.le ‹_› (by decide)) | decide | exact Nat.le_trans (keyNum_size _ _ ‹_›) (by decide))) ?_
         rintro _ w62 ⟨rfl, m62, Q38⟩
         refine ⟨_, rfl, fun _ F63 => ?_⟩
         have S62 := At.frame0 S60.at' m62
         clear m62
         refine ⟨Sd.of (S60.trans S62) [1] rfl, ?_⟩
         refine d_one (i := 7) (listed' := #[true, true, true, true, true, true, true, true, false, false]) rfl (by kernel_rfl) rfl rfl ?_
         refine f_call F63 CF_67 rfl rfl rfl rfl (lc (F63.ev 34 rfl) (lc (F63.ev 38 rfl) (lc (F63.ev 40 rfl) rfl))) (spec_l04Lay_c (m := m) (key := kQ_ id page) (val := (⟨#[45]⟩ : ByteArray) ++ (hexS text)) (Rd.mq Q18 (S1.trans (S3.trans (S7.trans (S45.trans (S53.trans (S60.trans S62))))))) (Rd.mq Q19 (S1.trans (S3.trans (S7.trans (S45.trans (S53.trans (S60.trans S62))))))) (Rd.mq Q20 (S1.trans (S3.trans (S7.trans (S45.trans (S53.trans (S60.trans S62))))))) Q38 (okS_cat k58) (by first | assumption | omega | ((repeat first | apply b1_ | apply b2_ | apply b3_ | apply b4_ | apply b5_ | apply b6_); exact bdC.le ‹_› (by decide)) | decide | exact Nat.le_trans (keyNum_size _ _ ‹_›) (by decide)) (by first | assumption | omega | ((repeat first | apply b1_ | apply b2_ | apply b3_ | apply b4_ | apply b5_ | apply b6_); exact bdC.le ‹_› (by decide)) | decide | exact Nat.le_trans (keyNum_size _ _ ‹_›) (by decide))) ?_
         rintro _ w64 ⟨Q7, Q11, Q9, Q1, Q5, Q3, Q13, Q17, Q15, rfl, m64, v64_0, v64_1, v64_2⟩
         refine ⟨_, rfl, fun _ F65 => ?_⟩
         have S64 := At.frame0 S62.at' m64
         have V64_0 := Rd.got0 S62.at' ((S1.trans (S3.trans (S7.trans (S45.trans (S53.trans (S60.trans S62)))))).kp.size) v64_0 S64
         obtain ⟨ln64_0, le64_0, mx64_0, ni64_0⟩ := Rd.inv V64_0
         have V64_1 := Rd.got0 S62.at' ((S1.trans (S3.trans (S7.trans (S45.trans (S53.trans (S60.trans S62)))))).kp.size) v64_1 S64
         obtain ⟨ln64_1, le64_1, mx64_1, ni64_1⟩ := Rd.inv V64_1
         have V64_2 := Rd.got0 S62.at' ((S1.trans (S3.trans (S7.trans (S45.trans (S53.trans (S60.trans S62)))))).kp.size) v64_2 S64
         obtain ⟨ln64_2, le64_2, mx64_2, ni64_2⟩ := Rd.inv V64_2
         clear m64 v64_0 v64_1 v64_2
         refine ⟨Sd.of (S60.trans (S62.trans S64)) [1] rfl, ?_⟩
         refine d_one (i := 8) (listed' := #[true, true, true, true, true, true, true, true, true, false]) rfl (by kernel_rfl) rfl rfl ?_
         refine s_store S64.at' 0 TI_29 rfl rfl rfl rfl rfl (F65.ev 8 rfl) (F65.ev 41 rfl) rfl rfl rfl rfl rfl fun w66 S66 => ?_
         refine ⟨Sd.of (S60.trans (S62.trans (S64.trans S66))) [1] rfl, ?_⟩
         refine g_take F65 rfl (i := 9) (listed' := #[true, true, true, true, true, true, true, true, true, true]) rfl (by kernel_rfl) (by kernel_rfl) (by kernel_rfl) (fun _ _ _ h => h) (Sd.of (S60.trans (S62.trans (S64.trans S66))) [1] rfl) rfl rfl rfl rfl (fun _ hz => (r_assign rfl rfl)) fun _ F67 => ?_
         refine wpAnyH_done (by kernel_rfl) (x_normal ?_) _
         exact ⟨Q7, Q11, Q9, Q1, Q5, Q3, Q13, Q17, Q15, F67.cut rfl, ((S53.trans (S60.trans (S62.trans (S64.trans S66)))).pick [0, 1] rfl), (Rd.mq V64_0 S66), (Rd.mq V64_1 S66), (Rd.mq V64_2 S66)⟩
       · rintro a68 w68 ⟨Q7, Q11, Q9, Q1, Q5, Q3, Q13, Q17, Q15, F68, S68, V68_0, V68_1, V68_2⟩
         obtain ⟨ln68_0, le68_0, mx68_0, ni68_0⟩ := Rd.inv V68_0
         obtain ⟨ln68_1, le68_1, mx68_1, ni68_1⟩ := Rd.inv V68_1
         obtain ⟨ln68_2, le68_2, mx68_2, ni68_2⟩ := Rd.inv V68_2
         refine x_normal (wp_ret ?_)
         refine x_done (v := .tuple #[.agg #[.slice Q7 Q11 Q9, .slice Q1 Q5 Q3, .slice Q13 Q17 Q15], .int .i64 0]) F68 (results_2 Tryz.results41 (.cell (F68.ev 8 rfl) (run_loadVar' TI_29 _ [.slice Q7 Q11 Q9, .slice Q1 Q5 Q3, .slice Q13 Q17 Q15] rfl (fun h => nomatch h) (At.cells S68.at' 0 rfl 0 [.slice Q7 Q11 Q9, .slice Q1 Q5 Q3, .slice Q13 Q17 Q15] rfl))) (.tmp (F68.ev 9 rfl))) ?_
         exact ⟨Q7, Q11, Q9, Q1, Q5, Q3, Q13, Q17, Q15, (by rw [(show 0 = (storeC page text) from by first | (rw [storeM_t (pageB_t (nf ‹_›) ‹_›), ← pageV_e ‹_›]) | (rw [storeM_t (pageB_t (nf ‹_›) ‹_›), ← pageV_e (Classical.not_not.1 ‹_›)]) | (rw [storeM_t (pageB_t (nf ‹_›) ‹_›), ← pageV_n ‹_›]) | (rw [storeM_t (pageB_t (nf ‹_›) ‹_›), ← pageV_n ‹_›]) | rw [storeM_f (pageB_f1 (nt ‹_›))] | rw [storeM_f (pageB_f2 ‹_›)] | with_reducible exact storeC_t (pageB_t (nf ‹_›) ‹_›) | with_reducible exact storeC_f (pageB_f1 (nt ‹_›)) | with_reducible exact storeC_f (pageB_f2 ‹_›))]), (Mv.pick (S1.trans (S3.trans (S7.trans (S45.trans S68)))) [] rfl), (Rd.cast (Rd.give V68_0) (show (layM m (kQ_ id page) ((⟨#[45]⟩ : ByteArray) ++ (hexS text))).store = (storeM m (kQ_ id page) page text).store from by first | (rw [storeM_t (pageB_t (nf ‹_›) ‹_›), ← pageV_e ‹_›]) | (rw [storeM_t (pageB_t (nf ‹_›) ‹_›), ← pageV_e (Classical.not_not.1 ‹_›)]) | (rw [storeM_t (pageB_t (nf ‹_›) ‹_›), ← pageV_n ‹_›]) | (rw [storeM_t (pageB_t (nf ‹_›) ‹_›), ← pageV_n ‹_›]) | rw [storeM_f (pageB_f1 (nt ‹_›))] | rw [storeM_f (pageB_f2 ‹_›)] | with_reducible exact storeC_t (pageB_t (nf ‹_›) ‹_›) | with_reducible exact storeC_f (pageB_f1 (nt ‹_›)) | with_reducible exact storeC_f (pageB_f2 ‹_›))), (Rd.cast (Rd.give V68_1) (show (layM m (kQ_ id page) ((⟨#[45]⟩ : ByteArray) ++ (hexS text))).touch.reads = (storeM m (kQ_ id page) page text).touch.reads from by first | (rw [storeM_t (pageB_t (nf ‹_›) ‹_›), ← pageV_e ‹_›]) | (rw [storeM_t (pageB_t (nf ‹_›) ‹_›), ← pageV_e (Classical.not_not.1 ‹_›)]) | (rw [storeM_t (pageB_t (nf ‹_›) ‹_›), ← pageV_n ‹_›]) | (rw [storeM_t (pageB_t (nf ‹_›) ‹_›), ← pageV_n ‹_›]) | rw [storeM_f (pageB_f1 (nt ‹_›))] | rw [storeM_f (pageB_f2 ‹_›)] | with_reducible exact storeC_t (pageB_t (nf ‹_›) ‹_›) | with_reducible exact storeC_f (pageB_f1 (nt ‹_›)) | with_reducible exact storeC_f (pageB_f2 ‹_›))), (Rd.cast (Rd.give V68_2) (show (layM m (kQ_ id page) ((⟨#[45]⟩ : ByteArray) ++ (hexS text))).touch.writes = (storeM m (kQ_ id page) page text).touch.writes from by first | (rw [storeM_t (pageB_t (nf ‹_›) ‹_›), ← pageV_e ‹_›]) | (rw [storeM_t (pageB_t (nf ‹_›) ‹_›), ← pageV_e (Classical.not_not.1 ‹_›)]) | (rw [storeM_t (pageB_t (nf ‹_›) ‹_›), ← pageV_n ‹_›]) | (rw [storeM_t (pageB_t (nf ‹_›) ‹_›), ← pageV_n ‹_›]) | rw [storeM_f (pageB_f1 (nt ‹_›))] | rw [storeM_f (pageB_f2 ‹_›)] | with_reducible exact storeC_t (pageB_t (nf ‹_›) ‹_›) | with_reducible exact storeC_f (pageB_f1 (nt ‹_›)) | with_reducible exact storeC_f (pageB_f2 ‹_›)))⟩
theorem impl_StorePage_c {w : World} {H : Nat → Prop} {m : MachD} {m_Sa : Option Addr} {m_Sn m_Sc : Nat} {m_Ra : Option Addr} {m_Rn m_Rc : Nat} {m_Wa : Option Addr} {m_Wn m_Wc : Nat} {id : Int} {page : Int} {text : ByteArray} (Q18 : Rd 2 encC okC H w (.slice m_Sa m_Sn m_Sc) m.store) (Q19 : Rd 1 encS okS H w (.slice m_Ra m_Rn m_Rc) m.touch.reads) (Q20 : Rd 1 encS okS H w (.slice m_Wa m_Wn m_Wc) m.touch.writes) (h_id : i64ok id) (Q24 : i64ok page) (Q25 : okS text) (tab0 : Tb 0 H w) (p0 : bdC 34359738368 m) :
    Calls Tryz.prog 7 #[.agg #[.slice m_Sa m_Sn m_Sc, .slice m_Ra m_Rn m_Rc, .slice m_Wa m_Wn m_Wc], .int .i64 id, .int .i64 page, .string text] w fun e w' => ∃ (Q12 : Option Addr), ∃ (Q14 : Nat), ∃ (Q13 : Nat), ∃ (Q9 : Option Addr), ∃ (Q11 : Nat), ∃ (Q10 : Nat), ∃ (Q15 : Option Addr), ∃ (Q17 : Nat), ∃ (Q16 : Nat), e = .returned (.tuple #[.agg #[.slice Q12 Q14 Q13, .slice Q9 Q11 Q10, .slice Q15 Q17 Q16], .int .i64 (storeC page text)]) ∧ Mv [] w [ow 73 2 encC okC (.slice Q12 Q14 Q13) (storeM m (kQ_ id page) page text).store, ow 9 1 encS okS (.slice Q9 Q11 Q10) (storeM m (kQ_ id page) page text).touch.reads, ow 9 1 encS okS (.slice Q15 Q17 Q16) (storeM m (kQ_ id page) page text).touch.writes] w' := by
 have uU : True := (fun _ => trivial) p0
 clear uU
 have Q21 : Rd 2 encC okC (V H w []) w (.slice m_Sa m_Sn m_Sc) m.store := Rd.start Q18 (fun _ _ => fps_nil _)
 obtain ⟨Q38, Q35, Q59, Q62⟩ := Rd.inv Q18
 have Q22 : Rd 1 encS okS (V H w []) w (.slice m_Ra m_Rn m_Rc) m.touch.reads := Rd.start Q19 (fun _ _ => fps_nil _)
 obtain ⟨Q39, Q36, Q60, Q63⟩ := Rd.inv Q19
 have Q23 : Rd 1 encS okS (V H w []) w (.slice m_Wa m_Wn m_Wc) m.touch.writes := Rd.start Q20 (fun _ _ => fps_nil _)
 obtain ⟨Q40, Q37, Q61, Q64⟩ := Rd.inv Q20
 have V_tab0 : Tb 0 (V H w []) w := Tb.start tab0 (fun _ _ => fps_nil _)
 refine calls_enter 19 Tryz.func7 rfl Tryz.ntmps7 (Nat.le_of_ble_eq_true rfl) (fun _ F0i => ?_)
 have F0 : Fr 19 [(0, .agg #[.slice m_Sa m_Sn m_Sc, .slice m_Ra m_Rn m_Rc, .slice m_Wa m_Wn m_Wc]), (1, .int .i64 id), (2, .int .i64 page), (3, .string text)] _ := F0i
 clear F0i
 refine wp_seq (wp_region_lit (l_op (f_box F0 (At.nil w) rfl rfl rfl (F0.ev 0 rfl) rfl rfl fun b1 _ w1 F2 S1 => ?_)))
 refine l_op (f_alloc F2 S1.at' ZI_29 rfl rfl rfl rfl rfl fun b3 _ w3 F4 S3 => ?_)
 refine l_op (f_val F4 rfl rfl (r_assign rfl rfl) rfl fun _ F5 => ?_)
 refine s_end (x_normal (wp_seq (wp_region_lit (l_op (f_val (v := .agg #[.slice m_Sa m_Sn m_Sc, .slice m_Ra m_Rn m_Rc, .slice m_Wa m_Wn m_Wc]) F5 rfl rfl (r_loadB S3.at' 1 TI_29 rfl rfl (F5.ev 4 rfl) rfl rfl (fun h => nomatch h) rfl) rfl fun _ F6 => ?_)))))
 refine l_op (f_call F6 CF_39 rfl rfl rfl rfl (lc (F6.ev 11 rfl) rfl) (impl_Mach_clone_c (m := m) (Rd.mq Q21 (S1.trans S3)) (Rd.mq Q22 (S1.trans S3)) (Rd.mq Q23 (S1.trans S3)) (by first | assumption | omega | ((repeat first | apply b1_ | apply b2_ | apply b3_ | apply b4_ | apply b5_ | apply b6_); exact bdC.le ‹_› (by decide)) | decide | exact Nat.le_trans (keyNum_size _ _ ‹_›) (by decide)) (by first | assumption | omega | ((repeat first | apply b1_ | apply b2_ | apply b3_ | apply b4_ | apply b5_ | apply b6_); exact bdC.le ‹_› (by decide)) | decide | exact Nat.le_trans (keyNum_size _ _ ‹_›) (by decide)) (by first | assumption | omega | ((repeat first | apply b1_ | apply b2_ | apply b3_ | apply b4_ | apply b5_ | apply b6_); exact bdC.le ‹_› (by decide)) | decide | exact Nat.le_trans (keyNum_size _ _ ‹_›) (by decide))) ?_)
 rintro _ w7 ⟨Q29, Q31, Q30, Q26, Q28, Q27, Q32, Q34, Q33, rfl, m7⟩
 refine ⟨_, rfl, fun _ F8 => ?_⟩
 have S7 : Mv _ _ [ow 73 2 encC okC (.slice Q29 Q31 Q30) m.store, ow 9 1 encS okS (.slice Q26 Q28 Q27) m.touch.reads, ow 9 1 encS okS (.slice Q32 Q34 Q33) m.touch.writes, bx b3 [.slice none 0 0, .slice none 0 0, .slice none 0 0] 29, bx b1 [.slice m_Sa m_Sn m_Sc, .slice m_Ra m_Rn m_Rc, .slice m_Wa m_Wn m_Wc] 29] _ := At.frame S3.at' [] rfl m7
 obtain ⟨Q44, Q50, Q56⟩ := At.ownInv S7.at' ET_24.hk 0 rfl
 obtain ⟨Q45, Q51, Q57⟩ := At.ownInv S7.at' ET_25.hk 1 rfl
 obtain ⟨Q46, Q52, Q58⟩ := At.ownInv S7.at' ET_25.hk 2 rfl
 clear m7
 refine l_op (s_store S7.at' 4 TI_29 rfl rfl rfl rfl rfl (F8.ev 4 rfl) (F8.ev 12 rfl) rfl rfl rfl rfl rfl fun w9 S9 => ?_)
 refine s_end (x_normal (wp_seq (wp_region_lit (l_op (f_mv F8 rfl rfl rfl rfl rfl fun _ F10 => ?_)))))
 refine l_op (f_mv F10 rfl rfl rfl rfl rfl fun _ F11 => ?_)
 refine l_op (f_mv F11 rfl rfl rfl rfl rfl fun _ F12 => ?_)
 refine l_op (f_call F12 CF_40 rfl rfl rfl rfl (lc (F12.ev 4 rfl) (lc (F12.ev 13 rfl) (lc (F12.ev 14 rfl) (lc (F12.ev 15 rfl) rfl)))) (impl_Mach_storePage_c (m := m) (id := id) (page := page) (text := text) h_id Q24 Q25 (Tb.mv V_tab0 (S1.trans (S3.trans (S7.trans S9)))) (by first | assumption | omega | ((repeat first | apply b1_ | apply b2_ | apply b3_ | apply b4_ | apply b5_ | apply b6_); exact bdC.le ‹_› (by decide)) | decide | exact Nat.le_trans (keyNum_size _ _ ‹_›) (by decide)) (At.pick (is := [0, 1, 2, 3]) S9.at' rfl) (V_off (is := [0, 1, 2, 3]))) ?_)
 rintro _ w13 ⟨Q3, Q5, Q4, Q0, Q2, Q1, Q6, Q8, Q7, rfl, m13⟩
 refine ⟨_, rfl, fun _ F14 => ?_⟩
 have S13 : Mv _ _ [bx b1 [.slice Q3 Q5 Q4, .slice Q0 Q2 Q1, .slice Q6 Q8 Q7] 29, ow 73 2 encC okC (.slice Q3 Q5 Q4) (storeM m (kQ_ id page) page text).store, ow 9 1 encS okS (.slice Q0 Q2 Q1) (storeM m (kQ_ id page) page text).touch.reads, ow 9 1 encS okS (.slice Q6 Q8 Q7) (storeM m (kQ_ id page) page text).touch.writes, bx b3 [.slice none 0 0, .slice none 0 0, .slice none 0 0] 29] _ := At.frame S9.at' [0, 1, 2, 3] rfl m13
 obtain ⟨Q41, Q47, Q53⟩ := At.ownInv S13.at' ET_24.hk 1 rfl
 obtain ⟨Q42, Q48, Q54⟩ := At.ownInv S13.at' ET_25.hk 2 rfl
 obtain ⟨Q43, Q49, Q55⟩ := At.ownInv S13.at' ET_25.hk 3 rfl
 clear m13
 refine l_op (f_as F14 rfl rfl rfl rfl rfl fun _ F15 => ?_)
 refine s_end (x_normal (wp_seq (wp_region_lit (l_op (f_val (v := .agg #[.slice Q3 Q5 Q4, .slice Q0 Q2 Q1, .slice Q6 Q8 Q7]) F15 rfl rfl (r_loadB S13.at' 0 TI_29 rfl rfl (F15.ev 4 rfl) rfl rfl (fun h => nomatch h) rfl) rfl fun _ F16 => ?_)))))
 refine l_op (f_mv F16 rfl rfl rfl rfl rfl fun _ F17 => ?_)
 refine l_op (s_store S13.at' 4 TI_29 rfl rfl rfl rfl rfl (F17.ev 8 rfl) (F17.ev 17 rfl) rfl rfl rfl rfl rfl fun w18 S18 => ?_)
 refine l_op (f_as F17 rfl rfl rfl rfl rfl fun _ F19 => ?_)
 have T20 : Mv _ _ [bx b3 [.slice Q3 Q5 Q4, .slice Q0 Q2 Q1, .slice Q6 Q8 Q7] 29, bx b1 [.slice Q3 Q5 Q4, .slice Q0 Q2 Q1, .slice Q6 Q8 Q7] 29, ow 73 2 encC okC (.slice Q3 Q5 Q4) (storeM m (kQ_ id page) page text).store, ow 9 1 encS okS (.slice Q0 Q2 Q1) (storeM m (kQ_ id page) page text).touch.reads, ow 9 1 encS okS (.slice Q6 Q8 Q7) (storeM m (kQ_ id page) page text).touch.writes] _ := S18
 refine s_end (x_normal (wp_ret ?_))
 refine x_done (v := .tuple #[.agg #[.slice Q3 Q5 Q4, .slice Q0 Q2 Q1, .slice Q6 Q8 Q7], .int .i64 (storeC page text)]) F19 (results_2 Tryz.results7 (.cell (F19.ev 8 rfl) (run_loadVar' TI_29 _ [.slice Q3 Q5 Q4, .slice Q0 Q2 Q1, .slice Q6 Q8 Q7] rfl (fun h => nomatch h) (At.cells T20.at' 0 rfl 0 [.slice Q3 Q5 Q4, .slice Q0 Q2 Q1, .slice Q6 Q8 Q7] rfl))) (.tmp (F19.ev 9 rfl))) ?_
 exact ⟨Q3, Q5, Q4, Q0, Q2, Q1, Q6, Q8, Q7, rfl, (Mv.pick (S1.trans (S3.trans (S7.trans (S9.trans (S13.trans T20))))) [2, 3, 4] rfl)⟩
theorem spec_StorePage_c {w : World} {H : Nat → Prop} {m : MachD} {m_Sa : Option Addr} {m_Sn m_Sc : Nat} {m_Ra : Option Addr} {m_Rn m_Rc : Nat} {m_Wa : Option Addr} {m_Wn m_Wc : Nat} {id : Int} {page : Int} {text : ByteArray} (Q18 : Rd 2 encC okC H w (.slice m_Sa m_Sn m_Sc) m.store) (Q19 : Rd 1 encS okS H w (.slice m_Ra m_Rn m_Rc) m.touch.reads) (Q20 : Rd 1 encS okS H w (.slice m_Wa m_Wn m_Wc) m.touch.writes) (h_id : i64ok id) (Q24 : i64ok page) (Q25 : okS text) (p0 : bdC 34359738368 m) :
    Calls Tryz.prog 8 #[.agg #[.slice m_Sa m_Sn m_Sc, .slice m_Ra m_Rn m_Rc, .slice m_Wa m_Wn m_Wc], .int .i64 id, .int .i64 page, .string text] w fun e w' => ∃ (Q12 : Option Addr), ∃ (Q14 : Nat), ∃ (Q13 : Nat), ∃ (Q9 : Option Addr), ∃ (Q11 : Nat), ∃ (Q10 : Nat), ∃ (Q15 : Option Addr), ∃ (Q17 : Nat), ∃ (Q16 : Nat), e = .returned (.tuple #[.agg #[.slice Q12 Q14 Q13, .slice Q9 Q11 Q10, .slice Q15 Q17 Q16], .int .i64 (storeC page text)]) ∧ Mv [] w [] w' ∧ Rd 2 encC okC (Fsh H w) w' (.slice Q12 Q14 Q13) (storeM m (kQ_ id page) page text).store ∧ Rd 1 encS okS (Fsh H w) w' (.slice Q9 Q11 Q10) (storeM m (kQ_ id page) page text).touch.reads ∧ Rd 1 encS okS (Fsh H w) w' (.slice Q15 Q17 Q16) (storeM m (kQ_ id page) page text).touch.writes := by
 have uU : True := (fun _ => trivial) p0
 clear uU
 have Q21 : Rd 2 encC okC (V H w []) w (.slice m_Sa m_Sn m_Sc) m.store := Rd.start Q18 (fun _ _ => fps_nil _)
 obtain ⟨Q29, Q26, Q32, Q35⟩ := Rd.inv Q18
 have Q22 : Rd 1 encS okS (V H w []) w (.slice m_Ra m_Rn m_Rc) m.touch.reads := Rd.start Q19 (fun _ _ => fps_nil _)
 obtain ⟨Q30, Q27, Q33, Q36⟩ := Rd.inv Q19
 have Q23 : Rd 1 encS okS (V H w []) w (.slice m_Wa m_Wn m_Wc) m.touch.writes := Rd.start Q20 (fun _ _ => fps_nil _)
 obtain ⟨Q31, Q28, Q34, Q37⟩ := Rd.inv Q20
 refine calls_enter 18 Tryz.func8 rfl Tryz.ntmps8 (Nat.le_of_ble_eq_true rfl) (fun _ F0i => ?_)
 have F0 : Fr 18 [(0, .agg #[.slice m_Sa m_Sn m_Sc, .slice m_Ra m_Rn m_Rc, .slice m_Wa m_Wn m_Wc]), (1, .int .i64 id), (2, .int .i64 page), (3, .string text)] _ := F0i
 clear F0i
 refine wp_seq (wp_region_lit (l_op (f_box F0 (At.nil w) rfl rfl rfl (F0.ev 0 rfl) rfl rfl fun b1 _ w1 F2 S1 => ?_)))
 refine l_op (f_alloc F2 S1.at' ZI_29 rfl rfl rfl rfl rfl fun b3 _ w3 F4 S3 => ?_)
 refine l_op (f_val F4 rfl rfl (r_assign rfl rfl) rfl fun _ F5 => ?_)
 refine s_end (x_normal (wp_seq (wp_region_lit (l_op (f_val (v := .agg #[.slice m_Sa m_Sn m_Sc, .slice m_Ra m_Rn m_Rc, .slice m_Wa m_Wn m_Wc]) F5 rfl rfl (r_loadB S3.at' 1 TI_29 rfl rfl (F5.ev 4 rfl) rfl rfl (fun h => nomatch h) rfl) rfl fun _ F6 => ?_)))))
 refine l_op (f_call F6 CF_42 rfl rfl rfl rfl (lc (F6.ev 10 rfl) rfl) (spec_l04Copy_c (m := m) (Rd.mq Q21 (S1.trans S3)) (Rd.mq Q22 (S1.trans S3)) (Rd.mq Q23 (S1.trans S3)) (by first | assumption | omega | ((repeat first | apply b1_ | apply b2_ | apply b3_ | apply b4_ | apply b5_ | apply b6_); exact bdC.le ‹_› (by decide)) | decide | exact Nat.le_trans (keyNum_size _ _ ‹_›) (by decide)) (by first | assumption | omega | ((repeat first | apply b1_ | apply b2_ | apply b3_ | apply b4_ | apply b5_ | apply b6_); exact bdC.le ‹_› (by decide)) | decide | exact Nat.le_trans (keyNum_size _ _ ‹_›) (by decide)) (by first | assumption | omega | ((repeat first | apply b1_ | apply b2_ | apply b3_ | apply b4_ | apply b5_ | apply b6_); exact bdC.le ‹_› (by decide)) | decide | exact Nat.le_trans (keyNum_size _ _ ‹_›) (by decide))) ?_)
 rintro _ w7 ⟨Q41, Q43, Q42, Q38, Q40, Q39, Q44, Q46, Q45, rfl, m7, v7_0, v7_1, v7_2⟩
 refine ⟨_, rfl, fun _ F8 => ?_⟩
 have S7 := At.frame0 S3.at' m7
 have V7_0 := Rd.got0 S3.at' ((S1.trans S3).kp.size) v7_0 S7
 obtain ⟨ln7_0, le7_0, mx7_0, ni7_0⟩ := Rd.inv V7_0
 have V7_1 := Rd.got0 S3.at' ((S1.trans S3).kp.size) v7_1 S7
 obtain ⟨ln7_1, le7_1, mx7_1, ni7_1⟩ := Rd.inv V7_1
 have V7_2 := Rd.got0 S3.at' ((S1.trans S3).kp.size) v7_2 S7
 obtain ⟨ln7_2, le7_2, mx7_2, ni7_2⟩ := Rd.inv V7_2
 clear m7 v7_0 v7_1 v7_2
 refine l_op (f_mv F8 rfl rfl rfl rfl rfl fun _ F9 => ?_)
 refine l_op (f_mv F9 rfl rfl rfl rfl rfl fun _ F10 => ?_)
 refine l_op (f_mv F10 rfl rfl rfl rfl rfl fun _ F11 => ?_)
 refine l_op (f_call F11 CF_41 rfl rfl rfl rfl (lc (F11.ev 11 rfl) (lc (F11.ev 12 rfl) (lc (F11.ev 13 rfl) (lc (F11.ev 14 rfl) rfl)))) (spec_l11StorePage_c (m := m) (id := id) (page := page) (text := text) V7_0 V7_1 V7_2 h_id Q24 Q25 (by first | assumption | omega | ((repeat first | apply b1_ | apply b2_ | apply b3_ | apply b4_ | apply b5_ | apply b6_); exact bdC.le ‹_› (by decide)) | decide | exact Nat.le_trans (keyNum_size _ _ ‹_›) (by decide))) ?_)
 rintro _ w12 ⟨Q3, Q5, Q4, Q0, Q2, Q1, Q6, Q8, Q7, rfl, m12, v12_0, v12_1, v12_2⟩
 refine ⟨_, rfl, fun _ F13 => ?_⟩
 have S12 := At.frame0 S7.at' m12
 have V12_0 := Rd.got0 S7.at' ((S1.trans (S3.trans S7)).kp.size) v12_0 S12
 obtain ⟨ln12_0, le12_0, mx12_0, ni12_0⟩ := Rd.inv V12_0
 have V12_1 := Rd.got0 S7.at' ((S1.trans (S3.trans S7)).kp.size) v12_1 S12
 obtain ⟨ln12_1, le12_1, mx12_1, ni12_1⟩ := Rd.inv V12_1
 have V12_2 := Rd.got0 S7.at' ((S1.trans (S3.trans S7)).kp.size) v12_2 S12
 obtain ⟨ln12_2, le12_2, mx12_2, ni12_2⟩ := Rd.inv V12_2
 clear m12 v12_0 v12_1 v12_2
 refine l_op (f_val (v := .agg #[.slice Q3 Q5 Q4, .slice Q0 Q2 Q1, .slice Q6 Q8 Q7]) F13 rfl rfl (r_extract rfl (F13.ev 15 rfl) rfl) rfl fun _ F14 => ?_)
 refine l_op (f_val (v := .int .i64 (storeC page text)) F14 rfl rfl (r_extract rfl (F14.ev 15 rfl) rfl) rfl fun _ F15 => ?_)
 refine l_op (s_store S12.at' 0 TI_29 rfl rfl rfl rfl rfl (F15.ev 8 rfl) (F15.ev 16 rfl) rfl rfl rfl rfl rfl fun w16 S16 => ?_)
 refine l_op (f_as F15 rfl rfl rfl rfl rfl fun _ F17 => ?_)
 refine s_end (x_normal (wp_ret ?_))
 refine x_done (v := .tuple #[.agg #[.slice Q3 Q5 Q4, .slice Q0 Q2 Q1, .slice Q6 Q8 Q7], .int .i64 (storeC page text)]) F17 (results_2 Tryz.results8 (.cell (F17.ev 8 rfl) (run_loadVar' TI_29 _ [.slice Q3 Q5 Q4, .slice Q0 Q2 Q1, .slice Q6 Q8 Q7] rfl (fun h => nomatch h) (At.cells S16.at' 0 rfl 0 [.slice Q3 Q5 Q4, .slice Q0 Q2 Q1, .slice Q6 Q8 Q7] rfl))) (.tmp (F17.ev 9 rfl))) ?_
 exact ⟨Q3, Q5, Q4, Q0, Q2, Q1, Q6, Q8, Q7, rfl, (Mv.pick (S1.trans (S3.trans (S7.trans (S12.trans S16)))) [] rfl), (Rd.give (Rd.mq V12_0 S16)), (Rd.give (Rd.mq V12_1 S16)), (Rd.give (Rd.mq V12_2 S16))⟩
end Go.Proofs.YtibgmijfnbnfkaaGreatDoor
