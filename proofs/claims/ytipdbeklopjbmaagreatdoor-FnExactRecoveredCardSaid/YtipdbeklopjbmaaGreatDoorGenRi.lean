/-
  Walks: records, one behind the other.
-/
import Derived.Test.YtipdbeklopjbmaaGreatDoorGenRh
import Derived.Test.YtipdbeklopjbmaaGreatDoorP22

namespace Go.Proofs.YtipdbeklopjbmaaGreatDoor
open Go.ChangeShapes Go.WideShapes Go.ChangeAt Go.RowKit
set_option maxRecDepth 100000
set_option maxHeartbeats 1000000
theorem impl_RecordsIn_c {w : World} {H : Nat → Prop} {text : ByteArray} {frm : Int} (Q7 : okS text) (Q6 : i64ok frm) (tab0 : Tb 0 H w) (tab1 : Tb 1 H w) (tab2 : Tb 2 H w) (p0 : text.size ≤ 1048576) :
    Calls Tryz.prog 45 #[.string text, .int .i64 frm] w fun e w' => ∃ (R : List CsH), ∃ (r0_a : Option Addr), ∃ (r0_n : Nat), ∃ (r0_c : Nat), e = .returned (.tuple #[.slice r0_a r0_n r0_c, .int .i64 (((recsIn text frm).2 : Nat) : Int)]) ∧ Mv [] w [ow 28 1 encCs okCs (.slice r0_a r0_n r0_c) R, gr inCs R] w' ∧ R.map CsH.d = (recsIn text frm).1 := by
 have uU : True := (fun _ => trivial) p0
 clear uU
 have V_tab0 : Tb 0 (V H w []) w := Tb.start tab0 (fun _ _ => fps_nil _)
 have V_tab1 : Tb 1 (V H w []) w := Tb.start tab1 (fun _ _ => fps_nil _)
 have V_tab2 : Tb 2 (V H w []) w := Tb.start tab2 (fun _ _ => fps_nil _)
 refine calls_enter 65 Tryz.func45 rfl Tryz.ntmps45 (Nat.le_of_ble_eq_true rfl) (fun _ F0i => ?_)
 have F0 : Fr 65 [(0, .string text), (1, .int .i64 frm)] _ := F0i
 clear F0i
 refine wp_seq (wp_region_lit (l_op (f_val F0 rfl rfl (r_assign rfl rfl) rfl fun _ F1 => ?_)))
 refine l_op (f_val F1 rfl rfl (r_assign rfl rfl) rfl fun _ F2 => ?_)
 refine s_end (x_normal (wp_seq (wp_seq (wp_region_lit (l_op (f_mv F2 rfl rfl rfl rfl rfl fun _ F3 => ?_))))))
 refine l_op (f_call F3 CF_93 rfl rfl rfl rfl (lc (F3.ev 14 rfl) (lc rfl (lc rfl rfl))) (impl_within_c (H := fun _ => True) (n := frm) (low := 1) (high := 100000) Q6 (by first | assumption | exact ⟨by omega, by omega⟩ | (unfold i64ok at *; omega)) (by first | assumption | exact ⟨by omega, by omega⟩ | (unfold i64ok at *; omega))) ?_)
 rintro _ w4 ⟨rfl, m4⟩
 refine ⟨_, rfl, fun _ F5 => ?_⟩
 have S4 := At.frame0 (At.nil w) m4
 clear m4
 refine l_op (f_val F5 rfl rfl (r_not rfl (F5.ev 15 rfl)) rfl fun _ F6 => ?_)
 refine s_end (x_normal (x_condb (b := (!(inB frm 1 100000))) (F6.ev 16 rfl) (fun h7 => ?_) (fun h7 => ?_)))
 · skip
   refine wp_seq (wp_region_lit (l_op (f_val F6 rfl rfl (r_assign rfl rfl) rfl fun _ F8 => ?_)))
   refine l_op (f_val F8 rfl rfl (r_assign rfl rfl) rfl fun _ F9 => ?_)
   refine s_end (x_normal (wp_ret (x_then_ret ?_)))
   have S10 : Mv [] w4 [ow 28 1 encCs okCs (.slice none 0 0) ([] : List CsH)] w4 := mv_nil S4.at'
   have S11 : Mv [ow 28 1 encCs okCs (.slice none 0 0) ([] : List CsH)] w4 [gr inCs ([] : List CsH), ow 28 1 encCs okCs (.slice none 0 0) ([] : List CsH)] w4 := gr_nil S10.at'
   refine x_done (v := .tuple #[.slice none 0 0, .int .i64 0]) F9 (results_2 Tryz.results45 (.tmp (F9.ev 4 rfl)) (.tmp (F9.ev 5 rfl))) ?_
   exact ⟨[], none, 0, 0, (congrArg (fun zZ => Ending.returned (.tuple #[.slice none 0 0, .int .i64 zZ])) (show 0 = (((recsIn text frm).2 : Nat) : Int) from by first | exact (rd_none ‹_›).2 | exact (rd_bad hx1 hk_1 (nt ‹_›)).2 | exact (rd_stop hx1 hk_1 lI_oa (by omega) (by omega)).2 | exact (rd_end hk_1 (by omega)).2 | rfl)), (Mv.cast (Mv.pick (S4.trans (S10.trans S11)) [1, 0] rfl) (by rw [← (show ([] : List CsH) = ([]) from by first | exact (rd_none ‹_›).2 | exact (rd_bad hx1 hk_1 (nt ‹_›)).2 | exact (rd_stop hx1 hk_1 lI_oa (by omega) (by omega)).2 | exact (rd_end hk_1 (by omega)).2 | rfl)]; all_goals rfl)), by first | exact (rd_none ‹_›).1 | exact (rd_bad hx1 hk_1 (nt ‹_›)).1 | exact (rd_stop hx1 hk_1 lI_oa (by omega) (by omega)).1 | exact (rd_end hk_1 (by omega)).1⟩
 · skip
   refine wp_skip (x_normal (wp_seq (wp_region_lit (l_op (f_val F6 rfl rfl (r_assign rfl rfl) rfl fun _ F12 => ?_)))))
   refine s_end (x_normal (wp_seq (wp_region_lit (l_op (f_val F12 rfl rfl (r_assign rfl rfl) rfl fun _ F13 => ?_)))))
   refine s_end (x_normal (wp_seq (wp_seq (wp_region_lit (l_op (f_mv F13 rfl rfl rfl rfl rfl fun _ F14 => ?_))))))
   refine l_op (f_call F14 CF_95 rfl rfl rfl rfl (lc (F14.ev 17 rfl) rfl) (impl_LinesIn_c (H := fun _ => True) (text := text) Q7 (by first | assumption | omega | (simp <;> omega))) ?_)
   rintro _ w15 ⟨Q4, Q3, Q5, rfl, m15⟩
   refine ⟨_, rfl, fun _ F16 => ?_⟩
   have S15 : Mv _ _ [ow 9 1 encS okS (.slice Q4 Q3 Q5) (lnS text)] _ := At.frame S4.at' [] rfl m15
   obtain ⟨Q8, Q10, Q12⟩ := At.ownInv S15.at' ET_44.hk 0 rfl
   clear m15
   refine l_op (f_val F16 rfl rfl (r_len Tryz.underlying44 rfl (F16.ev 18 rfl)) rfl fun _ F17 => ?_)
   refine l_op (f_val F17 rfl rfl (r_move rfl rfl) rfl fun _ F18 => ?_)
   refine s_end (x_normal (wp_block ?_))
   have S20 : Mv [ow 9 1 encS okS (.slice Q4 Q3 Q5) (lnS text)] w15 [ow 28 1 encCs okCs (.slice none 0 0) ([] : List CsH), ow 9 1 encS okS (.slice Q4 Q3 Q5) (lnS text)] w15 := mv_nil S15.at'
   have S21 : Mv [ow 28 1 encCs okCs (.slice none 0 0) ([] : List CsH), ow 9 1 encS okS (.slice Q4 Q3 Q5) (lnS text)] w15 [gr inCs ([] : List CsH), ow 28 1 encCs okCs (.slice none 0 0) ([] : List CsH), ow 9 1 encS okS (.slice Q4 Q3 Q5) (lnS text)] w15 := gr_nil S20.at'
   refine x_loop (fun (k : Nat) aZ wZ => ∃ (D : List CsH), ∃ (n : Nat), ∃ (oa : Option Addr), ∃ (on : Nat), ∃ (oc : Nat), Fr 65 [(20, .int .i64 ((k : Nat) : Int)), (19, .int .i64 ((Q3 : Nat) : Int)), (18, .slice Q4 Q3 Q5), (7, .int .i64 ((n : Nat) : Int)), (6, .slice oa on oc), (1, .int .i64 frm)] aZ ∧ Mv [gr inCs ([] : List CsH), ow 28 1 encCs okCs (.slice none 0 0) ([] : List CsH), ow 9 1 encS okS (.slice Q4 Q3 Q5) (lnS text)] w15 [gr inCs D, ow 28 1 encCs okCs (.slice oa on oc) D, ow 9 1 encS okS (.slice Q4 Q3 Q5) (lnS text)] wZ ∧ (k ≤ (lnS text).length) ∧ (rcGo frm ((lnS text).drop k) (D.map CsH.d) n = recsIn text frm) ∧ (n ≤ k * 2097152) ∧ (D.length ≤ k)) (fun (k : Nat) => (lnS text).length - k) (0) ?_ ?_
   · exact ⟨([] : List CsH), 0, none, 0, 0, F18.cut rfl, (Mv.refl S21.at'), by omega, rd_start ‹_›, by omega, Nat.le_refl _⟩
   · rintro k a19 w19 ⟨D, n, oa, on, oc, F19, S19, hk_0, hk_1, hk_2, hk_3⟩
     obtain ⟨lI_oa, lJ_oa, lK_oa⟩ := At.ownInv S19.at' ET_83.hk 1 rfl
     have hsl := lnS_len text
     have hfr : 1 ≤ frm ∧ frm ≤ 100000 := inB_bd (nf ‹_›)
     refine wp_seq (wp_region_lit (l_op (f_val F19 rfl rfl (r_cmp (b := decide (k < Q3)) (.inr (.inr (.inl rfl))) rfl (F19.ev 20 rfl) (F19.ev 19 rfl) (dec_of (by omega))) rfl fun _ F22 => ?_)))
     refine s_end (x_normal (wp_seq (x_cond (p := k < Q3) (F22.ev 21 rfl) (fun h23 => ?_) (fun h23 => ?_))))
     · skip
       refine wp_skip (x_normal (wp_seq (wp_block (wp_seq (wp_region_lit ?_)))))
       obtain ⟨B24, O24, x1, ad24, hx1, okx1, ln24, cl24⟩ := Rd.at (At.rd S19.at' ET_44.hk 2 rfl) k (by first | assumption | omega)
       clear ln24
       refine l_op (f_val F22 rfl rfl (r_indexAddr (i := k) ET_44 rfl ((F22.ev 18 rfl).trans (by rw [ad24])) (F22.ev 20 rfl) (by omega) (by first | assumption | omega)) rfl fun _ F25 => ?_)
       refine l_op (f_val (v := .string x1) F25 rfl rfl (r_load (cs := [.string x1]) TI_9 rfl (F25.ev 22 rfl) rfl (fun _ => rfl) (elem_sub (f := 0) cl24 [.string x1] rfl)) rfl fun _ F26 => ?_)
       refine l_op (f_as F26 rfl rfl rfl rfl rfl fun _ F27 => ?_)
       refine s_end (x_normal (wp_seq ?_))
       have hz1 := spS_part10 (nth_mem hx1)
       refine wp_region_lit (l_op (f_mv F27 rfl rfl rfl rfl rfl fun _ F28 => ?_))
       refine l_op (f_call F28 CF_96 rfl rfl rfl rfl (lc (F28.ev 25 rfl) rfl) (impl_ReadRecord_c (text := x1) okx1 (Tb.mv V_tab0 (S4.trans (S15.trans (S20.trans (S21.trans S19))))) (Tb.mv V_tab1 (S4.trans (S15.trans (S20.trans (S21.trans S19))))) (Tb.mv V_tab2 (S4.trans (S15.trans (S20.trans (S21.trans S19)))))) ?_)
       rintro _ w29 ⟨Q0, Q2, Q1, rfl, m29⟩
       refine ⟨_, rfl, fun _ F30 => ?_⟩
       have S29 : Mv _ _ [ow 91 2 encC okC (.slice Q0 Q2 Q1) (rrC x1), gr inCs D, ow 28 1 encCs okCs (.slice oa on oc) D, ow 9 1 encS okS (.slice Q4 Q3 Q5) (lnS text)] _ := At.frame S19.at' [] rfl m29
       obtain ⟨Q9, Q11, Q13⟩ := At.ownInv S29.at' ET_28.hk 0 rfl
       clear m29
       refine l_op (f_mv F30 rfl rfl rfl rfl rfl fun _ F31 => ?_)
       refine l_op (f_val (v := .int .i64 (rrN x1)) F31 rfl rfl (r_extract rfl (F31.ev 24 rfl) rfl) rfl fun _ F32 => ?_)
       refine l_op (f_val (v := .slice Q0 Q2 Q1) F32 rfl rfl (r_extract rfl (F32.ev 24 rfl) rfl) rfl fun _ F33 => ?_)
       refine l_op (f_val (v := .bool (rrB x1)) F33 rfl rfl (r_extract rfl (F33.ev 24 rfl) rfl) rfl fun _ F34 => ?_)
       refine l_op (f_as F34 rfl rfl rfl rfl rfl fun _ F35 => ?_)
       refine l_op (f_as F35 rfl rfl rfl rfl rfl fun _ F36 => ?_)
       refine l_op (f_as F36 rfl rfl rfl rfl rfl fun _ F37 => ?_)
       refine s_end (x_normal (wp_seq (wp_region_lit (l_op (f_mv F37 rfl rfl rfl rfl rfl fun _ F38 => ?_)))))
       refine l_op (f_val F38 rfl rfl (r_len Tryz.underlying83 rfl (F38.ev 30 rfl)) rfl fun _ F39 => ?_)
       refine l_op (f_val F39 rfl rfl (r_cmp (b := decide (on = 0)) (.inl rfl) rfl (F39.ev 31 rfl) rfl (dec_of (by omega))) rfl fun _ F40 => ?_)
       refine l_op (f_mv F40 rfl rfl rfl rfl rfl fun _ F41 => ?_)
       rcases Decidable.em (on = 0) with h42 | h42
       · rw [decide_eq_true h42] at F41
         refine l_op (f_mv F41 (wanted_g F41 rfl rfl rfl rfl) rfl rfl rfl rfl fun _ F43 => ?_)
         refine l_op (f_mv F43 (wanted_g F43 rfl rfl rfl rfl) rfl rfl rfl rfl fun _ F44 => ?_)
         refine l_op (f_val F44 (wanted_g F44 rfl rfl rfl rfl) rfl (r_cmp (b := decide ((rrN x1) < frm)) (.inr (.inr (.inl rfl))) rfl (F44.ev 34 rfl) (F44.ev 35 rfl) (dec_of (by omega))) rfl fun _ F45 => ?_)
         refine l_op (f_val F45 rfl rfl (r_pick (b := true) rfl (F45.ev 33 rfl) (F45.ev 36 rfl)) rfl fun _ F46 => ?_)
         refine l_op (f_as F46 rfl rfl rfl rfl rfl fun _ F47 => ?_)
         refine s_end (x_normal (wp_seq (wp_seq (wp_region_lit (l_op (f_mv F47 rfl rfl rfl rfl rfl fun _ F48 => ?_))))))
         refine l_op (f_val F48 rfl rfl (r_not rfl (F48.ev 38 rfl)) rfl fun _ F49 => ?_)
         refine l_op (f_mv F49 rfl rfl rfl rfl rfl fun _ F50 => ?_)
         rcases Bool.eq_false_or_eq_true (!(rrB x1)) with h51 | h51
         · rw [h51] at F50
           refine l_op (f_skip F50 (wanted_g F50 rfl rfl rfl rfl) rfl rfl fun _ F52 => ?_)
           refine l_op (f_skip F52 (wanted_g F52 rfl rfl rfl rfl) rfl rfl fun _ F53 => ?_)
           refine l_op (f_skip F53 (wanted_g F53 rfl rfl rfl rfl) rfl rfl fun _ F54 => ?_)
           refine l_op (f_skip F54 (wanted_u F54 rfl rfl rfl) rfl rfl fun _ F55 => ?_)
           refine l_op (f_skip F55 (wanted_u F55 rfl rfl rfl) rfl rfl fun _ F56 => ?_)
           refine l_op (f_skip F56 (wanted_u F56 rfl rfl rfl) rfl rfl fun _ F57 => ?_)
           refine l_op (f_skip F57 (wanted_u F57 rfl rfl rfl) rfl rfl fun _ F58 => ?_)
           refine l_op (f_skip F58 (wanted_u F58 rfl rfl rfl) rfl rfl fun _ F59 => ?_)
           refine l_op (f_skip F59 (wanted_u F59 rfl rfl rfl) rfl rfl fun _ F60 => ?_)
           refine l_op (f_skip F60 (wanted_g F60 rfl rfl rfl rfl) rfl rfl fun _ F61 => ?_)
           refine l_op (f_val F61 rfl rfl (r_pick (b := true) rfl (F61.ev 40 rfl) rfl) rfl fun _ F62 => ?_)
           refine s_end (x_normal (wp_cond_true (F62.ev 51 rfl) (wp_exit (x_then_exit (x_block_on rfl (x_then_exit (x_then_exit (x_block_here (x_normal (wp_seq (wp_region_lit (l_op (f_mv F62 rfl rfl rfl rfl rfl fun _ F63 => ?_)))))))))))))
           refine l_op (f_mv F63 rfl rfl rfl rfl rfl fun _ F64 => ?_)
           refine l_op (f_as F64 rfl rfl rfl rfl rfl fun _ F65 => ?_)
           refine l_op (f_as F65 rfl rfl rfl rfl rfl fun _ F66 => ?_)
           have F67 : Fr 65 [(5, .int .i64 ((n : Nat) : Int)), (4, .slice oa on oc)] _ := F66.cut rfl
           clear F19 F22 F25 F26 F27 F28 F30 F31 F32 F33 F34 F35 F36 F37 F38 F39 F40 F41 F43 F44 F45 F46 F47 F48 F49 F50 F52 F53 F54 F55 F56 F57 F58 F59 F60 F61 F62 F63 F64 F65 F66
           refine s_end (x_normal (wp_ret ?_))
           refine x_done (v := .tuple #[.slice oa on oc, .int .i64 ((n : Nat) : Int)]) F67 (results_2 Tryz.results45 (.tmp (F67.ev 4 rfl)) (.tmp (F67.ev 5 rfl))) ?_
           exact ⟨D, oa, on, oc, (congrArg (fun zZ => Ending.returned (.tuple #[.slice oa on oc, .int .i64 zZ])) (show ((n : Nat) : Int) = (((recsIn text frm).2 : Nat) : Int) from by first | exact (rd_none ‹_›).2 | exact (rd_bad hx1 hk_1 (nt ‹_›)).2 | exact (rd_stop hx1 hk_1 lI_oa (by omega) (by omega)).2 | exact (rd_end hk_1 (by omega)).2 | rfl)), (Mv.pick (S4.trans (S15.trans (S20.trans (S21.trans (S19.trans S29))))) [2, 1] rfl), by first | exact (rd_none ‹_›).1 | exact (rd_bad hx1 hk_1 (nt ‹_›)).1 | exact (rd_stop hx1 hk_1 lI_oa (by omega) (by omega)).1 | exact (rd_end hk_1 (by omega)).1⟩
         · rw [h51] at F50
           refine l_op (f_mv F50 (wanted_g F50 rfl rfl rfl rfl) rfl rfl rfl rfl fun _ F68 => ?_)
           refine l_op (f_val F68 (wanted_g F68 rfl rfl rfl rfl) rfl (r_notD rfl (F68.ev 41 rfl)) rfl fun _ F69 => ?_)
           refine l_op (f_mv F69 (wanted_g F69 rfl rfl rfl rfl) rfl rfl rfl rfl fun _ F70 => ?_)
           rcases Decidable.em (¬ ((rrN x1) < frm)) with h71 | h71
           · rw [decide_eq_true h71] at F70
             refine l_op (f_mv F70 (wanted_g F70 rfl rfl rfl rfl) rfl rfl rfl rfl fun _ F72 => ?_)
             refine l_op (f_mv F72 (wanted_g F72 rfl rfl rfl rfl) rfl rfl rfl rfl fun _ F73 => ?_)
             refine l_op (f_mv F73 (wanted_g F73 rfl rfl rfl rfl) rfl rfl rfl rfl fun _ F74 => ?_)
             refine l_op (f_val F74 (wanted_g F74 rfl rfl rfl rfl) rfl (r_len Tryz.underlying83 rfl (F74.ev 46 rfl)) rfl fun _ F75 => ?_)
             refine l_op (f_val F75 (wanted_g F75 rfl rfl rfl rfl) rfl (r_add (z := (frm + ((on : Nat) : Int))) rfl (F75.ev 45 rfl) (F75.ev 47 rfl) (by first | rfl | omega) ⟨by first | omega | (unfold i64ok at *; omega), by first | omega | (unfold i64ok at *; omega)⟩) rfl fun _ F76 => ?_)
             refine l_op (f_val F76 (wanted_g F76 rfl rfl rfl rfl) rfl (r_cmp (b := decide ((rrN x1) ≠ (frm + ((on : Nat) : Int)))) (.inr (.inl rfl)) rfl (F76.ev 44 rfl) (F76.ev 48 rfl) (dec_of (by omega))) rfl fun _ F77 => ?_)
             refine l_op (f_val F77 (wanted_g F77 rfl rfl rfl rfl) rfl (r_pick (b := true) rfl (F77.ev 43 rfl) (F77.ev 49 rfl)) rfl fun _ F78 => ?_)
             refine l_op (f_val F78 rfl rfl (r_pick (b := false) rfl (F78.ev 40 rfl) (F78.ev 50 rfl)) rfl fun _ F79 => ?_)
             refine s_end (x_normal (x_cond (p := (rrN x1) ≠ (frm + ((on : Nat) : Int))) (F79.ev 51 rfl) (fun h80 => ?_) (fun h80 => ?_)))
             · skip
               refine wp_exit (x_then_exit (x_block_on rfl (x_then_exit (x_then_exit (x_block_here (x_normal (wp_seq (wp_region_lit (l_op (f_mv F79 rfl rfl rfl rfl rfl fun _ F81 => ?_))))))))))
               refine l_op (f_mv F81 rfl rfl rfl rfl rfl fun _ F82 => ?_)
               refine l_op (f_as F82 rfl rfl rfl rfl rfl fun _ F83 => ?_)
               refine l_op (f_as F83 rfl rfl rfl rfl rfl fun _ F84 => ?_)
               have F85 : Fr 65 [(5, .int .i64 ((n : Nat) : Int)), (4, .slice oa on oc)] _ := F84.cut rfl
               clear F19 F22 F25 F26 F27 F28 F30 F31 F32 F33 F34 F35 F36 F37 F38 F39 F40 F41 F43 F44 F45 F46 F47 F48 F49 F50 F68 F69 F70 F72 F73 F74 F75 F76 F77 F78 F79 F81 F82 F83 F84
               refine s_end (x_normal (wp_ret ?_))
               refine x_done (v := .tuple #[.slice oa on oc, .int .i64 ((n : Nat) : Int)]) F85 (results_2 Tryz.results45 (.tmp (F85.ev 4 rfl)) (.tmp (F85.ev 5 rfl))) ?_
               exact ⟨D, oa, on, oc, (congrArg (fun zZ => Ending.returned (.tuple #[.slice oa on oc, .int .i64 zZ])) (show ((n : Nat) : Int) = (((recsIn text frm).2 : Nat) : Int) from by first | exact (rd_none ‹_›).2 | exact (rd_bad hx1 hk_1 (nt ‹_›)).2 | exact (rd_stop hx1 hk_1 lI_oa (by omega) (by omega)).2 | exact (rd_end hk_1 (by omega)).2 | rfl)), (Mv.pick (S4.trans (S15.trans (S20.trans (S21.trans (S19.trans S29))))) [2, 1] rfl), by first | exact (rd_none ‹_›).1 | exact (rd_bad hx1 hk_1 (nt ‹_›)).1 | exact (rd_stop hx1 hk_1 lI_oa (by omega) (by omega)).1 | exact (rd_end hk_1 (by omega)).1⟩
             · skip
               refine wp_skip (x_normal (wp_seq (wp_region_lit (l_op (f_mv F79 rfl rfl rfl rfl rfl fun _ F86 => ?_)))))
               refine l_op (f_mv F86 rfl rfl rfl rfl rfl fun _ F87 => ?_)
               refine l_op (f_val F87 rfl rfl (r_lenS (fun t ht => by cases ht; exact Tryz.underlying9) rfl rfl (F87.ev 53 rfl)) rfl fun _ F88 => ?_)
               refine l_op (f_val F88 rfl rfl (r_add (z := ((n + x1.size : Nat) : Int)) rfl (F88.ev 52 rfl) (F88.ev 54 rfl) (by first | rfl | omega) ⟨by first | omega | (unfold i64ok at *; omega), by first | omega | (unfold i64ok at *; omega)⟩) rfl fun _ F89 => ?_)
               refine l_op (f_as F89 rfl rfl rfl rfl rfl fun _ F90 => ?_)
               have F91 : Fr 65 [(7, .int .i64 ((n + x1.size : Nat) : Int)), (13, .bool (decide ((rrN x1) < frm))), (11, .slice Q0 Q2 Q1), (20, .int .i64 ((k : Nat) : Int)), (19, .int .i64 ((Q3 : Nat) : Int)), (18, .slice Q4 Q3 Q5), (6, .slice oa on oc), (1, .int .i64 frm)] _ := F90.cut rfl
               clear F19 F22 F25 F26 F27 F28 F30 F31 F32 F33 F34 F35 F36 F37 F38 F39 F40 F41 F43 F44 F45 F46 F47 F48 F49 F50 F68 F69 F70 F72 F73 F74 F75 F76 F77 F78 F79 F86 F87 F88 F89 F90
               refine s_end (x_normal (wp_seq (wp_region_lit (l_op (f_mv F91 rfl rfl rfl rfl rfl fun _ F92 => ?_)))))
               refine l_op (f_val F92 rfl rfl (r_notD rfl (F92.ev 56 rfl)) rfl fun _ F93 => ?_)
               refine s_end (x_normal (wp_cond_true ((F93.ev 57 rfl).trans (congrArg _ (decide_eq_true h71))) (wp_region_lit (l_op (f_mv F93 rfl rfl rfl rfl rfl fun _ F94 => ?_)))))
               refine l_op (f_mv F94 rfl rfl rfl rfl rfl fun _ F95 => ?_)
               refine l_op (f_buildSl (ok := okCs) (vs := [.slice Q0 Q2 Q1]) F95 S29.at' ([(⟨rrC x1, Q0, Q2, Q1⟩ : CsH)]) ET_83 rfl rfl rfl rfl rfl rfl (lc (pr2 (F95.ev 59 rfl)) rfl) rfl rfl (fun x hx => (List.mem_singleton.1 hx) ▸ ⟨⟩) fun b96 _ w96 F97 S96 => ?_)
               refine l_op (f_app (news := [(⟨rrC x1, Q0, Q2, Q1⟩ : CsH)]) F97 S96.at' 3 ET_83 rfl rfl rfl rfl rfl rfl (F97.ev 58 rfl) (F97.ev 60 rfl) ((At.rd S96.at' ET_83.hk 0 rfl)).1 (by ((repeat (first | rw [List.length_append] | rw [List.length_cons] | rw [List.length_nil] | rw [List.length_take] | rw [List.length_drop])) <;> omega)) fun A98 N98 C98 _ w98 F99 S98 l98 => ?_)
               have S100 : Mv [ow 28 1 encCs okCs (.slice A98 N98 C98) (D ++ ([(⟨rrC x1, Q0, Q2, Q1⟩ : CsH)])), ow 28 1 encCs okCs (.slice (some ⟨b96, 0, none⟩) 1 1) ([(⟨rrC x1, Q0, Q2, Q1⟩ : CsH)]), ow 91 2 encC okC (.slice Q0 Q2 Q1) (rrC x1), gr inCs D, ow 9 1 encS okS (.slice Q4 Q3 Q5) (lnS text)] w98 [gr inCs (D ++ ([(⟨rrC x1, Q0, Q2, Q1⟩ : CsH)])), ow 28 1 encCs okCs (.slice A98 N98 C98) (D ++ ([(⟨rrC x1, Q0, Q2, Q1⟩ : CsH)])), ow 28 1 encCs okCs (.slice (some ⟨b96, 0, none⟩) 1 1) ([(⟨rrC x1, Q0, Q2, Q1⟩ : CsH)]), ow 9 1 encS okS (.slice Q4 Q3 Q5) (lnS text)] w98 := gr_push S98.at' [2, 3] (⟨rrC x1, Q0, Q2, Q1⟩ : CsH) rfl rfl
               have S101 := At.drop S100.at' 2
               refine l_op (f_as F99 rfl rfl rfl rfl rfl fun _ F102 => ?_)
               have T103 : Mv _ _ [gr inCs (D ++ ([(⟨rrC x1, Q0, Q2, Q1⟩ : CsH)])), ow 28 1 encCs okCs (.slice A98 N98 C98) (D ++ ([(⟨rrC x1, Q0, Q2, Q1⟩ : CsH)])), ow 9 1 encS okS (.slice Q4 Q3 Q5) (lnS text)] _ := S101
               refine s_end (x_block_normal (x_normal (wp_region_lit (l_op (f_val F102 rfl rfl (r_add (z := ((k + 1 : Nat) : Int)) rfl (F102.ev 20 rfl) rfl (by first | rfl | omega) ⟨by first | omega | (unfold i64ok at *; omega), by first | omega | (unfold i64ok at *; omega)⟩) rfl fun _ F104 => ?_)))))
               refine l_op (f_mv F104 rfl rfl rfl rfl rfl fun _ F105 => ?_)
               refine s_end ?_
               refine x_normal ⟨k + 1, by omega, D ++ ([(⟨rrC x1, Q0, Q2, Q1⟩ : CsH)]), n + x1.size, A98, N98, C98, F105.cut rfl, ((S19.trans (S29.trans (S96.trans (S98.trans (S100.trans T103))))).pick [0, 1, 2] rfl), by omega, by first | exact rd_take rfl hx1 hk_1 (nf ‹_›) lI_oa (by omega) | exact rd_skip hx1 hk_1 (nf ‹_›) lI_oa (by omega) (by omega), by omega, by (try rw [List.length_append, List.length_singleton]); omega⟩
           · rw [decide_eq_false h71] at F70
             refine l_op (f_skip F70 (wanted_g F70 rfl rfl rfl rfl) rfl rfl fun _ F106 => ?_)
             refine l_op (f_skip F106 (wanted_g F106 rfl rfl rfl rfl) rfl rfl fun _ F107 => ?_)
             refine l_op (f_skip F107 (wanted_g F107 rfl rfl rfl rfl) rfl rfl fun _ F108 => ?_)
             refine l_op (f_skip F108 (wanted_g F108 rfl rfl rfl rfl) rfl rfl fun _ F109 => ?_)
             refine l_op (f_skip F109 (wanted_g F109 rfl rfl rfl rfl) rfl rfl fun _ F110 => ?_)
             refine l_op (f_skip F110 (wanted_g F110 rfl rfl rfl rfl) rfl rfl fun _ F111 => ?_)
             refine l_op (f_val F111 (wanted_g F111 rfl rfl rfl rfl) rfl (r_pick (b := false) rfl (F111.ev 43 rfl) rfl) rfl fun _ F112 => ?_)
             refine l_op (f_val F112 rfl rfl (r_pick (b := false) rfl (F112.ev 40 rfl) (F112.ev 50 rfl)) rfl fun _ F113 => ?_)
             refine s_end (x_normal (wp_cond_false (F113.ev 51 rfl) (wp_skip (x_normal (wp_seq (wp_region_lit (l_op (f_mv F113 rfl rfl rfl rfl rfl fun _ F114 => ?_))))))))
             refine l_op (f_mv F114 rfl rfl rfl rfl rfl fun _ F115 => ?_)
             refine l_op (f_val F115 rfl rfl (r_lenS (fun t ht => by cases ht; exact Tryz.underlying9) rfl rfl (F115.ev 53 rfl)) rfl fun _ F116 => ?_)
             refine l_op (f_val F116 rfl rfl (r_add (z := ((n + x1.size : Nat) : Int)) rfl (F116.ev 52 rfl) (F116.ev 54 rfl) (by first | rfl | omega) ⟨by first | omega | (unfold i64ok at *; omega), by first | omega | (unfold i64ok at *; omega)⟩) rfl fun _ F117 => ?_)
             refine l_op (f_as F117 rfl rfl rfl rfl rfl fun _ F118 => ?_)
             have F119 : Fr 65 [(7, .int .i64 ((n + x1.size : Nat) : Int)), (13, .bool (decide ((rrN x1) < frm))), (11, .slice Q0 Q2 Q1), (20, .int .i64 ((k : Nat) : Int)), (19, .int .i64 ((Q3 : Nat) : Int)), (18, .slice Q4 Q3 Q5), (6, .slice oa on oc), (1, .int .i64 frm)] _ := F118.cut rfl
             clear F19 F22 F25 F26 F27 F28 F30 F31 F32 F33 F34 F35 F36 F37 F38 F39 F40 F41 F43 F44 F45 F46 F47 F48 F49 F50 F68 F69 F70 F106 F107 F108 F109 F110 F111 F112 F113 F114 F115 F116 F117 F118
             refine s_end (x_normal (wp_seq (wp_region_lit (l_op (f_mv F119 rfl rfl rfl rfl rfl fun _ F120 => ?_)))))
             refine l_op (f_val F120 rfl rfl (r_notD rfl (F120.ev 56 rfl)) rfl fun _ F121 => ?_)
             refine s_end (x_normal (wp_cond_false ((F121.ev 57 rfl).trans (congrArg _ (decide_eq_false h71))) (wp_skip (x_block_normal (x_normal (wp_region_lit (l_op (f_val F121 rfl rfl (r_add (z := ((k + 1 : Nat) : Int)) rfl (F121.ev 20 rfl) rfl (by first | rfl | omega) ⟨by first | omega | (unfold i64ok at *; omega), by first | omega | (unfold i64ok at *; omega)⟩) rfl fun _ F122 => ?_))))))))
             refine l_op (f_mv F122 rfl rfl rfl rfl rfl fun _ F123 => ?_)
             refine s_end ?_
             refine x_normal ⟨k + 1, by omega, D, n + x1.size, oa, on, oc, F123.cut rfl, ((S19.trans S29).pick [1, 2, 3] rfl), by omega, by first | exact rd_take rfl hx1 hk_1 (nf ‹_›) lI_oa (by omega) | exact rd_skip hx1 hk_1 (nf ‹_›) lI_oa (by omega) (by omega), by omega, by (try rw [List.length_append, List.length_singleton]); omega⟩
       · rw [decide_eq_false h42] at F41
         refine l_op (f_skip F41 (wanted_g F41 rfl rfl rfl rfl) rfl rfl fun _ F124 => ?_)
         refine l_op (f_skip F124 (wanted_g F124 rfl rfl rfl rfl) rfl rfl fun _ F125 => ?_)
         refine l_op (f_skip F125 (wanted_g F125 rfl rfl rfl rfl) rfl rfl fun _ F126 => ?_)
         refine l_op (f_val F126 rfl rfl (r_pick (b := false) rfl (F126.ev 33 rfl) rfl) rfl fun _ F127 => ?_)
         refine l_op (f_as F127 rfl rfl rfl rfl rfl fun _ F128 => ?_)
         refine s_end (x_normal (wp_seq (wp_seq (wp_region_lit (l_op (f_mv F128 rfl rfl rfl rfl rfl fun _ F129 => ?_))))))
         refine l_op (f_val F129 rfl rfl (r_not rfl (F129.ev 38 rfl)) rfl fun _ F130 => ?_)
         refine l_op (f_mv F130 rfl rfl rfl rfl rfl fun _ F131 => ?_)
         rcases Bool.eq_false_or_eq_true (!(rrB x1)) with h132 | h132
         · rw [h132] at F131
           refine l_op (f_skip F131 (wanted_g F131 rfl rfl rfl rfl) rfl rfl fun _ F133 => ?_)
           refine l_op (f_skip F133 (wanted_g F133 rfl rfl rfl rfl) rfl rfl fun _ F134 => ?_)
           refine l_op (f_skip F134 (wanted_g F134 rfl rfl rfl rfl) rfl rfl fun _ F135 => ?_)
           refine l_op (f_skip F135 (wanted_u F135 rfl rfl rfl) rfl rfl fun _ F136 => ?_)
           refine l_op (f_skip F136 (wanted_u F136 rfl rfl rfl) rfl rfl fun _ F137 => ?_)
           refine l_op (f_skip F137 (wanted_u F137 rfl rfl rfl) rfl rfl fun _ F138 => ?_)
           refine l_op (f_skip F138 (wanted_u F138 rfl rfl rfl) rfl rfl fun _ F139 => ?_)
           refine l_op (f_skip F139 (wanted_u F139 rfl rfl rfl) rfl rfl fun _ F140 => ?_)
           refine l_op (f_skip F140 (wanted_u F140 rfl rfl rfl) rfl rfl fun _ F141 => ?_)
           refine l_op (f_skip F141 (wanted_g F141 rfl rfl rfl rfl) rfl rfl fun _ F142 => ?_)
           refine l_op (f_val F142 rfl rfl (r_pick (b := true) rfl (F142.ev 40 rfl) rfl) rfl fun _ F143 => ?_)
           refine s_end (x_normal (wp_cond_true (F143.ev 51 rfl) (wp_exit (x_then_exit (x_block_on rfl (x_then_exit (x_then_exit (x_block_here (x_normal (wp_seq (wp_region_lit (l_op (f_mv F143 rfl rfl rfl rfl rfl fun _ F144 => ?_)))))))))))))
           refine l_op (f_mv F144 rfl rfl rfl rfl rfl fun _ F145 => ?_)
           refine l_op (f_as F145 rfl rfl rfl rfl rfl fun _ F146 => ?_)
           refine l_op (f_as F146 rfl rfl rfl rfl rfl fun _ F147 => ?_)
           have F148 : Fr 65 [(5, .int .i64 ((n : Nat) : Int)), (4, .slice oa on oc)] _ := F147.cut rfl
           clear F19 F22 F25 F26 F27 F28 F30 F31 F32 F33 F34 F35 F36 F37 F38 F39 F40 F41 F124 F125 F126 F127 F128 F129 F130 F131 F133 F134 F135 F136 F137 F138 F139 F140 F141 F142 F143 F144 F145 F146 F147
           refine s_end (x_normal (wp_ret ?_))
           refine x_done (v := .tuple #[.slice oa on oc, .int .i64 ((n : Nat) : Int)]) F148 (results_2 Tryz.results45 (.tmp (F148.ev 4 rfl)) (.tmp (F148.ev 5 rfl))) ?_
           exact ⟨D, oa, on, oc, (congrArg (fun zZ => Ending.returned (.tuple #[.slice oa on oc, .int .i64 zZ])) (show ((n : Nat) : Int) = (((recsIn text frm).2 : Nat) : Int) from by first | exact (rd_none ‹_›).2 | exact (rd_bad hx1 hk_1 (nt ‹_›)).2 | exact (rd_stop hx1 hk_1 lI_oa (by omega) (by omega)).2 | exact (rd_end hk_1 (by omega)).2 | rfl)), (Mv.pick (S4.trans (S15.trans (S20.trans (S21.trans (S19.trans S29))))) [2, 1] rfl), by first | exact (rd_none ‹_›).1 | exact (rd_bad hx1 hk_1 (nt ‹_›)).1 | exact (rd_stop hx1 hk_1 lI_oa (by omega) (by omega)).1 | exact (rd_end hk_1 (by omega)).1⟩
         · rw [h132] at F131
           refine l_op (f_mv F131 (wanted_g F131 rfl rfl rfl rfl) rfl rfl rfl rfl fun _ F149 => ?_)
           refine l_op (f_val F149 (wanted_g F149 rfl rfl rfl rfl) rfl (r_not rfl (F149.ev 41 rfl)) rfl fun _ F150 => ?_)
           refine l_op (f_mv F150 (wanted_g F150 rfl rfl rfl rfl) rfl rfl rfl rfl fun _ F151 => ?_)
           refine l_op (f_mv F151 (wanted_g F151 rfl rfl rfl rfl) rfl rfl rfl rfl fun _ F152 => ?_)
           refine l_op (f_mv F152 (wanted_g F152 rfl rfl rfl rfl) rfl rfl rfl rfl fun _ F153 => ?_)
           refine l_op (f_mv F153 (wanted_g F153 rfl rfl rfl rfl) rfl rfl rfl rfl fun _ F154 => ?_)
           refine l_op (f_val F154 (wanted_g F154 rfl rfl rfl rfl) rfl (r_len Tryz.underlying83 rfl (F154.ev 46 rfl)) rfl fun _ F155 => ?_)
           refine l_op (f_val F155 (wanted_g F155 rfl rfl rfl rfl) rfl (r_add (z := (frm + ((on : Nat) : Int))) rfl (F155.ev 45 rfl) (F155.ev 47 rfl) (by first | rfl | omega) ⟨by first | omega | (unfold i64ok at *; omega), by first | omega | (unfold i64ok at *; omega)⟩) rfl fun _ F156 => ?_)
           refine l_op (f_val F156 (wanted_g F156 rfl rfl rfl rfl) rfl (r_cmp (b := decide ((rrN x1) ≠ (frm + ((on : Nat) : Int)))) (.inr (.inl rfl)) rfl (F156.ev 44 rfl) (F156.ev 48 rfl) (dec_of (by omega))) rfl fun _ F157 => ?_)
           refine l_op (f_val F157 (wanted_g F157 rfl rfl rfl rfl) rfl (r_pick (b := true) rfl (F157.ev 43 rfl) (F157.ev 49 rfl)) rfl fun _ F158 => ?_)
           refine l_op (f_val F158 rfl rfl (r_pick (b := false) rfl (F158.ev 40 rfl) (F158.ev 50 rfl)) rfl fun _ F159 => ?_)
           refine s_end (x_normal (x_cond (p := (rrN x1) ≠ (frm + ((on : Nat) : Int))) (F159.ev 51 rfl) (fun h160 => ?_) (fun h160 => ?_)))
           · skip
             refine wp_exit (x_then_exit (x_block_on rfl (x_then_exit (x_then_exit (x_block_here (x_normal (wp_seq (wp_region_lit (l_op (f_mv F159 rfl rfl rfl rfl rfl fun _ F161 => ?_))))))))))
             refine l_op (f_mv F161 rfl rfl rfl rfl rfl fun _ F162 => ?_)
             refine l_op (f_as F162 rfl rfl rfl rfl rfl fun _ F163 => ?_)
             refine l_op (f_as F163 rfl rfl rfl rfl rfl fun _ F164 => ?_)
             have F165 : Fr 65 [(5, .int .i64 ((n : Nat) : Int)), (4, .slice oa on oc)] _ := F164.cut rfl
             clear F19 F22 F25 F26 F27 F28 F30 F31 F32 F33 F34 F35 F36 F37 F38 F39 F40 F41 F124 F125 F126 F127 F128 F129 F130 F131 F149 F150 F151 F152 F153 F154 F155 F156 F157 F158 F159 F161 F162 F163 F164
             refine s_end (x_normal (wp_ret ?_))
             refine x_done (v := .tuple #[.slice oa on oc, .int .i64 ((n : Nat) : Int)]) F165 (results_2 Tryz.results45 (.tmp (F165.ev 4 rfl)) (.tmp (F165.ev 5 rfl))) ?_
             exact ⟨D, oa, on, oc, (congrArg (fun zZ => Ending.returned (.tuple #[.slice oa on oc, .int .i64 zZ])) (show ((n : Nat) : Int) = (((recsIn text frm).2 : Nat) : Int) from by first | exact (rd_none ‹_›).2 | exact (rd_bad hx1 hk_1 (nt ‹_›)).2 | exact (rd_stop hx1 hk_1 lI_oa (by omega) (by omega)).2 | exact (rd_end hk_1 (by omega)).2 | rfl)), (Mv.pick (S4.trans (S15.trans (S20.trans (S21.trans (S19.trans S29))))) [2, 1] rfl), by first | exact (rd_none ‹_›).1 | exact (rd_bad hx1 hk_1 (nt ‹_›)).1 | exact (rd_stop hx1 hk_1 lI_oa (by omega) (by omega)).1 | exact (rd_end hk_1 (by omega)).1⟩
           · skip
             refine wp_skip (x_normal (wp_seq (wp_region_lit (l_op (f_mv F159 rfl rfl rfl rfl rfl fun _ F166 => ?_)))))
             refine l_op (f_mv F166 rfl rfl rfl rfl rfl fun _ F167 => ?_)
             refine l_op (f_val F167 rfl rfl (r_lenS (fun t ht => by cases ht; exact Tryz.underlying9) rfl rfl (F167.ev 53 rfl)) rfl fun _ F168 => ?_)
             refine l_op (f_val F168 rfl rfl (r_add (z := ((n + x1.size : Nat) : Int)) rfl (F168.ev 52 rfl) (F168.ev 54 rfl) (by first | rfl | omega) ⟨by first | omega | (unfold i64ok at *; omega), by first | omega | (unfold i64ok at *; omega)⟩) rfl fun _ F169 => ?_)
             refine l_op (f_as F169 rfl rfl rfl rfl rfl fun _ F170 => ?_)
             have F171 : Fr 65 [(7, .int .i64 ((n + x1.size : Nat) : Int)), (13, .bool false), (11, .slice Q0 Q2 Q1), (20, .int .i64 ((k : Nat) : Int)), (19, .int .i64 ((Q3 : Nat) : Int)), (18, .slice Q4 Q3 Q5), (6, .slice oa on oc), (1, .int .i64 frm)] _ := F170.cut rfl
             clear F19 F22 F25 F26 F27 F28 F30 F31 F32 F33 F34 F35 F36 F37 F38 F39 F40 F41 F124 F125 F126 F127 F128 F129 F130 F131 F149 F150 F151 F152 F153 F154 F155 F156 F157 F158 F159 F166 F167 F168 F169 F170
             refine s_end (x_normal (wp_seq (wp_region_lit (l_op (f_mv F171 rfl rfl rfl rfl rfl fun _ F172 => ?_)))))
             refine l_op (f_val F172 rfl rfl (r_not rfl (F172.ev 56 rfl)) rfl fun _ F173 => ?_)
             refine s_end (x_normal (wp_cond_true (F173.ev 57 rfl) (wp_region_lit (l_op (f_mv F173 rfl rfl rfl rfl rfl fun _ F174 => ?_)))))
             refine l_op (f_mv F174 rfl rfl rfl rfl rfl fun _ F175 => ?_)
             refine l_op (f_buildSl (ok := okCs) (vs := [.slice Q0 Q2 Q1]) F175 S29.at' ([(⟨rrC x1, Q0, Q2, Q1⟩ : CsH)]) ET_83 rfl rfl rfl rfl rfl rfl (lc (pr2 (F175.ev 59 rfl)) rfl) rfl rfl (fun x hx => (List.mem_singleton.1 hx) ▸ ⟨⟩) fun b176 _ w176 F177 S176 => ?_)
             refine l_op (f_app (news := [(⟨rrC x1, Q0, Q2, Q1⟩ : CsH)]) F177 S176.at' 3 ET_83 rfl rfl rfl rfl rfl rfl (F177.ev 58 rfl) (F177.ev 60 rfl) ((At.rd S176.at' ET_83.hk 0 rfl)).1 (by ((repeat (first | rw [List.length_append] | rw [List.length_cons] | rw [List.length_nil] | rw [List.length_take] | rw [List.length_drop])) <;> omega)) fun A178 N178 C178 _ w178 F179 S178 l178 => ?_)
             have S180 : Mv [ow 28 1 encCs okCs (.slice A178 N178 C178) (D ++ ([(⟨rrC x1, Q0, Q2, Q1⟩ : CsH)])), ow 28 1 encCs okCs (.slice (some ⟨b176, 0, none⟩) 1 1) ([(⟨rrC x1, Q0, Q2, Q1⟩ : CsH)]), ow 91 2 encC okC (.slice Q0 Q2 Q1) (rrC x1), gr inCs D, ow 9 1 encS okS (.slice Q4 Q3 Q5) (lnS text)] w178 [gr inCs (D ++ ([(⟨rrC x1, Q0, Q2, Q1⟩ : CsH)])), ow 28 1 encCs okCs (.slice A178 N178 C178) (D ++ ([(⟨rrC x1, Q0, Q2, Q1⟩ : CsH)])), ow 28 1 encCs okCs (.slice (some ⟨b176, 0, none⟩) 1 1) ([(⟨rrC x1, Q0, Q2, Q1⟩ : CsH)]), ow 9 1 encS okS (.slice Q4 Q3 Q5) (lnS text)] w178 := gr_push S178.at' [2, 3] (⟨rrC x1, Q0, Q2, Q1⟩ : CsH) rfl rfl
             have S181 := At.drop S180.at' 2
             refine l_op (f_as F179 rfl rfl rfl rfl rfl fun _ F182 => ?_)
             have T183 : Mv _ _ [gr inCs (D ++ ([(⟨rrC x1, Q0, Q2, Q1⟩ : CsH)])), ow 28 1 encCs okCs (.slice A178 N178 C178) (D ++ ([(⟨rrC x1, Q0, Q2, Q1⟩ : CsH)])), ow 9 1 encS okS (.slice Q4 Q3 Q5) (lnS text)] _ := S181
             refine s_end (x_block_normal (x_normal (wp_region_lit (l_op (f_val F182 rfl rfl (r_add (z := ((k + 1 : Nat) : Int)) rfl (F182.ev 20 rfl) rfl (by first | rfl | omega) ⟨by first | omega | (unfold i64ok at *; omega), by first | omega | (unfold i64ok at *; omega)⟩) rfl fun _ F184 => ?_)))))
             refine l_op (f_mv F184 rfl rfl rfl rfl rfl fun _ F185 => ?_)
             refine s_end ?_
             refine x_normal ⟨k + 1, by omega, D ++ ([(⟨rrC x1, Q0, Q2, Q1⟩ : CsH)]), n + x1.size, A178, N178, C178, F185.cut rfl, ((S19.trans (S29.trans (S176.trans (S178.trans (S180.trans T183))))).pick [0, 1, 2] rfl), by omega, by first | exact rd_take rfl hx1 hk_1 (nf ‹_›) lI_oa (by omega) | exact rd_skip hx1 hk_1 (nf ‹_›) lI_oa (by omega) (by omega), by omega, by (try rw [List.length_append, List.length_singleton]); omega⟩
     · skip
       refine wp_exit (x_then_exit (x_then_exit (x_block_here (x_normal (wp_seq (wp_region_lit (l_op (f_mv F22 rfl rfl rfl rfl rfl fun _ F186 => ?_))))))))
       refine l_op (f_mv F186 rfl rfl rfl rfl rfl fun _ F187 => ?_)
       refine l_op (f_as F187 rfl rfl rfl rfl rfl fun _ F188 => ?_)
       refine l_op (f_as F188 rfl rfl rfl rfl rfl fun _ F189 => ?_)
       refine s_end (x_normal (wp_ret ?_))
       refine x_done (v := .tuple #[.slice oa on oc, .int .i64 ((n : Nat) : Int)]) F189 (results_2 Tryz.results45 (.tmp (F189.ev 4 rfl)) (.tmp (F189.ev 5 rfl))) ?_
       exact ⟨D, oa, on, oc, (congrArg (fun zZ => Ending.returned (.tuple #[.slice oa on oc, .int .i64 zZ])) (show ((n : Nat) : Int) = (((recsIn text frm).2 : Nat) : Int) from by first | exact (rd_none ‹_›).2 | exact (rd_bad hx1 hk_1 (nt ‹_›)).2 | exact (rd_stop hx1 hk_1 lI_oa (by omega) (by omega)).2 | exact (rd_end hk_1 (by omega)).2 | rfl)), (Mv.pick (S4.trans (S15.trans (S20.trans (S21.trans S19)))) [1, 0] rfl), by first | exact (rd_none ‹_›).1 | exact (rd_bad hx1 hk_1 (nt ‹_›)).1 | exact (rd_stop hx1 hk_1 lI_oa (by omega) (by omega)).1 | exact (rd_end hk_1 (by omega)).1⟩
theorem spec_RecordsIn_c {w : World} {H : Nat → Prop} {text : ByteArray} {frm : Int} (Q7 : okS text) (Q6 : i64ok frm) (p0 : text.size ≤ 1048576) :
    Calls Tryz.prog 39 #[.string text, .int .i64 frm] w fun e w' => ∃ (R : List CsH), ∃ (r0_a : Option Addr), ∃ (r0_n : Nat), ∃ (r0_c : Nat), e = .returned (.tuple #[.slice r0_a r0_n r0_c, .int .i64 (((recsIn text frm).2 : Nat) : Int)]) ∧ Mv [] w [ow 28 1 encCs okCs (.slice r0_a r0_n r0_c) R, gr inCs R] w' ∧ R.map CsH.d = (recsIn text frm).1 := by
 have uU : True := (fun _ _ => trivial) H p0
 clear uU
 refine calls_enter 74 Tryz.func39 rfl Tryz.ntmps39 (Nat.le_of_ble_eq_true rfl) (fun _ F0i => ?_)
 have F0 : Fr 74 [(0, .string text), (1, .int .i64 frm)] _ := F0i
 clear F0i
 refine wp_seq (wp_region_lit (l_op (f_val F0 rfl rfl (r_assign rfl rfl) rfl fun _ F1 => ?_)))
 refine l_op (f_val F1 rfl rfl (r_assign rfl rfl) rfl fun _ F2 => ?_)
 refine s_end (x_normal (wp_seq (wp_region_lit (l_op (f_buildSl (ok := okCs) (vs := []) F2 (At.nil w) (([] : List CsH)) ET_83 rfl rfl rfl rfl rfl rfl rfl rfl rfl (by simp) fun b3 _ w3 F4 S3 => ?_)))))
 have S5 : Mv [ow 28 1 encCs okCs (.slice (some ⟨b3, 0, none⟩) 0 0) ([] : List CsH)] w3 [gr inCs ([] : List CsH), ow 28 1 encCs okCs (.slice (some ⟨b3, 0, none⟩) 0 0) ([] : List CsH)] w3 := gr_nil S3.at'
 refine l_op (f_as F4 rfl rfl rfl rfl rfl fun _ F6 => ?_)
 refine s_end (x_normal (wp_seq (wp_seq (wp_region_lit (l_op (f_mv F6 rfl rfl rfl rfl rfl fun _ F7 => ?_))))))
 refine l_op (f_call F7 CF_87 rfl rfl rfl rfl (lc (F7.ev 14 rfl) (lc rfl (lc rfl rfl))) (spec_l01In_c (H := fun _ => True) (x := frm) (least := 1) (most := 100000) Q6 (by first | assumption | exact ⟨by omega, by omega⟩ | (unfold i64ok at *; omega)) (by first | assumption | exact ⟨by omega, by omega⟩ | (unfold i64ok at *; omega))) ?_)
 rintro _ w8 ⟨rfl, m8⟩
 refine ⟨_, rfl, fun _ F9 => ?_⟩
 have S8 := At.frame0 S5.at' m8
 clear m8
 refine l_op (f_val F9 rfl rfl (r_not rfl (F9.ev 15 rfl)) rfl fun _ F10 => ?_)
 refine s_end (x_normal (x_condb (b := (!(inB frm 1 100000))) (F10.ev 16 rfl) (fun h11 => ?_) (fun h11 => ?_)))
 · skip
   refine wp_seq (wp_region_lit (l_op (f_mv F10 rfl rfl rfl rfl rfl fun _ F12 => ?_)))
   refine l_op (f_as F12 rfl rfl rfl rfl rfl fun _ F13 => ?_)
   refine l_op (f_val F13 rfl rfl (r_assign rfl rfl) rfl fun _ F14 => ?_)
   refine s_end (x_normal (wp_ret (x_then_ret ?_)))
   refine x_done (v := .tuple #[.slice (some ⟨b3, 0, none⟩) 0 0, .int .i64 0]) F14 (results_2 Tryz.results39 (.tmp (F14.ev 4 rfl)) (.tmp (F14.ev 5 rfl))) ?_
   exact ⟨([] : List CsH), (some ⟨b3, 0, none⟩), 0, 0, (congrArg (fun zZ => Ending.returned (.tuple #[.slice (some ⟨b3, 0, none⟩) 0 0, .int .i64 zZ])) (show 0 = (((recsIn text frm).2 : Nat) : Int) from by first | exact (rd_none ‹_›).2 | exact (rd_bad hx1 hk_1 (nt ‹_›)).2 | exact (rd_stop hx1 hk_1 lI_oa (by omega) (by omega)).2 | exact (rd_end hk_1 (by omega)).2 | rfl)), (Mv.pick (S3.trans (S5.trans S8)) [1, 0] rfl), by first | exact (rd_none ‹_›).1 | exact (rd_bad hx1 hk_1 (nt ‹_›)).1 | exact (rd_stop hx1 hk_1 lI_oa (by omega) (by omega)).1 | exact (rd_end hk_1 (by omega)).1⟩
 · skip
   refine wp_skip (x_normal (wp_seq (wp_region_lit (l_op (f_mv F10 rfl rfl rfl rfl rfl fun _ F15 => ?_)))))
   refine l_op (f_call F15 CF_89 rfl rfl rfl rfl (lc (F15.ev 18 rfl) rfl) (spec_LinesIn_c (H := fun _ => True) (text := text) Q7 (by first | assumption | omega | (simp <;> omega))) ?_)
   rintro _ w16 ⟨Q4, Q3, Q5, rfl, m16⟩
   refine ⟨_, rfl, fun _ F17 => ?_⟩
   have S16 : Mv _ _ [ow 9 1 encS okS (.slice Q4 Q3 Q5) (lnS text), gr inCs ([] : List CsH), ow 28 1 encCs okCs (.slice (some ⟨b3, 0, none⟩) 0 0) ([] : List CsH)] _ := At.frame S8.at' [] rfl m16
   obtain ⟨Q8, Q10, Q12⟩ := At.ownInv S16.at' ET_44.hk 0 rfl
   clear m16
   refine l_op (f_as F17 rfl rfl rfl rfl rfl fun _ F18 => ?_)
   refine s_end (x_normal (wp_seq (wp_region_lit (l_op (f_val F18 rfl rfl (r_assign rfl rfl) rfl fun _ F19 => ?_)))))
   refine s_end (x_normal (wp_seq (wp_seq (wp_region_lit (l_op (f_val F19 rfl rfl (r_assign rfl rfl) rfl fun _ F20 => ?_))))))
   refine s_end (x_normal (wp_block ?_))
   refine x_loop (fun (k : Nat) aZ wZ => ∃ (D : List CsH), ∃ (n : Nat), ∃ (oa : Option Addr), ∃ (on : Nat), ∃ (oc : Nat), Fr 74 [(9, .int .i64 ((k : Nat) : Int)), (8, .int .i64 ((n : Nat) : Int)), (7, .slice Q4 Q3 Q5), (6, .slice oa on oc), (1, .int .i64 frm)] aZ ∧ Mv [ow 9 1 encS okS (.slice Q4 Q3 Q5) (lnS text), gr inCs ([] : List CsH), ow 28 1 encCs okCs (.slice (some ⟨b3, 0, none⟩) 0 0) ([] : List CsH)] w16 [ow 9 1 encS okS (.slice Q4 Q3 Q5) (lnS text), gr inCs D, ow 28 1 encCs okCs (.slice oa on oc) D] wZ ∧ (k ≤ (lnS text).length) ∧ (rcGo frm ((lnS text).drop k) (D.map CsH.d) n = recsIn text frm) ∧ (n ≤ k * 2097152) ∧ (D.length ≤ k)) (fun (k : Nat) => (lnS text).length - k) (0) ?_ ?_
   · exact ⟨([] : List CsH), 0, (some ⟨b3, 0, none⟩), 0, 0, F20.cut rfl, (Mv.refl S16.at'), by omega, rd_start ‹_›, by omega, Nat.le_refl _⟩
   · rintro k a21 w21 ⟨D, n, oa, on, oc, F21, S21, hk_0, hk_1, hk_2, hk_3⟩
     obtain ⟨lI_oa, lJ_oa, lK_oa⟩ := At.ownInv S21.at' ET_83.hk 2 rfl
     have hsl := lnS_len text
     have hfr : 1 ≤ frm ∧ frm ≤ 100000 := inB_bd (nf ‹_›)
     refine wp_seq (wp_seq (wp_region_lit (l_op (f_mv F21 rfl rfl rfl rfl rfl fun _ F22 => ?_))))
     refine l_op (f_mv F22 rfl rfl rfl rfl rfl fun _ F23 => ?_)
     refine l_op (f_val F23 rfl rfl (r_len Tryz.underlying44 rfl (F23.ev 21 rfl)) rfl fun _ F24 => ?_)
     refine l_op (f_val F24 rfl rfl (r_cmp (b := decide (k < Q3)) (.inr (.inr (.inl rfl))) rfl (F24.ev 20 rfl) (F24.ev 22 rfl) (dec_of (by omega))) rfl fun _ F25 => ?_)
     refine s_end (x_normal (x_cond (p := k < Q3) (F25.ev 23 rfl) (fun h26 => ?_) (fun h26 => ?_)))
     · skip
       refine wp_skip (x_normal (wp_seq (wp_block (wp_seq (wp_region_lit (l_op (f_mv F25 rfl rfl rfl rfl rfl fun _ F27 => ?_)))))))
       refine l_op (f_mv F27 rfl rfl rfl rfl rfl fun _ F28 => ?_)
       obtain ⟨B29, O29, x1, ad29, hx1, okx1, ln29, cl29⟩ := Rd.at (At.rd S21.at' ET_44.hk 0 rfl) k (by first | assumption | omega)
       clear ln29
       refine l_op (f_val F28 rfl rfl (r_indexAddr (i := k) ET_44 rfl ((F28.ev 27 rfl).trans (by rw [ad29])) (F28.ev 28 rfl) (by omega) (by first | assumption | omega)) rfl fun _ F30 => ?_)
       refine l_op (f_val (v := .string x1) F30 rfl rfl (r_load (cs := [.string x1]) TI_9 rfl (F30.ev 29 rfl) rfl (fun _ => rfl) (elem_sub (f := 0) cl29 [.string x1] rfl)) rfl fun _ F31 => ?_)
       refine l_op (f_call F31 CF_90 rfl rfl rfl rfl (lc (F31.ev 30 rfl) rfl) (spec_ReadRecord_c (H := fun _ => True) (text := x1) okx1) ?_)
       rintro _ w32 ⟨Q0, Q2, Q1, rfl, m32⟩
       refine ⟨_, rfl, fun _ F33 => ?_⟩
       have S32 : Mv _ _ [ow 91 2 encC okC (.slice Q0 Q2 Q1) (rrC x1), ow 9 1 encS okS (.slice Q4 Q3 Q5) (lnS text), gr inCs D, ow 28 1 encCs okCs (.slice oa on oc) D] _ := At.frame S21.at' [] rfl m32
       obtain ⟨Q9, Q11, Q13⟩ := At.ownInv S32.at' ET_28.hk 0 rfl
       clear m32
       refine l_op (f_mv F33 rfl rfl rfl rfl rfl fun _ F34 => ?_)
       refine l_op (f_val (v := .int .i64 (rrN x1)) F34 rfl rfl (r_extract rfl (F34.ev 26 rfl) rfl) rfl fun _ F35 => ?_)
       refine l_op (f_val (v := .slice Q0 Q2 Q1) F35 rfl rfl (r_extract rfl (F35.ev 26 rfl) rfl) rfl fun _ F36 => ?_)
       refine l_op (f_val (v := .bool (rrB x1)) F36 rfl rfl (r_extract rfl (F36.ev 26 rfl) rfl) rfl fun _ F37 => ?_)
       refine l_op (f_as F37 rfl rfl rfl rfl rfl fun _ F38 => ?_)
       refine l_op (f_as F38 rfl rfl rfl rfl rfl fun _ F39 => ?_)
       refine l_op (f_as F39 rfl rfl rfl rfl rfl fun _ F40 => ?_)
       refine s_end (x_normal (wp_seq (wp_seq ?_)))
       have hz1 := spS_part10 (nth_mem hx1)
       refine wp_region_lit (l_op (f_mv F40 rfl rfl rfl rfl rfl fun _ F41 => ?_))
       refine l_op (f_val F41 rfl rfl (r_not rfl (F41.ev 35 rfl)) rfl fun _ F42 => ?_)
       refine l_op (f_mv F42 rfl rfl rfl rfl rfl fun _ F43 => ?_)
       rcases Bool.eq_false_or_eq_true (!(rrB x1)) with h44 | h44
       · rw [h44] at F43
         refine l_op (f_skip F43 (wanted_g F43 rfl rfl rfl rfl) rfl rfl fun _ F45 => ?_)
         refine l_op (f_skip F45 (wanted_g F45 rfl rfl rfl rfl) rfl rfl fun _ F46 => ?_)
         refine l_op (f_skip F46 (wanted_g F46 rfl rfl rfl rfl) rfl rfl fun _ F47 => ?_)
         refine l_op (f_skip F47 (wanted_g F47 rfl rfl rfl rfl) rfl rfl fun _ F48 => ?_)
         refine l_op (f_skip F48 (wanted_g F48 rfl rfl rfl rfl) rfl rfl fun _ F49 => ?_)
         refine l_op (f_skip F49 (wanted_g F49 rfl rfl rfl rfl) rfl rfl fun _ F50 => ?_)
         refine l_op (f_skip F50 (wanted_g F50 rfl rfl rfl rfl) rfl rfl fun _ F51 => ?_)
         refine l_op (f_skip F51 (wanted_u F51 rfl rfl rfl) rfl rfl fun _ F52 => ?_)
         refine l_op (f_skip F52 (wanted_u F52 rfl rfl rfl) rfl rfl fun _ F53 => ?_)
         refine l_op (f_skip F53 (wanted_u F53 rfl rfl rfl) rfl rfl fun _ F54 => ?_)
         refine l_op (f_skip F54 (wanted_u F54 rfl rfl rfl) rfl rfl fun _ F55 => ?_)
         refine l_op (f_skip F55 (wanted_u F55 rfl rfl rfl) rfl rfl fun _ F56 => ?_)
         refine l_op (f_skip F56 (wanted_u F56 rfl rfl rfl) rfl rfl fun _ F57 => ?_)
         refine l_op (f_skip F57 (wanted_u F57 rfl rfl rfl) rfl rfl fun _ F58 => ?_)
         refine l_op (f_skip F58 (wanted_u F58 rfl rfl rfl) rfl rfl fun _ F59 => ?_)
         refine l_op (f_skip F59 (wanted_g F59 rfl rfl rfl rfl) rfl rfl fun _ F60 => ?_)
         refine l_op (f_val F60 rfl rfl (r_pick (b := true) rfl (F60.ev 37 rfl) rfl) rfl fun _ F61 => ?_)
         refine s_end (x_normal (wp_cond_true (F61.ev 54 rfl) (wp_exit (x_then_exit (x_block_on rfl (x_then_exit (x_then_exit (x_block_here (x_normal (wp_seq (wp_region_lit (l_op (f_mv F61 rfl rfl rfl rfl rfl fun _ F62 => ?_)))))))))))))
         refine l_op (f_mv F62 rfl rfl rfl rfl rfl fun _ F63 => ?_)
         refine l_op (f_as F63 rfl rfl rfl rfl rfl fun _ F64 => ?_)
         refine l_op (f_as F64 rfl rfl rfl rfl rfl fun _ F65 => ?_)
         have F66 : Fr 74 [(5, .int .i64 ((n : Nat) : Int)), (4, .slice oa on oc)] _ := F65.cut rfl
         clear F21 F22 F23 F24 F25 F27 F28 F30 F31 F33 F34 F35 F36 F37 F38 F39 F40 F41 F42 F43 F45 F46 F47 F48 F49 F50 F51 F52 F53 F54 F55 F56 F57 F58 F59 F60 F61 F62 F63 F64 F65
         refine s_end (x_normal (wp_ret ?_))
         refine x_done (v := .tuple #[.slice oa on oc, .int .i64 ((n : Nat) : Int)]) F66 (results_2 Tryz.results39 (.tmp (F66.ev 4 rfl)) (.tmp (F66.ev 5 rfl))) ?_
         exact ⟨D, oa, on, oc, (congrArg (fun zZ => Ending.returned (.tuple #[.slice oa on oc, .int .i64 zZ])) (show ((n : Nat) : Int) = (((recsIn text frm).2 : Nat) : Int) from by first | exact (rd_none ‹_›).2 | exact (rd_bad hx1 hk_1 (nt ‹_›)).2 | exact (rd_stop hx1 hk_1 lI_oa (by omega) (by omega)).2 | exact (rd_end hk_1 (by omega)).2 | rfl)), (Mv.pick (S3.trans (S5.trans (S8.trans (S16.trans (S21.trans S32))))) [3, 2] rfl), by first | exact (rd_none ‹_›).1 | exact (rd_bad hx1 hk_1 (nt ‹_›)).1 | exact (rd_stop hx1 hk_1 lI_oa (by omega) (by omega)).1 | exact (rd_end hk_1 (by omega)).1⟩
       · rw [h44] at F43
         refine l_op (f_mv F43 (wanted_g F43 rfl rfl rfl rfl) rfl rfl rfl rfl fun _ F67 => ?_)
         refine l_op (f_mv F67 (wanted_g F67 rfl rfl rfl rfl) rfl rfl rfl rfl fun _ F68 => ?_)
         refine l_op (f_mv F68 (wanted_g F68 rfl rfl rfl rfl) rfl rfl rfl rfl fun _ F69 => ?_)
         refine l_op (f_val F69 (wanted_g F69 rfl rfl rfl rfl) rfl (r_len Tryz.underlying83 rfl (F69.ev 40 rfl)) rfl fun _ F70 => ?_)
         refine l_op (f_val F70 (wanted_g F70 rfl rfl rfl rfl) rfl (r_add (z := (frm + ((on : Nat) : Int))) rfl (F70.ev 39 rfl) (F70.ev 41 rfl) (by first | rfl | omega) ⟨by first | omega | (unfold i64ok at *; omega), by first | omega | (unfold i64ok at *; omega)⟩) rfl fun _ F71 => ?_)
         refine l_op (f_val F71 (wanted_g F71 rfl rfl rfl rfl) rfl (r_cmp (b := decide ((rrN x1) ≠ (frm + ((on : Nat) : Int)))) (.inr (.inl rfl)) rfl (F71.ev 38 rfl) (F71.ev 42 rfl) (dec_of (by omega))) rfl fun _ F72 => ?_)
         refine l_op (f_mv F72 (wanted_g F72 rfl rfl rfl rfl) rfl rfl rfl rfl fun _ F73 => ?_)
         rcases Decidable.em ((rrN x1) ≠ (frm + ((on : Nat) : Int))) with h74 | h74
         · rw [decide_eq_true h74] at F73
           refine l_op (f_mv F73 (wanted_g F73 rfl rfl rfl rfl) rfl rfl rfl rfl fun _ F75 => ?_)
           refine l_op (f_val F75 (wanted_g F75 rfl rfl rfl rfl) rfl (r_len Tryz.underlying83 rfl (F75.ev 45 rfl)) rfl fun _ F76 => ?_)
           refine l_op (f_val F76 (wanted_g F76 rfl rfl rfl rfl) rfl (r_cmp (b := decide (on > 0)) (.inr (.inr (.inr (.inr (.inl rfl))))) rfl (F76.ev 46 rfl) rfl (dec_of (by omega))) rfl fun _ F77 => ?_)
           refine l_op (f_mv F77 (wanted_g F77 rfl rfl rfl rfl) rfl rfl rfl rfl fun _ F78 => ?_)
           rcases Decidable.em (on > 0) with h79 | h79
           · rw [decide_eq_true h79] at F78
             refine l_op (f_skip F78 (wanted_g F78 rfl rfl rfl rfl) rfl rfl fun _ F80 => ?_)
             refine l_op (f_skip F80 (wanted_g F80 rfl rfl rfl rfl) rfl rfl fun _ F81 => ?_)
             refine l_op (f_skip F81 (wanted_g F81 rfl rfl rfl rfl) rfl rfl fun _ F82 => ?_)
             refine l_op (f_val F82 (wanted_g F82 rfl rfl rfl rfl) rfl (r_pick (b := true) rfl (F82.ev 48 rfl) rfl) rfl fun _ F83 => ?_)
             refine l_op (f_val F83 (wanted_g F83 rfl rfl rfl rfl) rfl (r_pick (b := true) rfl (F83.ev 44 rfl) (F83.ev 52 rfl)) rfl fun _ F84 => ?_)
             refine l_op (f_val F84 rfl rfl (r_pick (b := false) rfl (F84.ev 37 rfl) (F84.ev 53 rfl)) rfl fun _ F85 => ?_)
             refine s_end (x_normal (wp_cond_true (F85.ev 54 rfl) (wp_exit (x_then_exit (x_block_on rfl (x_then_exit (x_then_exit (x_block_here (x_normal (wp_seq (wp_region_lit (l_op (f_mv F85 rfl rfl rfl rfl rfl fun _ F86 => ?_)))))))))))))
             refine l_op (f_mv F86 rfl rfl rfl rfl rfl fun _ F87 => ?_)
             refine l_op (f_as F87 rfl rfl rfl rfl rfl fun _ F88 => ?_)
             refine l_op (f_as F88 rfl rfl rfl rfl rfl fun _ F89 => ?_)
             have F90 : Fr 74 [(5, .int .i64 ((n : Nat) : Int)), (4, .slice oa on oc)] _ := F89.cut rfl
             clear F21 F22 F23 F24 F25 F27 F28 F30 F31 F33 F34 F35 F36 F37 F38 F39 F40 F41 F42 F43 F67 F68 F69 F70 F71 F72 F73 F75 F76 F77 F78 F80 F81 F82 F83 F84 F85 F86 F87 F88 F89
             refine s_end (x_normal (wp_ret ?_))
             refine x_done (v := .tuple #[.slice oa on oc, .int .i64 ((n : Nat) : Int)]) F90 (results_2 Tryz.results39 (.tmp (F90.ev 4 rfl)) (.tmp (F90.ev 5 rfl))) ?_
             exact ⟨D, oa, on, oc, (congrArg (fun zZ => Ending.returned (.tuple #[.slice oa on oc, .int .i64 zZ])) (show ((n : Nat) : Int) = (((recsIn text frm).2 : Nat) : Int) from by first | exact (rd_none ‹_›).2 | exact (rd_bad hx1 hk_1 (nt ‹_›)).2 | exact (rd_stop hx1 hk_1 lI_oa (by omega) (by omega)).2 | exact (rd_end hk_1 (by omega)).2 | rfl)), (Mv.pick (S3.trans (S5.trans (S8.trans (S16.trans (S21.trans S32))))) [3, 2] rfl), by first | exact (rd_none ‹_›).1 | exact (rd_bad hx1 hk_1 (nt ‹_›)).1 | exact (rd_stop hx1 hk_1 lI_oa (by omega) (by omega)).1 | exact (rd_end hk_1 (by omega)).1⟩
           · rw [decide_eq_false h79] at F78
             refine l_op (f_mv F78 (wanted_g F78 rfl rfl rfl rfl) rfl rfl rfl rfl fun _ F91 => ?_)
             refine l_op (f_mv F91 (wanted_g F91 rfl rfl rfl rfl) rfl rfl rfl rfl fun _ F92 => ?_)
             refine l_op (f_val F92 (wanted_g F92 rfl rfl rfl rfl) rfl (r_cmp (b := decide ((rrN x1) > frm)) (.inr (.inr (.inr (.inr (.inl rfl))))) rfl (F92.ev 49 rfl) (F92.ev 50 rfl) (dec_of (by omega))) rfl fun _ F93 => ?_)
             refine l_op (f_val F93 (wanted_g F93 rfl rfl rfl rfl) rfl (r_pick (b := false) rfl (F93.ev 48 rfl) (F93.ev 51 rfl)) rfl fun _ F94 => ?_)
             refine l_op (f_val F94 (wanted_g F94 rfl rfl rfl rfl) rfl (r_pick (b := true) rfl (F94.ev 44 rfl) (F94.ev 52 rfl)) rfl fun _ F95 => ?_)
             refine l_op (f_val F95 rfl rfl (r_pick (b := false) rfl (F95.ev 37 rfl) (F95.ev 53 rfl)) rfl fun _ F96 => ?_)
             refine s_end (x_normal (x_cond (p := (rrN x1) > frm) (F96.ev 54 rfl) (fun h97 => ?_) (fun h97 => ?_)))
             · skip
               refine wp_exit (x_then_exit (x_block_on rfl (x_then_exit (x_then_exit (x_block_here (x_normal (wp_seq (wp_region_lit (l_op (f_mv F96 rfl rfl rfl rfl rfl fun _ F98 => ?_))))))))))
               refine l_op (f_mv F98 rfl rfl rfl rfl rfl fun _ F99 => ?_)
               refine l_op (f_as F99 rfl rfl rfl rfl rfl fun _ F100 => ?_)
               refine l_op (f_as F100 rfl rfl rfl rfl rfl fun _ F101 => ?_)
               have F102 : Fr 74 [(5, .int .i64 ((n : Nat) : Int)), (4, .slice oa on oc)] _ := F101.cut rfl
               clear F21 F22 F23 F24 F25 F27 F28 F30 F31 F33 F34 F35 F36 F37 F38 F39 F40 F41 F42 F43 F67 F68 F69 F70 F71 F72 F73 F75 F76 F77 F78 F91 F92 F93 F94 F95 F96 F98 F99 F100 F101
               refine s_end (x_normal (wp_ret ?_))
               refine x_done (v := .tuple #[.slice oa on oc, .int .i64 ((n : Nat) : Int)]) F102 (results_2 Tryz.results39 (.tmp (F102.ev 4 rfl)) (.tmp (F102.ev 5 rfl))) ?_
               exact ⟨D, oa, on, oc, (congrArg (fun zZ => Ending.returned (.tuple #[.slice oa on oc, .int .i64 zZ])) (show ((n : Nat) : Int) = (((recsIn text frm).2 : Nat) : Int) from by first | exact (rd_none ‹_›).2 | exact (rd_bad hx1 hk_1 (nt ‹_›)).2 | exact (rd_stop hx1 hk_1 lI_oa (by omega) (by omega)).2 | exact (rd_end hk_1 (by omega)).2 | rfl)), (Mv.pick (S3.trans (S5.trans (S8.trans (S16.trans (S21.trans S32))))) [3, 2] rfl), by first | exact (rd_none ‹_›).1 | exact (rd_bad hx1 hk_1 (nt ‹_›)).1 | exact (rd_stop hx1 hk_1 lI_oa (by omega) (by omega)).1 | exact (rd_end hk_1 (by omega)).1⟩
             · skip
               refine wp_skip (x_normal (wp_seq (wp_seq (wp_region_lit (l_op (f_mv F96 rfl rfl rfl rfl rfl fun _ F103 => ?_))))))
               refine l_op (f_mv F103 rfl rfl rfl rfl rfl fun _ F104 => ?_)
               refine l_op (f_mv F104 rfl rfl rfl rfl rfl fun _ F105 => ?_)
               refine l_op (f_val F105 rfl rfl (r_len Tryz.underlying83 rfl (F105.ev 57 rfl)) rfl fun _ F106 => ?_)
               refine l_op (f_val F106 rfl rfl (r_add (z := (frm + ((on : Nat) : Int))) rfl (F106.ev 56 rfl) (F106.ev 58 rfl) (by first | rfl | omega) ⟨by first | omega | (unfold i64ok at *; omega), by first | omega | (unfold i64ok at *; omega)⟩) rfl fun _ F107 => ?_)
               refine l_op (f_val F107 rfl rfl (r_cmp (b := decide ((rrN x1) = (frm + ((on : Nat) : Int)))) (.inl rfl) rfl (F107.ev 55 rfl) (F107.ev 59 rfl) (dec_of (by omega))) rfl fun _ F108 => ?_)
               have F109 : Fr 74 [(60, .bool (decide ((rrN x1) = (frm + ((on : Nat) : Int))))), (11, .slice Q0 Q2 Q1), (9, .int .i64 ((k : Nat) : Int)), (8, .int .i64 ((n : Nat) : Int)), (7, .slice Q4 Q3 Q5), (6, .slice oa on oc), (1, .int .i64 frm)] _ := F108.cut rfl
               clear F21 F22 F23 F24 F25 F27 F28 F30 F31 F33 F34 F35 F36 F37 F38 F39 F40 F41 F42 F43 F67 F68 F69 F70 F71 F72 F73 F75 F76 F77 F78 F91 F92 F93 F94 F95 F96 F103 F104 F105 F106 F107 F108
               refine s_end (x_normal (x_cond (p := (rrN x1) = (frm + ((on : Nat) : Int))) (F109.ev 60 rfl) (fun h110 => ?_) (fun h110 => ?_)))
               · skip
                 refine wp_region_lit (l_op (f_mv F109 rfl rfl rfl rfl rfl fun _ F111 => ?_))
                 refine l_op (f_mv F111 rfl rfl rfl rfl rfl fun _ F112 => ?_)
                 refine l_op (f_buildSl (ok := okCs) (vs := [.slice Q0 Q2 Q1]) F112 S32.at' ([(⟨rrC x1, Q0, Q2, Q1⟩ : CsH)]) ET_83 rfl rfl rfl rfl rfl rfl (lc (pr2 (F112.ev 62 rfl)) rfl) rfl rfl (fun x hx => (List.mem_singleton.1 hx) ▸ ⟨⟩) fun b113 _ w113 F114 S113 => ?_)
                 refine l_op (f_app (news := [(⟨rrC x1, Q0, Q2, Q1⟩ : CsH)]) F114 S113.at' 4 ET_83 rfl rfl rfl rfl rfl rfl (F114.ev 61 rfl) (F114.ev 63 rfl) ((At.rd S113.at' ET_83.hk 0 rfl)).1 (by ((repeat (first | rw [List.length_append] | rw [List.length_cons] | rw [List.length_nil] | rw [List.length_take] | rw [List.length_drop])) <;> omega)) fun A115 N115 C115 _ w115 F116 S115 l115 => ?_)
                 have S117 : Mv [ow 28 1 encCs okCs (.slice A115 N115 C115) (D ++ ([(⟨rrC x1, Q0, Q2, Q1⟩ : CsH)])), ow 28 1 encCs okCs (.slice (some ⟨b113, 0, none⟩) 1 1) ([(⟨rrC x1, Q0, Q2, Q1⟩ : CsH)]), ow 91 2 encC okC (.slice Q0 Q2 Q1) (rrC x1), ow 9 1 encS okS (.slice Q4 Q3 Q5) (lnS text), gr inCs D] w115 [gr inCs (D ++ ([(⟨rrC x1, Q0, Q2, Q1⟩ : CsH)])), ow 28 1 encCs okCs (.slice A115 N115 C115) (D ++ ([(⟨rrC x1, Q0, Q2, Q1⟩ : CsH)])), ow 28 1 encCs okCs (.slice (some ⟨b113, 0, none⟩) 1 1) ([(⟨rrC x1, Q0, Q2, Q1⟩ : CsH)]), ow 9 1 encS okS (.slice Q4 Q3 Q5) (lnS text)] w115 := gr_push S115.at' [2, 4] (⟨rrC x1, Q0, Q2, Q1⟩ : CsH) rfl rfl
                 have S118 := At.drop S117.at' 2
                 refine l_op (f_as F116 rfl rfl rfl rfl rfl fun _ F119 => ?_)
                 have T120 : Mv _ _ [gr inCs (D ++ ([(⟨rrC x1, Q0, Q2, Q1⟩ : CsH)])), ow 28 1 encCs okCs (.slice A115 N115 C115) (D ++ ([(⟨rrC x1, Q0, Q2, Q1⟩ : CsH)])), ow 9 1 encS okS (.slice Q4 Q3 Q5) (lnS text)] _ := S118
                 refine s_end (x_normal (wp_region_lit (l_op (f_mv F119 rfl rfl rfl rfl rfl fun _ F121 => ?_))))
                 refine l_op (f_mv F121 rfl rfl rfl rfl rfl fun _ F122 => ?_)
                 refine l_op (f_mv F122 rfl rfl rfl rfl rfl fun _ F123 => ?_)
                 obtain ⟨B124, O124, y124, ad124, hy124, oky124, ln124, cl124⟩ := Rd.at (At.rd T120.at' ET_44.hk 2 rfl) k (by first | assumption | omega)
                 clear ln124
                 obtain rfl := Option.some.inj (hx1.symm.trans hy124)
                 clear hy124 oky124
                 refine l_op (f_val F123 rfl rfl (r_indexAddr (i := k) ET_44 rfl ((F123.ev 66 rfl).trans (by rw [ad124])) (F123.ev 67 rfl) (by omega) (by first | assumption | omega)) rfl fun _ F125 => ?_)
                 refine l_op (f_val (v := .string x1) F125 rfl rfl (r_load (cs := [.string x1]) TI_9 rfl (F125.ev 68 rfl) rfl (fun _ => rfl) (elem_sub (f := 0) cl124 [.string x1] rfl)) rfl fun _ F126 => ?_)
                 refine l_op (f_val F126 rfl rfl (r_lenS (fun t ht => by cases ht; exact Tryz.underlying9) rfl rfl (F126.ev 69 rfl)) rfl fun _ F127 => ?_)
                 refine l_op (f_val F127 rfl rfl (r_add (z := ((n + x1.size : Nat) : Int)) rfl (F127.ev 65 rfl) (F127.ev 70 rfl) (by first | rfl | omega) ⟨by first | omega | (unfold i64ok at *; omega), by first | omega | (unfold i64ok at *; omega)⟩) rfl fun _ F128 => ?_)
                 refine l_op (f_as F128 rfl rfl rfl rfl rfl fun _ F129 => ?_)
                 refine s_end (x_block_normal (x_normal (wp_region_lit (l_op (f_mv F129 rfl rfl rfl rfl rfl fun _ F130 => ?_)))))
                 refine l_op (f_val F130 rfl rfl (r_add (z := ((k + 1 : Nat) : Int)) rfl (F130.ev 24 rfl) rfl (by first | rfl | omega) ⟨by first | omega | (unfold i64ok at *; omega), by first | omega | (unfold i64ok at *; omega)⟩) rfl fun _ F131 => ?_)
                 refine l_op (f_as F131 rfl rfl rfl rfl rfl fun _ F132 => ?_)
                 refine s_end ?_
                 refine x_normal ⟨k + 1, by omega, D ++ ([(⟨rrC x1, Q0, Q2, Q1⟩ : CsH)]), n + x1.size, A115, N115, C115, F132.cut rfl, ((S21.trans (S32.trans (S113.trans (S115.trans (S117.trans T120))))).pick [2, 0, 1] rfl), by omega, by first | exact rd_take rfl hx1 hk_1 (nf ‹_›) lI_oa (by omega) | exact rd_skip hx1 hk_1 (nf ‹_›) lI_oa (by omega) (by omega), by omega, by (try rw [List.length_append, List.length_singleton]); omega⟩
               · skip
                 refine wp_skip (x_normal (wp_region_lit (l_op (f_mv F109 rfl rfl rfl rfl rfl fun _ F133 => ?_))))
                 refine l_op (f_mv F133 rfl rfl rfl rfl rfl fun _ F134 => ?_)
                 refine l_op (f_mv F134 rfl rfl rfl rfl rfl fun _ F135 => ?_)
                 obtain ⟨B136, O136, y136, ad136, hy136, oky136, ln136, cl136⟩ := Rd.at (At.rd S32.at' ET_44.hk 1 rfl) k (by first | assumption | omega)
                 clear ln136
                 obtain rfl := Option.some.inj (hx1.symm.trans hy136)
                 clear hy136 oky136
                 refine l_op (f_val F135 rfl rfl (r_indexAddr (i := k) ET_44 rfl ((F135.ev 66 rfl).trans (by rw [ad136])) (F135.ev 67 rfl) (by omega) (by first | assumption | omega)) rfl fun _ F137 => ?_)
                 refine l_op (f_val (v := .string x1) F137 rfl rfl (r_load (cs := [.string x1]) TI_9 rfl (F137.ev 68 rfl) rfl (fun _ => rfl) (elem_sub (f := 0) cl136 [.string x1] rfl)) rfl fun _ F138 => ?_)
                 refine l_op (f_val F138 rfl rfl (r_lenS (fun t ht => by cases ht; exact Tryz.underlying9) rfl rfl (F138.ev 69 rfl)) rfl fun _ F139 => ?_)
                 refine l_op (f_val F139 rfl rfl (r_add (z := ((n + x1.size : Nat) : Int)) rfl (F139.ev 65 rfl) (F139.ev 70 rfl) (by first | rfl | omega) ⟨by first | omega | (unfold i64ok at *; omega), by first | omega | (unfold i64ok at *; omega)⟩) rfl fun _ F140 => ?_)
                 refine l_op (f_as F140 rfl rfl rfl rfl rfl fun _ F141 => ?_)
                 refine s_end (x_block_normal (x_normal (wp_region_lit (l_op (f_mv F141 rfl rfl rfl rfl rfl fun _ F142 => ?_)))))
                 refine l_op (f_val F142 rfl rfl (r_add (z := ((k + 1 : Nat) : Int)) rfl (F142.ev 24 rfl) rfl (by first | rfl | omega) ⟨by first | omega | (unfold i64ok at *; omega), by first | omega | (unfold i64ok at *; omega)⟩) rfl fun _ F143 => ?_)
                 refine l_op (f_as F143 rfl rfl rfl rfl rfl fun _ F144 => ?_)
                 refine s_end ?_
                 refine x_normal ⟨k + 1, by omega, D, n + x1.size, oa, on, oc, F144.cut rfl, ((S21.trans S32).pick [1, 2, 3] rfl), by omega, by first | exact rd_take rfl hx1 hk_1 (nf ‹_›) lI_oa (by omega) | exact rd_skip hx1 hk_1 (nf ‹_›) lI_oa (by omega) (by omega), by omega, by (try rw [List.length_append, List.length_singleton]); omega⟩
         · rw [decide_eq_false h74] at F73
           refine l_op (f_skip F73 (wanted_g F73 rfl rfl rfl rfl) rfl rfl fun _ F145 => ?_)
           refine l_op (f_skip F145 (wanted_g F145 rfl rfl rfl rfl) rfl rfl fun _ F146 => ?_)
           refine l_op (f_skip F146 (wanted_g F146 rfl rfl rfl rfl) rfl rfl fun _ F147 => ?_)
           refine l_op (f_skip F147 (wanted_g F147 rfl rfl rfl rfl) rfl rfl fun _ F148 => ?_)
           refine l_op (f_skip F148 (wanted_u F148 rfl rfl rfl) rfl rfl fun _ F149 => ?_)
           refine l_op (f_skip F149 (wanted_u F149 rfl rfl rfl) rfl rfl fun _ F150 => ?_)
           refine l_op (f_skip F150 (wanted_u F150 rfl rfl rfl) rfl rfl fun _ F151 => ?_)
           refine l_op (f_skip F151 (wanted_g F151 rfl rfl rfl rfl) rfl rfl fun _ F152 => ?_)
           refine l_op (f_val F152 (wanted_g F152 rfl rfl rfl rfl) rfl (r_pick (b := false) rfl (F152.ev 44 rfl) rfl) rfl fun _ F153 => ?_)
           refine l_op (f_val F153 rfl rfl (r_pick (b := false) rfl (F153.ev 37 rfl) (F153.ev 53 rfl)) rfl fun _ F154 => ?_)
           refine s_end (x_normal (wp_cond_false (F154.ev 54 rfl) (wp_skip (x_normal (wp_seq (wp_seq (wp_region_lit (l_op (f_mv F154 rfl rfl rfl rfl rfl fun _ F155 => ?_)))))))))
           refine l_op (f_mv F155 rfl rfl rfl rfl rfl fun _ F156 => ?_)
           refine l_op (f_mv F156 rfl rfl rfl rfl rfl fun _ F157 => ?_)
           refine l_op (f_val F157 rfl rfl (r_len Tryz.underlying83 rfl (F157.ev 57 rfl)) rfl fun _ F158 => ?_)
           refine l_op (f_val F158 rfl rfl (r_add (z := (frm + ((on : Nat) : Int))) rfl (F158.ev 56 rfl) (F158.ev 58 rfl) (by first | rfl | omega) ⟨by first | omega | (unfold i64ok at *; omega), by first | omega | (unfold i64ok at *; omega)⟩) rfl fun _ F159 => ?_)
           refine l_op (f_val F159 rfl rfl (r_cmp (b := decide ((rrN x1) = (frm + ((on : Nat) : Int)))) (.inl rfl) rfl (F159.ev 55 rfl) (F159.ev 59 rfl) (dec_of (by omega))) rfl fun _ F160 => ?_)
           have F161 : Fr 74 [(60, .bool (decide ((rrN x1) = (frm + ((on : Nat) : Int))))), (11, .slice Q0 Q2 Q1), (9, .int .i64 ((k : Nat) : Int)), (8, .int .i64 ((n : Nat) : Int)), (7, .slice Q4 Q3 Q5), (6, .slice oa on oc), (1, .int .i64 frm)] _ := F160.cut rfl
           clear F21 F22 F23 F24 F25 F27 F28 F30 F31 F33 F34 F35 F36 F37 F38 F39 F40 F41 F42 F43 F67 F68 F69 F70 F71 F72 F73 F145 F146 F147 F148 F149 F150 F151 F152 F153 F154 F155 F156 F157 F158 F159 F160
           refine s_end (x_normal (x_cond (p := (rrN x1) = (frm + ((on : Nat) : Int))) (F161.ev 60 rfl) (fun h162 => ?_) (fun h162 => ?_)))
           · skip
             refine wp_region_lit (l_op (f_mv F161 rfl rfl rfl rfl rfl fun _ F163 => ?_))
             refine l_op (f_mv F163 rfl rfl rfl rfl rfl fun _ F164 => ?_)
             refine l_op (f_buildSl (ok := okCs) (vs := [.slice Q0 Q2 Q1]) F164 S32.at' ([(⟨rrC x1, Q0, Q2, Q1⟩ : CsH)]) ET_83 rfl rfl rfl rfl rfl rfl (lc (pr2 (F164.ev 62 rfl)) rfl) rfl rfl (fun x hx => (List.mem_singleton.1 hx) ▸ ⟨⟩) fun b165 _ w165 F166 S165 => ?_)
             refine l_op (f_app (news := [(⟨rrC x1, Q0, Q2, Q1⟩ : CsH)]) F166 S165.at' 4 ET_83 rfl rfl rfl rfl rfl rfl (F166.ev 61 rfl) (F166.ev 63 rfl) ((At.rd S165.at' ET_83.hk 0 rfl)).1 (by ((repeat (first | rw [List.length_append] | rw [List.length_cons] | rw [List.length_nil] | rw [List.length_take] | rw [List.length_drop])) <;> omega)) fun A167 N167 C167 _ w167 F168 S167 l167 => ?_)
             have S169 : Mv [ow 28 1 encCs okCs (.slice A167 N167 C167) (D ++ ([(⟨rrC x1, Q0, Q2, Q1⟩ : CsH)])), ow 28 1 encCs okCs (.slice (some ⟨b165, 0, none⟩) 1 1) ([(⟨rrC x1, Q0, Q2, Q1⟩ : CsH)]), ow 91 2 encC okC (.slice Q0 Q2 Q1) (rrC x1), ow 9 1 encS okS (.slice Q4 Q3 Q5) (lnS text), gr inCs D] w167 [gr inCs (D ++ ([(⟨rrC x1, Q0, Q2, Q1⟩ : CsH)])), ow 28 1 encCs okCs (.slice A167 N167 C167) (D ++ ([(⟨rrC x1, Q0, Q2, Q1⟩ : CsH)])), ow 28 1 encCs okCs (.slice (some ⟨b165, 0, none⟩) 1 1) ([(⟨rrC x1, Q0, Q2, Q1⟩ : CsH)]), ow 9 1 encS okS (.slice Q4 Q3 Q5) (lnS text)] w167 := gr_push S167.at' [2, 4] (⟨rrC x1, Q0, Q2, Q1⟩ : CsH) rfl rfl
             have S170 := At.drop S169.at' 2
             refine l_op (f_as F168 rfl rfl rfl rfl rfl fun _ F171 => ?_)
             have T172 : Mv _ _ [gr inCs (D ++ ([(⟨rrC x1, Q0, Q2, Q1⟩ : CsH)])), ow 28 1 encCs okCs (.slice A167 N167 C167) (D ++ ([(⟨rrC x1, Q0, Q2, Q1⟩ : CsH)])), ow 9 1 encS okS (.slice Q4 Q3 Q5) (lnS text)] _ := S170
             refine s_end (x_normal (wp_region_lit (l_op (f_mv F171 rfl rfl rfl rfl rfl fun _ F173 => ?_))))
             refine l_op (f_mv F173 rfl rfl rfl rfl rfl fun _ F174 => ?_)
             refine l_op (f_mv F174 rfl rfl rfl rfl rfl fun _ F175 => ?_)
             obtain ⟨B176, O176, y176, ad176, hy176, oky176, ln176, cl176⟩ := Rd.at (At.rd T172.at' ET_44.hk 2 rfl) k (by first | assumption | omega)
             clear ln176
             obtain rfl := Option.some.inj (hx1.symm.trans hy176)
             clear hy176 oky176
             refine l_op (f_val F175 rfl rfl (r_indexAddr (i := k) ET_44 rfl ((F175.ev 66 rfl).trans (by rw [ad176])) (F175.ev 67 rfl) (by omega) (by first | assumption | omega)) rfl fun _ F177 => ?_)
             refine l_op (f_val (v := .string x1) F177 rfl rfl (r_load (cs := [.string x1]) TI_9 rfl (F177.ev 68 rfl) rfl (fun _ => rfl) (elem_sub (f := 0) cl176 [.string x1] rfl)) rfl fun _ F178 => ?_)
             refine l_op (f_val F178 rfl rfl (r_lenS (fun t ht => by cases ht; exact Tryz.underlying9) rfl rfl (F178.ev 69 rfl)) rfl fun _ F179 => ?_)
             refine l_op (f_val F179 rfl rfl (r_add (z := ((n + x1.size : Nat) : Int)) rfl (F179.ev 65 rfl) (F179.ev 70 rfl) (by first | rfl | omega) ⟨by first | omega | (unfold i64ok at *; omega), by first | omega | (unfold i64ok at *; omega)⟩) rfl fun _ F180 => ?_)
             refine l_op (f_as F180 rfl rfl rfl rfl rfl fun _ F181 => ?_)
             refine s_end (x_block_normal (x_normal (wp_region_lit (l_op (f_mv F181 rfl rfl rfl rfl rfl fun _ F182 => ?_)))))
             refine l_op (f_val F182 rfl rfl (r_add (z := ((k + 1 : Nat) : Int)) rfl (F182.ev 24 rfl) rfl (by first | rfl | omega) ⟨by first | omega | (unfold i64ok at *; omega), by first | omega | (unfold i64ok at *; omega)⟩) rfl fun _ F183 => ?_)
             refine l_op (f_as F183 rfl rfl rfl rfl rfl fun _ F184 => ?_)
             refine s_end ?_
             refine x_normal ⟨k + 1, by omega, D ++ ([(⟨rrC x1, Q0, Q2, Q1⟩ : CsH)]), n + x1.size, A167, N167, C167, F184.cut rfl, ((S21.trans (S32.trans (S165.trans (S167.trans (S169.trans T172))))).pick [2, 0, 1] rfl), by omega, by first | exact rd_take rfl hx1 hk_1 (nf ‹_›) lI_oa (by omega) | exact rd_skip hx1 hk_1 (nf ‹_›) lI_oa (by omega) (by omega), by omega, by (try rw [List.length_append, List.length_singleton]); omega⟩
           · skip
             refine wp_skip (x_normal (wp_region_lit (l_op (f_mv F161 rfl rfl rfl rfl rfl fun _ F185 => ?_))))
             refine l_op (f_mv F185 rfl rfl rfl rfl rfl fun _ F186 => ?_)
             refine l_op (f_mv F186 rfl rfl rfl rfl rfl fun _ F187 => ?_)
             obtain ⟨B188, O188, y188, ad188, hy188, oky188, ln188, cl188⟩ := Rd.at (At.rd S32.at' ET_44.hk 1 rfl) k (by first | assumption | omega)
             clear ln188
             obtain rfl := Option.some.inj (hx1.symm.trans hy188)
             clear hy188 oky188
             refine l_op (f_val F187 rfl rfl (r_indexAddr (i := k) ET_44 rfl ((F187.ev 66 rfl).trans (by rw [ad188])) (F187.ev 67 rfl) (by omega) (by first | assumption | omega)) rfl fun _ F189 => ?_)
             refine l_op (f_val (v := .string x1) F189 rfl rfl (r_load (cs := [.string x1]) TI_9 rfl (F189.ev 68 rfl) rfl (fun _ => rfl) (elem_sub (f := 0) cl188 [.string x1] rfl)) rfl fun _ F190 => ?_)
             refine l_op (f_val F190 rfl rfl (r_lenS (fun t ht => by cases ht; exact Tryz.underlying9) rfl rfl (F190.ev 69 rfl)) rfl fun _ F191 => ?_)
             refine l_op (f_val F191 rfl rfl (r_add (z := ((n + x1.size : Nat) : Int)) rfl (F191.ev 65 rfl) (F191.ev 70 rfl) (by first | rfl | omega) ⟨by first | omega | (unfold i64ok at *; omega), by first | omega | (unfold i64ok at *; omega)⟩) rfl fun _ F192 => ?_)
             refine l_op (f_as F192 rfl rfl rfl rfl rfl fun _ F193 => ?_)
             refine s_end (x_block_normal (x_normal (wp_region_lit (l_op (f_mv F193 rfl rfl rfl rfl rfl fun _ F194 => ?_)))))
             refine l_op (f_val F194 rfl rfl (r_add (z := ((k + 1 : Nat) : Int)) rfl (F194.ev 24 rfl) rfl (by first | rfl | omega) ⟨by first | omega | (unfold i64ok at *; omega), by first | omega | (unfold i64ok at *; omega)⟩) rfl fun _ F195 => ?_)
             refine l_op (f_as F195 rfl rfl rfl rfl rfl fun _ F196 => ?_)
             refine s_end ?_
             refine x_normal ⟨k + 1, by omega, D, n + x1.size, oa, on, oc, F196.cut rfl, ((S21.trans S32).pick [1, 2, 3] rfl), by omega, by first | exact rd_take rfl hx1 hk_1 (nf ‹_›) lI_oa (by omega) | exact rd_skip hx1 hk_1 (nf ‹_›) lI_oa (by omega) (by omega), by omega, by (try rw [List.length_append, List.length_singleton]); omega⟩
     · skip
       refine wp_exit (x_then_exit (x_then_exit (x_block_here (x_normal (wp_seq (wp_region_lit (l_op (f_mv F25 rfl rfl rfl rfl rfl fun _ F197 => ?_))))))))
       refine l_op (f_mv F197 rfl rfl rfl rfl rfl fun _ F198 => ?_)
       refine l_op (f_as F198 rfl rfl rfl rfl rfl fun _ F199 => ?_)
       refine l_op (f_as F199 rfl rfl rfl rfl rfl fun _ F200 => ?_)
       refine s_end (x_normal (wp_ret ?_))
       refine x_done (v := .tuple #[.slice oa on oc, .int .i64 ((n : Nat) : Int)]) F200 (results_2 Tryz.results39 (.tmp (F200.ev 4 rfl)) (.tmp (F200.ev 5 rfl))) ?_
       exact ⟨D, oa, on, oc, (congrArg (fun zZ => Ending.returned (.tuple #[.slice oa on oc, .int .i64 zZ])) (show ((n : Nat) : Int) = (((recsIn text frm).2 : Nat) : Int) from by first | exact (rd_none ‹_›).2 | exact (rd_bad hx1 hk_1 (nt ‹_›)).2 | exact (rd_stop hx1 hk_1 lI_oa (by omega) (by omega)).2 | exact (rd_end hk_1 (by omega)).2 | rfl)), (Mv.pick (S3.trans (S5.trans (S8.trans (S16.trans S21)))) [2, 1] rfl), by first | exact (rd_none ‹_›).1 | exact (rd_bad hx1 hk_1 (nt ‹_›)).1 | exact (rd_stop hx1 hk_1 lI_oa (by omega) (by omega)).1 | exact (rd_end hk_1 (by omega)).1⟩
theorem spec_ApplyRecord_c {w : World} {H : Nat → Prop} {s : List CellD} {s_a : Option Addr} {s_n s_c : Nat} {list : List CellD} {Q4 : Option Addr} {Q0 Q5 : Nat} (v_s : Rd 2 encC okC H w (.slice s_a s_n s_c) s) (Q7 : Rd 2 encC okC H w (.slice Q4 Q0 Q5) list) (p0 : s.length ≤ 137438953472) (p1 : list.length ≤ 1048576) :
    Calls Tryz.prog 40 #[.slice s_a s_n s_c, .slice Q4 Q0 Q5] w fun e w' => ∃ (r0_a : Option Addr), ∃ (r0_n : Nat), ∃ (r0_c : Nat), e = .returned (.slice r0_a r0_n r0_c) ∧ Mv [] w [ow 91 2 encC okC (.slice r0_a r0_n r0_c) (putAll s list)] w' := by
 have uU : True := (fun _ _ => trivial) p0 p1
 clear uU
 have Q8 : Rd 2 encC okC (V H w []) w (.slice s_a s_n s_c) s := Rd.start v_s (fun _ _ => fps_nil _)
 obtain ⟨ln_s, le_s, mx_s, ni_s⟩ := Rd.inv v_s
 have Q6 : Rd 2 encC okC (V H w []) w (.slice Q4 Q0 Q5) list := Rd.start Q7 (fun _ _ => fps_nil _)
 obtain ⟨Q10, Q9, Q17, Q18⟩ := Rd.inv Q7
 refine calls_enter 28 Tryz.func40 rfl Tryz.ntmps40 (Nat.le_of_ble_eq_true rfl) (fun _ F0i => ?_)
 have F0 : Fr 28 [(0, .slice s_a s_n s_c), (1, .slice Q4 Q0 Q5)] _ := F0i
 clear F0i
 refine wp_seq (wp_region_lit (l_op (f_val F0 rfl rfl (r_assign rfl rfl) rfl fun _ F1 => ?_)))
 refine s_end (x_normal (wp_seq (wp_region_lit (l_op (f_buildSl (ok := okC) (vs := []) F1 (At.nil w) (([] : List CellD)) ET_28 rfl rfl rfl rfl rfl rfl rfl rfl rfl (by simp) fun b2 _ w2 F3 S2 => ?_)))))
 refine l_op (f_mv F3 rfl rfl rfl rfl rfl fun _ F4 => ?_)
 refine l_op (f_app (news := s) F4 S2.at' 0 ET_28 rfl rfl rfl rfl rfl rfl (F4.ev 6 rfl) (F4.ev 7 rfl) ((Rd.mq Q8 S2)).1 (by ((repeat (first | rw [List.length_append] | rw [List.length_cons] | rw [List.length_nil] | rw [List.length_take] | rw [List.length_drop])) <;> omega)) fun A5 N5 C5 _ w5 F6 S5 l5 => ?_)
 refine l_op (f_as F6 rfl rfl rfl rfl rfl fun _ F7 => ?_)
 refine s_end (x_normal (wp_seq (wp_seq (wp_region_lit (l_op (f_val F7 rfl rfl (r_assign rfl rfl) rfl fun _ F8 => ?_))))))
 refine s_end (x_normal (wp_block ?_))
 refine x_loop (fun (k : Nat) aZ wZ => ∃ (D : List CellD), ∃ (oa : Option Addr), ∃ (on : Nat), ∃ (oc : Nat), Fr 28 [(5, .int .i64 ((k : Nat) : Int)), (0, .slice oa on oc), (1, .slice Q4 Q0 Q5)] aZ ∧ Mv [ow 91 2 encC okC (.slice A5 N5 C5) (([] : List CellD) ++ s)] w5 [ow 91 2 encC okC (.slice oa on oc) D] wZ ∧ (k ≤ Q0) ∧ (D = putAll s (list.take k))) (fun (k : Nat) => Q0 - k) (0) ?_ ?_
 · exact ⟨([] : List CellD) ++ s, A5, N5, C5, F8.cut rfl, (Mv.refl S5.at'), by omega, by rw [List.nil_append]; exact putA_start s list⟩
 · rintro k a9 w9 ⟨D, oa, on, oc, F9, S9, hk_0, hk_1⟩
   obtain ⟨lI_oa, lJ_oa, lK_oa⟩ := At.ownInv S9.at' ET_28.hk 0 rfl
   have hDl : D.length ≤ s.length + k := by rw [hk_1]; exact Nat.le_trans (putAll_len _ _) (by rw [List.length_take]; omega)
   refine wp_seq (wp_seq (wp_region_lit (l_op (f_mv F9 rfl rfl rfl rfl rfl fun _ F10 => ?_))))
   refine l_op (f_mv F10 rfl rfl rfl rfl rfl fun _ F11 => ?_)
   refine l_op (f_val F11 rfl rfl (r_len Tryz.underlying28 rfl (F11.ev 10 rfl)) rfl fun _ F12 => ?_)
   refine l_op (f_val F12 rfl rfl (r_cmp (b := decide (k < Q0)) (.inr (.inr (.inl rfl))) rfl (F12.ev 9 rfl) (F12.ev 11 rfl) (dec_of (by omega))) rfl fun _ F13 => ?_)
   refine s_end (x_normal (x_cond (p := k < Q0) (F13.ev 12 rfl) (fun h14 => ?_) (fun h14 => ?_)))
   · skip
     refine wp_skip (x_normal (wp_seq (wp_block ?_)))
     obtain ⟨x1, hx1, okx1⟩ := Rd.elem (Rd.mq Q6 (S2.trans (S5.trans S9))) k (by first | assumption | omega)
     refine x_draw (fun aZ wZ => ∃ (Q1 : Option Addr), ∃ (Q3 : Nat), ∃ (Q2 : Nat), Fr 28 [(0, .slice Q1 Q3 Q2), (1, .slice Q4 Q0 Q5), (5, .int .i64 ((k : Nat) : Int))] aZ ∧ Mv [ow 91 2 encC okC (.slice oa on oc) D] w9 [ow 91 2 encC okC (.slice oa on oc) D, ow 91 2 encC okC (.slice Q1 Q3 Q2) (putKey D x1.key x1.val)] wZ) [] mixed S9.at' (listed := #[false, false, false, false, false, false, false, false, false, false, false, false, false]) rfl (fun w16 S16 => ?_) [] rfl ?_
     · skip
       refine g_take F13 rfl (i := 0) (listed' := #[true, false, false, false, false, false, false, false, false, false, false, false, false]) rfl (by kernel_rfl) (by kernel_rfl) (by kernel_rfl) (fun _ _ _ h => h) (Sd.of (Mv.refl S16.at') [] rfl) rfl rfl rfl rfl (fun _ hz => (r_move rfl (F13.ev 0 rfl))) fun _ F17 => ?_
       refine g_take F17 rfl (i := 1) (listed' := #[true, true, false, false, false, false, false, false, false, false, false, false, false]) rfl (by kernel_rfl) (by kernel_rfl) (by kernel_rfl) (fun _ _ _ h => h) (Sd.of (Mv.refl S16.at') [] rfl) rfl rfl rfl rfl (fun _ hz => (r_move rfl (F17.ev 1 rfl))) fun _ F18 => ?_
       refine g_take F18 rfl (i := 2) (listed' := #[true, true, true, false, false, false, false, false, false, false, false, false, false]) rfl (by kernel_rfl) (by kernel_rfl) (by kernel_rfl) (fun _ _ _ h => h) (Sd.of (Mv.refl S16.at') [] rfl) rfl rfl rfl rfl (fun _ hz => (r_move rfl (F18.ev 5 rfl))) fun _ F19 => ?_
       obtain ⟨B20, O20, y20, ad20, hy20, oky20, ln20, cl20⟩ := Rd.atK (Nat.succ_pos _) (Rd.mq Q6 (S2.trans (S5.trans (S9.trans S16)))) k (by first | assumption | omega)
       clear ln20
       obtain rfl := Option.some.inj (hx1.symm.trans hy20)
       clear hy20 oky20
       refine g_take F19 rfl (i := 3) (listed' := #[true, true, true, true, false, false, false, false, false, false, false, false, false]) rfl (by kernel_rfl) (by kernel_rfl) (by kernel_rfl) (fun _ _ _ h => h) (Sd.of (Mv.refl S16.at') [] rfl) rfl rfl rfl rfl (fun _ hz => (r_indexAddr (i := k) ET_28 rfl ((F19.ev 16 rfl).trans (by rw [ad20])) (F19.ev 17 rfl) (by omega) (by first | assumption | omega))) fun _ F21 => ?_
       refine g_take F21 rfl (i := 4) (listed' := #[true, true, true, true, true, false, false, false, false, false, false, false, false]) rfl (by kernel_rfl) (by kernel_rfl) (by kernel_rfl) (fun _ _ _ h => h) (Sd.of (Mv.refl S16.at') [] rfl) rfl rfl rfl rfl (fun _ hz => (r_field FI_91_0 rfl (F21.ev 18 rfl) rfl)) fun _ F22 => ?_
       refine g_take (v := .string x1.key) F22 rfl (i := 5) (listed' := #[true, true, true, true, true, true, false, false, false, false, false, false, false]) rfl (by kernel_rfl) (by kernel_rfl) (by kernel_rfl) (fun _ _ _ h => h) (Sd.of (Mv.refl S16.at') [] rfl) rfl rfl rfl rfl (fun _ hz => (r_load (cs := [.string x1.key]) TI_9 rfl (F22.ev 19 rfl) rfl (fun _ => rfl) (elem_sub (f := 0) (cl20 _ hz.kp) [.string x1.key] rfl))) fun _ F23 => ?_
       refine g_take F23 rfl (i := 6) (listed' := #[true, true, true, true, true, true, true, false, false, false, false, false, false]) rfl (by kernel_rfl) (by kernel_rfl) (by kernel_rfl) (fun _ _ _ h => h) (Sd.of (Mv.refl S16.at') [] rfl) rfl rfl rfl rfl (fun _ hz => (r_move rfl (F23.ev 1 rfl))) fun _ F24 => ?_
       refine g_take F24 rfl (i := 7) (listed' := #[true, true, true, true, true, true, true, true, false, false, false, false, false]) rfl (by kernel_rfl) (by kernel_rfl) (by kernel_rfl) (fun _ _ _ h => h) (Sd.of (Mv.refl S16.at') [] rfl) rfl rfl rfl rfl (fun _ hz => (r_move rfl (F24.ev 5 rfl))) fun _ F25 => ?_
       obtain ⟨B26, O26, y26, ad26, hy26, oky26, ln26, cl26⟩ := Rd.atK (Nat.succ_pos _) (Rd.mq Q6 (S2.trans (S5.trans (S9.trans S16)))) k (by first | assumption | omega)
       clear ln26
       obtain rfl := Option.some.inj (hx1.symm.trans hy26)
       clear hy26 oky26
       refine g_take F25 rfl (i := 8) (listed' := #[true, true, true, true, true, true, true, true, true, false, false, false, false]) rfl (by kernel_rfl) (by kernel_rfl) (by kernel_rfl) (fun _ _ _ h => h) (Sd.of (Mv.refl S16.at') [] rfl) rfl rfl rfl rfl (fun _ hz => (r_indexAddr (i := k) ET_28 rfl ((F25.ev 21 rfl).trans (by rw [ad26])) (F25.ev 22 rfl) (by omega) (by first | assumption | omega))) fun _ F27 => ?_
       refine g_take F27 rfl (i := 9) (listed' := #[true, true, true, true, true, true, true, true, true, true, false, false, false]) rfl (by kernel_rfl) (by kernel_rfl) (by kernel_rfl) (fun _ _ _ h => h) (Sd.of (Mv.refl S16.at') [] rfl) rfl rfl rfl rfl (fun _ hz => (r_field FI_91_1 rfl (F27.ev 23 rfl) rfl)) fun _ F28 => ?_
       refine g_take (v := .string x1.val) F28 rfl (i := 10) (listed' := #[true, true, true, true, true, true, true, true, true, true, true, false, false]) rfl (by kernel_rfl) (by kernel_rfl) (by kernel_rfl) (fun _ _ _ h => h) (Sd.of (Mv.refl S16.at') [] rfl) rfl rfl rfl rfl (fun _ hz => (r_load (cs := [.string x1.val]) TI_9 rfl (F28.ev 24 rfl) rfl (fun _ => rfl) (elem_sub (f := 1) (cl26 _ hz.kp) [.string x1.val] rfl))) fun _ F29 => ?_
       refine d_one (i := 11) (listed' := #[true, true, true, true, true, true, true, true, true, true, true, true, false]) rfl (by kernel_rfl) rfl rfl ?_
       refine f_call F29 CF_91 rfl rfl rfl rfl (lc (F29.ev 15 rfl) (lc (F29.ev 20 rfl) (lc (F29.ev 25 rfl) rfl))) (spec_PutKey_c (H := fun _ => True) (s := D) (key := x1.key) (val := x1.val) (At.rd S16.at' ET_28.hk 0 rfl) okx1.1 okx1.2 (by first | assumption | omega | (simp <;> omega))) ?_
       rintro _ w30 ⟨Q1, Q3, Q2, rfl, m30⟩
       refine ⟨_, rfl, fun _ F31 => ?_⟩
       have S30 : Mv _ _ [ow 91 2 encC okC (.slice Q1 Q3 Q2) (putKey D x1.key x1.val), ow 91 2 encC okC (.slice oa on oc) D] _ := At.frame S16.at' [] rfl m30
       obtain ⟨Q11, Q13, Q15⟩ := At.ownInv S30.at' ET_28.hk 0 rfl
       clear m30
       refine ⟨Sd.of S30 [] rfl, ?_⟩
       refine g_take F31 rfl (i := 12) (listed' := #[true, true, true, true, true, true, true, true, true, true, true, true, true]) rfl (by kernel_rfl) (by kernel_rfl) (by kernel_rfl) (fun _ _ _ h => h) (Sd.of S30 [] rfl) rfl rfl rfl rfl (fun _ hz => (r_assign rfl (F31.ev 26 rfl))) fun _ F32 => ?_
       refine wpAnyH_done (by kernel_rfl) (x_normal ?_) _
       exact ⟨Q1, Q3, Q2, F32.cut rfl, ((S16.trans S30).pick [1, 0] rfl)⟩
     · rintro a33 w33 ⟨Q1, Q3, Q2, F33, S33⟩
       obtain ⟨Q12, Q14, Q16⟩ := At.ownInv S33.at' ET_28.hk 1 rfl
       refine x_block_normal (x_normal (wp_region_lit (l_op (f_mv F33 rfl rfl rfl rfl rfl fun _ F34 => ?_))))
       refine l_op (f_val F34 rfl rfl (r_add (z := ((k + 1 : Nat) : Int)) rfl (F34.ev 13 rfl) rfl (by first | rfl | omega) ⟨by first | omega | (unfold i64ok at *; omega), by first | omega | (unfold i64ok at *; omega)⟩) rfl fun _ F35 => ?_)
       refine l_op (f_as F35 rfl rfl rfl rfl rfl fun _ F36 => ?_)
       refine s_end ?_
       refine x_normal ⟨k + 1, by omega, putKey D x1.key x1.val, Q1, Q3, Q2, F36.cut rfl, ((S9.trans S33).pick [1] rfl), by omega, by rw [hk_1]; exact (putAll_snoc hx1).symm⟩
   · skip
     refine wp_exit (x_then_exit (x_then_exit (x_block_here (x_normal (wp_seq (wp_region_lit (l_op (f_mv F13 rfl rfl rfl rfl rfl fun _ F37 => ?_))))))))
     refine l_op (f_as F37 rfl rfl rfl rfl rfl fun _ F38 => ?_)
     refine s_end (x_normal (wp_ret ?_))
     refine x_done (v := .slice oa on oc) F38 (results_1 Tryz.results40 (.tmp (F38.ev 4 rfl))) ?_
     exact ⟨oa, on, oc, rfl, (Mv.cast (Mv.pick (S2.trans (S5.trans S9)) [0] rfl) (by rw [(show D = (putAll s list) from by rw [hk_1, List.take_of_length_le (by omega)])]; all_goals rfl))⟩
end Go.Proofs.YtipdbeklopjbmaaGreatDoor
