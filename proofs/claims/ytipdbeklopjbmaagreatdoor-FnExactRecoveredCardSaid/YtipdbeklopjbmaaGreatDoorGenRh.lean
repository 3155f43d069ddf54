/-
  Walks: records are read.
-/
import Derived.Test.YtipdbeklopjbmaaGreatDoorP20

namespace Go.Proofs.YtipdbeklopjbmaaGreatDoor
open Go.ChangeShapes Go.WideShapes Go.ChangeAt Go.RowKit
set_option maxRecDepth 100000
set_option maxHeartbeats 1000000
theorem impl_ReadRecord_c {w : World} {H : Nat → Prop} {text : ByteArray} (Q4 : okS text) (tab0 : Tb 0 H w) (tab1 : Tb 1 H w) (tab2 : Tb 2 H w) :
    Calls Tryz.prog 96 #[.string text] w fun e w' => ∃ (r1_a : Option Addr), ∃ (r1_n : Nat), ∃ (r1_c : Nat), e = .returned (.tuple #[.int .i64 (rrN text), .slice r1_a r1_n r1_c, .bool (rrB text)]) ∧ Mv [] w [ow 91 2 encC okC (.slice r1_a r1_n r1_c) (rrC text)] w' := by
 have V_tab0 : Tb 0 (V H w []) w := Tb.start tab0 (fun _ _ => fps_nil _)
 have V_tab1 : Tb 1 (V H w []) w := Tb.start tab1 (fun _ _ => fps_nil _)
 have V_tab2 : Tb 2 (V H w []) w := Tb.start tab2 (fun _ _ => fps_nil _)
 refine calls_enter 75 Tryz.func96 rfl Tryz.ntmps96 (Nat.le_of_ble_eq_true rfl) (fun _ F0i => ?_)
 have F0 : Fr 75 [(0, .string text)] _ := F0i
 clear F0i
 refine wp_seq (wp_region_lit (l_op (f_val F0 rfl rfl (r_assign rfl rfl) rfl fun _ F1 => ?_)))
 refine l_op (f_val F1 rfl rfl (r_assign rfl rfl) rfl fun _ F2 => ?_)
 refine l_op (f_val F2 rfl rfl (r_assign rfl rfl) rfl fun _ F3 => ?_)
 refine s_end (x_normal (wp_seq (wp_seq (wp_region_lit (l_op (f_mv F3 rfl rfl rfl rfl rfl fun _ F4 => ?_))))))
 refine l_op (f_val F4 rfl rfl (r_lenS (fun t ht => by cases ht; exact Tryz.underlying9) rfl rfl (F4.ev 18 rfl)) rfl fun _ F5 => ?_)
 refine l_op (f_val F5 rfl rfl (r_cmp (b := decide (text.size > 4000)) (.inr (.inr (.inr (.inr (.inl rfl))))) rfl (F5.ev 19 rfl) rfl (dec_of (by omega))) rfl fun _ F6 => ?_)
 refine s_end (x_normal (x_cond (p := text.size > 4000) (F6.ev 20 rfl) (fun h7 => ?_) (fun h7 => ?_)))
 · skip
   refine wp_seq (wp_region_lit (l_op (f_val F6 rfl rfl (r_assign rfl rfl) rfl fun _ F8 => ?_)))
   refine l_op (f_val F8 rfl rfl (r_assign rfl rfl) rfl fun _ F9 => ?_)
   refine l_op (f_val F9 rfl rfl (r_assign rfl rfl) rfl fun _ F10 => ?_)
   refine s_end (x_normal (wp_ret (x_then_ret ?_)))
   have S11 : Mv [] w [ow 91 2 encC okC (.slice none 0 0) ([] : List CellD)] w := mv_nil (At.nil w)
   refine x_done (v := .tuple #[.int .i64 0, .slice none 0 0, .bool false]) F10 (results_3 Tryz.results96 (.tmp (F10.ev 2 rfl)) (.tmp (F10.ev 3 rfl)) (.tmp (F10.ev 4 rfl))) ?_
   exact ⟨none, 0, 0, ((congrArg (fun zZ => Ending.returned (.tuple #[.int .i64 zZ, .slice none 0 0, .bool false])) (show 0 = (rrN text) from by first | exact (rr_no (rr_long ‹_›)).1 | exact (rr_no (rr_long ‹_›)).2.1 | exact (rr_no (rr_long ‹_›)).2.2 | exact (rr_no (rr_empty ‹_›)).1 | exact (rr_no (rr_empty ‹_›)).2.1 | exact (rr_no (rr_empty ‹_›)).2.2 | exact (rr_no (rr_diff (decN_at hx1) (decC_all Q0 hk_1 (by omega)) ‹_›)).1 | exact (rr_no (rr_diff (decN_at hx1) (decC_all Q0 hk_1 (by omega)) ‹_›)).2.1 | exact (rr_no (rr_diff (decN_at hx1) (decC_all Q0 hk_1 (by omega)) ‹_›)).2.2 | exact (rr_yes2 (decN_at hx1) (decC_all Q0 hk_1 (by omega)) ‹_› ‹_› (Classical.not_not.1 ‹_›)).1 | exact (rr_yes2 (decN_at hx1) (decC_all Q0 hk_1 (by omega)) ‹_› ‹_› (Classical.not_not.1 ‹_›)).2.1 | exact (rr_yes2 (decN_at hx1) (decC_all Q0 hk_1 (by omega)) ‹_› ‹_› (Classical.not_not.1 ‹_›)).2.2)).trans (congrArg (fun zZ => Ending.returned (.tuple #[.int .i64 (rrN text), .slice none 0 0, .bool zZ])) (show false = (rrB text) from by first | exact (rr_no (rr_long ‹_›)).1 | exact (rr_no (rr_long ‹_›)).2.1 | exact (rr_no (rr_long ‹_›)).2.2 | exact (rr_no (rr_empty ‹_›)).1 | exact (rr_no (rr_empty ‹_›)).2.1 | exact (rr_no (rr_empty ‹_›)).2.2 | exact (rr_no (rr_diff (decN_at hx1) (decC_all Q0 hk_1 (by omega)) ‹_›)).1 | exact (rr_no (rr_diff (decN_at hx1) (decC_all Q0 hk_1 (by omega)) ‹_›)).2.1 | exact (rr_no (rr_diff (decN_at hx1) (decC_all Q0 hk_1 (by omega)) ‹_›)).2.2 | exact (rr_yes2 (decN_at hx1) (decC_all Q0 hk_1 (by omega)) ‹_› ‹_› (Classical.not_not.1 ‹_›)).1 | exact (rr_yes2 (decN_at hx1) (decC_all Q0 hk_1 (by omega)) ‹_› ‹_› (Classical.not_not.1 ‹_›)).2.1 | exact (rr_yes2 (decN_at hx1) (decC_all Q0 hk_1 (by omega)) ‹_› ‹_› (Classical.not_not.1 ‹_›)).2.2))), (Mv.cast (Mv.pick S11 [0] rfl) (by rw [← (show ([] : List CellD) = (rrC text) from by first | exact (rr_no (rr_long ‹_›)).1 | exact (rr_no (rr_long ‹_›)).2.1 | exact (rr_no (rr_long ‹_›)).2.2 | exact (rr_no (rr_empty ‹_›)).1 | exact (rr_no (rr_empty ‹_›)).2.1 | exact (rr_no (rr_empty ‹_›)).2.2 | exact (rr_no (rr_diff (decN_at hx1) (decC_all Q0 hk_1 (by omega)) ‹_›)).1 | exact (rr_no (rr_diff (decN_at hx1) (decC_all Q0 hk_1 (by omega)) ‹_›)).2.1 | exact (rr_no (rr_diff (decN_at hx1) (decC_all Q0 hk_1 (by omega)) ‹_›)).2.2 | exact (rr_yes2 (decN_at hx1) (decC_all Q0 hk_1 (by omega)) ‹_› ‹_› (Classical.not_not.1 ‹_›)).1 | exact (rr_yes2 (decN_at hx1) (decC_all Q0 hk_1 (by omega)) ‹_› ‹_› (Classical.not_not.1 ‹_›)).2.1 | exact (rr_yes2 (decN_at hx1) (decC_all Q0 hk_1 (by omega)) ‹_› ‹_› (Classical.not_not.1 ‹_›)).2.2)]; all_goals rfl))⟩
 · skip
   refine wp_skip (x_normal (wp_seq (wp_region_lit (l_op (f_mv F6 rfl rfl rfl rfl rfl fun _ F12 => ?_)))))
   refine l_op (f_call F12 CF_138 rfl rfl rfl rfl (lc (F12.ev 21 rfl) (lc rfl rfl)) (strings_Split_c (H := fun _ => True) (s := text) (sep := (⟨#[32]⟩ : ByteArray)) Q4 (by unfold okS; decide) (by first | assumption | omega | (simp <;> omega)) (by first | assumption | omega | (simp <;> omega))) ?_)
   rintro _ w13 ⟨Q2, Q1, Q3, rfl, m13⟩
   refine ⟨_, rfl, fun _ F14 => ?_⟩
   have S13 : Mv _ _ [ow 9 1 encS okS (.slice Q2 Q1 Q3) (spS 32 text)] _ := At.frame (At.nil w) [] rfl m13
   obtain ⟨Q0, Q9, Q10⟩ := At.ownInv S13.at' ET_44.hk 0 rfl
   clear m13
   refine l_op (f_as F14 rfl rfl rfl rfl rfl fun _ F15 => ?_)
   refine s_end (x_normal (wp_seq ?_))
   have hs1 := (spS_len 32 text).1
   refine wp_region_lit (l_op (f_mv F15 rfl rfl rfl rfl rfl fun _ F16 => ?_))
   obtain ⟨B17, O17, x1, ad17, hx1, okx1, ln17, cl17⟩ := Rd.at (At.rd S13.at' ET_44.hk 0 rfl) 0 (by first | assumption | omega)
   clear ln17
   refine l_op (f_val F16 rfl rfl (r_indexAddr (i := 0) ET_44 rfl ((F16.ev 24 rfl).trans (by rw [ad17])) rfl (by omega) (by first | assumption | omega)) rfl fun _ F18 => ?_)
   refine l_op (f_val (v := .string x1) F18 rfl rfl (r_load (cs := [.string x1]) TI_9 rfl (F18.ev 25 rfl) rfl (fun _ => rfl) (elem_sub (f := 0) cl17 [.string x1] rfl)) rfl fun _ F19 => ?_)
   refine l_op (f_call F19 CF_139 rfl rfl rfl rfl (lc (F19.ev 26 rfl) rfl) (impl_ReadDecimal_c (text := x1) okx1 (Tb.mv V_tab0 S13) (Tb.mv V_tab1 S13) (by have := spS_part (nth_mem hx1); omega)) ?_)
   rintro _ w20 ⟨rfl, m20⟩
   refine ⟨_, rfl, fun _ F21 => ?_⟩
   have S20 := At.frame0 S13.at' m20
   clear m20
   refine l_op (f_mv F21 rfl rfl rfl rfl rfl fun _ F22 => ?_)
   refine l_op (f_val (v := .int .i64 ((readN x1 : Nat) : Int)) F22 rfl rfl (r_extract rfl (F22.ev 23 rfl) rfl) rfl fun _ F23 => ?_)
   refine l_op (f_val (v := .bool (readB x1)) F23 rfl rfl (r_extract rfl (F23.ev 23 rfl) rfl) rfl fun _ F24 => ?_)
   refine l_op (f_as F24 rfl rfl rfl rfl rfl fun _ F25 => ?_)
   refine l_op (f_as F25 rfl rfl rfl rfl rfl fun _ F26 => ?_)
   refine s_end (x_normal (wp_seq (wp_region_lit (l_op (f_val F26 rfl rfl (r_assign rfl rfl) rfl fun _ F27 => ?_)))))
   refine s_end (x_normal (wp_seq (wp_seq ?_)))
   have Z28 : Rd 1 encS okS (V H w []) w20 (.slice Q2 Q1 Q3) (spS 32 text) := At.freeze (S13.trans S20) ET_44.hk 0 rfl (fun b hb => ((S13.trans S20).fresh b ⟨_, nth_mem (i := 0) rfl, hb⟩).resolve_left (fps_nil _))
   have S28 := At.drop S20.at' 0
   refine wp_region_lit (l_op (f_mv F27 rfl rfl rfl rfl rfl fun _ F29 => ?_))
   refine l_op (f_mv F29 rfl rfl rfl rfl rfl fun _ F30 => ?_)
   refine l_op (f_val F30 rfl rfl (r_len Tryz.underlying44 rfl (F30.ev 31 rfl)) rfl fun _ F31 => ?_)
   refine l_op (f_val F31 rfl rfl (r_maxN rfl (F31.ev 32 rfl) rfl) rfl fun _ F32 => ?_)
   refine l_op (f_val F32 rfl rfl (r_sub (z := ((max Q1 2 - 1 : Nat) : Int)) rfl (F32.ev 33 rfl) rfl (by first | rfl | omega | exact mx_c _ | exact (mx_c _).symm) ⟨by first | omega | (unfold i64ok at *; omega), by first | omega | (unfold i64ok at *; omega)⟩) rfl fun _ F33 => ?_)
   refine l_op (f_sliceR F33 1 (max Q1 2 - 1) Z28 ET_44 rfl rfl rfl rfl (F33.ev 30 rfl) rfl (F33.ev 34 rfl) (by first | exact mx_a _ | exact mx_b (by omega)) (by first | exact mx_a _ | exact mx_b (by omega)) fun A34 C34 _ F35 V34i => ?_)
   have V34 : Rd 1 encS okS (V H w []) w20 (.slice A34 (max Q1 2 - 1 - 1) C34) (((spS 32 text).take (max Q1 2 - 1)).drop 1) := V34i
   clear V34i
   refine l_op (f_val F35 rfl rfl (r_len Tryz.underlying44 rfl (F35.ev 35 rfl)) rfl fun _ F36 => ?_)
   refine l_op (f_val F36 rfl rfl (r_move rfl rfl) rfl fun _ F37 => ?_)
   refine s_end (x_normal (wp_block ?_))
   have S39 : Mv [] w20 [ow 91 2 encC okC (.slice none 0 0) ([] : List CellD)] w20 := mv_nil S28.at'
   refine x_loop (fun (k : Nat) aZ wZ => ∃ (D : List CellD), ∃ (oa : Option Addr), ∃ (on : Nat), ∃ (oc : Nat), Fr 75 [(37, .int .i64 ((k : Nat) : Int)), (36, .int .i64 (((max Q1 2 - 1 - 1) : Nat) : Int)), (35, .slice A34 (max Q1 2 - 1 - 1) C34), (8, .slice oa on oc), (6, .int .i64 ((readN x1 : Nat) : Int)), (0, .string text)] aZ ∧ Mv [ow 91 2 encC okC (.slice none 0 0) ([] : List CellD)] w20 [ow 91 2 encC okC (.slice oa on oc) D] wZ ∧ (k ≤ (spS 32 text).length) ∧ (D = ((((spS 32 text).take (max Q1 2 - 1)).drop 1).take k).map cellI)) (fun (k : Nat) => (spS 32 text).length - k) (0) ?_ ?_
   · exact ⟨([] : List CellD), none, 0, 0, F37.cut rfl, (Mv.refl S39.at'), by omega, by rw [List.take_zero]; rfl⟩
   · rintro k a38 w38 ⟨D, oa, on, oc, F38, S38, hk_0, hk_1⟩
     have hDl : D.length ≤ k := by rw [hk_1, List.length_map, List.length_take]; omega
     have hsl := (spS_len 32 text).2
     refine wp_seq (wp_region_lit (l_op (f_val F38 rfl rfl (r_cmp (b := decide (k < (max Q1 2 - 1 - 1))) (.inr (.inr (.inl rfl))) rfl (F38.ev 37 rfl) (F38.ev 36 rfl) (dec_of (by omega))) rfl fun _ F40 => ?_)))
     refine s_end (x_normal (wp_seq (x_cond (p := k < (max Q1 2 - 1 - 1)) (F40.ev 38 rfl) (fun h41 => ?_) (fun h41 => ?_))))
     · skip
       refine wp_skip (x_normal (wp_seq (wp_block (wp_seq (wp_region_lit ?_)))))
       obtain ⟨B42, O42, x2, ad42, hx2, okx2, ln42, cl42⟩ := Rd.at (Rd.mq V34 (S39.trans S38)) k (by first | assumption | omega)
       clear ln42
       refine l_op (f_val F40 rfl rfl (r_indexAddr (i := k) ET_44 rfl ((F40.ev 35 rfl).trans (by rw [ad42])) (F40.ev 37 rfl) (by omega) (by first | assumption | omega)) rfl fun _ F43 => ?_)
       refine l_op (f_val (v := .string x2) F43 rfl rfl (r_load (cs := [.string x2]) TI_9 rfl (F43.ev 39 rfl) rfl (fun _ => rfl) (elem_sub (f := 0) cl42 [.string x2] rfl)) rfl fun _ F44 => ?_)
       refine l_op (f_as F44 rfl rfl rfl rfl rfl fun _ F45 => ?_)
       refine s_end (x_normal (wp_seq (wp_region_lit (l_op (f_mv F45 rfl rfl rfl rfl rfl fun _ F46 => ?_)))))
       refine l_op (f_call F46 CF_140 rfl rfl rfl rfl (lc (F46.ev 42 rfl) (lc rfl rfl)) (strings_Cut_c (H := fun _ => True) (s := x2) (sep := (⟨#[61]⟩ : ByteArray)) okx2 (by unfold okS; decide) (by first | assumption | omega | (simp <;> omega)) (by have hz := spS_part (List.mem_of_mem_take (List.mem_of_mem_drop (nth_mem hx2))); omega)) ?_)
       rintro _ w47 ⟨rfl, m47, Q5, Q8⟩
       refine ⟨_, rfl, fun _ F48 => ?_⟩
       have S47 := At.frame0 S38.at' m47
       clear m47
       refine l_op (f_mv F48 rfl rfl rfl rfl rfl fun _ F49 => ?_)
       refine l_op (f_val (v := .string (cutL_ x2)) F49 rfl rfl (r_extract rfl (F49.ev 41 rfl) rfl) rfl fun _ F50 => ?_)
       refine l_op (f_val (v := .string (cutR_ x2)) F50 rfl rfl (r_extract rfl (F50.ev 41 rfl) rfl) rfl fun _ F51 => ?_)
       refine l_op (f_val (v := .bool (decide (61 ∈ bytesN x2))) F51 rfl rfl (r_extract rfl (F51.ev 41 rfl) rfl) rfl fun _ F52 => ?_)
       refine l_op (f_as F52 rfl rfl rfl rfl rfl fun _ F53 => ?_)
       refine l_op (f_as F53 rfl rfl rfl rfl rfl fun _ F54 => ?_)
       refine l_op (f_as F54 rfl rfl rfl rfl rfl fun _ F55 => ?_)
       have T56 : Mv _ _ [ow 91 2 encC okC (.slice oa on oc) D] _ := S47
       refine s_end (x_normal (wp_seq (wp_region_lit (l_op (f_mv F55 rfl rfl rfl rfl rfl fun _ F57 => ?_)))))
       refine l_op (f_call F57 CF_141 rfl rfl rfl rfl (lc (F57.ev 48 rfl) rfl) (impl_Unhex_c (text := cutL_ x2) Q5 (Tb.mv V_tab2 (S13.trans (S20.trans (S28.trans (S39.trans (S38.trans T56)))))) (by have hz := spS_part (List.mem_of_mem_take (List.mem_of_mem_drop (nth_mem hx2))); have h1 := cutL_size x2; have h2 := cutR_size x2; omega)) ?_)
       rintro _ w58 ⟨rfl, m58, Q6⟩
       refine ⟨_, rfl, fun _ F59 => ?_⟩
       have S58 := At.frame0 T56.at' m58
       clear m58
       refine l_op (f_mv F59 rfl rfl rfl rfl rfl fun _ F60 => ?_)
       refine l_op (f_val (v := .string (unhexT (cutL_ x2))) F60 rfl rfl (r_extract rfl (F60.ev 47 rfl) rfl) rfl fun _ F61 => ?_)
       refine l_op (f_val (v := .bool (unhexB (cutL_ x2))) F61 rfl rfl (r_extract rfl (F61.ev 47 rfl) rfl) rfl fun _ F62 => ?_)
       refine l_op (f_as F62 rfl rfl rfl rfl rfl fun _ F63 => ?_)
       refine l_op (f_as F63 rfl rfl rfl rfl rfl fun _ F64 => ?_)
       refine s_end (x_normal (wp_seq (wp_region_lit (l_op (f_mv F64 rfl rfl rfl rfl rfl fun _ F65 => ?_)))))
       refine l_op (f_call F65 CF_141 rfl rfl rfl rfl (lc (F65.ev 53 rfl) rfl) (impl_Unhex_c (text := cutR_ x2) Q8 (Tb.mv V_tab2 (S13.trans (S20.trans (S28.trans (S39.trans (S38.trans (T56.trans S58))))))) (by have hz := spS_part (List.mem_of_mem_take (List.mem_of_mem_drop (nth_mem hx2))); have h1 := cutL_size x2; have h2 := cutR_size x2; omega)) ?_)
       rintro _ w66 ⟨rfl, m66, Q7⟩
       refine ⟨_, rfl, fun _ F67 => ?_⟩
       have S66 := At.frame0 S58.at' m66
       clear m66
       refine l_op (f_mv F67 rfl rfl rfl rfl rfl fun _ F68 => ?_)
       refine l_op (f_val (v := .string (unhexT (cutR_ x2))) F68 rfl rfl (r_extract rfl (F68.ev 52 rfl) rfl) rfl fun _ F69 => ?_)
       refine l_op (f_val (v := .bool (unhexB (cutR_ x2))) F69 rfl rfl (r_extract rfl (F69.ev 52 rfl) rfl) rfl fun _ F70 => ?_)
       refine l_op (f_as F70 rfl rfl rfl rfl rfl fun _ F71 => ?_)
       refine l_op (f_as F71 rfl rfl rfl rfl rfl fun _ F72 => ?_)
       refine s_end (x_normal (wp_region_lit (l_op (f_mv F72 rfl rfl rfl rfl rfl fun _ F73 => ?_))))
       refine l_op (f_mv F73 rfl rfl rfl rfl rfl fun _ F74 => ?_)
       refine l_op (f_mv F74 rfl rfl rfl rfl rfl fun _ F75 => ?_)
       refine l_op (f_val (v := .agg #[.string (unhexT (cutL_ x2)), .string (unhexT (cutR_ x2))]) F75 rfl rfl (r_build BI_91 rfl (lc (pr2 (F75.ev 58 rfl)) (lc (pr2 (F75.ev 59 rfl)) rfl)) rfl) rfl fun _ F76 => ?_)
       refine l_op (f_buildSl (ok := okC) (vs := [.agg #[.string (unhexT (cutL_ x2)), .string (unhexT (cutR_ x2))]]) F76 S66.at' ([(⟨(unhexT (cutL_ x2)), (unhexT (cutR_ x2))⟩ : CellD)]) ET_28 rfl rfl rfl rfl rfl rfl (lc (pr2 (F76.ev 60 rfl)) rfl) rfl rfl (fun x hx => (List.mem_singleton.1 hx) ▸ ⟨Q6, Q7⟩) fun b77 _ w77 F78 S77 => ?_)
       refine l_op (f_app (news := [(⟨(unhexT (cutL_ x2)), (unhexT (cutR_ x2))⟩ : CellD)]) F78 S77.at' 1 ET_28 rfl rfl rfl rfl rfl rfl (F78.ev 57 rfl) (F78.ev 61 rfl) ((At.rd S77.at' ET_28.hk 0 rfl)).1 (by ((repeat (first | rw [List.length_append] | rw [List.length_cons] | rw [List.length_nil] | rw [List.length_take] | rw [List.length_drop])) <;> omega)) fun A79 N79 C79 _ w79 F80 S79 l79 => ?_)
       have S81 := At.drop S79.at' 1
       refine l_op (f_as F80 rfl rfl rfl rfl rfl fun _ F82 => ?_)
       have T83 : Mv _ _ [ow 91 2 encC okC (.slice A79 N79 C79) (D ++ ([(⟨(unhexT (cutL_ x2)), (unhexT (cutR_ x2))⟩ : CellD)]))] _ := S81
       refine s_end (x_block_normal (x_normal (wp_region_lit (l_op (f_val F82 rfl rfl (r_add (z := ((k + 1 : Nat) : Int)) rfl (F82.ev 37 rfl) rfl (by first | rfl | omega) ⟨by first | omega | (unfold i64ok at *; omega), by first | omega | (unfold i64ok at *; omega)⟩) rfl fun _ F84 => ?_)))))
       refine l_op (f_mv F84 rfl rfl rfl rfl rfl fun _ F85 => ?_)
       refine s_end ?_
       refine x_normal ⟨k + 1, by omega, D ++ ([(⟨(unhexT (cutL_ x2)), (unhexT (cutR_ x2))⟩ : CellD)]), A79, N79, C79, F85.cut rfl, ((S38.trans (T56.trans (S58.trans (S66.trans (S77.trans (S79.trans T83)))))).pick [0] rfl), by omega, map_snoc (f := cellI) hk_1 hx2⟩
     · skip
       refine wp_exit (x_then_exit (x_then_exit (x_block_here (x_normal (wp_seq (wp_seq (wp_region_lit (l_op (f_mv F40 rfl rfl rfl rfl rfl fun _ F86 => ?_)))))))))
       refine l_op (f_val F86 rfl rfl (r_cmps (b := (decide (text = bE_))) (.inl rfl) rfl (F86.ev 64 rfl) rfl rfl) rfl fun _ F87 => ?_)
       refine l_op (f_mv F87 rfl rfl rfl rfl rfl fun _ F88 => ?_)
       rcases Decidable.em (text = bE_) with h89 | h89
       · rw [decide_eq_true h89] at F88
         refine l_op (f_skip F88 (wanted_g F88 rfl rfl rfl rfl) rfl rfl fun _ F90 => ?_)
         refine l_op (f_skip F90 (wanted_g F90 rfl rfl rfl rfl) rfl rfl fun _ F91 => ?_)
         refine l_op (f_skip F91 (wanted_g F91 rfl rfl rfl rfl) rfl rfl fun _ F92 => ?_)
         refine l_op (f_skip F92 (wanted_g F92 rfl rfl rfl rfl) rfl rfl fun _ F93 => ?_)
         refine l_op (f_skip F93 (wanted_g F93 rfl rfl rfl rfl) rfl rfl fun _ F94 => ?_)
         refine l_op (f_val F94 rfl rfl (r_pick (b := true) rfl (F94.ev 66 rfl) rfl) rfl fun _ F95 => ?_)
         refine s_end (x_normal (wp_cond_true (F95.ev 72 rfl) (wp_seq (wp_region_lit (l_op (f_val F95 rfl rfl (r_assign rfl rfl) rfl fun _ F96 => ?_))))))
         refine l_op (f_val F96 rfl rfl (r_assign rfl rfl) rfl fun _ F97 => ?_)
         refine l_op (f_val F97 rfl rfl (r_assign rfl rfl) rfl fun _ F98 => ?_)
         refine s_end (x_normal (wp_ret (x_then_ret ?_)))
         have S99 : Mv [ow 91 2 encC okC (.slice oa on oc) D] w38 [ow 91 2 encC okC (.slice none 0 0) ([] : List CellD), ow 91 2 encC okC (.slice oa on oc) D] w38 := mv_nil S38.at'
         refine x_done (v := .tuple #[.int .i64 0, .slice none 0 0, .bool false]) F98 (results_3 Tryz.results96 (.tmp (F98.ev 2 rfl)) (.tmp (F98.ev 3 rfl)) (.tmp (F98.ev 4 rfl))) ?_
         exact ⟨none, 0, 0, ((congrArg (fun zZ => Ending.returned (.tuple #[.int .i64 zZ, .slice none 0 0, .bool false])) (show 0 = (rrN text) from by first | exact (rr_no (rr_long ‹_›)).1 | exact (rr_no (rr_long ‹_›)).2.1 | exact (rr_no (rr_long ‹_›)).2.2 | exact (rr_no (rr_empty ‹_›)).1 | exact (rr_no (rr_empty ‹_›)).2.1 | exact (rr_no (rr_empty ‹_›)).2.2 | exact (rr_no (rr_diff (decN_at hx1) (decC_all Q0 hk_1 (by omega)) ‹_›)).1 | exact (rr_no (rr_diff (decN_at hx1) (decC_all Q0 hk_1 (by omega)) ‹_›)).2.1 | exact (rr_no (rr_diff (decN_at hx1) (decC_all Q0 hk_1 (by omega)) ‹_›)).2.2 | exact (rr_yes2 (decN_at hx1) (decC_all Q0 hk_1 (by omega)) ‹_› ‹_› (Classical.not_not.1 ‹_›)).1 | exact (rr_yes2 (decN_at hx1) (decC_all Q0 hk_1 (by omega)) ‹_› ‹_› (Classical.not_not.1 ‹_›)).2.1 | exact (rr_yes2 (decN_at hx1) (decC_all Q0 hk_1 (by omega)) ‹_› ‹_› (Classical.not_not.1 ‹_›)).2.2)).trans (congrArg (fun zZ => Ending.returned (.tuple #[.int .i64 (rrN text), .slice none 0 0, .bool zZ])) (show false = (rrB text) from by first | exact (rr_no (rr_long ‹_›)).1 | exact (rr_no (rr_long ‹_›)).2.1 | exact (rr_no (rr_long ‹_›)).2.2 | exact (rr_no (rr_empty ‹_›)).1 | exact (rr_no (rr_empty ‹_›)).2.1 | exact (rr_no (rr_empty ‹_›)).2.2 | exact (rr_no (rr_diff (decN_at hx1) (decC_all Q0 hk_1 (by omega)) ‹_›)).1 | exact (rr_no (rr_diff (decN_at hx1) (decC_all Q0 hk_1 (by omega)) ‹_›)).2.1 | exact (rr_no (rr_diff (decN_at hx1) (decC_all Q0 hk_1 (by omega)) ‹_›)).2.2 | exact (rr_yes2 (decN_at hx1) (decC_all Q0 hk_1 (by omega)) ‹_› ‹_› (Classical.not_not.1 ‹_›)).1 | exact (rr_yes2 (decN_at hx1) (decC_all Q0 hk_1 (by omega)) ‹_› ‹_› (Classical.not_not.1 ‹_›)).2.1 | exact (rr_yes2 (decN_at hx1) (decC_all Q0 hk_1 (by omega)) ‹_› ‹_› (Classical.not_not.1 ‹_›)).2.2))), (Mv.cast (Mv.pick (S13.trans (S20.trans (S28.trans (S39.trans (S38.trans S99))))) [0] rfl) (by rw [← (show ([] : List CellD) = (rrC text) from by first | exact (rr_no (rr_long ‹_›)).1 | exact (rr_no (rr_long ‹_›)).2.1 | exact (rr_no (rr_long ‹_›)).2.2 | exact (rr_no (rr_empty ‹_›)).1 | exact (rr_no (rr_empty ‹_›)).2.1 | exact (rr_no (rr_empty ‹_›)).2.2 | exact (rr_no (rr_diff (decN_at hx1) (decC_all Q0 hk_1 (by omega)) ‹_›)).1 | exact (rr_no (rr_diff (decN_at hx1) (decC_all Q0 hk_1 (by omega)) ‹_›)).2.1 | exact (rr_no (rr_diff (decN_at hx1) (decC_all Q0 hk_1 (by omega)) ‹_›)).2.2 | exact (rr_yes2 (decN_at hx1) (decC_all Q0 hk_1 (by omega)) ‹_› ‹_› (Classical.not_not.1 ‹_›)).1 | exact (rr_yes2 (decN_at hx1) (decC_all Q0 hk_1 (by omega)) ‹_› ‹_› (Classical.not_not.1 ‹_›)).2.1 | exact (rr_yes2 (decN_at hx1) (decC_all Q0 hk_1 (by omega)) ‹_› ‹_› (Classical.not_not.1 ‹_›)).2.2)]; all_goals rfl))⟩
       · rw [decide_eq_false h89] at F88
         refine l_op (f_mv F88 (wanted_g F88 rfl rfl rfl rfl) rfl rfl rfl rfl fun _ F100 => ?_)
         refine l_op (f_mv F100 (wanted_g F100 rfl rfl rfl rfl) rfl rfl rfl rfl fun _ F101 => ?_)
         refine l_op (f_call F101 CF_115 (wanted_g F101 rfl rfl rfl rfl) rfl rfl rfl (lc (F101.ev 67 rfl) (lc (F101.ev 68 rfl) rfl)) (impl_RecordText_c (H := fun _ => True) (seq := ((readN x1 : Nat) : Int)) (list := D) (by have := readN_le x1; exact ⟨by omega, by omega⟩) (At.rd S38.at' ET_28.hk 0 rfl) (Tb.top (Tb.mv V_tab0 (S13.trans (S20.trans (S28.trans (S39.trans S38)))))) (by first | assumption | omega | (simp <;> omega))) ?_)
         rintro _ w102 ⟨rfl, m102, Q11⟩
         refine ⟨_, rfl, fun _ F103 => ?_⟩
         have S102 := At.frame0 S38.at' m102
         clear m102
         refine l_op (f_mv F103 (wanted_g F103 rfl rfl rfl rfl) rfl rfl rfl rfl fun _ F104 => ?_)
         refine l_op (f_val F104 (wanted_g F104 rfl rfl rfl rfl) rfl (r_cmps (b := (decide ((recT ((readN x1 : Nat) : Int) D) ≠ text))) (.inr (.inl rfl)) rfl (F104.ev 69 rfl) (F104.ev 70 rfl) rfl) rfl fun _ F105 => ?_)
         refine l_op (f_val F105 rfl rfl (r_pick (b := false) rfl (F105.ev 66 rfl) (F105.ev 71 rfl)) rfl fun _ F106 => ?_)
         have T107 : Mv _ _ [ow 91 2 encC okC (.slice oa on oc) D] _ := S102
         refine s_end (x_normal (x_cond (p := (recT ((readN x1 : Nat) : Int) D) ≠ text) (F106.ev 72 rfl) (fun h108 => ?_) (fun h108 => ?_)))
         · skip
           refine wp_seq (wp_region_lit (l_op (f_val F106 rfl rfl (r_assign rfl rfl) rfl fun _ F109 => ?_)))
           refine l_op (f_val F109 rfl rfl (r_assign rfl rfl) rfl fun _ F110 => ?_)
           refine l_op (f_val F110 rfl rfl (r_assign rfl rfl) rfl fun _ F111 => ?_)
           refine s_end (x_normal (wp_ret (x_then_ret ?_)))
           have S112 : Mv [ow 91 2 encC okC (.slice oa on oc) D] w102 [ow 91 2 encC okC (.slice none 0 0) ([] : List CellD), ow 91 2 encC okC (.slice oa on oc) D] w102 := mv_nil T107.at'
           refine x_done (v := .tuple #[.int .i64 0, .slice none 0 0, .bool false]) F111 (results_3 Tryz.results96 (.tmp (F111.ev 2 rfl)) (.tmp (F111.ev 3 rfl)) (.tmp (F111.ev 4 rfl))) ?_
           exact ⟨none, 0, 0, ((congrArg (fun zZ => Ending.returned (.tuple #[.int .i64 zZ, .slice none 0 0, .bool false])) (show 0 = (rrN text) from by first | exact (rr_no (rr_long ‹_›)).1 | exact (rr_no (rr_long ‹_›)).2.1 | exact (rr_no (rr_long ‹_›)).2.2 | exact (rr_no (rr_empty ‹_›)).1 | exact (rr_no (rr_empty ‹_›)).2.1 | exact (rr_no (rr_empty ‹_›)).2.2 | exact (rr_no (rr_diff (decN_at hx1) (decC_all Q0 hk_1 (by omega)) ‹_›)).1 | exact (rr_no (rr_diff (decN_at hx1) (decC_all Q0 hk_1 (by omega)) ‹_›)).2.1 | exact (rr_no (rr_diff (decN_at hx1) (decC_all Q0 hk_1 (by omega)) ‹_›)).2.2 | exact (rr_yes2 (decN_at hx1) (decC_all Q0 hk_1 (by omega)) ‹_› ‹_› (Classical.not_not.1 ‹_›)).1 | exact (rr_yes2 (decN_at hx1) (decC_all Q0 hk_1 (by omega)) ‹_› ‹_› (Classical.not_not.1 ‹_›)).2.1 | exact (rr_yes2 (decN_at hx1) (decC_all Q0 hk_1 (by omega)) ‹_› ‹_› (Classical.not_not.1 ‹_›)).2.2)).trans (congrArg (fun zZ => Ending.returned (.tuple #[.int .i64 (rrN text), .slice none 0 0, .bool zZ])) (show false = (rrB text) from by first | exact (rr_no (rr_long ‹_›)).1 | exact (rr_no (rr_long ‹_›)).2.1 | exact (rr_no (rr_long ‹_›)).2.2 | exact (rr_no (rr_empty ‹_›)).1 | exact (rr_no (rr_empty ‹_›)).2.1 | exact (rr_no (rr_empty ‹_›)).2.2 | exact (rr_no (rr_diff (decN_at hx1) (decC_all Q0 hk_1 (by omega)) ‹_›)).1 | exact (rr_no (rr_diff (decN_at hx1) (decC_all Q0 hk_1 (by omega)) ‹_›)).2.1 | exact (rr_no (rr_diff (decN_at hx1) (decC_all Q0 hk_1 (by omega)) ‹_›)).2.2 | exact (rr_yes2 (decN_at hx1) (decC_all Q0 hk_1 (by omega)) ‹_› ‹_› (Classical.not_not.1 ‹_›)).1 | exact (rr_yes2 (decN_at hx1) (decC_all Q0 hk_1 (by omega)) ‹_› ‹_› (Classical.not_not.1 ‹_›)).2.1 | exact (rr_yes2 (decN_at hx1) (decC_all Q0 hk_1 (by omega)) ‹_› ‹_› (Classical.not_not.1 ‹_›)).2.2))), (Mv.cast (Mv.pick (S13.trans (S20.trans (S28.trans (S39.trans (S38.trans (T107.trans S112)))))) [0] rfl) (by rw [← (show ([] : List CellD) = (rrC text) from by first | exact (rr_no (rr_long ‹_›)).1 | exact (rr_no (rr_long ‹_›)).2.1 | exact (rr_no (rr_long ‹_›)).2.2 | exact (rr_no (rr_empty ‹_›)).1 | exact (rr_no (rr_empty ‹_›)).2.1 | exact (rr_no (rr_empty ‹_›)).2.2 | exact (rr_no (rr_diff (decN_at hx1) (decC_all Q0 hk_1 (by omega)) ‹_›)).1 | exact (rr_no (rr_diff (decN_at hx1) (decC_all Q0 hk_1 (by omega)) ‹_›)).2.1 | exact (rr_no (rr_diff (decN_at hx1) (decC_all Q0 hk_1 (by omega)) ‹_›)).2.2 | exact (rr_yes2 (decN_at hx1) (decC_all Q0 hk_1 (by omega)) ‹_› ‹_› (Classical.not_not.1 ‹_›)).1 | exact (rr_yes2 (decN_at hx1) (decC_all Q0 hk_1 (by omega)) ‹_› ‹_› (Classical.not_not.1 ‹_›)).2.1 | exact (rr_yes2 (decN_at hx1) (decC_all Q0 hk_1 (by omega)) ‹_› ‹_› (Classical.not_not.1 ‹_›)).2.2)]; all_goals rfl))⟩
         · skip
           refine wp_skip (x_normal (wp_seq (wp_region_lit (l_op (f_mv F106 rfl rfl rfl rfl rfl fun _ F113 => ?_)))))
           refine l_op (f_mv F113 rfl rfl rfl rfl rfl fun _ F114 => ?_)
           refine l_op (f_as F114 rfl rfl rfl rfl rfl fun _ F115 => ?_)
           refine l_op (f_as F115 rfl rfl rfl rfl rfl fun _ F116 => ?_)
           refine l_op (f_val F116 rfl rfl (r_assign rfl rfl) rfl fun _ F117 => ?_)
           refine s_end (x_normal (wp_ret ?_))
           refine x_done (v := .tuple #[.int .i64 ((readN x1 : Nat) : Int), .slice oa on oc, .bool true]) F117 (results_3 Tryz.results96 (.tmp (F117.ev 2 rfl)) (.tmp (F117.ev 3 rfl)) (.tmp (F117.ev 4 rfl))) ?_
           exact ⟨oa, on, oc, ((congrArg (fun zZ => Ending.returned (.tuple #[.int .i64 zZ, .slice oa on oc, .bool true])) (show ((readN x1 : Nat) : Int) = (rrN text) from by first | exact (rr_no (rr_long ‹_›)).1 | exact (rr_no (rr_long ‹_›)).2.1 | exact (rr_no (rr_long ‹_›)).2.2 | exact (rr_no (rr_empty ‹_›)).1 | exact (rr_no (rr_empty ‹_›)).2.1 | exact (rr_no (rr_empty ‹_›)).2.2 | exact (rr_no (rr_diff (decN_at hx1) (decC_all Q0 hk_1 (by omega)) ‹_›)).1 | exact (rr_no (rr_diff (decN_at hx1) (decC_all Q0 hk_1 (by omega)) ‹_›)).2.1 | exact (rr_no (rr_diff (decN_at hx1) (decC_all Q0 hk_1 (by omega)) ‹_›)).2.2 | exact (rr_yes2 (decN_at hx1) (decC_all Q0 hk_1 (by omega)) ‹_› ‹_› (Classical.not_not.1 ‹_›)).1 | exact (rr_yes2 (decN_at hx1) (decC_all Q0 hk_1 (by omega)) ‹_› ‹_› (Classical.not_not.1 ‹_›)).2.1 | exact (rr_yes2 (decN_at hx1) (decC_all Q0 hk_1 (by omega)) ‹_› ‹_› (Classical.not_not.1 ‹_›)).2.2)).trans (congrArg (fun zZ => Ending.returned (.tuple #[.int .i64 (rrN text), .slice oa on oc, .bool zZ])) (show true = (rrB text) from by first | exact (rr_no (rr_long ‹_›)).1 | exact (rr_no (rr_long ‹_›)).2.1 | exact (rr_no (rr_long ‹_›)).2.2 | exact (rr_no (rr_empty ‹_›)).1 | exact (rr_no (rr_empty ‹_›)).2.1 | exact (rr_no (rr_empty ‹_›)).2.2 | exact (rr_no (rr_diff (decN_at hx1) (decC_all Q0 hk_1 (by omega)) ‹_›)).1 | exact (rr_no (rr_diff (decN_at hx1) (decC_all Q0 hk_1 (by omega)) ‹_›)).2.1 | exact (rr_no (rr_diff (decN_at hx1) (decC_all Q0 hk_1 (by omega)) ‹_›)).2.2 | exact (rr_yes2 (decN_at hx1) (decC_all Q0 hk_1 (by omega)) ‹_› ‹_› (Classical.not_not.1 ‹_›)).1 | exact (rr_yes2 (decN_at hx1) (decC_all Q0 hk_1 (by omega)) ‹_› ‹_› (Classical.not_not.1 ‹_›)).2.1 | exact (rr_yes2 (decN_at hx1) (decC_all Q0 hk_1 (by omega)) ‹_› ‹_› (Classical.not_not.1 ‹_›)).2.2))), (Mv.cast (Mv.pick (S13.trans (S20.trans (S28.trans (S39.trans (S38.trans T107))))) [0] rfl) (by rw [← (show D = (rrC text) from by first | exact (rr_no (rr_long ‹_›)).1 | exact (rr_no (rr_long ‹_›)).2.1 | exact (rr_no (rr_long ‹_›)).2.2 | exact (rr_no (rr_empty ‹_›)).1 | exact (rr_no (rr_empty ‹_›)).2.1 | exact (rr_no (rr_empty ‹_›)).2.2 | exact (rr_no (rr_diff (decN_at hx1) (decC_all Q0 hk_1 (by omega)) ‹_›)).1 | exact (rr_no (rr_diff (decN_at hx1) (decC_all Q0 hk_1 (by omega)) ‹_›)).2.1 | exact (rr_no (rr_diff (decN_at hx1) (decC_all Q0 hk_1 (by omega)) ‹_›)).2.2 | exact (rr_yes2 (decN_at hx1) (decC_all Q0 hk_1 (by omega)) ‹_› ‹_› (Classical.not_not.1 ‹_›)).1 | exact (rr_yes2 (decN_at hx1) (decC_all Q0 hk_1 (by omega)) ‹_› ‹_› (Classical.not_not.1 ‹_›)).2.1 | exact (rr_yes2 (decN_at hx1) (decC_all Q0 hk_1 (by omega)) ‹_› ‹_› (Classical.not_not.1 ‹_›)).2.2)]; all_goals rfl))⟩
theorem spec_ReadRecord_c {w : World} {H : Nat → Prop} {text : ByteArray} (Q8 : okS text) :
    Calls Tryz.prog 90 #[.string text] w fun e w' => ∃ (r1_a : Option Addr), ∃ (r1_n : Nat), ∃ (r1_c : Nat), e = .returned (.tuple #[.int .i64 (rrN text), .slice r1_a r1_n r1_c, .bool (rrB text)]) ∧ Mv [] w [ow 91 2 encC okC (.slice r1_a r1_n r1_c) (rrC text)] w' := by
 have uU : True := (fun _ => trivial) H
 clear uU
 refine calls_enter 85 Tryz.func90 rfl Tryz.ntmps90 (Nat.le_of_ble_eq_true rfl) (fun _ F0i => ?_)
 have F0 : Fr 85 [(0, .string text)] _ := F0i
 clear F0i
 refine wp_seq (wp_region_lit (l_op (f_val F0 rfl rfl (r_assign rfl rfl) rfl fun _ F1 => ?_)))
 refine l_op (f_val F1 rfl rfl (r_assign rfl rfl) rfl fun _ F2 => ?_)
 refine l_op (f_val F2 rfl rfl (r_assign rfl rfl) rfl fun _ F3 => ?_)
 refine s_end (x_normal (wp_seq (wp_region_lit (l_op (f_buildSl (ok := okC) (vs := []) F3 (At.nil w) (([] : List CellD)) ET_28 rfl rfl rfl rfl rfl rfl rfl rfl rfl (by simp) fun b4 _ w4 F5 S4 => ?_)))))
 refine l_op (f_as F5 rfl rfl rfl rfl rfl fun _ F6 => ?_)
 refine s_end (x_normal (wp_seq (wp_seq (wp_region_lit (l_op (f_mv F6 rfl rfl rfl rfl rfl fun _ F7 => ?_))))))
 refine l_op (f_val F7 rfl rfl (r_lenS (fun t ht => by cases ht; exact Tryz.underlying9) rfl rfl (F7.ev 18 rfl)) rfl fun _ F8 => ?_)
 refine l_op (f_val F8 rfl rfl (r_cmp (b := decide (text.size > 4000)) (.inr (.inr (.inr (.inr (.inl rfl))))) rfl (F8.ev 19 rfl) rfl (dec_of (by omega))) rfl fun _ F9 => ?_)
 refine s_end (x_normal (x_cond (p := text.size > 4000) (F9.ev 20 rfl) (fun h10 => ?_) (fun h10 => ?_)))
 · skip
   refine wp_seq (wp_region_lit (l_op (f_mv F9 rfl rfl rfl rfl rfl fun _ F11 => ?_)))
   refine l_op (f_val F11 rfl rfl (r_assign rfl rfl) rfl fun _ F12 => ?_)
   refine l_op (f_as F12 rfl rfl rfl rfl rfl fun _ F13 => ?_)
   refine l_op (f_val F13 rfl rfl (r_assign rfl rfl) rfl fun _ F14 => ?_)
   refine s_end (x_normal (wp_ret (x_then_ret ?_)))
   refine x_done (v := .tuple #[.int .i64 0, .slice (some ⟨b4, 0, none⟩) 0 0, .bool false]) F14 (results_3 Tryz.results90 (.tmp (F14.ev 2 rfl)) (.tmp (F14.ev 3 rfl)) (.tmp (F14.ev 4 rfl))) ?_
   exact ⟨(some ⟨b4, 0, none⟩), 0, 0, ((congrArg (fun zZ => Ending.returned (.tuple #[.int .i64 zZ, .slice (some ⟨b4, 0, none⟩) 0 0, .bool false])) (show 0 = (rrN text) from by first | exact (rr_no (rr_long ‹_›)).1 | exact (rr_no (rr_long ‹_›)).2.1 | exact (rr_no (rr_long ‹_›)).2.2 | exact (rr_no (rr_two Q0 hx2 (by omega) Q1 (by omega))).1 | exact (rr_no (rr_two Q0 hx2 (by omega) Q1 (by omega))).2.1 | exact (rr_no (rr_two Q0 hx2 (by omega) Q1 (by omega))).2.2 | exact (rr_no (rr_num hx1 (nt ‹_›))).1 | exact (rr_no (rr_num hx1 (nt ‹_›))).2.1 | exact (rr_no (rr_num hx1 (nt ‹_›))).2.2 | exact (rr_no (rr_none (decN_at hx1) (decC_allS Q0 hk_1 (by omega)) ‹_›)).1 | exact (rr_no (rr_none (decN_at hx1) (decC_allS Q0 hk_1 (by omega)) ‹_›)).2.1 | exact (rr_no (rr_none (decN_at hx1) (decC_allS Q0 hk_1 (by omega)) ‹_›)).2.2 | exact (rr_no (rr_diff (decN_at hx1) (decC_allS Q0 hk_1 (by omega)) ‹_›)).1 | exact (rr_no (rr_diff (decN_at hx1) (decC_allS Q0 hk_1 (by omega)) ‹_›)).2.1 | exact (rr_no (rr_diff (decN_at hx1) (decC_allS Q0 hk_1 (by omega)) ‹_›)).2.2 | exact (rr_yes3 (decN_at hx1) (decC_allS Q0 hk_1 (by omega)) ‹_› ‹_› (Classical.not_not.1 ‹_›)).1 | exact (rr_yes3 (decN_at hx1) (decC_allS Q0 hk_1 (by omega)) ‹_› ‹_› (Classical.not_not.1 ‹_›)).2.1 | exact (rr_yes3 (decN_at hx1) (decC_allS Q0 hk_1 (by omega)) ‹_› ‹_› (Classical.not_not.1 ‹_›)).2.2)).trans (congrArg (fun zZ => Ending.returned (.tuple #[.int .i64 (rrN text), .slice (some ⟨b4, 0, none⟩) 0 0, .bool zZ])) (show false = (rrB text) from by first | exact (rr_no (rr_long ‹_›)).1 | exact (rr_no (rr_long ‹_›)).2.1 | exact (rr_no (rr_long ‹_›)).2.2 | exact (rr_no (rr_two Q0 hx2 (by omega) Q1 (by omega))).1 | exact (rr_no (rr_two Q0 hx2 (by omega) Q1 (by omega))).2.1 | exact (rr_no (rr_two Q0 hx2 (by omega) Q1 (by omega))).2.2 | exact (rr_no (rr_num hx1 (nt ‹_›))).1 | exact (rr_no (rr_num hx1 (nt ‹_›))).2.1 | exact (rr_no (rr_num hx1 (nt ‹_›))).2.2 | exact (rr_no (rr_none (decN_at hx1) (decC_allS Q0 hk_1 (by omega)) ‹_›)).1 | exact (rr_no (rr_none (decN_at hx1) (decC_allS Q0 hk_1 (by omega)) ‹_›)).2.1 | exact (rr_no (rr_none (decN_at hx1) (decC_allS Q0 hk_1 (by omega)) ‹_›)).2.2 | exact (rr_no (rr_diff (decN_at hx1) (decC_allS Q0 hk_1 (by omega)) ‹_›)).1 | exact (rr_no (rr_diff (decN_at hx1) (decC_allS Q0 hk_1 (by omega)) ‹_›)).2.1 | exact (rr_no (rr_diff (decN_at hx1) (decC_allS Q0 hk_1 (by omega)) ‹_›)).2.2 | exact (rr_yes3 (decN_at hx1) (decC_allS Q0 hk_1 (by omega)) ‹_› ‹_› (Classical.not_not.1 ‹_›)).1 | exact (rr_yes3 (decN_at hx1) (decC_allS Q0 hk_1 (by omega)) ‹_› ‹_› (Classical.not_not.1 ‹_›)).2.1 | exact (rr_yes3 (decN_at hx1) (decC_allS Q0 hk_1 (by omega)) ‹_› ‹_› (Classical.not_not.1 ‹_›)).2.2))), (Mv.cast (Mv.pick S4 [0] rfl) (by rw [← (show ([] : List CellD) = (rrC text) from by first | exact (rr_no (rr_long ‹_›)).1 | exact (rr_no (rr_long ‹_›)).2.1 | exact (rr_no (rr_long ‹_›)).2.2 | exact (rr_no (rr_two Q0 hx2 (by omega) Q1 (by omega))).1 | exact (rr_no (rr_two Q0 hx2 (by omega) Q1 (by omega))).2.1 | exact (rr_no (rr_two Q0 hx2 (by omega) Q1 (by omega))).2.2 | exact (rr_no (rr_num hx1 (nt ‹_›))).1 | exact (rr_no (rr_num hx1 (nt ‹_›))).2.1 | exact (rr_no (rr_num hx1 (nt ‹_›))).2.2 | exact (rr_no (rr_none (decN_at hx1) (decC_allS Q0 hk_1 (by omega)) ‹_›)).1 | exact (rr_no (rr_none (decN_at hx1) (decC_allS Q0 hk_1 (by omega)) ‹_›)).2.1 | exact (rr_no (rr_none (decN_at hx1) (decC_allS Q0 hk_1 (by omega)) ‹_›)).2.2 | exact (rr_no (rr_diff (decN_at hx1) (decC_allS Q0 hk_1 (by omega)) ‹_›)).1 | exact (rr_no (rr_diff (decN_at hx1) (decC_allS Q0 hk_1 (by omega)) ‹_›)).2.1 | exact (rr_no (rr_diff (decN_at hx1) (decC_allS Q0 hk_1 (by omega)) ‹_›)).2.2 | exact (rr_yes3 (decN_at hx1) (decC_allS Q0 hk_1 (by omega)) ‹_› ‹_› (Classical.not_not.1 ‹_›)).1 | exact (rr_yes3 (decN_at hx1) (decC_allS Q0 hk_1 (by omega)) ‹_› ‹_› (Classical.not_not.1 ‹_›)).2.1 | exact (rr_yes3 (decN_at hx1) (decC_allS Q0 hk_1 (by omega)) ‹_› ‹_› (Classical.not_not.1 ‹_›)).2.2)]; all_goals rfl))⟩
 · skip
   refine wp_skip (x_normal (wp_seq (wp_region_lit (l_op (f_mv F9 rfl rfl rfl rfl rfl fun _ F15 => ?_)))))
   refine l_op (f_call F15 CF_133 rfl rfl rfl rfl (lc (F15.ev 22 rfl) (lc rfl rfl)) (spec_l21Split_c (H := fun _ => True) (s := text) (sign := 32) Q8 (by omega) (by first | omega | (have := spS_part (nth_mem hx2); omega))) ?_)
   rintro _ w16 ⟨Q3, Q2, Q4, rfl, m16⟩
   refine ⟨_, rfl, fun _ F17 => ?_⟩
   have S16 : Mv _ _ [ow 9 1 encS okS (.slice Q3 Q2 Q4) (spS 32 text), ow 91 2 encC okC (.slice (some ⟨b4, 0, none⟩) 0 0) ([] : List CellD)] _ := At.frame S4.at' [] rfl m16
   obtain ⟨Q0, Q11, Q13⟩ := At.ownInv S16.at' ET_44.hk 0 rfl
   clear m16
   refine l_op (f_as F17 rfl rfl rfl rfl rfl fun _ F18 => ?_)
   refine s_end (x_normal (wp_seq ?_))
   have hs1 := (spS_len 32 text).1
   refine wp_region_lit (l_op (f_mv F18 rfl rfl rfl rfl rfl fun _ F19 => ?_))
   obtain ⟨B20, O20, x1, ad20, hx1, okx1, ln20, cl20⟩ := Rd.at (At.rd S16.at' ET_44.hk 0 rfl) 0 (by first | assumption | omega)
   clear ln20
   refine l_op (f_val F19 rfl rfl (r_indexAddr (i := 0) ET_44 rfl ((F19.ev 25 rfl).trans (by rw [ad20])) rfl (by omega) (by first | assumption | omega)) rfl fun _ F21 => ?_)
   refine l_op (f_val (v := .string x1) F21 rfl rfl (r_load (cs := [.string x1]) TI_9 rfl (F21.ev 26 rfl) rfl (fun _ => rfl) (elem_sub (f := 0) cl20 [.string x1] rfl)) rfl fun _ F22 => ?_)
   refine l_op (f_call F22 CF_134 rfl rfl rfl rfl (lc (F22.ev 27 rfl) rfl) (spec_ReadDecimal_c (H := fun _ => True) (text := x1) okx1) ?_)
   rintro _ w23 ⟨rfl, m23⟩
   refine ⟨_, rfl, fun _ F24 => ?_⟩
   have S23 := At.frame0 S16.at' m23
   clear m23
   refine l_op (f_mv F24 rfl rfl rfl rfl rfl fun _ F25 => ?_)
   refine l_op (f_val (v := .int .i64 ((readN x1 : Nat) : Int)) F25 rfl rfl (r_extract rfl (F25.ev 24 rfl) rfl) rfl fun _ F26 => ?_)
   refine l_op (f_val (v := .bool (readB x1)) F26 rfl rfl (r_extract rfl (F26.ev 24 rfl) rfl) rfl fun _ F27 => ?_)
   refine l_op (f_as F27 rfl rfl rfl rfl rfl fun _ F28 => ?_)
   refine l_op (f_as F28 rfl rfl rfl rfl rfl fun _ F29 => ?_)
   refine s_end (x_normal (wp_seq (wp_region_lit (l_op (f_buildSl (ok := okC) (vs := []) F29 S23.at' (([] : List CellD)) ET_28 rfl rfl rfl rfl rfl rfl rfl rfl rfl (by simp) fun b30 _ w30 F31 S30 => ?_)))))
   refine l_op (f_as F31 rfl rfl rfl rfl rfl fun _ F32 => ?_)
   have T33 : Mv _ _ [ow 91 2 encC okC (.slice (some ⟨b30, 0, none⟩) 0 0) ([] : List CellD), ow 9 1 encS okS (.slice Q3 Q2 Q4) (spS 32 text), ow 91 2 encC okC (.slice (some ⟨b4, 0, none⟩) 0 0) ([] : List CellD)] _ := S30
   refine s_end (x_normal (wp_seq (wp_seq (wp_region_lit (l_op (f_val F32 rfl rfl (r_assign rfl rfl) rfl fun _ F34 => ?_))))))
   refine s_end (x_normal (wp_block ?_))
   refine x_loop (fun (k : Nat) aZ wZ => ∃ (D : List CellD), ∃ (oa : Option Addr), ∃ (on : Nat), ∃ (oc : Nat), Fr 85 [(10, .int .i64 ((k + 1 : Nat) : Int)), (9, .slice oa on oc), (8, .bool (readB x1)), (7, .int .i64 ((readN x1 : Nat) : Int)), (6, .slice Q3 Q2 Q4), (5, .slice (some ⟨b4, 0, none⟩) 0 0), (0, .string text)] aZ ∧ Mv [ow 91 2 encC okC (.slice (some ⟨b30, 0, none⟩) 0 0) ([] : List CellD), ow 9 1 encS okS (.slice Q3 Q2 Q4) (spS 32 text), ow 91 2 encC okC (.slice (some ⟨b4, 0, none⟩) 0 0) ([] : List CellD)] w30 [ow 91 2 encC okC (.slice oa on oc) D, ow 9 1 encS okS (.slice Q3 Q2 Q4) (spS 32 text), ow 91 2 encC okC (.slice (some ⟨b4, 0, none⟩) 0 0) ([] : List CellD)] wZ ∧ (k ≤ (spS 32 text).length) ∧ (D = ((midW (wds text)).take k).map cellI)) (fun (k : Nat) => (spS 32 text).length - k) (0) ?_ ?_
   · exact ⟨([] : List CellD), (some ⟨b30, 0, none⟩), 0, 0, F34.cut rfl, (Mv.refl T33.at'), by omega, by rw [List.take_zero]; rfl⟩
   · rintro k a35 w35 ⟨D, oa, on, oc, F35, S35, hk_0, hk_1⟩
     have hDl : D.length ≤ k := by rw [hk_1, List.length_map, List.length_take]; omega
     have hsl := (spS_len 32 text).2
     refine wp_seq (wp_seq (wp_region_lit (l_op (f_mv F35 rfl rfl rfl rfl rfl fun _ F36 => ?_))))
     refine l_op (f_mv F36 rfl rfl rfl rfl rfl fun _ F37 => ?_)
     refine l_op (f_val F37 rfl rfl (r_len Tryz.underlying44 rfl (F37.ev 33 rfl)) rfl fun _ F38 => ?_)
     refine l_op (f_val F38 rfl rfl (r_sub (z := (((Q2 : Nat) : Int) - 1)) rfl (F38.ev 34 rfl) rfl (by first | rfl | omega) ⟨by first | omega | (unfold i64ok at *; omega), by first | omega | (unfold i64ok at *; omega)⟩) rfl fun _ F39 => ?_)
     refine l_op (f_val F39 rfl rfl (r_cmp (b := decide (((k + 1 : Nat) : Int) < (((Q2 : Nat) : Int) - 1))) (.inr (.inr (.inl rfl))) rfl (F39.ev 32 rfl) (F39.ev 35 rfl) (dec_of (by omega))) rfl fun _ F40 => ?_)
     refine s_end (x_normal (x_cond (p := ((k + 1 : Nat) : Int) < (((Q2 : Nat) : Int) - 1)) (F40.ev 36 rfl) (fun h41 => ?_) (fun h41 => ?_)))
     · skip
       refine wp_skip (x_normal (wp_seq (wp_block (wp_seq (wp_region_lit (l_op (f_mv F40 rfl rfl rfl rfl rfl fun _ F42 => ?_)))))))
       refine l_op (f_mv F42 rfl rfl rfl rfl rfl fun _ F43 => ?_)
       obtain ⟨B44, O44, x2, ad44, hx2, okx2, ln44, cl44⟩ := Rd.at (At.rd S35.at' ET_44.hk 1 rfl) (k + 1) (by first | assumption | omega)
       clear ln44
       refine l_op (f_val F43 rfl rfl (r_indexAddr (i := k + 1) ET_44 rfl ((F43.ev 39 rfl).trans (by rw [ad44])) (F43.ev 40 rfl) (by omega) (by first | assumption | omega)) rfl fun _ F45 => ?_)
       refine l_op (f_val (v := .string x2) F45 rfl rfl (r_load (cs := [.string x2]) TI_9 rfl (F45.ev 41 rfl) rfl (fun _ => rfl) (elem_sub (f := 0) cl44 [.string x2] rfl)) rfl fun _ F46 => ?_)
       refine l_op (f_call F46 CF_133 rfl rfl rfl rfl (lc (F46.ev 42 rfl) (lc rfl rfl)) (spec_l21Split_c (H := fun _ => True) (s := x2) (sign := 61) okx2 (by omega) (by first | omega | (have := spS_part (nth_mem hx2); omega))) ?_)
       rintro _ w47 ⟨Q6, Q5, Q7, rfl, m47⟩
       refine ⟨_, rfl, fun _ F48 => ?_⟩
       have S47 : Mv _ _ [ow 9 1 encS okS (.slice Q6 Q5 Q7) (spS 61 x2), ow 91 2 encC okC (.slice oa on oc) D, ow 9 1 encS okS (.slice Q3 Q2 Q4) (spS 32 text), ow 91 2 encC okC (.slice (some ⟨b4, 0, none⟩) 0 0) ([] : List CellD)] _ := At.frame S35.at' [] rfl m47
       obtain ⟨Q1, Q12, Q14⟩ := At.ownInv S47.at' ET_44.hk 0 rfl
       clear m47
       refine l_op (f_as F48 rfl rfl rfl rfl rfl fun _ F49 => ?_)
       refine s_end (x_normal (wp_seq (wp_seq (wp_region_lit (l_op (f_mv F49 rfl rfl rfl rfl rfl fun _ F50 => ?_))))))
       refine l_op (f_val F50 rfl rfl (r_len Tryz.underlying44 rfl (F50.ev 44 rfl)) rfl fun _ F51 => ?_)
       refine l_op (f_val F51 rfl rfl (r_cmp (b := decide (Q5 ≠ 2)) (.inr (.inl rfl)) rfl (F51.ev 45 rfl) rfl (dec_of (by omega))) rfl fun _ F52 => ?_)
       refine s_end (x_normal (x_cond (p := Q5 ≠ 2) (F52.ev 46 rfl) (fun h53 => ?_) (fun h53 => ?_)))
       · skip
         refine wp_seq (wp_region_lit (l_op (f_mv F52 rfl rfl rfl rfl rfl fun _ F54 => ?_)))
         refine l_op (f_val F54 rfl rfl (r_assign rfl rfl) rfl fun _ F55 => ?_)
         refine l_op (f_as F55 rfl rfl rfl rfl rfl fun _ F56 => ?_)
         refine l_op (f_val F56 rfl rfl (r_assign rfl rfl) rfl fun _ F57 => ?_)
         refine s_end (x_normal (wp_ret (x_then_ret (x_block_ret (x_then_ret (x_then_ret (x_block_ret (x_then_ret ?_))))))))
         refine x_done (v := .tuple #[.int .i64 0, .slice (some ⟨b4, 0, none⟩) 0 0, .bool false]) F57 (results_3 Tryz.results90 (.tmp (F57.ev 2 rfl)) (.tmp (F57.ev 3 rfl)) (.tmp (F57.ev 4 rfl))) ?_
         exact ⟨(some ⟨b4, 0, none⟩), 0, 0, ((congrArg (fun zZ => Ending.returned (.tuple #[.int .i64 zZ, .slice (some ⟨b4, 0, none⟩) 0 0, .bool false])) (show 0 = (rrN text) from by first | exact (rr_no (rr_long ‹_›)).1 | exact (rr_no (rr_long ‹_›)).2.1 | exact (rr_no (rr_long ‹_›)).2.2 | exact (rr_no (rr_two Q0 hx2 (by omega) Q1 (by omega))).1 | exact (rr_no (rr_two Q0 hx2 (by omega) Q1 (by omega))).2.1 | exact (rr_no (rr_two Q0 hx2 (by omega) Q1 (by omega))).2.2 | exact (rr_no (rr_num hx1 (nt ‹_›))).1 | exact (rr_no (rr_num hx1 (nt ‹_›))).2.1 | exact (rr_no (rr_num hx1 (nt ‹_›))).2.2 | exact (rr_no (rr_none (decN_at hx1) (decC_allS Q0 hk_1 (by omega)) ‹_›)).1 | exact (rr_no (rr_none (decN_at hx1) (decC_allS Q0 hk_1 (by omega)) ‹_›)).2.1 | exact (rr_no (rr_none (decN_at hx1) (decC_allS Q0 hk_1 (by omega)) ‹_›)).2.2 | exact (rr_no (rr_diff (decN_at hx1) (decC_allS Q0 hk_1 (by omega)) ‹_›)).1 | exact (rr_no (rr_diff (decN_at hx1) (decC_allS Q0 hk_1 (by omega)) ‹_›)).2.1 | exact (rr_no (rr_diff (decN_at hx1) (decC_allS Q0 hk_1 (by omega)) ‹_›)).2.2 | exact (rr_yes3 (decN_at hx1) (decC_allS Q0 hk_1 (by omega)) ‹_› ‹_› (Classical.not_not.1 ‹_›)).1 | exact (rr_yes3 (decN_at hx1) (decC_allS Q0 hk_1 (by omega)) ‹_› ‹_› (Classical.not_not.1 ‹_›)).2.1 | exact (rr_yes3 (decN_at hx1) (decC_allS Q0 hk_1 (by omega)) ‹_› ‹_› (Classical.not_not.1 ‹_›)).2.2)).trans (congrArg (fun zZ => Ending.returned (.tuple #[.int .i64 (rrN text), .slice (some ⟨b4, 0, none⟩) 0 0, .bool zZ])) (show false = (rrB text) from by first | exact (rr_no (rr_long ‹_›)).1 | exact (rr_no (rr_long ‹_›)).2.1 | exact (rr_no (rr_long ‹_›)).2.2 | exact (rr_no (rr_two Q0 hx2 (by omega) Q1 (by omega))).1 | exact (rr_no (rr_two Q0 hx2 (by omega) Q1 (by omega))).2.1 | exact (rr_no (rr_two Q0 hx2 (by omega) Q1 (by omega))).2.2 | exact (rr_no (rr_num hx1 (nt ‹_›))).1 | exact (rr_no (rr_num hx1 (nt ‹_›))).2.1 | exact (rr_no (rr_num hx1 (nt ‹_›))).2.2 | exact (rr_no (rr_none (decN_at hx1) (decC_allS Q0 hk_1 (by omega)) ‹_›)).1 | exact (rr_no (rr_none (decN_at hx1) (decC_allS Q0 hk_1 (by omega)) ‹_›)).2.1 | exact (rr_no (rr_none (decN_at hx1) (decC_allS Q0 hk_1 (by omega)) ‹_›)).2.2 | exact (rr_no (rr_diff (decN_at hx1) (decC_allS Q0 hk_1 (by omega)) ‹_›)).1 | exact (rr_no (rr_diff (decN_at hx1) (decC_allS Q0 hk_1 (by omega)) ‹_›)).2.1 | exact (rr_no (rr_diff (decN_at hx1) (decC_allS Q0 hk_1 (by omega)) ‹_›)).2.2 | exact (rr_yes3 (decN_at hx1) (decC_allS Q0 hk_1 (by omega)) ‹_› ‹_› (Classical.not_not.1 ‹_›)).1 | exact (rr_yes3 (decN_at hx1) (decC_allS Q0 hk_1 (by omega)) ‹_› ‹_› (Classical.not_not.1 ‹_›)).2.1 | exact (rr_yes3 (decN_at hx1) (decC_allS Q0 hk_1 (by omega)) ‹_› ‹_› (Classical.not_not.1 ‹_›)).2.2))), (Mv.cast (Mv.pick (S4.trans (S16.trans (S23.trans (T33.trans (S35.trans S47))))) [3] rfl) (by rw [← (show ([] : List CellD) = (rrC text) from by first | exact (rr_no (rr_long ‹_›)).1 | exact (rr_no (rr_long ‹_›)).2.1 | exact (rr_no (rr_long ‹_›)).2.2 | exact (rr_no (rr_two Q0 hx2 (by omega) Q1 (by omega))).1 | exact (rr_no (rr_two Q0 hx2 (by omega) Q1 (by omega))).2.1 | exact (rr_no (rr_two Q0 hx2 (by omega) Q1 (by omega))).2.2 | exact (rr_no (rr_num hx1 (nt ‹_›))).1 | exact (rr_no (rr_num hx1 (nt ‹_›))).2.1 | exact (rr_no (rr_num hx1 (nt ‹_›))).2.2 | exact (rr_no (rr_none (decN_at hx1) (decC_allS Q0 hk_1 (by omega)) ‹_›)).1 | exact (rr_no (rr_none (decN_at hx1) (decC_allS Q0 hk_1 (by omega)) ‹_›)).2.1 | exact (rr_no (rr_none (decN_at hx1) (decC_allS Q0 hk_1 (by omega)) ‹_›)).2.2 | exact (rr_no (rr_diff (decN_at hx1) (decC_allS Q0 hk_1 (by omega)) ‹_›)).1 | exact (rr_no (rr_diff (decN_at hx1) (decC_allS Q0 hk_1 (by omega)) ‹_›)).2.1 | exact (rr_no (rr_diff (decN_at hx1) (decC_allS Q0 hk_1 (by omega)) ‹_›)).2.2 | exact (rr_yes3 (decN_at hx1) (decC_allS Q0 hk_1 (by omega)) ‹_› ‹_› (Classical.not_not.1 ‹_›)).1 | exact (rr_yes3 (decN_at hx1) (decC_allS Q0 hk_1 (by omega)) ‹_› ‹_› (Classical.not_not.1 ‹_›)).2.1 | exact (rr_yes3 (decN_at hx1) (decC_allS Q0 hk_1 (by omega)) ‹_› ‹_› (Classical.not_not.1 ‹_›)).2.2)]; all_goals rfl))⟩
       · skip
         refine wp_skip (x_normal (wp_seq (wp_region_lit (l_op (f_mv F52 rfl rfl rfl rfl rfl fun _ F58 => ?_)))))
         obtain ⟨B59, O59, x3, ad59, hx3, okx3, ln59, cl59⟩ := Rd.at (At.rd S47.at' ET_44.hk 0 rfl) 0 (by first | assumption | omega)
         clear ln59
         refine l_op (f_val F58 rfl rfl (r_indexAddr (i := 0) ET_44 rfl ((F58.ev 49 rfl).trans (by rw [ad59])) rfl (by omega) (by first | assumption | omega)) rfl fun _ F60 => ?_)
         refine l_op (f_val (v := .string x3) F60 rfl rfl (r_load (cs := [.string x3]) TI_9 rfl (F60.ev 50 rfl) rfl (fun _ => rfl) (elem_sub (f := 0) cl59 [.string x3] rfl)) rfl fun _ F61 => ?_)
         refine l_op (f_call F61 CF_135 rfl rfl rfl rfl (lc (F61.ev 51 rfl) rfl) (spec_Unhex_c (H := fun _ => True) (text := x3) okx3) ?_)
         rintro _ w62 ⟨rfl, m62, Q9⟩
         refine ⟨_, rfl, fun _ F63 => ?_⟩
         have S62 := At.frame0 S47.at' m62
         clear m62
         refine l_op (f_mv F63 rfl rfl rfl rfl rfl fun _ F64 => ?_)
         refine l_op (f_val (v := .string (unhexT x3)) F64 rfl rfl (r_extract rfl (F64.ev 48 rfl) rfl) rfl fun _ F65 => ?_)
         refine l_op (f_val (v := .bool (unhexB x3)) F65 rfl rfl (r_extract rfl (F65.ev 48 rfl) rfl) rfl fun _ F66 => ?_)
         refine l_op (f_as F66 rfl rfl rfl rfl rfl fun _ F67 => ?_)
         refine l_op (f_as F67 rfl rfl rfl rfl rfl fun _ F68 => ?_)
         refine s_end (x_normal (wp_seq (wp_region_lit (l_op (f_mv F68 rfl rfl rfl rfl rfl fun _ F69 => ?_)))))
         obtain ⟨B70, O70, x4, ad70, hx4, okx4, ln70, cl70⟩ := Rd.at (At.rd S62.at' ET_44.hk 0 rfl) 1 (by first | assumption | omega)
         clear ln70
         refine l_op (f_val F69 rfl rfl (r_indexAddr (i := 1) ET_44 rfl ((F69.ev 56 rfl).trans (by rw [ad70])) rfl (by omega) (by first | assumption | omega)) rfl fun _ F71 => ?_)
         refine l_op (f_val (v := .string x4) F71 rfl rfl (r_load (cs := [.string x4]) TI_9 rfl (F71.ev 57 rfl) rfl (fun _ => rfl) (elem_sub (f := 0) cl70 [.string x4] rfl)) rfl fun _ F72 => ?_)
         refine l_op (f_call F72 CF_135 rfl rfl rfl rfl (lc (F72.ev 58 rfl) rfl) (spec_Unhex_c (H := fun _ => True) (text := x4) okx4) ?_)
         rintro _ w73 ⟨rfl, m73, Q10⟩
         refine ⟨_, rfl, fun _ F74 => ?_⟩
         have S73 := At.frame0 S62.at' m73
         clear m73
         refine l_op (f_mv F74 rfl rfl rfl rfl rfl fun _ F75 => ?_)
         refine l_op (f_val (v := .string (unhexT x4)) F75 rfl rfl (r_extract rfl (F75.ev 55 rfl) rfl) rfl fun _ F76 => ?_)
         refine l_op (f_val (v := .bool (unhexB x4)) F76 rfl rfl (r_extract rfl (F76.ev 55 rfl) rfl) rfl fun _ F77 => ?_)
         refine l_op (f_as F77 rfl rfl rfl rfl rfl fun _ F78 => ?_)
         refine l_op (f_as F78 rfl rfl rfl rfl rfl fun _ F79 => ?_)
         have T80 : Mv _ _ [ow 9 1 encS okS (.slice Q6 Q5 Q7) (spS 61 x2), ow 91 2 encC okC (.slice oa on oc) D, ow 9 1 encS okS (.slice Q3 Q2 Q4) (spS 32 text), ow 91 2 encC okC (.slice (some ⟨b4, 0, none⟩) 0 0) ([] : List CellD)] _ := S73
         refine s_end (x_normal (wp_region_lit (l_op (f_mv F79 rfl rfl rfl rfl rfl fun _ F81 => ?_))))
         refine l_op (f_mv F81 rfl rfl rfl rfl rfl fun _ F82 => ?_)
         refine l_op (f_mv F82 rfl rfl rfl rfl rfl fun _ F83 => ?_)
         refine l_op (f_val (v := .agg #[.string (unhexT x3), .string (unhexT x4)]) F83 rfl rfl (r_build BI_91 rfl (lc (pr2 (F83.ev 63 rfl)) (lc (pr2 (F83.ev 64 rfl)) rfl)) rfl) rfl fun _ F84 => ?_)
         refine l_op (f_buildSl (ok := okC) (vs := [.agg #[.string (unhexT x3), .string (unhexT x4)]]) F84 T80.at' ([(⟨(unhexT x3), (unhexT x4)⟩ : CellD)]) ET_28 rfl rfl rfl rfl rfl rfl (lc (pr2 (F84.ev 65 rfl)) rfl) rfl rfl (fun x hx => (List.mem_singleton.1 hx) ▸ ⟨Q9, Q10⟩) fun b85 _ w85 F86 S85 => ?_)
         refine l_op (f_app (news := [(⟨(unhexT x3), (unhexT x4)⟩ : CellD)]) F86 S85.at' 2 ET_28 rfl rfl rfl rfl rfl rfl (F86.ev 62 rfl) (F86.ev 66 rfl) ((At.rd S85.at' ET_28.hk 0 rfl)).1 (by ((repeat (first | rw [List.length_append] | rw [List.length_cons] | rw [List.length_nil] | rw [List.length_take] | rw [List.length_drop])) <;> omega)) fun A87 N87 C87 _ w87 F88 S87 l87 => ?_)
         have S89 := At.drop S87.at' 1
         refine l_op (f_as F88 rfl rfl rfl rfl rfl fun _ F90 => ?_)
         refine s_end (x_block_normal (x_normal (wp_region_lit (l_op (f_mv F90 rfl rfl rfl rfl rfl fun _ F91 => ?_)))))
         refine l_op (f_val F91 rfl rfl (r_add (z := (((k + 1) + 1 : Nat) : Int)) rfl (F91.ev 37 rfl) rfl (by first | rfl | omega) ⟨by first | omega | (unfold i64ok at *; omega), by first | omega | (unfold i64ok at *; omega)⟩) rfl fun _ F92 => ?_)
         refine l_op (f_as F92 rfl rfl rfl rfl rfl fun _ F93 => ?_)
         have F94 : Fr 85 [(10, .int .i64 (((k + 1) + 1 : Nat) : Int)), (9, .slice A87 N87 C87), (8, .bool (readB x1)), (7, .int .i64 ((readN x1 : Nat) : Int)), (6, .slice Q3 Q2 Q4), (5, .slice (some ⟨b4, 0, none⟩) 0 0), (0, .string text)] _ := F93.cut rfl
         clear F35 F36 F37 F38 F39 F40 F42 F43 F45 F46 F48 F49 F50 F51 F52 F58 F60 F61 F63 F64 F65 F66 F67 F68 F69 F71 F72 F74 F75 F76 F77 F78 F79 F81 F82 F83 F84 F86 F88 F90 F91 F92 F93
         refine s_end ?_
         refine x_normal ⟨k + 1, by omega, D ++ ([(⟨(unhexT x3), (unhexT x4)⟩ : CellD)]), A87, N87, C87, F94.cut rfl, ((S35.trans (S47.trans (S62.trans (T80.trans (S85.trans (S87.trans S89)))))).pick [0, 2, 3] rfl), by omega, by rw [sp_two Q1 (by omega) hx3 hx4]; exact map_snoc hk_1 (midW_at hx2 (by show k + 2 < (spS 32 text).length; omega))⟩
     · skip
       refine wp_exit (x_then_exit (x_then_exit (x_block_here (x_normal (wp_seq (wp_region_lit (l_op (f_mv F40 rfl rfl rfl rfl rfl fun _ F95 => ?_))))))))
       refine l_op (f_mv F95 rfl rfl rfl rfl rfl fun _ F96 => ?_)
       refine l_op (f_call F96 CF_107 rfl rfl rfl rfl (lc (F96.ev 68 rfl) (lc (F96.ev 69 rfl) rfl)) (spec_RecordText_c (H := fun _ => True) (seq := ((readN x1 : Nat) : Int)) (list := D) (by have := readN_le x1; exact ⟨by omega, by omega⟩) (At.rd S35.at' ET_28.hk 0 rfl) (by first | assumption | omega | (simp <;> omega))) ?_)
       rintro _ w97 ⟨rfl, m97, Q15⟩
       refine ⟨_, rfl, fun _ F98 => ?_⟩
       have S97 := At.frame0 S35.at' m97
       clear m97
       refine l_op (f_as F98 rfl rfl rfl rfl rfl fun _ F99 => ?_)
       refine s_end (x_normal (wp_seq (wp_seq (wp_region_lit (l_op (f_mv F99 rfl rfl rfl rfl rfl fun _ F100 => ?_))))))
       refine l_op (f_val F100 rfl rfl (r_not rfl (F100.ev 71 rfl)) rfl fun _ F101 => ?_)
       refine l_op (f_mv F101 rfl rfl rfl rfl rfl fun _ F102 => ?_)
       rcases Bool.eq_false_or_eq_true (!(readB x1)) with h103 | h103
       · rw [h103] at F102
         refine l_op (f_skip F102 (wanted_g F102 rfl rfl rfl rfl) rfl rfl fun _ F104 => ?_)
         refine l_op (f_skip F104 (wanted_g F104 rfl rfl rfl rfl) rfl rfl fun _ F105 => ?_)
         refine l_op (f_val F105 rfl rfl (r_pick (b := true) rfl (F105.ev 73 rfl) rfl) rfl fun _ F106 => ?_)
         refine l_op (f_mv F106 rfl rfl rfl rfl rfl fun _ F107 => ?_)
         refine l_op (f_skip F107 (wanted_g F107 rfl rfl rfl rfl) rfl rfl fun _ F108 => ?_)
         refine l_op (f_skip F108 (wanted_g F108 rfl rfl rfl rfl) rfl rfl fun _ F109 => ?_)
         refine l_op (f_skip F109 (wanted_g F109 rfl rfl rfl rfl) rfl rfl fun _ F110 => ?_)
         refine l_op (f_val F110 rfl rfl (r_pick (b := true) rfl (F110.ev 77 rfl) rfl) rfl fun _ F111 => ?_)
         refine s_end (x_normal (wp_cond_true (F111.ev 81 rfl) (wp_seq (wp_region_lit (l_op (f_mv F111 rfl rfl rfl rfl rfl fun _ F112 => ?_))))))
         refine l_op (f_val F112 rfl rfl (r_assign rfl rfl) rfl fun _ F113 => ?_)
         refine l_op (f_as F113 rfl rfl rfl rfl rfl fun _ F114 => ?_)
         refine l_op (f_val F114 rfl rfl (r_assign rfl rfl) rfl fun _ F115 => ?_)
         refine s_end (x_normal (wp_ret (x_then_ret ?_)))
         refine x_done (v := .tuple #[.int .i64 0, .slice (some ⟨b4, 0, none⟩) 0 0, .bool false]) F115 (results_3 Tryz.results90 (.tmp (F115.ev 2 rfl)) (.tmp (F115.ev 3 rfl)) (.tmp (F115.ev 4 rfl))) ?_
         exact ⟨(some ⟨b4, 0, none⟩), 0, 0, ((congrArg (fun zZ => Ending.returned (.tuple #[.int .i64 zZ, .slice (some ⟨b4, 0, none⟩) 0 0, .bool false])) (show 0 = (rrN text) from by first | exact (rr_no (rr_long ‹_›)).1 | exact (rr_no (rr_long ‹_›)).2.1 | exact (rr_no (rr_long ‹_›)).2.2 | exact (rr_no (rr_two Q0 hx2 (by omega) Q1 (by omega))).1 | exact (rr_no (rr_two Q0 hx2 (by omega) Q1 (by omega))).2.1 | exact (rr_no (rr_two Q0 hx2 (by omega) Q1 (by omega))).2.2 | exact (rr_no (rr_num hx1 (nt ‹_›))).1 | exact (rr_no (rr_num hx1 (nt ‹_›))).2.1 | exact (rr_no (rr_num hx1 (nt ‹_›))).2.2 | exact (rr_no (rr_none (decN_at hx1) (decC_allS Q0 hk_1 (by omega)) ‹_›)).1 | exact (rr_no (rr_none (decN_at hx1) (decC_allS Q0 hk_1 (by omega)) ‹_›)).2.1 | exact (rr_no (rr_none (decN_at hx1) (decC_allS Q0 hk_1 (by omega)) ‹_›)).2.2 | exact (rr_no (rr_diff (decN_at hx1) (decC_allS Q0 hk_1 (by omega)) ‹_›)).1 | exact (rr_no (rr_diff (decN_at hx1) (decC_allS Q0 hk_1 (by omega)) ‹_›)).2.1 | exact (rr_no (rr_diff (decN_at hx1) (decC_allS Q0 hk_1 (by omega)) ‹_›)).2.2 | exact (rr_yes3 (decN_at hx1) (decC_allS Q0 hk_1 (by omega)) ‹_› ‹_› (Classical.not_not.1 ‹_›)).1 | exact (rr_yes3 (decN_at hx1) (decC_allS Q0 hk_1 (by omega)) ‹_› ‹_› (Classical.not_not.1 ‹_›)).2.1 | exact (rr_yes3 (decN_at hx1) (decC_allS Q0 hk_1 (by omega)) ‹_› ‹_› (Classical.not_not.1 ‹_›)).2.2)).trans (congrArg (fun zZ => Ending.returned (.tuple #[.int .i64 (rrN text), .slice (some ⟨b4, 0, none⟩) 0 0, .bool zZ])) (show false = (rrB text) from by first | exact (rr_no (rr_long ‹_›)).1 | exact (rr_no (rr_long ‹_›)).2.1 | exact (rr_no (rr_long ‹_›)).2.2 | exact (rr_no (rr_two Q0 hx2 (by omega) Q1 (by omega))).1 | exact (rr_no (rr_two Q0 hx2 (by omega) Q1 (by omega))).2.1 | exact (rr_no (rr_two Q0 hx2 (by omega) Q1 (by omega))).2.2 | exact (rr_no (rr_num hx1 (nt ‹_›))).1 | exact (rr_no (rr_num hx1 (nt ‹_›))).2.1 | exact (rr_no (rr_num hx1 (nt ‹_›))).2.2 | exact (rr_no (rr_none (decN_at hx1) (decC_allS Q0 hk_1 (by omega)) ‹_›)).1 | exact (rr_no (rr_none (decN_at hx1) (decC_allS Q0 hk_1 (by omega)) ‹_›)).2.1 | exact (rr_no (rr_none (decN_at hx1) (decC_allS Q0 hk_1 (by omega)) ‹_›)).2.2 | exact (rr_no (rr_diff (decN_at hx1) (decC_allS Q0 hk_1 (by omega)) ‹_›)).1 | exact (rr_no (rr_diff (decN_at hx1) (decC_allS Q0 hk_1 (by omega)) ‹_›)).2.1 | exact (rr_no (rr_diff (decN_at hx1) (decC_allS Q0 hk_1 (by omega)) ‹_›)).2.2 | exact (rr_yes3 (decN_at hx1) (decC_allS Q0 hk_1 (by omega)) ‹_› ‹_› (Classical.not_not.1 ‹_›)).1 | exact (rr_yes3 (decN_at hx1) (decC_allS Q0 hk_1 (by omega)) ‹_› ‹_› (Classical.not_not.1 ‹_›)).2.1 | exact (rr_yes3 (decN_at hx1) (decC_allS Q0 hk_1 (by omega)) ‹_› ‹_› (Classical.not_not.1 ‹_›)).2.2))), (Mv.cast (Mv.pick (S4.trans (S16.trans (S23.trans (T33.trans (S35.trans S97))))) [2] rfl) (by rw [← (show ([] : List CellD) = (rrC text) from by first | exact (rr_no (rr_long ‹_›)).1 | exact (rr_no (rr_long ‹_›)).2.1 | exact (rr_no (rr_long ‹_›)).2.2 | exact (rr_no (rr_two Q0 hx2 (by omega) Q1 (by omega))).1 | exact (rr_no (rr_two Q0 hx2 (by omega) Q1 (by omega))).2.1 | exact (rr_no (rr_two Q0 hx2 (by omega) Q1 (by omega))).2.2 | exact (rr_no (rr_num hx1 (nt ‹_›))).1 | exact (rr_no (rr_num hx1 (nt ‹_›))).2.1 | exact (rr_no (rr_num hx1 (nt ‹_›))).2.2 | exact (rr_no (rr_none (decN_at hx1) (decC_allS Q0 hk_1 (by omega)) ‹_›)).1 | exact (rr_no (rr_none (decN_at hx1) (decC_allS Q0 hk_1 (by omega)) ‹_›)).2.1 | exact (rr_no (rr_none (decN_at hx1) (decC_allS Q0 hk_1 (by omega)) ‹_›)).2.2 | exact (rr_no (rr_diff (decN_at hx1) (decC_allS Q0 hk_1 (by omega)) ‹_›)).1 | exact (rr_no (rr_diff (decN_at hx1) (decC_allS Q0 hk_1 (by omega)) ‹_›)).2.1 | exact (rr_no (rr_diff (decN_at hx1) (decC_allS Q0 hk_1 (by omega)) ‹_›)).2.2 | exact (rr_yes3 (decN_at hx1) (decC_allS Q0 hk_1 (by omega)) ‹_› ‹_› (Classical.not_not.1 ‹_›)).1 | exact (rr_yes3 (decN_at hx1) (decC_allS Q0 hk_1 (by omega)) ‹_› ‹_› (Classical.not_not.1 ‹_›)).2.1 | exact (rr_yes3 (decN_at hx1) (decC_allS Q0 hk_1 (by omega)) ‹_› ‹_› (Classical.not_not.1 ‹_›)).2.2)]; all_goals rfl))⟩
       · rw [h103] at F102
         refine l_op (f_mv F102 (wanted_g F102 rfl rfl rfl rfl) rfl rfl rfl rfl fun _ F116 => ?_)
         refine l_op (f_val F116 (wanted_g F116 rfl rfl rfl rfl) rfl (r_cmps (b := (decide ((recT ((readN x1 : Nat) : Int) D) = bE_))) (.inl rfl) rfl (F116.ev 74 rfl) rfl rfl) rfl fun _ F117 => ?_)
         refine l_op (f_val F117 rfl rfl (r_pick (b := false) rfl (F117.ev 73 rfl) (F117.ev 75 rfl)) rfl fun _ F118 => ?_)
         refine l_op (f_mv F118 rfl rfl rfl rfl rfl fun _ F119 => ?_)
         rcases Decidable.em ((recT ((readN x1 : Nat) : Int) D) = bE_) with h120 | h120
         · rw [decide_eq_true h120] at F119
           refine l_op (f_skip F119 (wanted_g F119 rfl rfl rfl rfl) rfl rfl fun _ F121 => ?_)
           refine l_op (f_skip F121 (wanted_g F121 rfl rfl rfl rfl) rfl rfl fun _ F122 => ?_)
           refine l_op (f_skip F122 (wanted_g F122 rfl rfl rfl rfl) rfl rfl fun _ F123 => ?_)
           refine l_op (f_val F123 rfl rfl (r_pick (b := true) rfl (F123.ev 77 rfl) rfl) rfl fun _ F124 => ?_)
           refine s_end (x_normal (wp_cond_true (F124.ev 81 rfl) (wp_seq (wp_region_lit (l_op (f_mv F124 rfl rfl rfl rfl rfl fun _ F125 => ?_))))))
           refine l_op (f_val F125 rfl rfl (r_assign rfl rfl) rfl fun _ F126 => ?_)
           refine l_op (f_as F126 rfl rfl rfl rfl rfl fun _ F127 => ?_)
           refine l_op (f_val F127 rfl rfl (r_assign rfl rfl) rfl fun _ F128 => ?_)
           refine s_end (x_normal (wp_ret (x_then_ret ?_)))
           refine x_done (v := .tuple #[.int .i64 0, .slice (some ⟨b4, 0, none⟩) 0 0, .bool false]) F128 (results_3 Tryz.results90 (.tmp (F128.ev 2 rfl)) (.tmp (F128.ev 3 rfl)) (.tmp (F128.ev 4 rfl))) ?_
           exact ⟨(some ⟨b4, 0, none⟩), 0, 0, ((congrArg (fun zZ => Ending.returned (.tuple #[.int .i64 zZ, .slice (some ⟨b4, 0, none⟩) 0 0, .bool false])) (show 0 = (rrN text) from by first | exact (rr_no (rr_long ‹_›)).1 | exact (rr_no (rr_long ‹_›)).2.1 | exact (rr_no (rr_long ‹_›)).2.2 | exact (rr_no (rr_two Q0 hx2 (by omega) Q1 (by omega))).1 | exact (rr_no (rr_two Q0 hx2 (by omega) Q1 (by omega))).2.1 | exact (rr_no (rr_two Q0 hx2 (by omega) Q1 (by omega))).2.2 | exact (rr_no (rr_num hx1 (nt ‹_›))).1 | exact (rr_no (rr_num hx1 (nt ‹_›))).2.1 | exact (rr_no (rr_num hx1 (nt ‹_›))).2.2 | exact (rr_no (rr_none (decN_at hx1) (decC_allS Q0 hk_1 (by omega)) ‹_›)).1 | exact (rr_no (rr_none (decN_at hx1) (decC_allS Q0 hk_1 (by omega)) ‹_›)).2.1 | exact (rr_no (rr_none (decN_at hx1) (decC_allS Q0 hk_1 (by omega)) ‹_›)).2.2 | exact (rr_no (rr_diff (decN_at hx1) (decC_allS Q0 hk_1 (by omega)) ‹_›)).1 | exact (rr_no (rr_diff (decN_at hx1) (decC_allS Q0 hk_1 (by omega)) ‹_›)).2.1 | exact (rr_no (rr_diff (decN_at hx1) (decC_allS Q0 hk_1 (by omega)) ‹_›)).2.2 | exact (rr_yes3 (decN_at hx1) (decC_allS Q0 hk_1 (by omega)) ‹_› ‹_› (Classical.not_not.1 ‹_›)).1 | exact (rr_yes3 (decN_at hx1) (decC_allS Q0 hk_1 (by omega)) ‹_› ‹_› (Classical.not_not.1 ‹_›)).2.1 | exact (rr_yes3 (decN_at hx1) (decC_allS Q0 hk_1 (by omega)) ‹_› ‹_› (Classical.not_not.1 ‹_›)).2.2)).trans (congrArg (fun zZ => Ending.returned (.tuple #[.int .i64 (rrN text), .slice (some ⟨b4, 0, none⟩) 0 0, .bool zZ])) (show false = (rrB text) from by first | exact (rr_no (rr_long ‹_›)).1 | exact (rr_no (rr_long ‹_›)).2.1 | exact (rr_no (rr_long ‹_›)).2.2 | exact (rr_no (rr_two Q0 hx2 (by omega) Q1 (by omega))).1 | exact (rr_no (rr_two Q0 hx2 (by omega) Q1 (by omega))).2.1 | exact (rr_no (rr_two Q0 hx2 (by omega) Q1 (by omega))).2.2 | exact (rr_no (rr_num hx1 (nt ‹_›))).1 | exact (rr_no (rr_num hx1 (nt ‹_›))).2.1 | exact (rr_no (rr_num hx1 (nt ‹_›))).2.2 | exact (rr_no (rr_none (decN_at hx1) (decC_allS Q0 hk_1 (by omega)) ‹_›)).1 | exact (rr_no (rr_none (decN_at hx1) (decC_allS Q0 hk_1 (by omega)) ‹_›)).2.1 | exact (rr_no (rr_none (decN_at hx1) (decC_allS Q0 hk_1 (by omega)) ‹_›)).2.2 | exact (rr_no (rr_diff (decN_at hx1) (decC_allS Q0 hk_1 (by omega)) ‹_›)).1 | exact (rr_no (rr_diff (decN_at hx1) (decC_allS Q0 hk_1 (by omega)) ‹_›)).2.1 | exact (rr_no (rr_diff (decN_at hx1) (decC_allS Q0 hk_1 (by omega)) ‹_›)).2.2 | exact (rr_yes3 (decN_at hx1) (decC_allS Q0 hk_1 (by omega)) ‹_› ‹_› (Classical.not_not.1 ‹_›)).1 | exact (rr_yes3 (decN_at hx1) (decC_allS Q0 hk_1 (by omega)) ‹_› ‹_› (Classical.not_not.1 ‹_›)).2.1 | exact (rr_yes3 (decN_at hx1) (decC_allS Q0 hk_1 (by omega)) ‹_› ‹_› (Classical.not_not.1 ‹_›)).2.2))), (Mv.cast (Mv.pick (S4.trans (S16.trans (S23.trans (T33.trans (S35.trans S97))))) [2] rfl) (by rw [← (show ([] : List CellD) = (rrC text) from by first | exact (rr_no (rr_long ‹_›)).1 | exact (rr_no (rr_long ‹_›)).2.1 | exact (rr_no (rr_long ‹_›)).2.2 | exact (rr_no (rr_two Q0 hx2 (by omega) Q1 (by omega))).1 | exact (rr_no (rr_two Q0 hx2 (by omega) Q1 (by omega))).2.1 | exact (rr_no (rr_two Q0 hx2 (by omega) Q1 (by omega))).2.2 | exact (rr_no (rr_num hx1 (nt ‹_›))).1 | exact (rr_no (rr_num hx1 (nt ‹_›))).2.1 | exact (rr_no (rr_num hx1 (nt ‹_›))).2.2 | exact (rr_no (rr_none (decN_at hx1) (decC_allS Q0 hk_1 (by omega)) ‹_›)).1 | exact (rr_no (rr_none (decN_at hx1) (decC_allS Q0 hk_1 (by omega)) ‹_›)).2.1 | exact (rr_no (rr_none (decN_at hx1) (decC_allS Q0 hk_1 (by omega)) ‹_›)).2.2 | exact (rr_no (rr_diff (decN_at hx1) (decC_allS Q0 hk_1 (by omega)) ‹_›)).1 | exact (rr_no (rr_diff (decN_at hx1) (decC_allS Q0 hk_1 (by omega)) ‹_›)).2.1 | exact (rr_no (rr_diff (decN_at hx1) (decC_allS Q0 hk_1 (by omega)) ‹_›)).2.2 | exact (rr_yes3 (decN_at hx1) (decC_allS Q0 hk_1 (by omega)) ‹_› ‹_› (Classical.not_not.1 ‹_›)).1 | exact (rr_yes3 (decN_at hx1) (decC_allS Q0 hk_1 (by omega)) ‹_› ‹_› (Classical.not_not.1 ‹_›)).2.1 | exact (rr_yes3 (decN_at hx1) (decC_allS Q0 hk_1 (by omega)) ‹_› ‹_› (Classical.not_not.1 ‹_›)).2.2)]; all_goals rfl))⟩
         · rw [decide_eq_false h120] at F119
           refine l_op (f_mv F119 (wanted_g F119 rfl rfl rfl rfl) rfl rfl rfl rfl fun _ F129 => ?_)
           refine l_op (f_mv F129 (wanted_g F129 rfl rfl rfl rfl) rfl rfl rfl rfl fun _ F130 => ?_)
           refine l_op (f_val F130 (wanted_g F130 rfl rfl rfl rfl) rfl (r_cmps (b := (decide ((recT ((readN x1 : Nat) : Int) D) ≠ text))) (.inr (.inl rfl)) rfl (F130.ev 78 rfl) (F130.ev 79 rfl) rfl) rfl fun _ F131 => ?_)
           refine l_op (f_val F131 rfl rfl (r_pick (b := false) rfl (F131.ev 77 rfl) (F131.ev 80 rfl)) rfl fun _ F132 => ?_)
           refine s_end (x_normal (x_cond (p := (recT ((readN x1 : Nat) : Int) D) ≠ text) (F132.ev 81 rfl) (fun h133 => ?_) (fun h133 => ?_)))
           · skip
             refine wp_seq (wp_region_lit (l_op (f_mv F132 rfl rfl rfl rfl rfl fun _ F134 => ?_)))
             refine l_op (f_val F134 rfl rfl (r_assign rfl rfl) rfl fun _ F135 => ?_)
             refine l_op (f_as F135 rfl rfl rfl rfl rfl fun _ F136 => ?_)
             refine l_op (f_val F136 rfl rfl (r_assign rfl rfl) rfl fun _ F137 => ?_)
             refine s_end (x_normal (wp_ret (x_then_ret ?_)))
             refine x_done (v := .tuple #[.int .i64 0, .slice (some ⟨b4, 0, none⟩) 0 0, .bool false]) F137 (results_3 Tryz.results90 (.tmp (F137.ev 2 rfl)) (.tmp (F137.ev 3 rfl)) (.tmp (F137.ev 4 rfl))) ?_
             exact ⟨(some ⟨b4, 0, none⟩), 0, 0, ((congrArg (fun zZ => Ending.returned (.tuple #[.int .i64 zZ, .slice (some ⟨b4, 0, none⟩) 0 0, .bool false])) (show 0 = (rrN text) from by first | exact (rr_no (rr_long ‹_›)).1 | exact (rr_no (rr_long ‹_›)).2.1 | exact (rr_no (rr_long ‹_›)).2.2 | exact (rr_no (rr_two Q0 hx2 (by omega) Q1 (by omega))).1 | exact (rr_no (rr_two Q0 hx2 (by omega) Q1 (by omega))).2.1 | exact (rr_no (rr_two Q0 hx2 (by omega) Q1 (by omega))).2.2 | exact (rr_no (rr_num hx1 (nt ‹_›))).1 | exact (rr_no (rr_num hx1 (nt ‹_›))).2.1 | exact (rr_no (rr_num hx1 (nt ‹_›))).2.2 | exact (rr_no (rr_none (decN_at hx1) (decC_allS Q0 hk_1 (by omega)) ‹_›)).1 | exact (rr_no (rr_none (decN_at hx1) (decC_allS Q0 hk_1 (by omega)) ‹_›)).2.1 | exact (rr_no (rr_none (decN_at hx1) (decC_allS Q0 hk_1 (by omega)) ‹_›)).2.2 | exact (rr_no (rr_diff (decN_at hx1) (decC_allS Q0 hk_1 (by omega)) ‹_›)).1 | exact (rr_no (rr_diff (decN_at hx1) (decC_allS Q0 hk_1 (by omega)) ‹_›)).2.1 | exact (rr_no (rr_diff (decN_at hx1) (decC_allS Q0 hk_1 (by omega)) ‹_›)).2.2 | exact (rr_yes3 (decN_at hx1) (decC_allS Q0 hk_1 (by omega)) ‹_› ‹_› (Classical.not_not.1 ‹_›)).1 | exact (rr_yes3 (decN_at hx1) (decC_allS Q0 hk_1 (by omega)) ‹_› ‹_› (Classical.not_not.1 ‹_›)).2.1 | exact (rr_yes3 (decN_at hx1) (decC_allS Q0 hk_1 (by omega)) ‹_› ‹_› (Classical.not_not.1 ‹_›)).2.2)).trans (congrArg (fun zZ => Ending.returned (.tuple #[.int .i64 (rrN text), .slice (some ⟨b4, 0, none⟩) 0 0, .bool zZ])) (show false = (rrB text) from by first | exact (rr_no (rr_long ‹_›)).1 | exact (rr_no (rr_long ‹_›)).2.1 | exact (rr_no (rr_long ‹_›)).2.2 | exact (rr_no (rr_two Q0 hx2 (by omega) Q1 (by omega))).1 | exact (rr_no (rr_two Q0 hx2 (by omega) Q1 (by omega))).2.1 | exact (rr_no (rr_two Q0 hx2 (by omega) Q1 (by omega))).2.2 | exact (rr_no (rr_num hx1 (nt ‹_›))).1 | exact (rr_no (rr_num hx1 (nt ‹_›))).2.1 | exact (rr_no (rr_num hx1 (nt ‹_›))).2.2 | exact (rr_no (rr_none (decN_at hx1) (decC_allS Q0 hk_1 (by omega)) ‹_›)).1 | exact (rr_no (rr_none (decN_at hx1) (decC_allS Q0 hk_1 (by omega)) ‹_›)).2.1 | exact (rr_no (rr_none (decN_at hx1) (decC_allS Q0 hk_1 (by omega)) ‹_›)).2.2 | exact (rr_no (rr_diff (decN_at hx1) (decC_allS Q0 hk_1 (by omega)) ‹_›)).1 | exact (rr_no (rr_diff (decN_at hx1) (decC_allS Q0 hk_1 (by omega)) ‹_›)).2.1 | exact (rr_no (rr_diff (decN_at hx1) (decC_allS Q0 hk_1 (by omega)) ‹_›)).2.2 | exact (rr_yes3 (decN_at hx1) (decC_allS Q0 hk_1 (by omega)) ‹_› ‹_› (Classical.not_not.1 ‹_›)).1 | exact (rr_yes3 (decN_at hx1) (decC_allS Q0 hk_1 (by omega)) ‹_› ‹_› (Classical.not_not.1 ‹_›)).2.1 | exact (rr_yes3 (decN_at hx1) (decC_allS Q0 hk_1 (by omega)) ‹_› ‹_› (Classical.not_not.1 ‹_›)).2.2))), (Mv.cast (Mv.pick (S4.trans (S16.trans (S23.trans (T33.trans (S35.trans S97))))) [2] rfl) (by rw [← (show ([] : List CellD) = (rrC text) from by first | exact (rr_no (rr_long ‹_›)).1 | exact (rr_no (rr_long ‹_›)).2.1 | exact (rr_no (rr_long ‹_›)).2.2 | exact (rr_no (rr_two Q0 hx2 (by omega) Q1 (by omega))).1 | exact (rr_no (rr_two Q0 hx2 (by omega) Q1 (by omega))).2.1 | exact (rr_no (rr_two Q0 hx2 (by omega) Q1 (by omega))).2.2 | exact (rr_no (rr_num hx1 (nt ‹_›))).1 | exact (rr_no (rr_num hx1 (nt ‹_›))).2.1 | exact (rr_no (rr_num hx1 (nt ‹_›))).2.2 | exact (rr_no (rr_none (decN_at hx1) (decC_allS Q0 hk_1 (by omega)) ‹_›)).1 | exact (rr_no (rr_none (decN_at hx1) (decC_allS Q0 hk_1 (by omega)) ‹_›)).2.1 | exact (rr_no (rr_none (decN_at hx1) (decC_allS Q0 hk_1 (by omega)) ‹_›)).2.2 | exact (rr_no (rr_diff (decN_at hx1) (decC_allS Q0 hk_1 (by omega)) ‹_›)).1 | exact (rr_no (rr_diff (decN_at hx1) (decC_allS Q0 hk_1 (by omega)) ‹_›)).2.1 | exact (rr_no (rr_diff (decN_at hx1) (decC_allS Q0 hk_1 (by omega)) ‹_›)).2.2 | exact (rr_yes3 (decN_at hx1) (decC_allS Q0 hk_1 (by omega)) ‹_› ‹_› (Classical.not_not.1 ‹_›)).1 | exact (rr_yes3 (decN_at hx1) (decC_allS Q0 hk_1 (by omega)) ‹_› ‹_› (Classical.not_not.1 ‹_›)).2.1 | exact (rr_yes3 (decN_at hx1) (decC_allS Q0 hk_1 (by omega)) ‹_› ‹_› (Classical.not_not.1 ‹_›)).2.2)]; all_goals rfl))⟩
           · skip
             refine wp_skip (x_normal (wp_seq (wp_region_lit (l_op (f_mv F132 rfl rfl rfl rfl rfl fun _ F138 => ?_)))))
             refine l_op (f_mv F138 rfl rfl rfl rfl rfl fun _ F139 => ?_)
             refine l_op (f_as F139 rfl rfl rfl rfl rfl fun _ F140 => ?_)
             refine l_op (f_as F140 rfl rfl rfl rfl rfl fun _ F141 => ?_)
             refine l_op (f_val F141 rfl rfl (r_assign rfl rfl) rfl fun _ F142 => ?_)
             refine s_end (x_normal (wp_ret ?_))
             refine x_done (v := .tuple #[.int .i64 ((readN x1 : Nat) : Int), .slice oa on oc, .bool true]) F142 (results_3 Tryz.results90 (.tmp (F142.ev 2 rfl)) (.tmp (F142.ev 3 rfl)) (.tmp (F142.ev 4 rfl))) ?_
             exact ⟨oa, on, oc, ((congrArg (fun zZ => Ending.returned (.tuple #[.int .i64 zZ, .slice oa on oc, .bool true])) (show ((readN x1 : Nat) : Int) = (rrN text) from by first | exact (rr_no (rr_long ‹_›)).1 | exact (rr_no (rr_long ‹_›)).2.1 | exact (rr_no (rr_long ‹_›)).2.2 | exact (rr_no (rr_two Q0 hx2 (by omega) Q1 (by omega))).1 | exact (rr_no (rr_two Q0 hx2 (by omega) Q1 (by omega))).2.1 | exact (rr_no (rr_two Q0 hx2 (by omega) Q1 (by omega))).2.2 | exact (rr_no (rr_num hx1 (nt ‹_›))).1 | exact (rr_no (rr_num hx1 (nt ‹_›))).2.1 | exact (rr_no (rr_num hx1 (nt ‹_›))).2.2 | exact (rr_no (rr_none (decN_at hx1) (decC_allS Q0 hk_1 (by omega)) ‹_›)).1 | exact (rr_no (rr_none (decN_at hx1) (decC_allS Q0 hk_1 (by omega)) ‹_›)).2.1 | exact (rr_no (rr_none (decN_at hx1) (decC_allS Q0 hk_1 (by omega)) ‹_›)).2.2 | exact (rr_no (rr_diff (decN_at hx1) (decC_allS Q0 hk_1 (by omega)) ‹_›)).1 | exact (rr_no (rr_diff (decN_at hx1) (decC_allS Q0 hk_1 (by omega)) ‹_›)).2.1 | exact (rr_no (rr_diff (decN_at hx1) (decC_allS Q0 hk_1 (by omega)) ‹_›)).2.2 | exact (rr_yes3 (decN_at hx1) (decC_allS Q0 hk_1 (by omega)) ‹_› ‹_› (Classical.not_not.1 ‹_›)).1 | exact (rr_yes3 (decN_at hx1) (decC_allS Q0 hk_1 (by omega)) ‹_› ‹_› (Classical.not_not.1 ‹_›)).2.1 | exact (rr_yes3 (decN_at hx1) (decC_allS Q0 hk_1 (by omega)) ‹_› ‹_› (Classical.not_not.1 ‹_›)).2.2)).trans (congrArg (fun zZ => Ending.returned (.tuple #[.int .i64 (rrN text), .slice oa on oc, .bool zZ])) (show true = (rrB text) from by first | exact (rr_no (rr_long ‹_›)).1 | exact (rr_no (rr_long ‹_›)).2.1 | exact (rr_no (rr_long ‹_›)).2.2 | exact (rr_no (rr_two Q0 hx2 (by omega) Q1 (by omega))).1 | exact (rr_no (rr_two Q0 hx2 (by omega) Q1 (by omega))).2.1 | exact (rr_no (rr_two Q0 hx2 (by omega) Q1 (by omega))).2.2 | exact (rr_no (rr_num hx1 (nt ‹_›))).1 | exact (rr_no (rr_num hx1 (nt ‹_›))).2.1 | exact (rr_no (rr_num hx1 (nt ‹_›))).2.2 | exact (rr_no (rr_none (decN_at hx1) (decC_allS Q0 hk_1 (by omega)) ‹_›)).1 | exact (rr_no (rr_none (decN_at hx1) (decC_allS Q0 hk_1 (by omega)) ‹_›)).2.1 | exact (rr_no (rr_none (decN_at hx1) (decC_allS Q0 hk_1 (by omega)) ‹_›)).2.2 | exact (rr_no (rr_diff (decN_at hx1) (decC_allS Q0 hk_1 (by omega)) ‹_›)).1 | exact (rr_no (rr_diff (decN_at hx1) (decC_allS Q0 hk_1 (by omega)) ‹_›)).2.1 | exact (rr_no (rr_diff (decN_at hx1) (decC_allS Q0 hk_1 (by omega)) ‹_›)).2.2 | exact (rr_yes3 (decN_at hx1) (decC_allS Q0 hk_1 (by omega)) ‹_› ‹_› (Classical.not_not.1 ‹_›)).1 | exact (rr_yes3 (decN_at hx1) (decC_allS Q0 hk_1 (by omega)) ‹_› ‹_› (Classical.not_not.1 ‹_›)).2.1 | exact (rr_yes3 (decN_at hx1) (decC_allS Q0 hk_1 (by omega)) ‹_› ‹_› (Classical.not_not.1 ‹_›)).2.2))), (Mv.cast (Mv.pick (S4.trans (S16.trans (S23.trans (T33.trans (S35.trans S97))))) [0] rfl) (by rw [← (show D = (rrC text) from by first | exact (rr_no (rr_long ‹_›)).1 | exact (rr_no (rr_long ‹_›)).2.1 | exact (rr_no (rr_long ‹_›)).2.2 | exact (rr_no (rr_two Q0 hx2 (by omega) Q1 (by omega))).1 | exact (rr_no (rr_two Q0 hx2 (by omega) Q1 (by omega))).2.1 | exact (rr_no (rr_two Q0 hx2 (by omega) Q1 (by omega))).2.2 | exact (rr_no (rr_num hx1 (nt ‹_›))).1 | exact (rr_no (rr_num hx1 (nt ‹_›))).2.1 | exact (rr_no (rr_num hx1 (nt ‹_›))).2.2 | exact (rr_no (rr_none (decN_at hx1) (decC_allS Q0 hk_1 (by omega)) ‹_›)).1 | exact (rr_no (rr_none (decN_at hx1) (decC_allS Q0 hk_1 (by omega)) ‹_›)).2.1 | exact (rr_no (rr_none (decN_at hx1) (decC_allS Q0 hk_1 (by omega)) ‹_›)).2.2 | exact (rr_no (rr_diff (decN_at hx1) (decC_allS Q0 hk_1 (by omega)) ‹_›)).1 | exact (rr_no (rr_diff (decN_at hx1) (decC_allS Q0 hk_1 (by omega)) ‹_›)).2.1 | exact (rr_no (rr_diff (decN_at hx1) (decC_allS Q0 hk_1 (by omega)) ‹_›)).2.2 | exact (rr_yes3 (decN_at hx1) (decC_allS Q0 hk_1 (by omega)) ‹_› ‹_› (Classical.not_not.1 ‹_›)).1 | exact (rr_yes3 (decN_at hx1) (decC_allS Q0 hk_1 (by omega)) ‹_› ‹_› (Classical.not_not.1 ‹_›)).2.1 | exact (rr_yes3 (decN_at hx1) (decC_allS Q0 hk_1 (by omega)) ‹_› ‹_› (Classical.not_not.1 ‹_›)).2.2)]; all_goals rfl))⟩
end Go.Proofs.YtipdbeklopjbmaaGreatDoor
