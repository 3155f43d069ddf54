/-
  Texts laid together: GenRd, DatVa, GenSb, DatVg, GenSl, GenRe.
-/
import Derived.Test.YtipdbeklopjbmaaGreatDoorP18
import Derived.Test.YtipdbeklopjbmaaGreatDoorP09
import Derived.Test.YtipdbeklopjbmaaGreatDoorP06
import Derived.Test.YtipdbeklopjbmaaGreatDoorP15
import Derived.Test.YtipdbeklopjbmaaGreatDoorGenH
import Derived.Test.YtipdbeklopjbmaaGreatDoorP16
import Derived.Test.YtipdbeklopjbmaaGreatDoorP10
/-
  Walks: the text of a record.
-/

namespace Go.Proofs.YtipdbeklopjbmaaGreatDoor
open Go.ChangeShapes Go.WideShapes Go.ChangeAt Go.RowKit
set_option maxRecDepth 100000
set_option maxHeartbeats 1000000
theorem spec_RecordText_c {w : World} {H : Nat → Prop} {seq : Int} {list : List CellD} {Q1 : Option Addr} {Q0 Q2 : Nat} (Q4 : i64ok seq) (Q5 : Rd 2 encC okC H w (.slice Q1 Q0 Q2) list) (p0 : list.length ≤ 4294967280) :
    Calls Tryz.prog 107 #[.int .i64 seq, .slice Q1 Q0 Q2] w fun e w' => e = .returned (.string (recT seq list)) ∧ Mv [] w [] w' ∧ okS (recT seq list) := by
 have uU : True := (fun _ => trivial) p0
 clear uU
 have hds := decS_size seq Q4
 have Q3 : Rd 2 encC okC (V H w []) w (.slice Q1 Q0 Q2) list := Rd.start Q5 (fun _ _ => fps_nil _)
 obtain ⟨Q8, Q7, Q12, Q13⟩ := Rd.inv Q5
 refine calls_enter 85 Tryz.func107 rfl Tryz.ntmps107 (Nat.le_of_ble_eq_true rfl) (fun _ F0i => ?_)
 have F0 : Fr 85 [(0, .int .i64 seq), (1, .slice Q1 Q0 Q2)] _ := F0i
 clear F0i
 refine wp_seq (wp_region_lit (l_op (f_val F0 rfl rfl (r_assign rfl rfl) rfl fun _ F1 => ?_)))
 refine s_end (x_normal (wp_seq (wp_seq (wp_region_lit (l_op (f_mv F1 rfl rfl rfl rfl rfl fun _ F2 => ?_))))))
 refine l_op (f_call F2 CF_87 rfl rfl rfl rfl (lc (F2.ev 12 rfl) (lc rfl (lc rfl rfl))) (spec_l01In_c (H := fun _ => True) (x := seq) (least := 1) (most := 100000) Q4 (by first | assumption | exact ⟨by omega, by omega⟩ | (unfold i64ok at *; omega)) (by first | assumption | exact ⟨by omega, by omega⟩ | (unfold i64ok at *; omega))) ?_)
 rintro _ w3 ⟨rfl, m3⟩
 refine ⟨_, rfl, fun _ F4 => ?_⟩
 have S3 := At.frame0 (At.nil w) m3
 clear m3
 refine l_op (f_val F4 rfl rfl (r_not rfl (F4.ev 13 rfl)) rfl fun _ F5 => ?_)
 refine s_end (x_normal (x_condb (b := (!(inB seq 1 100000))) (F5.ev 14 rfl) (fun h6 => ?_) (fun h6 => ?_)))
 · skip
   refine wp_seq (wp_region_lit (l_op (f_val F5 rfl rfl (r_assign rfl rfl) rfl fun _ F7 => ?_)))
   refine s_end (x_normal (wp_ret (x_then_ret ?_)))
   refine x_done (v := .string bE_) F7 (results_1 Tryz.results107 (.tmp (F7.ev 4 rfl))) ?_
   exact ⟨(by rw [(show bE_ = (recT seq list) from by first | exact recT_no (nt ‹_›) | exact recT_bad hx1 (cellB_1 ‹_›) | exact recT_bad hx1 (cellB_2 ‹_›) | exact recT_long (congrArg List.length hk_1) (by omega) | exact recT_end (by rw [← rec_s hk_1 (by omega)]; assumption) | (rw [rec_s hk_1 (by omega)]; exact recT_yes (nf ‹_›) (fun j hj => hk_2 j (by omega)) (by rw [← rec_s hk_1 (by omega)]; assumption)))]), (Mv.pick S3 [] rfl), ((show bE_ = (recT seq list) from by first | exact recT_no (nt ‹_›) | exact recT_bad hx1 (cellB_1 ‹_›) | exact recT_bad hx1 (cellB_2 ‹_›) | exact recT_long (congrArg List.length hk_1) (by omega) | exact recT_end (by rw [← rec_s hk_1 (by omega)]; assumption) | (rw [rec_s hk_1 (by omega)]; exact recT_yes (nf ‹_›) (fun j hj => hk_2 j (by omega)) (by rw [← rec_s hk_1 (by omega)]; assumption))) ▸ (by unfold okS; decide))⟩
 · skip
   refine wp_skip (x_normal (wp_seq (wp_region_lit (l_op (f_mv F5 rfl rfl rfl rfl rfl fun _ F8 => ?_)))))
   refine l_op (f_call F8 CF_144 rfl rfl rfl rfl (lc (F8.ev 15 rfl) rfl) (spec_Decimal_c (H := fun _ => True) (n := seq) Q4) ?_)
   rintro _ w9 ⟨rfl, m9, Q19⟩
   refine ⟨_, rfl, fun _ F10 => ?_⟩
   have S9 := At.frame0 S3.at' m9
   clear m9
   refine l_op (f_sbytesX F10 S9.at' Tryz.underlying9 Tryz.underlying62 Tryz.underlying5 rfl rfl rfl rfl (F10.ev 16 rfl) (by first | assumption | omega) fun b11 N11 C11 _ w11 F12 S11 l11 => ?_)
   refine l_op (f_as F12 rfl rfl rfl rfl rfl fun _ F13 => ?_)
   refine s_end (x_normal (wp_seq (wp_seq (wp_region_lit (l_op (f_val F13 rfl rfl (r_assign rfl rfl) rfl fun _ F14 => ?_))))))
   refine s_end (x_normal (wp_block ?_))
   refine x_loop (fun (k : Nat) aZ wZ => ∃ (D : List Nat), ∃ (oa : Option Addr), ∃ (on : Nat), ∃ (oc : Nat), Fr 85 [(6, .int .i64 ((k : Nat) : Int)), (5, .slice oa on oc), (1, .slice Q1 Q0 Q2)] aZ ∧ Mv [owX 5 (.slice (some ⟨b11, 0, none⟩) N11 C11) (bytesN (decS seq))] w11 [owX 5 (.slice oa on oc) D] wZ ∧ (k ≤ Q0) ∧ (D = recN seq (list.take k)) ∧ (∀ j, j < k → ∀ c, nth list j = some c → cellB c = true) ∧ (D.length ≤ 4300)) (fun (k : Nat) => Q0 - k) (0) ?_ ?_
   · exact ⟨bytesN (decS seq), (some ⟨b11, 0, none⟩), N11, C11, F14.cut rfl, (Mv.refl S11.at'), by omega, by unfold recN; rw [List.take_zero, List.flatMap_nil, List.append_nil], fun j hj => by omega, by rw [bytesN_length]; omega⟩
   · rintro k a15 w15 ⟨D, oa, on, oc, F15, S15, hk_0, hk_1, hk_2, hk_3⟩
     obtain ⟨Q9, Q10, Q11⟩ := At.ownInvX S15.at' 0 rfl
     refine wp_seq (wp_seq (wp_region_lit (l_op (f_mv F15 rfl rfl rfl rfl rfl fun _ F16 => ?_))))
     refine l_op (f_mv F16 rfl rfl rfl rfl rfl fun _ F17 => ?_)
     refine l_op (f_val F17 rfl rfl (r_len Tryz.underlying28 rfl (F17.ev 19 rfl)) rfl fun _ F18 => ?_)
     refine l_op (f_val F18 rfl rfl (r_cmp (b := decide (k < Q0)) (.inr (.inr (.inl rfl))) rfl (F18.ev 18 rfl) (F18.ev 20 rfl) (dec_of (by omega))) rfl fun _ F19 => ?_)
     refine s_end (x_normal (x_cond (p := k < Q0) (F19.ev 21 rfl) (fun h20 => ?_) (fun h20 => ?_)))
     · skip
       refine wp_skip (x_normal (wp_seq (wp_block (wp_seq (wp_seq (wp_region_lit (l_op (f_mv F19 rfl rfl rfl rfl rfl fun _ F21 => ?_))))))))
       refine l_op (f_mv F21 rfl rfl rfl rfl rfl fun _ F22 => ?_)
       obtain ⟨B23, O23, x1, ad23, hx1, okx1, ln23, cl23⟩ := Rd.at (Rd.mq Q3 (S3.trans (S9.trans (S11.trans S15)))) k (by first | assumption | omega)
       clear ln23
       refine l_op (f_val F22 rfl rfl (r_indexAddr (i := k) ET_28 rfl ((F22.ev 24 rfl).trans (by rw [ad23])) (F22.ev 25 rfl) (by omega) (by first | assumption | omega)) rfl fun _ F24 => ?_)
       refine l_op (f_val F24 rfl rfl (r_field FI_91_0 rfl (F24.ev 26 rfl) rfl) rfl fun _ F25 => ?_)
       refine l_op (f_val (v := .string x1.key) F25 rfl rfl (r_load (cs := [.string x1.key]) TI_9 rfl (F25.ev 27 rfl) rfl (fun _ => rfl) (elem_sub (f := 0) cl23 [.string x1.key] rfl)) rfl fun _ F26 => ?_)
       refine l_op (f_call F26 CF_132 rfl rfl rfl rfl (lc (F26.ev 28 rfl) rfl) (spec_KeyOk_c (H := fun _ => True) (key := x1.key) okx1.1) ?_)
       rintro _ w27 ⟨rfl, m27⟩
       refine ⟨_, rfl, fun _ F28 => ?_⟩
       have S27 := At.frame0 S15.at' m27
       clear m27
       refine l_op (f_val F28 rfl rfl (r_not rfl (F28.ev 29 rfl)) rfl fun _ F29 => ?_)
       refine l_op (f_mv F29 rfl rfl rfl rfl rfl fun _ F30 => ?_)
       rcases Bool.eq_false_or_eq_true (!(keyOk x1.key)) with h31 | h31
       · rw [h31] at F30
         refine l_op (f_skip F30 (wanted_g F30 rfl rfl rfl rfl) rfl rfl fun _ F32 => ?_)
         refine l_op (f_skip F32 (wanted_g F32 rfl rfl rfl rfl) rfl rfl fun _ F33 => ?_)
         refine l_op (f_skip F33 (wanted_g F33 rfl rfl rfl rfl) rfl rfl fun _ F34 => ?_)
         refine l_op (f_skip F34 (wanted_g F34 rfl rfl rfl rfl) rfl rfl fun _ F35 => ?_)
         refine l_op (f_skip F35 (wanted_g F35 rfl rfl rfl rfl) rfl rfl fun _ F36 => ?_)
         refine l_op (f_skip F36 (wanted_g F36 rfl rfl rfl rfl) rfl rfl fun _ F37 => ?_)
         refine l_op (f_skip F37 (wanted_g F37 rfl rfl rfl rfl) rfl rfl fun _ F38 => ?_)
         refine l_op (f_val F38 rfl rfl (r_pick (b := true) rfl (F38.ev 31 rfl) rfl) rfl fun _ F39 => ?_)
         refine l_op (f_mv F39 rfl rfl rfl rfl rfl fun _ F40 => ?_)
         refine l_op (f_skip F40 (wanted_g F40 rfl rfl rfl rfl) rfl rfl fun _ F41 => ?_)
         refine l_op (f_skip F41 (wanted_g F41 rfl rfl rfl rfl) rfl rfl fun _ F42 => ?_)
         refine l_op (f_skip F42 (wanted_g F42 rfl rfl rfl rfl) rfl rfl fun _ F43 => ?_)
         refine l_op (f_val F43 rfl rfl (r_pick (b := true) rfl (F43.ev 40 rfl) rfl) rfl fun _ F44 => ?_)
         have T45 : Mv _ _ [owX 5 (.slice oa on oc) D] _ := S27
         refine s_end (x_normal (wp_cond_true (F44.ev 44 rfl) (wp_seq (wp_region_lit (l_op (f_val F44 rfl rfl (r_assign rfl rfl) rfl fun _ F46 => ?_))))))
         refine s_end (x_normal (wp_ret (x_then_ret (x_block_ret (x_then_ret (x_then_ret (x_block_ret (x_then_ret ?_))))))))
         refine x_done (v := .string bE_) F46 (results_1 Tryz.results107 (.tmp (F46.ev 4 rfl))) ?_
         exact ⟨(by rw [(show bE_ = (recT seq list) from by first | exact recT_no (nt ‹_›) | exact recT_bad hx1 (cellB_1 ‹_›) | exact recT_bad hx1 (cellB_2 ‹_›) | exact recT_long (congrArg List.length hk_1) (by omega) | exact recT_end (by rw [← rec_s hk_1 (by omega)]; assumption) | (rw [rec_s hk_1 (by omega)]; exact recT_yes (nf ‹_›) (fun j hj => hk_2 j (by omega)) (by rw [← rec_s hk_1 (by omega)]; assumption)))]), (Mv.pick (S3.trans (S9.trans (S11.trans (S15.trans T45)))) [] rfl), ((show bE_ = (recT seq list) from by first | exact recT_no (nt ‹_›) | exact recT_bad hx1 (cellB_1 ‹_›) | exact recT_bad hx1 (cellB_2 ‹_›) | exact recT_long (congrArg List.length hk_1) (by omega) | exact recT_end (by rw [← rec_s hk_1 (by omega)]; assumption) | (rw [rec_s hk_1 (by omega)]; exact recT_yes (nf ‹_›) (fun j hj => hk_2 j (by omega)) (by rw [← rec_s hk_1 (by omega)]; assumption))) ▸ (by unfold okS; decide))⟩
       · rw [h31] at F30
         refine l_op (f_mv F30 (wanted_g F30 rfl rfl rfl rfl) rfl rfl rfl rfl fun _ F47 => ?_)
         refine l_op (f_mv F47 (wanted_g F47 rfl rfl rfl rfl) rfl rfl rfl rfl fun _ F48 => ?_)
         obtain ⟨B49, O49, y49, ad49, hy49, oky49, ln49, cl49⟩ := Rd.at (Rd.mq Q3 (S3.trans (S9.trans (S11.trans (S15.trans S27))))) k (by first | assumption | omega)
         clear ln49
         obtain rfl := Option.some.inj (hx1.symm.trans hy49)
         clear hy49 oky49
         refine l_op (f_val F48 (wanted_g F48 rfl rfl rfl rfl) rfl (r_indexAddr (i := k) ET_28 rfl ((F48.ev 32 rfl).trans (by rw [ad49])) (F48.ev 33 rfl) (by omega) (by first | assumption | omega)) rfl fun _ F50 => ?_)
         refine l_op (f_val F50 (wanted_g F50 rfl rfl rfl rfl) rfl (r_field FI_91_1 rfl (F50.ev 34 rfl) rfl) rfl fun _ F51 => ?_)
         refine l_op (f_val (v := .string x1.val) F51 (wanted_g F51 rfl rfl rfl rfl) rfl (r_load (cs := [.string x1.val]) TI_9 rfl (F51.ev 35 rfl) rfl (fun _ => rfl) (elem_sub (f := 1) cl49 [.string x1.val] rfl)) rfl fun _ F52 => ?_)
         refine l_op (f_val F52 (wanted_g F52 rfl rfl rfl rfl) rfl (r_lenS (fun t ht => by cases ht; exact Tryz.underlying9) rfl rfl (F52.ev 36 rfl)) rfl fun _ F53 => ?_)
         refine l_op (f_val F53 (wanted_g F53 rfl rfl rfl rfl) rfl (r_cmp (b := decide (x1.val.size > 60)) (.inr (.inr (.inr (.inr (.inl rfl))))) rfl (F53.ev 37 rfl) rfl (dec_of (by omega))) rfl fun _ F54 => ?_)
         refine l_op (f_val F54 rfl rfl (r_pick (b := false) rfl (F54.ev 31 rfl) (F54.ev 38 rfl)) rfl fun _ F55 => ?_)
         refine l_op (f_mv F55 rfl rfl rfl rfl rfl fun _ F56 => ?_)
         rcases Decidable.em (x1.val.size > 60) with h57 | h57
         · rw [decide_eq_true h57] at F56
           refine l_op (f_skip F56 (wanted_g F56 rfl rfl rfl rfl) rfl rfl fun _ F58 => ?_)
           refine l_op (f_skip F58 (wanted_g F58 rfl rfl rfl rfl) rfl rfl fun _ F59 => ?_)
           refine l_op (f_skip F59 (wanted_g F59 rfl rfl rfl rfl) rfl rfl fun _ F60 => ?_)
           refine l_op (f_val F60 rfl rfl (r_pick (b := true) rfl (F60.ev 40 rfl) rfl) rfl fun _ F61 => ?_)
           have T62 : Mv _ _ [owX 5 (.slice oa on oc) D] _ := S27
           refine s_end (x_normal (wp_cond_true (F61.ev 44 rfl) (wp_seq (wp_region_lit (l_op (f_val F61 rfl rfl (r_assign rfl rfl) rfl fun _ F63 => ?_))))))
           refine s_end (x_normal (wp_ret (x_then_ret (x_block_ret (x_then_ret (x_then_ret (x_block_ret (x_then_ret ?_))))))))
           refine x_done (v := .string bE_) F63 (results_1 Tryz.results107 (.tmp (F63.ev 4 rfl))) ?_
           exact ⟨(by rw [(show bE_ = (recT seq list) from by first | exact recT_no (nt ‹_›) | exact recT_bad hx1 (cellB_1 ‹_›) | exact recT_bad hx1 (cellB_2 ‹_›) | exact recT_long (congrArg List.length hk_1) (by omega) | exact recT_end (by rw [← rec_s hk_1 (by omega)]; assumption) | (rw [rec_s hk_1 (by omega)]; exact recT_yes (nf ‹_›) (fun j hj => hk_2 j (by omega)) (by rw [← rec_s hk_1 (by omega)]; assumption)))]), (Mv.pick (S3.trans (S9.trans (S11.trans (S15.trans T62)))) [] rfl), ((show bE_ = (recT seq list) from by first | exact recT_no (nt ‹_›) | exact recT_bad hx1 (cellB_1 ‹_›) | exact recT_bad hx1 (cellB_2 ‹_›) | exact recT_long (congrArg List.length hk_1) (by omega) | exact recT_end (by rw [← rec_s hk_1 (by omega)]; assumption) | (rw [rec_s hk_1 (by omega)]; exact recT_yes (nf ‹_›) (fun j hj => hk_2 j (by omega)) (by rw [← rec_s hk_1 (by omega)]; assumption))) ▸ (by unfold okS; decide))⟩
         · rw [decide_eq_false h57] at F56
           refine l_op (f_mv F56 (wanted_g F56 rfl rfl rfl rfl) rfl rfl rfl rfl fun _ F64 => ?_)
           refine l_op (f_val F64 (wanted_g F64 rfl rfl rfl rfl) rfl (r_len Tryz.underlying62 rfl (F64.ev 41 rfl)) rfl fun _ F65 => ?_)
           refine l_op (f_val F65 (wanted_g F65 rfl rfl rfl rfl) rfl (r_cmp (b := decide (on > 4000)) (.inr (.inr (.inr (.inr (.inl rfl))))) rfl (F65.ev 42 rfl) rfl (dec_of (by omega))) rfl fun _ F66 => ?_)
           refine l_op (f_val F66 rfl rfl (r_pick (b := false) rfl (F66.ev 40 rfl) (F66.ev 43 rfl)) rfl fun _ F67 => ?_)
           have T68 : Mv _ _ [owX 5 (.slice oa on oc) D] _ := S27
           refine s_end (x_normal (x_cond (p := on > 4000) (F67.ev 44 rfl) (fun h69 => ?_) (fun h69 => ?_)))
           · skip
             refine wp_seq (wp_region_lit (l_op (f_val F67 rfl rfl (r_assign rfl rfl) rfl fun _ F70 => ?_)))
             refine s_end (x_normal (wp_ret (x_then_ret (x_block_ret (x_then_ret (x_then_ret (x_block_ret (x_then_ret ?_))))))))
             refine x_done (v := .string bE_) F70 (results_1 Tryz.results107 (.tmp (F70.ev 4 rfl))) ?_
             exact ⟨(by rw [(show bE_ = (recT seq list) from by first | exact recT_no (nt ‹_›) | exact recT_bad hx1 (cellB_1 ‹_›) | exact recT_bad hx1 (cellB_2 ‹_›) | exact recT_long (congrArg List.length hk_1) (by omega) | exact recT_end (by rw [← rec_s hk_1 (by omega)]; assumption) | (rw [rec_s hk_1 (by omega)]; exact recT_yes (nf ‹_›) (fun j hj => hk_2 j (by omega)) (by rw [← rec_s hk_1 (by omega)]; assumption)))]), (Mv.pick (S3.trans (S9.trans (S11.trans (S15.trans T68)))) [] rfl), ((show bE_ = (recT seq list) from by first | exact recT_no (nt ‹_›) | exact recT_bad hx1 (cellB_1 ‹_›) | exact recT_bad hx1 (cellB_2 ‹_›) | exact recT_long (congrArg List.length hk_1) (by omega) | exact recT_end (by rw [← rec_s hk_1 (by omega)]; assumption) | (rw [rec_s hk_1 (by omega)]; exact recT_yes (nf ‹_›) (fun j hj => hk_2 j (by omega)) (by rw [← rec_s hk_1 (by omega)]; assumption))) ▸ (by unfold okS; decide))⟩
           · skip
             refine wp_skip (x_normal (wp_seq ?_))
             have hs1 := keyOk_size (nf ‹_›)
             have hs2 := hexS_size x1.key
             have hs3 := hexS_size x1.val
             refine wp_region_lit (l_op (f_mv F67 rfl rfl rfl rfl rfl fun _ F71 => ?_))
             refine l_op (f_mv F71 rfl rfl rfl rfl rfl fun _ F72 => ?_)
             obtain ⟨B73, O73, y73, ad73, hy73, oky73, ln73, cl73⟩ := Rd.at (Rd.mq Q3 (S3.trans (S9.trans (S11.trans (S15.trans T68))))) k (by first | assumption | omega)
             clear ln73
             obtain rfl := Option.some.inj (hx1.symm.trans hy73)
             clear hy73 oky73
             refine l_op (f_val F72 rfl rfl (r_indexAddr (i := k) ET_28 rfl ((F72.ev 46 rfl).trans (by rw [ad73])) (F72.ev 47 rfl) (by omega) (by first | assumption | omega)) rfl fun _ F74 => ?_)
             refine l_op (f_val F74 rfl rfl (r_field FI_91_0 rfl (F74.ev 48 rfl) rfl) rfl fun _ F75 => ?_)
             refine l_op (f_val (v := .string x1.key) F75 rfl rfl (r_load (cs := [.string x1.key]) TI_9 rfl (F75.ev 49 rfl) rfl (fun _ => rfl) (elem_sub (f := 0) cl73 [.string x1.key] rfl)) rfl fun _ F76 => ?_)
             refine l_op (f_call F76 CF_145 rfl rfl rfl rfl (lc (F76.ev 50 rfl) rfl) (spec_Hex_c (H := fun _ => True) (text := x1.key) okx1.1 (by first | assumption | omega | (simp <;> omega))) ?_)
             rintro _ w77 ⟨rfl, m77, Q18⟩
             refine ⟨_, rfl, fun _ F78 => ?_⟩
             have S77 := At.frame0 T68.at' m77
             clear m77
             refine l_op (f_mv F78 rfl rfl rfl rfl rfl fun _ F79 => ?_)
             refine l_op (f_val (v := .string (hexS x1.key)) F79 rfl rfl (r_extract rfl (F79.ev 45 rfl) rfl) rfl fun _ F80 => ?_)
             refine l_op (f_val (v := .bool true) F80 rfl rfl (r_extract rfl (F80.ev 45 rfl) rfl) rfl fun _ F81 => ?_)
             refine l_op (f_as F81 rfl rfl rfl rfl rfl fun _ F82 => ?_)
             refine l_op (f_as F82 rfl rfl rfl rfl rfl fun _ F83 => ?_)
             refine s_end (x_normal (wp_seq (wp_region_lit (l_op (f_mv F83 rfl rfl rfl rfl rfl fun _ F84 => ?_)))))
             refine l_op (f_mv F84 rfl rfl rfl rfl rfl fun _ F85 => ?_)
             obtain ⟨B86, O86, y86, ad86, hy86, oky86, ln86, cl86⟩ := Rd.at (Rd.mq Q3 (S3.trans (S9.trans (S11.trans (S15.trans (T68.trans S77)))))) k (by first | assumption | omega)
             clear ln86
             obtain rfl := Option.some.inj (hx1.symm.trans hy86)
             clear hy86 oky86
             refine l_op (f_val F85 rfl rfl (r_indexAddr (i := k) ET_28 rfl ((F85.ev 55 rfl).trans (by rw [ad86])) (F85.ev 56 rfl) (by omega) (by first | assumption | omega)) rfl fun _ F87 => ?_)
             refine l_op (f_val F87 rfl rfl (r_field FI_91_1 rfl (F87.ev 57 rfl) rfl) rfl fun _ F88 => ?_)
             refine l_op (f_val (v := .string x1.val) F88 rfl rfl (r_load (cs := [.string x1.val]) TI_9 rfl (F88.ev 58 rfl) rfl (fun _ => rfl) (elem_sub (f := 1) cl86 [.string x1.val] rfl)) rfl fun _ F89 => ?_)
             refine l_op (f_call F89 CF_145 rfl rfl rfl rfl (lc (F89.ev 59 rfl) rfl) (spec_Hex_c (H := fun _ => True) (text := x1.val) okx1.2 (by first | assumption | omega | (simp <;> omega))) ?_)
             rintro _ w90 ⟨rfl, m90, Q20⟩
             refine ⟨_, rfl, fun _ F91 => ?_⟩
             have S90 := At.frame0 S77.at' m90
             clear m90
             refine l_op (f_mv F91 rfl rfl rfl rfl rfl fun _ F92 => ?_)
             refine l_op (f_val (v := .string (hexS x1.val)) F92 rfl rfl (r_extract rfl (F92.ev 54 rfl) rfl) rfl fun _ F93 => ?_)
             refine l_op (f_val (v := .bool true) F93 rfl rfl (r_extract rfl (F93.ev 54 rfl) rfl) rfl fun _ F94 => ?_)
             refine l_op (f_as F94 rfl rfl rfl rfl rfl fun _ F95 => ?_)
             refine l_op (f_as F95 rfl rfl rfl rfl rfl fun _ F96 => ?_)
             have F97 : Fr 85 [(10, .bool true), (9, .string (hexS x1.val)), (7, .string (hexS x1.key)), (6, .int .i64 ((k : Nat) : Int)), (5, .slice oa on oc), (1, .slice Q1 Q0 Q2)] _ := F96.cut rfl
             clear F15 F16 F17 F18 F19 F21 F22 F24 F25 F26 F28 F29 F30 F47 F48 F50 F51 F52 F53 F54 F55 F56 F64 F65 F66 F67 F71 F72 F74 F75 F76 F78 F79 F80 F81 F82 F83 F84 F85 F87 F88 F89 F91 F92 F93 F94 F95 F96
             refine s_end (x_normal (wp_region_lit (l_op (f_mv F97 rfl rfl rfl rfl rfl fun _ F98 => ?_))))
             refine l_op (f_buildSl (ok := okB) (vs := [.int .u8 32]) F98 S90.at' ([32]) ET_62 rfl rfl rfl rfl rfl rfl (lc (pr2 rfl) rfl) rfl rfl (fun x hx => (List.mem_singleton.1 hx) ▸ (show 32 < 256 by omega)) fun b99 _ w99 F100 S99 => ?_)
             refine l_op (f_appX (news := [32]) F100 S99.at' 1 ET_62 rfl rfl rfl rfl rfl rfl (F100.ev 63 rfl) (F100.ev 64 rfl) ((At.rd S99.at' ET_62.hk 0 rfl)).1 (by simp) (by ((repeat (first | rw [List.length_append] | rw [List.length_cons] | rw [List.length_nil] | rw [bytesN_length])) <;> omega)) fun A101 N101 C101 _ w101 F102 S101 l101 => ?_)
             have S103 := At.drop S101.at' 1
             refine l_op (f_mv F102 rfl rfl rfl rfl rfl fun _ F104 => ?_)
             refine l_op (f_appXs (bs := bytesN (hexS x1.key)) F104 S103.at' 0 ET_62 Tryz.underlying9 rfl rfl rfl rfl rfl rfl rfl rfl (F104.ev 65 rfl) (F104.ev 66 rfl) rfl (by ((repeat (first | rw [List.length_append] | rw [List.length_cons] | rw [List.length_nil] | rw [bytesN_length])) <;> omega)) fun A105 N105 C105 _ w105 F106 S105 l105 => ?_)
             refine l_op (f_buildSl (ok := okB) (vs := [.int .u8 61]) F106 S105.at' ([61]) ET_62 rfl rfl rfl rfl rfl rfl (lc (pr2 rfl) rfl) rfl rfl (fun x hx => (List.mem_singleton.1 hx) ▸ (show 61 < 256 by omega)) fun b107 _ w107 F108 S107 => ?_)
             refine l_op (f_appX (news := [61]) F108 S107.at' 1 ET_62 rfl rfl rfl rfl rfl rfl (F108.ev 67 rfl) (F108.ev 68 rfl) ((At.rd S107.at' ET_62.hk 0 rfl)).1 (by simp) (by ((repeat (first | rw [List.length_append] | rw [List.length_cons] | rw [List.length_nil] | rw [bytesN_length])) <;> omega)) fun A109 N109 C109 _ w109 F110 S109 l109 => ?_)
             have S111 := At.drop S109.at' 1
             refine l_op (f_mv F110 rfl rfl rfl rfl rfl fun _ F112 => ?_)
             refine l_op (f_appXs (bs := bytesN (hexS x1.val)) F112 S111.at' 0 ET_62 Tryz.underlying9 rfl rfl rfl rfl rfl rfl rfl rfl (F112.ev 69 rfl) (F112.ev 70 rfl) rfl (by ((repeat (first | rw [List.length_append] | rw [List.length_cons] | rw [List.length_nil] | rw [bytesN_length])) <;> omega)) fun A113 N113 C113 _ w113 F114 S113 l113 => ?_)
             refine l_op (f_as F114 rfl rfl rfl rfl rfl fun _ F115 => ?_)
             have T116 : Mv _ _ [owX 5 (.slice A113 N113 C113) ((((D ++ ([32])) ++ bytesN (hexS x1.key)) ++ ([61])) ++ bytesN (hexS x1.val))] _ := S113
             refine s_end (x_block_normal (x_normal (wp_region_lit (l_op (f_mv F115 rfl rfl rfl rfl rfl fun _ F117 => ?_)))))
             refine l_op (f_val F117 rfl rfl (r_add (z := ((k + 1 : Nat) : Int)) rfl (F117.ev 22 rfl) rfl (by first | rfl | omega) ⟨by first | omega | (unfold i64ok at *; omega), by first | omega | (unfold i64ok at *; omega)⟩) rfl fun _ F118 => ?_)
             refine l_op (f_as F118 rfl rfl rfl rfl rfl fun _ F119 => ?_)
             refine s_end ?_
             refine x_normal ⟨k + 1, by omega, (((D ++ ([32])) ++ bytesN (hexS x1.key)) ++ ([61])) ++ bytesN (hexS x1.val), A113, N113, C113, F119.cut rfl, ((S15.trans (T68.trans (S77.trans (S90.trans (S99.trans (S101.trans (S103.trans (S105.trans (S107.trans (S109.trans (S111.trans T116))))))))))).pick [0] rfl), by omega, rec_step hk_1 hx1, rec_all hk_2 hx1 (cellB_yes ‹_› ‹_›), by (repeat (first | rw [List.length_append] | rw [List.length_cons] | rw [List.length_nil] | rw [bytesN_length])); omega⟩
     · skip
       refine wp_exit (x_then_exit (x_then_exit (x_block_here (x_normal (wp_seq ?_)))))
       have hz3 := bstr_size D
       have hz4 := sumN_lt (l := bytesN (bstr D))
       have hz5 := decS_size ((sumN (bytesN (bstr D)) : Nat) : Int) ⟨by omega, by omega⟩
       have hz6 : (⟨#[32, 35]⟩ : ByteArray).size = 2 := rfl
       have hz7 : (⟨#[10]⟩ : ByteArray).size = 1 := rfl
       refine x_draw (fun aZ wZ => Fr 85 [(11, .string ((((bstr D) ++ (⟨#[32, 35]⟩ : ByteArray)) ++ (decS ((sumN (bytesN (bstr D)) : Nat) : Int))) ++ (⟨#[10]⟩ : ByteArray)))] aZ ∧ Mv [owX 5 (.slice oa on oc) D] w15 [owX 5 (.slice oa on oc) D] wZ ∧ okS ((((bstr D) ++ (⟨#[32, 35]⟩ : ByteArray)) ++ (decS ((sumN (bytesN (bstr D)) : Nat) : Int))) ++ (⟨#[10]⟩ : ByteArray))) [] mixed S15.at' (listed := #[false, false, false, false, false, false, false, false, false, false]) rfl (fun w121 S121 => ?_) [] rfl ?_
       · skip
         refine g_take F19 rfl (i := 0) (listed' := #[true, false, false, false, false, false, false, false, false, false]) rfl (by kernel_rfl) (by kernel_rfl) (by kernel_rfl) (fun _ _ _ h => h) (Sd.of (Mv.refl S121.at') [] rfl) rfl rfl rfl rfl (fun _ hz => (r_move rfl (F19.ev 5 rfl))) fun _ F122 => ?_
         refine g_take F122 rfl (i := 3) (listed' := #[true, false, false, true, false, false, false, false, false, false]) rfl (by kernel_rfl) (by kernel_rfl) (by kernel_rfl) (fun _ _ _ h => h) (Sd.of (Mv.refl S121.at') [] rfl) rfl rfl rfl rfl (fun _ hz => (r_move rfl (F122.ev 5 rfl))) fun _ F123 => ?_
         refine d_all (rs := [1, 4]) rfl (by kernel_rfl) (by simp) (d_cons (i := 1) (listed' := #[true, true, false, true, false, false, false, false, false, false]) rfl rfl ?_ (d_cons (i := 4) (listed' := #[true, false, false, true, true, false, false, false, false, false]) rfl rfl ?_ d_nil))
         · skip
           refine f_val F123 rfl rfl (r_bstr Tryz.underlying62 Tryz.underlying5 Tryz.underlying9 ((At.rdX S121.at' 0 rfl)).1 rfl (F123.ev 72 rfl)) rfl fun _ F124 => ?_
           refine ⟨Sd.of (Mv.refl S121.at') [] rfl, ?_⟩
           have k125 : (bstr D).size + (⟨#[32, 35]⟩ : ByteArray).size ≤ 9223372036854775807 := by ((repeat rw [ByteArray.size_append]) <;> omega)
           refine g_take F124 rfl (i := 2) (listed' := #[true, true, true, true, false, false, false, false, false, false]) rfl (by kernel_rfl) (by kernel_rfl) (by kernel_rfl) (fun _ _ _ h => h) (Sd.of (Mv.refl S121.at') [] rfl) rfl rfl rfl rfl (fun _ hz => (r_cat rfl (F124.ev 73 rfl) rfl k125)) fun _ F126 => ?_
           refine d_one (i := 4) (listed' := #[true, true, true, true, true, false, false, false, false, false]) rfl (by kernel_rfl) rfl rfl ?_
           refine f_val F126 rfl rfl (r_bstr Tryz.underlying62 Tryz.underlying5 Tryz.underlying9 ((At.rdX S121.at' 0 rfl)).1 rfl (F126.ev 75 rfl)) rfl fun _ F127 => ?_
           refine ⟨Sd.of (Mv.refl S121.at') [] rfl, ?_⟩
           refine d_one (i := 5) (listed' := #[true, true, true, true, true, true, false, false, false, false]) rfl (by kernel_rfl) rfl rfl ?_
           refine f_call F127 CF_146 rfl rfl rfl rfl (lc (F127.ev 76 rfl) rfl) (spec_ByteSum_c (H := fun _ => True) (text := bstr D) (okS_bstr (by omega))) ?_
           rintro _ w128 ⟨rfl, m128⟩
           refine ⟨_, rfl, fun _ F129 => ?_⟩
           have S128 := At.frame0 S121.at' m128
           clear m128
           refine ⟨Sd.of S128 [] rfl, ?_⟩
           refine d_one (i := 6) (listed' := #[true, true, true, true, true, true, true, false, false, false]) rfl (by kernel_rfl) rfl rfl ?_
           refine f_call F129 CF_144 rfl rfl rfl rfl (lc (F129.ev 77 rfl) rfl) (spec_Decimal_c (H := fun _ => True) (n := ((sumN (bytesN (bstr D)) : Nat) : Int)) (by first | assumption | exact ⟨by omega, by omega⟩ | (unfold i64ok at *; omega))) ?_
           rintro _ w130 ⟨rfl, m130, Q14⟩
           refine ⟨_, rfl, fun _ F131 => ?_⟩
           have S130 := At.frame0 S128.at' m130
           clear m130
           refine ⟨Sd.of (S128.trans S130) [] rfl, ?_⟩
           have k132 : ((bstr D) ++ (⟨#[32, 35]⟩ : ByteArray)).size + (decS ((sumN (bytesN (bstr D)) : Nat) : Int)).size ≤ 9223372036854775807 := by ((repeat rw [ByteArray.size_append]) <;> omega)
           refine g_take F131 rfl (i := 7) (listed' := #[true, true, true, true, true, true, true, true, false, false]) rfl (by kernel_rfl) (by kernel_rfl) (by kernel_rfl) (fun _ _ _ h => h) (Sd.of (S128.trans S130) [] rfl) rfl rfl rfl rfl (fun _ hz => (r_cat rfl (F131.ev 74 rfl) (F131.ev 78 rfl) k132)) fun _ F133 => ?_
           have k134 : (((bstr D) ++ (⟨#[32, 35]⟩ : ByteArray)) ++ (decS ((sumN (bytesN (bstr D)) : Nat) : Int))).size + (⟨#[10]⟩ : ByteArray).size ≤ 9223372036854775807 := by ((repeat rw [ByteArray.size_append]) <;> omega)
           refine g_take F133 rfl (i := 8) (listed' := #[true, true, true, true, true, true, true, true, true, false]) rfl (by kernel_rfl) (by kernel_rfl) (by kernel_rfl) (fun _ _ _ h => h) (Sd.of (S128.trans S130) [] rfl) rfl rfl rfl rfl (fun _ hz => (r_cat rfl (F133.ev 79 rfl) rfl k134)) fun _ F135 => ?_
           refine g_take F135 rfl (i := 9) (listed' := #[true, true, true, true, true, true, true, true, true, true]) rfl (by kernel_rfl) (by kernel_rfl) (by kernel_rfl) (fun _ _ _ h => h) (Sd.of (S128.trans S130) [] rfl) rfl rfl rfl rfl (fun _ hz => (r_assign rfl (F135.ev 80 rfl))) fun _ F136 => ?_
           refine wpAnyH_done (by kernel_rfl) (x_normal ?_) _
           exact ⟨F136.cut rfl, ((S121.trans (S128.trans S130)).pick [0] rfl), (okS_cat k134)⟩
         · skip
           refine f_val F123 rfl rfl (r_bstr Tryz.underlying62 Tryz.underlying5 Tryz.underlying9 ((At.rdX S121.at' 0 rfl)).1 rfl (F123.ev 75 rfl)) rfl fun _ F137 => ?_
           refine ⟨Sd.of (Mv.refl S121.at') [] rfl, ?_⟩
           refine d_all (rs := [1, 5]) rfl (by kernel_rfl) (by simp) (d_cons (i := 1) (listed' := #[true, true, false, true, true, false, false, false, false, false]) rfl rfl ?_ (d_cons (i := 5) (listed' := #[true, false, false, true, true, true, false, false, false, false]) rfl rfl ?_ d_nil))
           · skip
             refine f_val F137 rfl rfl (r_bstr Tryz.underlying62 Tryz.underlying5 Tryz.underlying9 ((At.rdX S121.at' 0 rfl)).1 rfl (F137.ev 72 rfl)) rfl fun _ F138 => ?_
             refine ⟨Sd.of (Mv.refl S121.at') [] rfl, ?_⟩
             have k139 : (bstr D).size + (⟨#[32, 35]⟩ : ByteArray).size ≤ 9223372036854775807 := by ((repeat rw [ByteArray.size_append]) <;> omega)
             refine g_take F138 rfl (i := 2) (listed' := #[true, true, true, true, true, false, false, false, false, false]) rfl (by kernel_rfl) (by kernel_rfl) (by kernel_rfl) (fun _ _ _ h => h) (Sd.of (Mv.refl S121.at') [] rfl) rfl rfl rfl rfl (fun _ hz => (r_cat rfl (F138.ev 73 rfl) rfl k139)) fun _ F140 => ?_
             refine d_one (i := 5) (listed' := #[true, true, true, true, true, true, false, false, false, false]) rfl (by kernel_rfl) rfl rfl ?_
             refine f_call F140 CF_146 rfl rfl rfl rfl (lc (F140.ev 76 rfl) rfl) (spec_ByteSum_c (H := fun _ => True) (text := bstr D) (okS_bstr (by omega))) ?_
             rintro _ w141 ⟨rfl, m141⟩
             refine ⟨_, rfl, fun _ F142 => ?_⟩
             have S141 := At.frame0 S121.at' m141
             clear m141
             refine ⟨Sd.of S141 [] rfl, ?_⟩
             refine d_one (i := 6) (listed' := #[true, true, true, true, true, true, true, false, false, false]) rfl (by kernel_rfl) rfl rfl ?_
             refine f_call F142 CF_144 rfl rfl rfl rfl (lc (F142.ev 77 rfl) rfl) (spec_Decimal_c (H := fun _ => True) (n := ((sumN (bytesN (bstr D)) : Nat) : Int)) (by first | assumption | exact ⟨by omega, by omega⟩ | (unfold i64ok at *; omega))) ?_
             rintro _ w143 ⟨rfl, m143, Q15⟩
             refine ⟨_, rfl, fun _ F144 => ?_⟩
             have S143 := At.frame0 S141.at' m143
             clear m143
             refine ⟨Sd.of (S141.trans S143) [] rfl, ?_⟩
             have k145 : ((bstr D) ++ (⟨#[32, 35]⟩ : ByteArray)).size + (decS ((sumN (bytesN (bstr D)) : Nat) : Int)).size ≤ 9223372036854775807 := by ((repeat rw [ByteArray.size_append]) <;> omega)
             refine g_take F144 rfl (i := 7) (listed' := #[true, true, true, true, true, true, true, true, false, false]) rfl (by kernel_rfl) (by kernel_rfl) (by kernel_rfl) (fun _ _ _ h => h) (Sd.of (S141.trans S143) [] rfl) rfl rfl rfl rfl (fun _ hz => (r_cat rfl (F144.ev 74 rfl) (F144.ev 78 rfl) k145)) fun _ F146 => ?_
             have k147 : (((bstr D) ++ (⟨#[32, 35]⟩ : ByteArray)) ++ (decS ((sumN (bytesN (bstr D)) : Nat) : Int))).size + (⟨#[10]⟩ : ByteArray).size ≤ 9223372036854775807 := by ((repeat rw [ByteArray.size_append]) <;> omega)
             refine g_take F146 rfl (i := 8) (listed' := #[true, true, true, true, true, true, true, true, true, false]) rfl (by kernel_rfl) (by kernel_rfl) (by kernel_rfl) (fun _ _ _ h => h) (Sd.of (S141.trans S143) [] rfl) rfl rfl rfl rfl (fun _ hz => (r_cat rfl (F146.ev 79 rfl) rfl k147)) fun _ F148 => ?_
             refine g_take F148 rfl (i := 9) (listed' := #[true, true, true, true, true, true, true, true, true, true]) rfl (by kernel_rfl) (by kernel_rfl) (by kernel_rfl) (fun _ _ _ h => h) (Sd.of (S141.trans S143) [] rfl) rfl rfl rfl rfl (fun _ hz => (r_assign rfl (F148.ev 80 rfl))) fun _ F149 => ?_
             refine wpAnyH_done (by kernel_rfl) (x_normal ?_) _
             exact ⟨F149.cut rfl, ((S121.trans (S141.trans S143)).pick [0] rfl), (okS_cat k147)⟩
           · skip
             refine f_call F137 CF_146 rfl rfl rfl rfl (lc (F137.ev 76 rfl) rfl) (spec_ByteSum_c (H := fun _ => True) (text := bstr D) (okS_bstr (by omega))) ?_
             rintro _ w150 ⟨rfl, m150⟩
             refine ⟨_, rfl, fun _ F151 => ?_⟩
             have S150 := At.frame0 S121.at' m150
             clear m150
             refine ⟨Sd.of S150 [] rfl, ?_⟩
             refine d_all (rs := [1, 6]) rfl (by kernel_rfl) (by simp) (d_cons (i := 1) (listed' := #[true, true, false, true, true, true, false, false, false, false]) rfl rfl ?_ (d_cons (i := 6) (listed' := #[true, false, false, true, true, true, true, false, false, false]) rfl rfl ?_ d_nil))
             · skip
               refine f_val F151 rfl rfl (r_bstr Tryz.underlying62 Tryz.underlying5 Tryz.underlying9 ((At.rdX S150.at' 0 rfl)).1 rfl (F151.ev 72 rfl)) rfl fun _ F152 => ?_
               refine ⟨Sd.of S150 [] rfl, ?_⟩
               have k153 : (bstr D).size + (⟨#[32, 35]⟩ : ByteArray).size ≤ 9223372036854775807 := by ((repeat rw [ByteArray.size_append]) <;> omega)
               refine g_take F152 rfl (i := 2) (listed' := #[true, true, true, true, true, true, false, false, false, false]) rfl (by kernel_rfl) (by kernel_rfl) (by kernel_rfl) (fun _ _ _ h => h) (Sd.of S150 [] rfl) rfl rfl rfl rfl (fun _ hz => (r_cat rfl (F152.ev 73 rfl) rfl k153)) fun _ F154 => ?_
               refine d_one (i := 6) (listed' := #[true, true, true, true, true, true, true, false, false, false]) rfl (by kernel_rfl) rfl rfl ?_
               refine f_call F154 CF_144 rfl rfl rfl rfl (lc (F154.ev 77 rfl) rfl) (spec_Decimal_c (H := fun _ => True) (n := ((sumN (bytesN (bstr D)) : Nat) : Int)) (by first | assumption | exact ⟨by omega, by omega⟩ | (unfold i64ok at *; omega))) ?_
               rintro _ w155 ⟨rfl, m155, Q16⟩
               refine ⟨_, rfl, fun _ F156 => ?_⟩
               have S155 := At.frame0 S150.at' m155
               clear m155
               refine ⟨Sd.of (S150.trans S155) [] rfl, ?_⟩
               have k157 : ((bstr D) ++ (⟨#[32, 35]⟩ : ByteArray)).size + (decS ((sumN (bytesN (bstr D)) : Nat) : Int)).size ≤ 9223372036854775807 := by ((repeat rw [ByteArray.size_append]) <;> omega)
               refine g_take F156 rfl (i := 7) (listed' := #[true, true, true, true, true, true, true, true, false, false]) rfl (by kernel_rfl) (by kernel_rfl) (by kernel_rfl) (fun _ _ _ h => h) (Sd.of (S150.trans S155) [] rfl) rfl rfl rfl rfl (fun _ hz => (r_cat rfl (F156.ev 74 rfl) (F156.ev 78 rfl) k157)) fun _ F158 => ?_
               have k159 : (((bstr D) ++ (⟨#[32, 35]⟩ : ByteArray)) ++ (decS ((sumN (bytesN (bstr D)) : Nat) : Int))).size + (⟨#[10]⟩ : ByteArray).size ≤ 9223372036854775807 := by ((repeat rw [ByteArray.size_append]) <;> omega)
               refine g_take F158 rfl (i := 8) (listed' := #[true, true, true, true, true, true, true, true, true, false]) rfl (by kernel_rfl) (by kernel_rfl) (by kernel_rfl) (fun _ _ _ h => h) (Sd.of (S150.trans S155) [] rfl) rfl rfl rfl rfl (fun _ hz => (r_cat rfl (F158.ev 79 rfl) rfl k159)) fun _ F160 => ?_
               refine g_take F160 rfl (i := 9) (listed' := #[true, true, true, true, true, true, true, true, true, true]) rfl (by kernel_rfl) (by kernel_rfl) (by kernel_rfl) (fun _ _ _ h => h) (Sd.of (S150.trans S155) [] rfl) rfl rfl rfl rfl (fun _ hz => (r_assign rfl (F160.ev 80 rfl))) fun _ F161 => ?_
               refine wpAnyH_done (by kernel_rfl) (x_normal ?_) _
               exact ⟨F161.cut rfl, ((S121.trans (S150.trans S155)).pick [0] rfl), (okS_cat k159)⟩
             · skip
               refine f_call F151 CF_144 rfl rfl rfl rfl (lc (F151.ev 77 rfl) rfl) (spec_Decimal_c (H := fun _ => True) (n := ((sumN (bytesN (bstr D)) : Nat) : Int)) (by first | assumption | exact ⟨by omega, by omega⟩ | (unfold i64ok at *; omega))) ?_
               rintro _ w162 ⟨rfl, m162, Q17⟩
               refine ⟨_, rfl, fun _ F163 => ?_⟩
               have S162 := At.frame0 S150.at' m162
               clear m162
               refine ⟨Sd.of (S150.trans S162) [] rfl, ?_⟩
               refine d_one (i := 1) (listed' := #[true, true, false, true, true, true, true, false, false, false]) rfl (by kernel_rfl) rfl rfl ?_
               refine f_val F163 rfl rfl (r_bstr Tryz.underlying62 Tryz.underlying5 Tryz.underlying9 ((At.rdX S162.at' 0 rfl)).1 rfl (F163.ev 72 rfl)) rfl fun _ F164 => ?_
               refine ⟨Sd.of (S150.trans S162) [] rfl, ?_⟩
               have k165 : (bstr D).size + (⟨#[32, 35]⟩ : ByteArray).size ≤ 9223372036854775807 := by ((repeat rw [ByteArray.size_append]) <;> omega)
               refine g_take F164 rfl (i := 2) (listed' := #[true, true, true, true, true, true, true, false, false, false]) rfl (by kernel_rfl) (by kernel_rfl) (by kernel_rfl) (fun _ _ _ h => h) (Sd.of (S150.trans S162) [] rfl) rfl rfl rfl rfl (fun _ hz => (r_cat rfl (F164.ev 73 rfl) rfl k165)) fun _ F166 => ?_
               have k167 : ((bstr D) ++ (⟨#[32, 35]⟩ : ByteArray)).size + (decS ((sumN (bytesN (bstr D)) : Nat) : Int)).size ≤ 9223372036854775807 := by ((repeat rw [ByteArray.size_append]) <;> omega)
               refine g_take F166 rfl (i := 7) (listed' := #[true, true, true, true, true, true, true, true, false, false]) rfl (by kernel_rfl) (by kernel_rfl) (by kernel_rfl) (fun _ _ _ h => h) (Sd.of (S150.trans S162) [] rfl) rfl rfl rfl rfl (fun _ hz => (r_cat rfl (F166.ev 74 rfl) (F166.ev 78 rfl) k167)) fun _ F168 => ?_
               have k169 : (((bstr D) ++ (⟨#[32, 35]⟩ : ByteArray)) ++ (decS ((sumN (bytesN (bstr D)) : Nat) : Int))).size + (⟨#[10]⟩ : ByteArray).size ≤ 9223372036854775807 := by ((repeat rw [ByteArray.size_append]) <;> omega)
               refine g_take F168 rfl (i := 8) (listed' := #[true, true, true, true, true, true, true, true, true, false]) rfl (by kernel_rfl) (by kernel_rfl) (by kernel_rfl) (fun _ _ _ h => h) (Sd.of (S150.trans S162) [] rfl) rfl rfl rfl rfl (fun _ hz => (r_cat rfl (F168.ev 79 rfl) rfl k169)) fun _ F170 => ?_
               refine g_take F170 rfl (i := 9) (listed' := #[true, true, true, true, true, true, true, true, true, true]) rfl (by kernel_rfl) (by kernel_rfl) (by kernel_rfl) (fun _ _ _ h => h) (Sd.of (S150.trans S162) [] rfl) rfl rfl rfl rfl (fun _ hz => (r_assign rfl (F170.ev 80 rfl))) fun _ F171 => ?_
               refine wpAnyH_done (by kernel_rfl) (x_normal ?_) _
               exact ⟨F171.cut rfl, ((S121.trans (S150.trans S162)).pick [0] rfl), (okS_cat k169)⟩
       · rintro a172 w172 ⟨F172, S172, Q6⟩
         refine x_normal (wp_seq (wp_seq (wp_region_lit (l_op (f_mv F172 rfl rfl rfl rfl rfl fun _ F173 => ?_)))))
         refine l_op (f_val F173 rfl rfl (r_lenS (fun t ht => by cases ht; exact Tryz.underlying9) rfl rfl (F173.ev 81 rfl)) rfl fun _ F174 => ?_)
         refine l_op (f_val F174 rfl rfl (r_cmp (b := decide (((((bstr D) ++ (⟨#[32, 35]⟩ : ByteArray)) ++ (decS ((sumN (bytesN (bstr D)) : Nat) : Int))) ++ (⟨#[10]⟩ : ByteArray)).size > 4000)) (.inr (.inr (.inr (.inr (.inl rfl))))) rfl (F174.ev 82 rfl) rfl (dec_of (by omega))) rfl fun _ F175 => ?_)
         refine s_end (x_normal (x_cond (p := ((((bstr D) ++ (⟨#[32, 35]⟩ : ByteArray)) ++ (decS ((sumN (bytesN (bstr D)) : Nat) : Int))) ++ (⟨#[10]⟩ : ByteArray)).size > 4000) (F175.ev 83 rfl) (fun h176 => ?_) (fun h176 => ?_)))
         · skip
           refine wp_seq (wp_region_lit (l_op (f_val F175 rfl rfl (r_assign rfl rfl) rfl fun _ F177 => ?_)))
           refine s_end (x_normal (wp_ret (x_then_ret ?_)))
           refine x_done (v := .string bE_) F177 (results_1 Tryz.results107 (.tmp (F177.ev 4 rfl))) ?_
           exact ⟨(by rw [(show bE_ = (recT seq list) from by first | exact recT_no (nt ‹_›) | exact recT_bad hx1 (cellB_1 ‹_›) | exact recT_bad hx1 (cellB_2 ‹_›) | exact recT_long (congrArg List.length hk_1) (by omega) | exact recT_end (by rw [← rec_s hk_1 (by omega)]; assumption) | (rw [rec_s hk_1 (by omega)]; exact recT_yes (nf ‹_›) (fun j hj => hk_2 j (by omega)) (by rw [← rec_s hk_1 (by omega)]; assumption)))]), (Mv.pick (S3.trans (S9.trans (S11.trans (S15.trans S172)))) [] rfl), ((show bE_ = (recT seq list) from by first | exact recT_no (nt ‹_›) | exact recT_bad hx1 (cellB_1 ‹_›) | exact recT_bad hx1 (cellB_2 ‹_›) | exact recT_long (congrArg List.length hk_1) (by omega) | exact recT_end (by rw [← rec_s hk_1 (by omega)]; assumption) | (rw [rec_s hk_1 (by omega)]; exact recT_yes (nf ‹_›) (fun j hj => hk_2 j (by omega)) (by rw [← rec_s hk_1 (by omega)]; assumption))) ▸ (by unfold okS; decide))⟩
         · skip
           refine wp_skip (x_normal (wp_seq (wp_region_lit (l_op (f_mv F175 rfl rfl rfl rfl rfl fun _ F178 => ?_)))))
           refine l_op (f_as F178 rfl rfl rfl rfl rfl fun _ F179 => ?_)
           refine s_end (x_normal (wp_ret ?_))
           refine x_done (v := .string ((((bstr D) ++ (⟨#[32, 35]⟩ : ByteArray)) ++ (decS ((sumN (bytesN (bstr D)) : Nat) : Int))) ++ (⟨#[10]⟩ : ByteArray))) F179 (results_1 Tryz.results107 (.tmp (F179.ev 4 rfl))) ?_
           exact ⟨(by rw [(show ((((bstr D) ++ (⟨#[32, 35]⟩ : ByteArray)) ++ (decS ((sumN (bytesN (bstr D)) : Nat) : Int))) ++ (⟨#[10]⟩ : ByteArray)) = (recT seq list) from by first | exact recT_no (nt ‹_›) | exact recT_bad hx1 (cellB_1 ‹_›) | exact recT_bad hx1 (cellB_2 ‹_›) | exact recT_long (congrArg List.length hk_1) (by omega) | exact recT_end (by rw [← rec_s hk_1 (by omega)]; assumption) | (rw [rec_s hk_1 (by omega)]; exact recT_yes (nf ‹_›) (fun j hj => hk_2 j (by omega)) (by rw [← rec_s hk_1 (by omega)]; assumption)))]), (Mv.pick (S3.trans (S9.trans (S11.trans (S15.trans S172)))) [] rfl), ((show ((((bstr D) ++ (⟨#[32, 35]⟩ : ByteArray)) ++ (decS ((sumN (bytesN (bstr D)) : Nat) : Int))) ++ (⟨#[10]⟩ : ByteArray)) = (recT seq list) from by first | exact recT_no (nt ‹_›) | exact recT_bad hx1 (cellB_1 ‹_›) | exact recT_bad hx1 (cellB_2 ‹_›) | exact recT_long (congrArg List.length hk_1) (by omega) | exact recT_end (by rw [← rec_s hk_1 (by omega)]; assumption) | (rw [rec_s hk_1 (by omega)]; exact recT_yes (nf ‹_›) (fun j hj => hk_2 j (by omega)) (by rw [← rec_s hk_1 (by omega)]; assumption))) ▸ Q6)⟩
end Go.Proofs.YtipdbeklopjbmaaGreatDoor
/-
  Processes.
-/

namespace Go.Proofs.YtipdbeklopjbmaaGreatDoor
open Go.ChangeShapes Go.WideShapes Go.ChangeAt Go.RowKit
set_option maxRecDepth 100000
set_option maxHeartbeats 1000000


theorem noD_s : noD (⟨#[47, 115]⟩ : ByteArray) := noD_lit [47, 115] (by decide)
theorem noD_p : noD (⟨#[47, 112]⟩ : ByteArray) := noD_lit [47, 112] (by decide)
def spawnI (m : MachD) : Nat := if 12 ≤ numK m (⟨#[99, 47, 112, 114, 111, 99]⟩ : ByteArray) then 0 else bumpN (lookM m (⟨#[99, 47, 112, 114, 111, 99]⟩ : ByteArray)) (⟨#[99, 47, 112, 114, 111, 99]⟩ : ByteArray)
def spawnM (m : MachD) (parent : Int) : MachD := if 12 ≤ numK m (⟨#[99, 47, 112, 114, 111, 99]⟩ : ByteArray) then lookM m (⟨#[99, 47, 112, 114, 111, 99]⟩ : ByteArray) else setM (setM (bumpM (lookM m (⟨#[99, 47, 112, 114, 111, 99]⟩ : ByteArray)) (⟨#[99, 47, 112, 114, 111, 99]⟩ : ByteArray)) (keyNum (⟨#[114, 47]⟩ : ByteArray) (bumpN (lookM m (⟨#[99, 47, 112, 114, 111, 99]⟩ : ByteArray)) (⟨#[99, 47, 112, 114, 111, 99]⟩ : ByteArray)) (⟨#[47, 115]⟩ : ByteArray)) 1) (keyNum (⟨#[114, 47]⟩ : ByteArray) (bumpN (lookM m (⟨#[99, 47, 112, 114, 111, 99]⟩ : ByteArray)) (⟨#[99, 47, 112, 114, 111, 99]⟩ : ByteArray)) (⟨#[47, 112]⟩ : ByteArray)) parent
theorem bdC.spawn {b : Nat} {m : MachD} {p : Int} (h : bdC b m) : bdC (b + 6) (spawnM m p) := by
  unfold spawnM
  split
  · exact h.look.le (by omega)
  · exact h.look.bump.set.set.le (by omega)
def procs (k : Nat) (m : MachD) : Prop := numK m (⟨#[99, 47, 112, 114, 111, 99]⟩ : ByteArray) = k ∧ (∀ j : Nat, 1 ≤ j → j ≤ k → numK m (keyNum (⟨#[114, 47]⟩ : ByteArray) j (⟨#[47, 115]⟩ : ByteArray)) = 1) ∧ bdC (10 * k) m
theorem cp_ne {n : Int} {t : ByteArray} : (⟨#[99, 47, 112, 114, 111, 99]⟩ : ByteArray) ≠ keyNum (⟨#[114, 47]⟩ : ByteArray) n t := key_other (by rw [byte_num (by decide)]; decide)
theorem procs.step {k : Nat} {m : MachD} (h : procs k m) (hk : k < 12) : spawnI m = k + 1 ∧ procs (k + 1) (spawnM m 1) := by
  obtain ⟨h1, h2, h3⟩ := h
  have hl : numK (lookM m (⟨#[99, 47, 112, 114, 111, 99]⟩ : ByteArray)) (⟨#[99, 47, 112, 114, 111, 99]⟩ : ByteArray) = k := h1
  have hb : bumpN (lookM m (⟨#[99, 47, 112, 114, 111, 99]⟩ : ByteArray)) (⟨#[99, 47, 112, 114, 111, 99]⟩ : ByteArray) = k + 1 := by rw [bumpN_lt (by omega), hl]
  refine ⟨by unfold spawnI; rw [if_neg (by omega), hb], ?_, ?_, h3.spawn.le (by omega)⟩
  · unfold spawnM
    rw [if_neg (by omega), numK_ne cp_ne, numK_ne cp_ne, numK_bump (by decide) (by omega), hl]
  · intro j h4 h5
    unfold spawnM
    rw [if_neg (by omega), hb, numK_ne (keyNum_ne (by omega) (by omega) noD_s noD_p (.inr (by decide)))]
    rcases Decidable.em (j = k + 1) with e | e
    · subst e
      exact numK_set (n := 1) (key_ok (by omega) (by decide) (by decide) (by decide) (by decide)) (by decide)
    · rw [numK_ne (keyNum_ne (by omega) (by omega) noD_s noD_s (.inl e)), numK_bumpNe (Ne.symm cp_ne)]
      exact h2 j h4 (by omega)
end Go.Proofs.YtipdbeklopjbmaaGreatDoor
/-
  Walks: processes.
-/

namespace Go.Proofs.YtipdbeklopjbmaaGreatDoor
open Go.ChangeShapes Go.WideShapes Go.ChangeAt Go.RowKit
set_option maxRecDepth 100000
set_option maxHeartbeats 1000000
end Go.Proofs.YtipdbeklopjbmaaGreatDoor
/-
  Children.
-/

namespace Go.Proofs.YtipdbeklopjbmaaGreatDoor
open Go.ChangeShapes Go.WideShapes Go.ChangeAt Go.RowKit
set_option maxRecDepth 100000
set_option maxHeartbeats 1000000


end Go.Proofs.YtipdbeklopjbmaaGreatDoor
/-
  Walks: children.
-/

namespace Go.Proofs.YtipdbeklopjbmaaGreatDoor
open Go.ChangeShapes Go.WideShapes Go.ChangeAt Go.RowKit
set_option maxRecDepth 100000
set_option maxHeartbeats 1000000
end Go.Proofs.YtipdbeklopjbmaaGreatDoor
/-
  Walks: texts are parted by the library.
-/

namespace Go.Proofs.YtipdbeklopjbmaaGreatDoor
open Go.ChangeShapes Go.WideShapes Go.ChangeAt Go.RowKit
set_option maxRecDepth 100000
set_option maxHeartbeats 1000000
theorem strings_HasSuffix_c {w : World} {H : Nat → Prop} {s : ByteArray} {suffix : ByteArray} (h_s : okS s) (Q0 : okS suffix) :
    Calls Tryz.prog 137 #[.string s, .string suffix] w fun e w' => e = .returned (.bool (hasSuf s suffix)) ∧ Mv [] w [] w' := by
 have uU : True := (fun _ => trivial) H
 clear uU
 refine calls_enter 8 Tryz.func137 rfl Tryz.ntmps137 (Nat.le_of_ble_eq_true rfl) (fun _ F0i => ?_)
 have F0 : Fr 8 [(0, .string s), (1, .string suffix)] _ := F0i
 clear F0i
 refine wp_seq (wp_region_lit (l_op (f_val F0 rfl rfl (r_assign rfl rfl) rfl fun _ F1 => ?_)))
 refine s_end (x_normal (wp_seq (wp_region_lit (l_op (f_mv F1 rfl rfl rfl rfl rfl fun _ F2 => ?_)))))
 refine l_op (f_mv F2 rfl rfl rfl rfl rfl fun _ F3 => ?_)
 refine l_op (f_call F3 CF_170 rfl rfl rfl rfl (lc (F3.ev 5 rfl) (lc (F3.ev 6 rfl) rfl)) (internal_stringslite_HasSuffix_c (H := fun _ => True) (s := s) (suffix := suffix) h_s Q0) ?_)
 rintro _ w4 ⟨rfl, m4⟩
 refine ⟨_, rfl, fun _ F5 => ?_⟩
 have S4 := At.frame0 (At.nil w) m4
 clear m4
 refine l_op (f_as F5 rfl rfl rfl rfl rfl fun _ F6 => ?_)
 refine s_end (x_normal (wp_ret ?_))
 refine x_done (v := .bool (hasSuf s suffix)) F6 (results_1 Tryz.results137 (.tmp (F6.ev 4 rfl))) ?_
 exact ⟨rfl, (Mv.pick S4 [] rfl)⟩
theorem strings_Split_c {w : World} {H : Nat → Prop} {s : ByteArray} {sep : ByteArray} (h_s : okS s) (Q0 : okS sep) (p0 : sep = (⟨#[32]⟩ : ByteArray)) (p1 : s.size ≤ 4294967280) :
    Calls Tryz.prog 138 #[.string s, .string sep] w fun e w' => ∃ (r0_a : Option Addr), ∃ (r0_n : Nat), ∃ (r0_c : Nat), e = .returned (.slice r0_a r0_n r0_c) ∧ Mv [] w [ow 9 1 encS okS (.slice r0_a r0_n r0_c) (spS 32 s)] w' := by
  have uU : True := (fun _ _ _ => trivial) H Q0 p1
  clear uU
  subst p0
  refine (split_one laysSplit s 32 w (by omega)).mono ?_
  rintro e w' ⟨rfl, rfl⟩
  obtain ⟨h1, h2⟩ := lib_split 32 s
  have e32 : (32 : UInt8).toNat = 32 := rfl
  rw [e32] at h1 h2
  have hl := (spS_len 32 s).2
  rw [h1, h2]
  exact ⟨_, _, _, rfl, mv_strs w _ _ (by omega) fun x hx => Nat.le_trans (spS_part hx) h_s⟩
theorem strings_Cut_c {w : World} {H : Nat → Prop} {s : ByteArray} {sep : ByteArray} (h_s : okS s) (Q0 : okS sep) (p0 : sep = (⟨#[61]⟩ : ByteArray)) (p1 : s.size ≤ 4294967280) :
    Calls Tryz.prog 140 #[.string s, .string sep] w fun e w' => e = .returned (.tuple #[.string (cutL_ s), .string (cutR_ s), .bool (decide (61 ∈ bytesN s))]) ∧ Mv [] w [] w' ∧ okS (cutL_ s) ∧ okS (cutR_ s) := by
  have uU : True := (fun _ _ _ => trivial) H Q0 p1
  clear uU
  refine (cut_one laysCut s sep 61 p0 w (by omega)).mono ?_
  rintro e w' ⟨rfl, n, rfl⟩
  subst p0
  obtain ⟨h1, h2, h3⟩ := lib_cut s
  rw [h1, h2, h3]
  exact ⟨rfl, Mv.of_bl ((Bl.refl w).drewN n), Nat.le_trans (cutL_size s) h_s, Nat.le_trans (cutR_size s) h_s⟩
end Go.Proofs.YtipdbeklopjbmaaGreatDoor
