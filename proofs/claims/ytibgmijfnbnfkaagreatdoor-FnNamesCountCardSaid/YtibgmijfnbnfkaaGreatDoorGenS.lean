/-
  Walks: the names in a store.
-/
import Derived.Test.YtibgmijfnbnfkaaGreatDoorDat4
import Derived.Test.YtibgmijfnbnfkaaGreatDoorGenR
namespace Go.Proofs.YtibgmijfnbnfkaaGreatDoor
open Go.ChangeShapes Go.WideShapes Go.ChangeAt Go.RowKit
set_option maxRecDepth 100000
set_option maxHeartbeats 1000000
theorem spec_l06NamesIn_c {w : World} {H : Nat → Prop} {m : MachD} {m_Sa : Option Addr} {m_Sn m_Sc : Nat} {m_Ra : Option Addr} {m_Rn m_Rc : Nat} {m_Wa : Option Addr} {m_Wn m_Wc : Nat} (Q21 : Rd 2 encC okC H w (.slice m_Sa m_Sn m_Sc) m.store) (Q22 : Rd 1 encS okS H w (.slice m_Ra m_Rn m_Rc) m.touch.reads) (Q23 : Rd 1 encS okS H w (.slice m_Wa m_Wn m_Wc) m.touch.writes) (p0 : m.store.length ≤ 68719476736) (p1 : m.touch.reads.length ≤ 68719476736) (p2 : m.touch.writes.length ≤ 68719476736) :
    Calls Tryz.prog 65 #[.agg #[.slice m_Sa m_Sn m_Sc, .slice m_Ra m_Rn m_Rc, .slice m_Wa m_Wn m_Wc]] w fun e w' => ∃ (Q13 : Option Addr), ∃ (Q15 : Nat), ∃ (Q14 : Nat), ∃ (Q10 : Option Addr), ∃ (Q12 : Nat), ∃ (Q11 : Nat), ∃ (Q16 : Option Addr), ∃ (Q18 : Nat), ∃ (Q17 : Nat), ∃ (r1_a : Option Addr), ∃ (r1_n : Nat), ∃ (r1_c : Nat), e = .returned (.tuple #[.agg #[.slice Q13 Q15 Q14, .slice Q10 Q12 Q11, .slice Q16 Q18 Q17], .slice r1_a r1_n r1_c]) ∧ Mv [] w [] w' ∧ Rd 2 encC okC (Fsh H w) w' (.slice Q13 Q15 Q14) (lookM m ((⟨#[110, 47]⟩ : ByteArray) ++ bT_)).store ∧ Rd 1 encS okS (Fsh H w) w' (.slice Q10 Q12 Q11) (lookM m ((⟨#[110, 47]⟩ : ByteArray) ++ bT_)).touch.reads ∧ Rd 1 encS okS (Fsh H w) w' (.slice Q16 Q18 Q17) (lookM m ((⟨#[110, 47]⟩ : ByteArray) ++ bT_)).touch.writes ∧ Rd 1 encS okS (Fsh H w) w' (.slice r1_a r1_n r1_c) (namesL (keysUnder m.store (⟨#[110, 47]⟩ : ByteArray))) := by
 have uU : True := (fun _ _ _ => trivial) p0 p1 p2
 clear uU
 have Q24 : Rd 2 encC okC (V H w []) w (.slice m_Sa m_Sn m_Sc) m.store := Rd.start Q21 (fun _ _ => fps_nil _)
 obtain ⟨Q30, Q27, Q33, Q36⟩ := Rd.inv Q21
 have Q25 : Rd 1 encS okS (V H w []) w (.slice m_Ra m_Rn m_Rc) m.touch.reads := Rd.start Q22 (fun _ _ => fps_nil _)
 obtain ⟨Q31, Q28, Q34, Q37⟩ := Rd.inv Q22
 have Q26 : Rd 1 encS okS (V H w []) w (.slice m_Wa m_Wn m_Wc) m.touch.writes := Rd.start Q23 (fun _ _ => fps_nil _)
 obtain ⟨Q32, Q29, Q35, Q38⟩ := Rd.inv Q23
 refine calls_enter 29 Tryz.func65 rfl Tryz.ntmps65 (Nat.le_of_ble_eq_true rfl) (fun _ F0i => ?_)
 have F0 : Fr 29 [(0, .agg #[.slice m_Sa m_Sn m_Sc, .slice m_Ra m_Rn m_Rc, .slice m_Wa m_Wn m_Wc])] _ := F0i
 clear F0i
 refine wp_seq (wp_region_lit (l_op (f_box F0 (At.nil w) rfl rfl rfl (F0.ev 0 rfl) rfl rfl fun b1 _ w1 F2 S1 => ?_)))
 refine l_op (f_alloc F2 S1.at' ZI_29 rfl rfl rfl rfl rfl fun b3 _ w3 F4 S3 => ?_)
 refine l_op (f_val F4 rfl rfl (r_assign rfl rfl) rfl fun _ F5 => ?_)
 refine s_end (x_normal (wp_seq (wp_region_lit (l_op (f_val (v := .agg #[.slice m_Sa m_Sn m_Sc, .slice m_Ra m_Rn m_Rc, .slice m_Wa m_Wn m_Wc]) F5 rfl rfl (r_loadB S3.at' 1 TI_29 rfl rfl (F5.ev 1 rfl) rfl rfl (fun h => nomatch h) rfl) rfl fun _ F6 => ?_)))))
 refine l_op (f_call F6 CF_86 rfl rfl rfl rfl (lc (F6.ev 8 rfl) (lc rfl rfl)) (spec_l04Under_c (m := m) (pfx := (⟨#[110, 47]⟩ : ByteArray)) (Rd.mq Q24 (S1.trans S3)) (Rd.mq Q25 (S1.trans S3)) (Rd.mq Q26 (S1.trans S3)) (by unfold okS; decide) (by first | assumption | omega | decide) (by first | assumption | omega | decide) (by first | assumption | omega | decide)) ?_)
 rintro _ w7 ⟨Q3, Q5, Q4, Q0, Q2, Q1, Q6, Q8, Q7, Q19, Q9, Q20, rfl, m7, v7_0, v7_1, v7_2, v7_3⟩
 refine ⟨_, rfl, fun _ F8 => ?_⟩
 have S7 := At.frame0 S3.at' m7
 have V7_0 := Rd.got0 S3.at' ((S1.trans S3).kp.size) v7_0 S7
 obtain ⟨ln7_0, le7_0, mx7_0, ni7_0⟩ := Rd.inv V7_0
 have V7_1 := Rd.got0 S3.at' ((S1.trans S3).kp.size) v7_1 S7
 obtain ⟨ln7_1, le7_1, mx7_1, ni7_1⟩ := Rd.inv V7_1
 have V7_2 := Rd.got0 S3.at' ((S1.trans S3).kp.size) v7_2 S7
 obtain ⟨ln7_2, le7_2, mx7_2, ni7_2⟩ := Rd.inv V7_2
 have V7_3 := Rd.got0 S3.at' ((S1.trans S3).kp.size) v7_3 S7
 obtain ⟨ln7_3, le7_3, mx7_3, ni7_3⟩ := Rd.inv V7_3
 clear m7 v7_0 v7_1 v7_2 v7_3
 refine l_op (f_mv F8 rfl rfl rfl rfl rfl fun _ F9 => ?_)
 refine l_op (f_val (v := .agg #[.slice Q3 Q5 Q4, .slice Q0 Q2 Q1, .slice Q6 Q8 Q7]) F9 rfl rfl (r_extract rfl (F9.ev 7 rfl) rfl) rfl fun _ F10 => ?_)
 refine l_op (f_val (v := .slice Q19 Q9 Q20) F10 rfl rfl (r_extract rfl (F10.ev 7 rfl) rfl) rfl fun _ F11 => ?_)
 refine l_op (s_store S7.at' 1 TI_29 rfl rfl rfl rfl rfl (F11.ev 1 rfl) (F11.ev 10 rfl) rfl rfl rfl rfl rfl fun w12 S12 => ?_)
 refine l_op (f_as F11 rfl rfl rfl rfl rfl fun _ F13 => ?_)
 have T14 : Mv _ _ [bx b1 [.slice Q3 Q5 Q4, .slice Q0 Q2 Q1, .slice Q6 Q8 Q7] 29, bx b3 [.slice none 0 0, .slice none 0 0, .slice none 0 0] 29] _ := S12
 refine s_end (x_normal (wp_seq (wp_region_lit (l_op (f_buildSl (ok := okS) (vs := []) F13 T14.at' (([] : List ByteArray)) ET_25 rfl rfl rfl rfl rfl rfl rfl rfl rfl (by simp) fun b15 _ w15 F16 S15 => ?_)))))
 refine l_op (f_as F16 rfl rfl rfl rfl rfl fun _ F17 => ?_)
 refine s_end (x_normal (wp_seq (wp_seq (wp_region_lit (l_op (f_val F17 rfl rfl (r_assign rfl rfl) rfl fun _ F18 => ?_))))))
 refine s_end (x_normal (wp_block ?_))
 refine x_loop (fun (k : Nat) aZ wZ => ∃ (oa : Option Addr), ∃ (on : Nat), ∃ (oc : Nat), Fr 29 [(6, .int .i64 ((k : Nat) : Int)), (5, .slice oa on oc), (4, .slice Q19 Q9 Q20), (2, .pointer (some ⟨b3, 0, none⟩)), (1, .pointer (some ⟨b1, 0, none⟩))] aZ ∧ Mv [ow 9 1 encS okS (.slice (some ⟨b15, 0, none⟩) 0 0) ([] : List ByteArray), bx b1 [.slice Q3 Q5 Q4, .slice Q0 Q2 Q1, .slice Q6 Q8 Q7] 29, bx b3 [.slice none 0 0, .slice none 0 0, .slice none 0 0] 29] w15 [ow 9 1 encS okS (.slice oa on oc) (namesL ((keysUnder m.store (⟨#[110, 47]⟩ : ByteArray)).take k)), bx b1 [.slice Q3 Q5 Q4, .slice Q0 Q2 Q1, .slice Q6 Q8 Q7] 29, bx b3 [.slice none 0 0, .slice none 0 0, .slice none 0 0] 29] wZ ∧ (k ≤ (keysUnder m.store (⟨#[110, 47]⟩ : ByteArray)).length)) (fun (k : Nat) => (keysUnder m.store (⟨#[110, 47]⟩ : ByteArray)).length - k) (0) ?_ ?_
 · exact ⟨(some ⟨b15, 0, none⟩), 0, 0, F18.cut rfl, (Mv.refl S15.at'), by omega⟩
 · rintro k a19 w19 ⟨oa, on, oc, F19, S19, hk_0⟩
   refine wp_seq (wp_seq (wp_region_lit (l_op (f_mv F19 rfl rfl rfl rfl rfl fun _ F20 => ?_))))
   refine l_op (f_mv F20 rfl rfl rfl rfl rfl fun _ F21 => ?_)
   refine l_op (f_val F21 rfl rfl (r_len Tryz.underlying25 rfl (F21.ev 14 rfl)) rfl fun _ F22 => ?_)
   refine l_op (f_val F22 rfl rfl (r_cmp (b := decide (k < Q9)) (.inr (.inr (.inl rfl))) rfl (F22.ev 13 rfl) (F22.ev 15 rfl) (dec_of (by omega))) rfl fun _ F23 => ?_)
   refine s_end (x_normal (x_cond (p := k < Q9) (F23.ev 16 rfl) (fun h24 => ?_) (fun h24 => ?_)))
   · skip
     refine wp_skip (x_normal (wp_seq (wp_block (wp_region_lit (l_op (f_mv F23 rfl rfl rfl rfl rfl fun _ F25 => ?_))))))
     refine l_op (f_mv F25 rfl rfl rfl rfl rfl fun _ F26 => ?_)
     refine l_op (f_mv F26 rfl rfl rfl rfl rfl fun _ F27 => ?_)
     obtain ⟨B28, O28, x1, ad28, hx1, okx1, ln28, cl28⟩ := Rd.at (Rd.mq V7_3 (T14.trans (S15.trans S19))) k (by first | assumption | omega)
     clear ln28
     refine l_op (f_val F27 rfl rfl (r_indexAddr (i := k) ET_25 rfl ((F27.ev 20 rfl).trans (by rw [ad28])) (F27.ev 21 rfl) (by omega) (by first | assumption | omega)) rfl fun _ F29 => ?_)
     refine l_op (f_val (v := .string x1) F29 rfl rfl (r_load (cs := [.string x1]) TI_9 rfl (F29.ev 22 rfl) rfl (fun _ => rfl) (elem_sub (f := 0) cl28 [.string x1] rfl)) rfl fun _ F30 => ?_)
     refine l_op (f_val F30 rfl rfl (r_sliceS (l := 2) (h := x1.size) Tryz.underlying9 rfl (F30.ev 23 rfl) rfl rfl (by have := keysUnder_size hx1; omega) (by have := keysUnder_size hx1; omega) rfl) rfl fun _ F31 => ?_)
     refine l_op (f_buildSl (ok := okS) (vs := [.string (x1.extract 2 x1.size)]) F31 S19.at' ([(x1.extract 2 x1.size)]) ET_25 rfl rfl rfl rfl rfl rfl (lc (pr2 (F31.ev 24 rfl)) rfl) rfl rfl (fun x hx => (List.mem_singleton.1 hx) ▸ (okS_ext okx1)) fun b32 _ w32 F33 S32 => ?_)
     refine l_op (f_app (news := [(x1.extract 2 x1.size)]) F33 S32.at' 1 ET_25 rfl rfl rfl rfl rfl rfl (F33.ev 19 rfl) (F33.ev 25 rfl) ((At.rd S32.at' ET_25.hk 0 rfl)).1 (by have := namesL_length ((keysUnder m.store (⟨#[110, 47]⟩ : ByteArray)).take k); rw [List.length_take] at this; have := keysUnder_length m.store (⟨#[110, 47]⟩ : ByteArray); first | omega | ((repeat (first | rw [List.length_append] | rw [List.length_cons] | rw [List.length_nil] | rw [List.length_take] | rw [List.length_drop])) <;> omega)) fun A34 N34 C34 _ w34 F35 S34 l34 => ?_)
     have S36 := At.drop S34.at' 1
     refine l_op (f_as F35 rfl rfl rfl rfl rfl fun _ F37 => ?_)
     have T38 : Mv _ _ [ow 9 1 encS okS (.slice A34 N34 C34) ((namesL ((keysUnder m.store (⟨#[110, 47]⟩ : ByteArray)).take k)) ++ ([(x1.extract 2 x1.size)])), bx b1 [.slice Q3 Q5 Q4, .slice Q0 Q2 Q1, .slice Q6 Q8 Q7] 29, bx b3 [.slice none 0 0, .slice none 0 0, .slice none 0 0] 29] _ := S36
     refine s_end (x_block_normal (x_normal (wp_region_lit (l_op (f_mv F37 rfl rfl rfl rfl rfl fun _ F39 => ?_)))))
     refine l_op (f_val F39 rfl rfl (r_add (z := ((k + 1 : Nat) : Int)) rfl (F39.ev 17 rfl) rfl (by first | rfl | omega) ⟨by first | omega | (unfold i64ok at *; omega), by first | omega | (unfold i64ok at *; omega)⟩) rfl fun _ F40 => ?_)
     refine l_op (f_as F40 rfl rfl rfl rfl rfl fun _ F41 => ?_)
     refine s_end ?_
     refine x_normal ⟨k + 1, by omega, A34, N34, C34, F41.cut rfl, (Mv.cast ((S19.trans (S32.trans (S34.trans T38))).pick [0, 1, 2] rfl) (by (rw [namesL_step hx1]); all_goals rfl)), by omega⟩
   · skip
     refine wp_exit (x_then_exit (x_then_exit (x_block_here (x_normal (wp_seq (wp_region_lit (l_op (f_val (v := .agg #[.slice Q3 Q5 Q4, .slice Q0 Q2 Q1, .slice Q6 Q8 Q7]) F23 rfl rfl (r_loadB S19.at' 1 TI_29 rfl rfl (F23.ev 1 rfl) rfl rfl (fun h => nomatch h) rfl) rfl fun _ F42 => ?_))))))))
     refine l_op (f_mv F42 rfl rfl rfl rfl rfl fun _ F43 => ?_)
     refine l_op (s_store S19.at' 2 TI_29 rfl rfl rfl rfl rfl (F43.ev 2 rfl) (F43.ev 27 rfl) rfl rfl rfl rfl rfl fun w44 S44 => ?_)
     refine l_op (f_as F43 rfl rfl rfl rfl rfl fun _ F45 => ?_)
     refine s_end (x_normal (wp_ret ?_))
     have Z46 : Rd 1 encS okS (V H w [bx b3 [.slice Q3 Q5 Q4, .slice Q0 Q2 Q1, .slice Q6 Q8 Q7] 29, bx b1 [.slice Q3 Q5 Q4, .slice Q0 Q2 Q1, .slice Q6 Q8 Q7] 29]) w44 (.slice oa on oc) (namesL ((keysUnder m.store (⟨#[110, 47]⟩ : ByteArray)).take k)) := At.freeze (S1.trans (S3.trans (S7.trans (T14.trans (S15.trans (S19.trans S44)))))) ET_25.hk 1 rfl (fun b hb => ((S1.trans (S3.trans (S7.trans (T14.trans (S15.trans (S19.trans S44)))))).fresh b ⟨_, nth_mem (i := 1) rfl, hb⟩).resolve_left (fps_nil _))
     have S46 := At.drop S44.at' 1
     refine x_done (v := .tuple #[.agg #[.slice Q3 Q5 Q4, .slice Q0 Q2 Q1, .slice Q6 Q8 Q7], .slice oa on oc]) F45 (results_2 Tryz.results65 (.cell (F45.ev 2 rfl) (run_loadVar' TI_29 _ [.slice Q3 Q5 Q4, .slice Q0 Q2 Q1, .slice Q6 Q8 Q7] rfl (fun h => nomatch h) (At.cells S44.at' 0 rfl 0 [.slice Q3 Q5 Q4, .slice Q0 Q2 Q1, .slice Q6 Q8 Q7] rfl))) (.tmp (F45.ev 3 rfl))) ?_
     exact ⟨Q3, Q5, Q4, Q0, Q2, Q1, Q6, Q8, Q7, oa, on, oc, rfl, (Mv.pick (S1.trans (S3.trans (S7.trans (T14.trans (S15.trans (S19.trans (S44.trans S46))))))) [] rfl), (Rd.give (Rd.mq V7_0 (T14.trans (S15.trans (S19.trans (S44.trans S46)))))), (Rd.give (Rd.mq V7_1 (T14.trans (S15.trans (S19.trans (S44.trans S46)))))), (Rd.give (Rd.mq V7_2 (T14.trans (S15.trans (S19.trans (S44.trans S46)))))), (Rd.cast (Rd.give Z46) (show (namesL ((keysUnder m.store (⟨#[110, 47]⟩ : ByteArray)).take k)) = (namesL (keysUnder m.store (⟨#[110, 47]⟩ : ByteArray))) from by rw [List.take_of_length_le (by omega)]))⟩
theorem spec_NamesIn_c {w : World} {H : Nat → Prop} {m : MachD} {m_Sa : Option Addr} {m_Sn m_Sc : Nat} {m_Ra : Option Addr} {m_Rn m_Rc : Nat} {m_Wa : Option Addr} {m_Wn m_Wc : Nat} (Q21 : Rd 2 encC okC H w (.slice m_Sa m_Sn m_Sc) m.store) (Q22 : Rd 1 encS okS H w (.slice m_Ra m_Rn m_Rc) m.touch.reads) (Q23 : Rd 1 encS okS H w (.slice m_Wa m_Wn m_Wc) m.touch.writes) (p0 : m.store.length ≤ 68719476736) (p1 : m.touch.reads.length ≤ 68719476736) (p2 : m.touch.writes.length ≤ 68719476736) :
    Calls Tryz.prog 33 #[.agg #[.slice m_Sa m_Sn m_Sc, .slice m_Ra m_Rn m_Rc, .slice m_Wa m_Wn m_Wc]] w fun e w' => ∃ (Q15 : Option Addr), ∃ (Q17 : Nat), ∃ (Q16 : Nat), ∃ (Q12 : Option Addr), ∃ (Q14 : Nat), ∃ (Q13 : Nat), ∃ (Q18 : Option Addr), ∃ (Q20 : Nat), ∃ (Q19 : Nat), ∃ (r1_a : Option Addr), ∃ (r1_n : Nat), ∃ (r1_c : Nat), e = .returned (.tuple #[.agg #[.slice Q15 Q17 Q16, .slice Q12 Q14 Q13, .slice Q18 Q20 Q19], .slice r1_a r1_n r1_c]) ∧ Mv [] w [] w' ∧ Rd 2 encC okC (Fsh H w) w' (.slice Q15 Q17 Q16) (lookM m ((⟨#[110, 47]⟩ : ByteArray) ++ bT_)).store ∧ Rd 1 encS okS (Fsh H w) w' (.slice Q12 Q14 Q13) (lookM m ((⟨#[110, 47]⟩ : ByteArray) ++ bT_)).touch.reads ∧ Rd 1 encS okS (Fsh H w) w' (.slice Q18 Q20 Q19) (lookM m ((⟨#[110, 47]⟩ : ByteArray) ++ bT_)).touch.writes ∧ Rd 1 encS okS (Fsh H w) w' (.slice r1_a r1_n r1_c) (namesL (keysUnder m.store (⟨#[110, 47]⟩ : ByteArray))) := by
 have uU : True := (fun _ _ _ => trivial) p0 p1 p2
 clear uU
 have Q24 : Rd 2 encC okC (V H w []) w (.slice m_Sa m_Sn m_Sc) m.store := Rd.start Q21 (fun _ _ => fps_nil _)
 obtain ⟨Q30, Q27, Q33, Q36⟩ := Rd.inv Q21
 have Q25 : Rd 1 encS okS (V H w []) w (.slice m_Ra m_Rn m_Rc) m.touch.reads := Rd.start Q22 (fun _ _ => fps_nil _)
 obtain ⟨Q31, Q28, Q34, Q37⟩ := Rd.inv Q22
 have Q26 : Rd 1 encS okS (V H w []) w (.slice m_Wa m_Wn m_Wc) m.touch.writes := Rd.start Q23 (fun _ _ => fps_nil _)
 obtain ⟨Q32, Q29, Q35, Q38⟩ := Rd.inv Q23
 refine calls_enter 9 Tryz.func33 rfl Tryz.ntmps33 (Nat.le_of_ble_eq_true rfl) (fun _ F0i => ?_)
 have F0 : Fr 9 [(0, .agg #[.slice m_Sa m_Sn m_Sc, .slice m_Ra m_Rn m_Rc, .slice m_Wa m_Wn m_Wc])] _ := F0i
 clear F0i
 refine wp_seq (wp_region_lit (l_op (f_box F0 (At.nil w) rfl rfl rfl (F0.ev 0 rfl) rfl rfl fun b1 _ w1 F2 S1 => ?_)))
 refine l_op (f_alloc F2 S1.at' ZI_29 rfl rfl rfl rfl rfl fun b3 _ w3 F4 S3 => ?_)
 refine l_op (f_val F4 rfl rfl (r_assign rfl rfl) rfl fun _ F5 => ?_)
 refine s_end (x_normal (wp_seq (wp_region_lit (l_op (f_val (v := .agg #[.slice m_Sa m_Sn m_Sc, .slice m_Ra m_Rn m_Rc, .slice m_Wa m_Wn m_Wc]) F5 rfl rfl (r_loadB S3.at' 1 TI_29 rfl rfl (F5.ev 1 rfl) rfl rfl (fun h => nomatch h) rfl) rfl fun _ F6 => ?_)))))
 refine l_op (f_call F6 CF_42 rfl rfl rfl rfl (lc (F6.ev 4 rfl) rfl) (spec_l04Copy_c (m := m) (Rd.mq Q24 (S1.trans S3)) (Rd.mq Q25 (S1.trans S3)) (Rd.mq Q26 (S1.trans S3)) (by first | assumption | omega | (simp <;> omega)) (by first | assumption | omega | (simp <;> omega)) (by first | assumption | omega | (simp <;> omega))) ?_)
 rintro _ w7 ⟨Q42, Q44, Q43, Q39, Q41, Q40, Q45, Q47, Q46, rfl, m7, v7_0, v7_1, v7_2⟩
 refine ⟨_, rfl, fun _ F8 => ?_⟩
 have S7 := At.frame0 S3.at' m7
 have V7_0 := Rd.got0 S3.at' ((S1.trans S3).kp.size) v7_0 S7
 obtain ⟨ln7_0, le7_0, mx7_0, ni7_0⟩ := Rd.inv V7_0
 have V7_1 := Rd.got0 S3.at' ((S1.trans S3).kp.size) v7_1 S7
 obtain ⟨ln7_1, le7_1, mx7_1, ni7_1⟩ := Rd.inv V7_1
 have V7_2 := Rd.got0 S3.at' ((S1.trans S3).kp.size) v7_2 S7
 obtain ⟨ln7_2, le7_2, mx7_2, ni7_2⟩ := Rd.inv V7_2
 clear m7 v7_0 v7_1 v7_2
 refine l_op (f_call F8 CF_65 rfl rfl rfl rfl (lc (F8.ev 5 rfl) rfl) (spec_l06NamesIn_c (m := m) V7_0 V7_1 V7_2 (by first | assumption | omega | (simp <;> omega)) (by first | assumption | omega | (simp <;> omega)) (by first | assumption | omega | (simp <;> omega))) ?_)
 rintro _ w9 ⟨Q3, Q5, Q4, Q0, Q2, Q1, Q6, Q8, Q7, Q9, Q11, Q10, rfl, m9, v9_0, v9_1, v9_2, v9_3⟩
 refine ⟨_, rfl, fun _ F10 => ?_⟩
 have S9 := At.frame0 S7.at' m9
 have V9_0 := Rd.got0 S7.at' ((S1.trans (S3.trans S7)).kp.size) v9_0 S9
 obtain ⟨ln9_0, le9_0, mx9_0, ni9_0⟩ := Rd.inv V9_0
 have V9_1 := Rd.got0 S7.at' ((S1.trans (S3.trans S7)).kp.size) v9_1 S9
 obtain ⟨ln9_1, le9_1, mx9_1, ni9_1⟩ := Rd.inv V9_1
 have V9_2 := Rd.got0 S7.at' ((S1.trans (S3.trans S7)).kp.size) v9_2 S9
 obtain ⟨ln9_2, le9_2, mx9_2, ni9_2⟩ := Rd.inv V9_2
 have V9_3 := Rd.got0 S7.at' ((S1.trans (S3.trans S7)).kp.size) v9_3 S9
 obtain ⟨ln9_3, le9_3, mx9_3, ni9_3⟩ := Rd.inv V9_3
 clear m9 v9_0 v9_1 v9_2 v9_3
 refine l_op (f_val (v := .agg #[.slice Q3 Q5 Q4, .slice Q0 Q2 Q1, .slice Q6 Q8 Q7]) F10 rfl rfl (r_extract rfl (F10.ev 6 rfl) rfl) rfl fun _ F11 => ?_)
 refine l_op (f_val (v := .slice Q9 Q11 Q10) F11 rfl rfl (r_extract rfl (F11.ev 6 rfl) rfl) rfl fun _ F12 => ?_)
 refine l_op (s_store S9.at' 0 TI_29 rfl rfl rfl rfl rfl (F12.ev 2 rfl) (F12.ev 7 rfl) rfl rfl rfl rfl rfl fun w13 S13 => ?_)
 refine l_op (f_as F12 rfl rfl rfl rfl rfl fun _ F14 => ?_)
 have T15 : Mv _ _ [bx b3 [.slice Q3 Q5 Q4, .slice Q0 Q2 Q1, .slice Q6 Q8 Q7] 29, bx b1 [.slice m_Sa m_Sn m_Sc, .slice m_Ra m_Rn m_Rc, .slice m_Wa m_Wn m_Wc] 29] _ := S13
 refine s_end (x_normal (wp_ret ?_))
 refine x_done (v := .tuple #[.agg #[.slice Q3 Q5 Q4, .slice Q0 Q2 Q1, .slice Q6 Q8 Q7], .slice Q9 Q11 Q10]) F14 (results_2 Tryz.results33 (.cell (F14.ev 2 rfl) (run_loadVar' TI_29 _ [.slice Q3 Q5 Q4, .slice Q0 Q2 Q1, .slice Q6 Q8 Q7] rfl (fun h => nomatch h) (At.cells T15.at' 0 rfl 0 [.slice Q3 Q5 Q4, .slice Q0 Q2 Q1, .slice Q6 Q8 Q7] rfl))) (.tmp (F14.ev 3 rfl))) ?_
 exact ⟨Q3, Q5, Q4, Q0, Q2, Q1, Q6, Q8, Q7, Q9, Q11, Q10, rfl, (Mv.pick (S1.trans (S3.trans (S7.trans (S9.trans T15)))) [] rfl), (Rd.give (Rd.mq V9_0 T15)), (Rd.give (Rd.mq V9_1 T15)), (Rd.give (Rd.mq V9_2 T15)), (Rd.give (Rd.mq V9_3 T15))⟩
theorem impl_Mach_names_c {w : World} {H : Nat → Prop} {m : MachD} {m_Sa : Option Addr} {m_Sn m_Sc : Nat} {m_Ra : Option Addr} {m_Rn m_Rc : Nat} {m_Wa : Option Addr} {m_Wn m_Wc : Nat} {m_b : Nat}  (p0 : m.store.length ≤ 68719476736) (p1 : m.touch.reads.length ≤ 68719476736) (p2 : m.touch.writes.length ≤ 68719476736) (hA : At w [bx m_b [.slice m_Sa m_Sn m_Sc, .slice m_Ra m_Rn m_Rc, .slice m_Wa m_Wn m_Wc] 29, ow 73 2 encC okC (.slice m_Sa m_Sn m_Sc) m.store, ow 9 1 encS okS (.slice m_Ra m_Rn m_Rc) m.touch.reads, ow 9 1 encS okS (.slice m_Wa m_Wn m_Wc) m.touch.writes]) :
    Calls Tryz.prog 64 #[.pointer (some ⟨m_b, 0, none⟩)] w fun e w' => ∃ (r0_a : Option Addr), ∃ (r0_n : Nat), ∃ (r0_c : Nat), ∃ (Q15 : Option Addr), ∃ (Q17 : Nat), ∃ (Q16 : Nat), ∃ (Q12 : Option Addr), ∃ (Q14 : Nat), ∃ (Q13 : Nat), ∃ (Q18 : Option Addr), ∃ (Q20 : Nat), ∃ (Q19 : Nat), e = .returned (.slice r0_a r0_n r0_c) ∧ Mv [bx m_b [.slice m_Sa m_Sn m_Sc, .slice m_Ra m_Rn m_Rc, .slice m_Wa m_Wn m_Wc] 29, ow 73 2 encC okC (.slice m_Sa m_Sn m_Sc) m.store, ow 9 1 encS okS (.slice m_Ra m_Rn m_Rc) m.touch.reads, ow 9 1 encS okS (.slice m_Wa m_Wn m_Wc) m.touch.writes] w [ow 9 1 encS okS (.slice r0_a r0_n r0_c) (namesL (keysUnder m.store (⟨#[110, 47]⟩ : ByteArray))), bx m_b [.slice Q15 Q17 Q16, .slice Q12 Q14 Q13, .slice Q18 Q20 Q19] 29, ow 73 2 encC okC (.slice Q15 Q17 Q16) (lookM m ((⟨#[110, 47]⟩ : ByteArray) ++ bT_)).store, ow 9 1 encS okS (.slice Q12 Q14 Q13) (lookM m ((⟨#[110, 47]⟩ : ByteArray) ++ bT_)).touch.reads, ow 9 1 encS okS (.slice Q18 Q20 Q19) (lookM m ((⟨#[110, 47]⟩ : ByteArray) ++ bT_)).touch.writes] w' := by
 have uU : True := (fun _ _ _ _ => trivial) H p0 p1 p2
 clear uU
 obtain ⟨lo1, lp1, lq1⟩ := At.ownInv hA ET_24.hk 1 rfl
 obtain ⟨lo2, lp2, lq2⟩ := At.ownInv hA ET_25.hk 2 rfl
 obtain ⟨lo3, lp3, lq3⟩ := At.ownInv hA ET_25.hk 3 rfl
 refine calls_enter 20 Tryz.func64 rfl Tryz.ntmps64 (Nat.le_of_ble_eq_true rfl) (fun _ F0i => ?_)
 have F0 : Fr 20 [(0, .pointer (some ⟨m_b, 0, none⟩))] _ := F0i
 clear F0i
 refine wp_seq (wp_region_lit (l_op (f_val F0 rfl rfl (r_assign rfl rfl) rfl fun _ F1 => ?_)))
 refine s_end (x_normal (wp_seq (wp_region_lit (l_op (f_val F1 rfl rfl (r_assign rfl rfl) rfl fun _ F2 => ?_)))))
 refine s_end (x_normal (wp_seq (wp_seq (wp_region_lit (l_op (f_mv F2 rfl rfl rfl rfl rfl fun _ F3 => ?_))))))
 refine l_op (f_call F3 CF_47 rfl rfl rfl rfl (lc (F3.ev 6 rfl) (lc rfl rfl)) (impl_Mach_under_c (H := fun _ => True) (m := m) (pfx := (⟨#[110, 47]⟩ : ByteArray)) (by unfold okS; decide) (by first | assumption | omega | decide) (by first | assumption | omega | decide) (by first | assumption | omega | decide) (At.pick (is := [0, 1, 2, 3]) hA rfl)) ?_)
 rintro _ w4 ⟨Q10, Q9, Q11, Q3, Q5, Q4, Q0, Q2, Q1, Q6, Q8, Q7, rfl, m4⟩
 refine ⟨_, rfl, fun _ F5 => ?_⟩
 have S4 : Mv _ _ [ow 9 1 encS okS (.slice Q10 Q9 Q11) (keysUnder m.store (⟨#[110, 47]⟩ : ByteArray)), bx m_b [.slice Q3 Q5 Q4, .slice Q0 Q2 Q1, .slice Q6 Q8 Q7] 29, ow 73 2 encC okC (.slice Q3 Q5 Q4) (lookM m ((⟨#[110, 47]⟩ : ByteArray) ++ bT_)).store, ow 9 1 encS okS (.slice Q0 Q2 Q1) (lookM m ((⟨#[110, 47]⟩ : ByteArray) ++ bT_)).touch.reads, ow 9 1 encS okS (.slice Q6 Q8 Q7) (lookM m ((⟨#[110, 47]⟩ : ByteArray) ++ bT_)).touch.writes] _ := At.frame hA [0, 1, 2, 3] rfl m4
 obtain ⟨Q21, Q25, Q29⟩ := At.ownInv S4.at' ET_25.hk 0 rfl
 obtain ⟨Q22, Q26, Q30⟩ := At.ownInv S4.at' ET_24.hk 2 rfl
 obtain ⟨Q23, Q27, Q31⟩ := At.ownInv S4.at' ET_25.hk 3 rfl
 obtain ⟨Q24, Q28, Q32⟩ := At.ownInv S4.at' ET_25.hk 4 rfl
 clear m4
 refine l_op (f_val F5 rfl rfl (r_len Tryz.underlying25 rfl (F5.ev 7 rfl)) rfl fun _ F6 => ?_)
 refine l_op (f_val F6 rfl rfl (r_move rfl rfl) rfl fun _ F7 => ?_)
 refine s_end (x_normal (wp_block ?_))
 have S9 : Mv [ow 9 1 encS okS (.slice Q10 Q9 Q11) (keysUnder m.store (⟨#[110, 47]⟩ : ByteArray)), bx m_b [.slice Q3 Q5 Q4, .slice Q0 Q2 Q1, .slice Q6 Q8 Q7] 29, ow 73 2 encC okC (.slice Q3 Q5 Q4) (lookM m ((⟨#[110, 47]⟩ : ByteArray) ++ bT_)).store, ow 9 1 encS okS (.slice Q0 Q2 Q1) (lookM m ((⟨#[110, 47]⟩ : ByteArray) ++ bT_)).touch.reads, ow 9 1 encS okS (.slice Q6 Q8 Q7) (lookM m ((⟨#[110, 47]⟩ : ByteArray) ++ bT_)).touch.writes] w4 [ow 9 1 encS okS (.slice none 0 0) ([] : List ByteArray), ow 9 1 encS okS (.slice Q10 Q9 Q11) (keysUnder m.store (⟨#[110, 47]⟩ : ByteArray)), bx m_b [.slice Q3 Q5 Q4, .slice Q0 Q2 Q1, .slice Q6 Q8 Q7] 29, ow 73 2 encC okC (.slice Q3 Q5 Q4) (lookM m ((⟨#[110, 47]⟩ : ByteArray) ++ bT_)).store, ow 9 1 encS okS (.slice Q0 Q2 Q1) (lookM m ((⟨#[110, 47]⟩ : ByteArray) ++ bT_)).touch.reads, ow 9 1 encS okS (.slice Q6 Q8 Q7) (lookM m ((⟨#[110, 47]⟩ : ByteArray) ++ bT_)).touch.writes] w4 := mv_nil S4.at'
 refine x_loop (fun (k : Nat) aZ wZ => ∃ (oa : Option Addr), ∃ (on : Nat), ∃ (oc : Nat), Fr 20 [(9, .int .i64 ((k : Nat) : Int)), (8, .int .i64 ((Q9 : Nat) : Int)), (7, .slice Q10 Q9 Q11), (3, .slice oa on oc)] aZ ∧ Mv [ow 9 1 encS okS (.slice none 0 0) ([] : List ByteArray), ow 9 1 encS okS (.slice Q10 Q9 Q11) (keysUnder m.store (⟨#[110, 47]⟩ : ByteArray)), bx m_b [.slice Q3 Q5 Q4, .slice Q0 Q2 Q1, .slice Q6 Q8 Q7] 29, ow 73 2 encC okC (.slice Q3 Q5 Q4) (lookM m ((⟨#[110, 47]⟩ : ByteArray) ++ bT_)).store, ow 9 1 encS okS (.slice Q0 Q2 Q1) (lookM m ((⟨#[110, 47]⟩ : ByteArray) ++ bT_)).touch.reads, ow 9 1 encS okS (.slice Q6 Q8 Q7) (lookM m ((⟨#[110, 47]⟩ : ByteArray) ++ bT_)).touch.writes] w4 [ow 9 1 encS okS (.slice oa on oc) (namesL ((keysUnder m.store (⟨#[110, 47]⟩ : ByteArray)).take k)), ow 9 1 encS okS (.slice Q10 Q9 Q11) (keysUnder m.store (⟨#[110, 47]⟩ : ByteArray)), bx m_b [.slice Q3 Q5 Q4, .slice Q0 Q2 Q1, .slice Q6 Q8 Q7] 29, ow 73 2 encC okC (.slice Q3 Q5 Q4) (lookM m ((⟨#[110, 47]⟩ : ByteArray) ++ bT_)).store, ow 9 1 encS okS (.slice Q0 Q2 Q1) (lookM m ((⟨#[110, 47]⟩ : ByteArray) ++ bT_)).touch.reads, ow 9 1 encS okS (.slice Q6 Q8 Q7) (lookM m ((⟨#[110, 47]⟩ : ByteArray) ++ bT_)).touch.writes] wZ ∧ (k ≤ (keysUnder m.store (⟨#[110, 47]⟩ : ByteArray)).length)) (fun (k : Nat) => (keysUnder m.store (⟨#[110, 47]⟩ : ByteArray)).length - k) (0) ?_ ?_
 · exact ⟨none, 0, 0, F7.cut rfl, (Mv.refl S9.at'), by omega⟩
 · rintro k a8 w8 ⟨oa, on, oc, F8, S8, hk_0⟩
   refine wp_seq (wp_region_lit (l_op (f_val F8 rfl rfl (r_cmp (b := decide (k < Q9)) (.inr (.inr (.inl rfl))) rfl (F8.ev 9 rfl) (F8.ev 8 rfl) (dec_of (by omega))) rfl fun _ F10 => ?_)))
   refine s_end (x_normal (wp_seq (x_cond (p := k < Q9) (F10.ev 10 rfl) (fun h11 => ?_) (fun h11 => ?_))))
   · skip
     refine wp_skip (x_normal (wp_seq (wp_block (wp_seq (wp_region_lit ?_)))))
     obtain ⟨B12, O12, x1, ad12, hx1, okx1, ln12, cl12⟩ := Rd.at (At.rd S8.at' ET_25.hk 1 rfl) k (by first | assumption | omega)
     clear ln12
     refine l_op (f_val F10 rfl rfl (r_indexAddr (i := k) ET_25 rfl ((F10.ev 7 rfl).trans (by rw [ad12])) (F10.ev 9 rfl) (by omega) (by first | assumption | omega)) rfl fun _ F13 => ?_)
     refine l_op (f_val (v := .string x1) F13 rfl rfl (r_load (cs := [.string x1]) TI_9 rfl (F13.ev 11 rfl) rfl (fun _ => rfl) (elem_sub (f := 0) cl12 [.string x1] rfl)) rfl fun _ F14 => ?_)
     refine l_op (f_as F14 rfl rfl rfl rfl rfl fun _ F15 => ?_)
     refine s_end (x_normal (wp_region_lit (l_op (f_mv F15 rfl rfl rfl rfl rfl fun _ F16 => ?_))))
     refine l_op (f_mv F16 rfl rfl rfl rfl rfl fun _ F17 => ?_)
     refine l_op (f_val F17 rfl rfl (r_sliceS (l := 2) (h := x1.size) Tryz.underlying9 rfl (F17.ev 14 rfl) rfl rfl (by have := keysUnder_size hx1; omega) (by have := keysUnder_size hx1; omega) rfl) rfl fun _ F18 => ?_)
     refine l_op (f_buildSl (ok := okS) (vs := [.string (x1.extract 2 x1.size)]) F18 S8.at' ([(x1.extract 2 x1.size)]) ET_25 rfl rfl rfl rfl rfl rfl (lc (pr2 (F18.ev 15 rfl)) rfl) rfl rfl (fun x hx => (List.mem_singleton.1 hx) ▸ (okS_ext okx1)) fun b19 _ w19 F20 S19 => ?_)
     refine l_op (f_app (news := [(x1.extract 2 x1.size)]) F20 S19.at' 1 ET_25 rfl rfl rfl rfl rfl rfl (F20.ev 13 rfl) (F20.ev 16 rfl) ((At.rd S19.at' ET_25.hk 0 rfl)).1 (by have := namesL_length ((keysUnder m.store (⟨#[110, 47]⟩ : ByteArray)).take k); rw [List.length_take] at this; have := keysUnder_length m.store (⟨#[110, 47]⟩ : ByteArray); first | omega | ((repeat (first | rw [List.length_append] | rw [List.length_cons] | rw [List.length_nil] | rw [List.length_take] | rw [List.length_drop])) <;> omega)) fun A21 N21 C21 _ w21 F22 S21 l21 => ?_)
     have S23 := At.drop S21.at' 1
     refine l_op (f_as F22 rfl rfl rfl rfl rfl fun _ F24 => ?_)
     have T25 : Mv _ _ [ow 9 1 encS okS (.slice A21 N21 C21) ((namesL ((keysUnder m.store (⟨#[110, 47]⟩ : ByteArray)).take k)) ++ ([(x1.extract 2 x1.size)])), ow 9 1 encS okS (.slice Q10 Q9 Q11) (keysUnder m.store (⟨#[110, 47]⟩ : ByteArray)), bx m_b [.slice Q3 Q5 Q4, .slice Q0 Q2 Q1, .slice Q6 Q8 Q7] 29, ow 73 2 encC okC (.slice Q3 Q5 Q4) (lookM m ((⟨#[110, 47]⟩ : ByteArray) ++ bT_)).store, ow 9 1 encS okS (.slice Q0 Q2 Q1) (lookM m ((⟨#[110, 47]⟩ : ByteArray) ++ bT_)).touch.reads, ow 9 1 encS okS (.slice Q6 Q8 Q7) (lookM m ((⟨#[110, 47]⟩ : ByteArray) ++ bT_)).touch.writes] _ := S23
     refine s_end (x_block_normal (x_normal (wp_region_lit (l_op (f_val F24 rfl rfl (r_add (z := ((k + 1 : Nat) : Int)) rfl (F24.ev 9 rfl) rfl (by first | rfl | omega) ⟨by first | omega | (unfold i64ok at *; omega), by first | omega | (unfold i64ok at *; omega)⟩) rfl fun _ F26 => ?_)))))
     refine l_op (f_mv F26 rfl rfl rfl rfl rfl fun _ F27 => ?_)
     refine s_end ?_
     refine x_normal ⟨k + 1, by omega, A21, N21, C21, F27.cut rfl, (Mv.cast ((S8.trans (S19.trans (S21.trans T25))).pick [0, 1, 2, 3, 4, 5] rfl) (by (rw [namesL_step hx1]); all_goals rfl)), by omega⟩
   · skip
     refine wp_exit (x_then_exit (x_then_exit (x_block_here (x_normal (wp_seq (wp_region_lit (l_op (f_mv F10 rfl rfl rfl rfl rfl fun _ F28 => ?_))))))))
     refine l_op (f_as F28 rfl rfl rfl rfl rfl fun _ F29 => ?_)
     refine s_end (x_normal (wp_ret ?_))
     refine x_done (v := .slice oa on oc) F29 (results_1 Tryz.results64 (.tmp (F29.ev 2 rfl))) ?_
     exact ⟨oa, on, oc, Q3, Q5, Q4, Q0, Q2, Q1, Q6, Q8, Q7, rfl, (Mv.cast (Mv.pick (S4.trans (S9.trans S8)) [0, 2, 3, 4, 5] rfl) (by rw [(show (namesL ((keysUnder m.store (⟨#[110, 47]⟩ : ByteArray)).take k)) = (namesL (keysUnder m.store (⟨#[110, 47]⟩ : ByteArray))) from by rw [List.take_of_length_le (by omega)])]; all_goals rfl))⟩
theorem impl_NamesIn_c {w : World} {H : Nat → Prop} {m : MachD} {m_Sa : Option Addr} {m_Sn m_Sc : Nat} {m_Ra : Option Addr} {m_Rn m_Rc : Nat} {m_Wa : Option Addr} {m_Wn m_Wc : Nat} (Q30 : Rd 2 encC okC H w (.slice m_Sa m_Sn m_Sc) m.store) (Q31 : Rd 1 encS okS H w (.slice m_Ra m_Rn m_Rc) m.touch.reads) (Q32 : Rd 1 encS okS H w (.slice m_Wa m_Wn m_Wc) m.touch.writes) (p0 : m.store.length ≤ 68719476736) (p1 : m.touch.reads.length ≤ 68719476736) (p2 : m.touch.writes.length ≤ 68719476736) :
    Calls Tryz.prog 32 #[.agg #[.slice m_Sa m_Sn m_Sc, .slice m_Ra m_Rn m_Rc, .slice m_Wa m_Wn m_Wc]] w fun e w' => ∃ (Q24 : Option Addr), ∃ (Q26 : Nat), ∃ (Q25 : Nat), ∃ (Q21 : Option Addr), ∃ (Q23 : Nat), ∃ (Q22 : Nat), ∃ (Q27 : Option Addr), ∃ (Q29 : Nat), ∃ (Q28 : Nat), ∃ (r1_a : Option Addr), ∃ (r1_n : Nat), ∃ (r1_c : Nat), e = .returned (.tuple #[.agg #[.slice Q24 Q26 Q25, .slice Q21 Q23 Q22, .slice Q27 Q29 Q28], .slice r1_a r1_n r1_c]) ∧ Mv [] w [ow 73 2 encC okC (.slice Q24 Q26 Q25) (lookM m ((⟨#[110, 47]⟩ : ByteArray) ++ bT_)).store, ow 9 1 encS okS (.slice Q21 Q23 Q22) (lookM m ((⟨#[110, 47]⟩ : ByteArray) ++ bT_)).touch.reads, ow 9 1 encS okS (.slice Q27 Q29 Q28) (lookM m ((⟨#[110, 47]⟩ : ByteArray) ++ bT_)).touch.writes, ow 9 1 encS okS (.slice r1_a r1_n r1_c) (namesL (keysUnder m.store (⟨#[110, 47]⟩ : ByteArray)))] w' := by
 have uU : True := (fun _ _ _ => trivial) p0 p1 p2
 clear uU
 have Q33 : Rd 2 encC okC (V H w []) w (.slice m_Sa m_Sn m_Sc) m.store := Rd.start Q30 (fun _ _ => fps_nil _)
 obtain ⟨Q39, Q36, Q63, Q66⟩ := Rd.inv Q30
 have Q34 : Rd 1 encS okS (V H w []) w (.slice m_Ra m_Rn m_Rc) m.touch.reads := Rd.start Q31 (fun _ _ => fps_nil _)
 obtain ⟨Q40, Q37, Q64, Q67⟩ := Rd.inv Q31
 have Q35 : Rd 1 encS okS (V H w []) w (.slice m_Wa m_Wn m_Wc) m.touch.writes := Rd.start Q32 (fun _ _ => fps_nil _)
 obtain ⟨Q41, Q38, Q65, Q68⟩ := Rd.inv Q32
 refine calls_enter 10 Tryz.func32 rfl Tryz.ntmps32 (Nat.le_of_ble_eq_true rfl) (fun _ F0i => ?_)
 have F0 : Fr 10 [(0, .agg #[.slice m_Sa m_Sn m_Sc, .slice m_Ra m_Rn m_Rc, .slice m_Wa m_Wn m_Wc])] _ := F0i
 clear F0i
 refine wp_seq (wp_region_lit (l_op (f_box F0 (At.nil w) rfl rfl rfl (F0.ev 0 rfl) rfl rfl fun b1 _ w1 F2 S1 => ?_)))
 refine l_op (f_alloc F2 S1.at' ZI_29 rfl rfl rfl rfl rfl fun b3 _ w3 F4 S3 => ?_)
 refine l_op (f_val F4 rfl rfl (r_assign rfl rfl) rfl fun _ F5 => ?_)
 refine s_end (x_normal (wp_seq (wp_region_lit (l_op (f_val (v := .agg #[.slice m_Sa m_Sn m_Sc, .slice m_Ra m_Rn m_Rc, .slice m_Wa m_Wn m_Wc]) F5 rfl rfl (r_loadB S3.at' 1 TI_29 rfl rfl (F5.ev 1 rfl) rfl rfl (fun h => nomatch h) rfl) rfl fun _ F6 => ?_)))))
 refine l_op (f_call F6 CF_39 rfl rfl rfl rfl (lc (F6.ev 5 rfl) rfl) (impl_Mach_clone_c (m := m) (Rd.mq Q33 (S1.trans S3)) (Rd.mq Q34 (S1.trans S3)) (Rd.mq Q35 (S1.trans S3)) (by first | assumption | omega | (simp <;> omega)) (by first | assumption | omega | (simp <;> omega)) (by first | assumption | omega | (simp <;> omega))) ?_)
 rintro _ w7 ⟨Q12, Q14, Q13, Q9, Q11, Q10, Q15, Q17, Q16, rfl, m7⟩
 refine ⟨_, rfl, fun _ F8 => ?_⟩
 have S7 : Mv _ _ [ow 73 2 encC okC (.slice Q12 Q14 Q13) m.store, ow 9 1 encS okS (.slice Q9 Q11 Q10) m.touch.reads, ow 9 1 encS okS (.slice Q15 Q17 Q16) m.touch.writes, bx b3 [.slice none 0 0, .slice none 0 0, .slice none 0 0] 29, bx b1 [.slice m_Sa m_Sn m_Sc, .slice m_Ra m_Rn m_Rc, .slice m_Wa m_Wn m_Wc] 29] _ := At.frame S3.at' [] rfl m7
 obtain ⟨Q46, Q53, Q60⟩ := At.ownInv S7.at' ET_24.hk 0 rfl
 obtain ⟨Q47, Q54, Q61⟩ := At.ownInv S7.at' ET_25.hk 1 rfl
 obtain ⟨Q48, Q55, Q62⟩ := At.ownInv S7.at' ET_25.hk 2 rfl
 clear m7
 refine l_op (s_store S7.at' 4 TI_29 rfl rfl rfl rfl rfl (F8.ev 1 rfl) (F8.ev 6 rfl) rfl rfl rfl rfl rfl fun w9 S9 => ?_)
 have T10 : Mv _ _ [bx b1 [.slice Q12 Q14 Q13, .slice Q9 Q11 Q10, .slice Q15 Q17 Q16] 29, ow 73 2 encC okC (.slice Q12 Q14 Q13) m.store, ow 9 1 encS okS (.slice Q9 Q11 Q10) m.touch.reads, ow 9 1 encS okS (.slice Q15 Q17 Q16) m.touch.writes, bx b3 [.slice none 0 0, .slice none 0 0, .slice none 0 0] 29] _ := S9
 refine s_end (x_normal (wp_seq (wp_region_lit (l_op (f_call F8 CF_64 rfl rfl rfl rfl (lc (F8.ev 1 rfl) rfl) (impl_Mach_names_c (H := fun _ => True) (m := m) (by first | assumption | omega | (simp <;> omega)) (by first | assumption | omega | (simp <;> omega)) (by first | assumption | omega | (simp <;> omega)) (At.pick (is := [0, 1, 2, 3]) T10.at' rfl)) ?_)))))
 rintro _ w11 ⟨Q18, Q20, Q19, Q3, Q5, Q4, Q0, Q2, Q1, Q6, Q8, Q7, rfl, m11⟩
 refine ⟨_, rfl, fun _ F12 => ?_⟩
 have S11 : Mv _ _ [ow 9 1 encS okS (.slice Q18 Q20 Q19) (namesL (keysUnder m.store (⟨#[110, 47]⟩ : ByteArray))), bx b1 [.slice Q3 Q5 Q4, .slice Q0 Q2 Q1, .slice Q6 Q8 Q7] 29, ow 73 2 encC okC (.slice Q3 Q5 Q4) (lookM m ((⟨#[110, 47]⟩ : ByteArray) ++ bT_)).store, ow 9 1 encS okS (.slice Q0 Q2 Q1) (lookM m ((⟨#[110, 47]⟩ : ByteArray) ++ bT_)).touch.reads, ow 9 1 encS okS (.slice Q6 Q8 Q7) (lookM m ((⟨#[110, 47]⟩ : ByteArray) ++ bT_)).touch.writes, bx b3 [.slice none 0 0, .slice none 0 0, .slice none 0 0] 29] _ := At.frame T10.at' [0, 1, 2, 3] rfl m11
 obtain ⟨Q42, Q49, Q56⟩ := At.ownInv S11.at' ET_25.hk 0 rfl
 obtain ⟨Q43, Q50, Q57⟩ := At.ownInv S11.at' ET_24.hk 2 rfl
 obtain ⟨Q44, Q51, Q58⟩ := At.ownInv S11.at' ET_25.hk 3 rfl
 obtain ⟨Q45, Q52, Q59⟩ := At.ownInv S11.at' ET_25.hk 4 rfl
 clear m11
 refine l_op (f_as F12 rfl rfl rfl rfl rfl fun _ F13 => ?_)
 refine s_end (x_normal (wp_seq (wp_region_lit (l_op (f_val (v := .agg #[.slice Q3 Q5 Q4, .slice Q0 Q2 Q1, .slice Q6 Q8 Q7]) F13 rfl rfl (r_loadB S11.at' 1 TI_29 rfl rfl (F13.ev 1 rfl) rfl rfl (fun h => nomatch h) rfl) rfl fun _ F14 => ?_)))))
 refine l_op (f_mv F14 rfl rfl rfl rfl rfl fun _ F15 => ?_)
 refine l_op (s_store S11.at' 5 TI_29 rfl rfl rfl rfl rfl (F15.ev 2 rfl) (F15.ev 8 rfl) rfl rfl rfl rfl rfl fun w16 S16 => ?_)
 refine l_op (f_as F15 rfl rfl rfl rfl rfl fun _ F17 => ?_)
 refine s_end (x_normal (wp_ret ?_))
 refine x_done (v := .tuple #[.agg #[.slice Q3 Q5 Q4, .slice Q0 Q2 Q1, .slice Q6 Q8 Q7], .slice Q18 Q20 Q19]) F17 (results_2 Tryz.results32 (.cell (F17.ev 2 rfl) (run_loadVar' TI_29 _ [.slice Q3 Q5 Q4, .slice Q0 Q2 Q1, .slice Q6 Q8 Q7] rfl (fun h => nomatch h) (At.cells S16.at' 0 rfl 0 [.slice Q3 Q5 Q4, .slice Q0 Q2 Q1, .slice Q6 Q8 Q7] rfl))) (.tmp (F17.ev 3 rfl))) ?_
 exact ⟨Q3, Q5, Q4, Q0, Q2, Q1, Q6, Q8, Q7, Q18, Q20, Q19, rfl, (Mv.pick (S1.trans (S3.trans (S7.trans (T10.trans (S11.trans S16))))) [3, 4, 5, 1] rfl)⟩
end Go.Proofs.YtibgmijfnbnfkaaGreatDoor
