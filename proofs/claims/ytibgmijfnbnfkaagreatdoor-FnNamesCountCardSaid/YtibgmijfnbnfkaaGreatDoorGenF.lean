/-
  Walks: keys under a beginning.
-/
import Derived.Test.YtibgmijfnbnfkaaGreatDoorGenE
namespace Go.Proofs.YtibgmijfnbnfkaaGreatDoor
open Go.ChangeShapes Go.WideShapes Go.ChangeAt Go.RowKit
set_option maxRecDepth 100000
set_option maxHeartbeats 1000000
theorem internal_stringslite_HasPrefix_c {w : World} {H : Nat → Prop} {s : ByteArray} {pfx : ByteArray} (h_s : okS s) (Q0 : okS pfx) :
    Calls Tryz.prog 127 #[.string s, .string pfx] w fun e w' => e = .returned (.bool (begins s pfx)) ∧ Mv [] w [] w' := by
 have uU : True := (fun _ _ _ => trivial) H h_s Q0
 clear uU
 refine calls_enter 18 Tryz.func127 rfl Tryz.ntmps127 (Nat.le_of_ble_eq_true rfl) (fun _ F0i => ?_)
 have F0 : Fr 18 [(0, .string s), (1, .string pfx)] _ := F0i
 clear F0i
 refine wp_seq (wp_region_lit (l_op (f_val F0 rfl rfl (r_assign rfl rfl) rfl fun _ F1 => ?_)))
 refine s_end (x_normal (wp_seq (wp_region_lit (l_op (f_mv F1 rfl rfl rfl rfl rfl fun _ F2 => ?_)))))
 refine l_op (f_val F2 rfl rfl (r_lenS (fun t ht => by cases ht; exact Tryz.underlying9) rfl rfl (F2.ev 5 rfl)) rfl fun _ F3 => ?_)
 refine l_op (f_mv F3 rfl rfl rfl rfl rfl fun _ F4 => ?_)
 refine l_op (f_val F4 rfl rfl (r_lenS (fun t ht => by cases ht; exact Tryz.underlying9) rfl rfl (F4.ev 7 rfl)) rfl fun _ F5 => ?_)
 refine l_op (f_val F5 rfl rfl (r_cmp (b := decide (s.size ≥ pfx.size)) (.inr (.inr (.inr (.inr (.inr rfl))))) rfl (F5.ev 6 rfl) (F5.ev 8 rfl) (dec_of (by omega))) rfl fun _ F6 => ?_)
 refine l_op (f_mv F6 rfl rfl rfl rfl rfl fun _ F7 => ?_)
 rcases Decidable.em (s.size ≥ pfx.size) with h8 | h8
 · rw [decide_eq_true h8] at F7
   refine l_op (f_mv F7 (wanted_g F7 rfl rfl rfl rfl) rfl rfl rfl rfl fun _ F9 => ?_)
   refine l_op (f_mv F9 (wanted_g F9 rfl rfl rfl rfl) rfl rfl rfl rfl fun _ F10 => ?_)
   refine l_op (f_val F10 (wanted_g F10 rfl rfl rfl rfl) rfl (r_lenS (fun t ht => by cases ht; exact Tryz.underlying9) rfl rfl (F10.ev 12 rfl)) rfl fun _ F11 => ?_)
   refine l_op (f_val F11 (wanted_g F11 rfl rfl rfl rfl) rfl (r_sliceS (l := 0) (h := pfx.size) Tryz.underlying9 rfl (F11.ev 11 rfl) rfl (F11.ev 13 rfl) (by first | assumption | omega) (by first | assumption | omega) rfl) rfl fun _ F12 => ?_)
   refine l_op (f_mv F12 (wanted_g F12 rfl rfl rfl rfl) rfl rfl rfl rfl fun _ F13 => ?_)
   refine l_op (f_val F13 (wanted_g F13 rfl rfl rfl rfl) rfl (r_cmps (b := (decide ((s.extract 0 pfx.size) = pfx))) (.inl rfl) rfl (F13.ev 14 rfl) (F13.ev 15 rfl) rfl) rfl fun _ F14 => ?_)
   refine l_op (f_val F14 rfl rfl (r_pick (b := true) rfl (F14.ev 10 rfl) (F14.ev 16 rfl)) rfl fun _ F15 => ?_)
   refine l_op (f_as F15 rfl rfl rfl rfl rfl fun _ F16 => ?_)
   refine s_end (x_normal (wp_ret ?_))
   refine x_done (v := .bool (decide ((s.extract 0 pfx.size) = pfx))) F16 (results_1 Tryz.results127 (.tmp (F16.ev 4 rfl))) ?_
   exact ⟨(by rw [(show (decide ((s.extract 0 pfx.size) = pfx)) = (begins s pfx) from by unfold begins; by_cases hb : pfx.size ≤ s.size <;> simp_all <;> omega)]), (Mv.pick (Mv.refl (At.nil w)) [] rfl)⟩
 · rw [decide_eq_false h8] at F7
   refine l_op (f_skip F7 (wanted_g F7 rfl rfl rfl rfl) rfl rfl fun _ F17 => ?_)
   refine l_op (f_skip F17 (wanted_g F17 rfl rfl rfl rfl) rfl rfl fun _ F18 => ?_)
   refine l_op (f_skip F18 (wanted_g F18 rfl rfl rfl rfl) rfl rfl fun _ F19 => ?_)
   refine l_op (f_skip F19 (wanted_g F19 rfl rfl rfl rfl) rfl rfl fun _ F20 => ?_)
   refine l_op (f_skip F20 (wanted_g F20 rfl rfl rfl rfl) rfl rfl fun _ F21 => ?_)
   refine l_op (f_skip F21 (wanted_g F21 rfl rfl rfl rfl) rfl rfl fun _ F22 => ?_)
   refine l_op (f_val F22 rfl rfl (r_pick (b := false) rfl (F22.ev 10 rfl) rfl) rfl fun _ F23 => ?_)
   refine l_op (f_as F23 rfl rfl rfl rfl rfl fun _ F24 => ?_)
   refine s_end (x_normal (wp_ret ?_))
   refine x_done (v := .bool false) F24 (results_1 Tryz.results127 (.tmp (F24.ev 4 rfl))) ?_
   exact ⟨(by rw [(show false = (begins s pfx) from by unfold begins; by_cases hb : pfx.size ≤ s.size <;> simp_all <;> omega)]), (Mv.pick (Mv.refl (At.nil w)) [] rfl)⟩
theorem strings_HasPrefix_c {w : World} {H : Nat → Prop} {s : ByteArray} {pfx : ByteArray} (h_s : okS s) (Q0 : okS pfx) :
    Calls Tryz.prog 110 #[.string s, .string pfx] w fun e w' => e = .returned (.bool (begins s pfx)) ∧ Mv [] w [] w' := by
 have uU : True := (fun _ => trivial) H
 clear uU
 refine calls_enter 8 Tryz.func110 rfl Tryz.ntmps110 (Nat.le_of_ble_eq_true rfl) (fun _ F0i => ?_)
 have F0 : Fr 8 [(0, .string s), (1, .string pfx)] _ := F0i
 clear F0i
 refine wp_seq (wp_region_lit (l_op (f_val F0 rfl rfl (r_assign rfl rfl) rfl fun _ F1 => ?_)))
 refine s_end (x_normal (wp_seq (wp_region_lit (l_op (f_mv F1 rfl rfl rfl rfl rfl fun _ F2 => ?_)))))
 refine l_op (f_mv F2 rfl rfl rfl rfl rfl fun _ F3 => ?_)
 refine l_op (f_call F3 CF_127 rfl rfl rfl rfl (lc (F3.ev 5 rfl) (lc (F3.ev 6 rfl) rfl)) (internal_stringslite_HasPrefix_c (H := fun _ => True) (s := s) (pfx := pfx) h_s Q0) ?_)
 rintro _ w4 ⟨rfl, m4⟩
 refine ⟨_, rfl, fun _ F5 => ?_⟩
 have S4 := At.frame0 (At.nil w) m4
 clear m4
 refine l_op (f_as F5 rfl rfl rfl rfl rfl fun _ F6 => ?_)
 refine s_end (x_normal (wp_ret ?_))
 refine x_done (v := .bool (begins s pfx)) F6 (results_1 Tryz.results110 (.tmp (F6.ev 4 rfl))) ?_
 exact ⟨rfl, (Mv.pick S4 [] rfl)⟩
theorem impl_KeysUnder_c {w : World} {H : Nat → Prop} {s : List CellD} {s_a : Option Addr} {s_n s_c : Nat} {pfx : ByteArray} (v_s : Rd 2 encC okC H w (.slice s_a s_n s_c) s) (Q1 : okS pfx) (p0 : s_n ≤ 1099511627776) :
    Calls Tryz.prog 85 #[.slice s_a s_n s_c, .string pfx] w fun e w' => ∃ (r0_a : Option Addr), ∃ (r0_n : Nat), ∃ (r0_c : Nat), e = .returned (.slice r0_a r0_n r0_c) ∧ Mv [] w [ow 9 1 encS okS (.slice r0_a r0_n r0_c) (keysUnder s pfx)] w' := by
 have uU : True := (fun _ => trivial) p0
 clear uU
 have Q0 : Rd 2 encC okC (V H w []) w (.slice s_a s_n s_c) s := Rd.start v_s (fun _ _ => fps_nil _)
 obtain ⟨ln_s, le_s, mx_s, ni_s⟩ := Rd.inv v_s
 refine calls_enter 25 Tryz.func85 rfl Tryz.ntmps85 (Nat.le_of_ble_eq_true rfl) (fun _ F0i => ?_)
 have F0 : Fr 25 [(0, .slice s_a s_n s_c), (1, .string pfx)] _ := F0i
 clear F0i
 refine wp_seq (wp_region_lit (l_op (f_val F0 rfl rfl (r_assign rfl rfl) rfl fun _ F1 => ?_)))
 refine s_end (x_normal (wp_seq (wp_region_lit (l_op (f_val F1 rfl rfl (r_assign rfl rfl) rfl fun _ F2 => ?_)))))
 refine s_end (x_normal (wp_seq (wp_seq (wp_region_lit (l_op (f_mv F2 rfl rfl rfl rfl rfl fun _ F3 => ?_))))))
 refine l_op (f_val F3 rfl rfl (r_len Tryz.underlying24 rfl (F3.ev 8 rfl)) rfl fun _ F4 => ?_)
 refine l_op (f_val F4 rfl rfl (r_move rfl rfl) rfl fun _ F5 => ?_)
 refine s_end (x_normal (wp_block ?_))
 have S7 : Mv [] w [ow 9 1 encS okS (.slice none 0 0) ([] : List ByteArray)] w := mv_nil (At.nil w)
 refine x_loop (fun (k : Nat) aZ wZ => ∃ (oa : Option Addr), ∃ (on : Nat), ∃ (oc : Nat), Fr 25 [(10, .int .i64 ((k : Nat) : Int)), (9, .int .i64 ((s_n : Nat) : Int)), (8, .slice s_a s_n s_c), (5, .slice oa on oc), (1, .string pfx)] aZ ∧ Mv [ow 9 1 encS okS (.slice none 0 0) ([] : List ByteArray)] w [ow 9 1 encS okS (.slice oa on oc) (keysUnder (s.take k) pfx)] wZ ∧ (k ≤ s_n)) (fun (k : Nat) => s_n - k) (0) ?_ ?_
 · exact ⟨none, 0, 0, F5.cut rfl, (Mv.refl S7.at'), by omega⟩
 · rintro k a6 w6 ⟨oa, on, oc, F6, S6, hk_0⟩
   refine wp_seq (wp_region_lit (l_op (f_val F6 rfl rfl (r_cmp (b := decide (k < s_n)) (.inr (.inr (.inl rfl))) rfl (F6.ev 10 rfl) (F6.ev 9 rfl) (dec_of (by omega))) rfl fun _ F8 => ?_)))
   refine s_end (x_normal (wp_seq (x_cond (p := k < s_n) (F8.ev 11 rfl) (fun h9 => ?_) (fun h9 => ?_))))
   · skip
     refine wp_skip (x_normal (wp_seq (wp_block (wp_seq (wp_region_lit ?_)))))
     obtain ⟨B10, O10, x1, ad10, hx1, okx1, ln10, cl10⟩ := Rd.at (Rd.mq Q0 (S7.trans S6)) k (by first | assumption | omega)
     clear ln10
     refine l_op (f_val F8 rfl rfl (r_indexAddr (i := k) ET_24 rfl ((F8.ev 8 rfl).trans (by rw [ad10])) (F8.ev 10 rfl) (by omega) (by first | assumption | omega)) rfl fun _ F11 => ?_)
     refine l_op (f_val (v := .agg #[.string x1.key, .string x1.val]) F11 rfl rfl (r_load (cs := [.string x1.key, .string x1.val]) TI_73 rfl (F11.ev 12 rfl) rfl (fun h => nomatch h) (elem_sub (f := 0) cl10 [.string x1.key, .string x1.val] rfl)) rfl fun _ F12 => ?_)
     refine l_op (f_alloc F12 S6.at' ZI_73 rfl rfl rfl rfl rfl fun b13 _ w13 F14 S13 => ?_)
     refine l_op (s_store S13.at' 0 TI_73 rfl rfl rfl rfl rfl (F14.ev 7 rfl) (F14.ev 13 rfl) rfl rfl rfl rfl rfl fun w15 S15 => ?_)
     have T16 : Mv _ _ [bx b13 [.string x1.key, .string x1.val] 73, ow 9 1 encS okS (.slice oa on oc) (keysUnder (s.take k) pfx)] _ := S15
     refine s_end (x_normal (wp_seq (wp_region_lit (l_op (f_val F14 rfl rfl (r_field FI_73_0 rfl (F14.ev 7 rfl) rfl) rfl fun _ F17 => ?_)))))
     refine l_op (f_val (v := .string x1.key) F17 rfl rfl (r_loadB T16.at' 0 TI_9 rfl rfl (F17.ev 14 rfl) rfl rfl (fun _ => rfl) rfl) rfl fun _ F18 => ?_)
     refine l_op (f_mv F18 rfl rfl rfl rfl rfl fun _ F19 => ?_)
     refine l_op (f_call F19 CF_110 rfl rfl rfl rfl (lc (F19.ev 15 rfl) (lc (F19.ev 16 rfl) rfl)) (strings_HasPrefix_c (H := fun _ => True) (s := x1.key) (pfx := pfx) okx1.1 Q1) ?_)
     rintro _ w20 ⟨rfl, m20⟩
     refine ⟨_, rfl, fun _ F21 => ?_⟩
     have S20 := At.frame0 T16.at' m20
     clear m20
     refine s_end (x_normal (x_condb (b := (begins x1.key pfx)) (F21.ev 17 rfl) (fun h22 => ?_) (fun h22 => ?_)))
     · skip
       refine wp_region_lit (l_op (f_mv F21 rfl rfl rfl rfl rfl fun _ F23 => ?_))
       refine l_op (f_val F23 rfl rfl (r_field FI_73_0 rfl (F23.ev 7 rfl) rfl) rfl fun _ F24 => ?_)
       refine l_op (f_val (v := .string x1.key) F24 rfl rfl (r_loadB S20.at' 0 TI_9 rfl rfl (F24.ev 19 rfl) rfl rfl (fun _ => rfl) rfl) rfl fun _ F25 => ?_)
       refine l_op (f_buildSl (ok := okS) (vs := [.string x1.key]) F25 S20.at' ([x1.key]) ET_25 rfl rfl rfl rfl rfl rfl (lc (pr2 (F25.ev 20 rfl)) rfl) rfl rfl (fun x hx => (List.mem_singleton.1 hx) ▸ okx1.1) fun b26 _ w26 F27 S26 => ?_)
       refine l_op (f_app (news := [x1.key]) F27 S26.at' 2 ET_25 rfl rfl rfl rfl rfl rfl (F27.ev 18 rfl) (F27.ev 21 rfl) ((At.rd S26.at' ET_25.hk 0 rfl)).1 (by have := keysUnder_take s pfx k; ((repeat (first | rw [List.length_append] | rw [List.length_cons] | rw [List.length_nil] | rw [List.length_take] | rw [List.length_drop])) <;> omega)) fun A28 N28 C28 _ w28 F29 S28 l28 => ?_)
       have S30 := At.drop S28.at' 1
       refine l_op (f_as F29 rfl rfl rfl rfl rfl fun _ F31 => ?_)
       have T32 : Mv _ _ [ow 9 1 encS okS (.slice A28 N28 C28) ((keysUnder (s.take k) pfx) ++ ([x1.key])), bx b13 [.string x1.key, .string x1.val] 73] _ := S30
       refine s_end (x_block_normal (x_normal (wp_region_lit (l_op (f_val F31 rfl rfl (r_add (z := ((k + 1 : Nat) : Int)) rfl (F31.ev 10 rfl) rfl (by first | rfl | omega) ⟨by first | omega | (unfold i64ok at *; omega), by first | omega | (unfold i64ok at *; omega)⟩) rfl fun _ F33 => ?_)))))
       refine l_op (f_mv F33 rfl rfl rfl rfl rfl fun _ F34 => ?_)
       refine s_end ?_
       refine x_normal ⟨k + 1, by omega, A28, N28, C28, F34.cut rfl, (Mv.cast ((S6.trans (S13.trans (T16.trans (S20.trans (S26.trans (S28.trans T32)))))).pick [0] rfl) (by (rw [keysUnder_step hx1]; first | rw [if_pos ‹_›] | rw [if_neg (ne_true_of_eq_false ‹_›), List.append_nil]); all_goals rfl)), by omega⟩
     · skip
       refine wp_skip (x_block_normal (x_normal (wp_region_lit (l_op (f_val F21 rfl rfl (r_add (z := ((k + 1 : Nat) : Int)) rfl (F21.ev 10 rfl) rfl (by first | rfl | omega) ⟨by first | omega | (unfold i64ok at *; omega), by first | omega | (unfold i64ok at *; omega)⟩) rfl fun _ F35 => ?_)))))
       refine l_op (f_mv F35 rfl rfl rfl rfl rfl fun _ F36 => ?_)
       refine s_end ?_
       refine x_normal ⟨k + 1, by omega, oa, on, oc, F36.cut rfl, (Mv.cast ((S6.trans (S13.trans (T16.trans S20))).pick [1] rfl) (by (rw [keysUnder_step hx1]; first | rw [if_pos ‹_›] | rw [if_neg (ne_true_of_eq_false ‹_›), List.append_nil]); all_goals rfl)), by omega⟩
   · skip
     refine wp_exit (x_then_exit (x_then_exit (x_block_here (x_normal (wp_seq (wp_region_lit (l_op (f_mv F8 rfl rfl rfl rfl rfl fun _ F37 => ?_))))))))
     refine l_op (f_as F37 rfl rfl rfl rfl rfl fun _ F38 => ?_)
     refine s_end (x_normal (wp_ret ?_))
     refine x_done (v := .slice oa on oc) F38 (results_1 Tryz.results85 (.tmp (F38.ev 4 rfl))) ?_
     exact ⟨oa, on, oc, rfl, (Mv.cast (Mv.pick (S7.trans S6) [0] rfl) (by rw [(show (keysUnder (s.take k) pfx) = (keysUnder s pfx) from by rw [List.take_of_length_le (by omega)])]; all_goals rfl))⟩
theorem spec_l04Under_c {w : World} {H : Nat → Prop} {m : MachD} {m_Sa : Option Addr} {m_Sn m_Sc : Nat} {m_Ra : Option Addr} {m_Rn m_Rc : Nat} {m_Wa : Option Addr} {m_Wn m_Wc : Nat} {pfx : ByteArray} (Q16 : Rd 2 encC okC H w (.slice m_Sa m_Sn m_Sc) m.store) (Q17 : Rd 1 encS okS H w (.slice m_Ra m_Rn m_Rc) m.touch.reads) (Q18 : Rd 1 encS okS H w (.slice m_Wa m_Wn m_Wc) m.touch.writes) (Q21 : okS pfx) (p0 : m.store.length ≤ 274877906944) (p1 : m.touch.reads.length ≤ 274877906944) (p2 : pfx.size ≤ 4611686018427387904) :
    Calls Tryz.prog 86 #[.agg #[.slice m_Sa m_Sn m_Sc, .slice m_Ra m_Rn m_Rc, .slice m_Wa m_Wn m_Wc], .string pfx] w fun e w' => ∃ (Q10 : Option Addr), ∃ (Q12 : Nat), ∃ (Q11 : Nat), ∃ (Q7 : Option Addr), ∃ (Q9 : Nat), ∃ (Q8 : Nat), ∃ (Q13 : Option Addr), ∃ (Q15 : Nat), ∃ (Q14 : Nat), ∃ (r1_a : Option Addr), ∃ (r1_n : Nat), ∃ (r1_c : Nat), e = .returned (.tuple #[.agg #[.slice Q10 Q12 Q11, .slice Q7 Q9 Q8, .slice Q13 Q15 Q14], .slice r1_a r1_n r1_c]) ∧ Mv [] w [] w' ∧ Rd 2 encC okC (Fsh H w) w' (.slice Q10 Q12 Q11) (lookM m (pfx ++ bT_)).store ∧ Rd 1 encS okS (Fsh H w) w' (.slice Q7 Q9 Q8) (lookM m (pfx ++ bT_)).touch.reads ∧ Rd 1 encS okS (Fsh H w) w' (.slice Q13 Q15 Q14) (lookM m (pfx ++ bT_)).touch.writes ∧ Rd 1 encS okS (Fsh H w) w' (.slice r1_a r1_n r1_c) (keysUnder m.store pfx) := by
 have uU : True := (fun _ _ _ => trivial) p0 p1 p2
 clear uU
 have Q6 : Rd 2 encC okC (V H w []) w (.slice m_Sa m_Sn m_Sc) m.store := Rd.start Q16 (fun _ _ => fps_nil _)
 obtain ⟨Q25, Q22, Q28, Q31⟩ := Rd.inv Q16
 have Q19 : Rd 1 encS okS (V H w []) w (.slice m_Ra m_Rn m_Rc) m.touch.reads := Rd.start Q17 (fun _ _ => fps_nil _)
 obtain ⟨Q26, Q23, Q29, Q32⟩ := Rd.inv Q17
 have Q20 : Rd 1 encS okS (V H w []) w (.slice m_Wa m_Wn m_Wc) m.touch.writes := Rd.start Q18 (fun _ _ => fps_nil _)
 obtain ⟨Q27, Q24, Q30, Q33⟩ := Rd.inv Q18
 refine calls_enter 19 Tryz.func86 rfl Tryz.ntmps86 (Nat.le_of_ble_eq_true rfl) (fun _ F0i => ?_)
 have F0 : Fr 19 [(0, .agg #[.slice m_Sa m_Sn m_Sc, .slice m_Ra m_Rn m_Rc, .slice m_Wa m_Wn m_Wc]), (1, .string pfx)] _ := F0i
 clear F0i
 refine wp_seq (wp_region_lit (l_op (f_box F0 (At.nil w) rfl rfl rfl (F0.ev 0 rfl) rfl rfl fun b1 _ w1 F2 S1 => ?_)))
 refine l_op (f_alloc F2 S1.at' ZI_29 rfl rfl rfl rfl rfl fun b3 _ w3 F4 S3 => ?_)
 refine l_op (f_val F4 rfl rfl (r_assign rfl rfl) rfl fun _ F5 => ?_)
 refine s_end (x_normal (wp_seq (wp_region_lit (l_op (f_val F5 rfl rfl (r_field FI_29_1 rfl (F5.ev 2 rfl) rfl) rfl fun _ F6 => ?_)))))
 refine l_op (f_val F6 rfl rfl (r_field FI_27_0 rfl (F6.ev 6 rfl) rfl) rfl fun _ F7 => ?_)
 refine l_op (f_val (v := .slice m_Ra m_Rn m_Rc) F7 rfl rfl (r_loadB S3.at' 1 TI_25 rfl rfl (F7.ev 7 rfl) rfl rfl (fun _ => rfl) rfl) rfl fun _ F8 => ?_)
 refine l_op (f_mv F8 rfl rfl rfl rfl rfl fun _ F9 => ?_)
 have k10 : pfx.size + bT_.size ≤ 9223372036854775807 := by have : bT_.size = 1 := rfl; omega
 refine l_op (f_val F9 rfl rfl (r_cat rfl (F9.ev 9 rfl) rfl k10) rfl fun _ F11 => ?_)
 refine l_op (f_call F11 CF_96 rfl rfl rfl rfl (lc (F11.ev 8 rfl) (lc (F11.ev 10 rfl) rfl)) (spec_AddSpan_c (list := m.touch.reads) (span := pfx ++ bT_) (Rd.mq Q19 (S1.trans S3)) (okS_cat k10) (by first | assumption | omega | (simp <;> omega))) ?_)
 rintro _ w12 ⟨Q0, Q2, Q1, rfl, m12, v12_0⟩
 refine ⟨_, rfl, fun _ F13 => ?_⟩
 have S12 := At.frame0 S3.at' m12
 have V12_0 := Rd.got0 S3.at' ((S1.trans S3).kp.size) v12_0 S12
 obtain ⟨ln12_0, le12_0, mx12_0, ni12_0⟩ := Rd.inv V12_0
 clear m12 v12_0
 refine l_op (f_val F13 rfl rfl (r_field FI_29_1 rfl (F13.ev 2 rfl) rfl) rfl fun _ F14 => ?_)
 refine l_op (f_val F14 rfl rfl (r_field FI_27_0 rfl (F14.ev 12 rfl) rfl) rfl fun _ F15 => ?_)
 refine l_op (s_store S12.at' 1 TI_25 rfl rfl rfl rfl rfl (F15.ev 13 rfl) (F15.ev 11 rfl) rfl rfl rfl rfl rfl fun w16 S16 => ?_)
 have T17 : Mv _ _ [bx b1 [.slice m_Sa m_Sn m_Sc, .slice Q0 Q2 Q1, .slice m_Wa m_Wn m_Wc] 29, bx b3 [.slice none 0 0, .slice none 0 0, .slice none 0 0] 29] _ := S16
 refine s_end (x_normal (wp_seq ?_))
 refine x_draw (fun aZ wZ => ∃ (Q3 : Option Addr), ∃ (Q5 : Nat), ∃ (Q4 : Nat), Fr 19 [(4, .pointer (some ⟨b3, 0, none⟩)), (5, .slice Q3 Q5 Q4)] aZ ∧ Mv [bx b1 [.slice m_Sa m_Sn m_Sc, .slice Q0 Q2 Q1, .slice m_Wa m_Wn m_Wc] 29, bx b3 [.slice none 0 0, .slice none 0 0, .slice none 0 0] 29] w16 [bx b1 [.slice m_Sa m_Sn m_Sc, .slice Q0 Q2 Q1, .slice m_Wa m_Wn m_Wc] 29, bx b3 [.slice m_Sa m_Sn m_Sc, .slice Q0 Q2 Q1, .slice m_Wa m_Wn m_Wc] 29] wZ ∧ Rd 1 encS okS (V H w [bx b1 [.slice m_Sa m_Sn m_Sc, .slice Q0 Q2 Q1, .slice m_Wa m_Wn m_Wc] 29, bx b3 [.slice m_Sa m_Sn m_Sc, .slice Q0 Q2 Q1, .slice m_Wa m_Wn m_Wc] 29]) wZ (.slice Q3 Q5 Q4) (keysUnder m.store pfx)) [bx b1 [.slice m_Sa m_Sn m_Sc, .slice Q0 Q2 Q1, .slice m_Wa m_Wn m_Wc] 29] mixed T17.at' (listed := #[false, false, false, false, false, false, false]) rfl (fun w19 S19 => ?_) [0] rfl ?_
 · skip
   refine g_take (v := .agg #[.slice m_Sa m_Sn m_Sc, .slice Q0 Q2 Q1, .slice m_Wa m_Wn m_Wc]) F15 rfl (i := 0) (listed' := #[true, false, false, false, false, false, false]) rfl (by kernel_rfl) (by kernel_rfl) (by kernel_rfl) (fun _ _ _ h => h) (Sd.of (Mv.refl S19.at') [0] rfl) rfl rfl rfl rfl (fun _ hz => (r_loadX (hz.bx 0 rfl) TI_29 rfl (F15.ev 2 rfl) rfl rfl (fun h => nomatch h) rfl)) fun _ F20 => ?_
   refine g_take F20 rfl (i := 1) (listed' := #[true, true, false, false, false, false, false]) rfl (by kernel_rfl) (by kernel_rfl) (by kernel_rfl) (fun _ _ _ h => h) (Sd.of (Mv.refl S19.at') [0] rfl) rfl rfl rfl rfl (fun _ hz => (r_field FI_29_0 rfl (F20.ev 2 rfl) rfl)) fun _ F21 => ?_
   refine g_take (v := .slice m_Sa m_Sn m_Sc) F21 rfl (i := 2) (listed' := #[true, true, true, false, false, false, false]) rfl (by kernel_rfl) (by kernel_rfl) (by kernel_rfl) (fun _ _ _ h => h) (Sd.of (Mv.refl S19.at') [0] rfl) rfl rfl rfl rfl (fun _ hz => (r_loadX (hz.bx 0 rfl) TI_24 rfl (F21.ev 15 rfl) rfl rfl (fun _ => rfl) rfl)) fun _ F22 => ?_
   refine g_take F22 rfl (i := 3) (listed' := #[true, true, true, true, false, false, false]) rfl (by kernel_rfl) (by kernel_rfl) (by kernel_rfl) (fun _ _ _ h => h) (Sd.of (Mv.refl S19.at') [0] rfl) rfl rfl rfl rfl (fun _ hz => (r_move rfl (F22.ev 1 rfl))) fun _ F23 => ?_
   refine d_one (i := 4) (listed' := #[true, true, true, true, true, false, false]) rfl (by kernel_rfl) rfl rfl ?_
   refine f_call F23 CF_23 rfl rfl rfl rfl (lc (F23.ev 16 rfl) (lc (F23.ev 17 rfl) rfl)) (spec_KeysUnder_c (s := m.store) (pfx := pfx) (Rd.mq Q6 (S1.trans (S3.trans (S12.trans (T17.trans S19))))) Q21 (by first | assumption | omega | (simp <;> omega))) ?_
   rintro _ w24 ⟨Q3, Q5, Q4, rfl, m24, v24_0⟩
   refine ⟨_, rfl, fun _ F25 => ?_⟩
   have S24 := At.frame0 S19.at' m24
   have V24_0 := Rd.got0 S19.at' ((S1.trans (S3.trans (S12.trans (T17.trans S19)))).kp.size) v24_0 S24
   obtain ⟨ln24_0, le24_0, mx24_0, ni24_0⟩ := Rd.inv V24_0
   clear m24 v24_0
   refine ⟨Sd.of S24 [0] rfl, ?_⟩
   refine d_one (i := 5) (listed' := #[true, true, true, true, true, true, false]) rfl (by kernel_rfl) rfl rfl ?_
   refine s_store S24.at' 1 TI_29 rfl rfl rfl rfl rfl (F25.ev 4 rfl) (F25.ev 14 rfl) rfl rfl rfl rfl rfl fun w26 S26 => ?_
   refine ⟨Sd.of (S24.trans S26) [1] rfl, ?_⟩
   refine g_take F25 rfl (i := 6) (listed' := #[true, true, true, true, true, true, true]) rfl (by kernel_rfl) (by kernel_rfl) (by kernel_rfl) (fun _ _ _ h => h) (Sd.of (S24.trans S26) [1] rfl) rfl rfl rfl rfl (fun _ hz => (r_assign rfl (F25.ev 18 rfl))) fun _ F27 => ?_
   refine wpAnyH_done (by kernel_rfl) (x_normal ?_) _
   exact ⟨Q3, Q5, Q4, F27.cut rfl, ((S19.trans (S24.trans S26)).pick [1, 0] rfl), (Rd.mq (Rd.mq V24_0 S26) (Mv.pick (Mv.refl S26.at') [1, 0] rfl))⟩
 · rintro a28 w28 ⟨Q3, Q5, Q4, F28, S28, V28_0⟩
   obtain ⟨ln28_0, le28_0, mx28_0, ni28_0⟩ := Rd.inv V28_0
   refine x_normal (wp_ret ?_)
   refine x_done (v := .tuple #[.agg #[.slice m_Sa m_Sn m_Sc, .slice Q0 Q2 Q1, .slice m_Wa m_Wn m_Wc], .slice Q3 Q5 Q4]) F28 (results_2 Tryz.results86 (.cell (F28.ev 4 rfl) (run_loadVar' TI_29 _ [.slice m_Sa m_Sn m_Sc, .slice Q0 Q2 Q1, .slice m_Wa m_Wn m_Wc] rfl (fun h => nomatch h) (At.cells S28.at' 1 rfl 0 [.slice m_Sa m_Sn m_Sc, .slice Q0 Q2 Q1, .slice m_Wa m_Wn m_Wc] rfl))) (.tmp (F28.ev 5 rfl))) ?_
   exact ⟨m_Sa, m_Sn, m_Sc, Q0, Q2, Q1, m_Wa, m_Wn, m_Wc, Q3, Q5, Q4, rfl, (Mv.pick (S1.trans (S3.trans (S12.trans (T17.trans S28)))) [] rfl), (Rd.cast (Rd.give (Rd.mq Q6 (S1.trans (S3.trans (S12.trans (T17.trans S28)))))) (show m.store = (lookM m (pfx ++ bT_)).store from by rfl)), (Rd.cast (Rd.give (Rd.mq V12_0 (T17.trans S28))) (show (putL m.touch.reads (pfx ++ bT_)) = (lookM m (pfx ++ bT_)).touch.reads from by rfl)), (Rd.cast (Rd.give (Rd.mq Q20 (S1.trans (S3.trans (S12.trans (T17.trans S28)))))) (show m.touch.writes = (lookM m (pfx ++ bT_)).touch.writes from by rfl)), (Rd.give V28_0)⟩
theorem impl_Mach_under_c {w : World} {H : Nat → Prop} {m : MachD} {m_Sa : Option Addr} {m_Sn m_Sc : Nat} {m_Ra : Option Addr} {m_Rn m_Rc : Nat} {m_Wa : Option Addr} {m_Wn m_Wc : Nat} {m_b : Nat} {pfx : ByteArray} (Q15 : okS pfx) (p0 : m.store.length ≤ 274877906944) (p1 : m.touch.reads.length ≤ 274877906944) (p2 : pfx.size ≤ 4611686018427387904) (hA : At w [bx m_b [.slice m_Sa m_Sn m_Sc, .slice m_Ra m_Rn m_Rc, .slice m_Wa m_Wn m_Wc] 29, ow 73 2 encC okC (.slice m_Sa m_Sn m_Sc) m.store, ow 9 1 encS okS (.slice m_Ra m_Rn m_Rc) m.touch.reads, ow 9 1 encS okS (.slice m_Wa m_Wn m_Wc) m.touch.writes]) :
    Calls Tryz.prog 47 #[.pointer (some ⟨m_b, 0, none⟩), .string pfx] w fun e w' => ∃ (r0_a : Option Addr), ∃ (r0_n : Nat), ∃ (r0_c : Nat), ∃ (Q9 : Option Addr), ∃ (Q11 : Nat), ∃ (Q10 : Nat), ∃ (Q6 : Option Addr), ∃ (Q8 : Nat), ∃ (Q7 : Nat), ∃ (Q12 : Option Addr), ∃ (Q14 : Nat), ∃ (Q13 : Nat), e = .returned (.slice r0_a r0_n r0_c) ∧ Mv [bx m_b [.slice m_Sa m_Sn m_Sc, .slice m_Ra m_Rn m_Rc, .slice m_Wa m_Wn m_Wc] 29, ow 73 2 encC okC (.slice m_Sa m_Sn m_Sc) m.store, ow 9 1 encS okS (.slice m_Ra m_Rn m_Rc) m.touch.reads, ow 9 1 encS okS (.slice m_Wa m_Wn m_Wc) m.touch.writes] w [ow 9 1 encS okS (.slice r0_a r0_n r0_c) (keysUnder m.store pfx), bx m_b [.slice Q9 Q11 Q10, .slice Q6 Q8 Q7, .slice Q12 Q14 Q13] 29, ow 73 2 encC okC (.slice Q9 Q11 Q10) (lookM m (pfx ++ bT_)).store, ow 9 1 encS okS (.slice Q6 Q8 Q7) (lookM m (pfx ++ bT_)).touch.reads, ow 9 1 encS okS (.slice Q12 Q14 Q13) (lookM m (pfx ++ bT_)).touch.writes] w' := by
 have uU : True := (fun _ _ _ _ => trivial) H p0 p1 p2
 clear uU
 obtain ⟨lo1, lp1, lq1⟩ := At.ownInv hA ET_24.hk 1 rfl
 obtain ⟨lo2, lp2, lq2⟩ := At.ownInv hA ET_25.hk 2 rfl
 obtain ⟨lo3, lp3, lq3⟩ := At.ownInv hA ET_25.hk 3 rfl
 refine calls_enter 23 Tryz.func47 rfl Tryz.ntmps47 (Nat.le_of_ble_eq_true rfl) (fun _ F0i => ?_)
 have F0 : Fr 23 [(0, .pointer (some ⟨m_b, 0, none⟩)), (1, .string pfx)] _ := F0i
 clear F0i
 refine wp_seq (wp_region_lit (l_op (f_val F0 rfl rfl (r_assign rfl rfl) rfl fun _ F1 => ?_)))
 refine s_end (x_normal (wp_seq (wp_region_lit (l_op (f_mv F1 rfl rfl rfl rfl rfl fun _ F2 => ?_)))))
 refine l_op (f_mv F2 rfl rfl rfl rfl rfl fun _ F3 => ?_)
 refine l_op (f_val F3 rfl rfl (r_nilCheck rfl (F3.ev 6 rfl)) rfl fun _ F4 => ?_)
 refine l_op (f_val F4 rfl rfl (r_field FI_29_1 rfl (F4.ev 7 rfl) rfl) rfl fun _ F5 => ?_)
 refine l_op (f_val F5 rfl rfl (r_field FI_27_0 rfl (F5.ev 8 rfl) rfl) rfl fun _ F6 => ?_)
 refine l_op (f_val (v := .slice m_Ra m_Rn m_Rc) F6 rfl rfl (r_loadB hA 0 TI_25 rfl rfl (F6.ev 9 rfl) rfl rfl (fun _ => rfl) rfl) rfl fun _ F7 => ?_)
 refine l_op (f_mv F7 rfl rfl rfl rfl rfl fun _ F8 => ?_)
 have k9 : pfx.size + bT_.size ≤ 9223372036854775807 := by have : bT_.size = 1 := rfl; omega
 refine l_op (f_val F8 rfl rfl (r_cat rfl (F8.ev 11 rfl) rfl k9) rfl fun _ F10 => ?_)
 refine l_op (f_call F10 CF_84 rfl rfl rfl rfl (lc (F10.ev 10 rfl) (lc (F10.ev 12 rfl) rfl)) (impl_addSpan_c (H := fun _ => True) (list := m.touch.reads) (span := pfx ++ bT_) (okS_cat k9) (by first | assumption | omega | (simp <;> omega)) (At.pick (is := [2]) hA rfl)) ?_)
 rintro _ w11 ⟨Q0, Q2, Q1, rfl, m11⟩
 refine ⟨_, rfl, fun _ F12 => ?_⟩
 have S11 : Mv _ _ [ow 9 1 encS okS (.slice Q0 Q2 Q1) (putL m.touch.reads (pfx ++ bT_)), bx m_b [.slice m_Sa m_Sn m_Sc, .slice m_Ra m_Rn m_Rc, .slice m_Wa m_Wn m_Wc] 29, ow 73 2 encC okC (.slice m_Sa m_Sn m_Sc) m.store, ow 9 1 encS okS (.slice m_Wa m_Wn m_Wc) m.touch.writes] _ := At.frame hA [2] rfl m11
 obtain ⟨Q16, Q18, Q20⟩ := At.ownInv S11.at' ET_25.hk 0 rfl
 clear m11
 refine l_op (f_val F12 rfl rfl (r_nilCheck rfl (F12.ev 5 rfl)) rfl fun _ F13 => ?_)
 refine l_op (f_val F13 rfl rfl (r_field FI_29_1 rfl (F13.ev 14 rfl) rfl) rfl fun _ F14 => ?_)
 refine l_op (f_val F14 rfl rfl (r_field FI_27_0 rfl (F14.ev 15 rfl) rfl) rfl fun _ F15 => ?_)
 refine l_op (s_store S11.at' 1 TI_25 rfl rfl rfl rfl rfl (F15.ev 16 rfl) (F15.ev 13 rfl) rfl rfl rfl rfl rfl fun w16 S16 => ?_)
 refine s_end (x_normal (wp_seq (wp_region_lit (l_op (f_mv F15 rfl rfl rfl rfl rfl fun _ F17 => ?_)))))
 refine l_op (f_val F17 rfl rfl (r_nilCheck rfl (F17.ev 17 rfl)) rfl fun _ F18 => ?_)
 refine l_op (f_val F18 rfl rfl (r_field FI_29_0 rfl (F18.ev 18 rfl) rfl) rfl fun _ F19 => ?_)
 refine l_op (f_val (v := .slice m_Sa m_Sn m_Sc) F19 rfl rfl (r_loadB S16.at' 0 TI_24 rfl rfl (F19.ev 19 rfl) rfl rfl (fun _ => rfl) rfl) rfl fun _ F20 => ?_)
 refine l_op (f_mv F20 rfl rfl rfl rfl rfl fun _ F21 => ?_)
 refine l_op (f_call F21 CF_85 rfl rfl rfl rfl (lc (F21.ev 20 rfl) (lc (F21.ev 21 rfl) rfl)) (impl_KeysUnder_c (H := fun _ => True) (s := m.store) (pfx := pfx) (At.rd S16.at' ET_24.hk 2 rfl) Q15 (by first | assumption | omega | (simp <;> omega))) ?_)
 rintro _ w22 ⟨Q3, Q5, Q4, rfl, m22⟩
 refine ⟨_, rfl, fun _ F23 => ?_⟩
 have S22 : Mv _ _ [ow 9 1 encS okS (.slice Q3 Q5 Q4) (keysUnder m.store pfx), bx m_b [.slice m_Sa m_Sn m_Sc, .slice Q0 Q2 Q1, .slice m_Wa m_Wn m_Wc] 29, ow 9 1 encS okS (.slice Q0 Q2 Q1) (putL m.touch.reads (pfx ++ bT_)), ow 73 2 encC okC (.slice m_Sa m_Sn m_Sc) m.store, ow 9 1 encS okS (.slice m_Wa m_Wn m_Wc) m.touch.writes] _ := At.frame S16.at' [] rfl m22
 obtain ⟨Q17, Q19, Q21⟩ := At.ownInv S22.at' ET_25.hk 0 rfl
 clear m22
 refine l_op (f_as F23 rfl rfl rfl rfl rfl fun _ F24 => ?_)
 refine s_end (x_normal (wp_ret ?_))
 refine x_done (v := .slice Q3 Q5 Q4) F24 (results_1 Tryz.results47 (.tmp (F24.ev 4 rfl))) ?_
 exact ⟨Q3, Q5, Q4, m_Sa, m_Sn, m_Sc, Q0, Q2, Q1, m_Wa, m_Wn, m_Wc, rfl, (Mv.cast (Mv.pick (S11.trans (S16.trans S22)) [0, 1, 3, 2, 4] rfl) rfl)⟩
end Go.Proofs.YtibgmijfnbnfkaaGreatDoor
