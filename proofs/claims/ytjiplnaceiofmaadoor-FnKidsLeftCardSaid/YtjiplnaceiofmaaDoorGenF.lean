/-
  Walks: keys under a beginning.
-/
import Derived.Test.YtjiplnaceiofmaaDoorGenE
namespace Go.Proofs.YtjiplnaceiofmaaDoor
open Go.ChangeShapes Go.WideShapes Go.ChangeAt Go.RowKit
set_option maxRecDepth 100000
set_option maxHeartbeats 1000000
theorem internal_stringslite_HasPrefix_c {w : World} {H : Nat → Prop} {s : ByteArray} {pfx : ByteArray} (h_s : okS s) (h_pfx : okS pfx) :
    Calls Tryd.prog 159 #[.string s, .string pfx] w fun e w' => e = .returned (.bool (begins s pfx)) ∧ Mv [] w [] w' := by
 have uU : True := (fun _ _ _ => trivial) H h_s h_pfx
 clear uU
 refine calls_enter 18 Tryd.func159 rfl Tryd.ntmps159 (Nat.le_of_ble_eq_true rfl) (fun _ F0i => ?_)
 have F0 : Fr 18 [(0, .string s), (1, .string pfx)] _ := F0i
 clear F0i
 refine wp_seq (wp_region_lit (l_op (f_val F0 rfl rfl (r_assign rfl rfl) rfl fun _ F1 => ?_)))
 have F2 : Fr 18 [(4, .bool false), (0, .string s), (1, .string pfx)] _ := F1.cut rfl
 clear F0 F1
 refine s_end (x_normal (wp_seq (wp_region_lit (l_op (f_mv F2 rfl rfl rfl rfl rfl fun _ F3 => ?_)))))
 refine l_op (f_val F3 rfl rfl (r_lenS (fun t ht => by cases ht; exact Tryd.underlying9) rfl rfl (F3.ev 5 rfl)) rfl fun _ F4 => ?_)
 refine l_op (f_mv F4 rfl rfl rfl rfl rfl fun _ F5 => ?_)
 refine l_op (f_val F5 rfl rfl (r_lenS (fun t ht => by cases ht; exact Tryd.underlying9) rfl rfl (F5.ev 7 rfl)) rfl fun _ F6 => ?_)
 refine l_op (f_val F6 rfl rfl (r_cmp (b := decide (s.size ≥ pfx.size)) (.inr (.inr (.inr (.inr (.inr rfl))))) rfl (F6.ev 6 rfl) (F6.ev 8 rfl) (dec_of (by omega))) rfl fun _ F7 => ?_)
 refine l_op (f_mv F7 rfl rfl rfl rfl rfl fun _ F8 => ?_)
 rcases Decidable.em (s.size ≥ pfx.size) with h9 | h9
 · rw [decide_eq_true h9] at F8
   refine l_op (f_mv F8 (wanted_g F8 rfl rfl rfl rfl) rfl rfl rfl rfl fun _ F10 => ?_)
   refine l_op (f_mv F10 (wanted_g F10 rfl rfl rfl rfl) rfl rfl rfl rfl fun _ F11 => ?_)
   refine l_op (f_val F11 (wanted_g F11 rfl rfl rfl rfl) rfl (r_lenS (fun t ht => by cases ht; exact Tryd.underlying9) rfl rfl (F11.ev 12 rfl)) rfl fun _ F12 => ?_)
   refine l_op (f_val F12 (wanted_g F12 rfl rfl rfl rfl) rfl (r_sliceS (l := 0) (h := pfx.size) Tryd.underlying9 rfl (F12.ev 11 rfl) rfl (F12.ev 13 rfl) (by first | assumption | omega) (by first | assumption | omega) rfl) rfl fun _ F13 => ?_)
   refine l_op (f_mv F13 (wanted_g F13 rfl rfl rfl rfl) rfl rfl rfl rfl fun _ F14 => ?_)
   refine l_op (f_val F14 (wanted_g F14 rfl rfl rfl rfl) rfl (r_cmps (b := (decide ((s.extract 0 pfx.size) = pfx))) (.inl rfl) rfl (F14.ev 14 rfl) (F14.ev 15 rfl) rfl) rfl fun _ F15 => ?_)
   refine l_op (f_val F15 rfl rfl (r_pick (b := true) rfl (F15.ev 10 rfl) (F15.ev 16 rfl)) rfl fun _ F16 => ?_)
   refine l_op (f_as F16 rfl rfl rfl rfl rfl fun _ F17 => ?_)
   have F18 : Fr 18 [(4, .bool (decide ((s.extract 0 pfx.size) = pfx)))] _ := F17.cut rfl
   clear F2 F3 F4 F5 F6 F7 F8 F10 F11 F12 F13 F14 F15 F16 F17
   refine s_end (x_normal (wp_ret ?_))
   refine x_done (v := .bool (decide ((s.extract 0 pfx.size) = pfx))) F18 (results_1 Tryd.results159 (.tmp (F18.ev 4 rfl))) ?_
   exact ⟨(by rw [(show (decide ((s.extract 0 pfx.size) = pfx)) = (begins s pfx) from by unfold begins; by_cases hb : pfx.size ≤ s.size <;> simp_all <;> omega)]), (Mv.pick (Mv.refl (At.nil w)) [] rfl)⟩
 · rw [decide_eq_false h9] at F8
   refine l_op (f_skip F8 (wanted_g F8 rfl rfl rfl rfl) rfl rfl fun _ F19 => ?_)
   refine l_op (f_skip F19 (wanted_g F19 rfl rfl rfl rfl) rfl rfl fun _ F20 => ?_)
   refine l_op (f_skip F20 (wanted_g F20 rfl rfl rfl rfl) rfl rfl fun _ F21 => ?_)
   refine l_op (f_skip F21 (wanted_g F21 rfl rfl rfl rfl) rfl rfl fun _ F22 => ?_)
   refine l_op (f_skip F22 (wanted_g F22 rfl rfl rfl rfl) rfl rfl fun _ F23 => ?_)
   refine l_op (f_skip F23 (wanted_g F23 rfl rfl rfl rfl) rfl rfl fun _ F24 => ?_)
   refine l_op (f_val F24 rfl rfl (r_pick (b := false) rfl (F24.ev 10 rfl) rfl) rfl fun _ F25 => ?_)
   refine l_op (f_as F25 rfl rfl rfl rfl rfl fun _ F26 => ?_)
   have F27 : Fr 18 [(4, .bool false)] _ := F26.cut rfl
   clear F2 F3 F4 F5 F6 F7 F8 F19 F20 F21 F22 F23 F24 F25 F26
   refine s_end (x_normal (wp_ret ?_))
   refine x_done (v := .bool false) F27 (results_1 Tryd.results159 (.tmp (F27.ev 4 rfl))) ?_
   exact ⟨(by rw [(show false = (begins s pfx) from by unfold begins; by_cases hb : pfx.size ≤ s.size <;> simp_all <;> omega)]), (Mv.pick (Mv.refl (At.nil w)) [] rfl)⟩
theorem strings_HasPrefix_c {w : World} {H : Nat → Prop} {s : ByteArray} {pfx : ByteArray} (h_s : okS s) (h_pfx : okS pfx) :
    Calls Tryd.prog 158 #[.string s, .string pfx] w fun e w' => e = .returned (.bool (begins s pfx)) ∧ Mv [] w [] w' := by
 have uU : True := (fun _ => trivial) H
 clear uU
 refine calls_enter 8 Tryd.func158 rfl Tryd.ntmps158 (Nat.le_of_ble_eq_true rfl) (fun _ F0i => ?_)
 have F0 : Fr 8 [(0, .string s), (1, .string pfx)] _ := F0i
 clear F0i
 refine wp_seq (wp_region_lit (l_op (f_val F0 rfl rfl (r_assign rfl rfl) rfl fun _ F1 => ?_)))
 have F2 : Fr 8 [(4, .bool false), (0, .string s), (1, .string pfx)] _ := F1.cut rfl
 clear F0 F1
 refine s_end (x_normal (wp_seq (wp_region_lit (l_op (f_mv F2 rfl rfl rfl rfl rfl fun _ F3 => ?_)))))
 refine l_op (f_mv F3 rfl rfl rfl rfl rfl fun _ F4 => ?_)
 refine l_op (f_call F4 CF_159 rfl rfl rfl rfl (lc (F4.ev 5 rfl) (lc (F4.ev 6 rfl) rfl)) (internal_stringslite_HasPrefix_c (H := fun _ => True) (s := s) (pfx := pfx) h_s h_pfx) ?_)
 rintro _ w5 ⟨rfl, m5⟩
 refine ⟨_, rfl, fun _ F6 => ?_⟩
 have S5 := At.frame0 (At.nil w) m5
 clear m5
 refine l_op (f_as F6 rfl rfl rfl rfl rfl fun _ F7 => ?_)
 have F8 : Fr 8 [(4, .bool (begins s pfx))] _ := F7.cut rfl
 clear F2 F3 F4 F6 F7
 have T9 : Mv _ _ [] _ := S5
 refine s_end (x_normal (wp_ret ?_))
 refine x_done (v := .bool (begins s pfx)) F8 (results_1 Tryd.results158 (.tmp (F8.ev 4 rfl))) ?_
 exact ⟨rfl, (Mv.pick T9 [] rfl)⟩
theorem impl_KeysUnder_c {w : World} {H : Nat → Prop} {s : List CellD} {s_a : Option Addr} {s_n s_c : Nat} {pfx : ByteArray} (v_s : Rd 2 encC okC H w (.slice s_a s_n s_c) s) (h_pfx : okS pfx) (p0 : s_n ≤ 1099511627776) :
    Calls Tryd.prog 132 #[.slice s_a s_n s_c, .string pfx] w fun e w' => ∃ (r0_a : Option Addr), ∃ (r0_n : Nat), ∃ (r0_c : Nat), e = .returned (.slice r0_a r0_n r0_c) ∧ Mv [] w [ow 9 1 encS okS (.slice r0_a r0_n r0_c) (keysUnder s pfx)] w' := by
 have uU : True := (fun _ => trivial) p0
 clear uU
 have V_v_s : Rd 2 encC okC (V H w []) w (.slice s_a s_n s_c) s := Rd.start v_s (fun _ _ => fps_nil _)
 obtain ⟨ln_s, le_s, mx_s, ni_s⟩ := Rd.inv v_s
 refine calls_enter 25 Tryd.func132 rfl Tryd.ntmps132 (Nat.le_of_ble_eq_true rfl) (fun _ F0i => ?_)
 have F0 : Fr 25 [(0, .slice s_a s_n s_c), (1, .string pfx)] _ := F0i
 clear F0i
 refine wp_seq (wp_region_lit (l_op (f_val F0 rfl rfl (r_assign rfl rfl) rfl fun _ F1 => ?_)))
 have F2 : Fr 25 [(4, .slice none 0 0), (0, .slice s_a s_n s_c), (1, .string pfx)] _ := F1.cut rfl
 clear F0 F1
 refine s_end (x_normal (wp_seq (wp_region_lit (l_op (f_val F2 rfl rfl (r_assign rfl rfl) rfl fun _ F3 => ?_)))))
 have F4 : Fr 25 [(5, .slice none 0 0), (0, .slice s_a s_n s_c), (1, .string pfx)] _ := F3.cut rfl
 clear F2 F3
 refine s_end (x_normal (wp_seq (wp_seq (wp_region_lit (l_op (f_mv F4 rfl rfl rfl rfl rfl fun _ F5 => ?_))))))
 refine l_op (f_val F5 rfl rfl (r_len Tryd.underlying26 rfl (F5.ev 8 rfl)) rfl fun _ F6 => ?_)
 refine l_op (f_val F6 rfl rfl (r_move rfl rfl) rfl fun _ F7 => ?_)
 have F8 : Fr 25 [(10, .int .i64 0), (9, .int .i64 ((s_n : Nat) : Int)), (8, .slice s_a s_n s_c), (5, .slice none 0 0), (1, .string pfx)] _ := F7.cut rfl
 clear F4 F5 F6 F7
 refine s_end (x_normal (wp_block ?_))
 have S10 : Mv [] w [ow 9 1 encS okS (.slice none 0 0) ([] : List ByteArray)] w := mv_nil (At.nil w)
 refine x_loop (fun (k : Nat) aZ wZ => ∃ (oa : Option Addr), ∃ (on : Nat), ∃ (oc : Nat), Fr 25 [(10, .int .i64 ((k : Nat) : Int)), (9, .int .i64 ((s_n : Nat) : Int)), (8, .slice s_a s_n s_c), (5, .slice oa on oc), (1, .string pfx)] aZ ∧ Mv [ow 9 1 encS okS (.slice none 0 0) ([] : List ByteArray)] w [ow 9 1 encS okS (.slice oa on oc) (keysUnder (s.take k) pfx)] wZ ∧ (k ≤ s_n)) (fun (k : Nat) => s_n - k) (0) ?_ ?_
 · exact ⟨none, 0, 0, F8.cut rfl, (Mv.refl S10.at'), by omega⟩
 · rintro k a9 w9 ⟨oa, on, oc, F9, S9, hk_0⟩
   refine wp_seq (wp_region_lit (l_op (f_val F9 rfl rfl (r_cmp (b := decide (k < s_n)) (.inr (.inr (.inl rfl))) rfl (F9.ev 10 rfl) (F9.ev 9 rfl) (dec_of (by omega))) rfl fun _ F11 => ?_)))
   have F12 : Fr 25 [(11, .bool (decide (k < s_n))), (10, .int .i64 ((k : Nat) : Int)), (9, .int .i64 ((s_n : Nat) : Int)), (8, .slice s_a s_n s_c), (5, .slice oa on oc), (1, .string pfx)] _ := F11.cut rfl
   clear F9 F11
   refine s_end (x_normal (wp_seq (x_cond (p := k < s_n) (F12.ev 11 rfl) (fun h13 => ?_) (fun h13 => ?_))))
   · skip
     refine wp_skip (x_normal (wp_seq (wp_block (wp_seq (wp_region_lit ?_)))))
     obtain ⟨B14, O14, x1, ad14, hx1, okx1, ln14, cl14⟩ := Rd.at (Rd.mv (Nat.succ_pos _) V_v_s (S10.trans S9)) k (by first | assumption | omega)
     clear ln14
     refine l_op (f_val F12 rfl rfl (r_indexAddr (i := k) ET_26 rfl ((F12.ev 8 rfl).trans (by rw [ad14])) (F12.ev 10 rfl) (by omega) (by first | assumption | omega)) rfl fun _ F15 => ?_)
     refine l_op (f_val (v := .agg #[.string x1.key, .string x1.val]) F15 rfl rfl (r_load (cs := [.string x1.key, .string x1.val]) TI_81 rfl (F15.ev 12 rfl) rfl (fun h => nomatch h) (elem_sub (f := 0) cl14 [.string x1.key, .string x1.val] rfl)) rfl fun _ F16 => ?_)
     refine l_op (f_alloc F16 S9.at' ZI_81 rfl rfl rfl rfl rfl fun b17 _ w17 F18 S17 => ?_)
     refine l_op (s_store S17.at' 0 TI_81 rfl rfl rfl rfl rfl (F18.ev 7 rfl) (F18.ev 13 rfl) rfl rfl rfl rfl rfl fun w19 S19 => ?_)
     have F20 : Fr 25 [(7, .pointer (some ⟨b17, 0, none⟩)), (13, .agg #[.string x1.key, .string x1.val]), (10, .int .i64 ((k : Nat) : Int)), (9, .int .i64 ((s_n : Nat) : Int)), (8, .slice s_a s_n s_c), (5, .slice oa on oc), (1, .string pfx)] _ := F18.cut rfl
     clear F12 F15 F16 F18
     have T21 : Mv _ _ [bx b17 [.string x1.key, .string x1.val] 81, ow 9 1 encS okS (.slice oa on oc) (keysUnder (s.take k) pfx)] _ := S19
     refine s_end (x_normal (wp_seq (wp_region_lit (l_op (f_val F20 rfl rfl (r_field FI_81_0 rfl (F20.ev 7 rfl) rfl) rfl fun _ F22 => ?_)))))
     refine l_op (f_val (v := .string x1.key) F22 rfl rfl (r_loadB T21.at' 0 TI_9 rfl rfl (F22.ev 14 rfl) rfl rfl (fun _ => rfl) rfl) rfl fun _ F23 => ?_)
     refine l_op (f_mv F23 rfl rfl rfl rfl rfl fun _ F24 => ?_)
     refine l_op (f_call F24 CF_158 rfl rfl rfl rfl (lc (F24.ev 15 rfl) (lc (F24.ev 16 rfl) rfl)) (strings_HasPrefix_c (H := fun _ => True) (s := x1.key) (pfx := pfx) okx1.1 h_pfx) ?_)
     rintro _ w25 ⟨rfl, m25⟩
     refine ⟨_, rfl, fun _ F26 => ?_⟩
     have S25 := At.frame0 T21.at' m25
     clear m25
     have F27 : Fr 25 [(17, .bool (begins x1.key pfx)), (7, .pointer (some ⟨b17, 0, none⟩)), (10, .int .i64 ((k : Nat) : Int)), (9, .int .i64 ((s_n : Nat) : Int)), (8, .slice s_a s_n s_c), (5, .slice oa on oc), (1, .string pfx)] _ := F26.cut rfl
     clear F20 F22 F23 F24 F26
     have T28 : Mv _ _ [bx b17 [.string x1.key, .string x1.val] 81, ow 9 1 encS okS (.slice oa on oc) (keysUnder (s.take k) pfx)] _ := S25
     refine s_end (x_normal (x_condb (b := (begins x1.key pfx)) (F27.ev 17 rfl) (fun h29 => ?_) (fun h29 => ?_)))
     · skip
       refine wp_region_lit (l_op (f_mv F27 rfl rfl rfl rfl rfl fun _ F30 => ?_))
       refine l_op (f_val F30 rfl rfl (r_field FI_81_0 rfl (F30.ev 7 rfl) rfl) rfl fun _ F31 => ?_)
       refine l_op (f_val (v := .string x1.key) F31 rfl rfl (r_loadB T28.at' 0 TI_9 rfl rfl (F31.ev 19 rfl) rfl rfl (fun _ => rfl) rfl) rfl fun _ F32 => ?_)
       refine l_op (f_buildSl (ok := okS) (vs := [.string x1.key]) F32 T28.at' ([x1.key]) ET_27 rfl rfl rfl rfl rfl rfl (lc (pr2 (F32.ev 20 rfl)) rfl) rfl rfl (fun x hx => (List.mem_singleton.1 hx) ▸ okx1.1) fun b33 _ w33 F34 S33 => ?_)
       refine l_op (f_app (news := [x1.key]) F34 S33.at' 2 ET_27 rfl rfl rfl rfl rfl rfl (F34.ev 18 rfl) (F34.ev 21 rfl) ((At.rd S33.at' ET_27.hk 0 rfl)).1 (by have := keysUnder_take s pfx k; ((repeat (first | rw [List.length_append] | rw [List.length_cons] | rw [List.length_nil] | rw [List.length_take] | rw [List.length_drop])) <;> omega)) fun A35 N35 C35 _ w35 F36 S35 l35 => ?_)
       have S37 := At.drop S35.at' 1
       refine l_op (f_as F36 rfl rfl rfl rfl rfl fun _ F38 => ?_)
       have F39 : Fr 25 [(5, .slice A35 N35 C35), (10, .int .i64 ((k : Nat) : Int)), (9, .int .i64 ((s_n : Nat) : Int)), (8, .slice s_a s_n s_c), (1, .string pfx)] _ := F38.cut rfl
       clear F27 F30 F31 F32 F34 F36 F38
       have T40 : Mv _ _ [ow 9 1 encS okS (.slice A35 N35 C35) ((keysUnder (s.take k) pfx) ++ ([x1.key])), bx b17 [.string x1.key, .string x1.val] 81] _ := S37
       refine s_end (x_block_normal (x_normal (wp_region_lit (l_op (f_val F39 rfl rfl (r_add (z := ((k + 1 : Nat) : Int)) rfl (F39.ev 10 rfl) rfl (by first | rfl | omega) ⟨by first | omega | (unfold i64ok at *; omega), by first | omega | (unfold i64ok at *; omega)⟩) rfl fun _ F41 => ?_)))))
       refine l_op (f_mv F41 rfl rfl rfl rfl rfl fun _ F42 => ?_)
       have F43 : Fr 25 [(10, .int .i64 ((k + 1 : Nat) : Int)), (5, .slice A35 N35 C35), (9, .int .i64 ((s_n : Nat) : Int)), (8, .slice s_a s_n s_c), (1, .string pfx)] _ := F42.cut rfl
       clear F39 F41 F42
       refine s_end ?_
       refine x_normal ⟨k + 1, by omega, A35, N35, C35, F43.cut rfl, (Mv.cast ((S9.trans (S17.trans (T21.trans (T28.trans (S33.trans (S35.trans T40)))))).pick [0] rfl) (by (rw [keysUnder_step hx1]; first | rw [if_pos (by assumption)] | rw [if_neg (ne_true_of_eq_false (by assumption)), List.append_nil]); all_goals rfl)), by omega⟩
     · skip
       refine wp_skip (x_block_normal (x_normal (wp_region_lit (l_op (f_val F27 rfl rfl (r_add (z := ((k + 1 : Nat) : Int)) rfl (F27.ev 10 rfl) rfl (by first | rfl | omega) ⟨by first | omega | (unfold i64ok at *; omega), by first | omega | (unfold i64ok at *; omega)⟩) rfl fun _ F44 => ?_)))))
       refine l_op (f_mv F44 rfl rfl rfl rfl rfl fun _ F45 => ?_)
       have F46 : Fr 25 [(10, .int .i64 ((k + 1 : Nat) : Int)), (9, .int .i64 ((s_n : Nat) : Int)), (8, .slice s_a s_n s_c), (5, .slice oa on oc), (1, .string pfx)] _ := F45.cut rfl
       clear F27 F44 F45
       refine s_end ?_
       refine x_normal ⟨k + 1, by omega, oa, on, oc, F46.cut rfl, (Mv.cast ((S9.trans (S17.trans (T21.trans T28))).pick [1] rfl) (by (rw [keysUnder_step hx1]; first | rw [if_pos (by assumption)] | rw [if_neg (ne_true_of_eq_false (by assumption)), List.append_nil]); all_goals rfl)), by omega⟩
   · skip
     refine wp_exit (x_then_exit (x_then_exit (x_block_here (x_normal (wp_seq (wp_region_lit (l_op (f_mv F12 rfl rfl rfl rfl rfl fun _ F47 => ?_))))))))
     refine l_op (f_as F47 rfl rfl rfl rfl rfl fun _ F48 => ?_)
     have F49 : Fr 25 [(4, .slice oa on oc)] _ := F48.cut rfl
     clear F12 F47 F48
     refine s_end (x_normal (wp_ret ?_))
     refine x_done (v := .slice oa on oc) F49 (results_1 Tryd.results132 (.tmp (F49.ev 4 rfl))) ?_
     exact ⟨oa, on, oc, rfl, (Mv.cast (Mv.pick (S10.trans S9) [0] rfl) (by rw [(show (keysUnder (s.take k) pfx) = (keysUnder s pfx) from by rw [List.take_of_length_le (by omega)])]; all_goals rfl))⟩
theorem impl_Mach_under_c {w : World} {H : Nat → Prop} {m : MachD} {m_store_a : Option Addr} {m_store_n m_store_c : Nat} {m_touch_reads_a : Option Addr} {m_touch_reads_n m_touch_reads_c : Nat} {m_touch_writes_a : Option Addr} {m_touch_writes_n m_touch_writes_c : Nat} {m_b : Nat} {pfx : ByteArray} (h_pfx : okS pfx) (p0 : m.store.length ≤ 274877906944) (p1 : m.touch.reads.length ≤ 274877906944) (p2 : pfx.size ≤ 4611686018427387904) (hA : At w [bx m_b [.slice m_store_a m_store_n m_store_c, .slice m_touch_reads_a m_touch_reads_n m_touch_reads_c, .slice m_touch_writes_a m_touch_writes_n m_touch_writes_c] 31, ow 81 2 encC okC (.slice m_store_a m_store_n m_store_c) m.store, ow 9 1 encS okS (.slice m_touch_reads_a m_touch_reads_n m_touch_reads_c) m.touch.reads, ow 9 1 encS okS (.slice m_touch_writes_a m_touch_writes_n m_touch_writes_c) m.touch.writes]) :
    Calls Tryd.prog 107 #[.pointer (some ⟨m_b, 0, none⟩), .string pfx] w fun e w' => ∃ (r0_a : Option Addr), ∃ (r0_n : Nat), ∃ (r0_c : Nat), ∃ (q_m_store_a : Option Addr), ∃ (q_m_store_n : Nat), ∃ (q_m_store_c : Nat), ∃ (q_m_touch_reads_a : Option Addr), ∃ (q_m_touch_reads_n : Nat), ∃ (q_m_touch_reads_c : Nat), ∃ (q_m_touch_writes_a : Option Addr), ∃ (q_m_touch_writes_n : Nat), ∃ (q_m_touch_writes_c : Nat), e = .returned (.slice r0_a r0_n r0_c) ∧ Mv [bx m_b [.slice m_store_a m_store_n m_store_c, .slice m_touch_reads_a m_touch_reads_n m_touch_reads_c, .slice m_touch_writes_a m_touch_writes_n m_touch_writes_c] 31, ow 81 2 encC okC (.slice m_store_a m_store_n m_store_c) m.store, ow 9 1 encS okS (.slice m_touch_reads_a m_touch_reads_n m_touch_reads_c) m.touch.reads, ow 9 1 encS okS (.slice m_touch_writes_a m_touch_writes_n m_touch_writes_c) m.touch.writes] w [ow 9 1 encS okS (.slice r0_a r0_n r0_c) (keysUnder m.store pfx), bx m_b [.slice q_m_store_a q_m_store_n q_m_store_c, .slice q_m_touch_reads_a q_m_touch_reads_n q_m_touch_reads_c, .slice q_m_touch_writes_a q_m_touch_writes_n q_m_touch_writes_c] 31, ow 81 2 encC okC (.slice q_m_store_a q_m_store_n q_m_store_c) (lookM m (pfx ++ (⟨#[42]⟩ : ByteArray))).store, ow 9 1 encS okS (.slice q_m_touch_reads_a q_m_touch_reads_n q_m_touch_reads_c) (lookM m (pfx ++ (⟨#[42]⟩ : ByteArray))).touch.reads, ow 9 1 encS okS (.slice q_m_touch_writes_a q_m_touch_writes_n q_m_touch_writes_c) (lookM m (pfx ++ (⟨#[42]⟩ : ByteArray))).touch.writes] w' := by
 have uU : True := (fun _ _ _ _ => trivial) H p0 p1 p2
 clear uU
 obtain ⟨lo1, lp1, lq1⟩ := At.ownInv hA ET_26.hk 1 rfl
 obtain ⟨lo2, lp2, lq2⟩ := At.ownInv hA ET_27.hk 2 rfl
 obtain ⟨lo3, lp3, lq3⟩ := At.ownInv hA ET_27.hk 3 rfl
 refine calls_enter 23 Tryd.func107 rfl Tryd.ntmps107 (Nat.le_of_ble_eq_true rfl) (fun _ F0i => ?_)
 have F0 : Fr 23 [(0, .pointer (some ⟨m_b, 0, none⟩)), (1, .string pfx)] _ := F0i
 clear F0i
 refine wp_seq (wp_region_lit (l_op (f_val F0 rfl rfl (r_assign rfl rfl) rfl fun _ F1 => ?_)))
 have F2 : Fr 23 [(4, .slice none 0 0), (0, .pointer (some ⟨m_b, 0, none⟩)), (1, .string pfx)] _ := F1.cut rfl
 clear F0 F1
 refine s_end (x_normal (wp_seq (wp_region_lit (l_op (f_mv F2 rfl rfl rfl rfl rfl fun _ F3 => ?_)))))
 refine l_op (f_mv F3 rfl rfl rfl rfl rfl fun _ F4 => ?_)
 refine l_op (f_val F4 rfl rfl (r_nilCheck rfl (F4.ev 6 rfl)) rfl fun _ F5 => ?_)
 refine l_op (f_val F5 rfl rfl (r_field FI_31_1 rfl (F5.ev 7 rfl) rfl) rfl fun _ F6 => ?_)
 refine l_op (f_val F6 rfl rfl (r_field FI_29_0 rfl (F6.ev 8 rfl) rfl) rfl fun _ F7 => ?_)
 refine l_op (f_val (v := .slice m_touch_reads_a m_touch_reads_n m_touch_reads_c) F7 rfl rfl (r_loadB hA 0 TI_27 rfl rfl (F7.ev 9 rfl) rfl rfl (fun _ => rfl) rfl) rfl fun _ F8 => ?_)
 refine l_op (f_mv F8 rfl rfl rfl rfl rfl fun _ F9 => ?_)
 have k10 : pfx.size + (⟨#[42]⟩ : ByteArray).size ≤ 9223372036854775807 := by have : (⟨#[42]⟩ : ByteArray).size = 1 := rfl; omega
 refine l_op (f_val F9 rfl rfl (r_cat rfl (F9.ev 11 rfl) rfl k10) rfl fun _ F11 => ?_)
 refine l_op (f_call F11 CF_128 rfl rfl rfl rfl (lc (F11.ev 10 rfl) (lc (F11.ev 12 rfl) rfl)) (impl_addSpan_c (H := fun _ => True) (list := m.touch.reads) (span := pfx ++ (⟨#[42]⟩ : ByteArray)) (okS_cat k10) (by first | assumption | omega | (simp <;> omega)) (At.pick (is := [2]) hA rfl)) ?_)
 rintro _ w12 ⟨r0_a_12, r0_n_12, r0_c_12, rfl, m12⟩
 refine ⟨_, rfl, fun _ F13 => ?_⟩
 have S12 : Mv _ _ [ow 9 1 encS okS (.slice r0_a_12 r0_n_12 r0_c_12) (putL m.touch.reads (pfx ++ (⟨#[42]⟩ : ByteArray))), bx m_b [.slice m_store_a m_store_n m_store_c, .slice m_touch_reads_a m_touch_reads_n m_touch_reads_c, .slice m_touch_writes_a m_touch_writes_n m_touch_writes_c] 31, ow 81 2 encC okC (.slice m_store_a m_store_n m_store_c) m.store, ow 9 1 encS okS (.slice m_touch_writes_a m_touch_writes_n m_touch_writes_c) m.touch.writes] _ := At.frame hA [2] rfl m12
 obtain ⟨lo12_0, lp12_0, lq12_0⟩ := At.ownInv S12.at' ET_27.hk 0 rfl
 clear m12
 refine l_op (f_val F13 rfl rfl (r_nilCheck rfl (F13.ev 5 rfl)) rfl fun _ F14 => ?_)
 refine l_op (f_val F14 rfl rfl (r_field FI_31_1 rfl (F14.ev 14 rfl) rfl) rfl fun _ F15 => ?_)
 refine l_op (f_val F15 rfl rfl (r_field FI_29_0 rfl (F15.ev 15 rfl) rfl) rfl fun _ F16 => ?_)
 refine l_op (s_store S12.at' 1 TI_27 rfl rfl rfl rfl rfl (F16.ev 16 rfl) (F16.ev 13 rfl) rfl rfl rfl rfl rfl fun w17 S17 => ?_)
 have F18 : Fr 23 [(16, .pointer (some ⟨m_b, 1, none⟩)), (13, .slice r0_a_12 r0_n_12 r0_c_12), (0, .pointer (some ⟨m_b, 0, none⟩)), (1, .string pfx)] _ := F16.cut rfl
 clear F2 F3 F4 F5 F6 F7 F8 F9 F11 F13 F14 F15 F16
 have T19 : Mv _ _ [bx m_b [.slice m_store_a m_store_n m_store_c, .slice r0_a_12 r0_n_12 r0_c_12, .slice m_touch_writes_a m_touch_writes_n m_touch_writes_c] 31, ow 9 1 encS okS (.slice r0_a_12 r0_n_12 r0_c_12) (putL m.touch.reads (pfx ++ (⟨#[42]⟩ : ByteArray))), ow 81 2 encC okC (.slice m_store_a m_store_n m_store_c) m.store, ow 9 1 encS okS (.slice m_touch_writes_a m_touch_writes_n m_touch_writes_c) m.touch.writes] _ := S17
 refine s_end (x_normal (wp_seq (wp_region_lit (l_op (f_mv F18 rfl rfl rfl rfl rfl fun _ F20 => ?_)))))
 refine l_op (f_val F20 rfl rfl (r_nilCheck rfl (F20.ev 17 rfl)) rfl fun _ F21 => ?_)
 refine l_op (f_val F21 rfl rfl (r_field FI_31_0 rfl (F21.ev 18 rfl) rfl) rfl fun _ F22 => ?_)
 refine l_op (f_val (v := .slice m_store_a m_store_n m_store_c) F22 rfl rfl (r_loadB T19.at' 0 TI_26 rfl rfl (F22.ev 19 rfl) rfl rfl (fun _ => rfl) rfl) rfl fun _ F23 => ?_)
 refine l_op (f_mv F23 rfl rfl rfl rfl rfl fun _ F24 => ?_)
 refine l_op (f_call F24 CF_132 rfl rfl rfl rfl (lc (F24.ev 20 rfl) (lc (F24.ev 21 rfl) rfl)) (impl_KeysUnder_c (H := fun _ => True) (s := m.store) (pfx := pfx) (At.rd T19.at' ET_26.hk 2 rfl) h_pfx (by first | assumption | omega | (simp <;> omega))) ?_)
 rintro _ w25 ⟨r0_a_25, r0_n_25, r0_c_25, rfl, m25⟩
 refine ⟨_, rfl, fun _ F26 => ?_⟩
 have S25 : Mv _ _ [ow 9 1 encS okS (.slice r0_a_25 r0_n_25 r0_c_25) (keysUnder m.store pfx), bx m_b [.slice m_store_a m_store_n m_store_c, .slice r0_a_12 r0_n_12 r0_c_12, .slice m_touch_writes_a m_touch_writes_n m_touch_writes_c] 31, ow 9 1 encS okS (.slice r0_a_12 r0_n_12 r0_c_12) (putL m.touch.reads (pfx ++ (⟨#[42]⟩ : ByteArray))), ow 81 2 encC okC (.slice m_store_a m_store_n m_store_c) m.store, ow 9 1 encS okS (.slice m_touch_writes_a m_touch_writes_n m_touch_writes_c) m.touch.writes] _ := At.frame T19.at' [] rfl m25
 obtain ⟨lo25_0, lp25_0, lq25_0⟩ := At.ownInv S25.at' ET_27.hk 0 rfl
 clear m25
 refine l_op (f_as F26 rfl rfl rfl rfl rfl fun _ F27 => ?_)
 have F28 : Fr 23 [(4, .slice r0_a_25 r0_n_25 r0_c_25)] _ := F27.cut rfl
 clear F18 F20 F21 F22 F23 F24 F26 F27
 refine s_end (x_normal (wp_ret ?_))
 refine x_done (v := .slice r0_a_25 r0_n_25 r0_c_25) F28 (results_1 Tryd.results107 (.tmp (F28.ev 4 rfl))) ?_
 exact ⟨r0_a_25, r0_n_25, r0_c_25, m_store_a, m_store_n, m_store_c, r0_a_12, r0_n_12, r0_c_12, m_touch_writes_a, m_touch_writes_n, m_touch_writes_c, rfl, (Mv.cast (Mv.pick (S12.trans (T19.trans S25)) [0, 1, 3, 2, 4] rfl) rfl)⟩
end Go.Proofs.YtjiplnaceiofmaaDoor
