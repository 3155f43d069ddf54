/-
  Walks: numbers in a range, beginnings of texts, reading a store.
-/
import Derived.Test.YtibgmijfnbnfkaaGreatDoorDat
namespace Go.Proofs.YtibgmijfnbnfkaaGreatDoor
open Go.ChangeShapes Go.WideShapes Go.ChangeAt Go.RowKit
set_option maxRecDepth 100000
set_option maxHeartbeats 1000000
theorem impl_within_c {w : World} {H : Nat → Prop} {n : Int} {low : Int} {high : Int} (h_n : i64ok n) (Q1 : i64ok low) (Q0 : i64ok high) :
    Calls Tryz.prog 72 #[.int .i64 n, .int .i64 low, .int .i64 high] w fun e w' => e = .returned (.bool (inB n low high)) ∧ Mv [] w [] w' := by
 have uU : True := (fun _ _ _ _ => trivial) H h_n Q1 Q0
 clear uU
 refine calls_enter 15 Tryz.func72 rfl Tryz.ntmps72 (Nat.le_of_ble_eq_true rfl) (fun _ F0i => ?_)
 have F0 : Fr 15 [(0, .int .i64 n), (1, .int .i64 low), (2, .int .i64 high)] _ := F0i
 clear F0i
 refine wp_seq (wp_region_lit (l_op (f_val F0 rfl rfl (r_assign rfl rfl) rfl fun _ F1 => ?_)))
 refine s_end (x_normal (wp_seq (wp_region_lit (l_op (f_mv F1 rfl rfl rfl rfl rfl fun _ F2 => ?_)))))
 refine l_op (f_mv F2 rfl rfl rfl rfl rfl fun _ F3 => ?_)
 refine l_op (f_val F3 rfl rfl (r_cmp (b := decide (n ≥ low)) (.inr (.inr (.inr (.inr (.inr rfl))))) rfl (F3.ev 7 rfl) (F3.ev 8 rfl) (dec_of (by omega))) rfl fun _ F4 => ?_)
 refine l_op (f_mv F4 rfl rfl rfl rfl rfl fun _ F5 => ?_)
 rcases Decidable.em (n ≥ low) with h6 | h6
 · rw [decide_eq_true h6] at F5
   refine l_op (f_mv F5 (wanted_g F5 rfl rfl rfl rfl) rfl rfl rfl rfl fun _ F7 => ?_)
   refine l_op (f_mv F7 (wanted_g F7 rfl rfl rfl rfl) rfl rfl rfl rfl fun _ F8 => ?_)
   refine l_op (f_val F8 (wanted_g F8 rfl rfl rfl rfl) rfl (r_cmp (b := decide (n ≤ high)) (.inr (.inr (.inr (.inl rfl)))) rfl (F8.ev 11 rfl) (F8.ev 12 rfl) (dec_of (by omega))) rfl fun _ F9 => ?_)
   refine l_op (f_val F9 rfl rfl (r_pick (b := true) rfl (F9.ev 10 rfl) (F9.ev 13 rfl)) rfl fun _ F10 => ?_)
   refine l_op (f_as F10 rfl rfl rfl rfl rfl fun _ F11 => ?_)
   refine s_end (x_normal (wp_ret ?_))
   refine x_done (v := .bool (decide (n ≤ high))) F11 (results_1 Tryz.results72 (.tmp (F11.ev 6 rfl))) ?_
   exact ⟨(by rw [(show (decide (n ≤ high)) = (inB n low high) from by unfold inB; first | rfl | exact dec_of (by omega) | exact (decide_eq_false (by omega)).symm | exact (decide_eq_true (by omega)).symm)]), (Mv.pick (Mv.refl (At.nil w)) [] rfl)⟩
 · rw [decide_eq_false h6] at F5
   refine l_op (f_skip F5 (wanted_g F5 rfl rfl rfl rfl) rfl rfl fun _ F12 => ?_)
   refine l_op (f_skip F12 (wanted_g F12 rfl rfl rfl rfl) rfl rfl fun _ F13 => ?_)
   refine l_op (f_skip F13 (wanted_g F13 rfl rfl rfl rfl) rfl rfl fun _ F14 => ?_)
   refine l_op (f_val F14 rfl rfl (r_pick (b := false) rfl (F14.ev 10 rfl) rfl) rfl fun _ F15 => ?_)
   refine l_op (f_as F15 rfl rfl rfl rfl rfl fun _ F16 => ?_)
   refine s_end (x_normal (wp_ret ?_))
   refine x_done (v := .bool false) F16 (results_1 Tryz.results72 (.tmp (F16.ev 6 rfl))) ?_
   exact ⟨(by rw [(show false = (inB n low high) from by unfold inB; first | rfl | exact dec_of (by omega) | exact (decide_eq_false (by omega)).symm | exact (decide_eq_true (by omega)).symm)]), (Mv.pick (Mv.refl (At.nil w)) [] rfl)⟩
theorem spec_l02Begins_c {w : World} {H : Nat → Prop} {s : ByteArray} {pfx : ByteArray} (h_s : okS s) (Q0 : okS pfx) :
    Calls Tryz.prog 56 #[.string s, .string pfx] w fun e w' => e = .returned (.bool (begins s pfx)) ∧ Mv [] w [] w' := by
 have uU : True := (fun _ _ _ => trivial) H h_s Q0
 clear uU
 refine calls_enter 18 Tryz.func56 rfl Tryz.ntmps56 (Nat.le_of_ble_eq_true rfl) (fun _ F0i => ?_)
 have F0 : Fr 18 [(0, .string s), (1, .string pfx)] _ := F0i
 clear F0i
 refine wp_seq (wp_region_lit (l_op (f_val F0 rfl rfl (r_assign rfl rfl) rfl fun _ F1 => ?_)))
 refine s_end (x_normal (wp_seq (wp_region_lit (l_op (f_mv F1 rfl rfl rfl rfl rfl fun _ F2 => ?_)))))
 refine l_op (f_val F2 rfl rfl (r_lenS (fun t ht => by cases ht; exact Tryz.underlying9) rfl rfl (F2.ev 5 rfl)) rfl fun _ F3 => ?_)
 refine l_op (f_mv F3 rfl rfl rfl rfl rfl fun _ F4 => ?_)
 refine l_op (f_val F4 rfl rfl (r_lenS (fun t ht => by cases ht; exact Tryz.underlying9) rfl rfl (F4.ev 7 rfl)) rfl fun _ F5 => ?_)
 refine l_op (f_val F5 rfl rfl (r_cmp (b := decide (s.size ≥ pfx.size)) (.inr (.inr (.inr (.inr (.inr rfl))))) rfl (F5.ev 6 rfl) (F5.ev 8 rfl) (dec_of (by omega))) rfl fun _ F6 => ?_)
 refine l_op (f_mv F6 rfl rfl rfl rfl rfl fun _ F7 => ?_)
 rcases Decidable.em (s.size ≥ pfx.size) with h8 | h8
 · rw [decide_eq_true h8] at F7
   refine l_op (f_mv F7 (wanted_g F7 rfl rfl rfl rfl) rfl rfl rfl rfl fun _ F9 => ?_)
   refine l_op (f_mv F9 (wanted_g F9 rfl rfl rfl rfl) rfl rfl rfl rfl fun _ F10 => ?_)
   refine l_op (f_val F10 (wanted_g F10 rfl rfl rfl rfl) rfl (r_lenS (fun t ht => by cases ht; exact Tryz.underlying9) rfl rfl (F10.ev 12 rfl)) rfl fun _ F11 => ?_)
   refine l_op (f_val F11 (wanted_g F11 rfl rfl rfl rfl) rfl (r_sliceS (l := 0) (h := pfx.size) Tryz.underlying9 rfl (F11.ev 11 rfl) rfl (F11.ev 13 rfl) (by first | assumption | omega) (by first | assumption | omega) rfl) rfl fun _ F12 => ?_)
   refine l_op (f_mv F12 (wanted_g F12 rfl rfl rfl rfl) rfl rfl rfl rfl fun _ F13 => ?_)
   refine l_op (f_val F13 (wanted_g F13 rfl rfl rfl rfl) rfl (r_cmps (b := (decide ((s.extract 0 pfx.size) = pfx))) (.inl rfl) rfl (F13.ev 14 rfl) (F13.ev 15 rfl) rfl) rfl fun _ F14 => ?_)
   refine l_op (f_val F14 rfl rfl (r_pick (b := true) rfl (F14.ev 10 rfl) (F14.ev 16 rfl)) rfl fun _ F15 => ?_)
   refine l_op (f_as F15 rfl rfl rfl rfl rfl fun _ F16 => ?_)
   refine s_end (x_normal (wp_ret ?_))
   refine x_done (v := .bool (decide ((s.extract 0 pfx.size) = pfx))) F16 (results_1 Tryz.results56 (.tmp (F16.ev 4 rfl))) ?_
   exact ⟨(by rw [(show (decide ((s.extract 0 pfx.size) = pfx)) = (begins s pfx) from by unfold begins; by_cases hb : pfx.size ≤ s.size <;> simp_all <;> omega)]), (Mv.pick (Mv.refl (At.nil w)) [] rfl)⟩
 · rw [decide_eq_false h8] at F7
   refine l_op (f_skip F7 (wanted_g F7 rfl rfl rfl rfl) rfl rfl fun _ F17 => ?_)
   refine l_op (f_skip F17 (wanted_g F17 rfl rfl rfl rfl) rfl rfl fun _ F18 => ?_)
   refine l_op (f_skip F18 (wanted_g F18 rfl rfl rfl rfl) rfl rfl fun _ F19 => ?_)
   refine l_op (f_skip F19 (wanted_g F19 rfl rfl rfl rfl) rfl rfl fun _ F20 => ?_)
   refine l_op (f_skip F20 (wanted_g F20 rfl rfl rfl rfl) rfl rfl fun _ F21 => ?_)
   refine l_op (f_skip F21 (wanted_g F21 rfl rfl rfl rfl) rfl rfl fun _ F22 => ?_)
   refine l_op (f_val F22 rfl rfl (r_pick (b := false) rfl (F22.ev 10 rfl) rfl) rfl fun _ F23 => ?_)
   refine l_op (f_as F23 rfl rfl rfl rfl rfl fun _ F24 => ?_)
   refine s_end (x_normal (wp_ret ?_))
   refine x_done (v := .bool false) F24 (results_1 Tryz.results56 (.tmp (F24.ev 4 rfl))) ?_
   exact ⟨(by rw [(show false = (begins s pfx) from by unfold begins; by_cases hb : pfx.size ≤ s.size <;> simp_all <;> omega)]), (Mv.pick (Mv.refl (At.nil w)) [] rfl)⟩
theorem spec_KeysUnder_c {w : World} {H : Nat → Prop} {s : List CellD} {s_a : Option Addr} {s_n s_c : Nat} {pfx : ByteArray} (v_s : Rd 2 encC okC H w (.slice s_a s_n s_c) s) (Q1 : okS pfx) (p0 : s_n ≤ 1099511627776) :
    Calls Tryz.prog 23 #[.slice s_a s_n s_c, .string pfx] w fun e w' => ∃ (r0_a : Option Addr), ∃ (r0_n : Nat), ∃ (r0_c : Nat), e = .returned (.slice r0_a r0_n r0_c) ∧ Mv [] w [] w' ∧ Rd 1 encS okS (Fsh H w) w' (.slice r0_a r0_n r0_c) (keysUnder s pfx) := by
 have uU : True := (fun _ => trivial) p0
 clear uU
 have Q0 : Rd 2 encC okC (V H w []) w (.slice s_a s_n s_c) s := Rd.start v_s (fun _ _ => fps_nil _)
 obtain ⟨ln_s, le_s, mx_s, ni_s⟩ := Rd.inv v_s
 refine calls_enter 30 Tryz.func23 rfl Tryz.ntmps23 (Nat.le_of_ble_eq_true rfl) (fun _ F0i => ?_)
 have F0 : Fr 30 [(0, .slice s_a s_n s_c), (1, .string pfx)] _ := F0i
 clear F0i
 refine wp_seq (wp_region_lit (l_op (f_val F0 rfl rfl (r_assign rfl rfl) rfl fun _ F1 => ?_)))
 refine s_end (x_normal (wp_seq (wp_region_lit (l_op (f_buildSl (ok := okS) (vs := []) F1 (At.nil w) (([] : List ByteArray)) ET_25 rfl rfl rfl rfl rfl rfl rfl rfl rfl (by simp) fun b2 _ w2 F3 S2 => ?_)))))
 refine l_op (f_as F3 rfl rfl rfl rfl rfl fun _ F4 => ?_)
 refine s_end (x_normal (wp_seq (wp_seq (wp_region_lit (l_op (f_val F4 rfl rfl (r_assign rfl rfl) rfl fun _ F5 => ?_))))))
 refine s_end (x_normal (wp_block ?_))
 refine x_loop (fun (k : Nat) aZ wZ => ∃ (oa : Option Addr), ∃ (on : Nat), ∃ (oc : Nat), Fr 30 [(6, .int .i64 ((k : Nat) : Int)), (5, .slice oa on oc), (0, .slice s_a s_n s_c), (1, .string pfx)] aZ ∧ Mv [ow 9 1 encS okS (.slice (some ⟨b2, 0, none⟩) 0 0) ([] : List ByteArray)] w2 [ow 9 1 encS okS (.slice oa on oc) (keysUnder (s.take k) pfx)] wZ ∧ (k ≤ s_n)) (fun (k : Nat) => s_n - k) (0) ?_ ?_
 · exact ⟨(some ⟨b2, 0, none⟩), 0, 0, F5.cut rfl, (Mv.refl S2.at'), by omega⟩
 · rintro k a6 w6 ⟨oa, on, oc, F6, S6, hk_0⟩
   refine wp_seq (wp_seq (wp_region_lit (l_op (f_mv F6 rfl rfl rfl rfl rfl fun _ F7 => ?_))))
   refine l_op (f_mv F7 rfl rfl rfl rfl rfl fun _ F8 => ?_)
   refine l_op (f_val F8 rfl rfl (r_len Tryz.underlying24 rfl (F8.ev 9 rfl)) rfl fun _ F9 => ?_)
   refine l_op (f_val F9 rfl rfl (r_cmp (b := decide (k < s_n)) (.inr (.inr (.inl rfl))) rfl (F9.ev 8 rfl) (F9.ev 10 rfl) (dec_of (by omega))) rfl fun _ F10 => ?_)
   refine s_end (x_normal (x_cond (p := k < s_n) (F10.ev 11 rfl) (fun h11 => ?_) (fun h11 => ?_)))
   · skip
     refine wp_skip (x_normal (wp_seq (wp_block (wp_seq (wp_region_lit (l_op (f_mv F10 rfl rfl rfl rfl rfl fun _ F12 => ?_)))))))
     refine l_op (f_mv F12 rfl rfl rfl rfl rfl fun _ F13 => ?_)
     obtain ⟨B14, O14, x1, ad14, hx1, okx1, ln14, cl14⟩ := Rd.at (Rd.mq Q0 (S2.trans S6)) k (by first | assumption | omega)
     clear ln14
     refine l_op (f_val F13 rfl rfl (r_indexAddr (i := k) ET_24 rfl ((F13.ev 14 rfl).trans (by rw [ad14])) (F13.ev 15 rfl) (by omega) (by first | assumption | omega)) rfl fun _ F15 => ?_)
     refine l_op (f_val F15 rfl rfl (r_field FI_73_0 rfl (F15.ev 16 rfl) rfl) rfl fun _ F16 => ?_)
     refine l_op (f_val (v := .string x1.key) F16 rfl rfl (r_load (cs := [.string x1.key]) TI_9 rfl (F16.ev 17 rfl) rfl (fun _ => rfl) (elem_sub (f := 0) cl14 [.string x1.key] rfl)) rfl fun _ F17 => ?_)
     refine l_op (f_mv F17 rfl rfl rfl rfl rfl fun _ F18 => ?_)
     refine l_op (f_call F18 CF_56 rfl rfl rfl rfl (lc (F18.ev 18 rfl) (lc (F18.ev 19 rfl) rfl)) (spec_l02Begins_c (H := fun _ => True) (s := x1.key) (pfx := pfx) okx1.1 Q1) ?_)
     rintro _ w19 ⟨rfl, m19⟩
     refine ⟨_, rfl, fun _ F20 => ?_⟩
     have S19 := At.frame0 S6.at' m19
     clear m19
     refine s_end (x_normal (x_condb (b := (begins x1.key pfx)) (F20.ev 20 rfl) (fun h21 => ?_) (fun h21 => ?_)))
     · skip
       refine wp_region_lit (l_op (f_mv F20 rfl rfl rfl rfl rfl fun _ F22 => ?_))
       refine l_op (f_mv F22 rfl rfl rfl rfl rfl fun _ F23 => ?_)
       refine l_op (f_mv F23 rfl rfl rfl rfl rfl fun _ F24 => ?_)
       obtain ⟨B25, O25, y25, ad25, hy25, oky25, ln25, cl25⟩ := Rd.at (Rd.mq Q0 (S2.trans (S6.trans S19))) k (by first | assumption | omega)
       clear ln25
       obtain rfl := Option.some.inj (hx1.symm.trans hy25)
       clear hy25 oky25
       refine l_op (f_val F24 rfl rfl (r_indexAddr (i := k) ET_24 rfl ((F24.ev 22 rfl).trans (by rw [ad25])) (F24.ev 23 rfl) (by omega) (by first | assumption | omega)) rfl fun _ F26 => ?_)
       refine l_op (f_val F26 rfl rfl (r_field FI_73_0 rfl (F26.ev 24 rfl) rfl) rfl fun _ F27 => ?_)
       refine l_op (f_val (v := .string x1.key) F27 rfl rfl (r_load (cs := [.string x1.key]) TI_9 rfl (F27.ev 25 rfl) rfl (fun _ => rfl) (elem_sub (f := 0) cl25 [.string x1.key] rfl)) rfl fun _ F28 => ?_)
       refine l_op (f_buildSl (ok := okS) (vs := [.string x1.key]) F28 S19.at' ([x1.key]) ET_25 rfl rfl rfl rfl rfl rfl (lc (pr2 (F28.ev 26 rfl)) rfl) rfl rfl (fun x hx => (List.mem_singleton.1 hx) ▸ okx1.1) fun b29 _ w29 F30 S29 => ?_)
       refine l_op (f_app (news := [x1.key]) F30 S29.at' 1 ET_25 rfl rfl rfl rfl rfl rfl (F30.ev 21 rfl) (F30.ev 27 rfl) ((At.rd S29.at' ET_25.hk 0 rfl)).1 (by have := keysUnder_take s pfx k; ((repeat (first | rw [List.length_append] | rw [List.length_cons] | rw [List.length_nil] | rw [List.length_take] | rw [List.length_drop])) <;> omega)) fun A31 N31 C31 _ w31 F32 S31 l31 => ?_)
       have S33 := At.drop S31.at' 1
       refine l_op (f_as F32 rfl rfl rfl rfl rfl fun _ F34 => ?_)
       have T35 : Mv _ _ [ow 9 1 encS okS (.slice A31 N31 C31) ((keysUnder (s.take k) pfx) ++ ([x1.key]))] _ := S33
       refine s_end (x_block_normal (x_normal (wp_region_lit (l_op (f_mv F34 rfl rfl rfl rfl rfl fun _ F36 => ?_)))))
       refine l_op (f_val F36 rfl rfl (r_add (z := ((k + 1 : Nat) : Int)) rfl (F36.ev 12 rfl) rfl (by first | rfl | omega) ⟨by first | omega | (unfold i64ok at *; omega), by first | omega | (unfold i64ok at *; omega)⟩) rfl fun _ F37 => ?_)
       refine l_op (f_as F37 rfl rfl rfl rfl rfl fun _ F38 => ?_)
       refine s_end ?_
       refine x_normal ⟨k + 1, by omega, A31, N31, C31, F38.cut rfl, (Mv.cast ((S6.trans (S19.trans (S29.trans (S31.trans T35)))).pick [0] rfl) (by (rw [keysUnder_step hx1]; first | rw [if_pos ‹_›] | rw [if_neg (ne_true_of_eq_false ‹_›), List.append_nil]); all_goals rfl)), by omega⟩
     · skip
       refine wp_skip (x_block_normal (x_normal (wp_region_lit (l_op (f_mv F20 rfl rfl rfl rfl rfl fun _ F39 => ?_)))))
       refine l_op (f_val F39 rfl rfl (r_add (z := ((k + 1 : Nat) : Int)) rfl (F39.ev 12 rfl) rfl (by first | rfl | omega) ⟨by first | omega | (unfold i64ok at *; omega), by first | omega | (unfold i64ok at *; omega)⟩) rfl fun _ F40 => ?_)
       refine l_op (f_as F40 rfl rfl rfl rfl rfl fun _ F41 => ?_)
       refine s_end ?_
       refine x_normal ⟨k + 1, by omega, oa, on, oc, F41.cut rfl, (Mv.cast ((S6.trans S19).pick [0] rfl) (by (rw [keysUnder_step hx1]; first | rw [if_pos ‹_›] | rw [if_neg (ne_true_of_eq_false ‹_›), List.append_nil]); all_goals rfl)), by omega⟩
   · skip
     refine wp_exit (x_then_exit (x_then_exit (x_block_here (x_normal (wp_seq (wp_region_lit (l_op (f_mv F10 rfl rfl rfl rfl rfl fun _ F42 => ?_))))))))
     refine l_op (f_as F42 rfl rfl rfl rfl rfl fun _ F43 => ?_)
     refine s_end (x_normal (wp_ret ?_))
     have Z44 : Rd 1 encS okS (V H w []) w6 (.slice oa on oc) (keysUnder (s.take k) pfx) := At.freeze (S2.trans S6) ET_25.hk 0 rfl (fun b hb => ((S2.trans S6).fresh b ⟨_, nth_mem (i := 0) rfl, hb⟩).resolve_left (fps_nil _))
     have S44 := At.drop S6.at' 0
     refine x_done (v := .slice oa on oc) F43 (results_1 Tryz.results23 (.tmp (F43.ev 4 rfl))) ?_
     exact ⟨oa, on, oc, rfl, (Mv.pick (S2.trans (S6.trans S44)) [] rfl), (Rd.cast (Rd.give Z44) (show (keysUnder (s.take k) pfx) = (keysUnder s pfx) from by rw [List.take_of_length_le (by omega)]))⟩
end Go.Proofs.YtibgmijfnbnfkaaGreatDoor
