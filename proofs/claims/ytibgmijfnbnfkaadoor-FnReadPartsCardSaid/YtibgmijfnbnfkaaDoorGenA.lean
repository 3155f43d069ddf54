/-
  Walks: numbers in a range, beginnings of texts, reading a store.
-/
import Derived.Test.YtibgmijfnbnfkaaDoorDat
namespace Go.Proofs.YtibgmijfnbnfkaaDoor
open Go.ChangeShapes Go.WideShapes Go.ChangeAt Go.RowKit
set_option maxRecDepth 100000
set_option maxHeartbeats 1000000
theorem impl_within_c {w : World} {H : Nat → Prop} {n : Int} {low : Int} {high : Int} (h_n : i64ok n) (h_low : i64ok low) (h_high : i64ok high) :
    Calls Tryd.prog 34 #[.int .i64 n, .int .i64 low, .int .i64 high] w fun e w' => e = .returned (.bool (inB n low high)) ∧ Mv [] w [] w' := by
 have uU : True := (fun _ _ _ _ => trivial) H h_n h_low h_high
 clear uU
 refine calls_enter 15 Tryd.func34 rfl Tryd.ntmps34 (Nat.le_of_ble_eq_true rfl) (fun _ F0i => ?_)
 have F0 : Fr 15 [(0, .int .i64 n), (1, .int .i64 low), (2, .int .i64 high)] _ := F0i
 clear F0i
 refine wp_seq (wp_region_lit (l_op (f_val F0 rfl rfl (r_assign rfl rfl) rfl fun _ F1 => ?_)))
 have F2 : Fr 15 [(6, .bool false), (0, .int .i64 n), (1, .int .i64 low), (2, .int .i64 high)] _ := F1.cut rfl
 clear F0 F1
 refine s_end (x_normal (wp_seq (wp_region_lit (l_op (f_mv F2 rfl rfl rfl rfl rfl fun _ F3 => ?_)))))
 refine l_op (f_mv F3 rfl rfl rfl rfl rfl fun _ F4 => ?_)
 refine l_op (f_val F4 rfl rfl (r_cmp (b := decide (n ≥ low)) (.inr (.inr (.inr (.inr (.inr rfl))))) rfl (F4.ev 7 rfl) (F4.ev 8 rfl) (dec_of (by omega))) rfl fun _ F5 => ?_)
 refine l_op (f_mv F5 rfl rfl rfl rfl rfl fun _ F6 => ?_)
 rcases Decidable.em (n ≥ low) with h7 | h7
 · rw [decide_eq_true h7] at F6
   refine l_op (f_mv F6 (wanted_g F6 rfl rfl rfl rfl) rfl rfl rfl rfl fun _ F8 => ?_)
   refine l_op (f_mv F8 (wanted_g F8 rfl rfl rfl rfl) rfl rfl rfl rfl fun _ F9 => ?_)
   refine l_op (f_val F9 (wanted_g F9 rfl rfl rfl rfl) rfl (r_cmp (b := decide (n ≤ high)) (.inr (.inr (.inr (.inl rfl)))) rfl (F9.ev 11 rfl) (F9.ev 12 rfl) (dec_of (by omega))) rfl fun _ F10 => ?_)
   refine l_op (f_val F10 rfl rfl (r_pick (b := true) rfl (F10.ev 10 rfl) (F10.ev 13 rfl)) rfl fun _ F11 => ?_)
   refine l_op (f_as F11 rfl rfl rfl rfl rfl fun _ F12 => ?_)
   have F13 : Fr 15 [(6, .bool (decide (n ≤ high)))] _ := F12.cut rfl
   clear F2 F3 F4 F5 F6 F8 F9 F10 F11 F12
   refine s_end (x_normal (wp_ret ?_))
   refine x_done (v := .bool (decide (n ≤ high))) F13 (results_1 Tryd.results34 (.tmp (F13.ev 6 rfl))) ?_
   exact ⟨(by rw [(show (decide (n ≤ high)) = (inB n low high) from by unfold inB; first | rfl | exact dec_of (by omega) | exact (decide_eq_false (by omega)).symm | exact (decide_eq_true (by omega)).symm)]), (Mv.pick (Mv.refl (At.nil w)) [] rfl)⟩
 · rw [decide_eq_false h7] at F6
   refine l_op (f_skip F6 (wanted_g F6 rfl rfl rfl rfl) rfl rfl fun _ F14 => ?_)
   refine l_op (f_skip F14 (wanted_g F14 rfl rfl rfl rfl) rfl rfl fun _ F15 => ?_)
   refine l_op (f_skip F15 (wanted_g F15 rfl rfl rfl rfl) rfl rfl fun _ F16 => ?_)
   refine l_op (f_val F16 rfl rfl (r_pick (b := false) rfl (F16.ev 10 rfl) rfl) rfl fun _ F17 => ?_)
   refine l_op (f_as F17 rfl rfl rfl rfl rfl fun _ F18 => ?_)
   have F19 : Fr 15 [(6, .bool false)] _ := F18.cut rfl
   clear F2 F3 F4 F5 F6 F14 F15 F16 F17 F18
   refine s_end (x_normal (wp_ret ?_))
   refine x_done (v := .bool false) F19 (results_1 Tryd.results34 (.tmp (F19.ev 6 rfl))) ?_
   exact ⟨(by rw [(show false = (inB n low high) from by unfold inB; first | rfl | exact dec_of (by omega) | exact (decide_eq_false (by omega)).symm | exact (decide_eq_true (by omega)).symm)]), (Mv.pick (Mv.refl (At.nil w)) [] rfl)⟩
theorem spec_l02Begins_c {w : World} {H : Nat → Prop} {s : ByteArray} {pfx : ByteArray} (h_s : okS s) (h_pfx : okS pfx) :
    Calls Tryd.prog 27 #[.string s, .string pfx] w fun e w' => e = .returned (.bool (begins s pfx)) ∧ Mv [] w [] w' := by
 have uU : True := (fun _ _ _ => trivial) H h_s h_pfx
 clear uU
 refine calls_enter 18 Tryd.func27 rfl Tryd.ntmps27 (Nat.le_of_ble_eq_true rfl) (fun _ F0i => ?_)
 have F0 : Fr 18 [(0, .string s), (1, .string pfx)] _ := F0i
 clear F0i
 refine wp_seq (wp_region_lit (l_op (f_val F0 rfl rfl (r_assign rfl rfl) rfl fun _ F1 => ?_)))
 have F2 : Fr 18 [(4, .bool false), (0, .string s), (1, .string pfx)] _ := F1.cut rfl
 clear F0 F1
 refine s_end (x_normal (wp_seq (wp_region_lit (l_op (f_mv F2 rfl rfl rfl rfl rfl fun _ F3 => ?_)))))
 refine l_op (f_val F3 rfl rfl (r_lenS (fun t ht => by cases ht; exact Tryd.underlying9) rfl rfl (F3.ev 5 rfl)) rfl fun _ F4 => ?_)
 refine l_op (f_mv F4 rfl rfl rfl rfl rfl fun _ F5 => ?_)
 refine l_op (f_val F5 rfl rfl (r_lenS (fun t ht => by cases ht; exact Tryd.underlying9) rfl rfl (F5.ev 7 rfl)) rfl fun _ F6 => ?_)
 refine l_op (f_val F6 rfl rfl (r_cmp (b := decide (s.size ≥ pfx.size)) (.inr (.inr (.inr (.inr (.inr rfl))))) rfl (F6.ev 6 rfl) (F6.ev 8 rfl) (dec_of (by omega))) rfl fun _ F7 => ?_)
 refine l_op (f_mv F7 rfl rfl rfl rfl rfl fun _ F8 => ?_)
 rcases Decidable.em (s.size ≥ pfx.size) with h9 | h9
 · rw [decide_eq_true h9] at F8
   refine l_op (f_mv F8 (wanted_g F8 rfl rfl rfl rfl) rfl rfl rfl rfl fun _ F10 => ?_)
   refine l_op (f_mv F10 (wanted_g F10 rfl rfl rfl rfl) rfl rfl rfl rfl fun _ F11 => ?_)
   refine l_op (f_val F11 (wanted_g F11 rfl rfl rfl rfl) rfl (r_lenS (fun t ht => by cases ht; exact Tryd.underlying9) rfl rfl (F11.ev 12 rfl)) rfl fun _ F12 => ?_)
   refine l_op (f_val F12 (wanted_g F12 rfl rfl rfl rfl) rfl (r_sliceS (l := 0) (h := pfx.size) Tryd.underlying9 rfl (F12.ev 11 rfl) rfl (F12.ev 13 rfl) (by first | assumption | omega) (by first | assumption | omega) rfl) rfl fun _ F13 => ?_)
   refine l_op (f_mv F13 (wanted_g F13 rfl rfl rfl rfl) rfl rfl rfl rfl fun _ F14 => ?_)
   refine l_op (f_val F14 (wanted_g F14 rfl rfl rfl rfl) rfl (r_cmps (b := (decide ((s.extract 0 pfx.size) = pfx))) (.inl rfl) rfl (F14.ev 14 rfl) (F14.ev 15 rfl) rfl) rfl fun _ F15 => ?_)
   refine l_op (f_val F15 rfl rfl (r_pick (b := true) rfl (F15.ev 10 rfl) (F15.ev 16 rfl)) rfl fun _ F16 => ?_)
   refine l_op (f_as F16 rfl rfl rfl rfl rfl fun _ F17 => ?_)
   have F18 : Fr 18 [(4, .bool (decide ((s.extract 0 pfx.size) = pfx)))] _ := F17.cut rfl
   clear F2 F3 F4 F5 F6 F7 F8 F10 F11 F12 F13 F14 F15 F16 F17
   refine s_end (x_normal (wp_ret ?_))
   refine x_done (v := .bool (decide ((s.extract 0 pfx.size) = pfx))) F18 (results_1 Tryd.results27 (.tmp (F18.ev 4 rfl))) ?_
   exact ⟨(by rw [(show (decide ((s.extract 0 pfx.size) = pfx)) = (begins s pfx) from by unfold begins; by_cases hb : pfx.size ≤ s.size <;> simp_all <;> omega)]), (Mv.pick (Mv.refl (At.nil w)) [] rfl)⟩
 · rw [decide_eq_false h9] at F8
   refine l_op (f_skip F8 (wanted_g F8 rfl rfl rfl rfl) rfl rfl fun _ F19 => ?_)
   refine l_op (f_skip F19 (wanted_g F19 rfl rfl rfl rfl) rfl rfl fun _ F20 => ?_)
   refine l_op (f_skip F20 (wanted_g F20 rfl rfl rfl rfl) rfl rfl fun _ F21 => ?_)
   refine l_op (f_skip F21 (wanted_g F21 rfl rfl rfl rfl) rfl rfl fun _ F22 => ?_)
   refine l_op (f_skip F22 (wanted_g F22 rfl rfl rfl rfl) rfl rfl fun _ F23 => ?_)
   refine l_op (f_skip F23 (wanted_g F23 rfl rfl rfl rfl) rfl rfl fun _ F24 => ?_)
   refine l_op (f_val F24 rfl rfl (r_pick (b := false) rfl (F24.ev 10 rfl) rfl) rfl fun _ F25 => ?_)
   refine l_op (f_as F25 rfl rfl rfl rfl rfl fun _ F26 => ?_)
   have F27 : Fr 18 [(4, .bool false)] _ := F26.cut rfl
   clear F2 F3 F4 F5 F6 F7 F8 F19 F20 F21 F22 F23 F24 F25 F26
   refine s_end (x_normal (wp_ret ?_))
   refine x_done (v := .bool false) F27 (results_1 Tryd.results27 (.tmp (F27.ev 4 rfl))) ?_
   exact ⟨(by rw [(show false = (begins s pfx) from by unfold begins; by_cases hb : pfx.size ≤ s.size <;> simp_all <;> omega)]), (Mv.pick (Mv.refl (At.nil w)) [] rfl)⟩
theorem spec_KeysUnder_c {w : World} {H : Nat → Prop} {s : List CellD} {s_a : Option Addr} {s_n s_c : Nat} {pfx : ByteArray} (v_s : Rd 2 encC okC H w (.slice s_a s_n s_c) s) (h_pfx : okS pfx) (p0 : s_n ≤ 1099511627776) :
    Calls Tryd.prog 13 #[.slice s_a s_n s_c, .string pfx] w fun e w' => ∃ (r0_a : Option Addr), ∃ (r0_n : Nat), ∃ (r0_c : Nat), e = .returned (.slice r0_a r0_n r0_c) ∧ Mv [] w [] w' ∧ Rd 1 encS okS (Fsh H w) w' (.slice r0_a r0_n r0_c) (keysUnder s pfx) := by
 have uU : True := (fun _ => trivial) p0
 clear uU
 have V_v_s : Rd 2 encC okC (V H w []) w (.slice s_a s_n s_c) s := Rd.start v_s (fun _ _ => fps_nil _)
 obtain ⟨ln_s, le_s, mx_s, ni_s⟩ := Rd.inv v_s
 refine calls_enter 30 Tryd.func13 rfl Tryd.ntmps13 (Nat.le_of_ble_eq_true rfl) (fun _ F0i => ?_)
 have F0 : Fr 30 [(0, .slice s_a s_n s_c), (1, .string pfx)] _ := F0i
 clear F0i
 refine wp_seq (wp_region_lit (l_op (f_val F0 rfl rfl (r_assign rfl rfl) rfl fun _ F1 => ?_)))
 have F2 : Fr 30 [(4, .slice none 0 0), (0, .slice s_a s_n s_c), (1, .string pfx)] _ := F1.cut rfl
 clear F0 F1
 refine s_end (x_normal (wp_seq (wp_region_lit (l_op (f_buildSl (ok := okS) (vs := []) F2 (At.nil w) (([] : List ByteArray)) ET_27 rfl rfl rfl rfl rfl rfl rfl rfl rfl (by simp) fun b3 _ w3 F4 S3 => ?_)))))
 refine l_op (f_as F4 rfl rfl rfl rfl rfl fun _ F5 => ?_)
 have F6 : Fr 30 [(5, .slice (some ⟨b3, 0, none⟩) 0 0), (0, .slice s_a s_n s_c), (1, .string pfx)] _ := F5.cut rfl
 clear F2 F4 F5
 have T7 : Mv _ _ [ow 9 1 encS okS (.slice (some ⟨b3, 0, none⟩) 0 0) ([] : List ByteArray)] _ := S3
 refine s_end (x_normal (wp_seq (wp_seq (wp_region_lit (l_op (f_val F6 rfl rfl (r_assign rfl rfl) rfl fun _ F8 => ?_))))))
 have F9 : Fr 30 [(6, .int .i64 0), (5, .slice (some ⟨b3, 0, none⟩) 0 0), (0, .slice s_a s_n s_c), (1, .string pfx)] _ := F8.cut rfl
 clear F6 F8
 refine s_end (x_normal (wp_block ?_))
 refine x_loop (fun (k : Nat) aZ wZ => ∃ (oa : Option Addr), ∃ (on : Nat), ∃ (oc : Nat), Fr 30 [(6, .int .i64 ((k : Nat) : Int)), (5, .slice oa on oc), (0, .slice s_a s_n s_c), (1, .string pfx)] aZ ∧ Mv [ow 9 1 encS okS (.slice (some ⟨b3, 0, none⟩) 0 0) ([] : List ByteArray)] w3 [ow 9 1 encS okS (.slice oa on oc) (keysUnder (s.take k) pfx)] wZ ∧ (k ≤ s_n)) (fun (k : Nat) => s_n - k) (0) ?_ ?_
 · exact ⟨(some ⟨b3, 0, none⟩), 0, 0, F9.cut rfl, (Mv.refl T7.at'), by omega⟩
 · rintro k a10 w10 ⟨oa, on, oc, F10, S10, hk_0⟩
   refine wp_seq (wp_seq (wp_region_lit (l_op (f_mv F10 rfl rfl rfl rfl rfl fun _ F11 => ?_))))
   refine l_op (f_mv F11 rfl rfl rfl rfl rfl fun _ F12 => ?_)
   refine l_op (f_val F12 rfl rfl (r_len Tryd.underlying26 rfl (F12.ev 9 rfl)) rfl fun _ F13 => ?_)
   refine l_op (f_val F13 rfl rfl (r_cmp (b := decide (k < s_n)) (.inr (.inr (.inl rfl))) rfl (F13.ev 8 rfl) (F13.ev 10 rfl) (dec_of (by omega))) rfl fun _ F14 => ?_)
   have F15 : Fr 30 [(11, .bool (decide (k < s_n))), (6, .int .i64 ((k : Nat) : Int)), (5, .slice oa on oc), (0, .slice s_a s_n s_c), (1, .string pfx)] _ := F14.cut rfl
   clear F10 F11 F12 F13 F14
   refine s_end (x_normal (x_cond (p := k < s_n) (F15.ev 11 rfl) (fun h16 => ?_) (fun h16 => ?_)))
   · skip
     refine wp_skip (x_normal (wp_seq (wp_block (wp_seq (wp_region_lit (l_op (f_mv F15 rfl rfl rfl rfl rfl fun _ F17 => ?_)))))))
     refine l_op (f_mv F17 rfl rfl rfl rfl rfl fun _ F18 => ?_)
     obtain ⟨B19, O19, x1, ad19, hx1, okx1, ln19, cl19⟩ := Rd.at (Rd.mv (Nat.succ_pos _) V_v_s (T7.trans S10)) k (by first | assumption | omega)
     clear ln19
     refine l_op (f_val F18 rfl rfl (r_indexAddr (i := k) ET_26 rfl ((F18.ev 14 rfl).trans (by rw [ad19])) (F18.ev 15 rfl) (by omega) (by first | assumption | omega)) rfl fun _ F20 => ?_)
     refine l_op (f_val F20 rfl rfl (r_field FI_53_0 rfl (F20.ev 16 rfl) rfl) rfl fun _ F21 => ?_)
     refine l_op (f_val (v := .string x1.key) F21 rfl rfl (r_load (cs := [.string x1.key]) TI_9 rfl (F21.ev 17 rfl) rfl (fun _ => rfl) (elem_sub (f := 0) cl19 [.string x1.key] rfl)) rfl fun _ F22 => ?_)
     refine l_op (f_mv F22 rfl rfl rfl rfl rfl fun _ F23 => ?_)
     refine l_op (f_call F23 CF_27 rfl rfl rfl rfl (lc (F23.ev 18 rfl) (lc (F23.ev 19 rfl) rfl)) (spec_l02Begins_c (H := fun _ => True) (s := x1.key) (pfx := pfx) okx1.1 h_pfx) ?_)
     rintro _ w24 ⟨rfl, m24⟩
     refine ⟨_, rfl, fun _ F25 => ?_⟩
     have S24 := At.frame0 S10.at' m24
     clear m24
     have F26 : Fr 30 [(20, .bool (begins x1.key pfx)), (6, .int .i64 ((k : Nat) : Int)), (5, .slice oa on oc), (0, .slice s_a s_n s_c), (1, .string pfx)] _ := F25.cut rfl
     clear F15 F17 F18 F20 F21 F22 F23 F25
     have T27 : Mv _ _ [ow 9 1 encS okS (.slice oa on oc) (keysUnder (s.take k) pfx)] _ := S24
     refine s_end (x_normal (x_condb (b := (begins x1.key pfx)) (F26.ev 20 rfl) (fun h28 => ?_) (fun h28 => ?_)))
     · skip
       refine wp_region_lit (l_op (f_mv F26 rfl rfl rfl rfl rfl fun _ F29 => ?_))
       refine l_op (f_mv F29 rfl rfl rfl rfl rfl fun _ F30 => ?_)
       refine l_op (f_mv F30 rfl rfl rfl rfl rfl fun _ F31 => ?_)
       obtain ⟨B32, O32, y32, ad32, hy32, oky32, ln32, cl32⟩ := Rd.at (Rd.mv (Nat.succ_pos _) V_v_s (T7.trans (S10.trans T27))) k (by first | assumption | omega)
       clear ln32
       obtain rfl := Option.some.inj (hx1.symm.trans hy32)
       clear hy32 oky32
       refine l_op (f_val F31 rfl rfl (r_indexAddr (i := k) ET_26 rfl ((F31.ev 22 rfl).trans (by rw [ad32])) (F31.ev 23 rfl) (by omega) (by first | assumption | omega)) rfl fun _ F33 => ?_)
       refine l_op (f_val F33 rfl rfl (r_field FI_53_0 rfl (F33.ev 24 rfl) rfl) rfl fun _ F34 => ?_)
       refine l_op (f_val (v := .string x1.key) F34 rfl rfl (r_load (cs := [.string x1.key]) TI_9 rfl (F34.ev 25 rfl) rfl (fun _ => rfl) (elem_sub (f := 0) cl32 [.string x1.key] rfl)) rfl fun _ F35 => ?_)
       refine l_op (f_buildSl (ok := okS) (vs := [.string x1.key]) F35 T27.at' ([x1.key]) ET_27 rfl rfl rfl rfl rfl rfl (lc (pr2 (F35.ev 26 rfl)) rfl) rfl rfl (fun x hx => (List.mem_singleton.1 hx) ▸ okx1.1) fun b36 _ w36 F37 S36 => ?_)
       refine l_op (f_app (news := [x1.key]) F37 S36.at' 1 ET_27 rfl rfl rfl rfl rfl rfl (F37.ev 21 rfl) (F37.ev 27 rfl) ((At.rd S36.at' ET_27.hk 0 rfl)).1 (by have := keysUnder_take s pfx k; ((repeat (first | rw [List.length_append] | rw [List.length_cons] | rw [List.length_nil] | rw [List.length_take] | rw [List.length_drop])) <;> omega)) fun A38 N38 C38 _ w38 F39 S38 l38 => ?_)
       have S40 := At.drop S38.at' 1
       refine l_op (f_as F39 rfl rfl rfl rfl rfl fun _ F41 => ?_)
       have F42 : Fr 30 [(5, .slice A38 N38 C38), (6, .int .i64 ((k : Nat) : Int)), (0, .slice s_a s_n s_c), (1, .string pfx)] _ := F41.cut rfl
       clear F26 F29 F30 F31 F33 F34 F35 F37 F39 F41
       have T43 : Mv _ _ [ow 9 1 encS okS (.slice A38 N38 C38) ((keysUnder (s.take k) pfx) ++ ([x1.key]))] _ := S40
       refine s_end (x_block_normal (x_normal (wp_region_lit (l_op (f_mv F42 rfl rfl rfl rfl rfl fun _ F44 => ?_)))))
       refine l_op (f_val F44 rfl rfl (r_add (z := ((k + 1 : Nat) : Int)) rfl (F44.ev 12 rfl) rfl (by first | rfl | omega) ⟨by first | omega | (unfold i64ok at *; omega), by first | omega | (unfold i64ok at *; omega)⟩) rfl fun _ F45 => ?_)
       refine l_op (f_as F45 rfl rfl rfl rfl rfl fun _ F46 => ?_)
       have F47 : Fr 30 [(6, .int .i64 ((k + 1 : Nat) : Int)), (5, .slice A38 N38 C38), (0, .slice s_a s_n s_c), (1, .string pfx)] _ := F46.cut rfl
       clear F42 F44 F45 F46
       refine s_end ?_
       refine x_normal ⟨k + 1, by omega, A38, N38, C38, F47.cut rfl, (Mv.cast ((S10.trans (T27.trans (S36.trans (S38.trans T43)))).pick [0] rfl) (by (rw [keysUnder_step hx1]; first | rw [if_pos (by assumption)] | rw [if_neg (ne_true_of_eq_false (by assumption)), List.append_nil]); all_goals rfl)), by omega⟩
     · skip
       refine wp_skip (x_block_normal (x_normal (wp_region_lit (l_op (f_mv F26 rfl rfl rfl rfl rfl fun _ F48 => ?_)))))
       refine l_op (f_val F48 rfl rfl (r_add (z := ((k + 1 : Nat) : Int)) rfl (F48.ev 12 rfl) rfl (by first | rfl | omega) ⟨by first | omega | (unfold i64ok at *; omega), by first | omega | (unfold i64ok at *; omega)⟩) rfl fun _ F49 => ?_)
       refine l_op (f_as F49 rfl rfl rfl rfl rfl fun _ F50 => ?_)
       have F51 : Fr 30 [(6, .int .i64 ((k + 1 : Nat) : Int)), (5, .slice oa on oc), (0, .slice s_a s_n s_c), (1, .string pfx)] _ := F50.cut rfl
       clear F26 F48 F49 F50
       refine s_end ?_
       refine x_normal ⟨k + 1, by omega, oa, on, oc, F51.cut rfl, (Mv.cast ((S10.trans T27).pick [0] rfl) (by (rw [keysUnder_step hx1]; first | rw [if_pos (by assumption)] | rw [if_neg (ne_true_of_eq_false (by assumption)), List.append_nil]); all_goals rfl)), by omega⟩
   · skip
     refine wp_exit (x_then_exit (x_then_exit (x_block_here (x_normal (wp_seq (wp_region_lit (l_op (f_mv F15 rfl rfl rfl rfl rfl fun _ F52 => ?_))))))))
     refine l_op (f_as F52 rfl rfl rfl rfl rfl fun _ F53 => ?_)
     have F54 : Fr 30 [(4, .slice oa on oc)] _ := F53.cut rfl
     clear F15 F52 F53
     refine s_end (x_normal (wp_ret ?_))
     have Z55 : Rd 1 encS okS (V H w []) w10 (.slice oa on oc) (keysUnder (s.take k) pfx) := At.freeze (T7.trans S10) ET_27.hk 0 rfl (fun b hb => ((T7.trans S10).fresh b ⟨_, nth_mem (i := 0) rfl, hb⟩).resolve_left (fps_nil _))
     have S55 := At.drop S10.at' 0
     refine x_done (v := .slice oa on oc) F54 (results_1 Tryd.results13 (.tmp (F54.ev 4 rfl))) ?_
     exact ⟨oa, on, oc, rfl, (Mv.pick (T7.trans (S10.trans S55)) [] rfl), (Rd.cast (Rd.give Z55) (show (keysUnder (s.take k) pfx) = (keysUnder s pfx) from by rw [List.take_of_length_le (by omega)]))⟩
end Go.Proofs.YtibgmijfnbnfkaaDoor
