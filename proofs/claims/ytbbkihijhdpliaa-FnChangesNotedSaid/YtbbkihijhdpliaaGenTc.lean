/-
  Walks: the keys that differ; a store that is as it should be.
-/
import Derived.Test.YtbbkihijhdpliaaDatB
import Derived.Test.YtbbkihijhdpliaaGenTb
namespace Go.Proofs.Ytbbkihijhdpliaa
open Go.ChangeShapes Go.WideShapes Go.ChangeAt Go.RowKit
set_option maxRecDepth 100000
set_option maxHeartbeats 1000000
theorem spec_DiffKeys_c {w : World} {H : Nat → Prop} {a : List CellD} {a_a : Option Addr} {a_n a_c : Nat} {b : List CellD} {b_a : Option Addr} {b_n b_c : Nat} (v_a : Rd 2 encC okC H w (.slice a_a a_n a_c) a) (v_b : Rd 2 encC okC H w (.slice b_a b_n b_c) b) (p0 : a_n ≤ 137438953472) (p1 : b_n ≤ 137438953472) :
    Calls Try.prog 53 #[.slice a_a a_n a_c, .slice b_a b_n b_c] w fun e w' => ∃ (r0_a : Option Addr), ∃ (r0_n : Nat), ∃ (r0_c : Nat), e = .returned (.slice r0_a r0_n r0_c) ∧ Mv [] w [] w' ∧ Rd 1 encS okS (Fsh H w) w' (.slice r0_a r0_n r0_c) (diffL a b) := by
 have V_v_a : Rd 2 encC okC (V H w []) w (.slice a_a a_n a_c) a := Rd.start v_a (fun _ _ => fps_nil _)
 obtain ⟨ln_a, le_a, mx_a, ni_a⟩ := Rd.inv v_a
 have V_v_b : Rd 2 encC okC (V H w []) w (.slice b_a b_n b_c) b := Rd.start v_b (fun _ _ => fps_nil _)
 obtain ⟨ln_b, le_b, mx_b, ni_b⟩ := Rd.inv v_b
 refine calls_enter 46 Try.func53 rfl Try.ntmps53 (Nat.le_of_ble_eq_true rfl) (fun _ F0i => ?_)
 have F0 : Fr 46 [(0, .slice a_a a_n a_c), (1, .slice b_a b_n b_c)] _ := F0i
 clear F0i
 refine wp_seq (wp_region_lit (l_op (f_val F0 rfl rfl (r_assign rfl rfl) rfl fun _ F1 => ?_)))
 have F2 : Fr 46 [(4, .slice none 0 0), (0, .slice a_a a_n a_c), (1, .slice b_a b_n b_c)] _ := F1.cut rfl
 clear F0 F1
 refine s_end (x_normal (wp_seq (wp_region_lit (l_op (f_buildSl (ok := okS) (vs := []) F2 (At.nil w) (([] : List ByteArray)) ET_22 rfl rfl rfl rfl rfl rfl rfl rfl rfl (by simp) fun b3 _ w3 F4 S3 => ?_)))))
 refine l_op (f_as F4 rfl rfl rfl rfl rfl fun _ F5 => ?_)
 have F6 : Fr 46 [(5, .slice (some ⟨b3, 0, none⟩) 0 0), (0, .slice a_a a_n a_c), (1, .slice b_a b_n b_c)] _ := F5.cut rfl
 clear F2 F4 F5
 have T7 : Mv _ _ [ow 9 1 encS okS (.slice (some ⟨b3, 0, none⟩) 0 0) ([] : List ByteArray)] _ := S3
 refine s_end (x_normal (wp_seq (wp_seq (wp_region_lit (l_op (f_val F6 rfl rfl (r_assign rfl rfl) rfl fun _ F8 => ?_))))))
 have F9 : Fr 46 [(6, .int .i64 0), (5, .slice (some ⟨b3, 0, none⟩) 0 0), (0, .slice a_a a_n a_c), (1, .slice b_a b_n b_c)] _ := F8.cut rfl
 clear F6 F8
 refine s_end (x_normal (wp_block ?_))
 have Z11 : Rd 1 encS okS (V H w []) w3 (.slice (some ⟨b3, 0, none⟩) 0 0) ([] : List ByteArray) := At.freeze T7 ET_22.hk 0 rfl (fun b hb => (T7.fresh b ⟨_, nth_mem (i := 0) rfl, hb⟩).resolve_left (fps_nil _))
 have S11 := At.drop T7.at' 0
 refine x_loop (fun (k : Nat) aZ wZ => ∃ (oa : Option Addr), ∃ (on : Nat), ∃ (oc : Nat), Fr 46 [(6, .int .i64 ((k : Nat) : Int)), (5, .slice oa on oc), (0, .slice a_a a_n a_c), (1, .slice b_a b_n b_c)] aZ ∧ Mv [] w3 [] wZ ∧ Rd 1 encS okS (V H w []) wZ (.slice oa on oc) (diffK a b k) ∧ (k ≤ a_n + b_n)) (fun (k : Nat) => a_n + b_n - k) (0) ?_ ?_
 · exact ⟨(some ⟨b3, 0, none⟩), 0, 0, F9.cut rfl, (Mv.refl S11.at'), Z11, by omega⟩
 · rintro k a10 w10 ⟨oa, on, oc, F10, S10, W10_0, hk_0⟩
   obtain ⟨lv10_0, lw10_0, lx10_0, ly10_0⟩ := Rd.inv W10_0
   have dl := diffK_length a b k
   refine wp_seq (wp_seq (wp_region_lit (l_op (f_mv F10 rfl rfl rfl rfl rfl fun _ F12 => ?_))))
   refine l_op (f_mv F12 rfl rfl rfl rfl rfl fun _ F13 => ?_)
   refine l_op (f_val F13 rfl rfl (r_len Try.underlying46 rfl (F13.ev 10 rfl)) rfl fun _ F14 => ?_)
   refine l_op (f_mv F14 rfl rfl rfl rfl rfl fun _ F15 => ?_)
   refine l_op (f_val F15 rfl rfl (r_len Try.underlying46 rfl (F15.ev 12 rfl)) rfl fun _ F16 => ?_)
   refine l_op (f_val F16 rfl rfl (r_add (z := ((a_n + b_n : Nat) : Int)) rfl (F16.ev 11 rfl) (F16.ev 13 rfl) (by first | rfl | omega) ⟨by first | omega | (unfold i64ok at *; omega), by first | omega | (unfold i64ok at *; omega)⟩) rfl fun _ F17 => ?_)
   refine l_op (f_val F17 rfl rfl (r_cmp (b := decide (k < a_n + b_n)) (.inr (.inr (.inl rfl))) rfl (F17.ev 9 rfl) (F17.ev 14 rfl) (dec_of (by omega))) rfl fun _ F18 => ?_)
   have F19 : Fr 46 [(15, .bool (decide (k < a_n + b_n))), (6, .int .i64 ((k : Nat) : Int)), (5, .slice oa on oc), (0, .slice a_a a_n a_c), (1, .slice b_a b_n b_c)] _ := F18.cut rfl
   clear F10 F12 F13 F14 F15 F16 F17 F18
   refine s_end (x_normal (x_cond (p := k < a_n + b_n) (F19.ev 15 rfl) (fun h20 => ?_) (fun h20 => ?_)))
   · skip
     refine wp_skip (x_normal (wp_seq (wp_block (wp_seq (wp_region_lit (l_op (f_val F19 rfl rfl (r_assign rfl rfl) rfl fun _ F21 => ?_)))))))
     have F22 : Fr 46 [(7, .string (⟨#[]⟩ : ByteArray)), (6, .int .i64 ((k : Nat) : Int)), (5, .slice oa on oc), (0, .slice a_a a_n a_c), (1, .slice b_a b_n b_c)] _ := F21.cut rfl
     clear F19 F21
     refine s_end (x_normal (wp_seq (wp_seq (wp_region_lit (l_op (f_mv F22 rfl rfl rfl rfl rfl fun _ F23 => ?_))))))
     refine l_op (f_mv F23 rfl rfl rfl rfl rfl fun _ F24 => ?_)
     refine l_op (f_val F24 rfl rfl (r_len Try.underlying46 rfl (F24.ev 19 rfl)) rfl fun _ F25 => ?_)
     refine l_op (f_val F25 rfl rfl (r_cmp (b := decide (k < a_n)) (.inr (.inr (.inl rfl))) rfl (F25.ev 18 rfl) (F25.ev 20 rfl) (dec_of (by omega))) rfl fun _ F26 => ?_)
     have F27 : Fr 46 [(21, .bool (decide (k < a_n))), (6, .int .i64 ((k : Nat) : Int)), (5, .slice oa on oc), (0, .slice a_a a_n a_c), (1, .slice b_a b_n b_c)] _ := F26.cut rfl
     clear F22 F23 F24 F25 F26
     refine s_end (x_normal (x_cond (p := k < a_n) (F27.ev 21 rfl) (fun h28 => ?_) (fun h28 => ?_)))
     · skip
       refine wp_region_lit (l_op (f_mv F27 rfl rfl rfl rfl rfl fun _ F29 => ?_))
       refine l_op (f_mv F29 rfl rfl rfl rfl rfl fun _ F30 => ?_)
       obtain ⟨B31, O31, x1, ad31, hx1, okx1, ln31, cl31⟩ := Rd.at (Rd.mv (Nat.succ_pos _) V_v_a (T7.trans (S11.trans S10))) k (by first | assumption | omega)
       clear ln31
       refine l_op (f_val F30 rfl rfl (r_indexAddr (i := k) ET_46 rfl ((F30.ev 22 rfl).trans (by rw [ad31])) (F30.ev 23 rfl) (by omega) (by first | assumption | omega)) rfl fun _ F32 => ?_)
       refine l_op (f_val F32 rfl rfl (r_field FI_98_0 rfl (F32.ev 24 rfl) rfl) rfl fun _ F33 => ?_)
       refine l_op (f_val (v := .string x1.key) F33 rfl rfl (r_load (cs := [.string x1.key]) TI_9 rfl (F33.ev 25 rfl) rfl (fun _ => rfl) (elem_sub (f := 0) cl31 [.string x1.key] rfl)) rfl fun _ F34 => ?_)
       refine l_op (f_as F34 rfl rfl rfl rfl rfl fun _ F35 => ?_)
       have F36 : Fr 46 [(7, .string x1.key), (6, .int .i64 ((k : Nat) : Int)), (5, .slice oa on oc), (0, .slice a_a a_n a_c), (1, .slice b_a b_n b_c)] _ := F35.cut rfl
       clear F27 F29 F30 F32 F33 F34 F35
       refine s_end (x_normal (wp_seq (wp_region_lit (l_op (f_mv F36 rfl rfl rfl rfl rfl fun _ F37 => ?_)))))
       refine l_op (f_mv F37 rfl rfl rfl rfl rfl fun _ F38 => ?_)
       refine l_op (f_call F38 CF_107 rfl rfl rfl rfl (lc (F38.ev 35 rfl) (lc (F38.ev 36 rfl) rfl)) (spec_GetKey_c (s := a) (key := x1.key) (Rd.mv (Nat.succ_pos _) V_v_a (T7.trans (S11.trans S10))) okx1.1) ?_)
       rintro _ w39 ⟨rfl, m39, ok_r0_39⟩
       refine ⟨_, rfl, fun _ F40 => ?_⟩
       have S39 := At.frame0 S10.at' m39
       clear m39
       refine l_op (f_mv F40 rfl rfl rfl rfl rfl fun _ F41 => ?_)
       refine l_op (f_mv F41 rfl rfl rfl rfl rfl fun _ F42 => ?_)
       refine l_op (f_call F42 CF_107 rfl rfl rfl rfl (lc (F42.ev 38 rfl) (lc (F42.ev 39 rfl) rfl)) (spec_GetKey_c (s := b) (key := x1.key) (Rd.mv (Nat.succ_pos _) V_v_b (T7.trans (S11.trans (S10.trans S39)))) okx1.1) ?_)
       rintro _ w43 ⟨rfl, m43, ok_r0_43⟩
       refine ⟨_, rfl, fun _ F44 => ?_⟩
       have S43 := At.frame0 S39.at' m43
       clear m43
       refine l_op (f_val F44 rfl rfl (r_cmps (b := (decide ((getKey a x1.key) ≠ (getKey b x1.key)))) (.inr (.inl rfl)) rfl (F44.ev 37 rfl) (F44.ev 40 rfl) rfl) rfl fun _ F45 => ?_)
       have F46 : Fr 46 [(41, .bool (decide ((getKey a x1.key) ≠ (getKey b x1.key)))), (7, .string x1.key), (6, .int .i64 ((k : Nat) : Int)), (5, .slice oa on oc), (0, .slice a_a a_n a_c), (1, .slice b_a b_n b_c)] _ := F45.cut rfl
       clear F36 F37 F38 F40 F41 F42 F44 F45
       have T47 : Mv _ _ [] _ := S43
       refine s_end (x_normal (x_cond (p := (getKey a x1.key) ≠ (getKey b x1.key)) (F46.ev 41 rfl) (fun h48 => ?_) (fun h48 => ?_)))
       · skip
         refine wp_region_lit (l_op (f_mv F46 rfl rfl rfl rfl rfl fun _ F49 => ?_))
         refine l_op (f_mv F49 rfl rfl rfl rfl rfl fun _ F50 => ?_)
         refine l_op (f_call F50 CF_82 rfl rfl rfl rfl (lc (F50.ev 42 rfl) (lc (F50.ev 43 rfl) rfl)) (spec_l02Put_c (list := diffK a b k) (x := x1.key) (Rd.mv (Nat.succ_pos _) W10_0 (S39.trans T47)) okx1.1 (by first | assumption | omega | (simp <;> omega))) ?_)
         rintro _ w51 ⟨r0_a_51, r0_n_51, r0_c_51, rfl, m51, v51_0⟩
         refine ⟨_, rfl, fun _ F52 => ?_⟩
         have S51 := At.frame0 T47.at' m51
         have V51_0 := Rd.got0 T47.at' ((T7.trans (S11.trans (S10.trans (S39.trans T47)))).kp.size) v51_0 S51
         obtain ⟨ln51_0, le51_0, mx51_0, ni51_0⟩ := Rd.inv V51_0
         clear m51 v51_0
         refine l_op (f_as F52 rfl rfl rfl rfl rfl fun _ F53 => ?_)
         have F54 : Fr 46 [(5, .slice r0_a_51 r0_n_51 r0_c_51), (6, .int .i64 ((k : Nat) : Int)), (0, .slice a_a a_n a_c), (1, .slice b_a b_n b_c)] _ := F53.cut rfl
         clear F46 F49 F50 F52 F53
         have T55 : Mv _ _ [] _ := S51
         refine s_end (x_block_normal (x_normal (wp_region_lit (l_op (f_mv F54 rfl rfl rfl rfl rfl fun _ F56 => ?_)))))
         refine l_op (f_val F56 rfl rfl (r_add (z := ((k + 1 : Nat) : Int)) rfl (F56.ev 16 rfl) rfl (by first | rfl | omega) ⟨by first | omega | (unfold i64ok at *; omega), by first | omega | (unfold i64ok at *; omega)⟩) rfl fun _ F57 => ?_)
         refine l_op (f_as F57 rfl rfl rfl rfl rfl fun _ F58 => ?_)
         have F59 : Fr 46 [(6, .int .i64 ((k + 1 : Nat) : Int)), (5, .slice r0_a_51 r0_n_51 r0_c_51), (0, .slice a_a a_n a_c), (1, .slice b_a b_n b_c)] _ := F58.cut rfl
         clear F54 F56 F57 F58
         refine s_end ?_
         refine x_normal ⟨k + 1, by omega, r0_a_51, r0_n_51, r0_c_51, F59.cut rfl, ((S10.trans (S39.trans (T47.trans T55))).pick [] rfl), (Rd.cast V51_0 (by first | exact diff_t (nth_left hx1) (by assumption) | exact diff_f (nth_left hx1) (by assumption) | exact diff_t (nth_right ln_a (by assumption) hx1) (by assumption) | exact diff_f (nth_right ln_a (by assumption) hx1) (by assumption))), by omega⟩
       · skip
         refine wp_skip (x_block_normal (x_normal (wp_region_lit (l_op (f_mv F46 rfl rfl rfl rfl rfl fun _ F60 => ?_)))))
         refine l_op (f_val F60 rfl rfl (r_add (z := ((k + 1 : Nat) : Int)) rfl (F60.ev 16 rfl) rfl (by first | rfl | omega) ⟨by first | omega | (unfold i64ok at *; omega), by first | omega | (unfold i64ok at *; omega)⟩) rfl fun _ F61 => ?_)
         refine l_op (f_as F61 rfl rfl rfl rfl rfl fun _ F62 => ?_)
         have F63 : Fr 46 [(6, .int .i64 ((k + 1 : Nat) : Int)), (5, .slice oa on oc), (0, .slice a_a a_n a_c), (1, .slice b_a b_n b_c)] _ := F62.cut rfl
         clear F46 F60 F61 F62
         refine s_end ?_
         refine x_normal ⟨k + 1, by omega, oa, on, oc, F63.cut rfl, ((S10.trans (S39.trans T47)).pick [] rfl), (Rd.cast (Rd.mv (Nat.succ_pos _) W10_0 (S39.trans T47)) (by first | exact diff_t (nth_left hx1) (by assumption) | exact diff_f (nth_left hx1) (by assumption) | exact diff_t (nth_right ln_a (by assumption) hx1) (by assumption) | exact diff_f (nth_right ln_a (by assumption) hx1) (by assumption))), by omega⟩
     · skip
       refine wp_region_lit (l_op (f_mv F27 rfl rfl rfl rfl rfl fun _ F64 => ?_))
       refine l_op (f_mv F64 rfl rfl rfl rfl rfl fun _ F65 => ?_)
       refine l_op (f_mv F65 rfl rfl rfl rfl rfl fun _ F66 => ?_)
       refine l_op (f_val F66 rfl rfl (r_len Try.underlying46 rfl (F66.ev 29 rfl)) rfl fun _ F67 => ?_)
       refine l_op (f_val F67 rfl rfl (r_sub (z := ((k - a_n : Nat) : Int)) rfl (F67.ev 28 rfl) (F67.ev 30 rfl) (by first | rfl | omega) ⟨by first | omega | (unfold i64ok at *; omega), by first | omega | (unfold i64ok at *; omega)⟩) rfl fun _ F68 => ?_)
       obtain ⟨B69, O69, x1, ad69, hx1, okx1, ln69, cl69⟩ := Rd.at (Rd.mv (Nat.succ_pos _) V_v_b (T7.trans (S11.trans S10))) (k - a_n) (by first | assumption | omega)
       clear ln69
       refine l_op (f_val F68 rfl rfl (r_indexAddr (i := k - a_n) ET_46 rfl ((F68.ev 27 rfl).trans (by rw [ad69])) (F68.ev 31 rfl) (by omega) (by first | assumption | omega)) rfl fun _ F70 => ?_)
       refine l_op (f_val F70 rfl rfl (r_field FI_98_0 rfl (F70.ev 32 rfl) rfl) rfl fun _ F71 => ?_)
       refine l_op (f_val (v := .string x1.key) F71 rfl rfl (r_load (cs := [.string x1.key]) TI_9 rfl (F71.ev 33 rfl) rfl (fun _ => rfl) (elem_sub (f := 0) cl69 [.string x1.key] rfl)) rfl fun _ F72 => ?_)
       refine l_op (f_as F72 rfl rfl rfl rfl rfl fun _ F73 => ?_)
       have F74 : Fr 46 [(7, .string x1.key), (6, .int .i64 ((k : Nat) : Int)), (5, .slice oa on oc), (0, .slice a_a a_n a_c), (1, .slice b_a b_n b_c)] _ := F73.cut rfl
       clear F27 F64 F65 F66 F67 F68 F70 F71 F72 F73
       refine s_end (x_normal (wp_seq (wp_region_lit (l_op (f_mv F74 rfl rfl rfl rfl rfl fun _ F75 => ?_)))))
       refine l_op (f_mv F75 rfl rfl rfl rfl rfl fun _ F76 => ?_)
       refine l_op (f_call F76 CF_107 rfl rfl rfl rfl (lc (F76.ev 35 rfl) (lc (F76.ev 36 rfl) rfl)) (spec_GetKey_c (s := a) (key := x1.key) (Rd.mv (Nat.succ_pos _) V_v_a (T7.trans (S11.trans S10))) okx1.1) ?_)
       rintro _ w77 ⟨rfl, m77, ok_r0_77⟩
       refine ⟨_, rfl, fun _ F78 => ?_⟩
       have S77 := At.frame0 S10.at' m77
       clear m77
       refine l_op (f_mv F78 rfl rfl rfl rfl rfl fun _ F79 => ?_)
       refine l_op (f_mv F79 rfl rfl rfl rfl rfl fun _ F80 => ?_)
       refine l_op (f_call F80 CF_107 rfl rfl rfl rfl (lc (F80.ev 38 rfl) (lc (F80.ev 39 rfl) rfl)) (spec_GetKey_c (s := b) (key := x1.key) (Rd.mv (Nat.succ_pos _) V_v_b (T7.trans (S11.trans (S10.trans S77)))) okx1.1) ?_)
       rintro _ w81 ⟨rfl, m81, ok_r0_81⟩
       refine ⟨_, rfl, fun _ F82 => ?_⟩
       have S81 := At.frame0 S77.at' m81
       clear m81
       refine l_op (f_val F82 rfl rfl (r_cmps (b := (decide ((getKey a x1.key) ≠ (getKey b x1.key)))) (.inr (.inl rfl)) rfl (F82.ev 37 rfl) (F82.ev 40 rfl) rfl) rfl fun _ F83 => ?_)
       have F84 : Fr 46 [(41, .bool (decide ((getKey a x1.key) ≠ (getKey b x1.key)))), (7, .string x1.key), (6, .int .i64 ((k : Nat) : Int)), (5, .slice oa on oc), (0, .slice a_a a_n a_c), (1, .slice b_a b_n b_c)] _ := F83.cut rfl
       clear F74 F75 F76 F78 F79 F80 F82 F83
       have T85 : Mv _ _ [] _ := S81
       refine s_end (x_normal (x_cond (p := (getKey a x1.key) ≠ (getKey b x1.key)) (F84.ev 41 rfl) (fun h86 => ?_) (fun h86 => ?_)))
       · skip
         refine wp_region_lit (l_op (f_mv F84 rfl rfl rfl rfl rfl fun _ F87 => ?_))
         refine l_op (f_mv F87 rfl rfl rfl rfl rfl fun _ F88 => ?_)
         refine l_op (f_call F88 CF_82 rfl rfl rfl rfl (lc (F88.ev 42 rfl) (lc (F88.ev 43 rfl) rfl)) (spec_l02Put_c (list := diffK a b k) (x := x1.key) (Rd.mv (Nat.succ_pos _) W10_0 (S77.trans T85)) okx1.1 (by first | assumption | omega | (simp <;> omega))) ?_)
         rintro _ w89 ⟨r0_a_89, r0_n_89, r0_c_89, rfl, m89, v89_0⟩
         refine ⟨_, rfl, fun _ F90 => ?_⟩
         have S89 := At.frame0 T85.at' m89
         have V89_0 := Rd.got0 T85.at' ((T7.trans (S11.trans (S10.trans (S77.trans T85)))).kp.size) v89_0 S89
         obtain ⟨ln89_0, le89_0, mx89_0, ni89_0⟩ := Rd.inv V89_0
         clear m89 v89_0
         refine l_op (f_as F90 rfl rfl rfl rfl rfl fun _ F91 => ?_)
         have F92 : Fr 46 [(5, .slice r0_a_89 r0_n_89 r0_c_89), (6, .int .i64 ((k : Nat) : Int)), (0, .slice a_a a_n a_c), (1, .slice b_a b_n b_c)] _ := F91.cut rfl
         clear F84 F87 F88 F90 F91
         have T93 : Mv _ _ [] _ := S89
         refine s_end (x_block_normal (x_normal (wp_region_lit (l_op (f_mv F92 rfl rfl rfl rfl rfl fun _ F94 => ?_)))))
         refine l_op (f_val F94 rfl rfl (r_add (z := ((k + 1 : Nat) : Int)) rfl (F94.ev 16 rfl) rfl (by first | rfl | omega) ⟨by first | omega | (unfold i64ok at *; omega), by first | omega | (unfold i64ok at *; omega)⟩) rfl fun _ F95 => ?_)
         refine l_op (f_as F95 rfl rfl rfl rfl rfl fun _ F96 => ?_)
         have F97 : Fr 46 [(6, .int .i64 ((k + 1 : Nat) : Int)), (5, .slice r0_a_89 r0_n_89 r0_c_89), (0, .slice a_a a_n a_c), (1, .slice b_a b_n b_c)] _ := F96.cut rfl
         clear F92 F94 F95 F96
         refine s_end ?_
         refine x_normal ⟨k + 1, by omega, r0_a_89, r0_n_89, r0_c_89, F97.cut rfl, ((S10.trans (S77.trans (T85.trans T93))).pick [] rfl), (Rd.cast V89_0 (by first | exact diff_t (nth_left hx1) (by assumption) | exact diff_f (nth_left hx1) (by assumption) | exact diff_t (nth_right ln_a (by assumption) hx1) (by assumption) | exact diff_f (nth_right ln_a (by assumption) hx1) (by assumption))), by omega⟩
       · skip
         refine wp_skip (x_block_normal (x_normal (wp_region_lit (l_op (f_mv F84 rfl rfl rfl rfl rfl fun _ F98 => ?_)))))
         refine l_op (f_val F98 rfl rfl (r_add (z := ((k + 1 : Nat) : Int)) rfl (F98.ev 16 rfl) rfl (by first | rfl | omega) ⟨by first | omega | (unfold i64ok at *; omega), by first | omega | (unfold i64ok at *; omega)⟩) rfl fun _ F99 => ?_)
         refine l_op (f_as F99 rfl rfl rfl rfl rfl fun _ F100 => ?_)
         have F101 : Fr 46 [(6, .int .i64 ((k + 1 : Nat) : Int)), (5, .slice oa on oc), (0, .slice a_a a_n a_c), (1, .slice b_a b_n b_c)] _ := F100.cut rfl
         clear F84 F98 F99 F100
         refine s_end ?_
         refine x_normal ⟨k + 1, by omega, oa, on, oc, F101.cut rfl, ((S10.trans (S77.trans T85)).pick [] rfl), (Rd.cast (Rd.mv (Nat.succ_pos _) W10_0 (S77.trans T85)) (by first | exact diff_t (nth_left hx1) (by assumption) | exact diff_f (nth_left hx1) (by assumption) | exact diff_t (nth_right ln_a (by assumption) hx1) (by assumption) | exact diff_f (nth_right ln_a (by assumption) hx1) (by assumption))), by omega⟩
   · skip
     refine wp_exit (x_then_exit (x_then_exit (x_block_here (x_normal (wp_seq (wp_region_lit (l_op (f_mv F19 rfl rfl rfl rfl rfl fun _ F102 => ?_))))))))
     refine l_op (f_as F102 rfl rfl rfl rfl rfl fun _ F103 => ?_)
     have F104 : Fr 46 [(4, .slice oa on oc)] _ := F103.cut rfl
     clear F19 F102 F103
     refine s_end (x_normal (wp_ret ?_))
     refine x_done (v := .slice oa on oc) F104 (results_1 Try.results53 (.tmp (F104.ev 4 rfl))) ?_
     exact ⟨oa, on, oc, rfl, (Mv.pick (T7.trans (S11.trans S10)) [] rfl), (Rd.cast (Rd.give W10_0) (show (diffK a b k) = (diffL a b) from by exact diffK_all ln_a ln_b (by assumption)))⟩
end Go.Proofs.Ytbbkihijhdpliaa
