/-
  Walks: access sets.
-/
import Derived.Test.YtjiplnaceiofmaaDoorAdapt
import Derived.Test.YtjiplnaceiofmaaDoorGenA
namespace Go.Proofs.YtjiplnaceiofmaaDoor
open Go.ChangeShapes Go.WideShapes Go.ChangeAt Go.RowKit
set_option maxRecDepth 100000
set_option maxHeartbeats 1000000
theorem spec_l02Put_c {w : World} {H : Nat → Prop} {list : List ByteArray} {list_a : Option Addr} {list_n list_c : Nat} {x : ByteArray} (v_list : Rd 1 encS okS H w (.slice list_a list_n list_c) list) (h_x : okS x) (p0 : list_n ≤ 549755813888) :
    Calls Tryd.prog 168 #[.slice list_a list_n list_c, .string x] w fun e w' => ∃ (r0_a : Option Addr), ∃ (r0_n : Nat), ∃ (r0_c : Nat), e = .returned (.slice r0_a r0_n r0_c) ∧ Mv [] w [] w' ∧ Rd 1 encS okS (Fsh H w) w' (.slice r0_a r0_n r0_c) (putL list x) := by
 have uU : True := (fun _ => trivial) p0
 clear uU
 have V_v_list : Rd 1 encS okS (V H w []) w (.slice list_a list_n list_c) list := Rd.start v_list (fun _ _ => fps_nil _)
 obtain ⟨ln_list, le_list, mx_list, ni_list⟩ := Rd.inv v_list
 refine calls_enter 47 Tryd.func168 rfl Tryd.ntmps168 (Nat.le_of_ble_eq_true rfl) (fun _ F0i => ?_)
 have F0 : Fr 47 [(0, .slice list_a list_n list_c), (1, .string x)] _ := F0i
 clear F0i
 refine wp_seq (wp_region_lit (l_op (f_val F0 rfl rfl (r_assign rfl rfl) rfl fun _ F1 => ?_)))
 have F2 : Fr 47 [(4, .slice none 0 0), (0, .slice list_a list_n list_c), (1, .string x)] _ := F1.cut rfl
 clear F0 F1
 refine s_end (x_normal (wp_seq (wp_region_lit (l_op (f_val F2 rfl rfl (r_assign rfl rfl) rfl fun _ F3 => ?_)))))
 have F4 : Fr 47 [(5, .int .i64 0), (0, .slice list_a list_n list_c), (1, .string x)] _ := F3.cut rfl
 clear F2 F3
 refine s_end (x_normal (wp_seq (wp_block ?_)))
 refine x_loop (fun (k : Nat) aZ wZ => Fr 47 [(5, .int .i64 ((k : Nat) : Int)), (0, .slice list_a list_n list_c), (1, .string x)] aZ ∧ Mv [] w [] wZ ∧ (k ≤ list_n) ∧ (∀ j, j < k → ∀ y, nth list j = some y → ltS y x = true)) (fun (k : Nat) => list_n - k) (0) ?_ ?_
 · exact ⟨F4.cut rfl, (Mv.refl (At.nil w)), by omega, all_none⟩
 · rintro k a5 w5 ⟨F5, S5, hk_0, hk_1⟩
   refine wp_seq (wp_seq (wp_region_lit (l_op (f_mv F5 rfl rfl rfl rfl rfl fun _ F6 => ?_))))
   refine l_op (f_mv F6 rfl rfl rfl rfl rfl fun _ F7 => ?_)
   refine l_op (f_val F7 rfl rfl (r_len Tryd.underlying27 rfl (F7.ev 8 rfl)) rfl fun _ F8 => ?_)
   refine l_op (f_val F8 rfl rfl (r_cmp (b := decide (k < list_n)) (.inr (.inr (.inl rfl))) rfl (F8.ev 7 rfl) (F8.ev 9 rfl) (dec_of (by omega))) rfl fun _ F9 => ?_)
   refine l_op (f_mv F9 rfl rfl rfl rfl rfl fun _ F10 => ?_)
   rcases Decidable.em (k < list_n) with h11 | h11
   · rw [decide_eq_true h11] at F10
     refine l_op (f_mv F10 (wanted_g F10 rfl rfl rfl rfl) rfl rfl rfl rfl fun _ F12 => ?_)
     refine l_op (f_mv F12 (wanted_g F12 rfl rfl rfl rfl) rfl rfl rfl rfl fun _ F13 => ?_)
     obtain ⟨B14, O14, x1, ad14, hx1, okx1, ln14, cl14⟩ := Rd.at (Rd.mv (Nat.succ_pos _) V_v_list S5) k (by first | assumption | omega)
     clear ln14
     refine l_op (f_val F13 (wanted_g F13 rfl rfl rfl rfl) rfl (r_indexAddr (i := k) ET_27 rfl ((F13.ev 12 rfl).trans (by rw [ad14])) (F13.ev 13 rfl) (by omega) (by first | assumption | omega)) rfl fun _ F15 => ?_)
     refine l_op (f_val (v := .string x1) F15 (wanted_g F15 rfl rfl rfl rfl) rfl (r_load (cs := [.string x1]) TI_9 rfl (F15.ev 14 rfl) rfl (fun _ => rfl) (elem_sub (f := 0) cl14 [.string x1] rfl)) rfl fun _ F16 => ?_)
     refine l_op (f_mv F16 (wanted_g F16 rfl rfl rfl rfl) rfl rfl rfl rfl fun _ F17 => ?_)
     refine l_op (f_val F17 (wanted_g F17 rfl rfl rfl rfl) rfl (r_cmps (b := (ltS x1 x)) (.inr (.inr (.inl rfl))) rfl (F17.ev 15 rfl) (F17.ev 16 rfl) rfl) rfl fun _ F18 => ?_)
     refine l_op (f_val F18 rfl rfl (r_pick (b := true) rfl (F18.ev 11 rfl) (F18.ev 17 rfl)) rfl fun _ F19 => ?_)
     have F20 : Fr 47 [(18, .bool (ltS x1 x)), (5, .int .i64 ((k : Nat) : Int)), (0, .slice list_a list_n list_c), (1, .string x)] _ := F19.cut rfl
     clear F5 F6 F7 F8 F9 F10 F12 F13 F15 F16 F17 F18 F19
     refine s_end (x_normal (x_condb (b := (ltS x1 x)) (F20.ev 18 rfl) (fun h21 => ?_) (fun h21 => ?_)))
     · skip
       refine wp_skip (x_normal (wp_block (wp_region_lit (l_op (f_mv F20 rfl rfl rfl rfl rfl fun _ F22 => ?_)))))
       refine l_op (f_val F22 rfl rfl (r_add (z := ((k + 1 : Nat) : Int)) rfl (F22.ev 19 rfl) rfl (by first | rfl | omega) ⟨by first | omega | (unfold i64ok at *; omega), by first | omega | (unfold i64ok at *; omega)⟩) rfl fun _ F23 => ?_)
       refine l_op (f_as F23 rfl rfl rfl rfl rfl fun _ F24 => ?_)
       have F25 : Fr 47 [(5, .int .i64 ((k + 1 : Nat) : Int)), (0, .slice list_a list_n list_c), (1, .string x)] _ := F24.cut rfl
       clear F20 F22 F23 F24
       refine s_end (x_block_normal ?_)
       refine x_normal ⟨k + 1, by omega, F25.cut rfl, (S5.pick [] rfl), by omega, all_step hk_1 (fun y hy => by obtain rfl := Option.some.inj (hx1.symm.trans hy); assumption)⟩
     · skip
       refine wp_exit (x_then_exit (x_then_exit (x_block_here (x_normal (wp_seq (wp_seq (wp_region_lit (l_op (f_mv F20 rfl rfl rfl rfl rfl fun _ F26 => ?_)))))))))
       refine l_op (f_mv F26 rfl rfl rfl rfl rfl fun _ F27 => ?_)
       refine l_op (f_val F27 rfl rfl (r_len Tryd.underlying27 rfl (F27.ev 22 rfl)) rfl fun _ F28 => ?_)
       refine l_op (f_val F28 rfl rfl (r_cmp (b := decide (k < list_n)) (.inr (.inr (.inl rfl))) rfl (F28.ev 21 rfl) (F28.ev 23 rfl) (dec_of (by omega))) rfl fun _ F29 => ?_)
       refine l_op (f_mv F29 rfl rfl rfl rfl rfl fun _ F30 => ?_)
       rw [decide_eq_true h11] at F30
       refine l_op (f_mv F30 (wanted_g F30 rfl rfl rfl rfl) rfl rfl rfl rfl fun _ F31 => ?_)
       refine l_op (f_mv F31 (wanted_g F31 rfl rfl rfl rfl) rfl rfl rfl rfl fun _ F32 => ?_)
       obtain ⟨B33, O33, y33, ad33, hy33, oky33, ln33, cl33⟩ := Rd.at (Rd.mv (Nat.succ_pos _) V_v_list S5) k (by first | assumption | omega)
       clear ln33
       obtain rfl := Option.some.inj (hx1.symm.trans hy33)
       clear hy33 oky33
       refine l_op (f_val F32 (wanted_g F32 rfl rfl rfl rfl) rfl (r_indexAddr (i := k) ET_27 rfl ((F32.ev 26 rfl).trans (by rw [ad33])) (F32.ev 27 rfl) (by omega) (by first | assumption | omega)) rfl fun _ F34 => ?_)
       refine l_op (f_val (v := .string x1) F34 (wanted_g F34 rfl rfl rfl rfl) rfl (r_load (cs := [.string x1]) TI_9 rfl (F34.ev 28 rfl) rfl (fun _ => rfl) (elem_sub (f := 0) cl33 [.string x1] rfl)) rfl fun _ F35 => ?_)
       refine l_op (f_mv F35 (wanted_g F35 rfl rfl rfl rfl) rfl rfl rfl rfl fun _ F36 => ?_)
       refine l_op (f_val F36 (wanted_g F36 rfl rfl rfl rfl) rfl (r_cmps (b := (decide (x1 = x))) (.inl rfl) rfl (F36.ev 29 rfl) (F36.ev 30 rfl) rfl) rfl fun _ F37 => ?_)
       refine l_op (f_val F37 rfl rfl (r_pick (b := true) rfl (F37.ev 25 rfl) (F37.ev 31 rfl)) rfl fun _ F38 => ?_)
       have F39 : Fr 47 [(32, .bool (decide (x1 = x))), (5, .int .i64 ((k : Nat) : Int)), (0, .slice list_a list_n list_c), (1, .string x)] _ := F38.cut rfl
       clear F20 F26 F27 F28 F29 F30 F31 F32 F34 F35 F36 F37 F38
       refine s_end (x_normal (x_cond (p := x1 = x) (F39.ev 32 rfl) (fun h40 => ?_) (fun h40 => ?_)))
       · skip
         refine wp_seq (wp_region_lit (l_op (f_mv F39 rfl rfl rfl rfl rfl fun _ F41 => ?_)))
         refine l_op (f_as F41 rfl rfl rfl rfl rfl fun _ F42 => ?_)
         have F43 : Fr 47 [(4, .slice list_a list_n list_c)] _ := F42.cut rfl
         clear F39 F41 F42
         refine s_end (x_normal (wp_ret (x_then_ret ?_)))
         refine x_done (v := .slice list_a list_n list_c) F43 (results_1 Tryd.results168 (.tmp (F43.ev 4 rfl))) ?_
         exact ⟨list_a, list_n, list_c, rfl, (Mv.pick S5 [] rfl), (Rd.cast (Rd.give (Rd.mv (Nat.succ_pos _) V_v_list S5)) (show list = (putL list x) from by exact (putL_same (k := k) (by rw [hx1]; exact congrArg some (by assumption)) hk_1 (by simp_all)).symm))⟩
       · skip
         refine wp_skip (x_normal (wp_seq (wp_region_lit (l_op (f_buildSl (ok := okS) (vs := []) F39 S5.at' (([] : List ByteArray)) ET_27 rfl rfl rfl rfl rfl rfl rfl rfl rfl (by simp) fun b44 _ w44 F45 S44 => ?_)))))
         refine l_op (f_mv F45 rfl rfl rfl rfl rfl fun _ F46 => ?_)
         refine l_op (f_mv F46 rfl rfl rfl rfl rfl fun _ F47 => ?_)
         refine l_op (f_sliceR F47 0 k (Rd.mv (Nat.succ_pos _) V_v_list (S5.trans S44)) ET_27 rfl rfl rfl rfl (F47.ev 35 rfl) rfl (F47.ev 36 rfl) (by first | assumption | omega) (by first | assumption | omega) fun A48 C48 _ F49 V48i => ?_)
         have V48 : Rd 1 encS okS (V H w [ow 9 1 encS okS (.slice (some ⟨b44, 0, none⟩) 0 0) ([] : List ByteArray)]) w44 (.slice A48 (k - 0) C48) (list.take k) := V48i
         clear V48i
         refine l_op (f_app (news := list.take k) F49 S44.at' 0 ET_27 rfl rfl rfl rfl rfl rfl (F49.ev 34 rfl) (F49.ev 37 rfl) (V48).1 (by ((repeat (first | rw [List.length_append] | rw [List.length_cons] | rw [List.length_nil] | rw [List.length_take] | rw [List.length_drop])) <;> omega)) fun A50 N50 C50 _ w50 F51 S50 l50 => ?_)
         refine l_op (f_mv F51 rfl rfl rfl rfl rfl fun _ F52 => ?_)
         refine l_op (f_buildSl (ok := okS) (vs := [.string x]) F52 S50.at' ([x]) ET_27 rfl rfl rfl rfl rfl rfl (lc (pr2 (F52.ev 39 rfl)) rfl) rfl rfl (fun x hx => (List.mem_singleton.1 hx) ▸ h_x) fun b53 _ w53 F54 S53 => ?_)
         refine l_op (f_app (news := [x]) F54 S53.at' 1 ET_27 rfl rfl rfl rfl rfl rfl (F54.ev 38 rfl) (F54.ev 40 rfl) ((At.rd S53.at' ET_27.hk 0 rfl)).1 (by ((repeat (first | rw [List.length_append] | rw [List.length_cons] | rw [List.length_nil] | rw [List.length_take] | rw [List.length_drop])) <;> omega)) fun A55 N55 C55 _ w55 F56 S55 l55 => ?_)
         have S57 := At.drop S55.at' 1
         refine l_op (f_as F56 rfl rfl rfl rfl rfl fun _ F58 => ?_)
         have F59 : Fr 47 [(6, .slice A55 N55 C55), (5, .int .i64 ((k : Nat) : Int)), (0, .slice list_a list_n list_c)] _ := F58.cut rfl
         clear F39 F45 F46 F47 F49 F51 F52 F54 F56 F58
         have T60 : Mv _ _ [ow 9 1 encS okS (.slice A55 N55 C55) ((([] : List ByteArray) ++ (list.take k)) ++ ([x]))] _ := S57
         refine s_end (x_normal (wp_seq (wp_region_lit (l_op (f_mv F59 rfl rfl rfl rfl rfl fun _ F61 => ?_)))))
         refine l_op (f_mv F61 rfl rfl rfl rfl rfl fun _ F62 => ?_)
         refine l_op (f_mv F62 rfl rfl rfl rfl rfl fun _ F63 => ?_)
         refine l_op (f_sliceR F63 k list_n (Rd.mv (Nat.succ_pos _) V_v_list (S5.trans (S44.trans (S50.trans (S53.trans (S55.trans T60)))))) ET_27 rfl rfl rfl rfl (F63.ev 43 rfl) (F63.ev 44 rfl) rfl (by first | assumption | omega) (by first | assumption | omega) fun A64 C64 _ F65 V64i => ?_)
         have V64 : Rd 1 encS okS (V H w [ow 9 1 encS okS (.slice A55 N55 C55) ((([] : List ByteArray) ++ (list.take k)) ++ ([x]))]) w55 (.slice A64 (list_n - k) C64) (list.drop k) := Rd.cast V64i (show (list.take list_n).drop k = list.drop k from by rw [List.take_of_length_le (by omega)])
         clear V64i
         refine l_op (f_app (news := list.drop k) F65 T60.at' 0 ET_27 rfl rfl rfl rfl rfl rfl (F65.ev 42 rfl) (F65.ev 45 rfl) (V64).1 (by ((repeat (first | rw [List.length_append] | rw [List.length_cons] | rw [List.length_nil] | rw [List.length_take] | rw [List.length_drop])) <;> omega)) fun A66 N66 C66 _ w66 F67 S66 l66 => ?_)
         refine l_op (f_as F67 rfl rfl rfl rfl rfl fun _ F68 => ?_)
         have F69 : Fr 47 [(4, .slice A66 N66 C66)] _ := F68.cut rfl
         clear F59 F61 F62 F63 F65 F67 F68
         have T70 : Mv _ _ [ow 9 1 encS okS (.slice A66 N66 C66) (((([] : List ByteArray) ++ (list.take k)) ++ ([x])) ++ (list.drop k))] _ := S66
         refine s_end (x_normal (wp_ret ?_))
         have Z71 : Rd 1 encS okS (V H w []) w66 (.slice A66 N66 C66) (((([] : List ByteArray) ++ (list.take k)) ++ ([x])) ++ (list.drop k)) := At.freeze (S5.trans (S44.trans (S50.trans (S53.trans (S55.trans (T60.trans T70)))))) ET_27.hk 0 rfl (fun b hb => ((S5.trans (S44.trans (S50.trans (S53.trans (S55.trans (T60.trans T70)))))).fresh b ⟨_, nth_mem (i := 0) rfl, hb⟩).resolve_left (fps_nil _))
         have S71 := At.drop T70.at' 0
         refine x_done (v := .slice A66 N66 C66) F69 (results_1 Tryd.results168 (.tmp (F69.ev 4 rfl))) ?_
         exact ⟨A66, N66, C66, rfl, (Mv.pick (S5.trans (S44.trans (S50.trans (S53.trans (S55.trans (T60.trans (T70.trans S71))))))) [] rfl), (Rd.cast (Rd.give Z71) (show (((([] : List ByteArray) ++ (list.take k)) ++ ([x])) ++ (list.drop k)) = (putL list x) from by rw [putL_ins (k := k) (by omega) hk_1 (fun y hy => by obtain rfl := Option.some.inj (hx1.symm.trans hy); exact ⟨by assumption, by assumption⟩)]; simp))⟩
   · rw [decide_eq_false h11] at F10
     refine l_op (f_skip F10 (wanted_g F10 rfl rfl rfl rfl) rfl rfl fun _ F72 => ?_)
     refine l_op (f_skip F72 (wanted_g F72 rfl rfl rfl rfl) rfl rfl fun _ F73 => ?_)
     refine l_op (f_skip F73 (wanted_g F73 rfl rfl rfl rfl) rfl rfl fun _ F74 => ?_)
     refine l_op (f_skip F74 (wanted_g F74 rfl rfl rfl rfl) rfl rfl fun _ F75 => ?_)
     refine l_op (f_skip F75 (wanted_g F75 rfl rfl rfl rfl) rfl rfl fun _ F76 => ?_)
     refine l_op (f_skip F76 (wanted_g F76 rfl rfl rfl rfl) rfl rfl fun _ F77 => ?_)
     refine l_op (f_val F77 rfl rfl (r_pick (b := false) rfl (F77.ev 11 rfl) rfl) rfl fun _ F78 => ?_)
     have F79 : Fr 47 [(18, .bool false), (5, .int .i64 ((k : Nat) : Int)), (0, .slice list_a list_n list_c), (1, .string x)] _ := F78.cut rfl
     clear F5 F6 F7 F8 F9 F10 F72 F73 F74 F75 F76 F77 F78
     refine s_end (x_normal (wp_cond_false (F79.ev 18 rfl) (wp_exit (x_then_exit (x_then_exit (x_block_here (x_normal (wp_seq (wp_seq (wp_region_lit (l_op (f_mv F79 rfl rfl rfl rfl rfl fun _ F80 => ?_))))))))))))
     refine l_op (f_mv F80 rfl rfl rfl rfl rfl fun _ F81 => ?_)
     refine l_op (f_val F81 rfl rfl (r_len Tryd.underlying27 rfl (F81.ev 22 rfl)) rfl fun _ F82 => ?_)
     refine l_op (f_val F82 rfl rfl (r_cmp (b := decide (k < list_n)) (.inr (.inr (.inl rfl))) rfl (F82.ev 21 rfl) (F82.ev 23 rfl) (dec_of (by omega))) rfl fun _ F83 => ?_)
     refine l_op (f_mv F83 rfl rfl rfl rfl rfl fun _ F84 => ?_)
     rw [decide_eq_false h11] at F84
     refine l_op (f_skip F84 (wanted_g F84 rfl rfl rfl rfl) rfl rfl fun _ F85 => ?_)
     refine l_op (f_skip F85 (wanted_g F85 rfl rfl rfl rfl) rfl rfl fun _ F86 => ?_)
     refine l_op (f_skip F86 (wanted_g F86 rfl rfl rfl rfl) rfl rfl fun _ F87 => ?_)
     refine l_op (f_skip F87 (wanted_g F87 rfl rfl rfl rfl) rfl rfl fun _ F88 => ?_)
     refine l_op (f_skip F88 (wanted_g F88 rfl rfl rfl rfl) rfl rfl fun _ F89 => ?_)
     refine l_op (f_skip F89 (wanted_g F89 rfl rfl rfl rfl) rfl rfl fun _ F90 => ?_)
     refine l_op (f_val F90 rfl rfl (r_pick (b := false) rfl (F90.ev 25 rfl) rfl) rfl fun _ F91 => ?_)
     have F92 : Fr 47 [(32, .bool false), (5, .int .i64 ((k : Nat) : Int)), (0, .slice list_a list_n list_c), (1, .string x)] _ := F91.cut rfl
     clear F79 F80 F81 F82 F83 F84 F85 F86 F87 F88 F89 F90 F91
     refine s_end (x_normal (wp_cond_false (F92.ev 32 rfl) (wp_skip (x_normal (wp_seq (wp_region_lit (l_op (f_buildSl (ok := okS) (vs := []) F92 S5.at' (([] : List ByteArray)) ET_27 rfl rfl rfl rfl rfl rfl rfl rfl rfl (by simp) fun b93 _ w93 F94 S93 => ?_))))))))
     refine l_op (f_mv F94 rfl rfl rfl rfl rfl fun _ F95 => ?_)
     refine l_op (f_mv F95 rfl rfl rfl rfl rfl fun _ F96 => ?_)
     refine l_op (f_sliceR F96 0 k (Rd.mv (Nat.succ_pos _) V_v_list (S5.trans S93)) ET_27 rfl rfl rfl rfl (F96.ev 35 rfl) rfl (F96.ev 36 rfl) (by first | assumption | omega) (by first | assumption | omega) fun A97 C97 _ F98 V97i => ?_)
     have V97 : Rd 1 encS okS (V H w [ow 9 1 encS okS (.slice (some ⟨b93, 0, none⟩) 0 0) ([] : List ByteArray)]) w93 (.slice A97 (k - 0) C97) (list.take k) := V97i
     clear V97i
     refine l_op (f_app (news := list.take k) F98 S93.at' 0 ET_27 rfl rfl rfl rfl rfl rfl (F98.ev 34 rfl) (F98.ev 37 rfl) (V97).1 (by ((repeat (first | rw [List.length_append] | rw [List.length_cons] | rw [List.length_nil] | rw [List.length_take] | rw [List.length_drop])) <;> omega)) fun A99 N99 C99 _ w99 F100 S99 l99 => ?_)
     refine l_op (f_mv F100 rfl rfl rfl rfl rfl fun _ F101 => ?_)
     refine l_op (f_buildSl (ok := okS) (vs := [.string x]) F101 S99.at' ([x]) ET_27 rfl rfl rfl rfl rfl rfl (lc (pr2 (F101.ev 39 rfl)) rfl) rfl rfl (fun x hx => (List.mem_singleton.1 hx) ▸ h_x) fun b102 _ w102 F103 S102 => ?_)
     refine l_op (f_app (news := [x]) F103 S102.at' 1 ET_27 rfl rfl rfl rfl rfl rfl (F103.ev 38 rfl) (F103.ev 40 rfl) ((At.rd S102.at' ET_27.hk 0 rfl)).1 (by ((repeat (first | rw [List.length_append] | rw [List.length_cons] | rw [List.length_nil] | rw [List.length_take] | rw [List.length_drop])) <;> omega)) fun A104 N104 C104 _ w104 F105 S104 l104 => ?_)
     have S106 := At.drop S104.at' 1
     refine l_op (f_as F105 rfl rfl rfl rfl rfl fun _ F107 => ?_)
     have F108 : Fr 47 [(6, .slice A104 N104 C104), (5, .int .i64 ((k : Nat) : Int)), (0, .slice list_a list_n list_c)] _ := F107.cut rfl
     clear F92 F94 F95 F96 F98 F100 F101 F103 F105 F107
     have T109 : Mv _ _ [ow 9 1 encS okS (.slice A104 N104 C104) ((([] : List ByteArray) ++ (list.take k)) ++ ([x]))] _ := S106
     refine s_end (x_normal (wp_seq (wp_region_lit (l_op (f_mv F108 rfl rfl rfl rfl rfl fun _ F110 => ?_)))))
     refine l_op (f_mv F110 rfl rfl rfl rfl rfl fun _ F111 => ?_)
     refine l_op (f_mv F111 rfl rfl rfl rfl rfl fun _ F112 => ?_)
     refine l_op (f_sliceR F112 k list_n (Rd.mv (Nat.succ_pos _) V_v_list (S5.trans (S93.trans (S99.trans (S102.trans (S104.trans T109)))))) ET_27 rfl rfl rfl rfl (F112.ev 43 rfl) (F112.ev 44 rfl) rfl (by first | assumption | omega) (by first | assumption | omega) fun A113 C113 _ F114 V113i => ?_)
     have V113 : Rd 1 encS okS (V H w [ow 9 1 encS okS (.slice A104 N104 C104) ((([] : List ByteArray) ++ (list.take k)) ++ ([x]))]) w104 (.slice A113 (list_n - k) C113) (list.drop k) := Rd.cast V113i (show (list.take list_n).drop k = list.drop k from by rw [List.take_of_length_le (by omega)])
     clear V113i
     refine l_op (f_app (news := list.drop k) F114 T109.at' 0 ET_27 rfl rfl rfl rfl rfl rfl (F114.ev 42 rfl) (F114.ev 45 rfl) (V113).1 (by ((repeat (first | rw [List.length_append] | rw [List.length_cons] | rw [List.length_nil] | rw [List.length_take] | rw [List.length_drop])) <;> omega)) fun A115 N115 C115 _ w115 F116 S115 l115 => ?_)
     refine l_op (f_as F116 rfl rfl rfl rfl rfl fun _ F117 => ?_)
     have F118 : Fr 47 [(4, .slice A115 N115 C115)] _ := F117.cut rfl
     clear F108 F110 F111 F112 F114 F116 F117
     have T119 : Mv _ _ [ow 9 1 encS okS (.slice A115 N115 C115) (((([] : List ByteArray) ++ (list.take k)) ++ ([x])) ++ (list.drop k))] _ := S115
     refine s_end (x_normal (wp_ret ?_))
     have Z120 : Rd 1 encS okS (V H w []) w115 (.slice A115 N115 C115) (((([] : List ByteArray) ++ (list.take k)) ++ ([x])) ++ (list.drop k)) := At.freeze (S5.trans (S93.trans (S99.trans (S102.trans (S104.trans (T109.trans T119)))))) ET_27.hk 0 rfl (fun b hb => ((S5.trans (S93.trans (S99.trans (S102.trans (S104.trans (T109.trans T119)))))).fresh b ⟨_, nth_mem (i := 0) rfl, hb⟩).resolve_left (fps_nil _))
     have S120 := At.drop T119.at' 0
     refine x_done (v := .slice A115 N115 C115) F118 (results_1 Tryd.results168 (.tmp (F118.ev 4 rfl))) ?_
     exact ⟨A115, N115, C115, rfl, (Mv.pick (S5.trans (S93.trans (S99.trans (S102.trans (S104.trans (T109.trans (T119.trans S120))))))) [] rfl), (Rd.cast (Rd.give Z120) (show (((([] : List ByteArray) ++ (list.take k)) ++ ([x])) ++ (list.drop k)) = (putL list x) from by rw [putL_ins (k := k) (by omega) hk_1 (fun y hy => absurd (nth_lt hy) (by omega))]; simp))⟩
theorem spec_AddSpan_c {w : World} {H : Nat → Prop} {list : List ByteArray} {list_a : Option Addr} {list_n list_c : Nat} {span : ByteArray} (v_list : Rd 1 encS okS H w (.slice list_a list_n list_c) list) (h_span : okS span) (p0 : list_n ≤ 549755813888) :
    Calls Tryd.prog 143 #[.slice list_a list_n list_c, .string span] w fun e w' => ∃ (r0_a : Option Addr), ∃ (r0_n : Nat), ∃ (r0_c : Nat), e = .returned (.slice r0_a r0_n r0_c) ∧ Mv [] w [] w' ∧ Rd 1 encS okS (Fsh H w) w' (.slice r0_a r0_n r0_c) (putL list span) := by
 have uU : True := (fun _ => trivial) p0
 clear uU
 have V_v_list : Rd 1 encS okS (V H w []) w (.slice list_a list_n list_c) list := Rd.start v_list (fun _ _ => fps_nil _)
 obtain ⟨ln_list, le_list, mx_list, ni_list⟩ := Rd.inv v_list
 refine calls_enter 10 Tryd.func143 rfl Tryd.ntmps143 (Nat.le_of_ble_eq_true rfl) (fun _ F0i => ?_)
 have F0 : Fr 10 [(0, .slice list_a list_n list_c), (1, .string span)] _ := F0i
 clear F0i
 refine wp_seq (wp_region_lit (l_op (f_val F0 rfl rfl (r_assign rfl rfl) rfl fun _ F1 => ?_)))
 have F2 : Fr 10 [(4, .slice none 0 0), (0, .slice list_a list_n list_c), (1, .string span)] _ := F1.cut rfl
 clear F0 F1
 refine s_end (x_normal (wp_seq (wp_region_lit (l_op (f_buildSl (ok := okS) (vs := []) F2 (At.nil w) (([] : List ByteArray)) ET_27 rfl rfl rfl rfl rfl rfl rfl rfl rfl (by simp) fun b3 _ w3 F4 S3 => ?_)))))
 refine l_op (f_mv F4 rfl rfl rfl rfl rfl fun _ F5 => ?_)
 refine l_op (f_mv F5 rfl rfl rfl rfl rfl fun _ F6 => ?_)
 refine l_op (f_call F6 CF_168 rfl rfl rfl rfl (lc (F6.ev 6 rfl) (lc (F6.ev 7 rfl) rfl)) (spec_l02Put_c (list := list) (x := span) (Rd.mv (Nat.succ_pos _) V_v_list S3) h_span (by first | assumption | omega | (simp <;> omega))) ?_)
 rintro _ w7 ⟨r0_a_7, r0_n_7, r0_c_7, rfl, m7, v7_0⟩
 refine ⟨_, rfl, fun _ F8 => ?_⟩
 have S7 := At.frame0 S3.at' m7
 have V7_0 := Rd.got0 S3.at' (S3.kp.size) v7_0 S7
 obtain ⟨ln7_0, le7_0, mx7_0, ni7_0⟩ := Rd.inv V7_0
 clear m7 v7_0
 refine l_op (f_app (news := putL list span) F8 S7.at' 0 ET_27 rfl rfl rfl rfl rfl rfl (F8.ev 5 rfl) (F8.ev 8 rfl) (V7_0).1 (by have := putL_length list span; ((repeat (first | rw [List.length_append] | rw [List.length_cons] | rw [List.length_nil] | rw [List.length_take] | rw [List.length_drop])) <;> omega)) fun A9 N9 C9 _ w9 F10 S9 l9 => ?_)
 refine l_op (f_as F10 rfl rfl rfl rfl rfl fun _ F11 => ?_)
 have F12 : Fr 10 [(4, .slice A9 N9 C9)] _ := F11.cut rfl
 clear F2 F4 F5 F6 F8 F10 F11
 have T13 : Mv _ _ [ow 9 1 encS okS (.slice A9 N9 C9) (([] : List ByteArray) ++ (putL list span))] _ := S9
 refine s_end (x_normal (wp_ret ?_))
 have Z14 : Rd 1 encS okS (V H w []) w9 (.slice A9 N9 C9) (([] : List ByteArray) ++ (putL list span)) := At.freeze (S3.trans (S7.trans T13)) ET_27.hk 0 rfl (fun b hb => ((S3.trans (S7.trans T13)).fresh b ⟨_, nth_mem (i := 0) rfl, hb⟩).resolve_left (fps_nil _))
 have S14 := At.drop T13.at' 0
 refine x_done (v := .slice A9 N9 C9) F12 (results_1 Tryd.results143 (.tmp (F12.ev 4 rfl))) ?_
 exact ⟨A9, N9, C9, rfl, (Mv.pick (S3.trans (S7.trans (T13.trans S14))) [] rfl), (Rd.cast (Rd.give Z14) (show (([] : List ByteArray) ++ (putL list span)) = (putL list span) from by simp))⟩
end Go.Proofs.YtjiplnaceiofmaaDoor
