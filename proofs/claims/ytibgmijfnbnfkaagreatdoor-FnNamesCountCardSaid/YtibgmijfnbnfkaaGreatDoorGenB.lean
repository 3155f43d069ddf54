/-
  Walks: access sets.
-/
import Derived.Test.YtibgmijfnbnfkaaGreatDoorAdapt
import Derived.Test.YtibgmijfnbnfkaaGreatDoorGenA
namespace Go.Proofs.YtibgmijfnbnfkaaGreatDoor
open Go.ChangeShapes Go.WideShapes Go.ChangeAt Go.RowKit
set_option maxRecDepth 100000
set_option maxHeartbeats 1000000
theorem spec_l02Put_c {w : World} {H : Nat → Prop} {list : List ByteArray} {Q2 : Option Addr} {Q0 Q3 : Nat} {x : ByteArray} (Q4 : Rd 1 encS okS H w (.slice Q2 Q0 Q3) list) (h_x : okS x) (p0 : Q0 ≤ 549755813888) :
    Calls Tryz.prog 113 #[.slice Q2 Q0 Q3, .string x] w fun e w' => ∃ (r0_a : Option Addr), ∃ (r0_n : Nat), ∃ (r0_c : Nat), e = .returned (.slice r0_a r0_n r0_c) ∧ Mv [] w [] w' ∧ Rd 1 encS okS (Fsh H w) w' (.slice r0_a r0_n r0_c) (putL list x) := by
 have uU : True := (fun _ => trivial) p0
 clear uU
 have Q1 : Rd 1 encS okS (V H w []) w (.slice Q2 Q0 Q3) list := Rd.start Q4 (fun _ _ => fps_nil _)
 obtain ⟨Q6, Q5, Q7, Q8⟩ := Rd.inv Q4
 refine calls_enter 47 Tryz.func113 rfl Tryz.ntmps113 (Nat.le_of_ble_eq_true rfl) (fun _ F0i => ?_)
 have F0 : Fr 47 [(0, .slice Q2 Q0 Q3), (1, .string x)] _ := F0i
 clear F0i
 refine wp_seq (wp_region_lit (l_op (f_val F0 rfl rfl (r_assign rfl rfl) rfl fun _ F1 => ?_)))
 refine s_end (x_normal (wp_seq (wp_region_lit (l_op (f_val F1 rfl rfl (r_assign rfl rfl) rfl fun _ F2 => ?_)))))
 refine s_end (x_normal (wp_seq (wp_block ?_)))
 refine x_loop (fun (k : Nat) aZ wZ => Fr 47 [(5, .int .i64 ((k : Nat) : Int)), (0, .slice Q2 Q0 Q3), (1, .string x)] aZ ∧ Mv [] w [] wZ ∧ (k ≤ Q0) ∧ (∀ j, j < k → ∀ y, nth list j = some y → ltS y x = true)) (fun (k : Nat) => Q0 - k) (0) ?_ ?_
 · exact ⟨F2.cut rfl, (Mv.refl (At.nil w)), by omega, all_none⟩
 · rintro k a3 w3 ⟨F3, S3, hk_0, hk_1⟩
   refine wp_seq (wp_seq (wp_region_lit (l_op (f_mv F3 rfl rfl rfl rfl rfl fun _ F4 => ?_))))
   refine l_op (f_mv F4 rfl rfl rfl rfl rfl fun _ F5 => ?_)
   refine l_op (f_val F5 rfl rfl (r_len Tryz.underlying25 rfl (F5.ev 8 rfl)) rfl fun _ F6 => ?_)
   refine l_op (f_val F6 rfl rfl (r_cmp (b := decide (k < Q0)) (.inr (.inr (.inl rfl))) rfl (F6.ev 7 rfl) (F6.ev 9 rfl) (dec_of (by omega))) rfl fun _ F7 => ?_)
   refine l_op (f_mv F7 rfl rfl rfl rfl rfl fun _ F8 => ?_)
   rcases Decidable.em (k < Q0) with h9 | h9
   · rw [decide_eq_true h9] at F8
     refine l_op (f_mv F8 (wanted_g F8 rfl rfl rfl rfl) rfl rfl rfl rfl fun _ F10 => ?_)
     refine l_op (f_mv F10 (wanted_g F10 rfl rfl rfl rfl) rfl rfl rfl rfl fun _ F11 => ?_)
     obtain ⟨B12, O12, x1, ad12, hx1, okx1, ln12, cl12⟩ := Rd.at (Rd.mq Q1 S3) k (by first | assumption | omega)
     clear ln12
     refine l_op (f_val F11 (wanted_g F11 rfl rfl rfl rfl) rfl (r_indexAddr (i := k) ET_25 rfl ((F11.ev 12 rfl).trans (by rw [ad12])) (F11.ev 13 rfl) (by omega) (by first | assumption | omega)) rfl fun _ F13 => ?_)
     refine l_op (f_val (v := .string x1) F13 (wanted_g F13 rfl rfl rfl rfl) rfl (r_load (cs := [.string x1]) TI_9 rfl (F13.ev 14 rfl) rfl (fun _ => rfl) (elem_sub (f := 0) cl12 [.string x1] rfl)) rfl fun _ F14 => ?_)
     refine l_op (f_mv F14 (wanted_g F14 rfl rfl rfl rfl) rfl rfl rfl rfl fun _ F15 => ?_)
     refine l_op (f_val F15 (wanted_g F15 rfl rfl rfl rfl) rfl (r_cmps (b := (ltS x1 x)) (.inr (.inr (.inl rfl))) rfl (F15.ev 15 rfl) (F15.ev 16 rfl) rfl) rfl fun _ F16 => ?_)
     refine l_op (f_val F16 rfl rfl (r_pick (b := true) rfl (F16.ev 11 rfl) (F16.ev 17 rfl)) rfl fun _ F17 => ?_)
     refine s_end (x_normal (x_condb (b := (ltS x1 x)) (F17.ev 18 rfl) (fun h18 => ?_) (fun h18 => ?_)))
     · skip
       refine wp_skip (x_normal (wp_block (wp_region_lit (l_op (f_mv F17 rfl rfl rfl rfl rfl fun _ F19 => ?_)))))
       refine l_op (f_val F19 rfl rfl (r_add (z := ((k + 1 : Nat) : Int)) rfl (F19.ev 19 rfl) rfl (by first | rfl | omega) ⟨by first | omega | (unfold i64ok at *; omega), by first | omega | (unfold i64ok at *; omega)⟩) rfl fun _ F20 => ?_)
       refine l_op (f_as F20 rfl rfl rfl rfl rfl fun _ F21 => ?_)
       refine s_end (x_block_normal ?_)
       refine x_normal ⟨k + 1, by omega, F21.cut rfl, (S3.pick [] rfl), by omega, all_step hk_1 (fun y hy => by obtain rfl := Option.some.inj (hx1.symm.trans hy); assumption)⟩
     · skip
       refine wp_exit (x_then_exit (x_then_exit (x_block_here (x_normal (wp_seq (wp_seq (wp_region_lit (l_op (f_mv F17 rfl rfl rfl rfl rfl fun _ F22 => ?_)))))))))
       refine l_op (f_mv F22 rfl rfl rfl rfl rfl fun _ F23 => ?_)
       refine l_op (f_val F23 rfl rfl (r_len Tryz.underlying25 rfl (F23.ev 22 rfl)) rfl fun _ F24 => ?_)
       refine l_op (f_val F24 rfl rfl (r_cmp (b := decide (k < Q0)) (.inr (.inr (.inl rfl))) rfl (F24.ev 21 rfl) (F24.ev 23 rfl) (dec_of (by omega))) rfl fun _ F25 => ?_)
       refine l_op (f_mv F25 rfl rfl rfl rfl rfl fun _ F26 => ?_)
       rw [decide_eq_true h9] at F26
       refine l_op (f_mv F26 (wanted_g F26 rfl rfl rfl rfl) rfl rfl rfl rfl fun _ F27 => ?_)
       refine l_op (f_mv F27 (wanted_g F27 rfl rfl rfl rfl) rfl rfl rfl rfl fun _ F28 => ?_)
       obtain ⟨B29, O29, y29, ad29, hy29, oky29, ln29, cl29⟩ := Rd.at (Rd.mq Q1 S3) k (by first | assumption | omega)
       clear ln29
       obtain rfl := Option.some.inj (hx1.symm.trans hy29)
       clear hy29 oky29
       refine l_op (f_val F28 (wanted_g F28 rfl rfl rfl rfl) rfl (r_indexAddr (i := k) ET_25 rfl ((F28.ev 26 rfl).trans (by rw [ad29])) (F28.ev 27 rfl) (by omega) (by first | assumption | omega)) rfl fun _ F30 => ?_)
       refine l_op (f_val (v := .string x1) F30 (wanted_g F30 rfl rfl rfl rfl) rfl (r_load (cs := [.string x1]) TI_9 rfl (F30.ev 28 rfl) rfl (fun _ => rfl) (elem_sub (f := 0) cl29 [.string x1] rfl)) rfl fun _ F31 => ?_)
       refine l_op (f_mv F31 (wanted_g F31 rfl rfl rfl rfl) rfl rfl rfl rfl fun _ F32 => ?_)
       refine l_op (f_val F32 (wanted_g F32 rfl rfl rfl rfl) rfl (r_cmps (b := (decide (x1 = x))) (.inl rfl) rfl (F32.ev 29 rfl) (F32.ev 30 rfl) rfl) rfl fun _ F33 => ?_)
       refine l_op (f_val F33 rfl rfl (r_pick (b := true) rfl (F33.ev 25 rfl) (F33.ev 31 rfl)) rfl fun _ F34 => ?_)
       refine s_end (x_normal (x_cond (p := x1 = x) (F34.ev 32 rfl) (fun h35 => ?_) (fun h35 => ?_)))
       · skip
         refine wp_seq (wp_region_lit (l_op (f_mv F34 rfl rfl rfl rfl rfl fun _ F36 => ?_)))
         refine l_op (f_as F36 rfl rfl rfl rfl rfl fun _ F37 => ?_)
         refine s_end (x_normal (wp_ret (x_then_ret ?_)))
         refine x_done (v := .slice Q2 Q0 Q3) F37 (results_1 Tryz.results113 (.tmp (F37.ev 4 rfl))) ?_
         exact ⟨Q2, Q0, Q3, rfl, (Mv.pick S3 [] rfl), (Rd.cast (Rd.give (Rd.mq Q1 S3)) (show list = (putL list x) from by exact (putL_same (k := k) (by rw [hx1]; exact congrArg some ‹_›) hk_1 (by simp_all)).symm))⟩
       · skip
         refine wp_skip (x_normal (wp_seq (wp_region_lit (l_op (f_buildSl (ok := okS) (vs := []) F34 S3.at' (([] : List ByteArray)) ET_25 rfl rfl rfl rfl rfl rfl rfl rfl rfl (by simp) fun b38 _ w38 F39 S38 => ?_)))))
         refine l_op (f_mv F39 rfl rfl rfl rfl rfl fun _ F40 => ?_)
         refine l_op (f_mv F40 rfl rfl rfl rfl rfl fun _ F41 => ?_)
         refine l_op (f_sliceR F41 0 k (Rd.mq Q1 (S3.trans S38)) ET_25 rfl rfl rfl rfl (F41.ev 35 rfl) rfl (F41.ev 36 rfl) (by first | assumption | omega) (by first | assumption | omega) fun A42 C42 _ F43 V42i => ?_)
         have V42 : Rd 1 encS okS (V H w [ow 9 1 encS okS (.slice (some ⟨b38, 0, none⟩) 0 0) ([] : List ByteArray)]) w38 (.slice A42 (k - 0) C42) (list.take k) := V42i
         clear V42i
         refine l_op (f_app (news := list.take k) F43 S38.at' 0 ET_25 rfl rfl rfl rfl rfl rfl (F43.ev 34 rfl) (F43.ev 37 rfl) (V42).1 (by ((repeat (first | rw [List.length_append] | rw [List.length_cons] | rw [List.length_nil] | rw [List.length_take] | rw [List.length_drop])) <;> omega)) fun A44 N44 C44 _ w44 F45 S44 l44 => ?_)
         refine l_op (f_mv F45 rfl rfl rfl rfl rfl fun _ F46 => ?_)
         refine l_op (f_buildSl (ok := okS) (vs := [.string x]) F46 S44.at' ([x]) ET_25 rfl rfl rfl rfl rfl rfl (lc (pr2 (F46.ev 39 rfl)) rfl) rfl rfl (fun x hx => (List.mem_singleton.1 hx) ▸ h_x) fun b47 _ w47 F48 S47 => ?_)
         refine l_op (f_app (news := [x]) F48 S47.at' 1 ET_25 rfl rfl rfl rfl rfl rfl (F48.ev 38 rfl) (F48.ev 40 rfl) ((At.rd S47.at' ET_25.hk 0 rfl)).1 (by ((repeat (first | rw [List.length_append] | rw [List.length_cons] | rw [List.length_nil] | rw [List.length_take] | rw [List.length_drop])) <;> omega)) fun A49 N49 C49 _ w49 F50 S49 l49 => ?_)
         have S51 := At.drop S49.at' 1
         refine l_op (f_as F50 rfl rfl rfl rfl rfl fun _ F52 => ?_)
         have T53 : Mv _ _ [ow 9 1 encS okS (.slice A49 N49 C49) ((([] : List ByteArray) ++ (list.take k)) ++ ([x]))] _ := S51
         refine s_end (x_normal (wp_seq (wp_region_lit (l_op (f_mv F52 rfl rfl rfl rfl rfl fun _ F54 => ?_)))))
         refine l_op (f_mv F54 rfl rfl rfl rfl rfl fun _ F55 => ?_)
         refine l_op (f_mv F55 rfl rfl rfl rfl rfl fun _ F56 => ?_)
         refine l_op (f_sliceR F56 k Q0 (Rd.mq Q1 (S3.trans (S38.trans (S44.trans (S47.trans (S49.trans T53)))))) ET_25 rfl rfl rfl rfl (F56.ev 43 rfl) (F56.ev 44 rfl) rfl (by first | assumption | omega) (by first | assumption | omega) fun A57 C57 _ F58 V57i => ?_)
         have V57 : Rd 1 encS okS (V H w [ow 9 1 encS okS (.slice A49 N49 C49) ((([] : List ByteArray) ++ (list.take k)) ++ ([x]))]) w49 (.slice A57 (Q0 - k) C57) (list.drop k) := Rd.cast V57i (show (list.take Q0).drop k = list.drop k from by rw [List.take_of_length_le (by omega)])
         clear V57i
         refine l_op (f_app (news := list.drop k) F58 T53.at' 0 ET_25 rfl rfl rfl rfl rfl rfl (F58.ev 42 rfl) (F58.ev 45 rfl) (V57).1 (by ((repeat (first | rw [List.length_append] | rw [List.length_cons] | rw [List.length_nil] | rw [List.length_take] | rw [List.length_drop])) <;> omega)) fun A59 N59 C59 _ w59 F60 S59 l59 => ?_)
         refine l_op (f_as F60 rfl rfl rfl rfl rfl fun _ F61 => ?_)
         refine s_end (x_normal (wp_ret ?_))
         have Z62 : Rd 1 encS okS (V H w []) w59 (.slice A59 N59 C59) (((([] : List ByteArray) ++ (list.take k)) ++ ([x])) ++ (list.drop k)) := At.freeze (S3.trans (S38.trans (S44.trans (S47.trans (S49.trans (T53.trans S59)))))) ET_25.hk 0 rfl (fun b hb => ((S3.trans (S38.trans (S44.trans (S47.trans (S49.trans (T53.trans S59)))))).fresh b ⟨_, nth_mem (i := 0) rfl, hb⟩).resolve_left (fps_nil _))
         have S62 := At.drop S59.at' 0
         refine x_done (v := .slice A59 N59 C59) F61 (results_1 Tryz.results113 (.tmp (F61.ev 4 rfl))) ?_
         exact ⟨A59, N59, C59, rfl, (Mv.pick (S3.trans (S38.trans (S44.trans (S47.trans (S49.trans (T53.trans (S59.trans S62))))))) [] rfl), (Rd.cast (Rd.give Z62) (show (((([] : List ByteArray) ++ (list.take k)) ++ ([x])) ++ (list.drop k)) = (putL list x) from by rw [putL_ins (k := k) (by omega) hk_1 (fun y hy => by obtain rfl := Option.some.inj (hx1.symm.trans hy); exact ⟨by assumption, by assumption⟩)]; simp))⟩
   · rw [decide_eq_false h9] at F8
     refine l_op (f_skip F8 (wanted_g F8 rfl rfl rfl rfl) rfl rfl fun _ F63 => ?_)
     refine l_op (f_skip F63 (wanted_g F63 rfl rfl rfl rfl) rfl rfl fun _ F64 => ?_)
     refine l_op (f_skip F64 (wanted_g F64 rfl rfl rfl rfl) rfl rfl fun _ F65 => ?_)
     refine l_op (f_skip F65 (wanted_g F65 rfl rfl rfl rfl) rfl rfl fun _ F66 => ?_)
     refine l_op (f_skip F66 (wanted_g F66 rfl rfl rfl rfl) rfl rfl fun _ F67 => ?_)
     refine l_op (f_skip F67 (wanted_g F67 rfl rfl rfl rfl) rfl rfl fun _ F68 => ?_)
     refine l_op (f_val F68 rfl rfl (r_pick (b := false) rfl (F68.ev 11 rfl) rfl) rfl fun _ F69 => ?_)
     refine s_end (x_normal (wp_cond_false (F69.ev 18 rfl) (wp_exit (x_then_exit (x_then_exit (x_block_here (x_normal (wp_seq (wp_seq (wp_region_lit (l_op (f_mv F69 rfl rfl rfl rfl rfl fun _ F70 => ?_))))))))))))
     refine l_op (f_mv F70 rfl rfl rfl rfl rfl fun _ F71 => ?_)
     refine l_op (f_val F71 rfl rfl (r_len Tryz.underlying25 rfl (F71.ev 22 rfl)) rfl fun _ F72 => ?_)
     refine l_op (f_val F72 rfl rfl (r_cmp (b := decide (k < Q0)) (.inr (.inr (.inl rfl))) rfl (F72.ev 21 rfl) (F72.ev 23 rfl) (dec_of (by omega))) rfl fun _ F73 => ?_)
     refine l_op (f_mv F73 rfl rfl rfl rfl rfl fun _ F74 => ?_)
     rw [decide_eq_false h9] at F74
     refine l_op (f_skip F74 (wanted_g F74 rfl rfl rfl rfl) rfl rfl fun _ F75 => ?_)
     refine l_op (f_skip F75 (wanted_g F75 rfl rfl rfl rfl) rfl rfl fun _ F76 => ?_)
     refine l_op (f_skip F76 (wanted_g F76 rfl rfl rfl rfl) rfl rfl fun _ F77 => ?_)
     refine l_op (f_skip F77 (wanted_g F77 rfl rfl rfl rfl) rfl rfl fun _ F78 => ?_)
     refine l_op (f_skip F78 (wanted_g F78 rfl rfl rfl rfl) rfl rfl fun _ F79 => ?_)
     refine l_op (f_skip F79 (wanted_g F79 rfl rfl rfl rfl) rfl rfl fun _ F80 => ?_)
     refine l_op (f_val F80 rfl rfl (r_pick (b := false) rfl (F80.ev 25 rfl) rfl) rfl fun _ F81 => ?_)
     refine s_end (x_normal (wp_cond_false (F81.ev 32 rfl) (wp_skip (x_normal (wp_seq (wp_region_lit (l_op (f_buildSl (ok := okS) (vs := []) F81 S3.at' (([] : List ByteArray)) ET_25 rfl rfl rfl rfl rfl rfl rfl rfl rfl (by simp) fun b82 _ w82 F83 S82 => ?_))))))))
     refine l_op (f_mv F83 rfl rfl rfl rfl rfl fun _ F84 => ?_)
     refine l_op (f_mv F84 rfl rfl rfl rfl rfl fun _ F85 => ?_)
     refine l_op (f_sliceR F85 0 k (Rd.mq Q1 (S3.trans S82)) ET_25 rfl rfl rfl rfl (F85.ev 35 rfl) rfl (F85.ev 36 rfl) (by first | assumption | omega) (by first | assumption | omega) fun A86 C86 _ F87 V86i => ?_)
     have V86 : Rd 1 encS okS (V H w [ow 9 1 encS okS (.slice (some ⟨b82, 0, none⟩) 0 0) ([] : List ByteArray)]) w82 (.slice A86 (k - 0) C86) (list.take k) := V86i
     clear V86i
     refine l_op (f_app (news := list.take k) F87 S82.at' 0 ET_25 rfl rfl rfl rfl rfl rfl (F87.ev 34 rfl) (F87.ev 37 rfl) (V86).1 (by ((repeat (first | rw [List.length_append] | rw [List.length_cons] | rw [List.length_nil] | rw [List.length_take] | rw [List.length_drop])) <;> omega)) fun A88 N88 C88 _ w88 F89 S88 l88 => ?_)
     refine l_op (f_mv F89 rfl rfl rfl rfl rfl fun _ F90 => ?_)
     refine l_op (f_buildSl (ok := okS) (vs := [.string x]) F90 S88.at' ([x]) ET_25 rfl rfl rfl rfl rfl rfl (lc (pr2 (F90.ev 39 rfl)) rfl) rfl rfl (fun x hx => (List.mem_singleton.1 hx) ▸ h_x) fun b91 _ w91 F92 S91 => ?_)
     refine l_op (f_app (news := [x]) F92 S91.at' 1 ET_25 rfl rfl rfl rfl rfl rfl (F92.ev 38 rfl) (F92.ev 40 rfl) ((At.rd S91.at' ET_25.hk 0 rfl)).1 (by ((repeat (first | rw [List.length_append] | rw [List.length_cons] | rw [List.length_nil] | rw [List.length_take] | rw [List.length_drop])) <;> omega)) fun A93 N93 C93 _ w93 F94 S93 l93 => ?_)
     have S95 := At.drop S93.at' 1
     refine l_op (f_as F94 rfl rfl rfl rfl rfl fun _ F96 => ?_)
     have T97 : Mv _ _ [ow 9 1 encS okS (.slice A93 N93 C93) ((([] : List ByteArray) ++ (list.take k)) ++ ([x]))] _ := S95
     refine s_end (x_normal (wp_seq (wp_region_lit (l_op (f_mv F96 rfl rfl rfl rfl rfl fun _ F98 => ?_)))))
     refine l_op (f_mv F98 rfl rfl rfl rfl rfl fun _ F99 => ?_)
     refine l_op (f_mv F99 rfl rfl rfl rfl rfl fun _ F100 => ?_)
     refine l_op (f_sliceR F100 k Q0 (Rd.mq Q1 (S3.trans (S82.trans (S88.trans (S91.trans (S93.trans T97)))))) ET_25 rfl rfl rfl rfl (F100.ev 43 rfl) (F100.ev 44 rfl) rfl (by first | assumption | omega) (by first | assumption | omega) fun A101 C101 _ F102 V101i => ?_)
     have V101 : Rd 1 encS okS (V H w [ow 9 1 encS okS (.slice A93 N93 C93) ((([] : List ByteArray) ++ (list.take k)) ++ ([x]))]) w93 (.slice A101 (Q0 - k) C101) (list.drop k) := Rd.cast V101i (show (list.take Q0).drop k = list.drop k from by rw [List.take_of_length_le (by omega)])
     clear V101i
     refine l_op (f_app (news := list.drop k) F102 T97.at' 0 ET_25 rfl rfl rfl rfl rfl rfl (F102.ev 42 rfl) (F102.ev 45 rfl) (V101).1 (by ((repeat (first | rw [List.length_append] | rw [List.length_cons] | rw [List.length_nil] | rw [List.length_take] | rw [List.length_drop])) <;> omega)) fun A103 N103 C103 _ w103 F104 S103 l103 => ?_)
     refine l_op (f_as F104 rfl rfl rfl rfl rfl fun _ F105 => ?_)
     refine s_end (x_normal (wp_ret ?_))
     have Z106 : Rd 1 encS okS (V H w []) w103 (.slice A103 N103 C103) (((([] : List ByteArray) ++ (list.take k)) ++ ([x])) ++ (list.drop k)) := At.freeze (S3.trans (S82.trans (S88.trans (S91.trans (S93.trans (T97.trans S103)))))) ET_25.hk 0 rfl (fun b hb => ((S3.trans (S82.trans (S88.trans (S91.trans (S93.trans (T97.trans S103)))))).fresh b ⟨_, nth_mem (i := 0) rfl, hb⟩).resolve_left (fps_nil _))
     have S106 := At.drop S103.at' 0
     refine x_done (v := .slice A103 N103 C103) F105 (results_1 Tryz.results113 (.tmp (F105.ev 4 rfl))) ?_
     exact ⟨A103, N103, C103, rfl, (Mv.pick (S3.trans (S82.trans (S88.trans (S91.trans (S93.trans (T97.trans (S103.trans S106))))))) [] rfl), (Rd.cast (Rd.give Z106) (show (((([] : List ByteArray) ++ (list.take k)) ++ ([x])) ++ (list.drop k)) = (putL list x) from by rw [putL_ins (k := k) (by omega) hk_1 (fun y hy => absurd (nth_lt hy) (by omega))]; simp))⟩
theorem spec_AddSpan_c {w : World} {H : Nat → Prop} {list : List ByteArray} {Q1 : Option Addr} {Q0 Q2 : Nat} {span : ByteArray} (Q3 : Rd 1 encS okS H w (.slice Q1 Q0 Q2) list) (Q5 : okS span) (p0 : Q0 ≤ 549755813888) :
    Calls Tryz.prog 96 #[.slice Q1 Q0 Q2, .string span] w fun e w' => ∃ (r0_a : Option Addr), ∃ (r0_n : Nat), ∃ (r0_c : Nat), e = .returned (.slice r0_a r0_n r0_c) ∧ Mv [] w [] w' ∧ Rd 1 encS okS (Fsh H w) w' (.slice r0_a r0_n r0_c) (putL list span) := by
 have uU : True := (fun _ => trivial) p0
 clear uU
 have Q4 : Rd 1 encS okS (V H w []) w (.slice Q1 Q0 Q2) list := Rd.start Q3 (fun _ _ => fps_nil _)
 obtain ⟨Q7, Q6, Q8, Q9⟩ := Rd.inv Q3
 refine calls_enter 10 Tryz.func96 rfl Tryz.ntmps96 (Nat.le_of_ble_eq_true rfl) (fun _ F0i => ?_)
 have F0 : Fr 10 [(0, .slice Q1 Q0 Q2), (1, .string span)] _ := F0i
 clear F0i
 refine wp_seq (wp_region_lit (l_op (f_val F0 rfl rfl (r_assign rfl rfl) rfl fun _ F1 => ?_)))
 refine s_end (x_normal (wp_seq (wp_region_lit (l_op (f_buildSl (ok := okS) (vs := []) F1 (At.nil w) (([] : List ByteArray)) ET_25 rfl rfl rfl rfl rfl rfl rfl rfl rfl (by simp) fun b2 _ w2 F3 S2 => ?_)))))
 refine l_op (f_mv F3 rfl rfl rfl rfl rfl fun _ F4 => ?_)
 refine l_op (f_mv F4 rfl rfl rfl rfl rfl fun _ F5 => ?_)
 refine l_op (f_call F5 CF_113 rfl rfl rfl rfl (lc (F5.ev 6 rfl) (lc (F5.ev 7 rfl) rfl)) (spec_l02Put_c (list := list) (x := span) (Rd.mq Q4 S2) Q5 (by first | assumption | omega | (simp <;> omega))) ?_)
 rintro _ w6 ⟨Q10, Q12, Q11, rfl, m6, v6_0⟩
 refine ⟨_, rfl, fun _ F7 => ?_⟩
 have S6 := At.frame0 S2.at' m6
 have V6_0 := Rd.got0 S2.at' (S2.kp.size) v6_0 S6
 obtain ⟨ln6_0, le6_0, mx6_0, ni6_0⟩ := Rd.inv V6_0
 clear m6 v6_0
 refine l_op (f_app (news := putL list span) F7 S6.at' 0 ET_25 rfl rfl rfl rfl rfl rfl (F7.ev 5 rfl) (F7.ev 8 rfl) (V6_0).1 (by have := putL_length list span; ((repeat (first | rw [List.length_append] | rw [List.length_cons] | rw [List.length_nil] | rw [List.length_take] | rw [List.length_drop])) <;> omega)) fun A8 N8 C8 _ w8 F9 S8 l8 => ?_)
 refine l_op (f_as F9 rfl rfl rfl rfl rfl fun _ F10 => ?_)
 refine s_end (x_normal (wp_ret ?_))
 have Z11 : Rd 1 encS okS (V H w []) w8 (.slice A8 N8 C8) (([] : List ByteArray) ++ (putL list span)) := At.freeze (S2.trans (S6.trans S8)) ET_25.hk 0 rfl (fun b hb => ((S2.trans (S6.trans S8)).fresh b ⟨_, nth_mem (i := 0) rfl, hb⟩).resolve_left (fps_nil _))
 have S11 := At.drop S8.at' 0
 refine x_done (v := .slice A8 N8 C8) F10 (results_1 Tryz.results96 (.tmp (F10.ev 4 rfl))) ?_
 exact ⟨A8, N8, C8, rfl, (Mv.pick (S2.trans (S6.trans (S8.trans S11))) [] rfl), (Rd.cast (Rd.give Z11) (show (([] : List ByteArray) ++ (putL list span)) = (putL list span) from by simp))⟩
end Go.Proofs.YtibgmijfnbnfkaaGreatDoor
