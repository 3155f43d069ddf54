/-
  Walks: the texts put out are told.
-/
import Derived.Test.YtjiplnaceiofmaaDoorGenSd
namespace Go.Proofs.YtjiplnaceiofmaaDoor
open Go.ChangeShapes Go.WideShapes Go.ChangeAt Go.RowKit
set_option maxRecDepth 100000
set_option maxHeartbeats 1000000
theorem impl_Brought_c {w : World} {H : Nat → Prop} {n : Int} {least : Int} {most : Int} (h_n : i64ok n) (h_least : i64ok least) (h_most : i64ok most) :
    Calls Tryd.prog 73 #[.int .i64 n, .int .i64 least, .int .i64 most] w fun e w' => e = .returned (.int .i64 (max least (min n most))) ∧ Mv [] w [] w' := by
 have uU : True := (fun _ _ _ _ => trivial) H h_n h_least h_most
 clear uU
 refine calls_enter 12 Tryd.func73 rfl Tryd.ntmps73 (Nat.le_of_ble_eq_true rfl) (fun _ F0i => ?_)
 have F0 : Fr 12 [(0, .int .i64 n), (1, .int .i64 least), (2, .int .i64 most)] _ := F0i
 clear F0i
 refine wp_seq (wp_region_lit (l_op (f_val F0 rfl rfl (r_assign rfl rfl) rfl fun _ F1 => ?_)))
 have F2 : Fr 12 [(6, .int .i64 0), (0, .int .i64 n), (1, .int .i64 least), (2, .int .i64 most)] _ := F1.cut rfl
 clear F0 F1
 refine s_end (x_normal (wp_seq (wp_region_lit (l_op (f_mv F2 rfl rfl rfl rfl rfl fun _ F3 => ?_)))))
 refine l_op (f_mv F3 rfl rfl rfl rfl rfl fun _ F4 => ?_)
 refine l_op (f_mv F4 rfl rfl rfl rfl rfl fun _ F5 => ?_)
 refine l_op (f_val F5 rfl rfl (r_minI rfl (F5.ev 8 rfl) (F5.ev 9 rfl)) rfl fun _ F6 => ?_)
 refine l_op (f_val F6 rfl rfl (r_maxI rfl (F6.ev 7 rfl) (F6.ev 10 rfl)) rfl fun _ F7 => ?_)
 refine l_op (f_as F7 rfl rfl rfl rfl rfl fun _ F8 => ?_)
 have F9 : Fr 12 [(6, .int .i64 (max least (min n most)))] _ := F8.cut rfl
 clear F2 F3 F4 F5 F6 F7 F8
 refine s_end (x_normal (wp_ret ?_))
 refine x_done (v := .int .i64 (max least (min n most))) F9 (results_1 Tryd.results73 (.tmp (F9.ev 6 rfl))) ?_
 exact ⟨rfl, (Mv.pick (Mv.refl (At.nil w)) [] rfl)⟩
theorem impl_OutCount_c {w : World} {H : Nat → Prop} {s : List CellD} {s_a : Option Addr} {s_n s_c : Nat} (v_s : Rd 2 encC okC H w (.slice s_a s_n s_c) s) (tab0 : Tb 0 H w) (tab1 : Tb 1 H w) (p0 : cellsOk s) :
    Calls Tryd.prog 68 #[.slice s_a s_n s_c] w fun e w' => e = .returned (.int .i64 ((outN s : Nat) : Int)) ∧ Mv [] w [] w' := by
 have uU : True := (fun _ => trivial) p0
 clear uU
 have V_v_s : Rd 2 encC okC (V H w []) w (.slice s_a s_n s_c) s := Rd.start v_s (fun _ _ => fps_nil _)
 obtain ⟨ln_s, le_s, mx_s, ni_s⟩ := Rd.inv v_s
 have V_tab0 : Tb 0 (V H w []) w := Tb.start tab0 (fun _ _ => fps_nil _)
 have V_tab1 : Tb 1 (V H w []) w := Tb.start tab1 (fun _ _ => fps_nil _)
 refine calls_enter 7 Tryd.func68 rfl Tryd.ntmps68 (Nat.le_of_ble_eq_true rfl) (fun _ F0i => ?_)
 have F0 : Fr 7 [(0, .slice s_a s_n s_c)] _ := F0i
 clear F0i
 refine wp_seq (wp_region_lit (l_op (f_val F0 rfl rfl (r_assign rfl rfl) rfl fun _ F1 => ?_)))
 have F2 : Fr 7 [(2, .int .i64 0), (0, .slice s_a s_n s_c)] _ := F1.cut rfl
 clear F0 F1
 refine s_end (x_normal (wp_seq (wp_region_lit (l_op (f_mv F2 rfl rfl rfl rfl rfl fun _ F3 => ?_)))))
 refine l_op (f_call F3 CF_70 rfl rfl rfl rfl (lc (F3.ev 3 rfl) (lc rfl rfl)) (impl_GetKey_c (s := s) (key := (⟨#[100, 47, 110]⟩ : ByteArray)) V_v_s (by unfold okS; decide)) ?_)
 rintro _ w4 ⟨rfl, m4, ok_r0_4⟩
 refine ⟨_, rfl, fun _ F5 => ?_⟩
 have S4 := At.frame0 (At.nil w) m4
 clear m4
 refine l_op (f_call F5 CF_100 rfl rfl rfl rfl (lc (F5.ev 4 rfl) rfl) (impl_NumOf_c (val := getKey s (⟨#[100, 47, 110]⟩ : ByteArray)) ok_r0_4 (Tb.mv V_tab0 S4) (Tb.mv V_tab1 S4) (by exact Nat.le_trans (getKey_sz (by assumption)) (by decide))) ?_)
 rintro _ w6 ⟨rfl, m6⟩
 refine ⟨_, rfl, fun _ F7 => ?_⟩
 have S6 := At.frame0 S4.at' m6
 clear m6
 refine l_op (f_val F7 rfl rfl (r_minN rfl (F7.ev 5 rfl) rfl) rfl fun _ F8 => ?_)
 refine l_op (f_as F8 rfl rfl rfl rfl rfl fun _ F9 => ?_)
 have F10 : Fr 7 [(2, .int .i64 ((min (numOf (getKey s (⟨#[100, 47, 110]⟩ : ByteArray))) 40 : Nat) : Int))] _ := F9.cut rfl
 clear F2 F3 F5 F7 F8 F9
 have T11 : Mv _ _ [] _ := S6
 refine s_end (x_normal (wp_ret ?_))
 refine x_done (v := .int .i64 ((min (numOf (getKey s (⟨#[100, 47, 110]⟩ : ByteArray))) 40 : Nat) : Int)) F10 (results_1 Tryd.results68 (.tmp (F10.ev 2 rfl))) ?_
 exact ⟨rfl, (Mv.pick (S4.trans T11) [] rfl)⟩
theorem impl_OutsIn_c {w : World} {H : Nat → Prop} {s : List CellD} {s_a : Option Addr} {s_n s_c : Nat} (v_s : Rd 2 encC okC H w (.slice s_a s_n s_c) s) (tab0 : Tb 0 H w) (tab1 : Tb 1 H w) (tab2 : Tb 2 H w) (p0 : cellsOk s) :
    Calls Tryd.prog 35 #[.slice s_a s_n s_c] w fun e w' => ∃ (r0_a : Option Addr), ∃ (r0_n : Nat), ∃ (r0_c : Nat), e = .returned (.slice r0_a r0_n r0_c) ∧ Mv [] w [] w' ∧ Rd 1 encS okS (Fsh H w) w' (.slice r0_a r0_n r0_c) (outL s (outN s)) := by
 have uU : True := (fun _ => trivial) p0
 clear uU
 have hon := outN_le s
 have V_v_s : Rd 2 encC okC (V H w []) w (.slice s_a s_n s_c) s := Rd.start v_s (fun _ _ => fps_nil _)
 obtain ⟨ln_s, le_s, mx_s, ni_s⟩ := Rd.inv v_s
 have V_tab0 : Tb 0 (V H w []) w := Tb.start tab0 (fun _ _ => fps_nil _)
 have V_tab1 : Tb 1 (V H w []) w := Tb.start tab1 (fun _ _ => fps_nil _)
 have V_tab2 : Tb 2 (V H w []) w := Tb.start tab2 (fun _ _ => fps_nil _)
 refine calls_enter 20 Tryd.func35 rfl Tryd.ntmps35 (Nat.le_of_ble_eq_true rfl) (fun _ F0i => ?_)
 have F0 : Fr 20 [(0, .slice s_a s_n s_c)] _ := F0i
 clear F0i
 refine wp_seq (wp_region_lit (l_op (f_val F0 rfl rfl (r_assign rfl rfl) rfl fun _ F1 => ?_)))
 have F2 : Fr 20 [(2, .slice none 0 0), (0, .slice s_a s_n s_c)] _ := F1.cut rfl
 clear F0 F1
 refine s_end (x_normal (wp_seq (wp_region_lit (l_op (f_val F2 rfl rfl (r_assign rfl rfl) rfl fun _ F3 => ?_)))))
 have F4 : Fr 20 [(3, .slice none 0 0), (0, .slice s_a s_n s_c)] _ := F3.cut rfl
 clear F2 F3
 refine s_end (x_normal (wp_seq (wp_seq (wp_region_lit (l_op (f_val F4 rfl rfl (r_assign rfl rfl) rfl fun _ F5 => ?_))))))
 have F6 : Fr 20 [(4, .int .i64 1), (3, .slice none 0 0), (0, .slice s_a s_n s_c)] _ := F5.cut rfl
 clear F4 F5
 refine s_end (x_normal (wp_block ?_))
 have S8 : Mv [] w [ow 9 1 encS okS (.slice none 0 0) ([] : List ByteArray)] w := mv_nil (At.nil w)
 refine x_loop (fun (k : Nat) aZ wZ => ∃ (oa : Option Addr), ∃ (on : Nat), ∃ (oc : Nat), Fr 20 [(4, .int .i64 ((k + 1 : Nat) : Int)), (3, .slice oa on oc), (0, .slice s_a s_n s_c)] aZ ∧ Mv [ow 9 1 encS okS (.slice none 0 0) ([] : List ByteArray)] w [ow 9 1 encS okS (.slice oa on oc) (outL s k)] wZ ∧ (k ≤ outN s)) (fun (k : Nat) => outN s - k) (0) ?_ ?_
 · exact ⟨none, 0, 0, F6.cut rfl, (Mv.cast (Mv.refl S8.at') (by (rfl); all_goals rfl)), by omega⟩
 · rintro k a7 w7 ⟨oa, on, oc, F7, S7, hk_0⟩
   have hol := outL_length s k
   refine wp_seq (wp_seq (wp_region_lit (l_op (f_mv F7 rfl rfl rfl rfl rfl fun _ F9 => ?_))))
   refine l_op (f_mv F9 rfl rfl rfl rfl rfl fun _ F10 => ?_)
   refine l_op (f_call F10 CF_68 rfl rfl rfl rfl (lc (F10.ev 6 rfl) rfl) (impl_OutCount_c (s := s) (Rd.mv (Nat.succ_pos _) V_v_s (S8.trans S7)) (Tb.mv V_tab0 (S8.trans S7)) (Tb.mv V_tab1 (S8.trans S7)) (by first | assumption | omega | (simp <;> omega))) ?_)
   rintro _ w11 ⟨rfl, m11⟩
   refine ⟨_, rfl, fun _ F12 => ?_⟩
   have S11 := At.frame0 S7.at' m11
   clear m11
   refine l_op (f_val F12 rfl rfl (r_cmp (b := decide (k + 1 ≤ outN s)) (.inr (.inr (.inr (.inl rfl)))) rfl (F12.ev 5 rfl) (F12.ev 7 rfl) (dec_of (by omega))) rfl fun _ F13 => ?_)
   have F14 : Fr 20 [(8, .bool (decide (k + 1 ≤ outN s))), (4, .int .i64 ((k + 1 : Nat) : Int)), (3, .slice oa on oc), (0, .slice s_a s_n s_c)] _ := F13.cut rfl
   clear F7 F9 F10 F12 F13
   have T15 : Mv _ _ [ow 9 1 encS okS (.slice oa on oc) (outL s k)] _ := S11
   refine s_end (x_normal (x_cond (p := k + 1 ≤ outN s) (F14.ev 8 rfl) (fun h16 => ?_) (fun h16 => ?_)))
   · skip
     refine wp_skip (x_normal (wp_seq (wp_block (wp_region_lit (l_op (f_mv F14 rfl rfl rfl rfl rfl fun _ F17 => ?_))))))
     refine l_op (f_mv F17 rfl rfl rfl rfl rfl fun _ F18 => ?_)
     refine l_op (f_mv F18 rfl rfl rfl rfl rfl fun _ F19 => ?_)
     refine l_op (f_call F19 CF_71 rfl rfl rfl rfl (lc rfl (lc (F19.ev 13 rfl) (lc rfl rfl))) (impl_KeyNum_c (head := (⟨#[100, 47]⟩ : ByteArray)) (n := ((k + 1 : Nat) : Int)) (tail := (⟨#[]⟩ : ByteArray)) (by unfold okS; decide) (by first | assumption | exact ⟨by omega, by omega⟩ | (unfold i64ok at *; omega)) (by unfold okS; decide) (Tb.mv V_tab0 (S8.trans (S7.trans T15))) (by decide) (by decide)) ?_)
     rintro _ w20 ⟨rfl, m20, ok_r0_20⟩
     refine ⟨_, rfl, fun _ F21 => ?_⟩
     have S20 := At.frame0 T15.at' m20
     clear m20
     refine l_op (f_call F21 CF_70 rfl rfl rfl rfl (lc (F21.ev 12 rfl) (lc (F21.ev 14 rfl) rfl)) (impl_GetKey_c (s := s) (key := keyNum (⟨#[100, 47]⟩ : ByteArray) ((k + 1 : Nat) : Int) (⟨#[]⟩ : ByteArray)) (Rd.mv (Nat.succ_pos _) V_v_s (S8.trans (S7.trans (T15.trans S20)))) ok_r0_20) ?_)
     rintro _ w22 ⟨rfl, m22, ok_r0_22⟩
     refine ⟨_, rfl, fun _ F23 => ?_⟩
     have S22 := At.frame0 S20.at' m22
     clear m22
     refine l_op (f_call F23 CF_69 rfl rfl rfl rfl (lc (F23.ev 15 rfl) rfl) (impl_messageOf_c (val := getKey s (keyNum (⟨#[100, 47]⟩ : ByteArray) ((k + 1 : Nat) : Int) (⟨#[]⟩ : ByteArray))) ok_r0_22 (Tb.mv V_tab2 (S8.trans (S7.trans (T15.trans (S20.trans S22))))) (by exact Nat.le_trans (getKey_sz (by assumption)) (by decide))) ?_)
     rintro _ w24 ⟨rfl, m24, ok_r0_24⟩
     refine ⟨_, rfl, fun _ F25 => ?_⟩
     have S24 := At.frame0 S22.at' m24
     clear m24
     refine l_op (f_buildSl (ok := okS) (vs := [.string (msgOf (getKey s (keyNum (⟨#[100, 47]⟩ : ByteArray) ((k + 1 : Nat) : Int) (⟨#[]⟩ : ByteArray))))]) F25 S24.at' ([(msgOf (getKey s (keyNum (⟨#[100, 47]⟩ : ByteArray) ((k + 1 : Nat) : Int) (⟨#[]⟩ : ByteArray))))]) ET_27 rfl rfl rfl rfl rfl rfl (lc (pr2 (F25.ev 16 rfl)) rfl) rfl rfl (fun x hx => (List.mem_singleton.1 hx) ▸ ok_r0_24) fun b26 _ w26 F27 S26 => ?_)
     refine l_op (f_app (news := [(msgOf (getKey s (keyNum (⟨#[100, 47]⟩ : ByteArray) ((k + 1 : Nat) : Int) (⟨#[]⟩ : ByteArray))))]) F27 S26.at' 1 ET_27 rfl rfl rfl rfl rfl rfl (F27.ev 11 rfl) (F27.ev 17 rfl) ((At.rd S26.at' ET_27.hk 0 rfl)).1 (by ((repeat (first | rw [List.length_append] | rw [List.length_cons] | rw [List.length_nil] | rw [List.length_take] | rw [List.length_drop])) <;> omega)) fun A28 N28 C28 _ w28 F29 S28 l28 => ?_)
     have S30 := At.drop S28.at' 1
     refine l_op (f_as F29 rfl rfl rfl rfl rfl fun _ F31 => ?_)
     have F32 : Fr 20 [(3, .slice A28 N28 C28), (4, .int .i64 ((k + 1 : Nat) : Int)), (0, .slice s_a s_n s_c)] _ := F31.cut rfl
     clear F14 F17 F18 F19 F21 F23 F25 F27 F29 F31
     have T33 : Mv _ _ [ow 9 1 encS okS (.slice A28 N28 C28) ((outL s k) ++ ([(msgOf (getKey s (keyNum (⟨#[100, 47]⟩ : ByteArray) ((k + 1 : Nat) : Int) (⟨#[]⟩ : ByteArray))))]))] _ := S30
     refine s_end (x_block_normal (x_normal (wp_region_lit (l_op (f_mv F32 rfl rfl rfl rfl rfl fun _ F34 => ?_)))))
     refine l_op (f_val F34 rfl rfl (r_add (z := (((k + 1) + 1 : Nat) : Int)) rfl (F34.ev 9 rfl) rfl (by first | rfl | omega) ⟨by first | omega | (unfold i64ok at *; omega), by first | omega | (unfold i64ok at *; omega)⟩) rfl fun _ F35 => ?_)
     refine l_op (f_as F35 rfl rfl rfl rfl rfl fun _ F36 => ?_)
     have F37 : Fr 20 [(4, .int .i64 (((k + 1) + 1 : Nat) : Int)), (3, .slice A28 N28 C28), (0, .slice s_a s_n s_c)] _ := F36.cut rfl
     clear F32 F34 F35 F36
     refine s_end ?_
     refine x_normal ⟨k + 1, by omega, A28, N28, C28, F37.cut rfl, (Mv.cast ((S7.trans (T15.trans (S20.trans (S22.trans (S24.trans (S26.trans (S28.trans T33))))))).pick [0] rfl) (by (rw [outL_step]); all_goals rfl)), by omega⟩
   · skip
     refine wp_exit (x_then_exit (x_then_exit (x_block_here (x_normal (wp_seq (wp_region_lit (l_op (f_mv F14 rfl rfl rfl rfl rfl fun _ F38 => ?_))))))))
     refine l_op (f_as F38 rfl rfl rfl rfl rfl fun _ F39 => ?_)
     have F40 : Fr 20 [(2, .slice oa on oc)] _ := F39.cut rfl
     clear F14 F38 F39
     refine s_end (x_normal (wp_ret ?_))
     have Z41 : Rd 1 encS okS (V H w []) w11 (.slice oa on oc) (outL s k) := At.freeze (S8.trans (S7.trans T15)) ET_27.hk 0 rfl (fun b hb => ((S8.trans (S7.trans T15)).fresh b ⟨_, nth_mem (i := 0) rfl, hb⟩).resolve_left (fps_nil _))
     have S41 := At.drop T15.at' 0
     refine x_done (v := .slice oa on oc) F40 (results_1 Tryd.results35 (.tmp (F40.ev 2 rfl))) ?_
     exact ⟨oa, on, oc, rfl, (Mv.pick (S8.trans (S7.trans (T15.trans S41))) [] rfl), (Rd.cast (Rd.give Z41) (show (outL s k) = (outL s (outN s)) from by rw [show k = outN s from by omega]))⟩
theorem impl_OutsFrom_c {w : World} {H : Nat → Prop} {s : List CellD} {s_a : Option Addr} {s_n s_c : Nat} {n : Int} (v_s : Rd 2 encC okC H w (.slice s_a s_n s_c) s) (h_n : i64ok n) (tab0 : Tb 0 H w) (tab1 : Tb 1 H w) (tab2 : Tb 2 H w) (p0 : cellsOk s) :
    Calls Tryd.prog 36 #[.slice s_a s_n s_c, .int .i64 n] w fun e w' => ∃ (r0_a : Option Addr), ∃ (r0_n : Nat), ∃ (r0_c : Nat), e = .returned (.slice r0_a r0_n r0_c) ∧ Mv [] w [ow 9 1 encS okS (.slice r0_a r0_n r0_c) ((outL s (outN s)).drop (max 0 (min n (((outL s (outN s)).length : Nat) : Int))).toNat)] w' := by
 have uU : True := (fun _ => trivial) p0
 clear uU
 have hon := outN_le s
 have hol := outL_length s (outN s)
 have V_v_s : Rd 2 encC okC (V H w []) w (.slice s_a s_n s_c) s := Rd.start v_s (fun _ _ => fps_nil _)
 obtain ⟨ln_s, le_s, mx_s, ni_s⟩ := Rd.inv v_s
 have V_tab0 : Tb 0 (V H w []) w := Tb.start tab0 (fun _ _ => fps_nil _)
 have V_tab1 : Tb 1 (V H w []) w := Tb.start tab1 (fun _ _ => fps_nil _)
 have V_tab2 : Tb 2 (V H w []) w := Tb.start tab2 (fun _ _ => fps_nil _)
 refine calls_enter 15 Tryd.func36 rfl Tryd.ntmps36 (Nat.le_of_ble_eq_true rfl) (fun _ F0i => ?_)
 have F0 : Fr 15 [(0, .slice s_a s_n s_c), (1, .int .i64 n)] _ := F0i
 clear F0i
 refine wp_seq (wp_region_lit (l_op (f_val F0 rfl rfl (r_assign rfl rfl) rfl fun _ F1 => ?_)))
 have F2 : Fr 15 [(4, .slice none 0 0), (0, .slice s_a s_n s_c), (1, .int .i64 n)] _ := F1.cut rfl
 clear F0 F1
 refine s_end (x_normal (wp_seq (wp_region_lit (l_op (f_mv F2 rfl rfl rfl rfl rfl fun _ F3 => ?_)))))
 refine l_op (f_call F3 CF_35 rfl rfl rfl rfl (lc (F3.ev 6 rfl) rfl) (impl_OutsIn_c (s := s) V_v_s V_tab0 V_tab1 V_tab2 (by first | assumption | omega | (simp <;> omega))) ?_)
 rintro _ w4 ⟨r0_a_4, r0_n_4, r0_c_4, rfl, m4, v4_0⟩
 refine ⟨_, rfl, fun _ F5 => ?_⟩
 have S4 := At.frame0 (At.nil w) m4
 have V4_0 := Rd.got0 (At.nil w) (Nat.le_refl _) v4_0 S4
 obtain ⟨ln4_0, le4_0, mx4_0, ni4_0⟩ := Rd.inv V4_0
 clear m4 v4_0
 refine l_op (f_as F5 rfl rfl rfl rfl rfl fun _ F6 => ?_)
 have F7 : Fr 15 [(5, .slice r0_a_4 r0_n_4 r0_c_4), (1, .int .i64 n)] _ := F6.cut rfl
 clear F2 F3 F5 F6
 have T8 : Mv _ _ [] _ := S4
 refine s_end (x_normal (wp_seq (wp_region_lit (l_op (f_mv F7 rfl rfl rfl rfl rfl fun _ F9 => ?_)))))
 refine l_op (f_mv F9 rfl rfl rfl rfl rfl fun _ F10 => ?_)
 refine l_op (f_mv F10 rfl rfl rfl rfl rfl fun _ F11 => ?_)
 refine l_op (f_val F11 rfl rfl (r_len Tryd.underlying27 rfl (F11.ev 10 rfl)) rfl fun _ F12 => ?_)
 refine l_op (f_call F12 CF_73 rfl rfl rfl rfl (lc (F12.ev 9 rfl) (lc rfl (lc (F12.ev 11 rfl) rfl))) (impl_Brought_c (H := fun _ => True) (n := n) (least := 0) (most := ((r0_n_4 : Nat) : Int)) h_n (by first | assumption | exact ⟨by omega, by omega⟩ | (unfold i64ok at *; omega)) (by first | assumption | exact ⟨by omega, by omega⟩ | (unfold i64ok at *; omega))) ?_)
 rintro _ w13 ⟨rfl, m13⟩
 refine ⟨_, rfl, fun _ F14 => ?_⟩
 have S13 := At.frame0 T8.at' m13
 clear m13
 refine l_op (f_sliceR F14 (max 0 (min n ((r0_n_4 : Nat) : Int))).toNat r0_n_4 (Rd.mv (Nat.succ_pos _) V4_0 S13) ET_27 rfl rfl rfl rfl (F14.ev 8 rfl) ((F14.ev 12 rfl).trans (congrArg _ (by omega))) rfl (by first | assumption | omega) (by first | assumption | omega) fun A15 C15 _ F16 V15i => ?_)
 have V15 : Rd 1 encS okS (V H w []) w13 (.slice A15 (r0_n_4 - (max 0 (min n ((r0_n_4 : Nat) : Int))).toNat) C15) ((outL s (outN s)).drop (max 0 (min n ((r0_n_4 : Nat) : Int))).toNat) := Rd.cast V15i (show ((outL s (outN s)).take r0_n_4).drop (max 0 (min n ((r0_n_4 : Nat) : Int))).toNat = (outL s (outN s)).drop (max 0 (min n ((r0_n_4 : Nat) : Int))).toNat from by rw [List.take_of_length_le (by omega)])
 clear V15i
 refine l_op (f_call F16 CF_72 rfl rfl rfl rfl (lc (F16.ev 13 rfl) rfl) (slices_Clone_Sstring_string_c (s := (outL s (outN s)).drop (max 0 (min n ((r0_n_4 : Nat) : Int))).toNat) V15 (by first | assumption | omega | (simp <;> omega))) ?_)
 rintro _ w17 ⟨r0_a_17, r0_n_17, r0_c_17, rfl, m17⟩
 refine ⟨_, rfl, fun _ F18 => ?_⟩
 have S17 : Mv _ _ [ow 9 1 encS okS (.slice r0_a_17 r0_n_17 r0_c_17) ((outL s (outN s)).drop (max 0 (min n ((r0_n_4 : Nat) : Int))).toNat)] _ := At.frame S13.at' [] rfl m17
 obtain ⟨lo17_0, lp17_0, lq17_0⟩ := At.ownInv S17.at' ET_27.hk 0 rfl
 clear m17
 refine l_op (f_as F18 rfl rfl rfl rfl rfl fun _ F19 => ?_)
 have F20 : Fr 15 [(4, .slice r0_a_17 r0_n_17 r0_c_17)] _ := F19.cut rfl
 clear F7 F9 F10 F11 F12 F14 F16 F18 F19
 refine s_end (x_normal (wp_ret ?_))
 refine x_done (v := .slice r0_a_17 r0_n_17 r0_c_17) F20 (results_1 Tryd.results36 (.tmp (F20.ev 4 rfl))) ?_
 exact ⟨r0_a_17, r0_n_17, r0_c_17, rfl, (Mv.cast (Mv.pick (T8.trans (S13.trans S17)) [0] rfl) (by rw [(show ((outL s (outN s)).drop (max 0 (min n ((r0_n_4 : Nat) : Int))).toNat) = ((outL s (outN s)).drop (max 0 (min n (((outL s (outN s)).length : Nat) : Int))).toNat) from by congr 2; omega)]; all_goals rfl))⟩
end Go.Proofs.YtjiplnaceiofmaaDoor
