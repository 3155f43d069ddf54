/-
  Walks: lists of transactions are copied.
-/
import Derived.Test.YtgfilegkabbliaaDatDr
import Derived.Test.YtgfilegkabbliaaGenXd
namespace Go.Proofs.Ytgfilegkabbliaa
open Go.ChangeShapes Go.WideShapes Go.ChangeAt Go.RowKit
set_option maxRecDepth 100000
set_option maxHeartbeats 1000000
theorem spec_l19Copy_c {w : World} {H : Nat → Prop} {list : List TxH} {list_a : Option Addr} {list_n list_c : Nat} (v_list : Rd 10 encTx okTx H w (.slice list_a list_n list_c) list) (u_list : NRd inTx H w list) (p0 : txsFit 1048576 (list.map TxH.d)) :
    Calls Try.prog 75 #[.slice list_a list_n list_c] w fun e w' => ∃ (D : List TxH), ∃ (r0_a : Option Addr), ∃ (r0_n : Nat), ∃ (r0_c : Nat), e = .returned (.slice r0_a r0_n r0_c) ∧ Mv [] w [ow 71 10 encTx okTx (.slice r0_a r0_n r0_c) D, gr inTx D] w' ∧ D.map TxH.d = list.map TxH.d ∧ D.length = list.length := by
 have hll := p0.len
 have V_v_list : Rd 10 encTx okTx (V H w []) w (.slice list_a list_n list_c) list := Rd.start v_list (fun _ _ => fps_nil _)
 obtain ⟨ln_list, le_list, mx_list, ni_list⟩ := Rd.inv v_list
 have V_u_list : NRd inTx (V H w []) w list := NRd.start u_list (fun _ _ => fps_nil _)
 refine calls_enter 21 Try.func75 rfl Try.ntmps75 (Nat.le_of_ble_eq_true rfl) (fun _ F0i => ?_)
 have F0 : Fr 21 [(0, .slice list_a list_n list_c)] _ := F0i
 clear F0i
 refine wp_seq (wp_region_lit (l_op (f_val F0 rfl rfl (r_assign rfl rfl) rfl fun _ F1 => ?_)))
 have F2 : Fr 21 [(2, .slice none 0 0), (0, .slice list_a list_n list_c)] _ := F1.cut rfl
 clear F0 F1
 refine s_end (x_normal (wp_seq (wp_region_lit (l_op (f_buildSl (ok := okTx) (vs := []) F2 (At.nil w) (([] : List TxH)) ET_39 rfl rfl rfl rfl rfl rfl rfl rfl rfl (by simp) fun b3 _ w3 F4 S3 => ?_)))))
 have S5 : Mv [ow 71 10 encTx okTx (.slice (some ⟨b3, 0, none⟩) 0 0) ([] : List TxH)] w3 [gr inTx ([] : List TxH), ow 71 10 encTx okTx (.slice (some ⟨b3, 0, none⟩) 0 0) ([] : List TxH)] w3 := gr_nil S3.at'
 refine l_op (f_as F4 rfl rfl rfl rfl rfl fun _ F6 => ?_)
 have F7 : Fr 21 [(3, .slice (some ⟨b3, 0, none⟩) 0 0), (0, .slice list_a list_n list_c)] _ := F6.cut rfl
 clear F2 F4 F6
 have T8 : Mv _ _ [gr inTx ([] : List TxH), ow 71 10 encTx okTx (.slice (some ⟨b3, 0, none⟩) 0 0) ([] : List TxH)] _ := S5
 refine s_end (x_normal (wp_seq (wp_seq (wp_region_lit (l_op (f_val F7 rfl rfl (r_assign rfl rfl) rfl fun _ F9 => ?_))))))
 have F10 : Fr 21 [(4, .int .i64 0), (3, .slice (some ⟨b3, 0, none⟩) 0 0), (0, .slice list_a list_n list_c)] _ := F9.cut rfl
 clear F7 F9
 refine s_end (x_normal (wp_block ?_))
 refine x_loop (fun (k : Nat) aZ wZ => ∃ (D : List TxH), ∃ (oa : Option Addr), ∃ (on : Nat), ∃ (oc : Nat), Fr 21 [(4, .int .i64 ((k : Nat) : Int)), (3, .slice oa on oc), (0, .slice list_a list_n list_c)] aZ ∧ Mv [gr inTx ([] : List TxH), ow 71 10 encTx okTx (.slice (some ⟨b3, 0, none⟩) 0 0) ([] : List TxH)] w3 [gr inTx D, ow 71 10 encTx okTx (.slice oa on oc) D] wZ ∧ (k ≤ list_n) ∧ (D.map TxH.d = (list.take k).map TxH.d) ∧ (D.length = k)) (fun (k : Nat) => list_n - k) (0) ?_ ?_
 · exact ⟨([] : List TxH), (some ⟨b3, 0, none⟩), 0, 0, F10.cut rfl, (Mv.refl T8.at'), by omega, rfl, rfl⟩
 · rintro k a11 w11 ⟨D, oa, on, oc, F11, S11, hk_0, hk_1, hk_2⟩
   refine wp_seq (wp_seq (wp_region_lit (l_op (f_mv F11 rfl rfl rfl rfl rfl fun _ F12 => ?_))))
   refine l_op (f_mv F12 rfl rfl rfl rfl rfl fun _ F13 => ?_)
   refine l_op (f_val F13 rfl rfl (r_len Try.underlying39 rfl (F13.ev 7 rfl)) rfl fun _ F14 => ?_)
   refine l_op (f_val F14 rfl rfl (r_cmp (b := decide (k < list_n)) (.inr (.inr (.inl rfl))) rfl (F14.ev 6 rfl) (F14.ev 8 rfl) (dec_of (by omega))) rfl fun _ F15 => ?_)
   have F16 : Fr 21 [(9, .bool (decide (k < list_n))), (4, .int .i64 ((k : Nat) : Int)), (3, .slice oa on oc), (0, .slice list_a list_n list_c)] _ := F15.cut rfl
   clear F11 F12 F13 F14 F15
   refine s_end (x_normal (x_cond (p := k < list_n) (F16.ev 9 rfl) (fun h17 => ?_) (fun h17 => ?_)))
   · skip
     refine wp_skip (x_normal (wp_seq (wp_block (wp_region_lit (l_op (f_mv F16 rfl rfl rfl rfl rfl fun _ F18 => ?_))))))
     refine l_op (f_mv F18 rfl rfl rfl rfl rfl fun _ F19 => ?_)
     refine l_op (f_mv F19 rfl rfl rfl rfl rfl fun _ F20 => ?_)
     obtain ⟨B21, O21, x1, ad21, hx1, okx1, ln21, cl21⟩ := Rd.at (Rd.mv (Nat.succ_pos _) V_v_list (S3.trans (T8.trans S11))) k (by first | assumption | omega)
     clear ln21
     have oj22 := okx1
     obtain ⟨oi22_0, oi22_1, oi22_2, oi22_3, oi22_4⟩ := oj22
     have VI23 : Rd 6 encK okK (V H w [gr inTx D, ow 71 10 encTx okTx (.slice oa on oc) D]) w11 (.slice x1.a0 x1.n0 x1.c0) x1.d.calls := NRd.get (NRd.mv V_u_list (S3.trans (T8.trans S11))) hx1 (j := 0) rfl
     obtain ⟨ln23, le23, mx23, ni23⟩ := Rd.inv VI23
     have VI24 : Rd 3 encR okR (V H w [gr inTx D, ow 71 10 encTx okTx (.slice oa on oc) D]) w11 (.slice x1.a1 x1.n1 x1.c1) x1.d.answers := NRd.get (NRd.mv V_u_list (S3.trans (T8.trans S11))) hx1 (j := 1) rfl
     obtain ⟨ln24, le24, mx24, ni24⟩ := Rd.inv VI24
     have VI25 : Rd 1 encS okS (V H w [gr inTx D, ow 71 10 encTx okTx (.slice oa on oc) D]) w11 (.slice x1.a2 x1.n2 x1.c2) x1.d.touch.reads := NRd.get (NRd.mv V_u_list (S3.trans (T8.trans S11))) hx1 (j := 2) rfl
     obtain ⟨ln25, le25, mx25, ni25⟩ := Rd.inv VI25
     have VI26 : Rd 1 encS okS (V H w [gr inTx D, ow 71 10 encTx okTx (.slice oa on oc) D]) w11 (.slice x1.a3 x1.n3 x1.c3) x1.d.touch.writes := NRd.get (NRd.mv V_u_list (S3.trans (T8.trans S11))) hx1 (j := 3) rfl
     obtain ⟨ln26, le26, mx26, ni26⟩ := Rd.inv VI26
     have VI27 : Rd 1 encI okI (V H w [gr inTx D, ow 71 10 encTx okTx (.slice oa on oc) D]) w11 (.slice x1.a4 x1.n4 x1.c4) x1.d.marks := NRd.get (NRd.mv V_u_list (S3.trans (T8.trans S11))) hx1 (j := 4) rfl
     obtain ⟨ln27, le27, mx27, ni27⟩ := Rd.inv VI27
     refine l_op (f_val F20 rfl rfl (r_indexAddr (i := k) ET_39 rfl ((F20.ev 13 rfl).trans (by rw [ad21])) (F20.ev 14 rfl) (by omega) (by first | assumption | omega)) rfl fun _ F28 => ?_)
     refine l_op (f_val (v := .agg #[.int .i64 x1.d.id, .int .i64 x1.d.age, .int .i64 x1.d.proc, .int .i64 x1.d.began, .slice x1.a0 x1.n0 x1.c0, .slice x1.a1 x1.n1 x1.c1, .slice x1.a2 x1.n2 x1.c2, .slice x1.a3 x1.n3 x1.c3, .slice x1.a4 x1.n4 x1.c4, .int .i64 x1.d.state]) F28 rfl rfl (r_load (cs := [.int .i64 x1.d.id, .int .i64 x1.d.age, .int .i64 x1.d.proc, .int .i64 x1.d.began, .slice x1.a0 x1.n0 x1.c0, .slice x1.a1 x1.n1 x1.c1, .slice x1.a2 x1.n2 x1.c2, .slice x1.a3 x1.n3 x1.c3, .slice x1.a4 x1.n4 x1.c4, .int .i64 x1.d.state]) TI_71 rfl (F28.ev 15 rfl) rfl (fun h => nomatch h) (elem_sub (f := 0) cl21 [.int .i64 x1.d.id, .int .i64 x1.d.age, .int .i64 x1.d.proc, .int .i64 x1.d.began, .slice x1.a0 x1.n0 x1.c0, .slice x1.a1 x1.n1 x1.c1, .slice x1.a2 x1.n2 x1.c2, .slice x1.a3 x1.n3 x1.c3, .slice x1.a4 x1.n4 x1.c4, .int .i64 x1.d.state] rfl)) rfl fun _ F29 => ?_)
     refine l_op (f_call F29 CF_90 rfl rfl rfl rfl (lc (F29.ev 16 rfl) rfl) (spec_l17Copy_c (x := x1.d) okx1.1 okx1.2.1 okx1.2.2.1 okx1.2.2.2.1 VI23 VI24 VI25 VI26 VI27 okx1.2.2.2.2 (by have hb := p0.at hx1; omega) (by have hb := p0.at hx1; omega) (by have hb := p0.at hx1; omega) (by have hb := p0.at hx1; omega) (by have hb := p0.at hx1; omega)) ?_)
     rintro _ w30 ⟨r0_calls_a_30, r0_calls_n_30, r0_calls_c_30, r0_answers_a_30, r0_answers_n_30, r0_answers_c_30, r0_Ra_30, r0_Rn_30, r0_Rc_30, r0_Wa_30, r0_Wn_30, r0_Wc_30, r0_marks_a_30, r0_marks_n_30, r0_marks_c_30, rfl, m30⟩
     refine ⟨_, rfl, fun _ F31 => ?_⟩
     have S30 : Mv _ _ [ow 148 6 encK okK (.slice r0_calls_a_30 r0_calls_n_30 r0_calls_c_30) x1.d.calls, ow 151 3 encR okR (.slice r0_answers_a_30 r0_answers_n_30 r0_answers_c_30) x1.d.answers, ow 9 1 encS okS (.slice r0_Ra_30 r0_Rn_30 r0_Rc_30) x1.d.touch.reads, ow 9 1 encS okS (.slice r0_Wa_30 r0_Wn_30 r0_Wc_30) x1.d.touch.writes, ow 3 1 encI okI (.slice r0_marks_a_30 r0_marks_n_30 r0_marks_c_30) x1.d.marks, gr inTx D, ow 71 10 encTx okTx (.slice oa on oc) D] _ := At.frame S11.at' [] rfl m30
     obtain ⟨lo30_0, lp30_0, lq30_0⟩ := At.ownInv S30.at' ET_66.hk 0 rfl
     obtain ⟨lo30_1, lp30_1, lq30_1⟩ := At.ownInv S30.at' ET_67.hk 1 rfl
     obtain ⟨lo30_2, lp30_2, lq30_2⟩ := At.ownInv S30.at' ET_62.hk 2 rfl
     obtain ⟨lo30_3, lp30_3, lq30_3⟩ := At.ownInv S30.at' ET_62.hk 3 rfl
     obtain ⟨lo30_4, lp30_4, lq30_4⟩ := At.ownInv S30.at' ET_53.hk 4 rfl
     clear m30
     refine l_op (f_buildSl (ok := okTx) (vs := [.agg #[.int .i64 x1.d.id, .int .i64 x1.d.age, .int .i64 x1.d.proc, .int .i64 x1.d.began, .slice r0_calls_a_30 r0_calls_n_30 r0_calls_c_30, .slice r0_answers_a_30 r0_answers_n_30 r0_answers_c_30, .slice r0_Ra_30 r0_Rn_30 r0_Rc_30, .slice r0_Wa_30 r0_Wn_30 r0_Wc_30, .slice r0_marks_a_30 r0_marks_n_30 r0_marks_c_30, .int .i64 x1.d.state]]) F31 S30.at' ([(⟨x1.d, r0_calls_a_30, r0_calls_n_30, r0_calls_c_30, r0_answers_a_30, r0_answers_n_30, r0_answers_c_30, r0_Ra_30, r0_Rn_30, r0_Rc_30, r0_Wa_30, r0_Wn_30, r0_Wc_30, r0_marks_a_30, r0_marks_n_30, r0_marks_c_30⟩ : TxH)]) ET_39 rfl rfl rfl rfl rfl rfl (lc (pr2 (F31.ev 17 rfl)) rfl) rfl rfl (fun x hx => (List.mem_singleton.1 hx) ▸ ⟨(show i64ok x1.d.id from by first | assumption | exact ⟨by omega, by omega⟩), (show i64ok x1.d.age from by first | assumption | exact ⟨by omega, by omega⟩), (show i64ok x1.d.proc from by first | assumption | exact ⟨by omega, by omega⟩), (show i64ok x1.d.began from by first | assumption | exact ⟨by omega, by omega⟩), (show i64ok x1.d.state from by first | assumption | exact ⟨by omega, by omega⟩)⟩) fun b32 _ w32 F33 S32 => ?_)
     refine l_op (f_app (news := [(⟨x1.d, r0_calls_a_30, r0_calls_n_30, r0_calls_c_30, r0_answers_a_30, r0_answers_n_30, r0_answers_c_30, r0_Ra_30, r0_Rn_30, r0_Rc_30, r0_Wa_30, r0_Wn_30, r0_Wc_30, r0_marks_a_30, r0_marks_n_30, r0_marks_c_30⟩ : TxH)]) F33 S32.at' 7 ET_39 rfl rfl rfl rfl rfl rfl (F33.ev 12 rfl) (F33.ev 18 rfl) ((At.rd S32.at' ET_39.hk 0 rfl)).1 (by ((repeat (first | rw [List.length_append] | rw [List.length_cons] | rw [List.length_nil] | rw [List.length_take] | rw [List.length_drop])) <;> omega)) fun A34 N34 C34 _ w34 F35 S34 l34 => ?_)
     have S36 : Mv [ow 71 10 encTx okTx (.slice A34 N34 C34) (D ++ ([(⟨x1.d, r0_calls_a_30, r0_calls_n_30, r0_calls_c_30, r0_answers_a_30, r0_answers_n_30, r0_answers_c_30, r0_Ra_30, r0_Rn_30, r0_Rc_30, r0_Wa_30, r0_Wn_30, r0_Wc_30, r0_marks_a_30, r0_marks_n_30, r0_marks_c_30⟩ : TxH)])), ow 71 10 encTx okTx (.slice (some ⟨b32, 0, none⟩) 1 1) ([(⟨x1.d, r0_calls_a_30, r0_calls_n_30, r0_calls_c_30, r0_answers_a_30, r0_answers_n_30, r0_answers_c_30, r0_Ra_30, r0_Rn_30, r0_Rc_30, r0_Wa_30, r0_Wn_30, r0_Wc_30, r0_marks_a_30, r0_marks_n_30, r0_marks_c_30⟩ : TxH)]), ow 148 6 encK okK (.slice r0_calls_a_30 r0_calls_n_30 r0_calls_c_30) x1.d.calls, ow 151 3 encR okR (.slice r0_answers_a_30 r0_answers_n_30 r0_answers_c_30) x1.d.answers, ow 9 1 encS okS (.slice r0_Ra_30 r0_Rn_30 r0_Rc_30) x1.d.touch.reads, ow 9 1 encS okS (.slice r0_Wa_30 r0_Wn_30 r0_Wc_30) x1.d.touch.writes, ow 3 1 encI okI (.slice r0_marks_a_30 r0_marks_n_30 r0_marks_c_30) x1.d.marks, gr inTx D] w34 [gr inTx (D ++ ([(⟨x1.d, r0_calls_a_30, r0_calls_n_30, r0_calls_c_30, r0_answers_a_30, r0_answers_n_30, r0_answers_c_30, r0_Ra_30, r0_Rn_30, r0_Rc_30, r0_Wa_30, r0_Wn_30, r0_Wc_30, r0_marks_a_30, r0_marks_n_30, r0_marks_c_30⟩ : TxH)])), ow 71 10 encTx okTx (.slice A34 N34 C34) (D ++ ([(⟨x1.d, r0_calls_a_30, r0_calls_n_30, r0_calls_c_30, r0_answers_a_30, r0_answers_n_30, r0_answers_c_30, r0_Ra_30, r0_Rn_30, r0_Rc_30, r0_Wa_30, r0_Wn_30, r0_Wc_30, r0_marks_a_30, r0_marks_n_30, r0_marks_c_30⟩ : TxH)])), ow 71 10 encTx okTx (.slice (some ⟨b32, 0, none⟩) 1 1) ([(⟨x1.d, r0_calls_a_30, r0_calls_n_30, r0_calls_c_30, r0_answers_a_30, r0_answers_n_30, r0_answers_c_30, r0_Ra_30, r0_Rn_30, r0_Rc_30, r0_Wa_30, r0_Wn_30, r0_Wc_30, r0_marks_a_30, r0_marks_n_30, r0_marks_c_30⟩ : TxH)])] w34 := gr_push S34.at' [2, 3, 4, 5, 6, 7] (⟨x1.d, r0_calls_a_30, r0_calls_n_30, r0_calls_c_30, r0_answers_a_30, r0_answers_n_30, r0_answers_c_30, r0_Ra_30, r0_Rn_30, r0_Rc_30, r0_Wa_30, r0_Wn_30, r0_Wc_30, r0_marks_a_30, r0_marks_n_30, r0_marks_c_30⟩ : TxH) rfl rfl
     have S37 := At.drop S36.at' 2
     refine l_op (f_as F35 rfl rfl rfl rfl rfl fun _ F38 => ?_)
     have F39 : Fr 21 [(3, .slice A34 N34 C34), (4, .int .i64 ((k : Nat) : Int)), (0, .slice list_a list_n list_c)] _ := F38.cut rfl
     clear F16 F18 F19 F20 F28 F29 F31 F33 F35 F38
     have T40 : Mv _ _ [gr inTx (D ++ ([(⟨x1.d, r0_calls_a_30, r0_calls_n_30, r0_calls_c_30, r0_answers_a_30, r0_answers_n_30, r0_answers_c_30, r0_Ra_30, r0_Rn_30, r0_Rc_30, r0_Wa_30, r0_Wn_30, r0_Wc_30, r0_marks_a_30, r0_marks_n_30, r0_marks_c_30⟩ : TxH)])), ow 71 10 encTx okTx (.slice A34 N34 C34) (D ++ ([(⟨x1.d, r0_calls_a_30, r0_calls_n_30, r0_calls_c_30, r0_answers_a_30, r0_answers_n_30, r0_answers_c_30, r0_Ra_30, r0_Rn_30, r0_Rc_30, r0_Wa_30, r0_Wn_30, r0_Wc_30, r0_marks_a_30, r0_marks_n_30, r0_marks_c_30⟩ : TxH)]))] _ := S37
     refine s_end (x_block_normal (x_normal (wp_region_lit (l_op (f_mv F39 rfl rfl rfl rfl rfl fun _ F41 => ?_)))))
     refine l_op (f_val F41 rfl rfl (r_add (z := ((k + 1 : Nat) : Int)) rfl (F41.ev 10 rfl) rfl (by first | rfl | omega) ⟨by first | omega | (unfold i64ok at *; omega), by first | omega | (unfold i64ok at *; omega)⟩) rfl fun _ F42 => ?_)
     refine l_op (f_as F42 rfl rfl rfl rfl rfl fun _ F43 => ?_)
     have F44 : Fr 21 [(4, .int .i64 ((k + 1 : Nat) : Int)), (3, .slice A34 N34 C34), (0, .slice list_a list_n list_c)] _ := F43.cut rfl
     clear F39 F41 F42 F43
     refine s_end ?_
     refine x_normal ⟨k + 1, by omega, D ++ ([(⟨x1.d, r0_calls_a_30, r0_calls_n_30, r0_calls_c_30, r0_answers_a_30, r0_answers_n_30, r0_answers_c_30, r0_Ra_30, r0_Rn_30, r0_Rc_30, r0_Wa_30, r0_Wn_30, r0_Wc_30, r0_marks_a_30, r0_marks_n_30, r0_marks_c_30⟩ : TxH)]), A34, N34, C34, F44.cut rfl, ((S11.trans (S30.trans (S32.trans (S34.trans (S36.trans T40))))).pick [0, 1] rfl), by omega, by rw [List.map_append, hk_1, takeM_step hx1]; rfl, by rw [List.length_append, hk_2]; rfl⟩
   · skip
     refine wp_exit (x_then_exit (x_then_exit (x_block_here (x_normal (wp_seq (wp_region_lit (l_op (f_mv F16 rfl rfl rfl rfl rfl fun _ F45 => ?_))))))))
     refine l_op (f_as F45 rfl rfl rfl rfl rfl fun _ F46 => ?_)
     have F47 : Fr 21 [(2, .slice oa on oc)] _ := F46.cut rfl
     clear F16 F45 F46
     refine s_end (x_normal (wp_ret ?_))
     refine x_done (v := .slice oa on oc) F47 (results_1 Try.results75 (.tmp (F47.ev 2 rfl))) ?_
     exact ⟨D, oa, on, oc, rfl, (Mv.pick (S3.trans (T8.trans S11)) [1, 0] rfl), by rw [hk_1, List.take_of_length_le (by omega)], by omega⟩
theorem impl_txsCopy_c {w : World} {H : Nat → Prop} {list : List TxH} {list_a : Option Addr} {list_n list_c : Nat} (v_list : Rd 10 encTx okTx H w (.slice list_a list_n list_c) list) (u_list : NRd inTx H w list) (p0 : txsFit 1048576 (list.map TxH.d)) :
    Calls Try.prog 77 #[.slice list_a list_n list_c] w fun e w' => ∃ (D : List TxH), ∃ (r0_a : Option Addr), ∃ (r0_n : Nat), ∃ (r0_c : Nat), e = .returned (.slice r0_a r0_n r0_c) ∧ Mv [] w [ow 71 10 encTx okTx (.slice r0_a r0_n r0_c) D, gr inTx D] w' ∧ D.map TxH.d = list.map TxH.d ∧ D.length = list.length := by
 have hll := p0.len
 have V_v_list : Rd 10 encTx okTx (V H w []) w (.slice list_a list_n list_c) list := Rd.start v_list (fun _ _ => fps_nil _)
 obtain ⟨ln_list, le_list, mx_list, ni_list⟩ := Rd.inv v_list
 have V_u_list : NRd inTx (V H w []) w list := NRd.start u_list (fun _ _ => fps_nil _)
 refine calls_enter 19 Try.func77 rfl Try.ntmps77 (Nat.le_of_ble_eq_true rfl) (fun _ F0i => ?_)
 have F0 : Fr 19 [(0, .slice list_a list_n list_c)] _ := F0i
 clear F0i
 refine wp_seq (wp_region_lit (l_op (f_val F0 rfl rfl (r_assign rfl rfl) rfl fun _ F1 => ?_)))
 have F2 : Fr 19 [(2, .slice none 0 0), (0, .slice list_a list_n list_c)] _ := F1.cut rfl
 clear F0 F1
 refine s_end (x_normal (wp_seq (wp_region_lit (l_op (f_val F2 rfl rfl (r_assign rfl rfl) rfl fun _ F3 => ?_)))))
 have F4 : Fr 19 [(3, .slice none 0 0), (0, .slice list_a list_n list_c)] _ := F3.cut rfl
 clear F2 F3
 refine s_end (x_normal (wp_seq (wp_seq (wp_region_lit (l_op (f_mv F4 rfl rfl rfl rfl rfl fun _ F5 => ?_))))))
 refine l_op (f_val F5 rfl rfl (r_len Try.underlying39 rfl (F5.ev 6 rfl)) rfl fun _ F6 => ?_)
 refine l_op (f_val F6 rfl rfl (r_move rfl rfl) rfl fun _ F7 => ?_)
 have F8 : Fr 19 [(8, .int .i64 0), (7, .int .i64 ((list_n : Nat) : Int)), (6, .slice list_a list_n list_c), (3, .slice none 0 0)] _ := F7.cut rfl
 clear F4 F5 F6 F7
 refine s_end (x_normal (wp_block ?_))
 have S10 : Mv [] w [ow 71 10 encTx okTx (.slice none 0 0) ([] : List TxH)] w := mv_nil (At.nil w)
 have S11 : Mv [ow 71 10 encTx okTx (.slice none 0 0) ([] : List TxH)] w [gr inTx ([] : List TxH), ow 71 10 encTx okTx (.slice none 0 0) ([] : List TxH)] w := gr_nil S10.at'
 refine x_loop (fun (k : Nat) aZ wZ => ∃ (D : List TxH), ∃ (oa : Option Addr), ∃ (on : Nat), ∃ (oc : Nat), Fr 19 [(8, .int .i64 ((k : Nat) : Int)), (7, .int .i64 ((list_n : Nat) : Int)), (6, .slice list_a list_n list_c), (3, .slice oa on oc)] aZ ∧ Mv [gr inTx ([] : List TxH), ow 71 10 encTx okTx (.slice none 0 0) ([] : List TxH)] w [gr inTx D, ow 71 10 encTx okTx (.slice oa on oc) D] wZ ∧ (k ≤ list_n) ∧ (D.map TxH.d = (list.take k).map TxH.d) ∧ (D.length = k)) (fun (k : Nat) => list_n - k) (0) ?_ ?_
 · exact ⟨([] : List TxH), none, 0, 0, F8.cut rfl, (Mv.refl S11.at'), by omega, rfl, rfl⟩
 · rintro k a9 w9 ⟨D, oa, on, oc, F9, S9, hk_0, hk_1, hk_2⟩
   refine wp_seq (wp_region_lit (l_op (f_val F9 rfl rfl (r_cmp (b := decide (k < list_n)) (.inr (.inr (.inl rfl))) rfl (F9.ev 8 rfl) (F9.ev 7 rfl) (dec_of (by omega))) rfl fun _ F12 => ?_)))
   have F13 : Fr 19 [(9, .bool (decide (k < list_n))), (8, .int .i64 ((k : Nat) : Int)), (7, .int .i64 ((list_n : Nat) : Int)), (6, .slice list_a list_n list_c), (3, .slice oa on oc)] _ := F12.cut rfl
   clear F9 F12
   refine s_end (x_normal (wp_seq (x_cond (p := k < list_n) (F13.ev 9 rfl) (fun h14 => ?_) (fun h14 => ?_))))
   · skip
     refine wp_skip (x_normal (wp_seq (wp_block (wp_seq (wp_region_lit ?_)))))
     obtain ⟨B15, O15, x1, ad15, hx1, okx1, ln15, cl15⟩ := Rd.at (Rd.mv (Nat.succ_pos _) V_v_list (S10.trans (S11.trans S9))) k (by first | assumption | omega)
     clear ln15
     have oj16 := okx1
     obtain ⟨oi16_0, oi16_1, oi16_2, oi16_3, oi16_4⟩ := oj16
     have VI17 : Rd 6 encK okK (V H w [gr inTx D, ow 71 10 encTx okTx (.slice oa on oc) D]) w9 (.slice x1.a0 x1.n0 x1.c0) x1.d.calls := NRd.get (NRd.mv V_u_list (S10.trans (S11.trans S9))) hx1 (j := 0) rfl
     obtain ⟨ln17, le17, mx17, ni17⟩ := Rd.inv VI17
     have VI18 : Rd 3 encR okR (V H w [gr inTx D, ow 71 10 encTx okTx (.slice oa on oc) D]) w9 (.slice x1.a1 x1.n1 x1.c1) x1.d.answers := NRd.get (NRd.mv V_u_list (S10.trans (S11.trans S9))) hx1 (j := 1) rfl
     obtain ⟨ln18, le18, mx18, ni18⟩ := Rd.inv VI18
     have VI19 : Rd 1 encS okS (V H w [gr inTx D, ow 71 10 encTx okTx (.slice oa on oc) D]) w9 (.slice x1.a2 x1.n2 x1.c2) x1.d.touch.reads := NRd.get (NRd.mv V_u_list (S10.trans (S11.trans S9))) hx1 (j := 2) rfl
     obtain ⟨ln19, le19, mx19, ni19⟩ := Rd.inv VI19
     have VI20 : Rd 1 encS okS (V H w [gr inTx D, ow 71 10 encTx okTx (.slice oa on oc) D]) w9 (.slice x1.a3 x1.n3 x1.c3) x1.d.touch.writes := NRd.get (NRd.mv V_u_list (S10.trans (S11.trans S9))) hx1 (j := 3) rfl
     obtain ⟨ln20, le20, mx20, ni20⟩ := Rd.inv VI20
     have VI21 : Rd 1 encI okI (V H w [gr inTx D, ow 71 10 encTx okTx (.slice oa on oc) D]) w9 (.slice x1.a4 x1.n4 x1.c4) x1.d.marks := NRd.get (NRd.mv V_u_list (S10.trans (S11.trans S9))) hx1 (j := 4) rfl
     obtain ⟨ln21, le21, mx21, ni21⟩ := Rd.inv VI21
     refine l_op (f_val F13 rfl rfl (r_indexAddr (i := k) ET_39 rfl ((F13.ev 6 rfl).trans (by rw [ad15])) (F13.ev 8 rfl) (by omega) (by first | assumption | omega)) rfl fun _ F22 => ?_)
     refine l_op (f_val (v := .agg #[.int .i64 x1.d.id, .int .i64 x1.d.age, .int .i64 x1.d.proc, .int .i64 x1.d.began, .slice x1.a0 x1.n0 x1.c0, .slice x1.a1 x1.n1 x1.c1, .slice x1.a2 x1.n2 x1.c2, .slice x1.a3 x1.n3 x1.c3, .slice x1.a4 x1.n4 x1.c4, .int .i64 x1.d.state]) F22 rfl rfl (r_load (cs := [.int .i64 x1.d.id, .int .i64 x1.d.age, .int .i64 x1.d.proc, .int .i64 x1.d.began, .slice x1.a0 x1.n0 x1.c0, .slice x1.a1 x1.n1 x1.c1, .slice x1.a2 x1.n2 x1.c2, .slice x1.a3 x1.n3 x1.c3, .slice x1.a4 x1.n4 x1.c4, .int .i64 x1.d.state]) TI_71 rfl (F22.ev 10 rfl) rfl (fun h => nomatch h) (elem_sub (f := 0) cl15 [.int .i64 x1.d.id, .int .i64 x1.d.age, .int .i64 x1.d.proc, .int .i64 x1.d.began, .slice x1.a0 x1.n0 x1.c0, .slice x1.a1 x1.n1 x1.c1, .slice x1.a2 x1.n2 x1.c2, .slice x1.a3 x1.n3 x1.c3, .slice x1.a4 x1.n4 x1.c4, .int .i64 x1.d.state] rfl)) rfl fun _ F23 => ?_)
     refine l_op (f_alloc F23 S9.at' ZI_71 rfl rfl rfl rfl rfl fun b24 _ w24 F25 S24 => ?_)
     refine l_op (s_store S24.at' 0 TI_71 rfl rfl rfl rfl rfl (F25.ev 5 rfl) (F25.ev 11 rfl) rfl rfl rfl rfl rfl fun w26 S26 => ?_)
     have F27 : Fr 19 [(5, .pointer (some ⟨b24, 0, none⟩)), (11, .agg #[.int .i64 x1.d.id, .int .i64 x1.d.age, .int .i64 x1.d.proc, .int .i64 x1.d.began, .slice x1.a0 x1.n0 x1.c0, .slice x1.a1 x1.n1 x1.c1, .slice x1.a2 x1.n2 x1.c2, .slice x1.a3 x1.n3 x1.c3, .slice x1.a4 x1.n4 x1.c4, .int .i64 x1.d.state]), (8, .int .i64 ((k : Nat) : Int)), (7, .int .i64 ((list_n : Nat) : Int)), (6, .slice list_a list_n list_c), (3, .slice oa on oc)] _ := F25.cut rfl
     clear F13 F22 F23 F25
     have T28 : Mv _ _ [bx b24 [.int .i64 x1.d.id, .int .i64 x1.d.age, .int .i64 x1.d.proc, .int .i64 x1.d.began, .slice x1.a0 x1.n0 x1.c0, .slice x1.a1 x1.n1 x1.c1, .slice x1.a2 x1.n2 x1.c2, .slice x1.a3 x1.n3 x1.c3, .slice x1.a4 x1.n4 x1.c4, .int .i64 x1.d.state] 71, gr inTx D, ow 71 10 encTx okTx (.slice oa on oc) D] _ := S26
     refine s_end (x_normal (wp_region_lit (l_op (f_mv F27 rfl rfl rfl rfl rfl fun _ F29 => ?_))))
     refine l_op (f_val (v := .agg #[.int .i64 x1.d.id, .int .i64 x1.d.age, .int .i64 x1.d.proc, .int .i64 x1.d.began, .slice x1.a0 x1.n0 x1.c0, .slice x1.a1 x1.n1 x1.c1, .slice x1.a2 x1.n2 x1.c2, .slice x1.a3 x1.n3 x1.c3, .slice x1.a4 x1.n4 x1.c4, .int .i64 x1.d.state]) F29 rfl rfl (r_loadB T28.at' 0 TI_71 rfl rfl (F29.ev 5 rfl) rfl rfl (fun h => nomatch h) rfl) rfl fun _ F30 => ?_)
     refine l_op (f_call F30 CF_95 rfl rfl rfl rfl (lc (F30.ev 13 rfl) rfl) (impl_Tx_clone_c (x := x1.d) okx1.1 okx1.2.1 okx1.2.2.1 okx1.2.2.2.1 (Rd.mv (Nat.succ_pos _) VI17 (S24.trans T28)) (Rd.mv (Nat.succ_pos _) VI18 (S24.trans T28)) (Rd.mv (Nat.succ_pos _) VI19 (S24.trans T28)) (Rd.mv (Nat.succ_pos _) VI20 (S24.trans T28)) (Rd.mv (Nat.succ_pos _) VI21 (S24.trans T28)) okx1.2.2.2.2 (by have hb := p0.at hx1; omega) (by have hb := p0.at hx1; omega) (by have hb := p0.at hx1; omega) (by have hb := p0.at hx1; omega) (by have hb := p0.at hx1; omega)) ?_)
     rintro _ w31 ⟨r0_calls_a_31, r0_calls_n_31, r0_calls_c_31, r0_answers_a_31, r0_answers_n_31, r0_answers_c_31, r0_Ra_31, r0_Rn_31, r0_Rc_31, r0_Wa_31, r0_Wn_31, r0_Wc_31, r0_marks_a_31, r0_marks_n_31, r0_marks_c_31, rfl, m31⟩
     refine ⟨_, rfl, fun _ F32 => ?_⟩
     have S31 : Mv _ _ [ow 148 6 encK okK (.slice r0_calls_a_31 r0_calls_n_31 r0_calls_c_31) x1.d.calls, ow 151 3 encR okR (.slice r0_answers_a_31 r0_answers_n_31 r0_answers_c_31) x1.d.answers, ow 9 1 encS okS (.slice r0_Ra_31 r0_Rn_31 r0_Rc_31) x1.d.touch.reads, ow 9 1 encS okS (.slice r0_Wa_31 r0_Wn_31 r0_Wc_31) x1.d.touch.writes, ow 3 1 encI okI (.slice r0_marks_a_31 r0_marks_n_31 r0_marks_c_31) x1.d.marks, bx b24 [.int .i64 x1.d.id, .int .i64 x1.d.age, .int .i64 x1.d.proc, .int .i64 x1.d.began, .slice x1.a0 x1.n0 x1.c0, .slice x1.a1 x1.n1 x1.c1, .slice x1.a2 x1.n2 x1.c2, .slice x1.a3 x1.n3 x1.c3, .slice x1.a4 x1.n4 x1.c4, .int .i64 x1.d.state] 71, gr inTx D, ow 71 10 encTx okTx (.slice oa on oc) D] _ := At.frame T28.at' [] rfl m31
     obtain ⟨lo31_0, lp31_0, lq31_0⟩ := At.ownInv S31.at' ET_66.hk 0 rfl
     obtain ⟨lo31_1, lp31_1, lq31_1⟩ := At.ownInv S31.at' ET_67.hk 1 rfl
     obtain ⟨lo31_2, lp31_2, lq31_2⟩ := At.ownInv S31.at' ET_62.hk 2 rfl
     obtain ⟨lo31_3, lp31_3, lq31_3⟩ := At.ownInv S31.at' ET_62.hk 3 rfl
     obtain ⟨lo31_4, lp31_4, lq31_4⟩ := At.ownInv S31.at' ET_53.hk 4 rfl
     clear m31
     refine l_op (f_buildSl (ok := okTx) (vs := [.agg #[.int .i64 x1.d.id, .int .i64 x1.d.age, .int .i64 x1.d.proc, .int .i64 x1.d.began, .slice r0_calls_a_31 r0_calls_n_31 r0_calls_c_31, .slice r0_answers_a_31 r0_answers_n_31 r0_answers_c_31, .slice r0_Ra_31 r0_Rn_31 r0_Rc_31, .slice r0_Wa_31 r0_Wn_31 r0_Wc_31, .slice r0_marks_a_31 r0_marks_n_31 r0_marks_c_31, .int .i64 x1.d.state]]) F32 S31.at' ([(⟨x1.d, r0_calls_a_31, r0_calls_n_31, r0_calls_c_31, r0_answers_a_31, r0_answers_n_31, r0_answers_c_31, r0_Ra_31, r0_Rn_31, r0_Rc_31, r0_Wa_31, r0_Wn_31, r0_Wc_31, r0_marks_a_31, r0_marks_n_31, r0_marks_c_31⟩ : TxH)]) ET_39 rfl rfl rfl rfl rfl rfl (lc (pr2 (F32.ev 14 rfl)) rfl) rfl rfl (fun x hx => (List.mem_singleton.1 hx) ▸ ⟨(show i64ok x1.d.id from by first | assumption | exact ⟨by omega, by omega⟩), (show i64ok x1.d.age from by first | assumption | exact ⟨by omega, by omega⟩), (show i64ok x1.d.proc from by first | assumption | exact ⟨by omega, by omega⟩), (show i64ok x1.d.began from by first | assumption | exact ⟨by omega, by omega⟩), (show i64ok x1.d.state from by first | assumption | exact ⟨by omega, by omega⟩)⟩) fun b33 _ w33 F34 S33 => ?_)
     refine l_op (f_app (news := [(⟨x1.d, r0_calls_a_31, r0_calls_n_31, r0_calls_c_31, r0_answers_a_31, r0_answers_n_31, r0_answers_c_31, r0_Ra_31, r0_Rn_31, r0_Rc_31, r0_Wa_31, r0_Wn_31, r0_Wc_31, r0_marks_a_31, r0_marks_n_31, r0_marks_c_31⟩ : TxH)]) F34 S33.at' 8 ET_39 rfl rfl rfl rfl rfl rfl (F34.ev 12 rfl) (F34.ev 15 rfl) ((At.rd S33.at' ET_39.hk 0 rfl)).1 (by ((repeat (first | rw [List.length_append] | rw [List.length_cons] | rw [List.length_nil] | rw [List.length_take] | rw [List.length_drop])) <;> omega)) fun A35 N35 C35 _ w35 F36 S35 l35 => ?_)
     have S37 : Mv [ow 71 10 encTx okTx (.slice A35 N35 C35) (D ++ ([(⟨x1.d, r0_calls_a_31, r0_calls_n_31, r0_calls_c_31, r0_answers_a_31, r0_answers_n_31, r0_answers_c_31, r0_Ra_31, r0_Rn_31, r0_Rc_31, r0_Wa_31, r0_Wn_31, r0_Wc_31, r0_marks_a_31, r0_marks_n_31, r0_marks_c_31⟩ : TxH)])), ow 71 10 encTx okTx (.slice (some ⟨b33, 0, none⟩) 1 1) ([(⟨x1.d, r0_calls_a_31, r0_calls_n_31, r0_calls_c_31, r0_answers_a_31, r0_answers_n_31, r0_answers_c_31, r0_Ra_31, r0_Rn_31, r0_Rc_31, r0_Wa_31, r0_Wn_31, r0_Wc_31, r0_marks_a_31, r0_marks_n_31, r0_marks_c_31⟩ : TxH)]), ow 148 6 encK okK (.slice r0_calls_a_31 r0_calls_n_31 r0_calls_c_31) x1.d.calls, ow 151 3 encR okR (.slice r0_answers_a_31 r0_answers_n_31 r0_answers_c_31) x1.d.answers, ow 9 1 encS okS (.slice r0_Ra_31 r0_Rn_31 r0_Rc_31) x1.d.touch.reads, ow 9 1 encS okS (.slice r0_Wa_31 r0_Wn_31 r0_Wc_31) x1.d.touch.writes, ow 3 1 encI okI (.slice r0_marks_a_31 r0_marks_n_31 r0_marks_c_31) x1.d.marks, bx b24 [.int .i64 x1.d.id, .int .i64 x1.d.age, .int .i64 x1.d.proc, .int .i64 x1.d.began, .slice x1.a0 x1.n0 x1.c0, .slice x1.a1 x1.n1 x1.c1, .slice x1.a2 x1.n2 x1.c2, .slice x1.a3 x1.n3 x1.c3, .slice x1.a4 x1.n4 x1.c4, .int .i64 x1.d.state] 71, gr inTx D] w35 [gr inTx (D ++ ([(⟨x1.d, r0_calls_a_31, r0_calls_n_31, r0_calls_c_31, r0_answers_a_31, r0_answers_n_31, r0_answers_c_31, r0_Ra_31, r0_Rn_31, r0_Rc_31, r0_Wa_31, r0_Wn_31, r0_Wc_31, r0_marks_a_31, r0_marks_n_31, r0_marks_c_31⟩ : TxH)])), ow 71 10 encTx okTx (.slice A35 N35 C35) (D ++ ([(⟨x1.d, r0_calls_a_31, r0_calls_n_31, r0_calls_c_31, r0_answers_a_31, r0_answers_n_31, r0_answers_c_31, r0_Ra_31, r0_Rn_31, r0_Rc_31, r0_Wa_31, r0_Wn_31, r0_Wc_31, r0_marks_a_31, r0_marks_n_31, r0_marks_c_31⟩ : TxH)])), ow 71 10 encTx okTx (.slice (some ⟨b33, 0, none⟩) 1 1) ([(⟨x1.d, r0_calls_a_31, r0_calls_n_31, r0_calls_c_31, r0_answers_a_31, r0_answers_n_31, r0_answers_c_31, r0_Ra_31, r0_Rn_31, r0_Rc_31, r0_Wa_31, r0_Wn_31, r0_Wc_31, r0_marks_a_31, r0_marks_n_31, r0_marks_c_31⟩ : TxH)]), bx b24 [.int .i64 x1.d.id, .int .i64 x1.d.age, .int .i64 x1.d.proc, .int .i64 x1.d.began, .slice x1.a0 x1.n0 x1.c0, .slice x1.a1 x1.n1 x1.c1, .slice x1.a2 x1.n2 x1.c2, .slice x1.a3 x1.n3 x1.c3, .slice x1.a4 x1.n4 x1.c4, .int .i64 x1.d.state] 71] w35 := gr_push S35.at' [2, 3, 4, 5, 6, 8] (⟨x1.d, r0_calls_a_31, r0_calls_n_31, r0_calls_c_31, r0_answers_a_31, r0_answers_n_31, r0_answers_c_31, r0_Ra_31, r0_Rn_31, r0_Rc_31, r0_Wa_31, r0_Wn_31, r0_Wc_31, r0_marks_a_31, r0_marks_n_31, r0_marks_c_31⟩ : TxH) rfl rfl
     have S38 := At.drop S37.at' 2
     refine l_op (f_as F36 rfl rfl rfl rfl rfl fun _ F39 => ?_)
     have F40 : Fr 19 [(3, .slice A35 N35 C35), (8, .int .i64 ((k : Nat) : Int)), (7, .int .i64 ((list_n : Nat) : Int)), (6, .slice list_a list_n list_c)] _ := F39.cut rfl
     clear F27 F29 F30 F32 F34 F36 F39
     have T41 : Mv _ _ [gr inTx (D ++ ([(⟨x1.d, r0_calls_a_31, r0_calls_n_31, r0_calls_c_31, r0_answers_a_31, r0_answers_n_31, r0_answers_c_31, r0_Ra_31, r0_Rn_31, r0_Rc_31, r0_Wa_31, r0_Wn_31, r0_Wc_31, r0_marks_a_31, r0_marks_n_31, r0_marks_c_31⟩ : TxH)])), ow 71 10 encTx okTx (.slice A35 N35 C35) (D ++ ([(⟨x1.d, r0_calls_a_31, r0_calls_n_31, r0_calls_c_31, r0_answers_a_31, r0_answers_n_31, r0_answers_c_31, r0_Ra_31, r0_Rn_31, r0_Rc_31, r0_Wa_31, r0_Wn_31, r0_Wc_31, r0_marks_a_31, r0_marks_n_31, r0_marks_c_31⟩ : TxH)])), bx b24 [.int .i64 x1.d.id, .int .i64 x1.d.age, .int .i64 x1.d.proc, .int .i64 x1.d.began, .slice x1.a0 x1.n0 x1.c0, .slice x1.a1 x1.n1 x1.c1, .slice x1.a2 x1.n2 x1.c2, .slice x1.a3 x1.n3 x1.c3, .slice x1.a4 x1.n4 x1.c4, .int .i64 x1.d.state] 71] _ := S38
     refine s_end (x_block_normal (x_normal (wp_region_lit (l_op (f_val F40 rfl rfl (r_add (z := ((k + 1 : Nat) : Int)) rfl (F40.ev 8 rfl) rfl (by first | rfl | omega) ⟨by first | omega | (unfold i64ok at *; omega), by first | omega | (unfold i64ok at *; omega)⟩) rfl fun _ F42 => ?_)))))
     refine l_op (f_mv F42 rfl rfl rfl rfl rfl fun _ F43 => ?_)
     have F44 : Fr 19 [(8, .int .i64 ((k + 1 : Nat) : Int)), (3, .slice A35 N35 C35), (7, .int .i64 ((list_n : Nat) : Int)), (6, .slice list_a list_n list_c)] _ := F43.cut rfl
     clear F40 F42 F43
     refine s_end ?_
     refine x_normal ⟨k + 1, by omega, D ++ ([(⟨x1.d, r0_calls_a_31, r0_calls_n_31, r0_calls_c_31, r0_answers_a_31, r0_answers_n_31, r0_answers_c_31, r0_Ra_31, r0_Rn_31, r0_Rc_31, r0_Wa_31, r0_Wn_31, r0_Wc_31, r0_marks_a_31, r0_marks_n_31, r0_marks_c_31⟩ : TxH)]), A35, N35, C35, F44.cut rfl, ((S9.trans (S24.trans (T28.trans (S31.trans (S33.trans (S35.trans (S37.trans T41))))))).pick [0, 1] rfl), by omega, by rw [List.map_append, hk_1, takeM_step hx1]; rfl, by rw [List.length_append, hk_2]; rfl⟩
   · skip
     refine wp_exit (x_then_exit (x_then_exit (x_block_here (x_normal (wp_seq (wp_region_lit (l_op (f_mv F13 rfl rfl rfl rfl rfl fun _ F45 => ?_))))))))
     refine l_op (f_as F45 rfl rfl rfl rfl rfl fun _ F46 => ?_)
     have F47 : Fr 19 [(2, .slice oa on oc)] _ := F46.cut rfl
     clear F13 F45 F46
     refine s_end (x_normal (wp_ret ?_))
     refine x_done (v := .slice oa on oc) F47 (results_1 Try.results77 (.tmp (F47.ev 2 rfl))) ?_
     exact ⟨D, oa, on, oc, rfl, (Mv.pick (S10.trans (S11.trans S9)) [1, 0] rfl), by rw [hk_1, List.take_of_length_le (by omega)], by omega⟩
end Go.Proofs.Ytgfilegkabbliaa
