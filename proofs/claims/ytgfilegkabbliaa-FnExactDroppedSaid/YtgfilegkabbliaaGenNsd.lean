/-
  Walks: lists of transactions hold their marks.
-/
import Derived.Test.YtgfilegkabbliaaDatDr
namespace Go.Proofs.Ytgfilegkabbliaa
open Go.ChangeShapes Go.WideShapes Go.ChangeAt Go.RowKit
set_option maxRecDepth 100000
set_option maxHeartbeats 1000000
theorem laws_heldTxS_c {w : World} {H : Nat → Prop} {a : List TxH} {a_a : Option Addr} {a_n a_c : Nat} {k : Nat} {d : List TxD} (v_a : Rd 10 encTx okTx H w (.slice a_a a_n a_c) a) (u_a : NRd inTx H w a) (h_k : i64ok (k : Int)) (p0 : a.map TxH.d = mkL markTxE cntTx k d) (p1 : k ≤ 1048576) (p2 : sumOf cntTx d ≤ 1125899906842624) :
    Calls Try.prog 39 #[.slice a_a a_n a_c, .int .i64 ((k : Nat) : Int)] w fun e w' => e = .returned (.int .i64 ((k + sumOf cntTx d : Nat) : Int)) ∧ Mv [] w [] w' := by
 have uU : True := (fun _ _ _ => trivial) h_k p1 p2
 clear uU
 have V_v_a : Rd 10 encTx okTx (V H w []) w (.slice a_a a_n a_c) a := Rd.start v_a (fun _ _ => fps_nil _)
 obtain ⟨ln_a, le_a, mx_a, ni_a⟩ := Rd.inv v_a
 have V_u_a : NRd inTx (V H w []) w a := NRd.start u_a (fun _ _ => fps_nil _)
 refine calls_enter 105 Try.func39 rfl Try.ntmps39 (Nat.le_of_ble_eq_true rfl) (fun _ F0i => ?_)
 have F0 : Fr 105 [(0, .slice a_a a_n a_c), (1, .int .i64 ((k : Nat) : Int))] _ := F0i
 clear F0i
 refine wp_seq ?_
 have hdl : a_n = d.length := by have := dM_len p0; rw [mkL_length] at this; rw [ln_a, this]
 refine wp_region_lit (l_op (f_val F0 rfl rfl (r_assign rfl rfl) rfl fun _ F1 => ?_))
 have F2 : Fr 105 [(4, .int .i64 0), (0, .slice a_a a_n a_c), (1, .int .i64 ((k : Nat) : Int))] _ := F1.cut rfl
 clear F0 F1
 refine s_end (x_normal (wp_seq (wp_seq (wp_region_lit (l_op (f_val F2 rfl rfl (r_assign rfl rfl) rfl fun _ F3 => ?_))))))
 have F4 : Fr 105 [(5, .int .i64 0), (0, .slice a_a a_n a_c), (1, .int .i64 ((k : Nat) : Int))] _ := F3.cut rfl
 clear F2 F3
 refine s_end (x_normal (wp_block ?_))
 refine x_loop (fun (j : Nat) aZ wZ => ∃ (kk : Nat), Fr 105 [(5, .int .i64 ((j : Nat) : Int)), (0, .slice a_a a_n a_c), (1, .int .i64 ((kk : Nat) : Int))] aZ ∧ Mv [] w [] wZ ∧ (j ≤ a_n) ∧ (kk = k + sumOf cntTx (d.take j))) (fun (j : Nat) => a_n - j) (0) ?_ ?_
 · exact ⟨k, F4.cut rfl, (Mv.refl (At.nil w)), by omega, rfl⟩
 · rintro j a5 w5 ⟨kk, F5, S5, hj_0, hj_1⟩
   refine wp_seq (wp_seq (wp_region_lit (l_op (f_mv F5 rfl rfl rfl rfl rfl fun _ F6 => ?_))))
   refine l_op (f_mv F6 rfl rfl rfl rfl rfl fun _ F7 => ?_)
   refine l_op (f_val F7 rfl rfl (r_len Try.underlying39 rfl (F7.ev 7 rfl)) rfl fun _ F8 => ?_)
   refine l_op (f_val F8 rfl rfl (r_cmp (b := decide (j < a_n)) (.inr (.inr (.inl rfl))) rfl (F8.ev 6 rfl) (F8.ev 8 rfl) (dec_of (by omega))) rfl fun _ F9 => ?_)
   have F10 : Fr 105 [(9, .bool (decide (j < a_n))), (5, .int .i64 ((j : Nat) : Int)), (0, .slice a_a a_n a_c), (1, .int .i64 ((kk : Nat) : Int))] _ := F9.cut rfl
   clear F5 F6 F7 F8 F9
   refine s_end (x_normal (x_cond (p := j < a_n) (F10.ev 9 rfl) (fun h11 => ?_) (fun h11 => ?_)))
   · skip
     refine wp_skip (x_normal (wp_seq (wp_block (wp_seq (wp_seq ?_)))))
     obtain ⟨yy, hyy⟩ := nth_some (l := d) (k := j) (by rw [← hdl]; omega)
     have hsu := (sumOf_upto (f := cntTx) hyy).2
     rw [cntTx_eq] at hsu
     refine wp_region_lit (l_op (f_mv F10 rfl rfl rfl rfl rfl fun _ F12 => ?_))
     refine l_op (f_mv F12 rfl rfl rfl rfl rfl fun _ F13 => ?_)
     obtain ⟨B14, O14, x1, ad14, hx1, okx1, ln14, cl14⟩ := Rd.at (Rd.mv (Nat.succ_pos _) V_v_a S5) j (by first | assumption | omega)
     clear ln14
     have oj15 := okx1
     obtain ⟨oi15_0, oi15_1, oi15_2, oi15_3, oi15_4⟩ := oj15
     have VI16 : Rd 6 encK okK (V H w []) w5 (.slice x1.a0 x1.n0 x1.c0) x1.d.calls := NRd.get (NRd.mv V_u_a S5) hx1 (j := 0) rfl
     obtain ⟨ln16, le16, mx16, ni16⟩ := Rd.inv VI16
     have VI17 : Rd 3 encR okR (V H w []) w5 (.slice x1.a1 x1.n1 x1.c1) x1.d.answers := NRd.get (NRd.mv V_u_a S5) hx1 (j := 1) rfl
     obtain ⟨ln17, le17, mx17, ni17⟩ := Rd.inv VI17
     have VI18 : Rd 1 encS okS (V H w []) w5 (.slice x1.a2 x1.n2 x1.c2) x1.d.touch.reads := NRd.get (NRd.mv V_u_a S5) hx1 (j := 2) rfl
     obtain ⟨ln18, le18, mx18, ni18⟩ := Rd.inv VI18
     have VI19 : Rd 1 encS okS (V H w []) w5 (.slice x1.a3 x1.n3 x1.c3) x1.d.touch.writes := NRd.get (NRd.mv V_u_a S5) hx1 (j := 3) rfl
     obtain ⟨ln19, le19, mx19, ni19⟩ := Rd.inv VI19
     have VI20 : Rd 1 encI okI (V H w []) w5 (.slice x1.a4 x1.n4 x1.c4) x1.d.marks := NRd.get (NRd.mv V_u_a S5) hx1 (j := 4) rfl
     obtain ⟨ln20, le20, mx20, ni20⟩ := Rd.inv VI20
     refine l_op (f_val F13 rfl rfl (r_indexAddr (i := j) ET_39 rfl ((F13.ev 12 rfl).trans (by rw [ad14])) (F13.ev 13 rfl) (by omega) (by first | assumption | omega)) rfl fun _ F21 => ?_)
     refine l_op (f_val F21 rfl rfl (r_field FI_71_0 rfl (F21.ev 14 rfl) rfl) rfl fun _ F22 => ?_)
     refine l_op (f_val (v := .int .i64 x1.d.id) F22 rfl rfl (r_load (cs := [.int .i64 x1.d.id]) TI_3 rfl (F22.ev 15 rfl) rfl (fun _ => rfl) (elem_sub (f := 0) cl14 [.int .i64 x1.d.id] rfl)) rfl fun _ F23 => ?_)
     refine l_op (f_mv F23 rfl rfl rfl rfl rfl fun _ F24 => ?_)
     refine l_op (f_val F24 rfl rfl (r_cmp (b := decide (x1.d.id ≠ ((kk : Nat) : Int))) (.inr (.inl rfl)) rfl (F24.ev 16 rfl) (F24.ev 17 rfl) (dec_of (by omega))) rfl fun _ F25 => ?_)
     rw [show (decide (x1.d.id ≠ ((kk : Nat) : Int))) = false from decide_eq_false (fun h => h (by rw [(mkL_at (dM_at p0 hx1) hyy), hj_1]; rfl))] at F25
     have F26 : Fr 105 [(18, .bool false), (5, .int .i64 ((j : Nat) : Int)), (0, .slice a_a a_n a_c), (1, .int .i64 ((kk : Nat) : Int))] _ := F25.cut rfl
     clear F10 F12 F13 F21 F22 F23 F24 F25
     refine s_end (x_normal (wp_cond_false (F26.ev 18 rfl) (wp_skip (x_normal (wp_seq (wp_region_lit (l_op (f_mv F26 rfl rfl rfl rfl rfl fun _ F27 => ?_))))))))
     refine l_op (f_val F27 rfl rfl (r_add (z := ((kk + 1 : Nat) : Int)) rfl (F27.ev 19 rfl) rfl (by first | rfl | omega) ⟨by first | omega | (unfold i64ok at *; omega), by first | omega | (unfold i64ok at *; omega)⟩) rfl fun _ F28 => ?_)
     refine l_op (f_as F28 rfl rfl rfl rfl rfl fun _ F29 => ?_)
     have F30 : Fr 105 [(1, .int .i64 ((kk + 1 : Nat) : Int)), (5, .int .i64 ((j : Nat) : Int)), (0, .slice a_a a_n a_c)] _ := F29.cut rfl
     clear F26 F27 F28 F29
     refine s_end (x_normal (wp_seq (wp_seq (wp_region_lit (l_op (f_mv F30 rfl rfl rfl rfl rfl fun _ F31 => ?_))))))
     refine l_op (f_mv F31 rfl rfl rfl rfl rfl fun _ F32 => ?_)
     obtain ⟨B33, O33, y33, ad33, hy33, oky33, ln33, cl33⟩ := Rd.at (Rd.mv (Nat.succ_pos _) V_v_a S5) j (by first | assumption | omega)
     clear ln33
     obtain rfl := Option.some.inj (hx1.symm.trans hy33)
     clear hy33 oky33
     refine l_op (f_val F32 rfl rfl (r_indexAddr (i := j) ET_39 rfl ((F32.ev 21 rfl).trans (by rw [ad33])) (F32.ev 22 rfl) (by omega) (by first | assumption | omega)) rfl fun _ F35 => ?_)
     refine l_op (f_val F35 rfl rfl (r_field FI_71_1 rfl (F35.ev 23 rfl) rfl) rfl fun _ F36 => ?_)
     refine l_op (f_val (v := .int .i64 x1.d.age) F36 rfl rfl (r_load (cs := [.int .i64 x1.d.age]) TI_3 rfl (F36.ev 24 rfl) rfl (fun _ => rfl) (elem_sub (f := 1) cl33 [.int .i64 x1.d.age] rfl)) rfl fun _ F37 => ?_)
     refine l_op (f_mv F37 rfl rfl rfl rfl rfl fun _ F38 => ?_)
     refine l_op (f_val F38 rfl rfl (r_cmp (b := decide (x1.d.age ≠ ((kk + 1 : Nat) : Int))) (.inr (.inl rfl)) rfl (F38.ev 25 rfl) (F38.ev 26 rfl) (dec_of (by omega))) rfl fun _ F39 => ?_)
     rw [show (decide (x1.d.age ≠ ((kk + 1 : Nat) : Int))) = false from decide_eq_false (fun h => h (by rw [(mkL_at (dM_at p0 hx1) hyy), hj_1]; rfl))] at F39
     have F40 : Fr 105 [(27, .bool false), (1, .int .i64 ((kk + 1 : Nat) : Int)), (5, .int .i64 ((j : Nat) : Int)), (0, .slice a_a a_n a_c)] _ := F39.cut rfl
     clear F30 F31 F32 F35 F36 F37 F38 F39
     refine s_end (x_normal (wp_cond_false (F40.ev 27 rfl) (wp_skip (x_normal (wp_seq (wp_region_lit (l_op (f_mv F40 rfl rfl rfl rfl rfl fun _ F41 => ?_))))))))
     refine l_op (f_val F41 rfl rfl (r_add (z := (((kk + 1) + 1 : Nat) : Int)) rfl (F41.ev 28 rfl) rfl (by first | rfl | omega) ⟨by first | omega | (unfold i64ok at *; omega), by first | omega | (unfold i64ok at *; omega)⟩) rfl fun _ F42 => ?_)
     refine l_op (f_as F42 rfl rfl rfl rfl rfl fun _ F43 => ?_)
     have F44 : Fr 105 [(1, .int .i64 (((kk + 1) + 1 : Nat) : Int)), (5, .int .i64 ((j : Nat) : Int)), (0, .slice a_a a_n a_c)] _ := F43.cut rfl
     clear F40 F41 F42 F43
     refine s_end (x_normal (wp_seq (wp_seq (wp_region_lit (l_op (f_mv F44 rfl rfl rfl rfl rfl fun _ F45 => ?_))))))
     refine l_op (f_mv F45 rfl rfl rfl rfl rfl fun _ F46 => ?_)
     obtain ⟨B47, O47, y47, ad47, hy47, oky47, ln47, cl47⟩ := Rd.at (Rd.mv (Nat.succ_pos _) V_v_a S5) j (by first | assumption | omega)
     clear ln47
     obtain rfl := Option.some.inj (hx1.symm.trans hy47)
     clear hy47 oky47
     refine l_op (f_val F46 rfl rfl (r_indexAddr (i := j) ET_39 rfl ((F46.ev 30 rfl).trans (by rw [ad47])) (F46.ev 31 rfl) (by omega) (by first | assumption | omega)) rfl fun _ F49 => ?_)
     refine l_op (f_val F49 rfl rfl (r_field FI_71_2 rfl (F49.ev 32 rfl) rfl) rfl fun _ F50 => ?_)
     refine l_op (f_val (v := .int .i64 x1.d.proc) F50 rfl rfl (r_load (cs := [.int .i64 x1.d.proc]) TI_3 rfl (F50.ev 33 rfl) rfl (fun _ => rfl) (elem_sub (f := 2) cl47 [.int .i64 x1.d.proc] rfl)) rfl fun _ F51 => ?_)
     refine l_op (f_mv F51 rfl rfl rfl rfl rfl fun _ F52 => ?_)
     refine l_op (f_val F52 rfl rfl (r_cmp (b := decide (x1.d.proc ≠ (((kk + 1) + 1 : Nat) : Int))) (.inr (.inl rfl)) rfl (F52.ev 34 rfl) (F52.ev 35 rfl) (dec_of (by omega))) rfl fun _ F53 => ?_)
     rw [show (decide (x1.d.proc ≠ (((kk + 1) + 1 : Nat) : Int))) = false from decide_eq_false (fun h => h (by rw [(mkL_at (dM_at p0 hx1) hyy), hj_1]; rfl))] at F53
     have F54 : Fr 105 [(36, .bool false), (1, .int .i64 (((kk + 1) + 1 : Nat) : Int)), (5, .int .i64 ((j : Nat) : Int)), (0, .slice a_a a_n a_c)] _ := F53.cut rfl
     clear F44 F45 F46 F49 F50 F51 F52 F53
     refine s_end (x_normal (wp_cond_false (F54.ev 36 rfl) (wp_skip (x_normal (wp_seq (wp_region_lit (l_op (f_mv F54 rfl rfl rfl rfl rfl fun _ F55 => ?_))))))))
     refine l_op (f_val F55 rfl rfl (r_add (z := ((((kk + 1) + 1) + 1 : Nat) : Int)) rfl (F55.ev 37 rfl) rfl (by first | rfl | omega) ⟨by first | omega | (unfold i64ok at *; omega), by first | omega | (unfold i64ok at *; omega)⟩) rfl fun _ F56 => ?_)
     refine l_op (f_as F56 rfl rfl rfl rfl rfl fun _ F57 => ?_)
     have F58 : Fr 105 [(1, .int .i64 ((((kk + 1) + 1) + 1 : Nat) : Int)), (5, .int .i64 ((j : Nat) : Int)), (0, .slice a_a a_n a_c)] _ := F57.cut rfl
     clear F54 F55 F56 F57
     refine s_end (x_normal (wp_seq (wp_seq (wp_region_lit (l_op (f_mv F58 rfl rfl rfl rfl rfl fun _ F59 => ?_))))))
     refine l_op (f_mv F59 rfl rfl rfl rfl rfl fun _ F60 => ?_)
     obtain ⟨B61, O61, y61, ad61, hy61, oky61, ln61, cl61⟩ := Rd.at (Rd.mv (Nat.succ_pos _) V_v_a S5) j (by first | assumption | omega)
     clear ln61
     obtain rfl := Option.some.inj (hx1.symm.trans hy61)
     clear hy61 oky61
     refine l_op (f_val F60 rfl rfl (r_indexAddr (i := j) ET_39 rfl ((F60.ev 39 rfl).trans (by rw [ad61])) (F60.ev 40 rfl) (by omega) (by first | assumption | omega)) rfl fun _ F63 => ?_)
     refine l_op (f_val F63 rfl rfl (r_field FI_71_3 rfl (F63.ev 41 rfl) rfl) rfl fun _ F64 => ?_)
     refine l_op (f_val (v := .int .i64 x1.d.began) F64 rfl rfl (r_load (cs := [.int .i64 x1.d.began]) TI_3 rfl (F64.ev 42 rfl) rfl (fun _ => rfl) (elem_sub (f := 3) cl61 [.int .i64 x1.d.began] rfl)) rfl fun _ F65 => ?_)
     refine l_op (f_mv F65 rfl rfl rfl rfl rfl fun _ F66 => ?_)
     refine l_op (f_val F66 rfl rfl (r_cmp (b := decide (x1.d.began ≠ ((((kk + 1) + 1) + 1 : Nat) : Int))) (.inr (.inl rfl)) rfl (F66.ev 43 rfl) (F66.ev 44 rfl) (dec_of (by omega))) rfl fun _ F67 => ?_)
     rw [show (decide (x1.d.began ≠ ((((kk + 1) + 1) + 1 : Nat) : Int))) = false from decide_eq_false (fun h => h (by rw [(mkL_at (dM_at p0 hx1) hyy), hj_1]; rfl))] at F67
     have F68 : Fr 105 [(45, .bool false), (1, .int .i64 ((((kk + 1) + 1) + 1 : Nat) : Int)), (5, .int .i64 ((j : Nat) : Int)), (0, .slice a_a a_n a_c)] _ := F67.cut rfl
     clear F58 F59 F60 F63 F64 F65 F66 F67
     refine s_end (x_normal (wp_cond_false (F68.ev 45 rfl) (wp_skip (x_normal (wp_seq (wp_region_lit (l_op (f_mv F68 rfl rfl rfl rfl rfl fun _ F69 => ?_))))))))
     refine l_op (f_val F69 rfl rfl (r_add (z := (((((kk + 1) + 1) + 1) + 1 : Nat) : Int)) rfl (F69.ev 46 rfl) rfl (by first | rfl | omega) ⟨by first | omega | (unfold i64ok at *; omega), by first | omega | (unfold i64ok at *; omega)⟩) rfl fun _ F70 => ?_)
     refine l_op (f_as F70 rfl rfl rfl rfl rfl fun _ F71 => ?_)
     have F72 : Fr 105 [(1, .int .i64 (((((kk + 1) + 1) + 1) + 1 : Nat) : Int)), (5, .int .i64 ((j : Nat) : Int)), (0, .slice a_a a_n a_c)] _ := F71.cut rfl
     clear F68 F69 F70 F71
     refine s_end (x_normal (wp_seq (wp_region_lit (l_op (f_mv F72 rfl rfl rfl rfl rfl fun _ F73 => ?_)))))
     refine l_op (f_mv F73 rfl rfl rfl rfl rfl fun _ F74 => ?_)
     obtain ⟨B75, O75, y75, ad75, hy75, oky75, ln75, cl75⟩ := Rd.at (Rd.mv (Nat.succ_pos _) V_v_a S5) j (by first | assumption | omega)
     clear ln75
     obtain rfl := Option.some.inj (hx1.symm.trans hy75)
     clear hy75 oky75
     refine l_op (f_val F74 rfl rfl (r_indexAddr (i := j) ET_39 rfl ((F74.ev 48 rfl).trans (by rw [ad75])) (F74.ev 49 rfl) (by omega) (by first | assumption | omega)) rfl fun _ F77 => ?_)
     refine l_op (f_val F77 rfl rfl (r_field FI_71_4 rfl (F77.ev 50 rfl) rfl) rfl fun _ F78 => ?_)
     refine l_op (f_val (v := .slice x1.a0 x1.n0 x1.c0) F78 rfl rfl (r_load (cs := [.slice x1.a0 x1.n0 x1.c0]) TI_66 rfl (F78.ev 51 rfl) rfl (fun _ => rfl) (elem_sub (f := 4) cl75 [.slice x1.a0 x1.n0 x1.c0] rfl)) rfl fun _ F79 => ?_)
     refine l_op (f_mv F79 rfl rfl rfl rfl rfl fun _ F80 => ?_)
     refine l_op (f_call F80 CF_82 rfl rfl rfl rfl (lc (F80.ev 52 rfl) (lc (F80.ev 53 rfl) rfl)) (laws_heldCallS_c (n := yy.calls.length) (a := x1.d.calls) (k := (((kk + 1) + 1) + 1) + 1) VI16 ⟨by omega, by first | omega | (unfold i64ok at *; omega)⟩ (by rw [(mkL_at (dM_at p0 hx1) hyy), hj_1]; rfl) (by first | assumption | omega | (simp <;> omega))) ?_)
     rintro _ w81 ⟨rfl, m81⟩
     refine ⟨_, rfl, fun _ F82 => ?_⟩
     have S81 := At.frame0 S5.at' m81
     clear m81
     refine l_op (f_as F82 rfl rfl rfl rfl rfl fun _ F83 => ?_)
     have F84 : Fr 105 [(1, .int .i64 ((((((kk + 1) + 1) + 1) + 1) + 6 * yy.calls.length : Nat) : Int)), (5, .int .i64 ((j : Nat) : Int)), (0, .slice a_a a_n a_c)] _ := F83.cut rfl
     clear F72 F73 F74 F77 F78 F79 F80 F82 F83
     have T85 : Mv _ _ [] _ := S81
     refine s_end (x_normal (wp_seq (wp_seq (wp_region_lit (l_op (f_mv F84 rfl rfl rfl rfl rfl fun _ F86 => ?_))))))
     refine l_op (f_val F86 rfl rfl (r_cmp (b := false) (.inr (.inr (.inl rfl))) rfl (F86.ev 55 rfl) rfl (cmp_lt0 _ _ (by omega))) rfl fun _ F87 => ?_)
     have F88 : Fr 105 [(56, .bool false), (1, .int .i64 ((((((kk + 1) + 1) + 1) + 1) + 6 * yy.calls.length : Nat) : Int)), (5, .int .i64 ((j : Nat) : Int)), (0, .slice a_a a_n a_c)] _ := F87.cut rfl
     clear F84 F86 F87
     refine s_end (x_normal (wp_cond_false (F88.ev 56 rfl) (wp_skip (x_normal (wp_seq (wp_region_lit (l_op (f_mv F88 rfl rfl rfl rfl rfl fun _ F89 => ?_))))))))
     refine l_op (f_mv F89 rfl rfl rfl rfl rfl fun _ F90 => ?_)
     obtain ⟨B91, O91, y91, ad91, hy91, oky91, ln91, cl91⟩ := Rd.at (Rd.mv (Nat.succ_pos _) V_v_a (S5.trans T85)) j (by first | assumption | omega)
     clear ln91
     obtain rfl := Option.some.inj (hx1.symm.trans hy91)
     clear hy91 oky91
     refine l_op (f_val F90 rfl rfl (r_indexAddr (i := j) ET_39 rfl ((F90.ev 57 rfl).trans (by rw [ad91])) (F90.ev 58 rfl) (by omega) (by first | assumption | omega)) rfl fun _ F93 => ?_)
     refine l_op (f_val F93 rfl rfl (r_field FI_71_5 rfl (F93.ev 59 rfl) rfl) rfl fun _ F94 => ?_)
     refine l_op (f_val (v := .slice x1.a1 x1.n1 x1.c1) F94 rfl rfl (r_load (cs := [.slice x1.a1 x1.n1 x1.c1]) TI_67 rfl (F94.ev 60 rfl) rfl (fun _ => rfl) (elem_sub (f := 5) cl91 [.slice x1.a1 x1.n1 x1.c1] rfl)) rfl fun _ F95 => ?_)
     refine l_op (f_mv F95 rfl rfl rfl rfl rfl fun _ F96 => ?_)
     refine l_op (f_call F96 CF_83 rfl rfl rfl rfl (lc (F96.ev 61 rfl) (lc (F96.ev 62 rfl) rfl)) (laws_heldAnswerS_c (n := yy.answers.length) (a := x1.d.answers) (k := ((((kk + 1) + 1) + 1) + 1) + 6 * yy.calls.length) (Rd.mv (Nat.succ_pos _) VI17 T85) ⟨by omega, by first | omega | (unfold i64ok at *; omega)⟩ (by rw [(mkL_at (dM_at p0 hx1) hyy), hj_1]; rfl) (by first | assumption | omega | (simp <;> omega))) ?_)
     rintro _ w97 ⟨rfl, m97⟩
     refine ⟨_, rfl, fun _ F98 => ?_⟩
     have S97 := At.frame0 T85.at' m97
     clear m97
     refine l_op (f_as F98 rfl rfl rfl rfl rfl fun _ F99 => ?_)
     have F100 : Fr 105 [(1, .int .i64 (((((((kk + 1) + 1) + 1) + 1) + 6 * yy.calls.length) + 3 * yy.answers.length : Nat) : Int)), (5, .int .i64 ((j : Nat) : Int)), (0, .slice a_a a_n a_c)] _ := F99.cut rfl
     clear F88 F89 F90 F93 F94 F95 F96 F98 F99
     have T101 : Mv _ _ [] _ := S97
     refine s_end (x_normal (wp_seq (wp_seq (wp_region_lit (l_op (f_mv F100 rfl rfl rfl rfl rfl fun _ F102 => ?_))))))
     refine l_op (f_val F102 rfl rfl (r_cmp (b := false) (.inr (.inr (.inl rfl))) rfl (F102.ev 64 rfl) rfl (cmp_lt0 _ _ (by omega))) rfl fun _ F103 => ?_)
     have F104 : Fr 105 [(65, .bool false), (1, .int .i64 (((((((kk + 1) + 1) + 1) + 1) + 6 * yy.calls.length) + 3 * yy.answers.length : Nat) : Int)), (5, .int .i64 ((j : Nat) : Int)), (0, .slice a_a a_n a_c)] _ := F103.cut rfl
     clear F100 F102 F103
     refine s_end (x_normal (wp_cond_false (F104.ev 65 rfl) (wp_skip (x_normal (wp_seq (wp_region_lit (l_op (f_mv F104 rfl rfl rfl rfl rfl fun _ F105 => ?_))))))))
     refine l_op (f_mv F105 rfl rfl rfl rfl rfl fun _ F106 => ?_)
     obtain ⟨B107, O107, y107, ad107, hy107, oky107, ln107, cl107⟩ := Rd.at (Rd.mv (Nat.succ_pos _) V_v_a (S5.trans (T85.trans T101))) j (by first | assumption | omega)
     clear ln107
     obtain rfl := Option.some.inj (hx1.symm.trans hy107)
     clear hy107 oky107
     refine l_op (f_val F106 rfl rfl (r_indexAddr (i := j) ET_39 rfl ((F106.ev 66 rfl).trans (by rw [ad107])) (F106.ev 67 rfl) (by omega) (by first | assumption | omega)) rfl fun _ F109 => ?_)
     refine l_op (f_val F109 rfl rfl (r_field FI_71_6 rfl (F109.ev 68 rfl) rfl) rfl fun _ F110 => ?_)
     refine l_op (f_val F110 rfl rfl (r_field FI_69_0 rfl (F110.ev 69 rfl) rfl) rfl fun _ F111 => ?_)
     refine l_op (f_val (v := .slice x1.a2 x1.n2 x1.c2) F111 rfl rfl (r_load (cs := [.slice x1.a2 x1.n2 x1.c2]) TI_62 rfl (F111.ev 70 rfl) rfl (fun _ => rfl) (elem_sub (f := 6) cl107 [.slice x1.a2 x1.n2 x1.c2] rfl)) rfl fun _ F112 => ?_)
     refine l_op (f_mv F112 rfl rfl rfl rfl rfl fun _ F113 => ?_)
     refine l_op (f_call F113 CF_84 rfl rfl rfl rfl (lc (F113.ev 71 rfl) (lc (F113.ev 72 rfl) rfl)) (laws_heldStringS_c (n := yy.touch.reads.length) (a := x1.d.touch.reads) (k := (((((kk + 1) + 1) + 1) + 1) + 6 * yy.calls.length) + 3 * yy.answers.length) (Rd.mv (Nat.succ_pos _) VI18 (T85.trans T101)) ⟨by omega, by first | omega | (unfold i64ok at *; omega)⟩ (by rw [(mkL_at (dM_at p0 hx1) hyy), hj_1]; rfl) (by first | assumption | omega | (simp <;> omega))) ?_)
     rintro _ w114 ⟨rfl, m114⟩
     refine ⟨_, rfl, fun _ F115 => ?_⟩
     have S114 := At.frame0 T101.at' m114
     clear m114
     refine l_op (f_as F115 rfl rfl rfl rfl rfl fun _ F116 => ?_)
     have F117 : Fr 105 [(1, .int .i64 ((((((((kk + 1) + 1) + 1) + 1) + 6 * yy.calls.length) + 3 * yy.answers.length) + yy.touch.reads.length : Nat) : Int)), (5, .int .i64 ((j : Nat) : Int)), (0, .slice a_a a_n a_c)] _ := F116.cut rfl
     clear F104 F105 F106 F109 F110 F111 F112 F113 F115 F116
     have T118 : Mv _ _ [] _ := S114
     refine s_end (x_normal (wp_seq (wp_seq (wp_region_lit (l_op (f_mv F117 rfl rfl rfl rfl rfl fun _ F119 => ?_))))))
     refine l_op (f_val F119 rfl rfl (r_cmp (b := false) (.inr (.inr (.inl rfl))) rfl (F119.ev 74 rfl) rfl (cmp_lt0 _ _ (by omega))) rfl fun _ F120 => ?_)
     have F121 : Fr 105 [(75, .bool false), (1, .int .i64 ((((((((kk + 1) + 1) + 1) + 1) + 6 * yy.calls.length) + 3 * yy.answers.length) + yy.touch.reads.length : Nat) : Int)), (5, .int .i64 ((j : Nat) : Int)), (0, .slice a_a a_n a_c)] _ := F120.cut rfl
     clear F117 F119 F120
     refine s_end (x_normal (wp_cond_false (F121.ev 75 rfl) (wp_skip (x_normal (wp_seq (wp_region_lit (l_op (f_mv F121 rfl rfl rfl rfl rfl fun _ F122 => ?_))))))))
     refine l_op (f_mv F122 rfl rfl rfl rfl rfl fun _ F123 => ?_)
     obtain ⟨B124, O124, y124, ad124, hy124, oky124, ln124, cl124⟩ := Rd.at (Rd.mv (Nat.succ_pos _) V_v_a (S5.trans (T85.trans (T101.trans T118)))) j (by first | assumption | omega)
     clear ln124
     obtain rfl := Option.some.inj (hx1.symm.trans hy124)
     clear hy124 oky124
     refine l_op (f_val F123 rfl rfl (r_indexAddr (i := j) ET_39 rfl ((F123.ev 76 rfl).trans (by rw [ad124])) (F123.ev 77 rfl) (by omega) (by first | assumption | omega)) rfl fun _ F126 => ?_)
     refine l_op (f_val F126 rfl rfl (r_field FI_71_6 rfl (F126.ev 78 rfl) rfl) rfl fun _ F127 => ?_)
     refine l_op (f_val F127 rfl rfl (r_field FI_69_1 rfl (F127.ev 79 rfl) rfl) rfl fun _ F128 => ?_)
     refine l_op (f_val (v := .slice x1.a3 x1.n3 x1.c3) F128 rfl rfl (r_load (cs := [.slice x1.a3 x1.n3 x1.c3]) TI_62 rfl (F128.ev 80 rfl) rfl (fun _ => rfl) (elem_sub (f := 7) cl124 [.slice x1.a3 x1.n3 x1.c3] rfl)) rfl fun _ F129 => ?_)
     refine l_op (f_mv F129 rfl rfl rfl rfl rfl fun _ F130 => ?_)
     refine l_op (f_call F130 CF_84 rfl rfl rfl rfl (lc (F130.ev 81 rfl) (lc (F130.ev 82 rfl) rfl)) (laws_heldStringS_c (n := yy.touch.writes.length) (a := x1.d.touch.writes) (k := ((((((kk + 1) + 1) + 1) + 1) + 6 * yy.calls.length) + 3 * yy.answers.length) + yy.touch.reads.length) (Rd.mv (Nat.succ_pos _) VI19 (T85.trans (T101.trans T118))) ⟨by omega, by first | omega | (unfold i64ok at *; omega)⟩ (by rw [(mkL_at (dM_at p0 hx1) hyy), hj_1]; rfl) (by first | assumption | omega | (simp <;> omega))) ?_)
     rintro _ w131 ⟨rfl, m131⟩
     refine ⟨_, rfl, fun _ F132 => ?_⟩
     have S131 := At.frame0 T118.at' m131
     clear m131
     refine l_op (f_as F132 rfl rfl rfl rfl rfl fun _ F133 => ?_)
     have F134 : Fr 105 [(1, .int .i64 (((((((((kk + 1) + 1) + 1) + 1) + 6 * yy.calls.length) + 3 * yy.answers.length) + yy.touch.reads.length) + yy.touch.writes.length : Nat) : Int)), (5, .int .i64 ((j : Nat) : Int)), (0, .slice a_a a_n a_c)] _ := F133.cut rfl
     clear F121 F122 F123 F126 F127 F128 F129 F130 F132 F133
     have T135 : Mv _ _ [] _ := S131
     refine s_end (x_normal (wp_seq (wp_seq (wp_region_lit (l_op (f_mv F134 rfl rfl rfl rfl rfl fun _ F136 => ?_))))))
     refine l_op (f_val F136 rfl rfl (r_cmp (b := false) (.inr (.inr (.inl rfl))) rfl (F136.ev 84 rfl) rfl (cmp_lt0 _ _ (by omega))) rfl fun _ F137 => ?_)
     have F138 : Fr 105 [(85, .bool false), (1, .int .i64 (((((((((kk + 1) + 1) + 1) + 1) + 6 * yy.calls.length) + 3 * yy.answers.length) + yy.touch.reads.length) + yy.touch.writes.length : Nat) : Int)), (5, .int .i64 ((j : Nat) : Int)), (0, .slice a_a a_n a_c)] _ := F137.cut rfl
     clear F134 F136 F137
     refine s_end (x_normal (wp_cond_false (F138.ev 85 rfl) (wp_skip (x_normal (wp_seq (wp_region_lit (l_op (f_mv F138 rfl rfl rfl rfl rfl fun _ F139 => ?_))))))))
     refine l_op (f_mv F139 rfl rfl rfl rfl rfl fun _ F140 => ?_)
     obtain ⟨B141, O141, y141, ad141, hy141, oky141, ln141, cl141⟩ := Rd.at (Rd.mv (Nat.succ_pos _) V_v_a (S5.trans (T85.trans (T101.trans (T118.trans T135))))) j (by first | assumption | omega)
     clear ln141
     obtain rfl := Option.some.inj (hx1.symm.trans hy141)
     clear hy141 oky141
     refine l_op (f_val F140 rfl rfl (r_indexAddr (i := j) ET_39 rfl ((F140.ev 86 rfl).trans (by rw [ad141])) (F140.ev 87 rfl) (by omega) (by first | assumption | omega)) rfl fun _ F143 => ?_)
     refine l_op (f_val F143 rfl rfl (r_field FI_71_7 rfl (F143.ev 88 rfl) rfl) rfl fun _ F144 => ?_)
     refine l_op (f_val (v := .slice x1.a4 x1.n4 x1.c4) F144 rfl rfl (r_load (cs := [.slice x1.a4 x1.n4 x1.c4]) TI_53 rfl (F144.ev 89 rfl) rfl (fun _ => rfl) (elem_sub (f := 8) cl141 [.slice x1.a4 x1.n4 x1.c4] rfl)) rfl fun _ F145 => ?_)
     refine l_op (f_mv F145 rfl rfl rfl rfl rfl fun _ F146 => ?_)
     refine l_op (f_call F146 CF_85 rfl rfl rfl rfl (lc (F146.ev 90 rfl) (lc (F146.ev 91 rfl) rfl)) (laws_heldIntS_c (n := yy.marks.length) (a := x1.d.marks) (k := (((((((kk + 1) + 1) + 1) + 1) + 6 * yy.calls.length) + 3 * yy.answers.length) + yy.touch.reads.length) + yy.touch.writes.length) (Rd.mv (Nat.succ_pos _) VI20 (T85.trans (T101.trans (T118.trans T135)))) ⟨by omega, by first | omega | (unfold i64ok at *; omega)⟩ (by rw [(mkL_at (dM_at p0 hx1) hyy), hj_1]; rfl) (by first | assumption | omega | (simp <;> omega))) ?_)
     rintro _ w147 ⟨rfl, m147⟩
     refine ⟨_, rfl, fun _ F148 => ?_⟩
     have S147 := At.frame0 T135.at' m147
     clear m147
     refine l_op (f_as F148 rfl rfl rfl rfl rfl fun _ F149 => ?_)
     have F150 : Fr 105 [(1, .int .i64 ((((((((((kk + 1) + 1) + 1) + 1) + 6 * yy.calls.length) + 3 * yy.answers.length) + yy.touch.reads.length) + yy.touch.writes.length) + yy.marks.length : Nat) : Int)), (5, .int .i64 ((j : Nat) : Int)), (0, .slice a_a a_n a_c)] _ := F149.cut rfl
     clear F138 F139 F140 F143 F144 F145 F146 F148 F149
     have T151 : Mv _ _ [] _ := S147
     refine s_end (x_normal (wp_seq (wp_seq (wp_region_lit (l_op (f_mv F150 rfl rfl rfl rfl rfl fun _ F152 => ?_))))))
     refine l_op (f_val F152 rfl rfl (r_cmp (b := false) (.inr (.inr (.inl rfl))) rfl (F152.ev 93 rfl) rfl (cmp_lt0 _ _ (by omega))) rfl fun _ F153 => ?_)
     have F154 : Fr 105 [(94, .bool false), (1, .int .i64 ((((((((((kk + 1) + 1) + 1) + 1) + 6 * yy.calls.length) + 3 * yy.answers.length) + yy.touch.reads.length) + yy.touch.writes.length) + yy.marks.length : Nat) : Int)), (5, .int .i64 ((j : Nat) : Int)), (0, .slice a_a a_n a_c)] _ := F153.cut rfl
     clear F150 F152 F153
     refine s_end (x_normal (wp_cond_false (F154.ev 94 rfl) (wp_skip (x_normal (wp_seq (wp_seq (wp_region_lit (l_op (f_mv F154 rfl rfl rfl rfl rfl fun _ F155 => ?_)))))))))
     refine l_op (f_mv F155 rfl rfl rfl rfl rfl fun _ F156 => ?_)
     obtain ⟨B157, O157, y157, ad157, hy157, oky157, ln157, cl157⟩ := Rd.at (Rd.mv (Nat.succ_pos _) V_v_a (S5.trans (T85.trans (T101.trans (T118.trans (T135.trans T151)))))) j (by first | assumption | omega)
     clear ln157
     obtain rfl := Option.some.inj (hx1.symm.trans hy157)
     clear hy157 oky157
     refine l_op (f_val F156 rfl rfl (r_indexAddr (i := j) ET_39 rfl ((F156.ev 95 rfl).trans (by rw [ad157])) (F156.ev 96 rfl) (by omega) (by first | assumption | omega)) rfl fun _ F159 => ?_)
     refine l_op (f_val F159 rfl rfl (r_field FI_71_8 rfl (F159.ev 97 rfl) rfl) rfl fun _ F160 => ?_)
     refine l_op (f_val (v := .int .i64 x1.d.state) F160 rfl rfl (r_load (cs := [.int .i64 x1.d.state]) TI_3 rfl (F160.ev 98 rfl) rfl (fun _ => rfl) (elem_sub (f := 9) cl157 [.int .i64 x1.d.state] rfl)) rfl fun _ F161 => ?_)
     refine l_op (f_mv F161 rfl rfl rfl rfl rfl fun _ F162 => ?_)
     refine l_op (f_val F162 rfl rfl (r_cmp (b := decide (x1.d.state ≠ ((((((((((kk + 1) + 1) + 1) + 1) + 6 * yy.calls.length) + 3 * yy.answers.length) + yy.touch.reads.length) + yy.touch.writes.length) + yy.marks.length : Nat) : Int))) (.inr (.inl rfl)) rfl (F162.ev 99 rfl) (F162.ev 100 rfl) (dec_of (by omega))) rfl fun _ F163 => ?_)
     rw [show (decide (x1.d.state ≠ ((((((((((kk + 1) + 1) + 1) + 1) + 6 * yy.calls.length) + 3 * yy.answers.length) + yy.touch.reads.length) + yy.touch.writes.length) + yy.marks.length : Nat) : Int))) = false from decide_eq_false (fun h => h (by rw [(mkL_at (dM_at p0 hx1) hyy), hj_1]; rfl))] at F163
     have F164 : Fr 105 [(101, .bool false), (1, .int .i64 ((((((((((kk + 1) + 1) + 1) + 1) + 6 * yy.calls.length) + 3 * yy.answers.length) + yy.touch.reads.length) + yy.touch.writes.length) + yy.marks.length : Nat) : Int)), (5, .int .i64 ((j : Nat) : Int)), (0, .slice a_a a_n a_c)] _ := F163.cut rfl
     clear F154 F155 F156 F159 F160 F161 F162 F163
     refine s_end (x_normal (wp_cond_false (F164.ev 101 rfl) (wp_skip (x_normal (wp_region_lit (l_op (f_mv F164 rfl rfl rfl rfl rfl fun _ F165 => ?_)))))))
     refine l_op (f_val F165 rfl rfl (r_add (z := (((((((((((kk + 1) + 1) + 1) + 1) + 6 * yy.calls.length) + 3 * yy.answers.length) + yy.touch.reads.length) + yy.touch.writes.length) + yy.marks.length) + 1 : Nat) : Int)) rfl (F165.ev 102 rfl) rfl (by first | rfl | omega) ⟨by first | omega | (unfold i64ok at *; omega), by first | omega | (unfold i64ok at *; omega)⟩) rfl fun _ F166 => ?_)
     refine l_op (f_as F166 rfl rfl rfl rfl rfl fun _ F167 => ?_)
     have F168 : Fr 105 [(1, .int .i64 (((((((((((kk + 1) + 1) + 1) + 1) + 6 * yy.calls.length) + 3 * yy.answers.length) + yy.touch.reads.length) + yy.touch.writes.length) + yy.marks.length) + 1 : Nat) : Int)), (5, .int .i64 ((j : Nat) : Int)), (0, .slice a_a a_n a_c)] _ := F167.cut rfl
     clear F164 F165 F166 F167
     refine s_end (x_block_normal (x_normal (wp_region_lit (l_op (f_mv F168 rfl rfl rfl rfl rfl fun _ F169 => ?_)))))
     refine l_op (f_val F169 rfl rfl (r_add (z := ((j + 1 : Nat) : Int)) rfl (F169.ev 10 rfl) rfl (by first | rfl | omega) ⟨by first | omega | (unfold i64ok at *; omega), by first | omega | (unfold i64ok at *; omega)⟩) rfl fun _ F170 => ?_)
     refine l_op (f_as F170 rfl rfl rfl rfl rfl fun _ F171 => ?_)
     have F172 : Fr 105 [(5, .int .i64 ((j + 1 : Nat) : Int)), (1, .int .i64 (((((((((((kk + 1) + 1) + 1) + 1) + 6 * yy.calls.length) + 3 * yy.answers.length) + yy.touch.reads.length) + yy.touch.writes.length) + yy.marks.length) + 1 : Nat) : Int)), (0, .slice a_a a_n a_c)] _ := F171.cut rfl
     clear F168 F169 F170 F171
     refine s_end ?_
     refine x_normal ⟨j + 1, by omega, (((((((((kk + 1) + 1) + 1) + 1) + 6 * yy.calls.length) + 3 * yy.answers.length) + yy.touch.reads.length) + yy.touch.writes.length) + yy.marks.length) + 1, F172.cut rfl, ((S5.trans (T85.trans (T101.trans (T118.trans (T135.trans T151))))).pick [] rfl), by omega, by have hst := (sumOf_upto (f := cntTx) hyy).1; rw [cntTx_eq] at hst; omega⟩
   · skip
     refine wp_exit (x_then_exit (x_then_exit (x_block_here (x_normal (wp_seq (wp_region_lit (l_op (f_mv F10 rfl rfl rfl rfl rfl fun _ F173 => ?_))))))))
     refine l_op (f_as F173 rfl rfl rfl rfl rfl fun _ F174 => ?_)
     have F175 : Fr 105 [(4, .int .i64 ((kk : Nat) : Int))] _ := F174.cut rfl
     clear F10 F173 F174
     refine s_end (x_normal (wp_ret ?_))
     refine x_done (v := .int .i64 ((kk : Nat) : Int)) F175 (results_1 Try.results39 (.tmp (F175.ev 4 rfl))) ?_
     exact ⟨(by rw [(show ((kk : Nat) : Int) = ((k + sumOf cntTx d : Nat) : Int) from by rw [List.take_of_length_le (by omega)] at hj_1; omega)]), (Mv.pick S5 [] rfl)⟩
end Go.Proofs.Ytgfilegkabbliaa
