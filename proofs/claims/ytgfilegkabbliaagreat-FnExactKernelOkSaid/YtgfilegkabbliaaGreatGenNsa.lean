/-
  Walks: lists of transactions, disks in the laws' hands.
-/
import Derived.Test.YtgfilegkabbliaaGreatDatNs
import Derived.Test.YtgfilegkabbliaaGreatGenXb
namespace Go.Proofs.YtgfilegkabbliaaGreat
open Go.ChangeShapes Go.WideShapes Go.ChangeAt Go.RowKit
set_option maxRecDepth 100000
set_option maxHeartbeats 1000000
theorem laws_szCellS_c {w : World} {H : Nat → Prop} {a : List CellD} {a_a : Option Addr} {a_n a_c : Nat} {left : Int} (v_a : RdA 2 encC okC H w (.slice a_a a_n a_c) a) (Q0 : i64ok left) (p0 : 0 ≤ left) (p1 : left ≤ 1048576) :
    Calls Tryz.prog 9 #[.slice a_a a_n a_c, .int .i64 left] w fun e w' => e = .returned (.int .i64 (subOr left (szCells a))) ∧ Mv [] w [] w' ∧ i64ok (subOr left (szCells a)) := by
  have uU : True := (fun _ => trivial) Q0
  clear uU
  refine (szCellS_c _ left w a v_a.1 p0 p1).mono ?_
  rintro e w' ⟨rfl, hb⟩
  exact ⟨rfl, Mv.of_bl hb, subOr_i64 p0 p1⟩
theorem laws_toCellS_c {w : World} {H : Nat → Prop} {a : List CellD} {a_a : Option Addr} {a_n a_c : Nat} (v_a : RdA 2 encC okC H w (.slice a_a a_n a_c) a) (p0 : a.length ≤ 1048576) :
    Calls Tryz.prog 19 #[.slice a_a a_n a_c] w fun e w' => ∃ (r0_a : Option Addr), ∃ (r0_n : Nat), ∃ (r0_c : Nat), e = .returned (.slice r0_a r0_n r0_c) ∧ Mv [] w [ow 90 2 encC okC (.slice r0_a r0_n r0_c) a] w' := by
  refine (toCellS_s _ w a v_a.1 p0).mono ?_
  rintro e w' ⟨x, n, c, rfl, h1, h2, h3⟩
  exact ⟨x, n, c, rfl, mv_of_fresh h1 h2 h3⟩
theorem laws_eqCellS_c {w : World} {H : Nat → Prop} {a : List CellD} {a_a : Option Addr} {a_n a_c : Nat} {b : List CellD} {b_a : Option Addr} {b_n b_c : Nat} (v_a : Rd 2 encC okC H w (.slice a_a a_n a_c) a) (v_b : Rd 2 encC okC H w (.slice b_a b_n b_c) b) (p0 : a = b) :
    Calls Tryz.prog 29 #[.slice a_a a_n a_c, .slice b_a b_n b_c] w fun e w' => e = .returned (.bool true) ∧ Mv [] w [] w' := by
  subst p0
  refine (eqCellS_c _ _ w a v_a.1 v_b.1).mono ?_
  rintro e w' ⟨rfl, hb⟩
  exact ⟨rfl, Mv.of_bl hb⟩
theorem laws_szTxS_c {w : World} {H : Nat → Prop} {a : List TxH} {a_a : Option Addr} {a_n a_c : Nat} {left : Int} (v_a : RdA 10 encTx okTx H w (.slice a_a a_n a_c) a) (u_a : NRa inTx H w a) (Q0 : i64ok left) (p0 : 0 ≤ left) (p1 : left ≤ 1048576) :
    Calls Tryz.prog 10 #[.slice a_a a_n a_c, .int .i64 left] w fun e w' => e = .returned (.int .i64 (subOr left (szTxsH a))) ∧ Mv [] w [] w' ∧ i64ok (subOr left (szTxsH a)) := by
 have uU : True := (fun _ => trivial) Q0
 clear uU
 have V_v_a : RdA 10 encTx okTx (V H w []) w (.slice a_a a_n a_c) a := RdA.start v_a (fun _ _ => fps_nil _)
 obtain ⟨ln_a, le_a, mx_a, ni_a⟩ := RdA.inv v_a
 have V_u_a : NRa inTx (V H w []) w a := NRa.start u_a (fun _ _ => fps_nil _)
 refine calls_enter 27 Tryz.func10 rfl Tryz.ntmps10 (Nat.le_of_ble_eq_true rfl) (fun _ F0i => ?_)
 have F0 : Fr 27 [(0, .slice a_a a_n a_c), (1, .int .i64 left)] _ := F0i
 clear F0i
 refine wp_seq (wp_region_lit (l_op (f_val F0 rfl rfl (r_assign rfl rfl) rfl fun _ F1 => ?_)))
 refine s_end (x_normal (wp_seq (wp_region_lit (l_op (f_mv F1 rfl rfl rfl rfl rfl fun _ F2 => ?_)))))
 refine l_op (f_mv F2 rfl rfl rfl rfl rfl fun _ F3 => ?_)
 refine l_op (f_val F3 rfl rfl (r_len Tryz.underlying23 rfl (F3.ev 7 rfl)) rfl fun _ F4 => ?_)
 refine l_op (f_val F4 rfl rfl (r_sub (z := (left - ((a_n : Nat) : Int))) rfl (F4.ev 6 rfl) (F4.ev 8 rfl) (by first | rfl | omega) ⟨by first | omega | (unfold i64ok at *; omega), by first | omega | (unfold i64ok at *; omega)⟩) rfl fun _ F5 => ?_)
 refine l_op (f_as F5 rfl rfl rfl rfl rfl fun _ F6 => ?_)
 refine s_end (x_normal (wp_seq (wp_seq (wp_region_lit (l_op (f_mv F6 rfl rfl rfl rfl rfl fun _ F7 => ?_))))))
 refine l_op (f_val F7 rfl rfl (r_cmp (b := decide ((left - ((a_n : Nat) : Int)) < 0)) (.inr (.inr (.inl rfl))) rfl (F7.ev 10 rfl) rfl (dec_of (by omega))) rfl fun _ F8 => ?_)
 refine s_end (x_normal (x_cond (p := (left - ((a_n : Nat) : Int)) < 0) (F8.ev 11 rfl) (fun h9 => ?_) (fun h9 => ?_)))
 · skip
   refine wp_seq (wp_region_lit (l_op (f_val F8 rfl rfl (r_assign rfl rfl) rfl fun _ F10 => ?_)))
   have F11 : Fr 27 [(4, .int .i64 (-1))] _ := F10.cut rfl
   clear F0 F1 F2 F3 F4 F5 F6 F7 F8 F10
   refine s_end (x_normal (wp_ret (x_then_ret ?_)))
   refine x_done (v := .int .i64 (-1)) F11 (results_1 Tryz.results10 (.tmp (F11.ev 4 rfl))) ?_
   exact ⟨(by rw [(show (-1) = (subOr left (szTxsH a)) from by unfold szTxsH; rw [← ln_a]; exact sz_neg (by assumption))]), (Mv.pick (Mv.refl (At.nil w)) [] rfl), subOr_i64 p0 p1⟩
 · skip
   refine wp_skip (x_normal (wp_seq (wp_seq (wp_region_lit (l_op (f_val F8 rfl rfl (r_assign rfl rfl) rfl fun _ F12 => ?_))))))
   have F13 : Fr 27 [(5, .int .i64 0), (1, .int .i64 (left - ((a_n : Nat) : Int))), (0, .slice a_a a_n a_c)] _ := F12.cut rfl
   clear F0 F1 F2 F3 F4 F5 F6 F7 F8 F12
   refine s_end (x_normal (wp_block ?_))
   refine x_loop (fun (k : Nat) aZ wZ => ∃ (lv : Int), Fr 27 [(5, .int .i64 ((k : Nat) : Int)), (1, .int .i64 lv), (0, .slice a_a a_n a_c)] aZ ∧ Mv [] w [] wZ ∧ (k ≤ a_n) ∧ (lv = left - ((a.length + sumOf szTxH (a.take k) : Nat) : Int)) ∧ (0 ≤ lv)) (fun (k : Nat) => a_n - k) (0) ?_ ?_
   · exact ⟨(left - ((a_n : Nat) : Int)), F13.cut rfl, (Mv.refl (At.nil w)), by omega, by have e : sumOf szTxH (a.take 0) = 0 := rfl; rw [e]; omega, by omega⟩
   · rintro k a14 w14 ⟨lv, F14, S14, hk_0, hk_1, hk_2⟩
     refine wp_seq (wp_seq (wp_region_lit (l_op (f_mv F14 rfl rfl rfl rfl rfl fun _ F15 => ?_))))
     refine l_op (f_mv F15 rfl rfl rfl rfl rfl fun _ F16 => ?_)
     refine l_op (f_val F16 rfl rfl (r_len Tryz.underlying23 rfl (F16.ev 13 rfl)) rfl fun _ F17 => ?_)
     refine l_op (f_val F17 rfl rfl (r_cmp (b := decide (k < a_n)) (.inr (.inr (.inl rfl))) rfl (F17.ev 12 rfl) (F17.ev 14 rfl) (dec_of (by omega))) rfl fun _ F18 => ?_)
     refine s_end (x_normal (x_cond (p := k < a_n) (F18.ev 15 rfl) (fun h19 => ?_) (fun h19 => ?_)))
     · skip
       refine wp_skip (x_normal (wp_seq (wp_block (wp_seq (wp_region_lit (l_op (f_mv F18 rfl rfl rfl rfl rfl fun _ F20 => ?_)))))))
       refine l_op (f_mv F20 rfl rfl rfl rfl rfl fun _ F21 => ?_)
       obtain ⟨B22, O22, x1, ad22, hx1, okx1, ln22, cl22⟩ := RdA.at (RdA.mv (Nat.succ_pos _) V_v_a S14) k (by first | assumption | omega)
       clear ln22
       have oj23 := okx1
       obtain ⟨oi23_0, oi23_1, oi23_2, oi23_3, oi23_4⟩ := oj23
       have VI24 : RdA 6 encK okK (V H w []) w14 (.slice x1.a0 x1.n0 x1.c0) x1.d.calls := NRa.get (NRa.mv V_u_a S14) hx1 (j := 0) rfl
       obtain ⟨ln24, le24, mx24, ni24⟩ := RdA.inv VI24
       have VI25 : RdA 3 encR okR (V H w []) w14 (.slice x1.a1 x1.n1 x1.c1) x1.d.answers := NRa.get (NRa.mv V_u_a S14) hx1 (j := 1) rfl
       obtain ⟨ln25, le25, mx25, ni25⟩ := RdA.inv VI25
       have VI26 : RdA 1 encS okS (V H w []) w14 (.slice x1.a2 x1.n2 x1.c2) x1.d.touch.reads := NRa.get (NRa.mv V_u_a S14) hx1 (j := 2) rfl
       obtain ⟨ln26, le26, mx26, ni26⟩ := RdA.inv VI26
       have VI27 : RdA 1 encS okS (V H w []) w14 (.slice x1.a3 x1.n3 x1.c3) x1.d.touch.writes := NRa.get (NRa.mv V_u_a S14) hx1 (j := 3) rfl
       obtain ⟨ln27, le27, mx27, ni27⟩ := RdA.inv VI27
       have VI28 : RdA 1 encI okI (V H w []) w14 (.slice x1.a4 x1.n4 x1.c4) x1.d.marks := NRa.get (NRa.mv V_u_a S14) hx1 (j := 4) rfl
       obtain ⟨ln28, le28, mx28, ni28⟩ := RdA.inv VI28
       refine l_op (f_val F21 rfl rfl (r_indexAddr (i := k) ET_23 rfl ((F21.ev 18 rfl).trans (by rw [ad22])) (F21.ev 19 rfl) (by omega) (by first | assumption | omega)) rfl fun _ F29 => ?_)
       refine l_op (f_val (v := .agg #[.int .i64 x1.d.id, .int .i64 x1.d.age, .int .i64 x1.d.proc, .int .i64 x1.d.began, .slice x1.a0 x1.n0 x1.c0, .slice x1.a1 x1.n1 x1.c1, .slice x1.a2 x1.n2 x1.c2, .slice x1.a3 x1.n3 x1.c3, .slice x1.a4 x1.n4 x1.c4, .int .i64 x1.d.state]) F29 rfl rfl (r_load (cs := [.int .i64 x1.d.id, .int .i64 x1.d.age, .int .i64 x1.d.proc, .int .i64 x1.d.began, .slice x1.a0 x1.n0 x1.c0, .slice x1.a1 x1.n1 x1.c1, .slice x1.a2 x1.n2 x1.c2, .slice x1.a3 x1.n3 x1.c3, .slice x1.a4 x1.n4 x1.c4, .int .i64 x1.d.state]) TI_82 rfl (F29.ev 20 rfl) rfl (fun h => nomatch h) (elem_sub (f := 0) cl22 [.int .i64 x1.d.id, .int .i64 x1.d.age, .int .i64 x1.d.proc, .int .i64 x1.d.began, .slice x1.a0 x1.n0 x1.c0, .slice x1.a1 x1.n1 x1.c1, .slice x1.a2 x1.n2 x1.c2, .slice x1.a3 x1.n3 x1.c3, .slice x1.a4 x1.n4 x1.c4, .int .i64 x1.d.state] rfl)) rfl fun _ F30 => ?_)
       refine l_op (f_mv F30 rfl rfl rfl rfl rfl fun _ F31 => ?_)
       refine l_op (f_call F31 CF_35 rfl rfl rfl rfl (lc (F31.ev 21 rfl) (lc (F31.ev 22 rfl) rfl)) (laws_szTx_c (a := x1.d) (left := lv) okx1.1 okx1.2.1 okx1.2.2.1 okx1.2.2.2.1 VI24 VI25 VI26 VI27 VI28 okx1.2.2.2.2 (by first | assumption | exact ⟨by omega, by omega⟩ | (unfold i64ok at *; omega)) (by first | assumption | omega | (simp <;> omega)) (by first | assumption | omega | (simp <;> omega))) ?_)
       rintro _ w32 ⟨rfl, m32, q32_0⟩
       refine ⟨_, rfl, fun _ F33 => ?_⟩
       have S32 := At.frame0 S14.at' m32
       clear m32
       refine l_op (f_as F33 rfl rfl rfl rfl rfl fun _ F34 => ?_)
       have F35 : Fr 27 [(1, .int .i64 (subOr lv (szTxD x1.d))), (5, .int .i64 ((k : Nat) : Int)), (0, .slice a_a a_n a_c)] _ := F34.cut rfl
       clear F14 F15 F16 F17 F18 F20 F21 F29 F30 F31 F33 F34
       have T36 : Mv _ _ [] _ := S32
       refine s_end (x_normal (wp_seq (wp_region_lit (l_op (f_mv F35 rfl rfl rfl rfl rfl fun _ F37 => ?_)))))
       refine l_op (f_val F37 rfl rfl (r_cmp (b := decide ((subOr lv (szTxD x1.d)) < 0)) (.inr (.inr (.inl rfl))) rfl (F37.ev 24 rfl) rfl (dec_of (by omega))) rfl fun _ F38 => ?_)
       refine s_end (x_normal (x_cond (p := (subOr lv (szTxD x1.d)) < 0) (F38.ev 25 rfl) (fun h39 => ?_) (fun h39 => ?_)))
       · skip
         refine wp_seq (wp_region_lit (l_op (f_val F38 rfl rfl (r_assign rfl rfl) rfl fun _ F40 => ?_)))
         refine s_end (x_normal (wp_ret (x_block_ret (x_then_ret (x_then_ret (x_block_ret (x_then_ret ?_)))))))
         refine x_done (v := .int .i64 (-1)) F40 (results_1 Tryz.results10 (.tmp (F40.ev 4 rfl))) ?_
         exact ⟨(by rw [(show (-1) = (subOr left (szTxsH a)) from by unfold szTxsH; exact sz_stop (f := szTxH) hx1 hk_1 (by assumption))]), (Mv.pick (S14.trans T36) [] rfl), subOr_i64 p0 p1⟩
       · skip
         refine wp_skip (x_block_normal (x_normal (wp_region_lit (l_op (f_mv F38 rfl rfl rfl rfl rfl fun _ F41 => ?_)))))
         refine l_op (f_val F41 rfl rfl (r_add (z := ((k + 1 : Nat) : Int)) rfl (F41.ev 16 rfl) rfl (by first | rfl | omega) ⟨by first | omega | (unfold i64ok at *; omega), by first | omega | (unfold i64ok at *; omega)⟩) rfl fun _ F42 => ?_)
         refine l_op (f_as F42 rfl rfl rfl rfl rfl fun _ F43 => ?_)
         refine s_end ?_
         refine x_normal ⟨k + 1, by omega, (subOr lv (szTxD x1.d)), F43.cut rfl, ((S14.trans T36).pick [] rfl), by omega, (sz_next (f := szTxH) hx1 hk_1 (by assumption)).1, (sz_next (f := szTxH) hx1 hk_1 (by assumption)).2⟩
     · skip
       refine wp_exit (x_then_exit (x_then_exit (x_block_here (x_normal (wp_seq (wp_region_lit (l_op (f_mv F18 rfl rfl rfl rfl rfl fun _ F44 => ?_))))))))
       refine l_op (f_as F44 rfl rfl rfl rfl rfl fun _ F45 => ?_)
       refine s_end (x_normal (wp_ret ?_))
       refine x_done (v := .int .i64 lv) F45 (results_1 Tryz.results10 (.tmp (F45.ev 4 rfl))) ?_
       exact ⟨(by rw [(show lv = (subOr left (szTxsH a)) from by unfold szTxsH; exact sz_done (by omega) hk_1 hk_2)]), (Mv.pick S14 [] rfl), subOr_i64 p0 p1⟩
theorem laws_toTxS_c {w : World} {H : Nat → Prop} {a : List TxH} {a_a : Option Addr} {a_n a_c : Nat} (v_a : RdA 10 encTx okTx H w (.slice a_a a_n a_c) a) (u_a : NRa inTx H w a) (p0 : a.length ≤ 1048576) (p1 : txsFit 1048576 (a.map TxH.d)) :
    Calls Tryz.prog 20 #[.slice a_a a_n a_c] w fun e w' => ∃ (D : List TxH), ∃ (r0_a : Option Addr), ∃ (r0_n : Nat), ∃ (r0_c : Nat), e = .returned (.slice r0_a r0_n r0_c) ∧ Mv [] w [ow 58 10 encTx okTx (.slice r0_a r0_n r0_c) D, gr inTx D] w' ∧ D.map TxH.d = a.map TxH.d ∧ D.length = a.length := by
 have uU : True := (fun _ => trivial) p0
 clear uU
 have V_v_a : RdA 10 encTx okTx (V H w []) w (.slice a_a a_n a_c) a := RdA.start v_a (fun _ _ => fps_nil _)
 obtain ⟨ln_a, le_a, mx_a, ni_a⟩ := RdA.inv v_a
 have V_u_a : NRa inTx (V H w []) w a := NRa.start u_a (fun _ _ => fps_nil _)
 refine calls_enter 23 Tryz.func20 rfl Tryz.ntmps20 (Nat.le_of_ble_eq_true rfl) (fun _ F0i => ?_)
 have F0 : Fr 23 [(0, .slice a_a a_n a_c)] _ := F0i
 clear F0i
 refine wp_seq (wp_region_lit (l_op (f_val F0 rfl rfl (r_assign rfl rfl) rfl fun _ F1 => ?_)))
 refine s_end (x_normal (wp_seq (wp_region_lit (l_op (f_mv F1 rfl rfl rfl rfl rfl fun _ F2 => ?_)))))
 refine l_op (f_val F2 rfl rfl (r_len Tryz.underlying23 rfl (F2.ev 5 rfl)) rfl fun _ F3 => ?_)
 refine l_op (f_mk (ok := okTx) zTx F3 (At.nil w) ET_36 rfl rfl rfl rfl (F3.ev 6 rfl) (F3.ev 6 rfl) rfl ⟨(show i64ok 0 from by first | assumption | exact ⟨by omega, by omega⟩), (show i64ok 0 from by first | assumption | exact ⟨by omega, by omega⟩), (show i64ok 0 from by first | assumption | exact ⟨by omega, by omega⟩), (show i64ok 0 from by first | assumption | exact ⟨by omega, by omega⟩), (show i64ok 0 from by first | assumption | exact ⟨by omega, by omega⟩)⟩ (by omega) fun b4 _ w4 F5 S4 => ?_)
 have S6 : Mv [ow 58 10 encTx okTx (.slice (some ⟨b4, 0, none⟩) a_n a_n) (List.replicate a_n zTx)] w4 [gr inTx (List.replicate a_n zTx), ow 58 10 encTx okTx (.slice (some ⟨b4, 0, none⟩) a_n a_n) (List.replicate a_n zTx)] w4 := gr_new S4.at' _ (zTx_all _)
 refine l_op (f_as F5 rfl rfl rfl rfl rfl fun _ F7 => ?_)
 have T8 : Mv _ _ [gr inTx (List.replicate a_n zTx), ow 58 10 encTx okTx (.slice (some ⟨b4, 0, none⟩) a_n a_n) (List.replicate a_n zTx)] _ := S6
 refine s_end (x_normal (wp_seq (wp_seq (wp_region_lit (l_op (f_val F7 rfl rfl (r_assign rfl rfl) rfl fun _ F9 => ?_))))))
 refine s_end (x_normal (wp_block ?_))
 refine x_loop (fun (k : Nat) aZ wZ => ∃ (D : List TxH), ∃ (oa : Option Addr), ∃ (on : Nat), ∃ (oc : Nat), Fr 23 [(4, .int .i64 ((k : Nat) : Int)), (3, .slice oa on oc), (0, .slice a_a a_n a_c)] aZ ∧ Mv [gr inTx (List.replicate a_n zTx), ow 58 10 encTx okTx (.slice (some ⟨b4, 0, none⟩) a_n a_n) (List.replicate a_n zTx)] w4 [gr inTx D, ow 58 10 encTx okTx (.slice oa on oc) D] wZ ∧ (k ≤ a_n) ∧ (D.map TxH.d = copyTo zTx.d k (a.map TxH.d)) ∧ (on = a_n)) (fun (k : Nat) => a_n - k) (0) ?_ ?_
 · exact ⟨List.replicate a_n zTx, (some ⟨b4, 0, none⟩), a_n, a_n, F9.cut rfl, (Mv.refl T8.at'), by omega, copyM_start ln_a, rfl⟩
 · rintro k a10 w10 ⟨D, oa, on, oc, F10, S10, hk_0, hk_1, hk_2⟩
   refine wp_seq (wp_seq (wp_region_lit (l_op (f_mv F10 rfl rfl rfl rfl rfl fun _ F11 => ?_))))
   refine l_op (f_mv F11 rfl rfl rfl rfl rfl fun _ F12 => ?_)
   refine l_op (f_val F12 rfl rfl (r_len Tryz.underlying23 rfl (F12.ev 9 rfl)) rfl fun _ F13 => ?_)
   refine l_op (f_val F13 rfl rfl (r_cmp (b := decide (k < a_n)) (.inr (.inr (.inl rfl))) rfl (F13.ev 8 rfl) (F13.ev 10 rfl) (dec_of (by omega))) rfl fun _ F14 => ?_)
   refine s_end (x_normal (x_cond (p := k < a_n) (F14.ev 11 rfl) (fun h15 => ?_) (fun h15 => ?_)))
   · skip
     refine wp_skip (x_normal (wp_seq (wp_block (wp_region_lit (l_op (f_mv F14 rfl rfl rfl rfl rfl fun _ F16 => ?_))))))
     refine l_op (f_mv F16 rfl rfl rfl rfl rfl fun _ F17 => ?_)
     refine l_op (f_mv F17 rfl rfl rfl rfl rfl fun _ F18 => ?_)
     refine l_op (f_mv F18 rfl rfl rfl rfl rfl fun _ F19 => ?_)
     obtain ⟨B20, O20, x1, ad20, hx1, okx1, ln20, cl20⟩ := RdA.at (RdA.mv (Nat.succ_pos _) V_v_a (S4.trans (T8.trans S10))) k (by first | assumption | omega)
     clear ln20
     have oj21 := okx1
     obtain ⟨oi21_0, oi21_1, oi21_2, oi21_3, oi21_4⟩ := oj21
     have VI22 : RdA 6 encK okK (V H w [gr inTx D, ow 58 10 encTx okTx (.slice oa on oc) D]) w10 (.slice x1.a0 x1.n0 x1.c0) x1.d.calls := NRa.get (NRa.mv V_u_a (S4.trans (T8.trans S10))) hx1 (j := 0) rfl
     obtain ⟨ln22, le22, mx22, ni22⟩ := RdA.inv VI22
     have VI23 : RdA 3 encR okR (V H w [gr inTx D, ow 58 10 encTx okTx (.slice oa on oc) D]) w10 (.slice x1.a1 x1.n1 x1.c1) x1.d.answers := NRa.get (NRa.mv V_u_a (S4.trans (T8.trans S10))) hx1 (j := 1) rfl
     obtain ⟨ln23, le23, mx23, ni23⟩ := RdA.inv VI23
     have VI24 : RdA 1 encS okS (V H w [gr inTx D, ow 58 10 encTx okTx (.slice oa on oc) D]) w10 (.slice x1.a2 x1.n2 x1.c2) x1.d.touch.reads := NRa.get (NRa.mv V_u_a (S4.trans (T8.trans S10))) hx1 (j := 2) rfl
     obtain ⟨ln24, le24, mx24, ni24⟩ := RdA.inv VI24
     have VI25 : RdA 1 encS okS (V H w [gr inTx D, ow 58 10 encTx okTx (.slice oa on oc) D]) w10 (.slice x1.a3 x1.n3 x1.c3) x1.d.touch.writes := NRa.get (NRa.mv V_u_a (S4.trans (T8.trans S10))) hx1 (j := 3) rfl
     obtain ⟨ln25, le25, mx25, ni25⟩ := RdA.inv VI25
     have VI26 : RdA 1 encI okI (V H w [gr inTx D, ow 58 10 encTx okTx (.slice oa on oc) D]) w10 (.slice x1.a4 x1.n4 x1.c4) x1.d.marks := NRa.get (NRa.mv V_u_a (S4.trans (T8.trans S10))) hx1 (j := 4) rfl
     obtain ⟨ln26, le26, mx26, ni26⟩ := RdA.inv VI26
     refine l_op (f_val F19 rfl rfl (r_indexAddr (i := k) ET_23 rfl ((F19.ev 16 rfl).trans (by rw [ad20])) (F19.ev 17 rfl) (by omega) (by first | assumption | omega)) rfl fun _ F27 => ?_)
     refine l_op (f_val (v := .agg #[.int .i64 x1.d.id, .int .i64 x1.d.age, .int .i64 x1.d.proc, .int .i64 x1.d.began, .slice x1.a0 x1.n0 x1.c0, .slice x1.a1 x1.n1 x1.c1, .slice x1.a2 x1.n2 x1.c2, .slice x1.a3 x1.n3 x1.c3, .slice x1.a4 x1.n4 x1.c4, .int .i64 x1.d.state]) F27 rfl rfl (r_load (cs := [.int .i64 x1.d.id, .int .i64 x1.d.age, .int .i64 x1.d.proc, .int .i64 x1.d.began, .slice x1.a0 x1.n0 x1.c0, .slice x1.a1 x1.n1 x1.c1, .slice x1.a2 x1.n2 x1.c2, .slice x1.a3 x1.n3 x1.c3, .slice x1.a4 x1.n4 x1.c4, .int .i64 x1.d.state]) TI_82 rfl (F27.ev 18 rfl) rfl (fun h => nomatch h) (elem_sub (f := 0) cl20 [.int .i64 x1.d.id, .int .i64 x1.d.age, .int .i64 x1.d.proc, .int .i64 x1.d.began, .slice x1.a0 x1.n0 x1.c0, .slice x1.a1 x1.n1 x1.c1, .slice x1.a2 x1.n2 x1.c2, .slice x1.a3 x1.n3 x1.c3, .slice x1.a4 x1.n4 x1.c4, .int .i64 x1.d.state] rfl)) rfl fun _ F28 => ?_)
     refine l_op (f_call F28 CF_44 rfl rfl rfl rfl (lc (F28.ev 19 rfl) rfl) (laws_toTx_c (a := x1.d) okx1.1 okx1.2.1 okx1.2.2.1 okx1.2.2.2.1 VI22 VI23 VI24 VI25 VI26 okx1.2.2.2.2 (by have hb := p1.at hx1; omega) (by have hb := p1.at hx1; omega) (by have hb := p1.at hx1; omega) (by have hb := p1.at hx1; omega) (by have hb := p1.at hx1; omega)) ?_)
     rintro _ w29 ⟨Q9, Q11, Q10, Q6, Q8, Q7, Q0, Q2, Q1, Q3, Q5, Q4, Q12, Q14, Q13, rfl, m29⟩
     refine ⟨_, rfl, fun _ F30 => ?_⟩
     have S29 : Mv _ _ [ow 140 6 encK okK (.slice Q9 Q11 Q10) x1.d.calls, ow 142 3 encR okR (.slice Q6 Q8 Q7) x1.d.answers, ow 9 1 encS okS (.slice Q0 Q2 Q1) x1.d.touch.reads, ow 9 1 encS okS (.slice Q3 Q5 Q4) x1.d.touch.writes, ow 3 1 encI okI (.slice Q12 Q14 Q13) x1.d.marks, gr inTx D, ow 58 10 encTx okTx (.slice oa on oc) D] _ := At.frame S10.at' [] rfl m29
     obtain ⟨Q15, Q20, Q25⟩ := At.ownInv S29.at' ET_52.hk 0 rfl
     obtain ⟨Q16, Q21, Q26⟩ := At.ownInv S29.at' ET_53.hk 1 rfl
     obtain ⟨Q17, Q22, Q27⟩ := At.ownInv S29.at' ET_30.hk 2 rfl
     obtain ⟨Q18, Q23, Q28⟩ := At.ownInv S29.at' ET_30.hk 3 rfl
     obtain ⟨Q19, Q24, Q29⟩ := At.ownInv S29.at' ET_56.hk 4 rfl
     clear m29
     obtain ⟨B31, x2, ad31, hx2, okx2, cl31⟩ := At.ownAt S29.at' ET_36.hk 6 rfl k (by first | assumption | omega)
     have oj32 := okx2
     obtain ⟨oi32_0, oi32_1, oi32_2, oi32_3, oi32_4⟩ := oj32
     obtain ⟨ln33, le33, mx33, ni33⟩ := Rd.inv (show Rd 6 encK okK (fun _ => True) w29 (.slice x2.a0 x2.n0 x2.c0) x2.d.calls from NRd.get (At.nrd S29.at' 5 rfl) hx2 (j := 0) rfl)
     obtain ⟨ln34, le34, mx34, ni34⟩ := Rd.inv (show Rd 3 encR okR (fun _ => True) w29 (.slice x2.a1 x2.n1 x2.c1) x2.d.answers from NRd.get (At.nrd S29.at' 5 rfl) hx2 (j := 1) rfl)
     obtain ⟨ln35, le35, mx35, ni35⟩ := Rd.inv (show Rd 1 encS okS (fun _ => True) w29 (.slice x2.a2 x2.n2 x2.c2) x2.d.touch.reads from NRd.get (At.nrd S29.at' 5 rfl) hx2 (j := 2) rfl)
     obtain ⟨ln36, le36, mx36, ni36⟩ := Rd.inv (show Rd 1 encS okS (fun _ => True) w29 (.slice x2.a3 x2.n3 x2.c3) x2.d.touch.writes from NRd.get (At.nrd S29.at' 5 rfl) hx2 (j := 3) rfl)
     obtain ⟨ln37, le37, mx37, ni37⟩ := Rd.inv (show Rd 1 encI okI (fun _ => True) w29 (.slice x2.a4 x2.n4 x2.c4) x2.d.marks from NRd.get (At.nrd S29.at' 5 rfl) hx2 (j := 4) rfl)
     refine l_op (f_val F30 rfl rfl (r_indexAddr (i := k) ET_36 rfl ((F30.ev 14 rfl).trans (by rw [ad31])) (F30.ev 15 rfl) (by omega) (by first | assumption | omega)) rfl fun _ F38 => ?_)
     refine l_op (s_storeEl S29.at' 6 k (⟨x1.d, Q9, Q11, Q10, Q6, Q8, Q7, Q0, Q2, Q1, Q3, Q5, Q4, Q12, Q14, Q13⟩ : TxH) ET_36.hk ET_36.h1 TI_58 rfl ad31 rfl rfl rfl rfl (F38.ev 21 rfl) (F38.ev 20 rfl) rfl (by first | assumption | omega) ⟨(show i64ok x1.d.id from by first | assumption | exact ⟨by omega, by omega⟩), (show i64ok x1.d.age from by first | assumption | exact ⟨by omega, by omega⟩), (show i64ok x1.d.proc from by first | assumption | exact ⟨by omega, by omega⟩), (show i64ok x1.d.began from by first | assumption | exact ⟨by omega, by omega⟩), (show i64ok x1.d.state from by first | assumption | exact ⟨by omega, by omega⟩)⟩ fun w39 S39 => ?_)
     have S40 : Mv [ow 58 10 encTx okTx (.slice oa on oc) (D.set k (⟨x1.d, Q9, Q11, Q10, Q6, Q8, Q7, Q0, Q2, Q1, Q3, Q5, Q4, Q12, Q14, Q13⟩ : TxH)), ow 140 6 encK okK (.slice Q9 Q11 Q10) x1.d.calls, ow 142 3 encR okR (.slice Q6 Q8 Q7) x1.d.answers, ow 9 1 encS okS (.slice Q0 Q2 Q1) x1.d.touch.reads, ow 9 1 encS okS (.slice Q3 Q5 Q4) x1.d.touch.writes, ow 3 1 encI okI (.slice Q12 Q14 Q13) x1.d.marks, gr inTx D] w39 [gr inTx (D.set k (⟨x1.d, Q9, Q11, Q10, Q6, Q8, Q7, Q0, Q2, Q1, Q3, Q5, Q4, Q12, Q14, Q13⟩ : TxH)), ow 58 10 encTx okTx (.slice oa on oc) (D.set k (⟨x1.d, Q9, Q11, Q10, Q6, Q8, Q7, Q0, Q2, Q1, Q3, Q5, Q4, Q12, Q14, Q13⟩ : TxH))] w39 := gr_set S39.at' [1, 2, 3, 4, 5, 6] (⟨x1.d, Q9, Q11, Q10, Q6, Q8, Q7, Q0, Q2, Q1, Q3, Q5, Q4, Q12, Q14, Q13⟩ : TxH) k rfl rfl
     have F41 : Fr 23 [(21, .pointer (some ⟨B31, 0 + k * 10, none⟩)), (20, .agg #[.int .i64 x1.d.id, .int .i64 x1.d.age, .int .i64 x1.d.proc, .int .i64 x1.d.began, .slice Q9 Q11 Q10, .slice Q6 Q8 Q7, .slice Q0 Q2 Q1, .slice Q3 Q5 Q4, .slice Q12 Q14 Q13, .int .i64 x1.d.state]), (4, .int .i64 ((k : Nat) : Int)), (3, .slice oa on oc), (0, .slice a_a a_n a_c)] _ := F38.cut rfl
     clear F10 F11 F12 F13 F14 F16 F17 F18 F19 F27 F28 F30 F38
     have T42 : Mv _ _ [gr inTx (D.set k (⟨x1.d, Q9, Q11, Q10, Q6, Q8, Q7, Q0, Q2, Q1, Q3, Q5, Q4, Q12, Q14, Q13⟩ : TxH)), ow 58 10 encTx okTx (.slice oa on oc) (D.set k (⟨x1.d, Q9, Q11, Q10, Q6, Q8, Q7, Q0, Q2, Q1, Q3, Q5, Q4, Q12, Q14, Q13⟩ : TxH))] _ := S40
     refine s_end (x_block_normal (x_normal (wp_region_lit (l_op (f_mv F41 rfl rfl rfl rfl rfl fun _ F43 => ?_)))))
     refine l_op (f_val F43 rfl rfl (r_add (z := ((k + 1 : Nat) : Int)) rfl (F43.ev 12 rfl) rfl (by first | rfl | omega) ⟨by first | omega | (unfold i64ok at *; omega), by first | omega | (unfold i64ok at *; omega)⟩) rfl fun _ F44 => ?_)
     refine l_op (f_as F44 rfl rfl rfl rfl rfl fun _ F45 => ?_)
     refine s_end ?_
     refine x_normal ⟨k + 1, by omega, D.set k (⟨x1.d, Q9, Q11, Q10, Q6, Q8, Q7, Q0, Q2, Q1, Q3, Q5, Q4, Q12, Q14, Q13⟩ : TxH), oa, on, oc, F45.cut rfl, ((S10.trans (S29.trans (S39.trans T42))).pick [0, 1] rfl), by omega, copyM_step hk_1 hx1 rfl, by assumption⟩
   · skip
     refine wp_exit (x_then_exit (x_then_exit (x_block_here (x_normal (wp_seq (wp_region_lit (l_op (f_mv F14 rfl rfl rfl rfl rfl fun _ F46 => ?_))))))))
     refine l_op (f_as F46 rfl rfl rfl rfl rfl fun _ F47 => ?_)
     refine s_end (x_normal (wp_ret ?_))
     refine x_done (v := .slice oa on oc) F47 (results_1 Tryz.results20 (.tmp (F47.ev 2 rfl))) ?_
     exact ⟨D, oa, on, oc, rfl, (Mv.pick (S4.trans (T8.trans S10)) [1, 0] rfl), copyM_end hk_1 (by omega), by have := congrArg List.length (copyM_end hk_1 (by omega)); simpa using this⟩
theorem laws_eqTxS_c {w : World} {H : Nat → Prop} {a : List TxH} {a_a : Option Addr} {a_n a_c : Nat} {b : List TxH} {b_a : Option Addr} {b_n b_c : Nat} (v_a : Rd 10 encTx okTx H w (.slice a_a a_n a_c) a) (u_a : NRd inTx H w a) (v_b : Rd 10 encTx okTx H w (.slice b_a b_n b_c) b) (u_b : NRd inTx H w b) (p0 : a.map TxH.d = b.map TxH.d) :
    Calls Tryz.prog 30 #[.slice a_a a_n a_c, .slice b_a b_n b_c] w fun e w' => e = .returned (.bool true) ∧ Mv [] w [] w' := by
 have V_v_a : Rd 10 encTx okTx (V H w []) w (.slice a_a a_n a_c) a := Rd.start v_a (fun _ _ => fps_nil _)
 obtain ⟨ln_a, le_a, mx_a, ni_a⟩ := Rd.inv v_a
 have Q1 : Rd 10 encTx okTx (V H w []) w (.slice b_a b_n b_c) b := Rd.start v_b (fun _ _ => fps_nil _)
 obtain ⟨ln_b, le_b, mx_b, ni_b⟩ := Rd.inv v_b
 have V_u_a : NRd inTx (V H w []) w a := NRd.start u_a (fun _ _ => fps_nil _)
 have Q0 : NRd inTx (V H w []) w b := NRd.start u_b (fun _ _ => fps_nil _)
 refine calls_enter 27 Tryz.func30 rfl Tryz.ntmps30 (Nat.le_of_ble_eq_true rfl) (fun _ F0i => ?_)
 have F0 : Fr 27 [(0, .slice a_a a_n a_c), (1, .slice b_a b_n b_c)] _ := F0i
 clear F0i
 refine wp_seq ?_
 have hab : a_n = b_n := by rw [ln_a, ln_b, lenM p0]
 refine wp_region_lit (l_op (f_val F0 rfl rfl (r_assign rfl rfl) rfl fun _ F1 => ?_))
 refine s_end (x_normal (wp_seq (wp_seq (wp_region_lit (l_op (f_mv F1 rfl rfl rfl rfl rfl fun _ F2 => ?_))))))
 refine l_op (f_val F2 rfl rfl (r_len Tryz.underlying36 rfl (F2.ev 6 rfl)) rfl fun _ F3 => ?_)
 refine l_op (f_mv F3 rfl rfl rfl rfl rfl fun _ F4 => ?_)
 refine l_op (f_val F4 rfl rfl (r_len Tryz.underlying36 rfl (F4.ev 8 rfl)) rfl fun _ F5 => ?_)
 refine l_op (f_val F5 rfl rfl (r_cmp (b := decide (a_n ≠ b_n)) (.inr (.inl rfl)) rfl (F5.ev 7 rfl) (F5.ev 9 rfl) (dec_of (by omega))) rfl fun _ F6 => ?_)
 rw [show (decide (a_n ≠ b_n)) = false from decide_eq_false (fun h => h hab)] at F6
 refine s_end (x_normal (wp_cond_false (F6.ev 10 rfl) (wp_skip (x_normal (wp_seq (wp_seq (wp_region_lit (l_op (f_val F6 rfl rfl (r_assign rfl rfl) rfl fun _ F7 => ?_)))))))))
 refine s_end (x_normal (wp_block ?_))
 refine x_loop (fun (k : Nat) aZ wZ => Fr 27 [(5, .int .i64 ((k : Nat) : Int)), (0, .slice a_a a_n a_c), (1, .slice b_a b_n b_c)] aZ ∧ Mv [] w [] wZ ∧ (k ≤ a_n)) (fun (k : Nat) => a_n - k) (0) ?_ ?_
 · exact ⟨F7.cut rfl, (Mv.refl (At.nil w)), by omega⟩
 · rintro k a8 w8 ⟨F8, S8, hk_0⟩
   refine wp_seq (wp_seq (wp_region_lit (l_op (f_mv F8 rfl rfl rfl rfl rfl fun _ F9 => ?_))))
   refine l_op (f_mv F9 rfl rfl rfl rfl rfl fun _ F10 => ?_)
   refine l_op (f_val F10 rfl rfl (r_len Tryz.underlying36 rfl (F10.ev 12 rfl)) rfl fun _ F11 => ?_)
   refine l_op (f_val F11 rfl rfl (r_cmp (b := decide (k < a_n)) (.inr (.inr (.inl rfl))) rfl (F11.ev 11 rfl) (F11.ev 13 rfl) (dec_of (by omega))) rfl fun _ F12 => ?_)
   refine s_end (x_normal (x_cond (p := k < a_n) (F12.ev 14 rfl) (fun h13 => ?_) (fun h13 => ?_)))
   · skip
     refine wp_skip (x_normal (wp_seq (wp_block (wp_seq ?_))))
     obtain ⟨x1, hx1, okx1⟩ := Rd.elem (Rd.mv (Nat.succ_pos _) V_v_a S8) k (by first | assumption | omega)
     have oj15 := okx1
     obtain ⟨oi15_0, oi15_1, oi15_2, oi15_3, oi15_4⟩ := oj15
     have VI16 : Rd 6 encK okK (V H w []) w8 (.slice x1.a0 x1.n0 x1.c0) x1.d.calls := NRd.get (NRd.mv V_u_a S8) hx1 (j := 0) rfl
     obtain ⟨ln16, le16, mx16, ni16⟩ := Rd.inv VI16
     have VI17 : Rd 3 encR okR (V H w []) w8 (.slice x1.a1 x1.n1 x1.c1) x1.d.answers := NRd.get (NRd.mv V_u_a S8) hx1 (j := 1) rfl
     obtain ⟨ln17, le17, mx17, ni17⟩ := Rd.inv VI17
     have VI18 : Rd 1 encS okS (V H w []) w8 (.slice x1.a2 x1.n2 x1.c2) x1.d.touch.reads := NRd.get (NRd.mv V_u_a S8) hx1 (j := 2) rfl
     obtain ⟨ln18, le18, mx18, ni18⟩ := Rd.inv VI18
     have VI19 : Rd 1 encS okS (V H w []) w8 (.slice x1.a3 x1.n3 x1.c3) x1.d.touch.writes := NRd.get (NRd.mv V_u_a S8) hx1 (j := 3) rfl
     obtain ⟨ln19, le19, mx19, ni19⟩ := Rd.inv VI19
     have VI20 : Rd 1 encI okI (V H w []) w8 (.slice x1.a4 x1.n4 x1.c4) x1.d.marks := NRd.get (NRd.mv V_u_a S8) hx1 (j := 4) rfl
     obtain ⟨ln20, le20, mx20, ni20⟩ := Rd.inv VI20
     obtain ⟨x2, hx2, okx2⟩ := Rd.elem (Rd.mv (Nat.succ_pos _) Q1 S8) k (by first | assumption | omega)
     have oj21 := okx2
     obtain ⟨oi21_0, oi21_1, oi21_2, oi21_3, oi21_4⟩ := oj21
     have VI22 : Rd 6 encK okK (V H w []) w8 (.slice x2.a0 x2.n0 x2.c0) x2.d.calls := NRd.get (NRd.mv Q0 S8) hx2 (j := 0) rfl
     obtain ⟨ln22, le22, mx22, ni22⟩ := Rd.inv VI22
     have VI23 : Rd 3 encR okR (V H w []) w8 (.slice x2.a1 x2.n1 x2.c1) x2.d.answers := NRd.get (NRd.mv Q0 S8) hx2 (j := 1) rfl
     obtain ⟨ln23, le23, mx23, ni23⟩ := Rd.inv VI23
     have VI24 : Rd 1 encS okS (V H w []) w8 (.slice x2.a2 x2.n2 x2.c2) x2.d.touch.reads := NRd.get (NRd.mv Q0 S8) hx2 (j := 2) rfl
     obtain ⟨ln24, le24, mx24, ni24⟩ := Rd.inv VI24
     have VI25 : Rd 1 encS okS (V H w []) w8 (.slice x2.a3 x2.n3 x2.c3) x2.d.touch.writes := NRd.get (NRd.mv Q0 S8) hx2 (j := 3) rfl
     obtain ⟨ln25, le25, mx25, ni25⟩ := Rd.inv VI25
     have VI26 : Rd 1 encI okI (V H w []) w8 (.slice x2.a4 x2.n4 x2.c4) x2.d.marks := NRd.get (NRd.mv Q0 S8) hx2 (j := 4) rfl
     obtain ⟨ln26, le26, mx26, ni26⟩ := Rd.inv VI26
     refine x_draw (fun aZ wZ => Fr 27 [(0, .slice a_a a_n a_c), (1, .slice b_a b_n b_c), (5, .int .i64 ((k : Nat) : Int)), (26, .bool false)] aZ ∧ Mv [] w8 [] wZ) [] mixed S8.at' (listed := #[false, false, false, false, false, false, false, false, false, false]) rfl (fun w27 S27 => ?_) [] rfl ?_
     · skip
       refine g_take F12 rfl (i := 0) (listed' := #[true, false, false, false, false, false, false, false, false, false]) rfl (by kernel_rfl) (by kernel_rfl) (by kernel_rfl) (fun _ _ _ h => h) (Sd.of (Mv.refl S27.at') [] rfl) rfl rfl rfl rfl (fun _ hz => (r_move rfl (F12.ev 0 rfl))) fun _ F28 => ?_
       refine g_take F28 rfl (i := 1) (listed' := #[true, true, false, false, false, false, false, false, false, false]) rfl (by kernel_rfl) (by kernel_rfl) (by kernel_rfl) (fun _ _ _ h => h) (Sd.of (Mv.refl S27.at') [] rfl) rfl rfl rfl rfl (fun _ hz => (r_move rfl (F28.ev 5 rfl))) fun _ F29 => ?_
       obtain ⟨B30, O30, y30, ad30, hy30, oky30, ln30, cl30⟩ := Rd.atK (Nat.succ_pos _) (Rd.mv (Nat.succ_pos _) V_v_a (S8.trans S27)) k (by first | assumption | omega)
       clear ln30
       obtain rfl := Option.some.inj (hx1.symm.trans hy30)
       clear hy30 oky30
       refine g_take F29 rfl (i := 2) (listed' := #[true, true, true, false, false, false, false, false, false, false]) rfl (by kernel_rfl) (by kernel_rfl) (by kernel_rfl) (fun _ _ _ h => h) (Sd.of (Mv.refl S27.at') [] rfl) rfl rfl rfl rfl (fun _ hz => (r_indexAddr (i := k) ET_36 rfl ((F29.ev 17 rfl).trans (by rw [ad30])) (F29.ev 18 rfl) (by omega) (by first | assumption | omega))) fun _ F31 => ?_
       refine g_take (v := .agg #[.int .i64 x1.d.id, .int .i64 x1.d.age, .int .i64 x1.d.proc, .int .i64 x1.d.began, .slice x1.a0 x1.n0 x1.c0, .slice x1.a1 x1.n1 x1.c1, .slice x1.a2 x1.n2 x1.c2, .slice x1.a3 x1.n3 x1.c3, .slice x1.a4 x1.n4 x1.c4, .int .i64 x1.d.state]) F31 rfl (i := 3) (listed' := #[true, true, true, true, false, false, false, false, false, false]) rfl (by kernel_rfl) (by kernel_rfl) (by kernel_rfl) (fun _ _ _ h => h) (Sd.of (Mv.refl S27.at') [] rfl) rfl rfl rfl rfl (fun _ hz => (r_load (cs := [.int .i64 x1.d.id, .int .i64 x1.d.age, .int .i64 x1.d.proc, .int .i64 x1.d.began, .slice x1.a0 x1.n0 x1.c0, .slice x1.a1 x1.n1 x1.c1, .slice x1.a2 x1.n2 x1.c2, .slice x1.a3 x1.n3 x1.c3, .slice x1.a4 x1.n4 x1.c4, .int .i64 x1.d.state]) TI_58 rfl (F31.ev 19 rfl) rfl (fun h => nomatch h) (elem_sub (f := 0) (cl30 _ hz.kp) [.int .i64 x1.d.id, .int .i64 x1.d.age, .int .i64 x1.d.proc, .int .i64 x1.d.began, .slice x1.a0 x1.n0 x1.c0, .slice x1.a1 x1.n1 x1.c1, .slice x1.a2 x1.n2 x1.c2, .slice x1.a3 x1.n3 x1.c3, .slice x1.a4 x1.n4 x1.c4, .int .i64 x1.d.state] rfl))) fun _ F32 => ?_
       refine g_take F32 rfl (i := 4) (listed' := #[true, true, true, true, true, false, false, false, false, false]) rfl (by kernel_rfl) (by kernel_rfl) (by kernel_rfl) (fun _ _ _ h => h) (Sd.of (Mv.refl S27.at') [] rfl) rfl rfl rfl rfl (fun _ hz => (r_move rfl (F32.ev 1 rfl))) fun _ F33 => ?_
       refine g_take F33 rfl (i := 5) (listed' := #[true, true, true, true, true, true, false, false, false, false]) rfl (by kernel_rfl) (by kernel_rfl) (by kernel_rfl) (fun _ _ _ h => h) (Sd.of (Mv.refl S27.at') [] rfl) rfl rfl rfl rfl (fun _ hz => (r_move rfl (F33.ev 5 rfl))) fun _ F34 => ?_
       obtain ⟨B35, O35, y35, ad35, hy35, oky35, ln35, cl35⟩ := Rd.atK (Nat.succ_pos _) (Rd.mv (Nat.succ_pos _) Q1 (S8.trans S27)) k (by first | assumption | omega)
       clear ln35
       obtain rfl := Option.some.inj (hx2.symm.trans hy35)
       clear hy35 oky35
       refine g_take F34 rfl (i := 6) (listed' := #[true, true, true, true, true, true, true, false, false, false]) rfl (by kernel_rfl) (by kernel_rfl) (by kernel_rfl) (fun _ _ _ h => h) (Sd.of (Mv.refl S27.at') [] rfl) rfl rfl rfl rfl (fun _ hz => (r_indexAddr (i := k) ET_36 rfl ((F34.ev 21 rfl).trans (by rw [ad35])) (F34.ev 22 rfl) (by omega) (by first | assumption | omega))) fun _ F36 => ?_
       refine g_take (v := .agg #[.int .i64 x2.d.id, .int .i64 x2.d.age, .int .i64 x2.d.proc, .int .i64 x2.d.began, .slice x2.a0 x2.n0 x2.c0, .slice x2.a1 x2.n1 x2.c1, .slice x2.a2 x2.n2 x2.c2, .slice x2.a3 x2.n3 x2.c3, .slice x2.a4 x2.n4 x2.c4, .int .i64 x2.d.state]) F36 rfl (i := 7) (listed' := #[true, true, true, true, true, true, true, true, false, false]) rfl (by kernel_rfl) (by kernel_rfl) (by kernel_rfl) (fun _ _ _ h => h) (Sd.of (Mv.refl S27.at') [] rfl) rfl rfl rfl rfl (fun _ hz => (r_load (cs := [.int .i64 x2.d.id, .int .i64 x2.d.age, .int .i64 x2.d.proc, .int .i64 x2.d.began, .slice x2.a0 x2.n0 x2.c0, .slice x2.a1 x2.n1 x2.c1, .slice x2.a2 x2.n2 x2.c2, .slice x2.a3 x2.n3 x2.c3, .slice x2.a4 x2.n4 x2.c4, .int .i64 x2.d.state]) TI_58 rfl (F36.ev 23 rfl) rfl (fun h => nomatch h) (elem_sub (f := 0) (cl35 _ hz.kp) [.int .i64 x2.d.id, .int .i64 x2.d.age, .int .i64 x2.d.proc, .int .i64 x2.d.began, .slice x2.a0 x2.n0 x2.c0, .slice x2.a1 x2.n1 x2.c1, .slice x2.a2 x2.n2 x2.c2, .slice x2.a3 x2.n3 x2.c3, .slice x2.a4 x2.n4 x2.c4, .int .i64 x2.d.state] rfl))) fun _ F37 => ?_
       refine d_one (i := 8) (listed' := #[true, true, true, true, true, true, true, true, true, false]) rfl (by kernel_rfl) rfl rfl ?_
       refine f_call F37 CF_54 rfl rfl rfl rfl (lc (F37.ev 20 rfl) (lc (F37.ev 24 rfl) rfl)) (laws_eqTx_c (a := x1.d) (b := x2.d) okx1.1 okx1.2.1 okx1.2.2.1 okx1.2.2.2.1 (Rd.mv (Nat.succ_pos _) VI16 S27) (Rd.mv (Nat.succ_pos _) VI17 S27) (Rd.mv (Nat.succ_pos _) VI18 S27) (Rd.mv (Nat.succ_pos _) VI19 S27) (Rd.mv (Nat.succ_pos _) VI20 S27) okx1.2.2.2.2 okx2.1 okx2.2.1 okx2.2.2.1 okx2.2.2.2.1 (Rd.mv (Nat.succ_pos _) VI22 S27) (Rd.mv (Nat.succ_pos _) VI23 S27) (Rd.mv (Nat.succ_pos _) VI24 S27) (Rd.mv (Nat.succ_pos _) VI25 S27) (Rd.mv (Nat.succ_pos _) VI26 S27) okx2.2.2.2.2 (by exact elM p0 hx1 hx2)) ?_
       rintro _ w38 ⟨rfl, m38⟩
       refine ⟨_, rfl, fun _ F39 => ?_⟩
       have S38 := At.frame0 S27.at' m38
       clear m38
       refine ⟨Sd.of S38 [] rfl, ?_⟩
       refine g_take F39 rfl (i := 9) (listed' := #[true, true, true, true, true, true, true, true, true, true]) rfl (by kernel_rfl) (by kernel_rfl) (by kernel_rfl) (fun _ _ _ h => h) (Sd.of S38 [] rfl) rfl rfl rfl rfl (fun _ hz => (r_not rfl (F39.ev 25 rfl))) fun _ F40 => ?_
       refine wpAnyH_done (by kernel_rfl) (x_normal ?_) _
       exact ⟨F40.cut rfl, ((S27.trans S38).pick [] rfl)⟩
     · rintro a41 w41 ⟨F41, S41⟩
       refine x_normal (wp_cond_false (F41.ev 26 rfl) (wp_skip (x_block_normal (x_normal (wp_region_lit (l_op (f_mv F41 rfl rfl rfl rfl rfl fun _ F42 => ?_)))))))
       refine l_op (f_val F42 rfl rfl (r_add (z := ((k + 1 : Nat) : Int)) rfl (F42.ev 15 rfl) rfl (by first | rfl | omega) ⟨by first | omega | (unfold i64ok at *; omega), by first | omega | (unfold i64ok at *; omega)⟩) rfl fun _ F43 => ?_)
       refine l_op (f_as F43 rfl rfl rfl rfl rfl fun _ F44 => ?_)
       refine s_end ?_
       refine x_normal ⟨k + 1, by omega, F44.cut rfl, ((S8.trans S41).pick [] rfl), by omega⟩
   · skip
     refine wp_exit (x_then_exit (x_then_exit (x_block_here (x_normal (wp_seq (wp_region_lit (l_op (f_val F12 rfl rfl (r_assign rfl rfl) rfl fun _ F45 => ?_))))))))
     refine s_end (x_normal (wp_ret ?_))
     refine x_done (v := .bool true) F45 (results_1 Tryz.results30 (.tmp (F45.ev 4 rfl))) ?_
     exact ⟨rfl, (Mv.pick S8 [] rfl)⟩
theorem laws_szSlot_c {w : World} {H : Nat → Prop} {a : SlotD} {Q0 : Option Addr} {Q2 Q1 : Nat} {left : Int} (Q5 : i64ok a.seq) (Q3 : RdA 2 encC okC H w (.slice Q0 Q2 Q1) a.cells) (Q6 : i64ok left) (p0 : 0 ≤ left) (p1 : left ≤ 1048576) :
    Calls Tryz.prog 62 #[.agg #[.int .i64 a.seq, .slice Q0 Q2 Q1, .bool a.whole], .int .i64 left] w fun e w' => e = .returned (.int .i64 (subOr left (szCells a.cells))) ∧ Mv [] w [] w' ∧ i64ok (subOr left (szCells a.cells)) := by
 have uU : True := (fun _ => trivial) Q5
 clear uU
 have Q4 : RdA 2 encC okC (V H w []) w (.slice Q0 Q2 Q1) a.cells := RdA.start Q3 (fun _ _ => fps_nil _)
 obtain ⟨Q8, Q7, Q9, Q10⟩ := RdA.inv Q3
 refine calls_enter 12 Tryz.func62 rfl Tryz.ntmps62 (Nat.le_of_ble_eq_true rfl) (fun _ F0i => ?_)
 have F0 : Fr 12 [(0, .agg #[.int .i64 a.seq, .slice Q0 Q2 Q1, .bool a.whole]), (1, .int .i64 left)] _ := F0i
 clear F0i
 refine wp_seq (wp_region_lit (l_op (f_box F0 (At.nil w) rfl rfl rfl (F0.ev 0 rfl) rfl rfl fun b1 _ w1 F2 S1 => ?_)))
 refine l_op (f_val F2 rfl rfl (r_assign rfl rfl) rfl fun _ F3 => ?_)
 refine s_end (x_normal (wp_seq (wp_region_lit (l_op (f_val F3 rfl rfl (r_field FI_117_1 rfl (F3.ev 2 rfl) rfl) rfl fun _ F4 => ?_)))))
 refine l_op (f_val (v := .slice Q0 Q2 Q1) F4 rfl rfl (r_loadB S1.at' 0 TI_22 rfl rfl (F4.ev 5 rfl) rfl rfl (fun _ => rfl) rfl) rfl fun _ F5 => ?_)
 refine l_op (f_mv F5 rfl rfl rfl rfl rfl fun _ F6 => ?_)
 refine l_op (f_call F6 CF_9 rfl rfl rfl rfl (lc (F6.ev 6 rfl) (lc (F6.ev 7 rfl) rfl)) (laws_szCellS_c (a := a.cells) (left := left) (RdA.mv (Nat.succ_pos _) Q4 S1) Q6 (by first | assumption | omega | (simp <;> omega)) (by first | assumption | omega | (simp <;> omega))) ?_)
 rintro _ w7 ⟨rfl, m7, q7_0⟩
 refine ⟨_, rfl, fun _ F8 => ?_⟩
 have S7 := At.frame0 S1.at' m7
 clear m7
 refine l_op (f_as F8 rfl rfl rfl rfl rfl fun _ F9 => ?_)
 have T10 : Mv _ _ [bx b1 [.int .i64 a.seq, .slice Q0 Q2 Q1, .bool a.whole] 117] _ := S7
 refine s_end (x_normal (wp_seq (wp_seq (wp_region_lit (l_op (f_mv F9 rfl rfl rfl rfl rfl fun _ F11 => ?_))))))
 refine l_op (f_val F11 rfl rfl (r_cmp (b := decide ((subOr left (szCells a.cells)) < 0)) (.inr (.inr (.inl rfl))) rfl (F11.ev 9 rfl) rfl (dec_of (by omega))) rfl fun _ F12 => ?_)
 have F13 : Fr 12 [(10, .bool (decide ((subOr left (szCells a.cells)) < 0))), (1, .int .i64 (subOr left (szCells a.cells)))] _ := F12.cut rfl
 clear F0 F2 F3 F4 F5 F6 F8 F9 F11 F12
 refine s_end (x_normal (x_cond (p := (subOr left (szCells a.cells)) < 0) (F13.ev 10 rfl) (fun h14 => ?_) (fun h14 => ?_)))
 · skip
   refine wp_seq (wp_region_lit (l_op (f_val F13 rfl rfl (r_assign rfl rfl) rfl fun _ F15 => ?_)))
   refine s_end (x_normal (wp_ret (x_then_ret ?_)))
   refine x_done (v := .int .i64 (-1)) F15 (results_1 Tryz.results62 (.tmp (F15.ev 4 rfl))) ?_
   exact ⟨(by rw [(show (-1) = (subOr left (szCells a.cells)) from by first | rfl | exact subOr_neg1 (by assumption))]), (Mv.pick (S1.trans T10) [] rfl), subOr_i64 p0 p1⟩
 · skip
   refine wp_skip (x_normal (wp_seq (wp_region_lit (l_op (f_mv F13 rfl rfl rfl rfl rfl fun _ F16 => ?_)))))
   refine l_op (f_as F16 rfl rfl rfl rfl rfl fun _ F17 => ?_)
   refine s_end (x_normal (wp_ret ?_))
   refine x_done (v := .int .i64 (subOr left (szCells a.cells))) F17 (results_1 Tryz.results62 (.tmp (F17.ev 4 rfl))) ?_
   exact ⟨rfl, (Mv.pick (S1.trans T10) [] rfl), subOr_i64 p0 p1⟩
theorem laws_toSlot_c {w : World} {H : Nat → Prop} {a : SlotD} {Q3 : Option Addr} {Q5 Q4 : Nat} (Q11 : i64ok a.seq) (Q9 : RdA 2 encC okC H w (.slice Q3 Q5 Q4) a.cells) (p0 : a.cells.length ≤ 1048576) :
    Calls Tryz.prog 69 #[.agg #[.int .i64 a.seq, .slice Q3 Q5 Q4, .bool a.whole]] w fun e w' => ∃ (Q6 : Option Addr), ∃ (Q8 : Nat), ∃ (Q7 : Nat), e = .returned (.agg #[.int .i64 a.seq, .slice Q6 Q8 Q7, .bool a.whole]) ∧ Mv [] w [ow 90 2 encC okC (.slice Q6 Q8 Q7) a.cells] w' := by
 have uU : True := (fun _ _ => trivial) Q11 p0
 clear uU
 have Q10 : RdA 2 encC okC (V H w []) w (.slice Q3 Q5 Q4) a.cells := RdA.start Q9 (fun _ _ => fps_nil _)
 obtain ⟨Q13, Q12, Q17, Q18⟩ := RdA.inv Q9
 refine calls_enter 15 Tryz.func69 rfl Tryz.ntmps69 (Nat.le_of_ble_eq_true rfl) (fun _ F0i => ?_)
 have F0 : Fr 15 [(0, .agg #[.int .i64 a.seq, .slice Q3 Q5 Q4, .bool a.whole])] _ := F0i
 clear F0i
 refine wp_seq (wp_region_lit (l_op (f_box F0 (At.nil w) rfl rfl rfl (F0.ev 0 rfl) rfl rfl fun b1 _ w1 F2 S1 => ?_)))
 refine l_op (f_alloc F2 S1.at' ZI_92 rfl rfl rfl rfl rfl fun b3 _ w3 F4 S3 => ?_)
 have T5 : Mv _ _ [bx b3 [.int .i64 0, .slice none 0 0, .bool false] 92, bx b1 [.int .i64 a.seq, .slice Q3 Q5 Q4, .bool a.whole] 117] _ := S3
 refine s_end (x_normal (wp_seq (wp_region_lit (l_op (f_alloc F4 T5.at' ZI_92 rfl rfl rfl rfl rfl fun b6 _ w6 F7 S6 => ?_)))))
 refine s_end (x_normal (wp_seq (wp_region_lit (l_op (f_val F7 rfl rfl (r_field FI_117_0 rfl (F7.ev 1 rfl) rfl) rfl fun _ F8 => ?_)))))
 refine l_op (f_val (v := .int .i64 a.seq) F8 rfl rfl (r_loadB S6.at' 2 TI_3 rfl rfl (F8.ev 4 rfl) rfl rfl (fun _ => rfl) rfl) rfl fun _ F9 => ?_)
 refine l_op (f_val F9 rfl rfl (r_field FI_92_0 rfl (F9.ev 3 rfl) rfl) rfl fun _ F10 => ?_)
 refine l_op (s_store S6.at' 0 TI_3 rfl rfl rfl rfl rfl (F10.ev 6 rfl) (F10.ev 5 rfl) rfl rfl rfl rfl rfl fun w11 S11 => ?_)
 have T12 : Mv _ _ [bx b6 [.int .i64 a.seq, .slice none 0 0, .bool false] 92, bx b3 [.int .i64 0, .slice none 0 0, .bool false] 92, bx b1 [.int .i64 a.seq, .slice Q3 Q5 Q4, .bool a.whole] 117] _ := S11
 refine s_end (x_normal (wp_seq (wp_region_lit (l_op (f_val F10 rfl rfl (r_field FI_117_1 rfl (F10.ev 1 rfl) rfl) rfl fun _ F13 => ?_)))))
 refine l_op (f_val (v := .slice Q3 Q5 Q4) F13 rfl rfl (r_loadB T12.at' 2 TI_22 rfl rfl (F13.ev 7 rfl) rfl rfl (fun _ => rfl) rfl) rfl fun _ F14 => ?_)
 refine l_op (f_call F14 CF_19 rfl rfl rfl rfl (lc (F14.ev 8 rfl) rfl) (laws_toCellS_c (a := a.cells) (RdA.mv (Nat.succ_pos _) Q10 (S1.trans (T5.trans (S6.trans T12)))) (by first | assumption | omega | (simp <;> omega))) ?_)
 rintro _ w15 ⟨Q0, Q2, Q1, rfl, m15⟩
 refine ⟨_, rfl, fun _ F16 => ?_⟩
 have S15 : Mv _ _ [ow 90 2 encC okC (.slice Q0 Q2 Q1) a.cells, bx b6 [.int .i64 a.seq, .slice none 0 0, .bool false] 92, bx b3 [.int .i64 0, .slice none 0 0, .bool false] 92, bx b1 [.int .i64 a.seq, .slice Q3 Q5 Q4, .bool a.whole] 117] _ := At.frame T12.at' [] rfl m15
 obtain ⟨Q14, Q15, Q16⟩ := At.ownInv S15.at' ET_35.hk 0 rfl
 clear m15
 refine l_op (f_val F16 rfl rfl (r_field FI_92_1 rfl (F16.ev 3 rfl) rfl) rfl fun _ F17 => ?_)
 refine l_op (s_store S15.at' 1 TI_35 rfl rfl rfl rfl rfl (F17.ev 10 rfl) (F17.ev 9 rfl) rfl rfl rfl rfl rfl fun w18 S18 => ?_)
 have F19 : Fr 15 [(10, .pointer (some ⟨b6, 1, none⟩)), (9, .slice Q0 Q2 Q1), (3, .pointer (some ⟨b6, 0, none⟩)), (2, .pointer (some ⟨b3, 0, none⟩)), (1, .pointer (some ⟨b1, 0, none⟩))] _ := F17.cut rfl
 clear F0 F2 F4 F7 F8 F9 F10 F13 F14 F16 F17
 have T20 : Mv _ _ [bx b6 [.int .i64 a.seq, .slice Q0 Q2 Q1, .bool false] 92, ow 90 2 encC okC (.slice Q0 Q2 Q1) a.cells, bx b3 [.int .i64 0, .slice none 0 0, .bool false] 92, bx b1 [.int .i64 a.seq, .slice Q3 Q5 Q4, .bool a.whole] 117] _ := S18
 refine s_end (x_normal (wp_seq (wp_region_lit (l_op (f_val F19 rfl rfl (r_field FI_117_2 rfl (F19.ev 1 rfl) rfl) rfl fun _ F21 => ?_)))))
 refine l_op (f_val (v := .bool a.whole) F21 rfl rfl (r_loadB T20.at' 3 TI_4 rfl rfl (F21.ev 11 rfl) rfl rfl (fun _ => rfl) rfl) rfl fun _ F22 => ?_)
 refine l_op (f_val F22 rfl rfl (r_field FI_92_2 rfl (F22.ev 3 rfl) rfl) rfl fun _ F23 => ?_)
 refine l_op (s_store T20.at' 0 TI_4 rfl rfl rfl rfl rfl (F23.ev 13 rfl) (F23.ev 12 rfl) rfl rfl rfl rfl rfl fun w24 S24 => ?_)
 refine s_end (x_normal (wp_seq (wp_region_lit (l_op (f_val (v := .agg #[.int .i64 a.seq, .slice Q0 Q2 Q1, .bool a.whole]) F23 rfl rfl (r_loadB S24.at' 0 TI_92 rfl rfl (F23.ev 3 rfl) rfl rfl (fun h => nomatch h) rfl) rfl fun _ F25 => ?_)))))
 refine l_op (s_store S24.at' 2 TI_92 rfl rfl rfl rfl rfl (F25.ev 2 rfl) (F25.ev 14 rfl) rfl rfl rfl rfl rfl fun w26 S26 => ?_)
 have T27 : Mv _ _ [bx b3 [.int .i64 a.seq, .slice Q0 Q2 Q1, .bool a.whole] 92, bx b6 [.int .i64 a.seq, .slice Q0 Q2 Q1, .bool a.whole] 92, ow 90 2 encC okC (.slice Q0 Q2 Q1) a.cells, bx b1 [.int .i64 a.seq, .slice Q3 Q5 Q4, .bool a.whole] 117] _ := S26
 refine s_end (x_normal (wp_ret ?_))
 refine x_done (v := .agg #[.int .i64 a.seq, .slice Q0 Q2 Q1, .bool a.whole]) F25 (results_1 Tryz.results69 (.cell (F25.ev 2 rfl) (run_loadVar' TI_92 _ [.int .i64 a.seq, .slice Q0 Q2 Q1, .bool a.whole] rfl (fun h => nomatch h) (At.cells T27.at' 0 rfl 0 [.int .i64 a.seq, .slice Q0 Q2 Q1, .bool a.whole] rfl)))) ?_
 exact ⟨Q0, Q2, Q1, rfl, (Mv.pick (S1.trans (T5.trans (S6.trans (T12.trans (S15.trans (T20.trans (S24.trans T27))))))) [2] rfl)⟩
theorem laws_eqSlot_c {w : World} {H : Nat → Prop} {a : SlotD} {Q0 : Option Addr} {Q2 Q1 : Nat} {b : SlotD} {Q3 : Option Addr} {Q5 Q4 : Nat} (Q10 : i64ok a.seq) (Q6 : Rd 2 encC okC H w (.slice Q0 Q2 Q1) a.cells) (Q11 : i64ok b.seq) (Q7 : Rd 2 encC okC H w (.slice Q3 Q5 Q4) b.cells) (p0 : a = b) :
    Calls Tryz.prog 76 #[.agg #[.int .i64 a.seq, .slice Q0 Q2 Q1, .bool a.whole], .agg #[.int .i64 b.seq, .slice Q3 Q5 Q4, .bool b.whole]] w fun e w' => e = .returned (.bool true) ∧ Mv [] w [] w' := by
 have uU : True := (fun _ _ => trivial) Q10 Q11
 clear uU
 have Q8 : Rd 2 encC okC (V H w []) w (.slice Q0 Q2 Q1) a.cells := Rd.start Q6 (fun _ _ => fps_nil _)
 obtain ⟨Q14, Q12, Q16, Q18⟩ := Rd.inv Q6
 have Q9 : Rd 2 encC okC (V H w []) w (.slice Q3 Q5 Q4) b.cells := Rd.start Q7 (fun _ _ => fps_nil _)
 obtain ⟨Q15, Q13, Q17, Q19⟩ := Rd.inv Q7
 refine calls_enter 21 Tryz.func76 rfl Tryz.ntmps76 (Nat.le_of_ble_eq_true rfl) (fun _ F0i => ?_)
 have F0 : Fr 21 [(0, .agg #[.int .i64 a.seq, .slice Q0 Q2 Q1, .bool a.whole]), (1, .agg #[.int .i64 b.seq, .slice Q3 Q5 Q4, .bool b.whole])] _ := F0i
 clear F0i
 refine wp_seq (wp_region_lit (l_op (f_box F0 (At.nil w) rfl rfl rfl (F0.ev 0 rfl) rfl rfl fun b1 _ w1 F2 S1 => ?_)))
 refine l_op (f_box F2 S1.at' rfl rfl rfl (F2.ev 1 rfl) rfl rfl fun b3 _ w3 F4 S3 => ?_)
 refine l_op (f_val F4 rfl rfl (r_assign rfl rfl) rfl fun _ F5 => ?_)
 have T6 : Mv _ _ [bx b3 [.int .i64 b.seq, .slice Q3 Q5 Q4, .bool b.whole] 92, bx b1 [.int .i64 a.seq, .slice Q0 Q2 Q1, .bool a.whole] 92] _ := S3
 refine s_end (x_normal (wp_seq (wp_seq (wp_region_lit (l_op (f_val F5 rfl rfl (r_field FI_92_0 rfl (F5.ev 2 rfl) rfl) rfl fun _ F7 => ?_))))))
 refine l_op (f_val (v := .int .i64 a.seq) F7 rfl rfl (r_loadB T6.at' 1 TI_3 rfl rfl (F7.ev 5 rfl) rfl rfl (fun _ => rfl) rfl) rfl fun _ F8 => ?_)
 refine l_op (f_val F8 rfl rfl (r_field FI_92_0 rfl (F8.ev 3 rfl) rfl) rfl fun _ F9 => ?_)
 refine l_op (f_val (v := .int .i64 b.seq) F9 rfl rfl (r_loadB T6.at' 0 TI_3 rfl rfl (F9.ev 7 rfl) rfl rfl (fun _ => rfl) rfl) rfl fun _ F10 => ?_)
 refine l_op (f_val F10 rfl rfl (r_cmp (b := decide (a.seq ≠ b.seq)) (.inr (.inl rfl)) rfl (F10.ev 6 rfl) (F10.ev 8 rfl) (dec_of (by omega))) rfl fun _ F11 => ?_)
 rw [show (decide (a.seq ≠ b.seq)) = false from decide_eq_false (fun h => h (by rw [p0]))] at F11
 refine s_end (x_normal (wp_cond_false (F11.ev 9 rfl) (wp_skip (x_normal (wp_seq (wp_seq (wp_region_lit (l_op (f_val F11 rfl rfl (r_field FI_92_1 rfl (F11.ev 2 rfl) rfl) rfl fun _ F12 => ?_)))))))))
 refine l_op (f_val (v := .slice Q0 Q2 Q1) F12 rfl rfl (r_loadB T6.at' 1 TI_35 rfl rfl (F12.ev 10 rfl) rfl rfl (fun _ => rfl) rfl) rfl fun _ F13 => ?_)
 refine l_op (f_val F13 rfl rfl (r_field FI_92_1 rfl (F13.ev 3 rfl) rfl) rfl fun _ F14 => ?_)
 refine l_op (f_val (v := .slice Q3 Q5 Q4) F14 rfl rfl (r_loadB T6.at' 0 TI_35 rfl rfl (F14.ev 12 rfl) rfl rfl (fun _ => rfl) rfl) rfl fun _ F15 => ?_)
 refine l_op (f_call F15 CF_29 rfl rfl rfl rfl (lc (F15.ev 11 rfl) (lc (F15.ev 13 rfl) rfl)) (laws_eqCellS_c (a := a.cells) (b := b.cells) (Rd.mv (Nat.succ_pos _) Q8 (S1.trans T6)) (Rd.mv (Nat.succ_pos _) Q9 (S1.trans T6)) (by rw [p0])) ?_)
 rintro _ w16 ⟨rfl, m16⟩
 refine ⟨_, rfl, fun _ F17 => ?_⟩
 have S16 := At.frame0 T6.at' m16
 clear m16
 refine l_op (f_val F17 rfl rfl (r_not rfl (F17.ev 14 rfl)) rfl fun _ F18 => ?_)
 have F19 : Fr 21 [(15, .bool false), (3, .pointer (some ⟨b3, 0, none⟩)), (2, .pointer (some ⟨b1, 0, none⟩))] _ := F18.cut rfl
 clear F0 F2 F4 F5 F7 F8 F9 F10 F11 F12 F13 F14 F15 F17 F18
 refine s_end (x_normal (wp_cond_false (F19.ev 15 rfl) (wp_skip (x_normal (wp_seq (wp_seq (wp_region_lit (l_op (f_val F19 rfl rfl (r_field FI_92_2 rfl (F19.ev 2 rfl) rfl) rfl fun _ F20 => ?_)))))))))
 refine l_op (f_val (v := .bool a.whole) F20 rfl rfl (r_loadB S16.at' 1 TI_4 rfl rfl (F20.ev 16 rfl) rfl rfl (fun _ => rfl) rfl) rfl fun _ F21 => ?_)
 refine l_op (f_val F21 rfl rfl (r_field FI_92_2 rfl (F21.ev 3 rfl) rfl) rfl fun _ F22 => ?_)
 refine l_op (f_val (v := .bool b.whole) F22 rfl rfl (r_loadB S16.at' 0 TI_4 rfl rfl (F22.ev 18 rfl) rfl rfl (fun _ => rfl) rfl) rfl fun _ F23 => ?_)
 refine l_op (f_val F23 rfl rfl (r_cmpb (b := (a.whole != b.whole)) Tryz.underlying4 (.inr rfl) rfl (F23.ev 17 rfl) (F23.ev 19 rfl) rfl) rfl fun _ F24 => ?_)
 rw [show (a.whole != b.whole) = false from by rw [p0]; exact bne_self_eq_false _] at F24
 refine s_end (x_normal (wp_cond_false (F24.ev 20 rfl) (wp_skip (x_normal (wp_seq (wp_region_lit (l_op (f_val F24 rfl rfl (r_assign rfl rfl) rfl fun _ F25 => ?_))))))))
 refine s_end (x_normal (wp_ret ?_))
 refine x_done (v := .bool true) F25 (results_1 Tryz.results76 (.tmp (F25.ev 4 rfl))) ?_
 exact ⟨rfl, (Mv.pick (S1.trans (T6.trans S16)) [] rfl)⟩
theorem laws_szSlotS_c {w : World} {H : Nat → Prop} {a : List SlotH} {a_a : Option Addr} {a_n a_c : Nat} {left : Int} (v_a : RdA 3 encSlot okSlot H w (.slice a_a a_n a_c) a) (u_a : NRa inSlot H w a) (Q0 : i64ok left) (p0 : 0 ≤ left) (p1 : left ≤ 1048576) :
    Calls Tryz.prog 36 #[.slice a_a a_n a_c, .int .i64 left] w fun e w' => e = .returned (.int .i64 (subOr left (szSlotsH a))) ∧ Mv [] w [] w' ∧ i64ok (subOr left (szSlotsH a)) := by
 have uU : True := (fun _ => trivial) Q0
 clear uU
 have V_v_a : RdA 3 encSlot okSlot (V H w []) w (.slice a_a a_n a_c) a := RdA.start v_a (fun _ _ => fps_nil _)
 obtain ⟨ln_a, le_a, mx_a, ni_a⟩ := RdA.inv v_a
 have V_u_a : NRa inSlot (V H w []) w a := NRa.start u_a (fun _ _ => fps_nil _)
 refine calls_enter 27 Tryz.func36 rfl Tryz.ntmps36 (Nat.le_of_ble_eq_true rfl) (fun _ F0i => ?_)
 have F0 : Fr 27 [(0, .slice a_a a_n a_c), (1, .int .i64 left)] _ := F0i
 clear F0i
 refine wp_seq (wp_region_lit (l_op (f_val F0 rfl rfl (r_assign rfl rfl) rfl fun _ F1 => ?_)))
 refine s_end (x_normal (wp_seq (wp_region_lit (l_op (f_mv F1 rfl rfl rfl rfl rfl fun _ F2 => ?_)))))
 refine l_op (f_mv F2 rfl rfl rfl rfl rfl fun _ F3 => ?_)
 refine l_op (f_val F3 rfl rfl (r_len Tryz.underlying24 rfl (F3.ev 7 rfl)) rfl fun _ F4 => ?_)
 refine l_op (f_val F4 rfl rfl (r_sub (z := (left - ((a_n : Nat) : Int))) rfl (F4.ev 6 rfl) (F4.ev 8 rfl) (by first | rfl | omega) ⟨by first | omega | (unfold i64ok at *; omega), by first | omega | (unfold i64ok at *; omega)⟩) rfl fun _ F5 => ?_)
 refine l_op (f_as F5 rfl rfl rfl rfl rfl fun _ F6 => ?_)
 refine s_end (x_normal (wp_seq (wp_seq (wp_region_lit (l_op (f_mv F6 rfl rfl rfl rfl rfl fun _ F7 => ?_))))))
 refine l_op (f_val F7 rfl rfl (r_cmp (b := decide ((left - ((a_n : Nat) : Int)) < 0)) (.inr (.inr (.inl rfl))) rfl (F7.ev 10 rfl) rfl (dec_of (by omega))) rfl fun _ F8 => ?_)
 refine s_end (x_normal (x_cond (p := (left - ((a_n : Nat) : Int)) < 0) (F8.ev 11 rfl) (fun h9 => ?_) (fun h9 => ?_)))
 · skip
   refine wp_seq (wp_region_lit (l_op (f_val F8 rfl rfl (r_assign rfl rfl) rfl fun _ F10 => ?_)))
   have F11 : Fr 27 [(4, .int .i64 (-1))] _ := F10.cut rfl
   clear F0 F1 F2 F3 F4 F5 F6 F7 F8 F10
   refine s_end (x_normal (wp_ret (x_then_ret ?_)))
   refine x_done (v := .int .i64 (-1)) F11 (results_1 Tryz.results36 (.tmp (F11.ev 4 rfl))) ?_
   exact ⟨(by rw [(show (-1) = (subOr left (szSlotsH a)) from by unfold szSlotsH; rw [← ln_a]; exact sz_neg (by assumption))]), (Mv.pick (Mv.refl (At.nil w)) [] rfl), subOr_i64 p0 p1⟩
 · skip
   refine wp_skip (x_normal (wp_seq (wp_seq (wp_region_lit (l_op (f_val F8 rfl rfl (r_assign rfl rfl) rfl fun _ F12 => ?_))))))
   have F13 : Fr 27 [(5, .int .i64 0), (1, .int .i64 (left - ((a_n : Nat) : Int))), (0, .slice a_a a_n a_c)] _ := F12.cut rfl
   clear F0 F1 F2 F3 F4 F5 F6 F7 F8 F12
   refine s_end (x_normal (wp_block ?_))
   refine x_loop (fun (k : Nat) aZ wZ => ∃ (lv : Int), Fr 27 [(5, .int .i64 ((k : Nat) : Int)), (1, .int .i64 lv), (0, .slice a_a a_n a_c)] aZ ∧ Mv [] w [] wZ ∧ (k ≤ a_n) ∧ (lv = left - ((a.length + sumOf szSlotH (a.take k) : Nat) : Int)) ∧ (0 ≤ lv)) (fun (k : Nat) => a_n - k) (0) ?_ ?_
   · exact ⟨(left - ((a_n : Nat) : Int)), F13.cut rfl, (Mv.refl (At.nil w)), by omega, by have e : sumOf szSlotH (a.take 0) = 0 := rfl; rw [e]; omega, by omega⟩
   · rintro k a14 w14 ⟨lv, F14, S14, hk_0, hk_1, hk_2⟩
     refine wp_seq (wp_seq (wp_region_lit (l_op (f_mv F14 rfl rfl rfl rfl rfl fun _ F15 => ?_))))
     refine l_op (f_mv F15 rfl rfl rfl rfl rfl fun _ F16 => ?_)
     refine l_op (f_val F16 rfl rfl (r_len Tryz.underlying24 rfl (F16.ev 13 rfl)) rfl fun _ F17 => ?_)
     refine l_op (f_val F17 rfl rfl (r_cmp (b := decide (k < a_n)) (.inr (.inr (.inl rfl))) rfl (F17.ev 12 rfl) (F17.ev 14 rfl) (dec_of (by omega))) rfl fun _ F18 => ?_)
     refine s_end (x_normal (x_cond (p := k < a_n) (F18.ev 15 rfl) (fun h19 => ?_) (fun h19 => ?_)))
     · skip
       refine wp_skip (x_normal (wp_seq (wp_block (wp_seq (wp_region_lit (l_op (f_mv F18 rfl rfl rfl rfl rfl fun _ F20 => ?_)))))))
       refine l_op (f_mv F20 rfl rfl rfl rfl rfl fun _ F21 => ?_)
       obtain ⟨B22, O22, x1, ad22, hx1, okx1, ln22, cl22⟩ := RdA.at (RdA.mv (Nat.succ_pos _) V_v_a S14) k (by first | assumption | omega)
       clear ln22
       have oj23 := okx1
       unfold okSlot at oj23
       have VI24 : RdA 2 encC okC (V H w []) w14 (.slice x1.a0 x1.n0 x1.c0) x1.d.cells := NRa.get (NRa.mv V_u_a S14) hx1 (j := 0) rfl
       obtain ⟨ln24, le24, mx24, ni24⟩ := RdA.inv VI24
       refine l_op (f_val F21 rfl rfl (r_indexAddr (i := k) ET_24 rfl ((F21.ev 18 rfl).trans (by rw [ad22])) (F21.ev 19 rfl) (by omega) (by first | assumption | omega)) rfl fun _ F25 => ?_)
       refine l_op (f_val (v := .agg #[.int .i64 x1.d.seq, .slice x1.a0 x1.n0 x1.c0, .bool x1.d.whole]) F25 rfl rfl (r_load (cs := [.int .i64 x1.d.seq, .slice x1.a0 x1.n0 x1.c0, .bool x1.d.whole]) TI_117 rfl (F25.ev 20 rfl) rfl (fun h => nomatch h) (elem_sub (f := 0) cl22 [.int .i64 x1.d.seq, .slice x1.a0 x1.n0 x1.c0, .bool x1.d.whole] rfl)) rfl fun _ F26 => ?_)
       refine l_op (f_mv F26 rfl rfl rfl rfl rfl fun _ F27 => ?_)
       refine l_op (f_call F27 CF_62 rfl rfl rfl rfl (lc (F27.ev 21 rfl) (lc (F27.ev 22 rfl) rfl)) (laws_szSlot_c (a := x1.d) (left := lv) okx1 VI24 (by first | assumption | exact ⟨by omega, by omega⟩ | (unfold i64ok at *; omega)) (by first | assumption | omega | (simp <;> omega)) (by first | assumption | omega | (simp <;> omega))) ?_)
       rintro _ w28 ⟨rfl, m28, q28_0⟩
       refine ⟨_, rfl, fun _ F29 => ?_⟩
       have S28 := At.frame0 S14.at' m28
       clear m28
       refine l_op (f_as F29 rfl rfl rfl rfl rfl fun _ F30 => ?_)
       have F31 : Fr 27 [(1, .int .i64 (subOr lv (szCells x1.d.cells))), (5, .int .i64 ((k : Nat) : Int)), (0, .slice a_a a_n a_c)] _ := F30.cut rfl
       clear F14 F15 F16 F17 F18 F20 F21 F25 F26 F27 F29 F30
       have T32 : Mv _ _ [] _ := S28
       refine s_end (x_normal (wp_seq (wp_region_lit (l_op (f_mv F31 rfl rfl rfl rfl rfl fun _ F33 => ?_)))))
       refine l_op (f_val F33 rfl rfl (r_cmp (b := decide ((subOr lv (szCells x1.d.cells)) < 0)) (.inr (.inr (.inl rfl))) rfl (F33.ev 24 rfl) rfl (dec_of (by omega))) rfl fun _ F34 => ?_)
       refine s_end (x_normal (x_cond (p := (subOr lv (szCells x1.d.cells)) < 0) (F34.ev 25 rfl) (fun h35 => ?_) (fun h35 => ?_)))
       · skip
         refine wp_seq (wp_region_lit (l_op (f_val F34 rfl rfl (r_assign rfl rfl) rfl fun _ F36 => ?_)))
         refine s_end (x_normal (wp_ret (x_block_ret (x_then_ret (x_then_ret (x_block_ret (x_then_ret ?_)))))))
         refine x_done (v := .int .i64 (-1)) F36 (results_1 Tryz.results36 (.tmp (F36.ev 4 rfl))) ?_
         exact ⟨(by rw [(show (-1) = (subOr left (szSlotsH a)) from by unfold szSlotsH; exact sz_stop (f := szSlotH) hx1 hk_1 (by assumption))]), (Mv.pick (S14.trans T32) [] rfl), subOr_i64 p0 p1⟩
       · skip
         refine wp_skip (x_block_normal (x_normal (wp_region_lit (l_op (f_mv F34 rfl rfl rfl rfl rfl fun _ F37 => ?_)))))
         refine l_op (f_val F37 rfl rfl (r_add (z := ((k + 1 : Nat) : Int)) rfl (F37.ev 16 rfl) rfl (by first | rfl | omega) ⟨by first | omega | (unfold i64ok at *; omega), by first | omega | (unfold i64ok at *; omega)⟩) rfl fun _ F38 => ?_)
         refine l_op (f_as F38 rfl rfl rfl rfl rfl fun _ F39 => ?_)
         refine s_end ?_
         refine x_normal ⟨k + 1, by omega, (subOr lv (szCells x1.d.cells)), F39.cut rfl, ((S14.trans T32).pick [] rfl), by omega, (sz_next (f := szSlotH) hx1 hk_1 (by assumption)).1, (sz_next (f := szSlotH) hx1 hk_1 (by assumption)).2⟩
     · skip
       refine wp_exit (x_then_exit (x_then_exit (x_block_here (x_normal (wp_seq (wp_region_lit (l_op (f_mv F18 rfl rfl rfl rfl rfl fun _ F40 => ?_))))))))
       refine l_op (f_as F40 rfl rfl rfl rfl rfl fun _ F41 => ?_)
       refine s_end (x_normal (wp_ret ?_))
       refine x_done (v := .int .i64 lv) F41 (results_1 Tryz.results36 (.tmp (F41.ev 4 rfl))) ?_
       exact ⟨(by rw [(show lv = (subOr left (szSlotsH a)) from by unfold szSlotsH; exact sz_done (by omega) hk_1 hk_2)]), (Mv.pick S14 [] rfl), subOr_i64 p0 p1⟩
theorem laws_toSlotS_c {w : World} {H : Nat → Prop} {a : List SlotH} {a_a : Option Addr} {a_n a_c : Nat} (v_a : RdA 3 encSlot okSlot H w (.slice a_a a_n a_c) a) (u_a : NRa inSlot H w a) (p0 : a.length ≤ 1048576) (p1 : slotsFit 1048576 (a.map SlotH.d)) :
    Calls Tryz.prog 45 #[.slice a_a a_n a_c] w fun e w' => ∃ (D : List SlotH), ∃ (r0_a : Option Addr), ∃ (r0_n : Nat), ∃ (r0_c : Nat), e = .returned (.slice r0_a r0_n r0_c) ∧ Mv [] w [ow 92 3 encSlot okSlot (.slice r0_a r0_n r0_c) D, gr inSlot D] w' ∧ D.map SlotH.d = a.map SlotH.d ∧ D.length = a.length := by
 have uU : True := (fun _ => trivial) p0
 clear uU
 have V_v_a : RdA 3 encSlot okSlot (V H w []) w (.slice a_a a_n a_c) a := RdA.start v_a (fun _ _ => fps_nil _)
 obtain ⟨ln_a, le_a, mx_a, ni_a⟩ := RdA.inv v_a
 have V_u_a : NRa inSlot (V H w []) w a := NRa.start u_a (fun _ _ => fps_nil _)
 refine calls_enter 23 Tryz.func45 rfl Tryz.ntmps45 (Nat.le_of_ble_eq_true rfl) (fun _ F0i => ?_)
 have F0 : Fr 23 [(0, .slice a_a a_n a_c)] _ := F0i
 clear F0i
 refine wp_seq (wp_region_lit (l_op (f_val F0 rfl rfl (r_assign rfl rfl) rfl fun _ F1 => ?_)))
 refine s_end (x_normal (wp_seq (wp_region_lit (l_op (f_mv F1 rfl rfl rfl rfl rfl fun _ F2 => ?_)))))
 refine l_op (f_val F2 rfl rfl (r_len Tryz.underlying24 rfl (F2.ev 5 rfl)) rfl fun _ F3 => ?_)
 refine l_op (f_mk (ok := okSlot) zSlot F3 (At.nil w) ET_37 rfl rfl rfl rfl (F3.ev 6 rfl) (F3.ev 6 rfl) rfl (show i64ok 0 from by first | assumption | exact ⟨by omega, by omega⟩) (by omega) fun b4 _ w4 F5 S4 => ?_)
 have S6 : Mv [ow 92 3 encSlot okSlot (.slice (some ⟨b4, 0, none⟩) a_n a_n) (List.replicate a_n zSlot)] w4 [gr inSlot (List.replicate a_n zSlot), ow 92 3 encSlot okSlot (.slice (some ⟨b4, 0, none⟩) a_n a_n) (List.replicate a_n zSlot)] w4 := gr_new S4.at' _ (zSlot_all _)
 refine l_op (f_as F5 rfl rfl rfl rfl rfl fun _ F7 => ?_)
 have T8 : Mv _ _ [gr inSlot (List.replicate a_n zSlot), ow 92 3 encSlot okSlot (.slice (some ⟨b4, 0, none⟩) a_n a_n) (List.replicate a_n zSlot)] _ := S6
 refine s_end (x_normal (wp_seq (wp_seq (wp_region_lit (l_op (f_val F7 rfl rfl (r_assign rfl rfl) rfl fun _ F9 => ?_))))))
 refine s_end (x_normal (wp_block ?_))
 refine x_loop (fun (k : Nat) aZ wZ => ∃ (D : List SlotH), ∃ (oa : Option Addr), ∃ (on : Nat), ∃ (oc : Nat), Fr 23 [(4, .int .i64 ((k : Nat) : Int)), (3, .slice oa on oc), (0, .slice a_a a_n a_c)] aZ ∧ Mv [gr inSlot (List.replicate a_n zSlot), ow 92 3 encSlot okSlot (.slice (some ⟨b4, 0, none⟩) a_n a_n) (List.replicate a_n zSlot)] w4 [gr inSlot D, ow 92 3 encSlot okSlot (.slice oa on oc) D] wZ ∧ (k ≤ a_n) ∧ (D.map SlotH.d = copyTo zSlot.d k (a.map SlotH.d)) ∧ (on = a_n)) (fun (k : Nat) => a_n - k) (0) ?_ ?_
 · exact ⟨List.replicate a_n zSlot, (some ⟨b4, 0, none⟩), a_n, a_n, F9.cut rfl, (Mv.refl T8.at'), by omega, copyM_start ln_a, rfl⟩
 · rintro k a10 w10 ⟨D, oa, on, oc, F10, S10, hk_0, hk_1, hk_2⟩
   refine wp_seq (wp_seq (wp_region_lit (l_op (f_mv F10 rfl rfl rfl rfl rfl fun _ F11 => ?_))))
   refine l_op (f_mv F11 rfl rfl rfl rfl rfl fun _ F12 => ?_)
   refine l_op (f_val F12 rfl rfl (r_len Tryz.underlying24 rfl (F12.ev 9 rfl)) rfl fun _ F13 => ?_)
   refine l_op (f_val F13 rfl rfl (r_cmp (b := decide (k < a_n)) (.inr (.inr (.inl rfl))) rfl (F13.ev 8 rfl) (F13.ev 10 rfl) (dec_of (by omega))) rfl fun _ F14 => ?_)
   refine s_end (x_normal (x_cond (p := k < a_n) (F14.ev 11 rfl) (fun h15 => ?_) (fun h15 => ?_)))
   · skip
     refine wp_skip (x_normal (wp_seq (wp_block (wp_region_lit (l_op (f_mv F14 rfl rfl rfl rfl rfl fun _ F16 => ?_))))))
     refine l_op (f_mv F16 rfl rfl rfl rfl rfl fun _ F17 => ?_)
     refine l_op (f_mv F17 rfl rfl rfl rfl rfl fun _ F18 => ?_)
     refine l_op (f_mv F18 rfl rfl rfl rfl rfl fun _ F19 => ?_)
     obtain ⟨B20, O20, x1, ad20, hx1, okx1, ln20, cl20⟩ := RdA.at (RdA.mv (Nat.succ_pos _) V_v_a (S4.trans (T8.trans S10))) k (by first | assumption | omega)
     clear ln20
     have oj21 := okx1
     unfold okSlot at oj21
     have VI22 : RdA 2 encC okC (V H w [gr inSlot D, ow 92 3 encSlot okSlot (.slice oa on oc) D]) w10 (.slice x1.a0 x1.n0 x1.c0) x1.d.cells := NRa.get (NRa.mv V_u_a (S4.trans (T8.trans S10))) hx1 (j := 0) rfl
     obtain ⟨ln22, le22, mx22, ni22⟩ := RdA.inv VI22
     refine l_op (f_val F19 rfl rfl (r_indexAddr (i := k) ET_24 rfl ((F19.ev 16 rfl).trans (by rw [ad20])) (F19.ev 17 rfl) (by omega) (by first | assumption | omega)) rfl fun _ F23 => ?_)
     refine l_op (f_val (v := .agg #[.int .i64 x1.d.seq, .slice x1.a0 x1.n0 x1.c0, .bool x1.d.whole]) F23 rfl rfl (r_load (cs := [.int .i64 x1.d.seq, .slice x1.a0 x1.n0 x1.c0, .bool x1.d.whole]) TI_117 rfl (F23.ev 18 rfl) rfl (fun h => nomatch h) (elem_sub (f := 0) cl20 [.int .i64 x1.d.seq, .slice x1.a0 x1.n0 x1.c0, .bool x1.d.whole] rfl)) rfl fun _ F24 => ?_)
     refine l_op (f_call F24 CF_69 rfl rfl rfl rfl (lc (F24.ev 19 rfl) rfl) (laws_toSlot_c (a := x1.d) okx1 VI22 (by have hb := p1.at hx1; omega)) ?_)
     rintro _ w25 ⟨Q0, Q2, Q1, rfl, m25⟩
     refine ⟨_, rfl, fun _ F26 => ?_⟩
     have S25 : Mv _ _ [ow 90 2 encC okC (.slice Q0 Q2 Q1) x1.d.cells, gr inSlot D, ow 92 3 encSlot okSlot (.slice oa on oc) D] _ := At.frame S10.at' [] rfl m25
     obtain ⟨Q3, Q4, Q5⟩ := At.ownInv S25.at' ET_35.hk 0 rfl
     clear m25
     obtain ⟨B27, x2, ad27, hx2, okx2, cl27⟩ := At.ownAt S25.at' ET_37.hk 2 rfl k (by first | assumption | omega)
     have oj28 := okx2
     unfold okSlot at oj28
     obtain ⟨ln29, le29, mx29, ni29⟩ := Rd.inv (show Rd 2 encC okC (fun _ => True) w25 (.slice x2.a0 x2.n0 x2.c0) x2.d.cells from NRd.get (At.nrd S25.at' 1 rfl) hx2 (j := 0) rfl)
     refine l_op (f_val F26 rfl rfl (r_indexAddr (i := k) ET_37 rfl ((F26.ev 14 rfl).trans (by rw [ad27])) (F26.ev 15 rfl) (by omega) (by first | assumption | omega)) rfl fun _ F30 => ?_)
     refine l_op (s_storeEl S25.at' 2 k (⟨x1.d, Q0, Q2, Q1⟩ : SlotH) ET_37.hk ET_37.h1 TI_92 rfl ad27 rfl rfl rfl rfl (F30.ev 21 rfl) (F30.ev 20 rfl) rfl (by first | assumption | omega) (show i64ok x1.d.seq from by first | assumption | exact ⟨by omega, by omega⟩) fun w31 S31 => ?_)
     have S32 : Mv [ow 92 3 encSlot okSlot (.slice oa on oc) (D.set k (⟨x1.d, Q0, Q2, Q1⟩ : SlotH)), ow 90 2 encC okC (.slice Q0 Q2 Q1) x1.d.cells, gr inSlot D] w31 [gr inSlot (D.set k (⟨x1.d, Q0, Q2, Q1⟩ : SlotH)), ow 92 3 encSlot okSlot (.slice oa on oc) (D.set k (⟨x1.d, Q0, Q2, Q1⟩ : SlotH))] w31 := gr_set S31.at' [1, 2] (⟨x1.d, Q0, Q2, Q1⟩ : SlotH) k rfl rfl
     have F33 : Fr 23 [(21, .pointer (some ⟨B27, 0 + k * 3, none⟩)), (20, .agg #[.int .i64 x1.d.seq, .slice Q0 Q2 Q1, .bool x1.d.whole]), (4, .int .i64 ((k : Nat) : Int)), (3, .slice oa on oc), (0, .slice a_a a_n a_c)] _ := F30.cut rfl
     clear F10 F11 F12 F13 F14 F16 F17 F18 F19 F23 F24 F26 F30
     have T34 : Mv _ _ [gr inSlot (D.set k (⟨x1.d, Q0, Q2, Q1⟩ : SlotH)), ow 92 3 encSlot okSlot (.slice oa on oc) (D.set k (⟨x1.d, Q0, Q2, Q1⟩ : SlotH))] _ := S32
     refine s_end (x_block_normal (x_normal (wp_region_lit (l_op (f_mv F33 rfl rfl rfl rfl rfl fun _ F35 => ?_)))))
     refine l_op (f_val F35 rfl rfl (r_add (z := ((k + 1 : Nat) : Int)) rfl (F35.ev 12 rfl) rfl (by first | rfl | omega) ⟨by first | omega | (unfold i64ok at *; omega), by first | omega | (unfold i64ok at *; omega)⟩) rfl fun _ F36 => ?_)
     refine l_op (f_as F36 rfl rfl rfl rfl rfl fun _ F37 => ?_)
     refine s_end ?_
     refine x_normal ⟨k + 1, by omega, D.set k (⟨x1.d, Q0, Q2, Q1⟩ : SlotH), oa, on, oc, F37.cut rfl, ((S10.trans (S25.trans (S31.trans T34))).pick [0, 1] rfl), by omega, copyM_step hk_1 hx1 rfl, by assumption⟩
   · skip
     refine wp_exit (x_then_exit (x_then_exit (x_block_here (x_normal (wp_seq (wp_region_lit (l_op (f_mv F14 rfl rfl rfl rfl rfl fun _ F38 => ?_))))))))
     refine l_op (f_as F38 rfl rfl rfl rfl rfl fun _ F39 => ?_)
     refine s_end (x_normal (wp_ret ?_))
     refine x_done (v := .slice oa on oc) F39 (results_1 Tryz.results45 (.tmp (F39.ev 2 rfl))) ?_
     exact ⟨D, oa, on, oc, rfl, (Mv.pick (S4.trans (T8.trans S10)) [1, 0] rfl), copyM_end hk_1 (by omega), by have := congrArg List.length (copyM_end hk_1 (by omega)); simpa using this⟩
theorem laws_eqSlotS_c {w : World} {H : Nat → Prop} {a : List SlotH} {a_a : Option Addr} {a_n a_c : Nat} {b : List SlotH} {b_a : Option Addr} {b_n b_c : Nat} (v_a : Rd 3 encSlot okSlot H w (.slice a_a a_n a_c) a) (u_a : NRd inSlot H w a) (v_b : Rd 3 encSlot okSlot H w (.slice b_a b_n b_c) b) (u_b : NRd inSlot H w b) (p0 : a.map SlotH.d = b.map SlotH.d) :
    Calls Tryz.prog 55 #[.slice a_a a_n a_c, .slice b_a b_n b_c] w fun e w' => e = .returned (.bool true) ∧ Mv [] w [] w' := by
 have V_v_a : Rd 3 encSlot okSlot (V H w []) w (.slice a_a a_n a_c) a := Rd.start v_a (fun _ _ => fps_nil _)
 obtain ⟨ln_a, le_a, mx_a, ni_a⟩ := Rd.inv v_a
 have Q0 : Rd 3 encSlot okSlot (V H w []) w (.slice b_a b_n b_c) b := Rd.start v_b (fun _ _ => fps_nil _)
 obtain ⟨ln_b, le_b, mx_b, ni_b⟩ := Rd.inv v_b
 have V_u_a : NRd inSlot (V H w []) w a := NRd.start u_a (fun _ _ => fps_nil _)
 have Q1 : NRd inSlot (V H w []) w b := NRd.start u_b (fun _ _ => fps_nil _)
 refine calls_enter 27 Tryz.func55 rfl Tryz.ntmps55 (Nat.le_of_ble_eq_true rfl) (fun _ F0i => ?_)
 have F0 : Fr 27 [(0, .slice a_a a_n a_c), (1, .slice b_a b_n b_c)] _ := F0i
 clear F0i
 refine wp_seq ?_
 have hab : a_n = b_n := by rw [ln_a, ln_b, lenM p0]
 refine wp_region_lit (l_op (f_val F0 rfl rfl (r_assign rfl rfl) rfl fun _ F1 => ?_))
 refine s_end (x_normal (wp_seq (wp_seq (wp_region_lit (l_op (f_mv F1 rfl rfl rfl rfl rfl fun _ F2 => ?_))))))
 refine l_op (f_val F2 rfl rfl (r_len Tryz.underlying37 rfl (F2.ev 6 rfl)) rfl fun _ F3 => ?_)
 refine l_op (f_mv F3 rfl rfl rfl rfl rfl fun _ F4 => ?_)
 refine l_op (f_val F4 rfl rfl (r_len Tryz.underlying37 rfl (F4.ev 8 rfl)) rfl fun _ F5 => ?_)
 refine l_op (f_val F5 rfl rfl (r_cmp (b := decide (a_n ≠ b_n)) (.inr (.inl rfl)) rfl (F5.ev 7 rfl) (F5.ev 9 rfl) (dec_of (by omega))) rfl fun _ F6 => ?_)
 rw [show (decide (a_n ≠ b_n)) = false from decide_eq_false (fun h => h hab)] at F6
 refine s_end (x_normal (wp_cond_false (F6.ev 10 rfl) (wp_skip (x_normal (wp_seq (wp_seq (wp_region_lit (l_op (f_val F6 rfl rfl (r_assign rfl rfl) rfl fun _ F7 => ?_)))))))))
 refine s_end (x_normal (wp_block ?_))
 refine x_loop (fun (k : Nat) aZ wZ => Fr 27 [(5, .int .i64 ((k : Nat) : Int)), (0, .slice a_a a_n a_c), (1, .slice b_a b_n b_c)] aZ ∧ Mv [] w [] wZ ∧ (k ≤ a_n)) (fun (k : Nat) => a_n - k) (0) ?_ ?_
 · exact ⟨F7.cut rfl, (Mv.refl (At.nil w)), by omega⟩
 · rintro k a8 w8 ⟨F8, S8, hk_0⟩
   refine wp_seq (wp_seq (wp_region_lit (l_op (f_mv F8 rfl rfl rfl rfl rfl fun _ F9 => ?_))))
   refine l_op (f_mv F9 rfl rfl rfl rfl rfl fun _ F10 => ?_)
   refine l_op (f_val F10 rfl rfl (r_len Tryz.underlying37 rfl (F10.ev 12 rfl)) rfl fun _ F11 => ?_)
   refine l_op (f_val F11 rfl rfl (r_cmp (b := decide (k < a_n)) (.inr (.inr (.inl rfl))) rfl (F11.ev 11 rfl) (F11.ev 13 rfl) (dec_of (by omega))) rfl fun _ F12 => ?_)
   refine s_end (x_normal (x_cond (p := k < a_n) (F12.ev 14 rfl) (fun h13 => ?_) (fun h13 => ?_)))
   · skip
     refine wp_skip (x_normal (wp_seq (wp_block (wp_seq ?_))))
     obtain ⟨x1, hx1, okx1⟩ := Rd.elem (Rd.mv (Nat.succ_pos _) V_v_a S8) k (by first | assumption | omega)
     have oj15 := okx1
     unfold okSlot at oj15
     have VI16 : Rd 2 encC okC (V H w []) w8 (.slice x1.a0 x1.n0 x1.c0) x1.d.cells := NRd.get (NRd.mv V_u_a S8) hx1 (j := 0) rfl
     obtain ⟨ln16, le16, mx16, ni16⟩ := Rd.inv VI16
     obtain ⟨x2, hx2, okx2⟩ := Rd.elem (Rd.mv (Nat.succ_pos _) Q0 S8) k (by first | assumption | omega)
     have oj17 := okx2
     unfold okSlot at oj17
     have VI18 : Rd 2 encC okC (V H w []) w8 (.slice x2.a0 x2.n0 x2.c0) x2.d.cells := NRd.get (NRd.mv Q1 S8) hx2 (j := 0) rfl
     obtain ⟨ln18, le18, mx18, ni18⟩ := Rd.inv VI18
     refine x_draw (fun aZ wZ => Fr 27 [(0, .slice a_a a_n a_c), (1, .slice b_a b_n b_c), (5, .int .i64 ((k : Nat) : Int)), (26, .bool false)] aZ ∧ Mv [] w8 [] wZ) [] mixed S8.at' (listed := #[false, false, false, false, false, false, false, false, false, false]) rfl (fun w19 S19 => ?_) [] rfl ?_
     · skip
       refine g_take F12 rfl (i := 0) (listed' := #[true, false, false, false, false, false, false, false, false, false]) rfl (by kernel_rfl) (by kernel_rfl) (by kernel_rfl) (fun _ _ _ h => h) (Sd.of (Mv.refl S19.at') [] rfl) rfl rfl rfl rfl (fun _ hz => (r_move rfl (F12.ev 0 rfl))) fun _ F20 => ?_
       refine g_take F20 rfl (i := 1) (listed' := #[true, true, false, false, false, false, false, false, false, false]) rfl (by kernel_rfl) (by kernel_rfl) (by kernel_rfl) (fun _ _ _ h => h) (Sd.of (Mv.refl S19.at') [] rfl) rfl rfl rfl rfl (fun _ hz => (r_move rfl (F20.ev 5 rfl))) fun _ F21 => ?_
       obtain ⟨B22, O22, y22, ad22, hy22, oky22, ln22, cl22⟩ := Rd.atK (Nat.succ_pos _) (Rd.mv (Nat.succ_pos _) V_v_a (S8.trans S19)) k (by first | assumption | omega)
       clear ln22
       obtain rfl := Option.some.inj (hx1.symm.trans hy22)
       clear hy22 oky22
       refine g_take F21 rfl (i := 2) (listed' := #[true, true, true, false, false, false, false, false, false, false]) rfl (by kernel_rfl) (by kernel_rfl) (by kernel_rfl) (fun _ _ _ h => h) (Sd.of (Mv.refl S19.at') [] rfl) rfl rfl rfl rfl (fun _ hz => (r_indexAddr (i := k) ET_37 rfl ((F21.ev 17 rfl).trans (by rw [ad22])) (F21.ev 18 rfl) (by omega) (by first | assumption | omega))) fun _ F23 => ?_
       refine g_take (v := .agg #[.int .i64 x1.d.seq, .slice x1.a0 x1.n0 x1.c0, .bool x1.d.whole]) F23 rfl (i := 3) (listed' := #[true, true, true, true, false, false, false, false, false, false]) rfl (by kernel_rfl) (by kernel_rfl) (by kernel_rfl) (fun _ _ _ h => h) (Sd.of (Mv.refl S19.at') [] rfl) rfl rfl rfl rfl (fun _ hz => (r_load (cs := [.int .i64 x1.d.seq, .slice x1.a0 x1.n0 x1.c0, .bool x1.d.whole]) TI_92 rfl (F23.ev 19 rfl) rfl (fun h => nomatch h) (elem_sub (f := 0) (cl22 _ hz.kp) [.int .i64 x1.d.seq, .slice x1.a0 x1.n0 x1.c0, .bool x1.d.whole] rfl))) fun _ F24 => ?_
       refine g_take F24 rfl (i := 4) (listed' := #[true, true, true, true, true, false, false, false, false, false]) rfl (by kernel_rfl) (by kernel_rfl) (by kernel_rfl) (fun _ _ _ h => h) (Sd.of (Mv.refl S19.at') [] rfl) rfl rfl rfl rfl (fun _ hz => (r_move rfl (F24.ev 1 rfl))) fun _ F25 => ?_
       refine g_take F25 rfl (i := 5) (listed' := #[true, true, true, true, true, true, false, false, false, false]) rfl (by kernel_rfl) (by kernel_rfl) (by kernel_rfl) (fun _ _ _ h => h) (Sd.of (Mv.refl S19.at') [] rfl) rfl rfl rfl rfl (fun _ hz => (r_move rfl (F25.ev 5 rfl))) fun _ F26 => ?_
       obtain ⟨B27, O27, y27, ad27, hy27, oky27, ln27, cl27⟩ := Rd.atK (Nat.succ_pos _) (Rd.mv (Nat.succ_pos _) Q0 (S8.trans S19)) k (by first | assumption | omega)
       clear ln27
       obtain rfl := Option.some.inj (hx2.symm.trans hy27)
       clear hy27 oky27
       refine g_take F26 rfl (i := 6) (listed' := #[true, true, true, true, true, true, true, false, false, false]) rfl (by kernel_rfl) (by kernel_rfl) (by kernel_rfl) (fun _ _ _ h => h) (Sd.of (Mv.refl S19.at') [] rfl) rfl rfl rfl rfl (fun _ hz => (r_indexAddr (i := k) ET_37 rfl ((F26.ev 21 rfl).trans (by rw [ad27])) (F26.ev 22 rfl) (by omega) (by first | assumption | omega))) fun _ F28 => ?_
       refine g_take (v := .agg #[.int .i64 x2.d.seq, .slice x2.a0 x2.n0 x2.c0, .bool x2.d.whole]) F28 rfl (i := 7) (listed' := #[true, true, true, true, true, true, true, true, false, false]) rfl (by kernel_rfl) (by kernel_rfl) (by kernel_rfl) (fun _ _ _ h => h) (Sd.of (Mv.refl S19.at') [] rfl) rfl rfl rfl rfl (fun _ hz => (r_load (cs := [.int .i64 x2.d.seq, .slice x2.a0 x2.n0 x2.c0, .bool x2.d.whole]) TI_92 rfl (F28.ev 23 rfl) rfl (fun h => nomatch h) (elem_sub (f := 0) (cl27 _ hz.kp) [.int .i64 x2.d.seq, .slice x2.a0 x2.n0 x2.c0, .bool x2.d.whole] rfl))) fun _ F29 => ?_
       refine d_one (i := 8) (listed' := #[true, true, true, true, true, true, true, true, true, false]) rfl (by kernel_rfl) rfl rfl ?_
       refine f_call F29 CF_76 rfl rfl rfl rfl (lc (F29.ev 20 rfl) (lc (F29.ev 24 rfl) rfl)) (laws_eqSlot_c (a := x1.d) (b := x2.d) okx1 (Rd.mv (Nat.succ_pos _) VI16 S19) okx2 (Rd.mv (Nat.succ_pos _) VI18 S19) (by exact elM p0 hx1 hx2)) ?_
       rintro _ w30 ⟨rfl, m30⟩
       refine ⟨_, rfl, fun _ F31 => ?_⟩
       have S30 := At.frame0 S19.at' m30
       clear m30
       refine ⟨Sd.of S30 [] rfl, ?_⟩
       refine g_take F31 rfl (i := 9) (listed' := #[true, true, true, true, true, true, true, true, true, true]) rfl (by kernel_rfl) (by kernel_rfl) (by kernel_rfl) (fun _ _ _ h => h) (Sd.of S30 [] rfl) rfl rfl rfl rfl (fun _ hz => (r_not rfl (F31.ev 25 rfl))) fun _ F32 => ?_
       refine wpAnyH_done (by kernel_rfl) (x_normal ?_) _
       exact ⟨F32.cut rfl, ((S19.trans S30).pick [] rfl)⟩
     · rintro a33 w33 ⟨F33, S33⟩
       refine x_normal (wp_cond_false (F33.ev 26 rfl) (wp_skip (x_block_normal (x_normal (wp_region_lit (l_op (f_mv F33 rfl rfl rfl rfl rfl fun _ F34 => ?_)))))))
       refine l_op (f_val F34 rfl rfl (r_add (z := ((k + 1 : Nat) : Int)) rfl (F34.ev 15 rfl) rfl (by first | rfl | omega) ⟨by first | omega | (unfold i64ok at *; omega), by first | omega | (unfold i64ok at *; omega)⟩) rfl fun _ F35 => ?_)
       refine l_op (f_as F35 rfl rfl rfl rfl rfl fun _ F36 => ?_)
       refine s_end ?_
       refine x_normal ⟨k + 1, by omega, F36.cut rfl, ((S8.trans S33).pick [] rfl), by omega⟩
   · skip
     refine wp_exit (x_then_exit (x_then_exit (x_block_here (x_normal (wp_seq (wp_region_lit (l_op (f_val F12 rfl rfl (r_assign rfl rfl) rfl fun _ F37 => ?_))))))))
     refine s_end (x_normal (wp_ret ?_))
     refine x_done (v := .bool true) F37 (results_1 Tryz.results55 (.tmp (F37.ev 4 rfl))) ?_
     exact ⟨rfl, (Mv.pick S8 [] rfl)⟩
theorem laws_szJournal_c {w : World} {H : Nat → Prop} {a : JouD} {left : Int} (Q1 : okS a.text) (Q0 : i64ok a.sure) (Q2 : i64ok left) (p0 : 0 ≤ left) (p1 : left ≤ 1048576) :
    Calls Tryz.prog 37 #[.agg #[.string a.text, .int .i64 a.sure], .int .i64 left] w fun e w' => e = .returned (.int .i64 (subOr left a.text.size)) ∧ Mv [] w [] w' ∧ i64ok (subOr left a.text.size) := by
 have uU : True := (fun _ _ _ => trivial) H Q0 Q2
 clear uU
 have hz1 := Q1
 unfold okS at hz1
 refine calls_enter 13 Tryz.func37 rfl Tryz.ntmps37 (Nat.le_of_ble_eq_true rfl) (fun _ F0i => ?_)
 have F0 : Fr 13 [(0, .agg #[.string a.text, .int .i64 a.sure]), (1, .int .i64 left)] _ := F0i
 clear F0i
 refine wp_seq (wp_region_lit (l_op (f_box F0 (At.nil w) rfl rfl rfl (F0.ev 0 rfl) rfl rfl fun b1 _ w1 F2 S1 => ?_)))
 refine l_op (f_val F2 rfl rfl (r_assign rfl rfl) rfl fun _ F3 => ?_)
 refine s_end (x_normal (wp_seq (wp_region_lit (l_op (f_mv F3 rfl rfl rfl rfl rfl fun _ F4 => ?_)))))
 refine l_op (f_val F4 rfl rfl (r_field FI_26_0 rfl (F4.ev 2 rfl) rfl) rfl fun _ F5 => ?_)
 refine l_op (f_val (v := .string a.text) F5 rfl rfl (r_loadB S1.at' 0 TI_9 rfl rfl (F5.ev 6 rfl) rfl rfl (fun _ => rfl) rfl) rfl fun _ F6 => ?_)
 refine l_op (f_val F6 rfl rfl (r_lenS (fun t ht => by cases ht; exact Tryz.underlying9) rfl rfl (F6.ev 7 rfl)) rfl fun _ F7 => ?_)
 refine l_op (f_val F7 rfl rfl (r_sub (z := (left - ((a.text.size : Nat) : Int))) rfl (F7.ev 5 rfl) (F7.ev 8 rfl) (by first | rfl | omega) ⟨by first | omega | (unfold i64ok at *; omega), by first | omega | (unfold i64ok at *; omega)⟩) rfl fun _ F8 => ?_)
 refine l_op (f_as F8 rfl rfl rfl rfl rfl fun _ F9 => ?_)
 refine s_end (x_normal (wp_seq (wp_seq (wp_region_lit (l_op (f_mv F9 rfl rfl rfl rfl rfl fun _ F10 => ?_))))))
 refine l_op (f_val F10 rfl rfl (r_cmp (b := decide ((left - ((a.text.size : Nat) : Int)) < 0)) (.inr (.inr (.inl rfl))) rfl (F10.ev 10 rfl) rfl (dec_of (by omega))) rfl fun _ F11 => ?_)
 have F12 : Fr 13 [(11, .bool (decide ((left - ((a.text.size : Nat) : Int)) < 0))), (1, .int .i64 (left - ((a.text.size : Nat) : Int)))] _ := F11.cut rfl
 clear F0 F2 F3 F4 F5 F6 F7 F8 F9 F10 F11
 refine s_end (x_normal (x_cond (p := (left - ((a.text.size : Nat) : Int)) < 0) (F12.ev 11 rfl) (fun h13 => ?_) (fun h13 => ?_)))
 · skip
   refine wp_seq (wp_region_lit (l_op (f_val F12 rfl rfl (r_assign rfl rfl) rfl fun _ F14 => ?_)))
   refine s_end (x_normal (wp_ret (x_then_ret ?_)))
   refine x_done (v := .int .i64 (-1)) F14 (results_1 Tryz.results37 (.tmp (F14.ev 4 rfl))) ?_
   exact ⟨(by rw [(show (-1) = (subOr left a.text.size) from by first | exact sz1_a (by assumption) | exact sz1_b (by assumption))]), (Mv.pick S1 [] rfl), subOr_i64 p0 p1⟩
 · skip
   refine wp_skip (x_normal (wp_seq (wp_region_lit (l_op (f_mv F12 rfl rfl rfl rfl rfl fun _ F15 => ?_)))))
   refine l_op (f_as F15 rfl rfl rfl rfl rfl fun _ F16 => ?_)
   refine s_end (x_normal (wp_ret ?_))
   refine x_done (v := .int .i64 (left - ((a.text.size : Nat) : Int))) F16 (results_1 Tryz.results37 (.tmp (F16.ev 4 rfl))) ?_
   exact ⟨(by rw [(show (left - ((a.text.size : Nat) : Int)) = (subOr left a.text.size) from by first | exact sz1_a (by assumption) | exact sz1_b (by assumption))]), (Mv.pick S1 [] rfl), subOr_i64 p0 p1⟩
theorem laws_toJournal_c {w : World} {H : Nat → Prop} {a : JouD} (Q1 : okS a.text) (Q0 : i64ok a.sure) :
    Calls Tryz.prog 46 #[.agg #[.string a.text, .int .i64 a.sure]] w fun e w' => e = .returned (.agg #[.string a.text, .int .i64 a.sure]) ∧ Mv [] w [] w' ∧ okS a.text ∧ i64ok a.sure := by
 have uU : True := (fun _ _ => trivial) H Q0
 clear uU
 refine calls_enter 11 Tryz.func46 rfl Tryz.ntmps46 (Nat.le_of_ble_eq_true rfl) (fun _ F0i => ?_)
 have F0 : Fr 11 [(0, .agg #[.string a.text, .int .i64 a.sure])] _ := F0i
 clear F0i
 refine wp_seq (wp_region_lit (l_op (f_box F0 (At.nil w) rfl rfl rfl (F0.ev 0 rfl) rfl rfl fun b1 _ w1 F2 S1 => ?_)))
 refine l_op (f_alloc F2 S1.at' ZI_38 rfl rfl rfl rfl rfl fun b3 _ w3 F4 S3 => ?_)
 have T5 : Mv _ _ [bx b3 [.string (⟨#[]⟩ : ByteArray), .int .i64 0] 38, bx b1 [.string a.text, .int .i64 a.sure] 26] _ := S3
 refine s_end (x_normal (wp_seq (wp_region_lit (l_op (f_alloc F4 T5.at' ZI_38 rfl rfl rfl rfl rfl fun b6 _ w6 F7 S6 => ?_)))))
 refine s_end (x_normal (wp_seq (wp_region_lit (l_op (f_val F7 rfl rfl (r_field FI_26_0 rfl (F7.ev 1 rfl) rfl) rfl fun _ F8 => ?_)))))
 refine l_op (f_val (v := .string a.text) F8 rfl rfl (r_loadB S6.at' 2 TI_9 rfl rfl (F8.ev 4 rfl) rfl rfl (fun _ => rfl) rfl) rfl fun _ F9 => ?_)
 refine l_op (f_val F9 rfl rfl (r_field FI_38_0 rfl (F9.ev 3 rfl) rfl) rfl fun _ F10 => ?_)
 refine l_op (s_store S6.at' 0 TI_9 rfl rfl rfl rfl rfl (F10.ev 6 rfl) (F10.ev 5 rfl) rfl rfl rfl rfl rfl fun w11 S11 => ?_)
 have T12 : Mv _ _ [bx b6 [.string a.text, .int .i64 0] 38, bx b3 [.string (⟨#[]⟩ : ByteArray), .int .i64 0] 38, bx b1 [.string a.text, .int .i64 a.sure] 26] _ := S11
 refine s_end (x_normal (wp_seq (wp_region_lit (l_op (f_val F10 rfl rfl (r_field FI_26_1 rfl (F10.ev 1 rfl) rfl) rfl fun _ F13 => ?_)))))
 refine l_op (f_val (v := .int .i64 a.sure) F13 rfl rfl (r_loadB T12.at' 2 TI_3 rfl rfl (F13.ev 7 rfl) rfl rfl (fun _ => rfl) rfl) rfl fun _ F14 => ?_)
 refine l_op (f_val F14 rfl rfl (r_field FI_38_1 rfl (F14.ev 3 rfl) rfl) rfl fun _ F15 => ?_)
 refine l_op (s_store T12.at' 0 TI_3 rfl rfl rfl rfl rfl (F15.ev 9 rfl) (F15.ev 8 rfl) rfl rfl rfl rfl rfl fun w16 S16 => ?_)
 have F17 : Fr 11 [(9, .pointer (some ⟨b6, 1, none⟩)), (8, .int .i64 a.sure), (3, .pointer (some ⟨b6, 0, none⟩)), (2, .pointer (some ⟨b3, 0, none⟩))] _ := F15.cut rfl
 clear F0 F2 F4 F7 F8 F9 F10 F13 F14 F15
 refine s_end (x_normal (wp_seq (wp_region_lit (l_op (f_val (v := .agg #[.string a.text, .int .i64 a.sure]) F17 rfl rfl (r_loadB S16.at' 0 TI_38 rfl rfl (F17.ev 3 rfl) rfl rfl (fun h => nomatch h) rfl) rfl fun _ F18 => ?_)))))
 refine l_op (s_store S16.at' 1 TI_38 rfl rfl rfl rfl rfl (F18.ev 2 rfl) (F18.ev 10 rfl) rfl rfl rfl rfl rfl fun w19 S19 => ?_)
 have T20 : Mv _ _ [bx b3 [.string a.text, .int .i64 a.sure] 38, bx b6 [.string a.text, .int .i64 a.sure] 38, bx b1 [.string a.text, .int .i64 a.sure] 26] _ := S19
 refine s_end (x_normal (wp_ret ?_))
 refine x_done (v := .agg #[.string a.text, .int .i64 a.sure]) F18 (results_1 Tryz.results46 (.cell (F18.ev 2 rfl) (run_loadVar' TI_38 _ [.string a.text, .int .i64 a.sure] rfl (fun h => nomatch h) (At.cells T20.at' 0 rfl 0 [.string a.text, .int .i64 a.sure] rfl)))) ?_
 exact ⟨rfl, (Mv.pick (S1.trans (T5.trans (S6.trans (T12.trans (S16.trans T20))))) [] rfl), Q1, by first | assumption | omega⟩
theorem laws_eqJournal_c {w : World} {H : Nat → Prop} {a : JouD} {b : JouD} (Q1 : okS a.text) (Q0 : i64ok a.sure) (Q3 : okS b.text) (Q2 : i64ok b.sure) (p0 : a = b) :
    Calls Tryz.prog 56 #[.agg #[.string a.text, .int .i64 a.sure], .agg #[.string b.text, .int .i64 b.sure]] w fun e w' => e = .returned (.bool true) ∧ Mv [] w [] w' := by
 have uU : True := (fun _ _ _ _ _ => trivial) H Q1 Q0 Q3 Q2
 clear uU
 refine calls_enter 15 Tryz.func56 rfl Tryz.ntmps56 (Nat.le_of_ble_eq_true rfl) (fun _ F0i => ?_)
 have F0 : Fr 15 [(0, .agg #[.string a.text, .int .i64 a.sure]), (1, .agg #[.string b.text, .int .i64 b.sure])] _ := F0i
 clear F0i
 refine wp_seq (wp_region_lit (l_op (f_box F0 (At.nil w) rfl rfl rfl (F0.ev 0 rfl) rfl rfl fun b1 _ w1 F2 S1 => ?_)))
 refine l_op (f_box F2 S1.at' rfl rfl rfl (F2.ev 1 rfl) rfl rfl fun b3 _ w3 F4 S3 => ?_)
 refine l_op (f_val F4 rfl rfl (r_assign rfl rfl) rfl fun _ F5 => ?_)
 have T6 : Mv _ _ [bx b3 [.string b.text, .int .i64 b.sure] 38, bx b1 [.string a.text, .int .i64 a.sure] 38] _ := S3
 refine s_end (x_normal (wp_seq (wp_seq (wp_region_lit (l_op (f_val F5 rfl rfl (r_field FI_38_0 rfl (F5.ev 2 rfl) rfl) rfl fun _ F7 => ?_))))))
 refine l_op (f_val (v := .string a.text) F7 rfl rfl (r_loadB T6.at' 1 TI_9 rfl rfl (F7.ev 5 rfl) rfl rfl (fun _ => rfl) rfl) rfl fun _ F8 => ?_)
 refine l_op (f_val F8 rfl rfl (r_field FI_38_0 rfl (F8.ev 3 rfl) rfl) rfl fun _ F9 => ?_)
 refine l_op (f_val (v := .string b.text) F9 rfl rfl (r_loadB T6.at' 0 TI_9 rfl rfl (F9.ev 7 rfl) rfl rfl (fun _ => rfl) rfl) rfl fun _ F10 => ?_)
 refine l_op (f_val F10 rfl rfl (r_cmps (b := (decide (a.text ≠ b.text))) (.inr (.inl rfl)) rfl (F10.ev 6 rfl) (F10.ev 8 rfl) rfl) rfl fun _ F11 => ?_)
 rw [show (decide (a.text ≠ b.text)) = false from decide_eq_false (fun h => h (by rw [p0]))] at F11
 refine s_end (x_normal (wp_cond_false (F11.ev 9 rfl) (wp_skip (x_normal (wp_seq (wp_seq (wp_region_lit (l_op (f_val F11 rfl rfl (r_field FI_38_1 rfl (F11.ev 2 rfl) rfl) rfl fun _ F12 => ?_)))))))))
 refine l_op (f_val (v := .int .i64 a.sure) F12 rfl rfl (r_loadB T6.at' 1 TI_3 rfl rfl (F12.ev 10 rfl) rfl rfl (fun _ => rfl) rfl) rfl fun _ F13 => ?_)
 refine l_op (f_val F13 rfl rfl (r_field FI_38_1 rfl (F13.ev 3 rfl) rfl) rfl fun _ F14 => ?_)
 refine l_op (f_val (v := .int .i64 b.sure) F14 rfl rfl (r_loadB T6.at' 0 TI_3 rfl rfl (F14.ev 12 rfl) rfl rfl (fun _ => rfl) rfl) rfl fun _ F15 => ?_)
 refine l_op (f_val F15 rfl rfl (r_cmp (b := decide (a.sure ≠ b.sure)) (.inr (.inl rfl)) rfl (F15.ev 11 rfl) (F15.ev 13 rfl) (dec_of (by omega))) rfl fun _ F16 => ?_)
 rw [show (decide (a.sure ≠ b.sure)) = false from decide_eq_false (fun h => h (by rw [p0]))] at F16
 have F17 : Fr 15 [(14, .bool false)] _ := F16.cut rfl
 clear F0 F2 F4 F5 F7 F8 F9 F10 F11 F12 F13 F14 F15 F16
 refine s_end (x_normal (wp_cond_false (F17.ev 14 rfl) (wp_skip (x_normal (wp_seq (wp_region_lit (l_op (f_val F17 rfl rfl (r_assign rfl rfl) rfl fun _ F18 => ?_))))))))
 refine s_end (x_normal (wp_ret ?_))
 refine x_done (v := .bool true) F18 (results_1 Tryz.results56 (.tmp (F18.ev 4 rfl))) ?_
 exact ⟨rfl, (Mv.pick (S1.trans T6) [] rfl)⟩
theorem laws_szDisk_c {w : World} {H : Nat → Prop} {a : DiskH} {Q0 : Option Addr} {Q2 Q1 : Nat} {left : Int} (Q3 : RdA 3 encSlot okSlot H w (.slice Q0 Q2 Q1) a.slots) (Q9 : NRa inSlot H w a.slots) (Q7 : okS a.journal.text) (Q6 : i64ok a.journal.sure) (Q8 : i64ok left) (p0 : 0 ≤ left) (p1 : left ≤ 1048576) :
    Calls Tryz.prog 11 #[.agg #[.slice Q0 Q2 Q1, .string a.journal.text, .int .i64 a.journal.sure], .int .i64 left] w fun e w' => e = .returned (.int .i64 (subOr left (szDiskH a))) ∧ Mv [] w [] w' ∧ i64ok (subOr left (szDiskH a)) := by
 have uU : True := (fun _ => trivial) Q6
 clear uU
 have Q5 : RdA 3 encSlot okSlot (V H w []) w (.slice Q0 Q2 Q1) a.slots := RdA.start Q3 (fun _ _ => fps_nil _)
 obtain ⟨Q11, Q10, Q12, Q13⟩ := RdA.inv Q3
 have Q4 : NRa inSlot (V H w []) w a.slots := NRa.start Q9 (fun _ _ => fps_nil _)
 refine calls_enter 18 Tryz.func11 rfl Tryz.ntmps11 (Nat.le_of_ble_eq_true rfl) (fun _ F0i => ?_)
 have F0 : Fr 18 [(0, .agg #[.slice Q0 Q2 Q1, .string a.journal.text, .int .i64 a.journal.sure]), (1, .int .i64 left)] _ := F0i
 clear F0i
 refine wp_seq (wp_region_lit (l_op (f_box F0 (At.nil w) rfl rfl rfl (F0.ev 0 rfl) rfl rfl fun b1 _ w1 F2 S1 => ?_)))
 refine l_op (f_val F2 rfl rfl (r_assign rfl rfl) rfl fun _ F3 => ?_)
 refine s_end (x_normal (wp_seq (wp_region_lit (l_op (f_val F3 rfl rfl (r_field FI_28_0 rfl (F3.ev 2 rfl) rfl) rfl fun _ F4 => ?_)))))
 refine l_op (f_val (v := .slice Q0 Q2 Q1) F4 rfl rfl (r_loadB S1.at' 0 TI_24 rfl rfl (F4.ev 5 rfl) rfl rfl (fun _ => rfl) rfl) rfl fun _ F5 => ?_)
 refine l_op (f_mv F5 rfl rfl rfl rfl rfl fun _ F6 => ?_)
 refine l_op (f_call F6 CF_36 rfl rfl rfl rfl (lc (F6.ev 6 rfl) (lc (F6.ev 7 rfl) rfl)) (laws_szSlotS_c (a := a.slots) (left := left) (RdA.mv (Nat.succ_pos _) Q5 S1) (NRa.mv Q4 S1) Q8 (by first | assumption | omega | (simp <;> omega)) (by first | assumption | omega | (simp <;> omega))) ?_)
 rintro _ w7 ⟨rfl, m7, q7_0⟩
 refine ⟨_, rfl, fun _ F8 => ?_⟩
 have S7 := At.frame0 S1.at' m7
 clear m7
 refine l_op (f_as F8 rfl rfl rfl rfl rfl fun _ F9 => ?_)
 have T10 : Mv _ _ [bx b1 [.slice Q0 Q2 Q1, .string a.journal.text, .int .i64 a.journal.sure] 28] _ := S7
 refine s_end (x_normal (wp_seq (wp_seq (wp_region_lit (l_op (f_mv F9 rfl rfl rfl rfl rfl fun _ F11 => ?_))))))
 refine l_op (f_val F11 rfl rfl (r_cmp (b := decide ((subOr left (szSlotsH a.slots)) < 0)) (.inr (.inr (.inl rfl))) rfl (F11.ev 9 rfl) rfl (dec_of (by omega))) rfl fun _ F12 => ?_)
 have F13 : Fr 18 [(10, .bool (decide ((subOr left (szSlotsH a.slots)) < 0))), (1, .int .i64 (subOr left (szSlotsH a.slots))), (2, .pointer (some ⟨b1, 0, none⟩))] _ := F12.cut rfl
 clear F0 F2 F3 F4 F5 F6 F8 F9 F11 F12
 refine s_end (x_normal (x_cond (p := (subOr left (szSlotsH a.slots)) < 0) (F13.ev 10 rfl) (fun h14 => ?_) (fun h14 => ?_)))
 · skip
   refine wp_seq (wp_region_lit (l_op (f_val F13 rfl rfl (r_assign rfl rfl) rfl fun _ F15 => ?_)))
   refine s_end (x_normal (wp_ret (x_then_ret ?_)))
   refine x_done (v := .int .i64 (-1)) F15 (results_1 Tryz.results11 (.tmp (F15.ev 4 rfl))) ?_
   exact ⟨(by rw [(show (-1) = (subOr left (szDiskH a)) from by unfold szDiskH; first | exact sz2_a (by assumption) | exact sz2_b (by assumption) | (rw [← sz2_b (by assumption)]; exact subOr_neg1 (by assumption)))]), (Mv.pick (S1.trans T10) [] rfl), subOr_i64 p0 p1⟩
 · skip
   refine wp_skip (x_normal (wp_seq (wp_region_lit (l_op (f_val F13 rfl rfl (r_field FI_28_1 rfl (F13.ev 2 rfl) rfl) rfl fun _ F16 => ?_)))))
   refine l_op (f_val (v := .agg #[.string a.journal.text, .int .i64 a.journal.sure]) F16 rfl rfl (r_loadB T10.at' 0 TI_26 rfl rfl (F16.ev 11 rfl) rfl rfl (fun h => nomatch h) rfl) rfl fun _ F17 => ?_)
   refine l_op (f_mv F17 rfl rfl rfl rfl rfl fun _ F18 => ?_)
   refine l_op (f_call F18 CF_37 rfl rfl rfl rfl (lc (F18.ev 12 rfl) (lc (F18.ev 13 rfl) rfl)) (laws_szJournal_c (H := fun _ => True) (a := a.journal) (left := (subOr left (szSlotsH a.slots))) Q7 (by first | assumption | exact ⟨by omega, by omega⟩ | (unfold i64ok at *; omega) | (simp only [i64ok]; omega)) (by first | assumption | exact ⟨by omega, by omega⟩ | (unfold i64ok at *; omega)) (by first | assumption | omega | (simp <;> omega)) (by have q1 := subOr_bd left (szSlotsH a.slots) p0; omega)) ?_)
   rintro _ w19 ⟨rfl, m19, q19_0⟩
   refine ⟨_, rfl, fun _ F20 => ?_⟩
   have S19 := At.frame0 T10.at' m19
   clear m19
   refine l_op (f_as F20 rfl rfl rfl rfl rfl fun _ F21 => ?_)
   refine s_end (x_normal (wp_seq (wp_seq (wp_region_lit (l_op (f_mv F21 rfl rfl rfl rfl rfl fun _ F22 => ?_))))))
   refine l_op (f_val F22 rfl rfl (r_cmp (b := decide ((subOr (subOr left (szSlotsH a.slots)) a.journal.text.size) < 0)) (.inr (.inr (.inl rfl))) rfl (F22.ev 15 rfl) rfl (dec_of (by omega))) rfl fun _ F23 => ?_)
   refine s_end (x_normal (x_cond (p := (subOr (subOr left (szSlotsH a.slots)) a.journal.text.size) < 0) (F23.ev 16 rfl) (fun h24 => ?_) (fun h24 => ?_)))
   · skip
     refine wp_seq (wp_region_lit (l_op (f_val F23 rfl rfl (r_assign rfl rfl) rfl fun _ F25 => ?_)))
     refine s_end (x_normal (wp_ret (x_then_ret ?_)))
     refine x_done (v := .int .i64 (-1)) F25 (results_1 Tryz.results11 (.tmp (F25.ev 4 rfl))) ?_
     exact ⟨(by rw [(show (-1) = (subOr left (szDiskH a)) from by unfold szDiskH; first | exact sz2_a (by assumption) | exact sz2_b (by assumption) | (rw [← sz2_b (by assumption)]; exact subOr_neg1 (by assumption)))]), (Mv.pick (S1.trans (T10.trans S19)) [] rfl), subOr_i64 p0 p1⟩
   · skip
     refine wp_skip (x_normal (wp_seq (wp_region_lit (l_op (f_mv F23 rfl rfl rfl rfl rfl fun _ F26 => ?_)))))
     refine l_op (f_as F26 rfl rfl rfl rfl rfl fun _ F27 => ?_)
     have F28 : Fr 18 [(4, .int .i64 (subOr (subOr left (szSlotsH a.slots)) a.journal.text.size))] _ := F27.cut rfl
     clear F13 F16 F17 F18 F20 F21 F22 F23 F26 F27
     refine s_end (x_normal (wp_ret ?_))
     refine x_done (v := .int .i64 (subOr (subOr left (szSlotsH a.slots)) a.journal.text.size)) F28 (results_1 Tryz.results11 (.tmp (F28.ev 4 rfl))) ?_
     exact ⟨(by rw [(show (subOr (subOr left (szSlotsH a.slots)) a.journal.text.size) = (subOr left (szDiskH a)) from by unfold szDiskH; first | exact sz2_a (by assumption) | exact sz2_b (by assumption) | (rw [← sz2_b (by assumption)]; exact subOr_neg1 (by assumption)))]), (Mv.pick (S1.trans (T10.trans S19)) [] rfl), subOr_i64 p0 p1⟩
theorem laws_toDisk_c {w : World} {H : Nat → Prop} {a : DiskH} {Q3 : Option Addr} {Q5 Q4 : Nat} (Q9 : RdA 3 encSlot okSlot H w (.slice Q3 Q5 Q4) a.slots) (Q15 : NRa inSlot H w a.slots) (Q13 : okS a.journal.text) (Q12 : i64ok a.journal.sure) (p0 : slotsFit 1048576 (a.slots.map SlotH.d)) :
    Calls Tryz.prog 21 #[.agg #[.slice Q3 Q5 Q4, .string a.journal.text, .int .i64 a.journal.sure]] w fun e w' => ∃ (D : List SlotH), ∃ (Q6 : Option Addr), ∃ (Q8 : Nat), ∃ (Q7 : Nat), e = .returned (.agg #[.slice Q6 Q8 Q7, .string a.journal.text, .int .i64 a.journal.sure]) ∧ Mv [] w [ow 92 3 encSlot okSlot (.slice Q6 Q8 Q7) D, gr inSlot D] w' ∧ okS a.journal.text ∧ D.map SlotH.d = a.slots.map SlotH.d ∧ D.length = a.slots.length ∧ i64ok a.journal.sure := by
 have uU : True := (fun _ => trivial) Q12
 clear uU
 have Q11 : RdA 3 encSlot okSlot (V H w []) w (.slice Q3 Q5 Q4) a.slots := RdA.start Q9 (fun _ _ => fps_nil _)
 obtain ⟨Q17, Q16, Q21, Q22⟩ := RdA.inv Q9
 have Q10 : NRa inSlot (V H w []) w a.slots := NRa.start Q15 (fun _ _ => fps_nil _)
 refine calls_enter 13 Tryz.func21 rfl Tryz.ntmps21 (Nat.le_of_ble_eq_true rfl) (fun _ F0i => ?_)
 have F0 : Fr 13 [(0, .agg #[.slice Q3 Q5 Q4, .string a.journal.text, .int .i64 a.journal.sure])] _ := F0i
 clear F0i
 refine wp_seq (wp_region_lit (l_op (f_box F0 (At.nil w) rfl rfl rfl (F0.ev 0 rfl) rfl rfl fun b1 _ w1 F2 S1 => ?_)))
 refine l_op (f_alloc F2 S1.at' ZI_40 rfl rfl rfl rfl rfl fun b3 _ w3 F4 S3 => ?_)
 have T5 : Mv _ _ [bx b3 [.slice none 0 0, .string (⟨#[]⟩ : ByteArray), .int .i64 0] 40, bx b1 [.slice Q3 Q5 Q4, .string a.journal.text, .int .i64 a.journal.sure] 28] _ := S3
 refine s_end (x_normal (wp_seq (wp_region_lit (l_op (f_alloc F4 T5.at' ZI_40 rfl rfl rfl rfl rfl fun b6 _ w6 F7 S6 => ?_)))))
 refine s_end (x_normal (wp_seq (wp_region_lit (l_op (f_val F7 rfl rfl (r_field FI_28_0 rfl (F7.ev 1 rfl) rfl) rfl fun _ F8 => ?_)))))
 refine l_op (f_val (v := .slice Q3 Q5 Q4) F8 rfl rfl (r_loadB S6.at' 2 TI_24 rfl rfl (F8.ev 4 rfl) rfl rfl (fun _ => rfl) rfl) rfl fun _ F9 => ?_)
 refine l_op (f_call F9 CF_45 rfl rfl rfl rfl (lc (F9.ev 5 rfl) rfl) (laws_toSlotS_c (a := a.slots) (RdA.mv (Nat.succ_pos _) Q11 (S1.trans (T5.trans S6))) (NRa.mv Q10 (S1.trans (T5.trans S6))) (by exact p0.len) (by first | assumption | omega | (simp <;> omega))) ?_)
 rintro _ w10 ⟨D_10, Q0, Q2, Q1, rfl, m10, q10_0, q10_1⟩
 refine ⟨_, rfl, fun _ F11 => ?_⟩
 have S10 : Mv _ _ [ow 92 3 encSlot okSlot (.slice Q0 Q2 Q1) D_10, gr inSlot D_10, bx b6 [.slice none 0 0, .string (⟨#[]⟩ : ByteArray), .int .i64 0] 40, bx b3 [.slice none 0 0, .string (⟨#[]⟩ : ByteArray), .int .i64 0] 40, bx b1 [.slice Q3 Q5 Q4, .string a.journal.text, .int .i64 a.journal.sure] 28] _ := At.frame S6.at' [] rfl m10
 obtain ⟨Q18, Q19, Q20⟩ := At.ownInv S10.at' ET_37.hk 0 rfl
 clear m10
 refine l_op (f_val F11 rfl rfl (r_field FI_40_0 rfl (F11.ev 3 rfl) rfl) rfl fun _ F12 => ?_)
 refine l_op (s_store S10.at' 2 TI_37 rfl rfl rfl rfl rfl (F12.ev 7 rfl) (F12.ev 6 rfl) rfl rfl rfl rfl rfl fun w13 S13 => ?_)
 have T14 : Mv _ _ [bx b6 [.slice Q0 Q2 Q1, .string (⟨#[]⟩ : ByteArray), .int .i64 0] 40, ow 92 3 encSlot okSlot (.slice Q0 Q2 Q1) D_10, gr inSlot D_10, bx b3 [.slice none 0 0, .string (⟨#[]⟩ : ByteArray), .int .i64 0] 40, bx b1 [.slice Q3 Q5 Q4, .string a.journal.text, .int .i64 a.journal.sure] 28] _ := S13
 refine s_end (x_normal (wp_seq (wp_region_lit (l_op (f_val F12 rfl rfl (r_field FI_28_1 rfl (F12.ev 1 rfl) rfl) rfl fun _ F15 => ?_)))))
 refine l_op (f_val (v := .agg #[.string a.journal.text, .int .i64 a.journal.sure]) F15 rfl rfl (r_loadB T14.at' 4 TI_26 rfl rfl (F15.ev 8 rfl) rfl rfl (fun h => nomatch h) rfl) rfl fun _ F16 => ?_)
 refine l_op (f_call F16 CF_46 rfl rfl rfl rfl (lc (F16.ev 9 rfl) rfl) (laws_toJournal_c (H := fun _ => True) (a := a.journal) Q13 (by first | assumption | exact ⟨by omega, by omega⟩ | (unfold i64ok at *; omega) | (simp only [i64ok]; omega))) ?_)
 rintro _ w17 ⟨rfl, m17, Q14, q17_0⟩
 refine ⟨_, rfl, fun _ F18 => ?_⟩
 have S17 := At.frame0 T14.at' m17
 clear m17
 refine l_op (f_val F18 rfl rfl (r_field FI_40_1 rfl (F18.ev 3 rfl) rfl) rfl fun _ F19 => ?_)
 refine l_op (s_store S17.at' 0 TI_38 rfl rfl rfl rfl rfl (F19.ev 11 rfl) (F19.ev 10 rfl) rfl rfl rfl rfl rfl fun w20 S20 => ?_)
 have F21 : Fr 13 [(11, .pointer (some ⟨b6, 1, none⟩)), (10, .agg #[.string a.journal.text, .int .i64 a.journal.sure]), (3, .pointer (some ⟨b6, 0, none⟩)), (2, .pointer (some ⟨b3, 0, none⟩))] _ := F19.cut rfl
 clear F0 F2 F4 F7 F8 F9 F11 F12 F15 F16 F18 F19
 have T22 : Mv _ _ [bx b6 [.slice Q0 Q2 Q1, .string a.journal.text, .int .i64 a.journal.sure] 40, ow 92 3 encSlot okSlot (.slice Q0 Q2 Q1) D_10, gr inSlot D_10, bx b3 [.slice none 0 0, .string (⟨#[]⟩ : ByteArray), .int .i64 0] 40, bx b1 [.slice Q3 Q5 Q4, .string a.journal.text, .int .i64 a.journal.sure] 28] _ := S20
 refine s_end (x_normal (wp_seq (wp_region_lit (l_op (f_val (v := .agg #[.slice Q0 Q2 Q1, .string a.journal.text, .int .i64 a.journal.sure]) F21 rfl rfl (r_loadB T22.at' 0 TI_40 rfl rfl (F21.ev 3 rfl) rfl rfl (fun h => nomatch h) rfl) rfl fun _ F23 => ?_)))))
 refine l_op (s_store T22.at' 3 TI_40 rfl rfl rfl rfl rfl (F23.ev 2 rfl) (F23.ev 12 rfl) rfl rfl rfl rfl rfl fun w24 S24 => ?_)
 refine s_end (x_normal (wp_ret ?_))
 refine x_done (v := .agg #[.slice Q0 Q2 Q1, .string a.journal.text, .int .i64 a.journal.sure]) F23 (results_1 Tryz.results21 (.cell (F23.ev 2 rfl) (run_loadVar' TI_40 _ [.slice Q0 Q2 Q1, .string a.journal.text, .int .i64 a.journal.sure] rfl (fun h => nomatch h) (At.cells S24.at' 0 rfl 0 [.slice Q0 Q2 Q1, .string a.journal.text, .int .i64 a.journal.sure] rfl)))) ?_
 exact ⟨D_10, Q0, Q2, Q1, rfl, (Mv.pick (S1.trans (T5.trans (S6.trans (S10.trans (T14.trans (S17.trans (T22.trans S24))))))) [2, 3] rfl), Q14, by first | assumption | exact w64_ok _ | omega | (unfold i64ok; omega), by first | assumption | exact w64_ok _ | omega | (unfold i64ok; omega), by first | assumption | exact w64_ok _ | omega | (unfold i64ok; omega)⟩
theorem laws_eqDisk_c {w : World} {H : Nat → Prop} {a : DiskH} {Q0 : Option Addr} {Q2 Q1 : Nat} {b : DiskH} {Q3 : Option Addr} {Q5 Q4 : Nat} (Q6 : Rd 3 encSlot okSlot H w (.slice Q0 Q2 Q1) a.slots) (Q16 : NRd inSlot H w a.slots) (Q13 : okS a.journal.text) (Q12 : i64ok a.journal.sure) (Q7 : Rd 3 encSlot okSlot H w (.slice Q3 Q5 Q4) b.slots) (Q17 : NRd inSlot H w b.slots) (Q15 : okS b.journal.text) (Q14 : i64ok b.journal.sure) (p0 : a.slots.map SlotH.d = b.slots.map SlotH.d) (p1 : a.journal = b.journal) :
    Calls Tryz.prog 31 #[.agg #[.slice Q0 Q2 Q1, .string a.journal.text, .int .i64 a.journal.sure], .agg #[.slice Q3 Q5 Q4, .string b.journal.text, .int .i64 b.journal.sure]] w fun e w' => e = .returned (.bool true) ∧ Mv [] w [] w' := by
 have uU : True := (fun _ _ _ _ => trivial) Q12 Q14 p0 p1
 clear uU
 have Q10 : Rd 3 encSlot okSlot (V H w []) w (.slice Q0 Q2 Q1) a.slots := Rd.start Q6 (fun _ _ => fps_nil _)
 obtain ⟨Q20, Q18, Q22, Q24⟩ := Rd.inv Q6
 have Q11 : Rd 3 encSlot okSlot (V H w []) w (.slice Q3 Q5 Q4) b.slots := Rd.start Q7 (fun _ _ => fps_nil _)
 obtain ⟨Q21, Q19, Q23, Q25⟩ := Rd.inv Q7
 have Q8 : NRd inSlot (V H w []) w a.slots := NRd.start Q16 (fun _ _ => fps_nil _)
 have Q9 : NRd inSlot (V H w []) w b.slots := NRd.start Q17 (fun _ _ => fps_nil _)
 refine calls_enter 17 Tryz.func31 rfl Tryz.ntmps31 (Nat.le_of_ble_eq_true rfl) (fun _ F0i => ?_)
 have F0 : Fr 17 [(0, .agg #[.slice Q0 Q2 Q1, .string a.journal.text, .int .i64 a.journal.sure]), (1, .agg #[.slice Q3 Q5 Q4, .string b.journal.text, .int .i64 b.journal.sure])] _ := F0i
 clear F0i
 refine wp_seq (wp_region_lit (l_op (f_box F0 (At.nil w) rfl rfl rfl (F0.ev 0 rfl) rfl rfl fun b1 _ w1 F2 S1 => ?_)))
 refine l_op (f_box F2 S1.at' rfl rfl rfl (F2.ev 1 rfl) rfl rfl fun b3 _ w3 F4 S3 => ?_)
 refine l_op (f_val F4 rfl rfl (r_assign rfl rfl) rfl fun _ F5 => ?_)
 have T6 : Mv _ _ [bx b3 [.slice Q3 Q5 Q4, .string b.journal.text, .int .i64 b.journal.sure] 40, bx b1 [.slice Q0 Q2 Q1, .string a.journal.text, .int .i64 a.journal.sure] 40] _ := S3
 refine s_end (x_normal (wp_seq (wp_seq (wp_region_lit (l_op (f_val F5 rfl rfl (r_field FI_40_0 rfl (F5.ev 2 rfl) rfl) rfl fun _ F7 => ?_))))))
 refine l_op (f_val (v := .slice Q0 Q2 Q1) F7 rfl rfl (r_loadB T6.at' 1 TI_37 rfl rfl (F7.ev 5 rfl) rfl rfl (fun _ => rfl) rfl) rfl fun _ F8 => ?_)
 refine l_op (f_val F8 rfl rfl (r_field FI_40_0 rfl (F8.ev 3 rfl) rfl) rfl fun _ F9 => ?_)
 refine l_op (f_val (v := .slice Q3 Q5 Q4) F9 rfl rfl (r_loadB T6.at' 0 TI_37 rfl rfl (F9.ev 7 rfl) rfl rfl (fun _ => rfl) rfl) rfl fun _ F10 => ?_)
 refine l_op (f_call F10 CF_55 rfl rfl rfl rfl (lc (F10.ev 6 rfl) (lc (F10.ev 8 rfl) rfl)) (laws_eqSlotS_c (a := a.slots) (b := b.slots) (Rd.mv (Nat.succ_pos _) Q10 (S1.trans T6)) (NRd.mv Q8 (S1.trans T6)) (Rd.mv (Nat.succ_pos _) Q11 (S1.trans T6)) (NRd.mv Q9 (S1.trans T6)) (by first | assumption | omega | (simp <;> omega))) ?_)
 rintro _ w11 ⟨rfl, m11⟩
 refine ⟨_, rfl, fun _ F12 => ?_⟩
 have S11 := At.frame0 T6.at' m11
 clear m11
 refine l_op (f_val F12 rfl rfl (r_not rfl (F12.ev 9 rfl)) rfl fun _ F13 => ?_)
 have F14 : Fr 17 [(10, .bool false), (3, .pointer (some ⟨b3, 0, none⟩)), (2, .pointer (some ⟨b1, 0, none⟩))] _ := F13.cut rfl
 clear F0 F2 F4 F5 F7 F8 F9 F10 F12 F13
 refine s_end (x_normal (wp_cond_false (F14.ev 10 rfl) (wp_skip (x_normal (wp_seq (wp_seq (wp_region_lit (l_op (f_val F14 rfl rfl (r_field FI_40_1 rfl (F14.ev 2 rfl) rfl) rfl fun _ F15 => ?_)))))))))
 refine l_op (f_val (v := .agg #[.string a.journal.text, .int .i64 a.journal.sure]) F15 rfl rfl (r_loadB S11.at' 1 TI_38 rfl rfl (F15.ev 11 rfl) rfl rfl (fun h => nomatch h) rfl) rfl fun _ F16 => ?_)
 refine l_op (f_val F16 rfl rfl (r_field FI_40_1 rfl (F16.ev 3 rfl) rfl) rfl fun _ F17 => ?_)
 refine l_op (f_val (v := .agg #[.string b.journal.text, .int .i64 b.journal.sure]) F17 rfl rfl (r_loadB S11.at' 0 TI_38 rfl rfl (F17.ev 13 rfl) rfl rfl (fun h => nomatch h) rfl) rfl fun _ F18 => ?_)
 refine l_op (f_call F18 CF_56 rfl rfl rfl rfl (lc (F18.ev 12 rfl) (lc (F18.ev 14 rfl) rfl)) (laws_eqJournal_c (H := fun _ => True) (a := a.journal) (b := b.journal) Q13 (by first | assumption | exact ⟨by omega, by omega⟩ | (unfold i64ok at *; omega) | (simp only [i64ok]; omega)) Q15 (by first | assumption | exact ⟨by omega, by omega⟩ | (unfold i64ok at *; omega) | (simp only [i64ok]; omega)) (by first | assumption | omega | (simp <;> omega))) ?_)
 rintro _ w19 ⟨rfl, m19⟩
 refine ⟨_, rfl, fun _ F20 => ?_⟩
 have S19 := At.frame0 S11.at' m19
 clear m19
 refine l_op (f_val F20 rfl rfl (r_not rfl (F20.ev 15 rfl)) rfl fun _ F21 => ?_)
 have T22 : Mv _ _ [bx b3 [.slice Q3 Q5 Q4, .string b.journal.text, .int .i64 b.journal.sure] 40, bx b1 [.slice Q0 Q2 Q1, .string a.journal.text, .int .i64 a.journal.sure] 40] _ := S19
 refine s_end (x_normal (wp_cond_false (F21.ev 16 rfl) (wp_skip (x_normal (wp_seq (wp_region_lit (l_op (f_val F21 rfl rfl (r_assign rfl rfl) rfl fun _ F23 => ?_))))))))
 refine s_end (x_normal (wp_ret ?_))
 refine x_done (v := .bool true) F23 (results_1 Tryz.results31 (.tmp (F23.ev 4 rfl))) ?_
 exact ⟨rfl, (Mv.pick (S1.trans (T6.trans (S11.trans T22))) [] rfl)⟩
end Go.Proofs.YtgfilegkabbliaaGreat
