/-
  Walks: lists of transactions, disks in the laws' hands.
-/
import Derived.Test.YtgfilegkabbliaaDatNs
import Derived.Test.YtgfilegkabbliaaGenXb
namespace Go.Proofs.Ytgfilegkabbliaa
open Go.ChangeShapes Go.WideShapes Go.ChangeAt Go.RowKit
set_option maxRecDepth 100000
set_option maxHeartbeats 1000000
theorem laws_szTxS_c {w : World} {H : Nat → Prop} {a : List TxH} {a_a : Option Addr} {a_n a_c : Nat} {left : Int} (v_a : RdA 10 encTx okTx H w (.slice a_a a_n a_c) a) (u_a : NRa inTx H w a) (h_left : i64ok left) (p0 : 0 ≤ left) (p1 : left ≤ 1048576) :
    Calls Try.prog 16 #[.slice a_a a_n a_c, .int .i64 left] w fun e w' => e = .returned (.int .i64 (subOr left (szTxsH a))) ∧ Mv [] w [] w' ∧ i64ok (subOr left (szTxsH a)) := by
 have uU : True := (fun _ => trivial) h_left
 clear uU
 have V_v_a : RdA 10 encTx okTx (V H w []) w (.slice a_a a_n a_c) a := RdA.start v_a (fun _ _ => fps_nil _)
 obtain ⟨ln_a, le_a, mx_a, ni_a⟩ := RdA.inv v_a
 have V_u_a : NRa inTx (V H w []) w a := NRa.start u_a (fun _ _ => fps_nil _)
 refine calls_enter 27 Try.func16 rfl Try.ntmps16 (Nat.le_of_ble_eq_true rfl) (fun _ F0i => ?_)
 have F0 : Fr 27 [(0, .slice a_a a_n a_c), (1, .int .i64 left)] _ := F0i
 clear F0i
 refine wp_seq (wp_region_lit (l_op (f_val F0 rfl rfl (r_assign rfl rfl) rfl fun _ F1 => ?_)))
 have F2 : Fr 27 [(4, .int .i64 0), (0, .slice a_a a_n a_c), (1, .int .i64 left)] _ := F1.cut rfl
 clear F0 F1
 refine s_end (x_normal (wp_seq (wp_region_lit (l_op (f_mv F2 rfl rfl rfl rfl rfl fun _ F3 => ?_)))))
 refine l_op (f_mv F3 rfl rfl rfl rfl rfl fun _ F4 => ?_)
 refine l_op (f_val F4 rfl rfl (r_len Try.underlying36 rfl (F4.ev 7 rfl)) rfl fun _ F5 => ?_)
 refine l_op (f_val F5 rfl rfl (r_sub (z := (left - ((a_n : Nat) : Int))) rfl (F5.ev 6 rfl) (F5.ev 8 rfl) (by first | rfl | omega) ⟨by first | omega | (unfold i64ok at *; omega), by first | omega | (unfold i64ok at *; omega)⟩) rfl fun _ F6 => ?_)
 refine l_op (f_as F6 rfl rfl rfl rfl rfl fun _ F7 => ?_)
 have F8 : Fr 27 [(1, .int .i64 (left - ((a_n : Nat) : Int))), (0, .slice a_a a_n a_c)] _ := F7.cut rfl
 clear F2 F3 F4 F5 F6 F7
 refine s_end (x_normal (wp_seq (wp_seq (wp_region_lit (l_op (f_mv F8 rfl rfl rfl rfl rfl fun _ F9 => ?_))))))
 refine l_op (f_val F9 rfl rfl (r_cmp (b := decide ((left - ((a_n : Nat) : Int)) < 0)) (.inr (.inr (.inl rfl))) rfl (F9.ev 10 rfl) rfl (dec_of (by omega))) rfl fun _ F10 => ?_)
 have F11 : Fr 27 [(11, .bool (decide ((left - ((a_n : Nat) : Int)) < 0))), (1, .int .i64 (left - ((a_n : Nat) : Int))), (0, .slice a_a a_n a_c)] _ := F10.cut rfl
 clear F8 F9 F10
 refine s_end (x_normal (x_cond (p := (left - ((a_n : Nat) : Int)) < 0) (F11.ev 11 rfl) (fun h12 => ?_) (fun h12 => ?_)))
 · skip
   refine wp_seq (wp_region_lit (l_op (f_val F11 rfl rfl (r_assign rfl rfl) rfl fun _ F13 => ?_)))
   have F14 : Fr 27 [(4, .int .i64 (-1))] _ := F13.cut rfl
   clear F11 F13
   refine s_end (x_normal (wp_ret (x_then_ret ?_)))
   refine x_done (v := .int .i64 (-1)) F14 (results_1 Try.results16 (.tmp (F14.ev 4 rfl))) ?_
   exact ⟨(by rw [(show (-1) = (subOr left (szTxsH a)) from by unfold szTxsH; rw [← ln_a]; exact sz_neg (by assumption))]), (Mv.pick (Mv.refl (At.nil w)) [] rfl), subOr_i64 p0 p1⟩
 · skip
   refine wp_skip (x_normal (wp_seq (wp_seq (wp_region_lit (l_op (f_val F11 rfl rfl (r_assign rfl rfl) rfl fun _ F15 => ?_))))))
   have F16 : Fr 27 [(5, .int .i64 0), (1, .int .i64 (left - ((a_n : Nat) : Int))), (0, .slice a_a a_n a_c)] _ := F15.cut rfl
   clear F11 F15
   refine s_end (x_normal (wp_block ?_))
   refine x_loop (fun (k : Nat) aZ wZ => ∃ (lv : Int), Fr 27 [(5, .int .i64 ((k : Nat) : Int)), (1, .int .i64 lv), (0, .slice a_a a_n a_c)] aZ ∧ Mv [] w [] wZ ∧ (k ≤ a_n) ∧ (lv = left - ((a.length + sumOf szTxH (a.take k) : Nat) : Int)) ∧ (0 ≤ lv)) (fun (k : Nat) => a_n - k) (0) ?_ ?_
   · exact ⟨(left - ((a_n : Nat) : Int)), F16.cut rfl, (Mv.refl (At.nil w)), by omega, by have e : sumOf szTxH (a.take 0) = 0 := rfl; rw [e]; omega, by omega⟩
   · rintro k a17 w17 ⟨lv, F17, S17, hk_0, hk_1, hk_2⟩
     refine wp_seq (wp_seq (wp_region_lit (l_op (f_mv F17 rfl rfl rfl rfl rfl fun _ F18 => ?_))))
     refine l_op (f_mv F18 rfl rfl rfl rfl rfl fun _ F19 => ?_)
     refine l_op (f_val F19 rfl rfl (r_len Try.underlying36 rfl (F19.ev 13 rfl)) rfl fun _ F20 => ?_)
     refine l_op (f_val F20 rfl rfl (r_cmp (b := decide (k < a_n)) (.inr (.inr (.inl rfl))) rfl (F20.ev 12 rfl) (F20.ev 14 rfl) (dec_of (by omega))) rfl fun _ F21 => ?_)
     have F22 : Fr 27 [(15, .bool (decide (k < a_n))), (5, .int .i64 ((k : Nat) : Int)), (1, .int .i64 lv), (0, .slice a_a a_n a_c)] _ := F21.cut rfl
     clear F17 F18 F19 F20 F21
     refine s_end (x_normal (x_cond (p := k < a_n) (F22.ev 15 rfl) (fun h23 => ?_) (fun h23 => ?_)))
     · skip
       refine wp_skip (x_normal (wp_seq (wp_block (wp_seq (wp_region_lit (l_op (f_mv F22 rfl rfl rfl rfl rfl fun _ F24 => ?_)))))))
       refine l_op (f_mv F24 rfl rfl rfl rfl rfl fun _ F25 => ?_)
       obtain ⟨B26, O26, x1, ad26, hx1, okx1, ln26, cl26⟩ := RdA.at (RdA.mv (Nat.succ_pos _) V_v_a S17) k (by first | assumption | omega)
       clear ln26
       have oj27 := okx1
       obtain ⟨oi27_0, oi27_1, oi27_2, oi27_3, oi27_4⟩ := oj27
       have VI28 : RdA 6 encK okK (V H w []) w17 (.slice x1.a0 x1.n0 x1.c0) x1.d.calls := NRa.get (NRa.mv V_u_a S17) hx1 (j := 0) rfl
       obtain ⟨ln28, le28, mx28, ni28⟩ := RdA.inv VI28
       have VI29 : RdA 3 encR okR (V H w []) w17 (.slice x1.a1 x1.n1 x1.c1) x1.d.answers := NRa.get (NRa.mv V_u_a S17) hx1 (j := 1) rfl
       obtain ⟨ln29, le29, mx29, ni29⟩ := RdA.inv VI29
       have VI30 : RdA 1 encS okS (V H w []) w17 (.slice x1.a2 x1.n2 x1.c2) x1.d.touch.reads := NRa.get (NRa.mv V_u_a S17) hx1 (j := 2) rfl
       obtain ⟨ln30, le30, mx30, ni30⟩ := RdA.inv VI30
       have VI31 : RdA 1 encS okS (V H w []) w17 (.slice x1.a3 x1.n3 x1.c3) x1.d.touch.writes := NRa.get (NRa.mv V_u_a S17) hx1 (j := 3) rfl
       obtain ⟨ln31, le31, mx31, ni31⟩ := RdA.inv VI31
       have VI32 : RdA 1 encI okI (V H w []) w17 (.slice x1.a4 x1.n4 x1.c4) x1.d.marks := NRa.get (NRa.mv V_u_a S17) hx1 (j := 4) rfl
       obtain ⟨ln32, le32, mx32, ni32⟩ := RdA.inv VI32
       refine l_op (f_val F25 rfl rfl (r_indexAddr (i := k) ET_36 rfl ((F25.ev 18 rfl).trans (by rw [ad26])) (F25.ev 19 rfl) (by omega) (by first | assumption | omega)) rfl fun _ F33 => ?_)
       refine l_op (f_val (v := .agg #[.int .i64 x1.d.id, .int .i64 x1.d.age, .int .i64 x1.d.proc, .int .i64 x1.d.began, .slice x1.a0 x1.n0 x1.c0, .slice x1.a1 x1.n1 x1.c1, .slice x1.a2 x1.n2 x1.c2, .slice x1.a3 x1.n3 x1.c3, .slice x1.a4 x1.n4 x1.c4, .int .i64 x1.d.state]) F33 rfl rfl (r_load (cs := [.int .i64 x1.d.id, .int .i64 x1.d.age, .int .i64 x1.d.proc, .int .i64 x1.d.began, .slice x1.a0 x1.n0 x1.c0, .slice x1.a1 x1.n1 x1.c1, .slice x1.a2 x1.n2 x1.c2, .slice x1.a3 x1.n3 x1.c3, .slice x1.a4 x1.n4 x1.c4, .int .i64 x1.d.state]) TI_93 rfl (F33.ev 20 rfl) rfl (fun h => nomatch h) (elem_sub (f := 0) cl26 [.int .i64 x1.d.id, .int .i64 x1.d.age, .int .i64 x1.d.proc, .int .i64 x1.d.began, .slice x1.a0 x1.n0 x1.c0, .slice x1.a1 x1.n1 x1.c1, .slice x1.a2 x1.n2 x1.c2, .slice x1.a3 x1.n3 x1.c3, .slice x1.a4 x1.n4 x1.c4, .int .i64 x1.d.state] rfl)) rfl fun _ F34 => ?_)
       refine l_op (f_mv F34 rfl rfl rfl rfl rfl fun _ F35 => ?_)
       refine l_op (f_call F35 CF_53 rfl rfl rfl rfl (lc (F35.ev 21 rfl) (lc (F35.ev 22 rfl) rfl)) (laws_szTx_c (a := x1.d) (left := lv) okx1.1 okx1.2.1 okx1.2.2.1 okx1.2.2.2.1 VI28 VI29 VI30 VI31 VI32 okx1.2.2.2.2 (by first | assumption | exact ⟨by omega, by omega⟩ | (unfold i64ok at *; omega)) (by first | assumption | omega | (simp <;> omega)) (by first | assumption | omega | (simp <;> omega))) ?_)
       rintro _ w36 ⟨rfl, m36, q36_0⟩
       refine ⟨_, rfl, fun _ F37 => ?_⟩
       have S36 := At.frame0 S17.at' m36
       clear m36
       refine l_op (f_as F37 rfl rfl rfl rfl rfl fun _ F38 => ?_)
       have F39 : Fr 27 [(1, .int .i64 (subOr lv (szTxD x1.d))), (5, .int .i64 ((k : Nat) : Int)), (0, .slice a_a a_n a_c)] _ := F38.cut rfl
       clear F22 F24 F25 F33 F34 F35 F37 F38
       have T40 : Mv _ _ [] _ := S36
       refine s_end (x_normal (wp_seq (wp_region_lit (l_op (f_mv F39 rfl rfl rfl rfl rfl fun _ F41 => ?_)))))
       refine l_op (f_val F41 rfl rfl (r_cmp (b := decide ((subOr lv (szTxD x1.d)) < 0)) (.inr (.inr (.inl rfl))) rfl (F41.ev 24 rfl) rfl (dec_of (by omega))) rfl fun _ F42 => ?_)
       have F43 : Fr 27 [(25, .bool (decide ((subOr lv (szTxD x1.d)) < 0))), (1, .int .i64 (subOr lv (szTxD x1.d))), (5, .int .i64 ((k : Nat) : Int)), (0, .slice a_a a_n a_c)] _ := F42.cut rfl
       clear F39 F41 F42
       refine s_end (x_normal (x_cond (p := (subOr lv (szTxD x1.d)) < 0) (F43.ev 25 rfl) (fun h44 => ?_) (fun h44 => ?_)))
       · skip
         refine wp_seq (wp_region_lit (l_op (f_val F43 rfl rfl (r_assign rfl rfl) rfl fun _ F45 => ?_)))
         have F46 : Fr 27 [(4, .int .i64 (-1))] _ := F45.cut rfl
         clear F43 F45
         refine s_end (x_normal (wp_ret (x_block_ret (x_then_ret (x_then_ret (x_block_ret (x_then_ret ?_)))))))
         refine x_done (v := .int .i64 (-1)) F46 (results_1 Try.results16 (.tmp (F46.ev 4 rfl))) ?_
         exact ⟨(by rw [(show (-1) = (subOr left (szTxsH a)) from by unfold szTxsH; exact sz_stop (f := szTxH) hx1 hk_1 (by assumption))]), (Mv.pick (S17.trans T40) [] rfl), subOr_i64 p0 p1⟩
       · skip
         refine wp_skip (x_block_normal (x_normal (wp_region_lit (l_op (f_mv F43 rfl rfl rfl rfl rfl fun _ F47 => ?_)))))
         refine l_op (f_val F47 rfl rfl (r_add (z := ((k + 1 : Nat) : Int)) rfl (F47.ev 16 rfl) rfl (by first | rfl | omega) ⟨by first | omega | (unfold i64ok at *; omega), by first | omega | (unfold i64ok at *; omega)⟩) rfl fun _ F48 => ?_)
         refine l_op (f_as F48 rfl rfl rfl rfl rfl fun _ F49 => ?_)
         have F50 : Fr 27 [(5, .int .i64 ((k + 1 : Nat) : Int)), (1, .int .i64 (subOr lv (szTxD x1.d))), (0, .slice a_a a_n a_c)] _ := F49.cut rfl
         clear F43 F47 F48 F49
         refine s_end ?_
         refine x_normal ⟨k + 1, by omega, (subOr lv (szTxD x1.d)), F50.cut rfl, ((S17.trans T40).pick [] rfl), by omega, (sz_next (f := szTxH) hx1 hk_1 (by assumption)).1, (sz_next (f := szTxH) hx1 hk_1 (by assumption)).2⟩
     · skip
       refine wp_exit (x_then_exit (x_then_exit (x_block_here (x_normal (wp_seq (wp_region_lit (l_op (f_mv F22 rfl rfl rfl rfl rfl fun _ F51 => ?_))))))))
       refine l_op (f_as F51 rfl rfl rfl rfl rfl fun _ F52 => ?_)
       have F53 : Fr 27 [(4, .int .i64 lv)] _ := F52.cut rfl
       clear F22 F51 F52
       refine s_end (x_normal (wp_ret ?_))
       refine x_done (v := .int .i64 lv) F53 (results_1 Try.results16 (.tmp (F53.ev 4 rfl))) ?_
       exact ⟨(by rw [(show lv = (subOr left (szTxsH a)) from by unfold szTxsH; exact sz_done (by omega) hk_1 hk_2)]), (Mv.pick S17 [] rfl), subOr_i64 p0 p1⟩
theorem laws_toTxS_c {w : World} {H : Nat → Prop} {a : List TxH} {a_a : Option Addr} {a_n a_c : Nat} (v_a : RdA 10 encTx okTx H w (.slice a_a a_n a_c) a) (u_a : NRa inTx H w a) (p0 : a.length ≤ 1048576) (p1 : txsFit 1048576 (a.map TxH.d)) :
    Calls Try.prog 18 #[.slice a_a a_n a_c] w fun e w' => ∃ (D : List TxH), ∃ (r0_a : Option Addr), ∃ (r0_n : Nat), ∃ (r0_c : Nat), e = .returned (.slice r0_a r0_n r0_c) ∧ Mv [] w [ow 71 10 encTx okTx (.slice r0_a r0_n r0_c) D, gr inTx D] w' ∧ D.map TxH.d = a.map TxH.d ∧ D.length = a.length := by
 have uU : True := (fun _ => trivial) p0
 clear uU
 have V_v_a : RdA 10 encTx okTx (V H w []) w (.slice a_a a_n a_c) a := RdA.start v_a (fun _ _ => fps_nil _)
 obtain ⟨ln_a, le_a, mx_a, ni_a⟩ := RdA.inv v_a
 have V_u_a : NRa inTx (V H w []) w a := NRa.start u_a (fun _ _ => fps_nil _)
 refine calls_enter 23 Try.func18 rfl Try.ntmps18 (Nat.le_of_ble_eq_true rfl) (fun _ F0i => ?_)
 have F0 : Fr 23 [(0, .slice a_a a_n a_c)] _ := F0i
 clear F0i
 refine wp_seq (wp_region_lit (l_op (f_val F0 rfl rfl (r_assign rfl rfl) rfl fun _ F1 => ?_)))
 have F2 : Fr 23 [(2, .slice none 0 0), (0, .slice a_a a_n a_c)] _ := F1.cut rfl
 clear F0 F1
 refine s_end (x_normal (wp_seq (wp_region_lit (l_op (f_mv F2 rfl rfl rfl rfl rfl fun _ F3 => ?_)))))
 refine l_op (f_val F3 rfl rfl (r_len Try.underlying36 rfl (F3.ev 5 rfl)) rfl fun _ F4 => ?_)
 refine l_op (f_mk (ok := okTx) zTx F4 (At.nil w) ET_39 rfl rfl rfl rfl (F4.ev 6 rfl) (F4.ev 6 rfl) rfl ⟨(show i64ok 0 from by first | assumption | exact ⟨by omega, by omega⟩), (show i64ok 0 from by first | assumption | exact ⟨by omega, by omega⟩), (show i64ok 0 from by first | assumption | exact ⟨by omega, by omega⟩), (show i64ok 0 from by first | assumption | exact ⟨by omega, by omega⟩), (show i64ok 0 from by first | assumption | exact ⟨by omega, by omega⟩)⟩ (by omega) fun b5 _ w5 F6 S5 => ?_)
 have S7 : Mv [ow 71 10 encTx okTx (.slice (some ⟨b5, 0, none⟩) a_n a_n) (List.replicate a_n zTx)] w5 [gr inTx (List.replicate a_n zTx), ow 71 10 encTx okTx (.slice (some ⟨b5, 0, none⟩) a_n a_n) (List.replicate a_n zTx)] w5 := gr_new S5.at' _ (zTx_all _)
 refine l_op (f_as F6 rfl rfl rfl rfl rfl fun _ F8 => ?_)
 have F9 : Fr 23 [(3, .slice (some ⟨b5, 0, none⟩) a_n a_n), (0, .slice a_a a_n a_c)] _ := F8.cut rfl
 clear F2 F3 F4 F6 F8
 have T10 : Mv _ _ [gr inTx (List.replicate a_n zTx), ow 71 10 encTx okTx (.slice (some ⟨b5, 0, none⟩) a_n a_n) (List.replicate a_n zTx)] _ := S7
 refine s_end (x_normal (wp_seq (wp_seq (wp_region_lit (l_op (f_val F9 rfl rfl (r_assign rfl rfl) rfl fun _ F11 => ?_))))))
 have F12 : Fr 23 [(4, .int .i64 0), (3, .slice (some ⟨b5, 0, none⟩) a_n a_n), (0, .slice a_a a_n a_c)] _ := F11.cut rfl
 clear F9 F11
 refine s_end (x_normal (wp_block ?_))
 refine x_loop (fun (k : Nat) aZ wZ => ∃ (D : List TxH), ∃ (oa : Option Addr), ∃ (on : Nat), ∃ (oc : Nat), Fr 23 [(4, .int .i64 ((k : Nat) : Int)), (3, .slice oa on oc), (0, .slice a_a a_n a_c)] aZ ∧ Mv [gr inTx (List.replicate a_n zTx), ow 71 10 encTx okTx (.slice (some ⟨b5, 0, none⟩) a_n a_n) (List.replicate a_n zTx)] w5 [gr inTx D, ow 71 10 encTx okTx (.slice oa on oc) D] wZ ∧ (k ≤ a_n) ∧ (D.map TxH.d = copyTo zTx.d k (a.map TxH.d)) ∧ (on = a_n)) (fun (k : Nat) => a_n - k) (0) ?_ ?_
 · exact ⟨List.replicate a_n zTx, (some ⟨b5, 0, none⟩), a_n, a_n, F12.cut rfl, (Mv.refl T10.at'), by omega, copyM_start ln_a, rfl⟩
 · rintro k a13 w13 ⟨D, oa, on, oc, F13, S13, hk_0, hk_1, hk_2⟩
   refine wp_seq (wp_seq (wp_region_lit (l_op (f_mv F13 rfl rfl rfl rfl rfl fun _ F14 => ?_))))
   refine l_op (f_mv F14 rfl rfl rfl rfl rfl fun _ F15 => ?_)
   refine l_op (f_val F15 rfl rfl (r_len Try.underlying36 rfl (F15.ev 9 rfl)) rfl fun _ F16 => ?_)
   refine l_op (f_val F16 rfl rfl (r_cmp (b := decide (k < a_n)) (.inr (.inr (.inl rfl))) rfl (F16.ev 8 rfl) (F16.ev 10 rfl) (dec_of (by omega))) rfl fun _ F17 => ?_)
   have F18 : Fr 23 [(11, .bool (decide (k < a_n))), (4, .int .i64 ((k : Nat) : Int)), (3, .slice oa on oc), (0, .slice a_a a_n a_c)] _ := F17.cut rfl
   clear F13 F14 F15 F16 F17
   refine s_end (x_normal (x_cond (p := k < a_n) (F18.ev 11 rfl) (fun h19 => ?_) (fun h19 => ?_)))
   · skip
     refine wp_skip (x_normal (wp_seq (wp_block (wp_region_lit (l_op (f_mv F18 rfl rfl rfl rfl rfl fun _ F20 => ?_))))))
     refine l_op (f_mv F20 rfl rfl rfl rfl rfl fun _ F21 => ?_)
     refine l_op (f_mv F21 rfl rfl rfl rfl rfl fun _ F22 => ?_)
     refine l_op (f_mv F22 rfl rfl rfl rfl rfl fun _ F23 => ?_)
     obtain ⟨B24, O24, x1, ad24, hx1, okx1, ln24, cl24⟩ := RdA.at (RdA.mv (Nat.succ_pos _) V_v_a (S5.trans (T10.trans S13))) k (by first | assumption | omega)
     clear ln24
     have oj25 := okx1
     obtain ⟨oi25_0, oi25_1, oi25_2, oi25_3, oi25_4⟩ := oj25
     have VI26 : RdA 6 encK okK (V H w [gr inTx D, ow 71 10 encTx okTx (.slice oa on oc) D]) w13 (.slice x1.a0 x1.n0 x1.c0) x1.d.calls := NRa.get (NRa.mv V_u_a (S5.trans (T10.trans S13))) hx1 (j := 0) rfl
     obtain ⟨ln26, le26, mx26, ni26⟩ := RdA.inv VI26
     have VI27 : RdA 3 encR okR (V H w [gr inTx D, ow 71 10 encTx okTx (.slice oa on oc) D]) w13 (.slice x1.a1 x1.n1 x1.c1) x1.d.answers := NRa.get (NRa.mv V_u_a (S5.trans (T10.trans S13))) hx1 (j := 1) rfl
     obtain ⟨ln27, le27, mx27, ni27⟩ := RdA.inv VI27
     have VI28 : RdA 1 encS okS (V H w [gr inTx D, ow 71 10 encTx okTx (.slice oa on oc) D]) w13 (.slice x1.a2 x1.n2 x1.c2) x1.d.touch.reads := NRa.get (NRa.mv V_u_a (S5.trans (T10.trans S13))) hx1 (j := 2) rfl
     obtain ⟨ln28, le28, mx28, ni28⟩ := RdA.inv VI28
     have VI29 : RdA 1 encS okS (V H w [gr inTx D, ow 71 10 encTx okTx (.slice oa on oc) D]) w13 (.slice x1.a3 x1.n3 x1.c3) x1.d.touch.writes := NRa.get (NRa.mv V_u_a (S5.trans (T10.trans S13))) hx1 (j := 3) rfl
     obtain ⟨ln29, le29, mx29, ni29⟩ := RdA.inv VI29
     have VI30 : RdA 1 encI okI (V H w [gr inTx D, ow 71 10 encTx okTx (.slice oa on oc) D]) w13 (.slice x1.a4 x1.n4 x1.c4) x1.d.marks := NRa.get (NRa.mv V_u_a (S5.trans (T10.trans S13))) hx1 (j := 4) rfl
     obtain ⟨ln30, le30, mx30, ni30⟩ := RdA.inv VI30
     refine l_op (f_val F23 rfl rfl (r_indexAddr (i := k) ET_36 rfl ((F23.ev 16 rfl).trans (by rw [ad24])) (F23.ev 17 rfl) (by omega) (by first | assumption | omega)) rfl fun _ F31 => ?_)
     refine l_op (f_val (v := .agg #[.int .i64 x1.d.id, .int .i64 x1.d.age, .int .i64 x1.d.proc, .int .i64 x1.d.began, .slice x1.a0 x1.n0 x1.c0, .slice x1.a1 x1.n1 x1.c1, .slice x1.a2 x1.n2 x1.c2, .slice x1.a3 x1.n3 x1.c3, .slice x1.a4 x1.n4 x1.c4, .int .i64 x1.d.state]) F31 rfl rfl (r_load (cs := [.int .i64 x1.d.id, .int .i64 x1.d.age, .int .i64 x1.d.proc, .int .i64 x1.d.began, .slice x1.a0 x1.n0 x1.c0, .slice x1.a1 x1.n1 x1.c1, .slice x1.a2 x1.n2 x1.c2, .slice x1.a3 x1.n3 x1.c3, .slice x1.a4 x1.n4 x1.c4, .int .i64 x1.d.state]) TI_93 rfl (F31.ev 18 rfl) rfl (fun h => nomatch h) (elem_sub (f := 0) cl24 [.int .i64 x1.d.id, .int .i64 x1.d.age, .int .i64 x1.d.proc, .int .i64 x1.d.began, .slice x1.a0 x1.n0 x1.c0, .slice x1.a1 x1.n1 x1.c1, .slice x1.a2 x1.n2 x1.c2, .slice x1.a3 x1.n3 x1.c3, .slice x1.a4 x1.n4 x1.c4, .int .i64 x1.d.state] rfl)) rfl fun _ F32 => ?_)
     refine l_op (f_call F32 CF_55 rfl rfl rfl rfl (lc (F32.ev 19 rfl) rfl) (laws_toTx_c (a := x1.d) okx1.1 okx1.2.1 okx1.2.2.1 okx1.2.2.2.1 VI26 VI27 VI28 VI29 VI30 okx1.2.2.2.2 (by have hb := p1.at hx1; omega) (by have hb := p1.at hx1; omega) (by have hb := p1.at hx1; omega) (by have hb := p1.at hx1; omega) (by have hb := p1.at hx1; omega)) ?_)
     rintro _ w33 ⟨r0_calls_a_33, r0_calls_n_33, r0_calls_c_33, r0_answers_a_33, r0_answers_n_33, r0_answers_c_33, r0_Ra_33, r0_Rn_33, r0_Rc_33, r0_Wa_33, r0_Wn_33, r0_Wc_33, r0_marks_a_33, r0_marks_n_33, r0_marks_c_33, rfl, m33⟩
     refine ⟨_, rfl, fun _ F34 => ?_⟩
     have S33 : Mv _ _ [ow 148 6 encK okK (.slice r0_calls_a_33 r0_calls_n_33 r0_calls_c_33) x1.d.calls, ow 151 3 encR okR (.slice r0_answers_a_33 r0_answers_n_33 r0_answers_c_33) x1.d.answers, ow 9 1 encS okS (.slice r0_Ra_33 r0_Rn_33 r0_Rc_33) x1.d.touch.reads, ow 9 1 encS okS (.slice r0_Wa_33 r0_Wn_33 r0_Wc_33) x1.d.touch.writes, ow 3 1 encI okI (.slice r0_marks_a_33 r0_marks_n_33 r0_marks_c_33) x1.d.marks, gr inTx D, ow 71 10 encTx okTx (.slice oa on oc) D] _ := At.frame S13.at' [] rfl m33
     obtain ⟨lo33_0, lp33_0, lq33_0⟩ := At.ownInv S33.at' ET_66.hk 0 rfl
     obtain ⟨lo33_1, lp33_1, lq33_1⟩ := At.ownInv S33.at' ET_67.hk 1 rfl
     obtain ⟨lo33_2, lp33_2, lq33_2⟩ := At.ownInv S33.at' ET_62.hk 2 rfl
     obtain ⟨lo33_3, lp33_3, lq33_3⟩ := At.ownInv S33.at' ET_62.hk 3 rfl
     obtain ⟨lo33_4, lp33_4, lq33_4⟩ := At.ownInv S33.at' ET_53.hk 4 rfl
     clear m33
     obtain ⟨B35, x2, ad35, hx2, okx2, cl35⟩ := At.ownAt S33.at' ET_39.hk 6 rfl k (by first | assumption | omega)
     have oj36 := okx2
     obtain ⟨oi36_0, oi36_1, oi36_2, oi36_3, oi36_4⟩ := oj36
     obtain ⟨ln37, le37, mx37, ni37⟩ := Rd.inv (show Rd 6 encK okK (fun _ => True) w33 (.slice x2.a0 x2.n0 x2.c0) x2.d.calls from NRd.get (At.nrd S33.at' 5 rfl) hx2 (j := 0) rfl)
     obtain ⟨ln38, le38, mx38, ni38⟩ := Rd.inv (show Rd 3 encR okR (fun _ => True) w33 (.slice x2.a1 x2.n1 x2.c1) x2.d.answers from NRd.get (At.nrd S33.at' 5 rfl) hx2 (j := 1) rfl)
     obtain ⟨ln39, le39, mx39, ni39⟩ := Rd.inv (show Rd 1 encS okS (fun _ => True) w33 (.slice x2.a2 x2.n2 x2.c2) x2.d.touch.reads from NRd.get (At.nrd S33.at' 5 rfl) hx2 (j := 2) rfl)
     obtain ⟨ln40, le40, mx40, ni40⟩ := Rd.inv (show Rd 1 encS okS (fun _ => True) w33 (.slice x2.a3 x2.n3 x2.c3) x2.d.touch.writes from NRd.get (At.nrd S33.at' 5 rfl) hx2 (j := 3) rfl)
     obtain ⟨ln41, le41, mx41, ni41⟩ := Rd.inv (show Rd 1 encI okI (fun _ => True) w33 (.slice x2.a4 x2.n4 x2.c4) x2.d.marks from NRd.get (At.nrd S33.at' 5 rfl) hx2 (j := 4) rfl)
     refine l_op (f_val F34 rfl rfl (r_indexAddr (i := k) ET_39 rfl ((F34.ev 14 rfl).trans (by rw [ad35])) (F34.ev 15 rfl) (by omega) (by first | assumption | omega)) rfl fun _ F42 => ?_)
     refine l_op (s_storeEl S33.at' 6 k (⟨x1.d, r0_calls_a_33, r0_calls_n_33, r0_calls_c_33, r0_answers_a_33, r0_answers_n_33, r0_answers_c_33, r0_Ra_33, r0_Rn_33, r0_Rc_33, r0_Wa_33, r0_Wn_33, r0_Wc_33, r0_marks_a_33, r0_marks_n_33, r0_marks_c_33⟩ : TxH) ET_39.hk ET_39.h1 TI_71 rfl ad35 rfl rfl rfl rfl (F42.ev 21 rfl) (F42.ev 20 rfl) rfl (by first | assumption | omega) ⟨(show i64ok x1.d.id from by first | assumption | exact ⟨by omega, by omega⟩), (show i64ok x1.d.age from by first | assumption | exact ⟨by omega, by omega⟩), (show i64ok x1.d.proc from by first | assumption | exact ⟨by omega, by omega⟩), (show i64ok x1.d.began from by first | assumption | exact ⟨by omega, by omega⟩), (show i64ok x1.d.state from by first | assumption | exact ⟨by omega, by omega⟩)⟩ fun w43 S43 => ?_)
     have S44 : Mv [ow 71 10 encTx okTx (.slice oa on oc) (D.set k (⟨x1.d, r0_calls_a_33, r0_calls_n_33, r0_calls_c_33, r0_answers_a_33, r0_answers_n_33, r0_answers_c_33, r0_Ra_33, r0_Rn_33, r0_Rc_33, r0_Wa_33, r0_Wn_33, r0_Wc_33, r0_marks_a_33, r0_marks_n_33, r0_marks_c_33⟩ : TxH)), ow 148 6 encK okK (.slice r0_calls_a_33 r0_calls_n_33 r0_calls_c_33) x1.d.calls, ow 151 3 encR okR (.slice r0_answers_a_33 r0_answers_n_33 r0_answers_c_33) x1.d.answers, ow 9 1 encS okS (.slice r0_Ra_33 r0_Rn_33 r0_Rc_33) x1.d.touch.reads, ow 9 1 encS okS (.slice r0_Wa_33 r0_Wn_33 r0_Wc_33) x1.d.touch.writes, ow 3 1 encI okI (.slice r0_marks_a_33 r0_marks_n_33 r0_marks_c_33) x1.d.marks, gr inTx D] w43 [gr inTx (D.set k (⟨x1.d, r0_calls_a_33, r0_calls_n_33, r0_calls_c_33, r0_answers_a_33, r0_answers_n_33, r0_answers_c_33, r0_Ra_33, r0_Rn_33, r0_Rc_33, r0_Wa_33, r0_Wn_33, r0_Wc_33, r0_marks_a_33, r0_marks_n_33, r0_marks_c_33⟩ : TxH)), ow 71 10 encTx okTx (.slice oa on oc) (D.set k (⟨x1.d, r0_calls_a_33, r0_calls_n_33, r0_calls_c_33, r0_answers_a_33, r0_answers_n_33, r0_answers_c_33, r0_Ra_33, r0_Rn_33, r0_Rc_33, r0_Wa_33, r0_Wn_33, r0_Wc_33, r0_marks_a_33, r0_marks_n_33, r0_marks_c_33⟩ : TxH))] w43 := gr_set S43.at' [1, 2, 3, 4, 5, 6] (⟨x1.d, r0_calls_a_33, r0_calls_n_33, r0_calls_c_33, r0_answers_a_33, r0_answers_n_33, r0_answers_c_33, r0_Ra_33, r0_Rn_33, r0_Rc_33, r0_Wa_33, r0_Wn_33, r0_Wc_33, r0_marks_a_33, r0_marks_n_33, r0_marks_c_33⟩ : TxH) k rfl rfl
     have F45 : Fr 23 [(21, .pointer (some ⟨B35, 0 + k * 10, none⟩)), (20, .agg #[.int .i64 x1.d.id, .int .i64 x1.d.age, .int .i64 x1.d.proc, .int .i64 x1.d.began, .slice r0_calls_a_33 r0_calls_n_33 r0_calls_c_33, .slice r0_answers_a_33 r0_answers_n_33 r0_answers_c_33, .slice r0_Ra_33 r0_Rn_33 r0_Rc_33, .slice r0_Wa_33 r0_Wn_33 r0_Wc_33, .slice r0_marks_a_33 r0_marks_n_33 r0_marks_c_33, .int .i64 x1.d.state]), (4, .int .i64 ((k : Nat) : Int)), (3, .slice oa on oc), (0, .slice a_a a_n a_c)] _ := F42.cut rfl
     clear F18 F20 F21 F22 F23 F31 F32 F34 F42
     have T46 : Mv _ _ [gr inTx (D.set k (⟨x1.d, r0_calls_a_33, r0_calls_n_33, r0_calls_c_33, r0_answers_a_33, r0_answers_n_33, r0_answers_c_33, r0_Ra_33, r0_Rn_33, r0_Rc_33, r0_Wa_33, r0_Wn_33, r0_Wc_33, r0_marks_a_33, r0_marks_n_33, r0_marks_c_33⟩ : TxH)), ow 71 10 encTx okTx (.slice oa on oc) (D.set k (⟨x1.d, r0_calls_a_33, r0_calls_n_33, r0_calls_c_33, r0_answers_a_33, r0_answers_n_33, r0_answers_c_33, r0_Ra_33, r0_Rn_33, r0_Rc_33, r0_Wa_33, r0_Wn_33, r0_Wc_33, r0_marks_a_33, r0_marks_n_33, r0_marks_c_33⟩ : TxH))] _ := S44
     refine s_end (x_block_normal (x_normal (wp_region_lit (l_op (f_mv F45 rfl rfl rfl rfl rfl fun _ F47 => ?_)))))
     refine l_op (f_val F47 rfl rfl (r_add (z := ((k + 1 : Nat) : Int)) rfl (F47.ev 12 rfl) rfl (by first | rfl | omega) ⟨by first | omega | (unfold i64ok at *; omega), by first | omega | (unfold i64ok at *; omega)⟩) rfl fun _ F48 => ?_)
     refine l_op (f_as F48 rfl rfl rfl rfl rfl fun _ F49 => ?_)
     have F50 : Fr 23 [(4, .int .i64 ((k + 1 : Nat) : Int)), (3, .slice oa on oc), (0, .slice a_a a_n a_c)] _ := F49.cut rfl
     clear F45 F47 F48 F49
     refine s_end ?_
     refine x_normal ⟨k + 1, by omega, D.set k (⟨x1.d, r0_calls_a_33, r0_calls_n_33, r0_calls_c_33, r0_answers_a_33, r0_answers_n_33, r0_answers_c_33, r0_Ra_33, r0_Rn_33, r0_Rc_33, r0_Wa_33, r0_Wn_33, r0_Wc_33, r0_marks_a_33, r0_marks_n_33, r0_marks_c_33⟩ : TxH), oa, on, oc, F50.cut rfl, ((S13.trans (S33.trans (S43.trans T46))).pick [0, 1] rfl), by omega, copyM_step hk_1 hx1 rfl, by assumption⟩
   · skip
     refine wp_exit (x_then_exit (x_then_exit (x_block_here (x_normal (wp_seq (wp_region_lit (l_op (f_mv F18 rfl rfl rfl rfl rfl fun _ F51 => ?_))))))))
     refine l_op (f_as F51 rfl rfl rfl rfl rfl fun _ F52 => ?_)
     have F53 : Fr 23 [(2, .slice oa on oc)] _ := F52.cut rfl
     clear F18 F51 F52
     refine s_end (x_normal (wp_ret ?_))
     refine x_done (v := .slice oa on oc) F53 (results_1 Try.results18 (.tmp (F53.ev 2 rfl))) ?_
     exact ⟨D, oa, on, oc, rfl, (Mv.pick (S5.trans (T10.trans S13)) [1, 0] rfl), copyM_end hk_1 (by omega), by have := congrArg List.length (copyM_end hk_1 (by omega)); simpa using this⟩
theorem laws_eqTxS_c {w : World} {H : Nat → Prop} {a : List TxH} {a_a : Option Addr} {a_n a_c : Nat} {b : List TxH} {b_a : Option Addr} {b_n b_c : Nat} (v_a : Rd 10 encTx okTx H w (.slice a_a a_n a_c) a) (u_a : NRd inTx H w a) (v_b : Rd 10 encTx okTx H w (.slice b_a b_n b_c) b) (u_b : NRd inTx H w b) (p0 : a.map TxH.d = b.map TxH.d) :
    Calls Try.prog 20 #[.slice a_a a_n a_c, .slice b_a b_n b_c] w fun e w' => e = .returned (.bool true) ∧ Mv [] w [] w' := by
 have V_v_a : Rd 10 encTx okTx (V H w []) w (.slice a_a a_n a_c) a := Rd.start v_a (fun _ _ => fps_nil _)
 obtain ⟨ln_a, le_a, mx_a, ni_a⟩ := Rd.inv v_a
 have V_v_b : Rd 10 encTx okTx (V H w []) w (.slice b_a b_n b_c) b := Rd.start v_b (fun _ _ => fps_nil _)
 obtain ⟨ln_b, le_b, mx_b, ni_b⟩ := Rd.inv v_b
 have V_u_a : NRd inTx (V H w []) w a := NRd.start u_a (fun _ _ => fps_nil _)
 have V_u_b : NRd inTx (V H w []) w b := NRd.start u_b (fun _ _ => fps_nil _)
 refine calls_enter 27 Try.func20 rfl Try.ntmps20 (Nat.le_of_ble_eq_true rfl) (fun _ F0i => ?_)
 have F0 : Fr 27 [(0, .slice a_a a_n a_c), (1, .slice b_a b_n b_c)] _ := F0i
 clear F0i
 refine wp_seq ?_
 have hab : a_n = b_n := by rw [ln_a, ln_b, lenM p0]
 refine wp_region_lit (l_op (f_val F0 rfl rfl (r_assign rfl rfl) rfl fun _ F1 => ?_))
 have F2 : Fr 27 [(4, .bool false), (0, .slice a_a a_n a_c), (1, .slice b_a b_n b_c)] _ := F1.cut rfl
 clear F0 F1
 refine s_end (x_normal (wp_seq (wp_seq (wp_region_lit (l_op (f_mv F2 rfl rfl rfl rfl rfl fun _ F3 => ?_))))))
 refine l_op (f_val F3 rfl rfl (r_len Try.underlying39 rfl (F3.ev 6 rfl)) rfl fun _ F4 => ?_)
 refine l_op (f_mv F4 rfl rfl rfl rfl rfl fun _ F5 => ?_)
 refine l_op (f_val F5 rfl rfl (r_len Try.underlying39 rfl (F5.ev 8 rfl)) rfl fun _ F6 => ?_)
 refine l_op (f_val F6 rfl rfl (r_cmp (b := decide (a_n ≠ b_n)) (.inr (.inl rfl)) rfl (F6.ev 7 rfl) (F6.ev 9 rfl) (dec_of (by omega))) rfl fun _ F7 => ?_)
 rw [show (decide (a_n ≠ b_n)) = false from decide_eq_false (fun h => h hab)] at F7
 have F8 : Fr 27 [(10, .bool false), (0, .slice a_a a_n a_c), (1, .slice b_a b_n b_c)] _ := F7.cut rfl
 clear F2 F3 F4 F5 F6 F7
 refine s_end (x_normal (wp_cond_false (F8.ev 10 rfl) (wp_skip (x_normal (wp_seq (wp_seq (wp_region_lit (l_op (f_val F8 rfl rfl (r_assign rfl rfl) rfl fun _ F9 => ?_)))))))))
 have F10 : Fr 27 [(5, .int .i64 0), (0, .slice a_a a_n a_c), (1, .slice b_a b_n b_c)] _ := F9.cut rfl
 clear F8 F9
 refine s_end (x_normal (wp_block ?_))
 refine x_loop (fun (k : Nat) aZ wZ => Fr 27 [(5, .int .i64 ((k : Nat) : Int)), (0, .slice a_a a_n a_c), (1, .slice b_a b_n b_c)] aZ ∧ Mv [] w [] wZ ∧ (k ≤ a_n)) (fun (k : Nat) => a_n - k) (0) ?_ ?_
 · exact ⟨F10.cut rfl, (Mv.refl (At.nil w)), by omega⟩
 · rintro k a11 w11 ⟨F11, S11, hk_0⟩
   refine wp_seq (wp_seq (wp_region_lit (l_op (f_mv F11 rfl rfl rfl rfl rfl fun _ F12 => ?_))))
   refine l_op (f_mv F12 rfl rfl rfl rfl rfl fun _ F13 => ?_)
   refine l_op (f_val F13 rfl rfl (r_len Try.underlying39 rfl (F13.ev 12 rfl)) rfl fun _ F14 => ?_)
   refine l_op (f_val F14 rfl rfl (r_cmp (b := decide (k < a_n)) (.inr (.inr (.inl rfl))) rfl (F14.ev 11 rfl) (F14.ev 13 rfl) (dec_of (by omega))) rfl fun _ F15 => ?_)
   have F16 : Fr 27 [(14, .bool (decide (k < a_n))), (5, .int .i64 ((k : Nat) : Int)), (0, .slice a_a a_n a_c), (1, .slice b_a b_n b_c)] _ := F15.cut rfl
   clear F11 F12 F13 F14 F15
   refine s_end (x_normal (x_cond (p := k < a_n) (F16.ev 14 rfl) (fun h17 => ?_) (fun h17 => ?_)))
   · skip
     refine wp_skip (x_normal (wp_seq (wp_block (wp_seq ?_))))
     obtain ⟨x1, hx1, okx1⟩ := Rd.elem (Rd.mv (Nat.succ_pos _) V_v_a S11) k (by first | assumption | omega)
     have oj19 := okx1
     obtain ⟨oi19_0, oi19_1, oi19_2, oi19_3, oi19_4⟩ := oj19
     have VI20 : Rd 6 encK okK (V H w []) w11 (.slice x1.a0 x1.n0 x1.c0) x1.d.calls := NRd.get (NRd.mv V_u_a S11) hx1 (j := 0) rfl
     obtain ⟨ln20, le20, mx20, ni20⟩ := Rd.inv VI20
     have VI21 : Rd 3 encR okR (V H w []) w11 (.slice x1.a1 x1.n1 x1.c1) x1.d.answers := NRd.get (NRd.mv V_u_a S11) hx1 (j := 1) rfl
     obtain ⟨ln21, le21, mx21, ni21⟩ := Rd.inv VI21
     have VI22 : Rd 1 encS okS (V H w []) w11 (.slice x1.a2 x1.n2 x1.c2) x1.d.touch.reads := NRd.get (NRd.mv V_u_a S11) hx1 (j := 2) rfl
     obtain ⟨ln22, le22, mx22, ni22⟩ := Rd.inv VI22
     have VI23 : Rd 1 encS okS (V H w []) w11 (.slice x1.a3 x1.n3 x1.c3) x1.d.touch.writes := NRd.get (NRd.mv V_u_a S11) hx1 (j := 3) rfl
     obtain ⟨ln23, le23, mx23, ni23⟩ := Rd.inv VI23
     have VI24 : Rd 1 encI okI (V H w []) w11 (.slice x1.a4 x1.n4 x1.c4) x1.d.marks := NRd.get (NRd.mv V_u_a S11) hx1 (j := 4) rfl
     obtain ⟨ln24, le24, mx24, ni24⟩ := Rd.inv VI24
     obtain ⟨x2, hx2, okx2⟩ := Rd.elem (Rd.mv (Nat.succ_pos _) V_v_b S11) k (by first | assumption | omega)
     have oj25 := okx2
     obtain ⟨oi25_0, oi25_1, oi25_2, oi25_3, oi25_4⟩ := oj25
     have VI26 : Rd 6 encK okK (V H w []) w11 (.slice x2.a0 x2.n0 x2.c0) x2.d.calls := NRd.get (NRd.mv V_u_b S11) hx2 (j := 0) rfl
     obtain ⟨ln26, le26, mx26, ni26⟩ := Rd.inv VI26
     have VI27 : Rd 3 encR okR (V H w []) w11 (.slice x2.a1 x2.n1 x2.c1) x2.d.answers := NRd.get (NRd.mv V_u_b S11) hx2 (j := 1) rfl
     obtain ⟨ln27, le27, mx27, ni27⟩ := Rd.inv VI27
     have VI28 : Rd 1 encS okS (V H w []) w11 (.slice x2.a2 x2.n2 x2.c2) x2.d.touch.reads := NRd.get (NRd.mv V_u_b S11) hx2 (j := 2) rfl
     obtain ⟨ln28, le28, mx28, ni28⟩ := Rd.inv VI28
     have VI29 : Rd 1 encS okS (V H w []) w11 (.slice x2.a3 x2.n3 x2.c3) x2.d.touch.writes := NRd.get (NRd.mv V_u_b S11) hx2 (j := 3) rfl
     obtain ⟨ln29, le29, mx29, ni29⟩ := Rd.inv VI29
     have VI30 : Rd 1 encI okI (V H w []) w11 (.slice x2.a4 x2.n4 x2.c4) x2.d.marks := NRd.get (NRd.mv V_u_b S11) hx2 (j := 4) rfl
     obtain ⟨ln30, le30, mx30, ni30⟩ := Rd.inv VI30
     refine x_draw (fun aZ wZ => Fr 27 [(0, .slice a_a a_n a_c), (1, .slice b_a b_n b_c), (5, .int .i64 ((k : Nat) : Int)), (26, .bool false)] aZ ∧ Mv [] w11 [] wZ) [] mixed S11.at' (listed := #[false, false, false, false, false, false, false, false, false, false]) rfl (fun w31 S31 => ?_) [] rfl ?_
     · skip
       refine g_take F16 rfl (i := 0) (listed' := #[true, false, false, false, false, false, false, false, false, false]) rfl (by kernel_rfl) (by kernel_rfl) (by kernel_rfl) (fun _ _ _ h => h) (Sd.of (Mv.refl S31.at') [] rfl) rfl rfl rfl rfl (fun _ hz => (r_move rfl (F16.ev 0 rfl))) fun _ F32 => ?_
       refine g_take F32 rfl (i := 1) (listed' := #[true, true, false, false, false, false, false, false, false, false]) rfl (by kernel_rfl) (by kernel_rfl) (by kernel_rfl) (fun _ _ _ h => h) (Sd.of (Mv.refl S31.at') [] rfl) rfl rfl rfl rfl (fun _ hz => (r_move rfl (F32.ev 5 rfl))) fun _ F33 => ?_
       obtain ⟨B34, O34, y34, ad34, hy34, oky34, ln34, cl34⟩ := Rd.atK (Nat.succ_pos _) (Rd.mv (Nat.succ_pos _) V_v_a (S11.trans S31)) k (by first | assumption | omega)
       clear ln34
       obtain rfl := Option.some.inj (hx1.symm.trans hy34)
       clear hy34 oky34
       refine g_take F33 rfl (i := 2) (listed' := #[true, true, true, false, false, false, false, false, false, false]) rfl (by kernel_rfl) (by kernel_rfl) (by kernel_rfl) (fun _ _ _ h => h) (Sd.of (Mv.refl S31.at') [] rfl) rfl rfl rfl rfl (fun _ hz => (r_indexAddr (i := k) ET_39 rfl ((F33.ev 17 rfl).trans (by rw [ad34])) (F33.ev 18 rfl) (by omega) (by first | assumption | omega))) fun _ F35 => ?_
       refine g_take (v := .agg #[.int .i64 x1.d.id, .int .i64 x1.d.age, .int .i64 x1.d.proc, .int .i64 x1.d.began, .slice x1.a0 x1.n0 x1.c0, .slice x1.a1 x1.n1 x1.c1, .slice x1.a2 x1.n2 x1.c2, .slice x1.a3 x1.n3 x1.c3, .slice x1.a4 x1.n4 x1.c4, .int .i64 x1.d.state]) F35 rfl (i := 3) (listed' := #[true, true, true, true, false, false, false, false, false, false]) rfl (by kernel_rfl) (by kernel_rfl) (by kernel_rfl) (fun _ _ _ h => h) (Sd.of (Mv.refl S31.at') [] rfl) rfl rfl rfl rfl (fun _ hz => (r_load (cs := [.int .i64 x1.d.id, .int .i64 x1.d.age, .int .i64 x1.d.proc, .int .i64 x1.d.began, .slice x1.a0 x1.n0 x1.c0, .slice x1.a1 x1.n1 x1.c1, .slice x1.a2 x1.n2 x1.c2, .slice x1.a3 x1.n3 x1.c3, .slice x1.a4 x1.n4 x1.c4, .int .i64 x1.d.state]) TI_71 rfl (F35.ev 19 rfl) rfl (fun h => nomatch h) (elem_sub (f := 0) (cl34 _ hz.kp) [.int .i64 x1.d.id, .int .i64 x1.d.age, .int .i64 x1.d.proc, .int .i64 x1.d.began, .slice x1.a0 x1.n0 x1.c0, .slice x1.a1 x1.n1 x1.c1, .slice x1.a2 x1.n2 x1.c2, .slice x1.a3 x1.n3 x1.c3, .slice x1.a4 x1.n4 x1.c4, .int .i64 x1.d.state] rfl))) fun _ F36 => ?_
       refine g_take F36 rfl (i := 4) (listed' := #[true, true, true, true, true, false, false, false, false, false]) rfl (by kernel_rfl) (by kernel_rfl) (by kernel_rfl) (fun _ _ _ h => h) (Sd.of (Mv.refl S31.at') [] rfl) rfl rfl rfl rfl (fun _ hz => (r_move rfl (F36.ev 1 rfl))) fun _ F37 => ?_
       refine g_take F37 rfl (i := 5) (listed' := #[true, true, true, true, true, true, false, false, false, false]) rfl (by kernel_rfl) (by kernel_rfl) (by kernel_rfl) (fun _ _ _ h => h) (Sd.of (Mv.refl S31.at') [] rfl) rfl rfl rfl rfl (fun _ hz => (r_move rfl (F37.ev 5 rfl))) fun _ F38 => ?_
       obtain ⟨B39, O39, y39, ad39, hy39, oky39, ln39, cl39⟩ := Rd.atK (Nat.succ_pos _) (Rd.mv (Nat.succ_pos _) V_v_b (S11.trans S31)) k (by first | assumption | omega)
       clear ln39
       obtain rfl := Option.some.inj (hx2.symm.trans hy39)
       clear hy39 oky39
       refine g_take F38 rfl (i := 6) (listed' := #[true, true, true, true, true, true, true, false, false, false]) rfl (by kernel_rfl) (by kernel_rfl) (by kernel_rfl) (fun _ _ _ h => h) (Sd.of (Mv.refl S31.at') [] rfl) rfl rfl rfl rfl (fun _ hz => (r_indexAddr (i := k) ET_39 rfl ((F38.ev 21 rfl).trans (by rw [ad39])) (F38.ev 22 rfl) (by omega) (by first | assumption | omega))) fun _ F40 => ?_
       refine g_take (v := .agg #[.int .i64 x2.d.id, .int .i64 x2.d.age, .int .i64 x2.d.proc, .int .i64 x2.d.began, .slice x2.a0 x2.n0 x2.c0, .slice x2.a1 x2.n1 x2.c1, .slice x2.a2 x2.n2 x2.c2, .slice x2.a3 x2.n3 x2.c3, .slice x2.a4 x2.n4 x2.c4, .int .i64 x2.d.state]) F40 rfl (i := 7) (listed' := #[true, true, true, true, true, true, true, true, false, false]) rfl (by kernel_rfl) (by kernel_rfl) (by kernel_rfl) (fun _ _ _ h => h) (Sd.of (Mv.refl S31.at') [] rfl) rfl rfl rfl rfl (fun _ hz => (r_load (cs := [.int .i64 x2.d.id, .int .i64 x2.d.age, .int .i64 x2.d.proc, .int .i64 x2.d.began, .slice x2.a0 x2.n0 x2.c0, .slice x2.a1 x2.n1 x2.c1, .slice x2.a2 x2.n2 x2.c2, .slice x2.a3 x2.n3 x2.c3, .slice x2.a4 x2.n4 x2.c4, .int .i64 x2.d.state]) TI_71 rfl (F40.ev 23 rfl) rfl (fun h => nomatch h) (elem_sub (f := 0) (cl39 _ hz.kp) [.int .i64 x2.d.id, .int .i64 x2.d.age, .int .i64 x2.d.proc, .int .i64 x2.d.began, .slice x2.a0 x2.n0 x2.c0, .slice x2.a1 x2.n1 x2.c1, .slice x2.a2 x2.n2 x2.c2, .slice x2.a3 x2.n3 x2.c3, .slice x2.a4 x2.n4 x2.c4, .int .i64 x2.d.state] rfl))) fun _ F41 => ?_
       refine d_one (i := 8) (listed' := #[true, true, true, true, true, true, true, true, true, false]) rfl (by kernel_rfl) rfl rfl ?_
       refine f_call F41 CF_44 rfl rfl rfl rfl (lc (F41.ev 20 rfl) (lc (F41.ev 24 rfl) rfl)) (laws_eqTx_c (a := x1.d) (b := x2.d) okx1.1 okx1.2.1 okx1.2.2.1 okx1.2.2.2.1 (Rd.mv (Nat.succ_pos _) VI20 S31) (Rd.mv (Nat.succ_pos _) VI21 S31) (Rd.mv (Nat.succ_pos _) VI22 S31) (Rd.mv (Nat.succ_pos _) VI23 S31) (Rd.mv (Nat.succ_pos _) VI24 S31) okx1.2.2.2.2 okx2.1 okx2.2.1 okx2.2.2.1 okx2.2.2.2.1 (Rd.mv (Nat.succ_pos _) VI26 S31) (Rd.mv (Nat.succ_pos _) VI27 S31) (Rd.mv (Nat.succ_pos _) VI28 S31) (Rd.mv (Nat.succ_pos _) VI29 S31) (Rd.mv (Nat.succ_pos _) VI30 S31) okx2.2.2.2.2 (by exact elM p0 hx1 hx2)) ?_
       rintro _ w42 ⟨rfl, m42⟩
       refine ⟨_, rfl, fun _ F43 => ?_⟩
       have S42 := At.frame0 S31.at' m42
       clear m42
       refine ⟨Sd.of S42 [] rfl, ?_⟩
       refine g_take F43 rfl (i := 9) (listed' := #[true, true, true, true, true, true, true, true, true, true]) rfl (by kernel_rfl) (by kernel_rfl) (by kernel_rfl) (fun _ _ _ h => h) (Sd.of S42 [] rfl) rfl rfl rfl rfl (fun _ hz => (r_not rfl (F43.ev 25 rfl))) fun _ F44 => ?_
       refine wpAnyH_done (by kernel_rfl) (x_normal ?_) _
       exact ⟨F44.cut rfl, ((S31.trans S42).pick [] rfl)⟩
     · rintro a45 w45 ⟨F45, S45⟩
       refine x_normal (wp_cond_false (F45.ev 26 rfl) (wp_skip (x_block_normal (x_normal (wp_region_lit (l_op (f_mv F45 rfl rfl rfl rfl rfl fun _ F46 => ?_)))))))
       refine l_op (f_val F46 rfl rfl (r_add (z := ((k + 1 : Nat) : Int)) rfl (F46.ev 15 rfl) rfl (by first | rfl | omega) ⟨by first | omega | (unfold i64ok at *; omega), by first | omega | (unfold i64ok at *; omega)⟩) rfl fun _ F47 => ?_)
       refine l_op (f_as F47 rfl rfl rfl rfl rfl fun _ F48 => ?_)
       have F49 : Fr 27 [(5, .int .i64 ((k + 1 : Nat) : Int)), (0, .slice a_a a_n a_c), (1, .slice b_a b_n b_c)] _ := F48.cut rfl
       clear F45 F46 F47 F48
       refine s_end ?_
       refine x_normal ⟨k + 1, by omega, F49.cut rfl, ((S11.trans S45).pick [] rfl), by omega⟩
   · skip
     refine wp_exit (x_then_exit (x_then_exit (x_block_here (x_normal (wp_seq (wp_region_lit (l_op (f_val F16 rfl rfl (r_assign rfl rfl) rfl fun _ F50 => ?_))))))))
     have F51 : Fr 27 [(4, .bool true)] _ := F50.cut rfl
     clear F16 F50
     refine s_end (x_normal (wp_ret ?_))
     refine x_done (v := .bool true) F51 (results_1 Try.results20 (.tmp (F51.ev 4 rfl))) ?_
     exact ⟨rfl, (Mv.pick S11 [] rfl)⟩
end Go.Proofs.Ytgfilegkabbliaa
