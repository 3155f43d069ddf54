/-
  Walks: lists of transactions, disks in the laws' hands.
-/
import Derived.Test.YtgfilegkabbliaaDatNs
import Derived.Test.YtgfilegkabbliaaGenXb
namespace Go.Proofs.Ytgfilegkabbliaa
open Go.ChangeShapes Go.WideShapes Go.ChangeAt Go.RowKit
set_option maxRecDepth 100000
set_option maxHeartbeats 1000000
theorem laws_szCellS_c {w : World} {H : Nat → Prop} {a : List CellD} {a_a : Option Addr} {a_n a_c : Nat} {left : Int} (v_a : RdA 2 encC okC H w (.slice a_a a_n a_c) a) (h_left : i64ok left) (p0 : 0 ≤ left) (p1 : left ≤ 1048576) :
    Calls Try.prog 86 #[.slice a_a a_n a_c, .int .i64 left] w fun e w' => e = .returned (.int .i64 (subOr left (szCells a))) ∧ Mv [] w [] w' ∧ i64ok (subOr left (szCells a)) := by
  have uU : True := (fun _ => trivial) h_left
  clear uU
  refine (szCellS_c _ left w a v_a.1 p0 p1).mono ?_
  rintro e w' ⟨rfl, hb⟩
  exact ⟨rfl, Mv.of_bl hb, subOr_i64 p0 p1⟩
theorem laws_toCellS_c {w : World} {H : Nat → Prop} {a : List CellD} {a_a : Option Addr} {a_n a_c : Nat} (v_a : RdA 2 encC okC H w (.slice a_a a_n a_c) a) (p0 : a.length ≤ 1048576) :
    Calls Try.prog 91 #[.slice a_a a_n a_c] w fun e w' => ∃ (r0_a : Option Addr), ∃ (r0_n : Nat), ∃ (r0_c : Nat), e = .returned (.slice r0_a r0_n r0_c) ∧ Mv [] w [ow 144 2 encC okC (.slice r0_a r0_n r0_c) a] w' := by
  refine (toCellS_s _ w a v_a.1 p0).mono ?_
  rintro e w' ⟨x, n, c, rfl, h1, h2, h3⟩
  exact ⟨x, n, c, rfl, mv_of_fresh h1 h2 h3⟩
theorem laws_eqCellS_c {w : World} {H : Nat → Prop} {a : List CellD} {a_a : Option Addr} {a_n a_c : Nat} {b : List CellD} {b_a : Option Addr} {b_n b_c : Nat} (v_a : Rd 2 encC okC H w (.slice a_a a_n a_c) a) (v_b : Rd 2 encC okC H w (.slice b_a b_n b_c) b) (p0 : a = b) :
    Calls Try.prog 99 #[.slice a_a a_n a_c, .slice b_a b_n b_c] w fun e w' => e = .returned (.bool true) ∧ Mv [] w [] w' := by
  subst p0
  refine (eqCellS_c _ _ w a v_a.1 v_b.1).mono ?_
  rintro e w' ⟨rfl, hb⟩
  exact ⟨rfl, Mv.of_bl hb⟩
theorem laws_markCellS_c {w : World} {H : Nat → Prop} {a : List CellD} {a_a : Option Addr} {a_n a_c : Nat} {k : Nat} (h_k : i64ok (k : Int)) (p0 : k + 2 * a.length ≤ 4611686018427387904) (hA : At w [ow 144 2 encC okC (.slice a_a a_n a_c) a]) :
    Calls Try.prog 102 #[.slice a_a a_n a_c, .int .i64 ((k : Nat) : Int)] w fun e w' => e = .returned (.int .i64 ((k + 2 * a.length : Nat) : Int)) ∧ Mv [ow 144 2 encC okC (.slice a_a a_n a_c) a] w [ow 144 2 encC okC (.slice a_a a_n a_c) (marksC k a.length)] w' := by
  have uU : True := (fun _ _ => trivial) H h_k
  clear uU
  have hO := hA.ok _ (List.mem_singleton.2 rfl)
  refine (markCellS_c _ k _ rfl w a hO p0).mono ?_
  rintro e w' ⟨rfl, h1, h2⟩
  exact ⟨rfl, mv_of_own h1 h2 (Moved.refl _ _)⟩
theorem laws_heldCellS_c {w : World} {H : Nat → Prop} {a : List CellD} {a_a : Option Addr} {a_n a_c : Nat} {k : Nat} {n : Nat} (v_a : Rd 2 encC okC H w (.slice a_a a_n a_c) a) (h_k : i64ok (k : Int)) (p0 : a = marksC k n) (p1 : k + 2 * n ≤ 4611686018427387904) :
    Calls Try.prog 125 #[.slice a_a a_n a_c, .int .i64 ((k : Nat) : Int)] w fun e w' => e = .returned (.int .i64 ((k + 2 * n : Nat) : Int)) ∧ Mv [] w [] w' := by
  have uU : True := (fun _ => trivial) h_k
  clear uU
  subst p0
  refine (heldCellS_c _ k n _ rfl w v_a.1 p1).mono ?_
  rintro e w' ⟨rfl, hb⟩
  exact ⟨rfl, Mv.of_bl hb⟩
theorem laws_szSlot_c {w : World} {H : Nat → Prop} {a : SlotD} {a_cells_a : Option Addr} {a_cells_n a_cells_c : Nat} {left : Int} (h_a_seq : i64ok a.seq) (v_a_cells : RdA 2 encC okC H w (.slice a_cells_a a_cells_n a_cells_c) a.cells) (h_left : i64ok left) (p0 : 0 ≤ left) (p1 : left ≤ 1048576) :
    Calls Try.prog 106 #[.agg #[.int .i64 a.seq, .slice a_cells_a a_cells_n a_cells_c, .bool a.whole], .int .i64 left] w fun e w' => e = .returned (.int .i64 (subOr left (szCells a.cells))) ∧ Mv [] w [] w' ∧ i64ok (subOr left (szCells a.cells)) := by
 have uU : True := (fun _ => trivial) h_a_seq
 clear uU
 have V_v_a_cells : RdA 2 encC okC (V H w []) w (.slice a_cells_a a_cells_n a_cells_c) a.cells := RdA.start v_a_cells (fun _ _ => fps_nil _)
 obtain ⟨ln_a_cells, le_a_cells, mx_a_cells, ni_a_cells⟩ := RdA.inv v_a_cells
 refine calls_enter 12 Try.func106 rfl Try.ntmps106 (Nat.le_of_ble_eq_true rfl) (fun _ F0i => ?_)
 have F0 : Fr 12 [(0, .agg #[.int .i64 a.seq, .slice a_cells_a a_cells_n a_cells_c, .bool a.whole]), (1, .int .i64 left)] _ := F0i
 clear F0i
 refine wp_seq (wp_region_lit (l_op (f_box F0 (At.nil w) rfl rfl rfl (F0.ev 0 rfl) rfl rfl fun b1 _ w1 F2 S1 => ?_)))
 refine l_op (f_val F2 rfl rfl (r_assign rfl rfl) rfl fun _ F3 => ?_)
 have F4 : Fr 12 [(4, .int .i64 0), (2, .pointer (some ⟨b1, 0, none⟩)), (1, .int .i64 left)] _ := F3.cut rfl
 clear F0 F2 F3
 have T5 : Mv _ _ [bx b1 [.int .i64 a.seq, .slice a_cells_a a_cells_n a_cells_c, .bool a.whole] 130] _ := S1
 refine s_end (x_normal (wp_seq (wp_region_lit (l_op (f_val F4 rfl rfl (r_field FI_130_1 rfl (F4.ev 2 rfl) rfl) rfl fun _ F6 => ?_)))))
 refine l_op (f_val (v := .slice a_cells_a a_cells_n a_cells_c) F6 rfl rfl (r_loadB T5.at' 0 TI_60 rfl rfl (F6.ev 5 rfl) rfl rfl (fun _ => rfl) rfl) rfl fun _ F7 => ?_)
 refine l_op (f_mv F7 rfl rfl rfl rfl rfl fun _ F8 => ?_)
 refine l_op (f_call F8 CF_86 rfl rfl rfl rfl (lc (F8.ev 6 rfl) (lc (F8.ev 7 rfl) rfl)) (laws_szCellS_c (a := a.cells) (left := left) (RdA.mv (Nat.succ_pos _) V_v_a_cells T5) h_left (by first | assumption | omega | (simp <;> omega)) (by first | assumption | omega | (simp <;> omega))) ?_)
 rintro _ w9 ⟨rfl, m9, q9_0⟩
 refine ⟨_, rfl, fun _ F10 => ?_⟩
 have S9 := At.frame0 T5.at' m9
 clear m9
 refine l_op (f_as F10 rfl rfl rfl rfl rfl fun _ F11 => ?_)
 have F12 : Fr 12 [(1, .int .i64 (subOr left (szCells a.cells)))] _ := F11.cut rfl
 clear F4 F6 F7 F8 F10 F11
 have T13 : Mv _ _ [bx b1 [.int .i64 a.seq, .slice a_cells_a a_cells_n a_cells_c, .bool a.whole] 130] _ := S9
 refine s_end (x_normal (wp_seq (wp_seq (wp_region_lit (l_op (f_mv F12 rfl rfl rfl rfl rfl fun _ F14 => ?_))))))
 refine l_op (f_val F14 rfl rfl (r_cmp (b := decide ((subOr left (szCells a.cells)) < 0)) (.inr (.inr (.inl rfl))) rfl (F14.ev 9 rfl) rfl (dec_of (by omega))) rfl fun _ F15 => ?_)
 have F16 : Fr 12 [(10, .bool (decide ((subOr left (szCells a.cells)) < 0))), (1, .int .i64 (subOr left (szCells a.cells)))] _ := F15.cut rfl
 clear F12 F14 F15
 refine s_end (x_normal (x_cond (p := (subOr left (szCells a.cells)) < 0) (F16.ev 10 rfl) (fun h17 => ?_) (fun h17 => ?_)))
 · skip
   refine wp_seq (wp_region_lit (l_op (f_val F16 rfl rfl (r_assign rfl rfl) rfl fun _ F18 => ?_)))
   have F19 : Fr 12 [(4, .int .i64 (-1))] _ := F18.cut rfl
   clear F16 F18
   refine s_end (x_normal (wp_ret (x_then_ret ?_)))
   refine x_done (v := .int .i64 (-1)) F19 (results_1 Try.results106 (.tmp (F19.ev 4 rfl))) ?_
   exact ⟨(by rw [(show (-1) = (subOr left (szCells a.cells)) from by first | rfl | exact subOr_neg1 (by assumption))]), (Mv.pick (T5.trans T13) [] rfl), subOr_i64 p0 p1⟩
 · skip
   refine wp_skip (x_normal (wp_seq (wp_region_lit (l_op (f_mv F16 rfl rfl rfl rfl rfl fun _ F20 => ?_)))))
   refine l_op (f_as F20 rfl rfl rfl rfl rfl fun _ F21 => ?_)
   have F22 : Fr 12 [(4, .int .i64 (subOr left (szCells a.cells)))] _ := F21.cut rfl
   clear F16 F20 F21
   refine s_end (x_normal (wp_ret ?_))
   refine x_done (v := .int .i64 (subOr left (szCells a.cells))) F22 (results_1 Try.results106 (.tmp (F22.ev 4 rfl))) ?_
   exact ⟨rfl, (Mv.pick (T5.trans T13) [] rfl), subOr_i64 p0 p1⟩
theorem laws_toSlot_c {w : World} {H : Nat → Prop} {a : SlotD} {a_cells_a : Option Addr} {a_cells_n a_cells_c : Nat} (h_a_seq : i64ok a.seq) (v_a_cells : RdA 2 encC okC H w (.slice a_cells_a a_cells_n a_cells_c) a.cells) (p0 : a.cells.length ≤ 1048576) :
    Calls Try.prog 107 #[.agg #[.int .i64 a.seq, .slice a_cells_a a_cells_n a_cells_c, .bool a.whole]] w fun e w' => ∃ (r0_cells_a : Option Addr), ∃ (r0_cells_n : Nat), ∃ (r0_cells_c : Nat), e = .returned (.agg #[.int .i64 a.seq, .slice r0_cells_a r0_cells_n r0_cells_c, .bool a.whole]) ∧ Mv [] w [ow 144 2 encC okC (.slice r0_cells_a r0_cells_n r0_cells_c) a.cells] w' := by
 have uU : True := (fun _ _ => trivial) h_a_seq p0
 clear uU
 have V_v_a_cells : RdA 2 encC okC (V H w []) w (.slice a_cells_a a_cells_n a_cells_c) a.cells := RdA.start v_a_cells (fun _ _ => fps_nil _)
 obtain ⟨ln_a_cells, le_a_cells, mx_a_cells, ni_a_cells⟩ := RdA.inv v_a_cells
 refine calls_enter 15 Try.func107 rfl Try.ntmps107 (Nat.le_of_ble_eq_true rfl) (fun _ F0i => ?_)
 have F0 : Fr 15 [(0, .agg #[.int .i64 a.seq, .slice a_cells_a a_cells_n a_cells_c, .bool a.whole])] _ := F0i
 clear F0i
 refine wp_seq (wp_region_lit (l_op (f_box F0 (At.nil w) rfl rfl rfl (F0.ev 0 rfl) rfl rfl fun b1 _ w1 F2 S1 => ?_)))
 refine l_op (f_alloc F2 S1.at' ZI_99 rfl rfl rfl rfl rfl fun b3 _ w3 F4 S3 => ?_)
 have F5 : Fr 15 [(2, .pointer (some ⟨b3, 0, none⟩)), (1, .pointer (some ⟨b1, 0, none⟩))] _ := F4.cut rfl
 clear F0 F2 F4
 have T6 : Mv _ _ [bx b3 [.int .i64 0, .slice none 0 0, .bool false] 99, bx b1 [.int .i64 a.seq, .slice a_cells_a a_cells_n a_cells_c, .bool a.whole] 130] _ := S3
 refine s_end (x_normal (wp_seq (wp_region_lit (l_op (f_alloc F5 T6.at' ZI_99 rfl rfl rfl rfl rfl fun b7 _ w7 F8 S7 => ?_)))))
 have F9 : Fr 15 [(3, .pointer (some ⟨b7, 0, none⟩)), (2, .pointer (some ⟨b3, 0, none⟩)), (1, .pointer (some ⟨b1, 0, none⟩))] _ := F8.cut rfl
 clear F5 F8
 have T10 : Mv _ _ [bx b7 [.int .i64 0, .slice none 0 0, .bool false] 99, bx b3 [.int .i64 0, .slice none 0 0, .bool false] 99, bx b1 [.int .i64 a.seq, .slice a_cells_a a_cells_n a_cells_c, .bool a.whole] 130] _ := S7
 refine s_end (x_normal (wp_seq (wp_region_lit (l_op (f_val F9 rfl rfl (r_field FI_130_0 rfl (F9.ev 1 rfl) rfl) rfl fun _ F11 => ?_)))))
 refine l_op (f_val (v := .int .i64 a.seq) F11 rfl rfl (r_loadB T10.at' 2 TI_3 rfl rfl (F11.ev 4 rfl) rfl rfl (fun _ => rfl) rfl) rfl fun _ F12 => ?_)
 refine l_op (f_val F12 rfl rfl (r_field FI_99_0 rfl (F12.ev 3 rfl) rfl) rfl fun _ F13 => ?_)
 refine l_op (s_store T10.at' 0 TI_3 rfl rfl rfl rfl rfl (F13.ev 6 rfl) (F13.ev 5 rfl) rfl rfl rfl rfl rfl fun w14 S14 => ?_)
 have F15 : Fr 15 [(6, .pointer (some ⟨b7, 0, none⟩)), (5, .int .i64 a.seq), (3, .pointer (some ⟨b7, 0, none⟩)), (2, .pointer (some ⟨b3, 0, none⟩)), (1, .pointer (some ⟨b1, 0, none⟩))] _ := F13.cut rfl
 clear F9 F11 F12 F13
 have T16 : Mv _ _ [bx b7 [.int .i64 a.seq, .slice none 0 0, .bool false] 99, bx b3 [.int .i64 0, .slice none 0 0, .bool false] 99, bx b1 [.int .i64 a.seq, .slice a_cells_a a_cells_n a_cells_c, .bool a.whole] 130] _ := S14
 refine s_end (x_normal (wp_seq (wp_region_lit (l_op (f_val F15 rfl rfl (r_field FI_130_1 rfl (F15.ev 1 rfl) rfl) rfl fun _ F17 => ?_)))))
 refine l_op (f_val (v := .slice a_cells_a a_cells_n a_cells_c) F17 rfl rfl (r_loadB T16.at' 2 TI_60 rfl rfl (F17.ev 7 rfl) rfl rfl (fun _ => rfl) rfl) rfl fun _ F18 => ?_)
 refine l_op (f_call F18 CF_91 rfl rfl rfl rfl (lc (F18.ev 8 rfl) rfl) (laws_toCellS_c (a := a.cells) (RdA.mv (Nat.succ_pos _) V_v_a_cells (S1.trans (T6.trans (T10.trans T16)))) (by first | assumption | omega | (simp <;> omega))) ?_)
 rintro _ w19 ⟨r0_a_19, r0_n_19, r0_c_19, rfl, m19⟩
 refine ⟨_, rfl, fun _ F20 => ?_⟩
 have S19 : Mv _ _ [ow 144 2 encC okC (.slice r0_a_19 r0_n_19 r0_c_19) a.cells, bx b7 [.int .i64 a.seq, .slice none 0 0, .bool false] 99, bx b3 [.int .i64 0, .slice none 0 0, .bool false] 99, bx b1 [.int .i64 a.seq, .slice a_cells_a a_cells_n a_cells_c, .bool a.whole] 130] _ := At.frame T16.at' [] rfl m19
 obtain ⟨lo19_0, lp19_0, lq19_0⟩ := At.ownInv S19.at' ET_74.hk 0 rfl
 clear m19
 refine l_op (f_val F20 rfl rfl (r_field FI_99_1 rfl (F20.ev 3 rfl) rfl) rfl fun _ F21 => ?_)
 refine l_op (s_store S19.at' 1 TI_74 rfl rfl rfl rfl rfl (F21.ev 10 rfl) (F21.ev 9 rfl) rfl rfl rfl rfl rfl fun w22 S22 => ?_)
 have F23 : Fr 15 [(10, .pointer (some ⟨b7, 1, none⟩)), (9, .slice r0_a_19 r0_n_19 r0_c_19), (3, .pointer (some ⟨b7, 0, none⟩)), (2, .pointer (some ⟨b3, 0, none⟩)), (1, .pointer (some ⟨b1, 0, none⟩))] _ := F21.cut rfl
 clear F15 F17 F18 F20 F21
 have T24 : Mv _ _ [bx b7 [.int .i64 a.seq, .slice r0_a_19 r0_n_19 r0_c_19, .bool false] 99, ow 144 2 encC okC (.slice r0_a_19 r0_n_19 r0_c_19) a.cells, bx b3 [.int .i64 0, .slice none 0 0, .bool false] 99, bx b1 [.int .i64 a.seq, .slice a_cells_a a_cells_n a_cells_c, .bool a.whole] 130] _ := S22
 refine s_end (x_normal (wp_seq (wp_region_lit (l_op (f_val F23 rfl rfl (r_field FI_130_2 rfl (F23.ev 1 rfl) rfl) rfl fun _ F25 => ?_)))))
 refine l_op (f_val (v := .bool a.whole) F25 rfl rfl (r_loadB T24.at' 3 TI_4 rfl rfl (F25.ev 11 rfl) rfl rfl (fun _ => rfl) rfl) rfl fun _ F26 => ?_)
 refine l_op (f_val F26 rfl rfl (r_field FI_99_2 rfl (F26.ev 3 rfl) rfl) rfl fun _ F27 => ?_)
 refine l_op (s_store T24.at' 0 TI_4 rfl rfl rfl rfl rfl (F27.ev 13 rfl) (F27.ev 12 rfl) rfl rfl rfl rfl rfl fun w28 S28 => ?_)
 have F29 : Fr 15 [(13, .pointer (some ⟨b7, 2, none⟩)), (12, .bool a.whole), (3, .pointer (some ⟨b7, 0, none⟩)), (2, .pointer (some ⟨b3, 0, none⟩))] _ := F27.cut rfl
 clear F23 F25 F26 F27
 have T30 : Mv _ _ [bx b7 [.int .i64 a.seq, .slice r0_a_19 r0_n_19 r0_c_19, .bool a.whole] 99, ow 144 2 encC okC (.slice r0_a_19 r0_n_19 r0_c_19) a.cells, bx b3 [.int .i64 0, .slice none 0 0, .bool false] 99, bx b1 [.int .i64 a.seq, .slice a_cells_a a_cells_n a_cells_c, .bool a.whole] 130] _ := S28
 refine s_end (x_normal (wp_seq (wp_region_lit (l_op (f_val (v := .agg #[.int .i64 a.seq, .slice r0_a_19 r0_n_19 r0_c_19, .bool a.whole]) F29 rfl rfl (r_loadB T30.at' 0 TI_99 rfl rfl (F29.ev 3 rfl) rfl rfl (fun h => nomatch h) rfl) rfl fun _ F31 => ?_)))))
 refine l_op (s_store T30.at' 2 TI_99 rfl rfl rfl rfl rfl (F31.ev 2 rfl) (F31.ev 14 rfl) rfl rfl rfl rfl rfl fun w32 S32 => ?_)
 have F33 : Fr 15 [(14, .agg #[.int .i64 a.seq, .slice r0_a_19 r0_n_19 r0_c_19, .bool a.whole]), (2, .pointer (some ⟨b3, 0, none⟩))] _ := F31.cut rfl
 clear F29 F31
 have T34 : Mv _ _ [bx b3 [.int .i64 a.seq, .slice r0_a_19 r0_n_19 r0_c_19, .bool a.whole] 99, bx b7 [.int .i64 a.seq, .slice r0_a_19 r0_n_19 r0_c_19, .bool a.whole] 99, ow 144 2 encC okC (.slice r0_a_19 r0_n_19 r0_c_19) a.cells, bx b1 [.int .i64 a.seq, .slice a_cells_a a_cells_n a_cells_c, .bool a.whole] 130] _ := S32
 refine s_end (x_normal (wp_ret ?_))
 refine x_done (v := .agg #[.int .i64 a.seq, .slice r0_a_19 r0_n_19 r0_c_19, .bool a.whole]) F33 (results_1 Try.results107 (.cell (F33.ev 2 rfl) (run_loadVar' TI_99 _ [.int .i64 a.seq, .slice r0_a_19 r0_n_19 r0_c_19, .bool a.whole] rfl (fun h => nomatch h) (At.cells T34.at' 0 rfl 0 [.int .i64 a.seq, .slice r0_a_19 r0_n_19 r0_c_19, .bool a.whole] rfl)))) ?_
 exact ⟨r0_a_19, r0_n_19, r0_c_19, rfl, (Mv.pick (S1.trans (T6.trans (T10.trans (T16.trans (S19.trans (T24.trans (T30.trans T34))))))) [2] rfl)⟩
theorem laws_eqSlot_c {w : World} {H : Nat → Prop} {a : SlotD} {a_cells_a : Option Addr} {a_cells_n a_cells_c : Nat} {b : SlotD} {b_cells_a : Option Addr} {b_cells_n b_cells_c : Nat} (h_a_seq : i64ok a.seq) (v_a_cells : Rd 2 encC okC H w (.slice a_cells_a a_cells_n a_cells_c) a.cells) (h_b_seq : i64ok b.seq) (v_b_cells : Rd 2 encC okC H w (.slice b_cells_a b_cells_n b_cells_c) b.cells) (p0 : a = b) :
    Calls Try.prog 108 #[.agg #[.int .i64 a.seq, .slice a_cells_a a_cells_n a_cells_c, .bool a.whole], .agg #[.int .i64 b.seq, .slice b_cells_a b_cells_n b_cells_c, .bool b.whole]] w fun e w' => e = .returned (.bool true) ∧ Mv [] w [] w' := by
 have uU : True := (fun _ _ => trivial) h_a_seq h_b_seq
 clear uU
 have V_v_a_cells : Rd 2 encC okC (V H w []) w (.slice a_cells_a a_cells_n a_cells_c) a.cells := Rd.start v_a_cells (fun _ _ => fps_nil _)
 obtain ⟨ln_a_cells, le_a_cells, mx_a_cells, ni_a_cells⟩ := Rd.inv v_a_cells
 have V_v_b_cells : Rd 2 encC okC (V H w []) w (.slice b_cells_a b_cells_n b_cells_c) b.cells := Rd.start v_b_cells (fun _ _ => fps_nil _)
 obtain ⟨ln_b_cells, le_b_cells, mx_b_cells, ni_b_cells⟩ := Rd.inv v_b_cells
 refine calls_enter 21 Try.func108 rfl Try.ntmps108 (Nat.le_of_ble_eq_true rfl) (fun _ F0i => ?_)
 have F0 : Fr 21 [(0, .agg #[.int .i64 a.seq, .slice a_cells_a a_cells_n a_cells_c, .bool a.whole]), (1, .agg #[.int .i64 b.seq, .slice b_cells_a b_cells_n b_cells_c, .bool b.whole])] _ := F0i
 clear F0i
 refine wp_seq (wp_region_lit (l_op (f_box F0 (At.nil w) rfl rfl rfl (F0.ev 0 rfl) rfl rfl fun b1 _ w1 F2 S1 => ?_)))
 refine l_op (f_box F2 S1.at' rfl rfl rfl (F2.ev 1 rfl) rfl rfl fun b3 _ w3 F4 S3 => ?_)
 refine l_op (f_val F4 rfl rfl (r_assign rfl rfl) rfl fun _ F5 => ?_)
 have F6 : Fr 21 [(4, .bool false), (3, .pointer (some ⟨b3, 0, none⟩)), (2, .pointer (some ⟨b1, 0, none⟩))] _ := F5.cut rfl
 clear F0 F2 F4 F5
 have T7 : Mv _ _ [bx b3 [.int .i64 b.seq, .slice b_cells_a b_cells_n b_cells_c, .bool b.whole] 99, bx b1 [.int .i64 a.seq, .slice a_cells_a a_cells_n a_cells_c, .bool a.whole] 99] _ := S3
 refine s_end (x_normal (wp_seq (wp_seq (wp_region_lit (l_op (f_val F6 rfl rfl (r_field FI_99_0 rfl (F6.ev 2 rfl) rfl) rfl fun _ F8 => ?_))))))
 refine l_op (f_val (v := .int .i64 a.seq) F8 rfl rfl (r_loadB T7.at' 1 TI_3 rfl rfl (F8.ev 5 rfl) rfl rfl (fun _ => rfl) rfl) rfl fun _ F9 => ?_)
 refine l_op (f_val F9 rfl rfl (r_field FI_99_0 rfl (F9.ev 3 rfl) rfl) rfl fun _ F10 => ?_)
 refine l_op (f_val (v := .int .i64 b.seq) F10 rfl rfl (r_loadB T7.at' 0 TI_3 rfl rfl (F10.ev 7 rfl) rfl rfl (fun _ => rfl) rfl) rfl fun _ F11 => ?_)
 refine l_op (f_val F11 rfl rfl (r_cmp (b := decide (a.seq ≠ b.seq)) (.inr (.inl rfl)) rfl (F11.ev 6 rfl) (F11.ev 8 rfl) (dec_of (by omega))) rfl fun _ F12 => ?_)
 rw [show (decide (a.seq ≠ b.seq)) = false from decide_eq_false (fun h => h (by rw [p0]))] at F12
 have F13 : Fr 21 [(9, .bool false), (3, .pointer (some ⟨b3, 0, none⟩)), (2, .pointer (some ⟨b1, 0, none⟩))] _ := F12.cut rfl
 clear F6 F8 F9 F10 F11 F12
 refine s_end (x_normal (wp_cond_false (F13.ev 9 rfl) (wp_skip (x_normal (wp_seq (wp_seq (wp_region_lit (l_op (f_val F13 rfl rfl (r_field FI_99_1 rfl (F13.ev 2 rfl) rfl) rfl fun _ F14 => ?_)))))))))
 refine l_op (f_val (v := .slice a_cells_a a_cells_n a_cells_c) F14 rfl rfl (r_loadB T7.at' 1 TI_74 rfl rfl (F14.ev 10 rfl) rfl rfl (fun _ => rfl) rfl) rfl fun _ F15 => ?_)
 refine l_op (f_val F15 rfl rfl (r_field FI_99_1 rfl (F15.ev 3 rfl) rfl) rfl fun _ F16 => ?_)
 refine l_op (f_val (v := .slice b_cells_a b_cells_n b_cells_c) F16 rfl rfl (r_loadB T7.at' 0 TI_74 rfl rfl (F16.ev 12 rfl) rfl rfl (fun _ => rfl) rfl) rfl fun _ F17 => ?_)
 refine l_op (f_call F17 CF_99 rfl rfl rfl rfl (lc (F17.ev 11 rfl) (lc (F17.ev 13 rfl) rfl)) (laws_eqCellS_c (a := a.cells) (b := b.cells) (Rd.mv (Nat.succ_pos _) V_v_a_cells (S1.trans T7)) (Rd.mv (Nat.succ_pos _) V_v_b_cells (S1.trans T7)) (by rw [p0])) ?_)
 rintro _ w18 ⟨rfl, m18⟩
 refine ⟨_, rfl, fun _ F19 => ?_⟩
 have S18 := At.frame0 T7.at' m18
 clear m18
 refine l_op (f_val F19 rfl rfl (r_not rfl (F19.ev 14 rfl)) rfl fun _ F20 => ?_)
 have F21 : Fr 21 [(15, .bool false), (3, .pointer (some ⟨b3, 0, none⟩)), (2, .pointer (some ⟨b1, 0, none⟩))] _ := F20.cut rfl
 clear F13 F14 F15 F16 F17 F19 F20
 have T22 : Mv _ _ [bx b3 [.int .i64 b.seq, .slice b_cells_a b_cells_n b_cells_c, .bool b.whole] 99, bx b1 [.int .i64 a.seq, .slice a_cells_a a_cells_n a_cells_c, .bool a.whole] 99] _ := S18
 refine s_end (x_normal (wp_cond_false (F21.ev 15 rfl) (wp_skip (x_normal (wp_seq (wp_seq (wp_region_lit (l_op (f_val F21 rfl rfl (r_field FI_99_2 rfl (F21.ev 2 rfl) rfl) rfl fun _ F23 => ?_)))))))))
 refine l_op (f_val (v := .bool a.whole) F23 rfl rfl (r_loadB T22.at' 1 TI_4 rfl rfl (F23.ev 16 rfl) rfl rfl (fun _ => rfl) rfl) rfl fun _ F24 => ?_)
 refine l_op (f_val F24 rfl rfl (r_field FI_99_2 rfl (F24.ev 3 rfl) rfl) rfl fun _ F25 => ?_)
 refine l_op (f_val (v := .bool b.whole) F25 rfl rfl (r_loadB T22.at' 0 TI_4 rfl rfl (F25.ev 18 rfl) rfl rfl (fun _ => rfl) rfl) rfl fun _ F26 => ?_)
 refine l_op (f_val F26 rfl rfl (r_cmpb (b := (a.whole != b.whole)) Try.underlying4 (.inr rfl) rfl (F26.ev 17 rfl) (F26.ev 19 rfl) rfl) rfl fun _ F27 => ?_)
 rw [show (a.whole != b.whole) = false from by rw [p0]; exact bne_self_eq_false _] at F27
 have F28 : Fr 21 [(20, .bool false)] _ := F27.cut rfl
 clear F21 F23 F24 F25 F26 F27
 refine s_end (x_normal (wp_cond_false (F28.ev 20 rfl) (wp_skip (x_normal (wp_seq (wp_region_lit (l_op (f_val F28 rfl rfl (r_assign rfl rfl) rfl fun _ F29 => ?_))))))))
 have F30 : Fr 21 [(4, .bool true)] _ := F29.cut rfl
 clear F28 F29
 refine s_end (x_normal (wp_ret ?_))
 refine x_done (v := .bool true) F30 (results_1 Try.results108 (.tmp (F30.ev 4 rfl))) ?_
 exact ⟨rfl, (Mv.pick (S1.trans (T7.trans T22)) [] rfl)⟩
theorem laws_szSlotS_c {w : World} {H : Nat → Prop} {a : List SlotH} {a_a : Option Addr} {a_n a_c : Nat} {left : Int} (v_a : RdA 3 encSlot okSlot H w (.slice a_a a_n a_c) a) (u_a : NRa inSlot H w a) (h_left : i64ok left) (p0 : 0 ≤ left) (p1 : left ≤ 1048576) :
    Calls Try.prog 49 #[.slice a_a a_n a_c, .int .i64 left] w fun e w' => e = .returned (.int .i64 (subOr left (szSlotsH a))) ∧ Mv [] w [] w' ∧ i64ok (subOr left (szSlotsH a)) := by
 have uU : True := (fun _ => trivial) h_left
 clear uU
 have V_v_a : RdA 3 encSlot okSlot (V H w []) w (.slice a_a a_n a_c) a := RdA.start v_a (fun _ _ => fps_nil _)
 obtain ⟨ln_a, le_a, mx_a, ni_a⟩ := RdA.inv v_a
 have V_u_a : NRa inSlot (V H w []) w a := NRa.start u_a (fun _ _ => fps_nil _)
 refine calls_enter 27 Try.func49 rfl Try.ntmps49 (Nat.le_of_ble_eq_true rfl) (fun _ F0i => ?_)
 have F0 : Fr 27 [(0, .slice a_a a_n a_c), (1, .int .i64 left)] _ := F0i
 clear F0i
 refine wp_seq (wp_region_lit (l_op (f_val F0 rfl rfl (r_assign rfl rfl) rfl fun _ F1 => ?_)))
 have F2 : Fr 27 [(4, .int .i64 0), (0, .slice a_a a_n a_c), (1, .int .i64 left)] _ := F1.cut rfl
 clear F0 F1
 refine s_end (x_normal (wp_seq (wp_region_lit (l_op (f_mv F2 rfl rfl rfl rfl rfl fun _ F3 => ?_)))))
 refine l_op (f_mv F3 rfl rfl rfl rfl rfl fun _ F4 => ?_)
 refine l_op (f_val F4 rfl rfl (r_len Try.underlying22 rfl (F4.ev 7 rfl)) rfl fun _ F5 => ?_)
 refine l_op (f_val F5 rfl rfl (r_sub (z := (left - ((a_n : Nat) : Int))) rfl (F5.ev 6 rfl) (F5.ev 8 rfl) (by first | rfl | omega) ⟨by first | omega | (unfold i64ok at *; omega), by first | omega | (unfold i64ok at *; omega)⟩) rfl fun _ F6 => ?_)
 refine l_op (f_as F6 rfl rfl rfl rfl rfl fun _ F7 => ?_)
 have F8 : Fr 27 [(1, .int .i64 (left - ((a_n : Nat) : Int))), (0, .slice a_a a_n a_c)] _ := F7.cut rfl
 clear F2 F3 F4 F5 F6 F7
 refine s_end (x_normal (wp_seq (wp_seq (wp_region_lit (l_op (f_mv F8 rfl rfl rfl rfl rfl fun _ F9 => ?_))))))
 refine l_op (f_val F9 rfl rfl (r_cmp (b := decide ((left - ((a_n : Nat) : Int)) < 0)) (.inr (.inr (.inl rfl))) rfl (F9.ev 10 rfl) rfl (dec_of (by omega))) rfl fun _ F10 => ?_)
 have F11 : Fr 27 [(11, .bool (decide ((left - ((a_n : Nat) : Int)) < 0))), (1, .int .i64 (left - ((a_n : Nat) : Int))), (0, .slice a_a a_n a_c)] _ := F10.cut rfl
 clear F8 F9 F10
 refine s_end (x_normal (x_cond (p := (left - ((a_n : Nat) : Int)) < 0) (F11.ev 11 rfl) (fun h12 => ?_) (fun h12 => ?_)))
 · skip
   refine wp_seq (wp_region_lit (l_op (f_val F11 rfl rfl (r_assign rfl rfl) rfl fun _ F13 => ?_)))
   have F14 : Fr 27 [(4, .int .i64 (-1))] _ := F13.cut rfl
   clear F11 F13
   refine s_end (x_normal (wp_ret (x_then_ret ?_)))
   refine x_done (v := .int .i64 (-1)) F14 (results_1 Try.results49 (.tmp (F14.ev 4 rfl))) ?_
   exact ⟨(by rw [(show (-1) = (subOr left (szSlotsH a)) from by unfold szSlotsH; rw [← ln_a]; exact sz_neg (by assumption))]), (Mv.pick (Mv.refl (At.nil w)) [] rfl), subOr_i64 p0 p1⟩
 · skip
   refine wp_skip (x_normal (wp_seq (wp_seq (wp_region_lit (l_op (f_val F11 rfl rfl (r_assign rfl rfl) rfl fun _ F15 => ?_))))))
   have F16 : Fr 27 [(5, .int .i64 0), (1, .int .i64 (left - ((a_n : Nat) : Int))), (0, .slice a_a a_n a_c)] _ := F15.cut rfl
   clear F11 F15
   refine s_end (x_normal (wp_block ?_))
   refine x_loop (fun (k : Nat) aZ wZ => ∃ (lv : Int), Fr 27 [(5, .int .i64 ((k : Nat) : Int)), (1, .int .i64 lv), (0, .slice a_a a_n a_c)] aZ ∧ Mv [] w [] wZ ∧ (k ≤ a_n) ∧ (lv = left - ((a.length + sumOf szSlotH (a.take k) : Nat) : Int)) ∧ (0 ≤ lv)) (fun (k : Nat) => a_n - k) (0) ?_ ?_
   · exact ⟨(left - ((a_n : Nat) : Int)), F16.cut rfl, (Mv.refl (At.nil w)), by omega, by have e : sumOf szSlotH (a.take 0) = 0 := rfl; rw [e]; omega, by omega⟩
   · rintro k a17 w17 ⟨lv, F17, S17, hk_0, hk_1, hk_2⟩
     refine wp_seq (wp_seq (wp_region_lit (l_op (f_mv F17 rfl rfl rfl rfl rfl fun _ F18 => ?_))))
     refine l_op (f_mv F18 rfl rfl rfl rfl rfl fun _ F19 => ?_)
     refine l_op (f_val F19 rfl rfl (r_len Try.underlying22 rfl (F19.ev 13 rfl)) rfl fun _ F20 => ?_)
     refine l_op (f_val F20 rfl rfl (r_cmp (b := decide (k < a_n)) (.inr (.inr (.inl rfl))) rfl (F20.ev 12 rfl) (F20.ev 14 rfl) (dec_of (by omega))) rfl fun _ F21 => ?_)
     have F22 : Fr 27 [(15, .bool (decide (k < a_n))), (5, .int .i64 ((k : Nat) : Int)), (1, .int .i64 lv), (0, .slice a_a a_n a_c)] _ := F21.cut rfl
     clear F17 F18 F19 F20 F21
     refine s_end (x_normal (x_cond (p := k < a_n) (F22.ev 15 rfl) (fun h23 => ?_) (fun h23 => ?_)))
     · skip
       refine wp_skip (x_normal (wp_seq (wp_block (wp_seq (wp_region_lit (l_op (f_mv F22 rfl rfl rfl rfl rfl fun _ F24 => ?_)))))))
       refine l_op (f_mv F24 rfl rfl rfl rfl rfl fun _ F25 => ?_)
       obtain ⟨B26, O26, x1, ad26, hx1, okx1, ln26, cl26⟩ := RdA.at (RdA.mv (Nat.succ_pos _) V_v_a S17) k (by first | assumption | omega)
       clear ln26
       have oj27 := okx1
       unfold okSlot at oj27
       have VI28 : RdA 2 encC okC (V H w []) w17 (.slice x1.a0 x1.n0 x1.c0) x1.d.cells := NRa.get (NRa.mv V_u_a S17) hx1 (j := 0) rfl
       obtain ⟨ln28, le28, mx28, ni28⟩ := RdA.inv VI28
       refine l_op (f_val F25 rfl rfl (r_indexAddr (i := k) ET_22 rfl ((F25.ev 18 rfl).trans (by rw [ad26])) (F25.ev 19 rfl) (by omega) (by first | assumption | omega)) rfl fun _ F29 => ?_)
       refine l_op (f_val (v := .agg #[.int .i64 x1.d.seq, .slice x1.a0 x1.n0 x1.c0, .bool x1.d.whole]) F29 rfl rfl (r_load (cs := [.int .i64 x1.d.seq, .slice x1.a0 x1.n0 x1.c0, .bool x1.d.whole]) TI_130 rfl (F29.ev 20 rfl) rfl (fun h => nomatch h) (elem_sub (f := 0) cl26 [.int .i64 x1.d.seq, .slice x1.a0 x1.n0 x1.c0, .bool x1.d.whole] rfl)) rfl fun _ F30 => ?_)
       refine l_op (f_mv F30 rfl rfl rfl rfl rfl fun _ F31 => ?_)
       refine l_op (f_call F31 CF_106 rfl rfl rfl rfl (lc (F31.ev 21 rfl) (lc (F31.ev 22 rfl) rfl)) (laws_szSlot_c (a := x1.d) (left := lv) okx1 VI28 (by first | assumption | exact ⟨by omega, by omega⟩ | (unfold i64ok at *; omega)) (by first | assumption | omega | (simp <;> omega)) (by first | assumption | omega | (simp <;> omega))) ?_)
       rintro _ w32 ⟨rfl, m32, q32_0⟩
       refine ⟨_, rfl, fun _ F33 => ?_⟩
       have S32 := At.frame0 S17.at' m32
       clear m32
       refine l_op (f_as F33 rfl rfl rfl rfl rfl fun _ F34 => ?_)
       have F35 : Fr 27 [(1, .int .i64 (subOr lv (szCells x1.d.cells))), (5, .int .i64 ((k : Nat) : Int)), (0, .slice a_a a_n a_c)] _ := F34.cut rfl
       clear F22 F24 F25 F29 F30 F31 F33 F34
       have T36 : Mv _ _ [] _ := S32
       refine s_end (x_normal (wp_seq (wp_region_lit (l_op (f_mv F35 rfl rfl rfl rfl rfl fun _ F37 => ?_)))))
       refine l_op (f_val F37 rfl rfl (r_cmp (b := decide ((subOr lv (szCells x1.d.cells)) < 0)) (.inr (.inr (.inl rfl))) rfl (F37.ev 24 rfl) rfl (dec_of (by omega))) rfl fun _ F38 => ?_)
       have F39 : Fr 27 [(25, .bool (decide ((subOr lv (szCells x1.d.cells)) < 0))), (1, .int .i64 (subOr lv (szCells x1.d.cells))), (5, .int .i64 ((k : Nat) : Int)), (0, .slice a_a a_n a_c)] _ := F38.cut rfl
       clear F35 F37 F38
       refine s_end (x_normal (x_cond (p := (subOr lv (szCells x1.d.cells)) < 0) (F39.ev 25 rfl) (fun h40 => ?_) (fun h40 => ?_)))
       · skip
         refine wp_seq (wp_region_lit (l_op (f_val F39 rfl rfl (r_assign rfl rfl) rfl fun _ F41 => ?_)))
         have F42 : Fr 27 [(4, .int .i64 (-1))] _ := F41.cut rfl
         clear F39 F41
         refine s_end (x_normal (wp_ret (x_block_ret (x_then_ret (x_then_ret (x_block_ret (x_then_ret ?_)))))))
         refine x_done (v := .int .i64 (-1)) F42 (results_1 Try.results49 (.tmp (F42.ev 4 rfl))) ?_
         exact ⟨(by rw [(show (-1) = (subOr left (szSlotsH a)) from by unfold szSlotsH; exact sz_stop (f := szSlotH) hx1 hk_1 (by assumption))]), (Mv.pick (S17.trans T36) [] rfl), subOr_i64 p0 p1⟩
       · skip
         refine wp_skip (x_block_normal (x_normal (wp_region_lit (l_op (f_mv F39 rfl rfl rfl rfl rfl fun _ F43 => ?_)))))
         refine l_op (f_val F43 rfl rfl (r_add (z := ((k + 1 : Nat) : Int)) rfl (F43.ev 16 rfl) rfl (by first | rfl | omega) ⟨by first | omega | (unfold i64ok at *; omega), by first | omega | (unfold i64ok at *; omega)⟩) rfl fun _ F44 => ?_)
         refine l_op (f_as F44 rfl rfl rfl rfl rfl fun _ F45 => ?_)
         have F46 : Fr 27 [(5, .int .i64 ((k + 1 : Nat) : Int)), (1, .int .i64 (subOr lv (szCells x1.d.cells))), (0, .slice a_a a_n a_c)] _ := F45.cut rfl
         clear F39 F43 F44 F45
         refine s_end ?_
         refine x_normal ⟨k + 1, by omega, (subOr lv (szCells x1.d.cells)), F46.cut rfl, ((S17.trans T36).pick [] rfl), by omega, (sz_next (f := szSlotH) hx1 hk_1 (by assumption)).1, (sz_next (f := szSlotH) hx1 hk_1 (by assumption)).2⟩
     · skip
       refine wp_exit (x_then_exit (x_then_exit (x_block_here (x_normal (wp_seq (wp_region_lit (l_op (f_mv F22 rfl rfl rfl rfl rfl fun _ F47 => ?_))))))))
       refine l_op (f_as F47 rfl rfl rfl rfl rfl fun _ F48 => ?_)
       have F49 : Fr 27 [(4, .int .i64 lv)] _ := F48.cut rfl
       clear F22 F47 F48
       refine s_end (x_normal (wp_ret ?_))
       refine x_done (v := .int .i64 lv) F49 (results_1 Try.results49 (.tmp (F49.ev 4 rfl))) ?_
       exact ⟨(by rw [(show lv = (subOr left (szSlotsH a)) from by unfold szSlotsH; exact sz_done (by omega) hk_1 hk_2)]), (Mv.pick S17 [] rfl), subOr_i64 p0 p1⟩
theorem laws_toSlotS_c {w : World} {H : Nat → Prop} {a : List SlotH} {a_a : Option Addr} {a_n a_c : Nat} (v_a : RdA 3 encSlot okSlot H w (.slice a_a a_n a_c) a) (u_a : NRa inSlot H w a) (p0 : a.length ≤ 1048576) (p1 : slotsFit 1048576 (a.map SlotH.d)) :
    Calls Try.prog 50 #[.slice a_a a_n a_c] w fun e w' => ∃ (D : List SlotH), ∃ (r0_a : Option Addr), ∃ (r0_n : Nat), ∃ (r0_c : Nat), e = .returned (.slice r0_a r0_n r0_c) ∧ Mv [] w [ow 99 3 encSlot okSlot (.slice r0_a r0_n r0_c) D, gr inSlot D] w' ∧ D.map SlotH.d = a.map SlotH.d ∧ D.length = a.length := by
 have uU : True := (fun _ => trivial) p0
 clear uU
 have V_v_a : RdA 3 encSlot okSlot (V H w []) w (.slice a_a a_n a_c) a := RdA.start v_a (fun _ _ => fps_nil _)
 obtain ⟨ln_a, le_a, mx_a, ni_a⟩ := RdA.inv v_a
 have V_u_a : NRa inSlot (V H w []) w a := NRa.start u_a (fun _ _ => fps_nil _)
 refine calls_enter 23 Try.func50 rfl Try.ntmps50 (Nat.le_of_ble_eq_true rfl) (fun _ F0i => ?_)
 have F0 : Fr 23 [(0, .slice a_a a_n a_c)] _ := F0i
 clear F0i
 refine wp_seq (wp_region_lit (l_op (f_val F0 rfl rfl (r_assign rfl rfl) rfl fun _ F1 => ?_)))
 have F2 : Fr 23 [(2, .slice none 0 0), (0, .slice a_a a_n a_c)] _ := F1.cut rfl
 clear F0 F1
 refine s_end (x_normal (wp_seq (wp_region_lit (l_op (f_mv F2 rfl rfl rfl rfl rfl fun _ F3 => ?_)))))
 refine l_op (f_val F3 rfl rfl (r_len Try.underlying22 rfl (F3.ev 5 rfl)) rfl fun _ F4 => ?_)
 refine l_op (f_mk (ok := okSlot) zSlot F4 (At.nil w) ET_29 rfl rfl rfl rfl (F4.ev 6 rfl) (F4.ev 6 rfl) rfl (show i64ok 0 from by first | assumption | exact ⟨by omega, by omega⟩) (by omega) fun b5 _ w5 F6 S5 => ?_)
 have S7 : Mv [ow 99 3 encSlot okSlot (.slice (some ⟨b5, 0, none⟩) a_n a_n) (List.replicate a_n zSlot)] w5 [gr inSlot (List.replicate a_n zSlot), ow 99 3 encSlot okSlot (.slice (some ⟨b5, 0, none⟩) a_n a_n) (List.replicate a_n zSlot)] w5 := gr_new S5.at' _ (zSlot_all _)
 refine l_op (f_as F6 rfl rfl rfl rfl rfl fun _ F8 => ?_)
 have F9 : Fr 23 [(3, .slice (some ⟨b5, 0, none⟩) a_n a_n), (0, .slice a_a a_n a_c)] _ := F8.cut rfl
 clear F2 F3 F4 F6 F8
 have T10 : Mv _ _ [gr inSlot (List.replicate a_n zSlot), ow 99 3 encSlot okSlot (.slice (some ⟨b5, 0, none⟩) a_n a_n) (List.replicate a_n zSlot)] _ := S7
 refine s_end (x_normal (wp_seq (wp_seq (wp_region_lit (l_op (f_val F9 rfl rfl (r_assign rfl rfl) rfl fun _ F11 => ?_))))))
 have F12 : Fr 23 [(4, .int .i64 0), (3, .slice (some ⟨b5, 0, none⟩) a_n a_n), (0, .slice a_a a_n a_c)] _ := F11.cut rfl
 clear F9 F11
 refine s_end (x_normal (wp_block ?_))
 refine x_loop (fun (k : Nat) aZ wZ => ∃ (D : List SlotH), ∃ (oa : Option Addr), ∃ (on : Nat), ∃ (oc : Nat), Fr 23 [(4, .int .i64 ((k : Nat) : Int)), (3, .slice oa on oc), (0, .slice a_a a_n a_c)] aZ ∧ Mv [gr inSlot (List.replicate a_n zSlot), ow 99 3 encSlot okSlot (.slice (some ⟨b5, 0, none⟩) a_n a_n) (List.replicate a_n zSlot)] w5 [gr inSlot D, ow 99 3 encSlot okSlot (.slice oa on oc) D] wZ ∧ (k ≤ a_n) ∧ (D.map SlotH.d = copyTo zSlot.d k (a.map SlotH.d)) ∧ (on = a_n)) (fun (k : Nat) => a_n - k) (0) ?_ ?_
 · exact ⟨List.replicate a_n zSlot, (some ⟨b5, 0, none⟩), a_n, a_n, F12.cut rfl, (Mv.refl T10.at'), by omega, copyM_start ln_a, rfl⟩
 · rintro k a13 w13 ⟨D, oa, on, oc, F13, S13, hk_0, hk_1, hk_2⟩
   refine wp_seq (wp_seq (wp_region_lit (l_op (f_mv F13 rfl rfl rfl rfl rfl fun _ F14 => ?_))))
   refine l_op (f_mv F14 rfl rfl rfl rfl rfl fun _ F15 => ?_)
   refine l_op (f_val F15 rfl rfl (r_len Try.underlying22 rfl (F15.ev 9 rfl)) rfl fun _ F16 => ?_)
   refine l_op (f_val F16 rfl rfl (r_cmp (b := decide (k < a_n)) (.inr (.inr (.inl rfl))) rfl (F16.ev 8 rfl) (F16.ev 10 rfl) (dec_of (by omega))) rfl fun _ F17 => ?_)
   have F18 : Fr 23 [(11, .bool (decide (k < a_n))), (4, .int .i64 ((k : Nat) : Int)), (3, .slice oa on oc), (0, .slice a_a a_n a_c)] _ := F17.cut rfl
   clear F13 F14 F15 F16 F17
   refine s_end (x_normal (x_cond (p := k < a_n) (F18.ev 11 rfl) (fun h19 => ?_) (fun h19 => ?_)))
   · skip
     refine wp_skip (x_normal (wp_seq (wp_block (wp_region_lit (l_op (f_mv F18 rfl rfl rfl rfl rfl fun _ F20 => ?_))))))
     refine l_op (f_mv F20 rfl rfl rfl rfl rfl fun _ F21 => ?_)
     refine l_op (f_mv F21 rfl rfl rfl rfl rfl fun _ F22 => ?_)
     refine l_op (f_mv F22 rfl rfl rfl rfl rfl fun _ F23 => ?_)
     obtain ⟨B24, O24, x1, ad24, hx1, okx1, ln24, cl24⟩ := RdA.at (RdA.mv (Nat.succ_pos _) V_v_a (S5.trans (T10.trans S13))) k (by first | assumption | omega)
     clear ln24
     have oj25 := okx1
     unfold okSlot at oj25
     have VI26 : RdA 2 encC okC (V H w [gr inSlot D, ow 99 3 encSlot okSlot (.slice oa on oc) D]) w13 (.slice x1.a0 x1.n0 x1.c0) x1.d.cells := NRa.get (NRa.mv V_u_a (S5.trans (T10.trans S13))) hx1 (j := 0) rfl
     obtain ⟨ln26, le26, mx26, ni26⟩ := RdA.inv VI26
     refine l_op (f_val F23 rfl rfl (r_indexAddr (i := k) ET_22 rfl ((F23.ev 16 rfl).trans (by rw [ad24])) (F23.ev 17 rfl) (by omega) (by first | assumption | omega)) rfl fun _ F27 => ?_)
     refine l_op (f_val (v := .agg #[.int .i64 x1.d.seq, .slice x1.a0 x1.n0 x1.c0, .bool x1.d.whole]) F27 rfl rfl (r_load (cs := [.int .i64 x1.d.seq, .slice x1.a0 x1.n0 x1.c0, .bool x1.d.whole]) TI_130 rfl (F27.ev 18 rfl) rfl (fun h => nomatch h) (elem_sub (f := 0) cl24 [.int .i64 x1.d.seq, .slice x1.a0 x1.n0 x1.c0, .bool x1.d.whole] rfl)) rfl fun _ F28 => ?_)
     refine l_op (f_call F28 CF_107 rfl rfl rfl rfl (lc (F28.ev 19 rfl) rfl) (laws_toSlot_c (a := x1.d) okx1 VI26 (by have hb := p1.at hx1; omega)) ?_)
     rintro _ w29 ⟨r0_cells_a_29, r0_cells_n_29, r0_cells_c_29, rfl, m29⟩
     refine ⟨_, rfl, fun _ F30 => ?_⟩
     have S29 : Mv _ _ [ow 144 2 encC okC (.slice r0_cells_a_29 r0_cells_n_29 r0_cells_c_29) x1.d.cells, gr inSlot D, ow 99 3 encSlot okSlot (.slice oa on oc) D] _ := At.frame S13.at' [] rfl m29
     obtain ⟨lo29_0, lp29_0, lq29_0⟩ := At.ownInv S29.at' ET_74.hk 0 rfl
     clear m29
     obtain ⟨B31, x2, ad31, hx2, okx2, cl31⟩ := At.ownAt S29.at' ET_29.hk 2 rfl k (by first | assumption | omega)
     have oj32 := okx2
     unfold okSlot at oj32
     obtain ⟨ln33, le33, mx33, ni33⟩ := Rd.inv (show Rd 2 encC okC (fun _ => True) w29 (.slice x2.a0 x2.n0 x2.c0) x2.d.cells from NRd.get (At.nrd S29.at' 1 rfl) hx2 (j := 0) rfl)
     refine l_op (f_val F30 rfl rfl (r_indexAddr (i := k) ET_29 rfl ((F30.ev 14 rfl).trans (by rw [ad31])) (F30.ev 15 rfl) (by omega) (by first | assumption | omega)) rfl fun _ F34 => ?_)
     refine l_op (s_storeEl S29.at' 2 k (⟨x1.d, r0_cells_a_29, r0_cells_n_29, r0_cells_c_29⟩ : SlotH) ET_29.hk ET_29.h1 TI_99 rfl ad31 rfl rfl rfl rfl (F34.ev 21 rfl) (F34.ev 20 rfl) rfl (by first | assumption | omega) (show i64ok x1.d.seq from by first | assumption | exact ⟨by omega, by omega⟩) fun w35 S35 => ?_)
     have S36 : Mv [ow 99 3 encSlot okSlot (.slice oa on oc) (D.set k (⟨x1.d, r0_cells_a_29, r0_cells_n_29, r0_cells_c_29⟩ : SlotH)), ow 144 2 encC okC (.slice r0_cells_a_29 r0_cells_n_29 r0_cells_c_29) x1.d.cells, gr inSlot D] w35 [gr inSlot (D.set k (⟨x1.d, r0_cells_a_29, r0_cells_n_29, r0_cells_c_29⟩ : SlotH)), ow 99 3 encSlot okSlot (.slice oa on oc) (D.set k (⟨x1.d, r0_cells_a_29, r0_cells_n_29, r0_cells_c_29⟩ : SlotH))] w35 := gr_set S35.at' [1, 2] (⟨x1.d, r0_cells_a_29, r0_cells_n_29, r0_cells_c_29⟩ : SlotH) k rfl rfl
     have F37 : Fr 23 [(21, .pointer (some ⟨B31, 0 + k * 3, none⟩)), (20, .agg #[.int .i64 x1.d.seq, .slice r0_cells_a_29 r0_cells_n_29 r0_cells_c_29, .bool x1.d.whole]), (4, .int .i64 ((k : Nat) : Int)), (3, .slice oa on oc), (0, .slice a_a a_n a_c)] _ := F34.cut rfl
     clear F18 F20 F21 F22 F23 F27 F28 F30 F34
     have T38 : Mv _ _ [gr inSlot (D.set k (⟨x1.d, r0_cells_a_29, r0_cells_n_29, r0_cells_c_29⟩ : SlotH)), ow 99 3 encSlot okSlot (.slice oa on oc) (D.set k (⟨x1.d, r0_cells_a_29, r0_cells_n_29, r0_cells_c_29⟩ : SlotH))] _ := S36
     refine s_end (x_block_normal (x_normal (wp_region_lit (l_op (f_mv F37 rfl rfl rfl rfl rfl fun _ F39 => ?_)))))
     refine l_op (f_val F39 rfl rfl (r_add (z := ((k + 1 : Nat) : Int)) rfl (F39.ev 12 rfl) rfl (by first | rfl | omega) ⟨by first | omega | (unfold i64ok at *; omega), by first | omega | (unfold i64ok at *; omega)⟩) rfl fun _ F40 => ?_)
     refine l_op (f_as F40 rfl rfl rfl rfl rfl fun _ F41 => ?_)
     have F42 : Fr 23 [(4, .int .i64 ((k + 1 : Nat) : Int)), (3, .slice oa on oc), (0, .slice a_a a_n a_c)] _ := F41.cut rfl
     clear F37 F39 F40 F41
     refine s_end ?_
     refine x_normal ⟨k + 1, by omega, D.set k (⟨x1.d, r0_cells_a_29, r0_cells_n_29, r0_cells_c_29⟩ : SlotH), oa, on, oc, F42.cut rfl, ((S13.trans (S29.trans (S35.trans T38))).pick [0, 1] rfl), by omega, copyM_step hk_1 hx1 rfl, by assumption⟩
   · skip
     refine wp_exit (x_then_exit (x_then_exit (x_block_here (x_normal (wp_seq (wp_region_lit (l_op (f_mv F18 rfl rfl rfl rfl rfl fun _ F43 => ?_))))))))
     refine l_op (f_as F43 rfl rfl rfl rfl rfl fun _ F44 => ?_)
     have F45 : Fr 23 [(2, .slice oa on oc)] _ := F44.cut rfl
     clear F18 F43 F44
     refine s_end (x_normal (wp_ret ?_))
     refine x_done (v := .slice oa on oc) F45 (results_1 Try.results50 (.tmp (F45.ev 2 rfl))) ?_
     exact ⟨D, oa, on, oc, rfl, (Mv.pick (S5.trans (T10.trans S13)) [1, 0] rfl), copyM_end hk_1 (by omega), by have := congrArg List.length (copyM_end hk_1 (by omega)); simpa using this⟩
theorem laws_eqSlotS_c {w : World} {H : Nat → Prop} {a : List SlotH} {a_a : Option Addr} {a_n a_c : Nat} {b : List SlotH} {b_a : Option Addr} {b_n b_c : Nat} (v_a : Rd 3 encSlot okSlot H w (.slice a_a a_n a_c) a) (u_a : NRd inSlot H w a) (v_b : Rd 3 encSlot okSlot H w (.slice b_a b_n b_c) b) (u_b : NRd inSlot H w b) (p0 : a.map SlotH.d = b.map SlotH.d) :
    Calls Try.prog 51 #[.slice a_a a_n a_c, .slice b_a b_n b_c] w fun e w' => e = .returned (.bool true) ∧ Mv [] w [] w' := by
 have V_v_a : Rd 3 encSlot okSlot (V H w []) w (.slice a_a a_n a_c) a := Rd.start v_a (fun _ _ => fps_nil _)
 obtain ⟨ln_a, le_a, mx_a, ni_a⟩ := Rd.inv v_a
 have V_v_b : Rd 3 encSlot okSlot (V H w []) w (.slice b_a b_n b_c) b := Rd.start v_b (fun _ _ => fps_nil _)
 obtain ⟨ln_b, le_b, mx_b, ni_b⟩ := Rd.inv v_b
 have V_u_a : NRd inSlot (V H w []) w a := NRd.start u_a (fun _ _ => fps_nil _)
 have V_u_b : NRd inSlot (V H w []) w b := NRd.start u_b (fun _ _ => fps_nil _)
 refine calls_enter 27 Try.func51 rfl Try.ntmps51 (Nat.le_of_ble_eq_true rfl) (fun _ F0i => ?_)
 have F0 : Fr 27 [(0, .slice a_a a_n a_c), (1, .slice b_a b_n b_c)] _ := F0i
 clear F0i
 refine wp_seq ?_
 have hab : a_n = b_n := by rw [ln_a, ln_b, lenM p0]
 refine wp_region_lit (l_op (f_val F0 rfl rfl (r_assign rfl rfl) rfl fun _ F1 => ?_))
 have F2 : Fr 27 [(4, .bool false), (0, .slice a_a a_n a_c), (1, .slice b_a b_n b_c)] _ := F1.cut rfl
 clear F0 F1
 refine s_end (x_normal (wp_seq (wp_seq (wp_region_lit (l_op (f_mv F2 rfl rfl rfl rfl rfl fun _ F3 => ?_))))))
 refine l_op (f_val F3 rfl rfl (r_len Try.underlying29 rfl (F3.ev 6 rfl)) rfl fun _ F4 => ?_)
 refine l_op (f_mv F4 rfl rfl rfl rfl rfl fun _ F5 => ?_)
 refine l_op (f_val F5 rfl rfl (r_len Try.underlying29 rfl (F5.ev 8 rfl)) rfl fun _ F6 => ?_)
 refine l_op (f_val F6 rfl rfl (r_cmp (b := decide (a_n ≠ b_n)) (.inr (.inl rfl)) rfl (F6.ev 7 rfl) (F6.ev 9 rfl) (dec_of (by omega))) rfl fun _ F7 => ?_)
 rw [show (decide (a_n ≠ b_n)) = false from decide_eq_false (fun h => h hab)] at F7
 have F8 : Fr 27 [(10, .bool false), (0, .slice a_a a_n a_c), (1, .slice b_a b_n b_c)] _ := F7.cut rfl
 clear F2 F3 F4 F5 F6 F7
 refine s_end (x_normal (wp_cond_false (F8.ev 10 rfl) (wp_skip (x_normal (wp_seq (wp_seq (wp_region_lit (l_op (f_val F8 rfl rfl (r_assign rfl rfl) rfl fun _ F9 => ?_)))))))))
 have F10 : Fr 27 [(5, .int .i64 0), (0, .slice a_a a_n a_c), (1, .slice b_a b_n b_c)] _ := F9.cut rfl
 clear F8 F9
 refine s_end (x_normal (wp_block ?_))
 refine x_loop (fun (k : Nat) aZ wZ => Fr 27 [(5, .int .i64 ((k : Nat) : Int)), (0, .slice a_a a_n a_c), (1, .slice b_a b_n b_c)] aZ ∧ Mv [] w [] wZ ∧ (k ≤ a_n)) (fun (k : Nat) => a_n - k) (0) ?_ ?_
 · exact ⟨F10.cut rfl, (Mv.refl (At.nil w)), by omega⟩
 · rintro k a11 w11 ⟨F11, S11, hk_0⟩
   refine wp_seq (wp_seq (wp_region_lit (l_op (f_mv F11 rfl rfl rfl rfl rfl fun _ F12 => ?_))))
   refine l_op (f_mv F12 rfl rfl rfl rfl rfl fun _ F13 => ?_)
   refine l_op (f_val F13 rfl rfl (r_len Try.underlying29 rfl (F13.ev 12 rfl)) rfl fun _ F14 => ?_)
   refine l_op (f_val F14 rfl rfl (r_cmp (b := decide (k < a_n)) (.inr (.inr (.inl rfl))) rfl (F14.ev 11 rfl) (F14.ev 13 rfl) (dec_of (by omega))) rfl fun _ F15 => ?_)
   have F16 : Fr 27 [(14, .bool (decide (k < a_n))), (5, .int .i64 ((k : Nat) : Int)), (0, .slice a_a a_n a_c), (1, .slice b_a b_n b_c)] _ := F15.cut rfl
   clear F11 F12 F13 F14 F15
   refine s_end (x_normal (x_cond (p := k < a_n) (F16.ev 14 rfl) (fun h17 => ?_) (fun h17 => ?_)))
   · skip
     refine wp_skip (x_normal (wp_seq (wp_block (wp_seq ?_))))
     obtain ⟨x1, hx1, okx1⟩ := Rd.elem (Rd.mv (Nat.succ_pos _) V_v_a S11) k (by first | assumption | omega)
     have oj19 := okx1
     unfold okSlot at oj19
     have VI20 : Rd 2 encC okC (V H w []) w11 (.slice x1.a0 x1.n0 x1.c0) x1.d.cells := NRd.get (NRd.mv V_u_a S11) hx1 (j := 0) rfl
     obtain ⟨ln20, le20, mx20, ni20⟩ := Rd.inv VI20
     obtain ⟨x2, hx2, okx2⟩ := Rd.elem (Rd.mv (Nat.succ_pos _) V_v_b S11) k (by first | assumption | omega)
     have oj21 := okx2
     unfold okSlot at oj21
     have VI22 : Rd 2 encC okC (V H w []) w11 (.slice x2.a0 x2.n0 x2.c0) x2.d.cells := NRd.get (NRd.mv V_u_b S11) hx2 (j := 0) rfl
     obtain ⟨ln22, le22, mx22, ni22⟩ := Rd.inv VI22
     refine x_draw (fun aZ wZ => Fr 27 [(0, .slice a_a a_n a_c), (1, .slice b_a b_n b_c), (5, .int .i64 ((k : Nat) : Int)), (26, .bool false)] aZ ∧ Mv [] w11 [] wZ) [] mixed S11.at' (listed := #[false, false, false, false, false, false, false, false, false, false]) rfl (fun w23 S23 => ?_) [] rfl ?_
     · skip
       refine g_take F16 rfl (i := 0) (listed' := #[true, false, false, false, false, false, false, false, false, false]) rfl (by kernel_rfl) (by kernel_rfl) (by kernel_rfl) (fun _ _ _ h => h) (Sd.of (Mv.refl S23.at') [] rfl) rfl rfl rfl rfl (fun _ hz => (r_move rfl (F16.ev 0 rfl))) fun _ F24 => ?_
       refine g_take F24 rfl (i := 1) (listed' := #[true, true, false, false, false, false, false, false, false, false]) rfl (by kernel_rfl) (by kernel_rfl) (by kernel_rfl) (fun _ _ _ h => h) (Sd.of (Mv.refl S23.at') [] rfl) rfl rfl rfl rfl (fun _ hz => (r_move rfl (F24.ev 5 rfl))) fun _ F25 => ?_
       obtain ⟨B26, O26, y26, ad26, hy26, oky26, ln26, cl26⟩ := Rd.atK (Nat.succ_pos _) (Rd.mv (Nat.succ_pos _) V_v_a (S11.trans S23)) k (by first | assumption | omega)
       clear ln26
       obtain rfl := Option.some.inj (hx1.symm.trans hy26)
       clear hy26 oky26
       refine g_take F25 rfl (i := 2) (listed' := #[true, true, true, false, false, false, false, false, false, false]) rfl (by kernel_rfl) (by kernel_rfl) (by kernel_rfl) (fun _ _ _ h => h) (Sd.of (Mv.refl S23.at') [] rfl) rfl rfl rfl rfl (fun _ hz => (r_indexAddr (i := k) ET_29 rfl ((F25.ev 17 rfl).trans (by rw [ad26])) (F25.ev 18 rfl) (by omega) (by first | assumption | omega))) fun _ F27 => ?_
       refine g_take (v := .agg #[.int .i64 x1.d.seq, .slice x1.a0 x1.n0 x1.c0, .bool x1.d.whole]) F27 rfl (i := 3) (listed' := #[true, true, true, true, false, false, false, false, false, false]) rfl (by kernel_rfl) (by kernel_rfl) (by kernel_rfl) (fun _ _ _ h => h) (Sd.of (Mv.refl S23.at') [] rfl) rfl rfl rfl rfl (fun _ hz => (r_load (cs := [.int .i64 x1.d.seq, .slice x1.a0 x1.n0 x1.c0, .bool x1.d.whole]) TI_99 rfl (F27.ev 19 rfl) rfl (fun h => nomatch h) (elem_sub (f := 0) (cl26 _ hz.kp) [.int .i64 x1.d.seq, .slice x1.a0 x1.n0 x1.c0, .bool x1.d.whole] rfl))) fun _ F28 => ?_
       refine g_take F28 rfl (i := 4) (listed' := #[true, true, true, true, true, false, false, false, false, false]) rfl (by kernel_rfl) (by kernel_rfl) (by kernel_rfl) (fun _ _ _ h => h) (Sd.of (Mv.refl S23.at') [] rfl) rfl rfl rfl rfl (fun _ hz => (r_move rfl (F28.ev 1 rfl))) fun _ F29 => ?_
       refine g_take F29 rfl (i := 5) (listed' := #[true, true, true, true, true, true, false, false, false, false]) rfl (by kernel_rfl) (by kernel_rfl) (by kernel_rfl) (fun _ _ _ h => h) (Sd.of (Mv.refl S23.at') [] rfl) rfl rfl rfl rfl (fun _ hz => (r_move rfl (F29.ev 5 rfl))) fun _ F30 => ?_
       obtain ⟨B31, O31, y31, ad31, hy31, oky31, ln31, cl31⟩ := Rd.atK (Nat.succ_pos _) (Rd.mv (Nat.succ_pos _) V_v_b (S11.trans S23)) k (by first | assumption | omega)
       clear ln31
       obtain rfl := Option.some.inj (hx2.symm.trans hy31)
       clear hy31 oky31
       refine g_take F30 rfl (i := 6) (listed' := #[true, true, true, true, true, true, true, false, false, false]) rfl (by kernel_rfl) (by kernel_rfl) (by kernel_rfl) (fun _ _ _ h => h) (Sd.of (Mv.refl S23.at') [] rfl) rfl rfl rfl rfl (fun _ hz => (r_indexAddr (i := k) ET_29 rfl ((F30.ev 21 rfl).trans (by rw [ad31])) (F30.ev 22 rfl) (by omega) (by first | assumption | omega))) fun _ F32 => ?_
       refine g_take (v := .agg #[.int .i64 x2.d.seq, .slice x2.a0 x2.n0 x2.c0, .bool x2.d.whole]) F32 rfl (i := 7) (listed' := #[true, true, true, true, true, true, true, true, false, false]) rfl (by kernel_rfl) (by kernel_rfl) (by kernel_rfl) (fun _ _ _ h => h) (Sd.of (Mv.refl S23.at') [] rfl) rfl rfl rfl rfl (fun _ hz => (r_load (cs := [.int .i64 x2.d.seq, .slice x2.a0 x2.n0 x2.c0, .bool x2.d.whole]) TI_99 rfl (F32.ev 23 rfl) rfl (fun h => nomatch h) (elem_sub (f := 0) (cl31 _ hz.kp) [.int .i64 x2.d.seq, .slice x2.a0 x2.n0 x2.c0, .bool x2.d.whole] rfl))) fun _ F33 => ?_
       refine d_one (i := 8) (listed' := #[true, true, true, true, true, true, true, true, true, false]) rfl (by kernel_rfl) rfl rfl ?_
       refine f_call F33 CF_108 rfl rfl rfl rfl (lc (F33.ev 20 rfl) (lc (F33.ev 24 rfl) rfl)) (laws_eqSlot_c (a := x1.d) (b := x2.d) okx1 (Rd.mv (Nat.succ_pos _) VI20 S23) okx2 (Rd.mv (Nat.succ_pos _) VI22 S23) (by exact elM p0 hx1 hx2)) ?_
       rintro _ w34 ⟨rfl, m34⟩
       refine ⟨_, rfl, fun _ F35 => ?_⟩
       have S34 := At.frame0 S23.at' m34
       clear m34
       refine ⟨Sd.of S34 [] rfl, ?_⟩
       refine g_take F35 rfl (i := 9) (listed' := #[true, true, true, true, true, true, true, true, true, true]) rfl (by kernel_rfl) (by kernel_rfl) (by kernel_rfl) (fun _ _ _ h => h) (Sd.of S34 [] rfl) rfl rfl rfl rfl (fun _ hz => (r_not rfl (F35.ev 25 rfl))) fun _ F36 => ?_
       refine wpAnyH_done (by kernel_rfl) (x_normal ?_) _
       exact ⟨F36.cut rfl, ((S23.trans S34).pick [] rfl)⟩
     · rintro a37 w37 ⟨F37, S37⟩
       refine x_normal (wp_cond_false (F37.ev 26 rfl) (wp_skip (x_block_normal (x_normal (wp_region_lit (l_op (f_mv F37 rfl rfl rfl rfl rfl fun _ F38 => ?_)))))))
       refine l_op (f_val F38 rfl rfl (r_add (z := ((k + 1 : Nat) : Int)) rfl (F38.ev 15 rfl) rfl (by first | rfl | omega) ⟨by first | omega | (unfold i64ok at *; omega), by first | omega | (unfold i64ok at *; omega)⟩) rfl fun _ F39 => ?_)
       refine l_op (f_as F39 rfl rfl rfl rfl rfl fun _ F40 => ?_)
       have F41 : Fr 27 [(5, .int .i64 ((k + 1 : Nat) : Int)), (0, .slice a_a a_n a_c), (1, .slice b_a b_n b_c)] _ := F40.cut rfl
       clear F37 F38 F39 F40
       refine s_end ?_
       refine x_normal ⟨k + 1, by omega, F41.cut rfl, ((S11.trans S37).pick [] rfl), by omega⟩
   · skip
     refine wp_exit (x_then_exit (x_then_exit (x_block_here (x_normal (wp_seq (wp_region_lit (l_op (f_val F16 rfl rfl (r_assign rfl rfl) rfl fun _ F42 => ?_))))))))
     have F43 : Fr 27 [(4, .bool true)] _ := F42.cut rfl
     clear F16 F42
     refine s_end (x_normal (wp_ret ?_))
     refine x_done (v := .bool true) F43 (results_1 Try.results51 (.tmp (F43.ev 4 rfl))) ?_
     exact ⟨rfl, (Mv.pick S11 [] rfl)⟩
theorem laws_szJournal_c {w : World} {H : Nat → Prop} {a : JouD} {left : Int} (h_a_text : okS a.text) (h_a_sure : i64ok a.sure) (h_left : i64ok left) (p0 : 0 ≤ left) (p1 : left ≤ 1048576) :
    Calls Try.prog 27 #[.agg #[.string a.text, .int .i64 a.sure], .int .i64 left] w fun e w' => e = .returned (.int .i64 (subOr left a.text.size)) ∧ Mv [] w [] w' ∧ i64ok (subOr left a.text.size) := by
 have uU : True := (fun _ _ _ => trivial) H h_a_sure h_left
 clear uU
 have hz1 := h_a_text
 unfold okS at hz1
 refine calls_enter 13 Try.func27 rfl Try.ntmps27 (Nat.le_of_ble_eq_true rfl) (fun _ F0i => ?_)
 have F0 : Fr 13 [(0, .agg #[.string a.text, .int .i64 a.sure]), (1, .int .i64 left)] _ := F0i
 clear F0i
 refine wp_seq (wp_region_lit (l_op (f_box F0 (At.nil w) rfl rfl rfl (F0.ev 0 rfl) rfl rfl fun b1 _ w1 F2 S1 => ?_)))
 refine l_op (f_val F2 rfl rfl (r_assign rfl rfl) rfl fun _ F3 => ?_)
 have F4 : Fr 13 [(4, .int .i64 0), (2, .pointer (some ⟨b1, 0, none⟩)), (1, .int .i64 left)] _ := F3.cut rfl
 clear F0 F2 F3
 have T5 : Mv _ _ [bx b1 [.string a.text, .int .i64 a.sure] 24] _ := S1
 refine s_end (x_normal (wp_seq (wp_region_lit (l_op (f_mv F4 rfl rfl rfl rfl rfl fun _ F6 => ?_)))))
 refine l_op (f_val F6 rfl rfl (r_field FI_24_0 rfl (F6.ev 2 rfl) rfl) rfl fun _ F7 => ?_)
 refine l_op (f_val (v := .string a.text) F7 rfl rfl (r_loadB T5.at' 0 TI_9 rfl rfl (F7.ev 6 rfl) rfl rfl (fun _ => rfl) rfl) rfl fun _ F8 => ?_)
 refine l_op (f_val F8 rfl rfl (r_lenS (fun t ht => by cases ht; exact Try.underlying9) rfl rfl (F8.ev 7 rfl)) rfl fun _ F9 => ?_)
 refine l_op (f_val F9 rfl rfl (r_sub (z := (left - ((a.text.size : Nat) : Int))) rfl (F9.ev 5 rfl) (F9.ev 8 rfl) (by first | rfl | omega) ⟨by first | omega | (unfold i64ok at *; omega), by first | omega | (unfold i64ok at *; omega)⟩) rfl fun _ F10 => ?_)
 refine l_op (f_as F10 rfl rfl rfl rfl rfl fun _ F11 => ?_)
 have F12 : Fr 13 [(1, .int .i64 (left - ((a.text.size : Nat) : Int)))] _ := F11.cut rfl
 clear F4 F6 F7 F8 F9 F10 F11
 refine s_end (x_normal (wp_seq (wp_seq (wp_region_lit (l_op (f_mv F12 rfl rfl rfl rfl rfl fun _ F13 => ?_))))))
 refine l_op (f_val F13 rfl rfl (r_cmp (b := decide ((left - ((a.text.size : Nat) : Int)) < 0)) (.inr (.inr (.inl rfl))) rfl (F13.ev 10 rfl) rfl (dec_of (by omega))) rfl fun _ F14 => ?_)
 have F15 : Fr 13 [(11, .bool (decide ((left - ((a.text.size : Nat) : Int)) < 0))), (1, .int .i64 (left - ((a.text.size : Nat) : Int)))] _ := F14.cut rfl
 clear F12 F13 F14
 refine s_end (x_normal (x_cond (p := (left - ((a.text.size : Nat) : Int)) < 0) (F15.ev 11 rfl) (fun h16 => ?_) (fun h16 => ?_)))
 · skip
   refine wp_seq (wp_region_lit (l_op (f_val F15 rfl rfl (r_assign rfl rfl) rfl fun _ F17 => ?_)))
   have F18 : Fr 13 [(4, .int .i64 (-1))] _ := F17.cut rfl
   clear F15 F17
   refine s_end (x_normal (wp_ret (x_then_ret ?_)))
   refine x_done (v := .int .i64 (-1)) F18 (results_1 Try.results27 (.tmp (F18.ev 4 rfl))) ?_
   exact ⟨(by rw [(show (-1) = (subOr left a.text.size) from by first | exact sz1_a (by assumption) | exact sz1_b (by assumption))]), (Mv.pick T5 [] rfl), subOr_i64 p0 p1⟩
 · skip
   refine wp_skip (x_normal (wp_seq (wp_region_lit (l_op (f_mv F15 rfl rfl rfl rfl rfl fun _ F19 => ?_)))))
   refine l_op (f_as F19 rfl rfl rfl rfl rfl fun _ F20 => ?_)
   have F21 : Fr 13 [(4, .int .i64 (left - ((a.text.size : Nat) : Int)))] _ := F20.cut rfl
   clear F15 F19 F20
   refine s_end (x_normal (wp_ret ?_))
   refine x_done (v := .int .i64 (left - ((a.text.size : Nat) : Int))) F21 (results_1 Try.results27 (.tmp (F21.ev 4 rfl))) ?_
   exact ⟨(by rw [(show (left - ((a.text.size : Nat) : Int)) = (subOr left a.text.size) from by first | exact sz1_a (by assumption) | exact sz1_b (by assumption))]), (Mv.pick T5 [] rfl), subOr_i64 p0 p1⟩
theorem laws_toJournal_c {w : World} {H : Nat → Prop} {a : JouD} (h_a_text : okS a.text) (h_a_sure : i64ok a.sure) :
    Calls Try.prog 29 #[.agg #[.string a.text, .int .i64 a.sure]] w fun e w' => e = .returned (.agg #[.string a.text, .int .i64 a.sure]) ∧ Mv [] w [] w' ∧ okS a.text ∧ i64ok a.sure := by
 have uU : True := (fun _ _ => trivial) H h_a_sure
 clear uU
 refine calls_enter 11 Try.func29 rfl Try.ntmps29 (Nat.le_of_ble_eq_true rfl) (fun _ F0i => ?_)
 have F0 : Fr 11 [(0, .agg #[.string a.text, .int .i64 a.sure])] _ := F0i
 clear F0i
 refine wp_seq (wp_region_lit (l_op (f_box F0 (At.nil w) rfl rfl rfl (F0.ev 0 rfl) rfl rfl fun b1 _ w1 F2 S1 => ?_)))
 refine l_op (f_alloc F2 S1.at' ZI_30 rfl rfl rfl rfl rfl fun b3 _ w3 F4 S3 => ?_)
 have F5 : Fr 11 [(2, .pointer (some ⟨b3, 0, none⟩)), (1, .pointer (some ⟨b1, 0, none⟩))] _ := F4.cut rfl
 clear F0 F2 F4
 have T6 : Mv _ _ [bx b3 [.string (⟨#[]⟩ : ByteArray), .int .i64 0] 30, bx b1 [.string a.text, .int .i64 a.sure] 24] _ := S3
 refine s_end (x_normal (wp_seq (wp_region_lit (l_op (f_alloc F5 T6.at' ZI_30 rfl rfl rfl rfl rfl fun b7 _ w7 F8 S7 => ?_)))))
 have F9 : Fr 11 [(3, .pointer (some ⟨b7, 0, none⟩)), (2, .pointer (some ⟨b3, 0, none⟩)), (1, .pointer (some ⟨b1, 0, none⟩))] _ := F8.cut rfl
 clear F5 F8
 have T10 : Mv _ _ [bx b7 [.string (⟨#[]⟩ : ByteArray), .int .i64 0] 30, bx b3 [.string (⟨#[]⟩ : ByteArray), .int .i64 0] 30, bx b1 [.string a.text, .int .i64 a.sure] 24] _ := S7
 refine s_end (x_normal (wp_seq (wp_region_lit (l_op (f_val F9 rfl rfl (r_field FI_24_0 rfl (F9.ev 1 rfl) rfl) rfl fun _ F11 => ?_)))))
 refine l_op (f_val (v := .string a.text) F11 rfl rfl (r_loadB T10.at' 2 TI_9 rfl rfl (F11.ev 4 rfl) rfl rfl (fun _ => rfl) rfl) rfl fun _ F12 => ?_)
 refine l_op (f_val F12 rfl rfl (r_field FI_30_0 rfl (F12.ev 3 rfl) rfl) rfl fun _ F13 => ?_)
 refine l_op (s_store T10.at' 0 TI_9 rfl rfl rfl rfl rfl (F13.ev 6 rfl) (F13.ev 5 rfl) rfl rfl rfl rfl rfl fun w14 S14 => ?_)
 have F15 : Fr 11 [(6, .pointer (some ⟨b7, 0, none⟩)), (5, .string a.text), (3, .pointer (some ⟨b7, 0, none⟩)), (2, .pointer (some ⟨b3, 0, none⟩)), (1, .pointer (some ⟨b1, 0, none⟩))] _ := F13.cut rfl
 clear F9 F11 F12 F13
 have T16 : Mv _ _ [bx b7 [.string a.text, .int .i64 0] 30, bx b3 [.string (⟨#[]⟩ : ByteArray), .int .i64 0] 30, bx b1 [.string a.text, .int .i64 a.sure] 24] _ := S14
 refine s_end (x_normal (wp_seq (wp_region_lit (l_op (f_val F15 rfl rfl (r_field FI_24_1 rfl (F15.ev 1 rfl) rfl) rfl fun _ F17 => ?_)))))
 refine l_op (f_val (v := .int .i64 a.sure) F17 rfl rfl (r_loadB T16.at' 2 TI_3 rfl rfl (F17.ev 7 rfl) rfl rfl (fun _ => rfl) rfl) rfl fun _ F18 => ?_)
 refine l_op (f_val F18 rfl rfl (r_field FI_30_1 rfl (F18.ev 3 rfl) rfl) rfl fun _ F19 => ?_)
 refine l_op (s_store T16.at' 0 TI_3 rfl rfl rfl rfl rfl (F19.ev 9 rfl) (F19.ev 8 rfl) rfl rfl rfl rfl rfl fun w20 S20 => ?_)
 have F21 : Fr 11 [(9, .pointer (some ⟨b7, 1, none⟩)), (8, .int .i64 a.sure), (3, .pointer (some ⟨b7, 0, none⟩)), (2, .pointer (some ⟨b3, 0, none⟩))] _ := F19.cut rfl
 clear F15 F17 F18 F19
 have T22 : Mv _ _ [bx b7 [.string a.text, .int .i64 a.sure] 30, bx b3 [.string (⟨#[]⟩ : ByteArray), .int .i64 0] 30, bx b1 [.string a.text, .int .i64 a.sure] 24] _ := S20
 refine s_end (x_normal (wp_seq (wp_region_lit (l_op (f_val (v := .agg #[.string a.text, .int .i64 a.sure]) F21 rfl rfl (r_loadB T22.at' 0 TI_30 rfl rfl (F21.ev 3 rfl) rfl rfl (fun h => nomatch h) rfl) rfl fun _ F23 => ?_)))))
 refine l_op (s_store T22.at' 1 TI_30 rfl rfl rfl rfl rfl (F23.ev 2 rfl) (F23.ev 10 rfl) rfl rfl rfl rfl rfl fun w24 S24 => ?_)
 have F25 : Fr 11 [(10, .agg #[.string a.text, .int .i64 a.sure]), (2, .pointer (some ⟨b3, 0, none⟩))] _ := F23.cut rfl
 clear F21 F23
 have T26 : Mv _ _ [bx b3 [.string a.text, .int .i64 a.sure] 30, bx b7 [.string a.text, .int .i64 a.sure] 30, bx b1 [.string a.text, .int .i64 a.sure] 24] _ := S24
 refine s_end (x_normal (wp_ret ?_))
 refine x_done (v := .agg #[.string a.text, .int .i64 a.sure]) F25 (results_1 Try.results29 (.cell (F25.ev 2 rfl) (run_loadVar' TI_30 _ [.string a.text, .int .i64 a.sure] rfl (fun h => nomatch h) (At.cells T26.at' 0 rfl 0 [.string a.text, .int .i64 a.sure] rfl)))) ?_
 exact ⟨rfl, (Mv.pick (S1.trans (T6.trans (T10.trans (T16.trans (T22.trans T26))))) [] rfl), h_a_text, by first | assumption | omega⟩
theorem laws_eqJournal_c {w : World} {H : Nat → Prop} {a : JouD} {b : JouD} (h_a_text : okS a.text) (h_a_sure : i64ok a.sure) (h_b_text : okS b.text) (h_b_sure : i64ok b.sure) (p0 : a = b) :
    Calls Try.prog 52 #[.agg #[.string a.text, .int .i64 a.sure], .agg #[.string b.text, .int .i64 b.sure]] w fun e w' => e = .returned (.bool true) ∧ Mv [] w [] w' := by
 have uU : True := (fun _ _ _ _ _ => trivial) H h_a_text h_a_sure h_b_text h_b_sure
 clear uU
 refine calls_enter 15 Try.func52 rfl Try.ntmps52 (Nat.le_of_ble_eq_true rfl) (fun _ F0i => ?_)
 have F0 : Fr 15 [(0, .agg #[.string a.text, .int .i64 a.sure]), (1, .agg #[.string b.text, .int .i64 b.sure])] _ := F0i
 clear F0i
 refine wp_seq (wp_region_lit (l_op (f_box F0 (At.nil w) rfl rfl rfl (F0.ev 0 rfl) rfl rfl fun b1 _ w1 F2 S1 => ?_)))
 refine l_op (f_box F2 S1.at' rfl rfl rfl (F2.ev 1 rfl) rfl rfl fun b3 _ w3 F4 S3 => ?_)
 refine l_op (f_val F4 rfl rfl (r_assign rfl rfl) rfl fun _ F5 => ?_)
 have F6 : Fr 15 [(4, .bool false), (3, .pointer (some ⟨b3, 0, none⟩)), (2, .pointer (some ⟨b1, 0, none⟩))] _ := F5.cut rfl
 clear F0 F2 F4 F5
 have T7 : Mv _ _ [bx b3 [.string b.text, .int .i64 b.sure] 30, bx b1 [.string a.text, .int .i64 a.sure] 30] _ := S3
 refine s_end (x_normal (wp_seq (wp_seq (wp_region_lit (l_op (f_val F6 rfl rfl (r_field FI_30_0 rfl (F6.ev 2 rfl) rfl) rfl fun _ F8 => ?_))))))
 refine l_op (f_val (v := .string a.text) F8 rfl rfl (r_loadB T7.at' 1 TI_9 rfl rfl (F8.ev 5 rfl) rfl rfl (fun _ => rfl) rfl) rfl fun _ F9 => ?_)
 refine l_op (f_val F9 rfl rfl (r_field FI_30_0 rfl (F9.ev 3 rfl) rfl) rfl fun _ F10 => ?_)
 refine l_op (f_val (v := .string b.text) F10 rfl rfl (r_loadB T7.at' 0 TI_9 rfl rfl (F10.ev 7 rfl) rfl rfl (fun _ => rfl) rfl) rfl fun _ F11 => ?_)
 refine l_op (f_val F11 rfl rfl (r_cmps (b := (decide (a.text ≠ b.text))) (.inr (.inl rfl)) rfl (F11.ev 6 rfl) (F11.ev 8 rfl) rfl) rfl fun _ F12 => ?_)
 rw [show (decide (a.text ≠ b.text)) = false from decide_eq_false (fun h => h (by rw [p0]))] at F12
 have F13 : Fr 15 [(9, .bool false), (3, .pointer (some ⟨b3, 0, none⟩)), (2, .pointer (some ⟨b1, 0, none⟩))] _ := F12.cut rfl
 clear F6 F8 F9 F10 F11 F12
 refine s_end (x_normal (wp_cond_false (F13.ev 9 rfl) (wp_skip (x_normal (wp_seq (wp_seq (wp_region_lit (l_op (f_val F13 rfl rfl (r_field FI_30_1 rfl (F13.ev 2 rfl) rfl) rfl fun _ F14 => ?_)))))))))
 refine l_op (f_val (v := .int .i64 a.sure) F14 rfl rfl (r_loadB T7.at' 1 TI_3 rfl rfl (F14.ev 10 rfl) rfl rfl (fun _ => rfl) rfl) rfl fun _ F15 => ?_)
 refine l_op (f_val F15 rfl rfl (r_field FI_30_1 rfl (F15.ev 3 rfl) rfl) rfl fun _ F16 => ?_)
 refine l_op (f_val (v := .int .i64 b.sure) F16 rfl rfl (r_loadB T7.at' 0 TI_3 rfl rfl (F16.ev 12 rfl) rfl rfl (fun _ => rfl) rfl) rfl fun _ F17 => ?_)
 refine l_op (f_val F17 rfl rfl (r_cmp (b := decide (a.sure ≠ b.sure)) (.inr (.inl rfl)) rfl (F17.ev 11 rfl) (F17.ev 13 rfl) (dec_of (by omega))) rfl fun _ F18 => ?_)
 rw [show (decide (a.sure ≠ b.sure)) = false from decide_eq_false (fun h => h (by rw [p0]))] at F18
 have F19 : Fr 15 [(14, .bool false)] _ := F18.cut rfl
 clear F13 F14 F15 F16 F17 F18
 refine s_end (x_normal (wp_cond_false (F19.ev 14 rfl) (wp_skip (x_normal (wp_seq (wp_region_lit (l_op (f_val F19 rfl rfl (r_assign rfl rfl) rfl fun _ F20 => ?_))))))))
 have F21 : Fr 15 [(4, .bool true)] _ := F20.cut rfl
 clear F19 F20
 refine s_end (x_normal (wp_ret ?_))
 refine x_done (v := .bool true) F21 (results_1 Try.results52 (.tmp (F21.ev 4 rfl))) ?_
 exact ⟨rfl, (Mv.pick (S1.trans T7) [] rfl)⟩
theorem laws_szDisk_c {w : World} {H : Nat → Prop} {a : DiskH} {a_slots_a : Option Addr} {a_slots_n a_slots_c : Nat} {left : Int} (v_a_slots : RdA 3 encSlot okSlot H w (.slice a_slots_a a_slots_n a_slots_c) a.slots) (u_a_slots : NRa inSlot H w a.slots) (h_a_journal_text : okS a.journal.text) (h_a_journal_sure : i64ok a.journal.sure) (h_left : i64ok left) (p0 : 0 ≤ left) (p1 : left ≤ 1048576) :
    Calls Try.prog 11 #[.agg #[.slice a_slots_a a_slots_n a_slots_c, .string a.journal.text, .int .i64 a.journal.sure], .int .i64 left] w fun e w' => e = .returned (.int .i64 (subOr left (szDiskH a))) ∧ Mv [] w [] w' ∧ i64ok (subOr left (szDiskH a)) := by
 have uU : True := (fun _ => trivial) h_a_journal_sure
 clear uU
 have V_v_a_slots : RdA 3 encSlot okSlot (V H w []) w (.slice a_slots_a a_slots_n a_slots_c) a.slots := RdA.start v_a_slots (fun _ _ => fps_nil _)
 obtain ⟨ln_a_slots, le_a_slots, mx_a_slots, ni_a_slots⟩ := RdA.inv v_a_slots
 have V_u_a_slots : NRa inSlot (V H w []) w a.slots := NRa.start u_a_slots (fun _ _ => fps_nil _)
 refine calls_enter 18 Try.func11 rfl Try.ntmps11 (Nat.le_of_ble_eq_true rfl) (fun _ F0i => ?_)
 have F0 : Fr 18 [(0, .agg #[.slice a_slots_a a_slots_n a_slots_c, .string a.journal.text, .int .i64 a.journal.sure]), (1, .int .i64 left)] _ := F0i
 clear F0i
 refine wp_seq (wp_region_lit (l_op (f_box F0 (At.nil w) rfl rfl rfl (F0.ev 0 rfl) rfl rfl fun b1 _ w1 F2 S1 => ?_)))
 refine l_op (f_val F2 rfl rfl (r_assign rfl rfl) rfl fun _ F3 => ?_)
 have F4 : Fr 18 [(4, .int .i64 0), (2, .pointer (some ⟨b1, 0, none⟩)), (1, .int .i64 left)] _ := F3.cut rfl
 clear F0 F2 F3
 have T5 : Mv _ _ [bx b1 [.slice a_slots_a a_slots_n a_slots_c, .string a.journal.text, .int .i64 a.journal.sure] 26] _ := S1
 refine s_end (x_normal (wp_seq (wp_region_lit (l_op (f_val F4 rfl rfl (r_field FI_26_0 rfl (F4.ev 2 rfl) rfl) rfl fun _ F6 => ?_)))))
 refine l_op (f_val (v := .slice a_slots_a a_slots_n a_slots_c) F6 rfl rfl (r_loadB T5.at' 0 TI_22 rfl rfl (F6.ev 5 rfl) rfl rfl (fun _ => rfl) rfl) rfl fun _ F7 => ?_)
 refine l_op (f_mv F7 rfl rfl rfl rfl rfl fun _ F8 => ?_)
 refine l_op (f_call F8 CF_49 rfl rfl rfl rfl (lc (F8.ev 6 rfl) (lc (F8.ev 7 rfl) rfl)) (laws_szSlotS_c (a := a.slots) (left := left) (RdA.mv (Nat.succ_pos _) V_v_a_slots T5) (NRa.mv V_u_a_slots T5) h_left (by first | assumption | omega | (simp <;> omega)) (by first | assumption | omega | (simp <;> omega))) ?_)
 rintro _ w9 ⟨rfl, m9, q9_0⟩
 refine ⟨_, rfl, fun _ F10 => ?_⟩
 have S9 := At.frame0 T5.at' m9
 clear m9
 refine l_op (f_as F10 rfl rfl rfl rfl rfl fun _ F11 => ?_)
 have F12 : Fr 18 [(1, .int .i64 (subOr left (szSlotsH a.slots))), (2, .pointer (some ⟨b1, 0, none⟩))] _ := F11.cut rfl
 clear F4 F6 F7 F8 F10 F11
 have T13 : Mv _ _ [bx b1 [.slice a_slots_a a_slots_n a_slots_c, .string a.journal.text, .int .i64 a.journal.sure] 26] _ := S9
 refine s_end (x_normal (wp_seq (wp_seq (wp_region_lit (l_op (f_mv F12 rfl rfl rfl rfl rfl fun _ F14 => ?_))))))
 refine l_op (f_val F14 rfl rfl (r_cmp (b := decide ((subOr left (szSlotsH a.slots)) < 0)) (.inr (.inr (.inl rfl))) rfl (F14.ev 9 rfl) rfl (dec_of (by omega))) rfl fun _ F15 => ?_)
 have F16 : Fr 18 [(10, .bool (decide ((subOr left (szSlotsH a.slots)) < 0))), (1, .int .i64 (subOr left (szSlotsH a.slots))), (2, .pointer (some ⟨b1, 0, none⟩))] _ := F15.cut rfl
 clear F12 F14 F15
 refine s_end (x_normal (x_cond (p := (subOr left (szSlotsH a.slots)) < 0) (F16.ev 10 rfl) (fun h17 => ?_) (fun h17 => ?_)))
 · skip
   refine wp_seq (wp_region_lit (l_op (f_val F16 rfl rfl (r_assign rfl rfl) rfl fun _ F18 => ?_)))
   have F19 : Fr 18 [(4, .int .i64 (-1))] _ := F18.cut rfl
   clear F16 F18
   refine s_end (x_normal (wp_ret (x_then_ret ?_)))
   refine x_done (v := .int .i64 (-1)) F19 (results_1 Try.results11 (.tmp (F19.ev 4 rfl))) ?_
   exact ⟨(by rw [(show (-1) = (subOr left (szDiskH a)) from by unfold szDiskH; first | exact sz2_a (by assumption) | exact sz2_b (by assumption) | (rw [← sz2_b (by assumption)]; exact subOr_neg1 (by assumption)))]), (Mv.pick (T5.trans T13) [] rfl), subOr_i64 p0 p1⟩
 · skip
   refine wp_skip (x_normal (wp_seq (wp_region_lit (l_op (f_val F16 rfl rfl (r_field FI_26_1 rfl (F16.ev 2 rfl) rfl) rfl fun _ F20 => ?_)))))
   refine l_op (f_val (v := .agg #[.string a.journal.text, .int .i64 a.journal.sure]) F20 rfl rfl (r_loadB T13.at' 0 TI_24 rfl rfl (F20.ev 11 rfl) rfl rfl (fun h => nomatch h) rfl) rfl fun _ F21 => ?_)
   refine l_op (f_mv F21 rfl rfl rfl rfl rfl fun _ F22 => ?_)
   refine l_op (f_call F22 CF_27 rfl rfl rfl rfl (lc (F22.ev 12 rfl) (lc (F22.ev 13 rfl) rfl)) (laws_szJournal_c (H := fun _ => True) (a := a.journal) (left := (subOr left (szSlotsH a.slots))) h_a_journal_text (by first | assumption | exact ⟨by omega, by omega⟩ | (unfold i64ok at *; omega) | (simp only [i64ok]; omega)) (by first | assumption | exact ⟨by omega, by omega⟩ | (unfold i64ok at *; omega)) (by first | assumption | omega | (simp <;> omega)) (by have q1 := subOr_bd left (szSlotsH a.slots) p0; omega)) ?_)
   rintro _ w23 ⟨rfl, m23, q23_0⟩
   refine ⟨_, rfl, fun _ F24 => ?_⟩
   have S23 := At.frame0 T13.at' m23
   clear m23
   refine l_op (f_as F24 rfl rfl rfl rfl rfl fun _ F25 => ?_)
   have F26 : Fr 18 [(1, .int .i64 (subOr (subOr left (szSlotsH a.slots)) a.journal.text.size))] _ := F25.cut rfl
   clear F16 F20 F21 F22 F24 F25
   have T27 : Mv _ _ [bx b1 [.slice a_slots_a a_slots_n a_slots_c, .string a.journal.text, .int .i64 a.journal.sure] 26] _ := S23
   refine s_end (x_normal (wp_seq (wp_seq (wp_region_lit (l_op (f_mv F26 rfl rfl rfl rfl rfl fun _ F28 => ?_))))))
   refine l_op (f_val F28 rfl rfl (r_cmp (b := decide ((subOr (subOr left (szSlotsH a.slots)) a.journal.text.size) < 0)) (.inr (.inr (.inl rfl))) rfl (F28.ev 15 rfl) rfl (dec_of (by omega))) rfl fun _ F29 => ?_)
   have F30 : Fr 18 [(16, .bool (decide ((subOr (subOr left (szSlotsH a.slots)) a.journal.text.size) < 0))), (1, .int .i64 (subOr (subOr left (szSlotsH a.slots)) a.journal.text.size))] _ := F29.cut rfl
   clear F26 F28 F29
   refine s_end (x_normal (x_cond (p := (subOr (subOr left (szSlotsH a.slots)) a.journal.text.size) < 0) (F30.ev 16 rfl) (fun h31 => ?_) (fun h31 => ?_)))
   · skip
     refine wp_seq (wp_region_lit (l_op (f_val F30 rfl rfl (r_assign rfl rfl) rfl fun _ F32 => ?_)))
     have F33 : Fr 18 [(4, .int .i64 (-1))] _ := F32.cut rfl
     clear F30 F32
     refine s_end (x_normal (wp_ret (x_then_ret ?_)))
     refine x_done (v := .int .i64 (-1)) F33 (results_1 Try.results11 (.tmp (F33.ev 4 rfl))) ?_
     exact ⟨(by rw [(show (-1) = (subOr left (szDiskH a)) from by unfold szDiskH; first | exact sz2_a (by assumption) | exact sz2_b (by assumption) | (rw [← sz2_b (by assumption)]; exact subOr_neg1 (by assumption)))]), (Mv.pick (T5.trans (T13.trans T27)) [] rfl), subOr_i64 p0 p1⟩
   · skip
     refine wp_skip (x_normal (wp_seq (wp_region_lit (l_op (f_mv F30 rfl rfl rfl rfl rfl fun _ F34 => ?_)))))
     refine l_op (f_as F34 rfl rfl rfl rfl rfl fun _ F35 => ?_)
     have F36 : Fr 18 [(4, .int .i64 (subOr (subOr left (szSlotsH a.slots)) a.journal.text.size))] _ := F35.cut rfl
     clear F30 F34 F35
     refine s_end (x_normal (wp_ret ?_))
     refine x_done (v := .int .i64 (subOr (subOr left (szSlotsH a.slots)) a.journal.text.size)) F36 (results_1 Try.results11 (.tmp (F36.ev 4 rfl))) ?_
     exact ⟨(by rw [(show (subOr (subOr left (szSlotsH a.slots)) a.journal.text.size) = (subOr left (szDiskH a)) from by unfold szDiskH; first | exact sz2_a (by assumption) | exact sz2_b (by assumption) | (rw [← sz2_b (by assumption)]; exact subOr_neg1 (by assumption)))]), (Mv.pick (T5.trans (T13.trans T27)) [] rfl), subOr_i64 p0 p1⟩
theorem laws_toDisk_c {w : World} {H : Nat → Prop} {a : DiskH} {a_slots_a : Option Addr} {a_slots_n a_slots_c : Nat} (v_a_slots : RdA 3 encSlot okSlot H w (.slice a_slots_a a_slots_n a_slots_c) a.slots) (u_a_slots : NRa inSlot H w a.slots) (h_a_journal_text : okS a.journal.text) (h_a_journal_sure : i64ok a.journal.sure) (p0 : slotsFit 1048576 (a.slots.map SlotH.d)) :
    Calls Try.prog 13 #[.agg #[.slice a_slots_a a_slots_n a_slots_c, .string a.journal.text, .int .i64 a.journal.sure]] w fun e w' => ∃ (D : List SlotH), ∃ (r0_slots_a : Option Addr), ∃ (r0_slots_n : Nat), ∃ (r0_slots_c : Nat), e = .returned (.agg #[.slice r0_slots_a r0_slots_n r0_slots_c, .string a.journal.text, .int .i64 a.journal.sure]) ∧ Mv [] w [ow 99 3 encSlot okSlot (.slice r0_slots_a r0_slots_n r0_slots_c) D, gr inSlot D] w' ∧ okS a.journal.text ∧ D.map SlotH.d = a.slots.map SlotH.d ∧ D.length = a.slots.length ∧ i64ok a.journal.sure := by
 have uU : True := (fun _ => trivial) h_a_journal_sure
 clear uU
 have V_v_a_slots : RdA 3 encSlot okSlot (V H w []) w (.slice a_slots_a a_slots_n a_slots_c) a.slots := RdA.start v_a_slots (fun _ _ => fps_nil _)
 obtain ⟨ln_a_slots, le_a_slots, mx_a_slots, ni_a_slots⟩ := RdA.inv v_a_slots
 have V_u_a_slots : NRa inSlot (V H w []) w a.slots := NRa.start u_a_slots (fun _ _ => fps_nil _)
 refine calls_enter 13 Try.func13 rfl Try.ntmps13 (Nat.le_of_ble_eq_true rfl) (fun _ F0i => ?_)
 have F0 : Fr 13 [(0, .agg #[.slice a_slots_a a_slots_n a_slots_c, .string a.journal.text, .int .i64 a.journal.sure])] _ := F0i
 clear F0i
 refine wp_seq (wp_region_lit (l_op (f_box F0 (At.nil w) rfl rfl rfl (F0.ev 0 rfl) rfl rfl fun b1 _ w1 F2 S1 => ?_)))
 refine l_op (f_alloc F2 S1.at' ZI_32 rfl rfl rfl rfl rfl fun b3 _ w3 F4 S3 => ?_)
 have F5 : Fr 13 [(2, .pointer (some ⟨b3, 0, none⟩)), (1, .pointer (some ⟨b1, 0, none⟩))] _ := F4.cut rfl
 clear F0 F2 F4
 have T6 : Mv _ _ [bx b3 [.slice none 0 0, .string (⟨#[]⟩ : ByteArray), .int .i64 0] 32, bx b1 [.slice a_slots_a a_slots_n a_slots_c, .string a.journal.text, .int .i64 a.journal.sure] 26] _ := S3
 refine s_end (x_normal (wp_seq (wp_region_lit (l_op (f_alloc F5 T6.at' ZI_32 rfl rfl rfl rfl rfl fun b7 _ w7 F8 S7 => ?_)))))
 have F9 : Fr 13 [(3, .pointer (some ⟨b7, 0, none⟩)), (2, .pointer (some ⟨b3, 0, none⟩)), (1, .pointer (some ⟨b1, 0, none⟩))] _ := F8.cut rfl
 clear F5 F8
 have T10 : Mv _ _ [bx b7 [.slice none 0 0, .string (⟨#[]⟩ : ByteArray), .int .i64 0] 32, bx b3 [.slice none 0 0, .string (⟨#[]⟩ : ByteArray), .int .i64 0] 32, bx b1 [.slice a_slots_a a_slots_n a_slots_c, .string a.journal.text, .int .i64 a.journal.sure] 26] _ := S7
 refine s_end (x_normal (wp_seq (wp_region_lit (l_op (f_val F9 rfl rfl (r_field FI_26_0 rfl (F9.ev 1 rfl) rfl) rfl fun _ F11 => ?_)))))
 refine l_op (f_val (v := .slice a_slots_a a_slots_n a_slots_c) F11 rfl rfl (r_loadB T10.at' 2 TI_22 rfl rfl (F11.ev 4 rfl) rfl rfl (fun _ => rfl) rfl) rfl fun _ F12 => ?_)
 refine l_op (f_call F12 CF_50 rfl rfl rfl rfl (lc (F12.ev 5 rfl) rfl) (laws_toSlotS_c (a := a.slots) (RdA.mv (Nat.succ_pos _) V_v_a_slots (S1.trans (T6.trans T10))) (NRa.mv V_u_a_slots (S1.trans (T6.trans T10))) (by exact p0.len) (by first | assumption | omega | (simp <;> omega))) ?_)
 rintro _ w13 ⟨D_13, r0_a_13, r0_n_13, r0_c_13, rfl, m13, q13_0, q13_1⟩
 refine ⟨_, rfl, fun _ F14 => ?_⟩
 have S13 : Mv _ _ [ow 99 3 encSlot okSlot (.slice r0_a_13 r0_n_13 r0_c_13) D_13, gr inSlot D_13, bx b7 [.slice none 0 0, .string (⟨#[]⟩ : ByteArray), .int .i64 0] 32, bx b3 [.slice none 0 0, .string (⟨#[]⟩ : ByteArray), .int .i64 0] 32, bx b1 [.slice a_slots_a a_slots_n a_slots_c, .string a.journal.text, .int .i64 a.journal.sure] 26] _ := At.frame T10.at' [] rfl m13
 obtain ⟨lo13_0, lp13_0, lq13_0⟩ := At.ownInv S13.at' ET_29.hk 0 rfl
 clear m13
 refine l_op (f_val F14 rfl rfl (r_field FI_32_0 rfl (F14.ev 3 rfl) rfl) rfl fun _ F15 => ?_)
 refine l_op (s_store S13.at' 2 TI_29 rfl rfl rfl rfl rfl (F15.ev 7 rfl) (F15.ev 6 rfl) rfl rfl rfl rfl rfl fun w16 S16 => ?_)
 have F17 : Fr 13 [(7, .pointer (some ⟨b7, 0, none⟩)), (6, .slice r0_a_13 r0_n_13 r0_c_13), (3, .pointer (some ⟨b7, 0, none⟩)), (2, .pointer (some ⟨b3, 0, none⟩)), (1, .pointer (some ⟨b1, 0, none⟩))] _ := F15.cut rfl
 clear F9 F11 F12 F14 F15
 have T18 : Mv _ _ [bx b7 [.slice r0_a_13 r0_n_13 r0_c_13, .string (⟨#[]⟩ : ByteArray), .int .i64 0] 32, ow 99 3 encSlot okSlot (.slice r0_a_13 r0_n_13 r0_c_13) D_13, gr inSlot D_13, bx b3 [.slice none 0 0, .string (⟨#[]⟩ : ByteArray), .int .i64 0] 32, bx b1 [.slice a_slots_a a_slots_n a_slots_c, .string a.journal.text, .int .i64 a.journal.sure] 26] _ := S16
 refine s_end (x_normal (wp_seq (wp_region_lit (l_op (f_val F17 rfl rfl (r_field FI_26_1 rfl (F17.ev 1 rfl) rfl) rfl fun _ F19 => ?_)))))
 refine l_op (f_val (v := .agg #[.string a.journal.text, .int .i64 a.journal.sure]) F19 rfl rfl (r_loadB T18.at' 4 TI_24 rfl rfl (F19.ev 8 rfl) rfl rfl (fun h => nomatch h) rfl) rfl fun _ F20 => ?_)
 refine l_op (f_call F20 CF_29 rfl rfl rfl rfl (lc (F20.ev 9 rfl) rfl) (laws_toJournal_c (H := fun _ => True) (a := a.journal) h_a_journal_text (by first | assumption | exact ⟨by omega, by omega⟩ | (unfold i64ok at *; omega) | (simp only [i64ok]; omega))) ?_)
 rintro _ w21 ⟨rfl, m21, ok_r0_text_21, q21_0⟩
 refine ⟨_, rfl, fun _ F22 => ?_⟩
 have S21 := At.frame0 T18.at' m21
 clear m21
 refine l_op (f_val F22 rfl rfl (r_field FI_32_1 rfl (F22.ev 3 rfl) rfl) rfl fun _ F23 => ?_)
 refine l_op (s_store S21.at' 0 TI_30 rfl rfl rfl rfl rfl (F23.ev 11 rfl) (F23.ev 10 rfl) rfl rfl rfl rfl rfl fun w24 S24 => ?_)
 have F25 : Fr 13 [(11, .pointer (some ⟨b7, 1, none⟩)), (10, .agg #[.string a.journal.text, .int .i64 a.journal.sure]), (3, .pointer (some ⟨b7, 0, none⟩)), (2, .pointer (some ⟨b3, 0, none⟩))] _ := F23.cut rfl
 clear F17 F19 F20 F22 F23
 have T26 : Mv _ _ [bx b7 [.slice r0_a_13 r0_n_13 r0_c_13, .string a.journal.text, .int .i64 a.journal.sure] 32, ow 99 3 encSlot okSlot (.slice r0_a_13 r0_n_13 r0_c_13) D_13, gr inSlot D_13, bx b3 [.slice none 0 0, .string (⟨#[]⟩ : ByteArray), .int .i64 0] 32, bx b1 [.slice a_slots_a a_slots_n a_slots_c, .string a.journal.text, .int .i64 a.journal.sure] 26] _ := S24
 refine s_end (x_normal (wp_seq (wp_region_lit (l_op (f_val (v := .agg #[.slice r0_a_13 r0_n_13 r0_c_13, .string a.journal.text, .int .i64 a.journal.sure]) F25 rfl rfl (r_loadB T26.at' 0 TI_32 rfl rfl (F25.ev 3 rfl) rfl rfl (fun h => nomatch h) rfl) rfl fun _ F27 => ?_)))))
 refine l_op (s_store T26.at' 3 TI_32 rfl rfl rfl rfl rfl (F27.ev 2 rfl) (F27.ev 12 rfl) rfl rfl rfl rfl rfl fun w28 S28 => ?_)
 have F29 : Fr 13 [(12, .agg #[.slice r0_a_13 r0_n_13 r0_c_13, .string a.journal.text, .int .i64 a.journal.sure]), (2, .pointer (some ⟨b3, 0, none⟩))] _ := F27.cut rfl
 clear F25 F27
 have T30 : Mv _ _ [bx b3 [.slice r0_a_13 r0_n_13 r0_c_13, .string a.journal.text, .int .i64 a.journal.sure] 32, bx b7 [.slice r0_a_13 r0_n_13 r0_c_13, .string a.journal.text, .int .i64 a.journal.sure] 32, ow 99 3 encSlot okSlot (.slice r0_a_13 r0_n_13 r0_c_13) D_13, gr inSlot D_13, bx b1 [.slice a_slots_a a_slots_n a_slots_c, .string a.journal.text, .int .i64 a.journal.sure] 26] _ := S28
 refine s_end (x_normal (wp_ret ?_))
 refine x_done (v := .agg #[.slice r0_a_13 r0_n_13 r0_c_13, .string a.journal.text, .int .i64 a.journal.sure]) F29 (results_1 Try.results13 (.cell (F29.ev 2 rfl) (run_loadVar' TI_32 _ [.slice r0_a_13 r0_n_13 r0_c_13, .string a.journal.text, .int .i64 a.journal.sure] rfl (fun h => nomatch h) (At.cells T30.at' 0 rfl 0 [.slice r0_a_13 r0_n_13 r0_c_13, .string a.journal.text, .int .i64 a.journal.sure] rfl)))) ?_
 exact ⟨D_13, r0_a_13, r0_n_13, r0_c_13, rfl, (Mv.pick (S1.trans (T6.trans (T10.trans (S13.trans (T18.trans (S21.trans (T26.trans T30))))))) [2, 3] rfl), ok_r0_text_21, by first | assumption | exact w64_ok _ | omega | (unfold i64ok; omega), by first | assumption | exact w64_ok _ | omega | (unfold i64ok; omega), by first | assumption | exact w64_ok _ | omega | (unfold i64ok; omega)⟩
theorem laws_eqDisk_c {w : World} {H : Nat → Prop} {a : DiskH} {a_slots_a : Option Addr} {a_slots_n a_slots_c : Nat} {b : DiskH} {b_slots_a : Option Addr} {b_slots_n b_slots_c : Nat} (v_a_slots : Rd 3 encSlot okSlot H w (.slice a_slots_a a_slots_n a_slots_c) a.slots) (u_a_slots : NRd inSlot H w a.slots) (h_a_journal_text : okS a.journal.text) (h_a_journal_sure : i64ok a.journal.sure) (v_b_slots : Rd 3 encSlot okSlot H w (.slice b_slots_a b_slots_n b_slots_c) b.slots) (u_b_slots : NRd inSlot H w b.slots) (h_b_journal_text : okS b.journal.text) (h_b_journal_sure : i64ok b.journal.sure) (p0 : a.slots.map SlotH.d = b.slots.map SlotH.d) (p1 : a.journal = b.journal) :
    Calls Try.prog 15 #[.agg #[.slice a_slots_a a_slots_n a_slots_c, .string a.journal.text, .int .i64 a.journal.sure], .agg #[.slice b_slots_a b_slots_n b_slots_c, .string b.journal.text, .int .i64 b.journal.sure]] w fun e w' => e = .returned (.bool true) ∧ Mv [] w [] w' := by
 have uU : True := (fun _ _ _ _ => trivial) h_a_journal_sure h_b_journal_sure p0 p1
 clear uU
 have V_v_a_slots : Rd 3 encSlot okSlot (V H w []) w (.slice a_slots_a a_slots_n a_slots_c) a.slots := Rd.start v_a_slots (fun _ _ => fps_nil _)
 obtain ⟨ln_a_slots, le_a_slots, mx_a_slots, ni_a_slots⟩ := Rd.inv v_a_slots
 have V_v_b_slots : Rd 3 encSlot okSlot (V H w []) w (.slice b_slots_a b_slots_n b_slots_c) b.slots := Rd.start v_b_slots (fun _ _ => fps_nil _)
 obtain ⟨ln_b_slots, le_b_slots, mx_b_slots, ni_b_slots⟩ := Rd.inv v_b_slots
 have V_u_a_slots : NRd inSlot (V H w []) w a.slots := NRd.start u_a_slots (fun _ _ => fps_nil _)
 have V_u_b_slots : NRd inSlot (V H w []) w b.slots := NRd.start u_b_slots (fun _ _ => fps_nil _)
 refine calls_enter 17 Try.func15 rfl Try.ntmps15 (Nat.le_of_ble_eq_true rfl) (fun _ F0i => ?_)
 have F0 : Fr 17 [(0, .agg #[.slice a_slots_a a_slots_n a_slots_c, .string a.journal.text, .int .i64 a.journal.sure]), (1, .agg #[.slice b_slots_a b_slots_n b_slots_c, .string b.journal.text, .int .i64 b.journal.sure])] _ := F0i
 clear F0i
 refine wp_seq (wp_region_lit (l_op (f_box F0 (At.nil w) rfl rfl rfl (F0.ev 0 rfl) rfl rfl fun b1 _ w1 F2 S1 => ?_)))
 refine l_op (f_box F2 S1.at' rfl rfl rfl (F2.ev 1 rfl) rfl rfl fun b3 _ w3 F4 S3 => ?_)
 refine l_op (f_val F4 rfl rfl (r_assign rfl rfl) rfl fun _ F5 => ?_)
 have F6 : Fr 17 [(4, .bool false), (3, .pointer (some ⟨b3, 0, none⟩)), (2, .pointer (some ⟨b1, 0, none⟩))] _ := F5.cut rfl
 clear F0 F2 F4 F5
 have T7 : Mv _ _ [bx b3 [.slice b_slots_a b_slots_n b_slots_c, .string b.journal.text, .int .i64 b.journal.sure] 32, bx b1 [.slice a_slots_a a_slots_n a_slots_c, .string a.journal.text, .int .i64 a.journal.sure] 32] _ := S3
 refine s_end (x_normal (wp_seq (wp_seq (wp_region_lit (l_op (f_val F6 rfl rfl (r_field FI_32_0 rfl (F6.ev 2 rfl) rfl) rfl fun _ F8 => ?_))))))
 refine l_op (f_val (v := .slice a_slots_a a_slots_n a_slots_c) F8 rfl rfl (r_loadB T7.at' 1 TI_29 rfl rfl (F8.ev 5 rfl) rfl rfl (fun _ => rfl) rfl) rfl fun _ F9 => ?_)
 refine l_op (f_val F9 rfl rfl (r_field FI_32_0 rfl (F9.ev 3 rfl) rfl) rfl fun _ F10 => ?_)
 refine l_op (f_val (v := .slice b_slots_a b_slots_n b_slots_c) F10 rfl rfl (r_loadB T7.at' 0 TI_29 rfl rfl (F10.ev 7 rfl) rfl rfl (fun _ => rfl) rfl) rfl fun _ F11 => ?_)
 refine l_op (f_call F11 CF_51 rfl rfl rfl rfl (lc (F11.ev 6 rfl) (lc (F11.ev 8 rfl) rfl)) (laws_eqSlotS_c (a := a.slots) (b := b.slots) (Rd.mv (Nat.succ_pos _) V_v_a_slots (S1.trans T7)) (NRd.mv V_u_a_slots (S1.trans T7)) (Rd.mv (Nat.succ_pos _) V_v_b_slots (S1.trans T7)) (NRd.mv V_u_b_slots (S1.trans T7)) (by first | assumption | omega | (simp <;> omega))) ?_)
 rintro _ w12 ⟨rfl, m12⟩
 refine ⟨_, rfl, fun _ F13 => ?_⟩
 have S12 := At.frame0 T7.at' m12
 clear m12
 refine l_op (f_val F13 rfl rfl (r_not rfl (F13.ev 9 rfl)) rfl fun _ F14 => ?_)
 have F15 : Fr 17 [(10, .bool false), (3, .pointer (some ⟨b3, 0, none⟩)), (2, .pointer (some ⟨b1, 0, none⟩))] _ := F14.cut rfl
 clear F6 F8 F9 F10 F11 F13 F14
 have T16 : Mv _ _ [bx b3 [.slice b_slots_a b_slots_n b_slots_c, .string b.journal.text, .int .i64 b.journal.sure] 32, bx b1 [.slice a_slots_a a_slots_n a_slots_c, .string a.journal.text, .int .i64 a.journal.sure] 32] _ := S12
 refine s_end (x_normal (wp_cond_false (F15.ev 10 rfl) (wp_skip (x_normal (wp_seq (wp_seq (wp_region_lit (l_op (f_val F15 rfl rfl (r_field FI_32_1 rfl (F15.ev 2 rfl) rfl) rfl fun _ F17 => ?_)))))))))
 refine l_op (f_val (v := .agg #[.string a.journal.text, .int .i64 a.journal.sure]) F17 rfl rfl (r_loadB T16.at' 1 TI_30 rfl rfl (F17.ev 11 rfl) rfl rfl (fun h => nomatch h) rfl) rfl fun _ F18 => ?_)
 refine l_op (f_val F18 rfl rfl (r_field FI_32_1 rfl (F18.ev 3 rfl) rfl) rfl fun _ F19 => ?_)
 refine l_op (f_val (v := .agg #[.string b.journal.text, .int .i64 b.journal.sure]) F19 rfl rfl (r_loadB T16.at' 0 TI_30 rfl rfl (F19.ev 13 rfl) rfl rfl (fun h => nomatch h) rfl) rfl fun _ F20 => ?_)
 refine l_op (f_call F20 CF_52 rfl rfl rfl rfl (lc (F20.ev 12 rfl) (lc (F20.ev 14 rfl) rfl)) (laws_eqJournal_c (H := fun _ => True) (a := a.journal) (b := b.journal) h_a_journal_text (by first | assumption | exact ⟨by omega, by omega⟩ | (unfold i64ok at *; omega) | (simp only [i64ok]; omega)) h_b_journal_text (by first | assumption | exact ⟨by omega, by omega⟩ | (unfold i64ok at *; omega) | (simp only [i64ok]; omega)) (by first | assumption | omega | (simp <;> omega))) ?_)
 rintro _ w21 ⟨rfl, m21⟩
 refine ⟨_, rfl, fun _ F22 => ?_⟩
 have S21 := At.frame0 T16.at' m21
 clear m21
 refine l_op (f_val F22 rfl rfl (r_not rfl (F22.ev 15 rfl)) rfl fun _ F23 => ?_)
 have F24 : Fr 17 [(16, .bool false)] _ := F23.cut rfl
 clear F15 F17 F18 F19 F20 F22 F23
 have T25 : Mv _ _ [bx b3 [.slice b_slots_a b_slots_n b_slots_c, .string b.journal.text, .int .i64 b.journal.sure] 32, bx b1 [.slice a_slots_a a_slots_n a_slots_c, .string a.journal.text, .int .i64 a.journal.sure] 32] _ := S21
 refine s_end (x_normal (wp_cond_false (F24.ev 16 rfl) (wp_skip (x_normal (wp_seq (wp_region_lit (l_op (f_val F24 rfl rfl (r_assign rfl rfl) rfl fun _ F26 => ?_))))))))
 have F27 : Fr 17 [(4, .bool true)] _ := F26.cut rfl
 clear F24 F26
 refine s_end (x_normal (wp_ret ?_))
 refine x_done (v := .bool true) F27 (results_1 Try.results15 (.tmp (F27.ev 4 rfl))) ?_
 exact ⟨rfl, (Mv.pick (S1.trans (T7.trans (T16.trans T25))) [] rfl)⟩
end Go.Proofs.Ytgfilegkabbliaa
