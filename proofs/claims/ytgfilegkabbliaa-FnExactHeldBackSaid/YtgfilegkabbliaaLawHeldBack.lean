/-
  PROVED HERE: whatever the input, the statement laws.FnExactHeldBack returns true: the program's HeldBack and the reference's give equal results and alter nothing of their arguments. No condition.
-/
import Derived.Test.YtgfilegkabbliaaGenNsa
import Derived.Test.YtgfilegkabbliaaGenNsb
import Derived.Test.YtgfilegkabbliaaLawN
namespace Go.Proofs.Ytgfilegkabbliaa
open Go.ChangeShapes Go.WideShapes Go.ChangeAt Go.RowKit
set_option maxRecDepth 100000
set_option maxHeartbeats 1000000
theorem laws_FnExactHeldBack_c {w : World} {H : Nat → Prop} {aList : List TxH} {aList_a : Option Addr} {aList_n aList_c : Nat} (v_aList : RdA 10 encTx okTx H w (.slice aList_a aList_n aList_c) aList) (u_aList : NRa inTx H w aList) :
    Calls Try.prog 5 #[.slice aList_a aList_n aList_c] w fun e w' => e = .returned (.bool true) ∧ Mv [] w [] w' := by
 have V_v_aList : RdA 10 encTx okTx (V H w []) w (.slice aList_a aList_n aList_c) aList := RdA.start v_aList (fun _ _ => fps_nil _)
 obtain ⟨ln_aList, le_aList, mx_aList, ni_aList⟩ := RdA.inv v_aList
 have V_u_aList : NRa inTx (V H w []) w aList := NRa.start u_aList (fun _ _ => fps_nil _)
 refine calls_enter 27 Try.func5 rfl Try.ntmps5 (Nat.le_of_ble_eq_true rfl) (fun _ F0i => ?_)
 have F0 : Fr 27 [(0, .slice aList_a aList_n aList_c)] _ := F0i
 clear F0i
 refine wp_seq (wp_region_lit (l_op (f_val F0 rfl rfl (r_assign rfl rfl) rfl fun _ F1 => ?_)))
 have F2 : Fr 27 [(2, .bool false), (0, .slice aList_a aList_n aList_c)] _ := F1.cut rfl
 clear F0 F1
 refine s_end (x_normal (wp_seq (wp_region_lit (l_op (f_val F2 rfl rfl (r_assign rfl rfl) rfl fun _ F3 => ?_)))))
 have F4 : Fr 27 [(3, .int .i64 1048576), (0, .slice aList_a aList_n aList_c)] _ := F3.cut rfl
 clear F2 F3
 refine s_end (x_normal (wp_seq (wp_region_lit (l_op (f_mv F4 rfl rfl rfl rfl rfl fun _ F5 => ?_)))))
 refine l_op (f_mv F5 rfl rfl rfl rfl rfl fun _ F6 => ?_)
 refine l_op (f_call F6 CF_16 rfl rfl rfl rfl (lc (F6.ev 7 rfl) (lc (F6.ev 8 rfl) rfl)) (laws_szTxS_c (a := aList) (left := 1048576) V_v_aList V_u_aList (by first | assumption | exact ⟨by omega, by omega⟩ | (unfold i64ok at *; omega)) (by first | assumption | omega | (simp <;> omega)) (by first | assumption | omega | (simp <;> omega))) ?_)
 rintro _ w7 ⟨rfl, m7, q7_0⟩
 refine ⟨_, rfl, fun _ F8 => ?_⟩
 have S7 := At.frame0 (At.nil w) m7
 clear m7
 refine l_op (f_as F8 rfl rfl rfl rfl rfl fun _ F9 => ?_)
 have F10 : Fr 27 [(3, .int .i64 (subOr 1048576 (szTxsH aList))), (0, .slice aList_a aList_n aList_c)] _ := F9.cut rfl
 clear F4 F5 F6 F8 F9
 have T11 : Mv _ _ [] _ := S7
 refine s_end (x_normal (wp_seq (wp_seq (wp_region_lit (l_op (f_mv F10 rfl rfl rfl rfl rfl fun _ F12 => ?_))))))
 refine l_op (f_val F12 rfl rfl (r_cmp (b := decide ((subOr 1048576 (szTxsH aList)) < 0)) (.inr (.inr (.inl rfl))) rfl (F12.ev 10 rfl) rfl (dec_of (by omega))) rfl fun _ F13 => ?_)
 have F14 : Fr 27 [(11, .bool (decide ((subOr 1048576 (szTxsH aList)) < 0))), (0, .slice aList_a aList_n aList_c)] _ := F13.cut rfl
 clear F10 F12 F13
 refine s_end (x_normal (x_cond (p := (subOr 1048576 (szTxsH aList)) < 0) (F14.ev 11 rfl) (fun h15 => ?_) (fun h15 => ?_)))
 · skip
   refine wp_seq (wp_region_lit (l_op (f_val F14 rfl rfl (r_assign rfl rfl) rfl fun _ F16 => ?_)))
   have F17 : Fr 27 [(2, .bool true)] _ := F16.cut rfl
   clear F14 F16
   refine s_end (x_normal (wp_ret (x_then_ret ?_)))
   refine x_done (v := .bool true) F17 (results_1 Try.results5 (.tmp (F17.ev 2 rfl))) ?_
   exact ⟨rfl, (Mv.pick T11 [] rfl)⟩
 · skip
   refine wp_skip (x_normal (wp_seq ?_))
   have hfit := txsFits (l := aList) (n := 1048576) (z := 1048576) (by decide) (by assumption)
   have hlen := hfit.len
   refine wp_region_lit (l_op (f_mv F14 rfl rfl rfl rfl rfl fun _ F18 => ?_))
   refine l_op (f_call F18 CF_18 rfl rfl rfl rfl (lc (F18.ev 12 rfl) rfl) (laws_toTxS_c (a := aList) (RdA.mv (Nat.succ_pos _) V_v_aList T11) (NRa.mv V_u_aList T11) (by first | assumption | omega | (simp <;> omega)) (by first | assumption | omega | (simp <;> omega))) ?_)
   rintro _ w19 ⟨D_19, r0_a_19, r0_n_19, r0_c_19, rfl, m19, q19_0, q19_1⟩
   refine ⟨_, rfl, fun _ F20 => ?_⟩
   have S19 : Mv _ _ [ow 71 10 encTx okTx (.slice r0_a_19 r0_n_19 r0_c_19) D_19, gr inTx D_19] _ := At.frame T11.at' [] rfl m19
   obtain ⟨lo19_0, lp19_0, lq19_0⟩ := At.ownInv S19.at' ET_39.hk 0 rfl
   clear m19
   refine l_op (f_call F20 CF_21 rfl rfl rfl rfl (lc (F20.ev 13 rfl) rfl) (spec_HeldBack_c (H := fun _ => True) (list := D_19) (At.rd S19.at' ET_39.hk 0 rfl) (At.nrd S19.at' 1 rfl) (by first | assumption | omega | (simp <;> omega))) ?_)
   rintro _ w21 ⟨rfl, m21⟩
   refine ⟨_, rfl, fun _ F22 => ?_⟩
   have S21 := At.frame0 S19.at' m21
   clear m21
   refine l_op (f_as F22 rfl rfl rfl rfl rfl fun _ F23 => ?_)
   have F24 : Fr 27 [(4, .int .i64 ((backN (D_19.map TxH.d) : Nat) : Int)), (0, .slice aList_a aList_n aList_c)] _ := F23.cut rfl
   clear F14 F18 F20 F22 F23
   have T25 : Mv _ _ [ow 71 10 encTx okTx (.slice r0_a_19 r0_n_19 r0_c_19) D_19, gr inTx D_19] _ := S21
   refine s_end (x_normal (wp_seq (wp_region_lit (l_op (f_mv F24 rfl rfl rfl rfl rfl fun _ F26 => ?_)))))
   refine l_op (f_call F26 CF_18 rfl rfl rfl rfl (lc (F26.ev 15 rfl) rfl) (laws_toTxS_c (a := aList) (RdA.mv (Nat.succ_pos _) V_v_aList (T11.trans (S19.trans T25))) (NRa.mv V_u_aList (T11.trans (S19.trans T25))) (by first | assumption | omega | (simp <;> omega)) (by first | assumption | omega | (simp <;> omega))) ?_)
   rintro _ w27 ⟨D_27, r0_a_27, r0_n_27, r0_c_27, rfl, m27, q27_0, q27_1⟩
   refine ⟨_, rfl, fun _ F28 => ?_⟩
   have S27 : Mv _ _ [ow 71 10 encTx okTx (.slice r0_a_27 r0_n_27 r0_c_27) D_27, gr inTx D_27, ow 71 10 encTx okTx (.slice r0_a_19 r0_n_19 r0_c_19) D_19, gr inTx D_19] _ := At.frame T25.at' [] rfl m27
   obtain ⟨lo27_0, lp27_0, lq27_0⟩ := At.ownInv S27.at' ET_39.hk 0 rfl
   clear m27
   refine l_op (f_as F28 rfl rfl rfl rfl rfl fun _ F29 => ?_)
   have F30 : Fr 27 [(5, .slice r0_a_27 r0_n_27 r0_c_27), (4, .int .i64 ((backN (D_19.map TxH.d) : Nat) : Int)), (0, .slice aList_a aList_n aList_c)] _ := F29.cut rfl
   clear F24 F26 F28 F29
   refine s_end (x_normal (wp_seq (wp_region_lit (l_op (f_mv F30 rfl rfl rfl rfl rfl fun _ F31 => ?_)))))
   refine l_op (f_call F31 CF_22 rfl rfl rfl rfl (lc (F31.ev 17 rfl) rfl) (impl_HeldBack_c (H := fun _ => True) (list := D_27) (At.rd S27.at' ET_39.hk 0 rfl) (At.nrd S27.at' 1 rfl) (by first | assumption | omega | (simp <;> omega))) ?_)
   rintro _ w32 ⟨rfl, m32⟩
   refine ⟨_, rfl, fun _ F33 => ?_⟩
   have S32 := At.frame0 S27.at' m32
   clear m32
   refine l_op (f_as F33 rfl rfl rfl rfl rfl fun _ F34 => ?_)
   have F35 : Fr 27 [(6, .int .i64 ((backN (D_27.map TxH.d) : Nat) : Int)), (5, .slice r0_a_27 r0_n_27 r0_c_27), (4, .int .i64 ((backN (D_19.map TxH.d) : Nat) : Int)), (0, .slice aList_a aList_n aList_c)] _ := F34.cut rfl
   clear F30 F31 F33 F34
   have T36 : Mv _ _ [ow 71 10 encTx okTx (.slice r0_a_27 r0_n_27 r0_c_27) D_27, gr inTx D_27, ow 71 10 encTx okTx (.slice r0_a_19 r0_n_19 r0_c_19) D_19, gr inTx D_19] _ := S32
   refine s_end (x_normal (wp_seq (wp_seq (wp_region_lit (l_op (f_mv F35 rfl rfl rfl rfl rfl fun _ F37 => ?_))))))
   refine l_op (f_mv F37 rfl rfl rfl rfl rfl fun _ F38 => ?_)
   refine l_op (f_val F38 rfl rfl (r_cmp (b := false) (.inr (.inl rfl)) rfl (F38.ev 19 rfl) (F38.ev 20 rfl) (by rw [show ((backN (D_27.map TxH.d) : Nat) : Int) = ((backN (D_19.map TxH.d) : Nat) : Int) from congrArg (fun l => ((backN l : Nat) : Int)) (same2 (by assumption) (by assumption))]; exact cmp_nes _)) rfl fun _ F39 => ?_)
   have F40 : Fr 27 [(21, .bool false), (5, .slice r0_a_27 r0_n_27 r0_c_27), (0, .slice aList_a aList_n aList_c)] _ := F39.cut rfl
   clear F35 F37 F38 F39
   refine s_end (x_normal (wp_cond_false (F40.ev 21 rfl) (wp_skip (x_normal (wp_seq (wp_seq (wp_region_lit (l_op (f_mv F40 rfl rfl rfl rfl rfl fun _ F41 => ?_)))))))))
   refine l_op (f_mv F41 rfl rfl rfl rfl rfl fun _ F42 => ?_)
   refine l_op (f_call F42 CF_18 rfl rfl rfl rfl (lc (F42.ev 23 rfl) rfl) (laws_toTxS_c (a := aList) (RdA.mv (Nat.succ_pos _) V_v_aList (T11.trans (S19.trans (T25.trans (S27.trans T36))))) (NRa.mv V_u_aList (T11.trans (S19.trans (T25.trans (S27.trans T36))))) (by first | assumption | omega | (simp <;> omega)) (by first | assumption | omega | (simp <;> omega))) ?_)
   rintro _ w43 ⟨D_43, r0_a_43, r0_n_43, r0_c_43, rfl, m43, q43_0, q43_1⟩
   refine ⟨_, rfl, fun _ F44 => ?_⟩
   have S43 : Mv _ _ [ow 71 10 encTx okTx (.slice r0_a_43 r0_n_43 r0_c_43) D_43, gr inTx D_43, ow 71 10 encTx okTx (.slice r0_a_27 r0_n_27 r0_c_27) D_27, gr inTx D_27, ow 71 10 encTx okTx (.slice r0_a_19 r0_n_19 r0_c_19) D_19, gr inTx D_19] _ := At.frame T36.at' [] rfl m43
   obtain ⟨lo43_0, lp43_0, lq43_0⟩ := At.ownInv S43.at' ET_39.hk 0 rfl
   clear m43
   refine l_op (f_call F44 CF_20 rfl rfl rfl rfl (lc (F44.ev 22 rfl) (lc (F44.ev 24 rfl) rfl)) (laws_eqTxS_c (H := fun _ => True) (a := D_27) (b := D_43) (At.rd S43.at' ET_39.hk 2 rfl) (At.nrd S43.at' 3 rfl) (At.rd S43.at' ET_39.hk 0 rfl) (At.nrd S43.at' 1 rfl) (by exact (same2 (by assumption) (by assumption)))) ?_)
   rintro _ w45 ⟨rfl, m45⟩
   refine ⟨_, rfl, fun _ F46 => ?_⟩
   have S45 := At.frame0 S43.at' m45
   clear m45
   refine l_op (f_val F46 rfl rfl (r_not rfl (F46.ev 25 rfl)) rfl fun _ F47 => ?_)
   have F48 : Fr 27 [(26, .bool false)] _ := F47.cut rfl
   clear F40 F41 F42 F44 F46 F47
   have T49 : Mv _ _ [ow 71 10 encTx okTx (.slice r0_a_43 r0_n_43 r0_c_43) D_43, gr inTx D_43, ow 71 10 encTx okTx (.slice r0_a_27 r0_n_27 r0_c_27) D_27, gr inTx D_27, ow 71 10 encTx okTx (.slice r0_a_19 r0_n_19 r0_c_19) D_19, gr inTx D_19] _ := S45
   refine s_end (x_normal (wp_cond_false (F48.ev 26 rfl) (wp_skip (x_normal (wp_seq (wp_region_lit (l_op (f_val F48 rfl rfl (r_assign rfl rfl) rfl fun _ F50 => ?_))))))))
   have F51 : Fr 27 [(2, .bool true)] _ := F50.cut rfl
   clear F48 F50
   refine s_end (x_normal (wp_ret ?_))
   refine x_done (v := .bool true) F51 (results_1 Try.results5 (.tmp (F51.ev 2 rfl))) ?_
   exact ⟨rfl, (Mv.pick (T11.trans (S19.trans (T25.trans (S27.trans (T36.trans (S43.trans T49)))))) [] rfl)⟩
end Go.Proofs.Ytgfilegkabbliaa
namespace Go.Proofs.Ytgfilegkabbliaa.heldback
open Go.ChangeShapes Go.WideShapes Go.ChangeAt Go.RowKit
set_option maxRecDepth 100000
theorem cells_3 : Try.prog.cellsOf 3 = 1 := by kernel_rfl
theorem cells_9 : Try.prog.cellsOf 9 = 1 := by kernel_rfl
theorem cells_53 : Try.prog.cellsOf 53 = 1 := by kernel_rfl
theorem cells_62 : Try.prog.cellsOf 62 = 1 := by kernel_rfl
theorem cells_89 : Try.prog.cellsOf 89 = 1 := by kernel_rfl
theorem cells_90 : Try.prog.cellsOf 90 = 1 := by kernel_rfl
theorem cells_91 : Try.prog.cellsOf 91 = 2 := by kernel_rfl
theorem cells_93 : Try.prog.cellsOf 93 = 10 := by kernel_rfl
theorem cells_173 : Try.prog.cellsOf 173 = 6 := by kernel_rfl
theorem cells_175 : Try.prog.cellsOf 175 = 3 := by kernel_rfl
theorem called (W : World) (args : Array Value) (h : ArgsRead Try.prog W Try.f5.params.toList args.toList) : Calls Try.prog 5 args W fun e W' => e = .returned (.bool true) ∧ Bl W W' := by
  obtain ⟨hl, h⟩ := h
  rw [Try.params5] at hl h
  obtain ⟨v0, rfl⟩ : ∃ v0, args = #[v0] := by
    obtain ⟨l⟩ := args
    match l, hl with
    | [v0], _ => exact ⟨v0, rfl⟩
  obtain ⟨r0, o0⟩ := h 0 _ v0 rfl rfl
  have q0 := reads_one Try.underlying36 trivial o0 r0
  have row_0 : ∀ row, row.length = 10 → Reads Try.prog W 93 row → ∃ x, row = encTx x ∧ okTx x ∧ ∀ I ∈ inTx x, I.ra (fun _ => True) W := by
    intro row hl hr_0
    match row, hl with
    | [q_0_0, q_0_1, q_0_2, q_0_3, q_0_4, q_0_5, q_0_6, q_0_7, q_0_8, q_0_9], _ =>
      obtain ⟨_, hf_0e⟩ := hr_0.struct Try.underlying93
      have f_0e_0 : Reads Try.prog W 3 [q_0_0] := by simpa [cells_3] using hf_0e 0 _ rfl
      obtain ⟨i_0e_0, e_0e_0, h_0e_0, g_0e_0⟩ := f_0e_0.i64 Try.underlying3
      cases e_0e_0
      have f_0e_1 : Reads Try.prog W 3 [q_0_1] := by simpa [cells_3] using hf_0e 1 _ rfl
      obtain ⟨i_0e_1, e_0e_1, h_0e_1, g_0e_1⟩ := f_0e_1.i64 Try.underlying3
      cases e_0e_1
      have f_0e_2 : Reads Try.prog W 3 [q_0_2] := by simpa [cells_3] using hf_0e 2 _ rfl
      obtain ⟨i_0e_2, e_0e_2, h_0e_2, g_0e_2⟩ := f_0e_2.i64 Try.underlying3
      cases e_0e_2
      have f_0e_3 : Reads Try.prog W 3 [q_0_3] := by simpa [cells_3] using hf_0e 3 _ rfl
      obtain ⟨i_0e_3, e_0e_3, h_0e_3, g_0e_3⟩ := f_0e_3.i64 Try.underlying3
      cases e_0e_3
      have f_0e_4 : Reads Try.prog W 89 [q_0_4] := by simpa [cells_89] using hf_0e 4 _ rfl
      obtain ⟨a_0e_4, n_0e_4, c_0e_4, l_0e_4, e_0e_4, v_0e_4⟩ := rdA_of Try.underlying89 cells_173 (by decide) (call_row Try.underlying173 rfl rfl rfl rfl rfl rfl rfl rfl rfl rfl rfl rfl cells_3 cells_9 cells_9 cells_3 cells_3 cells_9 Try.underlying3 Try.underlying9 Try.underlying9 Try.underlying3 Try.underlying3 Try.underlying9) f_0e_4
      cases e_0e_4
      have f_0e_5 : Reads Try.prog W 90 [q_0_5] := by simpa [cells_90] using hf_0e 5 _ rfl
      obtain ⟨a_0e_5, n_0e_5, c_0e_5, l_0e_5, e_0e_5, v_0e_5⟩ := rdA_of Try.underlying90 cells_175 (by decide) (ans_row Try.underlying175 rfl rfl rfl rfl rfl rfl cells_3 cells_3 cells_9 Try.underlying3 Try.underlying3 Try.underlying9) f_0e_5
      cases e_0e_5
      have f_0e_6 : Reads Try.prog W 91 [q_0_6, q_0_7] := by simpa [cells_91] using hf_0e 6 _ rfl
      obtain ⟨_, hf_0e_6⟩ := f_0e_6.struct Try.underlying91
      have f_0e_6_0 : Reads Try.prog W 62 [q_0_6] := by simpa [cells_62] using hf_0e_6 0 _ rfl
      obtain ⟨a_0e_6_0, n_0e_6_0, c_0e_6_0, l_0e_6_0, e_0e_6_0, v_0e_6_0⟩ := rdA_of Try.underlying62 cells_9 (by decide) (str_row Try.underlying9) f_0e_6_0
      cases e_0e_6_0
      have f_0e_6_1 : Reads Try.prog W 62 [q_0_7] := by simpa [cells_62] using hf_0e_6 1 _ rfl
      obtain ⟨a_0e_6_1, n_0e_6_1, c_0e_6_1, l_0e_6_1, e_0e_6_1, v_0e_6_1⟩ := rdA_of Try.underlying62 cells_9 (by decide) (str_row Try.underlying9) f_0e_6_1
      cases e_0e_6_1
      have f_0e_7 : Reads Try.prog W 53 [q_0_8] := by simpa [cells_53] using hf_0e 7 _ rfl
      obtain ⟨a_0e_7, n_0e_7, c_0e_7, l_0e_7, e_0e_7, v_0e_7⟩ := rdA_of Try.underlying53 cells_3 (by decide) (int_row Try.underlying3) f_0e_7
      cases e_0e_7
      have f_0e_8 : Reads Try.prog W 3 [q_0_9] := by simpa [cells_3] using hf_0e 8 _ rfl
      obtain ⟨i_0e_8, e_0e_8, h_0e_8, g_0e_8⟩ := f_0e_8.i64 Try.underlying3
      cases e_0e_8
      refine ⟨(⟨(⟨i_0e_0, i_0e_1, i_0e_2, i_0e_3, l_0e_4, l_0e_5, (⟨l_0e_6_0, l_0e_6_1⟩ : TouchD), l_0e_7, i_0e_8⟩ : TxD), a_0e_4, n_0e_4, c_0e_4, a_0e_5, n_0e_5, c_0e_5, a_0e_6_0, n_0e_6_0, c_0e_6_0, a_0e_6_1, n_0e_6_1, c_0e_6_1, a_0e_7, n_0e_7, c_0e_7⟩ : TxH), rfl, ⟨⟨h_0e_0, g_0e_0⟩, ⟨h_0e_1, g_0e_1⟩, ⟨h_0e_2, g_0e_2⟩, ⟨h_0e_3, g_0e_3⟩, ⟨h_0e_8, g_0e_8⟩⟩, fun I hI => ?_⟩
      simp only [inTx, List.mem_cons, List.not_mem_nil, or_false] at hI
      rcases hI with rfl | rfl | rfl | rfl | rfl
      · exact v_0e_4
      · exact v_0e_5
      · exact v_0e_6_0
      · exact v_0e_6_1
      · exact v_0e_7
  obtain ⟨a_0, n_0, c_0, l_0, e_0, v_0, u_0⟩ := rdN_of (inns := inTx) Try.underlying36 cells_93 (by decide) row_0 q0
  cases e_0
  exact (laws_FnExactHeldBack_c (w := W) (H := fun _ => True) (aList := l_0) v_0 u_0).mono fun e W' ⟨h1, h2⟩ => ⟨h1, h2.bl⟩
theorem own : ownKnob Try.prog.godebug = none := by kernel_rfl
theorem laidOut : laidOutB Try.prog = true := by kernel_rfl
theorem readable : ∀ t ∈ Try.f5.params.toList, Try.prog.readableRec t = true ∧ t < Try.prog.types.size := of_decide_eq_true (by kernel_rfl)
theorem lifted (os : Os) (started : os.Started) (H : Type) (enc : TypeId × Value → H) :
    ReturnsInHanded {} Try.checked os 5 .any (Rows.fnExactHeldBackSpec.pre6 enc Try.prog Try.f5 Rows.fnExactHeldBackRow.domain false) (Rows.fnExactHeldBackSpec.post enc Try.prog Try.f5 false true false false) := by
  refine returnsInHanded_of_change (C := Try.checked) own started (by kernel_rfl) Try.func5
    (ChangeSpec.witness6 (enc := enc) (C := Try.checked) false ⟨#[], #[.slice none 0 0], []⟩ 8 (by kernel_rfl) (by kernel_rfl) (by kernel_rfl) (by kernel_rfl)) ?_
  intro W base args ds gs before hval hW _ _
  refine law_contract laidOut readable Try.underlying4 rfl rfl ?_ called H enc false true false false W args ds gs before hval hW
  intro H ds hd
  match ds, hd with
  | [a], _ => rfl
theorem proved : Rows.FnExactHeldBackSaid :=
  OpenClaim.holds_of_wide 5 Try.f5 rfl rfl rfl rfl rfl rfl rfl ⟨rfl, rfl, rfl, rfl, rfl⟩ rfl rfl rfl rfl rfl (by kernel_rfl) Try.func5 (by kernel_rfl)
    (of_decide_eq_true (by kernel_rfl)) (by unfold Func.isWrapper; first | (rw [if_pos (by decide +kernel)]; kernel_rfl) | (rw [if_neg (by decide +kernel)]; exact ⟨rfl, rfl⟩))
    (fun os started H enc _ => lifted os started H enc)
end Go.Proofs.Ytgfilegkabbliaa.heldback
