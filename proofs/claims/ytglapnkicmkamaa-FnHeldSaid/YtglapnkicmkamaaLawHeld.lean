/-
  PROVED HERE: whatever the input, the statement laws.FnHeld returns true: with reserved space every live transaction can write its record, one after the other. No condition.
-/
import Derived.Test.YtglapnkicmkamaaGenHe
import Derived.Test.YtglapnkicmkamaaLaw2
namespace Go.Proofs.Ytglapnkicmkamaa
open Go.ChangeShapes Go.WideShapes Go.ChangeAt Go.RowKit
set_option maxRecDepth 100000
set_option maxHeartbeats 1000000
theorem laws_FnHeld_c {w : World} {H : Nat → Prop} {code : List Nat} {code_a : Option Addr} {code_n code_c : Nat} (v_code : RdA 1 encB okB H w (.slice code_a code_n code_c) code) :
    Calls Try.prog 3 #[.slice code_a code_n code_c] w fun e w' => e = .returned (.bool true) ∧ Mv [] w [] w' := by
 have V_v_code : RdA 1 encB okB (V H w []) w (.slice code_a code_n code_c) code := RdA.start v_code (fun _ _ => fps_nil _)
 obtain ⟨ln_code, le_code, mx_code, ni_code⟩ := RdA.inv v_code
 refine calls_enter 72 Try.func3 rfl Try.ntmps3 (Nat.le_of_ble_eq_true rfl) (fun _ F0i => ?_)
 have F0 : Fr 72 [(0, .slice code_a code_n code_c)] _ := F0i
 clear F0i
 refine wp_seq (wp_region_lit (l_op (f_val F0 rfl rfl (r_assign rfl rfl) rfl fun _ F1 => ?_)))
 have F2 : Fr 72 [(2, .bool false), (0, .slice code_a code_n code_c)] _ := F1.cut rfl
 clear F0 F1
 refine s_end (x_normal (wp_seq (wp_seq (wp_region_lit (l_op (f_mv F2 rfl rfl rfl rfl rfl fun _ F3 => ?_))))))
 refine l_op (f_call F3 CF_4 rfl rfl rfl rfl (lc (F3.ev 11 rfl) rfl) (laws_big_c (code := code) V_v_code) ?_)
 rintro _ w4 ⟨rfl, m4⟩
 refine ⟨_, rfl, fun _ F5 => ?_⟩
 have S4 := At.frame0 (At.nil w) m4
 clear m4
 have F6 : Fr 72 [(12, .bool (decide (code.length > 1048576))), (0, .slice code_a code_n code_c)] _ := F5.cut rfl
 clear F2 F3 F5
 have T7 : Mv _ _ [] _ := S4
 refine s_end (x_normal (x_cond (p := code.length > 1048576) (F6.ev 12 rfl) (fun h8 => ?_) (fun h8 => ?_)))
 · skip
   refine wp_seq (wp_region_lit (l_op (f_val F6 rfl rfl (r_assign rfl rfl) rfl fun _ F9 => ?_)))
   have F10 : Fr 72 [(2, .bool true)] _ := F9.cut rfl
   clear F6 F9
   refine s_end (x_normal (wp_ret (x_then_ret ?_)))
   refine x_done (v := .bool true) F10 (results_1 Try.results3 (.tmp (F10.ev 2 rfl))) ?_
   exact ⟨rfl, (Mv.pick T7 [] rfl)⟩
 · skip
   refine wp_skip (x_normal (wp_seq (wp_region_lit (l_op (f_mv F6 rfl rfl rfl rfl rfl fun _ F11 => ?_)))))
   refine l_op (f_call F11 CF_5 rfl rfl rfl rfl (lc (F11.ev 13 rfl) rfl) (spec_DrawPlaces_c (code := code) (RdA.mv (Nat.succ_pos _) V_v_code T7) (by first | assumption | omega | (simp <;> omega))) ?_)
   rintro _ w12 ⟨p_12, r0_a_12, r0_n_12, r0_c_12, rfl, m12, v12_0, q12_0, q12_1⟩
   refine ⟨_, rfl, fun _ F13 => ?_⟩
   have S12 := At.frame0 T7.at' m12
   have V12_0 := Rd.got0 T7.at' (T7.kp.size) v12_0 S12
   obtain ⟨ln12_0, le12_0, mx12_0, ni12_0⟩ := Rd.inv V12_0
   clear m12 v12_0
   refine l_op (f_as F13 rfl rfl rfl rfl rfl fun _ F14 => ?_)
   have F15 : Fr 72 [(3, .slice r0_a_12 r0_n_12 r0_c_12)] _ := F14.cut rfl
   clear F6 F11 F13 F14
   have T16 : Mv _ _ [] _ := S12
   refine s_end (x_normal (wp_seq (wp_region_lit (l_op (f_buildSl (ok := okT) (vs := []) F15 T16.at' (([] : List TxD)) ET_26 rfl rfl rfl rfl rfl rfl rfl rfl rfl (by simp) fun b17 _ w17 F18 S17 => ?_)))))
   refine l_op (f_as F18 rfl rfl rfl rfl rfl fun _ F19 => ?_)
   have F20 : Fr 72 [(4, .slice (some ⟨b17, 0, none⟩) 0 0), (3, .slice r0_a_12 r0_n_12 r0_c_12)] _ := F19.cut rfl
   clear F15 F18 F19
   have T21 : Mv _ _ [ow 33 10 encT okT (.slice (some ⟨b17, 0, none⟩) 0 0) ([] : List TxD)] _ := S17
   refine s_end (x_normal (wp_seq (wp_seq ?_)))
   obtain ⟨x1, hx1, okx1⟩ := Rd.elem (Rd.mv (Nat.succ_pos _) V12_0 T21) 0 (by omega)
   have pb22 := pOk_at (by assumption) hx1
   obtain ⟨rA, hrA, lrA⟩ := rem_nat (c := 3) pb22 (by decide)
   refine wp_region_lit (l_op (f_val F20 rfl rfl (r_assign rfl rfl) rfl fun _ F23 => ?_))
   have F24 : Fr 72 [(5, .int .i64 0), (4, .slice (some ⟨b17, 0, none⟩) 0 0), (3, .slice r0_a_12 r0_n_12 r0_c_12)] _ := F23.cut rfl
   clear F20 F23
   refine s_end (x_normal (wp_block ?_))
   refine x_loop (fun (k : Nat) aZ wZ => ∃ (Lx : List TxD), ∃ (oa : Option Addr), ∃ (on : Nat), ∃ (oc : Nat), Fr 72 [(5, .int .i64 ((k : Nat) : Int)), (4, .slice oa on oc), (3, .slice r0_a_12 r0_n_12 r0_c_12)] aZ ∧ Mv [ow 33 10 encT okT (.slice (some ⟨b17, 0, none⟩) 0 0) ([] : List TxD)] w17 [ow 33 10 encT okT (.slice oa on oc) Lx] wZ ∧ (allLive Lx) ∧ (Lx.length = k) ∧ (on = Lx.length) ∧ (k ≤ 1 + rA)) (fun (k : Nat) => 3 - k) (0) ?_ ?_
   · exact ⟨([] : List TxD), (some ⟨b17, 0, none⟩), 0, 0, F24.cut rfl, (Mv.refl T21.at'), allLive_nil, rfl, rfl, by omega⟩
   · rintro k a25 w25 ⟨Lx, oa, on, oc, F25, S25, hk_0, hk_1, hk_2, hk_3⟩
     refine wp_seq (wp_seq (wp_region_lit (l_op (f_mv F25 rfl rfl rfl rfl rfl fun _ F26 => ?_))))
     refine l_op (f_mv F26 rfl rfl rfl rfl rfl fun _ F27 => ?_)
     obtain ⟨B28, O28, y28, ad28, hy28, oky28, ln28, cl28⟩ := Rd.at (Rd.mv (Nat.succ_pos _) V12_0 (T21.trans S25)) 0 (by first | assumption | omega)
     clear ln28
     obtain rfl := Option.some.inj (hx1.symm.trans hy28)
     clear hy28 oky28
     refine l_op (f_val F27 rfl rfl (r_indexAddr (i := 0) ET_24 rfl ((F27.ev 17 rfl).trans (by rw [ad28])) rfl (by omega) (by first | assumption | omega)) rfl fun _ F29 => ?_)
     refine l_op (f_val (v := .int .i64 x1) F29 rfl rfl (r_load (cs := [.int .i64 x1]) TI_3 rfl (F29.ev 18 rfl) rfl (fun _ => rfl) (elem_sub (f := 0) cl28 [.int .i64 x1] rfl)) rfl fun _ F30 => ?_)
     refine l_op (f_val F30 rfl rfl ((r_remI (c := 3) rfl (by decide) rfl (F30.ev 19 rfl) rfl).trans (by rw [hrA])) rfl fun _ F31 => ?_)
     refine l_op (f_val F31 rfl rfl (r_add (z := ((1 + rA : Nat) : Int)) rfl rfl (F31.ev 20 rfl) (by first | rfl | omega) ⟨by first | omega | (unfold i64ok at *; omega), by first | omega | (unfold i64ok at *; omega)⟩) rfl fun _ F32 => ?_)
     refine l_op (f_val F32 rfl rfl (r_cmp (b := decide (k < 1 + rA)) (.inr (.inr (.inl rfl))) rfl (F32.ev 16 rfl) (F32.ev 21 rfl) (dec_of (by omega))) rfl fun _ F33 => ?_)
     have F34 : Fr 72 [(22, .bool (decide (k < 1 + rA))), (5, .int .i64 ((k : Nat) : Int)), (4, .slice oa on oc), (3, .slice r0_a_12 r0_n_12 r0_c_12)] _ := F33.cut rfl
     clear F25 F26 F27 F29 F30 F31 F32 F33
     refine s_end (x_normal (x_cond (p := k < 1 + rA) (F34.ev 22 rfl) (fun h35 => ?_) (fun h35 => ?_)))
     · skip
       refine wp_skip (x_normal (wp_seq (wp_block (wp_region_lit (l_op (f_mv F34 rfl rfl rfl rfl rfl fun _ F36 => ?_))))))
       refine l_op (f_mv F36 rfl rfl rfl rfl rfl fun _ F37 => ?_)
       refine l_op (f_val F37 rfl rfl (r_add (z := ((k + 1 : Nat) : Int)) rfl (F37.ev 26 rfl) rfl (by first | rfl | omega) ⟨by first | omega | (unfold i64ok at *; omega), by first | omega | (unfold i64ok at *; omega)⟩) rfl fun _ F38 => ?_)
       refine l_op (f_val (v := .agg #[.int .i64 ((k + 1 : Nat) : Int), .int .i64 0, .int .i64 0, .int .i64 0, .slice none 0 0, .slice none 0 0, .slice none 0 0, .slice none 0 0, .slice none 0 0, .int .i64 1]) F38 rfl rfl (r_build BI_33 rfl (lc (pr2 (F38.ev 27 rfl)) (lc (pr2 rfl) rfl)) rfl) rfl fun _ F39 => ?_)
       refine l_op (f_buildSl (ok := okT) (vs := [.agg #[.int .i64 ((k + 1 : Nat) : Int), .int .i64 0, .int .i64 0, .int .i64 0, .slice none 0 0, .slice none 0 0, .slice none 0 0, .slice none 0 0, .slice none 0 0, .int .i64 1]]) F39 S25.at' ([(⟨((k + 1 : Nat) : Int), 0, 0, 0, [], [], (⟨[], []⟩ : TouchD), [], 1⟩ : TxD)]) ET_26 rfl rfl rfl rfl rfl rfl (lc (pr2 (F39.ev 28 rfl)) rfl) rfl rfl (fun x hx => (List.mem_singleton.1 hx) ▸ ⟨(show i64ok ((k + 1 : Nat) : Int) from by first | assumption | exact ⟨by omega, by omega⟩), (show i64ok 0 from by first | assumption | exact ⟨by omega, by omega⟩), (show i64ok 0 from by first | assumption | exact ⟨by omega, by omega⟩), (show i64ok 0 from by first | assumption | exact ⟨by omega, by omega⟩), (show i64ok 1 from by first | assumption | exact ⟨by omega, by omega⟩)⟩) fun b40 _ w40 F41 S40 => ?_)
       refine l_op (f_app (news := [(⟨((k + 1 : Nat) : Int), 0, 0, 0, [], [], (⟨[], []⟩ : TouchD), [], 1⟩ : TxD)]) F41 S40.at' 1 ET_26 rfl rfl rfl rfl rfl rfl (F41.ev 25 rfl) (F41.ev 29 rfl) ((At.rd S40.at' ET_26.hk 0 rfl)).1 (by ((repeat (first | rw [List.length_append] | rw [List.length_cons] | rw [List.length_nil] | rw [List.length_take] | rw [List.length_drop])) <;> omega)) fun A42 N42 C42 _ w42 F43 S42 l42 => ?_)
       have S44 := At.drop S42.at' 1
       refine l_op (f_as F43 rfl rfl rfl rfl rfl fun _ F45 => ?_)
       have F46 : Fr 72 [(4, .slice A42 N42 C42), (5, .int .i64 ((k : Nat) : Int)), (3, .slice r0_a_12 r0_n_12 r0_c_12)] _ := F45.cut rfl
       clear F34 F36 F37 F38 F39 F41 F43 F45
       have T47 : Mv _ _ [ow 33 10 encT okT (.slice A42 N42 C42) (Lx ++ ([(⟨((k + 1 : Nat) : Int), 0, 0, 0, [], [], (⟨[], []⟩ : TouchD), [], 1⟩ : TxD)]))] _ := S44
       refine s_end (x_block_normal (x_normal (wp_region_lit (l_op (f_mv F46 rfl rfl rfl rfl rfl fun _ F48 => ?_)))))
       refine l_op (f_val F48 rfl rfl (r_add (z := ((k + 1 : Nat) : Int)) rfl (F48.ev 23 rfl) rfl (by first | rfl | omega) ⟨by first | omega | (unfold i64ok at *; omega), by first | omega | (unfold i64ok at *; omega)⟩) rfl fun _ F49 => ?_)
       refine l_op (f_as F49 rfl rfl rfl rfl rfl fun _ F50 => ?_)
       have F51 : Fr 72 [(5, .int .i64 ((k + 1 : Nat) : Int)), (4, .slice A42 N42 C42), (3, .slice r0_a_12 r0_n_12 r0_c_12)] _ := F50.cut rfl
       clear F46 F48 F49 F50
       refine s_end ?_
       refine x_normal ⟨k + 1, by omega, Lx ++ ([(⟨((k + 1 : Nat) : Int), 0, 0, 0, [], [], (⟨[], []⟩ : TouchD), [], 1⟩ : TxD)]), A42, N42, C42, F51.cut rfl, ((S25.trans (S40.trans (S42.trans T47))).pick [0] rfl), allLive_snoc hk_0 rfl, by rw [List.length_append, List.length_singleton]; omega, by assumption, by omega⟩
     · skip
       refine wp_exit (x_then_exit (x_then_exit (x_block_here (x_normal (wp_seq (wp_region_lit (l_op (f_mv F34 rfl rfl rfl rfl rfl fun _ F52 => ?_))))))))
       obtain ⟨B53, O53, x2, ad53, hx2, okx2, ln53, cl53⟩ := Rd.at (Rd.mv (Nat.succ_pos _) V12_0 (T21.trans S25)) 1 (by first | assumption | omega)
       clear ln53
       refine l_op (f_val F52 rfl rfl (r_indexAddr (i := 1) ET_24 rfl ((F52.ev 31 rfl).trans (by rw [ad53])) rfl (by omega) (by first | assumption | omega)) rfl fun _ F54 => ?_)
       refine l_op (f_val (v := .int .i64 x2) F54 rfl rfl (r_load (cs := [.int .i64 x2]) TI_3 rfl (F54.ev 32 rfl) rfl (fun _ => rfl) (elem_sub (f := 0) cl53 [.int .i64 x2] rfl)) rfl fun _ F55 => ?_)
       have pb56 := pOk_at (by assumption) hx2
       obtain ⟨r56, hr56, lr56⟩ := rem_nat (c := 4001) pb56 (by decide)
       refine l_op (f_val F55 rfl rfl ((r_remI (c := 4001) rfl (by decide) rfl (F55.ev 33 rfl) rfl).trans (by rw [hr56])) rfl fun _ F57 => ?_)
       refine l_op (f_as F57 rfl rfl rfl rfl rfl fun _ F58 => ?_)
       have F59 : Fr 72 [(6, .int .i64 ((r56 : Nat) : Int)), (4, .slice oa on oc)] _ := F58.cut rfl
       clear F34 F52 F54 F55 F57 F58
       refine s_end (x_normal (wp_seq (wp_region_lit (l_op (f_val F59 rfl rfl (r_assign rfl rfl) rfl fun _ F60 => ?_)))))
       have F61 : Fr 72 [(7, .string (⟨#[]⟩ : ByteArray)), (6, .int .i64 ((r56 : Nat) : Int)), (4, .slice oa on oc)] _ := F60.cut rfl
       clear F59 F60
       refine s_end (x_normal (wp_seq (wp_block ?_)))
       refine x_loop (fun (q : Nat) aZ wZ => ∃ (tx : ByteArray), Fr 72 [(7, .string tx), (6, .int .i64 ((r56 : Nat) : Int)), (4, .slice oa on oc)] aZ ∧ Mv [ow 33 10 encT okT (.slice oa on oc) Lx] w25 [ow 33 10 encT okT (.slice oa on oc) Lx] wZ ∧ okS tx ∧ (tx.size = 40 * q) ∧ (q ≤ 200)) (fun (q : Nat) => 200 - q) (0) ?_ ?_
       · exact ⟨(⟨#[]⟩ : ByteArray), F61.cut rfl, (Mv.refl S25.at'), (by unfold okS; decide), rfl, by omega⟩
       · rintro q a62 w62 ⟨tx, F62, S62, kk62_0, hq_0, hq_1⟩
         refine wp_seq (wp_seq (wp_region_lit (l_op (f_mv F62 rfl rfl rfl rfl rfl fun _ F63 => ?_))))
         refine l_op (f_val F63 rfl rfl (r_lenS (fun t ht => by cases ht; exact Try.underlying9) rfl rfl (F63.ev 35 rfl)) rfl fun _ F64 => ?_)
         refine l_op (f_val F64 rfl rfl (r_cmp (b := decide (tx.size < 8000)) (.inr (.inr (.inl rfl))) rfl (F64.ev 36 rfl) rfl (dec_of (by omega))) rfl fun _ F65 => ?_)
         have F66 : Fr 72 [(37, .bool (decide (tx.size < 8000))), (7, .string tx), (6, .int .i64 ((r56 : Nat) : Int)), (4, .slice oa on oc)] _ := F65.cut rfl
         clear F62 F63 F64 F65
         refine s_end (x_normal (x_cond (p := tx.size < 8000) (F66.ev 37 rfl) (fun h67 => ?_) (fun h67 => ?_)))
         · skip
           refine wp_skip (x_normal (wp_block (wp_region_lit (l_op (f_mv F66 rfl rfl rfl rfl rfl fun _ F68 => ?_)))))
           have k69 : tx.size + (⟨#[48, 49, 50, 51, 52, 53, 54, 55, 56, 57, 48, 49, 50, 51, 52, 53, 54, 55, 56, 57, 48, 49, 50, 51, 52, 53, 54, 55, 56, 57, 48, 49, 50, 51, 52, 53, 54, 55, 56, 57]⟩ : ByteArray).size ≤ 9223372036854775807 := by show tx.size + 40 ≤ _; omega
           refine l_op (f_val F68 rfl rfl (r_cat rfl (F68.ev 38 rfl) rfl k69) rfl fun _ F70 => ?_)
           refine l_op (f_as F70 rfl rfl rfl rfl rfl fun _ F71 => ?_)
           have F72 : Fr 72 [(7, .string (tx ++ (⟨#[48, 49, 50, 51, 52, 53, 54, 55, 56, 57, 48, 49, 50, 51, 52, 53, 54, 55, 56, 57, 48, 49, 50, 51, 52, 53, 54, 55, 56, 57, 48, 49, 50, 51, 52, 53, 54, 55, 56, 57]⟩ : ByteArray))), (6, .int .i64 ((r56 : Nat) : Int)), (4, .slice oa on oc)] _ := F71.cut rfl
           clear F66 F68 F70 F71
           refine s_end (x_block_normal ?_)
           refine x_normal ⟨q + 1, by omega, (tx ++ (⟨#[48, 49, 50, 51, 52, 53, 54, 55, 56, 57, 48, 49, 50, 51, 52, 53, 54, 55, 56, 57, 48, 49, 50, 51, 52, 53, 54, 55, 56, 57, 48, 49, 50, 51, 52, 53, 54, 55, 56, 57]⟩ : ByteArray)), F72.cut rfl, (S62.pick [0] rfl), (okS_cat k69), by rw [ByteArray.size_append]; show tx.size + 40 = _; omega, by omega⟩
         · skip
           refine wp_exit (x_then_exit (x_then_exit (x_block_here (x_normal (wp_seq (wp_region_lit (l_op (f_mv F66 rfl rfl rfl rfl rfl fun _ F73 => ?_))))))))
           refine l_op (f_val (v := .agg #[.string tx, .int .i64 0]) F73 rfl rfl (r_build BI_35 rfl (lc (pr2 (F73.ev 40 rfl)) rfl) rfl) rfl fun _ F74 => ?_)
           refine l_op (f_alloc F74 S62.at' ZI_35 rfl rfl rfl rfl rfl fun b75 _ w75 F76 S75 => ?_)
           refine l_op (s_store S75.at' 0 TI_35 rfl rfl rfl rfl rfl (F76.ev 8 rfl) (F76.ev 41 rfl) rfl rfl rfl rfl rfl fun w77 S77 => ?_)
           have F78 : Fr 72 [(8, .pointer (some ⟨b75, 0, none⟩)), (41, .agg #[.string tx, .int .i64 0]), (7, .string tx), (6, .int .i64 ((r56 : Nat) : Int)), (4, .slice oa on oc)] _ := F76.cut rfl
           clear F66 F73 F74 F76
           have T79 : Mv _ _ [bx b75 [.string tx, .int .i64 0] 35, ow 33 10 encT okT (.slice oa on oc) Lx] _ := S77
           refine s_end (x_normal (wp_seq (wp_seq (wp_region_lit (l_op (f_val (v := .agg #[.string tx, .int .i64 0]) F78 rfl rfl (r_loadB T79.at' 0 TI_35 rfl rfl (F78.ev 8 rfl) rfl rfl (fun h => nomatch h) rfl) rfl fun _ F80 => ?_))))))
           refine l_op (f_mv F80 rfl rfl rfl rfl rfl fun _ F81 => ?_)
           refine l_op (f_mv F81 rfl rfl rfl rfl rfl fun _ F82 => ?_)
           refine l_op (f_call F82 CF_6 rfl rfl rfl rfl (lc (F82.ev 42 rfl) (lc (F82.ev 43 rfl) (lc (F82.ev 44 rfl) rfl))) (impl_MayLay_c (H := fun _ => True) (j := (⟨tx, 0⟩ : JouD)) (list := Lx) (n := ((r56 : Nat) : Int)) kk62_0 (by first | assumption | exact ⟨by omega, by omega⟩ | (unfold i64ok at *; omega) | (simp only [i64ok]; omega)) (At.rd T79.at' ET_26.hk 1 rfl) (by first | assumption | exact ⟨by omega, by omega⟩ | (unfold i64ok at *; omega)) (by first | assumption | omega | (simp <;> omega))) ?_)
           rintro _ w83 ⟨rfl, m83⟩
           refine ⟨_, rfl, fun _ F84 => ?_⟩
           have S83 := At.frame0 T79.at' m83
           clear m83
           refine l_op (f_val F84 rfl rfl (r_not rfl (F84.ev 45 rfl)) rfl fun _ F85 => ?_)
           have F86 : Fr 72 [(46, .bool (!(mayL (⟨tx, 0⟩ : JouD) Lx ((r56 : Nat) : Int)))), (8, .pointer (some ⟨b75, 0, none⟩)), (7, .string tx), (6, .int .i64 ((r56 : Nat) : Int)), (4, .slice oa on oc)] _ := F85.cut rfl
           clear F78 F80 F81 F82 F84 F85
           have T87 : Mv _ _ [bx b75 [.string tx, .int .i64 0] 35, ow 33 10 encT okT (.slice oa on oc) Lx] _ := S83
           refine s_end (x_normal (x_condb (b := (!(mayL (⟨tx, 0⟩ : JouD) Lx ((r56 : Nat) : Int)))) (F86.ev 46 rfl) (fun h88 => ?_) (fun h88 => ?_)))
           · skip
             refine wp_seq (wp_region_lit (l_op (f_mv F86 rfl rfl rfl rfl rfl fun _ F89 => ?_)))
             refine l_op (f_mv F89 rfl rfl rfl rfl rfl fun _ F90 => ?_)
             refine l_op (f_val F90 rfl rfl (r_len Try.underlying26 rfl (F90.ev 48 rfl)) rfl fun _ F91 => ?_)
             refine l_op (f_val F91 rfl rfl (r_mul (z := ((4000 * on : Nat) : Int)) rfl rfl (F91.ev 49 rfl) (by first | rfl | omega) ⟨by first | omega | (unfold i64ok at *; omega), by first | omega | (unfold i64ok at *; omega)⟩) rfl fun _ F92 => ?_)
             refine l_op (f_val F92 rfl rfl (r_add (z := ((r56 + (4000 * on) : Nat) : Int)) rfl (F92.ev 47 rfl) (F92.ev 50 rfl) (by first | rfl | omega) ⟨by first | omega | (unfold i64ok at *; omega), by first | omega | (unfold i64ok at *; omega)⟩) rfl fun _ F93 => ?_)
             refine l_op (f_val F93 rfl rfl (r_add (z := (((r56 + (4000 * on)) + 8000 : Nat) : Int)) rfl (F93.ev 51 rfl) rfl (by first | rfl | omega) ⟨by first | omega | (unfold i64ok at *; omega), by first | omega | (unfold i64ok at *; omega)⟩) rfl fun _ F94 => ?_)
             refine l_op (f_val F94 rfl rfl (r_cmp (b := decide ((r56 + (4000 * on)) + 8000 > 20000)) (.inr (.inr (.inr (.inr (.inl rfl))))) rfl (F94.ev 52 rfl) rfl (dec_of (by omega))) rfl fun _ F95 => ?_)
             rw [show (decide ((r56 + (4000 * on)) + 8000 > 20000)) = true from decide_eq_true (held_no (by assumption) (by omega) hk_0 (by omega) hk_2)] at F95
             refine l_op (f_as F95 rfl rfl rfl rfl rfl fun _ F96 => ?_)
             have F97 : Fr 72 [(2, .bool true)] _ := F96.cut rfl
             clear F86 F89 F90 F91 F92 F93 F94 F95 F96
             refine s_end (x_normal (wp_ret (x_then_ret ?_)))
             refine x_done (v := .bool true) F97 (results_1 Try.results3 (.tmp (F97.ev 2 rfl))) ?_
             exact ⟨rfl, (Mv.pick (T7.trans (T16.trans (T21.trans (S25.trans (S62.trans (S75.trans (T79.trans T87))))))) [] rfl)⟩
           · skip
             refine wp_skip (x_normal (wp_seq (wp_seq ?_)))
             have hfit := held_yes (by assumption) (show tx.size = 8000 by omega) hk_0 (by omega)
             refine wp_region_lit (l_op (f_val F86 rfl rfl (r_assign rfl rfl) rfl fun _ F98 => ?_))
             have F99 : Fr 72 [(9, .int .i64 0), (8, .pointer (some ⟨b75, 0, none⟩)), (7, .string tx), (6, .int .i64 ((r56 : Nat) : Int)), (4, .slice oa on oc)] _ := F98.cut rfl
             clear F86 F98
             refine s_end (x_normal (wp_block ?_))
             refine x_loop (fun (i : Nat) aZ wZ => ∃ (jt : ByteArray), ∃ (js : Int), Fr 72 [(9, .int .i64 ((i : Nat) : Int)), (8, .pointer (some ⟨b75, 0, none⟩)), (7, .string tx), (6, .int .i64 ((r56 : Nat) : Int)), (4, .slice oa on oc)] aZ ∧ Mv [bx b75 [.string tx, .int .i64 0] 35, ow 33 10 encT okT (.slice oa on oc) Lx] w83 [bx b75 [.string jt, .int .i64 js] 35, ow 33 10 encT okT (.slice oa on oc) Lx] wZ ∧ okS jt ∧ (jst i (⟨jt, js⟩ : JouD)) ∧ (i ≤ on)) (fun (i : Nat) => on - i) (0) ?_ ?_
             · exact ⟨tx, 0, F99.cut rfl, (Mv.refl T87.at'), kk62_0, ⟨rfl, by show tx.size = _; omega⟩, by omega⟩
             · rintro i a100 w100 ⟨jt, js, F100, S100, kk100_0, hi_0, hi_1⟩
               have hjs : i64ok js := by rw [show js = 0 from hi_0.1]; exact ⟨by omega, by omega⟩
               refine wp_seq (wp_seq (wp_region_lit (l_op (f_mv F100 rfl rfl rfl rfl rfl fun _ F101 => ?_))))
               refine l_op (f_mv F101 rfl rfl rfl rfl rfl fun _ F102 => ?_)
               refine l_op (f_val F102 rfl rfl (r_len Try.underlying26 rfl (F102.ev 55 rfl)) rfl fun _ F103 => ?_)
               refine l_op (f_val F103 rfl rfl (r_cmp (b := decide (i < on)) (.inr (.inr (.inl rfl))) rfl (F103.ev 54 rfl) (F103.ev 56 rfl) (dec_of (by omega))) rfl fun _ F104 => ?_)
               have F105 : Fr 72 [(57, .bool (decide (i < on))), (9, .int .i64 ((i : Nat) : Int)), (8, .pointer (some ⟨b75, 0, none⟩)), (7, .string tx), (6, .int .i64 ((r56 : Nat) : Int)), (4, .slice oa on oc)] _ := F104.cut rfl
               clear F100 F101 F102 F103 F104
               refine s_end (x_normal (x_cond (p := i < on) (F105.ev 57 rfl) (fun h106 => ?_) (fun h106 => ?_)))
               · skip
                 refine wp_skip (x_normal (wp_seq (wp_block (wp_seq (wp_region_lit (l_op (f_val F105 rfl rfl (r_assign rfl rfl) rfl fun _ F107 => ?_)))))))
                 have F108 : Fr 72 [(10, .bool false), (9, .int .i64 ((i : Nat) : Int)), (8, .pointer (some ⟨b75, 0, none⟩)), (7, .string tx), (6, .int .i64 ((r56 : Nat) : Int)), (4, .slice oa on oc)] _ := F107.cut rfl
                 clear F105 F107
                 refine s_end (x_normal (wp_seq ?_))
                 refine x_draw (fun aZ wZ => Fr 72 [(4, .slice oa on oc), (6, .int .i64 ((r56 : Nat) : Int)), (7, .string tx), (8, .pointer (some ⟨b75, 0, none⟩)), (9, .int .i64 ((i : Nat) : Int)), (10, .bool (addB (⟨jt, js⟩ : JouD) (tx.extract 0 4000)))] aZ ∧ Mv [bx b75 [.string jt, .int .i64 js] 35, ow 33 10 encT okT (.slice oa on oc) Lx] w100 [bx b75 [.string (addJ (⟨jt, js⟩ : JouD) (tx.extract 0 4000)).text, .int .i64 (addJ (⟨jt, js⟩ : JouD) (tx.extract 0 4000)).sure] 35, ow 33 10 encT okT (.slice oa on oc) Lx] wZ ∧ okS (addJ (⟨jt, js⟩ : JouD) (tx.extract 0 4000)).text) [] mixed S100.at' (listed := #[false, false, false, false, false, false, false, false, false]) rfl (fun w110 S110 => ?_) [] rfl ?_
                 · skip
                   refine g_take F108 rfl (i := 1) (listed' := #[false, true, false, false, false, false, false, false, false]) rfl (by kernel_rfl) (by kernel_rfl) (by kernel_rfl) (fun _ _ _ h => h) (Sd.of (Mv.refl S110.at') [] rfl) rfl rfl rfl rfl (fun _ hz => (r_move rfl (F108.ev 7 rfl))) fun _ F111 => ?_
                   refine g_take F111 rfl (i := 2) (listed' := #[false, true, true, false, false, false, false, false, false]) rfl (by kernel_rfl) (by kernel_rfl) (by kernel_rfl) (fun _ _ _ h => h) (Sd.of (Mv.refl S110.at') [] rfl) rfl rfl rfl rfl (fun _ hz => (r_sliceS (l := 0) (h := 4000) Try.underlying9 rfl (F111.ev 62 rfl) rfl rfl (by first | assumption | omega) (by first | assumption | omega) rfl)) fun _ F112 => ?_
                   refine d_one (i := 0) (listed' := #[true, true, true, false, false, false, false, false, false]) rfl (by kernel_rfl) rfl rfl ?_
                   refine f_val (v := .agg #[.string jt, .int .i64 js]) F112 rfl rfl (r_loadB S110.at' 0 TI_35 rfl rfl (F112.ev 8 rfl) rfl rfl (fun h => nomatch h) rfl) rfl fun _ F113 => ?_
                   refine ⟨Sd.of (Mv.refl S110.at') [] rfl, ?_⟩
                   refine d_one (i := 3) (listed' := #[true, true, true, true, false, false, false, false, false]) rfl (by kernel_rfl) rfl rfl ?_
                   refine f_call F113 CF_7 rfl rfl rfl rfl (lc (F113.ev 61 rfl) (lc (F113.ev 63 rfl) rfl)) (impl_AddText_c (H := fun _ => True) (j := (⟨jt, js⟩ : JouD)) (text := tx.extract 0 4000) kk100_0 (by first | assumption | exact ⟨by omega, by omega⟩ | (unfold i64ok at *; omega) | (simp only [i64ok]; omega)) (okS_ext kk62_0) (by rw [ByteArray.size_extract]; omega) (by have := hi_0.2; simp only at this ⊢; omega)) ?_
                   rintro _ w114 ⟨rfl, m114, ok_r0_text_114, q114_0⟩
                   refine ⟨_, rfl, fun _ F115 => ?_⟩
                   have S114 := At.frame0 S110.at' m114
                   clear m114
                   refine ⟨Sd.of S114 [] rfl, ?_⟩
                   refine g_take F115 rfl (i := 4) (listed' := #[true, true, true, true, true, false, false, false, false]) rfl (by kernel_rfl) (by kernel_rfl) (by kernel_rfl) (fun _ _ _ h => h) (Sd.of S114 [] rfl) rfl rfl rfl rfl (fun _ hz => (r_move rfl (F115.ev 64 rfl))) fun _ F116 => ?_
                   refine g_take (v := .agg #[.string (addJ (⟨jt, js⟩ : JouD) (tx.extract 0 4000)).text, .int .i64 (addJ (⟨jt, js⟩ : JouD) (tx.extract 0 4000)).sure]) F116 rfl (i := 5) (listed' := #[true, true, true, true, true, true, false, false, false]) rfl (by kernel_rfl) (by kernel_rfl) (by kernel_rfl) (fun _ _ _ h => h) (Sd.of S114 [] rfl) rfl rfl rfl rfl (fun _ hz => (r_extract rfl (F116.ev 60 rfl) rfl)) fun _ F117 => ?_
                   refine g_take (v := .bool (addB (⟨jt, js⟩ : JouD) (tx.extract 0 4000))) F117 rfl (i := 6) (listed' := #[true, true, true, true, true, true, true, false, false]) rfl (by kernel_rfl) (by kernel_rfl) (by kernel_rfl) (fun _ _ _ h => h) (Sd.of S114 [] rfl) rfl rfl rfl rfl (fun _ hz => (r_extract rfl (F117.ev 60 rfl) rfl)) fun _ F118 => ?_
                   refine d_one (i := 7) (listed' := #[true, true, true, true, true, true, true, true, false]) rfl (by kernel_rfl) rfl rfl ?_
                   refine s_store S114.at' 0 TI_35 rfl rfl rfl rfl rfl (F118.ev 8 rfl) (F118.ev 65 rfl) rfl rfl rfl rfl rfl fun w119 S119 => ?_
                   refine ⟨Sd.of (S114.trans S119) [] rfl, ?_⟩
                   refine g_take F118 rfl (i := 8) (listed' := #[true, true, true, true, true, true, true, true, true]) rfl (by kernel_rfl) (by kernel_rfl) (by kernel_rfl) (fun _ _ _ h => h) (Sd.of (S114.trans S119) [] rfl) rfl rfl rfl rfl (fun _ hz => (r_assign rfl (F118.ev 66 rfl))) fun _ F120 => ?_
                   refine wpAnyH_done (by kernel_rfl) (x_normal ?_) _
                   exact ⟨F120.cut rfl, ((S110.trans (S114.trans S119)).pick [0, 1] rfl), ok_r0_text_114⟩
                 · rintro a121 w121 ⟨F121, S121, ko121_0⟩
                   refine x_normal (wp_seq (wp_region_lit (l_op (f_mv F121 rfl rfl rfl rfl rfl fun _ F122 => ?_))))
                   refine l_op (f_val F122 rfl rfl (r_not rfl (F122.ev 67 rfl)) rfl fun _ F123 => ?_)
                   rw [show (!(addB (⟨jt, js⟩ : JouD) (tx.extract 0 4000))) = false from by rw [(jst.add hi_0 (by omega) (ext_4000 (show tx.size = 8000 by omega))).1]; rfl] at F123
                   have F124 : Fr 72 [(68, .bool false), (4, .slice oa on oc), (6, .int .i64 ((r56 : Nat) : Int)), (7, .string tx), (8, .pointer (some ⟨b75, 0, none⟩)), (9, .int .i64 ((i : Nat) : Int))] _ := F123.cut rfl
                   clear F121 F122 F123
                   refine s_end (x_normal (wp_cond_false (F124.ev 68 rfl) (wp_skip (x_block_normal (x_normal (wp_region_lit (l_op (f_mv F124 rfl rfl rfl rfl rfl fun _ F125 => ?_))))))))
                   refine l_op (f_val F125 rfl rfl (r_add (z := ((i + 1 : Nat) : Int)) rfl (F125.ev 58 rfl) rfl (by first | rfl | omega) ⟨by first | omega | (unfold i64ok at *; omega), by first | omega | (unfold i64ok at *; omega)⟩) rfl fun _ F126 => ?_)
                   refine l_op (f_as F126 rfl rfl rfl rfl rfl fun _ F127 => ?_)
                   have F128 : Fr 72 [(9, .int .i64 ((i + 1 : Nat) : Int)), (4, .slice oa on oc), (6, .int .i64 ((r56 : Nat) : Int)), (7, .string tx), (8, .pointer (some ⟨b75, 0, none⟩))] _ := F127.cut rfl
                   clear F124 F125 F126 F127
                   refine s_end ?_
                   refine x_normal ⟨i + 1, by omega, (addJ (⟨jt, js⟩ : JouD) (tx.extract 0 4000)).text, (addJ (⟨jt, js⟩ : JouD) (tx.extract 0 4000)).sure, F128.cut rfl, ((S100.trans S121).pick [0, 1] rfl), ko121_0, (jst.add hi_0 (by omega) (ext_4000 (show tx.size = 8000 by omega))).2, by omega⟩
               · skip
                 refine wp_exit (x_then_exit (x_then_exit (x_block_here (x_normal (wp_seq (wp_region_lit (l_op (f_val (v := .agg #[.string jt, .int .i64 js]) F105 rfl rfl (r_loadB S100.at' 0 TI_35 rfl rfl (F105.ev 8 rfl) rfl rfl (fun h => nomatch h) rfl) rfl fun _ F129 => ?_))))))))
                 refine l_op (f_mv F129 rfl rfl rfl rfl rfl fun _ F130 => ?_)
                 refine l_op (f_call F130 CF_8 rfl rfl rfl rfl (lc (F130.ev 69 rfl) (lc (F130.ev 70 rfl) rfl)) (impl_FitsIn_c (H := fun _ => True) (j := (⟨jt, js⟩ : JouD)) (n := ((r56 : Nat) : Int)) kk100_0 (by first | assumption | exact ⟨by omega, by omega⟩ | (unfold i64ok at *; omega) | (simp only [i64ok]; omega)) (by first | assumption | exact ⟨by omega, by omega⟩ | (unfold i64ok at *; omega))) ?_)
                 rintro _ w131 ⟨rfl, m131⟩
                 refine ⟨_, rfl, fun _ F132 => ?_⟩
                 have S131 := At.frame0 S100.at' m131
                 clear m131
                 refine l_op (f_as F132 rfl rfl rfl rfl rfl fun _ F133 => ?_)
                 have F134 : Fr 72 [(2, .bool (fitsR (⟨jt, js⟩ : JouD) ((r56 : Nat) : Int)))] _ := F133.cut rfl
                 clear F105 F129 F130 F132 F133
                 have T135 : Mv _ _ [bx b75 [.string jt, .int .i64 js] 35, ow 33 10 encT okT (.slice oa on oc) Lx] _ := S131
                 refine s_end (x_normal (wp_ret ?_))
                 refine x_done (v := .bool (fitsR (⟨jt, js⟩ : JouD) ((r56 : Nat) : Int))) F134 (results_1 Try.results3 (.tmp (F134.ev 2 rfl))) ?_
                 exact ⟨(by rw [(show (fitsR (⟨jt, js⟩ : JouD) ((r56 : Nat) : Int)) = true from by first | rfl | exact jst.fits hi_0 (by omega))]), (Mv.pick (T7.trans (T16.trans (T21.trans (S25.trans (S62.trans (S75.trans (T79.trans (T87.trans (S100.trans T135))))))))) [] rfl)⟩
end Go.Proofs.Ytglapnkicmkamaa
namespace Go.Proofs.Ytglapnkicmkamaa.held
open Go.ChangeShapes Go.WideShapes Go.ChangeAt Go.RowKit
set_option maxRecDepth 100000
theorem cells_5 : Try.prog.cellsOf 5 = 1 := by kernel_rfl
theorem called (W : World) (args : Array Value) (h : ArgsRead Try.prog W Try.f3.params.toList args.toList) : Calls Try.prog 3 args W fun e W' => e = .returned (.bool true) ∧ Bl W W' := by
  obtain ⟨hl, h⟩ := h
  rw [Try.params3] at hl h
  obtain ⟨v0, rfl⟩ : ∃ v0, args = #[v0] := by
    obtain ⟨l⟩ := args
    match l, hl with
    | [v0], _ => exact ⟨v0, rfl⟩
  obtain ⟨r0, o0⟩ := h 0 _ v0 rfl rfl
  have q0 := reads_one Try.underlying22 trivial o0 r0
  obtain ⟨a_0, n_0, c_0, l_0, e_0, v_0⟩ := rdA_of Try.underlying22 cells_5 (by decide) (u8_row Try.underlying5) q0
  cases e_0
  exact (laws_FnHeld_c (w := W) (H := fun _ => True) (code := l_0) v_0).mono fun e W' ⟨h1, h2⟩ => ⟨h1, h2.bl⟩
theorem own : ownKnob Try.prog.godebug = none := by kernel_rfl
theorem laidOut : laidOutB Try.prog = true := by kernel_rfl
theorem readable : ∀ t ∈ Try.f3.params.toList, Try.prog.readableRec t = true ∧ t < Try.prog.types.size := of_decide_eq_true (by kernel_rfl)
theorem lifted (os : Os) (started : os.Started) (H : Type) (enc : TypeId × Value → H) :
    ReturnsInHanded {} Try.checked os 3 .any (Rows.fnHeldSpec.pre6 enc Try.prog Try.f3 Rows.fnHeldRow.domain false) (Rows.fnHeldSpec.post enc Try.prog Try.f3 false true false false) := by
  refine returnsInHanded_of_change (C := Try.checked) own started (by kernel_rfl) Try.func3
    (ChangeSpec.witness6 (enc := enc) (C := Try.checked) false ⟨#[], #[.slice none 0 0], []⟩ 8 (by kernel_rfl) (by kernel_rfl) (by kernel_rfl) (by kernel_rfl)) ?_
  intro W base args ds gs before hval hW _ _
  refine law_contract laidOut readable Try.underlying4 rfl rfl ?_ called H enc false true false false W args ds gs before hval hW
  intro H ds hd
  match ds, hd with
  | [a], _ => rfl
theorem proved : Rows.FnHeldSaid :=
  OpenClaim.holds_of_wide 3 Try.f3 rfl rfl rfl rfl rfl rfl rfl ⟨rfl, rfl, rfl, rfl, rfl⟩ rfl rfl rfl rfl rfl (by kernel_rfl) Try.func3 (by kernel_rfl)
    (of_decide_eq_true (by kernel_rfl)) (by unfold Func.isWrapper; first | (rw [if_pos (by decide +kernel)]; kernel_rfl) | (rw [if_neg (by decide +kernel)]; exact ⟨rfl, rfl⟩))
    (fun os started H enc _ => lifted os started H enc)
end Go.Proofs.Ytglapnkicmkamaa.held
