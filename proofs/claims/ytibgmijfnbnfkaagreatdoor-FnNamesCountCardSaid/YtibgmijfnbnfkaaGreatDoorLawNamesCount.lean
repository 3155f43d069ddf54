/-
  PROVED HERE: whatever the input, the statement laws.FnNamesCount returns true. Condition: the tables and errors of the library that the row lists stand as the program's text lays them (the card ties that).
-/
import Derived.Test.YtibgmijfnbnfkaaGreatDoorGenDp
import Derived.Test.YtibgmijfnbnfkaaGreatDoorGenNm
import Derived.Test.YtibgmijfnbnfkaaGreatDoorGenS
import Derived.Test.YtibgmijfnbnfkaaGreatDoorDatNn
import Derived.Test.YtibgmijfnbnfkaaGreatDoorLaw2
import Derived.Test.YtibgmijfnbnfkaaGreatDoorLaw3
namespace Go.Proofs.YtibgmijfnbnfkaaGreatDoor
open Go.ChangeShapes Go.WideShapes Go.ChangeAt Go.RowKit
set_option maxRecDepth 100000
set_option maxHeartbeats 8000000
theorem laws_sameTexts_c {w : World} {H : Nat → Prop} {a : List ByteArray} {a_a : Option Addr} {a_n a_c : Nat} {b : List ByteArray} {b_a : Option Addr} {b_n b_c : Nat} (v_a : Rd 1 encS okS H w (.slice a_a a_n a_c) a) (v_b : Rd 1 encS okS H w (.slice b_a b_n b_c) b) :
    Calls Tryz.prog 19 #[.slice a_a a_n a_c, .slice b_a b_n b_c] w fun e w' => e = .returned (.bool (decide (a = b))) ∧ Mv [] w [] w' := by
 have V_v_a : Rd 1 encS okS (V H w []) w (.slice a_a a_n a_c) a := Rd.start v_a (fun _ _ => fps_nil _)
 obtain ⟨ln_a, le_a, mx_a, ni_a⟩ := Rd.inv v_a
 have Q0 : Rd 1 encS okS (V H w []) w (.slice b_a b_n b_c) b := Rd.start v_b (fun _ _ => fps_nil _)
 obtain ⟨ln_b, le_b, mx_b, ni_b⟩ := Rd.inv v_b
 refine calls_enter 26 Tryz.func19 rfl Tryz.ntmps19 (Nat.le_of_ble_eq_true rfl) (fun _ F0i => ?_)
 have F0 : Fr 26 [(0, .slice a_a a_n a_c), (1, .slice b_a b_n b_c)] _ := F0i
 clear F0i
 refine wp_seq (wp_region_lit (l_op (f_val F0 rfl rfl (r_assign rfl rfl) rfl fun _ F1 => ?_)))
 refine s_end (x_normal (wp_seq (wp_seq (wp_region_lit (l_op (f_mv F1 rfl rfl rfl rfl rfl fun _ F2 => ?_))))))
 refine l_op (f_val F2 rfl rfl (r_len Tryz.underlying25 rfl (F2.ev 6 rfl)) rfl fun _ F3 => ?_)
 refine l_op (f_mv F3 rfl rfl rfl rfl rfl fun _ F4 => ?_)
 refine l_op (f_val F4 rfl rfl (r_len Tryz.underlying25 rfl (F4.ev 8 rfl)) rfl fun _ F5 => ?_)
 refine l_op (f_val F5 rfl rfl (r_cmp (b := decide (a_n ≠ b_n)) (.inr (.inl rfl)) rfl (F5.ev 7 rfl) (F5.ev 9 rfl) (dec_of (by omega))) rfl fun _ F6 => ?_)
 refine s_end (x_normal (x_cond (p := a_n ≠ b_n) (F6.ev 10 rfl) (fun h7 => ?_) (fun h7 => ?_)))
 · skip
   refine wp_seq (wp_region_lit (l_op (f_val F6 rfl rfl (r_assign rfl rfl) rfl fun _ F8 => ?_)))
   refine s_end (x_normal (wp_ret (x_then_ret ?_)))
   refine x_done (v := .bool false) F8 (results_1 Tryz.results19 (.tmp (F8.ev 4 rfl))) ?_
   exact ⟨(by rw [(show false = (decide (a = b)) from by first | exact (eqL_len ln_a ln_b ‹_›).symm | exact (eqL_at hx1 hx2 ‹_›).symm | exact (eqL_end hk_1 (by omega) (by omega)).symm)]), (Mv.pick (Mv.refl (At.nil w)) [] rfl)⟩
 · skip
   refine wp_skip (x_normal (wp_seq (wp_seq (wp_region_lit (l_op (f_val F6 rfl rfl (r_assign rfl rfl) rfl fun _ F9 => ?_))))))
   refine s_end (x_normal (wp_block ?_))
   refine x_loop (fun (k : Nat) aZ wZ => Fr 26 [(5, .int .i64 ((k : Nat) : Int)), (0, .slice a_a a_n a_c), (1, .slice b_a b_n b_c)] aZ ∧ Mv [] w [] wZ ∧ (k ≤ a_n) ∧ (a.take k = b.take k)) (fun (k : Nat) => a_n - k) (0) ?_ ?_
   · exact ⟨F9.cut rfl, (Mv.refl (At.nil w)), by omega, rfl⟩
   · rintro k a10 w10 ⟨F10, S10, hk_0, hk_1⟩
     refine wp_seq (wp_seq (wp_region_lit (l_op (f_mv F10 rfl rfl rfl rfl rfl fun _ F11 => ?_))))
     refine l_op (f_mv F11 rfl rfl rfl rfl rfl fun _ F12 => ?_)
     refine l_op (f_val F12 rfl rfl (r_len Tryz.underlying25 rfl (F12.ev 12 rfl)) rfl fun _ F13 => ?_)
     refine l_op (f_val F13 rfl rfl (r_cmp (b := decide (k < a_n)) (.inr (.inr (.inl rfl))) rfl (F13.ev 11 rfl) (F13.ev 13 rfl) (dec_of (by omega))) rfl fun _ F14 => ?_)
     refine s_end (x_normal (x_cond (p := k < a_n) (F14.ev 14 rfl) (fun h15 => ?_) (fun h15 => ?_)))
     · skip
       refine wp_skip (x_normal (wp_seq (wp_block (wp_seq ?_))))
       obtain ⟨x1, hx1, okx1⟩ := Rd.elem (Rd.mq V_v_a S10) k (by first | assumption | omega)
       obtain ⟨x2, hx2, okx2⟩ := Rd.elem (Rd.mq Q0 S10) k (by first | assumption | omega)
       refine x_draw (fun aZ wZ => Fr 26 [(0, .slice a_a a_n a_c), (1, .slice b_a b_n b_c), (5, .int .i64 ((k : Nat) : Int)), (25, .bool (decide (x1 ≠ x2)))] aZ ∧ Mv [] w10 [] wZ) [] mixed S10.at' (listed := #[false, false, false, false, false, false, false, false, false]) rfl (fun w17 S17 => ?_) [] rfl ?_
       · skip
         refine g_take F14 rfl (i := 0) (listed' := #[true, false, false, false, false, false, false, false, false]) rfl (by kernel_rfl) (by kernel_rfl) (by kernel_rfl) (fun _ _ _ h => h) (Sd.of (Mv.refl S17.at') [] rfl) rfl rfl rfl rfl (fun _ hz => (r_move rfl (F14.ev 0 rfl))) fun _ F18 => ?_
         refine g_take F18 rfl (i := 1) (listed' := #[true, true, false, false, false, false, false, false, false]) rfl (by kernel_rfl) (by kernel_rfl) (by kernel_rfl) (fun _ _ _ h => h) (Sd.of (Mv.refl S17.at') [] rfl) rfl rfl rfl rfl (fun _ hz => (r_move rfl (F18.ev 5 rfl))) fun _ F19 => ?_
         obtain ⟨B20, O20, y20, ad20, hy20, oky20, ln20, cl20⟩ := Rd.atK (Nat.succ_pos _) (Rd.mq V_v_a (S10.trans S17)) k (by first | assumption | omega)
         clear ln20
         obtain rfl := Option.some.inj (hx1.symm.trans hy20)
         clear hy20 oky20
         refine g_take F19 rfl (i := 2) (listed' := #[true, true, true, false, false, false, false, false, false]) rfl (by kernel_rfl) (by kernel_rfl) (by kernel_rfl) (fun _ _ _ h => h) (Sd.of (Mv.refl S17.at') [] rfl) rfl rfl rfl rfl (fun _ hz => (r_indexAddr (i := k) ET_25 rfl ((F19.ev 17 rfl).trans (by rw [ad20])) (F19.ev 18 rfl) (by omega) (by first | assumption | omega))) fun _ F21 => ?_
         refine g_take (v := .string x1) F21 rfl (i := 3) (listed' := #[true, true, true, true, false, false, false, false, false]) rfl (by kernel_rfl) (by kernel_rfl) (by kernel_rfl) (fun _ _ _ h => h) (Sd.of (Mv.refl S17.at') [] rfl) rfl rfl rfl rfl (fun _ hz => (r_load (cs := [.string x1]) TI_9 rfl (F21.ev 19 rfl) rfl (fun _ => rfl) (elem_sub (f := 0) (cl20 _ hz.kp) [.string x1] rfl))) fun _ F22 => ?_
         refine g_take F22 rfl (i := 4) (listed' := #[true, true, true, true, true, false, false, false, false]) rfl (by kernel_rfl) (by kernel_rfl) (by kernel_rfl) (fun _ _ _ h => h) (Sd.of (Mv.refl S17.at') [] rfl) rfl rfl rfl rfl (fun _ hz => (r_move rfl (F22.ev 1 rfl))) fun _ F23 => ?_
         refine g_take F23 rfl (i := 5) (listed' := #[true, true, true, true, true, true, false, false, false]) rfl (by kernel_rfl) (by kernel_rfl) (by kernel_rfl) (fun _ _ _ h => h) (Sd.of (Mv.refl S17.at') [] rfl) rfl rfl rfl rfl (fun _ hz => (r_move rfl (F23.ev 5 rfl))) fun _ F24 => ?_
         obtain ⟨B25, O25, y25, ad25, hy25, oky25, ln25, cl25⟩ := Rd.atK (Nat.succ_pos _) (Rd.mq Q0 (S10.trans S17)) k (by first | assumption | omega)
         clear ln25
         obtain rfl := Option.some.inj (hx2.symm.trans hy25)
         clear hy25 oky25
         refine g_take F24 rfl (i := 6) (listed' := #[true, true, true, true, true, true, true, false, false]) rfl (by kernel_rfl) (by kernel_rfl) (by kernel_rfl) (fun _ _ _ h => h) (Sd.of (Mv.refl S17.at') [] rfl) rfl rfl rfl rfl (fun _ hz => (r_indexAddr (i := k) ET_25 rfl ((F24.ev 21 rfl).trans (by rw [ad25])) (F24.ev 22 rfl) (by omega) (by first | assumption | omega))) fun _ F26 => ?_
         refine g_take (v := .string x2) F26 rfl (i := 7) (listed' := #[true, true, true, true, true, true, true, true, false]) rfl (by kernel_rfl) (by kernel_rfl) (by kernel_rfl) (fun _ _ _ h => h) (Sd.of (Mv.refl S17.at') [] rfl) rfl rfl rfl rfl (fun _ hz => (r_load (cs := [.string x2]) TI_9 rfl (F26.ev 23 rfl) rfl (fun _ => rfl) (elem_sub (f := 0) (cl25 _ hz.kp) [.string x2] rfl))) fun _ F27 => ?_
         refine g_take F27 rfl (i := 8) (listed' := #[true, true, true, true, true, true, true, true, true]) rfl (by kernel_rfl) (by kernel_rfl) (by kernel_rfl) (fun _ _ _ h => h) (Sd.of (Mv.refl S17.at') [] rfl) rfl rfl rfl rfl (fun _ hz => (r_cmps (b := (decide (x1 ≠ x2))) (.inr (.inl rfl)) rfl (F27.ev 20 rfl) (F27.ev 24 rfl) rfl)) fun _ F28 => ?_
         refine wpAnyH_done (by kernel_rfl) (x_normal ?_) _
         exact ⟨F28.cut rfl, (S17.pick [] rfl)⟩
       · rintro a29 w29 ⟨F29, S29⟩
         refine x_normal (x_cond (p := x1 ≠ x2) (F29.ev 25 rfl) (fun h30 => ?_) (fun h30 => ?_))
         · skip
           refine wp_seq (wp_region_lit (l_op (f_val F29 rfl rfl (r_assign rfl rfl) rfl fun _ F31 => ?_)))
           refine s_end (x_normal (wp_ret (x_block_ret (x_then_ret (x_then_ret (x_block_ret (x_then_ret ?_)))))))
           refine x_done (v := .bool false) F31 (results_1 Tryz.results19 (.tmp (F31.ev 4 rfl))) ?_
           exact ⟨(by rw [(show false = (decide (a = b)) from by first | exact (eqL_len ln_a ln_b ‹_›).symm | exact (eqL_at hx1 hx2 ‹_›).symm | exact (eqL_end hk_1 (by omega) (by omega)).symm)]), (Mv.pick (S10.trans S29) [] rfl)⟩
         · skip
           refine wp_skip (x_block_normal (x_normal (wp_region_lit (l_op (f_mv F29 rfl rfl rfl rfl rfl fun _ F32 => ?_)))))
           refine l_op (f_val F32 rfl rfl (r_add (z := ((k + 1 : Nat) : Int)) rfl (F32.ev 15 rfl) rfl (by first | rfl | omega) ⟨by first | omega | (unfold i64ok at *; omega), by first | omega | (unfold i64ok at *; omega)⟩) rfl fun _ F33 => ?_)
           refine l_op (f_as F33 rfl rfl rfl rfl rfl fun _ F34 => ?_)
           refine s_end ?_
           refine x_normal ⟨k + 1, by omega, F34.cut rfl, ((S10.trans S29).pick [] rfl), by omega, eqL_step hk_1 hx1 hx2 ‹_›⟩
     · skip
       refine wp_exit (x_then_exit (x_then_exit (x_block_here (x_normal (wp_seq (wp_region_lit (l_op (f_val F14 rfl rfl (r_assign rfl rfl) rfl fun _ F35 => ?_))))))))
       refine s_end (x_normal (wp_ret ?_))
       refine x_done (v := .bool true) F35 (results_1 Tryz.results19 (.tmp (F35.ev 4 rfl))) ?_
       exact ⟨(by rw [(show true = (decide (a = b)) from by first | exact (eqL_len ln_a ln_b ‹_›).symm | exact (eqL_at hx1 hx2 ‹_›).symm | exact (eqL_end hk_1 (by omega) (by omega)).symm)]), (Mv.pick S10 [] rfl)⟩
theorem laws_FnNamesCount_c {w : World} {H : Nat → Prop} {code : List Nat} {Q75 : Option Addr} {Q77 Q76 : Nat} (Q119 : RdA 1 encB okB H w (.slice Q75 Q77 Q76) code) (tab0 : Tb 0 H w) (tab1 : Tb 1 H w) :
    Calls Tryz.prog 4 #[.slice Q75 Q77 Q76] w fun e w' => e = .returned (.bool true) ∧ Mv [] w [] w' := by
 have hb0 := bdC_base
 have Q108 : RdA 1 encB okB (V H w []) w (.slice Q75 Q77 Q76) code := RdA.start Q119 (fun _ _ => fps_nil _)
 obtain ⟨Q125, Q124, Q282, Q283⟩ := RdA.inv Q119
 have V_tab0 : Tb 0 (V H w []) w := Tb.start tab0 (fun _ _ => fps_nil _)
 have V_tab1 : Tb 1 (V H w []) w := Tb.start tab1 (fun _ _ => fps_nil _)
 refine calls_enter 172 Tryz.func4 rfl Tryz.ntmps4 (Nat.le_of_ble_eq_true rfl) (fun _ F0i => ?_)
 have F0 : Fr 172 [(0, .slice Q75 Q77 Q76)] _ := F0i
 clear F0i
 refine wp_seq (wp_region_lit (l_op (f_val F0 rfl rfl (r_assign rfl rfl) rfl fun _ F1 => ?_)))
 refine s_end (x_normal (wp_seq (wp_seq (wp_region_lit (l_op (f_mv F1 rfl rfl rfl rfl rfl fun _ F2 => ?_))))))
 refine l_op (f_call F2 CF_5 rfl rfl rfl rfl (lc (F2.ev 20 rfl) rfl) (laws_big_c (code := code) Q108) ?_)
 rintro _ w3 ⟨rfl, m3⟩
 refine ⟨_, rfl, fun _ F4 => ?_⟩
 have S3 := At.frame0 (At.nil w) m3
 clear m3
 refine s_end (x_normal (x_cond (p := code.length > 1048576) (F4.ev 21 rfl) (fun h5 => ?_) (fun h5 => ?_)))
 · skip
   refine wp_seq (wp_region_lit (l_op (f_val F4 rfl rfl (r_assign rfl rfl) rfl fun _ F6 => ?_)))
   refine s_end (x_normal (wp_ret (x_then_ret ?_)))
   refine x_done (v := .bool true) F6 (results_1 Tryz.results4 (.tmp (F6.ev 2 rfl))) ?_
   exact ⟨rfl, (Mv.pick S3 [] rfl)⟩
 · skip
   refine wp_skip (x_normal (wp_seq (wp_region_lit (l_op (f_mv F4 rfl rfl rfl rfl rfl fun _ F7 => ?_)))))
   refine l_op (f_call F7 CF_24 rfl rfl rfl rfl (lc (F7.ev 22 rfl) rfl) (spec_DrawPlaces_c (code := code) (RdA.mv (Nat.succ_pos _) Q108 S3) (by first | assumption | omega | (simp <;> omega))) ?_)
   rintro _ w8 ⟨p_8, Q72, Q74, Q73, rfl, m8, v8_0, q8_0, q8_1⟩
   refine ⟨_, rfl, fun _ F9 => ?_⟩
   have S8 := At.frame0 S3.at' m8
   have V8_0 := Rd.got0 S3.at' (S3.kp.size) v8_0 S8
   obtain ⟨ln8_0, le8_0, mx8_0, ni8_0⟩ := Rd.inv V8_0
   clear m8 v8_0
   refine l_op (f_as F9 rfl rfl rfl rfl rfl fun _ F10 => ?_)
   refine s_end (x_normal (wp_seq (wp_region_lit (l_op (f_call F10 CF_22 rfl rfl rfl rfl rfl (laws_base_c (H := V H w [])  ) ?_)))))
   rintro _ w11 ⟨Q287, Q289, Q288, Q284, Q286, Q285, Q290, Q292, Q291, rfl, m11, v11_0, v11_1, v11_2⟩
   refine ⟨_, rfl, fun _ F12 => ?_⟩
   have S11 := At.frame0 S8.at' m11
   have V11_0 := Rd.got0 S8.at' ((S3.trans S8).kp.size) v11_0 S11
   obtain ⟨ln11_0, le11_0, mx11_0, ni11_0⟩ := Rd.inv V11_0
   have V11_1 := Rd.got0 S8.at' ((S3.trans S8).kp.size) v11_1 S11
   obtain ⟨ln11_1, le11_1, mx11_1, ni11_1⟩ := Rd.inv V11_1
   have V11_2 := Rd.got0 S8.at' ((S3.trans S8).kp.size) v11_2 S11
   obtain ⟨ln11_2, le11_2, mx11_2, ni11_2⟩ := Rd.inv V11_2
   clear m11 v11_0 v11_1 v11_2
   refine l_op (f_call F12 CF_25 rfl rfl rfl rfl (lc (F12.ev 25 rfl) (lc rfl rfl)) (impl_MakeName_c (m := (⟨[], (⟨[], []⟩ : TouchD)⟩ : MachD)) (name := (⟨#[120]⟩ : ByteArray)) V11_0 V11_1 V11_2 (by unfold okS; decide) (Tb.mv V_tab0 (S3.trans (S8.trans S11))) (Tb.mv V_tab1 (S3.trans (S8.trans S11))) (by first | assumption | omega | ((first | apply b1_ | apply b2_ | apply b3_ | skip); (repeat (first | with_reducible apply b4_ | with_reducible apply b5_ | with_reducible apply b6_ | with_reducible refine bdC.mn ?_ | with_reducible refine bdC.fo ?_)); exact bdC.le ‹_› (by first | decide | omega)) | decide | exact Nat.le_trans (keyNum_size _ _ ‹_›) (by decide) | exact Nat.le_trans (keyNum_size _ _ ⟨by omega, by omega⟩) (by decide))) ?_)
   rintro _ w13 ⟨Q31, Q41, Q36, Q16, Q26, Q21, Q1, Q11, Q6, rfl, m13⟩
   refine ⟨_, rfl, fun _ F14 => ?_⟩
   have S13 : Mv _ _ [ow 73 2 encC okC (.slice Q31 Q41 Q36) (mnM (⟨[], (⟨[], []⟩ : TouchD)⟩ : MachD) (⟨#[120]⟩ : ByteArray)).store, ow 9 1 encS okS (.slice Q16 Q26 Q21) (mnM (⟨[], (⟨[], []⟩ : TouchD)⟩ : MachD) (⟨#[120]⟩ : ByteArray)).touch.reads, ow 9 1 encS okS (.slice Q1 Q11 Q6) (mnM (⟨[], (⟨[], []⟩ : TouchD)⟩ : MachD) (⟨#[120]⟩ : ByteArray)).touch.writes] _ := At.frame S11.at' [] rfl m13
   obtain ⟨Q132, Q184, Q236⟩ := At.ownInv S13.at' ET_24.hk 0 rfl
   obtain ⟨Q133, Q185, Q237⟩ := At.ownInv S13.at' ET_25.hk 1 rfl
   obtain ⟨Q134, Q186, Q238⟩ := At.ownInv S13.at' ET_25.hk 2 rfl
   clear m13
   refine l_op (f_mv F14 rfl rfl rfl rfl rfl fun _ F15 => ?_)
   refine l_op (f_val (v := .agg #[.slice Q31 Q41 Q36, .slice Q16 Q26 Q21, .slice Q1 Q11 Q6]) F15 rfl rfl (r_extract rfl (F15.ev 24 rfl) rfl) rfl fun _ F16 => ?_)
   refine l_op (f_val (v := .int .i64 ((mnI (⟨[], (⟨[], []⟩ : TouchD)⟩ : MachD) (⟨#[120]⟩ : ByteArray) : Nat) : Int)) F16 rfl rfl (r_extract rfl (F16.ev 24 rfl) rfl) rfl fun _ F17 => ?_)
   refine l_op (f_val (v := .int .i64 (mnC (⟨[], (⟨[], []⟩ : TouchD)⟩ : MachD) (⟨#[120]⟩ : ByteArray))) F17 rfl rfl (r_extract rfl (F17.ev 24 rfl) rfl) rfl fun _ F18 => ?_)
   refine l_op (f_alloc F18 S13.at' ZI_29 rfl rfl rfl rfl rfl fun b19 _ w19 F20 S19 => ?_)
   refine l_op (s_store S19.at' 0 TI_29 rfl rfl rfl rfl rfl (F20.ev 4 rfl) (F20.ev 27 rfl) rfl rfl rfl rfl rfl fun w21 S21 => ?_)
   refine l_op (f_as F20 rfl rfl rfl rfl rfl fun _ F22 => ?_)
   refine l_op (f_as F22 rfl rfl rfl rfl rfl fun _ F23 => ?_)
   have T24 : Mv _ _ [bx b19 [.slice Q31 Q41 Q36, .slice Q16 Q26 Q21, .slice Q1 Q11 Q6] 29, ow 73 2 encC okC (.slice Q31 Q41 Q36) (mnM (⟨[], (⟨[], []⟩ : TouchD)⟩ : MachD) (⟨#[120]⟩ : ByteArray)).store, ow 9 1 encS okS (.slice Q16 Q26 Q21) (mnM (⟨[], (⟨[], []⟩ : TouchD)⟩ : MachD) (⟨#[120]⟩ : ByteArray)).touch.reads, ow 9 1 encS okS (.slice Q1 Q11 Q6) (mnM (⟨[], (⟨[], []⟩ : TouchD)⟩ : MachD) (⟨#[120]⟩ : ByteArray)).touch.writes] _ := S21
   refine s_end (x_normal (wp_seq (wp_region_lit (l_op (f_buildSl (ok := okS) (vs := [.string (⟨#[120]⟩ : ByteArray), .string (⟨#[121]⟩ : ByteArray), .string (⟨#[122]⟩ : ByteArray)]) F23 T24.at' ([(⟨#[120]⟩ : ByteArray), (⟨#[121]⟩ : ByteArray), (⟨#[122]⟩ : ByteArray)]) ET_25 rfl rfl rfl rfl rfl rfl (lc (pr2 rfl) (lc (pr2 rfl) (lc (pr2 rfl) rfl))) rfl rfl (fun x hx => by (repeat (first | (rcases List.mem_cons.1 hx with hx | hx; (subst hx; first | exact (by unfold okS; decide) | exact (by unfold okS; decide) | exact (by unfold okS; decide))) | exact (List.not_mem_nil hx).elim))) fun b25 _ w25 F26 S25 => ?_)))))
   refine l_op (f_as F26 rfl rfl rfl rfl rfl fun _ F27 => ?_)
   refine s_end (x_normal (wp_seq (wp_seq ?_)))
   have Z28 : Rd 1 encS okS (V H w [bx b19 [.slice Q31 Q41 Q36, .slice Q16 Q26 Q21, .slice Q1 Q11 Q6] 29, ow 73 2 encC okC (.slice Q31 Q41 Q36) (mnM (⟨[], (⟨[], []⟩ : TouchD)⟩ : MachD) (⟨#[120]⟩ : ByteArray)).store, ow 9 1 encS okS (.slice Q16 Q26 Q21) (mnM (⟨[], (⟨[], []⟩ : TouchD)⟩ : MachD) (⟨#[120]⟩ : ByteArray)).touch.reads, ow 9 1 encS okS (.slice Q1 Q11 Q6) (mnM (⟨[], (⟨[], []⟩ : TouchD)⟩ : MachD) (⟨#[120]⟩ : ByteArray)).touch.writes]) w25 (.slice (some ⟨b25, 0, none⟩) 3 3) ([(⟨#[120]⟩ : ByteArray), (⟨#[121]⟩ : ByteArray), (⟨#[122]⟩ : ByteArray)]) := At.freeze (S3.trans (S8.trans (S11.trans (S13.trans (S19.trans (T24.trans S25)))))) ET_25.hk 0 rfl (fun b hb => ((S3.trans (S8.trans (S11.trans (S13.trans (S19.trans (T24.trans S25)))))).fresh b ⟨_, nth_mem (i := 0) rfl, hb⟩).resolve_left (fps_nil _))
   have S28 := At.drop S25.at' 0
   refine wp_region_lit (l_op (f_val F27 rfl rfl (r_assign rfl rfl) rfl fun _ F29 => ?_))
   refine s_end (x_normal (wp_block ?_))
   have Z31 : Rd 2 encC okC (V H w [bx b19 [.slice Q31 Q41 Q36, .slice Q16 Q26 Q21, .slice Q1 Q11 Q6] 29, ow 9 1 encS okS (.slice Q16 Q26 Q21) (mnM (⟨[], (⟨[], []⟩ : TouchD)⟩ : MachD) (⟨#[120]⟩ : ByteArray)).touch.reads, ow 9 1 encS okS (.slice Q1 Q11 Q6) (mnM (⟨[], (⟨[], []⟩ : TouchD)⟩ : MachD) (⟨#[120]⟩ : ByteArray)).touch.writes]) w25 (.slice Q31 Q41 Q36) (mnM (⟨[], (⟨[], []⟩ : TouchD)⟩ : MachD) (⟨#[120]⟩ : ByteArray)).store := At.freeze (S3.trans (S8.trans (S11.trans (S13.trans (S19.trans (T24.trans (S25.trans S28))))))) ET_24.hk 1 rfl (fun b hb => ((S3.trans (S8.trans (S11.trans (S13.trans (S19.trans (T24.trans (S25.trans S28))))))).fresh b ⟨_, nth_mem (i := 1) rfl, hb⟩).resolve_left (fps_nil _))
   have S31 := At.drop S28.at' 1
   have Z32 : Rd 1 encS okS (V H w [bx b19 [.slice Q31 Q41 Q36, .slice Q16 Q26 Q21, .slice Q1 Q11 Q6] 29, ow 9 1 encS okS (.slice Q1 Q11 Q6) (mnM (⟨[], (⟨[], []⟩ : TouchD)⟩ : MachD) (⟨#[120]⟩ : ByteArray)).touch.writes]) w25 (.slice Q16 Q26 Q21) (mnM (⟨[], (⟨[], []⟩ : TouchD)⟩ : MachD) (⟨#[120]⟩ : ByteArray)).touch.reads := At.freeze (S3.trans (S8.trans (S11.trans (S13.trans (S19.trans (T24.trans (S25.trans (S28.trans S31)))))))) ET_25.hk 1 rfl (fun b hb => ((S3.trans (S8.trans (S11.trans (S13.trans (S19.trans (T24.trans (S25.trans (S28.trans S31)))))))).fresh b ⟨_, nth_mem (i := 1) rfl, hb⟩).resolve_left (fps_nil _))
   have S32 := At.drop S31.at' 1
   have Z33 : Rd 1 encS okS (V H w [bx b19 [.slice Q31 Q41 Q36, .slice Q16 Q26 Q21, .slice Q1 Q11 Q6] 29]) w25 (.slice Q1 Q11 Q6) (mnM (⟨[], (⟨[], []⟩ : TouchD)⟩ : MachD) (⟨#[120]⟩ : ByteArray)).touch.writes := At.freeze (S3.trans (S8.trans (S11.trans (S13.trans (S19.trans (T24.trans (S25.trans (S28.trans (S31.trans S32))))))))) ET_25.hk 1 rfl (fun b hb => ((S3.trans (S8.trans (S11.trans (S13.trans (S19.trans (T24.trans (S25.trans (S28.trans (S31.trans S32))))))))).fresh b ⟨_, nth_mem (i := 1) rfl, hb⟩).resolve_left (fps_nil _))
   have S33 := At.drop S32.at' 1
   refine x_loop (fun (k : Nat) aZ wZ => ∃ (M : MachD), ∃ (sa : Option Addr), ∃ (sn : Nat), ∃ (sc : Nat), ∃ (ra : Option Addr), ∃ (rn : Nat), ∃ (rc : Nat), ∃ (ua : Option Addr), ∃ (un : Nat), ∃ (uc : Nat), Fr 172 [(8, .int .i64 ((k : Nat) : Int)), (7, .slice (some ⟨b25, 0, none⟩) 3 3), (5, .int .i64 ((mnI (⟨[], (⟨[], []⟩ : TouchD)⟩ : MachD) (⟨#[120]⟩ : ByteArray) : Nat) : Int)), (4, .pointer (some ⟨b19, 0, none⟩)), (3, .slice Q72 Q74 Q73)] aZ ∧ Mv [bx b19 [.slice Q31 Q41 Q36, .slice Q16 Q26 Q21, .slice Q1 Q11 Q6] 29] w25 [bx b19 [.slice sa sn sc, .slice ra rn rc, .slice ua un uc] 29] wZ ∧ Rd 2 encC okC (V H w [bx b19 [.slice sa sn sc, .slice ra rn rc, .slice ua un uc] 29]) wZ (.slice sa sn sc) M.store ∧ Rd 1 encS okS (V H w [bx b19 [.slice sa sn sc, .slice ra rn rc, .slice ua un uc] 29]) wZ (.slice ra rn rc) M.touch.reads ∧ Rd 1 encS okS (V H w [bx b19 [.slice sa sn sc, .slice ra rn rc, .slice ua un uc] 29]) wZ (.slice ua un uc) M.touch.writes ∧ (steps k M) ∧ (k ≤ 6)) (fun (k : Nat) => 6 - k) (0) ?_ ?_
   · exact ⟨(mnM (⟨[], (⟨[], []⟩ : TouchD)⟩ : MachD) (⟨#[120]⟩ : ByteArray)), Q31, Q41, Q36, Q16, Q26, Q21, Q1, Q11, Q6, F29.cut rfl, (Mv.refl S33.at'), (Rd.mq Z31 (S32.trans S33)), (Rd.mq Z32 S33), Z33, steps_base, by omega⟩
   · rintro k a30 w30 ⟨M, sa, sn, sc, ra, rn, rc, ua, un, uc, F30, S30, W30_0, W30_1, W30_2, hk_0, hk_1⟩
     obtain ⟨lv30_0, lw30_0, lx30_0, ly30_0⟩ := Rd.inv W30_0
     obtain ⟨lv30_1, lw30_1, lx30_1, ly30_1⟩ := Rd.inv W30_1
     obtain ⟨lv30_2, lw30_2, lx30_2, ly30_2⟩ := Rd.inv W30_2
     have hbM := bdC.le hk_0.2 (nBd_le hk_1)
     refine wp_seq (wp_seq (wp_region_lit (l_op (f_mv F30 rfl rfl rfl rfl rfl fun _ F34 => ?_))))
     refine l_op (f_val F34 rfl rfl (r_cmp (b := decide (k < 6)) (.inr (.inr (.inl rfl))) rfl (F34.ev 31 rfl) rfl (dec_of (by omega))) rfl fun _ F35 => ?_)
     refine s_end (x_normal (x_cond (p := k < 6) (F35.ev 32 rfl) (fun h36 => ?_) (fun h36 => ?_)))
     · skip
       refine wp_skip (x_normal (wp_seq (wp_block (wp_seq (wp_region_lit (l_op (f_mv F35 rfl rfl rfl rfl rfl fun _ F37 => ?_)))))))
       refine l_op (f_mv F37 rfl rfl rfl rfl rfl fun _ F38 => ?_)
       obtain ⟨B39, O39, x1, ad39, hx1, okx1, ln39, cl39⟩ := Rd.at (Rd.mq V8_0 (S11.trans (S13.trans (S19.trans (T24.trans (S25.trans (S28.trans (S31.trans (S32.trans (S33.trans S30)))))))))) k (by first | assumption | omega)
       clear ln39
       refine l_op (f_val F38 rfl rfl (r_indexAddr (i := k) ET_47 rfl ((F38.ev 35 rfl).trans (by rw [ad39])) (F38.ev 36 rfl) (by omega) (by first | assumption | omega)) rfl fun _ F40 => ?_)
       refine l_op (f_val (v := .int .i64 x1) F40 rfl rfl (r_load (cs := [.int .i64 x1]) TI_3 rfl (F40.ev 37 rfl) rfl (fun _ => rfl) (elem_sub (f := 0) cl39 [.int .i64 x1] rfl)) rfl fun _ F41 => ?_)
       have pb42 := pOk_at ‹_› hx1
       obtain ⟨r42, hr42, lr42⟩ := rem_nat (c := 4) pb42 (by decide)
       refine l_op (f_val F41 rfl rfl ((r_remI (c := 4) rfl (by decide) rfl (F41.ev 38 rfl) rfl).trans (by rw [hr42])) rfl fun _ F43 => ?_)
       refine s_end (x_normal (wp_block (wp_seq (wp_region_lit (l_op (f_val F43 rfl rfl (r_cmp (b := decide (r42 = 0)) (.inl rfl) rfl (F43.ev 39 rfl) rfl (dec_of (by omega))) rfl fun _ F44 => ?_))))))
       refine l_op (f_as F44 rfl rfl rfl rfl rfl fun _ F45 => ?_)
       refine s_end (x_normal (x_cond (p := r42 = 0) (F45.ev 55 rfl) (fun h46 => ?_) (fun h46 => ?_)))
       · skip
         obtain ⟨x2, hx2, okx2⟩ := Rd.elem (Rd.mq V8_0 (S11.trans (S13.trans (S19.trans (T24.trans (S25.trans (S28.trans (S31.trans (S32.trans (S33.trans S30)))))))))) (k + 1) (by omega)
         have pb47 := pOk_at ‹_› hx2
         obtain ⟨rB, hrB, lrB⟩ := rem_nat (c := 3) pb47 (by decide)
         have pb48 := pOk_at ‹_› hx2
         obtain ⟨rC, hrC, lrC⟩ := quo_nat (c := 3) pb48 (by decide)
         obtain ⟨x3, hx3, okx3⟩ := Rd.elem (Rd.mq Z28 (S31.trans (S32.trans (S33.trans S30)))) rB (by omega)
         obtain ⟨x4, hx4, okx4⟩ := Rd.elem (Rd.mq Z28 (S31.trans (S32.trans (S33.trans S30)))) (rC % 3) (by omega)
         refine x_draw (fun aZ wZ => ∃ (Q34 : Option Addr), ∃ (Q44 : Nat), ∃ (Q39 : Nat), ∃ (Q19 : Option Addr), ∃ (Q29 : Nat), ∃ (Q24 : Nat), ∃ (Q4 : Option Addr), ∃ (Q14 : Nat), ∃ (Q9 : Nat), Fr 172 [(3, .slice Q72 Q74 Q73), (4, .pointer (some ⟨b19, 0, none⟩)), (5, .int .i64 ((mnI (⟨[], (⟨[], []⟩ : TouchD)⟩ : MachD) (⟨#[120]⟩ : ByteArray) : Nat) : Int)), (7, .slice (some ⟨b25, 0, none⟩) 3 3), (8, .int .i64 ((k : Nat) : Int))] aZ ∧ Mv [bx b19 [.slice sa sn sc, .slice ra rn rc, .slice ua un uc] 29] w30 [bx b19 [.slice Q34 Q44 Q39, .slice Q19 Q29 Q24, .slice Q4 Q14 Q9] 29, ow 73 2 encC okC (.slice Q34 Q44 Q39) (lnM M x3 x4).store, ow 9 1 encS okS (.slice Q19 Q29 Q24) (lnM M x3 x4).touch.reads, ow 9 1 encS okS (.slice Q4 Q14 Q9) (lnM M x3 x4).touch.writes] wZ) [] mixed S30.at' (listed := #[false, false, false, false, false, false, false, false, false, false, false, false, false, false, false, false, false, false, false, false, false, false, false, false, false]) rfl (fun w50 S50 => ?_) [] rfl ?_
         · skip
           refine g_take F45 rfl (i := 1) (listed' := #[false, true, false, false, false, false, false, false, false, false, false, false, false, false, false, false, false, false, false, false, false, false, false, false, false]) rfl (by kernel_rfl) (by kernel_rfl) (by kernel_rfl) (fun _ _ _ h => h) (Sd.of (Mv.refl S50.at') [] rfl) rfl rfl rfl rfl (fun _ hz => (r_move rfl (F45.ev 7 rfl))) fun _ F51 => ?_
           refine g_take F51 rfl (i := 2) (listed' := #[false, true, true, false, false, false, false, false, false, false, false, false, false, false, false, false, false, false, false, false, false, false, false, false, false]) rfl (by kernel_rfl) (by kernel_rfl) (by kernel_rfl) (fun _ _ _ h => h) (Sd.of (Mv.refl S50.at') [] rfl) rfl rfl rfl rfl (fun _ hz => (r_move rfl (F51.ev 3 rfl))) fun _ F52 => ?_
           refine g_take F52 rfl (i := 3) (listed' := #[false, true, true, true, false, false, false, false, false, false, false, false, false, false, false, false, false, false, false, false, false, false, false, false, false]) rfl (by kernel_rfl) (by kernel_rfl) (by kernel_rfl) (fun _ _ _ h => h) (Sd.of (Mv.refl S50.at') [] rfl) rfl rfl rfl rfl (fun _ hz => (r_move rfl (F52.ev 8 rfl))) fun _ F53 => ?_
           refine g_take F53 rfl (i := 4) (listed' := #[false, true, true, true, true, false, false, false, false, false, false, false, false, false, false, false, false, false, false, false, false, false, false, false, false]) rfl (by kernel_rfl) (by kernel_rfl) (by kernel_rfl) (fun _ _ _ h => h) (Sd.of (Mv.refl S50.at') [] rfl) rfl rfl rfl rfl (fun _ hz => (r_add (z := ((k + 1 : Nat) : Int)) rfl (F53.ev 61 rfl) rfl (by first | rfl | omega) ⟨by first | omega | (unfold i64ok at *; omega), by first | omega | (unfold i64ok at *; omega)⟩)) fun _ F54 => ?_
           obtain ⟨B55, O55, y55, ad55, hy55, oky55, ln55, cl55⟩ := Rd.atK (Nat.succ_pos _) (Rd.mq V8_0 (S11.trans (S13.trans (S19.trans (T24.trans (S25.trans (S28.trans (S31.trans (S32.trans (S33.trans (S30.trans S50))))))))))) (k + 1) (by first | assumption | omega)
           clear ln55
           obtain rfl := Option.some.inj (hx2.symm.trans hy55)
           clear hy55 oky55
           refine g_take F54 rfl (i := 5) (listed' := #[false, true, true, true, true, true, false, false, false, false, false, false, false, false, false, false, false, false, false, false, false, false, false, false, false]) rfl (by kernel_rfl) (by kernel_rfl) (by kernel_rfl) (fun _ _ _ h => h) (Sd.of (Mv.refl S50.at') [] rfl) rfl rfl rfl rfl (fun _ hz => (r_indexAddr (i := k + 1) ET_47 rfl ((F54.ev 60 rfl).trans (by rw [ad55])) (F54.ev 62 rfl) (by omega) (by first | assumption | omega))) fun _ F56 => ?_
           refine g_take (v := .int .i64 x2) F56 rfl (i := 6) (listed' := #[false, true, true, true, true, true, true, false, false, false, false, false, false, false, false, false, false, false, false, false, false, false, false, false, false]) rfl (by kernel_rfl) (by kernel_rfl) (by kernel_rfl) (fun _ _ _ h => h) (Sd.of (Mv.refl S50.at') [] rfl) rfl rfl rfl rfl (fun _ hz => (r_load (cs := [.int .i64 x2]) TI_3 rfl (F56.ev 63 rfl) rfl (fun _ => rfl) (elem_sub (f := 0) (cl55 _ hz.kp) [.int .i64 x2] rfl))) fun _ F57 => ?_
           refine g_take F57 rfl (i := 7) (listed' := #[false, true, true, true, true, true, true, true, false, false, false, false, false, false, false, false, false, false, false, false, false, false, false, false, false]) rfl (by kernel_rfl) (by kernel_rfl) (by kernel_rfl) (fun _ _ _ h => h) (Sd.of (Mv.refl S50.at') [] rfl) rfl rfl rfl rfl (fun _ hz => ((r_remI (c := 3) rfl (by decide) rfl (F57.ev 64 rfl) rfl).trans (by rw [hrB]))) fun _ F58 => ?_
           obtain ⟨B59, O59, y59, ad59, hy59, oky59, ln59, cl59⟩ := Rd.atK (Nat.succ_pos _) (Rd.mq Z28 (S31.trans (S32.trans (S33.trans (S30.trans S50))))) rB (by first | assumption | omega)
           clear ln59
           obtain rfl := Option.some.inj (hx3.symm.trans hy59)
           clear hy59 oky59
           cases ad59
           refine g_take F58 rfl (i := 8) (listed' := #[false, true, true, true, true, true, true, true, true, false, false, false, false, false, false, false, false, false, false, false, false, false, false, false, false]) rfl (by kernel_rfl) (by kernel_rfl) (by kernel_rfl) (fun _ _ _ h => h) (Sd.of (Mv.refl S50.at') [] rfl) rfl rfl rfl rfl (fun _ hz => (r_indexAddr (i := rB) ET_25 rfl (F58.ev 59 rfl) (F58.ev 65 rfl) (by omega) (by first | assumption | omega))) fun _ F60 => ?_
           refine g_take (v := .string x3) F60 rfl (i := 9) (listed' := #[false, true, true, true, true, true, true, true, true, true, false, false, false, false, false, false, false, false, false, false, false, false, false, false, false]) rfl (by kernel_rfl) (by kernel_rfl) (by kernel_rfl) (fun _ _ _ h => h) (Sd.of (Mv.refl S50.at') [] rfl) rfl rfl rfl rfl (fun _ hz => (r_load (cs := [.string x3]) TI_9 rfl (F60.ev 66 rfl) rfl (fun _ => rfl) (elem_sub (f := 0) (cl59 _ hz.kp) [.string x3] rfl))) fun _ F61 => ?_
           refine g_take F61 rfl (i := 10) (listed' := #[false, true, true, true, true, true, true, true, true, true, true, false, false, false, false, false, false, false, false, false, false, false, false, false, false]) rfl (by kernel_rfl) (by kernel_rfl) (by kernel_rfl) (fun _ _ _ h => h) (Sd.of (Mv.refl S50.at') [] rfl) rfl rfl rfl rfl (fun _ hz => (r_move rfl (F61.ev 7 rfl))) fun _ F62 => ?_
           refine g_take F62 rfl (i := 11) (listed' := #[false, true, true, true, true, true, true, true, true, true, true, true, false, false, false, false, false, false, false, false, false, false, false, false, false]) rfl (by kernel_rfl) (by kernel_rfl) (by kernel_rfl) (fun _ _ _ h => h) (Sd.of (Mv.refl S50.at') [] rfl) rfl rfl rfl rfl (fun _ hz => (r_move rfl (F62.ev 3 rfl))) fun _ F63 => ?_
           refine g_take F63 rfl (i := 12) (listed' := #[false, true, true, true, true, true, true, true, true, true, true, true, true, false, false, false, false, false, false, false, false, false, false, false, false]) rfl (by kernel_rfl) (by kernel_rfl) (by kernel_rfl) (fun _ _ _ h => h) (Sd.of (Mv.refl S50.at') [] rfl) rfl rfl rfl rfl (fun _ hz => (r_move rfl (F63.ev 8 rfl))) fun _ F64 => ?_
           refine g_take F64 rfl (i := 13) (listed' := #[false, true, true, true, true, true, true, true, true, true, true, true, true, true, false, false, false, false, false, false, false, false, false, false, false]) rfl (by kernel_rfl) (by kernel_rfl) (by kernel_rfl) (fun _ _ _ h => h) (Sd.of (Mv.refl S50.at') [] rfl) rfl rfl rfl rfl (fun _ hz => (r_add (z := ((k + 1 : Nat) : Int)) rfl (F64.ev 70 rfl) rfl (by first | rfl | omega) ⟨by first | omega | (unfold i64ok at *; omega), by first | omega | (unfold i64ok at *; omega)⟩)) fun _ F65 => ?_
           obtain ⟨B66, O66, y66, ad66, hy66, oky66, ln66, cl66⟩ := Rd.atK (Nat.succ_pos _) (Rd.mq V8_0 (S11.trans (S13.trans (S19.trans (T24.trans (S25.trans (S28.trans (S31.trans (S32.trans (S33.trans (S30.trans S50))))))))))) (k + 1) (by first | assumption | omega)
           clear ln66
           obtain rfl := Option.some.inj (hx2.symm.trans hy66)
           clear hy66 oky66
           refine g_take F65 rfl (i := 14) (listed' := #[false, true, true, true, true, true, true, true, true, true, true, true, true, true, true, false, false, false, false, false, false, false, false, false, false]) rfl (by kernel_rfl) (by kernel_rfl) (by kernel_rfl) (fun _ _ _ h => h) (Sd.of (Mv.refl S50.at') [] rfl) rfl rfl rfl rfl (fun _ hz => (r_indexAddr (i := k + 1) ET_47 rfl ((F65.ev 69 rfl).trans (by rw [ad66])) (F65.ev 71 rfl) (by omega) (by first | assumption | omega))) fun _ F67 => ?_
           refine g_take (v := .int .i64 x2) F67 rfl (i := 15) (listed' := #[false, true, true, true, true, true, true, true, true, true, true, true, true, true, true, true, false, false, false, false, false, false, false, false, false]) rfl (by kernel_rfl) (by kernel_rfl) (by kernel_rfl) (fun _ _ _ h => h) (Sd.of (Mv.refl S50.at') [] rfl) rfl rfl rfl rfl (fun _ hz => (r_load (cs := [.int .i64 x2]) TI_3 rfl (F67.ev 72 rfl) rfl (fun _ => rfl) (elem_sub (f := 0) (cl66 _ hz.kp) [.int .i64 x2] rfl))) fun _ F68 => ?_
           refine g_take F68 rfl (i := 16) (listed' := #[false, true, true, true, true, true, true, true, true, true, true, true, true, true, true, true, true, false, false, false, false, false, false, false, false]) rfl (by kernel_rfl) (by kernel_rfl) (by kernel_rfl) (fun _ _ _ h => h) (Sd.of (Mv.refl S50.at') [] rfl) rfl rfl rfl rfl (fun _ hz => ((r_quoI (c := 3) rfl (by decide) ⟨by omega, by omega⟩ rfl (F68.ev 73 rfl) rfl).trans (by rw [hrC]))) fun _ F69 => ?_
           have rm70 := Nat.mod_lt rC (show 0 < 3 by decide)
           refine g_take F69 rfl (i := 17) (listed' := #[false, true, true, true, true, true, true, true, true, true, true, true, true, true, true, true, true, true, false, false, false, false, false, false, false]) rfl (by kernel_rfl) (by kernel_rfl) (by kernel_rfl) (fun _ _ _ h => h) (Sd.of (Mv.refl S50.at') [] rfl) rfl rfl rfl rfl (fun _ hz => (r_remK (c := 3) rfl (by decide) rfl (F69.ev 74 rfl) rfl)) fun _ F71 => ?_
           obtain ⟨B72, O72, y72, ad72, hy72, oky72, ln72, cl72⟩ := Rd.atK (Nat.succ_pos _) (Rd.mq Z28 (S31.trans (S32.trans (S33.trans (S30.trans S50))))) (rC % 3) (by first | assumption | omega)
           clear ln72
           obtain rfl := Option.some.inj (hx4.symm.trans hy72)
           clear hy72 oky72
           cases ad72
           refine g_take F71 rfl (i := 18) (listed' := #[false, true, true, true, true, true, true, true, true, true, true, true, true, true, true, true, true, true, true, false, false, false, false, false, false]) rfl (by kernel_rfl) (by kernel_rfl) (by kernel_rfl) (fun _ _ _ h => h) (Sd.of (Mv.refl S50.at') [] rfl) rfl rfl rfl rfl (fun _ hz => (r_indexAddr (i := rC % 3) ET_25 rfl (F71.ev 68 rfl) (F71.ev 75 rfl) (by omega) (by first | assumption | omega))) fun _ F73 => ?_
           refine g_take (v := .string x4) F73 rfl (i := 19) (listed' := #[false, true, true, true, true, true, true, true, true, true, true, true, true, true, true, true, true, true, true, true, false, false, false, false, false]) rfl (by kernel_rfl) (by kernel_rfl) (by kernel_rfl) (fun _ _ _ h => h) (Sd.of (Mv.refl S50.at') [] rfl) rfl rfl rfl rfl (fun _ hz => (r_load (cs := [.string x4]) TI_9 rfl (F73.ev 76 rfl) rfl (fun _ => rfl) (elem_sub (f := 0) (cl72 _ hz.kp) [.string x4] rfl))) fun _ F74 => ?_
           refine d_one (i := 0) (listed' := #[true, true, true, true, true, true, true, true, true, true, true, true, true, true, true, true, true, true, true, true, false, false, false, false, false]) rfl (by kernel_rfl) rfl rfl ?_
           refine f_val (v := .agg #[.slice sa sn sc, .slice ra rn rc, .slice ua un uc]) F74 rfl rfl (r_loadB S50.at' 0 TI_29 rfl rfl (F74.ev 4 rfl) rfl rfl (fun h => nomatch h) rfl) rfl fun _ F75 => ?_
           refine ⟨Sd.of (Mv.refl S50.at') [] rfl, ?_⟩
           refine d_one (i := 20) (listed' := #[true, true, true, true, true, true, true, true, true, true, true, true, true, true, true, true, true, true, true, true, true, false, false, false, false]) rfl (by kernel_rfl) rfl rfl ?_
           refine f_call F75 CF_26 rfl rfl rfl rfl (lc (F75.ev 58 rfl) (lc (F75.ev 67 rfl) (lc (F75.ev 77 rfl) rfl))) (impl_LinkName_c (m := M) (from_ := x3) (to_ := x4) (Rd.mq W30_0 S50) (Rd.mq W30_1 S50) (Rd.mq W30_2 S50) okx3 okx4 (Tb.mv V_tab0 (S3.trans (S8.trans (S11.trans (S13.trans (S19.trans (T24.trans (S25.trans (S28.trans (S31.trans (S32.trans (S33.trans (S30.trans S50))))))))))))) (Tb.mv V_tab1 (S3.trans (S8.trans (S11.trans (S13.trans (S19.trans (T24.trans (S25.trans (S28.trans (S31.trans (S32.trans (S33.trans (S30.trans S50))))))))))))) (by first | assumption | omega | ((first | apply b1_ | apply b2_ | apply b3_ | skip); (repeat (first | with_reducible apply b4_ | with_reducible apply b5_ | with_reducible apply b6_ | with_reducible refine bdC.mn ?_ | with_reducible refine bdC.fo ?_)); exact bdC.le ‹_› (by first | decide | omega)) | decide | exact Nat.le_trans (keyNum_size _ _ ‹_›) (by decide) | exact Nat.le_trans (keyNum_size _ _ ⟨by omega, by omega⟩) (by decide))) ?_
           rintro _ w76 ⟨Q34, Q44, Q39, Q19, Q29, Q24, Q4, Q14, Q9, rfl, m76⟩
           refine ⟨_, rfl, fun _ F77 => ?_⟩
           have S76 : Mv _ _ [ow 73 2 encC okC (.slice Q34 Q44 Q39) (lnM M x3 x4).store, ow 9 1 encS okS (.slice Q19 Q29 Q24) (lnM M x3 x4).touch.reads, ow 9 1 encS okS (.slice Q4 Q14 Q9) (lnM M x3 x4).touch.writes, bx b19 [.slice sa sn sc, .slice ra rn rc, .slice ua un uc] 29] _ := At.frame S50.at' [] rfl m76
           obtain ⟨Q172, Q224, Q276⟩ := At.ownInv S76.at' ET_24.hk 0 rfl
           obtain ⟨Q173, Q225, Q277⟩ := At.ownInv S76.at' ET_25.hk 1 rfl
           obtain ⟨Q174, Q226, Q278⟩ := At.ownInv S76.at' ET_25.hk 2 rfl
           clear m76
           refine ⟨Sd.of S76 [] rfl, ?_⟩
           refine g_take F77 rfl (i := 21) (listed' := #[true, true, true, true, true, true, true, true, true, true, true, true, true, true, true, true, true, true, true, true, true, true, false, false, false]) rfl (by kernel_rfl) (by kernel_rfl) (by kernel_rfl) (fun _ _ _ h => h) (Sd.of S76 [] rfl) rfl rfl rfl rfl (fun _ hz => (r_move rfl (F77.ev 78 rfl))) fun _ F78 => ?_
           refine g_take (v := .agg #[.slice Q34 Q44 Q39, .slice Q19 Q29 Q24, .slice Q4 Q14 Q9]) F78 rfl (i := 22) (listed' := #[true, true, true, true, true, true, true, true, true, true, true, true, true, true, true, true, true, true, true, true, true, true, true, false, false]) rfl (by kernel_rfl) (by kernel_rfl) (by kernel_rfl) (fun _ _ _ h => h) (Sd.of S76 [] rfl) rfl rfl rfl rfl (fun _ hz => (r_extract rfl (F78.ev 57 rfl) rfl)) fun _ F79 => ?_
           refine g_take (v := .int .i64 (lnC M x3 x4)) F79 rfl (i := 23) (listed' := #[true, true, true, true, true, true, true, true, true, true, true, true, true, true, true, true, true, true, true, true, true, true, true, true, false]) rfl (by kernel_rfl) (by kernel_rfl) (by kernel_rfl) (fun _ _ _ h => h) (Sd.of S76 [] rfl) rfl rfl rfl rfl (fun _ hz => (r_extract rfl (F79.ev 57 rfl) rfl)) fun _ F80 => ?_
           refine d_one (i := 24) (listed' := #[true, true, true, true, true, true, true, true, true, true, true, true, true, true, true, true, true, true, true, true, true, true, true, true, true]) rfl (by kernel_rfl) rfl rfl ?_
           refine s_store S76.at' 3 TI_29 rfl rfl rfl rfl rfl (F80.ev 4 rfl) (F80.ev 79 rfl) rfl rfl rfl rfl rfl fun w81 S81 => ?_
           refine ⟨Sd.of (S76.trans S81) [] rfl, ?_⟩
           refine wpAnyH_done (by kernel_rfl) (x_normal ?_) _
           exact ⟨Q34, Q44, Q39, Q19, Q29, Q24, Q4, Q14, Q9, F80.cut rfl, ((S50.trans (S76.trans S81)).pick [0, 1, 2, 3] rfl)⟩
         · rintro a82 w82 ⟨Q34, Q44, Q39, Q19, Q29, Q24, Q4, Q14, Q9, F82, S82⟩
           obtain ⟨Q175, Q227, Q279⟩ := At.ownInv S82.at' ET_24.hk 1 rfl
           obtain ⟨Q176, Q228, Q280⟩ := At.ownInv S82.at' ET_25.hk 2 rfl
           obtain ⟨Q177, Q229, Q281⟩ := At.ownInv S82.at' ET_25.hk 3 rfl
           refine x_block_normal (x_block_normal (x_normal (wp_region_lit (l_op (f_mv F82 rfl rfl rfl rfl rfl fun _ F83 => ?_)))))
           refine l_op (f_val F83 rfl rfl (r_add (z := ((k + 1 : Nat) : Int)) rfl (F83.ev 33 rfl) rfl (by first | rfl | omega) ⟨by first | omega | (unfold i64ok at *; omega), by first | omega | (unfold i64ok at *; omega)⟩) rfl fun _ F84 => ?_)
           refine l_op (f_as F84 rfl rfl rfl rfl rfl fun _ F85 => ?_)
           refine s_end ?_
           have Z86 : Rd 2 encC okC (V H w [bx b19 [.slice Q34 Q44 Q39, .slice Q19 Q29 Q24, .slice Q4 Q14 Q9] 29, ow 9 1 encS okS (.slice Q19 Q29 Q24) (lnM M x3 x4).touch.reads, ow 9 1 encS okS (.slice Q4 Q14 Q9) (lnM M x3 x4).touch.writes]) w82 (.slice Q34 Q44 Q39) (lnM M x3 x4).store := At.freeze (S3.trans (S8.trans (S11.trans (S13.trans (S19.trans (T24.trans (S25.trans (S28.trans (S31.trans (S32.trans (S33.trans (S30.trans S82)))))))))))) ET_24.hk 1 rfl (fun b hb => ((S3.trans (S8.trans (S11.trans (S13.trans (S19.trans (T24.trans (S25.trans (S28.trans (S31.trans (S32.trans (S33.trans (S30.trans S82)))))))))))).fresh b ⟨_, nth_mem (i := 1) rfl, hb⟩).resolve_left (fps_nil _))
           have S86 := At.drop S82.at' 1
           have Z87 : Rd 1 encS okS (V H w [bx b19 [.slice Q34 Q44 Q39, .slice Q19 Q29 Q24, .slice Q4 Q14 Q9] 29, ow 9 1 encS okS (.slice Q4 Q14 Q9) (lnM M x3 x4).touch.writes]) w82 (.slice Q19 Q29 Q24) (lnM M x3 x4).touch.reads := At.freeze (S3.trans (S8.trans (S11.trans (S13.trans (S19.trans (T24.trans (S25.trans (S28.trans (S31.trans (S32.trans (S33.trans (S30.trans (S82.trans S86))))))))))))) ET_25.hk 1 rfl (fun b hb => ((S3.trans (S8.trans (S11.trans (S13.trans (S19.trans (T24.trans (S25.trans (S28.trans (S31.trans (S32.trans (S33.trans (S30.trans (S82.trans S86))))))))))))).fresh b ⟨_, nth_mem (i := 1) rfl, hb⟩).resolve_left (fps_nil _))
           have S87 := At.drop S86.at' 1
           have Z88 : Rd 1 encS okS (V H w [bx b19 [.slice Q34 Q44 Q39, .slice Q19 Q29 Q24, .slice Q4 Q14 Q9] 29]) w82 (.slice Q4 Q14 Q9) (lnM M x3 x4).touch.writes := At.freeze (S3.trans (S8.trans (S11.trans (S13.trans (S19.trans (T24.trans (S25.trans (S28.trans (S31.trans (S32.trans (S33.trans (S30.trans (S82.trans (S86.trans S87)))))))))))))) ET_25.hk 1 rfl (fun b hb => ((S3.trans (S8.trans (S11.trans (S13.trans (S19.trans (T24.trans (S25.trans (S28.trans (S31.trans (S32.trans (S33.trans (S30.trans (S82.trans (S86.trans S87)))))))))))))).fresh b ⟨_, nth_mem (i := 1) rfl, hb⟩).resolve_left (fps_nil _))
           have S88 := At.drop S87.at' 1
           refine x_normal ⟨k + 1, by omega, (lnM M x3 x4), Q34, Q44, Q39, Q19, Q29, Q24, Q4, Q14, Q9, F85.cut rfl, ((S30.trans (S82.trans (S86.trans (S87.trans S88)))).pick [0] rfl), (Rd.mq Z86 (S87.trans S88)), (Rd.mq Z87 S88), Z88, by first | with_reducible exact hk_0.link (by omega) hx3 hx4 | with_reducible exact hk_0.rename (by omega) hx3 hx4 | with_reducible exact hk_0.unlink (by omega) hx3 | with_reducible exact hk_0.make (by omega) hx3, by omega⟩
       · skip
         refine wp_seq (wp_region_lit (l_op (f_val F45 rfl rfl (r_cmp (b := decide (r42 = 1)) (.inl rfl) rfl (F45.ev 39 rfl) rfl (dec_of (by omega))) rfl fun _ F89 => ?_)))
         refine l_op (f_as F89 rfl rfl rfl rfl rfl fun _ F90 => ?_)
         refine s_end (x_normal (x_cond (p := r42 = 1) (F90.ev 81 rfl) (fun h91 => ?_) (fun h91 => ?_)))
         · skip
           obtain ⟨x2, hx2, okx2⟩ := Rd.elem (Rd.mq V8_0 (S11.trans (S13.trans (S19.trans (T24.trans (S25.trans (S28.trans (S31.trans (S32.trans (S33.trans S30)))))))))) (k + 1) (by omega)
           have pb92 := pOk_at ‹_› hx2
           obtain ⟨rB, hrB, lrB⟩ := rem_nat (c := 3) pb92 (by decide)
           obtain ⟨x3, hx3, okx3⟩ := Rd.elem (Rd.mq Z28 (S31.trans (S32.trans (S33.trans S30)))) rB (by omega)
           refine x_draw (fun aZ wZ => ∃ (Q30 : Option Addr), ∃ (Q40 : Nat), ∃ (Q35 : Nat), ∃ (Q15 : Option Addr), ∃ (Q25 : Nat), ∃ (Q20 : Nat), ∃ (Q0 : Option Addr), ∃ (Q10 : Nat), ∃ (Q5 : Nat), Fr 172 [(3, .slice Q72 Q74 Q73), (4, .pointer (some ⟨b19, 0, none⟩)), (5, .int .i64 ((mnI (⟨[], (⟨[], []⟩ : TouchD)⟩ : MachD) (⟨#[120]⟩ : ByteArray) : Nat) : Int)), (7, .slice (some ⟨b25, 0, none⟩) 3 3), (8, .int .i64 ((k : Nat) : Int))] aZ ∧ Mv [bx b19 [.slice sa sn sc, .slice ra rn rc, .slice ua un uc] 29] w30 [bx b19 [.slice Q30 Q40 Q35, .slice Q15 Q25 Q20, .slice Q0 Q10 Q5] 29, ow 73 2 encC okC (.slice Q30 Q40 Q35) (ulM M x3).store, ow 9 1 encS okS (.slice Q15 Q25 Q20) (ulM M x3).touch.reads, ow 9 1 encS okS (.slice Q0 Q10 Q5) (ulM M x3).touch.writes] wZ) [] mixed S30.at' (listed := #[false, false, false, false, false, false, false, false, false, false, false, false, false, false, false]) rfl (fun w94 S94 => ?_) [] rfl ?_
           · skip
             refine g_take F90 rfl (i := 1) (listed' := #[false, true, false, false, false, false, false, false, false, false, false, false, false, false, false]) rfl (by kernel_rfl) (by kernel_rfl) (by kernel_rfl) (fun _ _ _ h => h) (Sd.of (Mv.refl S94.at') [] rfl) rfl rfl rfl rfl (fun _ hz => (r_move rfl (F90.ev 7 rfl))) fun _ F95 => ?_
             refine g_take F95 rfl (i := 2) (listed' := #[false, true, true, false, false, false, false, false, false, false, false, false, false, false, false]) rfl (by kernel_rfl) (by kernel_rfl) (by kernel_rfl) (fun _ _ _ h => h) (Sd.of (Mv.refl S94.at') [] rfl) rfl rfl rfl rfl (fun _ hz => (r_move rfl (F95.ev 3 rfl))) fun _ F96 => ?_
             refine g_take F96 rfl (i := 3) (listed' := #[false, true, true, true, false, false, false, false, false, false, false, false, false, false, false]) rfl (by kernel_rfl) (by kernel_rfl) (by kernel_rfl) (fun _ _ _ h => h) (Sd.of (Mv.refl S94.at') [] rfl) rfl rfl rfl rfl (fun _ hz => (r_move rfl (F96.ev 8 rfl))) fun _ F97 => ?_
             refine g_take F97 rfl (i := 4) (listed' := #[false, true, true, true, true, false, false, false, false, false, false, false, false, false, false]) rfl (by kernel_rfl) (by kernel_rfl) (by kernel_rfl) (fun _ _ _ h => h) (Sd.of (Mv.refl S94.at') [] rfl) rfl rfl rfl rfl (fun _ hz => (r_add (z := ((k + 1 : Nat) : Int)) rfl (F97.ev 87 rfl) rfl (by first | rfl | omega) ⟨by first | omega | (unfold i64ok at *; omega), by first | omega | (unfold i64ok at *; omega)⟩)) fun _ F98 => ?_
             obtain ⟨B99, O99, y99, ad99, hy99, oky99, ln99, cl99⟩ := Rd.atK (Nat.succ_pos _) (Rd.mq V8_0 (S11.trans (S13.trans (S19.trans (T24.trans (S25.trans (S28.trans (S31.trans (S32.trans (S33.trans (S30.trans S94))))))))))) (k + 1) (by first | assumption | omega)
             clear ln99
             obtain rfl := Option.some.inj (hx2.symm.trans hy99)
             clear hy99 oky99
             refine g_take F98 rfl (i := 5) (listed' := #[false, true, true, true, true, true, false, false, false, false, false, false, false, false, false]) rfl (by kernel_rfl) (by kernel_rfl) (by kernel_rfl) (fun _ _ _ h => h) (Sd.of (Mv.refl S94.at') [] rfl) rfl rfl rfl rfl (fun _ hz => (r_indexAddr (i := k + 1) ET_47 rfl ((F98.ev 86 rfl).trans (by rw [ad99])) (F98.ev 88 rfl) (by omega) (by first | assumption | omega))) fun _ F100 => ?_
             refine g_take (v := .int .i64 x2) F100 rfl (i := 6) (listed' := #[false, true, true, true, true, true, true, false, false, false, false, false, false, false, false]) rfl (by kernel_rfl) (by kernel_rfl) (by kernel_rfl) (fun _ _ _ h => h) (Sd.of (Mv.refl S94.at') [] rfl) rfl rfl rfl rfl (fun _ hz => (r_load (cs := [.int .i64 x2]) TI_3 rfl (F100.ev 89 rfl) rfl (fun _ => rfl) (elem_sub (f := 0) (cl99 _ hz.kp) [.int .i64 x2] rfl))) fun _ F101 => ?_
             refine g_take F101 rfl (i := 7) (listed' := #[false, true, true, true, true, true, true, true, false, false, false, false, false, false, false]) rfl (by kernel_rfl) (by kernel_rfl) (by kernel_rfl) (fun _ _ _ h => h) (Sd.of (Mv.refl S94.at') [] rfl) rfl rfl rfl rfl (fun _ hz => ((r_remI (c := 3) rfl (by decide) rfl (F101.ev 90 rfl) rfl).trans (by rw [hrB]))) fun _ F102 => ?_
             obtain ⟨B103, O103, y103, ad103, hy103, oky103, ln103, cl103⟩ := Rd.atK (Nat.succ_pos _) (Rd.mq Z28 (S31.trans (S32.trans (S33.trans (S30.trans S94))))) rB (by first | assumption | omega)
             clear ln103
             obtain rfl := Option.some.inj (hx3.symm.trans hy103)
             clear hy103 oky103
             cases ad103
             refine g_take F102 rfl (i := 8) (listed' := #[false, true, true, true, true, true, true, true, true, false, false, false, false, false, false]) rfl (by kernel_rfl) (by kernel_rfl) (by kernel_rfl) (fun _ _ _ h => h) (Sd.of (Mv.refl S94.at') [] rfl) rfl rfl rfl rfl (fun _ hz => (r_indexAddr (i := rB) ET_25 rfl (F102.ev 85 rfl) (F102.ev 91 rfl) (by omega) (by first | assumption | omega))) fun _ F104 => ?_
             refine g_take (v := .string x3) F104 rfl (i := 9) (listed' := #[false, true, true, true, true, true, true, true, true, true, false, false, false, false, false]) rfl (by kernel_rfl) (by kernel_rfl) (by kernel_rfl) (fun _ _ _ h => h) (Sd.of (Mv.refl S94.at') [] rfl) rfl rfl rfl rfl (fun _ hz => (r_load (cs := [.string x3]) TI_9 rfl (F104.ev 92 rfl) rfl (fun _ => rfl) (elem_sub (f := 0) (cl103 _ hz.kp) [.string x3] rfl))) fun _ F105 => ?_
             refine d_one (i := 0) (listed' := #[true, true, true, true, true, true, true, true, true, true, false, false, false, false, false]) rfl (by kernel_rfl) rfl rfl ?_
             refine f_val (v := .agg #[.slice sa sn sc, .slice ra rn rc, .slice ua un uc]) F105 rfl rfl (r_loadB S94.at' 0 TI_29 rfl rfl (F105.ev 4 rfl) rfl rfl (fun h => nomatch h) rfl) rfl fun _ F106 => ?_
             refine ⟨Sd.of (Mv.refl S94.at') [] rfl, ?_⟩
             refine d_one (i := 10) (listed' := #[true, true, true, true, true, true, true, true, true, true, true, false, false, false, false]) rfl (by kernel_rfl) rfl rfl ?_
             refine f_call F106 CF_27 rfl rfl rfl rfl (lc (F106.ev 84 rfl) (lc (F106.ev 93 rfl) rfl)) (impl_UnlinkName_c (m := M) (name := x3) (Rd.mq W30_0 S94) (Rd.mq W30_1 S94) (Rd.mq W30_2 S94) okx3 (Tb.mv V_tab0 (S3.trans (S8.trans (S11.trans (S13.trans (S19.trans (T24.trans (S25.trans (S28.trans (S31.trans (S32.trans (S33.trans (S30.trans S94))))))))))))) (Tb.mv V_tab1 (S3.trans (S8.trans (S11.trans (S13.trans (S19.trans (T24.trans (S25.trans (S28.trans (S31.trans (S32.trans (S33.trans (S30.trans S94))))))))))))) (by first | assumption | omega | ((first | apply b1_ | apply b2_ | apply b3_ | skip); (repeat (first | with_reducible apply b4_ | with_reducible apply b5_ | with_reducible apply b6_ | with_reducible refine bdC.mn ?_ | with_reducible refine bdC.fo ?_)); exact bdC.le ‹_› (by first | decide | omega)) | decide | exact Nat.le_trans (keyNum_size _ _ ‹_›) (by decide) | exact Nat.le_trans (keyNum_size _ _ ⟨by omega, by omega⟩) (by decide))) ?_
             rintro _ w107 ⟨Q30, Q40, Q35, Q15, Q25, Q20, Q0, Q10, Q5, rfl, m107⟩
             refine ⟨_, rfl, fun _ F108 => ?_⟩
             have S107 : Mv _ _ [ow 73 2 encC okC (.slice Q30 Q40 Q35) (ulM M x3).store, ow 9 1 encS okS (.slice Q15 Q25 Q20) (ulM M x3).touch.reads, ow 9 1 encS okS (.slice Q0 Q10 Q5) (ulM M x3).touch.writes, bx b19 [.slice sa sn sc, .slice ra rn rc, .slice ua un uc] 29] _ := At.frame S94.at' [] rfl m107
             obtain ⟨Q126, Q178, Q230⟩ := At.ownInv S107.at' ET_24.hk 0 rfl
             obtain ⟨Q127, Q179, Q231⟩ := At.ownInv S107.at' ET_25.hk 1 rfl
             obtain ⟨Q128, Q180, Q232⟩ := At.ownInv S107.at' ET_25.hk 2 rfl
             clear m107
             refine ⟨Sd.of S107 [] rfl, ?_⟩
             refine g_take F108 rfl (i := 11) (listed' := #[true, true, true, true, true, true, true, true, true, true, true, true, false, false, false]) rfl (by kernel_rfl) (by kernel_rfl) (by kernel_rfl) (fun _ _ _ h => h) (Sd.of S107 [] rfl) rfl rfl rfl rfl (fun _ hz => (r_move rfl (F108.ev 94 rfl))) fun _ F109 => ?_
             refine g_take (v := .agg #[.slice Q30 Q40 Q35, .slice Q15 Q25 Q20, .slice Q0 Q10 Q5]) F109 rfl (i := 12) (listed' := #[true, true, true, true, true, true, true, true, true, true, true, true, true, false, false]) rfl (by kernel_rfl) (by kernel_rfl) (by kernel_rfl) (fun _ _ _ h => h) (Sd.of S107 [] rfl) rfl rfl rfl rfl (fun _ hz => (r_extract rfl (F109.ev 83 rfl) rfl)) fun _ F110 => ?_
             refine g_take (v := .int .i64 (ulC M x3)) F110 rfl (i := 13) (listed' := #[true, true, true, true, true, true, true, true, true, true, true, true, true, true, false]) rfl (by kernel_rfl) (by kernel_rfl) (by kernel_rfl) (fun _ _ _ h => h) (Sd.of S107 [] rfl) rfl rfl rfl rfl (fun _ hz => (r_extract rfl (F110.ev 83 rfl) rfl)) fun _ F111 => ?_
             refine d_one (i := 14) (listed' := #[true, true, true, true, true, true, true, true, true, true, true, true, true, true, true]) rfl (by kernel_rfl) rfl rfl ?_
             refine s_store S107.at' 3 TI_29 rfl rfl rfl rfl rfl (F111.ev 4 rfl) (F111.ev 95 rfl) rfl rfl rfl rfl rfl fun w112 S112 => ?_
             refine ⟨Sd.of (S107.trans S112) [] rfl, ?_⟩
             refine wpAnyH_done (by kernel_rfl) (x_normal ?_) _
             exact ⟨Q30, Q40, Q35, Q15, Q25, Q20, Q0, Q10, Q5, F111.cut rfl, ((S94.trans (S107.trans S112)).pick [0, 1, 2, 3] rfl)⟩
           · rintro a113 w113 ⟨Q30, Q40, Q35, Q15, Q25, Q20, Q0, Q10, Q5, F113, S113⟩
             obtain ⟨Q129, Q181, Q233⟩ := At.ownInv S113.at' ET_24.hk 1 rfl
             obtain ⟨Q130, Q182, Q234⟩ := At.ownInv S113.at' ET_25.hk 2 rfl
             obtain ⟨Q131, Q183, Q235⟩ := At.ownInv S113.at' ET_25.hk 3 rfl
             refine x_block_normal (x_block_normal (x_normal (wp_region_lit (l_op (f_mv F113 rfl rfl rfl rfl rfl fun _ F114 => ?_)))))
             refine l_op (f_val F114 rfl rfl (r_add (z := ((k + 1 : Nat) : Int)) rfl (F114.ev 33 rfl) rfl (by first | rfl | omega) ⟨by first | omega | (unfold i64ok at *; omega), by first | omega | (unfold i64ok at *; omega)⟩) rfl fun _ F115 => ?_)
             refine l_op (f_as F115 rfl rfl rfl rfl rfl fun _ F116 => ?_)
             refine s_end ?_
             have Z117 : Rd 2 encC okC (V H w [bx b19 [.slice Q30 Q40 Q35, .slice Q15 Q25 Q20, .slice Q0 Q10 Q5] 29, ow 9 1 encS okS (.slice Q15 Q25 Q20) (ulM M x3).touch.reads, ow 9 1 encS okS (.slice Q0 Q10 Q5) (ulM M x3).touch.writes]) w113 (.slice Q30 Q40 Q35) (ulM M x3).store := At.freeze (S3.trans (S8.trans (S11.trans (S13.trans (S19.trans (T24.trans (S25.trans (S28.trans (S31.trans (S32.trans (S33.trans (S30.trans S113)))))))))))) ET_24.hk 1 rfl (fun b hb => ((S3.trans (S8.trans (S11.trans (S13.trans (S19.trans (T24.trans (S25.trans (S28.trans (S31.trans (S32.trans (S33.trans (S30.trans S113)))))))))))).fresh b ⟨_, nth_mem (i := 1) rfl, hb⟩).resolve_left (fps_nil _))
             have S117 := At.drop S113.at' 1
             have Z118 : Rd 1 encS okS (V H w [bx b19 [.slice Q30 Q40 Q35, .slice Q15 Q25 Q20, .slice Q0 Q10 Q5] 29, ow 9 1 encS okS (.slice Q0 Q10 Q5) (ulM M x3).touch.writes]) w113 (.slice Q15 Q25 Q20) (ulM M x3).touch.reads := At.freeze (S3.trans (S8.trans (S11.trans (S13.trans (S19.trans (T24.trans (S25.trans (S28.trans (S31.trans (S32.trans (S33.trans (S30.trans (S113.trans S117))))))))))))) ET_25.hk 1 rfl (fun b hb => ((S3.trans (S8.trans (S11.trans (S13.trans (S19.trans (T24.trans (S25.trans (S28.trans (S31.trans (S32.trans (S33.trans (S30.trans (S113.trans S117))))))))))))).fresh b ⟨_, nth_mem (i := 1) rfl, hb⟩).resolve_left (fps_nil _))
             have S118 := At.drop S117.at' 1
             have Z119 : Rd 1 encS okS (V H w [bx b19 [.slice Q30 Q40 Q35, .slice Q15 Q25 Q20, .slice Q0 Q10 Q5] 29]) w113 (.slice Q0 Q10 Q5) (ulM M x3).touch.writes := At.freeze (S3.trans (S8.trans (S11.trans (S13.trans (S19.trans (T24.trans (S25.trans (S28.trans (S31.trans (S32.trans (S33.trans (S30.trans (S113.trans (S117.trans S118)))))))))))))) ET_25.hk 1 rfl (fun b hb => ((S3.trans (S8.trans (S11.trans (S13.trans (S19.trans (T24.trans (S25.trans (S28.trans (S31.trans (S32.trans (S33.trans (S30.trans (S113.trans (S117.trans S118)))))))))))))).fresh b ⟨_, nth_mem (i := 1) rfl, hb⟩).resolve_left (fps_nil _))
             have S119 := At.drop S118.at' 1
             refine x_normal ⟨k + 1, by omega, (ulM M x3), Q30, Q40, Q35, Q15, Q25, Q20, Q0, Q10, Q5, F116.cut rfl, ((S30.trans (S113.trans (S117.trans (S118.trans S119)))).pick [0] rfl), (Rd.mq Z117 (S118.trans S119)), (Rd.mq Z118 S119), Z119, by first | with_reducible exact hk_0.link (by omega) hx3 hx4 | with_reducible exact hk_0.rename (by omega) hx3 hx4 | with_reducible exact hk_0.unlink (by omega) hx3 | with_reducible exact hk_0.make (by omega) hx3, by omega⟩
         · skip
           refine wp_seq (wp_region_lit (l_op (f_val F90 rfl rfl (r_cmp (b := decide (r42 = 2)) (.inl rfl) rfl (F90.ev 39 rfl) rfl (dec_of (by omega))) rfl fun _ F120 => ?_)))
           refine l_op (f_as F120 rfl rfl rfl rfl rfl fun _ F121 => ?_)
           refine s_end (x_normal (x_cond (p := r42 = 2) (F121.ev 97 rfl) (fun h122 => ?_) (fun h122 => ?_)))
           · skip
             obtain ⟨x2, hx2, okx2⟩ := Rd.elem (Rd.mq V8_0 (S11.trans (S13.trans (S19.trans (T24.trans (S25.trans (S28.trans (S31.trans (S32.trans (S33.trans S30)))))))))) (k + 1) (by omega)
             have pb123 := pOk_at ‹_› hx2
             obtain ⟨rB, hrB, lrB⟩ := rem_nat (c := 3) pb123 (by decide)
             have pb124 := pOk_at ‹_› hx2
             obtain ⟨rC, hrC, lrC⟩ := quo_nat (c := 3) pb124 (by decide)
             obtain ⟨x3, hx3, okx3⟩ := Rd.elem (Rd.mq Z28 (S31.trans (S32.trans (S33.trans S30)))) rB (by omega)
             obtain ⟨x4, hx4, okx4⟩ := Rd.elem (Rd.mq Z28 (S31.trans (S32.trans (S33.trans S30)))) (rC % 3) (by omega)
             refine x_draw (fun aZ wZ => ∃ (Q32 : Option Addr), ∃ (Q42 : Nat), ∃ (Q37 : Nat), ∃ (Q17 : Option Addr), ∃ (Q27 : Nat), ∃ (Q22 : Nat), ∃ (Q2 : Option Addr), ∃ (Q12 : Nat), ∃ (Q7 : Nat), Fr 172 [(3, .slice Q72 Q74 Q73), (4, .pointer (some ⟨b19, 0, none⟩)), (5, .int .i64 ((mnI (⟨[], (⟨[], []⟩ : TouchD)⟩ : MachD) (⟨#[120]⟩ : ByteArray) : Nat) : Int)), (7, .slice (some ⟨b25, 0, none⟩) 3 3), (8, .int .i64 ((k : Nat) : Int))] aZ ∧ Mv [bx b19 [.slice sa sn sc, .slice ra rn rc, .slice ua un uc] 29] w30 [bx b19 [.slice Q32 Q42 Q37, .slice Q17 Q27 Q22, .slice Q2 Q12 Q7] 29, ow 73 2 encC okC (.slice Q32 Q42 Q37) (rnM M x3 x4).store, ow 9 1 encS okS (.slice Q17 Q27 Q22) (rnM M x3 x4).touch.reads, ow 9 1 encS okS (.slice Q2 Q12 Q7) (rnM M x3 x4).touch.writes] wZ) [] mixed S30.at' (listed := #[false, false, false, false, false, false, false, false, false, false, false, false, false, false, false, false, false, false, false, false, false, false, false, false, false]) rfl (fun w126 S126 => ?_) [] rfl ?_
             · skip
               refine g_take F121 rfl (i := 1) (listed' := #[false, true, false, false, false, false, false, false, false, false, false, false, false, false, false, false, false, false, false, false, false, false, false, false, false]) rfl (by kernel_rfl) (by kernel_rfl) (by kernel_rfl) (fun _ _ _ h => h) (Sd.of (Mv.refl S126.at') [] rfl) rfl rfl rfl rfl (fun _ hz => (r_move rfl (F121.ev 7 rfl))) fun _ F127 => ?_
               refine g_take F127 rfl (i := 2) (listed' := #[false, true, true, false, false, false, false, false, false, false, false, false, false, false, false, false, false, false, false, false, false, false, false, false, false]) rfl (by kernel_rfl) (by kernel_rfl) (by kernel_rfl) (fun _ _ _ h => h) (Sd.of (Mv.refl S126.at') [] rfl) rfl rfl rfl rfl (fun _ hz => (r_move rfl (F127.ev 3 rfl))) fun _ F128 => ?_
               refine g_take F128 rfl (i := 3) (listed' := #[false, true, true, true, false, false, false, false, false, false, false, false, false, false, false, false, false, false, false, false, false, false, false, false, false]) rfl (by kernel_rfl) (by kernel_rfl) (by kernel_rfl) (fun _ _ _ h => h) (Sd.of (Mv.refl S126.at') [] rfl) rfl rfl rfl rfl (fun _ hz => (r_move rfl (F128.ev 8 rfl))) fun _ F129 => ?_
               refine g_take F129 rfl (i := 4) (listed' := #[false, true, true, true, true, false, false, false, false, false, false, false, false, false, false, false, false, false, false, false, false, false, false, false, false]) rfl (by kernel_rfl) (by kernel_rfl) (by kernel_rfl) (fun _ _ _ h => h) (Sd.of (Mv.refl S126.at') [] rfl) rfl rfl rfl rfl (fun _ hz => (r_add (z := ((k + 1 : Nat) : Int)) rfl (F129.ev 103 rfl) rfl (by first | rfl | omega) ⟨by first | omega | (unfold i64ok at *; omega), by first | omega | (unfold i64ok at *; omega)⟩)) fun _ F130 => ?_
               obtain ⟨B131, O131, y131, ad131, hy131, oky131, ln131, cl131⟩ := Rd.atK (Nat.succ_pos _) (Rd.mq V8_0 (S11.trans (S13.trans (S19.trans (T24.trans (S25.trans (S28.trans (S31.trans (S32.trans (S33.trans (S30.trans S126))))))))))) (k + 1) (by first | assumption | omega)
               clear ln131
               obtain rfl := Option.some.inj (hx2.symm.trans hy131)
               clear hy131 oky131
               refine g_take F130 rfl (i := 5) (listed' := #[false, true, true, true, true, true, false, false, false, false, false, false, false, false, false, false, false, false, false, false, false, false, false, false, false]) rfl (by kernel_rfl) (by kernel_rfl) (by kernel_rfl) (fun _ _ _ h => h) (Sd.of (Mv.refl S126.at') [] rfl) rfl rfl rfl rfl (fun _ hz => (r_indexAddr (i := k + 1) ET_47 rfl ((F130.ev 102 rfl).trans (by rw [ad131])) (F130.ev 104 rfl) (by omega) (by first | assumption | omega))) fun _ F132 => ?_
               refine g_take (v := .int .i64 x2) F132 rfl (i := 6) (listed' := #[false, true, true, true, true, true, true, false, false, false, false, false, false, false, false, false, false, false, false, false, false, false, false, false, false]) rfl (by kernel_rfl) (by kernel_rfl) (by kernel_rfl) (fun _ _ _ h => h) (Sd.of (Mv.refl S126.at') [] rfl) rfl rfl rfl rfl (fun _ hz => (r_load (cs := [.int .i64 x2]) TI_3 rfl (F132.ev 105 rfl) rfl (fun _ => rfl) (elem_sub (f := 0) (cl131 _ hz.kp) [.int .i64 x2] rfl))) fun _ F133 => ?_
               refine g_take F133 rfl (i := 7) (listed' := #[false, true, true, true, true, true, true, true, false, false, false, false, false, false, false, false, false, false, false, false, false, false, false, false, false]) rfl (by kernel_rfl) (by kernel_rfl) (by kernel_rfl) (fun _ _ _ h => h) (Sd.of (Mv.refl S126.at') [] rfl) rfl rfl rfl rfl (fun _ hz => ((r_remI (c := 3) rfl (by decide) rfl (F133.ev 106 rfl) rfl).trans (by rw [hrB]))) fun _ F134 => ?_
               obtain ⟨B135, O135, y135, ad135, hy135, oky135, ln135, cl135⟩ := Rd.atK (Nat.succ_pos _) (Rd.mq Z28 (S31.trans (S32.trans (S33.trans (S30.trans S126))))) rB (by first | assumption | omega)
               clear ln135
               obtain rfl := Option.some.inj (hx3.symm.trans hy135)
               clear hy135 oky135
               cases ad135
               refine g_take F134 rfl (i := 8) (listed' := #[false, true, true, true, true, true, true, true, true, false, false, false, false, false, false, false, false, false, false, false, false, false, false, false, false]) rfl (by kernel_rfl) (by kernel_rfl) (by kernel_rfl) (fun _ _ _ h => h) (Sd.of (Mv.refl S126.at') [] rfl) rfl rfl rfl rfl (fun _ hz => (r_indexAddr (i := rB) ET_25 rfl (F134.ev 101 rfl) (F134.ev 107 rfl) (by omega) (by first | assumption | omega))) fun _ F136 => ?_
               refine g_take (v := .string x3) F136 rfl (i := 9) (listed' := #[false, true, true, true, true, true, true, true, true, true, false, false, false, false, false, false, false, false, false, false, false, false, false, false, false]) rfl (by kernel_rfl) (by kernel_rfl) (by kernel_rfl) (fun _ _ _ h => h) (Sd.of (Mv.refl S126.at') [] rfl) rfl rfl rfl rfl (fun _ hz => (r_load (cs := [.string x3]) TI_9 rfl (F136.ev 108 rfl) rfl (fun _ => rfl) (elem_sub (f := 0) (cl135 _ hz.kp) [.string x3] rfl))) fun _ F137 => ?_
               refine g_take F137 rfl (i := 10) (listed' := #[false, true, true, true, true, true, true, true, true, true, true, false, false, false, false, false, false, false, false, false, false, false, false, false, false]) rfl (by kernel_rfl) (by kernel_rfl) (by kernel_rfl) (fun _ _ _ h => h) (Sd.of (Mv.refl S126.at') [] rfl) rfl rfl rfl rfl (fun _ hz => (r_move rfl (F137.ev 7 rfl))) fun _ F138 => ?_
               refine g_take F138 rfl (i := 11) (listed' := #[false, true, true, true, true, true, true, true, true, true, true, true, false, false, false, false, false, false, false, false, false, false, false, false, false]) rfl (by kernel_rfl) (by kernel_rfl) (by kernel_rfl) (fun _ _ _ h => h) (Sd.of (Mv.refl S126.at') [] rfl) rfl rfl rfl rfl (fun _ hz => (r_move rfl (F138.ev 3 rfl))) fun _ F139 => ?_
               refine g_take F139 rfl (i := 12) (listed' := #[false, true, true, true, true, true, true, true, true, true, true, true, true, false, false, false, false, false, false, false, false, false, false, false, false]) rfl (by kernel_rfl) (by kernel_rfl) (by kernel_rfl) (fun _ _ _ h => h) (Sd.of (Mv.refl S126.at') [] rfl) rfl rfl rfl rfl (fun _ hz => (r_move rfl (F139.ev 8 rfl))) fun _ F140 => ?_
               refine g_take F140 rfl (i := 13) (listed' := #[false, true, true, true, true, true, true, true, true, true, true, true, true, true, false, false, false, false, false, false, false, false, false, false, false]) rfl (by kernel_rfl) (by kernel_rfl) (by kernel_rfl) (fun _ _ _ h => h) (Sd.of (Mv.refl S126.at') [] rfl) rfl rfl rfl rfl (fun _ hz => (r_add (z := ((k + 1 : Nat) : Int)) rfl (F140.ev 112 rfl) rfl (by first | rfl | omega) ⟨by first | omega | (unfold i64ok at *; omega), by first | omega | (unfold i64ok at *; omega)⟩)) fun _ F141 => ?_
               obtain ⟨B142, O142, y142, ad142, hy142, oky142, ln142, cl142⟩ := Rd.atK (Nat.succ_pos _) (Rd.mq V8_0 (S11.trans (S13.trans (S19.trans (T24.trans (S25.trans (S28.trans (S31.trans (S32.trans (S33.trans (S30.trans S126))))))))))) (k + 1) (by first | assumption | omega)
               clear ln142
               obtain rfl := Option.some.inj (hx2.symm.trans hy142)
               clear hy142 oky142
               refine g_take F141 rfl (i := 14) (listed' := #[false, true, true, true, true, true, true, true, true, true, true, true, true, true, true, false, false, false, false, false, false, false, false, false, false]) rfl (by kernel_rfl) (by kernel_rfl) (by kernel_rfl) (fun _ _ _ h => h) (Sd.of (Mv.refl S126.at') [] rfl) rfl rfl rfl rfl (fun _ hz => (r_indexAddr (i := k + 1) ET_47 rfl ((F141.ev 111 rfl).trans (by rw [ad142])) (F141.ev 113 rfl) (by omega) (by first | assumption | omega))) fun _ F143 => ?_
               refine g_take (v := .int .i64 x2) F143 rfl (i := 15) (listed' := #[false, true, true, true, true, true, true, true, true, true, true, true, true, true, true, true, false, false, false, false, false, false, false, false, false]) rfl (by kernel_rfl) (by kernel_rfl) (by kernel_rfl) (fun _ _ _ h => h) (Sd.of (Mv.refl S126.at') [] rfl) rfl rfl rfl rfl (fun _ hz => (r_load (cs := [.int .i64 x2]) TI_3 rfl (F143.ev 114 rfl) rfl (fun _ => rfl) (elem_sub (f := 0) (cl142 _ hz.kp) [.int .i64 x2] rfl))) fun _ F144 => ?_
               refine g_take F144 rfl (i := 16) (listed' := #[false, true, true, true, true, true, true, true, true, true, true, true, true, true, true, true, true, false, false, false, false, false, false, false, false]) rfl (by kernel_rfl) (by kernel_rfl) (by kernel_rfl) (fun _ _ _ h => h) (Sd.of (Mv.refl S126.at') [] rfl) rfl rfl rfl rfl (fun _ hz => ((r_quoI (c := 3) rfl (by decide) ⟨by omega, by omega⟩ rfl (F144.ev 115 rfl) rfl).trans (by rw [hrC]))) fun _ F145 => ?_
               have rm146 := Nat.mod_lt rC (show 0 < 3 by decide)
               refine g_take F145 rfl (i := 17) (listed' := #[false, true, true, true, true, true, true, true, true, true, true, true, true, true, true, true, true, true, false, false, false, false, false, false, false]) rfl (by kernel_rfl) (by kernel_rfl) (by kernel_rfl) (fun _ _ _ h => h) (Sd.of (Mv.refl S126.at') [] rfl) rfl rfl rfl rfl (fun _ hz => (r_remK (c := 3) rfl (by decide) rfl (F145.ev 116 rfl) rfl)) fun _ F147 => ?_
               obtain ⟨B148, O148, y148, ad148, hy148, oky148, ln148, cl148⟩ := Rd.atK (Nat.succ_pos _) (Rd.mq Z28 (S31.trans (S32.trans (S33.trans (S30.trans S126))))) (rC % 3) (by first | assumption | omega)
               clear ln148
               obtain rfl := Option.some.inj (hx4.symm.trans hy148)
               clear hy148 oky148
               cases ad148
               refine g_take F147 rfl (i := 18) (listed' := #[false, true, true, true, true, true, true, true, true, true, true, true, true, true, true, true, true, true, true, false, false, false, false, false, false]) rfl (by kernel_rfl) (by kernel_rfl) (by kernel_rfl) (fun _ _ _ h => h) (Sd.of (Mv.refl S126.at') [] rfl) rfl rfl rfl rfl (fun _ hz => (r_indexAddr (i := rC % 3) ET_25 rfl (F147.ev 110 rfl) (F147.ev 117 rfl) (by omega) (by first | assumption | omega))) fun _ F149 => ?_
               refine g_take (v := .string x4) F149 rfl (i := 19) (listed' := #[false, true, true, true, true, true, true, true, true, true, true, true, true, true, true, true, true, true, true, true, false, false, false, false, false]) rfl (by kernel_rfl) (by kernel_rfl) (by kernel_rfl) (fun _ _ _ h => h) (Sd.of (Mv.refl S126.at') [] rfl) rfl rfl rfl rfl (fun _ hz => (r_load (cs := [.string x4]) TI_9 rfl (F149.ev 118 rfl) rfl (fun _ => rfl) (elem_sub (f := 0) (cl148 _ hz.kp) [.string x4] rfl))) fun _ F150 => ?_
               refine d_one (i := 0) (listed' := #[true, true, true, true, true, true, true, true, true, true, true, true, true, true, true, true, true, true, true, true, false, false, false, false, false]) rfl (by kernel_rfl) rfl rfl ?_
               refine f_val (v := .agg #[.slice sa sn sc, .slice ra rn rc, .slice ua un uc]) F150 rfl rfl (r_loadB S126.at' 0 TI_29 rfl rfl (F150.ev 4 rfl) rfl rfl (fun h => nomatch h) rfl) rfl fun _ F151 => ?_
               refine ⟨Sd.of (Mv.refl S126.at') [] rfl, ?_⟩
               refine d_one (i := 20) (listed' := #[true, true, true, true, true, true, true, true, true, true, true, true, true, true, true, true, true, true, true, true, true, false, false, false, false]) rfl (by kernel_rfl) rfl rfl ?_
               refine f_call F151 CF_28 rfl rfl rfl rfl (lc (F151.ev 100 rfl) (lc (F151.ev 109 rfl) (lc (F151.ev 119 rfl) rfl))) (impl_RenameName_c (m := M) (from_ := x3) (to_ := x4) (Rd.mq W30_0 S126) (Rd.mq W30_1 S126) (Rd.mq W30_2 S126) okx3 okx4 (Tb.mv V_tab0 (S3.trans (S8.trans (S11.trans (S13.trans (S19.trans (T24.trans (S25.trans (S28.trans (S31.trans (S32.trans (S33.trans (S30.trans S126))))))))))))) (Tb.mv V_tab1 (S3.trans (S8.trans (S11.trans (S13.trans (S19.trans (T24.trans (S25.trans (S28.trans (S31.trans (S32.trans (S33.trans (S30.trans S126))))))))))))) (by first | assumption | omega | ((first | apply b1_ | apply b2_ | apply b3_ | skip); (repeat (first | with_reducible apply b4_ | with_reducible apply b5_ | with_reducible apply b6_ | with_reducible refine bdC.mn ?_ | with_reducible refine bdC.fo ?_)); exact bdC.le ‹_› (by first | decide | omega)) | decide | exact Nat.le_trans (keyNum_size _ _ ‹_›) (by decide) | exact Nat.le_trans (keyNum_size _ _ ⟨by omega, by omega⟩) (by decide))) ?_
               rintro _ w152 ⟨Q32, Q42, Q37, Q17, Q27, Q22, Q2, Q12, Q7, rfl, m152⟩
               refine ⟨_, rfl, fun _ F153 => ?_⟩
               have S152 : Mv _ _ [ow 73 2 encC okC (.slice Q32 Q42 Q37) (rnM M x3 x4).store, ow 9 1 encS okS (.slice Q17 Q27 Q22) (rnM M x3 x4).touch.reads, ow 9 1 encS okS (.slice Q2 Q12 Q7) (rnM M x3 x4).touch.writes, bx b19 [.slice sa sn sc, .slice ra rn rc, .slice ua un uc] 29] _ := At.frame S126.at' [] rfl m152
               obtain ⟨Q135, Q187, Q239⟩ := At.ownInv S152.at' ET_24.hk 0 rfl
               obtain ⟨Q136, Q188, Q240⟩ := At.ownInv S152.at' ET_25.hk 1 rfl
               obtain ⟨Q137, Q189, Q241⟩ := At.ownInv S152.at' ET_25.hk 2 rfl
               clear m152
               refine ⟨Sd.of S152 [] rfl, ?_⟩
               refine g_take F153 rfl (i := 21) (listed' := #[true, true, true, true, true, true, true, true, true, true, true, true, true, true, true, true, true, true, true, true, true, true, false, false, false]) rfl (by kernel_rfl) (by kernel_rfl) (by kernel_rfl) (fun _ _ _ h => h) (Sd.of S152 [] rfl) rfl rfl rfl rfl (fun _ hz => (r_move rfl (F153.ev 120 rfl))) fun _ F154 => ?_
               refine g_take (v := .agg #[.slice Q32 Q42 Q37, .slice Q17 Q27 Q22, .slice Q2 Q12 Q7]) F154 rfl (i := 22) (listed' := #[true, true, true, true, true, true, true, true, true, true, true, true, true, true, true, true, true, true, true, true, true, true, true, false, false]) rfl (by kernel_rfl) (by kernel_rfl) (by kernel_rfl) (fun _ _ _ h => h) (Sd.of S152 [] rfl) rfl rfl rfl rfl (fun _ hz => (r_extract rfl (F154.ev 99 rfl) rfl)) fun _ F155 => ?_
               refine g_take (v := .int .i64 (rnC M x3 x4)) F155 rfl (i := 23) (listed' := #[true, true, true, true, true, true, true, true, true, true, true, true, true, true, true, true, true, true, true, true, true, true, true, true, false]) rfl (by kernel_rfl) (by kernel_rfl) (by kernel_rfl) (fun _ _ _ h => h) (Sd.of S152 [] rfl) rfl rfl rfl rfl (fun _ hz => (r_extract rfl (F155.ev 99 rfl) rfl)) fun _ F156 => ?_
               refine d_one (i := 24) (listed' := #[true, true, true, true, true, true, true, true, true, true, true, true, true, true, true, true, true, true, true, true, true, true, true, true, true]) rfl (by kernel_rfl) rfl rfl ?_
               refine s_store S152.at' 3 TI_29 rfl rfl rfl rfl rfl (F156.ev 4 rfl) (F156.ev 121 rfl) rfl rfl rfl rfl rfl fun w157 S157 => ?_
               refine ⟨Sd.of (S152.trans S157) [] rfl, ?_⟩
               refine wpAnyH_done (by kernel_rfl) (x_normal ?_) _
               exact ⟨Q32, Q42, Q37, Q17, Q27, Q22, Q2, Q12, Q7, F156.cut rfl, ((S126.trans (S152.trans S157)).pick [0, 1, 2, 3] rfl)⟩
             · rintro a158 w158 ⟨Q32, Q42, Q37, Q17, Q27, Q22, Q2, Q12, Q7, F158, S158⟩
               obtain ⟨Q138, Q190, Q242⟩ := At.ownInv S158.at' ET_24.hk 1 rfl
               obtain ⟨Q139, Q191, Q243⟩ := At.ownInv S158.at' ET_25.hk 2 rfl
               obtain ⟨Q140, Q192, Q244⟩ := At.ownInv S158.at' ET_25.hk 3 rfl
               refine x_block_normal (x_block_normal (x_normal (wp_region_lit (l_op (f_mv F158 rfl rfl rfl rfl rfl fun _ F159 => ?_)))))
               refine l_op (f_val F159 rfl rfl (r_add (z := ((k + 1 : Nat) : Int)) rfl (F159.ev 33 rfl) rfl (by first | rfl | omega) ⟨by first | omega | (unfold i64ok at *; omega), by first | omega | (unfold i64ok at *; omega)⟩) rfl fun _ F160 => ?_)
               refine l_op (f_as F160 rfl rfl rfl rfl rfl fun _ F161 => ?_)
               refine s_end ?_
               have Z162 : Rd 2 encC okC (V H w [bx b19 [.slice Q32 Q42 Q37, .slice Q17 Q27 Q22, .slice Q2 Q12 Q7] 29, ow 9 1 encS okS (.slice Q17 Q27 Q22) (rnM M x3 x4).touch.reads, ow 9 1 encS okS (.slice Q2 Q12 Q7) (rnM M x3 x4).touch.writes]) w158 (.slice Q32 Q42 Q37) (rnM M x3 x4).store := At.freeze (S3.trans (S8.trans (S11.trans (S13.trans (S19.trans (T24.trans (S25.trans (S28.trans (S31.trans (S32.trans (S33.trans (S30.trans S158)))))))))))) ET_24.hk 1 rfl (fun b hb => ((S3.trans (S8.trans (S11.trans (S13.trans (S19.trans (T24.trans (S25.trans (S28.trans (S31.trans (S32.trans (S33.trans (S30.trans S158)))))))))))).fresh b ⟨_, nth_mem (i := 1) rfl, hb⟩).resolve_left (fps_nil _))
               have S162 := At.drop S158.at' 1
               have Z163 : Rd 1 encS okS (V H w [bx b19 [.slice Q32 Q42 Q37, .slice Q17 Q27 Q22, .slice Q2 Q12 Q7] 29, ow 9 1 encS okS (.slice Q2 Q12 Q7) (rnM M x3 x4).touch.writes]) w158 (.slice Q17 Q27 Q22) (rnM M x3 x4).touch.reads := At.freeze (S3.trans (S8.trans (S11.trans (S13.trans (S19.trans (T24.trans (S25.trans (S28.trans (S31.trans (S32.trans (S33.trans (S30.trans (S158.trans S162))))))))))))) ET_25.hk 1 rfl (fun b hb => ((S3.trans (S8.trans (S11.trans (S13.trans (S19.trans (T24.trans (S25.trans (S28.trans (S31.trans (S32.trans (S33.trans (S30.trans (S158.trans S162))))))))))))).fresh b ⟨_, nth_mem (i := 1) rfl, hb⟩).resolve_left (fps_nil _))
               have S163 := At.drop S162.at' 1
               have Z164 : Rd 1 encS okS (V H w [bx b19 [.slice Q32 Q42 Q37, .slice Q17 Q27 Q22, .slice Q2 Q12 Q7] 29]) w158 (.slice Q2 Q12 Q7) (rnM M x3 x4).touch.writes := At.freeze (S3.trans (S8.trans (S11.trans (S13.trans (S19.trans (T24.trans (S25.trans (S28.trans (S31.trans (S32.trans (S33.trans (S30.trans (S158.trans (S162.trans S163)))))))))))))) ET_25.hk 1 rfl (fun b hb => ((S3.trans (S8.trans (S11.trans (S13.trans (S19.trans (T24.trans (S25.trans (S28.trans (S31.trans (S32.trans (S33.trans (S30.trans (S158.trans (S162.trans S163)))))))))))))).fresh b ⟨_, nth_mem (i := 1) rfl, hb⟩).resolve_left (fps_nil _))
               have S164 := At.drop S163.at' 1
               refine x_normal ⟨k + 1, by omega, (rnM M x3 x4), Q32, Q42, Q37, Q17, Q27, Q22, Q2, Q12, Q7, F161.cut rfl, ((S30.trans (S158.trans (S162.trans (S163.trans S164)))).pick [0] rfl), (Rd.mq Z162 (S163.trans S164)), (Rd.mq Z163 S164), Z164, by first | with_reducible exact hk_0.link (by omega) hx3 hx4 | with_reducible exact hk_0.rename (by omega) hx3 hx4 | with_reducible exact hk_0.unlink (by omega) hx3 | with_reducible exact hk_0.make (by omega) hx3, by omega⟩
           · skip
             obtain ⟨x2, hx2, okx2⟩ := Rd.elem (Rd.mq V8_0 (S11.trans (S13.trans (S19.trans (T24.trans (S25.trans (S28.trans (S31.trans (S32.trans (S33.trans S30)))))))))) (k + 1) (by omega)
             have pb165 := pOk_at ‹_› hx2
             obtain ⟨rB, hrB, lrB⟩ := rem_nat (c := 3) pb165 (by decide)
             obtain ⟨x3, hx3, okx3⟩ := Rd.elem (Rd.mq Z28 (S31.trans (S32.trans (S33.trans S30)))) rB (by omega)
             refine x_draw (fun aZ wZ => ∃ (Q33 : Option Addr), ∃ (Q43 : Nat), ∃ (Q38 : Nat), ∃ (Q18 : Option Addr), ∃ (Q28 : Nat), ∃ (Q23 : Nat), ∃ (Q3 : Option Addr), ∃ (Q13 : Nat), ∃ (Q8 : Nat), Fr 172 [(3, .slice Q72 Q74 Q73), (4, .pointer (some ⟨b19, 0, none⟩)), (5, .int .i64 ((mnI (⟨[], (⟨[], []⟩ : TouchD)⟩ : MachD) (⟨#[120]⟩ : ByteArray) : Nat) : Int)), (7, .slice (some ⟨b25, 0, none⟩) 3 3), (8, .int .i64 ((k : Nat) : Int))] aZ ∧ Mv [bx b19 [.slice sa sn sc, .slice ra rn rc, .slice ua un uc] 29] w30 [bx b19 [.slice Q33 Q43 Q38, .slice Q18 Q28 Q23, .slice Q3 Q13 Q8] 29, ow 73 2 encC okC (.slice Q33 Q43 Q38) (mnM M x3).store, ow 9 1 encS okS (.slice Q18 Q28 Q23) (mnM M x3).touch.reads, ow 9 1 encS okS (.slice Q3 Q13 Q8) (mnM M x3).touch.writes] wZ) [] mixed S30.at' (listed := #[false, false, false, false, false, false, false, false, false, false, false, false, false, false, false, false]) rfl (fun w167 S167 => ?_) [] rfl ?_
             · skip
               refine g_take F121 rfl (i := 1) (listed' := #[false, true, false, false, false, false, false, false, false, false, false, false, false, false, false, false]) rfl (by kernel_rfl) (by kernel_rfl) (by kernel_rfl) (fun _ _ _ h => h) (Sd.of (Mv.refl S167.at') [] rfl) rfl rfl rfl rfl (fun _ hz => (r_move rfl (F121.ev 7 rfl))) fun _ F168 => ?_
               refine g_take F168 rfl (i := 2) (listed' := #[false, true, true, false, false, false, false, false, false, false, false, false, false, false, false, false]) rfl (by kernel_rfl) (by kernel_rfl) (by kernel_rfl) (fun _ _ _ h => h) (Sd.of (Mv.refl S167.at') [] rfl) rfl rfl rfl rfl (fun _ hz => (r_move rfl (F168.ev 3 rfl))) fun _ F169 => ?_
               refine g_take F169 rfl (i := 3) (listed' := #[false, true, true, true, false, false, false, false, false, false, false, false, false, false, false, false]) rfl (by kernel_rfl) (by kernel_rfl) (by kernel_rfl) (fun _ _ _ h => h) (Sd.of (Mv.refl S167.at') [] rfl) rfl rfl rfl rfl (fun _ hz => (r_move rfl (F169.ev 8 rfl))) fun _ F170 => ?_
               refine g_take F170 rfl (i := 4) (listed' := #[false, true, true, true, true, false, false, false, false, false, false, false, false, false, false, false]) rfl (by kernel_rfl) (by kernel_rfl) (by kernel_rfl) (fun _ _ _ h => h) (Sd.of (Mv.refl S167.at') [] rfl) rfl rfl rfl rfl (fun _ hz => (r_add (z := ((k + 1 : Nat) : Int)) rfl (F170.ev 44 rfl) rfl (by first | rfl | omega) ⟨by first | omega | (unfold i64ok at *; omega), by first | omega | (unfold i64ok at *; omega)⟩)) fun _ F171 => ?_
               obtain ⟨B172, O172, y172, ad172, hy172, oky172, ln172, cl172⟩ := Rd.atK (Nat.succ_pos _) (Rd.mq V8_0 (S11.trans (S13.trans (S19.trans (T24.trans (S25.trans (S28.trans (S31.trans (S32.trans (S33.trans (S30.trans S167))))))))))) (k + 1) (by first | assumption | omega)
               clear ln172
               obtain rfl := Option.some.inj (hx2.symm.trans hy172)
               clear hy172 oky172
               refine g_take F171 rfl (i := 5) (listed' := #[false, true, true, true, true, true, false, false, false, false, false, false, false, false, false, false]) rfl (by kernel_rfl) (by kernel_rfl) (by kernel_rfl) (fun _ _ _ h => h) (Sd.of (Mv.refl S167.at') [] rfl) rfl rfl rfl rfl (fun _ hz => (r_indexAddr (i := k + 1) ET_47 rfl ((F171.ev 43 rfl).trans (by rw [ad172])) (F171.ev 45 rfl) (by omega) (by first | assumption | omega))) fun _ F173 => ?_
               refine g_take (v := .int .i64 x2) F173 rfl (i := 6) (listed' := #[false, true, true, true, true, true, true, false, false, false, false, false, false, false, false, false]) rfl (by kernel_rfl) (by kernel_rfl) (by kernel_rfl) (fun _ _ _ h => h) (Sd.of (Mv.refl S167.at') [] rfl) rfl rfl rfl rfl (fun _ hz => (r_load (cs := [.int .i64 x2]) TI_3 rfl (F173.ev 46 rfl) rfl (fun _ => rfl) (elem_sub (f := 0) (cl172 _ hz.kp) [.int .i64 x2] rfl))) fun _ F174 => ?_
               refine g_take F174 rfl (i := 7) (listed' := #[false, true, true, true, true, true, true, true, false, false, false, false, false, false, false, false]) rfl (by kernel_rfl) (by kernel_rfl) (by kernel_rfl) (fun _ _ _ h => h) (Sd.of (Mv.refl S167.at') [] rfl) rfl rfl rfl rfl (fun _ hz => ((r_remI (c := 3) rfl (by decide) rfl (F174.ev 47 rfl) rfl).trans (by rw [hrB]))) fun _ F175 => ?_
               obtain ⟨B176, O176, y176, ad176, hy176, oky176, ln176, cl176⟩ := Rd.atK (Nat.succ_pos _) (Rd.mq Z28 (S31.trans (S32.trans (S33.trans (S30.trans S167))))) rB (by first | assumption | omega)
               clear ln176
               obtain rfl := Option.some.inj (hx3.symm.trans hy176)
               clear hy176 oky176
               cases ad176
               refine g_take F175 rfl (i := 8) (listed' := #[false, true, true, true, true, true, true, true, true, false, false, false, false, false, false, false]) rfl (by kernel_rfl) (by kernel_rfl) (by kernel_rfl) (fun _ _ _ h => h) (Sd.of (Mv.refl S167.at') [] rfl) rfl rfl rfl rfl (fun _ hz => (r_indexAddr (i := rB) ET_25 rfl (F175.ev 42 rfl) (F175.ev 48 rfl) (by omega) (by first | assumption | omega))) fun _ F177 => ?_
               refine g_take (v := .string x3) F177 rfl (i := 9) (listed' := #[false, true, true, true, true, true, true, true, true, true, false, false, false, false, false, false]) rfl (by kernel_rfl) (by kernel_rfl) (by kernel_rfl) (fun _ _ _ h => h) (Sd.of (Mv.refl S167.at') [] rfl) rfl rfl rfl rfl (fun _ hz => (r_load (cs := [.string x3]) TI_9 rfl (F177.ev 49 rfl) rfl (fun _ => rfl) (elem_sub (f := 0) (cl176 _ hz.kp) [.string x3] rfl))) fun _ F178 => ?_
               refine d_one (i := 0) (listed' := #[true, true, true, true, true, true, true, true, true, true, false, false, false, false, false, false]) rfl (by kernel_rfl) rfl rfl ?_
               refine f_val (v := .agg #[.slice sa sn sc, .slice ra rn rc, .slice ua un uc]) F178 rfl rfl (r_loadB S167.at' 0 TI_29 rfl rfl (F178.ev 4 rfl) rfl rfl (fun h => nomatch h) rfl) rfl fun _ F179 => ?_
               refine ⟨Sd.of (Mv.refl S167.at') [] rfl, ?_⟩
               refine d_one (i := 10) (listed' := #[true, true, true, true, true, true, true, true, true, true, true, false, false, false, false, false]) rfl (by kernel_rfl) rfl rfl ?_
               refine f_call F179 CF_25 rfl rfl rfl rfl (lc (F179.ev 41 rfl) (lc (F179.ev 50 rfl) rfl)) (impl_MakeName_c (m := M) (name := x3) (Rd.mq W30_0 S167) (Rd.mq W30_1 S167) (Rd.mq W30_2 S167) okx3 (Tb.mv V_tab0 (S3.trans (S8.trans (S11.trans (S13.trans (S19.trans (T24.trans (S25.trans (S28.trans (S31.trans (S32.trans (S33.trans (S30.trans S167))))))))))))) (Tb.mv V_tab1 (S3.trans (S8.trans (S11.trans (S13.trans (S19.trans (T24.trans (S25.trans (S28.trans (S31.trans (S32.trans (S33.trans (S30.trans S167))))))))))))) (by first | assumption | omega | ((first | apply b1_ | apply b2_ | apply b3_ | skip); (repeat (first | with_reducible apply b4_ | with_reducible apply b5_ | with_reducible apply b6_ | with_reducible refine bdC.mn ?_ | with_reducible refine bdC.fo ?_)); exact bdC.le ‹_› (by first | decide | omega)) | decide | exact Nat.le_trans (keyNum_size _ _ ‹_›) (by decide) | exact Nat.le_trans (keyNum_size _ _ ⟨by omega, by omega⟩) (by decide))) ?_
               rintro _ w180 ⟨Q33, Q43, Q38, Q18, Q28, Q23, Q3, Q13, Q8, rfl, m180⟩
               refine ⟨_, rfl, fun _ F181 => ?_⟩
               have S180 : Mv _ _ [ow 73 2 encC okC (.slice Q33 Q43 Q38) (mnM M x3).store, ow 9 1 encS okS (.slice Q18 Q28 Q23) (mnM M x3).touch.reads, ow 9 1 encS okS (.slice Q3 Q13 Q8) (mnM M x3).touch.writes, bx b19 [.slice sa sn sc, .slice ra rn rc, .slice ua un uc] 29] _ := At.frame S167.at' [] rfl m180
               obtain ⟨Q141, Q193, Q245⟩ := At.ownInv S180.at' ET_24.hk 0 rfl
               obtain ⟨Q142, Q194, Q246⟩ := At.ownInv S180.at' ET_25.hk 1 rfl
               obtain ⟨Q143, Q195, Q247⟩ := At.ownInv S180.at' ET_25.hk 2 rfl
               clear m180
               refine ⟨Sd.of S180 [] rfl, ?_⟩
               refine g_take F181 rfl (i := 11) (listed' := #[true, true, true, true, true, true, true, true, true, true, true, true, false, false, false, false]) rfl (by kernel_rfl) (by kernel_rfl) (by kernel_rfl) (fun _ _ _ h => h) (Sd.of S180 [] rfl) rfl rfl rfl rfl (fun _ hz => (r_move rfl (F181.ev 51 rfl))) fun _ F182 => ?_
               refine g_take (v := .agg #[.slice Q33 Q43 Q38, .slice Q18 Q28 Q23, .slice Q3 Q13 Q8]) F182 rfl (i := 12) (listed' := #[true, true, true, true, true, true, true, true, true, true, true, true, true, false, false, false]) rfl (by kernel_rfl) (by kernel_rfl) (by kernel_rfl) (fun _ _ _ h => h) (Sd.of S180 [] rfl) rfl rfl rfl rfl (fun _ hz => (r_extract rfl (F182.ev 40 rfl) rfl)) fun _ F183 => ?_
               refine g_take (v := .int .i64 ((mnI M x3 : Nat) : Int)) F183 rfl (i := 13) (listed' := #[true, true, true, true, true, true, true, true, true, true, true, true, true, true, false, false]) rfl (by kernel_rfl) (by kernel_rfl) (by kernel_rfl) (fun _ _ _ h => h) (Sd.of S180 [] rfl) rfl rfl rfl rfl (fun _ hz => (r_extract rfl (F183.ev 40 rfl) rfl)) fun _ F184 => ?_
               refine g_take (v := .int .i64 (mnC M x3)) F184 rfl (i := 14) (listed' := #[true, true, true, true, true, true, true, true, true, true, true, true, true, true, true, false]) rfl (by kernel_rfl) (by kernel_rfl) (by kernel_rfl) (fun _ _ _ h => h) (Sd.of S180 [] rfl) rfl rfl rfl rfl (fun _ hz => (r_extract rfl (F184.ev 40 rfl) rfl)) fun _ F185 => ?_
               refine d_one (i := 15) (listed' := #[true, true, true, true, true, true, true, true, true, true, true, true, true, true, true, true]) rfl (by kernel_rfl) rfl rfl ?_
               refine s_store S180.at' 3 TI_29 rfl rfl rfl rfl rfl (F185.ev 4 rfl) (F185.ev 52 rfl) rfl rfl rfl rfl rfl fun w186 S186 => ?_
               refine ⟨Sd.of (S180.trans S186) [] rfl, ?_⟩
               refine wpAnyH_done (by kernel_rfl) (x_normal ?_) _
               exact ⟨Q33, Q43, Q38, Q18, Q28, Q23, Q3, Q13, Q8, F185.cut rfl, ((S167.trans (S180.trans S186)).pick [0, 1, 2, 3] rfl)⟩
             · rintro a187 w187 ⟨Q33, Q43, Q38, Q18, Q28, Q23, Q3, Q13, Q8, F187, S187⟩
               obtain ⟨Q144, Q196, Q248⟩ := At.ownInv S187.at' ET_24.hk 1 rfl
               obtain ⟨Q145, Q197, Q249⟩ := At.ownInv S187.at' ET_25.hk 2 rfl
               obtain ⟨Q146, Q198, Q250⟩ := At.ownInv S187.at' ET_25.hk 3 rfl
               refine x_block_normal (x_block_normal (x_normal (wp_region_lit (l_op (f_mv F187 rfl rfl rfl rfl rfl fun _ F188 => ?_)))))
               refine l_op (f_val F188 rfl rfl (r_add (z := ((k + 1 : Nat) : Int)) rfl (F188.ev 33 rfl) rfl (by first | rfl | omega) ⟨by first | omega | (unfold i64ok at *; omega), by first | omega | (unfold i64ok at *; omega)⟩) rfl fun _ F189 => ?_)
               refine l_op (f_as F189 rfl rfl rfl rfl rfl fun _ F190 => ?_)
               refine s_end ?_
               have Z191 : Rd 2 encC okC (V H w [bx b19 [.slice Q33 Q43 Q38, .slice Q18 Q28 Q23, .slice Q3 Q13 Q8] 29, ow 9 1 encS okS (.slice Q18 Q28 Q23) (mnM M x3).touch.reads, ow 9 1 encS okS (.slice Q3 Q13 Q8) (mnM M x3).touch.writes]) w187 (.slice Q33 Q43 Q38) (mnM M x3).store := At.freeze (S3.trans (S8.trans (S11.trans (S13.trans (S19.trans (T24.trans (S25.trans (S28.trans (S31.trans (S32.trans (S33.trans (S30.trans S187)))))))))))) ET_24.hk 1 rfl (fun b hb => ((S3.trans (S8.trans (S11.trans (S13.trans (S19.trans (T24.trans (S25.trans (S28.trans (S31.trans (S32.trans (S33.trans (S30.trans S187)))))))))))).fresh b ⟨_, nth_mem (i := 1) rfl, hb⟩).resolve_left (fps_nil _))
               have S191 := At.drop S187.at' 1
               have Z192 : Rd 1 encS okS (V H w [bx b19 [.slice Q33 Q43 Q38, .slice Q18 Q28 Q23, .slice Q3 Q13 Q8] 29, ow 9 1 encS okS (.slice Q3 Q13 Q8) (mnM M x3).touch.writes]) w187 (.slice Q18 Q28 Q23) (mnM M x3).touch.reads := At.freeze (S3.trans (S8.trans (S11.trans (S13.trans (S19.trans (T24.trans (S25.trans (S28.trans (S31.trans (S32.trans (S33.trans (S30.trans (S187.trans S191))))))))))))) ET_25.hk 1 rfl (fun b hb => ((S3.trans (S8.trans (S11.trans (S13.trans (S19.trans (T24.trans (S25.trans (S28.trans (S31.trans (S32.trans (S33.trans (S30.trans (S187.trans S191))))))))))))).fresh b ⟨_, nth_mem (i := 1) rfl, hb⟩).resolve_left (fps_nil _))
               have S192 := At.drop S191.at' 1
               have Z193 : Rd 1 encS okS (V H w [bx b19 [.slice Q33 Q43 Q38, .slice Q18 Q28 Q23, .slice Q3 Q13 Q8] 29]) w187 (.slice Q3 Q13 Q8) (mnM M x3).touch.writes := At.freeze (S3.trans (S8.trans (S11.trans (S13.trans (S19.trans (T24.trans (S25.trans (S28.trans (S31.trans (S32.trans (S33.trans (S30.trans (S187.trans (S191.trans S192)))))))))))))) ET_25.hk 1 rfl (fun b hb => ((S3.trans (S8.trans (S11.trans (S13.trans (S19.trans (T24.trans (S25.trans (S28.trans (S31.trans (S32.trans (S33.trans (S30.trans (S187.trans (S191.trans S192)))))))))))))).fresh b ⟨_, nth_mem (i := 1) rfl, hb⟩).resolve_left (fps_nil _))
               have S193 := At.drop S192.at' 1
               refine x_normal ⟨k + 1, by omega, (mnM M x3), Q33, Q43, Q38, Q18, Q28, Q23, Q3, Q13, Q8, F190.cut rfl, ((S30.trans (S187.trans (S191.trans (S192.trans S193)))).pick [0] rfl), (Rd.mq Z191 (S192.trans S193)), (Rd.mq Z192 S193), Z193, by first | with_reducible exact hk_0.link (by omega) hx3 hx4 | with_reducible exact hk_0.rename (by omega) hx3 hx4 | with_reducible exact hk_0.unlink (by omega) hx3 | with_reducible exact hk_0.make (by omega) hx3, by omega⟩
     · skip
       refine wp_exit (x_then_exit (x_then_exit (x_block_here (x_normal (wp_seq (wp_seq (wp_region_lit (l_op (f_val F35 rfl rfl (r_assign rfl rfl) rfl fun _ F194 => ?_)))))))))
       refine s_end (x_normal (wp_block ?_))
       refine x_loop (fun (j : Nat) aZ wZ => Fr 172 [(9, .int .i64 ((j : Nat) : Int)), (7, .slice (some ⟨b25, 0, none⟩) 3 3), (5, .int .i64 ((mnI (⟨[], (⟨[], []⟩ : TouchD)⟩ : MachD) (⟨#[120]⟩ : ByteArray) : Nat) : Int)), (4, .pointer (some ⟨b19, 0, none⟩))] aZ ∧ Mv [bx b19 [.slice sa sn sc, .slice ra rn rc, .slice ua un uc] 29] w30 [bx b19 [.slice sa sn sc, .slice ra rn rc, .slice ua un uc] 29] wZ ∧ (1 ≤ j) ∧ (j ≤ 7)) (fun (j : Nat) => 7 - j) (1) ?_ ?_
       · exact ⟨F194.cut rfl, (Mv.refl S30.at'), by omega, by omega⟩
       · rintro j a195 w195 ⟨F195, S195, hj_0, hj_1⟩
         refine wp_seq (wp_seq (wp_region_lit (l_op (f_mv F195 rfl rfl rfl rfl rfl fun _ F196 => ?_))))
         refine l_op (f_val F196 rfl rfl (r_cmp (b := decide (j ≤ 6)) (.inr (.inr (.inr (.inl rfl)))) rfl (F196.ev 123 rfl) rfl (dec_of (by omega))) rfl fun _ F197 => ?_)
         refine s_end (x_normal (x_cond (p := j ≤ 6) (F197.ev 124 rfl) (fun h198 => ?_) (fun h198 => ?_)))
         · skip
           refine wp_skip (x_normal (wp_seq (wp_block (wp_seq (wp_region_lit (l_op (f_val F197 rfl rfl (r_assign rfl rfl) rfl fun _ F199 => ?_)))))))
           refine s_end (x_normal (wp_seq (wp_seq (wp_region_lit (l_op (f_val F199 rfl rfl (r_assign rfl rfl) rfl fun _ F200 => ?_))))))
           refine s_end (x_normal (wp_block ?_))
           refine x_loop (fun (q : Nat) aZ wZ => ∃ (nn : Nat), Fr 172 [(11, .int .i64 ((q : Nat) : Int)), (10, .int .i64 ((nn : Nat) : Int)), (9, .int .i64 ((j : Nat) : Int)), (7, .slice (some ⟨b25, 0, none⟩) 3 3), (5, .int .i64 ((mnI (⟨[], (⟨[], []⟩ : TouchD)⟩ : MachD) (⟨#[120]⟩ : ByteArray) : Nat) : Int)), (4, .pointer (some ⟨b19, 0, none⟩))] aZ ∧ Mv [bx b19 [.slice sa sn sc, .slice ra rn rc, .slice ua un uc] 29] w195 [bx b19 [.slice sa sn sc, .slice ra rn rc, .slice ua un uc] 29] wZ ∧ (nn = pc M j q) ∧ (q ≤ 3) ∧ (nn ≤ q)) (fun (q : Nat) => 3 - q) (0) ?_ ?_
           · exact ⟨0, F200.cut rfl, (Mv.refl S195.at'), rfl, by omega, by omega⟩
           · rintro q a201 w201 ⟨nn, F201, S201, hq_0, hq_1, hq_2⟩
             refine wp_seq (wp_seq (wp_region_lit (l_op (f_mv F201 rfl rfl rfl rfl rfl fun _ F202 => ?_))))
             refine l_op (f_val F202 rfl rfl (r_cmp (b := decide (q < 3)) (.inr (.inr (.inl rfl))) rfl (F202.ev 127 rfl) rfl (dec_of (by omega))) rfl fun _ F203 => ?_)
             refine s_end (x_normal (x_cond (p := q < 3) (F203.ev 128 rfl) (fun h204 => ?_) (fun h204 => ?_)))
             · skip
               refine wp_skip (x_normal (wp_seq (wp_block (wp_seq ?_))))
               obtain ⟨x1, hx1, okx1⟩ := Rd.elem (Rd.mq Z28 (S31.trans (S32.trans (S33.trans (S30.trans (S195.trans S201)))))) q (by first | assumption | omega)
               refine x_draw (fun aZ wZ => ∃ (Q51 : Option Addr), ∃ (Q55 : Nat), ∃ (Q53 : Nat), ∃ (Q45 : Option Addr), ∃ (Q49 : Nat), ∃ (Q47 : Nat), ∃ (Q57 : Option Addr), ∃ (Q61 : Nat), ∃ (Q59 : Nat), ∃ (b218 : Nat), Fr 172 [(4, .pointer (some ⟨b19, 0, none⟩)), (5, .int .i64 ((mnI (⟨[], (⟨[], []⟩ : TouchD)⟩ : MachD) (⟨#[120]⟩ : ByteArray) : Nat) : Int)), (7, .slice (some ⟨b25, 0, none⟩) 3 3), (9, .int .i64 ((j : Nat) : Int)), (10, .int .i64 ((nn : Nat) : Int)), (11, .int .i64 ((q : Nat) : Int)), (13, .int .i64 ((fo M x1 : Nat) : Int))] aZ ∧ Mv [bx b19 [.slice sa sn sc, .slice ra rn rc, .slice ua un uc] 29] w201 [bx b19 [.slice sa sn sc, .slice ra rn rc, .slice ua un uc] 29, ow 73 2 encC okC (.slice Q51 Q55 Q53) (foM M x1).store, ow 9 1 encS okS (.slice Q45 Q49 Q47) (foM M x1).touch.reads, ow 9 1 encS okS (.slice Q57 Q61 Q59) (foM M x1).touch.writes, bx b218 [.slice Q51 Q55 Q53, .slice Q45 Q49 Q47, .slice Q57 Q61 Q59] 29] wZ) [bx b19 [.slice sa sn sc, .slice ra rn rc, .slice ua un uc] 29] mixed S201.at' (listed := #[false, false, false, false, false, false, false, false, false, false, false, false]) rfl (fun w206 S206 => ?_) [0] rfl ?_
               · skip
                 refine g_take (v := .agg #[.slice sa sn sc, .slice ra rn rc, .slice ua un uc]) F203 rfl (i := 0) (listed' := #[true, false, false, false, false, false, false, false, false, false, false, false]) rfl (by kernel_rfl) (by kernel_rfl) (by kernel_rfl) (fun _ _ _ h => h) (Sd.of (Mv.refl S206.at') [0] rfl) rfl rfl rfl rfl (fun _ hz => (r_loadX (hz.bx 0 rfl) TI_29 rfl (F203.ev 4 rfl) rfl rfl (fun h => nomatch h) rfl)) fun _ F207 => ?_
                 refine g_take F207 rfl (i := 1) (listed' := #[true, true, false, false, false, false, false, false, false, false, false, false]) rfl (by kernel_rfl) (by kernel_rfl) (by kernel_rfl) (fun _ _ _ h => h) (Sd.of (Mv.refl S206.at') [0] rfl) rfl rfl rfl rfl (fun _ hz => (r_move rfl (F207.ev 7 rfl))) fun _ F208 => ?_
                 refine g_take F208 rfl (i := 2) (listed' := #[true, true, true, false, false, false, false, false, false, false, false, false]) rfl (by kernel_rfl) (by kernel_rfl) (by kernel_rfl) (fun _ _ _ h => h) (Sd.of (Mv.refl S206.at') [0] rfl) rfl rfl rfl rfl (fun _ hz => (r_move rfl (F208.ev 11 rfl))) fun _ F209 => ?_
                 obtain ⟨B210, O210, y210, ad210, hy210, oky210, ln210, cl210⟩ := Rd.atK (Nat.succ_pos _) (Rd.mq Z28 (S31.trans (S32.trans (S33.trans (S30.trans (S195.trans (S201.trans S206))))))) q (by first | assumption | omega)
                 clear ln210
                 obtain rfl := Option.some.inj (hx1.symm.trans hy210)
                 clear hy210 oky210
                 cases ad210
                 refine g_take F209 rfl (i := 3) (listed' := #[true, true, true, true, false, false, false, false, false, false, false, false]) rfl (by kernel_rfl) (by kernel_rfl) (by kernel_rfl) (fun _ _ _ h => h) (Sd.of (Mv.refl S206.at') [0] rfl) rfl rfl rfl rfl (fun _ hz => (r_indexAddr (i := q) ET_25 rfl (F209.ev 133 rfl) (F209.ev 134 rfl) (by omega) (by first | assumption | omega))) fun _ F211 => ?_
                 refine g_take (v := .string x1) F211 rfl (i := 4) (listed' := #[true, true, true, true, true, false, false, false, false, false, false, false]) rfl (by kernel_rfl) (by kernel_rfl) (by kernel_rfl) (fun _ _ _ h => h) (Sd.of (Mv.refl S206.at') [0] rfl) rfl rfl rfl rfl (fun _ hz => (r_load (cs := [.string x1]) TI_9 rfl (F211.ev 135 rfl) rfl (fun _ => rfl) (elem_sub (f := 0) (cl210 _ hz.kp) [.string x1] rfl))) fun _ F212 => ?_
                 refine d_all (rs := [5, 9]) rfl (by kernel_rfl) (by simp) (d_cons (i := 5) (listed' := #[true, true, true, true, true, true, false, false, false, false, false, false]) rfl rfl ?_ (d_cons (i := 9) (listed' := #[true, true, true, true, true, false, false, false, false, true, false, false]) rfl rfl ?_ d_nil))
                 · skip
                   refine f_call F212 CF_29 rfl rfl rfl rfl (lc (F212.ev 132 rfl) (lc (F212.ev 136 rfl) rfl)) (impl_FileOf_c (m := M) (name := x1) (Rd.mq W30_0 (S195.trans (S201.trans S206))) (Rd.mq W30_1 (S195.trans (S201.trans S206))) (Rd.mq W30_2 (S195.trans (S201.trans S206))) okx1 (Tb.mv V_tab0 (S3.trans (S8.trans (S11.trans (S13.trans (S19.trans (T24.trans (S25.trans (S28.trans (S31.trans (S32.trans (S33.trans (S30.trans (S195.trans (S201.trans S206))))))))))))))) (Tb.mv V_tab1 (S3.trans (S8.trans (S11.trans (S13.trans (S19.trans (T24.trans (S25.trans (S28.trans (S31.trans (S32.trans (S33.trans (S30.trans (S195.trans (S201.trans S206))))))))))))))) (by first | assumption | omega | ((first | apply b1_ | apply b2_ | apply b3_ | skip); (repeat (first | with_reducible apply b4_ | with_reducible apply b5_ | with_reducible apply b6_ | with_reducible refine bdC.mn ?_ | with_reducible refine bdC.fo ?_)); exact bdC.le ‹_› (by first | decide | omega)) | decide | exact Nat.le_trans (keyNum_size _ _ ‹_›) (by decide) | exact Nat.le_trans (keyNum_size _ _ ⟨by omega, by omega⟩) (by decide))) ?_
                   rintro _ w213 ⟨Q51, Q55, Q53, Q45, Q49, Q47, Q57, Q61, Q59, rfl, m213⟩
                   refine ⟨_, rfl, fun _ F214 => ?_⟩
                   have S213 : Mv _ _ [ow 73 2 encC okC (.slice Q51 Q55 Q53) (foM M x1).store, ow 9 1 encS okS (.slice Q45 Q49 Q47) (foM M x1).touch.reads, ow 9 1 encS okS (.slice Q57 Q61 Q59) (foM M x1).touch.writes, bx b19 [.slice sa sn sc, .slice ra rn rc, .slice ua un uc] 29] _ := At.frame S206.at' [] rfl m213
                   obtain ⟨Q147, Q199, Q251⟩ := At.ownInv S213.at' ET_24.hk 0 rfl
                   obtain ⟨Q148, Q200, Q252⟩ := At.ownInv S213.at' ET_25.hk 1 rfl
                   obtain ⟨Q149, Q201, Q253⟩ := At.ownInv S213.at' ET_25.hk 2 rfl
                   clear m213
                   refine ⟨Sd.of S213 [3] rfl, ?_⟩
                   refine g_take F214 rfl (i := 6) (listed' := #[true, true, true, true, true, true, true, false, false, false, false, false]) rfl (by kernel_rfl) (by kernel_rfl) (by kernel_rfl) (fun _ _ _ h => h) (Sd.of S213 [3] rfl) rfl rfl rfl rfl (fun _ hz => (r_move rfl (F214.ev 137 rfl))) fun _ F215 => ?_
                   refine g_take (v := .agg #[.slice Q51 Q55 Q53, .slice Q45 Q49 Q47, .slice Q57 Q61 Q59]) F215 rfl (i := 7) (listed' := #[true, true, true, true, true, true, true, true, false, false, false, false]) rfl (by kernel_rfl) (by kernel_rfl) (by kernel_rfl) (fun _ _ _ h => h) (Sd.of S213 [3] rfl) rfl rfl rfl rfl (fun _ hz => (r_extract rfl (F215.ev 131 rfl) rfl)) fun _ F216 => ?_
                   refine g_take (v := .int .i64 ((fo M x1 : Nat) : Int)) F216 rfl (i := 8) (listed' := #[true, true, true, true, true, true, true, true, true, false, false, false]) rfl (by kernel_rfl) (by kernel_rfl) (by kernel_rfl) (fun _ _ _ h => h) (Sd.of S213 [3] rfl) rfl rfl rfl rfl (fun _ hz => (r_extract rfl (F216.ev 131 rfl) rfl)) fun _ F217 => ?_
                   refine d_one (i := 9) (listed' := #[true, true, true, true, true, true, true, true, true, true, false, false]) rfl (by kernel_rfl) rfl rfl ?_
                   refine f_alloc F217 S213.at' ZI_29 rfl rfl rfl rfl rfl fun b218 _ w218 F219 S218 => ?_
                   refine ⟨Sd.of (S213.trans S218) [4] rfl, ?_⟩
                   refine d_one (i := 10) (listed' := #[true, true, true, true, true, true, true, true, true, true, true, false]) rfl (by kernel_rfl) rfl rfl ?_
                   refine s_store S218.at' 0 TI_29 rfl rfl rfl rfl rfl (F219.ev 12 rfl) (F219.ev 138 rfl) rfl rfl rfl rfl rfl fun w220 S220 => ?_
                   refine ⟨Sd.of (S213.trans (S218.trans S220)) [4] rfl, ?_⟩
                   refine g_take F219 rfl (i := 11) (listed' := #[true, true, true, true, true, true, true, true, true, true, true, true]) rfl (by kernel_rfl) (by kernel_rfl) (by kernel_rfl) (fun _ _ _ h => h) (Sd.of (S213.trans (S218.trans S220)) [4] rfl) rfl rfl rfl rfl (fun _ hz => (r_assign rfl (F219.ev 139 rfl))) fun _ F221 => ?_
                   refine wpAnyH_done (by kernel_rfl) (x_normal ?_) _
                   exact ⟨Q51, Q55, Q53, Q45, Q49, Q47, Q57, Q61, Q59, b218, F221.cut rfl, ((S206.trans (S213.trans (S218.trans S220))).pick [4, 1, 2, 3, 0] rfl)⟩
                 · skip
                   refine f_alloc F212 S206.at' ZI_29 rfl rfl rfl rfl rfl fun b222 _ w222 F223 S222 => ?_
                   refine ⟨Sd.of S222 [1] rfl, ?_⟩
                   refine d_one (i := 5) (listed' := #[true, true, true, true, true, true, false, false, false, true, false, false]) rfl (by kernel_rfl) rfl rfl ?_
                   refine f_call F223 CF_29 rfl rfl rfl rfl (lc (F223.ev 132 rfl) (lc (F223.ev 136 rfl) rfl)) (impl_FileOf_c (m := M) (name := x1) (Rd.mq W30_0 (S195.trans (S201.trans (S206.trans S222)))) (Rd.mq W30_1 (S195.trans (S201.trans (S206.trans S222)))) (Rd.mq W30_2 (S195.trans (S201.trans (S206.trans S222)))) okx1 (Tb.mv V_tab0 (S3.trans (S8.trans (S11.trans (S13.trans (S19.trans (T24.trans (S25.trans (S28.trans (S31.trans (S32.trans (S33.trans (S30.trans (S195.trans (S201.trans (S206.trans S222)))))))))))))))) (Tb.mv V_tab1 (S3.trans (S8.trans (S11.trans (S13.trans (S19.trans (T24.trans (S25.trans (S28.trans (S31.trans (S32.trans (S33.trans (S30.trans (S195.trans (S201.trans (S206.trans S222)))))))))))))))) (by first | assumption | omega | ((first | apply b1_ | apply b2_ | apply b3_ | skip); (repeat (first | with_reducible apply b4_ | with_reducible apply b5_ | with_reducible apply b6_ | with_reducible refine bdC.mn ?_ | with_reducible refine bdC.fo ?_)); exact bdC.le ‹_› (by first | decide | omega)) | decide | exact Nat.le_trans (keyNum_size _ _ ‹_›) (by decide) | exact Nat.le_trans (keyNum_size _ _ ⟨by omega, by omega⟩) (by decide))) ?_
                   rintro _ w224 ⟨Q90, Q96, Q93, Q81, Q87, Q84, Q99, Q105, Q102, rfl, m224⟩
                   refine ⟨_, rfl, fun _ F225 => ?_⟩
                   have S224 : Mv _ _ [ow 73 2 encC okC (.slice Q90 Q96 Q93) (foM M x1).store, ow 9 1 encS okS (.slice Q81 Q87 Q84) (foM M x1).touch.reads, ow 9 1 encS okS (.slice Q99 Q105 Q102) (foM M x1).touch.writes, bx b222 [.slice none 0 0, .slice none 0 0, .slice none 0 0] 29, bx b19 [.slice sa sn sc, .slice ra rn rc, .slice ua un uc] 29] _ := At.frame S222.at' [] rfl m224
                   obtain ⟨Q150, Q202, Q254⟩ := At.ownInv S224.at' ET_24.hk 0 rfl
                   obtain ⟨Q151, Q203, Q255⟩ := At.ownInv S224.at' ET_25.hk 1 rfl
                   obtain ⟨Q152, Q204, Q256⟩ := At.ownInv S224.at' ET_25.hk 2 rfl
                   clear m224
                   refine ⟨Sd.of (S222.trans S224) [4] rfl, ?_⟩
                   refine g_take F225 rfl (i := 6) (listed' := #[true, true, true, true, true, true, true, false, false, true, false, false]) rfl (by kernel_rfl) (by kernel_rfl) (by kernel_rfl) (fun _ _ _ h => h) (Sd.of (S222.trans S224) [4] rfl) rfl rfl rfl rfl (fun _ hz => (r_move rfl (F225.ev 137 rfl))) fun _ F226 => ?_
                   refine g_take (v := .agg #[.slice Q90 Q96 Q93, .slice Q81 Q87 Q84, .slice Q99 Q105 Q102]) F226 rfl (i := 7) (listed' := #[true, true, true, true, true, true, true, true, false, true, false, false]) rfl (by kernel_rfl) (by kernel_rfl) (by kernel_rfl) (fun _ _ _ h => h) (Sd.of (S222.trans S224) [4] rfl) rfl rfl rfl rfl (fun _ hz => (r_extract rfl (F226.ev 131 rfl) rfl)) fun _ F227 => ?_
                   refine g_take (v := .int .i64 ((fo M x1 : Nat) : Int)) F227 rfl (i := 8) (listed' := #[true, true, true, true, true, true, true, true, true, true, false, false]) rfl (by kernel_rfl) (by kernel_rfl) (by kernel_rfl) (fun _ _ _ h => h) (Sd.of (S222.trans S224) [4] rfl) rfl rfl rfl rfl (fun _ hz => (r_extract rfl (F227.ev 131 rfl) rfl)) fun _ F228 => ?_
                   refine d_one (i := 10) (listed' := #[true, true, true, true, true, true, true, true, true, true, true, false]) rfl (by kernel_rfl) rfl rfl ?_
                   refine s_store S224.at' 3 TI_29 rfl rfl rfl rfl rfl (F228.ev 12 rfl) (F228.ev 138 rfl) rfl rfl rfl rfl rfl fun w229 S229 => ?_
                   refine ⟨Sd.of (S222.trans (S224.trans S229)) [4] rfl, ?_⟩
                   refine g_take F228 rfl (i := 11) (listed' := #[true, true, true, true, true, true, true, true, true, true, true, true]) rfl (by kernel_rfl) (by kernel_rfl) (by kernel_rfl) (fun _ _ _ h => h) (Sd.of (S222.trans (S224.trans S229)) [4] rfl) rfl rfl rfl rfl (fun _ hz => (r_assign rfl (F228.ev 139 rfl))) fun _ F230 => ?_
                   refine wpAnyH_done (by kernel_rfl) (x_normal ?_) _
                   exact ⟨Q90, Q96, Q93, Q81, Q87, Q84, Q99, Q105, Q102, b222, F230.cut rfl, ((S206.trans (S222.trans (S224.trans S229))).pick [4, 1, 2, 3, 0] rfl)⟩
               · rintro a231 w231 ⟨Q51, Q55, Q53, Q45, Q49, Q47, Q57, Q61, Q59, b218, F231, S231⟩
                 obtain ⟨Q153, Q205, Q257⟩ := At.ownInv S231.at' ET_24.hk 1 rfl
                 obtain ⟨Q154, Q206, Q258⟩ := At.ownInv S231.at' ET_25.hk 2 rfl
                 obtain ⟨Q155, Q207, Q259⟩ := At.ownInv S231.at' ET_25.hk 3 rfl
                 refine x_normal (wp_seq (wp_region_lit (l_op (f_mv F231 rfl rfl rfl rfl rfl fun _ F232 => ?_))))
                 refine l_op (f_mv F232 rfl rfl rfl rfl rfl fun _ F233 => ?_)
                 refine l_op (f_val F233 rfl rfl (r_cmp (b := decide (fo M x1 = j)) (.inl rfl) rfl (F233.ev 140 rfl) (F233.ev 141 rfl) (dec_of (by omega))) rfl fun _ F234 => ?_)
                 refine s_end (x_normal (x_cond (p := fo M x1 = j) (F234.ev 142 rfl) (fun h235 => ?_) (fun h235 => ?_)))
                 · skip
                   refine wp_region_lit (l_op (f_mv F234 rfl rfl rfl rfl rfl fun _ F236 => ?_))
                   refine l_op (f_val F236 rfl rfl (r_add (z := ((nn + 1 : Nat) : Int)) rfl (F236.ev 143 rfl) rfl (by first | rfl | omega) ⟨by first | omega | (unfold i64ok at *; omega), by first | omega | (unfold i64ok at *; omega)⟩) rfl fun _ F237 => ?_)
                   refine l_op (f_as F237 rfl rfl rfl rfl rfl fun _ F238 => ?_)
                   refine s_end (x_block_normal (x_normal (wp_region_lit (l_op (f_mv F238 rfl rfl rfl rfl rfl fun _ F239 => ?_)))))
                   refine l_op (f_val F239 rfl rfl (r_add (z := ((q + 1 : Nat) : Int)) rfl (F239.ev 129 rfl) rfl (by first | rfl | omega) ⟨by first | omega | (unfold i64ok at *; omega), by first | omega | (unfold i64ok at *; omega)⟩) rfl fun _ F240 => ?_)
                   refine l_op (f_as F240 rfl rfl rfl rfl rfl fun _ F241 => ?_)
                   refine s_end ?_
                   refine x_normal ⟨q + 1, by omega, nn + 1, F241.cut rfl, ((S201.trans S231).pick [0] rfl), by first | exact pc_t hq_0 ‹_› ‹_› | exact pc_f hq_0 ‹_› ‹_›, by omega, by omega⟩
                 · skip
                   refine wp_skip (x_block_normal (x_normal (wp_region_lit (l_op (f_mv F234 rfl rfl rfl rfl rfl fun _ F242 => ?_)))))
                   refine l_op (f_val F242 rfl rfl (r_add (z := ((q + 1 : Nat) : Int)) rfl (F242.ev 129 rfl) rfl (by first | rfl | omega) ⟨by first | omega | (unfold i64ok at *; omega), by first | omega | (unfold i64ok at *; omega)⟩) rfl fun _ F243 => ?_)
                   refine l_op (f_as F243 rfl rfl rfl rfl rfl fun _ F244 => ?_)
                   refine s_end ?_
                   refine x_normal ⟨q + 1, by omega, nn, F244.cut rfl, ((S201.trans S231).pick [0] rfl), by first | exact pc_t hq_0 ‹_› ‹_› | exact pc_f hq_0 ‹_› ‹_›, by omega, by omega⟩
             · skip
               refine wp_exit (x_then_exit (x_then_exit (x_block_here (x_normal (wp_seq ?_)))))
               refine x_draw (fun aZ wZ => ∃ (Q52 : Option Addr), ∃ (Q56 : Nat), ∃ (Q54 : Nat), ∃ (Q46 : Option Addr), ∃ (Q50 : Nat), ∃ (Q48 : Nat), ∃ (Q58 : Option Addr), ∃ (Q62 : Nat), ∃ (Q60 : Nat), ∃ (b256 : Nat), Fr 172 [(4, .pointer (some ⟨b19, 0, none⟩)), (5, .int .i64 ((mnI (⟨[], (⟨[], []⟩ : TouchD)⟩ : MachD) (⟨#[120]⟩ : ByteArray) : Nat) : Int)), (7, .slice (some ⟨b25, 0, none⟩) 3 3), (9, .int .i64 ((j : Nat) : Int)), (10, .int .i64 ((nn : Nat) : Int)), (15, .int .i64 ((numOf (getKey M.store (keyNum (⟨#[105, 47]⟩ : ByteArray) ((j : Nat) : Int) (⟨#[47, 108]⟩ : ByteArray))) : Nat) : Int))] aZ ∧ Mv [bx b19 [.slice sa sn sc, .slice ra rn rc, .slice ua un uc] 29] w201 [bx b19 [.slice sa sn sc, .slice ra rn rc, .slice ua un uc] 29, ow 73 2 encC okC (.slice Q52 Q56 Q54) (lookM M (keyNum (⟨#[105, 47]⟩ : ByteArray) ((j : Nat) : Int) (⟨#[47, 108]⟩ : ByteArray))).store, ow 9 1 encS okS (.slice Q46 Q50 Q48) (lookM M (keyNum (⟨#[105, 47]⟩ : ByteArray) ((j : Nat) : Int) (⟨#[47, 108]⟩ : ByteArray))).touch.reads, ow 9 1 encS okS (.slice Q58 Q62 Q60) (lookM M (keyNum (⟨#[105, 47]⟩ : ByteArray) ((j : Nat) : Int) (⟨#[47, 108]⟩ : ByteArray))).touch.writes, bx b256 [.slice Q52 Q56 Q54, .slice Q46 Q50 Q48, .slice Q58 Q62 Q60] 29] wZ) [bx b19 [.slice sa sn sc, .slice ra rn rc, .slice ua un uc] 29] mixed S201.at' (listed := #[false, false, false, false, false, false, false, false, false, false]) rfl (fun w246 S246 => ?_) [0] rfl ?_
               · skip
                 refine g_take (v := .agg #[.slice sa sn sc, .slice ra rn rc, .slice ua un uc]) F203 rfl (i := 0) (listed' := #[true, false, false, false, false, false, false, false, false, false]) rfl (by kernel_rfl) (by kernel_rfl) (by kernel_rfl) (fun _ _ _ h => h) (Sd.of (Mv.refl S246.at') [0] rfl) rfl rfl rfl rfl (fun _ hz => (r_loadX (hz.bx 0 rfl) TI_29 rfl (F203.ev 4 rfl) rfl rfl (fun h => nomatch h) rfl)) fun _ F247 => ?_
                 refine g_take F247 rfl (i := 1) (listed' := #[true, true, false, false, false, false, false, false, false, false]) rfl (by kernel_rfl) (by kernel_rfl) (by kernel_rfl) (fun _ _ _ h => h) (Sd.of (Mv.refl S246.at') [0] rfl) rfl rfl rfl rfl (fun _ hz => (r_move rfl (F247.ev 9 rfl))) fun _ F248 => ?_
                 refine d_all (rs := [2, 7]) rfl (by kernel_rfl) (by simp) (d_cons (i := 2) (listed' := #[true, true, true, false, false, false, false, false, false, false]) rfl rfl ?_ (d_cons (i := 7) (listed' := #[true, true, false, false, false, false, false, true, false, false]) rfl rfl ?_ d_nil))
                 · skip
                   refine f_call F248 CF_31 rfl rfl rfl rfl (lc rfl (lc (F248.ev 147 rfl) (lc rfl rfl))) (impl_KeyNum_c (head := (⟨#[105, 47]⟩ : ByteArray)) (n := ((j : Nat) : Int)) (tail := (⟨#[47, 108]⟩ : ByteArray)) (by unfold okS; decide) (by first | assumption | exact ⟨by omega, by omega⟩ | (unfold i64ok at *; omega)) (by unfold okS; decide) (Tb.mv V_tab0 (S3.trans (S8.trans (S11.trans (S13.trans (S19.trans (T24.trans (S25.trans (S28.trans (S31.trans (S32.trans (S33.trans (S30.trans (S195.trans (S201.trans S246))))))))))))))) (by decide) (by decide)) ?_
                   rintro _ w249 ⟨rfl, m249, Q109⟩
                   refine ⟨_, rfl, fun _ F250 => ?_⟩
                   have S249 := At.frame0 S246.at' m249
                   clear m249
                   refine ⟨Sd.of S249 [0] rfl, ?_⟩
                   refine d_all (rs := [3, 7]) rfl (by kernel_rfl) (by simp) (d_cons (i := 3) (listed' := #[true, true, true, true, false, false, false, false, false, false]) rfl rfl ?_ (d_cons (i := 7) (listed' := #[true, true, true, false, false, false, false, true, false, false]) rfl rfl ?_ d_nil))
                   · skip
                     refine f_call F250 CF_30 rfl rfl rfl rfl (lc (F250.ev 146 rfl) (lc (F250.ev 148 rfl) rfl)) (impl_NumAt_c (m := M) (key := keyNum (⟨#[105, 47]⟩ : ByteArray) ((j : Nat) : Int) (⟨#[47, 108]⟩ : ByteArray)) (Rd.mq W30_0 (S195.trans (S201.trans (S246.trans S249)))) (Rd.mq W30_1 (S195.trans (S201.trans (S246.trans S249)))) (Rd.mq W30_2 (S195.trans (S201.trans (S246.trans S249)))) Q109 (Tb.mv V_tab0 (S3.trans (S8.trans (S11.trans (S13.trans (S19.trans (T24.trans (S25.trans (S28.trans (S31.trans (S32.trans (S33.trans (S30.trans (S195.trans (S201.trans (S246.trans S249)))))))))))))))) (Tb.mv V_tab1 (S3.trans (S8.trans (S11.trans (S13.trans (S19.trans (T24.trans (S25.trans (S28.trans (S31.trans (S32.trans (S33.trans (S30.trans (S195.trans (S201.trans (S246.trans S249)))))))))))))))) (by first | assumption | omega | ((first | apply b1_ | apply b2_ | apply b3_ | skip); (repeat (first | with_reducible apply b4_ | with_reducible apply b5_ | with_reducible apply b6_ | with_reducible refine bdC.mn ?_ | with_reducible refine bdC.fo ?_)); exact bdC.le ‹_› (by first | decide | omega)) | decide | exact Nat.le_trans (keyNum_size _ _ ‹_›) (by decide) | exact Nat.le_trans (keyNum_size _ _ ⟨by omega, by omega⟩) (by decide))) ?_
                     rintro _ w251 ⟨Q52, Q56, Q54, Q46, Q50, Q48, Q58, Q62, Q60, rfl, m251⟩
                     refine ⟨_, rfl, fun _ F252 => ?_⟩
                     have S251 : Mv _ _ [ow 73 2 encC okC (.slice Q52 Q56 Q54) (lookM M (keyNum (⟨#[105, 47]⟩ : ByteArray) ((j : Nat) : Int) (⟨#[47, 108]⟩ : ByteArray))).store, ow 9 1 encS okS (.slice Q46 Q50 Q48) (lookM M (keyNum (⟨#[105, 47]⟩ : ByteArray) ((j : Nat) : Int) (⟨#[47, 108]⟩ : ByteArray))).touch.reads, ow 9 1 encS okS (.slice Q58 Q62 Q60) (lookM M (keyNum (⟨#[105, 47]⟩ : ByteArray) ((j : Nat) : Int) (⟨#[47, 108]⟩ : ByteArray))).touch.writes, bx b19 [.slice sa sn sc, .slice ra rn rc, .slice ua un uc] 29] _ := At.frame S249.at' [] rfl m251
                     obtain ⟨Q156, Q208, Q260⟩ := At.ownInv S251.at' ET_24.hk 0 rfl
                     obtain ⟨Q157, Q209, Q261⟩ := At.ownInv S251.at' ET_25.hk 1 rfl
                     obtain ⟨Q158, Q210, Q262⟩ := At.ownInv S251.at' ET_25.hk 2 rfl
                     clear m251
                     refine ⟨Sd.of (S249.trans S251) [3] rfl, ?_⟩
                     refine g_take F252 rfl (i := 4) (listed' := #[true, true, true, true, true, false, false, false, false, false]) rfl (by kernel_rfl) (by kernel_rfl) (by kernel_rfl) (fun _ _ _ h => h) (Sd.of (S249.trans S251) [3] rfl) rfl rfl rfl rfl (fun _ hz => (r_move rfl (F252.ev 149 rfl))) fun _ F253 => ?_
                     refine g_take (v := .agg #[.slice Q52 Q56 Q54, .slice Q46 Q50 Q48, .slice Q58 Q62 Q60]) F253 rfl (i := 5) (listed' := #[true, true, true, true, true, true, false, false, false, false]) rfl (by kernel_rfl) (by kernel_rfl) (by kernel_rfl) (fun _ _ _ h => h) (Sd.of (S249.trans S251) [3] rfl) rfl rfl rfl rfl (fun _ hz => (r_extract rfl (F253.ev 145 rfl) rfl)) fun _ F254 => ?_
                     refine g_take (v := .int .i64 ((numOf (getKey M.store (keyNum (⟨#[105, 47]⟩ : ByteArray) ((j : Nat) : Int) (⟨#[47, 108]⟩ : ByteArray))) : Nat) : Int)) F254 rfl (i := 6) (listed' := #[true, true, true, true, true, true, true, false, false, false]) rfl (by kernel_rfl) (by kernel_rfl) (by kernel_rfl) (fun _ _ _ h => h) (Sd.of (S249.trans S251) [3] rfl) rfl rfl rfl rfl (fun _ hz => (r_extract rfl (F254.ev 145 rfl) rfl)) fun _ F255 => ?_
                     refine d_one (i := 7) (listed' := #[true, true, true, true, true, true, true, true, false, false]) rfl (by kernel_rfl) rfl rfl ?_
                     refine f_alloc F255 S251.at' ZI_29 rfl rfl rfl rfl rfl fun b256 _ w256 F257 S256 => ?_
                     refine ⟨Sd.of (S249.trans (S251.trans S256)) [4] rfl, ?_⟩
                     refine d_one (i := 8) (listed' := #[true, true, true, true, true, true, true, true, true, false]) rfl (by kernel_rfl) rfl rfl ?_
                     refine s_store S256.at' 0 TI_29 rfl rfl rfl rfl rfl (F257.ev 14 rfl) (F257.ev 150 rfl) rfl rfl rfl rfl rfl fun w258 S258 => ?_
                     refine ⟨Sd.of (S249.trans (S251.trans (S256.trans S258))) [4] rfl, ?_⟩
                     refine g_take F257 rfl (i := 9) (listed' := #[true, true, true, true, true, true, true, true, true, true]) rfl (by kernel_rfl) (by kernel_rfl) (by kernel_rfl) (fun _ _ _ h => h) (Sd.of (S249.trans (S251.trans (S256.trans S258))) [4] rfl) rfl rfl rfl rfl (fun _ hz => (r_assign rfl (F257.ev 151 rfl))) fun _ F259 => ?_
                     refine wpAnyH_done (by kernel_rfl) (x_normal ?_) _
                     exact ⟨Q52, Q56, Q54, Q46, Q50, Q48, Q58, Q62, Q60, b256, F259.cut rfl, ((S246.trans (S249.trans (S251.trans (S256.trans S258)))).pick [4, 1, 2, 3, 0] rfl)⟩
                   · skip
                     refine f_alloc F250 S249.at' ZI_29 rfl rfl rfl rfl rfl fun b260 _ w260 F261 S260 => ?_
                     refine ⟨Sd.of (S249.trans S260) [1] rfl, ?_⟩
                     refine d_one (i := 3) (listed' := #[true, true, true, true, false, false, false, true, false, false]) rfl (by kernel_rfl) rfl rfl ?_
                     refine f_call F261 CF_30 rfl rfl rfl rfl (lc (F261.ev 146 rfl) (lc (F261.ev 148 rfl) rfl)) (impl_NumAt_c (m := M) (key := keyNum (⟨#[105, 47]⟩ : ByteArray) ((j : Nat) : Int) (⟨#[47, 108]⟩ : ByteArray)) (Rd.mq W30_0 (S195.trans (S201.trans (S246.trans (S249.trans S260))))) (Rd.mq W30_1 (S195.trans (S201.trans (S246.trans (S249.trans S260))))) (Rd.mq W30_2 (S195.trans (S201.trans (S246.trans (S249.trans S260))))) Q109 (Tb.mv V_tab0 (S3.trans (S8.trans (S11.trans (S13.trans (S19.trans (T24.trans (S25.trans (S28.trans (S31.trans (S32.trans (S33.trans (S30.trans (S195.trans (S201.trans (S246.trans (S249.trans S260))))))))))))))))) (Tb.mv V_tab1 (S3.trans (S8.trans (S11.trans (S13.trans (S19.trans (T24.trans (S25.trans (S28.trans (S31.trans (S32.trans (S33.trans (S30.trans (S195.trans (S201.trans (S246.trans (S249.trans S260))))))))))))))))) (by first | assumption | omega | ((first | apply b1_ | apply b2_ | apply b3_ | skip); (repeat (first | with_reducible apply b4_ | with_reducible apply b5_ | with_reducible apply b6_ | with_reducible refine bdC.mn ?_ | with_reducible refine bdC.fo ?_)); exact bdC.le ‹_› (by first | decide | omega)) | decide | exact Nat.le_trans (keyNum_size _ _ ‹_›) (by decide) | exact Nat.le_trans (keyNum_size _ _ ⟨by omega, by omega⟩) (by decide))) ?_
                     rintro _ w262 ⟨Q91, Q97, Q94, Q82, Q88, Q85, Q100, Q106, Q103, rfl, m262⟩
                     refine ⟨_, rfl, fun _ F263 => ?_⟩
                     have S262 : Mv _ _ [ow 73 2 encC okC (.slice Q91 Q97 Q94) (lookM M (keyNum (⟨#[105, 47]⟩ : ByteArray) ((j : Nat) : Int) (⟨#[47, 108]⟩ : ByteArray))).store, ow 9 1 encS okS (.slice Q82 Q88 Q85) (lookM M (keyNum (⟨#[105, 47]⟩ : ByteArray) ((j : Nat) : Int) (⟨#[47, 108]⟩ : ByteArray))).touch.reads, ow 9 1 encS okS (.slice Q100 Q106 Q103) (lookM M (keyNum (⟨#[105, 47]⟩ : ByteArray) ((j : Nat) : Int) (⟨#[47, 108]⟩ : ByteArray))).touch.writes, bx b260 [.slice none 0 0, .slice none 0 0, .slice none 0 0] 29, bx b19 [.slice sa sn sc, .slice ra rn rc, .slice ua un uc] 29] _ := At.frame S260.at' [] rfl m262
                     obtain ⟨Q159, Q211, Q263⟩ := At.ownInv S262.at' ET_24.hk 0 rfl
                     obtain ⟨Q160, Q212, Q264⟩ := At.ownInv S262.at' ET_25.hk 1 rfl
                     obtain ⟨Q161, Q213, Q265⟩ := At.ownInv S262.at' ET_25.hk 2 rfl
                     clear m262
                     refine ⟨Sd.of (S249.trans (S260.trans S262)) [4] rfl, ?_⟩
                     refine g_take F263 rfl (i := 4) (listed' := #[true, true, true, true, true, false, false, true, false, false]) rfl (by kernel_rfl) (by kernel_rfl) (by kernel_rfl) (fun _ _ _ h => h) (Sd.of (S249.trans (S260.trans S262)) [4] rfl) rfl rfl rfl rfl (fun _ hz => (r_move rfl (F263.ev 149 rfl))) fun _ F264 => ?_
                     refine g_take (v := .agg #[.slice Q91 Q97 Q94, .slice Q82 Q88 Q85, .slice Q100 Q106 Q103]) F264 rfl (i := 5) (listed' := #[true, true, true, true, true, true, false, true, false, false]) rfl (by kernel_rfl) (by kernel_rfl) (by kernel_rfl) (fun _ _ _ h => h) (Sd.of (S249.trans (S260.trans S262)) [4] rfl) rfl rfl rfl rfl (fun _ hz => (r_extract rfl (F264.ev 145 rfl) rfl)) fun _ F265 => ?_
                     refine g_take (v := .int .i64 ((numOf (getKey M.store (keyNum (⟨#[105, 47]⟩ : ByteArray) ((j : Nat) : Int) (⟨#[47, 108]⟩ : ByteArray))) : Nat) : Int)) F265 rfl (i := 6) (listed' := #[true, true, true, true, true, true, true, true, false, false]) rfl (by kernel_rfl) (by kernel_rfl) (by kernel_rfl) (fun _ _ _ h => h) (Sd.of (S249.trans (S260.trans S262)) [4] rfl) rfl rfl rfl rfl (fun _ hz => (r_extract rfl (F265.ev 145 rfl) rfl)) fun _ F266 => ?_
                     refine d_one (i := 8) (listed' := #[true, true, true, true, true, true, true, true, true, false]) rfl (by kernel_rfl) rfl rfl ?_
                     refine s_store S262.at' 3 TI_29 rfl rfl rfl rfl rfl (F266.ev 14 rfl) (F266.ev 150 rfl) rfl rfl rfl rfl rfl fun w267 S267 => ?_
                     refine ⟨Sd.of (S249.trans (S260.trans (S262.trans S267))) [4] rfl, ?_⟩
                     refine g_take F266 rfl (i := 9) (listed' := #[true, true, true, true, true, true, true, true, true, true]) rfl (by kernel_rfl) (by kernel_rfl) (by kernel_rfl) (fun _ _ _ h => h) (Sd.of (S249.trans (S260.trans (S262.trans S267))) [4] rfl) rfl rfl rfl rfl (fun _ hz => (r_assign rfl (F266.ev 151 rfl))) fun _ F268 => ?_
                     refine wpAnyH_done (by kernel_rfl) (x_normal ?_) _
                     exact ⟨Q91, Q97, Q94, Q82, Q88, Q85, Q100, Q106, Q103, b260, F268.cut rfl, ((S246.trans (S249.trans (S260.trans (S262.trans S267)))).pick [4, 1, 2, 3, 0] rfl)⟩
                 · skip
                   refine f_alloc F248 S246.at' ZI_29 rfl rfl rfl rfl rfl fun b269 _ w269 F270 S269 => ?_
                   refine ⟨Sd.of S269 [1] rfl, ?_⟩
                   refine d_one (i := 2) (listed' := #[true, true, true, false, false, false, false, true, false, false]) rfl (by kernel_rfl) rfl rfl ?_
                   refine f_call F270 CF_31 rfl rfl rfl rfl (lc rfl (lc (F270.ev 147 rfl) (lc rfl rfl))) (impl_KeyNum_c (head := (⟨#[105, 47]⟩ : ByteArray)) (n := ((j : Nat) : Int)) (tail := (⟨#[47, 108]⟩ : ByteArray)) (by unfold okS; decide) (by first | assumption | exact ⟨by omega, by omega⟩ | (unfold i64ok at *; omega)) (by unfold okS; decide) (Tb.mv V_tab0 (S3.trans (S8.trans (S11.trans (S13.trans (S19.trans (T24.trans (S25.trans (S28.trans (S31.trans (S32.trans (S33.trans (S30.trans (S195.trans (S201.trans (S246.trans S269)))))))))))))))) (by decide) (by decide)) ?_
                   rintro _ w271 ⟨rfl, m271, Q120⟩
                   refine ⟨_, rfl, fun _ F272 => ?_⟩
                   have S271 := At.frame0 S269.at' m271
                   clear m271
                   refine ⟨Sd.of (S269.trans S271) [1] rfl, ?_⟩
                   refine d_one (i := 3) (listed' := #[true, true, true, true, false, false, false, true, false, false]) rfl (by kernel_rfl) rfl rfl ?_
                   refine f_call F272 CF_30 rfl rfl rfl rfl (lc (F272.ev 146 rfl) (lc (F272.ev 148 rfl) rfl)) (impl_NumAt_c (m := M) (key := keyNum (⟨#[105, 47]⟩ : ByteArray) ((j : Nat) : Int) (⟨#[47, 108]⟩ : ByteArray)) (Rd.mq W30_0 (S195.trans (S201.trans (S246.trans (S269.trans S271))))) (Rd.mq W30_1 (S195.trans (S201.trans (S246.trans (S269.trans S271))))) (Rd.mq W30_2 (S195.trans (S201.trans (S246.trans (S269.trans S271))))) Q120 (Tb.mv V_tab0 (S3.trans (S8.trans (S11.trans (S13.trans (S19.trans (T24.trans (S25.trans (S28.trans (S31.trans (S32.trans (S33.trans (S30.trans (S195.trans (S201.trans (S246.trans (S269.trans S271))))))))))))))))) (Tb.mv V_tab1 (S3.trans (S8.trans (S11.trans (S13.trans (S19.trans (T24.trans (S25.trans (S28.trans (S31.trans (S32.trans (S33.trans (S30.trans (S195.trans (S201.trans (S246.trans (S269.trans S271))))))))))))))))) (by first | assumption | omega | ((first | apply b1_ | apply b2_ | apply b3_ | skip); (repeat (first | with_reducible apply b4_ | with_reducible apply b5_ | with_reducible apply b6_ | with_reducible refine bdC.mn ?_ | with_reducible refine bdC.fo ?_)); exact bdC.le ‹_› (by first | decide | omega)) | decide | exact Nat.le_trans (keyNum_size _ _ ‹_›) (by decide) | exact Nat.le_trans (keyNum_size _ _ ⟨by omega, by omega⟩) (by decide))) ?_
                   rintro _ w273 ⟨Q92, Q98, Q95, Q83, Q89, Q86, Q101, Q107, Q104, rfl, m273⟩
                   refine ⟨_, rfl, fun _ F274 => ?_⟩
                   have S273 : Mv _ _ [ow 73 2 encC okC (.slice Q92 Q98 Q95) (lookM M (keyNum (⟨#[105, 47]⟩ : ByteArray) ((j : Nat) : Int) (⟨#[47, 108]⟩ : ByteArray))).store, ow 9 1 encS okS (.slice Q83 Q89 Q86) (lookM M (keyNum (⟨#[105, 47]⟩ : ByteArray) ((j : Nat) : Int) (⟨#[47, 108]⟩ : ByteArray))).touch.reads, ow 9 1 encS okS (.slice Q101 Q107 Q104) (lookM M (keyNum (⟨#[105, 47]⟩ : ByteArray) ((j : Nat) : Int) (⟨#[47, 108]⟩ : ByteArray))).touch.writes, bx b269 [.slice none 0 0, .slice none 0 0, .slice none 0 0] 29, bx b19 [.slice sa sn sc, .slice ra rn rc, .slice ua un uc] 29] _ := At.frame S271.at' [] rfl m273
                   obtain ⟨Q162, Q214, Q266⟩ := At.ownInv S273.at' ET_24.hk 0 rfl
                   obtain ⟨Q163, Q215, Q267⟩ := At.ownInv S273.at' ET_25.hk 1 rfl
                   obtain ⟨Q164, Q216, Q268⟩ := At.ownInv S273.at' ET_25.hk 2 rfl
                   clear m273
                   refine ⟨Sd.of (S269.trans (S271.trans S273)) [4] rfl, ?_⟩
                   refine g_take F274 rfl (i := 4) (listed' := #[true, true, true, true, true, false, false, true, false, false]) rfl (by kernel_rfl) (by kernel_rfl) (by kernel_rfl) (fun _ _ _ h => h) (Sd.of (S269.trans (S271.trans S273)) [4] rfl) rfl rfl rfl rfl (fun _ hz => (r_move rfl (F274.ev 149 rfl))) fun _ F275 => ?_
                   refine g_take (v := .agg #[.slice Q92 Q98 Q95, .slice Q83 Q89 Q86, .slice Q101 Q107 Q104]) F275 rfl (i := 5) (listed' := #[true, true, true, true, true, true, false, true, false, false]) rfl (by kernel_rfl) (by kernel_rfl) (by kernel_rfl) (fun _ _ _ h => h) (Sd.of (S269.trans (S271.trans S273)) [4] rfl) rfl rfl rfl rfl (fun _ hz => (r_extract rfl (F275.ev 145 rfl) rfl)) fun _ F276 => ?_
                   refine g_take (v := .int .i64 ((numOf (getKey M.store (keyNum (⟨#[105, 47]⟩ : ByteArray) ((j : Nat) : Int) (⟨#[47, 108]⟩ : ByteArray))) : Nat) : Int)) F276 rfl (i := 6) (listed' := #[true, true, true, true, true, true, true, true, false, false]) rfl (by kernel_rfl) (by kernel_rfl) (by kernel_rfl) (fun _ _ _ h => h) (Sd.of (S269.trans (S271.trans S273)) [4] rfl) rfl rfl rfl rfl (fun _ hz => (r_extract rfl (F276.ev 145 rfl) rfl)) fun _ F277 => ?_
                   refine d_one (i := 8) (listed' := #[true, true, true, true, true, true, true, true, true, false]) rfl (by kernel_rfl) rfl rfl ?_
                   refine s_store S273.at' 3 TI_29 rfl rfl rfl rfl rfl (F277.ev 14 rfl) (F277.ev 150 rfl) rfl rfl rfl rfl rfl fun w278 S278 => ?_
                   refine ⟨Sd.of (S269.trans (S271.trans (S273.trans S278))) [4] rfl, ?_⟩
                   refine g_take F277 rfl (i := 9) (listed' := #[true, true, true, true, true, true, true, true, true, true]) rfl (by kernel_rfl) (by kernel_rfl) (by kernel_rfl) (fun _ _ _ h => h) (Sd.of (S269.trans (S271.trans (S273.trans S278))) [4] rfl) rfl rfl rfl rfl (fun _ hz => (r_assign rfl (F277.ev 151 rfl))) fun _ F279 => ?_
                   refine wpAnyH_done (by kernel_rfl) (x_normal ?_) _
                   exact ⟨Q92, Q98, Q95, Q83, Q89, Q86, Q101, Q107, Q104, b269, F279.cut rfl, ((S246.trans (S269.trans (S271.trans (S273.trans S278)))).pick [4, 1, 2, 3, 0] rfl)⟩
               · rintro a280 w280 ⟨Q52, Q56, Q54, Q46, Q50, Q48, Q58, Q62, Q60, b256, F280, S280⟩
                 obtain ⟨Q165, Q217, Q269⟩ := At.ownInv S280.at' ET_24.hk 1 rfl
                 obtain ⟨Q166, Q218, Q270⟩ := At.ownInv S280.at' ET_25.hk 2 rfl
                 obtain ⟨Q167, Q219, Q271⟩ := At.ownInv S280.at' ET_25.hk 3 rfl
                 refine x_normal (wp_seq (wp_region_lit (l_op (f_mv F280 rfl rfl rfl rfl rfl fun _ F281 => ?_))))
                 refine l_op (f_mv F281 rfl rfl rfl rfl rfl fun _ F282 => ?_)
                 refine l_op (f_val F282 rfl rfl (r_cmp (b := decide (nn ≠ numOf (getKey M.store (keyNum (⟨#[105, 47]⟩ : ByteArray) ((j : Nat) : Int) (⟨#[47, 108]⟩ : ByteArray))))) (.inr (.inl rfl)) rfl (F282.ev 152 rfl) (F282.ev 153 rfl) (dec_of (by omega))) rfl fun _ F283 => ?_)
                 rw [show (decide (nn ≠ numOf (getKey M.store (keyNum (⟨#[105, 47]⟩ : ByteArray) ((j : Nat) : Int) (⟨#[47, 108]⟩ : ByteArray))))) = false from decide_eq_false (fun h => h (hk_0.count (by omega) (by omega) (by omega) hq_0))] at F283
                 refine s_end (x_normal (wp_cond_false (F283.ev 154 rfl) (wp_skip (x_block_normal (x_normal (wp_region_lit (l_op (f_mv F283 rfl rfl rfl rfl rfl fun _ F284 => ?_))))))))
                 refine l_op (f_val F284 rfl rfl (r_add (z := ((j + 1 : Nat) : Int)) rfl (F284.ev 125 rfl) rfl (by first | rfl | omega) ⟨by first | omega | (unfold i64ok at *; omega), by first | omega | (unfold i64ok at *; omega)⟩) rfl fun _ F285 => ?_)
                 refine l_op (f_as F285 rfl rfl rfl rfl rfl fun _ F286 => ?_)
                 refine s_end ?_
                 refine x_normal ⟨j + 1, by omega, F286.cut rfl, ((S195.trans (S201.trans S280)).pick [0] rfl), by omega, by omega⟩
         · skip
           refine wp_exit (x_then_exit (x_then_exit (x_block_here (x_normal (wp_seq (wp_region_lit (l_op (f_val (v := .agg #[.slice sa sn sc, .slice ra rn rc, .slice ua un uc]) F197 rfl rfl (r_loadB S195.at' 0 TI_29 rfl rfl (F197.ev 4 rfl) rfl rfl (fun h => nomatch h) rfl) rfl fun _ F287 => ?_))))))))
           refine l_op (f_call F287 CF_32 rfl rfl rfl rfl (lc (F287.ev 156 rfl) rfl) (impl_NamesIn_c (m := M) (Rd.mq W30_0 S195) (Rd.mq W30_1 S195) (Rd.mq W30_2 S195) (by first | assumption | omega | ((first | apply b1_ | apply b2_ | apply b3_ | skip); (repeat (first | with_reducible apply b4_ | with_reducible apply b5_ | with_reducible apply b6_ | with_reducible refine bdC.mn ?_ | with_reducible refine bdC.fo ?_)); exact bdC.le ‹_› (by first | decide | omega)) | decide | exact Nat.le_trans (keyNum_size _ _ ‹_›) (by decide) | exact Nat.le_trans (keyNum_size _ _ ⟨by omega, by omega⟩) (by decide)) (by first | assumption | omega | ((first | apply b1_ | apply b2_ | apply b3_ | skip); (repeat (first | with_reducible apply b4_ | with_reducible apply b5_ | with_reducible apply b6_ | with_reducible refine bdC.mn ?_ | with_reducible refine bdC.fo ?_)); exact bdC.le ‹_› (by first | decide | omega)) | decide | exact Nat.le_trans (keyNum_size _ _ ‹_›) (by decide) | exact Nat.le_trans (keyNum_size _ _ ⟨by omega, by omega⟩) (by decide)) (by first | assumption | omega | ((first | apply b1_ | apply b2_ | apply b3_ | skip); (repeat (first | with_reducible apply b4_ | with_reducible apply b5_ | with_reducible apply b6_ | with_reducible refine bdC.mn ?_ | with_reducible refine bdC.fo ?_)); exact bdC.le ‹_› (by first | decide | omega)) | decide | exact Nat.le_trans (keyNum_size _ _ ‹_›) (by decide) | exact Nat.le_trans (keyNum_size _ _ ⟨by omega, by omega⟩) (by decide))) ?_)
           rintro _ w288 ⟨Q66, Q68, Q67, Q63, Q65, Q64, Q69, Q71, Q70, Q78, Q80, Q79, rfl, m288⟩
           refine ⟨_, rfl, fun _ F289 => ?_⟩
           have S288 : Mv _ _ [ow 73 2 encC okC (.slice Q66 Q68 Q67) (lookM M ((⟨#[110, 47]⟩ : ByteArray) ++ bT_)).store, ow 9 1 encS okS (.slice Q63 Q65 Q64) (lookM M ((⟨#[110, 47]⟩ : ByteArray) ++ bT_)).touch.reads, ow 9 1 encS okS (.slice Q69 Q71 Q70) (lookM M ((⟨#[110, 47]⟩ : ByteArray) ++ bT_)).touch.writes, ow 9 1 encS okS (.slice Q78 Q80 Q79) (namesL (keysUnder M.store (⟨#[110, 47]⟩ : ByteArray))), bx b19 [.slice sa sn sc, .slice ra rn rc, .slice ua un uc] 29] _ := At.frame S195.at' [] rfl m288
           obtain ⟨Q168, Q220, Q272⟩ := At.ownInv S288.at' ET_24.hk 0 rfl
           obtain ⟨Q169, Q221, Q273⟩ := At.ownInv S288.at' ET_25.hk 1 rfl
           obtain ⟨Q170, Q222, Q274⟩ := At.ownInv S288.at' ET_25.hk 2 rfl
           obtain ⟨Q171, Q223, Q275⟩ := At.ownInv S288.at' ET_25.hk 3 rfl
           clear m288
           refine l_op (f_mv F289 rfl rfl rfl rfl rfl fun _ F290 => ?_)
           refine l_op (f_val (v := .agg #[.slice Q66 Q68 Q67, .slice Q63 Q65 Q64, .slice Q69 Q71 Q70]) F290 rfl rfl (r_extract rfl (F290.ev 155 rfl) rfl) rfl fun _ F291 => ?_)
           refine l_op (f_val (v := .slice Q78 Q80 Q79) F291 rfl rfl (r_extract rfl (F291.ev 155 rfl) rfl) rfl fun _ F292 => ?_)
           refine l_op (f_alloc F292 S288.at' ZI_29 rfl rfl rfl rfl rfl fun b293 _ w293 F294 S293 => ?_)
           refine l_op (s_store S293.at' 0 TI_29 rfl rfl rfl rfl rfl (F294.ev 16 rfl) (F294.ev 158 rfl) rfl rfl rfl rfl rfl fun w295 S295 => ?_)
           refine l_op (f_as F294 rfl rfl rfl rfl rfl fun _ F296 => ?_)
           have T297 : Mv _ _ [bx b293 [.slice Q66 Q68 Q67, .slice Q63 Q65 Q64, .slice Q69 Q71 Q70] 29, ow 73 2 encC okC (.slice Q66 Q68 Q67) (lookM M ((⟨#[110, 47]⟩ : ByteArray) ++ bT_)).store, ow 9 1 encS okS (.slice Q63 Q65 Q64) (lookM M ((⟨#[110, 47]⟩ : ByteArray) ++ bT_)).touch.reads, ow 9 1 encS okS (.slice Q69 Q71 Q70) (lookM M ((⟨#[110, 47]⟩ : ByteArray) ++ bT_)).touch.writes, ow 9 1 encS okS (.slice Q78 Q80 Q79) (namesL (keysUnder M.store (⟨#[110, 47]⟩ : ByteArray))), bx b19 [.slice sa sn sc, .slice ra rn rc, .slice ua un uc] 29] _ := S295
           refine s_end (x_normal (wp_seq (wp_region_lit (l_op (f_val (v := .agg #[.slice sa sn sc, .slice ra rn rc, .slice ua un uc]) F296 rfl rfl (r_loadB T297.at' 5 TI_29 rfl rfl (F296.ev 4 rfl) rfl rfl (fun h => nomatch h) rfl) rfl fun _ F298 => ?_)))))
           refine l_op (f_call F298 CF_33 rfl rfl rfl rfl (lc (F298.ev 161 rfl) rfl) (spec_NamesIn_c (m := M) (Rd.mq W30_0 (S195.trans (S288.trans (S293.trans T297)))) (Rd.mq W30_1 (S195.trans (S288.trans (S293.trans T297)))) (Rd.mq W30_2 (S195.trans (S288.trans (S293.trans T297)))) (by first | assumption | omega | ((first | apply b1_ | apply b2_ | apply b3_ | skip); (repeat (first | with_reducible apply b4_ | with_reducible apply b5_ | with_reducible apply b6_ | with_reducible refine bdC.mn ?_ | with_reducible refine bdC.fo ?_)); exact bdC.le ‹_› (by first | decide | omega)) | decide | exact Nat.le_trans (keyNum_size _ _ ‹_›) (by decide) | exact Nat.le_trans (keyNum_size _ _ ⟨by omega, by omega⟩) (by decide)) (by first | assumption | omega | ((first | apply b1_ | apply b2_ | apply b3_ | skip); (repeat (first | with_reducible apply b4_ | with_reducible apply b5_ | with_reducible apply b6_ | with_reducible refine bdC.mn ?_ | with_reducible refine bdC.fo ?_)); exact bdC.le ‹_› (by first | decide | omega)) | decide | exact Nat.le_trans (keyNum_size _ _ ‹_›) (by decide) | exact Nat.le_trans (keyNum_size _ _ ⟨by omega, by omega⟩) (by decide)) (by first | assumption | omega | ((first | apply b1_ | apply b2_ | apply b3_ | skip); (repeat (first | with_reducible apply b4_ | with_reducible apply b5_ | with_reducible apply b6_ | with_reducible refine bdC.mn ?_ | with_reducible refine bdC.fo ?_)); exact bdC.le ‹_› (by first | decide | omega)) | decide | exact Nat.le_trans (keyNum_size _ _ ‹_›) (by decide) | exact Nat.le_trans (keyNum_size _ _ ⟨by omega, by omega⟩) (by decide))) ?_)
           rintro _ w299 ⟨Q113, Q115, Q114, Q110, Q112, Q111, Q116, Q118, Q117, Q121, Q123, Q122, rfl, m299, v299_0, v299_1, v299_2, v299_3⟩
           refine ⟨_, rfl, fun _ F300 => ?_⟩
           have S299 := At.frame0 T297.at' m299
           have V299_0 := Rd.got0 T297.at' ((S3.trans (S8.trans (S11.trans (S13.trans (S19.trans (T24.trans (S25.trans (S28.trans (S31.trans (S32.trans (S33.trans (S30.trans (S195.trans (S288.trans (S293.trans T297))))))))))))))).kp.size) v299_0 S299
           obtain ⟨ln299_0, le299_0, mx299_0, ni299_0⟩ := Rd.inv V299_0
           have V299_1 := Rd.got0 T297.at' ((S3.trans (S8.trans (S11.trans (S13.trans (S19.trans (T24.trans (S25.trans (S28.trans (S31.trans (S32.trans (S33.trans (S30.trans (S195.trans (S288.trans (S293.trans T297))))))))))))))).kp.size) v299_1 S299
           obtain ⟨ln299_1, le299_1, mx299_1, ni299_1⟩ := Rd.inv V299_1
           have V299_2 := Rd.got0 T297.at' ((S3.trans (S8.trans (S11.trans (S13.trans (S19.trans (T24.trans (S25.trans (S28.trans (S31.trans (S32.trans (S33.trans (S30.trans (S195.trans (S288.trans (S293.trans T297))))))))))))))).kp.size) v299_2 S299
           obtain ⟨ln299_2, le299_2, mx299_2, ni299_2⟩ := Rd.inv V299_2
           have V299_3 := Rd.got0 T297.at' ((S3.trans (S8.trans (S11.trans (S13.trans (S19.trans (T24.trans (S25.trans (S28.trans (S31.trans (S32.trans (S33.trans (S30.trans (S195.trans (S288.trans (S293.trans T297))))))))))))))).kp.size) v299_3 S299
           obtain ⟨ln299_3, le299_3, mx299_3, ni299_3⟩ := Rd.inv V299_3
           clear m299 v299_0 v299_1 v299_2 v299_3
           refine l_op (f_mv F300 rfl rfl rfl rfl rfl fun _ F301 => ?_)
           refine l_op (f_val (v := .agg #[.slice Q113 Q115 Q114, .slice Q110 Q112 Q111, .slice Q116 Q118 Q117]) F301 rfl rfl (r_extract rfl (F301.ev 160 rfl) rfl) rfl fun _ F302 => ?_)
           refine l_op (f_val (v := .slice Q121 Q123 Q122) F302 rfl rfl (r_extract rfl (F302.ev 160 rfl) rfl) rfl fun _ F303 => ?_)
           refine l_op (f_alloc F303 S299.at' ZI_29 rfl rfl rfl rfl rfl fun b304 _ w304 F305 S304 => ?_)
           refine l_op (s_store S304.at' 0 TI_29 rfl rfl rfl rfl rfl (F305.ev 18 rfl) (F305.ev 163 rfl) rfl rfl rfl rfl rfl fun w306 S306 => ?_)
           refine l_op (f_as F305 rfl rfl rfl rfl rfl fun _ F307 => ?_)
           refine s_end (x_normal (wp_seq (wp_region_lit (l_op (f_mv F307 rfl rfl rfl rfl rfl fun _ F308 => ?_)))))
           refine l_op (f_mv F308 rfl rfl rfl rfl rfl fun _ F309 => ?_)
           refine l_op (f_call F309 CF_19 rfl rfl rfl rfl (lc (F309.ev 165 rfl) (lc (F309.ev 166 rfl) rfl)) (laws_sameTexts_c (H := fun _ => True) (a := namesL (keysUnder M.store (⟨#[110, 47]⟩ : ByteArray))) (b := namesL (keysUnder M.store (⟨#[110, 47]⟩ : ByteArray))) (At.rd S306.at' ET_25.hk 5 rfl) (Rd.top (Rd.mq V299_3 (S304.trans S306)))) ?_)
           rintro _ w310 ⟨rfl, m310⟩
           refine ⟨_, rfl, fun _ F311 => ?_⟩
           have S310 := At.frame0 S306.at' m310
           rw [show (decide ((namesL (keysUnder M.store (⟨#[110, 47]⟩ : ByteArray))) = (namesL (keysUnder M.store (⟨#[110, 47]⟩ : ByteArray))))) = true from decide_eq_true rfl] at F311
           clear m310
           refine l_op (f_mv F311 rfl rfl rfl rfl rfl fun _ F312 => ?_)
           refine l_op (f_mv F312 (wanted_g F312 rfl rfl rfl rfl) rfl rfl rfl rfl fun _ F313 => ?_)
           refine l_op (f_val F313 (wanted_g F313 rfl rfl rfl rfl) rfl (r_cmp (b := decide (mnI (⟨[], (⟨[], []⟩ : TouchD)⟩ : MachD) (⟨#[120]⟩ : ByteArray) > 0)) (.inr (.inr (.inr (.inr (.inl rfl))))) rfl (F313.ev 169 rfl) rfl (dec_of (by omega))) rfl fun _ F314 => ?_)
           rw [show (decide (mnI (⟨[], (⟨[], []⟩ : TouchD)⟩ : MachD) (⟨#[120]⟩ : ByteArray) > 0)) = true from decide_eq_true first_one] at F314
           refine l_op (f_val F314 rfl rfl (r_pick (b := true) rfl (F314.ev 168 rfl) (F314.ev 170 rfl)) rfl fun _ F315 => ?_)
           refine l_op (f_as F315 rfl rfl rfl rfl rfl fun _ F316 => ?_)
           have T317 : Mv _ _ [bx b304 [.slice Q113 Q115 Q114, .slice Q110 Q112 Q111, .slice Q116 Q118 Q117] 29, bx b293 [.slice Q66 Q68 Q67, .slice Q63 Q65 Q64, .slice Q69 Q71 Q70] 29, ow 73 2 encC okC (.slice Q66 Q68 Q67) (lookM M ((⟨#[110, 47]⟩ : ByteArray) ++ bT_)).store, ow 9 1 encS okS (.slice Q63 Q65 Q64) (lookM M ((⟨#[110, 47]⟩ : ByteArray) ++ bT_)).touch.reads, ow 9 1 encS okS (.slice Q69 Q71 Q70) (lookM M ((⟨#[110, 47]⟩ : ByteArray) ++ bT_)).touch.writes, ow 9 1 encS okS (.slice Q78 Q80 Q79) (namesL (keysUnder M.store (⟨#[110, 47]⟩ : ByteArray))), bx b19 [.slice sa sn sc, .slice ra rn rc, .slice ua un uc] 29] _ := S310
           refine s_end (x_normal (wp_ret ?_))
           refine x_done (v := .bool true) F316 (results_1 Tryz.results4 (.tmp (F316.ev 2 rfl))) ?_
           exact ⟨rfl, (Mv.pick (S3.trans (S8.trans (S11.trans (S13.trans (S19.trans (T24.trans (S25.trans (S28.trans (S31.trans (S32.trans (S33.trans (S30.trans (S195.trans (S288.trans (S293.trans (T297.trans (S299.trans (S304.trans (S306.trans T317))))))))))))))))))) [] rfl)⟩
end Go.Proofs.YtibgmijfnbnfkaaGreatDoor
namespace Go.Proofs.YtibgmijfnbnfkaaGreatDoor.namescount
open Go.ChangeShapes Go.WideShapes Go.ChangeAt Go.RowKit
set_option maxRecDepth 100000
theorem cells_5 : Tryz.prog.cellsOf 5 = 1 := by kernel_rfl
theorem starE : "*" ++ "errors.errorString" = "*errors.errorString" := by decide
theorem rowE (u : TypeId) (h : Tryz.prog.typeName? 3 u = some "*errors.errorString") : u = 161 :=
  typeName_ptr_named (nm := "errors.errorString") (by rw [starE]; kernel_rfl) (by kernel_rfl) (by decide) u (by rw [starE]; exact h)
theorem cellsE : Tryz.prog.cellsOf 163 = 1 := by kernel_rfl
theorem cells_9 : Tryz.prog.cellsOf 9 = 1 := by kernel_rfl
theorem ground0 {W : World} (h : laidMet Tryz.prog [("math/bits.deBruijn32tab", Rows.laid_math_bits_deBruijn32tab), ("math/bits.deBruijn64tab", Rows.laid_math_bits_deBruijn64tab), ("internal/strconv.uint64pow10", Rows.laid_internal_strconv_uint64pow10), ("strconv.ErrRange", Rows.laid_strconv_ErrRange), ("strconv.ErrSyntax", Rows.laid_strconv_ErrSyntax)] W) : Tb 0 (fun _ => True) W := by
  have e : (Rows.laid_internal_strconv_uint64pow10 : DataW Unit) = Lib.tabData .u64 Lib.pow10Tab := by kernel_rfl
  have h2 : laidMet Tryz.prog (("internal/strconv.uint64pow10", Lib.tabData .u64 Lib.pow10Tab) :: [("strconv.ErrRange", Rows.laid_strconv_ErrRange), ("strconv.ErrSyntax", Rows.laid_strconv_ErrSyntax)]) W := by rw [← e]; exact h.tail.tail
  have h3 : Lib.TabIs Tryz.prog W "internal/strconv.uint64pow10" .u64 Lib.pow10Tab := Lib.tabIs_of_head laysItoa.m17 (t := 146) (e := 132) (n := 20) (by kernel_rfl) Tryz.underlying146 Tryz.underlying132 (by kernel_rfl) (by kernel_rfl) h2
  exact ⟨h3, fun g hg => by rw [List.mem_singleton.1 hg]; exact ⟨trivial, Lib.lt_of_cell (h3.cell laysItoa.m17 0 (by decide))⟩⟩
theorem ground1 {W : World} (h : laidMet Tryz.prog [("math/bits.deBruijn32tab", Rows.laid_math_bits_deBruijn32tab), ("math/bits.deBruijn64tab", Rows.laid_math_bits_deBruijn64tab), ("internal/strconv.uint64pow10", Rows.laid_internal_strconv_uint64pow10), ("strconv.ErrRange", Rows.laid_strconv_ErrRange), ("strconv.ErrSyntax", Rows.laid_strconv_ErrSyntax)] W) : Tb 1 (fun _ => True) W := by
  have gS : Tryz.prog.globalNamed "strconv.ErrSyntax" = some (laysAtoi_ren.g 15) := by kernel_rfl
  obtain ⟨aS, sS, vS, -, -, -⟩ := laid_sentinel (h.tail.tail.tail.tail) gS (ti := 121) (by kernel_rfl) Tryz.underlying121 rowE Tryz.underlying161 Tryz.underlying163 rfl rfl Tryz.underlying9 cellsE cells_9
  have cS := var_cell gS vS
  have gR : Tryz.prog.globalNamed "strconv.ErrRange" = some (laysAtoi_ren.g 16) := by kernel_rfl
  obtain ⟨aR, sR, vR, -, -, -⟩ := laid_sentinel (h.tail.tail.tail) gR (ti := 121) (by kernel_rfl) Tryz.underlying121 rowE Tryz.underlying161 Tryz.underlying163 rfl rfl Tryz.underlying9 cellsE cells_9
  have cR := var_cell gR vR
  exact ⟨⟨⟨_, cS, .inr ⟨_, _, rfl⟩⟩, ⟨_, cR, .inr ⟨_, _, rfl⟩⟩⟩, fun g hg => by
    rcases List.mem_cons.1 hg with e | hg
    · rw [e]; exact ⟨trivial, Lib.lt_of_cell cS⟩
    · rw [List.mem_singleton.1 hg]; exact ⟨trivial, Lib.lt_of_cell cR⟩⟩
theorem called (W : World) (args : Array Value) (h : ArgsRead Tryz.prog W Tryz.f4.params.toList args.toList) (t0 : Tb 0 (fun _ => True) W) (t1 : Tb 1 (fun _ => True) W) : Calls Tryz.prog 4 args W fun e W' => e = .returned (.bool true) ∧ Bl W W' := by
  obtain ⟨hl, h⟩ := h
  rw [Tryz.params4] at hl h
  obtain ⟨v0, rfl⟩ : ∃ v0, args = #[v0] := by
    obtain ⟨l⟩ := args
    match l, hl with
    | [v0], _ => exact ⟨v0, rfl⟩
  obtain ⟨r0, o0⟩ := h 0 _ v0 rfl rfl
  have q0 := reads_one Tryz.underlying22 trivial o0 r0
  obtain ⟨a_0, n_0, c_0, l_0, e_0, v_0⟩ := rdA_of Tryz.underlying22 cells_5 (by decide) (u8_row Tryz.underlying5) q0
  cases e_0
  exact (laws_FnNamesCount_c (w := W) (H := fun _ => True) (code := l_0) v_0 t0 t1).mono fun e W' ⟨h1, h2⟩ => ⟨h1, h2.bl⟩
theorem own : ownKnob Tryz.prog.godebug = none := by kernel_rfl
theorem laidOut : laidOutB Tryz.prog = true := by kernel_rfl
theorem readable : ∀ t ∈ Tryz.f4.params.toList, Tryz.prog.readableRec t = true ∧ t < Tryz.prog.types.size := of_decide_eq_true (by kernel_rfl)
theorem door_met (os : Os) (args : Array Value) : laidMetH Tryz.prog [("math/bits.deBruijn32tab", Rows.laid_math_bits_deBruijn32tab), ("math/bits.deBruijn64tab", Rows.laid_math_bits_deBruijn64tab), ("internal/strconv.uint64pow10", Rows.laid_internal_strconv_uint64pow10), ("strconv.ErrRange", Rows.laid_strconv_ErrRange), ("strconv.ErrSyntax", Rows.laid_strconv_ErrSyntax)] ((World.doorLaid Tryz.prog 81 os).forCall (fun _ _ => 0) ⟨#[], args, []⟩).memory :=
  laidMetH_of_parts3 (fuel := 8) (laidMet_of_run' 8 (by kernel_rfl) (by kernel_rfl)) (by kernel_rfl) (by kernel_rfl)
theorem lifted (os : Os) (started : os.Started) (H : Type) (enc : TypeId × Value → H) :
    ReturnsInHanded {} Tryz.checked os 4 .any (fun w args => (Rows.fnNamesCountSpec.pre enc Tryz.prog Tryz.f4 [] false w args ∧ laidMetH Tryz.prog [("math/bits.deBruijn32tab", Rows.laid_math_bits_deBruijn32tab), ("math/bits.deBruijn64tab", Rows.laid_math_bits_deBruijn64tab), ("internal/strconv.uint64pow10", Rows.laid_internal_strconv_uint64pow10), ("strconv.ErrRange", Rows.laid_strconv_ErrRange), ("strconv.ErrSyntax", Rows.laid_strconv_ErrSyntax)] w) ∧ sizedMet enc Tryz.prog Tryz.f4 (OpenSpec.ofChange Rows.fnNamesCountSpec) false w args)
      (Rows.fnNamesCountSpec.post enc Tryz.prog Tryz.f4 false true false false) := by
  refine returnsInHanded_of_change_and (C := Tryz.checked) (X := fun w _ => laidMetH Tryz.prog [("math/bits.deBruijn32tab", Rows.laid_math_bits_deBruijn32tab), ("math/bits.deBruijn64tab", Rows.laid_math_bits_deBruijn64tab), ("internal/strconv.uint64pow10", Rows.laid_internal_strconv_uint64pow10), ("strconv.ErrRange", Rows.laid_strconv_ErrRange), ("strconv.ErrSyntax", Rows.laid_strconv_ErrSyntax)] w) (fun _ _ _ hh h => h.of_heap hh) own started (by kernel_rfl) Tryz.func4
    (ChangeSpec.witness_shaped (enc := enc) (C := Tryz.checked) (os := os) (X := fun w _ => laidMetH Tryz.prog [("math/bits.deBruijn32tab", Rows.laid_math_bits_deBruijn32tab), ("math/bits.deBruijn64tab", Rows.laid_math_bits_deBruijn64tab), ("internal/strconv.uint64pow10", Rows.laid_internal_strconv_uint64pow10), ("strconv.ErrRange", Rows.laid_strconv_ErrRange), ("strconv.ErrSyntax", Rows.laid_strconv_ErrSyntax)] w) false (World.doorLaid Tryz.prog 81 os) #[.slice none 0 0] 8 rfl (World.shaped_of_RefB (by kernel_rfl) (by kernel_rfl)) (by kernel_rfl) (by kernel_rfl) (by kernel_rfl) (door_met os _)) ?_
  intro W base args ds gs before hval0 hW _ _ hL _
  have hval : ∀ (j : Nat) t v, Tryz.f4.params[j]? = some t → args[j]? = some v → Value.okWide Tryz.prog W .any 0 t v := hval0
  have hM : laidMet Tryz.prog [("math/bits.deBruijn32tab", Rows.laid_math_bits_deBruijn32tab), ("math/bits.deBruijn64tab", Rows.laid_math_bits_deBruijn64tab), ("internal/strconv.uint64pow10", Rows.laid_internal_strconv_uint64pow10), ("strconv.ErrRange", Rows.laid_strconv_ErrRange), ("strconv.ErrSyntax", Rows.laid_strconv_ErrSyntax)] W := by
    have h := hL
    rw [MakeChecks.laidMetH_plain _ _ _ (by kernel_rfl)] at h
    exact h
  refine law_contractW laidOut readable Tryz.underlying4 rfl rfl ?_ H enc false true false false W args ds gs before (fun h => called W args h (ground0 hM) (ground1 hM)) hval hW
  intro H ds hd
  match ds, hd with
  | [a], _ => rfl
theorem bare : Rows.FnNamesCountSaid :=
  OpenClaim.holds_of_wide 4 Tryz.f4 rfl rfl rfl rfl rfl rfl rfl ⟨rfl, rfl, rfl, rfl, rfl⟩ rfl rfl rfl rfl rfl (by kernel_rfl) Tryz.func4 (by kernel_rfl)
    (of_decide_eq_true (by kernel_rfl)) (by unfold Func.isWrapper; first | (rw [if_pos (by decide +kernel)]; kernel_rfl) | (rw [if_neg (by decide +kernel)]; exact ⟨rfl, rfl⟩))
    (fun os started H enc _ => lifted os started H enc)
theorem proved : Rows.FnNamesCountCardSaid :=
  Claim7.holds_tied_plain_at .later [] [.data, .data, .data, .sentinel, .sentinel] true (true, "3ddab414948381acf71225029c6f1add9f2a62ccb30058f43c7bdd90a71ffb05") true
    bare (fun _ h => by cases h) (by kernel_rfl) (fun _ h => by cases h) fnNamesCount_row_tie rfl ⟨rfl, rfl⟩ (by kernel_rfl) rfl
    (fun f fn hf hfn => by
      obtain rfl : f = 4 := Option.some.inj ((show Tryz.prog.funcNamed "loop.example/g00974/laws.FnNamesCount" = some 4 by kernel_rfl).symm.trans hf) |>.symm
      obtain rfl : fn = Tryz.f4 := (Option.some.inj (Tryz.func4.symm.trans hfn)).symm
      exact ⟨by kernel_rfl, fun j t ht => by
        rw [Tryz.params4] at ht
        have hm : t ∈ [22] := by simpa using Array.mem_of_getElem? ht
        have hall : ([22].all fun u => !Tryz.prog.wantsStandIn u) = true := by kernel_rfl
        exact (show Tryz.prog.wantsStandIn t = false by simpa using List.all_eq_true.1 hall t hm)⟩)
    (by kernel_rfl)
end Go.Proofs.YtibgmijfnbnfkaaGreatDoor.namescount
