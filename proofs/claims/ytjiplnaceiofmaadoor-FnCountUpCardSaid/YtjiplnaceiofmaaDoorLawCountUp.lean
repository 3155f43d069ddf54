/-
  PROVED HERE: whatever the input, the statement laws.FnCountUp returns true. Condition: the tables and errors of the library that the row lists stand as the program's text lays them (the card ties that).
-/
import Derived.Test.YtjiplnaceiofmaaDoorGenDp
import Derived.Test.YtjiplnaceiofmaaDoorGenSa
import Derived.Test.YtjiplnaceiofmaaDoorLaw2
import Derived.Test.YtjiplnaceiofmaaDoorLaw3
namespace Go.Proofs.YtjiplnaceiofmaaDoor
open Go.ChangeShapes Go.WideShapes Go.ChangeAt Go.RowKit
set_option maxRecDepth 100000
set_option maxHeartbeats 1000000
theorem laws_FnCountUp_c {w : World} {H : Nat → Prop} {code : List Nat} {code_a : Option Addr} {code_n code_c : Nat} (v_code : RdA 1 encB okB H w (.slice code_a code_n code_c) code) (tab0 : Tb 0 H w) (tab1 : Tb 1 H w) :
    Calls Tryd.prog 5 #[.slice code_a code_n code_c] w fun e w' => e = .returned (.bool true) ∧ Mv [] w [] w' := by
 have V_v_code : RdA 1 encB okB (V H w []) w (.slice code_a code_n code_c) code := RdA.start v_code (fun _ _ => fps_nil _)
 obtain ⟨ln_code, le_code, mx_code, ni_code⟩ := RdA.inv v_code
 have V_tab0 : Tb 0 (V H w []) w := Tb.start tab0 (fun _ _ => fps_nil _)
 have V_tab1 : Tb 1 (V H w []) w := Tb.start tab1 (fun _ _ => fps_nil _)
 refine calls_enter 48 Tryd.func5 rfl Tryd.ntmps5 (Nat.le_of_ble_eq_true rfl) (fun _ F0i => ?_)
 have F0 : Fr 48 [(0, .slice code_a code_n code_c)] _ := F0i
 clear F0i
 refine wp_seq (wp_region_lit (l_op (f_val F0 rfl rfl (r_assign rfl rfl) rfl fun _ F1 => ?_)))
 have F2 : Fr 48 [(2, .bool false), (0, .slice code_a code_n code_c)] _ := F1.cut rfl
 clear F0 F1
 refine s_end (x_normal (wp_seq (wp_seq (wp_region_lit (l_op (f_mv F2 rfl rfl rfl rfl rfl fun _ F3 => ?_))))))
 refine l_op (f_call F3 CF_15 rfl rfl rfl rfl (lc (F3.ev 9 rfl) rfl) (laws_big_c (code := code) V_v_code) ?_)
 rintro _ w4 ⟨rfl, m4⟩
 refine ⟨_, rfl, fun _ F5 => ?_⟩
 have S4 := At.frame0 (At.nil w) m4
 clear m4
 have F6 : Fr 48 [(10, .bool (decide (code.length > 1048576))), (0, .slice code_a code_n code_c)] _ := F5.cut rfl
 clear F2 F3 F5
 have T7 : Mv _ _ [] _ := S4
 refine s_end (x_normal (x_cond (p := code.length > 1048576) (F6.ev 10 rfl) (fun h8 => ?_) (fun h8 => ?_)))
 · skip
   refine wp_seq (wp_region_lit (l_op (f_val F6 rfl rfl (r_assign rfl rfl) rfl fun _ F9 => ?_)))
   have F10 : Fr 48 [(2, .bool true)] _ := F9.cut rfl
   clear F6 F9
   refine s_end (x_normal (wp_ret (x_then_ret ?_)))
   refine x_done (v := .bool true) F10 (results_1 Tryd.results5 (.tmp (F10.ev 2 rfl))) ?_
   exact ⟨rfl, (Mv.pick T7 [] rfl)⟩
 · skip
   refine wp_skip (x_normal (wp_seq (wp_region_lit (l_op (f_mv F6 rfl rfl rfl rfl rfl fun _ F11 => ?_)))))
   refine l_op (f_call F11 CF_16 rfl rfl rfl rfl (lc (F11.ev 11 rfl) rfl) (spec_DrawPlaces_c (code := code) (RdA.mv (Nat.succ_pos _) V_v_code T7) (by first | assumption | omega | (simp <;> omega))) ?_)
   rintro _ w12 ⟨p_12, r0_a_12, r0_n_12, r0_c_12, rfl, m12, v12_0, q12_0, q12_1⟩
   refine ⟨_, rfl, fun _ F13 => ?_⟩
   have S12 := At.frame0 T7.at' m12
   have V12_0 := Rd.got0 T7.at' (T7.kp.size) v12_0 S12
   obtain ⟨ln12_0, le12_0, mx12_0, ni12_0⟩ := Rd.inv V12_0
   clear m12 v12_0
   refine l_op (f_as F13 rfl rfl rfl rfl rfl fun _ F14 => ?_)
   have F15 : Fr 48 [(3, .slice r0_a_12 r0_n_12 r0_c_12)] _ := F14.cut rfl
   clear F6 F11 F13 F14
   have T16 : Mv _ _ [] _ := S12
   refine s_end (x_normal (wp_seq (wp_region_lit (l_op (f_call F15 CF_17 rfl rfl rfl rfl rfl (laws_base_c (H := V H w [])  ) ?_)))))
   rintro _ w17 ⟨r0_store_a_17, r0_store_n_17, r0_store_c_17, r0_touch_reads_a_17, r0_touch_reads_n_17, r0_touch_reads_c_17, r0_touch_writes_a_17, r0_touch_writes_n_17, r0_touch_writes_c_17, rfl, m17, v17_0, v17_1, v17_2⟩
   refine ⟨_, rfl, fun _ F18 => ?_⟩
   have S17 := At.frame0 T16.at' m17
   have V17_0 := Rd.got0 T16.at' ((T7.trans T16).kp.size) v17_0 S17
   obtain ⟨ln17_0, le17_0, mx17_0, ni17_0⟩ := Rd.inv V17_0
   have V17_1 := Rd.got0 T16.at' ((T7.trans T16).kp.size) v17_1 S17
   obtain ⟨ln17_1, le17_1, mx17_1, ni17_1⟩ := Rd.inv V17_1
   have V17_2 := Rd.got0 T16.at' ((T7.trans T16).kp.size) v17_2 S17
   obtain ⟨ln17_2, le17_2, mx17_2, ni17_2⟩ := Rd.inv V17_2
   clear m17 v17_0 v17_1 v17_2
   refine l_op (f_alloc F18 S17.at' ZI_31 rfl rfl rfl rfl rfl fun b19 _ w19 F20 S19 => ?_)
   refine l_op (s_store S19.at' 0 TI_31 rfl rfl rfl rfl rfl (F20.ev 4 rfl) (F20.ev 13 rfl) rfl rfl rfl rfl rfl fun w21 S21 => ?_)
   have F22 : Fr 48 [(4, .pointer (some ⟨b19, 0, none⟩)), (13, .agg #[.slice r0_store_a_17 r0_store_n_17 r0_store_c_17, .slice r0_touch_reads_a_17 r0_touch_reads_n_17 r0_touch_reads_c_17, .slice r0_touch_writes_a_17 r0_touch_writes_n_17 r0_touch_writes_c_17]), (3, .slice r0_a_12 r0_n_12 r0_c_12)] _ := F20.cut rfl
   clear F15 F18 F20
   have T23 : Mv _ _ [bx b19 [.slice r0_store_a_17 r0_store_n_17 r0_store_c_17, .slice r0_touch_reads_a_17 r0_touch_reads_n_17 r0_touch_reads_c_17, .slice r0_touch_writes_a_17 r0_touch_writes_n_17 r0_touch_writes_c_17] 31] _ := S21
   refine s_end (x_normal (wp_seq ?_))
   obtain ⟨x1, hx1, okx1⟩ := Rd.elem (Rd.mv (Nat.succ_pos _) V12_0 (S17.trans (S19.trans T23))) 0 (by omega)
   have pb24 := pOk_at (by assumption) hx1
   obtain ⟨rA, hrA, lrA⟩ := rem_nat (c := 12) pb24 (by decide)
   refine wp_region_lit (l_op (f_val F22 rfl rfl (r_assign rfl rfl) rfl fun _ F25 => ?_))
   have F26 : Fr 48 [(5, .int .i64 0), (4, .pointer (some ⟨b19, 0, none⟩)), (3, .slice r0_a_12 r0_n_12 r0_c_12)] _ := F25.cut rfl
   clear F22 F25
   refine s_end (x_normal (wp_seq (wp_seq (wp_region_lit (l_op (f_val F26 rfl rfl (r_assign rfl rfl) rfl fun _ F27 => ?_))))))
   have F28 : Fr 48 [(6, .int .i64 1), (5, .int .i64 0), (4, .pointer (some ⟨b19, 0, none⟩)), (3, .slice r0_a_12 r0_n_12 r0_c_12)] _ := F27.cut rfl
   clear F26 F27
   refine s_end (x_normal (wp_block ?_))
   refine x_loop (fun (k : Nat) aZ wZ => ∃ (M : MachD), ∃ (nn : Nat), ∃ (sa : Option Addr), ∃ (sn : Nat), ∃ (sc : Nat), ∃ (ra : Option Addr), ∃ (rn : Nat), ∃ (rc : Nat), ∃ (ua : Option Addr), ∃ (un : Nat), ∃ (uc : Nat), Fr 48 [(6, .int .i64 ((k + 1 : Nat) : Int)), (5, .int .i64 ((nn : Nat) : Int)), (4, .pointer (some ⟨b19, 0, none⟩)), (3, .slice r0_a_12 r0_n_12 r0_c_12)] aZ ∧ Mv [bx b19 [.slice r0_store_a_17 r0_store_n_17 r0_store_c_17, .slice r0_touch_reads_a_17 r0_touch_reads_n_17 r0_touch_reads_c_17, .slice r0_touch_writes_a_17 r0_touch_writes_n_17 r0_touch_writes_c_17] 31] w21 [bx b19 [.slice sa sn sc, .slice ra rn rc, .slice ua un uc] 31] wZ ∧ Rd 2 encC okC (V H w [bx b19 [.slice sa sn sc, .slice ra rn rc, .slice ua un uc] 31]) wZ (.slice sa sn sc) M.store ∧ Rd 1 encS okS (V H w [bx b19 [.slice sa sn sc, .slice ra rn rc, .slice ua un uc] 31]) wZ (.slice ra rn rc) M.touch.reads ∧ Rd 1 encS okS (V H w [bx b19 [.slice sa sn sc, .slice ra rn rc, .slice ua un uc] 31]) wZ (.slice ua un uc) M.touch.writes ∧ (counts k M) ∧ (nn = k) ∧ (k ≤ 1 + rA)) (fun (k : Nat) => 12 - k) (0) ?_ ?_
   · exact ⟨(⟨[], (⟨[], []⟩ : TouchD)⟩ : MachD), 0, r0_store_a_17, r0_store_n_17, r0_store_c_17, r0_touch_reads_a_17, r0_touch_reads_n_17, r0_touch_reads_c_17, r0_touch_writes_a_17, r0_touch_writes_n_17, r0_touch_writes_c_17, F28.cut rfl, (Mv.refl T23.at'), (Rd.mv (Nat.succ_pos _) V17_0 (S19.trans T23)), (Rd.mv (Nat.succ_pos _) V17_1 (S19.trans T23)), (Rd.mv (Nat.succ_pos _) V17_2 (S19.trans T23)), counts_base, rfl, by omega⟩
   · rintro k a29 w29 ⟨M, nn, sa, sn, sc, ra, rn, rc, ua, un, uc, F29, S29, W29_0, W29_1, W29_2, hk_0, hk_1, hk_2⟩
     obtain ⟨lv29_0, lw29_0, lx29_0, ly29_0⟩ := Rd.inv W29_0
     obtain ⟨lv29_1, lw29_1, lx29_1, ly29_1⟩ := Rd.inv W29_1
     obtain ⟨lv29_2, lw29_2, lx29_2, ly29_2⟩ := Rd.inv W29_2
     have hbM := hk_0.2
     refine wp_seq (wp_seq (wp_region_lit (l_op (f_mv F29 rfl rfl rfl rfl rfl fun _ F30 => ?_))))
     refine l_op (f_mv F30 rfl rfl rfl rfl rfl fun _ F31 => ?_)
     obtain ⟨B32, O32, y32, ad32, hy32, oky32, ln32, cl32⟩ := Rd.at (Rd.mv (Nat.succ_pos _) V12_0 (S17.trans (S19.trans (T23.trans S29)))) 0 (by first | assumption | omega)
     clear ln32
     obtain rfl := Option.some.inj (hx1.symm.trans hy32)
     clear hy32 oky32
     refine l_op (f_val F31 rfl rfl (r_indexAddr (i := 0) ET_24 rfl ((F31.ev 15 rfl).trans (by rw [ad32])) rfl (by omega) (by first | assumption | omega)) rfl fun _ F33 => ?_)
     refine l_op (f_val (v := .int .i64 x1) F33 rfl rfl (r_load (cs := [.int .i64 x1]) TI_3 rfl (F33.ev 16 rfl) rfl (fun _ => rfl) (elem_sub (f := 0) cl32 [.int .i64 x1] rfl)) rfl fun _ F34 => ?_)
     refine l_op (f_val F34 rfl rfl ((r_remI (c := 12) rfl (by decide) rfl (F34.ev 17 rfl) rfl).trans (by rw [hrA])) rfl fun _ F35 => ?_)
     refine l_op (f_val F35 rfl rfl (r_add (z := ((1 + rA : Nat) : Int)) rfl rfl (F35.ev 18 rfl) (by first | rfl | omega) ⟨by first | omega | (unfold i64ok at *; omega), by first | omega | (unfold i64ok at *; omega)⟩) rfl fun _ F36 => ?_)
     refine l_op (f_val F36 rfl rfl (r_cmp (b := decide (k + 1 ≤ 1 + rA)) (.inr (.inr (.inr (.inl rfl)))) rfl (F36.ev 14 rfl) (F36.ev 19 rfl) (dec_of (by omega))) rfl fun _ F37 => ?_)
     have F38 : Fr 48 [(20, .bool (decide (k + 1 ≤ 1 + rA))), (6, .int .i64 ((k + 1 : Nat) : Int)), (5, .int .i64 ((nn : Nat) : Int)), (4, .pointer (some ⟨b19, 0, none⟩)), (3, .slice r0_a_12 r0_n_12 r0_c_12)] _ := F37.cut rfl
     clear F29 F30 F31 F33 F34 F35 F36 F37
     refine s_end (x_normal (x_cond (p := k + 1 ≤ 1 + rA) (F38.ev 20 rfl) (fun h39 => ?_) (fun h39 => ?_)))
     · skip
       refine wp_skip (x_normal (wp_seq (wp_block (wp_seq (wp_region_lit (l_op (f_val (v := .agg #[.slice sa sn sc, .slice ra rn rc, .slice ua un uc]) F38 rfl rfl (r_loadB S29.at' 0 TI_31 rfl rfl (F38.ev 4 rfl) rfl rfl (fun h => nomatch h) rfl) rfl fun _ F40 => ?_)))))))
       refine l_op (f_call F40 CF_23 rfl rfl rfl rfl (lc (F40.ev 24 rfl) (lc rfl rfl)) (impl_Bumped_c (m := M) (key := (⟨#[99, 47, 120]⟩ : ByteArray)) W29_0 W29_1 W29_2 (by unfold okS; decide) (Tb.mv V_tab0 (T7.trans (T16.trans (S17.trans (S19.trans (T23.trans S29)))))) (Tb.mv V_tab1 (T7.trans (T16.trans (S17.trans (S19.trans (T23.trans S29)))))) (by first | assumption | omega | (refine bdC.s ?_; (repeat (first | with_reducible refine bdC.look ?_ | with_reducible refine bdC.lay ?_ | with_reducible refine bdC.set ?_ | with_reducible refine bdC.bump ?_)); exact bdC.le (by assumption) (by first | decide | omega)) | (refine bdC.r ?_; (repeat (first | with_reducible refine bdC.look ?_ | with_reducible refine bdC.lay ?_ | with_reducible refine bdC.set ?_ | with_reducible refine bdC.bump ?_)); exact bdC.le (by assumption) (by first | decide | omega)) | (refine bdC.w ?_; (repeat (first | with_reducible refine bdC.look ?_ | with_reducible refine bdC.lay ?_ | with_reducible refine bdC.set ?_ | with_reducible refine bdC.bump ?_)); exact bdC.le (by assumption) (by first | decide | omega)) | ((repeat (first | with_reducible refine bdC.look ?_ | with_reducible refine bdC.lay ?_ | with_reducible refine bdC.set ?_ | with_reducible refine bdC.bump ?_)); exact bdC.le (by assumption) (by first | decide | omega)) | decide | exact Nat.le_trans (keyNum_size _ _ (by assumption)) (by decide) | exact Nat.le_trans (keyNum_size _ _ ⟨by omega, by omega⟩) (by decide))) ?_)
       rintro _ w41 ⟨r0_store_a_41, r0_store_n_41, r0_store_c_41, r0_touch_reads_a_41, r0_touch_reads_n_41, r0_touch_reads_c_41, r0_touch_writes_a_41, r0_touch_writes_n_41, r0_touch_writes_c_41, rfl, m41⟩
       refine ⟨_, rfl, fun _ F42 => ?_⟩
       have S41 : Mv _ _ [ow 81 2 encC okC (.slice r0_store_a_41 r0_store_n_41 r0_store_c_41) (bumpM M (⟨#[99, 47, 120]⟩ : ByteArray)).store, ow 9 1 encS okS (.slice r0_touch_reads_a_41 r0_touch_reads_n_41 r0_touch_reads_c_41) (bumpM M (⟨#[99, 47, 120]⟩ : ByteArray)).touch.reads, ow 9 1 encS okS (.slice r0_touch_writes_a_41 r0_touch_writes_n_41 r0_touch_writes_c_41) (bumpM M (⟨#[99, 47, 120]⟩ : ByteArray)).touch.writes, bx b19 [.slice sa sn sc, .slice ra rn rc, .slice ua un uc] 31] _ := At.frame S29.at' [] rfl m41
       obtain ⟨lo41_0, lp41_0, lq41_0⟩ := At.ownInv S41.at' ET_26.hk 0 rfl
       obtain ⟨lo41_1, lp41_1, lq41_1⟩ := At.ownInv S41.at' ET_27.hk 1 rfl
       obtain ⟨lo41_2, lp41_2, lq41_2⟩ := At.ownInv S41.at' ET_27.hk 2 rfl
       clear m41
       refine l_op (f_mv F42 rfl rfl rfl rfl rfl fun _ F43 => ?_)
       refine l_op (f_val (v := .agg #[.slice r0_store_a_41 r0_store_n_41 r0_store_c_41, .slice r0_touch_reads_a_41 r0_touch_reads_n_41 r0_touch_reads_c_41, .slice r0_touch_writes_a_41 r0_touch_writes_n_41 r0_touch_writes_c_41]) F43 rfl rfl (r_extract rfl (F43.ev 23 rfl) rfl) rfl fun _ F44 => ?_)
       refine l_op (f_val (v := .int .i64 ((bumpN M (⟨#[99, 47, 120]⟩ : ByteArray) : Nat) : Int)) F44 rfl rfl (r_extract rfl (F44.ev 23 rfl) rfl) rfl fun _ F45 => ?_)
       refine l_op (s_store S41.at' 3 TI_31 rfl rfl rfl rfl rfl (F45.ev 4 rfl) (F45.ev 26 rfl) rfl rfl rfl rfl rfl fun w46 S46 => ?_)
       refine l_op (f_as F45 rfl rfl rfl rfl rfl fun _ F47 => ?_)
       have F48 : Fr 48 [(5, .int .i64 ((bumpN M (⟨#[99, 47, 120]⟩ : ByteArray) : Nat) : Int)), (6, .int .i64 ((k + 1 : Nat) : Int)), (4, .pointer (some ⟨b19, 0, none⟩)), (3, .slice r0_a_12 r0_n_12 r0_c_12)] _ := F47.cut rfl
       clear F38 F40 F42 F43 F44 F45 F47
       have T49 : Mv _ _ [bx b19 [.slice r0_store_a_41 r0_store_n_41 r0_store_c_41, .slice r0_touch_reads_a_41 r0_touch_reads_n_41 r0_touch_reads_c_41, .slice r0_touch_writes_a_41 r0_touch_writes_n_41 r0_touch_writes_c_41] 31, ow 81 2 encC okC (.slice r0_store_a_41 r0_store_n_41 r0_store_c_41) (bumpM M (⟨#[99, 47, 120]⟩ : ByteArray)).store, ow 9 1 encS okS (.slice r0_touch_reads_a_41 r0_touch_reads_n_41 r0_touch_reads_c_41) (bumpM M (⟨#[99, 47, 120]⟩ : ByteArray)).touch.reads, ow 9 1 encS okS (.slice r0_touch_writes_a_41 r0_touch_writes_n_41 r0_touch_writes_c_41) (bumpM M (⟨#[99, 47, 120]⟩ : ByteArray)).touch.writes] _ := S46
       refine s_end (x_normal (wp_seq (wp_region_lit (l_op (f_mv F48 rfl rfl rfl rfl rfl fun _ F50 => ?_)))))
       refine l_op (f_mv F50 rfl rfl rfl rfl rfl fun _ F51 => ?_)
       refine l_op (f_val F51 rfl rfl (r_cmp (b := decide (bumpN M (⟨#[99, 47, 120]⟩ : ByteArray) ≠ k + 1)) (.inr (.inl rfl)) rfl (F51.ev 28 rfl) (F51.ev 29 rfl) (dec_of (by omega))) rfl fun _ F52 => ?_)
       rw [show (decide (bumpN M (⟨#[99, 47, 120]⟩ : ByteArray) ≠ k + 1)) = false from decide_eq_false (fun h => h (counts.step hk_0 (by omega)).1)] at F52
       have F53 : Fr 48 [(30, .bool false), (5, .int .i64 ((bumpN M (⟨#[99, 47, 120]⟩ : ByteArray) : Nat) : Int)), (6, .int .i64 ((k + 1 : Nat) : Int)), (4, .pointer (some ⟨b19, 0, none⟩)), (3, .slice r0_a_12 r0_n_12 r0_c_12)] _ := F52.cut rfl
       clear F48 F50 F51 F52
       refine s_end (x_normal (wp_cond_false (F53.ev 30 rfl) (wp_skip (x_block_normal (x_normal (wp_region_lit (l_op (f_mv F53 rfl rfl rfl rfl rfl fun _ F54 => ?_))))))))
       refine l_op (f_val F54 rfl rfl (r_add (z := (((k + 1) + 1 : Nat) : Int)) rfl (F54.ev 21 rfl) rfl (by first | rfl | omega) ⟨by first | omega | (unfold i64ok at *; omega), by first | omega | (unfold i64ok at *; omega)⟩) rfl fun _ F55 => ?_)
       refine l_op (f_as F55 rfl rfl rfl rfl rfl fun _ F56 => ?_)
       have F57 : Fr 48 [(6, .int .i64 (((k + 1) + 1 : Nat) : Int)), (5, .int .i64 ((bumpN M (⟨#[99, 47, 120]⟩ : ByteArray) : Nat) : Int)), (4, .pointer (some ⟨b19, 0, none⟩)), (3, .slice r0_a_12 r0_n_12 r0_c_12)] _ := F56.cut rfl
       clear F53 F54 F55 F56
       refine s_end ?_
       have Z58 : Rd 2 encC okC (V H w [bx b19 [.slice r0_store_a_41 r0_store_n_41 r0_store_c_41, .slice r0_touch_reads_a_41 r0_touch_reads_n_41 r0_touch_reads_c_41, .slice r0_touch_writes_a_41 r0_touch_writes_n_41 r0_touch_writes_c_41] 31, ow 9 1 encS okS (.slice r0_touch_reads_a_41 r0_touch_reads_n_41 r0_touch_reads_c_41) (bumpM M (⟨#[99, 47, 120]⟩ : ByteArray)).touch.reads, ow 9 1 encS okS (.slice r0_touch_writes_a_41 r0_touch_writes_n_41 r0_touch_writes_c_41) (bumpM M (⟨#[99, 47, 120]⟩ : ByteArray)).touch.writes]) w46 (.slice r0_store_a_41 r0_store_n_41 r0_store_c_41) (bumpM M (⟨#[99, 47, 120]⟩ : ByteArray)).store := At.freeze (T7.trans (T16.trans (S17.trans (S19.trans (T23.trans (S29.trans (S41.trans T49))))))) ET_26.hk 1 rfl (fun b hb => ((T7.trans (T16.trans (S17.trans (S19.trans (T23.trans (S29.trans (S41.trans T49))))))).fresh b ⟨_, nth_mem (i := 1) rfl, hb⟩).resolve_left (fps_nil _))
       have S58 := At.drop T49.at' 1
       have Z59 : Rd 1 encS okS (V H w [bx b19 [.slice r0_store_a_41 r0_store_n_41 r0_store_c_41, .slice r0_touch_reads_a_41 r0_touch_reads_n_41 r0_touch_reads_c_41, .slice r0_touch_writes_a_41 r0_touch_writes_n_41 r0_touch_writes_c_41] 31, ow 9 1 encS okS (.slice r0_touch_writes_a_41 r0_touch_writes_n_41 r0_touch_writes_c_41) (bumpM M (⟨#[99, 47, 120]⟩ : ByteArray)).touch.writes]) w46 (.slice r0_touch_reads_a_41 r0_touch_reads_n_41 r0_touch_reads_c_41) (bumpM M (⟨#[99, 47, 120]⟩ : ByteArray)).touch.reads := At.freeze (T7.trans (T16.trans (S17.trans (S19.trans (T23.trans (S29.trans (S41.trans (T49.trans S58)))))))) ET_27.hk 1 rfl (fun b hb => ((T7.trans (T16.trans (S17.trans (S19.trans (T23.trans (S29.trans (S41.trans (T49.trans S58)))))))).fresh b ⟨_, nth_mem (i := 1) rfl, hb⟩).resolve_left (fps_nil _))
       have S59 := At.drop S58.at' 1
       have Z60 : Rd 1 encS okS (V H w [bx b19 [.slice r0_store_a_41 r0_store_n_41 r0_store_c_41, .slice r0_touch_reads_a_41 r0_touch_reads_n_41 r0_touch_reads_c_41, .slice r0_touch_writes_a_41 r0_touch_writes_n_41 r0_touch_writes_c_41] 31]) w46 (.slice r0_touch_writes_a_41 r0_touch_writes_n_41 r0_touch_writes_c_41) (bumpM M (⟨#[99, 47, 120]⟩ : ByteArray)).touch.writes := At.freeze (T7.trans (T16.trans (S17.trans (S19.trans (T23.trans (S29.trans (S41.trans (T49.trans (S58.trans S59))))))))) ET_27.hk 1 rfl (fun b hb => ((T7.trans (T16.trans (S17.trans (S19.trans (T23.trans (S29.trans (S41.trans (T49.trans (S58.trans S59))))))))).fresh b ⟨_, nth_mem (i := 1) rfl, hb⟩).resolve_left (fps_nil _))
       have S60 := At.drop S59.at' 1
       refine x_normal ⟨k + 1, by omega, (bumpM M (⟨#[99, 47, 120]⟩ : ByteArray)), bumpN M (⟨#[99, 47, 120]⟩ : ByteArray), r0_store_a_41, r0_store_n_41, r0_store_c_41, r0_touch_reads_a_41, r0_touch_reads_n_41, r0_touch_reads_c_41, r0_touch_writes_a_41, r0_touch_writes_n_41, r0_touch_writes_c_41, F57.cut rfl, ((S29.trans (S41.trans (T49.trans (S58.trans (S59.trans S60))))).pick [0] rfl), (Rd.mv (Nat.succ_pos _) Z58 (S59.trans S60)), (Rd.mv (Nat.succ_pos _) Z59 S60), Z60, (counts.step hk_0 (by omega)).2, (counts.step hk_0 (by omega)).1, by omega⟩
     · skip
       refine wp_exit (x_then_exit (x_then_exit (x_block_here (x_normal (wp_seq (wp_region_lit (l_op (f_val (v := .agg #[.slice sa sn sc, .slice ra rn rc, .slice ua un uc]) F38 rfl rfl (r_loadB S29.at' 0 TI_31 rfl rfl (F38.ev 4 rfl) rfl rfl (fun h => nomatch h) rfl) rfl fun _ F61 => ?_))))))))
       refine l_op (f_call F61 CF_22 rfl rfl rfl rfl (lc (F61.ev 32 rfl) (lc rfl rfl)) (impl_NumAt_c (m := M) (key := (⟨#[99, 47, 120]⟩ : ByteArray)) W29_0 W29_1 W29_2 (by unfold okS; decide) (Tb.mv V_tab0 (T7.trans (T16.trans (S17.trans (S19.trans (T23.trans S29)))))) (Tb.mv V_tab1 (T7.trans (T16.trans (S17.trans (S19.trans (T23.trans S29)))))) (by first | assumption | omega | (refine bdC.s ?_; (repeat (first | with_reducible refine bdC.look ?_ | with_reducible refine bdC.lay ?_ | with_reducible refine bdC.set ?_ | with_reducible refine bdC.bump ?_)); exact bdC.le (by assumption) (by first | decide | omega)) | (refine bdC.r ?_; (repeat (first | with_reducible refine bdC.look ?_ | with_reducible refine bdC.lay ?_ | with_reducible refine bdC.set ?_ | with_reducible refine bdC.bump ?_)); exact bdC.le (by assumption) (by first | decide | omega)) | (refine bdC.w ?_; (repeat (first | with_reducible refine bdC.look ?_ | with_reducible refine bdC.lay ?_ | with_reducible refine bdC.set ?_ | with_reducible refine bdC.bump ?_)); exact bdC.le (by assumption) (by first | decide | omega)) | ((repeat (first | with_reducible refine bdC.look ?_ | with_reducible refine bdC.lay ?_ | with_reducible refine bdC.set ?_ | with_reducible refine bdC.bump ?_)); exact bdC.le (by assumption) (by first | decide | omega)) | decide | exact Nat.le_trans (keyNum_size _ _ (by assumption)) (by decide) | exact Nat.le_trans (keyNum_size _ _ ⟨by omega, by omega⟩) (by decide))) ?_)
       rintro _ w62 ⟨r0_store_a_62, r0_store_n_62, r0_store_c_62, r0_touch_reads_a_62, r0_touch_reads_n_62, r0_touch_reads_c_62, r0_touch_writes_a_62, r0_touch_writes_n_62, r0_touch_writes_c_62, rfl, m62⟩
       refine ⟨_, rfl, fun _ F63 => ?_⟩
       have S62 : Mv _ _ [ow 81 2 encC okC (.slice r0_store_a_62 r0_store_n_62 r0_store_c_62) (lookM M (⟨#[99, 47, 120]⟩ : ByteArray)).store, ow 9 1 encS okS (.slice r0_touch_reads_a_62 r0_touch_reads_n_62 r0_touch_reads_c_62) (lookM M (⟨#[99, 47, 120]⟩ : ByteArray)).touch.reads, ow 9 1 encS okS (.slice r0_touch_writes_a_62 r0_touch_writes_n_62 r0_touch_writes_c_62) (lookM M (⟨#[99, 47, 120]⟩ : ByteArray)).touch.writes, bx b19 [.slice sa sn sc, .slice ra rn rc, .slice ua un uc] 31] _ := At.frame S29.at' [] rfl m62
       obtain ⟨lo62_0, lp62_0, lq62_0⟩ := At.ownInv S62.at' ET_26.hk 0 rfl
       obtain ⟨lo62_1, lp62_1, lq62_1⟩ := At.ownInv S62.at' ET_27.hk 1 rfl
       obtain ⟨lo62_2, lp62_2, lq62_2⟩ := At.ownInv S62.at' ET_27.hk 2 rfl
       clear m62
       refine l_op (f_mv F63 rfl rfl rfl rfl rfl fun _ F64 => ?_)
       refine l_op (f_val (v := .agg #[.slice r0_store_a_62 r0_store_n_62 r0_store_c_62, .slice r0_touch_reads_a_62 r0_touch_reads_n_62 r0_touch_reads_c_62, .slice r0_touch_writes_a_62 r0_touch_writes_n_62 r0_touch_writes_c_62]) F64 rfl rfl (r_extract rfl (F64.ev 31 rfl) rfl) rfl fun _ F65 => ?_)
       refine l_op (f_val (v := .int .i64 ((numOf (getKey M.store (⟨#[99, 47, 120]⟩ : ByteArray)) : Nat) : Int)) F65 rfl rfl (r_extract rfl (F65.ev 31 rfl) rfl) rfl fun _ F66 => ?_)
       refine l_op (f_alloc F66 S62.at' ZI_31 rfl rfl rfl rfl rfl fun b67 _ w67 F68 S67 => ?_)
       refine l_op (s_store S67.at' 0 TI_31 rfl rfl rfl rfl rfl (F68.ev 7 rfl) (F68.ev 34 rfl) rfl rfl rfl rfl rfl fun w69 S69 => ?_)
       refine l_op (f_as F68 rfl rfl rfl rfl rfl fun _ F70 => ?_)
       have F71 : Fr 48 [(8, .int .i64 ((numOf (getKey M.store (⟨#[99, 47, 120]⟩ : ByteArray)) : Nat) : Int)), (5, .int .i64 ((nn : Nat) : Int)), (3, .slice r0_a_12 r0_n_12 r0_c_12)] _ := F70.cut rfl
       clear F38 F61 F63 F64 F65 F66 F68 F70
       have T72 : Mv _ _ [bx b67 [.slice r0_store_a_62 r0_store_n_62 r0_store_c_62, .slice r0_touch_reads_a_62 r0_touch_reads_n_62 r0_touch_reads_c_62, .slice r0_touch_writes_a_62 r0_touch_writes_n_62 r0_touch_writes_c_62] 31, ow 81 2 encC okC (.slice r0_store_a_62 r0_store_n_62 r0_store_c_62) (lookM M (⟨#[99, 47, 120]⟩ : ByteArray)).store, ow 9 1 encS okS (.slice r0_touch_reads_a_62 r0_touch_reads_n_62 r0_touch_reads_c_62) (lookM M (⟨#[99, 47, 120]⟩ : ByteArray)).touch.reads, ow 9 1 encS okS (.slice r0_touch_writes_a_62 r0_touch_writes_n_62 r0_touch_writes_c_62) (lookM M (⟨#[99, 47, 120]⟩ : ByteArray)).touch.writes, bx b19 [.slice sa sn sc, .slice ra rn rc, .slice ua un uc] 31] _ := S69
       refine s_end (x_normal (wp_seq (wp_region_lit (l_op (f_mv F71 rfl rfl rfl rfl rfl fun _ F73 => ?_)))))
       refine l_op (f_mv F73 rfl rfl rfl rfl rfl fun _ F74 => ?_)
       refine l_op (f_val F74 rfl rfl (r_cmp (b := decide (numOf (getKey M.store (⟨#[99, 47, 120]⟩ : ByteArray)) = nn)) (.inl rfl) rfl (F74.ev 36 rfl) (F74.ev 37 rfl) (dec_of (by omega))) rfl fun _ F75 => ?_)
       rw [show (decide (numOf (getKey M.store (⟨#[99, 47, 120]⟩ : ByteArray)) = nn)) = true from decide_eq_true (hk_0.1.trans hk_1.symm)] at F75
       refine l_op (f_mv F75 rfl rfl rfl rfl rfl fun _ F76 => ?_)
       refine l_op (f_mv F76 (wanted_g F76 rfl rfl rfl rfl) rfl rfl rfl rfl fun _ F77 => ?_)
       refine l_op (f_mv F77 (wanted_g F77 rfl rfl rfl rfl) rfl rfl rfl rfl fun _ F78 => ?_)
       obtain ⟨B79, O79, y79, ad79, hy79, oky79, ln79, cl79⟩ := Rd.at (Rd.mv (Nat.succ_pos _) V12_0 (S17.trans (S19.trans (T23.trans (S29.trans (S62.trans (S67.trans T72))))))) 0 (by first | assumption | omega)
       clear ln79
       obtain rfl := Option.some.inj (hx1.symm.trans hy79)
       clear hy79 oky79
       refine l_op (f_val F78 (wanted_g F78 rfl rfl rfl rfl) rfl (r_indexAddr (i := 0) ET_24 rfl ((F78.ev 41 rfl).trans (by rw [ad79])) rfl (by omega) (by first | assumption | omega)) rfl fun _ F80 => ?_)
       refine l_op (f_val (v := .int .i64 x1) F80 (wanted_g F80 rfl rfl rfl rfl) rfl (r_load (cs := [.int .i64 x1]) TI_3 rfl (F80.ev 42 rfl) rfl (fun _ => rfl) (elem_sub (f := 0) cl79 [.int .i64 x1] rfl)) rfl fun _ F81 => ?_)
       refine l_op (f_val F81 (wanted_g F81 rfl rfl rfl rfl) rfl ((r_remI (c := 12) rfl (by decide) rfl (F81.ev 43 rfl) rfl).trans (by rw [hrA])) rfl fun _ F82 => ?_)
       refine l_op (f_val F82 (wanted_g F82 rfl rfl rfl rfl) rfl (r_add (z := ((1 + rA : Nat) : Int)) rfl rfl (F82.ev 44 rfl) (by first | rfl | omega) ⟨by first | omega | (unfold i64ok at *; omega), by first | omega | (unfold i64ok at *; omega)⟩) rfl fun _ F83 => ?_)
       refine l_op (f_val F83 (wanted_g F83 rfl rfl rfl rfl) rfl (r_cmp (b := decide (nn = 1 + rA)) (.inl rfl) rfl (F83.ev 40 rfl) (F83.ev 45 rfl) (dec_of (by omega))) rfl fun _ F84 => ?_)
       rw [show (decide (nn = 1 + rA)) = true from decide_eq_true (by omega)] at F84
       refine l_op (f_val F84 rfl rfl (r_pick (b := true) rfl (F84.ev 39 rfl) (F84.ev 46 rfl)) rfl fun _ F85 => ?_)
       refine l_op (f_as F85 rfl rfl rfl rfl rfl fun _ F86 => ?_)
       have F87 : Fr 48 [(2, .bool true)] _ := F86.cut rfl
       clear F71 F73 F74 F75 F76 F77 F78 F80 F81 F82 F83 F84 F85 F86
       refine s_end (x_normal (wp_ret ?_))
       refine x_done (v := .bool true) F87 (results_1 Tryd.results5 (.tmp (F87.ev 2 rfl))) ?_
       exact ⟨rfl, (Mv.pick (T7.trans (T16.trans (S17.trans (S19.trans (T23.trans (S29.trans (S62.trans (S67.trans T72)))))))) [] rfl)⟩
end Go.Proofs.YtjiplnaceiofmaaDoor
namespace Go.Proofs.YtjiplnaceiofmaaDoor.countup
open Go.ChangeShapes Go.WideShapes Go.ChangeAt Go.RowKit
set_option maxRecDepth 100000
theorem cells_5 : Tryd.prog.cellsOf 5 = 1 := by kernel_rfl
theorem starE : "*" ++ "errors.errorString" = "*errors.errorString" := by decide
theorem rowE (u : TypeId) (h : Tryd.prog.typeName? 3 u = some "*errors.errorString") : u = 184 :=
  typeName_ptr_named (nm := "errors.errorString") (by rw [starE]; kernel_rfl) (by kernel_rfl) (by decide) u (by rw [starE]; exact h)
theorem cellsE : Tryd.prog.cellsOf 186 = 1 := by kernel_rfl
theorem cells_9 : Tryd.prog.cellsOf 9 = 1 := by kernel_rfl
theorem ground0 {W : World} (h : laidMet Tryd.prog [("math/bits.deBruijn32tab", Rows.laid_math_bits_deBruijn32tab), ("math/bits.deBruijn64tab", Rows.laid_math_bits_deBruijn64tab), ("internal/strconv.uint64pow10", Rows.laid_internal_strconv_uint64pow10), ("strconv.ErrRange", Rows.laid_strconv_ErrRange), ("strconv.ErrSyntax", Rows.laid_strconv_ErrSyntax)] W) : Tb 0 (fun _ => True) W := by
  have e : (Rows.laid_internal_strconv_uint64pow10 : DataW Unit) = Lib.tabData .u64 Lib.pow10Tab := by kernel_rfl
  have h2 : laidMet Tryd.prog (("internal/strconv.uint64pow10", Lib.tabData .u64 Lib.pow10Tab) :: [("strconv.ErrRange", Rows.laid_strconv_ErrRange), ("strconv.ErrSyntax", Rows.laid_strconv_ErrSyntax)]) W := by rw [← e]; exact h.tail.tail
  have h3 : Lib.TabIs Tryd.prog W "internal/strconv.uint64pow10" .u64 Lib.pow10Tab := Lib.tabIs_of_head laysItoa.m17 (t := 159) (e := 146) (n := 20) (by kernel_rfl) Tryd.underlying159 Tryd.underlying146 (by kernel_rfl) (by kernel_rfl) h2
  exact ⟨h3, fun g hg => by rw [List.mem_singleton.1 hg]; exact ⟨trivial, Lib.lt_of_cell (h3.cell laysItoa.m17 0 (by decide))⟩⟩
theorem ground1 {W : World} (h : laidMet Tryd.prog [("math/bits.deBruijn32tab", Rows.laid_math_bits_deBruijn32tab), ("math/bits.deBruijn64tab", Rows.laid_math_bits_deBruijn64tab), ("internal/strconv.uint64pow10", Rows.laid_internal_strconv_uint64pow10), ("strconv.ErrRange", Rows.laid_strconv_ErrRange), ("strconv.ErrSyntax", Rows.laid_strconv_ErrSyntax)] W) : Tb 1 (fun _ => True) W := by
  have gS : Tryd.prog.globalNamed "strconv.ErrSyntax" = some (laysAtoi_ren.g 15) := by kernel_rfl
  obtain ⟨aS, sS, vS, -, -, -⟩ := laid_sentinel (h.tail.tail.tail.tail) gS (ti := 133) (by kernel_rfl) Tryd.underlying133 rowE Tryd.underlying184 Tryd.underlying186 rfl rfl Tryd.underlying9 cellsE cells_9
  have cS := var_cell gS vS
  have gR : Tryd.prog.globalNamed "strconv.ErrRange" = some (laysAtoi_ren.g 16) := by kernel_rfl
  obtain ⟨aR, sR, vR, -, -, -⟩ := laid_sentinel (h.tail.tail.tail) gR (ti := 133) (by kernel_rfl) Tryd.underlying133 rowE Tryd.underlying184 Tryd.underlying186 rfl rfl Tryd.underlying9 cellsE cells_9
  have cR := var_cell gR vR
  exact ⟨⟨⟨_, cS, .inr ⟨_, _, rfl⟩⟩, ⟨_, cR, .inr ⟨_, _, rfl⟩⟩⟩, fun g hg => by
    rcases List.mem_cons.1 hg with e | hg
    · rw [e]; exact ⟨trivial, Lib.lt_of_cell cS⟩
    · rw [List.mem_singleton.1 hg]; exact ⟨trivial, Lib.lt_of_cell cR⟩⟩
theorem called (W : World) (args : Array Value) (h : ArgsRead Tryd.prog W Tryd.f5.params.toList args.toList) (t0 : Tb 0 (fun _ => True) W) (t1 : Tb 1 (fun _ => True) W) : Calls Tryd.prog 5 args W fun e W' => e = .returned (.bool true) ∧ Bl W W' := by
  obtain ⟨hl, h⟩ := h
  rw [Tryd.params5] at hl h
  obtain ⟨v0, rfl⟩ : ∃ v0, args = #[v0] := by
    obtain ⟨l⟩ := args
    match l, hl with
    | [v0], _ => exact ⟨v0, rfl⟩
  obtain ⟨r0, o0⟩ := h 0 _ v0 rfl rfl
  have q0 := reads_one Tryd.underlying22 trivial o0 r0
  obtain ⟨a_0, n_0, c_0, l_0, e_0, v_0⟩ := rdA_of Tryd.underlying22 cells_5 (by decide) (u8_row Tryd.underlying5) q0
  cases e_0
  exact (laws_FnCountUp_c (w := W) (H := fun _ => True) (code := l_0) v_0 t0 t1).mono fun e W' ⟨h1, h2⟩ => ⟨h1, h2.bl⟩
theorem own : ownKnob Tryd.prog.godebug = none := by kernel_rfl
theorem laidOut : laidOutB Tryd.prog = true := by kernel_rfl
theorem readable : ∀ t ∈ Tryd.f5.params.toList, Tryd.prog.readableRec t = true ∧ t < Tryd.prog.types.size := of_decide_eq_true (by kernel_rfl)
theorem door_met (os : Os) (args : Array Value) : laidMetH Tryd.prog [("math/bits.deBruijn32tab", Rows.laid_math_bits_deBruijn32tab), ("math/bits.deBruijn64tab", Rows.laid_math_bits_deBruijn64tab), ("internal/strconv.uint64pow10", Rows.laid_internal_strconv_uint64pow10), ("strconv.ErrRange", Rows.laid_strconv_ErrRange), ("strconv.ErrSyntax", Rows.laid_strconv_ErrSyntax)] ((World.doorLaid Tryd.prog 81 os).forCall (fun _ _ => 0) ⟨#[], args, []⟩).memory :=
  laidMetH_of_parts3 (fuel := 8) (laidMet_of_run' 8 (by kernel_rfl) (by kernel_rfl)) (by kernel_rfl) (by kernel_rfl)
theorem lifted (os : Os) (started : os.Started) (H : Type) (enc : TypeId × Value → H) :
    ReturnsInHanded {} Tryd.checked os 5 .any (fun w args => (Rows.fnCountUpSpec.pre enc Tryd.prog Tryd.f5 [] false w args ∧ laidMetH Tryd.prog [("math/bits.deBruijn32tab", Rows.laid_math_bits_deBruijn32tab), ("math/bits.deBruijn64tab", Rows.laid_math_bits_deBruijn64tab), ("internal/strconv.uint64pow10", Rows.laid_internal_strconv_uint64pow10), ("strconv.ErrRange", Rows.laid_strconv_ErrRange), ("strconv.ErrSyntax", Rows.laid_strconv_ErrSyntax)] w) ∧ sizedMet enc Tryd.prog Tryd.f5 (OpenSpec.ofChange Rows.fnCountUpSpec) false w args)
      (Rows.fnCountUpSpec.post enc Tryd.prog Tryd.f5 false true false false) := by
  refine returnsInHanded_of_change_and (C := Tryd.checked) (X := fun w _ => laidMetH Tryd.prog [("math/bits.deBruijn32tab", Rows.laid_math_bits_deBruijn32tab), ("math/bits.deBruijn64tab", Rows.laid_math_bits_deBruijn64tab), ("internal/strconv.uint64pow10", Rows.laid_internal_strconv_uint64pow10), ("strconv.ErrRange", Rows.laid_strconv_ErrRange), ("strconv.ErrSyntax", Rows.laid_strconv_ErrSyntax)] w) (fun _ _ _ hh h => h.of_heap hh) own started (by kernel_rfl) Tryd.func5
    (ChangeSpec.witness_shaped (enc := enc) (C := Tryd.checked) (os := os) (X := fun w _ => laidMetH Tryd.prog [("math/bits.deBruijn32tab", Rows.laid_math_bits_deBruijn32tab), ("math/bits.deBruijn64tab", Rows.laid_math_bits_deBruijn64tab), ("internal/strconv.uint64pow10", Rows.laid_internal_strconv_uint64pow10), ("strconv.ErrRange", Rows.laid_strconv_ErrRange), ("strconv.ErrSyntax", Rows.laid_strconv_ErrSyntax)] w) false (World.doorLaid Tryd.prog 81 os) #[.slice none 0 0] 8 rfl (World.shaped_of_RefB (by kernel_rfl) (by kernel_rfl)) (by kernel_rfl) (by kernel_rfl) (by kernel_rfl) (door_met os _)) ?_
  intro W base args ds gs before hval0 hW _ _ hL _
  have hval : ∀ (j : Nat) t v, Tryd.f5.params[j]? = some t → args[j]? = some v → Value.okWide Tryd.prog W .any 0 t v := hval0
  have hM : laidMet Tryd.prog [("math/bits.deBruijn32tab", Rows.laid_math_bits_deBruijn32tab), ("math/bits.deBruijn64tab", Rows.laid_math_bits_deBruijn64tab), ("internal/strconv.uint64pow10", Rows.laid_internal_strconv_uint64pow10), ("strconv.ErrRange", Rows.laid_strconv_ErrRange), ("strconv.ErrSyntax", Rows.laid_strconv_ErrSyntax)] W := by
    have h := hL
    rw [MakeChecks.laidMetH_plain _ _ _ (by kernel_rfl)] at h
    exact h
  refine law_contractW laidOut readable Tryd.underlying4 rfl rfl ?_ H enc false true false false W args ds gs before (fun h => called W args h (ground0 hM) (ground1 hM)) hval hW
  intro H ds hd
  match ds, hd with
  | [a], _ => rfl
theorem bare : Rows.FnCountUpSaid :=
  OpenClaim.holds_of_wide 5 Tryd.f5 rfl rfl rfl rfl rfl rfl rfl ⟨rfl, rfl, rfl, rfl, rfl⟩ rfl rfl rfl rfl rfl (by kernel_rfl) Tryd.func5 (by kernel_rfl)
    (of_decide_eq_true (by kernel_rfl)) (by unfold Func.isWrapper; first | (rw [if_pos (by decide +kernel)]; kernel_rfl) | (rw [if_neg (by decide +kernel)]; exact ⟨rfl, rfl⟩))
    (fun os started H enc _ => lifted os started H enc)
theorem proved : Rows.FnCountUpCardSaid :=
  Claim7.holds_tied_plain_at .later [] [.data, .data, .data, .sentinel, .sentinel] true (true, "167e4d36e1bc60f6d5ed3739e3d5e09f6b5bab75b6f9b2c84f393379c264b4c4") true
    bare (fun _ h => by cases h) (by kernel_rfl) (fun _ h => by cases h) fnCountUp_row_tie rfl ⟨rfl, rfl⟩ (by kernel_rfl) rfl
    (fun f fn hf hfn => by
      obtain rfl : f = 5 := Option.some.inj ((show Tryd.prog.funcNamed "loop.example/g00974/laws.FnCountUp" = some 5 by kernel_rfl).symm.trans hf) |>.symm
      obtain rfl : fn = Tryd.f5 := (Option.some.inj (Tryd.func5.symm.trans hfn)).symm
      exact ⟨by kernel_rfl, fun j t ht => by
        rw [Tryd.params5] at ht
        have hm : t ∈ [22] := by simpa using Array.mem_of_getElem? ht
        have hall : ([22].all fun u => !Tryd.prog.wantsStandIn u) = true := by kernel_rfl
        exact (show Tryd.prog.wantsStandIn t = false by simpa using List.all_eq_true.1 hall t hm)⟩)
    (by kernel_rfl)
end Go.Proofs.YtjiplnaceiofmaaDoor.countup
