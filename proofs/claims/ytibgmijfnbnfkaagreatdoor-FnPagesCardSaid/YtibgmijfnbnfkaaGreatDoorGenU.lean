/-
  Walks: drawn keys and values.
-/
import Derived.Test.YtibgmijfnbnfkaaGreatDoorGenT
import Derived.Test.YtibgmijfnbnfkaaGreatDoorGenQ
namespace Go.Proofs.YtibgmijfnbnfkaaGreatDoor
open Go.ChangeShapes Go.WideShapes Go.ChangeAt Go.RowKit
set_option maxRecDepth 100000
set_option maxHeartbeats 1000000
theorem spec_l01Text_c {w : World} {H : Nat → Prop} {c : CurD} {Q1 : Option Addr} {Q0 Q2 : Nat} {c_b : Nat} {n : Int} (Q4 : RdA 1 encB okB H w (.slice Q1 Q0 Q2) c.code) (Q6 : i64ok (c.pos : Int)) (Q5 : i64ok c.h) (h_n : i64ok n) (p0 : c.pos ≤ Q0) (hA : At w [bx c_b [.slice Q1 Q0 Q2, .int .i64 ((c.pos : Nat) : Int), .int .i64 c.h] 80]) (hD : ∀ b, H b → ¬ fps [bx c_b [.slice Q1 Q0 Q2, .int .i64 ((c.pos : Nat) : Int), .int .i64 c.h] 80] b) :
    Calls Tryz.prog 38 #[.pointer (some ⟨c_b, 0, none⟩), .int .i64 n] w fun e w' => ∃ (i2 : Nat), ∃ (h2 : Int), ∃ (r : ByteArray), e = .returned (.string r) ∧ Mv [bx c_b [.slice Q1 Q0 Q2, .int .i64 ((c.pos : Nat) : Int), .int .i64 c.h] 80] w [bx c_b [.slice Q1 Q0 Q2, .int .i64 ((i2 : Nat) : Int), .int .i64 h2] 80] w' ∧ okS r ∧ i2 ≤ Q0 ∧ i64ok h2 ∧ r.size ≤ 5000 := by
 have uU : True := (fun _ _ _ _ => trivial) Q6 Q5 h_n p0
 clear uU
 have Q3 : RdA 1 encB okB (V H w [bx c_b [.slice Q1 Q0 Q2, .int .i64 ((c.pos : Nat) : Int), .int .i64 c.h] 80]) w (.slice Q1 Q0 Q2) c.code := RdA.start Q4 hD
 obtain ⟨Q8, Q7, Q9, Q10⟩ := RdA.inv Q4
 refine calls_enter 23 Tryz.func38 rfl Tryz.ntmps38 (Nat.le_of_ble_eq_true rfl) (fun _ F0i => ?_)
 have F0 : Fr 23 [(0, .pointer (some ⟨c_b, 0, none⟩)), (1, .int .i64 n)] _ := F0i
 clear F0i
 refine wp_seq (wp_region_lit (l_op (f_val F0 rfl rfl (r_assign rfl rfl) rfl fun _ F1 => ?_)))
 refine s_end (x_normal (wp_seq (wp_seq (wp_region_lit (l_op (f_mv F1 rfl rfl rfl rfl rfl fun _ F2 => ?_))))))
 refine l_op (f_val F2 rfl rfl (r_cmp (b := decide (n > 5000)) (.inr (.inr (.inr (.inr (.inl rfl))))) rfl (F2.ev 7 rfl) rfl (dec_of (by omega))) rfl fun _ F3 => ?_)
 refine s_end (x_normal (x_cond (p := n > 5000) (F3.ev 8 rfl) (fun h4 => ?_) (fun h4 => ?_)))
 · skip
   refine wp_region_lit (l_op (f_val F3 rfl rfl (r_assign rfl rfl) rfl fun _ F5 => ?_))
   refine s_end (x_normal (wp_seq (wp_region_lit (l_op (f_buildSl (ok := okB) (vs := []) F5 hA (([] : List Nat)) ET_22 rfl rfl rfl rfl rfl rfl rfl rfl rfl (by simp) fun b6 _ w6 F7 S6 => ?_)))))
   refine l_op (f_as F7 rfl rfl rfl rfl rfl fun _ F8 => ?_)
   refine s_end (x_normal (wp_seq (wp_seq (wp_region_lit (l_op (f_val F8 rfl rfl (r_assign rfl rfl) rfl fun _ F9 => ?_))))))
   refine s_end (x_normal (wp_block ?_))
   refine x_loop (fun (k : Nat) aZ wZ => ∃ (pp : Nat), ∃ (hh : Int), ∃ (D : List Nat), ∃ (oa : Option Addr), ∃ (on : Nat), ∃ (oc : Nat), Fr 23 [(6, .int .i64 ((k : Nat) : Int)), (5, .slice oa on oc), (1, .int .i64 5000), (0, .pointer (some ⟨c_b, 0, none⟩))] aZ ∧ Mv [ow 5 1 encB okB (.slice (some ⟨b6, 0, none⟩) 0 0) ([] : List Nat), bx c_b [.slice Q1 Q0 Q2, .int .i64 ((c.pos : Nat) : Int), .int .i64 c.h] 80] w6 [ow 5 1 encB okB (.slice oa on oc) D, bx c_b [.slice Q1 Q0 Q2, .int .i64 ((pp : Nat) : Int), .int .i64 hh] 80] wZ ∧ (pp ≤ Q0) ∧ (i64ok hh) ∧ (D.length = k) ∧ (k ≤ 5000)) (fun (k : Nat) => 5000 - k) (0) ?_ ?_
   · exact ⟨c.pos, c.h, ([] : List Nat), (some ⟨b6, 0, none⟩), 0, 0, F9.cut rfl, (Mv.refl S6.at'), by omega, by assumption, rfl, by omega⟩
   · rintro k a10 w10 ⟨pp, hh, D, oa, on, oc, F10, S10, hk_0, hk_1, hk_2, hk_3⟩
     refine wp_seq (wp_seq (wp_region_lit (l_op (f_mv F10 rfl rfl rfl rfl rfl fun _ F11 => ?_))))
     refine l_op (f_mv F11 rfl rfl rfl rfl rfl fun _ F12 => ?_)
     refine l_op (f_val F12 rfl rfl (r_cmp (b := decide (k < 5000)) (.inr (.inr (.inl rfl))) rfl (F12.ev 10 rfl) (F12.ev 11 rfl) (dec_of (by omega))) rfl fun _ F13 => ?_)
     refine s_end (x_normal (x_cond (p := k < 5000) (F13.ev 12 rfl) (fun h14 => ?_) (fun h14 => ?_)))
     · skip
       refine wp_skip (x_normal (wp_seq (wp_block (wp_region_lit (l_op (f_mv F13 rfl rfl rfl rfl rfl fun _ F15 => ?_))))))
       refine l_op (f_mv F15 rfl rfl rfl rfl rfl fun _ F16 => ?_)
       refine l_op (f_call F16 CF_69 rfl rfl rfl rfl (lc (F16.ev 16 rfl) rfl) (spec_l01Byte_c (c := (⟨c.code, pp, hh⟩ : CurD)) (RdA.mv (Nat.succ_pos _) Q3 (S6.trans S10)) (by unfold i64ok; (try dsimp only); omega) (by first | assumption | exact w64_ok _ | exact ⟨by omega, by omega⟩ | (unfold i64ok at *; omega)) (by first | assumption | omega | (simp <;> omega)) (At.pick (is := [1]) S10.at' rfl) (V_off (is := [1]))) ?_)
       rintro _ w17 ⟨i2_17, h2_17, r_17, rfl, m17, q17_0, q17_1, q17_2⟩
       refine ⟨_, rfl, fun _ F18 => ?_⟩
       have S17 : Mv _ _ [bx c_b [.slice Q1 Q0 Q2, .int .i64 ((i2_17 : Nat) : Int), .int .i64 h2_17] 80, ow 5 1 encB okB (.slice oa on oc) D] _ := At.frame S10.at' [1] rfl m17
       clear m17
       refine l_op (f_val F18 rfl rfl (r_conv8 Tryz.underlying5 Tryz.underlying3 rfl (F18.ev 17 rfl) (by omega)) rfl fun _ F19 => ?_)
       refine l_op (f_buildSl (ok := okB) (vs := [.int .u8 ((r_17 : Nat) : Int)]) F19 S17.at' ([r_17]) ET_22 rfl rfl rfl rfl rfl rfl (lc (pr2 (F19.ev 18 rfl)) rfl) rfl rfl (fun x hx => (List.mem_singleton.1 hx) ▸ (show r_17 < 256 by omega)) fun b20 _ w20 F21 S20 => ?_)
       refine l_op (f_app (news := [r_17]) F21 S20.at' 2 ET_22 rfl rfl rfl rfl rfl rfl (F21.ev 15 rfl) (F21.ev 19 rfl) ((At.rd S20.at' ET_22.hk 0 rfl)).1 (by ((repeat (first | rw [List.length_append] | rw [List.length_cons] | rw [List.length_nil] | rw [List.length_take] | rw [List.length_drop])) <;> omega)) fun A22 N22 C22 _ w22 F23 S22 l22 => ?_)
       have S24 := At.drop S22.at' 1
       refine l_op (f_as F23 rfl rfl rfl rfl rfl fun _ F25 => ?_)
       have T26 : Mv _ _ [ow 5 1 encB okB (.slice A22 N22 C22) (D ++ ([r_17])), bx c_b [.slice Q1 Q0 Q2, .int .i64 ((i2_17 : Nat) : Int), .int .i64 h2_17] 80] _ := S24
       refine s_end (x_block_normal (x_normal (wp_region_lit (l_op (f_mv F25 rfl rfl rfl rfl rfl fun _ F27 => ?_)))))
       refine l_op (f_val F27 rfl rfl (r_add (z := ((k + 1 : Nat) : Int)) rfl (F27.ev 13 rfl) rfl (by first | rfl | omega) ⟨by first | omega | (unfold i64ok at *; omega), by first | omega | (unfold i64ok at *; omega)⟩) rfl fun _ F28 => ?_)
       refine l_op (f_as F28 rfl rfl rfl rfl rfl fun _ F29 => ?_)
       refine s_end ?_
       refine x_normal ⟨k + 1, by omega, i2_17, h2_17, D ++ ([r_17]), A22, N22, C22, F29.cut rfl, ((S10.trans (S17.trans (S20.trans (S22.trans T26)))).pick [0, 1] rfl), by omega, by assumption, by simp; omega, by omega⟩
     · skip
       refine wp_exit (x_then_exit (x_then_exit (x_block_here (x_normal (wp_seq (wp_region_lit (l_op (f_mv F13 rfl rfl rfl rfl rfl fun _ F30 => ?_))))))))
       refine l_op (f_val F30 rfl rfl (r_bstr Tryz.underlying22 Tryz.underlying5 Tryz.underlying9 ((At.rd S10.at' ET_22.hk 0 rfl)).1 rfl (F30.ev 21 rfl)) rfl fun _ F31 => ?_)
       refine l_op (f_as F31 rfl rfl rfl rfl rfl fun _ F32 => ?_)
       refine s_end (x_normal (wp_ret ?_))
       refine x_done (v := .string (bstr D)) F32 (results_1 Tryz.results38 (.tmp (F32.ev 4 rfl))) ?_
       exact ⟨pp, hh, bstr D, rfl, (Mv.pick (S6.trans S10) [1] rfl), (okS_bstr (by omega)), by first | assumption | exact w64_ok _ | omega | (unfold i64ok; omega), by first | assumption | exact w64_ok _ | omega | (unfold i64ok; omega), by rw [bstr_size]; omega⟩
 · skip
   refine wp_skip (x_normal (wp_seq (wp_region_lit (l_op (f_buildSl (ok := okB) (vs := []) F3 hA (([] : List Nat)) ET_22 rfl rfl rfl rfl rfl rfl rfl rfl rfl (by simp) fun b33 _ w33 F34 S33 => ?_)))))
   refine l_op (f_as F34 rfl rfl rfl rfl rfl fun _ F35 => ?_)
   refine s_end (x_normal (wp_seq (wp_seq (wp_region_lit (l_op (f_val F35 rfl rfl (r_assign rfl rfl) rfl fun _ F36 => ?_))))))
   refine s_end (x_normal (wp_block ?_))
   refine x_loop (fun (k : Nat) aZ wZ => ∃ (pp : Nat), ∃ (hh : Int), ∃ (D : List Nat), ∃ (oa : Option Addr), ∃ (on : Nat), ∃ (oc : Nat), Fr 23 [(6, .int .i64 ((k : Nat) : Int)), (5, .slice oa on oc), (0, .pointer (some ⟨c_b, 0, none⟩)), (1, .int .i64 n)] aZ ∧ Mv [ow 5 1 encB okB (.slice (some ⟨b33, 0, none⟩) 0 0) ([] : List Nat), bx c_b [.slice Q1 Q0 Q2, .int .i64 ((c.pos : Nat) : Int), .int .i64 c.h] 80] w33 [ow 5 1 encB okB (.slice oa on oc) D, bx c_b [.slice Q1 Q0 Q2, .int .i64 ((pp : Nat) : Int), .int .i64 hh] 80] wZ ∧ (pp ≤ Q0) ∧ (i64ok hh) ∧ (D.length = k) ∧ (k ≤ 5000)) (fun (k : Nat) => 5000 - k) (0) ?_ ?_
   · exact ⟨c.pos, c.h, ([] : List Nat), (some ⟨b33, 0, none⟩), 0, 0, F36.cut rfl, (Mv.refl S33.at'), by omega, by assumption, rfl, by omega⟩
   · rintro k a37 w37 ⟨pp, hh, D, oa, on, oc, F37, S37, hk_0, hk_1, hk_2, hk_3⟩
     refine wp_seq (wp_seq (wp_region_lit (l_op (f_mv F37 rfl rfl rfl rfl rfl fun _ F38 => ?_))))
     refine l_op (f_mv F38 rfl rfl rfl rfl rfl fun _ F39 => ?_)
     refine l_op (f_val F39 rfl rfl (r_cmp (b := decide (((k : Nat) : Int) < n)) (.inr (.inr (.inl rfl))) rfl (F39.ev 10 rfl) (F39.ev 11 rfl) (dec_of (by omega))) rfl fun _ F40 => ?_)
     refine s_end (x_normal (x_cond (p := ((k : Nat) : Int) < n) (F40.ev 12 rfl) (fun h41 => ?_) (fun h41 => ?_)))
     · skip
       refine wp_skip (x_normal (wp_seq (wp_block (wp_region_lit (l_op (f_mv F40 rfl rfl rfl rfl rfl fun _ F42 => ?_))))))
       refine l_op (f_mv F42 rfl rfl rfl rfl rfl fun _ F43 => ?_)
       refine l_op (f_call F43 CF_69 rfl rfl rfl rfl (lc (F43.ev 16 rfl) rfl) (spec_l01Byte_c (c := (⟨c.code, pp, hh⟩ : CurD)) (RdA.mv (Nat.succ_pos _) Q3 (S33.trans S37)) (by unfold i64ok; (try dsimp only); omega) (by first | assumption | exact w64_ok _ | exact ⟨by omega, by omega⟩ | (unfold i64ok at *; omega)) (by first | assumption | omega | (simp <;> omega)) (At.pick (is := [1]) S37.at' rfl) (V_off (is := [1]))) ?_)
       rintro _ w44 ⟨i2_44, h2_44, r_44, rfl, m44, q44_0, q44_1, q44_2⟩
       refine ⟨_, rfl, fun _ F45 => ?_⟩
       have S44 : Mv _ _ [bx c_b [.slice Q1 Q0 Q2, .int .i64 ((i2_44 : Nat) : Int), .int .i64 h2_44] 80, ow 5 1 encB okB (.slice oa on oc) D] _ := At.frame S37.at' [1] rfl m44
       clear m44
       refine l_op (f_val F45 rfl rfl (r_conv8 Tryz.underlying5 Tryz.underlying3 rfl (F45.ev 17 rfl) (by omega)) rfl fun _ F46 => ?_)
       refine l_op (f_buildSl (ok := okB) (vs := [.int .u8 ((r_44 : Nat) : Int)]) F46 S44.at' ([r_44]) ET_22 rfl rfl rfl rfl rfl rfl (lc (pr2 (F46.ev 18 rfl)) rfl) rfl rfl (fun x hx => (List.mem_singleton.1 hx) ▸ (show r_44 < 256 by omega)) fun b47 _ w47 F48 S47 => ?_)
       refine l_op (f_app (news := [r_44]) F48 S47.at' 2 ET_22 rfl rfl rfl rfl rfl rfl (F48.ev 15 rfl) (F48.ev 19 rfl) ((At.rd S47.at' ET_22.hk 0 rfl)).1 (by ((repeat (first | rw [List.length_append] | rw [List.length_cons] | rw [List.length_nil] | rw [List.length_take] | rw [List.length_drop])) <;> omega)) fun A49 N49 C49 _ w49 F50 S49 l49 => ?_)
       have S51 := At.drop S49.at' 1
       refine l_op (f_as F50 rfl rfl rfl rfl rfl fun _ F52 => ?_)
       have T53 : Mv _ _ [ow 5 1 encB okB (.slice A49 N49 C49) (D ++ ([r_44])), bx c_b [.slice Q1 Q0 Q2, .int .i64 ((i2_44 : Nat) : Int), .int .i64 h2_44] 80] _ := S51
       refine s_end (x_block_normal (x_normal (wp_region_lit (l_op (f_mv F52 rfl rfl rfl rfl rfl fun _ F54 => ?_)))))
       refine l_op (f_val F54 rfl rfl (r_add (z := ((k + 1 : Nat) : Int)) rfl (F54.ev 13 rfl) rfl (by first | rfl | omega) ⟨by first | omega | (unfold i64ok at *; omega), by first | omega | (unfold i64ok at *; omega)⟩) rfl fun _ F55 => ?_)
       refine l_op (f_as F55 rfl rfl rfl rfl rfl fun _ F56 => ?_)
       refine s_end ?_
       refine x_normal ⟨k + 1, by omega, i2_44, h2_44, D ++ ([r_44]), A49, N49, C49, F56.cut rfl, ((S37.trans (S44.trans (S47.trans (S49.trans T53)))).pick [0, 1] rfl), by omega, by assumption, by simp; omega, by omega⟩
     · skip
       refine wp_exit (x_then_exit (x_then_exit (x_block_here (x_normal (wp_seq (wp_region_lit (l_op (f_mv F40 rfl rfl rfl rfl rfl fun _ F57 => ?_))))))))
       refine l_op (f_val F57 rfl rfl (r_bstr Tryz.underlying22 Tryz.underlying5 Tryz.underlying9 ((At.rd S37.at' ET_22.hk 0 rfl)).1 rfl (F57.ev 21 rfl)) rfl fun _ F58 => ?_)
       refine l_op (f_as F58 rfl rfl rfl rfl rfl fun _ F59 => ?_)
       refine s_end (x_normal (wp_ret ?_))
       refine x_done (v := .string (bstr D)) F59 (results_1 Tryz.results38 (.tmp (F59.ev 4 rfl))) ?_
       exact ⟨pp, hh, bstr D, rfl, (Mv.pick (S33.trans S37) [1] rfl), (okS_bstr (by omega)), by first | assumption | exact w64_ok _ | omega | (unfold i64ok; omega), by first | assumption | exact w64_ok _ | omega | (unfold i64ok; omega), by rw [bstr_size]; omega⟩
end Go.Proofs.YtibgmijfnbnfkaaGreatDoor
