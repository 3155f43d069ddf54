/-
  Walks: drawn keys and values.
-/
import Derived.Test.YtbbkihijhdpliaaGenT
import Derived.Test.YtbbkihijhdpliaaGenQ
namespace Go.Proofs.Ytbbkihijhdpliaa
open Go.ChangeShapes Go.WideShapes Go.ChangeAt Go.RowKit
set_option maxRecDepth 100000
set_option maxHeartbeats 1000000
theorem spec_l01Long_c {w : World} {H : Nat → Prop} {n : Nat} {x : Nat} (h_n : i64ok (n : Int)) (h_x : x < 256) (p0 : n ≤ 1000000) :
    Calls Try.prog 137 #[.int .i64 ((n : Nat) : Int), .int .u8 ((x : Nat) : Int)] w fun e w' => ∃ (r : ByteArray), e = .returned (.string r) ∧ Mv [] w [] w' ∧ okS r ∧ r.size = n := by
 refine calls_enter 20 Try.func137 rfl Try.ntmps137 (Nat.le_of_ble_eq_true rfl) (fun _ F0i => ?_)
 have F0 : Fr 20 [(0, .int .i64 ((n : Nat) : Int)), (1, .int .u8 ((x : Nat) : Int))] _ := F0i
 clear F0i
 refine wp_seq (wp_region_lit (l_op (f_val F0 rfl rfl (r_assign rfl rfl) rfl fun _ F1 => ?_)))
 have F2 : Fr 20 [(4, .string (⟨#[]⟩ : ByteArray)), (0, .int .i64 ((n : Nat) : Int)), (1, .int .u8 ((x : Nat) : Int))] _ := F1.cut rfl
 clear F0 F1
 refine s_end (x_normal (wp_seq (wp_region_lit (l_op (f_mv F2 rfl rfl rfl rfl rfl fun _ F3 => ?_)))))
 refine l_op (f_mk (ok := okB) 0 F3 (At.nil w) ET_32 rfl rfl rfl rfl (F3.ev 7 rfl) (F3.ev 7 rfl) rfl (show 0 < 256 by omega) (by omega) fun b4 _ w4 F5 S4 => ?_)
 refine l_op (f_as F5 rfl rfl rfl rfl rfl fun _ F6 => ?_)
 have F7 : Fr 20 [(5, .slice (some ⟨b4, 0, none⟩) n n), (0, .int .i64 ((n : Nat) : Int)), (1, .int .u8 ((x : Nat) : Int))] _ := F6.cut rfl
 clear F2 F3 F5 F6
 have T8 : Mv _ _ [ow 5 1 encB okB (.slice (some ⟨b4, 0, none⟩) n n) (List.replicate n 0)] _ := S4
 refine s_end (x_normal (wp_seq (wp_seq (wp_region_lit (l_op (f_val F7 rfl rfl (r_assign rfl rfl) rfl fun _ F9 => ?_))))))
 have F10 : Fr 20 [(6, .int .i64 0), (5, .slice (some ⟨b4, 0, none⟩) n n), (0, .int .i64 ((n : Nat) : Int)), (1, .int .u8 ((x : Nat) : Int))] _ := F9.cut rfl
 clear F7 F9
 refine s_end (x_normal (wp_block ?_))
 refine x_loop (fun (k : Nat) aZ wZ => ∃ (D : List Nat), ∃ (oa : Option Addr), ∃ (on : Nat), ∃ (oc : Nat), Fr 20 [(6, .int .i64 ((k : Nat) : Int)), (5, .slice oa on oc), (0, .int .i64 ((n : Nat) : Int)), (1, .int .u8 ((x : Nat) : Int))] aZ ∧ Mv [ow 5 1 encB okB (.slice (some ⟨b4, 0, none⟩) n n) (List.replicate n 0)] w4 [ow 5 1 encB okB (.slice oa on oc) D] wZ ∧ (on = n) ∧ (D.length = n) ∧ (k ≤ n)) (fun (k : Nat) => n - k) (0) ?_ ?_
 · exact ⟨List.replicate n 0, (some ⟨b4, 0, none⟩), n, n, F10.cut rfl, (Mv.refl T8.at'), rfl, List.length_replicate .., by omega⟩
 · rintro k a11 w11 ⟨D, oa, on, oc, F11, S11, hk_0, hk_1, hk_2⟩
   refine wp_seq (wp_seq (wp_region_lit (l_op (f_mv F11 rfl rfl rfl rfl rfl fun _ F12 => ?_))))
   refine l_op (f_mv F12 rfl rfl rfl rfl rfl fun _ F13 => ?_)
   refine l_op (f_val F13 rfl rfl (r_cmp (b := decide (k < n)) (.inr (.inr (.inl rfl))) rfl (F13.ev 9 rfl) (F13.ev 10 rfl) (dec_of (by omega))) rfl fun _ F14 => ?_)
   have F15 : Fr 20 [(11, .bool (decide (k < n))), (6, .int .i64 ((k : Nat) : Int)), (5, .slice oa on oc), (0, .int .i64 ((n : Nat) : Int)), (1, .int .u8 ((x : Nat) : Int))] _ := F14.cut rfl
   clear F11 F12 F13 F14
   refine s_end (x_normal (x_cond (p := k < n) (F15.ev 11 rfl) (fun h16 => ?_) (fun h16 => ?_)))
   · skip
     refine wp_skip (x_normal (wp_seq (wp_block (wp_region_lit (l_op (f_mv F15 rfl rfl rfl rfl rfl fun _ F17 => ?_))))))
     refine l_op (f_mv F17 rfl rfl rfl rfl rfl fun _ F18 => ?_)
     refine l_op (f_mv F18 rfl rfl rfl rfl rfl fun _ F19 => ?_)
     obtain ⟨B20, x1, ad20, hx1, okx1, cl20⟩ := At.ownAt S11.at' ET_32.hk 0 rfl k (by first | assumption | omega)
     refine l_op (f_val F19 rfl rfl (r_indexAddr (i := k) ET_32 rfl ((F19.ev 14 rfl).trans (by rw [ad20])) (F19.ev 15 rfl) (by omega) (by first | assumption | omega)) rfl fun _ F21 => ?_)
     refine l_op (s_storeEl S11.at' 0 k x ET_32.hk ET_32.h1 TI_5 rfl ad20 rfl rfl rfl rfl (F21.ev 17 rfl) (F21.ev 16 rfl) rfl (by first | assumption | omega) (show x < 256 by omega) fun w22 S22 => ?_)
     have F23 : Fr 20 [(17, .pointer (some ⟨B20, 0 + k * 1, none⟩)), (16, .int .u8 ((x : Nat) : Int)), (6, .int .i64 ((k : Nat) : Int)), (5, .slice oa on oc), (0, .int .i64 ((n : Nat) : Int)), (1, .int .u8 ((x : Nat) : Int))] _ := F21.cut rfl
     clear F15 F17 F18 F19 F21
     have T24 : Mv _ _ [ow 5 1 encB okB (.slice oa on oc) (D.set k x)] _ := S22
     refine s_end (x_block_normal (x_normal (wp_region_lit (l_op (f_mv F23 rfl rfl rfl rfl rfl fun _ F25 => ?_)))))
     refine l_op (f_val F25 rfl rfl (r_add (z := ((k + 1 : Nat) : Int)) rfl (F25.ev 12 rfl) rfl (by first | rfl | omega) ⟨by first | omega | (unfold i64ok at *; omega), by first | omega | (unfold i64ok at *; omega)⟩) rfl fun _ F26 => ?_)
     refine l_op (f_as F26 rfl rfl rfl rfl rfl fun _ F27 => ?_)
     have F28 : Fr 20 [(6, .int .i64 ((k + 1 : Nat) : Int)), (5, .slice oa on oc), (0, .int .i64 ((n : Nat) : Int)), (1, .int .u8 ((x : Nat) : Int))] _ := F27.cut rfl
     clear F23 F25 F26 F27
     refine s_end ?_
     refine x_normal ⟨k + 1, by omega, D.set k x, oa, on, oc, F28.cut rfl, ((S11.trans T24).pick [0] rfl), by assumption, (List.length_set ..).trans hk_1, by omega⟩
   · skip
     refine wp_exit (x_then_exit (x_then_exit (x_block_here (x_normal (wp_seq (wp_region_lit (l_op (f_mv F15 rfl rfl rfl rfl rfl fun _ F29 => ?_))))))))
     refine l_op (f_val F29 rfl rfl (r_bstr Try.underlying32 Try.underlying5 Try.underlying9 ((At.rd S11.at' ET_32.hk 0 rfl)).1 rfl (F29.ev 18 rfl)) rfl fun _ F30 => ?_)
     refine l_op (f_as F30 rfl rfl rfl rfl rfl fun _ F31 => ?_)
     have F32 : Fr 20 [(4, .string (bstr D))] _ := F31.cut rfl
     clear F15 F29 F30 F31
     refine s_end (x_normal (wp_ret ?_))
     refine x_done (v := .string (bstr D)) F32 (results_1 Try.results137 (.tmp (F32.ev 4 rfl))) ?_
     exact ⟨bstr D, rfl, (Mv.pick (T8.trans S11) [] rfl), (okS_bstr (by omega)), (bstr_size _).trans hk_1⟩
theorem spec_l01Text_c {w : World} {H : Nat → Prop} {c : CurD} {c_code_a : Option Addr} {c_code_n c_code_c : Nat} {c_b : Nat} {n : Int} (v_c_code : RdA 1 encB okB H w (.slice c_code_a c_code_n c_code_c) c.code) (h_c_pos : i64ok (c.pos : Int)) (h_c_h : i64ok c.h) (h_n : i64ok n) (p0 : c.pos ≤ c_code_n) (hA : At w [bx c_b [.slice c_code_a c_code_n c_code_c, .int .i64 ((c.pos : Nat) : Int), .int .i64 c.h] 108]) (hD : ∀ b, H b → ¬ fps [bx c_b [.slice c_code_a c_code_n c_code_c, .int .i64 ((c.pos : Nat) : Int), .int .i64 c.h] 108] b) :
    Calls Try.prog 138 #[.pointer (some ⟨c_b, 0, none⟩), .int .i64 n] w fun e w' => ∃ (i2 : Nat), ∃ (h2 : Int), ∃ (r : ByteArray), e = .returned (.string r) ∧ Mv [bx c_b [.slice c_code_a c_code_n c_code_c, .int .i64 ((c.pos : Nat) : Int), .int .i64 c.h] 108] w [bx c_b [.slice c_code_a c_code_n c_code_c, .int .i64 ((i2 : Nat) : Int), .int .i64 h2] 108] w' ∧ okS r ∧ i2 ≤ c_code_n ∧ i64ok h2 ∧ r.size ≤ 5000 := by
 have V_v_c_code : RdA 1 encB okB (V H w [bx c_b [.slice c_code_a c_code_n c_code_c, .int .i64 ((c.pos : Nat) : Int), .int .i64 c.h] 108]) w (.slice c_code_a c_code_n c_code_c) c.code := RdA.start v_c_code hD
 obtain ⟨ln_c_code, le_c_code, mx_c_code, ni_c_code⟩ := RdA.inv v_c_code
 refine calls_enter 23 Try.func138 rfl Try.ntmps138 (Nat.le_of_ble_eq_true rfl) (fun _ F0i => ?_)
 have F0 : Fr 23 [(0, .pointer (some ⟨c_b, 0, none⟩)), (1, .int .i64 n)] _ := F0i
 clear F0i
 refine wp_seq (wp_region_lit (l_op (f_val F0 rfl rfl (r_assign rfl rfl) rfl fun _ F1 => ?_)))
 have F2 : Fr 23 [(4, .string (⟨#[]⟩ : ByteArray)), (0, .pointer (some ⟨c_b, 0, none⟩)), (1, .int .i64 n)] _ := F1.cut rfl
 clear F0 F1
 refine s_end (x_normal (wp_seq (wp_seq (wp_region_lit (l_op (f_mv F2 rfl rfl rfl rfl rfl fun _ F3 => ?_))))))
 refine l_op (f_val F3 rfl rfl (r_cmp (b := decide (n > 5000)) (.inr (.inr (.inr (.inr (.inl rfl))))) rfl (F3.ev 7 rfl) rfl (dec_of (by omega))) rfl fun _ F4 => ?_)
 have F5 : Fr 23 [(8, .bool (decide (n > 5000))), (0, .pointer (some ⟨c_b, 0, none⟩)), (1, .int .i64 n)] _ := F4.cut rfl
 clear F2 F3 F4
 refine s_end (x_normal (x_cond (p := n > 5000) (F5.ev 8 rfl) (fun h6 => ?_) (fun h6 => ?_)))
 · skip
   refine wp_region_lit (l_op (f_val F5 rfl rfl (r_assign rfl rfl) rfl fun _ F7 => ?_))
   have F8 : Fr 23 [(1, .int .i64 5000), (0, .pointer (some ⟨c_b, 0, none⟩))] _ := F7.cut rfl
   clear F5 F7
   refine s_end (x_normal (wp_seq (wp_region_lit (l_op (f_buildSl (ok := okB) (vs := []) F8 hA (([] : List Nat)) ET_32 rfl rfl rfl rfl rfl rfl rfl rfl rfl (by simp) fun b9 _ w9 F10 S9 => ?_)))))
   refine l_op (f_as F10 rfl rfl rfl rfl rfl fun _ F11 => ?_)
   have F12 : Fr 23 [(5, .slice (some ⟨b9, 0, none⟩) 0 0), (1, .int .i64 5000), (0, .pointer (some ⟨c_b, 0, none⟩))] _ := F11.cut rfl
   clear F8 F10 F11
   have T13 : Mv _ _ [ow 5 1 encB okB (.slice (some ⟨b9, 0, none⟩) 0 0) ([] : List Nat), bx c_b [.slice c_code_a c_code_n c_code_c, .int .i64 ((c.pos : Nat) : Int), .int .i64 c.h] 108] _ := S9
   refine s_end (x_normal (wp_seq (wp_seq (wp_region_lit (l_op (f_val F12 rfl rfl (r_assign rfl rfl) rfl fun _ F14 => ?_))))))
   have F15 : Fr 23 [(6, .int .i64 0), (5, .slice (some ⟨b9, 0, none⟩) 0 0), (1, .int .i64 5000), (0, .pointer (some ⟨c_b, 0, none⟩))] _ := F14.cut rfl
   clear F12 F14
   refine s_end (x_normal (wp_block ?_))
   refine x_loop (fun (k : Nat) aZ wZ => ∃ (pp : Nat), ∃ (hh : Int), ∃ (D : List Nat), ∃ (oa : Option Addr), ∃ (on : Nat), ∃ (oc : Nat), Fr 23 [(6, .int .i64 ((k : Nat) : Int)), (5, .slice oa on oc), (1, .int .i64 5000), (0, .pointer (some ⟨c_b, 0, none⟩))] aZ ∧ Mv [ow 5 1 encB okB (.slice (some ⟨b9, 0, none⟩) 0 0) ([] : List Nat), bx c_b [.slice c_code_a c_code_n c_code_c, .int .i64 ((c.pos : Nat) : Int), .int .i64 c.h] 108] w9 [ow 5 1 encB okB (.slice oa on oc) D, bx c_b [.slice c_code_a c_code_n c_code_c, .int .i64 ((pp : Nat) : Int), .int .i64 hh] 108] wZ ∧ (pp ≤ c_code_n) ∧ (i64ok hh) ∧ (D.length = k) ∧ (k ≤ 5000)) (fun (k : Nat) => 5000 - k) (0) ?_ ?_
   · exact ⟨c.pos, c.h, ([] : List Nat), (some ⟨b9, 0, none⟩), 0, 0, F15.cut rfl, (Mv.refl T13.at'), by omega, by assumption, rfl, by omega⟩
   · rintro k a16 w16 ⟨pp, hh, D, oa, on, oc, F16, S16, hk_0, hk_1, hk_2, hk_3⟩
     refine wp_seq (wp_seq (wp_region_lit (l_op (f_mv F16 rfl rfl rfl rfl rfl fun _ F17 => ?_))))
     refine l_op (f_mv F17 rfl rfl rfl rfl rfl fun _ F18 => ?_)
     refine l_op (f_val F18 rfl rfl (r_cmp (b := decide (k < 5000)) (.inr (.inr (.inl rfl))) rfl (F18.ev 10 rfl) (F18.ev 11 rfl) (dec_of (by omega))) rfl fun _ F19 => ?_)
     have F20 : Fr 23 [(12, .bool (decide (k < 5000))), (6, .int .i64 ((k : Nat) : Int)), (5, .slice oa on oc), (1, .int .i64 5000), (0, .pointer (some ⟨c_b, 0, none⟩))] _ := F19.cut rfl
     clear F16 F17 F18 F19
     refine s_end (x_normal (x_cond (p := k < 5000) (F20.ev 12 rfl) (fun h21 => ?_) (fun h21 => ?_)))
     · skip
       refine wp_skip (x_normal (wp_seq (wp_block (wp_region_lit (l_op (f_mv F20 rfl rfl rfl rfl rfl fun _ F22 => ?_))))))
       refine l_op (f_mv F22 rfl rfl rfl rfl rfl fun _ F23 => ?_)
       refine l_op (f_call F23 CF_125 rfl rfl rfl rfl (lc (F23.ev 16 rfl) rfl) (spec_l01Byte_c (c := (⟨c.code, pp, hh⟩ : CurD)) (RdA.mv (Nat.succ_pos _) V_v_c_code (T13.trans S16)) (by unfold i64ok; (try dsimp only); omega) (by first | assumption | exact w64_ok _ | exact ⟨by omega, by omega⟩ | (unfold i64ok at *; omega)) (by first | assumption | omega | (simp <;> omega)) (At.pick (is := [1]) S16.at' rfl) (V_off (is := [1]))) ?_)
       rintro _ w24 ⟨i2_24, h2_24, r_24, rfl, m24, q24_0, q24_1, q24_2⟩
       refine ⟨_, rfl, fun _ F25 => ?_⟩
       have S24 : Mv _ _ [bx c_b [.slice c_code_a c_code_n c_code_c, .int .i64 ((i2_24 : Nat) : Int), .int .i64 h2_24] 108, ow 5 1 encB okB (.slice oa on oc) D] _ := At.frame S16.at' [1] rfl m24
       clear m24
       refine l_op (f_val F25 rfl rfl (r_conv8 Try.underlying5 Try.underlying3 rfl (F25.ev 17 rfl) (by omega)) rfl fun _ F26 => ?_)
       refine l_op (f_buildSl (ok := okB) (vs := [.int .u8 ((r_24 : Nat) : Int)]) F26 S24.at' ([r_24]) ET_32 rfl rfl rfl rfl rfl rfl (lc (pr2 (F26.ev 18 rfl)) rfl) rfl rfl (fun x hx => (List.mem_singleton.1 hx) ▸ (show r_24 < 256 by omega)) fun b27 _ w27 F28 S27 => ?_)
       refine l_op (f_app (news := [r_24]) F28 S27.at' 2 ET_32 rfl rfl rfl rfl rfl rfl (F28.ev 15 rfl) (F28.ev 19 rfl) ((At.rd S27.at' ET_32.hk 0 rfl)).1 (by simp only [List.length_append, List.length_cons, List.length_nil]; omega) fun A29 N29 C29 _ w29 F30 S29 l29 => ?_)
       have S31 := At.drop S29.at' 1
       refine l_op (f_as F30 rfl rfl rfl rfl rfl fun _ F32 => ?_)
       have F33 : Fr 23 [(5, .slice A29 N29 C29), (6, .int .i64 ((k : Nat) : Int)), (1, .int .i64 5000), (0, .pointer (some ⟨c_b, 0, none⟩))] _ := F32.cut rfl
       clear F20 F22 F23 F25 F26 F28 F30 F32
       have T34 : Mv _ _ [ow 5 1 encB okB (.slice A29 N29 C29) (D ++ ([r_24])), bx c_b [.slice c_code_a c_code_n c_code_c, .int .i64 ((i2_24 : Nat) : Int), .int .i64 h2_24] 108] _ := S31
       refine s_end (x_block_normal (x_normal (wp_region_lit (l_op (f_mv F33 rfl rfl rfl rfl rfl fun _ F35 => ?_)))))
       refine l_op (f_val F35 rfl rfl (r_add (z := ((k + 1 : Nat) : Int)) rfl (F35.ev 13 rfl) rfl (by first | rfl | omega) ⟨by first | omega | (unfold i64ok at *; omega), by first | omega | (unfold i64ok at *; omega)⟩) rfl fun _ F36 => ?_)
       refine l_op (f_as F36 rfl rfl rfl rfl rfl fun _ F37 => ?_)
       have F38 : Fr 23 [(6, .int .i64 ((k + 1 : Nat) : Int)), (5, .slice A29 N29 C29), (1, .int .i64 5000), (0, .pointer (some ⟨c_b, 0, none⟩))] _ := F37.cut rfl
       clear F33 F35 F36 F37
       refine s_end ?_
       refine x_normal ⟨k + 1, by omega, i2_24, h2_24, D ++ ([r_24]), A29, N29, C29, F38.cut rfl, ((S16.trans (S24.trans (S27.trans (S29.trans T34)))).pick [0, 1] rfl), by omega, by assumption, by simp; omega, by omega⟩
     · skip
       refine wp_exit (x_then_exit (x_then_exit (x_block_here (x_normal (wp_seq (wp_region_lit (l_op (f_mv F20 rfl rfl rfl rfl rfl fun _ F39 => ?_))))))))
       refine l_op (f_val F39 rfl rfl (r_bstr Try.underlying32 Try.underlying5 Try.underlying9 ((At.rd S16.at' ET_32.hk 0 rfl)).1 rfl (F39.ev 21 rfl)) rfl fun _ F40 => ?_)
       refine l_op (f_as F40 rfl rfl rfl rfl rfl fun _ F41 => ?_)
       have F42 : Fr 23 [(4, .string (bstr D))] _ := F41.cut rfl
       clear F20 F39 F40 F41
       refine s_end (x_normal (wp_ret ?_))
       refine x_done (v := .string (bstr D)) F42 (results_1 Try.results138 (.tmp (F42.ev 4 rfl))) ?_
       exact ⟨pp, hh, bstr D, rfl, (Mv.pick (T13.trans S16) [1] rfl), (okS_bstr (by omega)), by first | assumption | exact w64_ok _ | omega | (unfold i64ok; omega), by first | assumption | exact w64_ok _ | omega | (unfold i64ok; omega), by rw [bstr_size]; omega⟩
 · skip
   refine wp_skip (x_normal (wp_seq (wp_region_lit (l_op (f_buildSl (ok := okB) (vs := []) F5 hA (([] : List Nat)) ET_32 rfl rfl rfl rfl rfl rfl rfl rfl rfl (by simp) fun b43 _ w43 F44 S43 => ?_)))))
   refine l_op (f_as F44 rfl rfl rfl rfl rfl fun _ F45 => ?_)
   have F46 : Fr 23 [(5, .slice (some ⟨b43, 0, none⟩) 0 0), (0, .pointer (some ⟨c_b, 0, none⟩)), (1, .int .i64 n)] _ := F45.cut rfl
   clear F5 F44 F45
   have T47 : Mv _ _ [ow 5 1 encB okB (.slice (some ⟨b43, 0, none⟩) 0 0) ([] : List Nat), bx c_b [.slice c_code_a c_code_n c_code_c, .int .i64 ((c.pos : Nat) : Int), .int .i64 c.h] 108] _ := S43
   refine s_end (x_normal (wp_seq (wp_seq (wp_region_lit (l_op (f_val F46 rfl rfl (r_assign rfl rfl) rfl fun _ F48 => ?_))))))
   have F49 : Fr 23 [(6, .int .i64 0), (5, .slice (some ⟨b43, 0, none⟩) 0 0), (0, .pointer (some ⟨c_b, 0, none⟩)), (1, .int .i64 n)] _ := F48.cut rfl
   clear F46 F48
   refine s_end (x_normal (wp_block ?_))
   refine x_loop (fun (k : Nat) aZ wZ => ∃ (pp : Nat), ∃ (hh : Int), ∃ (D : List Nat), ∃ (oa : Option Addr), ∃ (on : Nat), ∃ (oc : Nat), Fr 23 [(6, .int .i64 ((k : Nat) : Int)), (5, .slice oa on oc), (0, .pointer (some ⟨c_b, 0, none⟩)), (1, .int .i64 n)] aZ ∧ Mv [ow 5 1 encB okB (.slice (some ⟨b43, 0, none⟩) 0 0) ([] : List Nat), bx c_b [.slice c_code_a c_code_n c_code_c, .int .i64 ((c.pos : Nat) : Int), .int .i64 c.h] 108] w43 [ow 5 1 encB okB (.slice oa on oc) D, bx c_b [.slice c_code_a c_code_n c_code_c, .int .i64 ((pp : Nat) : Int), .int .i64 hh] 108] wZ ∧ (pp ≤ c_code_n) ∧ (i64ok hh) ∧ (D.length = k) ∧ (k ≤ 5000)) (fun (k : Nat) => 5000 - k) (0) ?_ ?_
   · exact ⟨c.pos, c.h, ([] : List Nat), (some ⟨b43, 0, none⟩), 0, 0, F49.cut rfl, (Mv.refl T47.at'), by omega, by assumption, rfl, by omega⟩
   · rintro k a50 w50 ⟨pp, hh, D, oa, on, oc, F50, S50, hk_0, hk_1, hk_2, hk_3⟩
     refine wp_seq (wp_seq (wp_region_lit (l_op (f_mv F50 rfl rfl rfl rfl rfl fun _ F51 => ?_))))
     refine l_op (f_mv F51 rfl rfl rfl rfl rfl fun _ F52 => ?_)
     refine l_op (f_val F52 rfl rfl (r_cmp (b := decide (((k : Nat) : Int) < n)) (.inr (.inr (.inl rfl))) rfl (F52.ev 10 rfl) (F52.ev 11 rfl) (dec_of (by omega))) rfl fun _ F53 => ?_)
     have F54 : Fr 23 [(12, .bool (decide (((k : Nat) : Int) < n))), (6, .int .i64 ((k : Nat) : Int)), (5, .slice oa on oc), (0, .pointer (some ⟨c_b, 0, none⟩)), (1, .int .i64 n)] _ := F53.cut rfl
     clear F50 F51 F52 F53
     refine s_end (x_normal (x_cond (p := ((k : Nat) : Int) < n) (F54.ev 12 rfl) (fun h55 => ?_) (fun h55 => ?_)))
     · skip
       refine wp_skip (x_normal (wp_seq (wp_block (wp_region_lit (l_op (f_mv F54 rfl rfl rfl rfl rfl fun _ F56 => ?_))))))
       refine l_op (f_mv F56 rfl rfl rfl rfl rfl fun _ F57 => ?_)
       refine l_op (f_call F57 CF_125 rfl rfl rfl rfl (lc (F57.ev 16 rfl) rfl) (spec_l01Byte_c (c := (⟨c.code, pp, hh⟩ : CurD)) (RdA.mv (Nat.succ_pos _) V_v_c_code (T47.trans S50)) (by unfold i64ok; (try dsimp only); omega) (by first | assumption | exact w64_ok _ | exact ⟨by omega, by omega⟩ | (unfold i64ok at *; omega)) (by first | assumption | omega | (simp <;> omega)) (At.pick (is := [1]) S50.at' rfl) (V_off (is := [1]))) ?_)
       rintro _ w58 ⟨i2_58, h2_58, r_58, rfl, m58, q58_0, q58_1, q58_2⟩
       refine ⟨_, rfl, fun _ F59 => ?_⟩
       have S58 : Mv _ _ [bx c_b [.slice c_code_a c_code_n c_code_c, .int .i64 ((i2_58 : Nat) : Int), .int .i64 h2_58] 108, ow 5 1 encB okB (.slice oa on oc) D] _ := At.frame S50.at' [1] rfl m58
       clear m58
       refine l_op (f_val F59 rfl rfl (r_conv8 Try.underlying5 Try.underlying3 rfl (F59.ev 17 rfl) (by omega)) rfl fun _ F60 => ?_)
       refine l_op (f_buildSl (ok := okB) (vs := [.int .u8 ((r_58 : Nat) : Int)]) F60 S58.at' ([r_58]) ET_32 rfl rfl rfl rfl rfl rfl (lc (pr2 (F60.ev 18 rfl)) rfl) rfl rfl (fun x hx => (List.mem_singleton.1 hx) ▸ (show r_58 < 256 by omega)) fun b61 _ w61 F62 S61 => ?_)
       refine l_op (f_app (news := [r_58]) F62 S61.at' 2 ET_32 rfl rfl rfl rfl rfl rfl (F62.ev 15 rfl) (F62.ev 19 rfl) ((At.rd S61.at' ET_32.hk 0 rfl)).1 (by simp only [List.length_append, List.length_cons, List.length_nil]; omega) fun A63 N63 C63 _ w63 F64 S63 l63 => ?_)
       have S65 := At.drop S63.at' 1
       refine l_op (f_as F64 rfl rfl rfl rfl rfl fun _ F66 => ?_)
       have F67 : Fr 23 [(5, .slice A63 N63 C63), (6, .int .i64 ((k : Nat) : Int)), (0, .pointer (some ⟨c_b, 0, none⟩)), (1, .int .i64 n)] _ := F66.cut rfl
       clear F54 F56 F57 F59 F60 F62 F64 F66
       have T68 : Mv _ _ [ow 5 1 encB okB (.slice A63 N63 C63) (D ++ ([r_58])), bx c_b [.slice c_code_a c_code_n c_code_c, .int .i64 ((i2_58 : Nat) : Int), .int .i64 h2_58] 108] _ := S65
       refine s_end (x_block_normal (x_normal (wp_region_lit (l_op (f_mv F67 rfl rfl rfl rfl rfl fun _ F69 => ?_)))))
       refine l_op (f_val F69 rfl rfl (r_add (z := ((k + 1 : Nat) : Int)) rfl (F69.ev 13 rfl) rfl (by first | rfl | omega) ⟨by first | omega | (unfold i64ok at *; omega), by first | omega | (unfold i64ok at *; omega)⟩) rfl fun _ F70 => ?_)
       refine l_op (f_as F70 rfl rfl rfl rfl rfl fun _ F71 => ?_)
       have F72 : Fr 23 [(6, .int .i64 ((k + 1 : Nat) : Int)), (5, .slice A63 N63 C63), (0, .pointer (some ⟨c_b, 0, none⟩)), (1, .int .i64 n)] _ := F71.cut rfl
       clear F67 F69 F70 F71
       refine s_end ?_
       refine x_normal ⟨k + 1, by omega, i2_58, h2_58, D ++ ([r_58]), A63, N63, C63, F72.cut rfl, ((S50.trans (S58.trans (S61.trans (S63.trans T68)))).pick [0, 1] rfl), by omega, by assumption, by simp; omega, by omega⟩
     · skip
       refine wp_exit (x_then_exit (x_then_exit (x_block_here (x_normal (wp_seq (wp_region_lit (l_op (f_mv F54 rfl rfl rfl rfl rfl fun _ F73 => ?_))))))))
       refine l_op (f_val F73 rfl rfl (r_bstr Try.underlying32 Try.underlying5 Try.underlying9 ((At.rd S50.at' ET_32.hk 0 rfl)).1 rfl (F73.ev 21 rfl)) rfl fun _ F74 => ?_)
       refine l_op (f_as F74 rfl rfl rfl rfl rfl fun _ F75 => ?_)
       have F76 : Fr 23 [(4, .string (bstr D))] _ := F75.cut rfl
       clear F54 F73 F74 F75
       refine s_end (x_normal (wp_ret ?_))
       refine x_done (v := .string (bstr D)) F76 (results_1 Try.results138 (.tmp (F76.ev 4 rfl))) ?_
       exact ⟨pp, hh, bstr D, rfl, (Mv.pick (T47.trans S50) [1] rfl), (okS_bstr (by omega)), by first | assumption | exact w64_ok _ | omega | (unfold i64ok; omega), by first | assumption | exact w64_ok _ | omega | (unfold i64ok; omega), by rw [bstr_size]; omega⟩
theorem spec_l02Key_c {w : World} {H : Nat → Prop} {c : CurD} {c_code_a : Option Addr} {c_code_n c_code_c : Nat} {c_b : Nat} (v_c_code : RdA 1 encB okB H w (.slice c_code_a c_code_n c_code_c) c.code) (h_c_pos : i64ok (c.pos : Int)) (h_c_h : i64ok c.h) (p0 : c.pos ≤ c_code_n) (hA : At w [bx c_b [.slice c_code_a c_code_n c_code_c, .int .i64 ((c.pos : Nat) : Int), .int .i64 c.h] 108]) (hD : ∀ b, H b → ¬ fps [bx c_b [.slice c_code_a c_code_n c_code_c, .int .i64 ((c.pos : Nat) : Int), .int .i64 c.h] 108] b) :
    Calls Try.prog 81 #[.pointer (some ⟨c_b, 0, none⟩)] w fun e w' => ∃ (i2 : Nat), ∃ (h2 : Int), ∃ (r : ByteArray), e = .returned (.string r) ∧ Mv [bx c_b [.slice c_code_a c_code_n c_code_c, .int .i64 ((c.pos : Nat) : Int), .int .i64 c.h] 108] w [bx c_b [.slice c_code_a c_code_n c_code_c, .int .i64 ((i2 : Nat) : Int), .int .i64 h2] 108] w' ∧ okS r ∧ i2 ≤ c_code_n ∧ i64ok h2 ∧ r.size ≤ 100 := by
 have V_v_c_code : RdA 1 encB okB (V H w [bx c_b [.slice c_code_a c_code_n c_code_c, .int .i64 ((c.pos : Nat) : Int), .int .i64 c.h] 108]) w (.slice c_code_a c_code_n c_code_c) c.code := RdA.start v_c_code hD
 obtain ⟨ln_c_code, le_c_code, mx_c_code, ni_c_code⟩ := RdA.inv v_c_code
 refine calls_enter 6 Try.func81 rfl Try.ntmps81 (Nat.le_of_ble_eq_true rfl) (fun _ F0i => ?_)
 have F0 : Fr 6 [(0, .pointer (some ⟨c_b, 0, none⟩))] _ := F0i
 clear F0i
 refine wp_seq (wp_region_lit (l_op (f_val F0 rfl rfl (r_assign rfl rfl) rfl fun _ F1 => ?_)))
 have F2 : Fr 6 [(2, .string (⟨#[]⟩ : ByteArray)), (0, .pointer (some ⟨c_b, 0, none⟩))] _ := F1.cut rfl
 clear F0 F1
 refine s_end (x_normal (wp_seq (wp_region_lit (l_op (f_mv F2 rfl rfl rfl rfl rfl fun _ F3 => ?_)))))
 refine l_op (f_buildSl (ok := okS) (vs := [.string (⟨#[97]⟩ : ByteArray), .string (⟨#[98]⟩ : ByteArray), .string (⟨#[110, 47, 120]⟩ : ByteArray), .string (⟨#[110, 47, 121]⟩ : ByteArray), .string (⟨#[110, 47, 121, 121]⟩ : ByteArray), .string (⟨#[105, 47, 49, 47, 115]⟩ : ByteArray), .string (⟨#[105, 47, 49, 47, 98, 47, 48]⟩ : ByteArray), .string (⟨#[105, 47, 49, 50, 47, 115]⟩ : ByteArray), .string (⟨#[99, 47, 112, 105, 112, 101]⟩ : ByteArray), .string (⟨#[112, 47, 49, 47, 104]⟩ : ByteArray)]) F3 hA ([(⟨#[97]⟩ : ByteArray), (⟨#[98]⟩ : ByteArray), (⟨#[110, 47, 120]⟩ : ByteArray), (⟨#[110, 47, 121]⟩ : ByteArray), (⟨#[110, 47, 121, 121]⟩ : ByteArray), (⟨#[105, 47, 49, 47, 115]⟩ : ByteArray), (⟨#[105, 47, 49, 47, 98, 47, 48]⟩ : ByteArray), (⟨#[105, 47, 49, 50, 47, 115]⟩ : ByteArray), (⟨#[99, 47, 112, 105, 112, 101]⟩ : ByteArray), (⟨#[112, 47, 49, 47, 104]⟩ : ByteArray)]) ET_22 rfl rfl rfl rfl rfl rfl (lc (pr2 rfl) (lc (pr2 rfl) (lc (pr2 rfl) (lc (pr2 rfl) (lc (pr2 rfl) (lc (pr2 rfl) (lc (pr2 rfl) (lc (pr2 rfl) (lc (pr2 rfl) (lc (pr2 rfl) rfl)))))))))) rfl rfl (fun x hx => by (repeat (first | (rcases List.mem_cons.1 hx with hx | hx; (subst hx; first | exact (by unfold okS; decide) | exact (by unfold okS; decide) | exact (by unfold okS; decide) | exact (by unfold okS; decide) | exact (by unfold okS; decide) | exact (by unfold okS; decide) | exact (by unfold okS; decide) | exact (by unfold okS; decide) | exact (by unfold okS; decide) | exact (by unfold okS; decide))) | exact (List.not_mem_nil hx).elim))) fun b4 _ w4 F5 S4 => ?_)
 refine l_op (f_call F5 CF_121 rfl rfl rfl rfl (lc (F5.ev 3 rfl) (lc (F5.ev 4 rfl) rfl)) (spec_l01Pick_c (H := fun b => ¬ fps (sel [ow 9 1 encS okS (.slice (some ⟨b4, 0, none⟩) 10 10) ([(⟨#[97]⟩ : ByteArray), (⟨#[98]⟩ : ByteArray), (⟨#[110, 47, 120]⟩ : ByteArray), (⟨#[110, 47, 121]⟩ : ByteArray), (⟨#[110, 47, 121, 121]⟩ : ByteArray), (⟨#[105, 47, 49, 47, 115]⟩ : ByteArray), (⟨#[105, 47, 49, 47, 98, 47, 48]⟩ : ByteArray), (⟨#[105, 47, 49, 50, 47, 115]⟩ : ByteArray), (⟨#[99, 47, 112, 105, 112, 101]⟩ : ByteArray), (⟨#[112, 47, 49, 47, 104]⟩ : ByteArray)]), bx c_b [.slice c_code_a c_code_n c_code_c, .int .i64 ((c.pos : Nat) : Int), .int .i64 c.h] 108] [1]) b) (c := c) (list := [(⟨#[97]⟩ : ByteArray), (⟨#[98]⟩ : ByteArray), (⟨#[110, 47, 120]⟩ : ByteArray), (⟨#[110, 47, 121]⟩ : ByteArray), (⟨#[110, 47, 121, 121]⟩ : ByteArray), (⟨#[105, 47, 49, 47, 115]⟩ : ByteArray), (⟨#[105, 47, 49, 47, 98, 47, 48]⟩ : ByteArray), (⟨#[105, 47, 49, 50, 47, 115]⟩ : ByteArray), (⟨#[99, 47, 112, 105, 112, 101]⟩ : ByteArray), (⟨#[112, 47, 49, 47, 104]⟩ : ByteArray)]) (RdA.mono (RdA.mv (Nat.succ_pos _) V_v_c_code S4) (V_off (is := [1]))) (by unfold i64ok; (try dsimp only); omega) (by first | assumption | exact w64_ok _ | exact ⟨by omega, by omega⟩ | (unfold i64ok at *; omega)) (At.rdOff S4.at' ET_22.hk 0 rfl [1] rfl) (by first | assumption | omega | (simp <;> omega)) (by first | assumption | omega | (simp <;> omega)) (At.pick (is := [1]) S4.at' rfl) (fun _ h => h)) ?_)
 rintro _ w6 ⟨i2_6, h2_6, r_6, rfl, m6, ok_r0_6, q6_0, q6_1, q6_2⟩
 refine ⟨_, rfl, fun _ F7 => ?_⟩
 have S6 : Mv _ _ [bx c_b [.slice c_code_a c_code_n c_code_c, .int .i64 ((i2_6 : Nat) : Int), .int .i64 h2_6] 108, ow 9 1 encS okS (.slice (some ⟨b4, 0, none⟩) 10 10) ([(⟨#[97]⟩ : ByteArray), (⟨#[98]⟩ : ByteArray), (⟨#[110, 47, 120]⟩ : ByteArray), (⟨#[110, 47, 121]⟩ : ByteArray), (⟨#[110, 47, 121, 121]⟩ : ByteArray), (⟨#[105, 47, 49, 47, 115]⟩ : ByteArray), (⟨#[105, 47, 49, 47, 98, 47, 48]⟩ : ByteArray), (⟨#[105, 47, 49, 50, 47, 115]⟩ : ByteArray), (⟨#[99, 47, 112, 105, 112, 101]⟩ : ByteArray), (⟨#[112, 47, 49, 47, 104]⟩ : ByteArray)])] _ := At.frame S4.at' [1] rfl m6
 clear m6
 refine l_op (f_as F7 rfl rfl rfl rfl rfl fun _ F8 => ?_)
 have F9 : Fr 6 [(2, .string r_6)] _ := F8.cut rfl
 clear F2 F3 F5 F7 F8
 refine s_end (x_normal (wp_ret ?_))
 refine x_done (v := .string r_6) F9 (results_1 Try.results81 (.tmp (F9.ev 2 rfl))) ?_
 exact ⟨i2_6, h2_6, r_6, rfl, (Mv.pick (S4.trans S6) [0] rfl), ok_r0_6, by first | assumption | exact w64_ok _ | omega | (unfold i64ok; omega), by first | assumption | exact w64_ok _ | omega | (unfold i64ok; omega), by (refine (?_ : ∀ x : ByteArray, x ∈ (_ : List ByteArray) → x.size ≤ 100) _ (by assumption)); decide⟩
theorem spec_l02Val_c {w : World} {H : Nat → Prop} {c : CurD} {c_code_a : Option Addr} {c_code_n c_code_c : Nat} {c_b : Nat} (v_c_code : RdA 1 encB okB H w (.slice c_code_a c_code_n c_code_c) c.code) (h_c_pos : i64ok (c.pos : Int)) (h_c_h : i64ok c.h) (p0 : c.pos ≤ c_code_n) (hA : At w [bx c_b [.slice c_code_a c_code_n c_code_c, .int .i64 ((c.pos : Nat) : Int), .int .i64 c.h] 108]) (hD : ∀ b, H b → ¬ fps [bx c_b [.slice c_code_a c_code_n c_code_c, .int .i64 ((c.pos : Nat) : Int), .int .i64 c.h] 108] b) :
    Calls Try.prog 103 #[.pointer (some ⟨c_b, 0, none⟩)] w fun e w' => ∃ (i2 : Nat), ∃ (h2 : Int), ∃ (r : ByteArray), e = .returned (.string r) ∧ Mv [bx c_b [.slice c_code_a c_code_n c_code_c, .int .i64 ((c.pos : Nat) : Int), .int .i64 c.h] 108] w [bx c_b [.slice c_code_a c_code_n c_code_c, .int .i64 ((i2 : Nat) : Int), .int .i64 h2] 108] w' ∧ okS r ∧ i2 ≤ c_code_n ∧ i64ok h2 ∧ r.size ≤ 5000 := by
 have V_v_c_code : RdA 1 encB okB (V H w [bx c_b [.slice c_code_a c_code_n c_code_c, .int .i64 ((c.pos : Nat) : Int), .int .i64 c.h] 108]) w (.slice c_code_a c_code_n c_code_c) c.code := RdA.start v_c_code hD
 obtain ⟨ln_c_code, le_c_code, mx_c_code, ni_c_code⟩ := RdA.inv v_c_code
 refine calls_enter 13 Try.func103 rfl Try.ntmps103 (Nat.le_of_ble_eq_true rfl) (fun _ F0i => ?_)
 have F0 : Fr 13 [(0, .pointer (some ⟨c_b, 0, none⟩))] _ := F0i
 clear F0i
 refine wp_seq (wp_region_lit (l_op (f_val F0 rfl rfl (r_assign rfl rfl) rfl fun _ F1 => ?_)))
 have F2 : Fr 13 [(2, .string (⟨#[]⟩ : ByteArray)), (0, .pointer (some ⟨c_b, 0, none⟩))] _ := F1.cut rfl
 clear F0 F1
 refine s_end (x_normal (wp_seq (wp_seq (wp_region_lit (l_op (f_mv F2 rfl rfl rfl rfl rfl fun _ F3 => ?_))))))
 refine l_op (f_call F3 CF_115 rfl rfl rfl rfl (lc (F3.ev 3 rfl) (lc rfl rfl)) (spec_l01Once_c (c := c) (n := 16) V_v_c_code (by unfold i64ok; (try dsimp only); omega) (by first | assumption | exact w64_ok _ | exact ⟨by omega, by omega⟩ | (unfold i64ok at *; omega)) (by first | assumption | exact ⟨by omega, by omega⟩ | (unfold i64ok at *; omega)) (by first | assumption | omega | (simp <;> omega)) (At.pick (is := [0]) hA rfl) (V_off (is := [0]))) ?_)
 rintro _ w4 ⟨i2_4, h2_4, r_4, rfl, m4, q4_0, q4_1⟩
 refine ⟨_, rfl, fun _ F5 => ?_⟩
 have S4 : Mv _ _ [bx c_b [.slice c_code_a c_code_n c_code_c, .int .i64 ((i2_4 : Nat) : Int), .int .i64 h2_4] 108] _ := At.frame hA [0] rfl m4
 clear m4
 have F6 : Fr 13 [(4, .bool r_4), (0, .pointer (some ⟨c_b, 0, none⟩))] _ := F5.cut rfl
 clear F2 F3 F5
 refine s_end (x_normal (x_condb (b := r_4) (F6.ev 4 rfl) (fun h7 => ?_) (fun h7 => ?_)))
 · skip
   refine wp_seq (wp_region_lit (l_op (f_mv F6 rfl rfl rfl rfl rfl fun _ F8 => ?_)))
   refine l_op (f_call F8 CF_80 rfl rfl rfl rfl (lc (F8.ev 5 rfl) (lc rfl rfl)) (spec_l01Below_c (c := (⟨c.code, i2_4, h2_4⟩ : CurD)) (n := 2) (RdA.mv (Nat.succ_pos _) V_v_c_code S4) (by unfold i64ok; (try dsimp only); omega) (by first | assumption | exact w64_ok _ | exact ⟨by omega, by omega⟩ | (unfold i64ok at *; omega)) (by first | assumption | exact ⟨by omega, by omega⟩ | (unfold i64ok at *; omega)) (by first | assumption | omega | (simp <;> omega)) (At.pick (is := [0]) S4.at' rfl) (V_off (is := [0]))) ?_)
   rintro _ w9 ⟨i2_9, h2_9, r_9, rfl, m9, q9_0, q9_1, q9_2, q9_3⟩
   refine ⟨_, rfl, fun _ F10 => ?_⟩
   have S9 : Mv _ _ [bx c_b [.slice c_code_a c_code_n c_code_c, .int .i64 ((i2_9 : Nat) : Int), .int .i64 h2_9] 108] _ := At.frame S4.at' [0] rfl m9
   clear m9
   refine l_op (f_val F10 rfl rfl (r_add (z := ((60 + r_9 : Nat) : Int)) rfl rfl (F10.ev 6 rfl) (by first | rfl | omega) ⟨by first | omega | (unfold i64ok at *; omega), by first | omega | (unfold i64ok at *; omega)⟩) rfl fun _ F11 => ?_)
   refine l_op (f_call F11 CF_137 rfl rfl rfl rfl (lc (F11.ev 7 rfl) (lc rfl rfl)) (spec_l01Long_c (H := fun _ => True) (n := 60 + r_9) (x := 5) ⟨by omega, by first | omega | (unfold i64ok at *; omega)⟩ (by omega) (by first | assumption | omega | (simp <;> omega))) ?_)
   rintro _ w12 ⟨r_12, rfl, m12, ok_r0_12, q12_0⟩
   refine ⟨_, rfl, fun _ F13 => ?_⟩
   have S12 := At.frame0 S9.at' m12
   clear m12
   refine l_op (f_as F13 rfl rfl rfl rfl rfl fun _ F14 => ?_)
   have F15 : Fr 13 [(2, .string r_12)] _ := F14.cut rfl
   clear F6 F8 F10 F11 F13 F14
   have T16 : Mv _ _ [bx c_b [.slice c_code_a c_code_n c_code_c, .int .i64 ((i2_9 : Nat) : Int), .int .i64 h2_9] 108] _ := S12
   refine s_end (x_normal (wp_ret (x_then_ret ?_)))
   refine x_done (v := .string r_12) F15 (results_1 Try.results103 (.tmp (F15.ev 2 rfl))) ?_
   exact ⟨i2_9, h2_9, r_12, rfl, (Mv.pick (S4.trans (S9.trans T16)) [0] rfl), ok_r0_12, by first | assumption | exact w64_ok _ | omega | (unfold i64ok; omega), by first | assumption | exact w64_ok _ | omega | (unfold i64ok; omega), by first | assumption | exact w64_ok _ | omega | (unfold i64ok; omega)⟩
 · skip
   refine wp_skip (x_normal (wp_seq (wp_region_lit (l_op (f_mv F6 rfl rfl rfl rfl rfl fun _ F17 => ?_)))))
   refine l_op (f_mv F17 rfl rfl rfl rfl rfl fun _ F18 => ?_)
   refine l_op (f_call F18 CF_80 rfl rfl rfl rfl (lc (F18.ev 10 rfl) (lc rfl rfl)) (spec_l01Below_c (c := (⟨c.code, i2_4, h2_4⟩ : CurD)) (n := 5) (RdA.mv (Nat.succ_pos _) V_v_c_code S4) (by unfold i64ok; (try dsimp only); omega) (by first | assumption | exact w64_ok _ | exact ⟨by omega, by omega⟩ | (unfold i64ok at *; omega)) (by first | assumption | exact ⟨by omega, by omega⟩ | (unfold i64ok at *; omega)) (by first | assumption | omega | (simp <;> omega)) (At.pick (is := [0]) S4.at' rfl) (V_off (is := [0]))) ?_)
   rintro _ w19 ⟨i2_19, h2_19, r_19, rfl, m19, q19_0, q19_1, q19_2, q19_3⟩
   refine ⟨_, rfl, fun _ F20 => ?_⟩
   have S19 : Mv _ _ [bx c_b [.slice c_code_a c_code_n c_code_c, .int .i64 ((i2_19 : Nat) : Int), .int .i64 h2_19] 108] _ := At.frame S4.at' [0] rfl m19
   clear m19
   refine l_op (f_call F20 CF_138 rfl rfl rfl rfl (lc (F20.ev 9 rfl) (lc (F20.ev 11 rfl) rfl)) (spec_l01Text_c (c := (⟨c.code, i2_19, h2_19⟩ : CurD)) (n := ((r_19 : Nat) : Int)) (RdA.mv (Nat.succ_pos _) V_v_c_code (S4.trans S19)) (by unfold i64ok; (try dsimp only); omega) (by first | assumption | exact w64_ok _ | exact ⟨by omega, by omega⟩ | (unfold i64ok at *; omega)) (by first | assumption | exact ⟨by omega, by omega⟩ | (unfold i64ok at *; omega)) (by first | assumption | omega | (simp <;> omega)) (At.pick (is := [0]) S19.at' rfl) (V_off (is := [0]))) ?_)
   rintro _ w21 ⟨i2_21, h2_21, r_21, rfl, m21, ok_r0_21, q21_0, q21_1, q21_2⟩
   refine ⟨_, rfl, fun _ F22 => ?_⟩
   have S21 : Mv _ _ [bx c_b [.slice c_code_a c_code_n c_code_c, .int .i64 ((i2_21 : Nat) : Int), .int .i64 h2_21] 108] _ := At.frame S19.at' [0] rfl m21
   clear m21
   refine l_op (f_as F22 rfl rfl rfl rfl rfl fun _ F23 => ?_)
   have F24 : Fr 13 [(2, .string r_21)] _ := F23.cut rfl
   clear F6 F17 F18 F20 F22 F23
   refine s_end (x_normal (wp_ret ?_))
   refine x_done (v := .string r_21) F24 (results_1 Try.results103 (.tmp (F24.ev 2 rfl))) ?_
   exact ⟨i2_21, h2_21, r_21, rfl, (Mv.pick (S4.trans (S19.trans S21)) [0] rfl), ok_r0_21, by first | assumption | exact w64_ok _ | omega | (unfold i64ok; omega), by first | assumption | exact w64_ok _ | omega | (unfold i64ok; omega), by first | assumption | exact w64_ok _ | omega | (unfold i64ok; omega)⟩
theorem spec_l02AnyKey_c {w : World} {H : Nat → Prop} {c : CurD} {c_code_a : Option Addr} {c_code_n c_code_c : Nat} {c_b : Nat} (v_c_code : RdA 1 encB okB H w (.slice c_code_a c_code_n c_code_c) c.code) (h_c_pos : i64ok (c.pos : Int)) (h_c_h : i64ok c.h) (p0 : c.pos ≤ c_code_n) (hA : At w [bx c_b [.slice c_code_a c_code_n c_code_c, .int .i64 ((c.pos : Nat) : Int), .int .i64 c.h] 108]) (hD : ∀ b, H b → ¬ fps [bx c_b [.slice c_code_a c_code_n c_code_c, .int .i64 ((c.pos : Nat) : Int), .int .i64 c.h] 108] b) :
    Calls Try.prog 102 #[.pointer (some ⟨c_b, 0, none⟩)] w fun e w' => ∃ (i2 : Nat), ∃ (h2 : Int), ∃ (r : ByteArray), e = .returned (.string r) ∧ Mv [bx c_b [.slice c_code_a c_code_n c_code_c, .int .i64 ((c.pos : Nat) : Int), .int .i64 c.h] 108] w [bx c_b [.slice c_code_a c_code_n c_code_c, .int .i64 ((i2 : Nat) : Int), .int .i64 h2] 108] w' ∧ okS r ∧ i2 ≤ c_code_n ∧ i64ok h2 := by
 have V_v_c_code : RdA 1 encB okB (V H w [bx c_b [.slice c_code_a c_code_n c_code_c, .int .i64 ((c.pos : Nat) : Int), .int .i64 c.h] 108]) w (.slice c_code_a c_code_n c_code_c) c.code := RdA.start v_c_code hD
 obtain ⟨ln_c_code, le_c_code, mx_c_code, ni_c_code⟩ := RdA.inv v_c_code
 refine calls_enter 12 Try.func102 rfl Try.ntmps102 (Nat.le_of_ble_eq_true rfl) (fun _ F0i => ?_)
 have F0 : Fr 12 [(0, .pointer (some ⟨c_b, 0, none⟩))] _ := F0i
 clear F0i
 refine wp_seq (wp_region_lit (l_op (f_val F0 rfl rfl (r_assign rfl rfl) rfl fun _ F1 => ?_)))
 have F2 : Fr 12 [(2, .string (⟨#[]⟩ : ByteArray)), (0, .pointer (some ⟨c_b, 0, none⟩))] _ := F1.cut rfl
 clear F0 F1
 refine s_end (x_normal (wp_seq (wp_seq (wp_region_lit (l_op (f_mv F2 rfl rfl rfl rfl rfl fun _ F3 => ?_))))))
 refine l_op (f_call F3 CF_115 rfl rfl rfl rfl (lc (F3.ev 3 rfl) (lc rfl rfl)) (spec_l01Once_c (c := c) (n := 12) V_v_c_code (by unfold i64ok; (try dsimp only); omega) (by first | assumption | exact w64_ok _ | exact ⟨by omega, by omega⟩ | (unfold i64ok at *; omega)) (by first | assumption | exact ⟨by omega, by omega⟩ | (unfold i64ok at *; omega)) (by first | assumption | omega | (simp <;> omega)) (At.pick (is := [0]) hA rfl) (V_off (is := [0]))) ?_)
 rintro _ w4 ⟨i2_4, h2_4, r_4, rfl, m4, q4_0, q4_1⟩
 refine ⟨_, rfl, fun _ F5 => ?_⟩
 have S4 : Mv _ _ [bx c_b [.slice c_code_a c_code_n c_code_c, .int .i64 ((i2_4 : Nat) : Int), .int .i64 h2_4] 108] _ := At.frame hA [0] rfl m4
 clear m4
 have F6 : Fr 12 [(4, .bool r_4), (0, .pointer (some ⟨c_b, 0, none⟩))] _ := F5.cut rfl
 clear F2 F3 F5
 refine s_end (x_normal (x_condb (b := r_4) (F6.ev 4 rfl) (fun h7 => ?_) (fun h7 => ?_)))
 · skip
   refine wp_seq (wp_region_lit (l_op (f_mv F6 rfl rfl rfl rfl rfl fun _ F8 => ?_)))
   refine l_op (f_call F8 CF_137 rfl rfl rfl rfl (lc rfl (lc rfl rfl)) (spec_l01Long_c (H := fun _ => True) (n := 40) (x := 97) ⟨by omega, by first | omega | (unfold i64ok at *; omega)⟩ (by omega) (by first | assumption | omega | (simp <;> omega))) ?_)
   rintro _ w9 ⟨r_9, rfl, m9, ok_r0_9, q9_0⟩
   refine ⟨_, rfl, fun _ F10 => ?_⟩
   have S9 := At.frame0 S4.at' m9
   clear m9
   refine l_op (f_call F10 CF_137 rfl rfl rfl rfl (lc rfl (lc rfl rfl)) (spec_l01Long_c (H := fun _ => True) (n := 41) (x := 97) ⟨by omega, by first | omega | (unfold i64ok at *; omega)⟩ (by omega) (by first | assumption | omega | (simp <;> omega))) ?_)
   rintro _ w11 ⟨r_11, rfl, m11, ok_r0_11, q11_0⟩
   refine ⟨_, rfl, fun _ F12 => ?_⟩
   have S11 := At.frame0 S9.at' m11
   clear m11
   refine l_op (f_buildSl (ok := okS) (vs := [.string (⟨#[]⟩ : ByteArray), .string (⟨#[97, 32, 98]⟩ : ByteArray), .string (⟨#[110, 47, 42]⟩ : ByteArray), .string (⟨#[127]⟩ : ByteArray), .string r_9, .string r_11]) F12 S11.at' ([(⟨#[]⟩ : ByteArray), (⟨#[97, 32, 98]⟩ : ByteArray), (⟨#[110, 47, 42]⟩ : ByteArray), (⟨#[127]⟩ : ByteArray), r_9, r_11]) ET_22 rfl rfl rfl rfl rfl rfl (lc (pr2 rfl) (lc (pr2 rfl) (lc (pr2 rfl) (lc (pr2 rfl) (lc (pr2 (F12.ev 6 rfl)) (lc (pr2 (F12.ev 7 rfl)) rfl)))))) rfl rfl (fun x hx => by (repeat (first | (rcases List.mem_cons.1 hx with hx | hx; (subst hx; first | exact (by unfold okS; decide) | exact (by unfold okS; decide) | exact (by unfold okS; decide) | exact (by unfold okS; decide) | exact ok_r0_9 | exact ok_r0_11)) | exact (List.not_mem_nil hx).elim))) fun b13 _ w13 F14 S13 => ?_)
   refine l_op (f_call F14 CF_121 rfl rfl rfl rfl (lc (F14.ev 5 rfl) (lc (F14.ev 8 rfl) rfl)) (spec_l01Pick_c (H := fun b => ¬ fps (sel [ow 9 1 encS okS (.slice (some ⟨b13, 0, none⟩) 6 6) ([(⟨#[]⟩ : ByteArray), (⟨#[97, 32, 98]⟩ : ByteArray), (⟨#[110, 47, 42]⟩ : ByteArray), (⟨#[127]⟩ : ByteArray), r_9, r_11]), bx c_b [.slice c_code_a c_code_n c_code_c, .int .i64 ((i2_4 : Nat) : Int), .int .i64 h2_4] 108] [1]) b) (c := (⟨c.code, i2_4, h2_4⟩ : CurD)) (list := [(⟨#[]⟩ : ByteArray), (⟨#[97, 32, 98]⟩ : ByteArray), (⟨#[110, 47, 42]⟩ : ByteArray), (⟨#[127]⟩ : ByteArray), r_9, r_11]) (RdA.mono (RdA.mv (Nat.succ_pos _) V_v_c_code (S4.trans (S9.trans (S11.trans S13)))) (V_off (is := [1]))) (by unfold i64ok; (try dsimp only); omega) (by first | assumption | exact w64_ok _ | exact ⟨by omega, by omega⟩ | (unfold i64ok at *; omega)) (At.rdOff S13.at' ET_22.hk 0 rfl [1] rfl) (by first | assumption | omega | (simp <;> omega)) (by first | assumption | omega | (simp <;> omega)) (At.pick (is := [1]) S13.at' rfl) (fun _ h => h)) ?_)
   rintro _ w15 ⟨i2_15, h2_15, r_15, rfl, m15, ok_r0_15, q15_0, q15_1, q15_2⟩
   refine ⟨_, rfl, fun _ F16 => ?_⟩
   have S15 : Mv _ _ [bx c_b [.slice c_code_a c_code_n c_code_c, .int .i64 ((i2_15 : Nat) : Int), .int .i64 h2_15] 108, ow 9 1 encS okS (.slice (some ⟨b13, 0, none⟩) 6 6) ([(⟨#[]⟩ : ByteArray), (⟨#[97, 32, 98]⟩ : ByteArray), (⟨#[110, 47, 42]⟩ : ByteArray), (⟨#[127]⟩ : ByteArray), r_9, r_11])] _ := At.frame S13.at' [1] rfl m15
   clear m15
   refine l_op (f_as F16 rfl rfl rfl rfl rfl fun _ F17 => ?_)
   have F18 : Fr 12 [(2, .string r_15)] _ := F17.cut rfl
   clear F6 F8 F10 F12 F14 F16 F17
   refine s_end (x_normal (wp_ret (x_then_ret ?_)))
   refine x_done (v := .string r_15) F18 (results_1 Try.results102 (.tmp (F18.ev 2 rfl))) ?_
   exact ⟨i2_15, h2_15, r_15, rfl, (Mv.pick (S4.trans (S9.trans (S11.trans (S13.trans S15)))) [0] rfl), ok_r0_15, by first | assumption | exact w64_ok _ | omega | (unfold i64ok; omega), by first | assumption | exact w64_ok _ | omega | (unfold i64ok; omega)⟩
 · skip
   refine wp_skip (x_normal (wp_seq (wp_region_lit (l_op (f_mv F6 rfl rfl rfl rfl rfl fun _ F19 => ?_)))))
   refine l_op (f_call F19 CF_81 rfl rfl rfl rfl (lc (F19.ev 10 rfl) rfl) (spec_l02Key_c (c := (⟨c.code, i2_4, h2_4⟩ : CurD)) (RdA.mv (Nat.succ_pos _) V_v_c_code S4) (by unfold i64ok; (try dsimp only); omega) (by first | assumption | exact w64_ok _ | exact ⟨by omega, by omega⟩ | (unfold i64ok at *; omega)) (by first | assumption | omega | (simp <;> omega)) (At.pick (is := [0]) S4.at' rfl) (V_off (is := [0]))) ?_)
   rintro _ w20 ⟨i2_20, h2_20, r_20, rfl, m20, ok_r0_20, q20_0, q20_1, q20_2⟩
   refine ⟨_, rfl, fun _ F21 => ?_⟩
   have S20 : Mv _ _ [bx c_b [.slice c_code_a c_code_n c_code_c, .int .i64 ((i2_20 : Nat) : Int), .int .i64 h2_20] 108] _ := At.frame S4.at' [0] rfl m20
   clear m20
   refine l_op (f_as F21 rfl rfl rfl rfl rfl fun _ F22 => ?_)
   have F23 : Fr 12 [(2, .string r_20)] _ := F22.cut rfl
   clear F6 F19 F21 F22
   refine s_end (x_normal (wp_ret ?_))
   refine x_done (v := .string r_20) F23 (results_1 Try.results102 (.tmp (F23.ev 2 rfl))) ?_
   exact ⟨i2_20, h2_20, r_20, rfl, (Mv.pick (S4.trans S20) [0] rfl), ok_r0_20, by first | assumption | exact w64_ok _ | omega | (unfold i64ok; omega), by first | assumption | exact w64_ok _ | omega | (unfold i64ok; omega)⟩
end Go.Proofs.Ytbbkihijhdpliaa
