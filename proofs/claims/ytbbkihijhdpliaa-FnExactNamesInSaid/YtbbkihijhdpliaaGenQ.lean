/-
  Walks: a key is put into a store, by the program and by the reference.
-/
import Derived.Test.YtbbkihijhdpliaaGenP
namespace Go.Proofs.Ytbbkihijhdpliaa
open Go.ChangeShapes Go.WideShapes Go.ChangeAt Go.RowKit
set_option maxRecDepth 100000
set_option maxHeartbeats 1000000
theorem impl_put_c {w : World} {H : Nat → Prop} {s : List CellD} {s_a : Option Addr} {s_n s_c : Nat} {key : ByteArray} {val : ByteArray} (h_key : okS key) (h_val : okS val) (p0 : s.length ≤ 274877906944) (hA : At w [ow 98 2 encC okC (.slice s_a s_n s_c) s]) :
    Calls Try.prog 139 #[.slice s_a s_n s_c, .string key, .string val] w fun e w' => ∃ (r0_a : Option Addr), ∃ (r0_n : Nat), ∃ (r0_c : Nat), e = .returned (.slice r0_a r0_n r0_c) ∧ Mv [ow 98 2 encC okC (.slice s_a s_n s_c) s] w [ow 98 2 encC okC (.slice r0_a r0_n r0_c) (putKey s key val)] w' := by
 obtain ⟨lo0, lp0, lq0⟩ := At.ownInv hA ET_46.hk 0 rfl
 refine calls_enter 37 Try.func139 rfl Try.ntmps139 (Nat.le_of_ble_eq_true rfl) (fun _ F0i => ?_)
 have F0 : Fr 37 [(0, .slice s_a s_n s_c), (1, .string key), (2, .string val)] _ := F0i
 clear F0i
 refine wp_seq (wp_region_lit (l_op (f_box F0 hA rfl rfl rfl (F0.ev 1 rfl) rfl rfl fun b1 _ w1 F2 S1 => ?_)))
 refine l_op (f_val F2 rfl rfl (r_assign rfl rfl) rfl fun _ F3 => ?_)
 have F4 : Fr 37 [(6, .slice none 0 0), (4, .pointer (some ⟨b1, 0, none⟩)), (0, .slice s_a s_n s_c), (2, .string val)] _ := F3.cut rfl
 clear F0 F2 F3
 have T5 : Mv _ _ [bx b1 [.string key] 9, ow 98 2 encC okC (.slice s_a s_n s_c) s] _ := S1
 refine s_end (x_normal (wp_seq (wp_seq (wp_region_lit (l_op (f_val (v := .string key) F4 rfl rfl (r_loadB T5.at' 0 TI_9 rfl rfl (F4.ev 4 rfl) rfl rfl (fun _ => rfl) rfl) rfl fun _ F6 => ?_))))))
 refine l_op (f_call F6 CF_147 rfl rfl rfl rfl (lc (F6.ev 8 rfl) rfl) (impl_KeyOk_c (H := fun _ => True) (key := key) h_key) ?_)
 rintro _ w7 ⟨rfl, m7⟩
 refine ⟨_, rfl, fun _ F8 => ?_⟩
 have S7 := At.frame0 T5.at' m7
 clear m7
 refine l_op (f_val F8 rfl rfl (r_not rfl (F8.ev 9 rfl)) rfl fun _ F9 => ?_)
 refine l_op (f_mv F9 rfl rfl rfl rfl rfl fun _ F10 => ?_)
 rcases Bool.eq_false_or_eq_true (!(keyOk key)) with h11 | h11
 · rw [h11] at F10
   refine l_op (f_skip F10 (wanted_g F10 rfl rfl rfl rfl) rfl rfl fun _ F12 => ?_)
   refine l_op (f_skip F12 (wanted_g F12 rfl rfl rfl rfl) rfl rfl fun _ F13 => ?_)
   refine l_op (f_skip F13 (wanted_g F13 rfl rfl rfl rfl) rfl rfl fun _ F14 => ?_)
   refine l_op (f_val F14 rfl rfl (r_pick (b := true) rfl (F14.ev 11 rfl) rfl) rfl fun _ F15 => ?_)
   have F16 : Fr 37 [(15, .bool true), (4, .pointer (some ⟨b1, 0, none⟩)), (0, .slice s_a s_n s_c), (2, .string val)] _ := F15.cut rfl
   clear F4 F6 F8 F9 F10 F12 F13 F14 F15
   have T17 : Mv _ _ [bx b1 [.string key] 9, ow 98 2 encC okC (.slice s_a s_n s_c) s] _ := S7
   refine s_end (x_normal (wp_cond_true (F16.ev 15 rfl) (wp_seq (wp_region_lit (l_op (f_mv F16 rfl rfl rfl rfl rfl fun _ F18 => ?_))))))
   refine l_op (f_as F18 rfl rfl rfl rfl rfl fun _ F19 => ?_)
   have F20 : Fr 37 [(6, .slice s_a s_n s_c)] _ := F19.cut rfl
   clear F16 F18 F19
   refine s_end (x_normal (wp_ret (x_then_ret ?_)))
   refine x_done (v := .slice s_a s_n s_c) F20 (results_1 Try.results139 (.tmp (F20.ev 6 rfl))) ?_
   exact ⟨s_a, s_n, s_c, rfl, (Mv.cast (Mv.pick (T5.trans T17) [1] rfl) (by rw [← (show s = (putKey s key val) from by first | exact (putKey_no (.inl (nt (by assumption)))).symm | exact (putKey_no (.inr (by omega))).symm | exact (putKey_del (nf (by assumption)) (by assumption)).symm | (rw [putKey_ins (nf (by assumption)) (by omega) (by assumption)]; first | exact insK_at rfl (by omega) | exact insK_end (by omega) (by omega)))]; all_goals rfl))⟩
 · rw [h11] at F10
   refine l_op (f_mv F10 (wanted_g F10 rfl rfl rfl rfl) rfl rfl rfl rfl fun _ F21 => ?_)
   refine l_op (f_val F21 (wanted_g F21 rfl rfl rfl rfl) rfl (r_lenS (fun t ht => by cases ht; exact Try.underlying9) rfl rfl (F21.ev 12 rfl)) rfl fun _ F22 => ?_)
   refine l_op (f_val F22 (wanted_g F22 rfl rfl rfl rfl) rfl (r_cmp (b := decide (val.size > 60)) (.inr (.inr (.inr (.inr (.inl rfl))))) rfl (F22.ev 13 rfl) rfl (dec_of (by omega))) rfl fun _ F23 => ?_)
   refine l_op (f_val F23 rfl rfl (r_pick (b := false) rfl (F23.ev 11 rfl) (F23.ev 14 rfl)) rfl fun _ F24 => ?_)
   have F25 : Fr 37 [(15, .bool (decide (val.size > 60))), (4, .pointer (some ⟨b1, 0, none⟩)), (0, .slice s_a s_n s_c), (2, .string val)] _ := F24.cut rfl
   clear F4 F6 F8 F9 F10 F21 F22 F23 F24
   have T26 : Mv _ _ [bx b1 [.string key] 9, ow 98 2 encC okC (.slice s_a s_n s_c) s] _ := S7
   refine s_end (x_normal (x_cond (p := val.size > 60) (F25.ev 15 rfl) (fun h27 => ?_) (fun h27 => ?_)))
   · skip
     refine wp_seq (wp_region_lit (l_op (f_mv F25 rfl rfl rfl rfl rfl fun _ F28 => ?_)))
     refine l_op (f_as F28 rfl rfl rfl rfl rfl fun _ F29 => ?_)
     have F30 : Fr 37 [(6, .slice s_a s_n s_c)] _ := F29.cut rfl
     clear F25 F28 F29
     refine s_end (x_normal (wp_ret (x_then_ret ?_)))
     refine x_done (v := .slice s_a s_n s_c) F30 (results_1 Try.results139 (.tmp (F30.ev 6 rfl))) ?_
     exact ⟨s_a, s_n, s_c, rfl, (Mv.cast (Mv.pick (T5.trans T26) [1] rfl) (by rw [← (show s = (putKey s key val) from by first | exact (putKey_no (.inl (nt (by assumption)))).symm | exact (putKey_no (.inr (by omega))).symm | exact (putKey_del (nf (by assumption)) (by assumption)).symm | (rw [putKey_ins (nf (by assumption)) (by omega) (by assumption)]; first | exact insK_at rfl (by omega) | exact insK_end (by omega) (by omega)))]; all_goals rfl))⟩
   · skip
     refine wp_skip (x_normal (wp_seq (wp_region_lit (l_op (f_mv F25 rfl rfl rfl rfl rfl fun _ F31 => ?_)))))
     refine l_op (f_val F31 rfl rfl (r_makeFuncL rfl (lc (F31.ev 4 rfl) rfl)) rfl fun _ F32 => ?_)
     refine l_op (f_call F32 CF_148 rfl rfl rfl rfl (lc (F32.ev 17 rfl) (lc (F32.ev 18 rfl) rfl)) (DeleteFunc_c (H := fun _ => True) (s := s) (del := key) h_key (At.pick (is := [1, 0]) T26.at' rfl)) ?_)
     rintro _ w33 ⟨r0_a_33, r0_n_33, r0_c_33, rfl, m33⟩
     refine ⟨_, rfl, fun _ F34 => ?_⟩
     have S33 : Mv _ _ [ow 98 2 encC okC (.slice r0_a_33 r0_n_33 r0_c_33) (delKey s key), bx b1 [.string key] 9] _ := At.frame T26.at' [1, 0] rfl m33
     obtain ⟨lo33_0, lp33_0, lq33_0⟩ := At.ownInv S33.at' ET_46.hk 0 rfl
     clear m33
     refine l_op (f_as F34 rfl rfl rfl rfl rfl fun _ F35 => ?_)
     have F36 : Fr 37 [(0, .slice r0_a_33 r0_n_33 r0_c_33), (4, .pointer (some ⟨b1, 0, none⟩)), (2, .string val)] _ := F35.cut rfl
     clear F25 F31 F32 F34 F35
     refine s_end (x_normal (wp_seq (wp_seq (wp_region_lit (l_op (f_mv F36 rfl rfl rfl rfl rfl fun _ F37 => ?_))))))
     refine l_op (f_val F37 rfl rfl (r_cmps (b := (decide (val = (⟨#[]⟩ : ByteArray)))) (.inl rfl) rfl (F37.ev 20 rfl) rfl rfl) rfl fun _ F38 => ?_)
     have F39 : Fr 37 [(21, .bool (decide (val = (⟨#[]⟩ : ByteArray)))), (0, .slice r0_a_33 r0_n_33 r0_c_33), (4, .pointer (some ⟨b1, 0, none⟩)), (2, .string val)] _ := F38.cut rfl
     clear F36 F37 F38
     refine s_end (x_normal (x_cond (p := val = (⟨#[]⟩ : ByteArray)) (F39.ev 21 rfl) (fun h40 => ?_) (fun h40 => ?_)))
     · skip
       refine wp_seq (wp_region_lit (l_op (f_mv F39 rfl rfl rfl rfl rfl fun _ F41 => ?_)))
       refine l_op (f_as F41 rfl rfl rfl rfl rfl fun _ F42 => ?_)
       have F43 : Fr 37 [(6, .slice r0_a_33 r0_n_33 r0_c_33)] _ := F42.cut rfl
       clear F39 F41 F42
       refine s_end (x_normal (wp_ret (x_then_ret ?_)))
       refine x_done (v := .slice r0_a_33 r0_n_33 r0_c_33) F43 (results_1 Try.results139 (.tmp (F43.ev 6 rfl))) ?_
       exact ⟨r0_a_33, r0_n_33, r0_c_33, rfl, (Mv.cast (Mv.pick (T5.trans (T26.trans S33)) [0] rfl) (by rw [(show (delKey s key) = (putKey s key val) from by first | exact (putKey_no (.inl (nt (by assumption)))).symm | exact (putKey_no (.inr (by omega))).symm | exact (putKey_del (nf (by assumption)) (by assumption)).symm | (rw [putKey_ins (nf (by assumption)) (by omega) (by assumption)]; first | exact insK_at rfl (by omega) | exact insK_end (by omega) (by omega)))]; all_goals rfl))⟩
     · skip
       refine wp_skip (x_normal (wp_seq (wp_region_lit (l_op (f_mv F39 rfl rfl rfl rfl rfl fun _ F44 => ?_)))))
       refine l_op (f_val F44 rfl rfl (r_makeFuncL rfl (lc (F44.ev 4 rfl) rfl)) rfl fun _ F45 => ?_)
       refine l_op (f_call F45 CF_150 rfl rfl rfl rfl (lc (F45.ev 23 rfl) (lc (F45.ev 24 rfl) rfl)) (IndexFunc_impl_put_2_c (H := fun b => ¬ fps (sel [ow 98 2 encC okC (.slice r0_a_33 r0_n_33 r0_c_33) (delKey s key), bx b1 [.string key] 9] [1]) b) (s := delKey s key) (f := key) (At.rdOff S33.at' ET_46.hk 0 rfl [1] rfl) h_key (At.pick (is := [1]) S33.at' rfl) (fun _ h => h)) ?_)
       rintro _ w46 ⟨rfl, m46, q46_0⟩
       refine ⟨_, rfl, fun _ F47 => ?_⟩
       have S46 : Mv _ _ [bx b1 [.string key] 9, ow 98 2 encC okC (.slice r0_a_33 r0_n_33 r0_c_33) (delKey s key)] _ := At.frame S33.at' [1] rfl m46
       clear m46
       refine l_op (f_as F47 rfl rfl rfl rfl rfl fun _ F48 => ?_)
       have F49 : Fr 37 [(7, .int .i64 (idxP (fun c : CellD => !leS c.key key) (delKey s key))), (0, .slice r0_a_33 r0_n_33 r0_c_33), (4, .pointer (some ⟨b1, 0, none⟩)), (2, .string val)] _ := F48.cut rfl
       clear F39 F44 F45 F47 F48
       refine s_end (x_normal (wp_seq (wp_seq (wp_region_lit (l_op (f_mv F49 rfl rfl rfl rfl rfl fun _ F50 => ?_))))))
       refine l_op (f_val F50 rfl rfl (r_cmp (b := decide ((idxP (fun c : CellD => !leS c.key key) (delKey s key)) < 0)) (.inr (.inr (.inl rfl))) rfl (F50.ev 26 rfl) rfl (dec_of (by omega))) rfl fun _ F51 => ?_)
       have F52 : Fr 37 [(27, .bool (decide ((idxP (fun c : CellD => !leS c.key key) (delKey s key)) < 0))), (7, .int .i64 (idxP (fun c : CellD => !leS c.key key) (delKey s key))), (0, .slice r0_a_33 r0_n_33 r0_c_33), (4, .pointer (some ⟨b1, 0, none⟩)), (2, .string val)] _ := F51.cut rfl
       clear F49 F50 F51
       refine s_end (x_normal (x_cond (p := (idxP (fun c : CellD => !leS c.key key) (delKey s key)) < 0) (F52.ev 27 rfl) (fun h53 => ?_) (fun h53 => ?_)))
       · skip
         refine wp_region_lit (l_op (f_mv F52 rfl rfl rfl rfl rfl fun _ F54 => ?_))
         refine l_op (f_val F54 rfl rfl (r_len Try.underlying46 rfl (F54.ev 28 rfl)) rfl fun _ F55 => ?_)
         refine l_op (f_as F55 rfl rfl rfl rfl rfl fun _ F56 => ?_)
         have F57 : Fr 37 [(7, .int .i64 ((r0_n_33 : Nat) : Int)), (0, .slice r0_a_33 r0_n_33 r0_c_33), (4, .pointer (some ⟨b1, 0, none⟩)), (2, .string val)] _ := F56.cut rfl
         clear F52 F54 F55 F56
         refine s_end (x_normal (wp_seq (wp_region_lit (l_op (f_mv F57 rfl rfl rfl rfl rfl fun _ F58 => ?_)))))
         refine l_op (f_mv F58 rfl rfl rfl rfl rfl fun _ F59 => ?_)
         refine l_op (f_val (v := .string key) F59 rfl rfl (r_loadB S46.at' 0 TI_9 rfl rfl (F59.ev 4 rfl) rfl rfl (fun _ => rfl) rfl) rfl fun _ F60 => ?_)
         refine l_op (f_mv F60 rfl rfl rfl rfl rfl fun _ F61 => ?_)
         refine l_op (f_val (v := .agg #[.string key, .string val]) F61 rfl rfl (r_build BI_98 rfl (lc (pr2 (F61.ev 32 rfl)) (lc (pr2 (F61.ev 33 rfl)) rfl)) rfl) rfl fun _ F62 => ?_)
         refine l_op (f_buildSl (ok := okC) (vs := [.agg #[.string key, .string val]]) F62 S46.at' ([(⟨key, val⟩ : CellD)]) ET_46 rfl rfl rfl rfl rfl rfl (lc (pr2 (F62.ev 34 rfl)) rfl) rfl rfl (fun x hx => (List.mem_singleton.1 hx) ▸ ⟨h_key, h_val⟩) fun b63 _ w63 F64 S63 => ?_)
         refine l_op (f_call F64 CF_152 rfl rfl rfl rfl (lc (F64.ev 30 rfl) (lc (F64.ev 31 rfl) (lc (F64.ev 35 rfl) rfl))) (slices_Insert_Simpl_Cell_impl_Cell_c (H := fun _ => True) (s := delKey s key) (i := ((r0_n_33 : Nat) : Int)) (v := (⟨key, val⟩ : CellD)) (by first | assumption | exact ⟨by omega, by omega⟩ | (unfold i64ok at *; omega)) (by have := idxP_bd (fun c : CellD => !leS c.key key) (delKey s key); have := delKey_length s key; omega) (by have := idxP_bd (fun c : CellD => !leS c.key key) (delKey s key); have := delKey_length s key; omega) (by have := idxP_bd (fun c : CellD => !leS c.key key) (delKey s key); have := delKey_length s key; omega) (At.pick (is := [2, 0]) S63.at' rfl)) ?_)
         rintro _ w65 ⟨r0_a_65, r0_n_65, r0_c_65, rfl, m65⟩
         refine ⟨_, rfl, fun _ F66 => ?_⟩
         have S65 : Mv _ _ [ow 98 2 encC okC (.slice r0_a_65 r0_n_65 r0_c_65) (insAt (delKey s key) ((r0_n_33 : Nat) : Int).toNat (⟨key, val⟩ : CellD)), bx b1 [.string key] 9] _ := At.frame S63.at' [2, 0] rfl m65
         obtain ⟨lo65_0, lp65_0, lq65_0⟩ := At.ownInv S65.at' ET_46.hk 0 rfl
         clear m65
         refine l_op (f_as F66 rfl rfl rfl rfl rfl fun _ F67 => ?_)
         have F68 : Fr 37 [(6, .slice r0_a_65 r0_n_65 r0_c_65)] _ := F67.cut rfl
         clear F57 F58 F59 F60 F61 F62 F64 F66 F67
         refine s_end (x_normal (wp_ret ?_))
         refine x_done (v := .slice r0_a_65 r0_n_65 r0_c_65) F68 (results_1 Try.results139 (.tmp (F68.ev 6 rfl))) ?_
         exact ⟨r0_a_65, r0_n_65, r0_c_65, rfl, (Mv.cast (Mv.pick (T5.trans (T26.trans (S33.trans (S46.trans (S63.trans S65))))) [0] rfl) (by rw [(show (insAt (delKey s key) ((r0_n_33 : Nat) : Int).toNat (⟨key, val⟩ : CellD)) = (putKey s key val) from by first | exact (putKey_no (.inl (nt (by assumption)))).symm | exact (putKey_no (.inr (by omega))).symm | exact (putKey_del (nf (by assumption)) (by assumption)).symm | (rw [putKey_ins (nf (by assumption)) (by omega) (by assumption)]; first | exact insK_at rfl (by omega) | exact insK_end (by omega) (by omega)))]; all_goals rfl))⟩
       · skip
         refine wp_skip (x_normal (wp_seq (wp_region_lit (l_op (f_mv F52 rfl rfl rfl rfl rfl fun _ F69 => ?_)))))
         refine l_op (f_mv F69 rfl rfl rfl rfl rfl fun _ F70 => ?_)
         refine l_op (f_val (v := .string key) F70 rfl rfl (r_loadB S46.at' 0 TI_9 rfl rfl (F70.ev 4 rfl) rfl rfl (fun _ => rfl) rfl) rfl fun _ F71 => ?_)
         refine l_op (f_mv F71 rfl rfl rfl rfl rfl fun _ F72 => ?_)
         refine l_op (f_val (v := .agg #[.string key, .string val]) F72 rfl rfl (r_build BI_98 rfl (lc (pr2 (F72.ev 32 rfl)) (lc (pr2 (F72.ev 33 rfl)) rfl)) rfl) rfl fun _ F73 => ?_)
         refine l_op (f_buildSl (ok := okC) (vs := [.agg #[.string key, .string val]]) F73 S46.at' ([(⟨key, val⟩ : CellD)]) ET_46 rfl rfl rfl rfl rfl rfl (lc (pr2 (F73.ev 34 rfl)) rfl) rfl rfl (fun x hx => (List.mem_singleton.1 hx) ▸ ⟨h_key, h_val⟩) fun b74 _ w74 F75 S74 => ?_)
         refine l_op (f_call F75 CF_152 rfl rfl rfl rfl (lc (F75.ev 30 rfl) (lc (F75.ev 31 rfl) (lc (F75.ev 35 rfl) rfl))) (slices_Insert_Simpl_Cell_impl_Cell_c (H := fun _ => True) (s := delKey s key) (i := (idxP (fun c : CellD => !leS c.key key) (delKey s key))) (v := (⟨key, val⟩ : CellD)) (by first | assumption | exact ⟨by omega, by omega⟩ | (unfold i64ok at *; omega)) (by have := idxP_bd (fun c : CellD => !leS c.key key) (delKey s key); have := delKey_length s key; omega) (by have := idxP_bd (fun c : CellD => !leS c.key key) (delKey s key); have := delKey_length s key; omega) (by have := idxP_bd (fun c : CellD => !leS c.key key) (delKey s key); have := delKey_length s key; omega) (At.pick (is := [2, 0]) S74.at' rfl)) ?_)
         rintro _ w76 ⟨r0_a_76, r0_n_76, r0_c_76, rfl, m76⟩
         refine ⟨_, rfl, fun _ F77 => ?_⟩
         have S76 : Mv _ _ [ow 98 2 encC okC (.slice r0_a_76 r0_n_76 r0_c_76) (insAt (delKey s key) (idxP (fun c : CellD => !leS c.key key) (delKey s key)).toNat (⟨key, val⟩ : CellD)), bx b1 [.string key] 9] _ := At.frame S74.at' [2, 0] rfl m76
         obtain ⟨lo76_0, lp76_0, lq76_0⟩ := At.ownInv S76.at' ET_46.hk 0 rfl
         clear m76
         refine l_op (f_as F77 rfl rfl rfl rfl rfl fun _ F78 => ?_)
         have F79 : Fr 37 [(6, .slice r0_a_76 r0_n_76 r0_c_76)] _ := F78.cut rfl
         clear F52 F69 F70 F71 F72 F73 F75 F77 F78
         refine s_end (x_normal (wp_ret ?_))
         refine x_done (v := .slice r0_a_76 r0_n_76 r0_c_76) F79 (results_1 Try.results139 (.tmp (F79.ev 6 rfl))) ?_
         exact ⟨r0_a_76, r0_n_76, r0_c_76, rfl, (Mv.cast (Mv.pick (T5.trans (T26.trans (S33.trans (S46.trans (S74.trans S76))))) [0] rfl) (by rw [(show (insAt (delKey s key) (idxP (fun c : CellD => !leS c.key key) (delKey s key)).toNat (⟨key, val⟩ : CellD)) = (putKey s key val) from by first | exact (putKey_no (.inl (nt (by assumption)))).symm | exact (putKey_no (.inr (by omega))).symm | exact (putKey_del (nf (by assumption)) (by assumption)).symm | (rw [putKey_ins (nf (by assumption)) (by omega) (by assumption)]; first | exact insK_at rfl (by omega) | exact insK_end (by omega) (by omega)))]; all_goals rfl))⟩
theorem spec_PutKey_c {w : World} {H : Nat → Prop} {s : List CellD} {s_a : Option Addr} {s_n s_c : Nat} {key : ByteArray} {val : ByteArray} (v_s : Rd 2 encC okC H w (.slice s_a s_n s_c) s) (h_key : okS key) (h_val : okS val) (p0 : s_n ≤ 274877906944) :
    Calls Try.prog 140 #[.slice s_a s_n s_c, .string key, .string val] w fun e w' => ∃ (r0_a : Option Addr), ∃ (r0_n : Nat), ∃ (r0_c : Nat), e = .returned (.slice r0_a r0_n r0_c) ∧ Mv [] w [] w' ∧ Rd 2 encC okC (Fsh H w) w' (.slice r0_a r0_n r0_c) (putKey s key val) := by
 have V_v_s : Rd 2 encC okC (V H w []) w (.slice s_a s_n s_c) s := Rd.start v_s (fun _ _ => fps_nil _)
 obtain ⟨ln_s, le_s, mx_s, ni_s⟩ := Rd.inv v_s
 refine calls_enter 70 Try.func140 rfl Try.ntmps140 (Nat.le_of_ble_eq_true rfl) (fun _ F0i => ?_)
 have F0 : Fr 70 [(0, .slice s_a s_n s_c), (1, .string key), (2, .string val)] _ := F0i
 clear F0i
 refine wp_seq (wp_region_lit (l_op (f_val F0 rfl rfl (r_assign rfl rfl) rfl fun _ F1 => ?_)))
 have F2 : Fr 70 [(6, .slice none 0 0), (0, .slice s_a s_n s_c), (1, .string key), (2, .string val)] _ := F1.cut rfl
 clear F0 F1
 refine s_end (x_normal (wp_seq (wp_region_lit (l_op (f_buildSl (ok := okC) (vs := []) F2 (At.nil w) (([] : List CellD)) ET_46 rfl rfl rfl rfl rfl rfl rfl rfl rfl (by simp) fun b3 _ w3 F4 S3 => ?_)))))
 refine l_op (f_as F4 rfl rfl rfl rfl rfl fun _ F5 => ?_)
 have F6 : Fr 70 [(7, .slice (some ⟨b3, 0, none⟩) 0 0), (0, .slice s_a s_n s_c), (1, .string key), (2, .string val)] _ := F5.cut rfl
 clear F2 F4 F5
 have T7 : Mv _ _ [ow 98 2 encC okC (.slice (some ⟨b3, 0, none⟩) 0 0) ([] : List CellD)] _ := S3
 refine s_end (x_normal (wp_seq (wp_seq (wp_region_lit (l_op (f_mv F6 rfl rfl rfl rfl rfl fun _ F8 => ?_))))))
 refine l_op (f_call F8 CF_116 rfl rfl rfl rfl (lc (F8.ev 11 rfl) rfl) (spec_KeyOk_c (H := fun _ => True) (key := key) h_key) ?_)
 rintro _ w9 ⟨rfl, m9⟩
 refine ⟨_, rfl, fun _ F10 => ?_⟩
 have S9 := At.frame0 T7.at' m9
 clear m9
 refine l_op (f_val F10 rfl rfl (r_not rfl (F10.ev 12 rfl)) rfl fun _ F11 => ?_)
 refine l_op (f_mv F11 rfl rfl rfl rfl rfl fun _ F12 => ?_)
 rcases Bool.eq_false_or_eq_true (!(keyOk key)) with h13 | h13
 · rw [h13] at F12
   refine l_op (f_skip F12 (wanted_g F12 rfl rfl rfl rfl) rfl rfl fun _ F14 => ?_)
   refine l_op (f_skip F14 (wanted_g F14 rfl rfl rfl rfl) rfl rfl fun _ F15 => ?_)
   refine l_op (f_skip F15 (wanted_g F15 rfl rfl rfl rfl) rfl rfl fun _ F16 => ?_)
   refine l_op (f_val F16 rfl rfl (r_pick (b := true) rfl (F16.ev 14 rfl) rfl) rfl fun _ F17 => ?_)
   have F18 : Fr 70 [(18, .bool true), (7, .slice (some ⟨b3, 0, none⟩) 0 0), (0, .slice s_a s_n s_c), (1, .string key), (2, .string val)] _ := F17.cut rfl
   clear F6 F8 F10 F11 F12 F14 F15 F16 F17
   have T19 : Mv _ _ [ow 98 2 encC okC (.slice (some ⟨b3, 0, none⟩) 0 0) ([] : List CellD)] _ := S9
   refine s_end (x_normal (wp_cond_true (F18.ev 18 rfl) (wp_seq (wp_region_lit (l_op (f_mv F18 rfl rfl rfl rfl rfl fun _ F20 => ?_))))))
   refine l_op (f_mv F20 rfl rfl rfl rfl rfl fun _ F21 => ?_)
   refine l_op (f_app (news := s) F21 T19.at' 0 ET_46 rfl rfl rfl rfl rfl rfl (F21.ev 19 rfl) (F21.ev 20 rfl) ((Rd.mv (Nat.succ_pos _) V_v_s (T7.trans T19))).1 (by simp only [List.length_append, List.length_cons, List.length_nil]; omega) fun A22 N22 C22 _ w22 F23 S22 l22 => ?_)
   refine l_op (f_as F23 rfl rfl rfl rfl rfl fun _ F24 => ?_)
   have F25 : Fr 70 [(6, .slice A22 N22 C22)] _ := F24.cut rfl
   clear F18 F20 F21 F23 F24
   have T26 : Mv _ _ [ow 98 2 encC okC (.slice A22 N22 C22) (([] : List CellD) ++ s)] _ := S22
   refine s_end (x_normal (wp_ret (x_then_ret ?_)))
   have Z27 : Rd 2 encC okC (V H w []) w22 (.slice A22 N22 C22) (([] : List CellD) ++ s) := At.freeze (T7.trans (T19.trans T26)) ET_46.hk 0 rfl (fun b hb => ((T7.trans (T19.trans T26)).fresh b ⟨_, nth_mem (i := 0) rfl, hb⟩).resolve_left (fps_nil _))
   have S27 := At.drop T26.at' 0
   refine x_done (v := .slice A22 N22 C22) F25 (results_1 Try.results140 (.tmp (F25.ev 6 rfl))) ?_
   exact ⟨A22, N22, C22, rfl, (Mv.pick (T7.trans (T19.trans (T26.trans S27))) [] rfl), (Rd.cast (Rd.give Z27) (show (([] : List CellD) ++ s) = (putKey s key val) from by first | exact (List.nil_append _).trans (putKey_no (.inl (nt (by assumption)))).symm | exact (List.nil_append _).trans (putKey_no (.inr (by omega))).symm | (rw [← putF_end hk_1 (by omega) (nf (by assumption)) (by omega)]; first | rw [if_pos (nt (by assumption))] | rw [if_neg (ne_false_of_eq_true (nf (by assumption))), List.append_nil])))⟩
 · rw [h13] at F12
   refine l_op (f_mv F12 (wanted_g F12 rfl rfl rfl rfl) rfl rfl rfl rfl fun _ F28 => ?_)
   refine l_op (f_val F28 (wanted_g F28 rfl rfl rfl rfl) rfl (r_lenS (fun t ht => by cases ht; exact Try.underlying9) rfl rfl (F28.ev 15 rfl)) rfl fun _ F29 => ?_)
   refine l_op (f_val F29 (wanted_g F29 rfl rfl rfl rfl) rfl (r_cmp (b := decide (val.size > 60)) (.inr (.inr (.inr (.inr (.inl rfl))))) rfl (F29.ev 16 rfl) rfl (dec_of (by omega))) rfl fun _ F30 => ?_)
   refine l_op (f_val F30 rfl rfl (r_pick (b := false) rfl (F30.ev 14 rfl) (F30.ev 17 rfl)) rfl fun _ F31 => ?_)
   have F32 : Fr 70 [(18, .bool (decide (val.size > 60))), (7, .slice (some ⟨b3, 0, none⟩) 0 0), (0, .slice s_a s_n s_c), (1, .string key), (2, .string val)] _ := F31.cut rfl
   clear F6 F8 F10 F11 F12 F28 F29 F30 F31
   have T33 : Mv _ _ [ow 98 2 encC okC (.slice (some ⟨b3, 0, none⟩) 0 0) ([] : List CellD)] _ := S9
   refine s_end (x_normal (x_cond (p := val.size > 60) (F32.ev 18 rfl) (fun h34 => ?_) (fun h34 => ?_)))
   · skip
     refine wp_seq (wp_region_lit (l_op (f_mv F32 rfl rfl rfl rfl rfl fun _ F35 => ?_)))
     refine l_op (f_mv F35 rfl rfl rfl rfl rfl fun _ F36 => ?_)
     refine l_op (f_app (news := s) F36 T33.at' 0 ET_46 rfl rfl rfl rfl rfl rfl (F36.ev 19 rfl) (F36.ev 20 rfl) ((Rd.mv (Nat.succ_pos _) V_v_s (T7.trans T33))).1 (by simp only [List.length_append, List.length_cons, List.length_nil]; omega) fun A37 N37 C37 _ w37 F38 S37 l37 => ?_)
     refine l_op (f_as F38 rfl rfl rfl rfl rfl fun _ F39 => ?_)
     have F40 : Fr 70 [(6, .slice A37 N37 C37)] _ := F39.cut rfl
     clear F32 F35 F36 F38 F39
     have T41 : Mv _ _ [ow 98 2 encC okC (.slice A37 N37 C37) (([] : List CellD) ++ s)] _ := S37
     refine s_end (x_normal (wp_ret (x_then_ret ?_)))
     have Z42 : Rd 2 encC okC (V H w []) w37 (.slice A37 N37 C37) (([] : List CellD) ++ s) := At.freeze (T7.trans (T33.trans T41)) ET_46.hk 0 rfl (fun b hb => ((T7.trans (T33.trans T41)).fresh b ⟨_, nth_mem (i := 0) rfl, hb⟩).resolve_left (fps_nil _))
     have S42 := At.drop T41.at' 0
     refine x_done (v := .slice A37 N37 C37) F40 (results_1 Try.results140 (.tmp (F40.ev 6 rfl))) ?_
     exact ⟨A37, N37, C37, rfl, (Mv.pick (T7.trans (T33.trans (T41.trans S42))) [] rfl), (Rd.cast (Rd.give Z42) (show (([] : List CellD) ++ s) = (putKey s key val) from by first | exact (List.nil_append _).trans (putKey_no (.inl (nt (by assumption)))).symm | exact (List.nil_append _).trans (putKey_no (.inr (by omega))).symm | (rw [← putF_end hk_1 (by omega) (nf (by assumption)) (by omega)]; first | rw [if_pos (nt (by assumption))] | rw [if_neg (ne_false_of_eq_true (nf (by assumption))), List.append_nil])))⟩
   · skip
     refine wp_skip (x_normal (wp_seq (wp_region_lit (l_op (f_mv F32 rfl rfl rfl rfl rfl fun _ F43 => ?_)))))
     refine l_op (f_val F43 rfl rfl (r_cmps (b := (decide (val = (⟨#[]⟩ : ByteArray)))) (.inl rfl) rfl (F43.ev 22 rfl) rfl rfl) rfl fun _ F44 => ?_)
     refine l_op (f_as F44 rfl rfl rfl rfl rfl fun _ F45 => ?_)
     have F46 : Fr 70 [(8, .bool (decide (val = (⟨#[]⟩ : ByteArray)))), (7, .slice (some ⟨b3, 0, none⟩) 0 0), (0, .slice s_a s_n s_c), (1, .string key), (2, .string val)] _ := F45.cut rfl
     clear F32 F43 F44 F45
     refine s_end (x_normal (wp_seq (wp_seq (wp_region_lit (l_op (f_val F46 rfl rfl (r_assign rfl rfl) rfl fun _ F47 => ?_))))))
     have F48 : Fr 70 [(9, .int .i64 0), (8, .bool (decide (val = (⟨#[]⟩ : ByteArray)))), (7, .slice (some ⟨b3, 0, none⟩) 0 0), (0, .slice s_a s_n s_c), (1, .string key), (2, .string val)] _ := F47.cut rfl
     clear F46 F47
     refine s_end (x_normal (wp_block ?_))
     refine x_loop (fun (k : Nat) aZ wZ => ∃ (O : List CellD), ∃ (dd : Bool), ∃ (oa : Option Addr), ∃ (on : Nat), ∃ (oc : Nat), Fr 70 [(9, .int .i64 ((k : Nat) : Int)), (8, .bool dd), (7, .slice oa on oc), (0, .slice s_a s_n s_c), (1, .string key), (2, .string val)] aZ ∧ Mv [ow 98 2 encC okC (.slice (some ⟨b3, 0, none⟩) 0 0) ([] : List CellD)] w9 [ow 98 2 encC okC (.slice oa on oc) O] wZ ∧ (k ≤ s_n) ∧ (putF (s.take k) key val ([], decide (val = ⟨#[]⟩)) = (O, dd)) ∧ (O.length ≤ 2 * k)) (fun (k : Nat) => s_n - k) (0) ?_ ?_
     · exact ⟨([] : List CellD), (decide (val = (⟨#[]⟩ : ByteArray))), (some ⟨b3, 0, none⟩), 0, 0, F48.cut rfl, (Mv.refl T33.at'), by omega, rfl, by simp⟩
     · rintro k a49 w49 ⟨O, dd, oa, on, oc, F49, S49, hk_0, hk_1, hk_2⟩
       refine wp_seq (wp_seq (wp_region_lit (l_op (f_mv F49 rfl rfl rfl rfl rfl fun _ F50 => ?_))))
       refine l_op (f_mv F50 rfl rfl rfl rfl rfl fun _ F51 => ?_)
       refine l_op (f_val F51 rfl rfl (r_len Try.underlying46 rfl (F51.ev 25 rfl)) rfl fun _ F52 => ?_)
       refine l_op (f_val F52 rfl rfl (r_cmp (b := decide (k < s_n)) (.inr (.inr (.inl rfl))) rfl (F52.ev 24 rfl) (F52.ev 26 rfl) (dec_of (by omega))) rfl fun _ F53 => ?_)
       have F54 : Fr 70 [(27, .bool (decide (k < s_n))), (9, .int .i64 ((k : Nat) : Int)), (8, .bool dd), (7, .slice oa on oc), (0, .slice s_a s_n s_c), (1, .string key), (2, .string val)] _ := F53.cut rfl
       clear F49 F50 F51 F52 F53
       refine s_end (x_normal (x_cond (p := k < s_n) (F54.ev 27 rfl) (fun h55 => ?_) (fun h55 => ?_)))
       · skip
         refine wp_skip (x_normal (wp_seq (wp_block (wp_seq (wp_seq (wp_region_lit (l_op (f_mv F54 rfl rfl rfl rfl rfl fun _ F56 => ?_))))))))
         refine l_op (f_val F56 rfl rfl (r_not rfl (F56.ev 30 rfl)) rfl fun _ F57 => ?_)
         refine l_op (f_mv F57 rfl rfl rfl rfl rfl fun _ F58 => ?_)
         rcases Bool.eq_false_or_eq_true (!dd) with h59 | h59
         · rw [h59] at F58
           refine l_op (f_mv F58 (wanted_g F58 rfl rfl rfl rfl) rfl rfl rfl rfl fun _ F60 => ?_)
           refine l_op (f_mv F60 (wanted_g F60 rfl rfl rfl rfl) rfl rfl rfl rfl fun _ F61 => ?_)
           obtain ⟨B62, O62, x1, ad62, hx1, okx1, ln62, cl62⟩ := Rd.at (Rd.mv (Nat.succ_pos _) V_v_s (T7.trans (T33.trans S49))) k (by first | assumption | omega)
           clear ln62
           refine l_op (f_val F61 (wanted_g F61 rfl rfl rfl rfl) rfl (r_indexAddr (i := k) ET_46 rfl ((F61.ev 33 rfl).trans (by rw [ad62])) (F61.ev 34 rfl) (by omega) (by first | assumption | omega)) rfl fun _ F63 => ?_)
           refine l_op (f_val F63 (wanted_g F63 rfl rfl rfl rfl) rfl (r_field FI_98_0 rfl (F63.ev 35 rfl) rfl) rfl fun _ F64 => ?_)
           refine l_op (f_val (v := .string x1.key) F64 (wanted_g F64 rfl rfl rfl rfl) rfl (r_load (cs := [.string x1.key]) TI_9 rfl (F64.ev 36 rfl) rfl (fun _ => rfl) (elem_sub (f := 0) cl62 [.string x1.key] rfl)) rfl fun _ F65 => ?_)
           refine l_op (f_mv F65 (wanted_g F65 rfl rfl rfl rfl) rfl rfl rfl rfl fun _ F66 => ?_)
           refine l_op (f_val F66 (wanted_g F66 rfl rfl rfl rfl) rfl (r_cmps (b := (!leS x1.key key)) (.inr (.inr (.inr (.inr (.inl rfl))))) rfl (F66.ev 37 rfl) (F66.ev 38 rfl) rfl) rfl fun _ F67 => ?_)
           refine l_op (f_val F67 rfl rfl (r_pick (b := true) rfl (F67.ev 32 rfl) (F67.ev 39 rfl)) rfl fun _ F68 => ?_)
           have F69 : Fr 70 [(40, .bool (!leS x1.key key)), (39, .bool (!leS x1.key key)), (38, .string key), (37, .string x1.key), (36, .pointer (some ⟨B62, O62 + k * 2, none⟩)), (35, .pointer (some ⟨B62, O62 + k * 2, none⟩)), (34, .int .i64 ((k : Nat) : Int)), (33, .slice s_a s_n s_c), (9, .int .i64 ((k : Nat) : Int)), (8, .bool dd), (7, .slice oa on oc), (0, .slice s_a s_n s_c), (1, .string key), (2, .string val)] _ := F68.cut rfl
           clear F54 F56 F57 F58 F60 F61 F63 F64 F65 F66 F67 F68
           refine s_end (x_normal (x_condb (b := (!leS x1.key key)) (F69.ev 40 rfl) (fun h70 => ?_) (fun h70 => ?_)))
           · skip
             refine wp_seq (wp_region_lit (l_op (f_mv F69 rfl rfl rfl rfl rfl fun _ F71 => ?_)))
             refine l_op (f_mv F71 rfl rfl rfl rfl rfl fun _ F72 => ?_)
             refine l_op (f_mv F72 rfl rfl rfl rfl rfl fun _ F73 => ?_)
             refine l_op (f_val (v := .agg #[.string key, .string val]) F73 rfl rfl (r_build BI_98 rfl (lc (pr2 (F73.ev 42 rfl)) (lc (pr2 (F73.ev 43 rfl)) rfl)) rfl) rfl fun _ F74 => ?_)
             refine l_op (f_buildSl (ok := okC) (vs := [.agg #[.string key, .string val]]) F74 S49.at' ([(⟨key, val⟩ : CellD)]) ET_46 rfl rfl rfl rfl rfl rfl (lc (pr2 (F74.ev 44 rfl)) rfl) rfl rfl (fun x hx => (List.mem_singleton.1 hx) ▸ ⟨h_key, h_val⟩) fun b75 _ w75 F76 S75 => ?_)
             refine l_op (f_app (news := [(⟨key, val⟩ : CellD)]) F76 S75.at' 1 ET_46 rfl rfl rfl rfl rfl rfl (F76.ev 41 rfl) (F76.ev 45 rfl) ((At.rd S75.at' ET_46.hk 0 rfl)).1 (by simp only [List.length_append, List.length_cons, List.length_nil]; omega) fun A77 N77 C77 _ w77 F78 S77 l77 => ?_)
             have S79 := At.drop S77.at' 1
             refine l_op (f_as F78 rfl rfl rfl rfl rfl fun _ F80 => ?_)
             have F81 : Fr 70 [(7, .slice A77 N77 C77), (39, .bool (!leS x1.key key)), (38, .string key), (37, .string x1.key), (36, .pointer (some ⟨B62, O62 + k * 2, none⟩)), (35, .pointer (some ⟨B62, O62 + k * 2, none⟩)), (34, .int .i64 ((k : Nat) : Int)), (33, .slice s_a s_n s_c), (9, .int .i64 ((k : Nat) : Int)), (0, .slice s_a s_n s_c), (1, .string key), (2, .string val)] _ := F80.cut rfl
             clear F69 F71 F72 F73 F74 F76 F78 F80
             have T82 : Mv _ _ [ow 98 2 encC okC (.slice A77 N77 C77) (O ++ ([(⟨key, val⟩ : CellD)]))] _ := S79
             refine s_end (x_normal (wp_region_lit (l_op (f_val F81 rfl rfl (r_assign rfl rfl) rfl fun _ F83 => ?_))))
             have F84 : Fr 70 [(8, .bool true), (7, .slice A77 N77 C77), (39, .bool (!leS x1.key key)), (38, .string key), (37, .string x1.key), (36, .pointer (some ⟨B62, O62 + k * 2, none⟩)), (35, .pointer (some ⟨B62, O62 + k * 2, none⟩)), (34, .int .i64 ((k : Nat) : Int)), (33, .slice s_a s_n s_c), (9, .int .i64 ((k : Nat) : Int)), (0, .slice s_a s_n s_c), (1, .string key), (2, .string val)] _ := F83.cut rfl
             clear F81 F83
             refine s_end (x_normal (wp_seq (wp_region_lit (l_op (f_mv F84 rfl rfl rfl rfl rfl fun _ F85 => ?_)))))
             refine l_op (f_mv F85 rfl rfl rfl rfl rfl fun _ F86 => ?_)
             obtain ⟨B87, O87, y87, ad87, hy87, oky87, ln87, cl87⟩ := Rd.at (Rd.mv (Nat.succ_pos _) V_v_s (T7.trans (T33.trans (S49.trans (S75.trans (S77.trans T82)))))) k (by first | assumption | omega)
             clear ln87
             obtain rfl := Option.some.inj (hx1.symm.trans hy87)
             clear hy87 oky87
             refine l_op (f_val F86 rfl rfl (r_indexAddr (i := k) ET_46 rfl ((F86.ev 47 rfl).trans (by rw [ad87])) (F86.ev 48 rfl) (by omega) (by first | assumption | omega)) rfl fun _ F88 => ?_)
             refine l_op (f_val F88 rfl rfl (r_field FI_98_0 rfl (F88.ev 49 rfl) rfl) rfl fun _ F89 => ?_)
             refine l_op (f_val (v := .string x1.key) F89 rfl rfl (r_load (cs := [.string x1.key]) TI_9 rfl (F89.ev 50 rfl) rfl (fun _ => rfl) (elem_sub (f := 0) cl87 [.string x1.key] rfl)) rfl fun _ F90 => ?_)
             refine l_op (f_mv F90 rfl rfl rfl rfl rfl fun _ F91 => ?_)
             refine l_op (f_val F91 rfl rfl (r_cmps (b := (decide (x1.key ≠ key))) (.inr (.inl rfl)) rfl (F91.ev 51 rfl) (F91.ev 52 rfl) rfl) rfl fun _ F92 => ?_)
             have F93 : Fr 70 [(53, .bool (decide (x1.key ≠ key))), (8, .bool true), (7, .slice A77 N77 C77), (39, .bool (!leS x1.key key)), (38, .string key), (37, .string x1.key), (36, .pointer (some ⟨B62, O62 + k * 2, none⟩)), (35, .pointer (some ⟨B62, O62 + k * 2, none⟩)), (34, .int .i64 ((k : Nat) : Int)), (33, .slice s_a s_n s_c), (9, .int .i64 ((k : Nat) : Int)), (0, .slice s_a s_n s_c), (1, .string key), (2, .string val)] _ := F92.cut rfl
             clear F84 F85 F86 F88 F89 F90 F91 F92
             refine s_end (x_normal (x_cond (p := x1.key ≠ key) (F93.ev 53 rfl) (fun h94 => ?_) (fun h94 => ?_)))
             · skip
               refine wp_region_lit (l_op (f_mv F93 rfl rfl rfl rfl rfl fun _ F95 => ?_))
               refine l_op (f_mv F95 rfl rfl rfl rfl rfl fun _ F96 => ?_)
               refine l_op (f_mv F96 rfl rfl rfl rfl rfl fun _ F97 => ?_)
               obtain ⟨B98, O98, y98, ad98, hy98, oky98, ln98, cl98⟩ := Rd.at (Rd.mv (Nat.succ_pos _) V_v_s (T7.trans (T33.trans (S49.trans (S75.trans (S77.trans T82)))))) k (by first | assumption | omega)
               clear ln98
               obtain rfl := Option.some.inj (hx1.symm.trans hy98)
               clear hy98 oky98
               refine l_op (f_val F97 rfl rfl (r_indexAddr (i := k) ET_46 rfl ((F97.ev 55 rfl).trans (by rw [ad98])) (F97.ev 56 rfl) (by omega) (by first | assumption | omega)) rfl fun _ F99 => ?_)
               refine l_op (f_val (v := .agg #[.string x1.key, .string x1.val]) F99 rfl rfl (r_load (cs := [.string x1.key, .string x1.val]) TI_98 rfl (F99.ev 57 rfl) rfl (fun h => nomatch h) (elem_sub (f := 0) cl98 [.string x1.key, .string x1.val] rfl)) rfl fun _ F100 => ?_)
               refine l_op (f_buildSl (ok := okC) (vs := [.agg #[.string x1.key, .string x1.val]]) F100 T82.at' ([x1]) ET_46 rfl rfl rfl rfl rfl rfl (lc (pr2 (F100.ev 58 rfl)) rfl) rfl rfl (fun x hx => (List.mem_singleton.1 hx) ▸ ⟨okx1.1, okx1.2⟩) fun b101 _ w101 F102 S101 => ?_)
               refine l_op (f_app (news := [x1]) F102 S101.at' 1 ET_46 rfl rfl rfl rfl rfl rfl (F102.ev 54 rfl) (F102.ev 59 rfl) ((At.rd S101.at' ET_46.hk 0 rfl)).1 (by simp only [List.length_append, List.length_cons, List.length_nil]; omega) fun A103 N103 C103 _ w103 F104 S103 l103 => ?_)
               have S105 := At.drop S103.at' 1
               refine l_op (f_as F104 rfl rfl rfl rfl rfl fun _ F106 => ?_)
               have F107 : Fr 70 [(7, .slice A103 N103 C103), (8, .bool true), (39, .bool (!leS x1.key key)), (38, .string key), (37, .string x1.key), (36, .pointer (some ⟨B62, O62 + k * 2, none⟩)), (35, .pointer (some ⟨B62, O62 + k * 2, none⟩)), (34, .int .i64 ((k : Nat) : Int)), (33, .slice s_a s_n s_c), (9, .int .i64 ((k : Nat) : Int)), (0, .slice s_a s_n s_c), (1, .string key), (2, .string val)] _ := F106.cut rfl
               clear F93 F95 F96 F97 F99 F100 F102 F104 F106
               have T108 : Mv _ _ [ow 98 2 encC okC (.slice A103 N103 C103) ((O ++ ([(⟨key, val⟩ : CellD)])) ++ ([x1]))] _ := S105
               refine s_end (x_block_normal (x_normal (wp_region_lit (l_op (f_mv F107 rfl rfl rfl rfl rfl fun _ F109 => ?_)))))
               refine l_op (f_val F109 rfl rfl (r_add (z := ((k + 1 : Nat) : Int)) rfl (F109.ev 28 rfl) rfl (by first | rfl | omega) ⟨by first | omega | (unfold i64ok at *; omega), by first | omega | (unfold i64ok at *; omega)⟩) rfl fun _ F110 => ?_)
               refine l_op (f_as F110 rfl rfl rfl rfl rfl fun _ F111 => ?_)
               have F112 : Fr 70 [(9, .int .i64 ((k + 1 : Nat) : Int)), (7, .slice A103 N103 C103), (8, .bool true), (39, .bool (!leS x1.key key)), (38, .string key), (37, .string x1.key), (36, .pointer (some ⟨B62, O62 + k * 2, none⟩)), (35, .pointer (some ⟨B62, O62 + k * 2, none⟩)), (34, .int .i64 ((k : Nat) : Int)), (33, .slice s_a s_n s_c), (0, .slice s_a s_n s_c), (1, .string key), (2, .string val)] _ := F111.cut rfl
               clear F107 F109 F110 F111
               refine s_end ?_
               refine x_normal ⟨k + 1, by omega, (O ++ ([(⟨key, val⟩ : CellD)])) ++ ([x1]), true, A103, N103, C103, F112.cut rfl, ((S49.trans (S75.trans (S77.trans (T82.trans (S101.trans (S103.trans T108)))))).pick [0] rfl), by omega, by first | exact putF_a hk_1 hx1 (by assumption) (by assumption) (by assumption) | exact putF_b hk_1 hx1 (.inl (by assumption)) (by assumption) | exact putF_b hk_1 hx1 (.inr (by assumption)) (by assumption) | exact putF_c hk_1 hx1 (.inl (by assumption)) (by assumption) | exact putF_c hk_1 hx1 (.inr (by assumption)) (by assumption) | exact putF_d hk_1 hx1 (by assumption) (by assumption) (by assumption), by first | omega | (simp only [List.length_append, List.length_cons, List.length_nil]; omega)⟩
             · skip
               refine wp_skip (x_block_normal (x_normal (wp_region_lit (l_op (f_mv F93 rfl rfl rfl rfl rfl fun _ F113 => ?_)))))
               refine l_op (f_val F113 rfl rfl (r_add (z := ((k + 1 : Nat) : Int)) rfl (F113.ev 28 rfl) rfl (by first | rfl | omega) ⟨by first | omega | (unfold i64ok at *; omega), by first | omega | (unfold i64ok at *; omega)⟩) rfl fun _ F114 => ?_)
               refine l_op (f_as F114 rfl rfl rfl rfl rfl fun _ F115 => ?_)
               have F116 : Fr 70 [(9, .int .i64 ((k + 1 : Nat) : Int)), (8, .bool true), (7, .slice A77 N77 C77), (39, .bool (!leS x1.key key)), (38, .string key), (37, .string x1.key), (36, .pointer (some ⟨B62, O62 + k * 2, none⟩)), (35, .pointer (some ⟨B62, O62 + k * 2, none⟩)), (34, .int .i64 ((k : Nat) : Int)), (33, .slice s_a s_n s_c), (0, .slice s_a s_n s_c), (1, .string key), (2, .string val)] _ := F115.cut rfl
               clear F93 F113 F114 F115
               refine s_end ?_
               refine x_normal ⟨k + 1, by omega, O ++ ([(⟨key, val⟩ : CellD)]), true, A77, N77, C77, F116.cut rfl, ((S49.trans (S75.trans (S77.trans T82))).pick [0] rfl), by omega, by first | exact putF_a hk_1 hx1 (by assumption) (by assumption) (by assumption) | exact putF_b hk_1 hx1 (.inl (by assumption)) (by assumption) | exact putF_b hk_1 hx1 (.inr (by assumption)) (by assumption) | exact putF_c hk_1 hx1 (.inl (by assumption)) (by assumption) | exact putF_c hk_1 hx1 (.inr (by assumption)) (by assumption) | exact putF_d hk_1 hx1 (by assumption) (by assumption) (by assumption), by first | omega | (simp only [List.length_append, List.length_cons, List.length_nil]; omega)⟩
           · skip
             refine wp_skip (x_normal (wp_seq (wp_region_lit (l_op (f_mv F69 rfl rfl rfl rfl rfl fun _ F117 => ?_)))))
             refine l_op (f_mv F117 rfl rfl rfl rfl rfl fun _ F118 => ?_)
             obtain ⟨B119, O119, y119, ad119, hy119, oky119, ln119, cl119⟩ := Rd.at (Rd.mv (Nat.succ_pos _) V_v_s (T7.trans (T33.trans S49))) k (by first | assumption | omega)
             clear ln119
             obtain rfl := Option.some.inj (hx1.symm.trans hy119)
             clear hy119 oky119
             refine l_op (f_val F118 rfl rfl (r_indexAddr (i := k) ET_46 rfl ((F118.ev 47 rfl).trans (by rw [ad119])) (F118.ev 48 rfl) (by omega) (by first | assumption | omega)) rfl fun _ F120 => ?_)
             refine l_op (f_val F120 rfl rfl (r_field FI_98_0 rfl (F120.ev 49 rfl) rfl) rfl fun _ F121 => ?_)
             refine l_op (f_val (v := .string x1.key) F121 rfl rfl (r_load (cs := [.string x1.key]) TI_9 rfl (F121.ev 50 rfl) rfl (fun _ => rfl) (elem_sub (f := 0) cl119 [.string x1.key] rfl)) rfl fun _ F122 => ?_)
             refine l_op (f_mv F122 rfl rfl rfl rfl rfl fun _ F123 => ?_)
             refine l_op (f_val F123 rfl rfl (r_cmps (b := (decide (x1.key ≠ key))) (.inr (.inl rfl)) rfl (F123.ev 51 rfl) (F123.ev 52 rfl) rfl) rfl fun _ F124 => ?_)
             have F125 : Fr 70 [(53, .bool (decide (x1.key ≠ key))), (39, .bool (!leS x1.key key)), (38, .string key), (37, .string x1.key), (36, .pointer (some ⟨B62, O62 + k * 2, none⟩)), (35, .pointer (some ⟨B62, O62 + k * 2, none⟩)), (34, .int .i64 ((k : Nat) : Int)), (33, .slice s_a s_n s_c), (9, .int .i64 ((k : Nat) : Int)), (8, .bool dd), (7, .slice oa on oc), (0, .slice s_a s_n s_c), (1, .string key), (2, .string val)] _ := F124.cut rfl
             clear F69 F117 F118 F120 F121 F122 F123 F124
             refine s_end (x_normal (x_cond (p := x1.key ≠ key) (F125.ev 53 rfl) (fun h126 => ?_) (fun h126 => ?_)))
             · skip
               refine wp_region_lit (l_op (f_mv F125 rfl rfl rfl rfl rfl fun _ F127 => ?_))
               refine l_op (f_mv F127 rfl rfl rfl rfl rfl fun _ F128 => ?_)
               refine l_op (f_mv F128 rfl rfl rfl rfl rfl fun _ F129 => ?_)
               obtain ⟨B130, O130, y130, ad130, hy130, oky130, ln130, cl130⟩ := Rd.at (Rd.mv (Nat.succ_pos _) V_v_s (T7.trans (T33.trans S49))) k (by first | assumption | omega)
               clear ln130
               obtain rfl := Option.some.inj (hx1.symm.trans hy130)
               clear hy130 oky130
               refine l_op (f_val F129 rfl rfl (r_indexAddr (i := k) ET_46 rfl ((F129.ev 55 rfl).trans (by rw [ad130])) (F129.ev 56 rfl) (by omega) (by first | assumption | omega)) rfl fun _ F131 => ?_)
               refine l_op (f_val (v := .agg #[.string x1.key, .string x1.val]) F131 rfl rfl (r_load (cs := [.string x1.key, .string x1.val]) TI_98 rfl (F131.ev 57 rfl) rfl (fun h => nomatch h) (elem_sub (f := 0) cl130 [.string x1.key, .string x1.val] rfl)) rfl fun _ F132 => ?_)
               refine l_op (f_buildSl (ok := okC) (vs := [.agg #[.string x1.key, .string x1.val]]) F132 S49.at' ([x1]) ET_46 rfl rfl rfl rfl rfl rfl (lc (pr2 (F132.ev 58 rfl)) rfl) rfl rfl (fun x hx => (List.mem_singleton.1 hx) ▸ ⟨okx1.1, okx1.2⟩) fun b133 _ w133 F134 S133 => ?_)
               refine l_op (f_app (news := [x1]) F134 S133.at' 1 ET_46 rfl rfl rfl rfl rfl rfl (F134.ev 54 rfl) (F134.ev 59 rfl) ((At.rd S133.at' ET_46.hk 0 rfl)).1 (by simp only [List.length_append, List.length_cons, List.length_nil]; omega) fun A135 N135 C135 _ w135 F136 S135 l135 => ?_)
               have S137 := At.drop S135.at' 1
               refine l_op (f_as F136 rfl rfl rfl rfl rfl fun _ F138 => ?_)
               have F139 : Fr 70 [(7, .slice A135 N135 C135), (39, .bool (!leS x1.key key)), (38, .string key), (37, .string x1.key), (36, .pointer (some ⟨B62, O62 + k * 2, none⟩)), (35, .pointer (some ⟨B62, O62 + k * 2, none⟩)), (34, .int .i64 ((k : Nat) : Int)), (33, .slice s_a s_n s_c), (9, .int .i64 ((k : Nat) : Int)), (8, .bool dd), (0, .slice s_a s_n s_c), (1, .string key), (2, .string val)] _ := F138.cut rfl
               clear F125 F127 F128 F129 F131 F132 F134 F136 F138
               have T140 : Mv _ _ [ow 98 2 encC okC (.slice A135 N135 C135) (O ++ ([x1]))] _ := S137
               refine s_end (x_block_normal (x_normal (wp_region_lit (l_op (f_mv F139 rfl rfl rfl rfl rfl fun _ F141 => ?_)))))
               refine l_op (f_val F141 rfl rfl (r_add (z := ((k + 1 : Nat) : Int)) rfl (F141.ev 28 rfl) rfl (by first | rfl | omega) ⟨by first | omega | (unfold i64ok at *; omega), by first | omega | (unfold i64ok at *; omega)⟩) rfl fun _ F142 => ?_)
               refine l_op (f_as F142 rfl rfl rfl rfl rfl fun _ F143 => ?_)
               have F144 : Fr 70 [(9, .int .i64 ((k + 1 : Nat) : Int)), (7, .slice A135 N135 C135), (39, .bool (!leS x1.key key)), (38, .string key), (37, .string x1.key), (36, .pointer (some ⟨B62, O62 + k * 2, none⟩)), (35, .pointer (some ⟨B62, O62 + k * 2, none⟩)), (34, .int .i64 ((k : Nat) : Int)), (33, .slice s_a s_n s_c), (8, .bool dd), (0, .slice s_a s_n s_c), (1, .string key), (2, .string val)] _ := F143.cut rfl
               clear F139 F141 F142 F143
               refine s_end ?_
               refine x_normal ⟨k + 1, by omega, O ++ ([x1]), dd, A135, N135, C135, F144.cut rfl, ((S49.trans (S133.trans (S135.trans T140))).pick [0] rfl), by omega, by first | exact putF_a hk_1 hx1 (by assumption) (by assumption) (by assumption) | exact putF_b hk_1 hx1 (.inl (by assumption)) (by assumption) | exact putF_b hk_1 hx1 (.inr (by assumption)) (by assumption) | exact putF_c hk_1 hx1 (.inl (by assumption)) (by assumption) | exact putF_c hk_1 hx1 (.inr (by assumption)) (by assumption) | exact putF_d hk_1 hx1 (by assumption) (by assumption) (by assumption), by first | omega | (simp only [List.length_append, List.length_cons, List.length_nil]; omega)⟩
             · skip
               refine wp_skip (x_block_normal (x_normal (wp_region_lit (l_op (f_mv F125 rfl rfl rfl rfl rfl fun _ F145 => ?_)))))
               refine l_op (f_val F145 rfl rfl (r_add (z := ((k + 1 : Nat) : Int)) rfl (F145.ev 28 rfl) rfl (by first | rfl | omega) ⟨by first | omega | (unfold i64ok at *; omega), by first | omega | (unfold i64ok at *; omega)⟩) rfl fun _ F146 => ?_)
               refine l_op (f_as F146 rfl rfl rfl rfl rfl fun _ F147 => ?_)
               have F148 : Fr 70 [(9, .int .i64 ((k + 1 : Nat) : Int)), (39, .bool (!leS x1.key key)), (38, .string key), (37, .string x1.key), (36, .pointer (some ⟨B62, O62 + k * 2, none⟩)), (35, .pointer (some ⟨B62, O62 + k * 2, none⟩)), (34, .int .i64 ((k : Nat) : Int)), (33, .slice s_a s_n s_c), (8, .bool dd), (7, .slice oa on oc), (0, .slice s_a s_n s_c), (1, .string key), (2, .string val)] _ := F147.cut rfl
               clear F125 F145 F146 F147
               refine s_end ?_
               refine x_normal ⟨k + 1, by omega, O, dd, oa, on, oc, F148.cut rfl, (S49.pick [0] rfl), by omega, by first | exact putF_a hk_1 hx1 (by assumption) (by assumption) (by assumption) | exact putF_b hk_1 hx1 (.inl (by assumption)) (by assumption) | exact putF_b hk_1 hx1 (.inr (by assumption)) (by assumption) | exact putF_c hk_1 hx1 (.inl (by assumption)) (by assumption) | exact putF_c hk_1 hx1 (.inr (by assumption)) (by assumption) | exact putF_d hk_1 hx1 (by assumption) (by assumption) (by assumption), by first | omega | (simp only [List.length_append, List.length_cons, List.length_nil]; omega)⟩
         · rw [h59] at F58
           refine l_op (f_skip F58 (wanted_g F58 rfl rfl rfl rfl) rfl rfl fun _ F149 => ?_)
           refine l_op (f_skip F149 (wanted_g F149 rfl rfl rfl rfl) rfl rfl fun _ F150 => ?_)
           refine l_op (f_skip F150 (wanted_g F150 rfl rfl rfl rfl) rfl rfl fun _ F151 => ?_)
           refine l_op (f_skip F151 (wanted_g F151 rfl rfl rfl rfl) rfl rfl fun _ F152 => ?_)
           refine l_op (f_skip F152 (wanted_g F152 rfl rfl rfl rfl) rfl rfl fun _ F153 => ?_)
           refine l_op (f_skip F153 (wanted_g F153 rfl rfl rfl rfl) rfl rfl fun _ F154 => ?_)
           refine l_op (f_skip F154 (wanted_g F154 rfl rfl rfl rfl) rfl rfl fun _ F155 => ?_)
           refine l_op (f_val F155 rfl rfl (r_pick (b := false) rfl (F155.ev 32 rfl) rfl) rfl fun _ F156 => ?_)
           have F157 : Fr 70 [(40, .bool false), (39, undef), (38, undef), (37, undef), (36, undef), (35, undef), (34, undef), (33, undef), (9, .int .i64 ((k : Nat) : Int)), (8, .bool dd), (7, .slice oa on oc), (0, .slice s_a s_n s_c), (1, .string key), (2, .string val)] _ := F156.cut rfl
           clear F54 F56 F57 F58 F149 F150 F151 F152 F153 F154 F155 F156
           refine s_end (x_normal (wp_cond_false (F157.ev 40 rfl) (wp_skip (x_normal (wp_seq (wp_region_lit (l_op (f_mv F157 rfl rfl rfl rfl rfl fun _ F158 => ?_))))))))
           refine l_op (f_mv F158 rfl rfl rfl rfl rfl fun _ F159 => ?_)
           obtain ⟨B160, O160, x1, ad160, hx1, okx1, ln160, cl160⟩ := Rd.at (Rd.mv (Nat.succ_pos _) V_v_s (T7.trans (T33.trans S49))) k (by first | assumption | omega)
           clear ln160
           refine l_op (f_val F159 rfl rfl (r_indexAddr (i := k) ET_46 rfl ((F159.ev 47 rfl).trans (by rw [ad160])) (F159.ev 48 rfl) (by omega) (by first | assumption | omega)) rfl fun _ F161 => ?_)
           refine l_op (f_val F161 rfl rfl (r_field FI_98_0 rfl (F161.ev 49 rfl) rfl) rfl fun _ F162 => ?_)
           refine l_op (f_val (v := .string x1.key) F162 rfl rfl (r_load (cs := [.string x1.key]) TI_9 rfl (F162.ev 50 rfl) rfl (fun _ => rfl) (elem_sub (f := 0) cl160 [.string x1.key] rfl)) rfl fun _ F163 => ?_)
           refine l_op (f_mv F163 rfl rfl rfl rfl rfl fun _ F164 => ?_)
           refine l_op (f_val F164 rfl rfl (r_cmps (b := (decide (x1.key ≠ key))) (.inr (.inl rfl)) rfl (F164.ev 51 rfl) (F164.ev 52 rfl) rfl) rfl fun _ F165 => ?_)
           have F166 : Fr 70 [(53, .bool (decide (x1.key ≠ key))), (39, undef), (38, undef), (37, undef), (36, undef), (35, undef), (34, undef), (33, undef), (9, .int .i64 ((k : Nat) : Int)), (8, .bool dd), (7, .slice oa on oc), (0, .slice s_a s_n s_c), (1, .string key), (2, .string val)] _ := F165.cut rfl
           clear F157 F158 F159 F161 F162 F163 F164 F165
           refine s_end (x_normal (x_cond (p := x1.key ≠ key) (F166.ev 53 rfl) (fun h167 => ?_) (fun h167 => ?_)))
           · skip
             refine wp_region_lit (l_op (f_mv F166 rfl rfl rfl rfl rfl fun _ F168 => ?_))
             refine l_op (f_mv F168 rfl rfl rfl rfl rfl fun _ F169 => ?_)
             refine l_op (f_mv F169 rfl rfl rfl rfl rfl fun _ F170 => ?_)
             obtain ⟨B171, O171, y171, ad171, hy171, oky171, ln171, cl171⟩ := Rd.at (Rd.mv (Nat.succ_pos _) V_v_s (T7.trans (T33.trans S49))) k (by first | assumption | omega)
             clear ln171
             obtain rfl := Option.some.inj (hx1.symm.trans hy171)
             clear hy171 oky171
             refine l_op (f_val F170 rfl rfl (r_indexAddr (i := k) ET_46 rfl ((F170.ev 55 rfl).trans (by rw [ad171])) (F170.ev 56 rfl) (by omega) (by first | assumption | omega)) rfl fun _ F172 => ?_)
             refine l_op (f_val (v := .agg #[.string x1.key, .string x1.val]) F172 rfl rfl (r_load (cs := [.string x1.key, .string x1.val]) TI_98 rfl (F172.ev 57 rfl) rfl (fun h => nomatch h) (elem_sub (f := 0) cl171 [.string x1.key, .string x1.val] rfl)) rfl fun _ F173 => ?_)
             refine l_op (f_buildSl (ok := okC) (vs := [.agg #[.string x1.key, .string x1.val]]) F173 S49.at' ([x1]) ET_46 rfl rfl rfl rfl rfl rfl (lc (pr2 (F173.ev 58 rfl)) rfl) rfl rfl (fun x hx => (List.mem_singleton.1 hx) ▸ ⟨okx1.1, okx1.2⟩) fun b174 _ w174 F175 S174 => ?_)
             refine l_op (f_app (news := [x1]) F175 S174.at' 1 ET_46 rfl rfl rfl rfl rfl rfl (F175.ev 54 rfl) (F175.ev 59 rfl) ((At.rd S174.at' ET_46.hk 0 rfl)).1 (by simp only [List.length_append, List.length_cons, List.length_nil]; omega) fun A176 N176 C176 _ w176 F177 S176 l176 => ?_)
             have S178 := At.drop S176.at' 1
             refine l_op (f_as F177 rfl rfl rfl rfl rfl fun _ F179 => ?_)
             have F180 : Fr 70 [(7, .slice A176 N176 C176), (39, undef), (38, undef), (37, undef), (36, undef), (35, undef), (34, undef), (33, undef), (9, .int .i64 ((k : Nat) : Int)), (8, .bool dd), (0, .slice s_a s_n s_c), (1, .string key), (2, .string val)] _ := F179.cut rfl
             clear F166 F168 F169 F170 F172 F173 F175 F177 F179
             have T181 : Mv _ _ [ow 98 2 encC okC (.slice A176 N176 C176) (O ++ ([x1]))] _ := S178
             refine s_end (x_block_normal (x_normal (wp_region_lit (l_op (f_mv F180 rfl rfl rfl rfl rfl fun _ F182 => ?_)))))
             refine l_op (f_val F182 rfl rfl (r_add (z := ((k + 1 : Nat) : Int)) rfl (F182.ev 28 rfl) rfl (by first | rfl | omega) ⟨by first | omega | (unfold i64ok at *; omega), by first | omega | (unfold i64ok at *; omega)⟩) rfl fun _ F183 => ?_)
             refine l_op (f_as F183 rfl rfl rfl rfl rfl fun _ F184 => ?_)
             have F185 : Fr 70 [(9, .int .i64 ((k + 1 : Nat) : Int)), (7, .slice A176 N176 C176), (39, undef), (38, undef), (37, undef), (36, undef), (35, undef), (34, undef), (33, undef), (8, .bool dd), (0, .slice s_a s_n s_c), (1, .string key), (2, .string val)] _ := F184.cut rfl
             clear F180 F182 F183 F184
             refine s_end ?_
             refine x_normal ⟨k + 1, by omega, O ++ ([x1]), dd, A176, N176, C176, F185.cut rfl, ((S49.trans (S174.trans (S176.trans T181))).pick [0] rfl), by omega, by first | exact putF_a hk_1 hx1 (by assumption) (by assumption) (by assumption) | exact putF_b hk_1 hx1 (.inl (by assumption)) (by assumption) | exact putF_b hk_1 hx1 (.inr (by assumption)) (by assumption) | exact putF_c hk_1 hx1 (.inl (by assumption)) (by assumption) | exact putF_c hk_1 hx1 (.inr (by assumption)) (by assumption) | exact putF_d hk_1 hx1 (by assumption) (by assumption) (by assumption), by first | omega | (simp only [List.length_append, List.length_cons, List.length_nil]; omega)⟩
           · skip
             refine wp_skip (x_block_normal (x_normal (wp_region_lit (l_op (f_mv F166 rfl rfl rfl rfl rfl fun _ F186 => ?_)))))
             refine l_op (f_val F186 rfl rfl (r_add (z := ((k + 1 : Nat) : Int)) rfl (F186.ev 28 rfl) rfl (by first | rfl | omega) ⟨by first | omega | (unfold i64ok at *; omega), by first | omega | (unfold i64ok at *; omega)⟩) rfl fun _ F187 => ?_)
             refine l_op (f_as F187 rfl rfl rfl rfl rfl fun _ F188 => ?_)
             have F189 : Fr 70 [(9, .int .i64 ((k + 1 : Nat) : Int)), (39, undef), (38, undef), (37, undef), (36, undef), (35, undef), (34, undef), (33, undef), (8, .bool dd), (7, .slice oa on oc), (0, .slice s_a s_n s_c), (1, .string key), (2, .string val)] _ := F188.cut rfl
             clear F166 F186 F187 F188
             refine s_end ?_
             refine x_normal ⟨k + 1, by omega, O, dd, oa, on, oc, F189.cut rfl, (S49.pick [0] rfl), by omega, by first | exact putF_a hk_1 hx1 (by assumption) (by assumption) (by assumption) | exact putF_b hk_1 hx1 (.inl (by assumption)) (by assumption) | exact putF_b hk_1 hx1 (.inr (by assumption)) (by assumption) | exact putF_c hk_1 hx1 (.inl (by assumption)) (by assumption) | exact putF_c hk_1 hx1 (.inr (by assumption)) (by assumption) | exact putF_d hk_1 hx1 (by assumption) (by assumption) (by assumption), by first | omega | (simp only [List.length_append, List.length_cons, List.length_nil]; omega)⟩
       · skip
         refine wp_exit (x_then_exit (x_then_exit (x_block_here (x_normal (wp_seq (wp_seq (wp_region_lit (l_op (f_mv F54 rfl rfl rfl rfl rfl fun _ F190 => ?_)))))))))
         refine l_op (f_val F190 rfl rfl (r_not rfl (F190.ev 61 rfl)) rfl fun _ F191 => ?_)
         have F192 : Fr 70 [(62, .bool (!dd)), (7, .slice oa on oc), (1, .string key), (2, .string val)] _ := F191.cut rfl
         clear F54 F190 F191
         refine s_end (x_normal (x_condb (b := (!dd)) (F192.ev 62 rfl) (fun h193 => ?_) (fun h193 => ?_)))
         · skip
           refine wp_region_lit (l_op (f_mv F192 rfl rfl rfl rfl rfl fun _ F194 => ?_))
           refine l_op (f_mv F194 rfl rfl rfl rfl rfl fun _ F195 => ?_)
           refine l_op (f_mv F195 rfl rfl rfl rfl rfl fun _ F196 => ?_)
           refine l_op (f_val (v := .agg #[.string key, .string val]) F196 rfl rfl (r_build BI_98 rfl (lc (pr2 (F196.ev 64 rfl)) (lc (pr2 (F196.ev 65 rfl)) rfl)) rfl) rfl fun _ F197 => ?_)
           refine l_op (f_buildSl (ok := okC) (vs := [.agg #[.string key, .string val]]) F197 S49.at' ([(⟨key, val⟩ : CellD)]) ET_46 rfl rfl rfl rfl rfl rfl (lc (pr2 (F197.ev 66 rfl)) rfl) rfl rfl (fun x hx => (List.mem_singleton.1 hx) ▸ ⟨h_key, h_val⟩) fun b198 _ w198 F199 S198 => ?_)
           refine l_op (f_app (news := [(⟨key, val⟩ : CellD)]) F199 S198.at' 1 ET_46 rfl rfl rfl rfl rfl rfl (F199.ev 63 rfl) (F199.ev 67 rfl) ((At.rd S198.at' ET_46.hk 0 rfl)).1 (by simp only [List.length_append, List.length_cons, List.length_nil]; omega) fun A200 N200 C200 _ w200 F201 S200 l200 => ?_)
           have S202 := At.drop S200.at' 1
           refine l_op (f_as F201 rfl rfl rfl rfl rfl fun _ F203 => ?_)
           have F204 : Fr 70 [(7, .slice A200 N200 C200)] _ := F203.cut rfl
           clear F192 F194 F195 F196 F197 F199 F201 F203
           have T205 : Mv _ _ [ow 98 2 encC okC (.slice A200 N200 C200) (O ++ ([(⟨key, val⟩ : CellD)]))] _ := S202
           refine s_end (x_normal (wp_seq (wp_region_lit (l_op (f_mv F204 rfl rfl rfl rfl rfl fun _ F206 => ?_)))))
           refine l_op (f_as F206 rfl rfl rfl rfl rfl fun _ F207 => ?_)
           have F208 : Fr 70 [(6, .slice A200 N200 C200)] _ := F207.cut rfl
           clear F204 F206 F207
           refine s_end (x_normal (wp_ret ?_))
           have Z209 : Rd 2 encC okC (V H w []) w200 (.slice A200 N200 C200) (O ++ ([(⟨key, val⟩ : CellD)])) := At.freeze (T7.trans (T33.trans (S49.trans (S198.trans (S200.trans T205))))) ET_46.hk 0 rfl (fun b hb => ((T7.trans (T33.trans (S49.trans (S198.trans (S200.trans T205))))).fresh b ⟨_, nth_mem (i := 0) rfl, hb⟩).resolve_left (fps_nil _))
           have S209 := At.drop T205.at' 0
           refine x_done (v := .slice A200 N200 C200) F208 (results_1 Try.results140 (.tmp (F208.ev 6 rfl))) ?_
           exact ⟨A200, N200, C200, rfl, (Mv.pick (T7.trans (T33.trans (S49.trans (S198.trans (S200.trans (T205.trans S209)))))) [] rfl), (Rd.cast (Rd.give Z209) (show (O ++ ([(⟨key, val⟩ : CellD)])) = (putKey s key val) from by first | exact (List.nil_append _).trans (putKey_no (.inl (nt (by assumption)))).symm | exact (List.nil_append _).trans (putKey_no (.inr (by omega))).symm | (rw [← putF_end hk_1 (by omega) (nf (by assumption)) (by omega)]; first | rw [if_pos (nt (by assumption))] | rw [if_neg (ne_false_of_eq_true (nf (by assumption))), List.append_nil])))⟩
         · skip
           refine wp_skip (x_normal (wp_seq (wp_region_lit (l_op (f_mv F192 rfl rfl rfl rfl rfl fun _ F210 => ?_)))))
           refine l_op (f_as F210 rfl rfl rfl rfl rfl fun _ F211 => ?_)
           have F212 : Fr 70 [(6, .slice oa on oc)] _ := F211.cut rfl
           clear F192 F210 F211
           refine s_end (x_normal (wp_ret ?_))
           have Z213 : Rd 2 encC okC (V H w []) w49 (.slice oa on oc) O := At.freeze (T7.trans (T33.trans S49)) ET_46.hk 0 rfl (fun b hb => ((T7.trans (T33.trans S49)).fresh b ⟨_, nth_mem (i := 0) rfl, hb⟩).resolve_left (fps_nil _))
           have S213 := At.drop S49.at' 0
           refine x_done (v := .slice oa on oc) F212 (results_1 Try.results140 (.tmp (F212.ev 6 rfl))) ?_
           exact ⟨oa, on, oc, rfl, (Mv.pick (T7.trans (T33.trans (S49.trans S213))) [] rfl), (Rd.cast (Rd.give Z213) (show O = (putKey s key val) from by first | exact (List.nil_append _).trans (putKey_no (.inl (nt (by assumption)))).symm | exact (List.nil_append _).trans (putKey_no (.inr (by omega))).symm | (rw [← putF_end hk_1 (by omega) (nf (by assumption)) (by omega)]; first | rw [if_pos (nt (by assumption))] | rw [if_neg (ne_false_of_eq_true (nf (by assumption))), List.append_nil])))⟩
end Go.Proofs.Ytbbkihijhdpliaa
