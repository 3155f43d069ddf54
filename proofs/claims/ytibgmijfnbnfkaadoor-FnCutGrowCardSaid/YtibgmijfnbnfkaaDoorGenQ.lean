/-
  Walks: a key is put into a store, by the program and by the reference.
-/
import Derived.Test.YtibgmijfnbnfkaaDoorGenP
namespace Go.Proofs.YtibgmijfnbnfkaaDoor
open Go.ChangeShapes Go.WideShapes Go.ChangeAt Go.RowKit
set_option maxRecDepth 100000
set_option maxHeartbeats 1000000
theorem impl_put_c {w : World} {H : Nat → Prop} {s : List CellD} {s_a : Option Addr} {s_n s_c : Nat} {key : ByteArray} {val : ByteArray} (h_key : okS key) (h_val : okS val) (p0 : s.length ≤ 274877906944) (hA : At w [ow 53 2 encC okC (.slice s_a s_n s_c) s]) :
    Calls Tryd.prog 46 #[.slice s_a s_n s_c, .string key, .string val] w fun e w' => ∃ (r0_a : Option Addr), ∃ (r0_n : Nat), ∃ (r0_c : Nat), e = .returned (.slice r0_a r0_n r0_c) ∧ Mv [ow 53 2 encC okC (.slice s_a s_n s_c) s] w [ow 53 2 encC okC (.slice r0_a r0_n r0_c) (putKey s key val)] w' := by
 have uU : True := (fun _ _ => trivial) H p0
 clear uU
 obtain ⟨lo0, lp0, lq0⟩ := At.ownInv hA ET_26.hk 0 rfl
 refine calls_enter 37 Tryd.func46 rfl Tryd.ntmps46 (Nat.le_of_ble_eq_true rfl) (fun _ F0i => ?_)
 have F0 : Fr 37 [(0, .slice s_a s_n s_c), (1, .string key), (2, .string val)] _ := F0i
 clear F0i
 refine wp_seq (wp_region_lit (l_op (f_box F0 hA rfl rfl rfl (F0.ev 1 rfl) rfl rfl fun b1 _ w1 F2 S1 => ?_)))
 refine l_op (f_val F2 rfl rfl (r_assign rfl rfl) rfl fun _ F3 => ?_)
 have F4 : Fr 37 [(6, .slice none 0 0), (4, .pointer (some ⟨b1, 0, none⟩)), (0, .slice s_a s_n s_c), (2, .string val)] _ := F3.cut rfl
 clear F0 F2 F3
 have T5 : Mv _ _ [bx b1 [.string key] 9, ow 53 2 encC okC (.slice s_a s_n s_c) s] _ := S1
 refine s_end (x_normal (wp_seq (wp_seq (wp_region_lit (l_op (f_val (v := .string key) F4 rfl rfl (r_loadB T5.at' 0 TI_9 rfl rfl (F4.ev 4 rfl) rfl rfl (fun _ => rfl) rfl) rfl fun _ F6 => ?_))))))
 refine l_op (f_call F6 CF_56 rfl rfl rfl rfl (lc (F6.ev 8 rfl) rfl) (impl_KeyOk_c (H := fun _ => True) (key := key) h_key) ?_)
 rintro _ w7 ⟨rfl, m7⟩
 refine ⟨_, rfl, fun _ F8 => ?_⟩
 have S7 := At.frame0 T5.at' m7
 clear m7
 refine l_op (f_val F8 rfl rfl (r_not rfl (F8.ev 9 rfl)) rfl fun _ F9 => ?_)
 refine l_op (f_mv F9 rfl rfl rfl rfl rfl fun _ F10 => ?_)
 rcases Bool.eq_false_or_eq_true (!(keyOk key)) with h11 | h11
 · rw [h11] at F10
   refine l_op (f_skip F10 (wanted_g F10 rfl rfl rfl rfl) rfl rfl fun _ F12 => ?_)
   refine l_op (f_skip F12 (wanted_g F12 rfl rfl rfl rfl) rfl rfl fun _ F13 => ?_)
   refine l_op (f_skip F13 (wanted_g F13 rfl rfl rfl rfl) rfl rfl fun _ F14 => ?_)
   refine l_op (f_val F14 rfl rfl (r_pick (b := true) rfl (F14.ev 11 rfl) rfl) rfl fun _ F15 => ?_)
   have F16 : Fr 37 [(15, .bool true), (4, .pointer (some ⟨b1, 0, none⟩)), (0, .slice s_a s_n s_c), (2, .string val)] _ := F15.cut rfl
   clear F4 F6 F8 F9 F10 F12 F13 F14 F15
   have T17 : Mv _ _ [bx b1 [.string key] 9, ow 53 2 encC okC (.slice s_a s_n s_c) s] _ := S7
   refine s_end (x_normal (wp_cond_true (F16.ev 15 rfl) (wp_seq (wp_region_lit (l_op (f_mv F16 rfl rfl rfl rfl rfl fun _ F18 => ?_))))))
   refine l_op (f_as F18 rfl rfl rfl rfl rfl fun _ F19 => ?_)
   have F20 : Fr 37 [(6, .slice s_a s_n s_c)] _ := F19.cut rfl
   clear F16 F18 F19
   refine s_end (x_normal (wp_ret (x_then_ret ?_)))
   refine x_done (v := .slice s_a s_n s_c) F20 (results_1 Tryd.results46 (.tmp (F20.ev 6 rfl))) ?_
   exact ⟨s_a, s_n, s_c, rfl, (Mv.cast (Mv.pick (T5.trans T17) [1] rfl) (by rw [← (show s = (putKey s key val) from by first | exact (putKey_no (.inl (nt (by assumption)))).symm | exact (putKey_no (.inr (by omega))).symm | exact (putKey_del (nf (by assumption)) (by assumption)).symm | (rw [putKey_ins (nf (by assumption)) (by omega) (by assumption)]; first | exact insK_at rfl (by omega) | exact insK_end (by omega) (by omega)))]; all_goals rfl))⟩
 · rw [h11] at F10
   refine l_op (f_mv F10 (wanted_g F10 rfl rfl rfl rfl) rfl rfl rfl rfl fun _ F21 => ?_)
   refine l_op (f_val F21 (wanted_g F21 rfl rfl rfl rfl) rfl (r_lenS (fun t ht => by cases ht; exact Tryd.underlying9) rfl rfl (F21.ev 12 rfl)) rfl fun _ F22 => ?_)
   refine l_op (f_val F22 (wanted_g F22 rfl rfl rfl rfl) rfl (r_cmp (b := decide (val.size > 60)) (.inr (.inr (.inr (.inr (.inl rfl))))) rfl (F22.ev 13 rfl) rfl (dec_of (by omega))) rfl fun _ F23 => ?_)
   refine l_op (f_val F23 rfl rfl (r_pick (b := false) rfl (F23.ev 11 rfl) (F23.ev 14 rfl)) rfl fun _ F24 => ?_)
   have F25 : Fr 37 [(15, .bool (decide (val.size > 60))), (4, .pointer (some ⟨b1, 0, none⟩)), (0, .slice s_a s_n s_c), (2, .string val)] _ := F24.cut rfl
   clear F4 F6 F8 F9 F10 F21 F22 F23 F24
   have T26 : Mv _ _ [bx b1 [.string key] 9, ow 53 2 encC okC (.slice s_a s_n s_c) s] _ := S7
   refine s_end (x_normal (x_cond (p := val.size > 60) (F25.ev 15 rfl) (fun h27 => ?_) (fun h27 => ?_)))
   · skip
     refine wp_seq (wp_region_lit (l_op (f_mv F25 rfl rfl rfl rfl rfl fun _ F28 => ?_)))
     refine l_op (f_as F28 rfl rfl rfl rfl rfl fun _ F29 => ?_)
     have F30 : Fr 37 [(6, .slice s_a s_n s_c)] _ := F29.cut rfl
     clear F25 F28 F29
     refine s_end (x_normal (wp_ret (x_then_ret ?_)))
     refine x_done (v := .slice s_a s_n s_c) F30 (results_1 Tryd.results46 (.tmp (F30.ev 6 rfl))) ?_
     exact ⟨s_a, s_n, s_c, rfl, (Mv.cast (Mv.pick (T5.trans T26) [1] rfl) (by rw [← (show s = (putKey s key val) from by first | exact (putKey_no (.inl (nt (by assumption)))).symm | exact (putKey_no (.inr (by omega))).symm | exact (putKey_del (nf (by assumption)) (by assumption)).symm | (rw [putKey_ins (nf (by assumption)) (by omega) (by assumption)]; first | exact insK_at rfl (by omega) | exact insK_end (by omega) (by omega)))]; all_goals rfl))⟩
   · skip
     refine wp_skip (x_normal (wp_seq (wp_region_lit (l_op (f_mv F25 rfl rfl rfl rfl rfl fun _ F31 => ?_)))))
     refine l_op (f_val F31 rfl rfl (r_makeFuncL rfl (lc (F31.ev 4 rfl) rfl)) rfl fun _ F32 => ?_)
     refine l_op (f_call F32 CF_57 rfl rfl rfl rfl (lc (F32.ev 17 rfl) (lc (F32.ev 18 rfl) rfl)) (DeleteFunc_c (H := fun _ => True) (s := s) (del := key) h_key (At.pick (is := [1, 0]) T26.at' rfl)) ?_)
     rintro _ w33 ⟨r0_a_33, r0_n_33, r0_c_33, rfl, m33⟩
     refine ⟨_, rfl, fun _ F34 => ?_⟩
     have S33 : Mv _ _ [ow 53 2 encC okC (.slice r0_a_33 r0_n_33 r0_c_33) (delKey s key), bx b1 [.string key] 9] _ := At.frame T26.at' [1, 0] rfl m33
     obtain ⟨lo33_0, lp33_0, lq33_0⟩ := At.ownInv S33.at' ET_26.hk 0 rfl
     clear m33
     refine l_op (f_as F34 rfl rfl rfl rfl rfl fun _ F35 => ?_)
     have F36 : Fr 37 [(0, .slice r0_a_33 r0_n_33 r0_c_33), (4, .pointer (some ⟨b1, 0, none⟩)), (2, .string val)] _ := F35.cut rfl
     clear F25 F31 F32 F34 F35
     refine s_end (x_normal (wp_seq (wp_seq (wp_region_lit (l_op (f_mv F36 rfl rfl rfl rfl rfl fun _ F37 => ?_))))))
     refine l_op (f_val F37 rfl rfl (r_cmps (b := (decide (val = (⟨#[]⟩ : ByteArray)))) (.inl rfl) rfl (F37.ev 20 rfl) rfl rfl) rfl fun _ F38 => ?_)
     have F39 : Fr 37 [(21, .bool (decide (val = (⟨#[]⟩ : ByteArray)))), (0, .slice r0_a_33 r0_n_33 r0_c_33), (4, .pointer (some ⟨b1, 0, none⟩)), (2, .string val)] _ := F38.cut rfl
     clear F36 F37 F38
     refine s_end (x_normal (x_cond (p := val = (⟨#[]⟩ : ByteArray)) (F39.ev 21 rfl) (fun h40 => ?_) (fun h40 => ?_)))
     · skip
       refine wp_seq (wp_region_lit (l_op (f_mv F39 rfl rfl rfl rfl rfl fun _ F41 => ?_)))
       refine l_op (f_as F41 rfl rfl rfl rfl rfl fun _ F42 => ?_)
       have F43 : Fr 37 [(6, .slice r0_a_33 r0_n_33 r0_c_33)] _ := F42.cut rfl
       clear F39 F41 F42
       refine s_end (x_normal (wp_ret (x_then_ret ?_)))
       refine x_done (v := .slice r0_a_33 r0_n_33 r0_c_33) F43 (results_1 Tryd.results46 (.tmp (F43.ev 6 rfl))) ?_
       exact ⟨r0_a_33, r0_n_33, r0_c_33, rfl, (Mv.cast (Mv.pick (T5.trans (T26.trans S33)) [0] rfl) (by rw [(show (delKey s key) = (putKey s key val) from by first | exact (putKey_no (.inl (nt (by assumption)))).symm | exact (putKey_no (.inr (by omega))).symm | exact (putKey_del (nf (by assumption)) (by assumption)).symm | (rw [putKey_ins (nf (by assumption)) (by omega) (by assumption)]; first | exact insK_at rfl (by omega) | exact insK_end (by omega) (by omega)))]; all_goals rfl))⟩
     · skip
       refine wp_skip (x_normal (wp_seq (wp_region_lit (l_op (f_mv F39 rfl rfl rfl rfl rfl fun _ F44 => ?_)))))
       refine l_op (f_val F44 rfl rfl (r_makeFuncL rfl (lc (F44.ev 4 rfl) rfl)) rfl fun _ F45 => ?_)
       refine l_op (f_call F45 CF_59 rfl rfl rfl rfl (lc (F45.ev 23 rfl) (lc (F45.ev 24 rfl) rfl)) (IndexFunc_impl_put_2_c (H := fun b => ¬ fps (sel [ow 53 2 encC okC (.slice r0_a_33 r0_n_33 r0_c_33) (delKey s key), bx b1 [.string key] 9] [1]) b) (s := delKey s key) (f := key) (At.rdOff S33.at' ET_26.hk 0 rfl [1] rfl) h_key (At.pick (is := [1]) S33.at' rfl) (fun _ h => h)) ?_)
       rintro _ w46 ⟨rfl, m46, q46_0⟩
       refine ⟨_, rfl, fun _ F47 => ?_⟩
       have S46 : Mv _ _ [bx b1 [.string key] 9, ow 53 2 encC okC (.slice r0_a_33 r0_n_33 r0_c_33) (delKey s key)] _ := At.frame S33.at' [1] rfl m46
       clear m46
       refine l_op (f_as F47 rfl rfl rfl rfl rfl fun _ F48 => ?_)
       have F49 : Fr 37 [(7, .int .i64 (idxP (fun c : CellD => !leS c.key key) (delKey s key))), (0, .slice r0_a_33 r0_n_33 r0_c_33), (4, .pointer (some ⟨b1, 0, none⟩)), (2, .string val)] _ := F48.cut rfl
       clear F39 F44 F45 F47 F48
       refine s_end (x_normal (wp_seq (wp_seq (wp_region_lit (l_op (f_mv F49 rfl rfl rfl rfl rfl fun _ F50 => ?_))))))
       refine l_op (f_val F50 rfl rfl (r_cmp (b := decide ((idxP (fun c : CellD => !leS c.key key) (delKey s key)) < 0)) (.inr (.inr (.inl rfl))) rfl (F50.ev 26 rfl) rfl (dec_of (by omega))) rfl fun _ F51 => ?_)
       have F52 : Fr 37 [(27, .bool (decide ((idxP (fun c : CellD => !leS c.key key) (delKey s key)) < 0))), (7, .int .i64 (idxP (fun c : CellD => !leS c.key key) (delKey s key))), (0, .slice r0_a_33 r0_n_33 r0_c_33), (4, .pointer (some ⟨b1, 0, none⟩)), (2, .string val)] _ := F51.cut rfl
       clear F49 F50 F51
       refine s_end (x_normal (x_cond (p := (idxP (fun c : CellD => !leS c.key key) (delKey s key)) < 0) (F52.ev 27 rfl) (fun h53 => ?_) (fun h53 => ?_)))
       · skip
         refine wp_region_lit (l_op (f_mv F52 rfl rfl rfl rfl rfl fun _ F54 => ?_))
         refine l_op (f_val F54 rfl rfl (r_len Tryd.underlying26 rfl (F54.ev 28 rfl)) rfl fun _ F55 => ?_)
         refine l_op (f_as F55 rfl rfl rfl rfl rfl fun _ F56 => ?_)
         have F57 : Fr 37 [(7, .int .i64 ((r0_n_33 : Nat) : Int)), (0, .slice r0_a_33 r0_n_33 r0_c_33), (4, .pointer (some ⟨b1, 0, none⟩)), (2, .string val)] _ := F56.cut rfl
         clear F52 F54 F55 F56
         refine s_end (x_normal (wp_seq (wp_region_lit (l_op (f_mv F57 rfl rfl rfl rfl rfl fun _ F58 => ?_)))))
         refine l_op (f_mv F58 rfl rfl rfl rfl rfl fun _ F59 => ?_)
         refine l_op (f_val (v := .string key) F59 rfl rfl (r_loadB S46.at' 0 TI_9 rfl rfl (F59.ev 4 rfl) rfl rfl (fun _ => rfl) rfl) rfl fun _ F60 => ?_)
         refine l_op (f_mv F60 rfl rfl rfl rfl rfl fun _ F61 => ?_)
         refine l_op (f_val (v := .agg #[.string key, .string val]) F61 rfl rfl (r_build BI_53 rfl (lc (pr2 (F61.ev 32 rfl)) (lc (pr2 (F61.ev 33 rfl)) rfl)) rfl) rfl fun _ F62 => ?_)
         refine l_op (f_buildSl (ok := okC) (vs := [.agg #[.string key, .string val]]) F62 S46.at' ([(⟨key, val⟩ : CellD)]) ET_26 rfl rfl rfl rfl rfl rfl (lc (pr2 (F62.ev 34 rfl)) rfl) rfl rfl (fun x hx => (List.mem_singleton.1 hx) ▸ ⟨h_key, h_val⟩) fun b63 _ w63 F64 S63 => ?_)
         refine l_op (f_call F64 CF_61 rfl rfl rfl rfl (lc (F64.ev 30 rfl) (lc (F64.ev 31 rfl) (lc (F64.ev 35 rfl) rfl))) (slices_Insert_Simpl_Cell_impl_Cell_c (H := fun _ => True) (s := delKey s key) (i := ((r0_n_33 : Nat) : Int)) (v := (⟨key, val⟩ : CellD)) (by first | assumption | exact ⟨by omega, by omega⟩ | (unfold i64ok at *; omega)) (by have := idxP_bd (fun c : CellD => !leS c.key key) (delKey s key); have := delKey_length s key; omega) (by have := idxP_bd (fun c : CellD => !leS c.key key) (delKey s key); have := delKey_length s key; omega) (by have := idxP_bd (fun c : CellD => !leS c.key key) (delKey s key); have := delKey_length s key; omega) (At.pick (is := [2, 0]) S63.at' rfl)) ?_)
         rintro _ w65 ⟨r0_a_65, r0_n_65, r0_c_65, rfl, m65⟩
         refine ⟨_, rfl, fun _ F66 => ?_⟩
         have S65 : Mv _ _ [ow 53 2 encC okC (.slice r0_a_65 r0_n_65 r0_c_65) (insAt (delKey s key) ((r0_n_33 : Nat) : Int).toNat (⟨key, val⟩ : CellD)), bx b1 [.string key] 9] _ := At.frame S63.at' [2, 0] rfl m65
         obtain ⟨lo65_0, lp65_0, lq65_0⟩ := At.ownInv S65.at' ET_26.hk 0 rfl
         clear m65
         refine l_op (f_as F66 rfl rfl rfl rfl rfl fun _ F67 => ?_)
         have F68 : Fr 37 [(6, .slice r0_a_65 r0_n_65 r0_c_65)] _ := F67.cut rfl
         clear F57 F58 F59 F60 F61 F62 F64 F66 F67
         refine s_end (x_normal (wp_ret ?_))
         refine x_done (v := .slice r0_a_65 r0_n_65 r0_c_65) F68 (results_1 Tryd.results46 (.tmp (F68.ev 6 rfl))) ?_
         exact ⟨r0_a_65, r0_n_65, r0_c_65, rfl, (Mv.cast (Mv.pick (T5.trans (T26.trans (S33.trans (S46.trans (S63.trans S65))))) [0] rfl) (by rw [(show (insAt (delKey s key) ((r0_n_33 : Nat) : Int).toNat (⟨key, val⟩ : CellD)) = (putKey s key val) from by first | exact (putKey_no (.inl (nt (by assumption)))).symm | exact (putKey_no (.inr (by omega))).symm | exact (putKey_del (nf (by assumption)) (by assumption)).symm | (rw [putKey_ins (nf (by assumption)) (by omega) (by assumption)]; first | exact insK_at rfl (by omega) | exact insK_end (by omega) (by omega)))]; all_goals rfl))⟩
       · skip
         refine wp_skip (x_normal (wp_seq (wp_region_lit (l_op (f_mv F52 rfl rfl rfl rfl rfl fun _ F69 => ?_)))))
         refine l_op (f_mv F69 rfl rfl rfl rfl rfl fun _ F70 => ?_)
         refine l_op (f_val (v := .string key) F70 rfl rfl (r_loadB S46.at' 0 TI_9 rfl rfl (F70.ev 4 rfl) rfl rfl (fun _ => rfl) rfl) rfl fun _ F71 => ?_)
         refine l_op (f_mv F71 rfl rfl rfl rfl rfl fun _ F72 => ?_)
         refine l_op (f_val (v := .agg #[.string key, .string val]) F72 rfl rfl (r_build BI_53 rfl (lc (pr2 (F72.ev 32 rfl)) (lc (pr2 (F72.ev 33 rfl)) rfl)) rfl) rfl fun _ F73 => ?_)
         refine l_op (f_buildSl (ok := okC) (vs := [.agg #[.string key, .string val]]) F73 S46.at' ([(⟨key, val⟩ : CellD)]) ET_26 rfl rfl rfl rfl rfl rfl (lc (pr2 (F73.ev 34 rfl)) rfl) rfl rfl (fun x hx => (List.mem_singleton.1 hx) ▸ ⟨h_key, h_val⟩) fun b74 _ w74 F75 S74 => ?_)
         refine l_op (f_call F75 CF_61 rfl rfl rfl rfl (lc (F75.ev 30 rfl) (lc (F75.ev 31 rfl) (lc (F75.ev 35 rfl) rfl))) (slices_Insert_Simpl_Cell_impl_Cell_c (H := fun _ => True) (s := delKey s key) (i := (idxP (fun c : CellD => !leS c.key key) (delKey s key))) (v := (⟨key, val⟩ : CellD)) (by first | assumption | exact ⟨by omega, by omega⟩ | (unfold i64ok at *; omega)) (by have := idxP_bd (fun c : CellD => !leS c.key key) (delKey s key); have := delKey_length s key; omega) (by have := idxP_bd (fun c : CellD => !leS c.key key) (delKey s key); have := delKey_length s key; omega) (by have := idxP_bd (fun c : CellD => !leS c.key key) (delKey s key); have := delKey_length s key; omega) (At.pick (is := [2, 0]) S74.at' rfl)) ?_)
         rintro _ w76 ⟨r0_a_76, r0_n_76, r0_c_76, rfl, m76⟩
         refine ⟨_, rfl, fun _ F77 => ?_⟩
         have S76 : Mv _ _ [ow 53 2 encC okC (.slice r0_a_76 r0_n_76 r0_c_76) (insAt (delKey s key) (idxP (fun c : CellD => !leS c.key key) (delKey s key)).toNat (⟨key, val⟩ : CellD)), bx b1 [.string key] 9] _ := At.frame S74.at' [2, 0] rfl m76
         obtain ⟨lo76_0, lp76_0, lq76_0⟩ := At.ownInv S76.at' ET_26.hk 0 rfl
         clear m76
         refine l_op (f_as F77 rfl rfl rfl rfl rfl fun _ F78 => ?_)
         have F79 : Fr 37 [(6, .slice r0_a_76 r0_n_76 r0_c_76)] _ := F78.cut rfl
         clear F52 F69 F70 F71 F72 F73 F75 F77 F78
         refine s_end (x_normal (wp_ret ?_))
         refine x_done (v := .slice r0_a_76 r0_n_76 r0_c_76) F79 (results_1 Tryd.results46 (.tmp (F79.ev 6 rfl))) ?_
         exact ⟨r0_a_76, r0_n_76, r0_c_76, rfl, (Mv.cast (Mv.pick (T5.trans (T26.trans (S33.trans (S46.trans (S74.trans S76))))) [0] rfl) (by rw [(show (insAt (delKey s key) (idxP (fun c : CellD => !leS c.key key) (delKey s key)).toNat (⟨key, val⟩ : CellD)) = (putKey s key val) from by first | exact (putKey_no (.inl (nt (by assumption)))).symm | exact (putKey_no (.inr (by omega))).symm | exact (putKey_del (nf (by assumption)) (by assumption)).symm | (rw [putKey_ins (nf (by assumption)) (by omega) (by assumption)]; first | exact insK_at rfl (by omega) | exact insK_end (by omega) (by omega)))]; all_goals rfl))⟩
end Go.Proofs.YtibgmijfnbnfkaaDoor
