/-
  Walks: a key is put into a store, by the program and by the reference.
-/
import Derived.Test.YtkeglhkdanenbaaGreatDoorGenP
namespace Go.Proofs.YtkeglhkdanenbaaGreatDoor
open Go.ChangeShapes Go.WideShapes Go.ChangeAt Go.RowKit
set_option maxRecDepth 100000
set_option maxHeartbeats 1000000
theorem impl_put_c {w : World} {H : Nat → Prop} {s : List CellD} {s_a : Option Addr} {s_n s_c : Nat} {key : ByteArray} {val : ByteArray} (h_key : okS key) (h_val : okS val) (p0 : s.length ≤ 274877906944) (hA : At w [ow 74 2 encC okC (.slice s_a s_n s_c) s]) :
    Calls Tryz.prog 106 #[.slice s_a s_n s_c, .string key, .string val] w fun e w' => ∃ (r0_a : Option Addr), ∃ (r0_n : Nat), ∃ (r0_c : Nat), e = .returned (.slice r0_a r0_n r0_c) ∧ Mv [ow 74 2 encC okC (.slice s_a s_n s_c) s] w [ow 74 2 encC okC (.slice r0_a r0_n r0_c) (putKey s key val)] w' := by
 have uU : True := (fun _ _ => trivial) H p0
 clear uU
 obtain ⟨lo0, lp0, lq0⟩ := At.ownInv hA ET_24.hk 0 rfl
 refine calls_enter 37 Tryz.func106 rfl Tryz.ntmps106 (Nat.le_of_ble_eq_true rfl) (fun _ F0i => ?_)
 have F0 : Fr 37 [(0, .slice s_a s_n s_c), (1, .string key), (2, .string val)] _ := F0i
 clear F0i
 refine wp_seq (wp_region_lit (l_op (f_box F0 hA rfl rfl rfl (F0.ev 1 rfl) rfl rfl fun b1 _ w1 F2 S1 => ?_)))
 refine l_op (f_val F2 rfl rfl (r_assign rfl rfl) rfl fun _ F3 => ?_)
 have F4 : Fr 37 [(6, .slice none 0 0), (4, .pointer (some ⟨b1, 0, none⟩)), (0, .slice s_a s_n s_c), (2, .string val)] _ := F3.cut rfl
 clear F0 F2 F3
 have T5 : Mv _ _ [bx b1 [.string key] 9, ow 74 2 encC okC (.slice s_a s_n s_c) s] _ := S1
 refine s_end (x_normal (wp_seq (wp_seq (wp_region_lit (l_op (f_val (v := .string key) F4 rfl rfl (r_loadB T5.at' 0 TI_9 rfl rfl (F4.ev 4 rfl) rfl rfl (fun _ => rfl) rfl) rfl fun _ F6 => ?_))))))
 refine l_op (f_call F6 CF_124 rfl rfl rfl rfl (lc (F6.ev 8 rfl) rfl) (impl_KeyOk_c (H := fun _ => True) (key := key) h_key) ?_)
 rintro _ w7 ⟨rfl, m7⟩
 refine ⟨_, rfl, fun _ F8 => ?_⟩
 have S7 := At.frame0 T5.at' m7
 clear m7
 refine l_op (f_val F8 rfl rfl (r_not rfl (F8.ev 9 rfl)) rfl fun _ F9 => ?_)
 refine l_op (f_mv F9 rfl rfl rfl rfl rfl fun _ F10 => ?_)
 rcases Bool.eq_false_or_eq_true (!(keyOk key)) with h11 | h11
 · rw [h11] at F10
   refine l_op (f_skip F10 (wanted_g F10 rfl rfl rfl rfl) rfl rfl fun _ F12 => ?_)
   refine l_op (f_skip F12 (wanted_g F12 rfl rfl rfl rfl) rfl rfl fun _ F13 => ?_)
   refine l_op (f_skip F13 (wanted_g F13 rfl rfl rfl rfl) rfl rfl fun _ F14 => ?_)
   refine l_op (f_val F14 rfl rfl (r_pick (b := true) rfl (F14.ev 11 rfl) rfl) rfl fun _ F15 => ?_)
   have F16 : Fr 37 [(15, .bool true), (4, .pointer (some ⟨b1, 0, none⟩)), (0, .slice s_a s_n s_c), (2, .string val)] _ := F15.cut rfl
   clear F4 F6 F8 F9 F10 F12 F13 F14 F15
   have T17 : Mv _ _ [bx b1 [.string key] 9, ow 74 2 encC okC (.slice s_a s_n s_c) s] _ := S7
   refine s_end (x_normal (wp_cond_true (F16.ev 15 rfl) (wp_seq (wp_region_lit (l_op (f_mv F16 rfl rfl rfl rfl rfl fun _ F18 => ?_))))))
   refine l_op (f_as F18 rfl rfl rfl rfl rfl fun _ F19 => ?_)
   have F20 : Fr 37 [(6, .slice s_a s_n s_c)] _ := F19.cut rfl
   clear F16 F18 F19
   refine s_end (x_normal (wp_ret (x_then_ret ?_)))
   refine x_done (v := .slice s_a s_n s_c) F20 (results_1 Tryz.results106 (.tmp (F20.ev 6 rfl))) ?_
   exact ⟨s_a, s_n, s_c, rfl, (Mv.cast (Mv.pick (T5.trans T17) [1] rfl) (by rw [← (show s = (putKey s key val) from by first | exact (putKey_no (.inl (nt (by assumption)))).symm | exact (putKey_no (.inr (by omega))).symm | exact (putKey_del (nf (by assumption)) (by assumption)).symm | (rw [putKey_ins (nf (by assumption)) (by omega) (by assumption)]; first | exact insK_at rfl (by omega) | exact insK_end (by omega) (by omega)))]; all_goals rfl))⟩
 · rw [h11] at F10
   refine l_op (f_mv F10 (wanted_g F10 rfl rfl rfl rfl) rfl rfl rfl rfl fun _ F21 => ?_)
   refine l_op (f_val F21 (wanted_g F21 rfl rfl rfl rfl) rfl (r_lenS (fun t ht => by cases ht; exact Tryz.underlying9) rfl rfl (F21.ev 12 rfl)) rfl fun _ F22 => ?_)
   refine l_op (f_val F22 (wanted_g F22 rfl rfl rfl rfl) rfl (r_cmp (b := decide (val.size > 60)) (.inr (.inr (.inr (.inr (.inl rfl))))) rfl (F22.ev 13 rfl) rfl (dec_of (by omega))) rfl fun _ F23 => ?_)
   refine l_op (f_val F23 rfl rfl (r_pick (b := false) rfl (F23.ev 11 rfl) (F23.ev 14 rfl)) rfl fun _ F24 => ?_)
   have F25 : Fr 37 [(15, .bool (decide (val.size > 60))), (4, .pointer (some ⟨b1, 0, none⟩)), (0, .slice s_a s_n s_c), (2, .string val)] _ := F24.cut rfl
   clear F4 F6 F8 F9 F10 F21 F22 F23 F24
   have T26 : Mv _ _ [bx b1 [.string key] 9, ow 74 2 encC okC (.slice s_a s_n s_c) s] _ := S7
   refine s_end (x_normal (x_cond (p := val.size > 60) (F25.ev 15 rfl) (fun h27 => ?_) (fun h27 => ?_)))
   · skip
     refine wp_seq (wp_region_lit (l_op (f_mv F25 rfl rfl rfl rfl rfl fun _ F28 => ?_)))
     refine l_op (f_as F28 rfl rfl rfl rfl rfl fun _ F29 => ?_)
     have F30 : Fr 37 [(6, .slice s_a s_n s_c)] _ := F29.cut rfl
     clear F25 F28 F29
     refine s_end (x_normal (wp_ret (x_then_ret ?_)))
     refine x_done (v := .slice s_a s_n s_c) F30 (results_1 Tryz.results106 (.tmp (F30.ev 6 rfl))) ?_
     exact ⟨s_a, s_n, s_c, rfl, (Mv.cast (Mv.pick (T5.trans T26) [1] rfl) (by rw [← (show s = (putKey s key val) from by first | exact (putKey_no (.inl (nt (by assumption)))).symm | exact (putKey_no (.inr (by omega))).symm | exact (putKey_del (nf (by assumption)) (by assumption)).symm | (rw [putKey_ins (nf (by assumption)) (by omega) (by assumption)]; first | exact insK_at rfl (by omega) | exact insK_end (by omega) (by omega)))]; all_goals rfl))⟩
   · skip
     refine wp_skip (x_normal (wp_seq (wp_region_lit (l_op (f_mv F25 rfl rfl rfl rfl rfl fun _ F31 => ?_)))))
     refine l_op (f_val F31 rfl rfl (r_makeFuncL rfl (lc (F31.ev 4 rfl) rfl)) rfl fun _ F32 => ?_)
     refine l_op (f_call F32 CF_125 rfl rfl rfl rfl (lc (F32.ev 17 rfl) (lc (F32.ev 18 rfl) rfl)) (DeleteFunc_c (H := fun _ => True) (s := s) (del := key) h_key (At.pick (is := [1, 0]) T26.at' rfl)) ?_)
     rintro _ w33 ⟨r0_a_33, r0_n_33, r0_c_33, rfl, m33⟩
     refine ⟨_, rfl, fun _ F34 => ?_⟩
     have S33 : Mv _ _ [ow 74 2 encC okC (.slice r0_a_33 r0_n_33 r0_c_33) (delKey s key), bx b1 [.string key] 9] _ := At.frame T26.at' [1, 0] rfl m33
     obtain ⟨lo33_0, lp33_0, lq33_0⟩ := At.ownInv S33.at' ET_24.hk 0 rfl
     clear m33
     refine l_op (f_as F34 rfl rfl rfl rfl rfl fun _ F35 => ?_)
     have F36 : Fr 37 [(0, .slice r0_a_33 r0_n_33 r0_c_33), (4, .pointer (some ⟨b1, 0, none⟩)), (2, .string val)] _ := F35.cut rfl
     clear F25 F31 F32 F34 F35
     refine s_end (x_normal (wp_seq (wp_seq (wp_region_lit (l_op (f_mv F36 rfl rfl rfl rfl rfl fun _ F37 => ?_))))))
     refine l_op (f_val F37 rfl rfl (r_cmps (b := (decide (val = (⟨#[]⟩ : ByteArray)))) (.inl rfl) rfl (F37.ev 20 rfl) rfl rfl) rfl fun _ F38 => ?_)
     have F39 : Fr 37 [(21, .bool (decide (val = (⟨#[]⟩ : ByteArray)))), (0, .slice r0_a_33 r0_n_33 r0_c_33), (4, .pointer (some ⟨b1, 0, none⟩)), (2, .string val)] _ := F38.cut rfl
     clear F36 F37 F38
     refine s_end (x_normal (x_cond (p := val = (⟨#[]⟩ : ByteArray)) (F39.ev 21 rfl) (fun h40 => ?_) (fun h40 => ?_)))
     · skip
       refine wp_seq (wp_region_lit (l_op (f_mv F39 rfl rfl rfl rfl rfl fun _ F41 => ?_)))
       refine l_op (f_as F41 rfl rfl rfl rfl rfl fun _ F42 => ?_)
       have F43 : Fr 37 [(6, .slice r0_a_33 r0_n_33 r0_c_33)] _ := F42.cut rfl
       clear F39 F41 F42
       refine s_end (x_normal (wp_ret (x_then_ret ?_)))
       refine x_done (v := .slice r0_a_33 r0_n_33 r0_c_33) F43 (results_1 Tryz.results106 (.tmp (F43.ev 6 rfl))) ?_
       exact ⟨r0_a_33, r0_n_33, r0_c_33, rfl, (Mv.cast (Mv.pick (T5.trans (T26.trans S33)) [0] rfl) (by rw [(show (delKey s key) = (putKey s key val) from by first | exact (putKey_no (.inl (nt (by assumption)))).symm | exact (putKey_no (.inr (by omega))).symm | exact (putKey_del (nf (by assumption)) (by assumption)).symm | (rw [putKey_ins (nf (by assumption)) (by omega) (by assumption)]; first | exact insK_at rfl (by omega) | exact insK_end (by omega) (by omega)))]; all_goals rfl))⟩
     · skip
       refine wp_skip (x_normal (wp_seq (wp_region_lit (l_op (f_mv F39 rfl rfl rfl rfl rfl fun _ F44 => ?_)))))
       refine l_op (f_val F44 rfl rfl (r_makeFuncL rfl (lc (F44.ev 4 rfl) rfl)) rfl fun _ F45 => ?_)
       refine l_op (f_call F45 CF_127 rfl rfl rfl rfl (lc (F45.ev 23 rfl) (lc (F45.ev 24 rfl) rfl)) (IndexFunc_impl_put_2_c (H := fun b => ¬ fps (sel [ow 74 2 encC okC (.slice r0_a_33 r0_n_33 r0_c_33) (delKey s key), bx b1 [.string key] 9] [1]) b) (s := delKey s key) (f := key) (At.rdOff S33.at' ET_24.hk 0 rfl [1] rfl) h_key (At.pick (is := [1]) S33.at' rfl) (fun _ h => h)) ?_)
       rintro _ w46 ⟨rfl, m46, q46_0⟩
       refine ⟨_, rfl, fun _ F47 => ?_⟩
       have S46 : Mv _ _ [bx b1 [.string key] 9, ow 74 2 encC okC (.slice r0_a_33 r0_n_33 r0_c_33) (delKey s key)] _ := At.frame S33.at' [1] rfl m46
       clear m46
       refine l_op (f_as F47 rfl rfl rfl rfl rfl fun _ F48 => ?_)
       have F49 : Fr 37 [(7, .int .i64 (idxP (fun c : CellD => !leS c.key key) (delKey s key))), (0, .slice r0_a_33 r0_n_33 r0_c_33), (4, .pointer (some ⟨b1, 0, none⟩)), (2, .string val)] _ := F48.cut rfl
       clear F39 F44 F45 F47 F48
       refine s_end (x_normal (wp_seq (wp_seq (wp_region_lit (l_op (f_mv F49 rfl rfl rfl rfl rfl fun _ F50 => ?_))))))
       refine l_op (f_val F50 rfl rfl (r_cmp (b := decide ((idxP (fun c : CellD => !leS c.key key) (delKey s key)) < 0)) (.inr (.inr (.inl rfl))) rfl (F50.ev 26 rfl) rfl (dec_of (by omega))) rfl fun _ F51 => ?_)
       have F52 : Fr 37 [(27, .bool (decide ((idxP (fun c : CellD => !leS c.key key) (delKey s key)) < 0))), (7, .int .i64 (idxP (fun c : CellD => !leS c.key key) (delKey s key))), (0, .slice r0_a_33 r0_n_33 r0_c_33), (4, .pointer (some ⟨b1, 0, none⟩)), (2, .string val)] _ := F51.cut rfl
       clear F49 F50 F51
       refine s_end (x_normal (x_cond (p := (idxP (fun c : CellD => !leS c.key key) (delKey s key)) < 0) (F52.ev 27 rfl) (fun h53 => ?_) (fun h53 => ?_)))
       · skip
         refine wp_region_lit (l_op (f_mv F52 rfl rfl rfl rfl rfl fun _ F54 => ?_))
         refine l_op (f_val F54 rfl rfl (r_len Tryz.underlying24 rfl (F54.ev 28 rfl)) rfl fun _ F55 => ?_)
         refine l_op (f_as F55 rfl rfl rfl rfl rfl fun _ F56 => ?_)
         have F57 : Fr 37 [(7, .int .i64 ((r0_n_33 : Nat) : Int)), (0, .slice r0_a_33 r0_n_33 r0_c_33), (4, .pointer (some ⟨b1, 0, none⟩)), (2, .string val)] _ := F56.cut rfl
         clear F52 F54 F55 F56
         refine s_end (x_normal (wp_seq (wp_region_lit (l_op (f_mv F57 rfl rfl rfl rfl rfl fun _ F58 => ?_)))))
         refine l_op (f_mv F58 rfl rfl rfl rfl rfl fun _ F59 => ?_)
         refine l_op (f_val (v := .string key) F59 rfl rfl (r_loadB S46.at' 0 TI_9 rfl rfl (F59.ev 4 rfl) rfl rfl (fun _ => rfl) rfl) rfl fun _ F60 => ?_)
         refine l_op (f_mv F60 rfl rfl rfl rfl rfl fun _ F61 => ?_)
         refine l_op (f_val (v := .agg #[.string key, .string val]) F61 rfl rfl (r_build BI_74 rfl (lc (pr2 (F61.ev 32 rfl)) (lc (pr2 (F61.ev 33 rfl)) rfl)) rfl) rfl fun _ F62 => ?_)
         refine l_op (f_buildSl (ok := okC) (vs := [.agg #[.string key, .string val]]) F62 S46.at' ([(⟨key, val⟩ : CellD)]) ET_24 rfl rfl rfl rfl rfl rfl (lc (pr2 (F62.ev 34 rfl)) rfl) rfl rfl (fun x hx => (List.mem_singleton.1 hx) ▸ ⟨h_key, h_val⟩) fun b63 _ w63 F64 S63 => ?_)
         refine l_op (f_call F64 CF_129 rfl rfl rfl rfl (lc (F64.ev 30 rfl) (lc (F64.ev 31 rfl) (lc (F64.ev 35 rfl) rfl))) (slices_Insert_Simpl_Cell_impl_Cell_c (H := fun _ => True) (s := delKey s key) (i := ((r0_n_33 : Nat) : Int)) (v := (⟨key, val⟩ : CellD)) (by first | assumption | exact ⟨by omega, by omega⟩ | (unfold i64ok at *; omega)) (by have := idxP_bd (fun c : CellD => !leS c.key key) (delKey s key); have := delKey_length s key; omega) (by have := idxP_bd (fun c : CellD => !leS c.key key) (delKey s key); have := delKey_length s key; omega) (by have := idxP_bd (fun c : CellD => !leS c.key key) (delKey s key); have := delKey_length s key; omega) (At.pick (is := [2, 0]) S63.at' rfl)) ?_)
         rintro _ w65 ⟨r0_a_65, r0_n_65, r0_c_65, rfl, m65⟩
         refine ⟨_, rfl, fun _ F66 => ?_⟩
         have S65 : Mv _ _ [ow 74 2 encC okC (.slice r0_a_65 r0_n_65 r0_c_65) (insAt (delKey s key) ((r0_n_33 : Nat) : Int).toNat (⟨key, val⟩ : CellD)), bx b1 [.string key] 9] _ := At.frame S63.at' [2, 0] rfl m65
         obtain ⟨lo65_0, lp65_0, lq65_0⟩ := At.ownInv S65.at' ET_24.hk 0 rfl
         clear m65
         refine l_op (f_as F66 rfl rfl rfl rfl rfl fun _ F67 => ?_)
         have F68 : Fr 37 [(6, .slice r0_a_65 r0_n_65 r0_c_65)] _ := F67.cut rfl
         clear F57 F58 F59 F60 F61 F62 F64 F66 F67
         refine s_end (x_normal (wp_ret ?_))
         refine x_done (v := .slice r0_a_65 r0_n_65 r0_c_65) F68 (results_1 Tryz.results106 (.tmp (F68.ev 6 rfl))) ?_
         exact ⟨r0_a_65, r0_n_65, r0_c_65, rfl, (Mv.cast (Mv.pick (T5.trans (T26.trans (S33.trans (S46.trans (S63.trans S65))))) [0] rfl) (by rw [(show (insAt (delKey s key) ((r0_n_33 : Nat) : Int).toNat (⟨key, val⟩ : CellD)) = (putKey s key val) from by first | exact (putKey_no (.inl (nt (by assumption)))).symm | exact (putKey_no (.inr (by omega))).symm | exact (putKey_del (nf (by assumption)) (by assumption)).symm | (rw [putKey_ins (nf (by assumption)) (by omega) (by assumption)]; first | exact insK_at rfl (by omega) | exact insK_end (by omega) (by omega)))]; all_goals rfl))⟩
       · skip
         refine wp_skip (x_normal (wp_seq (wp_region_lit (l_op (f_mv F52 rfl rfl rfl rfl rfl fun _ F69 => ?_)))))
         refine l_op (f_mv F69 rfl rfl rfl rfl rfl fun _ F70 => ?_)
         refine l_op (f_val (v := .string key) F70 rfl rfl (r_loadB S46.at' 0 TI_9 rfl rfl (F70.ev 4 rfl) rfl rfl (fun _ => rfl) rfl) rfl fun _ F71 => ?_)
         refine l_op (f_mv F71 rfl rfl rfl rfl rfl fun _ F72 => ?_)
         refine l_op (f_val (v := .agg #[.string key, .string val]) F72 rfl rfl (r_build BI_74 rfl (lc (pr2 (F72.ev 32 rfl)) (lc (pr2 (F72.ev 33 rfl)) rfl)) rfl) rfl fun _ F73 => ?_)
         refine l_op (f_buildSl (ok := okC) (vs := [.agg #[.string key, .string val]]) F73 S46.at' ([(⟨key, val⟩ : CellD)]) ET_24 rfl rfl rfl rfl rfl rfl (lc (pr2 (F73.ev 34 rfl)) rfl) rfl rfl (fun x hx => (List.mem_singleton.1 hx) ▸ ⟨h_key, h_val⟩) fun b74 _ w74 F75 S74 => ?_)
         refine l_op (f_call F75 CF_129 rfl rfl rfl rfl (lc (F75.ev 30 rfl) (lc (F75.ev 31 rfl) (lc (F75.ev 35 rfl) rfl))) (slices_Insert_Simpl_Cell_impl_Cell_c (H := fun _ => True) (s := delKey s key) (i := (idxP (fun c : CellD => !leS c.key key) (delKey s key))) (v := (⟨key, val⟩ : CellD)) (by first | assumption | exact ⟨by omega, by omega⟩ | (unfold i64ok at *; omega)) (by have := idxP_bd (fun c : CellD => !leS c.key key) (delKey s key); have := delKey_length s key; omega) (by have := idxP_bd (fun c : CellD => !leS c.key key) (delKey s key); have := delKey_length s key; omega) (by have := idxP_bd (fun c : CellD => !leS c.key key) (delKey s key); have := delKey_length s key; omega) (At.pick (is := [2, 0]) S74.at' rfl)) ?_)
         rintro _ w76 ⟨r0_a_76, r0_n_76, r0_c_76, rfl, m76⟩
         refine ⟨_, rfl, fun _ F77 => ?_⟩
         have S76 : Mv _ _ [ow 74 2 encC okC (.slice r0_a_76 r0_n_76 r0_c_76) (insAt (delKey s key) (idxP (fun c : CellD => !leS c.key key) (delKey s key)).toNat (⟨key, val⟩ : CellD)), bx b1 [.string key] 9] _ := At.frame S74.at' [2, 0] rfl m76
         obtain ⟨lo76_0, lp76_0, lq76_0⟩ := At.ownInv S76.at' ET_24.hk 0 rfl
         clear m76
         refine l_op (f_as F77 rfl rfl rfl rfl rfl fun _ F78 => ?_)
         have F79 : Fr 37 [(6, .slice r0_a_76 r0_n_76 r0_c_76)] _ := F78.cut rfl
         clear F52 F69 F70 F71 F72 F73 F75 F77 F78
         refine s_end (x_normal (wp_ret ?_))
         refine x_done (v := .slice r0_a_76 r0_n_76 r0_c_76) F79 (results_1 Tryz.results106 (.tmp (F79.ev 6 rfl))) ?_
         exact ⟨r0_a_76, r0_n_76, r0_c_76, rfl, (Mv.cast (Mv.pick (T5.trans (T26.trans (S33.trans (S46.trans (S74.trans S76))))) [0] rfl) (by rw [(show (insAt (delKey s key) (idxP (fun c : CellD => !leS c.key key) (delKey s key)).toNat (⟨key, val⟩ : CellD)) = (putKey s key val) from by first | exact (putKey_no (.inl (nt (by assumption)))).symm | exact (putKey_no (.inr (by omega))).symm | exact (putKey_del (nf (by assumption)) (by assumption)).symm | (rw [putKey_ins (nf (by assumption)) (by omega) (by assumption)]; first | exact insK_at rfl (by omega) | exact insK_end (by omega) (by omega)))]; all_goals rfl))⟩
theorem spec_PutKey_c {w : World} {H : Nat → Prop} {s : List CellD} {s_a : Option Addr} {s_n s_c : Nat} {key : ByteArray} {val : ByteArray} (v_s : Rd 2 encC okC H w (.slice s_a s_n s_c) s) (h_key : okS key) (h_val : okS val) (p0 : s_n ≤ 274877906944) :
    Calls Tryz.prog 103 #[.slice s_a s_n s_c, .string key, .string val] w fun e w' => ∃ (r0_a : Option Addr), ∃ (r0_n : Nat), ∃ (r0_c : Nat), e = .returned (.slice r0_a r0_n r0_c) ∧ Mv [] w [ow 74 2 encC okC (.slice r0_a r0_n r0_c) (putKey s key val)] w' := by
 have uU : True := (fun _ => trivial) p0
 clear uU
 have V_v_s : Rd 2 encC okC (V H w []) w (.slice s_a s_n s_c) s := Rd.start v_s (fun _ _ => fps_nil _)
 obtain ⟨ln_s, le_s, mx_s, ni_s⟩ := Rd.inv v_s
 refine calls_enter 70 Tryz.func103 rfl Tryz.ntmps103 (Nat.le_of_ble_eq_true rfl) (fun _ F0i => ?_)
 have F0 : Fr 70 [(0, .slice s_a s_n s_c), (1, .string key), (2, .string val)] _ := F0i
 clear F0i
 refine wp_seq (wp_region_lit (l_op (f_val F0 rfl rfl (r_assign rfl rfl) rfl fun _ F1 => ?_)))
 have F2 : Fr 70 [(6, .slice none 0 0), (0, .slice s_a s_n s_c), (1, .string key), (2, .string val)] _ := F1.cut rfl
 clear F0 F1
 refine s_end (x_normal (wp_seq (wp_region_lit (l_op (f_buildSl (ok := okC) (vs := []) F2 (At.nil w) (([] : List CellD)) ET_24 rfl rfl rfl rfl rfl rfl rfl rfl rfl (by simp) fun b3 _ w3 F4 S3 => ?_)))))
 refine l_op (f_as F4 rfl rfl rfl rfl rfl fun _ F5 => ?_)
 have F6 : Fr 70 [(7, .slice (some ⟨b3, 0, none⟩) 0 0), (0, .slice s_a s_n s_c), (1, .string key), (2, .string val)] _ := F5.cut rfl
 clear F2 F4 F5
 have T7 : Mv _ _ [ow 74 2 encC okC (.slice (some ⟨b3, 0, none⟩) 0 0) ([] : List CellD)] _ := S3
 refine s_end (x_normal (wp_seq (wp_seq (wp_region_lit (l_op (f_mv F6 rfl rfl rfl rfl rfl fun _ F8 => ?_))))))
 refine l_op (f_call F8 CF_122 rfl rfl rfl rfl (lc (F8.ev 11 rfl) rfl) (spec_KeyOk_c (H := fun _ => True) (key := key) h_key) ?_)
 rintro _ w9 ⟨rfl, m9⟩
 refine ⟨_, rfl, fun _ F10 => ?_⟩
 have S9 := At.frame0 T7.at' m9
 clear m9
 refine l_op (f_val F10 rfl rfl (r_not rfl (F10.ev 12 rfl)) rfl fun _ F11 => ?_)
 refine l_op (f_mv F11 rfl rfl rfl rfl rfl fun _ F12 => ?_)
 rcases Bool.eq_false_or_eq_true (!(keyOk key)) with h13 | h13
 · rw [h13] at F12
   refine l_op (f_skip F12 (wanted_g F12 rfl rfl rfl rfl) rfl rfl fun _ F14 => ?_)
   refine l_op (f_skip F14 (wanted_g F14 rfl rfl rfl rfl) rfl rfl fun _ F15 => ?_)
   refine l_op (f_skip F15 (wanted_g F15 rfl rfl rfl rfl) rfl rfl fun _ F16 => ?_)
   refine l_op (f_val F16 rfl rfl (r_pick (b := true) rfl (F16.ev 14 rfl) rfl) rfl fun _ F17 => ?_)
   have F18 : Fr 70 [(18, .bool true), (7, .slice (some ⟨b3, 0, none⟩) 0 0), (0, .slice s_a s_n s_c), (1, .string key), (2, .string val)] _ := F17.cut rfl
   clear F6 F8 F10 F11 F12 F14 F15 F16 F17
   have T19 : Mv _ _ [ow 74 2 encC okC (.slice (some ⟨b3, 0, none⟩) 0 0) ([] : List CellD)] _ := S9
   refine s_end (x_normal (wp_cond_true (F18.ev 18 rfl) (wp_seq (wp_region_lit (l_op (f_mv F18 rfl rfl rfl rfl rfl fun _ F20 => ?_))))))
   refine l_op (f_mv F20 rfl rfl rfl rfl rfl fun _ F21 => ?_)
   refine l_op (f_app (news := s) F21 T19.at' 0 ET_24 rfl rfl rfl rfl rfl rfl (F21.ev 19 rfl) (F21.ev 20 rfl) ((Rd.mv (Nat.succ_pos _) V_v_s (T7.trans T19))).1 (by ((repeat (first | rw [List.length_append] | rw [List.length_cons] | rw [List.length_nil] | rw [List.length_take] | rw [List.length_drop])) <;> omega)) fun A22 N22 C22 _ w22 F23 S22 l22 => ?_)
   refine l_op (f_as F23 rfl rfl rfl rfl rfl fun _ F24 => ?_)
   have F25 : Fr 70 [(6, .slice A22 N22 C22)] _ := F24.cut rfl
   clear F18 F20 F21 F23 F24
   have T26 : Mv _ _ [ow 74 2 encC okC (.slice A22 N22 C22) (([] : List CellD) ++ s)] _ := S22
   refine s_end (x_normal (wp_ret (x_then_ret ?_)))
   refine x_done (v := .slice A22 N22 C22) F25 (results_1 Tryz.results103 (.tmp (F25.ev 6 rfl))) ?_
   exact ⟨A22, N22, C22, rfl, (Mv.cast (Mv.pick (T7.trans (T19.trans T26)) [0] rfl) (by rw [(show (([] : List CellD) ++ s) = (putKey s key val) from by first | exact (List.nil_append _).trans (putKey_no (.inl (nt (by assumption)))).symm | exact (List.nil_append _).trans (putKey_no (.inr (by omega))).symm | (rw [← putF_end hk_1 (by omega) (nf (by assumption)) (by omega)]; first | rw [if_pos (nt (by assumption))] | rw [if_neg (ne_false_of_eq_true (nf (by assumption))), List.append_nil]))]; all_goals rfl))⟩
 · rw [h13] at F12
   refine l_op (f_mv F12 (wanted_g F12 rfl rfl rfl rfl) rfl rfl rfl rfl fun _ F27 => ?_)
   refine l_op (f_val F27 (wanted_g F27 rfl rfl rfl rfl) rfl (r_lenS (fun t ht => by cases ht; exact Tryz.underlying9) rfl rfl (F27.ev 15 rfl)) rfl fun _ F28 => ?_)
   refine l_op (f_val F28 (wanted_g F28 rfl rfl rfl rfl) rfl (r_cmp (b := decide (val.size > 60)) (.inr (.inr (.inr (.inr (.inl rfl))))) rfl (F28.ev 16 rfl) rfl (dec_of (by omega))) rfl fun _ F29 => ?_)
   refine l_op (f_val F29 rfl rfl (r_pick (b := false) rfl (F29.ev 14 rfl) (F29.ev 17 rfl)) rfl fun _ F30 => ?_)
   have F31 : Fr 70 [(18, .bool (decide (val.size > 60))), (7, .slice (some ⟨b3, 0, none⟩) 0 0), (0, .slice s_a s_n s_c), (1, .string key), (2, .string val)] _ := F30.cut rfl
   clear F6 F8 F10 F11 F12 F27 F28 F29 F30
   have T32 : Mv _ _ [ow 74 2 encC okC (.slice (some ⟨b3, 0, none⟩) 0 0) ([] : List CellD)] _ := S9
   refine s_end (x_normal (x_cond (p := val.size > 60) (F31.ev 18 rfl) (fun h33 => ?_) (fun h33 => ?_)))
   · skip
     refine wp_seq (wp_region_lit (l_op (f_mv F31 rfl rfl rfl rfl rfl fun _ F34 => ?_)))
     refine l_op (f_mv F34 rfl rfl rfl rfl rfl fun _ F35 => ?_)
     refine l_op (f_app (news := s) F35 T32.at' 0 ET_24 rfl rfl rfl rfl rfl rfl (F35.ev 19 rfl) (F35.ev 20 rfl) ((Rd.mv (Nat.succ_pos _) V_v_s (T7.trans T32))).1 (by ((repeat (first | rw [List.length_append] | rw [List.length_cons] | rw [List.length_nil] | rw [List.length_take] | rw [List.length_drop])) <;> omega)) fun A36 N36 C36 _ w36 F37 S36 l36 => ?_)
     refine l_op (f_as F37 rfl rfl rfl rfl rfl fun _ F38 => ?_)
     have F39 : Fr 70 [(6, .slice A36 N36 C36)] _ := F38.cut rfl
     clear F31 F34 F35 F37 F38
     have T40 : Mv _ _ [ow 74 2 encC okC (.slice A36 N36 C36) (([] : List CellD) ++ s)] _ := S36
     refine s_end (x_normal (wp_ret (x_then_ret ?_)))
     refine x_done (v := .slice A36 N36 C36) F39 (results_1 Tryz.results103 (.tmp (F39.ev 6 rfl))) ?_
     exact ⟨A36, N36, C36, rfl, (Mv.cast (Mv.pick (T7.trans (T32.trans T40)) [0] rfl) (by rw [(show (([] : List CellD) ++ s) = (putKey s key val) from by first | exact (List.nil_append _).trans (putKey_no (.inl (nt (by assumption)))).symm | exact (List.nil_append _).trans (putKey_no (.inr (by omega))).symm | (rw [← putF_end hk_1 (by omega) (nf (by assumption)) (by omega)]; first | rw [if_pos (nt (by assumption))] | rw [if_neg (ne_false_of_eq_true (nf (by assumption))), List.append_nil]))]; all_goals rfl))⟩
   · skip
     refine wp_skip (x_normal (wp_seq (wp_region_lit (l_op (f_mv F31 rfl rfl rfl rfl rfl fun _ F41 => ?_)))))
     refine l_op (f_val F41 rfl rfl (r_cmps (b := (decide (val = (⟨#[]⟩ : ByteArray)))) (.inl rfl) rfl (F41.ev 22 rfl) rfl rfl) rfl fun _ F42 => ?_)
     refine l_op (f_as F42 rfl rfl rfl rfl rfl fun _ F43 => ?_)
     have F44 : Fr 70 [(8, .bool (decide (val = (⟨#[]⟩ : ByteArray)))), (7, .slice (some ⟨b3, 0, none⟩) 0 0), (0, .slice s_a s_n s_c), (1, .string key), (2, .string val)] _ := F43.cut rfl
     clear F31 F41 F42 F43
     refine s_end (x_normal (wp_seq (wp_seq (wp_region_lit (l_op (f_val F44 rfl rfl (r_assign rfl rfl) rfl fun _ F45 => ?_))))))
     have F46 : Fr 70 [(9, .int .i64 0), (8, .bool (decide (val = (⟨#[]⟩ : ByteArray)))), (7, .slice (some ⟨b3, 0, none⟩) 0 0), (0, .slice s_a s_n s_c), (1, .string key), (2, .string val)] _ := F45.cut rfl
     clear F44 F45
     refine s_end (x_normal (wp_block ?_))
     refine x_loop (fun (k : Nat) aZ wZ => ∃ (O : List CellD), ∃ (dd : Bool), ∃ (oa : Option Addr), ∃ (on : Nat), ∃ (oc : Nat), Fr 70 [(9, .int .i64 ((k : Nat) : Int)), (8, .bool dd), (7, .slice oa on oc), (0, .slice s_a s_n s_c), (1, .string key), (2, .string val)] aZ ∧ Mv [ow 74 2 encC okC (.slice (some ⟨b3, 0, none⟩) 0 0) ([] : List CellD)] w9 [ow 74 2 encC okC (.slice oa on oc) O] wZ ∧ (k ≤ s_n) ∧ (putF (s.take k) key val ([], decide (val = ⟨#[]⟩)) = (O, dd)) ∧ (O.length ≤ 2 * k)) (fun (k : Nat) => s_n - k) (0) ?_ ?_
     · exact ⟨([] : List CellD), (decide (val = (⟨#[]⟩ : ByteArray))), (some ⟨b3, 0, none⟩), 0, 0, F46.cut rfl, (Mv.refl T32.at'), by omega, rfl, by simp⟩
     · rintro k a47 w47 ⟨O, dd, oa, on, oc, F47, S47, hk_0, hk_1, hk_2⟩
       refine wp_seq (wp_seq (wp_region_lit (l_op (f_mv F47 rfl rfl rfl rfl rfl fun _ F48 => ?_))))
       refine l_op (f_mv F48 rfl rfl rfl rfl rfl fun _ F49 => ?_)
       refine l_op (f_val F49 rfl rfl (r_len Tryz.underlying24 rfl (F49.ev 25 rfl)) rfl fun _ F50 => ?_)
       refine l_op (f_val F50 rfl rfl (r_cmp (b := decide (k < s_n)) (.inr (.inr (.inl rfl))) rfl (F50.ev 24 rfl) (F50.ev 26 rfl) (dec_of (by omega))) rfl fun _ F51 => ?_)
       have F52 : Fr 70 [(27, .bool (decide (k < s_n))), (9, .int .i64 ((k : Nat) : Int)), (8, .bool dd), (7, .slice oa on oc), (0, .slice s_a s_n s_c), (1, .string key), (2, .string val)] _ := F51.cut rfl
       clear F47 F48 F49 F50 F51
       refine s_end (x_normal (x_cond (p := k < s_n) (F52.ev 27 rfl) (fun h53 => ?_) (fun h53 => ?_)))
       · skip
         refine wp_skip (x_normal (wp_seq (wp_block (wp_seq (wp_seq (wp_region_lit (l_op (f_mv F52 rfl rfl rfl rfl rfl fun _ F54 => ?_))))))))
         refine l_op (f_val F54 rfl rfl (r_not rfl (F54.ev 30 rfl)) rfl fun _ F55 => ?_)
         refine l_op (f_mv F55 rfl rfl rfl rfl rfl fun _ F56 => ?_)
         rcases Bool.eq_false_or_eq_true (!dd) with h57 | h57
         · rw [h57] at F56
           refine l_op (f_mv F56 (wanted_g F56 rfl rfl rfl rfl) rfl rfl rfl rfl fun _ F58 => ?_)
           refine l_op (f_mv F58 (wanted_g F58 rfl rfl rfl rfl) rfl rfl rfl rfl fun _ F59 => ?_)
           obtain ⟨B60, O60, x1, ad60, hx1, okx1, ln60, cl60⟩ := Rd.at (Rd.mv (Nat.succ_pos _) V_v_s (T7.trans (T32.trans S47))) k (by first | assumption | omega)
           clear ln60
           refine l_op (f_val F59 (wanted_g F59 rfl rfl rfl rfl) rfl (r_indexAddr (i := k) ET_24 rfl ((F59.ev 33 rfl).trans (by rw [ad60])) (F59.ev 34 rfl) (by omega) (by first | assumption | omega)) rfl fun _ F61 => ?_)
           refine l_op (f_val F61 (wanted_g F61 rfl rfl rfl rfl) rfl (r_field FI_74_0 rfl (F61.ev 35 rfl) rfl) rfl fun _ F62 => ?_)
           refine l_op (f_val (v := .string x1.key) F62 (wanted_g F62 rfl rfl rfl rfl) rfl (r_load (cs := [.string x1.key]) TI_9 rfl (F62.ev 36 rfl) rfl (fun _ => rfl) (elem_sub (f := 0) cl60 [.string x1.key] rfl)) rfl fun _ F63 => ?_)
           refine l_op (f_mv F63 (wanted_g F63 rfl rfl rfl rfl) rfl rfl rfl rfl fun _ F64 => ?_)
           refine l_op (f_val F64 (wanted_g F64 rfl rfl rfl rfl) rfl (r_cmps (b := (!leS x1.key key)) (.inr (.inr (.inr (.inr (.inl rfl))))) rfl (F64.ev 37 rfl) (F64.ev 38 rfl) rfl) rfl fun _ F65 => ?_)
           refine l_op (f_val F65 rfl rfl (r_pick (b := true) rfl (F65.ev 32 rfl) (F65.ev 39 rfl)) rfl fun _ F66 => ?_)
           have F67 : Fr 70 [(40, .bool (!leS x1.key key)), (9, .int .i64 ((k : Nat) : Int)), (8, .bool dd), (7, .slice oa on oc), (0, .slice s_a s_n s_c), (1, .string key), (2, .string val)] _ := F66.cut rfl
           clear F52 F54 F55 F56 F58 F59 F61 F62 F63 F64 F65 F66
           refine s_end (x_normal (x_condb (b := (!leS x1.key key)) (F67.ev 40 rfl) (fun h68 => ?_) (fun h68 => ?_)))
           · skip
             refine wp_seq (wp_region_lit (l_op (f_mv F67 rfl rfl rfl rfl rfl fun _ F69 => ?_)))
             refine l_op (f_mv F69 rfl rfl rfl rfl rfl fun _ F70 => ?_)
             refine l_op (f_mv F70 rfl rfl rfl rfl rfl fun _ F71 => ?_)
             refine l_op (f_val (v := .agg #[.string key, .string val]) F71 rfl rfl (r_build BI_74 rfl (lc (pr2 (F71.ev 42 rfl)) (lc (pr2 (F71.ev 43 rfl)) rfl)) rfl) rfl fun _ F72 => ?_)
             refine l_op (f_buildSl (ok := okC) (vs := [.agg #[.string key, .string val]]) F72 S47.at' ([(⟨key, val⟩ : CellD)]) ET_24 rfl rfl rfl rfl rfl rfl (lc (pr2 (F72.ev 44 rfl)) rfl) rfl rfl (fun x hx => (List.mem_singleton.1 hx) ▸ ⟨h_key, h_val⟩) fun b73 _ w73 F74 S73 => ?_)
             refine l_op (f_app (news := [(⟨key, val⟩ : CellD)]) F74 S73.at' 1 ET_24 rfl rfl rfl rfl rfl rfl (F74.ev 41 rfl) (F74.ev 45 rfl) ((At.rd S73.at' ET_24.hk 0 rfl)).1 (by ((repeat (first | rw [List.length_append] | rw [List.length_cons] | rw [List.length_nil] | rw [List.length_take] | rw [List.length_drop])) <;> omega)) fun A75 N75 C75 _ w75 F76 S75 l75 => ?_)
             have S77 := At.drop S75.at' 1
             refine l_op (f_as F76 rfl rfl rfl rfl rfl fun _ F78 => ?_)
             have F79 : Fr 70 [(7, .slice A75 N75 C75), (9, .int .i64 ((k : Nat) : Int)), (0, .slice s_a s_n s_c), (1, .string key), (2, .string val)] _ := F78.cut rfl
             clear F67 F69 F70 F71 F72 F74 F76 F78
             have T80 : Mv _ _ [ow 74 2 encC okC (.slice A75 N75 C75) (O ++ ([(⟨key, val⟩ : CellD)]))] _ := S77
             refine s_end (x_normal (wp_region_lit (l_op (f_val F79 rfl rfl (r_assign rfl rfl) rfl fun _ F81 => ?_))))
             have F82 : Fr 70 [(8, .bool true), (7, .slice A75 N75 C75), (9, .int .i64 ((k : Nat) : Int)), (0, .slice s_a s_n s_c), (1, .string key), (2, .string val)] _ := F81.cut rfl
             clear F79 F81
             refine s_end (x_normal (wp_seq (wp_region_lit (l_op (f_mv F82 rfl rfl rfl rfl rfl fun _ F83 => ?_)))))
             refine l_op (f_mv F83 rfl rfl rfl rfl rfl fun _ F84 => ?_)
             obtain ⟨B85, O85, y85, ad85, hy85, oky85, ln85, cl85⟩ := Rd.at (Rd.mv (Nat.succ_pos _) V_v_s (T7.trans (T32.trans (S47.trans (S73.trans (S75.trans T80)))))) k (by first | assumption | omega)
             clear ln85
             obtain rfl := Option.some.inj (hx1.symm.trans hy85)
             clear hy85 oky85
             refine l_op (f_val F84 rfl rfl (r_indexAddr (i := k) ET_24 rfl ((F84.ev 47 rfl).trans (by rw [ad85])) (F84.ev 48 rfl) (by omega) (by first | assumption | omega)) rfl fun _ F86 => ?_)
             refine l_op (f_val F86 rfl rfl (r_field FI_74_0 rfl (F86.ev 49 rfl) rfl) rfl fun _ F87 => ?_)
             refine l_op (f_val (v := .string x1.key) F87 rfl rfl (r_load (cs := [.string x1.key]) TI_9 rfl (F87.ev 50 rfl) rfl (fun _ => rfl) (elem_sub (f := 0) cl85 [.string x1.key] rfl)) rfl fun _ F88 => ?_)
             refine l_op (f_mv F88 rfl rfl rfl rfl rfl fun _ F89 => ?_)
             refine l_op (f_val F89 rfl rfl (r_cmps (b := (decide (x1.key ≠ key))) (.inr (.inl rfl)) rfl (F89.ev 51 rfl) (F89.ev 52 rfl) rfl) rfl fun _ F90 => ?_)
             have F91 : Fr 70 [(53, .bool (decide (x1.key ≠ key))), (8, .bool true), (7, .slice A75 N75 C75), (9, .int .i64 ((k : Nat) : Int)), (0, .slice s_a s_n s_c), (1, .string key), (2, .string val)] _ := F90.cut rfl
             clear F82 F83 F84 F86 F87 F88 F89 F90
             refine s_end (x_normal (x_cond (p := x1.key ≠ key) (F91.ev 53 rfl) (fun h92 => ?_) (fun h92 => ?_)))
             · skip
               refine wp_region_lit (l_op (f_mv F91 rfl rfl rfl rfl rfl fun _ F93 => ?_))
               refine l_op (f_mv F93 rfl rfl rfl rfl rfl fun _ F94 => ?_)
               refine l_op (f_mv F94 rfl rfl rfl rfl rfl fun _ F95 => ?_)
               obtain ⟨B96, O96, y96, ad96, hy96, oky96, ln96, cl96⟩ := Rd.at (Rd.mv (Nat.succ_pos _) V_v_s (T7.trans (T32.trans (S47.trans (S73.trans (S75.trans T80)))))) k (by first | assumption | omega)
               clear ln96
               obtain rfl := Option.some.inj (hx1.symm.trans hy96)
               clear hy96 oky96
               refine l_op (f_val F95 rfl rfl (r_indexAddr (i := k) ET_24 rfl ((F95.ev 55 rfl).trans (by rw [ad96])) (F95.ev 56 rfl) (by omega) (by first | assumption | omega)) rfl fun _ F97 => ?_)
               refine l_op (f_val (v := .agg #[.string x1.key, .string x1.val]) F97 rfl rfl (r_load (cs := [.string x1.key, .string x1.val]) TI_74 rfl (F97.ev 57 rfl) rfl (fun h => nomatch h) (elem_sub (f := 0) cl96 [.string x1.key, .string x1.val] rfl)) rfl fun _ F98 => ?_)
               refine l_op (f_buildSl (ok := okC) (vs := [.agg #[.string x1.key, .string x1.val]]) F98 T80.at' ([x1]) ET_24 rfl rfl rfl rfl rfl rfl (lc (pr2 (F98.ev 58 rfl)) rfl) rfl rfl (fun x hx => (List.mem_singleton.1 hx) ▸ ⟨okx1.1, okx1.2⟩) fun b99 _ w99 F100 S99 => ?_)
               refine l_op (f_app (news := [x1]) F100 S99.at' 1 ET_24 rfl rfl rfl rfl rfl rfl (F100.ev 54 rfl) (F100.ev 59 rfl) ((At.rd S99.at' ET_24.hk 0 rfl)).1 (by ((repeat (first | rw [List.length_append] | rw [List.length_cons] | rw [List.length_nil] | rw [List.length_take] | rw [List.length_drop])) <;> omega)) fun A101 N101 C101 _ w101 F102 S101 l101 => ?_)
               have S103 := At.drop S101.at' 1
               refine l_op (f_as F102 rfl rfl rfl rfl rfl fun _ F104 => ?_)
               have F105 : Fr 70 [(7, .slice A101 N101 C101), (8, .bool true), (9, .int .i64 ((k : Nat) : Int)), (0, .slice s_a s_n s_c), (1, .string key), (2, .string val)] _ := F104.cut rfl
               clear F91 F93 F94 F95 F97 F98 F100 F102 F104
               have T106 : Mv _ _ [ow 74 2 encC okC (.slice A101 N101 C101) ((O ++ ([(⟨key, val⟩ : CellD)])) ++ ([x1]))] _ := S103
               refine s_end (x_block_normal (x_normal (wp_region_lit (l_op (f_mv F105 rfl rfl rfl rfl rfl fun _ F107 => ?_)))))
               refine l_op (f_val F107 rfl rfl (r_add (z := ((k + 1 : Nat) : Int)) rfl (F107.ev 28 rfl) rfl (by first | rfl | omega) ⟨by first | omega | (unfold i64ok at *; omega), by first | omega | (unfold i64ok at *; omega)⟩) rfl fun _ F108 => ?_)
               refine l_op (f_as F108 rfl rfl rfl rfl rfl fun _ F109 => ?_)
               have F110 : Fr 70 [(9, .int .i64 ((k + 1 : Nat) : Int)), (7, .slice A101 N101 C101), (8, .bool true), (0, .slice s_a s_n s_c), (1, .string key), (2, .string val)] _ := F109.cut rfl
               clear F105 F107 F108 F109
               refine s_end ?_
               refine x_normal ⟨k + 1, by omega, (O ++ ([(⟨key, val⟩ : CellD)])) ++ ([x1]), true, A101, N101, C101, F110.cut rfl, ((S47.trans (S73.trans (S75.trans (T80.trans (S99.trans (S101.trans T106)))))).pick [0] rfl), by omega, by first | exact putF_a hk_1 hx1 (by assumption) (by assumption) (by assumption) | exact putF_b hk_1 hx1 (.inl (by assumption)) (by assumption) | exact putF_b hk_1 hx1 (.inr (by assumption)) (by assumption) | exact putF_c hk_1 hx1 (.inl (by assumption)) (by assumption) | exact putF_c hk_1 hx1 (.inr (by assumption)) (by assumption) | exact putF_d hk_1 hx1 (by assumption) (by assumption) (by assumption), by first | omega | ((repeat (first | rw [List.length_append] | rw [List.length_cons] | rw [List.length_nil] | rw [List.length_take] | rw [List.length_drop])) <;> omega)⟩
             · skip
               refine wp_skip (x_block_normal (x_normal (wp_region_lit (l_op (f_mv F91 rfl rfl rfl rfl rfl fun _ F111 => ?_)))))
               refine l_op (f_val F111 rfl rfl (r_add (z := ((k + 1 : Nat) : Int)) rfl (F111.ev 28 rfl) rfl (by first | rfl | omega) ⟨by first | omega | (unfold i64ok at *; omega), by first | omega | (unfold i64ok at *; omega)⟩) rfl fun _ F112 => ?_)
               refine l_op (f_as F112 rfl rfl rfl rfl rfl fun _ F113 => ?_)
               have F114 : Fr 70 [(9, .int .i64 ((k + 1 : Nat) : Int)), (8, .bool true), (7, .slice A75 N75 C75), (0, .slice s_a s_n s_c), (1, .string key), (2, .string val)] _ := F113.cut rfl
               clear F91 F111 F112 F113
               refine s_end ?_
               refine x_normal ⟨k + 1, by omega, O ++ ([(⟨key, val⟩ : CellD)]), true, A75, N75, C75, F114.cut rfl, ((S47.trans (S73.trans (S75.trans T80))).pick [0] rfl), by omega, by first | exact putF_a hk_1 hx1 (by assumption) (by assumption) (by assumption) | exact putF_b hk_1 hx1 (.inl (by assumption)) (by assumption) | exact putF_b hk_1 hx1 (.inr (by assumption)) (by assumption) | exact putF_c hk_1 hx1 (.inl (by assumption)) (by assumption) | exact putF_c hk_1 hx1 (.inr (by assumption)) (by assumption) | exact putF_d hk_1 hx1 (by assumption) (by assumption) (by assumption), by first | omega | ((repeat (first | rw [List.length_append] | rw [List.length_cons] | rw [List.length_nil] | rw [List.length_take] | rw [List.length_drop])) <;> omega)⟩
           · skip
             refine wp_skip (x_normal (wp_seq (wp_region_lit (l_op (f_mv F67 rfl rfl rfl rfl rfl fun _ F115 => ?_)))))
             refine l_op (f_mv F115 rfl rfl rfl rfl rfl fun _ F116 => ?_)
             obtain ⟨B117, O117, y117, ad117, hy117, oky117, ln117, cl117⟩ := Rd.at (Rd.mv (Nat.succ_pos _) V_v_s (T7.trans (T32.trans S47))) k (by first | assumption | omega)
             clear ln117
             obtain rfl := Option.some.inj (hx1.symm.trans hy117)
             clear hy117 oky117
             refine l_op (f_val F116 rfl rfl (r_indexAddr (i := k) ET_24 rfl ((F116.ev 47 rfl).trans (by rw [ad117])) (F116.ev 48 rfl) (by omega) (by first | assumption | omega)) rfl fun _ F118 => ?_)
             refine l_op (f_val F118 rfl rfl (r_field FI_74_0 rfl (F118.ev 49 rfl) rfl) rfl fun _ F119 => ?_)
             refine l_op (f_val (v := .string x1.key) F119 rfl rfl (r_load (cs := [.string x1.key]) TI_9 rfl (F119.ev 50 rfl) rfl (fun _ => rfl) (elem_sub (f := 0) cl117 [.string x1.key] rfl)) rfl fun _ F120 => ?_)
             refine l_op (f_mv F120 rfl rfl rfl rfl rfl fun _ F121 => ?_)
             refine l_op (f_val F121 rfl rfl (r_cmps (b := (decide (x1.key ≠ key))) (.inr (.inl rfl)) rfl (F121.ev 51 rfl) (F121.ev 52 rfl) rfl) rfl fun _ F122 => ?_)
             have F123 : Fr 70 [(53, .bool (decide (x1.key ≠ key))), (9, .int .i64 ((k : Nat) : Int)), (8, .bool dd), (7, .slice oa on oc), (0, .slice s_a s_n s_c), (1, .string key), (2, .string val)] _ := F122.cut rfl
             clear F67 F115 F116 F118 F119 F120 F121 F122
             refine s_end (x_normal (x_cond (p := x1.key ≠ key) (F123.ev 53 rfl) (fun h124 => ?_) (fun h124 => ?_)))
             · skip
               refine wp_region_lit (l_op (f_mv F123 rfl rfl rfl rfl rfl fun _ F125 => ?_))
               refine l_op (f_mv F125 rfl rfl rfl rfl rfl fun _ F126 => ?_)
               refine l_op (f_mv F126 rfl rfl rfl rfl rfl fun _ F127 => ?_)
               obtain ⟨B128, O128, y128, ad128, hy128, oky128, ln128, cl128⟩ := Rd.at (Rd.mv (Nat.succ_pos _) V_v_s (T7.trans (T32.trans S47))) k (by first | assumption | omega)
               clear ln128
               obtain rfl := Option.some.inj (hx1.symm.trans hy128)
               clear hy128 oky128
               refine l_op (f_val F127 rfl rfl (r_indexAddr (i := k) ET_24 rfl ((F127.ev 55 rfl).trans (by rw [ad128])) (F127.ev 56 rfl) (by omega) (by first | assumption | omega)) rfl fun _ F129 => ?_)
               refine l_op (f_val (v := .agg #[.string x1.key, .string x1.val]) F129 rfl rfl (r_load (cs := [.string x1.key, .string x1.val]) TI_74 rfl (F129.ev 57 rfl) rfl (fun h => nomatch h) (elem_sub (f := 0) cl128 [.string x1.key, .string x1.val] rfl)) rfl fun _ F130 => ?_)
               refine l_op (f_buildSl (ok := okC) (vs := [.agg #[.string x1.key, .string x1.val]]) F130 S47.at' ([x1]) ET_24 rfl rfl rfl rfl rfl rfl (lc (pr2 (F130.ev 58 rfl)) rfl) rfl rfl (fun x hx => (List.mem_singleton.1 hx) ▸ ⟨okx1.1, okx1.2⟩) fun b131 _ w131 F132 S131 => ?_)
               refine l_op (f_app (news := [x1]) F132 S131.at' 1 ET_24 rfl rfl rfl rfl rfl rfl (F132.ev 54 rfl) (F132.ev 59 rfl) ((At.rd S131.at' ET_24.hk 0 rfl)).1 (by ((repeat (first | rw [List.length_append] | rw [List.length_cons] | rw [List.length_nil] | rw [List.length_take] | rw [List.length_drop])) <;> omega)) fun A133 N133 C133 _ w133 F134 S133 l133 => ?_)
               have S135 := At.drop S133.at' 1
               refine l_op (f_as F134 rfl rfl rfl rfl rfl fun _ F136 => ?_)
               have F137 : Fr 70 [(7, .slice A133 N133 C133), (9, .int .i64 ((k : Nat) : Int)), (8, .bool dd), (0, .slice s_a s_n s_c), (1, .string key), (2, .string val)] _ := F136.cut rfl
               clear F123 F125 F126 F127 F129 F130 F132 F134 F136
               have T138 : Mv _ _ [ow 74 2 encC okC (.slice A133 N133 C133) (O ++ ([x1]))] _ := S135
               refine s_end (x_block_normal (x_normal (wp_region_lit (l_op (f_mv F137 rfl rfl rfl rfl rfl fun _ F139 => ?_)))))
               refine l_op (f_val F139 rfl rfl (r_add (z := ((k + 1 : Nat) : Int)) rfl (F139.ev 28 rfl) rfl (by first | rfl | omega) ⟨by first | omega | (unfold i64ok at *; omega), by first | omega | (unfold i64ok at *; omega)⟩) rfl fun _ F140 => ?_)
               refine l_op (f_as F140 rfl rfl rfl rfl rfl fun _ F141 => ?_)
               have F142 : Fr 70 [(9, .int .i64 ((k + 1 : Nat) : Int)), (7, .slice A133 N133 C133), (8, .bool dd), (0, .slice s_a s_n s_c), (1, .string key), (2, .string val)] _ := F141.cut rfl
               clear F137 F139 F140 F141
               refine s_end ?_
               refine x_normal ⟨k + 1, by omega, O ++ ([x1]), dd, A133, N133, C133, F142.cut rfl, ((S47.trans (S131.trans (S133.trans T138))).pick [0] rfl), by omega, by first | exact putF_a hk_1 hx1 (by assumption) (by assumption) (by assumption) | exact putF_b hk_1 hx1 (.inl (by assumption)) (by assumption) | exact putF_b hk_1 hx1 (.inr (by assumption)) (by assumption) | exact putF_c hk_1 hx1 (.inl (by assumption)) (by assumption) | exact putF_c hk_1 hx1 (.inr (by assumption)) (by assumption) | exact putF_d hk_1 hx1 (by assumption) (by assumption) (by assumption), by first | omega | ((repeat (first | rw [List.length_append] | rw [List.length_cons] | rw [List.length_nil] | rw [List.length_take] | rw [List.length_drop])) <;> omega)⟩
             · skip
               refine wp_skip (x_block_normal (x_normal (wp_region_lit (l_op (f_mv F123 rfl rfl rfl rfl rfl fun _ F143 => ?_)))))
               refine l_op (f_val F143 rfl rfl (r_add (z := ((k + 1 : Nat) : Int)) rfl (F143.ev 28 rfl) rfl (by first | rfl | omega) ⟨by first | omega | (unfold i64ok at *; omega), by first | omega | (unfold i64ok at *; omega)⟩) rfl fun _ F144 => ?_)
               refine l_op (f_as F144 rfl rfl rfl rfl rfl fun _ F145 => ?_)
               have F146 : Fr 70 [(9, .int .i64 ((k + 1 : Nat) : Int)), (8, .bool dd), (7, .slice oa on oc), (0, .slice s_a s_n s_c), (1, .string key), (2, .string val)] _ := F145.cut rfl
               clear F123 F143 F144 F145
               refine s_end ?_
               refine x_normal ⟨k + 1, by omega, O, dd, oa, on, oc, F146.cut rfl, (S47.pick [0] rfl), by omega, by first | exact putF_a hk_1 hx1 (by assumption) (by assumption) (by assumption) | exact putF_b hk_1 hx1 (.inl (by assumption)) (by assumption) | exact putF_b hk_1 hx1 (.inr (by assumption)) (by assumption) | exact putF_c hk_1 hx1 (.inl (by assumption)) (by assumption) | exact putF_c hk_1 hx1 (.inr (by assumption)) (by assumption) | exact putF_d hk_1 hx1 (by assumption) (by assumption) (by assumption), by first | omega | ((repeat (first | rw [List.length_append] | rw [List.length_cons] | rw [List.length_nil] | rw [List.length_take] | rw [List.length_drop])) <;> omega)⟩
         · rw [h57] at F56
           refine l_op (f_skip F56 (wanted_g F56 rfl rfl rfl rfl) rfl rfl fun _ F147 => ?_)
           refine l_op (f_skip F147 (wanted_g F147 rfl rfl rfl rfl) rfl rfl fun _ F148 => ?_)
           refine l_op (f_skip F148 (wanted_g F148 rfl rfl rfl rfl) rfl rfl fun _ F149 => ?_)
           refine l_op (f_skip F149 (wanted_g F149 rfl rfl rfl rfl) rfl rfl fun _ F150 => ?_)
           refine l_op (f_skip F150 (wanted_g F150 rfl rfl rfl rfl) rfl rfl fun _ F151 => ?_)
           refine l_op (f_skip F151 (wanted_g F151 rfl rfl rfl rfl) rfl rfl fun _ F152 => ?_)
           refine l_op (f_skip F152 (wanted_g F152 rfl rfl rfl rfl) rfl rfl fun _ F153 => ?_)
           refine l_op (f_val F153 rfl rfl (r_pick (b := false) rfl (F153.ev 32 rfl) rfl) rfl fun _ F154 => ?_)
           have F155 : Fr 70 [(40, .bool false), (9, .int .i64 ((k : Nat) : Int)), (8, .bool dd), (7, .slice oa on oc), (0, .slice s_a s_n s_c), (1, .string key), (2, .string val)] _ := F154.cut rfl
           clear F52 F54 F55 F56 F147 F148 F149 F150 F151 F152 F153 F154
           refine s_end (x_normal (wp_cond_false (F155.ev 40 rfl) (wp_skip (x_normal (wp_seq (wp_region_lit (l_op (f_mv F155 rfl rfl rfl rfl rfl fun _ F156 => ?_))))))))
           refine l_op (f_mv F156 rfl rfl rfl rfl rfl fun _ F157 => ?_)
           obtain ⟨B158, O158, x1, ad158, hx1, okx1, ln158, cl158⟩ := Rd.at (Rd.mv (Nat.succ_pos _) V_v_s (T7.trans (T32.trans S47))) k (by first | assumption | omega)
           clear ln158
           refine l_op (f_val F157 rfl rfl (r_indexAddr (i := k) ET_24 rfl ((F157.ev 47 rfl).trans (by rw [ad158])) (F157.ev 48 rfl) (by omega) (by first | assumption | omega)) rfl fun _ F159 => ?_)
           refine l_op (f_val F159 rfl rfl (r_field FI_74_0 rfl (F159.ev 49 rfl) rfl) rfl fun _ F160 => ?_)
           refine l_op (f_val (v := .string x1.key) F160 rfl rfl (r_load (cs := [.string x1.key]) TI_9 rfl (F160.ev 50 rfl) rfl (fun _ => rfl) (elem_sub (f := 0) cl158 [.string x1.key] rfl)) rfl fun _ F161 => ?_)
           refine l_op (f_mv F161 rfl rfl rfl rfl rfl fun _ F162 => ?_)
           refine l_op (f_val F162 rfl rfl (r_cmps (b := (decide (x1.key ≠ key))) (.inr (.inl rfl)) rfl (F162.ev 51 rfl) (F162.ev 52 rfl) rfl) rfl fun _ F163 => ?_)
           have F164 : Fr 70 [(53, .bool (decide (x1.key ≠ key))), (9, .int .i64 ((k : Nat) : Int)), (8, .bool dd), (7, .slice oa on oc), (0, .slice s_a s_n s_c), (1, .string key), (2, .string val)] _ := F163.cut rfl
           clear F155 F156 F157 F159 F160 F161 F162 F163
           refine s_end (x_normal (x_cond (p := x1.key ≠ key) (F164.ev 53 rfl) (fun h165 => ?_) (fun h165 => ?_)))
           · skip
             refine wp_region_lit (l_op (f_mv F164 rfl rfl rfl rfl rfl fun _ F166 => ?_))
             refine l_op (f_mv F166 rfl rfl rfl rfl rfl fun _ F167 => ?_)
             refine l_op (f_mv F167 rfl rfl rfl rfl rfl fun _ F168 => ?_)
             obtain ⟨B169, O169, y169, ad169, hy169, oky169, ln169, cl169⟩ := Rd.at (Rd.mv (Nat.succ_pos _) V_v_s (T7.trans (T32.trans S47))) k (by first | assumption | omega)
             clear ln169
             obtain rfl := Option.some.inj (hx1.symm.trans hy169)
             clear hy169 oky169
             refine l_op (f_val F168 rfl rfl (r_indexAddr (i := k) ET_24 rfl ((F168.ev 55 rfl).trans (by rw [ad169])) (F168.ev 56 rfl) (by omega) (by first | assumption | omega)) rfl fun _ F170 => ?_)
             refine l_op (f_val (v := .agg #[.string x1.key, .string x1.val]) F170 rfl rfl (r_load (cs := [.string x1.key, .string x1.val]) TI_74 rfl (F170.ev 57 rfl) rfl (fun h => nomatch h) (elem_sub (f := 0) cl169 [.string x1.key, .string x1.val] rfl)) rfl fun _ F171 => ?_)
             refine l_op (f_buildSl (ok := okC) (vs := [.agg #[.string x1.key, .string x1.val]]) F171 S47.at' ([x1]) ET_24 rfl rfl rfl rfl rfl rfl (lc (pr2 (F171.ev 58 rfl)) rfl) rfl rfl (fun x hx => (List.mem_singleton.1 hx) ▸ ⟨okx1.1, okx1.2⟩) fun b172 _ w172 F173 S172 => ?_)
             refine l_op (f_app (news := [x1]) F173 S172.at' 1 ET_24 rfl rfl rfl rfl rfl rfl (F173.ev 54 rfl) (F173.ev 59 rfl) ((At.rd S172.at' ET_24.hk 0 rfl)).1 (by ((repeat (first | rw [List.length_append] | rw [List.length_cons] | rw [List.length_nil] | rw [List.length_take] | rw [List.length_drop])) <;> omega)) fun A174 N174 C174 _ w174 F175 S174 l174 => ?_)
             have S176 := At.drop S174.at' 1
             refine l_op (f_as F175 rfl rfl rfl rfl rfl fun _ F177 => ?_)
             have F178 : Fr 70 [(7, .slice A174 N174 C174), (9, .int .i64 ((k : Nat) : Int)), (8, .bool dd), (0, .slice s_a s_n s_c), (1, .string key), (2, .string val)] _ := F177.cut rfl
             clear F164 F166 F167 F168 F170 F171 F173 F175 F177
             have T179 : Mv _ _ [ow 74 2 encC okC (.slice A174 N174 C174) (O ++ ([x1]))] _ := S176
             refine s_end (x_block_normal (x_normal (wp_region_lit (l_op (f_mv F178 rfl rfl rfl rfl rfl fun _ F180 => ?_)))))
             refine l_op (f_val F180 rfl rfl (r_add (z := ((k + 1 : Nat) : Int)) rfl (F180.ev 28 rfl) rfl (by first | rfl | omega) ⟨by first | omega | (unfold i64ok at *; omega), by first | omega | (unfold i64ok at *; omega)⟩) rfl fun _ F181 => ?_)
             refine l_op (f_as F181 rfl rfl rfl rfl rfl fun _ F182 => ?_)
             have F183 : Fr 70 [(9, .int .i64 ((k + 1 : Nat) : Int)), (7, .slice A174 N174 C174), (8, .bool dd), (0, .slice s_a s_n s_c), (1, .string key), (2, .string val)] _ := F182.cut rfl
             clear F178 F180 F181 F182
             refine s_end ?_
             refine x_normal ⟨k + 1, by omega, O ++ ([x1]), dd, A174, N174, C174, F183.cut rfl, ((S47.trans (S172.trans (S174.trans T179))).pick [0] rfl), by omega, by first | exact putF_a hk_1 hx1 (by assumption) (by assumption) (by assumption) | exact putF_b hk_1 hx1 (.inl (by assumption)) (by assumption) | exact putF_b hk_1 hx1 (.inr (by assumption)) (by assumption) | exact putF_c hk_1 hx1 (.inl (by assumption)) (by assumption) | exact putF_c hk_1 hx1 (.inr (by assumption)) (by assumption) | exact putF_d hk_1 hx1 (by assumption) (by assumption) (by assumption), by first | omega | ((repeat (first | rw [List.length_append] | rw [List.length_cons] | rw [List.length_nil] | rw [List.length_take] | rw [List.length_drop])) <;> omega)⟩
           · skip
             refine wp_skip (x_block_normal (x_normal (wp_region_lit (l_op (f_mv F164 rfl rfl rfl rfl rfl fun _ F184 => ?_)))))
             refine l_op (f_val F184 rfl rfl (r_add (z := ((k + 1 : Nat) : Int)) rfl (F184.ev 28 rfl) rfl (by first | rfl | omega) ⟨by first | omega | (unfold i64ok at *; omega), by first | omega | (unfold i64ok at *; omega)⟩) rfl fun _ F185 => ?_)
             refine l_op (f_as F185 rfl rfl rfl rfl rfl fun _ F186 => ?_)
             have F187 : Fr 70 [(9, .int .i64 ((k + 1 : Nat) : Int)), (8, .bool dd), (7, .slice oa on oc), (0, .slice s_a s_n s_c), (1, .string key), (2, .string val)] _ := F186.cut rfl
             clear F164 F184 F185 F186
             refine s_end ?_
             refine x_normal ⟨k + 1, by omega, O, dd, oa, on, oc, F187.cut rfl, (S47.pick [0] rfl), by omega, by first | exact putF_a hk_1 hx1 (by assumption) (by assumption) (by assumption) | exact putF_b hk_1 hx1 (.inl (by assumption)) (by assumption) | exact putF_b hk_1 hx1 (.inr (by assumption)) (by assumption) | exact putF_c hk_1 hx1 (.inl (by assumption)) (by assumption) | exact putF_c hk_1 hx1 (.inr (by assumption)) (by assumption) | exact putF_d hk_1 hx1 (by assumption) (by assumption) (by assumption), by first | omega | ((repeat (first | rw [List.length_append] | rw [List.length_cons] | rw [List.length_nil] | rw [List.length_take] | rw [List.length_drop])) <;> omega)⟩
       · skip
         refine wp_exit (x_then_exit (x_then_exit (x_block_here (x_normal (wp_seq (wp_seq (wp_region_lit (l_op (f_mv F52 rfl rfl rfl rfl rfl fun _ F188 => ?_)))))))))
         refine l_op (f_val F188 rfl rfl (r_not rfl (F188.ev 61 rfl)) rfl fun _ F189 => ?_)
         have F190 : Fr 70 [(62, .bool (!dd)), (7, .slice oa on oc), (1, .string key), (2, .string val)] _ := F189.cut rfl
         clear F52 F188 F189
         refine s_end (x_normal (x_condb (b := (!dd)) (F190.ev 62 rfl) (fun h191 => ?_) (fun h191 => ?_)))
         · skip
           refine wp_region_lit (l_op (f_mv F190 rfl rfl rfl rfl rfl fun _ F192 => ?_))
           refine l_op (f_mv F192 rfl rfl rfl rfl rfl fun _ F193 => ?_)
           refine l_op (f_mv F193 rfl rfl rfl rfl rfl fun _ F194 => ?_)
           refine l_op (f_val (v := .agg #[.string key, .string val]) F194 rfl rfl (r_build BI_74 rfl (lc (pr2 (F194.ev 64 rfl)) (lc (pr2 (F194.ev 65 rfl)) rfl)) rfl) rfl fun _ F195 => ?_)
           refine l_op (f_buildSl (ok := okC) (vs := [.agg #[.string key, .string val]]) F195 S47.at' ([(⟨key, val⟩ : CellD)]) ET_24 rfl rfl rfl rfl rfl rfl (lc (pr2 (F195.ev 66 rfl)) rfl) rfl rfl (fun x hx => (List.mem_singleton.1 hx) ▸ ⟨h_key, h_val⟩) fun b196 _ w196 F197 S196 => ?_)
           refine l_op (f_app (news := [(⟨key, val⟩ : CellD)]) F197 S196.at' 1 ET_24 rfl rfl rfl rfl rfl rfl (F197.ev 63 rfl) (F197.ev 67 rfl) ((At.rd S196.at' ET_24.hk 0 rfl)).1 (by ((repeat (first | rw [List.length_append] | rw [List.length_cons] | rw [List.length_nil] | rw [List.length_take] | rw [List.length_drop])) <;> omega)) fun A198 N198 C198 _ w198 F199 S198 l198 => ?_)
           have S200 := At.drop S198.at' 1
           refine l_op (f_as F199 rfl rfl rfl rfl rfl fun _ F201 => ?_)
           have F202 : Fr 70 [(7, .slice A198 N198 C198)] _ := F201.cut rfl
           clear F190 F192 F193 F194 F195 F197 F199 F201
           have T203 : Mv _ _ [ow 74 2 encC okC (.slice A198 N198 C198) (O ++ ([(⟨key, val⟩ : CellD)]))] _ := S200
           refine s_end (x_normal (wp_seq (wp_region_lit (l_op (f_mv F202 rfl rfl rfl rfl rfl fun _ F204 => ?_)))))
           refine l_op (f_as F204 rfl rfl rfl rfl rfl fun _ F205 => ?_)
           have F206 : Fr 70 [(6, .slice A198 N198 C198)] _ := F205.cut rfl
           clear F202 F204 F205
           refine s_end (x_normal (wp_ret ?_))
           refine x_done (v := .slice A198 N198 C198) F206 (results_1 Tryz.results103 (.tmp (F206.ev 6 rfl))) ?_
           exact ⟨A198, N198, C198, rfl, (Mv.cast (Mv.pick (T7.trans (T32.trans (S47.trans (S196.trans (S198.trans T203))))) [0] rfl) (by rw [(show (O ++ ([(⟨key, val⟩ : CellD)])) = (putKey s key val) from by first | exact (List.nil_append _).trans (putKey_no (.inl (nt (by assumption)))).symm | exact (List.nil_append _).trans (putKey_no (.inr (by omega))).symm | (rw [← putF_end hk_1 (by omega) (nf (by assumption)) (by omega)]; first | rw [if_pos (nt (by assumption))] | rw [if_neg (ne_false_of_eq_true (nf (by assumption))), List.append_nil]))]; all_goals rfl))⟩
         · skip
           refine wp_skip (x_normal (wp_seq (wp_region_lit (l_op (f_mv F190 rfl rfl rfl rfl rfl fun _ F207 => ?_)))))
           refine l_op (f_as F207 rfl rfl rfl rfl rfl fun _ F208 => ?_)
           have F209 : Fr 70 [(6, .slice oa on oc)] _ := F208.cut rfl
           clear F190 F207 F208
           refine s_end (x_normal (wp_ret ?_))
           refine x_done (v := .slice oa on oc) F209 (results_1 Tryz.results103 (.tmp (F209.ev 6 rfl))) ?_
           exact ⟨oa, on, oc, rfl, (Mv.cast (Mv.pick (T7.trans (T32.trans S47)) [0] rfl) (by rw [(show O = (putKey s key val) from by first | exact (List.nil_append _).trans (putKey_no (.inl (nt (by assumption)))).symm | exact (List.nil_append _).trans (putKey_no (.inr (by omega))).symm | (rw [← putF_end hk_1 (by omega) (nf (by assumption)) (by omega)]; first | rw [if_pos (nt (by assumption))] | rw [if_neg (ne_false_of_eq_true (nf (by assumption))), List.append_nil]))]; all_goals rfl))⟩
end Go.Proofs.YtkeglhkdanenbaaGreatDoor
