/-
  Walks: pages are copied.
-/
import Derived.Test.YtibgmijfnbnfkaaGreatDoorGenPa
namespace Go.Proofs.YtibgmijfnbnfkaaGreatDoor
open Go.ChangeShapes Go.WideShapes Go.ChangeAt Go.RowKit
set_option maxRecDepth 100000
set_option maxHeartbeats 1000000
theorem impl_Mach_forkPages_c {w : World} {H : Nat → Prop} {m : MachD} {m_Sa : Option Addr} {m_Sn m_Sc : Nat} {m_Ra : Option Addr} {m_Rn m_Rc : Nat} {m_Wa : Option Addr} {m_Wn m_Wc : Nat} {m_b : Nat} {from_ : Int} {to : Int} (Q30 : i64ok from_) (h_to : i64ok to) (tab0 : Tb 0 H w) (p0 : bdC 8589934592 m) (hA : At w [bx m_b [.slice m_Sa m_Sn m_Sc, .slice m_Ra m_Rn m_Rc, .slice m_Wa m_Wn m_Wc] 29, ow 73 2 encC okC (.slice m_Sa m_Sn m_Sc) m.store, ow 9 1 encS okS (.slice m_Ra m_Rn m_Rc) m.touch.reads, ow 9 1 encS okS (.slice m_Wa m_Wn m_Wc) m.touch.writes]) (hD : ∀ b, H b → ¬ fps [bx m_b [.slice m_Sa m_Sn m_Sc, .slice m_Ra m_Rn m_Rc, .slice m_Wa m_Wn m_Wc] 29, ow 73 2 encC okC (.slice m_Sa m_Sn m_Sc) m.store, ow 9 1 encS okS (.slice m_Ra m_Rn m_Rc) m.touch.reads, ow 9 1 encS okS (.slice m_Wa m_Wn m_Wc) m.touch.writes] b) :
    Calls Tryz.prog 45 #[.pointer (some ⟨m_b, 0, none⟩), .int .i64 from_, .int .i64 to] w fun e w' => ∃ (Q34 : Option Addr), ∃ (Q36 : Nat), ∃ (Q35 : Nat), ∃ (Q31 : Option Addr), ∃ (Q33 : Nat), ∃ (Q32 : Nat), ∃ (Q37 : Option Addr), ∃ (Q39 : Nat), ∃ (Q38 : Nat), e = .returned (.tuple #[]) ∧ Mv [bx m_b [.slice m_Sa m_Sn m_Sc, .slice m_Ra m_Rn m_Rc, .slice m_Wa m_Wn m_Wc] 29, ow 73 2 encC okC (.slice m_Sa m_Sn m_Sc) m.store, ow 9 1 encS okS (.slice m_Ra m_Rn m_Rc) m.touch.reads, ow 9 1 encS okS (.slice m_Wa m_Wn m_Wc) m.touch.writes] w [bx m_b [.slice Q34 Q36 Q35, .slice Q31 Q33 Q32, .slice Q37 Q39 Q38] 29, ow 73 2 encC okC (.slice Q34 Q36 Q35) (forkM (kP_ from_) (kP_ to) m).store, ow 9 1 encS okS (.slice Q31 Q33 Q32) (forkM (kP_ from_) (kP_ to) m).touch.reads, ow 9 1 encS okS (.slice Q37 Q39 Q38) (forkM (kP_ from_) (kP_ to) m).touch.writes] w' := by
 have uU : True := (fun _ => trivial) p0
 clear uU
 have V_tab0 : Tb 0 (V H w [bx m_b [.slice m_Sa m_Sn m_Sc, .slice m_Ra m_Rn m_Rc, .slice m_Wa m_Wn m_Wc] 29, ow 73 2 encC okC (.slice m_Sa m_Sn m_Sc) m.store, ow 9 1 encS okS (.slice m_Ra m_Rn m_Rc) m.touch.reads, ow 9 1 encS okS (.slice m_Wa m_Wn m_Wc) m.touch.writes]) w := Tb.start tab0 hD
 obtain ⟨lo1, lp1, lq1⟩ := At.ownInv hA ET_24.hk 1 rfl
 obtain ⟨lo2, lp2, lq2⟩ := At.ownInv hA ET_25.hk 2 rfl
 obtain ⟨lo3, lp3, lq3⟩ := At.ownInv hA ET_25.hk 3 rfl
 refine calls_enter 31 Tryz.func45 rfl Tryz.ntmps45 (Nat.le_of_ble_eq_true rfl) (fun _ F0i => ?_)
 have F0 : Fr 31 [(0, .pointer (some ⟨m_b, 0, none⟩)), (1, .int .i64 from_), (2, .int .i64 to)] _ := F0i
 clear F0i
 refine wp_seq (wp_region_lit (l_op (f_mv F0 rfl rfl rfl rfl rfl fun _ F1 => ?_)))
 refine l_op (f_mv F1 rfl rfl rfl rfl rfl fun _ F2 => ?_)
 refine l_op (f_call F2 CF_48 rfl rfl rfl rfl (lc (F2.ev 9 rfl) rfl) (impl_pagesKey_c (id := from_) Q30 V_tab0) ?_)
 rintro _ w3 ⟨rfl, m3, Q40⟩
 refine ⟨_, rfl, fun _ F4 => ?_⟩
 have S3 := At.frame0 hA m3
 clear m3
 refine l_op (f_call F4 CF_47 rfl rfl rfl rfl (lc (F4.ev 8 rfl) (lc (F4.ev 10 rfl) rfl)) (impl_Mach_under_c (H := fun _ => True) (m := m) (pfx := kP_ from_) Q40 (by first | assumption | omega | ((repeat first | apply b1_ | apply b2_ | apply b3_ | apply b4_ | apply b5_ | apply b6_); exact bdC.le ‹_› (by decide)) | decide | exact Nat.le_trans (keyNum_size _ _ ‹_›) (by decide)) (by first | assumption | omega | ((repeat first | apply b1_ | apply b2_ | apply b3_ | apply b4_ | apply b5_ | apply b6_); exact bdC.le ‹_› (by decide)) | decide | exact Nat.le_trans (keyNum_size _ _ ‹_›) (by decide)) (by first | assumption | omega | ((repeat first | apply b1_ | apply b2_ | apply b3_ | apply b4_ | apply b5_ | apply b6_); exact bdC.le ‹_› (by decide)) | decide | exact Nat.le_trans (keyNum_size _ _ ‹_›) (by decide)) (At.pick (is := [0, 1, 2, 3]) S3.at' rfl)) ?_)
 rintro _ w5 ⟨Q1, Q0, Q2, Q19, Q23, Q21, Q13, Q17, Q15, Q25, Q29, Q27, rfl, m5⟩
 refine ⟨_, rfl, fun _ F6 => ?_⟩
 have S5 : Mv _ _ [ow 9 1 encS okS (.slice Q1 Q0 Q2) (keysUnder m.store (kP_ from_)), bx m_b [.slice Q19 Q23 Q21, .slice Q13 Q17 Q15, .slice Q25 Q29 Q27] 29, ow 73 2 encC okC (.slice Q19 Q23 Q21) (lookM m ((kP_ from_) ++ bT_)).store, ow 9 1 encS okS (.slice Q13 Q17 Q15) (lookM m ((kP_ from_) ++ bT_)).touch.reads, ow 9 1 encS okS (.slice Q25 Q29 Q27) (lookM m ((kP_ from_) ++ bT_)).touch.writes] _ := At.frame S3.at' [0, 1, 2, 3] rfl m5
 obtain ⟨Q51, Q64, Q77⟩ := At.ownInv S5.at' ET_25.hk 0 rfl
 obtain ⟨Q52, Q65, Q78⟩ := At.ownInv S5.at' ET_24.hk 2 rfl
 obtain ⟨Q53, Q66, Q79⟩ := At.ownInv S5.at' ET_25.hk 3 rfl
 obtain ⟨Q54, Q67, Q80⟩ := At.ownInv S5.at' ET_25.hk 4 rfl
 clear m5
 refine l_op (f_val F6 rfl rfl (r_len Tryz.underlying25 rfl (F6.ev 11 rfl)) rfl fun _ F7 => ?_)
 refine l_op (f_val F7 rfl rfl (r_move rfl rfl) rfl fun _ F8 => ?_)
 refine s_end (x_normal (wp_block ?_))
 refine x_loop (fun (k : Nat) aZ wZ => ∃ (M : MachD), ∃ (sa : Option Addr), ∃ (sn : Nat), ∃ (sc : Nat), ∃ (ra : Option Addr), ∃ (rn : Nat), ∃ (rc : Nat), ∃ (ua : Option Addr), ∃ (un : Nat), ∃ (uc : Nat), Fr 31 [(13, .int .i64 ((k : Nat) : Int)), (12, .int .i64 ((Q0 : Nat) : Int)), (11, .slice Q1 Q0 Q2), (0, .pointer (some ⟨m_b, 0, none⟩)), (1, .int .i64 from_), (2, .int .i64 to)] aZ ∧ Mv [ow 9 1 encS okS (.slice Q1 Q0 Q2) (keysUnder m.store (kP_ from_)), bx m_b [.slice Q19 Q23 Q21, .slice Q13 Q17 Q15, .slice Q25 Q29 Q27] 29, ow 73 2 encC okC (.slice Q19 Q23 Q21) (lookM m ((kP_ from_) ++ bT_)).store, ow 9 1 encS okS (.slice Q13 Q17 Q15) (lookM m ((kP_ from_) ++ bT_)).touch.reads, ow 9 1 encS okS (.slice Q25 Q29 Q27) (lookM m ((kP_ from_) ++ bT_)).touch.writes] w5 [ow 9 1 encS okS (.slice Q1 Q0 Q2) (keysUnder m.store (kP_ from_)), bx m_b [.slice sa sn sc, .slice ra rn rc, .slice ua un uc] 29, ow 73 2 encC okC (.slice sa sn sc) M.store, ow 9 1 encS okS (.slice ra rn rc) M.touch.reads, ow 9 1 encS okS (.slice ua un uc) M.touch.writes] wZ ∧ (k ≤ (keysUnder m.store (kP_ from_)).length) ∧ (M = (forkL (kP_ from_) (kP_ to) (lookM m (kP_ from_ ++ bT_)) ((keysUnder m.store (kP_ from_)).take k)))) (fun (k : Nat) => (keysUnder m.store (kP_ from_)).length - k) (0) ?_ ?_
 · exact ⟨lookM m (kP_ from_ ++ bT_), Q19, Q23, Q21, Q13, Q17, Q15, Q25, Q29, Q27, F8.cut rfl, (Mv.refl S5.at'), by omega, rfl⟩
 · rintro k a9 w9 ⟨M, sa, sn, sc, ra, rn, rc, ua, un, uc, F9, S9, hk_0, hk_1⟩
   have wb := forkT_bdC (f := kP_ from_) (t := kP_ to) (m := m) ‹_› k
   rw [← hk_1] at wb
   refine wp_seq (wp_region_lit (l_op (f_val F9 rfl rfl (r_cmp (b := decide (k < Q0)) (.inr (.inr (.inl rfl))) rfl (F9.ev 13 rfl) (F9.ev 12 rfl) (dec_of (by omega))) rfl fun _ F10 => ?_)))
   refine s_end (x_normal (wp_seq (x_cond (p := k < Q0) (F10.ev 14 rfl) (fun h11 => ?_) (fun h11 => ?_))))
   · skip
     refine wp_skip (x_normal (wp_seq (wp_block (wp_seq (wp_region_lit ?_)))))
     obtain ⟨B12, O12, x1, ad12, hx1, okx1, ln12, cl12⟩ := Rd.at (At.rd S9.at' ET_25.hk 0 rfl) k (by first | assumption | omega)
     clear ln12
     refine l_op (f_val F10 rfl rfl (r_indexAddr (i := k) ET_25 rfl ((F10.ev 11 rfl).trans (by rw [ad12])) (F10.ev 13 rfl) (by omega) (by first | assumption | omega)) rfl fun _ F13 => ?_)
     refine l_op (f_val (v := .string x1) F13 rfl rfl (r_load (cs := [.string x1]) TI_9 rfl (F13.ev 15 rfl) rfl (fun _ => rfl) (elem_sub (f := 0) cl12 [.string x1] rfl)) rfl fun _ F14 => ?_)
     refine l_op (f_as F14 rfl rfl rfl rfl rfl fun _ F15 => ?_)
     refine s_end (x_normal ?_)
     refine x_draw (fun aZ wZ => ∃ (Q18 : Option Addr), ∃ (Q22 : Nat), ∃ (Q20 : Nat), ∃ (Q12 : Option Addr), ∃ (Q16 : Nat), ∃ (Q14 : Nat), ∃ (Q24 : Option Addr), ∃ (Q28 : Nat), ∃ (Q26 : Nat), ∃ (Q6 : Option Addr), ∃ (Q8 : Nat), ∃ (Q7 : Nat), ∃ (Q3 : Option Addr), ∃ (Q5 : Nat), ∃ (Q4 : Nat), ∃ (Q9 : Option Addr), ∃ (Q11 : Nat), ∃ (Q10 : Nat), Fr 31 [(0, .pointer (some ⟨m_b, 0, none⟩)), (1, .int .i64 from_), (2, .int .i64 to), (11, .slice Q1 Q0 Q2), (12, .int .i64 ((Q0 : Nat) : Int)), (13, .int .i64 ((k : Nat) : Int))] aZ ∧ Mv [ow 9 1 encS okS (.slice Q1 Q0 Q2) (keysUnder m.store (kP_ from_)), bx m_b [.slice sa sn sc, .slice ra rn rc, .slice ua un uc] 29, ow 73 2 encC okC (.slice sa sn sc) M.store, ow 9 1 encS okS (.slice ra rn rc) M.touch.reads, ow 9 1 encS okS (.slice ua un uc) M.touch.writes] w9 [ow 9 1 encS okS (.slice Q1 Q0 Q2) (keysUnder m.store (kP_ from_)), bx m_b [.slice Q6 Q8 Q7, .slice Q3 Q5 Q4, .slice Q9 Q11 Q10] 29, ow 73 2 encC okC (.slice Q6 Q8 Q7) (layM (lookM M x1) ((kP_ to) ++ (x1.extract (kP_ from_).size x1.size)) (getKey M.store x1)).store, ow 9 1 encS okS (.slice Q3 Q5 Q4) (layM (lookM M x1) ((kP_ to) ++ (x1.extract (kP_ from_).size x1.size)) (getKey M.store x1)).touch.reads, ow 9 1 encS okS (.slice Q9 Q11 Q10) (layM (lookM M x1) ((kP_ to) ++ (x1.extract (kP_ from_).size x1.size)) (getKey M.store x1)).touch.writes] wZ) [] mixed S9.at' (listed := #[false, false, false, false, false, false, false, false, false, false, false, false, false]) rfl (fun w17 S17 => ?_) [] rfl ?_
     · skip
       refine g_take F15 rfl (i := 0) (listed' := #[true, false, false, false, false, false, false, false, false, false, false, false, false]) rfl (by kernel_rfl) (by kernel_rfl) (by kernel_rfl) (fun _ _ _ h => h) (Sd.of (Mv.refl S17.at') [] rfl) rfl rfl rfl rfl (fun _ hz => (r_move rfl (F15.ev 0 rfl))) fun _ F18 => ?_
       refine g_take F18 rfl (i := 1) (listed' := #[true, true, false, false, false, false, false, false, false, false, false, false, false]) rfl (by kernel_rfl) (by kernel_rfl) (by kernel_rfl) (fun _ _ _ h => h) (Sd.of (Mv.refl S17.at') [] rfl) rfl rfl rfl rfl (fun _ hz => (r_move rfl (F18.ev 2 rfl))) fun _ F19 => ?_
       refine g_take F19 rfl (i := 3) (listed' := #[true, true, false, true, false, false, false, false, false, false, false, false, false]) rfl (by kernel_rfl) (by kernel_rfl) (by kernel_rfl) (fun _ _ _ h => h) (Sd.of (Mv.refl S17.at') [] rfl) rfl rfl rfl rfl (fun _ hz => (r_move rfl (F19.ev 7 rfl))) fun _ F20 => ?_
       refine g_take F20 rfl (i := 4) (listed' := #[true, true, false, true, true, false, false, false, false, false, false, false, false]) rfl (by kernel_rfl) (by kernel_rfl) (by kernel_rfl) (fun _ _ _ h => h) (Sd.of (Mv.refl S17.at') [] rfl) rfl rfl rfl rfl (fun _ hz => (r_move rfl (F20.ev 1 rfl))) fun _ F21 => ?_
       refine g_take F21 rfl (i := 9) (listed' := #[true, true, false, true, true, false, false, false, false, true, false, false, false]) rfl (by kernel_rfl) (by kernel_rfl) (by kernel_rfl) (fun _ _ _ h => h) (Sd.of (Mv.refl S17.at') [] rfl) rfl rfl rfl rfl (fun _ hz => (r_move rfl (F21.ev 0 rfl))) fun _ F22 => ?_
       refine g_take F22 rfl (i := 10) (listed' := #[true, true, false, true, true, false, false, false, false, true, true, false, false]) rfl (by kernel_rfl) (by kernel_rfl) (by kernel_rfl) (fun _ _ _ h => h) (Sd.of (Mv.refl S17.at') [] rfl) rfl rfl rfl rfl (fun _ hz => (r_move rfl (F22.ev 7 rfl))) fun _ F23 => ?_
       refine d_one (i := 2) (listed' := #[true, true, true, true, true, false, false, false, false, true, true, false, false]) rfl (by kernel_rfl) rfl rfl ?_
       refine f_call F23 CF_48 rfl rfl rfl rfl (lc (F23.ev 18 rfl) rfl) (impl_pagesKey_c (id := to) h_to (Tb.mv V_tab0 (S3.trans (S5.trans (S9.trans S17))))) ?_
       rintro _ w24 ⟨rfl, m24, Q81⟩
       refine ⟨_, rfl, fun _ F25 => ?_⟩
       have S24 := At.frame0 S17.at' m24
       clear m24
       refine ⟨Sd.of S24 [] rfl, ?_⟩
       refine d_one (i := 5) (listed' := #[true, true, true, true, true, true, false, false, false, true, true, false, false]) rfl (by kernel_rfl) rfl rfl ?_
       refine f_call F25 CF_48 rfl rfl rfl rfl (lc (F25.ev 21 rfl) rfl) (impl_pagesKey_c (id := from_) Q30 (Tb.mv V_tab0 (S3.trans (S5.trans (S9.trans (S17.trans S24)))))) ?_
       rintro _ w26 ⟨rfl, m26, Q82⟩
       refine ⟨_, rfl, fun _ F27 => ?_⟩
       have S26 := At.frame0 S24.at' m26
       clear m26
       refine ⟨Sd.of (S24.trans S26) [] rfl, ?_⟩
       refine g_take F27 rfl (i := 6) (listed' := #[true, true, true, true, true, true, true, false, false, true, true, false, false]) rfl (by kernel_rfl) (by kernel_rfl) (by kernel_rfl) (fun _ _ _ h => h) (Sd.of (S24.trans S26) [] rfl) rfl rfl rfl rfl (fun _ hz => (r_lenS (fun t ht => by cases ht; exact Tryz.underlying9) rfl rfl (F27.ev 22 rfl))) fun _ F28 => ?_
       refine g_take F28 rfl (i := 7) (listed' := #[true, true, true, true, true, true, true, true, false, true, true, false, false]) rfl (by kernel_rfl) (by kernel_rfl) (by kernel_rfl) (fun _ _ _ h => h) (Sd.of (S24.trans S26) [] rfl) rfl rfl rfl rfl (fun _ hz => (r_sliceS (l := (kP_ from_).size) (h := x1.size) Tryz.underlying9 rfl (F28.ev 20 rfl) (F28.ev 23 rfl) rfl (by have := keysUnder_pre hx1; omega) (by have := keysUnder_pre hx1; omega) rfl)) fun _ F29 => ?_
       have k30 : (kP_ to).size + (x1.extract (kP_ from_).size x1.size).size ≤ 9223372036854775807 := by have hs := bdC.key (m := m) ‹_› hx1; have hl : (kP_ _).size ≤ _ := keyNum_size bM_ bS_ h_to; have e1 : bM_.size = 2 := rfl; have e2 : bS_.size = 1 := rfl; rw [ByteArray.size_extract]; omega
       refine g_take F29 rfl (i := 8) (listed' := #[true, true, true, true, true, true, true, true, true, true, true, false, false]) rfl (by kernel_rfl) (by kernel_rfl) (by kernel_rfl) (fun _ _ _ h => h) (Sd.of (S24.trans S26) [] rfl) rfl rfl rfl rfl (fun _ hz => (r_cat rfl (F29.ev 19 rfl) (F29.ev 24 rfl) k30)) fun _ F31 => ?_
       refine d_one (i := 11) (listed' := #[true, true, true, true, true, true, true, true, true, true, true, true, false]) rfl (by kernel_rfl) rfl rfl ?_
       refine f_call F31 CF_83 rfl rfl rfl rfl (lc (F31.ev 26 rfl) (lc (F31.ev 27 rfl) rfl)) (impl_Mach_look_c (H := fun _ => True) (m := M) (key := x1) okx1 (by first | assumption | omega | ((repeat first | apply b1_ | apply b2_ | apply b3_ | apply b4_ | apply b5_ | apply b6_); exact bdC.le ‹_› (by decide)) | decide | exact Nat.le_trans (keyNum_size _ _ ‹_›) (by decide)) (At.pick (is := [1, 2, 3, 4]) S26.at' rfl)) ?_
       rintro _ w32 ⟨Q18, Q22, Q20, Q12, Q16, Q14, Q24, Q28, Q26, rfl, m32, Q41⟩
       refine ⟨_, rfl, fun _ F33 => ?_⟩
       have S32 : Mv _ _ [bx m_b [.slice Q18 Q22 Q20, .slice Q12 Q16 Q14, .slice Q24 Q28 Q26] 29, ow 73 2 encC okC (.slice Q18 Q22 Q20) (lookM M x1).store, ow 9 1 encS okS (.slice Q12 Q16 Q14) (lookM M x1).touch.reads, ow 9 1 encS okS (.slice Q24 Q28 Q26) (lookM M x1).touch.writes, ow 9 1 encS okS (.slice Q1 Q0 Q2) (keysUnder m.store (kP_ from_))] _ := At.frame S26.at' [1, 2, 3, 4] rfl m32
       obtain ⟨Q42, Q55, Q68⟩ := At.ownInv S32.at' ET_24.hk 1 rfl
       obtain ⟨Q43, Q56, Q69⟩ := At.ownInv S32.at' ET_25.hk 2 rfl
       obtain ⟨Q44, Q57, Q70⟩ := At.ownInv S32.at' ET_25.hk 3 rfl
       clear m32
       refine ⟨Sd.of (S24.trans (S26.trans S32)) [] rfl, ?_⟩
       refine d_one (i := 12) (listed' := #[true, true, true, true, true, true, true, true, true, true, true, true, true]) rfl (by kernel_rfl) rfl rfl ?_
       refine f_call F33 CF_74 rfl rfl rfl rfl (lc (F33.ev 17 rfl) (lc (F33.ev 25 rfl) (lc (F33.ev 28 rfl) rfl))) (impl_Mach_lay_c (H := fun _ => True) (m := (lookM M x1)) (key := (kP_ to) ++ (x1.extract (kP_ from_).size x1.size)) (val := getKey M.store x1) (okS_cat k30) Q41 (by first | assumption | omega | ((repeat first | apply b1_ | apply b2_ | apply b3_ | apply b4_ | apply b5_ | apply b6_); exact bdC.le ‹_› (by decide)) | decide | exact Nat.le_trans (keyNum_size _ _ ‹_›) (by decide)) (by first | assumption | omega | ((repeat first | apply b1_ | apply b2_ | apply b3_ | apply b4_ | apply b5_ | apply b6_); exact bdC.le ‹_› (by decide)) | decide | exact Nat.le_trans (keyNum_size _ _ ‹_›) (by decide)) (At.pick (is := [0, 1, 2, 3]) S32.at' rfl)) ?_
       rintro _ w34 ⟨Q6, Q8, Q7, Q3, Q5, Q4, Q9, Q11, Q10, rfl, m34⟩
       refine ⟨_, rfl, fun _ F35 => ?_⟩
       have S34 : Mv _ _ [bx m_b [.slice Q6 Q8 Q7, .slice Q3 Q5 Q4, .slice Q9 Q11 Q10] 29, ow 73 2 encC okC (.slice Q6 Q8 Q7) (layM (lookM M x1) ((kP_ to) ++ (x1.extract (kP_ from_).size x1.size)) (getKey M.store x1)).store, ow 9 1 encS okS (.slice Q3 Q5 Q4) (layM (lookM M x1) ((kP_ to) ++ (x1.extract (kP_ from_).size x1.size)) (getKey M.store x1)).touch.reads, ow 9 1 encS okS (.slice Q9 Q11 Q10) (layM (lookM M x1) ((kP_ to) ++ (x1.extract (kP_ from_).size x1.size)) (getKey M.store x1)).touch.writes, ow 9 1 encS okS (.slice Q1 Q0 Q2) (keysUnder m.store (kP_ from_))] _ := At.frame S32.at' [0, 1, 2, 3] rfl m34
       obtain ⟨Q45, Q58, Q71⟩ := At.ownInv S34.at' ET_24.hk 1 rfl
       obtain ⟨Q46, Q59, Q72⟩ := At.ownInv S34.at' ET_25.hk 2 rfl
       obtain ⟨Q47, Q60, Q73⟩ := At.ownInv S34.at' ET_25.hk 3 rfl
       clear m34
       refine ⟨Sd.of (S24.trans (S26.trans (S32.trans S34))) [] rfl, ?_⟩
       refine wpAnyH_done (by kernel_rfl) (x_normal ?_) _
       exact ⟨Q18, Q22, Q20, Q12, Q16, Q14, Q24, Q28, Q26, Q6, Q8, Q7, Q3, Q5, Q4, Q9, Q11, Q10, F35.cut rfl, ((S17.trans (S24.trans (S26.trans (S32.trans S34)))).pick [4, 0, 1, 2, 3] rfl)⟩
     · rintro a36 w36 ⟨Q18, Q22, Q20, Q12, Q16, Q14, Q24, Q28, Q26, Q6, Q8, Q7, Q3, Q5, Q4, Q9, Q11, Q10, F36, S36⟩
       obtain ⟨Q48, Q61, Q74⟩ := At.ownInv S36.at' ET_24.hk 2 rfl
       obtain ⟨Q49, Q62, Q75⟩ := At.ownInv S36.at' ET_25.hk 3 rfl
       obtain ⟨Q50, Q63, Q76⟩ := At.ownInv S36.at' ET_25.hk 4 rfl
       refine x_block_normal (x_normal (wp_region_lit (l_op (f_val F36 rfl rfl (r_add (z := ((k + 1 : Nat) : Int)) rfl (F36.ev 13 rfl) rfl (by first | rfl | omega) ⟨by first | omega | (unfold i64ok at *; omega), by first | omega | (unfold i64ok at *; omega)⟩) rfl fun _ F37 => ?_))))
       refine l_op (f_mv F37 rfl rfl rfl rfl rfl fun _ F38 => ?_)
       refine s_end ?_
       refine x_normal ⟨k + 1, by omega, (layM (lookM M x1) ((kP_ to) ++ (x1.extract (kP_ from_).size x1.size)) (getKey M.store x1)), Q6, Q8, Q7, Q3, Q5, Q4, Q9, Q11, Q10, F38.cut rfl, ((S9.trans S36).pick [0, 1, 2, 3, 4] rfl), by omega, by rw [forkL_step hx1, ← hk_1]; rfl⟩
   · skip
     refine wp_exit (x_then_exit (x_then_exit (x_block_here ?_)))
     refine x_done_end (v := .tuple #[]) F10 (results_0 Tryz.results45) ?_
     exact ⟨sa, sn, sc, ra, rn, rc, ua, un, uc, rfl, (Mv.cast (Mv.pick (S3.trans (S5.trans S9)) [1, 2, 3, 4] rfl) (by rw [(show M.store = (forkM (kP_ from_) (kP_ to) m).store from by first | rfl | (subst hk_1; unfold forkM; rw [List.take_of_length_le (by omega)])), (show M.touch.reads = (forkM (kP_ from_) (kP_ to) m).touch.reads from by first | rfl | (subst hk_1; unfold forkM; rw [List.take_of_length_le (by omega)])), (show M.touch.writes = (forkM (kP_ from_) (kP_ to) m).touch.writes from by first | rfl | (subst hk_1; unfold forkM; rw [List.take_of_length_le (by omega)]))]; all_goals rfl))⟩
theorem spec_l11ForkPages_c {w : World} {H : Nat → Prop} {m : MachD} {m_Sa : Option Addr} {m_Sn m_Sc : Nat} {m_Ra : Option Addr} {m_Rn m_Rc : Nat} {m_Wa : Option Addr} {m_Wn m_Wc : Nat} {from_ : Int} {to : Int} (Q56 : Rd 2 encC okC H w (.slice m_Sa m_Sn m_Sc) m.store) (Q57 : Rd 1 encS okS H w (.slice m_Ra m_Rn m_Rc) m.touch.reads) (Q58 : Rd 1 encS okS H w (.slice m_Wa m_Wn m_Wc) m.touch.writes) (Q30 : i64ok from_) (h_to : i64ok to) (p0 : bdC 8589934592 m) :
    Calls Tryz.prog 52 #[.agg #[.slice m_Sa m_Sn m_Sc, .slice m_Ra m_Rn m_Rc, .slice m_Wa m_Wn m_Wc], .int .i64 from_, .int .i64 to] w fun e w' => ∃ (Q41 : Option Addr), ∃ (Q45 : Nat), ∃ (Q43 : Nat), ∃ (Q35 : Option Addr), ∃ (Q39 : Nat), ∃ (Q37 : Nat), ∃ (Q47 : Option Addr), ∃ (Q51 : Nat), ∃ (Q49 : Nat), e = .returned (.agg #[.slice Q41 Q45 Q43, .slice Q35 Q39 Q37, .slice Q47 Q51 Q49]) ∧ Mv [] w [] w' ∧ Rd 2 encC okC (Fsh H w) w' (.slice Q41 Q45 Q43) (forkM (kP_ from_) (kP_ to) m).store ∧ Rd 1 encS okS (Fsh H w) w' (.slice Q35 Q39 Q37) (forkM (kP_ from_) (kP_ to) m).touch.reads ∧ Rd 1 encS okS (Fsh H w) w' (.slice Q47 Q51 Q49) (forkM (kP_ from_) (kP_ to) m).touch.writes := by
 have uU : True := (fun _ => trivial) p0
 clear uU
 have Q32 : Rd 2 encC okC (V H w []) w (.slice m_Sa m_Sn m_Sc) m.store := Rd.start Q56 (fun _ _ => fps_nil _)
 obtain ⟨Q83, Q80, Q86, Q89⟩ := Rd.inv Q56
 have Q33 : Rd 1 encS okS (V H w []) w (.slice m_Ra m_Rn m_Rc) m.touch.reads := Rd.start Q57 (fun _ _ => fps_nil _)
 obtain ⟨Q84, Q81, Q87, Q90⟩ := Rd.inv Q57
 have Q34 : Rd 1 encS okS (V H w []) w (.slice m_Wa m_Wn m_Wc) m.touch.writes := Rd.start Q58 (fun _ _ => fps_nil _)
 obtain ⟨Q85, Q82, Q88, Q91⟩ := Rd.inv Q58
 refine calls_enter 47 Tryz.func52 rfl Tryz.ntmps52 (Nat.le_of_ble_eq_true rfl) (fun _ F0i => ?_)
 have F0 : Fr 47 [(0, .agg #[.slice m_Sa m_Sn m_Sc, .slice m_Ra m_Rn m_Rc, .slice m_Wa m_Wn m_Wc]), (1, .int .i64 from_), (2, .int .i64 to)] _ := F0i
 clear F0i
 refine wp_seq (wp_region_lit (l_op (f_box F0 (At.nil w) rfl rfl rfl (F0.ev 0 rfl) rfl rfl fun b1 _ w1 F2 S1 => ?_)))
 refine l_op (f_alloc F2 S1.at' ZI_29 rfl rfl rfl rfl rfl fun b3 _ w3 F4 S3 => ?_)
 refine s_end (x_normal (wp_seq ?_))
 refine x_draw (fun aZ wZ => ∃ (Q12 : Option Addr), ∃ (Q14 : Nat), ∃ (Q13 : Nat), ∃ (Q9 : Option Addr), ∃ (Q11 : Nat), ∃ (Q10 : Nat), ∃ (Q15 : Option Addr), ∃ (Q17 : Nat), ∃ (Q16 : Nat), ∃ (Q28 : Option Addr), ∃ (Q18 : Nat), ∃ (Q29 : Nat), Fr 47 [(1, .int .i64 from_), (2, .int .i64 to), (3, .pointer (some ⟨b1, 0, none⟩)), (6, .pointer (some ⟨b3, 0, none⟩)), (7, .slice Q28 Q18 Q29)] aZ ∧ Mv [bx b3 [.slice none 0 0, .slice none 0 0, .slice none 0 0] 29, bx b1 [.slice m_Sa m_Sn m_Sc, .slice m_Ra m_Rn m_Rc, .slice m_Wa m_Wn m_Wc] 29] w3 [bx b3 [.slice none 0 0, .slice none 0 0, .slice none 0 0] 29, bx b1 [.slice Q12 Q14 Q13, .slice Q9 Q11 Q10, .slice Q15 Q17 Q16] 29] wZ ∧ Rd 1 encS okS (V H w [bx b3 [.slice none 0 0, .slice none 0 0, .slice none 0 0] 29, bx b1 [.slice Q12 Q14 Q13, .slice Q9 Q11 Q10, .slice Q15 Q17 Q16] 29]) wZ (.slice Q28 Q18 Q29) (keysUnder m.store (kP_ from_)) ∧ Rd 2 encC okC (V H w [bx b3 [.slice none 0 0, .slice none 0 0, .slice none 0 0] 29, bx b1 [.slice Q12 Q14 Q13, .slice Q9 Q11 Q10, .slice Q15 Q17 Q16] 29]) wZ (.slice Q12 Q14 Q13) (lookM m ((kP_ from_) ++ bT_)).store ∧ Rd 1 encS okS (V H w [bx b3 [.slice none 0 0, .slice none 0 0, .slice none 0 0] 29, bx b1 [.slice Q12 Q14 Q13, .slice Q9 Q11 Q10, .slice Q15 Q17 Q16] 29]) wZ (.slice Q9 Q11 Q10) (lookM m ((kP_ from_) ++ bT_)).touch.reads ∧ Rd 1 encS okS (V H w [bx b3 [.slice none 0 0, .slice none 0 0, .slice none 0 0] 29, bx b1 [.slice Q12 Q14 Q13, .slice Q9 Q11 Q10, .slice Q15 Q17 Q16] 29]) wZ (.slice Q15 Q17 Q16) (lookM m ((kP_ from_) ++ bT_)).touch.writes) [] mixed S3.at' (listed := #[false, false, false, false, false, false, false, false, false]) rfl (fun w6 S6 => ?_) [] rfl ?_
 · skip
   refine g_take F4 rfl (i := 1) (listed' := #[false, true, false, false, false, false, false, false, false]) rfl (by kernel_rfl) (by kernel_rfl) (by kernel_rfl) (fun _ _ _ h => h) (Sd.of (Mv.refl S6.at') [] rfl) rfl rfl rfl rfl (fun _ hz => (r_move rfl (F4.ev 1 rfl))) fun _ F7 => ?_
   refine d_all (rs := [0, 2]) rfl (by kernel_rfl) (by simp) (d_cons (i := 0) (listed' := #[true, true, false, false, false, false, false, false, false]) rfl rfl ?_ (d_cons (i := 2) (listed' := #[false, true, true, false, false, false, false, false, false]) rfl rfl ?_ d_nil))
   · skip
     refine f_val (v := .agg #[.slice m_Sa m_Sn m_Sc, .slice m_Ra m_Rn m_Rc, .slice m_Wa m_Wn m_Wc]) F7 rfl rfl (r_loadB S6.at' 1 TI_29 rfl rfl (F7.ev 3 rfl) rfl rfl (fun h => nomatch h) rfl) rfl fun _ F8 => ?_
     refine ⟨Sd.of (Mv.refl S6.at') [] rfl, ?_⟩
     refine d_one (i := 2) (listed' := #[true, true, true, false, false, false, false, false, false]) rfl (by kernel_rfl) rfl rfl ?_
     refine f_call F8 CF_77 rfl rfl rfl rfl (lc (F8.ev 12 rfl) rfl) (spec_l11Head_c (H := fun _ => True) (id := from_) Q30) ?_
     rintro _ w9 ⟨rfl, m9, Q60⟩
     refine ⟨_, rfl, fun _ F10 => ?_⟩
     have S9 := At.frame0 S6.at' m9
     clear m9
     refine ⟨Sd.of S9 [] rfl, ?_⟩
     refine d_one (i := 3) (listed' := #[true, true, true, true, false, false, false, false, false]) rfl (by kernel_rfl) rfl rfl ?_
     refine f_call F10 CF_86 rfl rfl rfl rfl (lc (F10.ev 11 rfl) (lc (F10.ev 13 rfl) rfl)) (spec_l04Under_c (m := m) (pfx := kP_ from_) (Rd.mq Q32 (S1.trans (S3.trans (S6.trans S9)))) (Rd.mq Q33 (S1.trans (S3.trans (S6.trans S9)))) (Rd.mq Q34 (S1.trans (S3.trans (S6.trans S9)))) Q60 (by first | assumption | omega | ((repeat first | apply b1_ | apply b2_ | apply b3_ | apply b4_ | apply b5_ | apply b6_); exact bdC.le ‹_› (by decide)) | decide | exact Nat.le_trans (keyNum_size _ _ ‹_›) (by decide)) (by first | assumption | omega | ((repeat first | apply b1_ | apply b2_ | apply b3_ | apply b4_ | apply b5_ | apply b6_); exact bdC.le ‹_› (by decide)) | decide | exact Nat.le_trans (keyNum_size _ _ ‹_›) (by decide)) (by first | assumption | omega | ((repeat first | apply b1_ | apply b2_ | apply b3_ | apply b4_ | apply b5_ | apply b6_); exact bdC.le ‹_› (by decide)) | decide | exact Nat.le_trans (keyNum_size _ _ ‹_›) (by decide))) ?_
     rintro _ w11 ⟨Q12, Q14, Q13, Q9, Q11, Q10, Q15, Q17, Q16, Q28, Q18, Q29, rfl, m11, v11_0, v11_1, v11_2, v11_3⟩
     refine ⟨_, rfl, fun _ F12 => ?_⟩
     have S11 := At.frame0 S9.at' m11
     have V11_0 := Rd.got0 S9.at' ((S1.trans (S3.trans (S6.trans S9))).kp.size) v11_0 S11
     obtain ⟨ln11_0, le11_0, mx11_0, ni11_0⟩ := Rd.inv V11_0
     have V11_1 := Rd.got0 S9.at' ((S1.trans (S3.trans (S6.trans S9))).kp.size) v11_1 S11
     obtain ⟨ln11_1, le11_1, mx11_1, ni11_1⟩ := Rd.inv V11_1
     have V11_2 := Rd.got0 S9.at' ((S1.trans (S3.trans (S6.trans S9))).kp.size) v11_2 S11
     obtain ⟨ln11_2, le11_2, mx11_2, ni11_2⟩ := Rd.inv V11_2
     have V11_3 := Rd.got0 S9.at' ((S1.trans (S3.trans (S6.trans S9))).kp.size) v11_3 S11
     obtain ⟨ln11_3, le11_3, mx11_3, ni11_3⟩ := Rd.inv V11_3
     clear m11 v11_0 v11_1 v11_2 v11_3
     refine ⟨Sd.of (S9.trans S11) [] rfl, ?_⟩
     refine g_take F12 rfl (i := 4) (listed' := #[true, true, true, true, true, false, false, false, false]) rfl (by kernel_rfl) (by kernel_rfl) (by kernel_rfl) (fun _ _ _ h => h) (Sd.of (S9.trans S11) [] rfl) rfl rfl rfl rfl (fun _ hz => (r_move rfl (F12.ev 14 rfl))) fun _ F13 => ?_
     refine g_take (v := .agg #[.slice Q12 Q14 Q13, .slice Q9 Q11 Q10, .slice Q15 Q17 Q16]) F13 rfl (i := 5) (listed' := #[true, true, true, true, true, true, false, false, false]) rfl (by kernel_rfl) (by kernel_rfl) (by kernel_rfl) (fun _ _ _ h => h) (Sd.of (S9.trans S11) [] rfl) rfl rfl rfl rfl (fun _ hz => (r_extract rfl (F13.ev 10 rfl) rfl)) fun _ F14 => ?_
     refine g_take (v := .slice Q28 Q18 Q29) F14 rfl (i := 6) (listed' := #[true, true, true, true, true, true, true, false, false]) rfl (by kernel_rfl) (by kernel_rfl) (by kernel_rfl) (fun _ _ _ h => h) (Sd.of (S9.trans S11) [] rfl) rfl rfl rfl rfl (fun _ hz => (r_extract rfl (F14.ev 10 rfl) rfl)) fun _ F15 => ?_
     refine d_one (i := 7) (listed' := #[true, true, true, true, true, true, true, true, false]) rfl (by kernel_rfl) rfl rfl ?_
     refine s_store S11.at' 1 TI_29 rfl rfl rfl rfl rfl (F15.ev 3 rfl) (F15.ev 15 rfl) rfl rfl rfl rfl rfl fun w16 S16 => ?_
     refine ⟨Sd.of (S9.trans (S11.trans S16)) [] rfl, ?_⟩
     refine g_take F15 rfl (i := 8) (listed' := #[true, true, true, true, true, true, true, true, true]) rfl (by kernel_rfl) (by kernel_rfl) (by kernel_rfl) (fun _ _ _ h => h) (Sd.of (S9.trans (S11.trans S16)) [] rfl) rfl rfl rfl rfl (fun _ hz => (r_assign rfl (F15.ev 16 rfl))) fun _ F17 => ?_
     refine wpAnyH_done (by kernel_rfl) (x_normal ?_) _
     exact ⟨Q12, Q14, Q13, Q9, Q11, Q10, Q15, Q17, Q16, Q28, Q18, Q29, F17.cut rfl, ((S6.trans (S9.trans (S11.trans S16))).pick [1, 0] rfl), (Rd.mq (Rd.mq V11_3 S16) (Mv.pick (Mv.refl S16.at') [1, 0] rfl)), (Rd.mq (Rd.mq V11_0 S16) (Mv.pick (Mv.refl S16.at') [1, 0] rfl)), (Rd.mq (Rd.mq V11_1 S16) (Mv.pick (Mv.refl S16.at') [1, 0] rfl)), (Rd.mq (Rd.mq V11_2 S16) (Mv.pick (Mv.refl S16.at') [1, 0] rfl))⟩
   · skip
     refine f_call F7 CF_77 rfl rfl rfl rfl (lc (F7.ev 12 rfl) rfl) (spec_l11Head_c (H := fun _ => True) (id := from_) Q30) ?_
     rintro _ w18 ⟨rfl, m18, Q59⟩
     refine ⟨_, rfl, fun _ F19 => ?_⟩
     have S18 := At.frame0 S6.at' m18
     clear m18
     refine ⟨Sd.of S18 [] rfl, ?_⟩
     refine d_one (i := 0) (listed' := #[true, true, true, false, false, false, false, false, false]) rfl (by kernel_rfl) rfl rfl ?_
     refine f_val (v := .agg #[.slice m_Sa m_Sn m_Sc, .slice m_Ra m_Rn m_Rc, .slice m_Wa m_Wn m_Wc]) F19 rfl rfl (r_loadB S18.at' 1 TI_29 rfl rfl (F19.ev 3 rfl) rfl rfl (fun h => nomatch h) rfl) rfl fun _ F20 => ?_
     refine ⟨Sd.of S18 [] rfl, ?_⟩
     refine d_one (i := 3) (listed' := #[true, true, true, true, false, false, false, false, false]) rfl (by kernel_rfl) rfl rfl ?_
     refine f_call F20 CF_86 rfl rfl rfl rfl (lc (F20.ev 11 rfl) (lc (F20.ev 13 rfl) rfl)) (spec_l04Under_c (m := m) (pfx := kP_ from_) (Rd.mq Q32 (S1.trans (S3.trans (S6.trans S18)))) (Rd.mq Q33 (S1.trans (S3.trans (S6.trans S18)))) (Rd.mq Q34 (S1.trans (S3.trans (S6.trans S18)))) Q59 (by first | assumption | omega | ((repeat first | apply b1_ | apply b2_ | apply b3_ | apply b4_ | apply b5_ | apply b6_); exact bdC.le ‹_› (by decide)) | decide | exact Nat.le_trans (keyNum_size _ _ ‹_›) (by decide)) (by first | assumption | omega | ((repeat first | apply b1_ | apply b2_ | apply b3_ | apply b4_ | apply b5_ | apply b6_); exact bdC.le ‹_› (by decide)) | decide | exact Nat.le_trans (keyNum_size _ _ ‹_›) (by decide)) (by first | assumption | omega | ((repeat first | apply b1_ | apply b2_ | apply b3_ | apply b4_ | apply b5_ | apply b6_); exact bdC.le ‹_› (by decide)) | decide | exact Nat.le_trans (keyNum_size _ _ ‹_›) (by decide))) ?_
     rintro _ w21 ⟨Q42, Q46, Q44, Q36, Q40, Q38, Q48, Q52, Q50, Q53, Q55, Q54, rfl, m21, v21_0, v21_1, v21_2, v21_3⟩
     refine ⟨_, rfl, fun _ F22 => ?_⟩
     have S21 := At.frame0 S18.at' m21
     have V21_0 := Rd.got0 S18.at' ((S1.trans (S3.trans (S6.trans S18))).kp.size) v21_0 S21
     obtain ⟨ln21_0, le21_0, mx21_0, ni21_0⟩ := Rd.inv V21_0
     have V21_1 := Rd.got0 S18.at' ((S1.trans (S3.trans (S6.trans S18))).kp.size) v21_1 S21
     obtain ⟨ln21_1, le21_1, mx21_1, ni21_1⟩ := Rd.inv V21_1
     have V21_2 := Rd.got0 S18.at' ((S1.trans (S3.trans (S6.trans S18))).kp.size) v21_2 S21
     obtain ⟨ln21_2, le21_2, mx21_2, ni21_2⟩ := Rd.inv V21_2
     have V21_3 := Rd.got0 S18.at' ((S1.trans (S3.trans (S6.trans S18))).kp.size) v21_3 S21
     obtain ⟨ln21_3, le21_3, mx21_3, ni21_3⟩ := Rd.inv V21_3
     clear m21 v21_0 v21_1 v21_2 v21_3
     refine ⟨Sd.of (S18.trans S21) [] rfl, ?_⟩
     refine g_take F22 rfl (i := 4) (listed' := #[true, true, true, true, true, false, false, false, false]) rfl (by kernel_rfl) (by kernel_rfl) (by kernel_rfl) (fun _ _ _ h => h) (Sd.of (S18.trans S21) [] rfl) rfl rfl rfl rfl (fun _ hz => (r_move rfl (F22.ev 14 rfl))) fun _ F23 => ?_
     refine g_take (v := .agg #[.slice Q42 Q46 Q44, .slice Q36 Q40 Q38, .slice Q48 Q52 Q50]) F23 rfl (i := 5) (listed' := #[true, true, true, true, true, true, false, false, false]) rfl (by kernel_rfl) (by kernel_rfl) (by kernel_rfl) (fun _ _ _ h => h) (Sd.of (S18.trans S21) [] rfl) rfl rfl rfl rfl (fun _ hz => (r_extract rfl (F23.ev 10 rfl) rfl)) fun _ F24 => ?_
     refine g_take (v := .slice Q53 Q55 Q54) F24 rfl (i := 6) (listed' := #[true, true, true, true, true, true, true, false, false]) rfl (by kernel_rfl) (by kernel_rfl) (by kernel_rfl) (fun _ _ _ h => h) (Sd.of (S18.trans S21) [] rfl) rfl rfl rfl rfl (fun _ hz => (r_extract rfl (F24.ev 10 rfl) rfl)) fun _ F25 => ?_
     refine d_one (i := 7) (listed' := #[true, true, true, true, true, true, true, true, false]) rfl (by kernel_rfl) rfl rfl ?_
     refine s_store S21.at' 1 TI_29 rfl rfl rfl rfl rfl (F25.ev 3 rfl) (F25.ev 15 rfl) rfl rfl rfl rfl rfl fun w26 S26 => ?_
     refine ⟨Sd.of (S18.trans (S21.trans S26)) [] rfl, ?_⟩
     refine g_take F25 rfl (i := 8) (listed' := #[true, true, true, true, true, true, true, true, true]) rfl (by kernel_rfl) (by kernel_rfl) (by kernel_rfl) (fun _ _ _ h => h) (Sd.of (S18.trans (S21.trans S26)) [] rfl) rfl rfl rfl rfl (fun _ hz => (r_assign rfl (F25.ev 16 rfl))) fun _ F27 => ?_
     refine wpAnyH_done (by kernel_rfl) (x_normal ?_) _
     exact ⟨Q42, Q46, Q44, Q36, Q40, Q38, Q48, Q52, Q50, Q53, Q55, Q54, F27.cut rfl, ((S6.trans (S18.trans (S21.trans S26))).pick [1, 0] rfl), (Rd.mq (Rd.mq V21_3 S26) (Mv.pick (Mv.refl S26.at') [1, 0] rfl)), (Rd.mq (Rd.mq V21_0 S26) (Mv.pick (Mv.refl S26.at') [1, 0] rfl)), (Rd.mq (Rd.mq V21_1 S26) (Mv.pick (Mv.refl S26.at') [1, 0] rfl)), (Rd.mq (Rd.mq V21_2 S26) (Mv.pick (Mv.refl S26.at') [1, 0] rfl))⟩
 · rintro a28 w28 ⟨Q12, Q14, Q13, Q9, Q11, Q10, Q15, Q17, Q16, Q28, Q18, Q29, F28, S28, V28_0, V28_1, V28_2, V28_3⟩
   obtain ⟨ln28_0, le28_0, mx28_0, ni28_0⟩ := Rd.inv V28_0
   obtain ⟨ln28_1, le28_1, mx28_1, ni28_1⟩ := Rd.inv V28_1
   obtain ⟨ln28_2, le28_2, mx28_2, ni28_2⟩ := Rd.inv V28_2
   obtain ⟨ln28_3, le28_3, mx28_3, ni28_3⟩ := Rd.inv V28_3
   refine x_normal (wp_seq (wp_seq (wp_region_lit (l_op (f_val F28 rfl rfl (r_assign rfl rfl) rfl fun _ F29 => ?_)))))
   refine s_end (x_normal (wp_block ?_))
   refine x_loop (fun (k : Nat) aZ wZ => ∃ (M : MachD), ∃ (sa : Option Addr), ∃ (sn : Nat), ∃ (sc : Nat), ∃ (ra : Option Addr), ∃ (rn : Nat), ∃ (rc : Nat), ∃ (ua : Option Addr), ∃ (un : Nat), ∃ (uc : Nat), Fr 47 [(8, .int .i64 ((k : Nat) : Int)), (1, .int .i64 from_), (2, .int .i64 to), (3, .pointer (some ⟨b1, 0, none⟩)), (6, .pointer (some ⟨b3, 0, none⟩)), (7, .slice Q28 Q18 Q29)] aZ ∧ Mv [bx b3 [.slice none 0 0, .slice none 0 0, .slice none 0 0] 29, bx b1 [.slice Q12 Q14 Q13, .slice Q9 Q11 Q10, .slice Q15 Q17 Q16] 29] w28 [bx b3 [.slice none 0 0, .slice none 0 0, .slice none 0 0] 29, bx b1 [.slice sa sn sc, .slice ra rn rc, .slice ua un uc] 29] wZ ∧ Rd 2 encC okC (V H w [bx b3 [.slice none 0 0, .slice none 0 0, .slice none 0 0] 29, bx b1 [.slice sa sn sc, .slice ra rn rc, .slice ua un uc] 29]) wZ (.slice sa sn sc) M.store ∧ Rd 1 encS okS (V H w [bx b3 [.slice none 0 0, .slice none 0 0, .slice none 0 0] 29, bx b1 [.slice sa sn sc, .slice ra rn rc, .slice ua un uc] 29]) wZ (.slice ra rn rc) M.touch.reads ∧ Rd 1 encS okS (V H w [bx b3 [.slice none 0 0, .slice none 0 0, .slice none 0 0] 29, bx b1 [.slice sa sn sc, .slice ra rn rc, .slice ua un uc] 29]) wZ (.slice ua un uc) M.touch.writes ∧ (k ≤ (keysUnder m.store (kP_ from_)).length) ∧ (M = (forkL (kP_ from_) (kP_ to) (lookM m (kP_ from_ ++ bT_)) ((keysUnder m.store (kP_ from_)).take k)))) (fun (k : Nat) => (keysUnder m.store (kP_ from_)).length - k) (0) ?_ ?_
   · exact ⟨lookM m (kP_ from_ ++ bT_), Q12, Q14, Q13, Q9, Q11, Q10, Q15, Q17, Q16, F29.cut rfl, (Mv.refl S28.at'), V28_1, V28_2, V28_3, by omega, rfl⟩
   · rintro k a30 w30 ⟨M, sa, sn, sc, ra, rn, rc, ua, un, uc, F30, S30, W30_0, W30_1, W30_2, hk_0, hk_1⟩
     obtain ⟨lv30_0, lw30_0, lx30_0, ly30_0⟩ := Rd.inv W30_0
     obtain ⟨lv30_1, lw30_1, lx30_1, ly30_1⟩ := Rd.inv W30_1
     obtain ⟨lv30_2, lw30_2, lx30_2, ly30_2⟩ := Rd.inv W30_2
     have wb := forkT_bdC (f := kP_ from_) (t := kP_ to) (m := m) ‹_› k
     rw [← hk_1] at wb
     refine wp_seq (wp_seq (wp_region_lit (l_op (f_mv F30 rfl rfl rfl rfl rfl fun _ F31 => ?_))))
     refine l_op (f_mv F31 rfl rfl rfl rfl rfl fun _ F32 => ?_)
     refine l_op (f_val F32 rfl rfl (r_len Tryz.underlying25 rfl (F32.ev 18 rfl)) rfl fun _ F33 => ?_)
     refine l_op (f_val F33 rfl rfl (r_cmp (b := decide (k < Q18)) (.inr (.inr (.inl rfl))) rfl (F33.ev 17 rfl) (F33.ev 19 rfl) (dec_of (by omega))) rfl fun _ F34 => ?_)
     refine s_end (x_normal (x_cond (p := k < Q18) (F34.ev 20 rfl) (fun h35 => ?_) (fun h35 => ?_)))
     · skip
       refine wp_skip (x_normal (wp_seq (wp_block (wp_seq (wp_region_lit (l_op (f_val F34 rfl rfl (r_assign rfl rfl) rfl fun _ F36 => ?_)))))))
       refine s_end (x_normal (wp_seq ?_))
       obtain ⟨x1, hx1, okx1⟩ := Rd.elem (Rd.mq V28_0 S30) k (by first | assumption | omega)
       refine x_draw (fun aZ wZ => ∃ (Q3 : Option Addr), ∃ (Q5 : Nat), ∃ (Q4 : Nat), ∃ (Q0 : Option Addr), ∃ (Q2 : Nat), ∃ (Q1 : Nat), ∃ (Q6 : Option Addr), ∃ (Q8 : Nat), ∃ (Q7 : Nat), Fr 47 [(1, .int .i64 from_), (2, .int .i64 to), (3, .pointer (some ⟨b1, 0, none⟩)), (6, .pointer (some ⟨b3, 0, none⟩)), (7, .slice Q28 Q18 Q29), (8, .int .i64 ((k : Nat) : Int)), (9, .string (getKey M.store x1))] aZ ∧ Mv [bx b3 [.slice none 0 0, .slice none 0 0, .slice none 0 0] 29, bx b1 [.slice sa sn sc, .slice ra rn rc, .slice ua un uc] 29] w30 [bx b3 [.slice none 0 0, .slice none 0 0, .slice none 0 0] 29, bx b1 [.slice Q3 Q5 Q4, .slice Q0 Q2 Q1, .slice Q6 Q8 Q7] 29] wZ ∧ Rd 2 encC okC (V H w [bx b3 [.slice none 0 0, .slice none 0 0, .slice none 0 0] 29, bx b1 [.slice Q3 Q5 Q4, .slice Q0 Q2 Q1, .slice Q6 Q8 Q7] 29]) wZ (.slice Q3 Q5 Q4) (lookM M x1).store ∧ Rd 1 encS okS (V H w [bx b3 [.slice none 0 0, .slice none 0 0, .slice none 0 0] 29, bx b1 [.slice Q3 Q5 Q4, .slice Q0 Q2 Q1, .slice Q6 Q8 Q7] 29]) wZ (.slice Q0 Q2 Q1) (lookM M x1).touch.reads ∧ Rd 1 encS okS (V H w [bx b3 [.slice none 0 0, .slice none 0 0, .slice none 0 0] 29, bx b1 [.slice Q3 Q5 Q4, .slice Q0 Q2 Q1, .slice Q6 Q8 Q7] 29]) wZ (.slice Q6 Q8 Q7) (lookM M x1).touch.writes ∧ okS (getKey M.store x1)) [] mixed S30.at' (listed := #[false, false, false, false, false, false, false, false, false, false, false]) rfl (fun w38 S38 => ?_) [] rfl ?_
       · skip
         refine g_take F36 rfl (i := 1) (listed' := #[false, true, false, false, false, false, false, false, false, false, false]) rfl (by kernel_rfl) (by kernel_rfl) (by kernel_rfl) (fun _ _ _ h => h) (Sd.of (Mv.refl S38.at') [] rfl) rfl rfl rfl rfl (fun _ hz => (r_move rfl (F36.ev 7 rfl))) fun _ F39 => ?_
         refine g_take F39 rfl (i := 2) (listed' := #[false, true, true, false, false, false, false, false, false, false, false]) rfl (by kernel_rfl) (by kernel_rfl) (by kernel_rfl) (fun _ _ _ h => h) (Sd.of (Mv.refl S38.at') [] rfl) rfl rfl rfl rfl (fun _ hz => (r_move rfl (F39.ev 8 rfl))) fun _ F40 => ?_
         obtain ⟨B41, O41, y41, ad41, hy41, oky41, ln41, cl41⟩ := Rd.atK (Nat.succ_pos _) (Rd.mq V28_0 (S30.trans S38)) k (by first | assumption | omega)
         clear ln41
         obtain rfl := Option.some.inj (hx1.symm.trans hy41)
         clear hy41 oky41
         refine g_take F40 rfl (i := 3) (listed' := #[false, true, true, true, false, false, false, false, false, false, false]) rfl (by kernel_rfl) (by kernel_rfl) (by kernel_rfl) (fun _ _ _ h => h) (Sd.of (Mv.refl S38.at') [] rfl) rfl rfl rfl rfl (fun _ hz => (r_indexAddr (i := k) ET_25 rfl ((F40.ev 25 rfl).trans (by rw [ad41])) (F40.ev 26 rfl) (by omega) (by first | assumption | omega))) fun _ F42 => ?_
         refine g_take (v := .string x1) F42 rfl (i := 4) (listed' := #[false, true, true, true, true, false, false, false, false, false, false]) rfl (by kernel_rfl) (by kernel_rfl) (by kernel_rfl) (fun _ _ _ h => h) (Sd.of (Mv.refl S38.at') [] rfl) rfl rfl rfl rfl (fun _ hz => (r_load (cs := [.string x1]) TI_9 rfl (F42.ev 27 rfl) rfl (fun _ => rfl) (elem_sub (f := 0) (cl41 _ hz.kp) [.string x1] rfl))) fun _ F43 => ?_
         refine d_one (i := 0) (listed' := #[true, true, true, true, true, false, false, false, false, false, false]) rfl (by kernel_rfl) rfl rfl ?_
         refine f_val (v := .agg #[.slice sa sn sc, .slice ra rn rc, .slice ua un uc]) F43 rfl rfl (r_loadB S38.at' 1 TI_29 rfl rfl (F43.ev 3 rfl) rfl rfl (fun h => nomatch h) rfl) rfl fun _ F44 => ?_
         refine ⟨Sd.of (Mv.refl S38.at') [] rfl, ?_⟩
         refine d_one (i := 5) (listed' := #[true, true, true, true, true, true, false, false, false, false, false]) rfl (by kernel_rfl) rfl rfl ?_
         refine f_call F44 CF_81 rfl rfl rfl rfl (lc (F44.ev 24 rfl) (lc (F44.ev 28 rfl) rfl)) (spec_l04Look_c (m := M) (key := x1) (Rd.mq W30_0 S38) (Rd.mq W30_1 S38) (Rd.mq W30_2 S38) okx1 (by first | assumption | omega | ((repeat first | apply b1_ | apply b2_ | apply b3_ | apply b4_ | apply b5_ | apply b6_); exact bdC.le ‹_› (by decide)) | decide | exact Nat.le_trans (keyNum_size _ _ ‹_›) (by decide))) ?_
         rintro _ w45 ⟨Q3, Q5, Q4, Q0, Q2, Q1, Q6, Q8, Q7, rfl, m45, v45_0, v45_1, v45_2, Q61⟩
         refine ⟨_, rfl, fun _ F46 => ?_⟩
         have S45 := At.frame0 S38.at' m45
         have V45_0 := Rd.got0 S38.at' ((S1.trans (S3.trans (S28.trans (S30.trans S38)))).kp.size) v45_0 S45
         obtain ⟨ln45_0, le45_0, mx45_0, ni45_0⟩ := Rd.inv V45_0
         have V45_1 := Rd.got0 S38.at' ((S1.trans (S3.trans (S28.trans (S30.trans S38)))).kp.size) v45_1 S45
         obtain ⟨ln45_1, le45_1, mx45_1, ni45_1⟩ := Rd.inv V45_1
         have V45_2 := Rd.got0 S38.at' ((S1.trans (S3.trans (S28.trans (S30.trans S38)))).kp.size) v45_2 S45
         obtain ⟨ln45_2, le45_2, mx45_2, ni45_2⟩ := Rd.inv V45_2
         clear m45 v45_0 v45_1 v45_2
         refine ⟨Sd.of S45 [] rfl, ?_⟩
         refine g_take F46 rfl (i := 6) (listed' := #[true, true, true, true, true, true, true, false, false, false, false]) rfl (by kernel_rfl) (by kernel_rfl) (by kernel_rfl) (fun _ _ _ h => h) (Sd.of S45 [] rfl) rfl rfl rfl rfl (fun _ hz => (r_move rfl (F46.ev 29 rfl))) fun _ F47 => ?_
         refine g_take (v := .agg #[.slice Q3 Q5 Q4, .slice Q0 Q2 Q1, .slice Q6 Q8 Q7]) F47 rfl (i := 7) (listed' := #[true, true, true, true, true, true, true, true, false, false, false]) rfl (by kernel_rfl) (by kernel_rfl) (by kernel_rfl) (fun _ _ _ h => h) (Sd.of S45 [] rfl) rfl rfl rfl rfl (fun _ hz => (r_extract rfl (F47.ev 23 rfl) rfl)) fun _ F48 => ?_
         refine g_take (v := .string (getKey M.store x1)) F48 rfl (i := 8) (listed' := #[true, true, true, true, true, true, true, true, true, false, false]) rfl (by kernel_rfl) (by kernel_rfl) (by kernel_rfl) (fun _ _ _ h => h) (Sd.of S45 [] rfl) rfl rfl rfl rfl (fun _ hz => (r_extract rfl (F48.ev 23 rfl) rfl)) fun _ F49 => ?_
         refine d_one (i := 9) (listed' := #[true, true, true, true, true, true, true, true, true, true, false]) rfl (by kernel_rfl) rfl rfl ?_
         refine s_store S45.at' 1 TI_29 rfl rfl rfl rfl rfl (F49.ev 3 rfl) (F49.ev 30 rfl) rfl rfl rfl rfl rfl fun w50 S50 => ?_
         refine ⟨Sd.of (S45.trans S50) [] rfl, ?_⟩
         refine g_take F49 rfl (i := 10) (listed' := #[true, true, true, true, true, true, true, true, true, true, true]) rfl (by kernel_rfl) (by kernel_rfl) (by kernel_rfl) (fun _ _ _ h => h) (Sd.of (S45.trans S50) [] rfl) rfl rfl rfl rfl (fun _ hz => (r_assign rfl (F49.ev 31 rfl))) fun _ F51 => ?_
         refine wpAnyH_done (by kernel_rfl) (x_normal ?_) _
         exact ⟨Q3, Q5, Q4, Q0, Q2, Q1, Q6, Q8, Q7, F51.cut rfl, ((S38.trans (S45.trans S50)).pick [1, 0] rfl), (Rd.mq (Rd.mq V45_0 S50) (Mv.pick (Mv.refl S50.at') [1, 0] rfl)), (Rd.mq (Rd.mq V45_1 S50) (Mv.pick (Mv.refl S50.at') [1, 0] rfl)), (Rd.mq (Rd.mq V45_2 S50) (Mv.pick (Mv.refl S50.at') [1, 0] rfl)), Q61⟩
       · rintro a52 w52 ⟨Q3, Q5, Q4, Q0, Q2, Q1, Q6, Q8, Q7, F52, S52, V52_0, V52_1, V52_2, Q31⟩
         obtain ⟨ln52_0, le52_0, mx52_0, ni52_0⟩ := Rd.inv V52_0
         obtain ⟨ln52_1, le52_1, mx52_1, ni52_1⟩ := Rd.inv V52_1
         obtain ⟨ln52_2, le52_2, mx52_2, ni52_2⟩ := Rd.inv V52_2
         refine x_normal ?_
         refine x_draw (fun aZ wZ => ∃ (Q22 : Option Addr), ∃ (Q24 : Nat), ∃ (Q23 : Nat), ∃ (Q19 : Option Addr), ∃ (Q21 : Nat), ∃ (Q20 : Nat), ∃ (Q25 : Option Addr), ∃ (Q27 : Nat), ∃ (Q26 : Nat), Fr 47 [(1, .int .i64 from_), (2, .int .i64 to), (3, .pointer (some ⟨b1, 0, none⟩)), (6, .pointer (some ⟨b3, 0, none⟩)), (7, .slice Q28 Q18 Q29), (8, .int .i64 ((k : Nat) : Int))] aZ ∧ Mv [bx b3 [.slice none 0 0, .slice none 0 0, .slice none 0 0] 29, bx b1 [.slice Q3 Q5 Q4, .slice Q0 Q2 Q1, .slice Q6 Q8 Q7] 29] w52 [bx b3 [.slice none 0 0, .slice none 0 0, .slice none 0 0] 29, bx b1 [.slice Q22 Q24 Q23, .slice Q19 Q21 Q20, .slice Q25 Q27 Q26] 29] wZ ∧ Rd 2 encC okC (V H w [bx b3 [.slice none 0 0, .slice none 0 0, .slice none 0 0] 29, bx b1 [.slice Q22 Q24 Q23, .slice Q19 Q21 Q20, .slice Q25 Q27 Q26] 29]) wZ (.slice Q22 Q24 Q23) (layM (lookM M x1) ((kP_ to) ++ (x1.extract (kP_ from_).size x1.size)) (getKey M.store x1)).store ∧ Rd 1 encS okS (V H w [bx b3 [.slice none 0 0, .slice none 0 0, .slice none 0 0] 29, bx b1 [.slice Q22 Q24 Q23, .slice Q19 Q21 Q20, .slice Q25 Q27 Q26] 29]) wZ (.slice Q19 Q21 Q20) (layM (lookM M x1) ((kP_ to) ++ (x1.extract (kP_ from_).size x1.size)) (getKey M.store x1)).touch.reads ∧ Rd 1 encS okS (V H w [bx b3 [.slice none 0 0, .slice none 0 0, .slice none 0 0] 29, bx b1 [.slice Q22 Q24 Q23, .slice Q19 Q21 Q20, .slice Q25 Q27 Q26] 29]) wZ (.slice Q25 Q27 Q26) (layM (lookM M x1) ((kP_ to) ++ (x1.extract (kP_ from_).size x1.size)) (getKey M.store x1)).touch.writes) [] mixed S52.at' (listed := #[false, false, false, false, false, false, false, false, false, false, false, false, false, false, false]) rfl (fun w54 S54 => ?_) [] rfl ?_
         · skip
           refine g_take F52 rfl (i := 1) (listed' := #[false, true, false, false, false, false, false, false, false, false, false, false, false, false, false]) rfl (by kernel_rfl) (by kernel_rfl) (by kernel_rfl) (fun _ _ _ h => h) (Sd.of (Mv.refl S54.at') [] rfl) rfl rfl rfl rfl (fun _ hz => (r_move rfl (F52.ev 2 rfl))) fun _ F55 => ?_
           refine g_take F55 rfl (i := 3) (listed' := #[false, true, false, true, false, false, false, false, false, false, false, false, false, false, false]) rfl (by kernel_rfl) (by kernel_rfl) (by kernel_rfl) (fun _ _ _ h => h) (Sd.of (Mv.refl S54.at') [] rfl) rfl rfl rfl rfl (fun _ hz => (r_move rfl (F55.ev 7 rfl))) fun _ F56 => ?_
           refine g_take F56 rfl (i := 4) (listed' := #[false, true, false, true, true, false, false, false, false, false, false, false, false, false, false]) rfl (by kernel_rfl) (by kernel_rfl) (by kernel_rfl) (fun _ _ _ h => h) (Sd.of (Mv.refl S54.at') [] rfl) rfl rfl rfl rfl (fun _ hz => (r_move rfl (F56.ev 8 rfl))) fun _ F57 => ?_
           obtain ⟨B58, O58, y58, ad58, hy58, oky58, ln58, cl58⟩ := Rd.atK (Nat.succ_pos _) (Rd.mq V28_0 (S30.trans (S52.trans S54))) k (by first | assumption | omega)
           clear ln58
           obtain rfl := Option.some.inj (hx1.symm.trans hy58)
           clear hy58 oky58
           refine g_take F57 rfl (i := 5) (listed' := #[false, true, false, true, true, true, false, false, false, false, false, false, false, false, false]) rfl (by kernel_rfl) (by kernel_rfl) (by kernel_rfl) (fun _ _ _ h => h) (Sd.of (Mv.refl S54.at') [] rfl) rfl rfl rfl rfl (fun _ hz => (r_indexAddr (i := k) ET_25 rfl ((F57.ev 35 rfl).trans (by rw [ad58])) (F57.ev 36 rfl) (by omega) (by first | assumption | omega))) fun _ F59 => ?_
           refine g_take (v := .string x1) F59 rfl (i := 6) (listed' := #[false, true, false, true, true, true, true, false, false, false, false, false, false, false, false]) rfl (by kernel_rfl) (by kernel_rfl) (by kernel_rfl) (fun _ _ _ h => h) (Sd.of (Mv.refl S54.at') [] rfl) rfl rfl rfl rfl (fun _ hz => (r_load (cs := [.string x1]) TI_9 rfl (F59.ev 37 rfl) rfl (fun _ => rfl) (elem_sub (f := 0) (cl58 _ hz.kp) [.string x1] rfl))) fun _ F60 => ?_
           refine g_take F60 rfl (i := 7) (listed' := #[false, true, false, true, true, true, true, true, false, false, false, false, false, false, false]) rfl (by kernel_rfl) (by kernel_rfl) (by kernel_rfl) (fun _ _ _ h => h) (Sd.of (Mv.refl S54.at') [] rfl) rfl rfl rfl rfl (fun _ hz => (r_move rfl (F60.ev 1 rfl))) fun _ F61 => ?_
           refine g_take F61 rfl (i := 12) (listed' := #[false, true, false, true, true, true, true, true, false, false, false, false, true, false, false]) rfl (by kernel_rfl) (by kernel_rfl) (by kernel_rfl) (fun _ _ _ h => h) (Sd.of (Mv.refl S54.at') [] rfl) rfl rfl rfl rfl (fun _ hz => (r_move rfl (F61.ev 9 rfl))) fun _ F62 => ?_
           refine d_all (rs := [0, 2]) rfl (by kernel_rfl) (by simp) (d_cons (i := 0) (listed' := #[true, true, false, true, true, true, true, true, false, false, false, false, true, false, false]) rfl rfl ?_ (d_cons (i := 2) (listed' := #[false, true, true, true, true, true, true, true, false, false, false, false, true, false, false]) rfl rfl ?_ d_nil))
           · skip
             refine f_val (v := .agg #[.slice Q3 Q5 Q4, .slice Q0 Q2 Q1, .slice Q6 Q8 Q7]) F62 rfl rfl (r_loadB S54.at' 1 TI_29 rfl rfl (F62.ev 3 rfl) rfl rfl (fun h => nomatch h) rfl) rfl fun _ F63 => ?_
             refine ⟨Sd.of (Mv.refl S54.at') [] rfl, ?_⟩
             refine d_one (i := 2) (listed' := #[true, true, true, true, true, true, true, true, false, false, false, false, true, false, false]) rfl (by kernel_rfl) rfl rfl ?_
             refine f_call F63 CF_77 rfl rfl rfl rfl (lc (F63.ev 33 rfl) rfl) (spec_l11Head_c (H := fun _ => True) (id := to) h_to) ?_
             rintro _ w64 ⟨rfl, m64, Q92⟩
             refine ⟨_, rfl, fun _ F65 => ?_⟩
             have S64 := At.frame0 S54.at' m64
             clear m64
             refine ⟨Sd.of S64 [] rfl, ?_⟩
             refine d_one (i := 8) (listed' := #[true, true, true, true, true, true, true, true, true, false, false, false, true, false, false]) rfl (by kernel_rfl) rfl rfl ?_
             refine f_call F65 CF_77 rfl rfl rfl rfl (lc (F65.ev 39 rfl) rfl) (spec_l11Head_c (H := fun _ => True) (id := from_) Q30) ?_
             rintro _ w66 ⟨rfl, m66, Q93⟩
             refine ⟨_, rfl, fun _ F67 => ?_⟩
             have S66 := At.frame0 S64.at' m66
             clear m66
             refine ⟨Sd.of (S64.trans S66) [] rfl, ?_⟩
             refine g_take F67 rfl (i := 9) (listed' := #[true, true, true, true, true, true, true, true, true, true, false, false, true, false, false]) rfl (by kernel_rfl) (by kernel_rfl) (by kernel_rfl) (fun _ _ _ h => h) (Sd.of (S64.trans S66) [] rfl) rfl rfl rfl rfl (fun _ hz => (r_lenS (fun t ht => by cases ht; exact Tryz.underlying9) rfl rfl (F67.ev 40 rfl))) fun _ F68 => ?_
             refine g_take F68 rfl (i := 10) (listed' := #[true, true, true, true, true, true, true, true, true, true, true, false, true, false, false]) rfl (by kernel_rfl) (by kernel_rfl) (by kernel_rfl) (fun _ _ _ h => h) (Sd.of (S64.trans S66) [] rfl) rfl rfl rfl rfl (fun _ hz => (r_sliceS (l := (kP_ from_).size) (h := x1.size) Tryz.underlying9 rfl (F68.ev 38 rfl) (F68.ev 41 rfl) rfl (by have := keysUnder_pre hx1; omega) (by have := keysUnder_pre hx1; omega) rfl)) fun _ F69 => ?_
             have k70 : (kP_ to).size + (x1.extract (kP_ from_).size x1.size).size ≤ 9223372036854775807 := by have hs := bdC.key (m := m) ‹_› hx1; have hl : (kP_ _).size ≤ _ := keyNum_size bM_ bS_ h_to; have e1 : bM_.size = 2 := rfl; have e2 : bS_.size = 1 := rfl; rw [ByteArray.size_extract]; omega
             refine g_take F69 rfl (i := 11) (listed' := #[true, true, true, true, true, true, true, true, true, true, true, true, true, false, false]) rfl (by kernel_rfl) (by kernel_rfl) (by kernel_rfl) (fun _ _ _ h => h) (Sd.of (S64.trans S66) [] rfl) rfl rfl rfl rfl (fun _ hz => (r_cat rfl (F69.ev 34 rfl) (F69.ev 42 rfl) k70)) fun _ F71 => ?_
             refine d_one (i := 13) (listed' := #[true, true, true, true, true, true, true, true, true, true, true, true, true, true, false]) rfl (by kernel_rfl) rfl rfl ?_
             refine f_call F71 CF_67 rfl rfl rfl rfl (lc (F71.ev 32 rfl) (lc (F71.ev 43 rfl) (lc (F71.ev 44 rfl) rfl))) (spec_l04Lay_c (m := (lookM M x1)) (key := (kP_ to) ++ (x1.extract (kP_ from_).size x1.size)) (val := getKey M.store x1) (Rd.mq V52_0 (S54.trans (S64.trans S66))) (Rd.mq V52_1 (S54.trans (S64.trans S66))) (Rd.mq V52_2 (S54.trans (S64.trans S66))) (okS_cat k70) Q31 (by first | assumption | omega | ((repeat first | apply b1_ | apply b2_ | apply b3_ | apply b4_ | apply b5_ | apply b6_); exact bdC.le ‹_› (by decide)) | decide | exact Nat.le_trans (keyNum_size _ _ ‹_›) (by decide)) (by first | assumption | omega | ((repeat first | apply b1_ | apply b2_ | apply b3_ | apply b4_ | apply b5_ | apply b6_); exact bdC.le ‹_› (by decide)) | decide | exact Nat.le_trans (keyNum_size _ _ ‹_›) (by decide))) ?_
             rintro _ w72 ⟨Q22, Q24, Q23, Q19, Q21, Q20, Q25, Q27, Q26, rfl, m72, v72_0, v72_1, v72_2⟩
             refine ⟨_, rfl, fun _ F73 => ?_⟩
             have S72 := At.frame0 S66.at' m72
             have V72_0 := Rd.got0 S66.at' ((S1.trans (S3.trans (S28.trans (S30.trans (S52.trans (S54.trans (S64.trans S66))))))).kp.size) v72_0 S72
             obtain ⟨ln72_0, le72_0, mx72_0, ni72_0⟩ := Rd.inv V72_0
             have V72_1 := Rd.got0 S66.at' ((S1.trans (S3.trans (S28.trans (S30.trans (S52.trans (S54.trans (S64.trans S66))))))).kp.size) v72_1 S72
             obtain ⟨ln72_1, le72_1, mx72_1, ni72_1⟩ := Rd.inv V72_1
             have V72_2 := Rd.got0 S66.at' ((S1.trans (S3.trans (S28.trans (S30.trans (S52.trans (S54.trans (S64.trans S66))))))).kp.size) v72_2 S72
             obtain ⟨ln72_2, le72_2, mx72_2, ni72_2⟩ := Rd.inv V72_2
             clear m72 v72_0 v72_1 v72_2
             refine ⟨Sd.of (S64.trans (S66.trans S72)) [] rfl, ?_⟩
             refine d_one (i := 14) (listed' := #[true, true, true, true, true, true, true, true, true, true, true, true, true, true, true]) rfl (by kernel_rfl) rfl rfl ?_
             refine s_store S72.at' 1 TI_29 rfl rfl rfl rfl rfl (F73.ev 3 rfl) (F73.ev 45 rfl) rfl rfl rfl rfl rfl fun w74 S74 => ?_
             refine ⟨Sd.of (S64.trans (S66.trans (S72.trans S74))) [] rfl, ?_⟩
             refine wpAnyH_done (by kernel_rfl) (x_normal ?_) _
             exact ⟨Q22, Q24, Q23, Q19, Q21, Q20, Q25, Q27, Q26, F73.cut rfl, ((S54.trans (S64.trans (S66.trans (S72.trans S74)))).pick [1, 0] rfl), (Rd.mq (Rd.mq V72_0 S74) (Mv.pick (Mv.refl S74.at') [1, 0] rfl)), (Rd.mq (Rd.mq V72_1 S74) (Mv.pick (Mv.refl S74.at') [1, 0] rfl)), (Rd.mq (Rd.mq V72_2 S74) (Mv.pick (Mv.refl S74.at') [1, 0] rfl))⟩
           · skip
             refine f_call F62 CF_77 rfl rfl rfl rfl (lc (F62.ev 33 rfl) rfl) (spec_l11Head_c (H := fun _ => True) (id := to) h_to) ?_
             rintro _ w75 ⟨rfl, m75, Q94⟩
             refine ⟨_, rfl, fun _ F76 => ?_⟩
             have S75 := At.frame0 S54.at' m75
             clear m75
             refine ⟨Sd.of S75 [] rfl, ?_⟩
             refine d_all (rs := [0, 8]) rfl (by kernel_rfl) (by simp) (d_cons (i := 0) (listed' := #[true, true, true, true, true, true, true, true, false, false, false, false, true, false, false]) rfl rfl ?_ (d_cons (i := 8) (listed' := #[false, true, true, true, true, true, true, true, true, false, false, false, true, false, false]) rfl rfl ?_ d_nil))
             · skip
               refine f_val (v := .agg #[.slice Q3 Q5 Q4, .slice Q0 Q2 Q1, .slice Q6 Q8 Q7]) F76 rfl rfl (r_loadB S75.at' 1 TI_29 rfl rfl (F76.ev 3 rfl) rfl rfl (fun h => nomatch h) rfl) rfl fun _ F77 => ?_
               refine ⟨Sd.of S75 [] rfl, ?_⟩
               refine d_one (i := 8) (listed' := #[true, true, true, true, true, true, true, true, true, false, false, false, true, false, false]) rfl (by kernel_rfl) rfl rfl ?_
               refine f_call F77 CF_77 rfl rfl rfl rfl (lc (F77.ev 39 rfl) rfl) (spec_l11Head_c (H := fun _ => True) (id := from_) Q30) ?_
               rintro _ w78 ⟨rfl, m78, Q95⟩
               refine ⟨_, rfl, fun _ F79 => ?_⟩
               have S78 := At.frame0 S75.at' m78
               clear m78
               refine ⟨Sd.of (S75.trans S78) [] rfl, ?_⟩
               refine g_take F79 rfl (i := 9) (listed' := #[true, true, true, true, true, true, true, true, true, true, false, false, true, false, false]) rfl (by kernel_rfl) (by kernel_rfl) (by kernel_rfl) (fun _ _ _ h => h) (Sd.of (S75.trans S78) [] rfl) rfl rfl rfl rfl (fun _ hz => (r_lenS (fun t ht => by cases ht; exact Tryz.underlying9) rfl rfl (F79.ev 40 rfl))) fun _ F80 => ?_
               refine g_take F80 rfl (i := 10) (listed' := #[true, true, true, true, true, true, true, true, true, true, true, false, true, false, false]) rfl (by kernel_rfl) (by kernel_rfl) (by kernel_rfl) (fun _ _ _ h => h) (Sd.of (S75.trans S78) [] rfl) rfl rfl rfl rfl (fun _ hz => (r_sliceS (l := (kP_ from_).size) (h := x1.size) Tryz.underlying9 rfl (F80.ev 38 rfl) (F80.ev 41 rfl) rfl (by have := keysUnder_pre hx1; omega) (by have := keysUnder_pre hx1; omega) rfl)) fun _ F81 => ?_
               have k82 : (kP_ to).size + (x1.extract (kP_ from_).size x1.size).size ≤ 9223372036854775807 := by have hs := bdC.key (m := m) ‹_› hx1; have hl : (kP_ _).size ≤ _ := keyNum_size bM_ bS_ h_to; have e1 : bM_.size = 2 := rfl; have e2 : bS_.size = 1 := rfl; rw [ByteArray.size_extract]; omega
               refine g_take F81 rfl (i := 11) (listed' := #[true, true, true, true, true, true, true, true, true, true, true, true, true, false, false]) rfl (by kernel_rfl) (by kernel_rfl) (by kernel_rfl) (fun _ _ _ h => h) (Sd.of (S75.trans S78) [] rfl) rfl rfl rfl rfl (fun _ hz => (r_cat rfl (F81.ev 34 rfl) (F81.ev 42 rfl) k82)) fun _ F83 => ?_
               refine d_one (i := 13) (listed' := #[true, true, true, true, true, true, true, true, true, true, true, true, true, true, false]) rfl (by kernel_rfl) rfl rfl ?_
               refine f_call F83 CF_67 rfl rfl rfl rfl (lc (F83.ev 32 rfl) (lc (F83.ev 43 rfl) (lc (F83.ev 44 rfl) rfl))) (spec_l04Lay_c (m := (lookM M x1)) (key := (kP_ to) ++ (x1.extract (kP_ from_).size x1.size)) (val := getKey M.store x1) (Rd.mq V52_0 (S54.trans (S75.trans S78))) (Rd.mq V52_1 (S54.trans (S75.trans S78))) (Rd.mq V52_2 (S54.trans (S75.trans S78))) (okS_cat k82) Q31 (by first | assumption | omega | ((repeat first | apply b1_ | apply b2_ | apply b3_ | apply b4_ | apply b5_ | apply b6_); exact bdC.le ‹_› (by decide)) | decide | exact Nat.le_trans (keyNum_size _ _ ‹_›) (by decide)) (by first | assumption | omega | ((repeat first | apply b1_ | apply b2_ | apply b3_ | apply b4_ | apply b5_ | apply b6_); exact bdC.le ‹_› (by decide)) | decide | exact Nat.le_trans (keyNum_size _ _ ‹_›) (by decide))) ?_
               rintro _ w84 ⟨Q68, Q72, Q70, Q62, Q66, Q64, Q74, Q78, Q76, rfl, m84, v84_0, v84_1, v84_2⟩
               refine ⟨_, rfl, fun _ F85 => ?_⟩
               have S84 := At.frame0 S78.at' m84
               have V84_0 := Rd.got0 S78.at' ((S1.trans (S3.trans (S28.trans (S30.trans (S52.trans (S54.trans (S75.trans S78))))))).kp.size) v84_0 S84
               obtain ⟨ln84_0, le84_0, mx84_0, ni84_0⟩ := Rd.inv V84_0
               have V84_1 := Rd.got0 S78.at' ((S1.trans (S3.trans (S28.trans (S30.trans (S52.trans (S54.trans (S75.trans S78))))))).kp.size) v84_1 S84
               obtain ⟨ln84_1, le84_1, mx84_1, ni84_1⟩ := Rd.inv V84_1
               have V84_2 := Rd.got0 S78.at' ((S1.trans (S3.trans (S28.trans (S30.trans (S52.trans (S54.trans (S75.trans S78))))))).kp.size) v84_2 S84
               obtain ⟨ln84_2, le84_2, mx84_2, ni84_2⟩ := Rd.inv V84_2
               clear m84 v84_0 v84_1 v84_2
               refine ⟨Sd.of (S75.trans (S78.trans S84)) [] rfl, ?_⟩
               refine d_one (i := 14) (listed' := #[true, true, true, true, true, true, true, true, true, true, true, true, true, true, true]) rfl (by kernel_rfl) rfl rfl ?_
               refine s_store S84.at' 1 TI_29 rfl rfl rfl rfl rfl (F85.ev 3 rfl) (F85.ev 45 rfl) rfl rfl rfl rfl rfl fun w86 S86 => ?_
               refine ⟨Sd.of (S75.trans (S78.trans (S84.trans S86))) [] rfl, ?_⟩
               refine wpAnyH_done (by kernel_rfl) (x_normal ?_) _
               exact ⟨Q68, Q72, Q70, Q62, Q66, Q64, Q74, Q78, Q76, F85.cut rfl, ((S54.trans (S75.trans (S78.trans (S84.trans S86)))).pick [1, 0] rfl), (Rd.mq (Rd.mq V84_0 S86) (Mv.pick (Mv.refl S86.at') [1, 0] rfl)), (Rd.mq (Rd.mq V84_1 S86) (Mv.pick (Mv.refl S86.at') [1, 0] rfl)), (Rd.mq (Rd.mq V84_2 S86) (Mv.pick (Mv.refl S86.at') [1, 0] rfl))⟩
             · skip
               refine f_call F76 CF_77 rfl rfl rfl rfl (lc (F76.ev 39 rfl) rfl) (spec_l11Head_c (H := fun _ => True) (id := from_) Q30) ?_
               rintro _ w87 ⟨rfl, m87, Q96⟩
               refine ⟨_, rfl, fun _ F88 => ?_⟩
               have S87 := At.frame0 S75.at' m87
               clear m87
               refine ⟨Sd.of (S75.trans S87) [] rfl, ?_⟩
               refine g_take F88 rfl (i := 9) (listed' := #[false, true, true, true, true, true, true, true, true, true, false, false, true, false, false]) rfl (by kernel_rfl) (by kernel_rfl) (by kernel_rfl) (fun _ _ _ h => h) (Sd.of (S75.trans S87) [] rfl) rfl rfl rfl rfl (fun _ hz => (r_lenS (fun t ht => by cases ht; exact Tryz.underlying9) rfl rfl (F88.ev 40 rfl))) fun _ F89 => ?_
               refine g_take F89 rfl (i := 10) (listed' := #[false, true, true, true, true, true, true, true, true, true, true, false, true, false, false]) rfl (by kernel_rfl) (by kernel_rfl) (by kernel_rfl) (fun _ _ _ h => h) (Sd.of (S75.trans S87) [] rfl) rfl rfl rfl rfl (fun _ hz => (r_sliceS (l := (kP_ from_).size) (h := x1.size) Tryz.underlying9 rfl (F89.ev 38 rfl) (F89.ev 41 rfl) rfl (by have := keysUnder_pre hx1; omega) (by have := keysUnder_pre hx1; omega) rfl)) fun _ F90 => ?_
               have k91 : (kP_ to).size + (x1.extract (kP_ from_).size x1.size).size ≤ 9223372036854775807 := by have hs := bdC.key (m := m) ‹_› hx1; have hl : (kP_ _).size ≤ _ := keyNum_size bM_ bS_ h_to; have e1 : bM_.size = 2 := rfl; have e2 : bS_.size = 1 := rfl; rw [ByteArray.size_extract]; omega
               refine g_take F90 rfl (i := 11) (listed' := #[false, true, true, true, true, true, true, true, true, true, true, true, true, false, false]) rfl (by kernel_rfl) (by kernel_rfl) (by kernel_rfl) (fun _ _ _ h => h) (Sd.of (S75.trans S87) [] rfl) rfl rfl rfl rfl (fun _ hz => (r_cat rfl (F90.ev 34 rfl) (F90.ev 42 rfl) k91)) fun _ F92 => ?_
               refine d_one (i := 0) (listed' := #[true, true, true, true, true, true, true, true, true, true, true, true, true, false, false]) rfl (by kernel_rfl) rfl rfl ?_
               refine f_val (v := .agg #[.slice Q3 Q5 Q4, .slice Q0 Q2 Q1, .slice Q6 Q8 Q7]) F92 rfl rfl (r_loadB S87.at' 1 TI_29 rfl rfl (F92.ev 3 rfl) rfl rfl (fun h => nomatch h) rfl) rfl fun _ F93 => ?_
               refine ⟨Sd.of (S75.trans S87) [] rfl, ?_⟩
               refine d_one (i := 13) (listed' := #[true, true, true, true, true, true, true, true, true, true, true, true, true, true, false]) rfl (by kernel_rfl) rfl rfl ?_
               refine f_call F93 CF_67 rfl rfl rfl rfl (lc (F93.ev 32 rfl) (lc (F93.ev 43 rfl) (lc (F93.ev 44 rfl) rfl))) (spec_l04Lay_c (m := (lookM M x1)) (key := (kP_ to) ++ (x1.extract (kP_ from_).size x1.size)) (val := getKey M.store x1) (Rd.mq V52_0 (S54.trans (S75.trans S87))) (Rd.mq V52_1 (S54.trans (S75.trans S87))) (Rd.mq V52_2 (S54.trans (S75.trans S87))) (okS_cat k91) Q31 (by first | assumption | omega | ((repeat first | apply b1_ | apply b2_ | apply b3_ | apply b4_ | apply b5_ | apply b6_); exact bdC.le ‹_› (by decide)) | decide | exact Nat.le_trans (keyNum_size _ _ ‹_›) (by decide)) (by first | assumption | omega | ((repeat first | apply b1_ | apply b2_ | apply b3_ | apply b4_ | apply b5_ | apply b6_); exact bdC.le ‹_› (by decide)) | decide | exact Nat.le_trans (keyNum_size _ _ ‹_›) (by decide))) ?_
               rintro _ w94 ⟨Q69, Q73, Q71, Q63, Q67, Q65, Q75, Q79, Q77, rfl, m94, v94_0, v94_1, v94_2⟩
               refine ⟨_, rfl, fun _ F95 => ?_⟩
               have S94 := At.frame0 S87.at' m94
               have V94_0 := Rd.got0 S87.at' ((S1.trans (S3.trans (S28.trans (S30.trans (S52.trans (S54.trans (S75.trans S87))))))).kp.size) v94_0 S94
               obtain ⟨ln94_0, le94_0, mx94_0, ni94_0⟩ := Rd.inv V94_0
               have V94_1 := Rd.got0 S87.at' ((S1.trans (S3.trans (S28.trans (S30.trans (S52.trans (S54.trans (S75.trans S87))))))).kp.size) v94_1 S94
               obtain ⟨ln94_1, le94_1, mx94_1, ni94_1⟩ := Rd.inv V94_1
               have V94_2 := Rd.got0 S87.at' ((S1.trans (S3.trans (S28.trans (S30.trans (S52.trans (S54.trans (S75.trans S87))))))).kp.size) v94_2 S94
               obtain ⟨ln94_2, le94_2, mx94_2, ni94_2⟩ := Rd.inv V94_2
               clear m94 v94_0 v94_1 v94_2
               refine ⟨Sd.of (S75.trans (S87.trans S94)) [] rfl, ?_⟩
               refine d_one (i := 14) (listed' := #[true, true, true, true, true, true, true, true, true, true, true, true, true, true, true]) rfl (by kernel_rfl) rfl rfl ?_
               refine s_store S94.at' 1 TI_29 rfl rfl rfl rfl rfl (F95.ev 3 rfl) (F95.ev 45 rfl) rfl rfl rfl rfl rfl fun w96 S96 => ?_
               refine ⟨Sd.of (S75.trans (S87.trans (S94.trans S96))) [] rfl, ?_⟩
               refine wpAnyH_done (by kernel_rfl) (x_normal ?_) _
               exact ⟨Q69, Q73, Q71, Q63, Q67, Q65, Q75, Q79, Q77, F95.cut rfl, ((S54.trans (S75.trans (S87.trans (S94.trans S96)))).pick [1, 0] rfl), (Rd.mq (Rd.mq V94_0 S96) (Mv.pick (Mv.refl S96.at') [1, 0] rfl)), (Rd.mq (Rd.mq V94_1 S96) (Mv.pick (Mv.refl S96.at') [1, 0] rfl)), (Rd.mq (Rd.mq V94_2 S96) (Mv.pick (Mv.refl S96.at') [1, 0] rfl))⟩
         · rintro a97 w97 ⟨Q22, Q24, Q23, Q19, Q21, Q20, Q25, Q27, Q26, F97, S97, V97_0, V97_1, V97_2⟩
           obtain ⟨ln97_0, le97_0, mx97_0, ni97_0⟩ := Rd.inv V97_0
           obtain ⟨ln97_1, le97_1, mx97_1, ni97_1⟩ := Rd.inv V97_1
           obtain ⟨ln97_2, le97_2, mx97_2, ni97_2⟩ := Rd.inv V97_2
           refine x_block_normal (x_normal (wp_region_lit (l_op (f_mv F97 rfl rfl rfl rfl rfl fun _ F98 => ?_))))
           refine l_op (f_val F98 rfl rfl (r_add (z := ((k + 1 : Nat) : Int)) rfl (F98.ev 21 rfl) rfl (by first | rfl | omega) ⟨by first | omega | (unfold i64ok at *; omega), by first | omega | (unfold i64ok at *; omega)⟩) rfl fun _ F99 => ?_)
           refine l_op (f_as F99 rfl rfl rfl rfl rfl fun _ F100 => ?_)
           refine s_end ?_
           refine x_normal ⟨k + 1, by omega, (layM (lookM M x1) ((kP_ to) ++ (x1.extract (kP_ from_).size x1.size)) (getKey M.store x1)), Q22, Q24, Q23, Q19, Q21, Q20, Q25, Q27, Q26, F100.cut rfl, ((S30.trans (S52.trans S97)).pick [0, 1] rfl), V97_0, V97_1, V97_2, by omega, by rw [forkL_step hx1, ← hk_1]; rfl⟩
     · skip
       refine wp_exit (x_then_exit (x_then_exit (x_block_here (x_normal (wp_seq (wp_region_lit (l_op (f_val (v := .agg #[.slice sa sn sc, .slice ra rn rc, .slice ua un uc]) F34 rfl rfl (r_loadB S30.at' 1 TI_29 rfl rfl (F34.ev 3 rfl) rfl rfl (fun h => nomatch h) rfl) rfl fun _ F101 => ?_))))))))
       refine l_op (s_store S30.at' 0 TI_29 rfl rfl rfl rfl rfl (F101.ev 6 rfl) (F101.ev 46 rfl) rfl rfl rfl rfl rfl fun w102 S102 => ?_)
       refine s_end (x_normal (wp_ret ?_))
       refine x_done (v := .agg #[.slice sa sn sc, .slice ra rn rc, .slice ua un uc]) F101 (results_1 Tryz.results52 (.cell (F101.ev 6 rfl) (run_loadVar' TI_29 _ [.slice sa sn sc, .slice ra rn rc, .slice ua un uc] rfl (fun h => nomatch h) (At.cells S102.at' 0 rfl 0 [.slice sa sn sc, .slice ra rn rc, .slice ua un uc] rfl)))) ?_
       exact ⟨sa, sn, sc, ra, rn, rc, ua, un, uc, rfl, (Mv.pick (S1.trans (S3.trans (S28.trans (S30.trans S102)))) [] rfl), (Rd.cast (Rd.give (Rd.mq W30_0 S102)) (show M.store = (forkM (kP_ from_) (kP_ to) m).store from by first | rfl | (subst hk_1; unfold forkM; rw [List.take_of_length_le (by omega)]))), (Rd.cast (Rd.give (Rd.mq W30_1 S102)) (show M.touch.reads = (forkM (kP_ from_) (kP_ to) m).touch.reads from by first | rfl | (subst hk_1; unfold forkM; rw [List.take_of_length_le (by omega)]))), (Rd.cast (Rd.give (Rd.mq W30_2 S102)) (show M.touch.writes = (forkM (kP_ from_) (kP_ to) m).touch.writes from by first | rfl | (subst hk_1; unfold forkM; rw [List.take_of_length_le (by omega)])))⟩
theorem impl_ForkPages_c {w : World} {H : Nat → Prop} {m : MachD} {m_Sa : Option Addr} {m_Sn m_Sc : Nat} {m_Ra : Option Addr} {m_Rn m_Rc : Nat} {m_Wa : Option Addr} {m_Wn m_Wc : Nat} {from_ : Int} {to : Int} (Q18 : Rd 2 encC okC H w (.slice m_Sa m_Sn m_Sc) m.store) (Q19 : Rd 1 encS okS H w (.slice m_Ra m_Rn m_Rc) m.touch.reads) (Q20 : Rd 1 encS okS H w (.slice m_Wa m_Wn m_Wc) m.touch.writes) (Q24 : i64ok from_) (h_to : i64ok to) (tab0 : Tb 0 H w) (p0 : bdC 4294967296 m) :
    Calls Tryz.prog 13 #[.agg #[.slice m_Sa m_Sn m_Sc, .slice m_Ra m_Rn m_Rc, .slice m_Wa m_Wn m_Wc], .int .i64 from_, .int .i64 to] w fun e w' => ∃ (Q12 : Option Addr), ∃ (Q14 : Nat), ∃ (Q13 : Nat), ∃ (Q9 : Option Addr), ∃ (Q11 : Nat), ∃ (Q10 : Nat), ∃ (Q15 : Option Addr), ∃ (Q17 : Nat), ∃ (Q16 : Nat), e = .returned (.agg #[.slice Q12 Q14 Q13, .slice Q9 Q11 Q10, .slice Q15 Q17 Q16]) ∧ Mv [] w [ow 73 2 encC okC (.slice Q12 Q14 Q13) (forkM (kP_ from_) (kP_ to) m).store, ow 9 1 encS okS (.slice Q9 Q11 Q10) (forkM (kP_ from_) (kP_ to) m).touch.reads, ow 9 1 encS okS (.slice Q15 Q17 Q16) (forkM (kP_ from_) (kP_ to) m).touch.writes] w' := by
 have uU : True := (fun _ => trivial) p0
 clear uU
 have Q21 : Rd 2 encC okC (V H w []) w (.slice m_Sa m_Sn m_Sc) m.store := Rd.start Q18 (fun _ _ => fps_nil _)
 obtain ⟨Q37, Q34, Q58, Q61⟩ := Rd.inv Q18
 have Q22 : Rd 1 encS okS (V H w []) w (.slice m_Ra m_Rn m_Rc) m.touch.reads := Rd.start Q19 (fun _ _ => fps_nil _)
 obtain ⟨Q38, Q35, Q59, Q62⟩ := Rd.inv Q19
 have Q23 : Rd 1 encS okS (V H w []) w (.slice m_Wa m_Wn m_Wc) m.touch.writes := Rd.start Q20 (fun _ _ => fps_nil _)
 obtain ⟨Q39, Q36, Q60, Q63⟩ := Rd.inv Q20
 have V_tab0 : Tb 0 (V H w []) w := Tb.start tab0 (fun _ _ => fps_nil _)
 refine calls_enter 13 Tryz.func13 rfl Tryz.ntmps13 (Nat.le_of_ble_eq_true rfl) (fun _ F0i => ?_)
 have F0 : Fr 13 [(0, .agg #[.slice m_Sa m_Sn m_Sc, .slice m_Ra m_Rn m_Rc, .slice m_Wa m_Wn m_Wc]), (1, .int .i64 from_), (2, .int .i64 to)] _ := F0i
 clear F0i
 refine wp_seq (wp_region_lit (l_op (f_box F0 (At.nil w) rfl rfl rfl (F0.ev 0 rfl) rfl rfl fun b1 _ w1 F2 S1 => ?_)))
 refine l_op (f_alloc F2 S1.at' ZI_29 rfl rfl rfl rfl rfl fun b3 _ w3 F4 S3 => ?_)
 refine s_end (x_normal (wp_seq (wp_region_lit (l_op (f_val (v := .agg #[.slice m_Sa m_Sn m_Sc, .slice m_Ra m_Rn m_Rc, .slice m_Wa m_Wn m_Wc]) F4 rfl rfl (r_loadB S3.at' 1 TI_29 rfl rfl (F4.ev 3 rfl) rfl rfl (fun h => nomatch h) rfl) rfl fun _ F5 => ?_)))))
 refine l_op (f_call F5 CF_39 rfl rfl rfl rfl (lc (F5.ev 7 rfl) rfl) (impl_Mach_clone_c (m := m) (Rd.mq Q21 (S1.trans S3)) (Rd.mq Q22 (S1.trans S3)) (Rd.mq Q23 (S1.trans S3)) (by first | assumption | omega | ((repeat first | apply b1_ | apply b2_ | apply b3_ | apply b4_ | apply b5_ | apply b6_); exact bdC.le ‹_› (by decide)) | decide | exact Nat.le_trans (keyNum_size _ _ ‹_›) (by decide)) (by first | assumption | omega | ((repeat first | apply b1_ | apply b2_ | apply b3_ | apply b4_ | apply b5_ | apply b6_); exact bdC.le ‹_› (by decide)) | decide | exact Nat.le_trans (keyNum_size _ _ ‹_›) (by decide)) (by first | assumption | omega | ((repeat first | apply b1_ | apply b2_ | apply b3_ | apply b4_ | apply b5_ | apply b6_); exact bdC.le ‹_› (by decide)) | decide | exact Nat.le_trans (keyNum_size _ _ ‹_›) (by decide))) ?_)
 rintro _ w6 ⟨Q28, Q30, Q29, Q25, Q27, Q26, Q31, Q33, Q32, rfl, m6⟩
 refine ⟨_, rfl, fun _ F7 => ?_⟩
 have S6 : Mv _ _ [ow 73 2 encC okC (.slice Q28 Q30 Q29) m.store, ow 9 1 encS okS (.slice Q25 Q27 Q26) m.touch.reads, ow 9 1 encS okS (.slice Q31 Q33 Q32) m.touch.writes, bx b3 [.slice none 0 0, .slice none 0 0, .slice none 0 0] 29, bx b1 [.slice m_Sa m_Sn m_Sc, .slice m_Ra m_Rn m_Rc, .slice m_Wa m_Wn m_Wc] 29] _ := At.frame S3.at' [] rfl m6
 obtain ⟨Q43, Q49, Q55⟩ := At.ownInv S6.at' ET_24.hk 0 rfl
 obtain ⟨Q44, Q50, Q56⟩ := At.ownInv S6.at' ET_25.hk 1 rfl
 obtain ⟨Q45, Q51, Q57⟩ := At.ownInv S6.at' ET_25.hk 2 rfl
 clear m6
 refine l_op (s_store S6.at' 4 TI_29 rfl rfl rfl rfl rfl (F7.ev 3 rfl) (F7.ev 8 rfl) rfl rfl rfl rfl rfl fun w8 S8 => ?_)
 refine s_end (x_normal (wp_seq (wp_region_lit (l_op (f_mv F7 rfl rfl rfl rfl rfl fun _ F9 => ?_)))))
 refine l_op (f_mv F9 rfl rfl rfl rfl rfl fun _ F10 => ?_)
 refine l_op (f_call F10 CF_45 rfl rfl rfl rfl (lc (F10.ev 3 rfl) (lc (F10.ev 9 rfl) (lc (F10.ev 10 rfl) rfl))) (impl_Mach_forkPages_c (m := m) (from_ := from_) (to := to) Q24 h_to (Tb.mv V_tab0 (S1.trans (S3.trans (S6.trans S8)))) (by first | assumption | omega | ((repeat first | apply b1_ | apply b2_ | apply b3_ | apply b4_ | apply b5_ | apply b6_); exact bdC.le ‹_› (by decide)) | decide | exact Nat.le_trans (keyNum_size _ _ ‹_›) (by decide)) (At.pick (is := [0, 1, 2, 3]) S8.at' rfl) (V_off (is := [0, 1, 2, 3]))) ?_)
 rintro _ w11 ⟨Q3, Q5, Q4, Q0, Q2, Q1, Q6, Q8, Q7, rfl, m11⟩
 refine ⟨_, rfl, fun _ F12 => ?_⟩
 have S11 : Mv _ _ [bx b1 [.slice Q3 Q5 Q4, .slice Q0 Q2 Q1, .slice Q6 Q8 Q7] 29, ow 73 2 encC okC (.slice Q3 Q5 Q4) (forkM (kP_ from_) (kP_ to) m).store, ow 9 1 encS okS (.slice Q0 Q2 Q1) (forkM (kP_ from_) (kP_ to) m).touch.reads, ow 9 1 encS okS (.slice Q6 Q8 Q7) (forkM (kP_ from_) (kP_ to) m).touch.writes, bx b3 [.slice none 0 0, .slice none 0 0, .slice none 0 0] 29] _ := At.frame S8.at' [0, 1, 2, 3] rfl m11
 obtain ⟨Q40, Q46, Q52⟩ := At.ownInv S11.at' ET_24.hk 1 rfl
 obtain ⟨Q41, Q47, Q53⟩ := At.ownInv S11.at' ET_25.hk 2 rfl
 obtain ⟨Q42, Q48, Q54⟩ := At.ownInv S11.at' ET_25.hk 3 rfl
 clear m11
 refine s_end (x_normal (wp_seq (wp_region_lit (l_op (f_val (v := .agg #[.slice Q3 Q5 Q4, .slice Q0 Q2 Q1, .slice Q6 Q8 Q7]) F12 rfl rfl (r_loadB S11.at' 0 TI_29 rfl rfl (F12.ev 3 rfl) rfl rfl (fun h => nomatch h) rfl) rfl fun _ F13 => ?_)))))
 refine l_op (s_store S11.at' 4 TI_29 rfl rfl rfl rfl rfl (F13.ev 6 rfl) (F13.ev 12 rfl) rfl rfl rfl rfl rfl fun w14 S14 => ?_)
 have T15 : Mv _ _ [bx b3 [.slice Q3 Q5 Q4, .slice Q0 Q2 Q1, .slice Q6 Q8 Q7] 29, bx b1 [.slice Q3 Q5 Q4, .slice Q0 Q2 Q1, .slice Q6 Q8 Q7] 29, ow 73 2 encC okC (.slice Q3 Q5 Q4) (forkM (kP_ from_) (kP_ to) m).store, ow 9 1 encS okS (.slice Q0 Q2 Q1) (forkM (kP_ from_) (kP_ to) m).touch.reads, ow 9 1 encS okS (.slice Q6 Q8 Q7) (forkM (kP_ from_) (kP_ to) m).touch.writes] _ := S14
 refine s_end (x_normal (wp_ret ?_))
 refine x_done (v := .agg #[.slice Q3 Q5 Q4, .slice Q0 Q2 Q1, .slice Q6 Q8 Q7]) F13 (results_1 Tryz.results13 (.cell (F13.ev 6 rfl) (run_loadVar' TI_29 _ [.slice Q3 Q5 Q4, .slice Q0 Q2 Q1, .slice Q6 Q8 Q7] rfl (fun h => nomatch h) (At.cells T15.at' 0 rfl 0 [.slice Q3 Q5 Q4, .slice Q0 Q2 Q1, .slice Q6 Q8 Q7] rfl)))) ?_
 exact ⟨Q3, Q5, Q4, Q0, Q2, Q1, Q6, Q8, Q7, rfl, (Mv.pick (S1.trans (S3.trans (S6.trans (S8.trans (S11.trans T15))))) [2, 3, 4] rfl)⟩
theorem spec_ForkPages_c {w : World} {H : Nat → Prop} {m : MachD} {m_Sa : Option Addr} {m_Sn m_Sc : Nat} {m_Ra : Option Addr} {m_Rn m_Rc : Nat} {m_Wa : Option Addr} {m_Wn m_Wc : Nat} {from_ : Int} {to : Int} (Q18 : Rd 2 encC okC H w (.slice m_Sa m_Sn m_Sc) m.store) (Q19 : Rd 1 encS okS H w (.slice m_Ra m_Rn m_Rc) m.touch.reads) (Q20 : Rd 1 encS okS H w (.slice m_Wa m_Wn m_Wc) m.touch.writes) (Q24 : i64ok from_) (h_to : i64ok to) (p0 : bdC 4294967296 m) :
    Calls Tryz.prog 18 #[.agg #[.slice m_Sa m_Sn m_Sc, .slice m_Ra m_Rn m_Rc, .slice m_Wa m_Wn m_Wc], .int .i64 from_, .int .i64 to] w fun e w' => ∃ (Q12 : Option Addr), ∃ (Q14 : Nat), ∃ (Q13 : Nat), ∃ (Q9 : Option Addr), ∃ (Q11 : Nat), ∃ (Q10 : Nat), ∃ (Q15 : Option Addr), ∃ (Q17 : Nat), ∃ (Q16 : Nat), e = .returned (.agg #[.slice Q12 Q14 Q13, .slice Q9 Q11 Q10, .slice Q15 Q17 Q16]) ∧ Mv [] w [] w' ∧ Rd 2 encC okC (Fsh H w) w' (.slice Q12 Q14 Q13) (forkM (kP_ from_) (kP_ to) m).store ∧ Rd 1 encS okS (Fsh H w) w' (.slice Q9 Q11 Q10) (forkM (kP_ from_) (kP_ to) m).touch.reads ∧ Rd 1 encS okS (Fsh H w) w' (.slice Q15 Q17 Q16) (forkM (kP_ from_) (kP_ to) m).touch.writes := by
 have uU : True := (fun _ => trivial) p0
 clear uU
 have Q21 : Rd 2 encC okC (V H w []) w (.slice m_Sa m_Sn m_Sc) m.store := Rd.start Q18 (fun _ _ => fps_nil _)
 obtain ⟨Q28, Q25, Q31, Q34⟩ := Rd.inv Q18
 have Q22 : Rd 1 encS okS (V H w []) w (.slice m_Ra m_Rn m_Rc) m.touch.reads := Rd.start Q19 (fun _ _ => fps_nil _)
 obtain ⟨Q29, Q26, Q32, Q35⟩ := Rd.inv Q19
 have Q23 : Rd 1 encS okS (V H w []) w (.slice m_Wa m_Wn m_Wc) m.touch.writes := Rd.start Q20 (fun _ _ => fps_nil _)
 obtain ⟨Q30, Q27, Q33, Q36⟩ := Rd.inv Q20
 refine calls_enter 12 Tryz.func18 rfl Tryz.ntmps18 (Nat.le_of_ble_eq_true rfl) (fun _ F0i => ?_)
 have F0 : Fr 12 [(0, .agg #[.slice m_Sa m_Sn m_Sc, .slice m_Ra m_Rn m_Rc, .slice m_Wa m_Wn m_Wc]), (1, .int .i64 from_), (2, .int .i64 to)] _ := F0i
 clear F0i
 refine wp_seq (wp_region_lit (l_op (f_box F0 (At.nil w) rfl rfl rfl (F0.ev 0 rfl) rfl rfl fun b1 _ w1 F2 S1 => ?_)))
 refine l_op (f_alloc F2 S1.at' ZI_29 rfl rfl rfl rfl rfl fun b3 _ w3 F4 S3 => ?_)
 refine s_end (x_normal (wp_seq (wp_region_lit (l_op (f_val (v := .agg #[.slice m_Sa m_Sn m_Sc, .slice m_Ra m_Rn m_Rc, .slice m_Wa m_Wn m_Wc]) F4 rfl rfl (r_loadB S3.at' 1 TI_29 rfl rfl (F4.ev 3 rfl) rfl rfl (fun h => nomatch h) rfl) rfl fun _ F5 => ?_)))))
 refine l_op (f_call F5 CF_42 rfl rfl rfl rfl (lc (F5.ev 7 rfl) rfl) (spec_l04Copy_c (m := m) (Rd.mq Q21 (S1.trans S3)) (Rd.mq Q22 (S1.trans S3)) (Rd.mq Q23 (S1.trans S3)) (by first | assumption | omega | ((repeat first | apply b1_ | apply b2_ | apply b3_ | apply b4_ | apply b5_ | apply b6_); exact bdC.le ‹_› (by decide)) | decide | exact Nat.le_trans (keyNum_size _ _ ‹_›) (by decide)) (by first | assumption | omega | ((repeat first | apply b1_ | apply b2_ | apply b3_ | apply b4_ | apply b5_ | apply b6_); exact bdC.le ‹_› (by decide)) | decide | exact Nat.le_trans (keyNum_size _ _ ‹_›) (by decide)) (by first | assumption | omega | ((repeat first | apply b1_ | apply b2_ | apply b3_ | apply b4_ | apply b5_ | apply b6_); exact bdC.le ‹_› (by decide)) | decide | exact Nat.le_trans (keyNum_size _ _ ‹_›) (by decide))) ?_)
 rintro _ w6 ⟨Q40, Q42, Q41, Q37, Q39, Q38, Q43, Q45, Q44, rfl, m6, v6_0, v6_1, v6_2⟩
 refine ⟨_, rfl, fun _ F7 => ?_⟩
 have S6 := At.frame0 S3.at' m6
 have V6_0 := Rd.got0 S3.at' ((S1.trans S3).kp.size) v6_0 S6
 obtain ⟨ln6_0, le6_0, mx6_0, ni6_0⟩ := Rd.inv V6_0
 have V6_1 := Rd.got0 S3.at' ((S1.trans S3).kp.size) v6_1 S6
 obtain ⟨ln6_1, le6_1, mx6_1, ni6_1⟩ := Rd.inv V6_1
 have V6_2 := Rd.got0 S3.at' ((S1.trans S3).kp.size) v6_2 S6
 obtain ⟨ln6_2, le6_2, mx6_2, ni6_2⟩ := Rd.inv V6_2
 clear m6 v6_0 v6_1 v6_2
 refine l_op (f_mv F7 rfl rfl rfl rfl rfl fun _ F8 => ?_)
 refine l_op (f_mv F8 rfl rfl rfl rfl rfl fun _ F9 => ?_)
 refine l_op (f_call F9 CF_52 rfl rfl rfl rfl (lc (F9.ev 8 rfl) (lc (F9.ev 9 rfl) (lc (F9.ev 10 rfl) rfl))) (spec_l11ForkPages_c (m := m) (from_ := from_) (to := to) V6_0 V6_1 V6_2 Q24 h_to (by first | assumption | omega | ((repeat first | apply b1_ | apply b2_ | apply b3_ | apply b4_ | apply b5_ | apply b6_); exact bdC.le ‹_› (by decide)) | decide | exact Nat.le_trans (keyNum_size _ _ ‹_›) (by decide))) ?_)
 rintro _ w10 ⟨Q3, Q5, Q4, Q0, Q2, Q1, Q6, Q8, Q7, rfl, m10, v10_0, v10_1, v10_2⟩
 refine ⟨_, rfl, fun _ F11 => ?_⟩
 have S10 := At.frame0 S6.at' m10
 have V10_0 := Rd.got0 S6.at' ((S1.trans (S3.trans S6)).kp.size) v10_0 S10
 obtain ⟨ln10_0, le10_0, mx10_0, ni10_0⟩ := Rd.inv V10_0
 have V10_1 := Rd.got0 S6.at' ((S1.trans (S3.trans S6)).kp.size) v10_1 S10
 obtain ⟨ln10_1, le10_1, mx10_1, ni10_1⟩ := Rd.inv V10_1
 have V10_2 := Rd.got0 S6.at' ((S1.trans (S3.trans S6)).kp.size) v10_2 S10
 obtain ⟨ln10_2, le10_2, mx10_2, ni10_2⟩ := Rd.inv V10_2
 clear m10 v10_0 v10_1 v10_2
 refine l_op (s_store S10.at' 0 TI_29 rfl rfl rfl rfl rfl (F11.ev 6 rfl) (F11.ev 11 rfl) rfl rfl rfl rfl rfl fun w12 S12 => ?_)
 refine s_end (x_normal (wp_ret ?_))
 refine x_done (v := .agg #[.slice Q3 Q5 Q4, .slice Q0 Q2 Q1, .slice Q6 Q8 Q7]) F11 (results_1 Tryz.results18 (.cell (F11.ev 6 rfl) (run_loadVar' TI_29 _ [.slice Q3 Q5 Q4, .slice Q0 Q2 Q1, .slice Q6 Q8 Q7] rfl (fun h => nomatch h) (At.cells S12.at' 0 rfl 0 [.slice Q3 Q5 Q4, .slice Q0 Q2 Q1, .slice Q6 Q8 Q7] rfl)))) ?_
 exact ⟨Q3, Q5, Q4, Q0, Q2, Q1, Q6, Q8, Q7, rfl, (Mv.pick (S1.trans (S3.trans (S6.trans (S10.trans S12)))) [] rfl), (Rd.give (Rd.mq V10_0 S12)), (Rd.give (Rd.mq V10_1 S12)), (Rd.give (Rd.mq V10_2 S12))⟩
end Go.Proofs.YtibgmijfnbnfkaaGreatDoor
