/-
  Walks: machines are looked at.
-/
import Derived.Test.YtibgmijfnbnfkaaGreatDoorGenC
namespace Go.Proofs.YtibgmijfnbnfkaaGreatDoor
open Go.ChangeShapes Go.WideShapes Go.ChangeAt Go.RowKit
set_option maxRecDepth 100000
set_option maxHeartbeats 1000000
theorem spec_JoinTouch_c {w : World} {H : Nat → Prop} {a : TouchD} {a_Ra : Option Addr} {a_Rn a_Rc : Nat} {a_Wa : Option Addr} {a_Wn a_Wc : Nat} {b : TouchD} {b_Ra : Option Addr} {b_Rn b_Rc : Nat} {b_Wa : Option Addr} {b_Wn b_Wc : Nat} (Q16 : Rd 1 encS okS H w (.slice a_Ra a_Rn a_Rc) a.reads) (Q17 : Rd 1 encS okS H w (.slice a_Wa a_Wn a_Wc) a.writes) (Q18 : Rd 1 encS okS H w (.slice b_Ra b_Rn b_Rc) b.reads) (Q19 : Rd 1 encS okS H w (.slice b_Wa b_Wn b_Wc) b.writes) (p0 : a.reads.length ≤ 274877906944) (p1 : a.writes.length ≤ 274877906944) (p2 : b.reads.length ≤ 274877906944) (p3 : b.writes.length ≤ 274877906944) :
    Calls Tryz.prog 79 #[.agg #[.slice a_Ra a_Rn a_Rc, .slice a_Wa a_Wn a_Wc], .agg #[.slice b_Ra b_Rn b_Rc, .slice b_Wa b_Wn b_Wc]] w fun e w' => ∃ (Q10 : Option Addr), ∃ (Q12 : Nat), ∃ (Q11 : Nat), ∃ (Q13 : Option Addr), ∃ (Q15 : Nat), ∃ (Q14 : Nat), e = .returned (.agg #[.slice Q10 Q12 Q11, .slice Q13 Q15 Q14]) ∧ Mv [] w [] w' ∧ Rd 1 encS okS (Fsh H w) w' (.slice Q10 Q12 Q11) (joinT a b).reads ∧ Rd 1 encS okS (Fsh H w) w' (.slice Q13 Q15 Q14) (joinT a b).writes := by
 have uU : True := (fun _ _ _ _ => trivial) p0 p1 p2 p3
 clear uU
 have Q1 : Rd 1 encS okS (V H w []) w (.slice a_Ra a_Rn a_Rc) a.reads := Rd.start Q16 (fun _ _ => fps_nil _)
 obtain ⟨Q24, Q20, Q34, Q38⟩ := Rd.inv Q16
 have Q0 : Rd 1 encS okS (V H w []) w (.slice a_Wa a_Wn a_Wc) a.writes := Rd.start Q17 (fun _ _ => fps_nil _)
 obtain ⟨Q25, Q21, Q35, Q39⟩ := Rd.inv Q17
 have Q8 : Rd 1 encS okS (V H w []) w (.slice b_Ra b_Rn b_Rc) b.reads := Rd.start Q18 (fun _ _ => fps_nil _)
 obtain ⟨Q26, Q22, Q36, Q40⟩ := Rd.inv Q18
 have Q9 : Rd 1 encS okS (V H w []) w (.slice b_Wa b_Wn b_Wc) b.writes := Rd.start Q19 (fun _ _ => fps_nil _)
 obtain ⟨Q27, Q23, Q37, Q41⟩ := Rd.inv Q19
 refine calls_enter 50 Tryz.func79 rfl Tryz.ntmps79 (Nat.le_of_ble_eq_true rfl) (fun _ F0i => ?_)
 have F0 : Fr 50 [(0, .agg #[.slice a_Ra a_Rn a_Rc, .slice a_Wa a_Wn a_Wc]), (1, .agg #[.slice b_Ra b_Rn b_Rc, .slice b_Wa b_Wn b_Wc])] _ := F0i
 clear F0i
 refine wp_seq (wp_region_lit (l_op (f_box F0 (At.nil w) rfl rfl rfl (F0.ev 0 rfl) rfl rfl fun b1 _ w1 F2 S1 => ?_)))
 refine l_op (f_box F2 S1.at' rfl rfl rfl (F2.ev 1 rfl) rfl rfl fun b3 _ w3 F4 S3 => ?_)
 refine l_op (f_alloc F4 S3.at' ZI_27 rfl rfl rfl rfl rfl fun b5 _ w5 F6 S5 => ?_)
 refine s_end (x_normal (wp_seq ?_))
 refine x_draw (fun aZ wZ => ∃ (b13 : Nat), ∃ (A15 : Option Addr), ∃ (N15 : Nat), ∃ (C15 : Nat), ∃ (b17 : Nat), ∃ (A19 : Option Addr), ∃ (N19 : Nat), ∃ (C19 : Nat), ∃ (b22 : Nat), Fr 50 [(3, .pointer (some ⟨b3, 0, none⟩)), (4, .pointer (some ⟨b5, 0, none⟩)), (5, .pointer (some ⟨b22, 0, none⟩))] aZ ∧ Mv [bx b5 [.slice none 0 0, .slice none 0 0] 27, bx b3 [.slice b_Ra b_Rn b_Rc, .slice b_Wa b_Wn b_Wc] 27, bx b1 [.slice a_Ra a_Rn a_Rc, .slice a_Wa a_Wn a_Wc] 27] w5 [bx b5 [.slice none 0 0, .slice none 0 0] 27, bx b3 [.slice b_Ra b_Rn b_Rc, .slice b_Wa b_Wn b_Wc] 27, bx b1 [.slice a_Ra a_Rn a_Rc, .slice a_Wa a_Wn a_Wc] 27, ow 9 1 encS okS (.slice A15 N15 C15) (([] : List ByteArray) ++ a.reads), ow 9 1 encS okS (.slice A19 N19 C19) (([] : List ByteArray) ++ a.writes), bx b22 [.slice A15 N15 C15, .slice A19 N19 C19] 27] wZ) [bx b1 [.slice a_Ra a_Rn a_Rc, .slice a_Wa a_Wn a_Wc] 27] mixed S5.at' (listed := #[false, false, false, false, false, false, false, false, false, false, false]) rfl (fun w8 S8 => ?_) [2] rfl ?_
 · skip
   refine g_take F6 rfl (i := 1) (listed' := #[false, true, false, false, false, false, false, false, false, false, false]) rfl (by kernel_rfl) (by kernel_rfl) (by kernel_rfl) (fun _ _ _ h => h) (Sd.of (Mv.refl S8.at') [2] rfl) rfl rfl rfl rfl (fun _ hz => (r_field FI_27_0 rfl (F6.ev 2 rfl) rfl)) fun _ F9 => ?_
   refine g_take (v := .slice a_Ra a_Rn a_Rc) F9 rfl (i := 2) (listed' := #[false, true, true, false, false, false, false, false, false, false, false]) rfl (by kernel_rfl) (by kernel_rfl) (by kernel_rfl) (fun _ _ _ h => h) (Sd.of (Mv.refl S8.at') [2] rfl) rfl rfl rfl rfl (fun _ hz => (r_loadX (hz.bx 0 rfl) TI_25 rfl (F9.ev 9 rfl) rfl rfl (fun _ => rfl) rfl)) fun _ F10 => ?_
   refine g_take F10 rfl (i := 5) (listed' := #[false, true, true, false, false, true, false, false, false, false, false]) rfl (by kernel_rfl) (by kernel_rfl) (by kernel_rfl) (fun _ _ _ h => h) (Sd.of (Mv.refl S8.at') [2] rfl) rfl rfl rfl rfl (fun _ hz => (r_field FI_27_1 rfl (F10.ev 2 rfl) rfl)) fun _ F11 => ?_
   refine g_take (v := .slice a_Wa a_Wn a_Wc) F11 rfl (i := 6) (listed' := #[false, true, true, false, false, true, true, false, false, false, false]) rfl (by kernel_rfl) (by kernel_rfl) (by kernel_rfl) (fun _ _ _ h => h) (Sd.of (Mv.refl S8.at') [2] rfl) rfl rfl rfl rfl (fun _ hz => (r_loadX (hz.bx 0 rfl) TI_25 rfl (F11.ev 13 rfl) rfl rfl (fun _ => rfl) rfl)) fun _ F12 => ?_
   refine d_all (rs := [0, 4, 9]) rfl (by kernel_rfl) (by simp) (d_cons (i := 0) (listed' := #[true, true, true, false, false, true, true, false, false, false, false]) rfl rfl ?_ (d_cons (i := 4) (listed' := #[false, true, true, false, true, true, true, false, false, false, false]) rfl rfl ?_ (d_cons (i := 9) (listed' := #[false, true, true, false, false, true, true, false, false, true, false]) rfl rfl ?_ d_nil)))
   · skip
     refine f_buildSl (ok := okS) (vs := []) F12 S8.at' (([] : List ByteArray)) ET_25 rfl rfl rfl rfl rfl rfl rfl rfl rfl (by simp) fun b13 _ w13 F14 S13 => ?_
     refine ⟨Sd.of S13 [3] rfl, ?_⟩
     refine d_all (rs := [3, 4, 9]) rfl (by kernel_rfl) (by simp) (d_cons (i := 3) (listed' := #[true, true, true, true, false, true, true, false, false, false, false]) rfl rfl ?_ (d_cons (i := 4) (listed' := #[true, true, true, false, true, true, true, false, false, false, false]) rfl rfl ?_ (d_cons (i := 9) (listed' := #[true, true, true, false, false, true, true, false, false, true, false]) rfl rfl ?_ d_nil)))
     · skip
       refine f_app (news := a.reads) F14 S13.at' 0 ET_25 rfl rfl rfl rfl rfl rfl (F14.ev 8 rfl) (F14.ev 10 rfl) ((Rd.mq Q1 (S1.trans (S3.trans (S5.trans (S8.trans S13)))))).1 (by ((repeat (first | rw [List.length_append] | rw [List.length_cons] | rw [List.length_nil] | rw [List.length_take] | rw [List.length_drop])) <;> omega)) fun A15 N15 C15 _ w15 F16 S15 l15 => ?_
       refine ⟨Sd.of (S13.trans S15) [3] rfl, ?_⟩
       refine d_all (rs := [4, 9]) rfl (by kernel_rfl) (by simp) (d_cons (i := 4) (listed' := #[true, true, true, true, true, true, true, false, false, false, false]) rfl rfl ?_ (d_cons (i := 9) (listed' := #[true, true, true, true, false, true, true, false, false, true, false]) rfl rfl ?_ d_nil))
       · skip
         refine f_buildSl (ok := okS) (vs := []) F16 S15.at' (([] : List ByteArray)) ET_25 rfl rfl rfl rfl rfl rfl rfl rfl rfl (by simp) fun b17 _ w17 F18 S17 => ?_
         refine ⟨Sd.of (S13.trans (S15.trans S17)) [4] rfl, ?_⟩
         refine d_all (rs := [7, 9]) rfl (by kernel_rfl) (by simp) (d_cons (i := 7) (listed' := #[true, true, true, true, true, true, true, true, false, false, false]) rfl rfl ?_ (d_cons (i := 9) (listed' := #[true, true, true, true, true, true, true, false, false, true, false]) rfl rfl ?_ d_nil))
         · skip
           refine f_app (news := a.writes) F18 S17.at' 0 ET_25 rfl rfl rfl rfl rfl rfl (F18.ev 12 rfl) (F18.ev 14 rfl) ((Rd.mq Q0 (S1.trans (S3.trans (S5.trans (S8.trans (S13.trans (S15.trans S17)))))))).1 (by ((repeat (first | rw [List.length_append] | rw [List.length_cons] | rw [List.length_nil] | rw [List.length_take] | rw [List.length_drop])) <;> omega)) fun A19 N19 C19 _ w19 F20 S19 l19 => ?_
           refine ⟨Sd.of (S13.trans (S15.trans (S17.trans S19))) [4] rfl, ?_⟩
           refine g_take (v := .agg #[.slice A15 N15 C15, .slice A19 N19 C19]) F20 rfl (i := 8) (listed' := #[true, true, true, true, true, true, true, true, true, false, false]) rfl (by kernel_rfl) (by kernel_rfl) (by kernel_rfl) (fun _ _ _ h => h) (Sd.of (S13.trans (S15.trans (S17.trans S19))) [4] rfl) rfl rfl rfl rfl (fun _ hz => (r_build BI_27 rfl (lc (pr2 (F20.ev 11 rfl)) (lc (pr2 (F20.ev 15 rfl)) rfl)) rfl)) fun _ F21 => ?_
           refine d_one (i := 9) (listed' := #[true, true, true, true, true, true, true, true, true, true, false]) rfl (by kernel_rfl) rfl rfl ?_
           refine f_alloc F21 S19.at' ZI_27 rfl rfl rfl rfl rfl fun b22 _ w22 F23 S22 => ?_
           refine ⟨Sd.of (S13.trans (S15.trans (S17.trans (S19.trans S22)))) [5] rfl, ?_⟩
           refine d_one (i := 10) (listed' := #[true, true, true, true, true, true, true, true, true, true, true]) rfl (by kernel_rfl) rfl rfl ?_
           refine s_store S22.at' 0 TI_27 rfl rfl rfl rfl rfl (F23.ev 5 rfl) (F23.ev 16 rfl) rfl rfl rfl rfl rfl fun w24 S24 => ?_
           refine ⟨Sd.of (S13.trans (S15.trans (S17.trans (S19.trans (S22.trans S24))))) [5] rfl, ?_⟩
           refine wpAnyH_done (by kernel_rfl) (x_normal ?_) _
           exact ⟨b13, A15, N15, C15, b17, A19, N19, C19, b22, F23.cut rfl, ((S8.trans (S13.trans (S15.trans (S17.trans (S19.trans (S22.trans S24)))))).pick [3, 4, 5, 2, 1, 0] rfl)⟩
         · skip
           refine f_alloc F18 S17.at' ZI_27 rfl rfl rfl rfl rfl fun b25 _ w25 F26 S25 => ?_
           refine ⟨Sd.of (S13.trans (S15.trans (S17.trans S25))) [5] rfl, ?_⟩
           refine d_one (i := 7) (listed' := #[true, true, true, true, true, true, true, true, false, true, false]) rfl (by kernel_rfl) rfl rfl ?_
           refine f_app (news := a.writes) F26 S25.at' 1 ET_25 rfl rfl rfl rfl rfl rfl (F26.ev 12 rfl) (F26.ev 14 rfl) ((Rd.mq Q0 (S1.trans (S3.trans (S5.trans (S8.trans (S13.trans (S15.trans (S17.trans S25))))))))).1 (by ((repeat (first | rw [List.length_append] | rw [List.length_cons] | rw [List.length_nil] | rw [List.length_take] | rw [List.length_drop])) <;> omega)) fun A27 N27 C27 _ w27 F28 S27 l27 => ?_
           refine ⟨Sd.of (S13.trans (S15.trans (S17.trans (S25.trans S27)))) [5] rfl, ?_⟩
           refine g_take (v := .agg #[.slice A15 N15 C15, .slice A27 N27 C27]) F28 rfl (i := 8) (listed' := #[true, true, true, true, true, true, true, true, true, true, false]) rfl (by kernel_rfl) (by kernel_rfl) (by kernel_rfl) (fun _ _ _ h => h) (Sd.of (S13.trans (S15.trans (S17.trans (S25.trans S27)))) [5] rfl) rfl rfl rfl rfl (fun _ hz => (r_build BI_27 rfl (lc (pr2 (F28.ev 11 rfl)) (lc (pr2 (F28.ev 15 rfl)) rfl)) rfl)) fun _ F29 => ?_
           refine d_one (i := 10) (listed' := #[true, true, true, true, true, true, true, true, true, true, true]) rfl (by kernel_rfl) rfl rfl ?_
           refine s_store S27.at' 1 TI_27 rfl rfl rfl rfl rfl (F29.ev 5 rfl) (F29.ev 16 rfl) rfl rfl rfl rfl rfl fun w30 S30 => ?_
           refine ⟨Sd.of (S13.trans (S15.trans (S17.trans (S25.trans (S27.trans S30))))) [5] rfl, ?_⟩
           refine wpAnyH_done (by kernel_rfl) (x_normal ?_) _
           exact ⟨b13, A15, N15, C15, b17, A27, N27, C27, b25, F29.cut rfl, ((S8.trans (S13.trans (S15.trans (S17.trans (S25.trans (S27.trans S30)))))).pick [3, 4, 5, 2, 1, 0] rfl)⟩
       · skip
         refine f_alloc F16 S15.at' ZI_27 rfl rfl rfl rfl rfl fun b31 _ w31 F32 S31 => ?_
         refine ⟨Sd.of (S13.trans (S15.trans S31)) [4] rfl, ?_⟩
         refine d_one (i := 4) (listed' := #[true, true, true, true, true, true, true, false, false, true, false]) rfl (by kernel_rfl) rfl rfl ?_
         refine f_buildSl (ok := okS) (vs := []) F32 S31.at' (([] : List ByteArray)) ET_25 rfl rfl rfl rfl rfl rfl rfl rfl rfl (by simp) fun b33 _ w33 F34 S33 => ?_
         refine ⟨Sd.of (S13.trans (S15.trans (S31.trans S33))) [5] rfl, ?_⟩
         refine d_one (i := 7) (listed' := #[true, true, true, true, true, true, true, true, false, true, false]) rfl (by kernel_rfl) rfl rfl ?_
         refine f_app (news := a.writes) F34 S33.at' 0 ET_25 rfl rfl rfl rfl rfl rfl (F34.ev 12 rfl) (F34.ev 14 rfl) ((Rd.mq Q0 (S1.trans (S3.trans (S5.trans (S8.trans (S13.trans (S15.trans (S31.trans S33))))))))).1 (by ((repeat (first | rw [List.length_append] | rw [List.length_cons] | rw [List.length_nil] | rw [List.length_take] | rw [List.length_drop])) <;> omega)) fun A35 N35 C35 _ w35 F36 S35 l35 => ?_
         refine ⟨Sd.of (S13.trans (S15.trans (S31.trans (S33.trans S35)))) [5] rfl, ?_⟩
         refine g_take (v := .agg #[.slice A15 N15 C15, .slice A35 N35 C35]) F36 rfl (i := 8) (listed' := #[true, true, true, true, true, true, true, true, true, true, false]) rfl (by kernel_rfl) (by kernel_rfl) (by kernel_rfl) (fun _ _ _ h => h) (Sd.of (S13.trans (S15.trans (S31.trans (S33.trans S35)))) [5] rfl) rfl rfl rfl rfl (fun _ hz => (r_build BI_27 rfl (lc (pr2 (F36.ev 11 rfl)) (lc (pr2 (F36.ev 15 rfl)) rfl)) rfl)) fun _ F37 => ?_
         refine d_one (i := 10) (listed' := #[true, true, true, true, true, true, true, true, true, true, true]) rfl (by kernel_rfl) rfl rfl ?_
         refine s_store S35.at' 1 TI_27 rfl rfl rfl rfl rfl (F37.ev 5 rfl) (F37.ev 16 rfl) rfl rfl rfl rfl rfl fun w38 S38 => ?_
         refine ⟨Sd.of (S13.trans (S15.trans (S31.trans (S33.trans (S35.trans S38))))) [5] rfl, ?_⟩
         refine wpAnyH_done (by kernel_rfl) (x_normal ?_) _
         exact ⟨b13, A15, N15, C15, b33, A35, N35, C35, b31, F37.cut rfl, ((S8.trans (S13.trans (S15.trans (S31.trans (S33.trans (S35.trans S38)))))).pick [3, 4, 5, 2, 1, 0] rfl)⟩
     · skip
       refine f_buildSl (ok := okS) (vs := []) F14 S13.at' (([] : List ByteArray)) ET_25 rfl rfl rfl rfl rfl rfl rfl rfl rfl (by simp) fun b39 _ w39 F40 S39 => ?_
       refine ⟨Sd.of (S13.trans S39) [4] rfl, ?_⟩
       refine d_all (rs := [3, 9]) rfl (by kernel_rfl) (by simp) (d_cons (i := 3) (listed' := #[true, true, true, true, true, true, true, false, false, false, false]) rfl rfl ?_ (d_cons (i := 9) (listed' := #[true, true, true, false, true, true, true, false, false, true, false]) rfl rfl ?_ d_nil))
       · skip
         refine f_app (news := a.reads) F40 S39.at' 1 ET_25 rfl rfl rfl rfl rfl rfl (F40.ev 8 rfl) (F40.ev 10 rfl) ((Rd.mq Q1 (S1.trans (S3.trans (S5.trans (S8.trans (S13.trans S39))))))).1 (by ((repeat (first | rw [List.length_append] | rw [List.length_cons] | rw [List.length_nil] | rw [List.length_take] | rw [List.length_drop])) <;> omega)) fun A41 N41 C41 _ w41 F42 S41 l41 => ?_
         refine ⟨Sd.of (S13.trans (S39.trans S41)) [4] rfl, ?_⟩
         refine d_all (rs := [7, 9]) rfl (by kernel_rfl) (by simp) (d_cons (i := 7) (listed' := #[true, true, true, true, true, true, true, true, false, false, false]) rfl rfl ?_ (d_cons (i := 9) (listed' := #[true, true, true, true, true, true, true, false, false, true, false]) rfl rfl ?_ d_nil))
         · skip
           refine f_app (news := a.writes) F42 S41.at' 1 ET_25 rfl rfl rfl rfl rfl rfl (F42.ev 12 rfl) (F42.ev 14 rfl) ((Rd.mq Q0 (S1.trans (S3.trans (S5.trans (S8.trans (S13.trans (S39.trans S41)))))))).1 (by ((repeat (first | rw [List.length_append] | rw [List.length_cons] | rw [List.length_nil] | rw [List.length_take] | rw [List.length_drop])) <;> omega)) fun A43 N43 C43 _ w43 F44 S43 l43 => ?_
           refine ⟨Sd.of (S13.trans (S39.trans (S41.trans S43))) [4] rfl, ?_⟩
           refine g_take (v := .agg #[.slice A41 N41 C41, .slice A43 N43 C43]) F44 rfl (i := 8) (listed' := #[true, true, true, true, true, true, true, true, true, false, false]) rfl (by kernel_rfl) (by kernel_rfl) (by kernel_rfl) (fun _ _ _ h => h) (Sd.of (S13.trans (S39.trans (S41.trans S43))) [4] rfl) rfl rfl rfl rfl (fun _ hz => (r_build BI_27 rfl (lc (pr2 (F44.ev 11 rfl)) (lc (pr2 (F44.ev 15 rfl)) rfl)) rfl)) fun _ F45 => ?_
           refine d_one (i := 9) (listed' := #[true, true, true, true, true, true, true, true, true, true, false]) rfl (by kernel_rfl) rfl rfl ?_
           refine f_alloc F45 S43.at' ZI_27 rfl rfl rfl rfl rfl fun b46 _ w46 F47 S46 => ?_
           refine ⟨Sd.of (S13.trans (S39.trans (S41.trans (S43.trans S46)))) [5] rfl, ?_⟩
           refine d_one (i := 10) (listed' := #[true, true, true, true, true, true, true, true, true, true, true]) rfl (by kernel_rfl) rfl rfl ?_
           refine s_store S46.at' 0 TI_27 rfl rfl rfl rfl rfl (F47.ev 5 rfl) (F47.ev 16 rfl) rfl rfl rfl rfl rfl fun w48 S48 => ?_
           refine ⟨Sd.of (S13.trans (S39.trans (S41.trans (S43.trans (S46.trans S48))))) [5] rfl, ?_⟩
           refine wpAnyH_done (by kernel_rfl) (x_normal ?_) _
           exact ⟨b13, A41, N41, C41, b39, A43, N43, C43, b46, F47.cut rfl, ((S8.trans (S13.trans (S39.trans (S41.trans (S43.trans (S46.trans S48)))))).pick [3, 4, 5, 2, 1, 0] rfl)⟩
         · skip
           refine f_alloc F42 S41.at' ZI_27 rfl rfl rfl rfl rfl fun b49 _ w49 F50 S49 => ?_
           refine ⟨Sd.of (S13.trans (S39.trans (S41.trans S49))) [5] rfl, ?_⟩
           refine d_one (i := 7) (listed' := #[true, true, true, true, true, true, true, true, false, true, false]) rfl (by kernel_rfl) rfl rfl ?_
           refine f_app (news := a.writes) F50 S49.at' 2 ET_25 rfl rfl rfl rfl rfl rfl (F50.ev 12 rfl) (F50.ev 14 rfl) ((Rd.mq Q0 (S1.trans (S3.trans (S5.trans (S8.trans (S13.trans (S39.trans (S41.trans S49))))))))).1 (by ((repeat (first | rw [List.length_append] | rw [List.length_cons] | rw [List.length_nil] | rw [List.length_take] | rw [List.length_drop])) <;> omega)) fun A51 N51 C51 _ w51 F52 S51 l51 => ?_
           refine ⟨Sd.of (S13.trans (S39.trans (S41.trans (S49.trans S51)))) [5] rfl, ?_⟩
           refine g_take (v := .agg #[.slice A41 N41 C41, .slice A51 N51 C51]) F52 rfl (i := 8) (listed' := #[true, true, true, true, true, true, true, true, true, true, false]) rfl (by kernel_rfl) (by kernel_rfl) (by kernel_rfl) (fun _ _ _ h => h) (Sd.of (S13.trans (S39.trans (S41.trans (S49.trans S51)))) [5] rfl) rfl rfl rfl rfl (fun _ hz => (r_build BI_27 rfl (lc (pr2 (F52.ev 11 rfl)) (lc (pr2 (F52.ev 15 rfl)) rfl)) rfl)) fun _ F53 => ?_
           refine d_one (i := 10) (listed' := #[true, true, true, true, true, true, true, true, true, true, true]) rfl (by kernel_rfl) rfl rfl ?_
           refine s_store S51.at' 1 TI_27 rfl rfl rfl rfl rfl (F53.ev 5 rfl) (F53.ev 16 rfl) rfl rfl rfl rfl rfl fun w54 S54 => ?_
           refine ⟨Sd.of (S13.trans (S39.trans (S41.trans (S49.trans (S51.trans S54))))) [5] rfl, ?_⟩
           refine wpAnyH_done (by kernel_rfl) (x_normal ?_) _
           exact ⟨b13, A41, N41, C41, b39, A51, N51, C51, b49, F53.cut rfl, ((S8.trans (S13.trans (S39.trans (S41.trans (S49.trans (S51.trans S54)))))).pick [3, 4, 5, 2, 1, 0] rfl)⟩
       · skip
         refine f_alloc F40 S39.at' ZI_27 rfl rfl rfl rfl rfl fun b55 _ w55 F56 S55 => ?_
         refine ⟨Sd.of (S13.trans (S39.trans S55)) [5] rfl, ?_⟩
         refine d_one (i := 3) (listed' := #[true, true, true, true, true, true, true, false, false, true, false]) rfl (by kernel_rfl) rfl rfl ?_
         refine f_app (news := a.reads) F56 S55.at' 2 ET_25 rfl rfl rfl rfl rfl rfl (F56.ev 8 rfl) (F56.ev 10 rfl) ((Rd.mq Q1 (S1.trans (S3.trans (S5.trans (S8.trans (S13.trans (S39.trans S55)))))))).1 (by ((repeat (first | rw [List.length_append] | rw [List.length_cons] | rw [List.length_nil] | rw [List.length_take] | rw [List.length_drop])) <;> omega)) fun A57 N57 C57 _ w57 F58 S57 l57 => ?_
         refine ⟨Sd.of (S13.trans (S39.trans (S55.trans S57))) [5] rfl, ?_⟩
         refine d_one (i := 7) (listed' := #[true, true, true, true, true, true, true, true, false, true, false]) rfl (by kernel_rfl) rfl rfl ?_
         refine f_app (news := a.writes) F58 S57.at' 2 ET_25 rfl rfl rfl rfl rfl rfl (F58.ev 12 rfl) (F58.ev 14 rfl) ((Rd.mq Q0 (S1.trans (S3.trans (S5.trans (S8.trans (S13.trans (S39.trans (S55.trans S57))))))))).1 (by ((repeat (first | rw [List.length_append] | rw [List.length_cons] | rw [List.length_nil] | rw [List.length_take] | rw [List.length_drop])) <;> omega)) fun A59 N59 C59 _ w59 F60 S59 l59 => ?_
         refine ⟨Sd.of (S13.trans (S39.trans (S55.trans (S57.trans S59)))) [5] rfl, ?_⟩
         refine g_take (v := .agg #[.slice A57 N57 C57, .slice A59 N59 C59]) F60 rfl (i := 8) (listed' := #[true, true, true, true, true, true, true, true, true, true, false]) rfl (by kernel_rfl) (by kernel_rfl) (by kernel_rfl) (fun _ _ _ h => h) (Sd.of (S13.trans (S39.trans (S55.trans (S57.trans S59)))) [5] rfl) rfl rfl rfl rfl (fun _ hz => (r_build BI_27 rfl (lc (pr2 (F60.ev 11 rfl)) (lc (pr2 (F60.ev 15 rfl)) rfl)) rfl)) fun _ F61 => ?_
         refine d_one (i := 10) (listed' := #[true, true, true, true, true, true, true, true, true, true, true]) rfl (by kernel_rfl) rfl rfl ?_
         refine s_store S59.at' 2 TI_27 rfl rfl rfl rfl rfl (F61.ev 5 rfl) (F61.ev 16 rfl) rfl rfl rfl rfl rfl fun w62 S62 => ?_
         refine ⟨Sd.of (S13.trans (S39.trans (S55.trans (S57.trans (S59.trans S62))))) [5] rfl, ?_⟩
         refine wpAnyH_done (by kernel_rfl) (x_normal ?_) _
         exact ⟨b13, A57, N57, C57, b39, A59, N59, C59, b55, F61.cut rfl, ((S8.trans (S13.trans (S39.trans (S55.trans (S57.trans (S59.trans S62)))))).pick [3, 4, 5, 2, 1, 0] rfl)⟩
     · skip
       refine f_alloc F14 S13.at' ZI_27 rfl rfl rfl rfl rfl fun b63 _ w63 F64 S63 => ?_
       refine ⟨Sd.of (S13.trans S63) [4] rfl, ?_⟩
       refine d_all (rs := [3, 4]) rfl (by kernel_rfl) (by simp) (d_cons (i := 3) (listed' := #[true, true, true, true, false, true, true, false, false, true, false]) rfl rfl ?_ (d_cons (i := 4) (listed' := #[true, true, true, false, true, true, true, false, false, true, false]) rfl rfl ?_ d_nil))
       · skip
         refine f_app (news := a.reads) F64 S63.at' 1 ET_25 rfl rfl rfl rfl rfl rfl (F64.ev 8 rfl) (F64.ev 10 rfl) ((Rd.mq Q1 (S1.trans (S3.trans (S5.trans (S8.trans (S13.trans S63))))))).1 (by ((repeat (first | rw [List.length_append] | rw [List.length_cons] | rw [List.length_nil] | rw [List.length_take] | rw [List.length_drop])) <;> omega)) fun A65 N65 C65 _ w65 F66 S65 l65 => ?_
         refine ⟨Sd.of (S13.trans (S63.trans S65)) [4] rfl, ?_⟩
         refine d_one (i := 4) (listed' := #[true, true, true, true, true, true, true, false, false, true, false]) rfl (by kernel_rfl) rfl rfl ?_
         refine f_buildSl (ok := okS) (vs := []) F66 S65.at' (([] : List ByteArray)) ET_25 rfl rfl rfl rfl rfl rfl rfl rfl rfl (by simp) fun b67 _ w67 F68 S67 => ?_
         refine ⟨Sd.of (S13.trans (S63.trans (S65.trans S67))) [5] rfl, ?_⟩
         refine d_one (i := 7) (listed' := #[true, true, true, true, true, true, true, true, false, true, false]) rfl (by kernel_rfl) rfl rfl ?_
         refine f_app (news := a.writes) F68 S67.at' 0 ET_25 rfl rfl rfl rfl rfl rfl (F68.ev 12 rfl) (F68.ev 14 rfl) ((Rd.mq Q0 (S1.trans (S3.trans (S5.trans (S8.trans (S13.trans (S63.trans (S65.trans S67))))))))).1 (by ((repeat (first | rw [List.length_append] | rw [List.length_cons] | rw [List.length_nil] | rw [List.length_take] | rw [List.length_drop])) <;> omega)) fun A69 N69 C69 _ w69 F70 S69 l69 => ?_
         refine ⟨Sd.of (S13.trans (S63.trans (S65.trans (S67.trans S69)))) [5] rfl, ?_⟩
         refine g_take (v := .agg #[.slice A65 N65 C65, .slice A69 N69 C69]) F70 rfl (i := 8) (listed' := #[true, true, true, true, true, true, true, true, true, true, false]) rfl (by kernel_rfl) (by kernel_rfl) (by kernel_rfl) (fun _ _ _ h => h) (Sd.of (S13.trans (S63.trans (S65.trans (S67.trans S69)))) [5] rfl) rfl rfl rfl rfl (fun _ hz => (r_build BI_27 rfl (lc (pr2 (F70.ev 11 rfl)) (lc (pr2 (F70.ev 15 rfl)) rfl)) rfl)) fun _ F71 => ?_
         refine d_one (i := 10) (listed' := #[true, true, true, true, true, true, true, true, true, true, true]) rfl (by kernel_rfl) rfl rfl ?_
         refine s_store S69.at' 2 TI_27 rfl rfl rfl rfl rfl (F71.ev 5 rfl) (F71.ev 16 rfl) rfl rfl rfl rfl rfl fun w72 S72 => ?_
         refine ⟨Sd.of (S13.trans (S63.trans (S65.trans (S67.trans (S69.trans S72))))) [5] rfl, ?_⟩
         refine wpAnyH_done (by kernel_rfl) (x_normal ?_) _
         exact ⟨b13, A65, N65, C65, b67, A69, N69, C69, b63, F71.cut rfl, ((S8.trans (S13.trans (S63.trans (S65.trans (S67.trans (S69.trans S72)))))).pick [3, 4, 5, 2, 1, 0] rfl)⟩
       · skip
         refine f_buildSl (ok := okS) (vs := []) F64 S63.at' (([] : List ByteArray)) ET_25 rfl rfl rfl rfl rfl rfl rfl rfl rfl (by simp) fun b73 _ w73 F74 S73 => ?_
         refine ⟨Sd.of (S13.trans (S63.trans S73)) [5] rfl, ?_⟩
         refine d_one (i := 3) (listed' := #[true, true, true, true, true, true, true, false, false, true, false]) rfl (by kernel_rfl) rfl rfl ?_
         refine f_app (news := a.reads) F74 S73.at' 2 ET_25 rfl rfl rfl rfl rfl rfl (F74.ev 8 rfl) (F74.ev 10 rfl) ((Rd.mq Q1 (S1.trans (S3.trans (S5.trans (S8.trans (S13.trans (S63.trans S73)))))))).1 (by ((repeat (first | rw [List.length_append] | rw [List.length_cons] | rw [List.length_nil] | rw [List.length_take] | rw [List.length_drop])) <;> omega)) fun A75 N75 C75 _ w75 F76 S75 l75 => ?_
         refine ⟨Sd.of (S13.trans (S63.trans (S73.trans S75))) [5] rfl, ?_⟩
         refine d_one (i := 7) (listed' := #[true, true, true, true, true, true, true, true, false, true, false]) rfl (by kernel_rfl) rfl rfl ?_
         refine f_app (news := a.writes) F76 S75.at' 1 ET_25 rfl rfl rfl rfl rfl rfl (F76.ev 12 rfl) (F76.ev 14 rfl) ((Rd.mq Q0 (S1.trans (S3.trans (S5.trans (S8.trans (S13.trans (S63.trans (S73.trans S75))))))))).1 (by ((repeat (first | rw [List.length_append] | rw [List.length_cons] | rw [List.length_nil] | rw [List.length_take] | rw [List.length_drop])) <;> omega)) fun A77 N77 C77 _ w77 F78 S77 l77 => ?_
         refine ⟨Sd.of (S13.trans (S63.trans (S73.trans (S75.trans S77)))) [5] rfl, ?_⟩
         refine g_take (v := .agg #[.slice A75 N75 C75, .slice A77 N77 C77]) F78 rfl (i := 8) (listed' := #[true, true, true, true, true, true, true, true, true, true, false]) rfl (by kernel_rfl) (by kernel_rfl) (by kernel_rfl) (fun _ _ _ h => h) (Sd.of (S13.trans (S63.trans (S73.trans (S75.trans S77)))) [5] rfl) rfl rfl rfl rfl (fun _ hz => (r_build BI_27 rfl (lc (pr2 (F78.ev 11 rfl)) (lc (pr2 (F78.ev 15 rfl)) rfl)) rfl)) fun _ F79 => ?_
         refine d_one (i := 10) (listed' := #[true, true, true, true, true, true, true, true, true, true, true]) rfl (by kernel_rfl) rfl rfl ?_
         refine s_store S77.at' 2 TI_27 rfl rfl rfl rfl rfl (F79.ev 5 rfl) (F79.ev 16 rfl) rfl rfl rfl rfl rfl fun w80 S80 => ?_
         refine ⟨Sd.of (S13.trans (S63.trans (S73.trans (S75.trans (S77.trans S80))))) [5] rfl, ?_⟩
         refine wpAnyH_done (by kernel_rfl) (x_normal ?_) _
         exact ⟨b13, A75, N75, C75, b73, A77, N77, C77, b63, F79.cut rfl, ((S8.trans (S13.trans (S63.trans (S73.trans (S75.trans (S77.trans S80)))))).pick [3, 4, 5, 2, 1, 0] rfl)⟩
   · skip
     refine f_buildSl (ok := okS) (vs := []) F12 S8.at' (([] : List ByteArray)) ET_25 rfl rfl rfl rfl rfl rfl rfl rfl rfl (by simp) fun b81 _ w81 F82 S81 => ?_
     refine ⟨Sd.of S81 [3] rfl, ?_⟩
     refine d_all (rs := [0, 9]) rfl (by kernel_rfl) (by simp) (d_cons (i := 0) (listed' := #[true, true, true, false, true, true, true, false, false, false, false]) rfl rfl ?_ (d_cons (i := 9) (listed' := #[false, true, true, false, true, true, true, false, false, true, false]) rfl rfl ?_ d_nil))
     · skip
       refine f_buildSl (ok := okS) (vs := []) F82 S81.at' (([] : List ByteArray)) ET_25 rfl rfl rfl rfl rfl rfl rfl rfl rfl (by simp) fun b83 _ w83 F84 S83 => ?_
       refine ⟨Sd.of (S81.trans S83) [4] rfl, ?_⟩
       refine d_all (rs := [3, 9]) rfl (by kernel_rfl) (by simp) (d_cons (i := 3) (listed' := #[true, true, true, true, true, true, true, false, false, false, false]) rfl rfl ?_ (d_cons (i := 9) (listed' := #[true, true, true, false, true, true, true, false, false, true, false]) rfl rfl ?_ d_nil))
       · skip
         refine f_app (news := a.reads) F84 S83.at' 0 ET_25 rfl rfl rfl rfl rfl rfl (F84.ev 8 rfl) (F84.ev 10 rfl) ((Rd.mq Q1 (S1.trans (S3.trans (S5.trans (S8.trans (S81.trans S83))))))).1 (by ((repeat (first | rw [List.length_append] | rw [List.length_cons] | rw [List.length_nil] | rw [List.length_take] | rw [List.length_drop])) <;> omega)) fun A85 N85 C85 _ w85 F86 S85 l85 => ?_
         refine ⟨Sd.of (S81.trans (S83.trans S85)) [4] rfl, ?_⟩
         refine d_all (rs := [7, 9]) rfl (by kernel_rfl) (by simp) (d_cons (i := 7) (listed' := #[true, true, true, true, true, true, true, true, false, false, false]) rfl rfl ?_ (d_cons (i := 9) (listed' := #[true, true, true, true, true, true, true, false, false, true, false]) rfl rfl ?_ d_nil))
         · skip
           refine f_app (news := a.writes) F86 S85.at' 1 ET_25 rfl rfl rfl rfl rfl rfl (F86.ev 12 rfl) (F86.ev 14 rfl) ((Rd.mq Q0 (S1.trans (S3.trans (S5.trans (S8.trans (S81.trans (S83.trans S85)))))))).1 (by ((repeat (first | rw [List.length_append] | rw [List.length_cons] | rw [List.length_nil] | rw [List.length_take] | rw [List.length_drop])) <;> omega)) fun A87 N87 C87 _ w87 F88 S87 l87 => ?_
           refine ⟨Sd.of (S81.trans (S83.trans (S85.trans S87))) [4] rfl, ?_⟩
           refine g_take (v := .agg #[.slice A85 N85 C85, .slice A87 N87 C87]) F88 rfl (i := 8) (listed' := #[true, true, true, true, true, true, true, true, true, false, false]) rfl (by kernel_rfl) (by kernel_rfl) (by kernel_rfl) (fun _ _ _ h => h) (Sd.of (S81.trans (S83.trans (S85.trans S87))) [4] rfl) rfl rfl rfl rfl (fun _ hz => (r_build BI_27 rfl (lc (pr2 (F88.ev 11 rfl)) (lc (pr2 (F88.ev 15 rfl)) rfl)) rfl)) fun _ F89 => ?_
           refine d_one (i := 9) (listed' := #[true, true, true, true, true, true, true, true, true, true, false]) rfl (by kernel_rfl) rfl rfl ?_
           refine f_alloc F89 S87.at' ZI_27 rfl rfl rfl rfl rfl fun b90 _ w90 F91 S90 => ?_
           refine ⟨Sd.of (S81.trans (S83.trans (S85.trans (S87.trans S90)))) [5] rfl, ?_⟩
           refine d_one (i := 10) (listed' := #[true, true, true, true, true, true, true, true, true, true, true]) rfl (by kernel_rfl) rfl rfl ?_
           refine s_store S90.at' 0 TI_27 rfl rfl rfl rfl rfl (F91.ev 5 rfl) (F91.ev 16 rfl) rfl rfl rfl rfl rfl fun w92 S92 => ?_
           refine ⟨Sd.of (S81.trans (S83.trans (S85.trans (S87.trans (S90.trans S92))))) [5] rfl, ?_⟩
           refine wpAnyH_done (by kernel_rfl) (x_normal ?_) _
           exact ⟨b83, A85, N85, C85, b81, A87, N87, C87, b90, F91.cut rfl, ((S8.trans (S81.trans (S83.trans (S85.trans (S87.trans (S90.trans S92)))))).pick [3, 4, 5, 2, 1, 0] rfl)⟩
         · skip
           refine f_alloc F86 S85.at' ZI_27 rfl rfl rfl rfl rfl fun b93 _ w93 F94 S93 => ?_
           refine ⟨Sd.of (S81.trans (S83.trans (S85.trans S93))) [5] rfl, ?_⟩
           refine d_one (i := 7) (listed' := #[true, true, true, true, true, true, true, true, false, true, false]) rfl (by kernel_rfl) rfl rfl ?_
           refine f_app (news := a.writes) F94 S93.at' 2 ET_25 rfl rfl rfl rfl rfl rfl (F94.ev 12 rfl) (F94.ev 14 rfl) ((Rd.mq Q0 (S1.trans (S3.trans (S5.trans (S8.trans (S81.trans (S83.trans (S85.trans S93))))))))).1 (by ((repeat (first | rw [List.length_append] | rw [List.length_cons] | rw [List.length_nil] | rw [List.length_take] | rw [List.length_drop])) <;> omega)) fun A95 N95 C95 _ w95 F96 S95 l95 => ?_
           refine ⟨Sd.of (S81.trans (S83.trans (S85.trans (S93.trans S95)))) [5] rfl, ?_⟩
           refine g_take (v := .agg #[.slice A85 N85 C85, .slice A95 N95 C95]) F96 rfl (i := 8) (listed' := #[true, true, true, true, true, true, true, true, true, true, false]) rfl (by kernel_rfl) (by kernel_rfl) (by kernel_rfl) (fun _ _ _ h => h) (Sd.of (S81.trans (S83.trans (S85.trans (S93.trans S95)))) [5] rfl) rfl rfl rfl rfl (fun _ hz => (r_build BI_27 rfl (lc (pr2 (F96.ev 11 rfl)) (lc (pr2 (F96.ev 15 rfl)) rfl)) rfl)) fun _ F97 => ?_
           refine d_one (i := 10) (listed' := #[true, true, true, true, true, true, true, true, true, true, true]) rfl (by kernel_rfl) rfl rfl ?_
           refine s_store S95.at' 1 TI_27 rfl rfl rfl rfl rfl (F97.ev 5 rfl) (F97.ev 16 rfl) rfl rfl rfl rfl rfl fun w98 S98 => ?_
           refine ⟨Sd.of (S81.trans (S83.trans (S85.trans (S93.trans (S95.trans S98))))) [5] rfl, ?_⟩
           refine wpAnyH_done (by kernel_rfl) (x_normal ?_) _
           exact ⟨b83, A85, N85, C85, b81, A95, N95, C95, b93, F97.cut rfl, ((S8.trans (S81.trans (S83.trans (S85.trans (S93.trans (S95.trans S98)))))).pick [3, 4, 5, 2, 1, 0] rfl)⟩
       · skip
         refine f_alloc F84 S83.at' ZI_27 rfl rfl rfl rfl rfl fun b99 _ w99 F100 S99 => ?_
         refine ⟨Sd.of (S81.trans (S83.trans S99)) [5] rfl, ?_⟩
         refine d_one (i := 3) (listed' := #[true, true, true, true, true, true, true, false, false, true, false]) rfl (by kernel_rfl) rfl rfl ?_
         refine f_app (news := a.reads) F100 S99.at' 1 ET_25 rfl rfl rfl rfl rfl rfl (F100.ev 8 rfl) (F100.ev 10 rfl) ((Rd.mq Q1 (S1.trans (S3.trans (S5.trans (S8.trans (S81.trans (S83.trans S99)))))))).1 (by ((repeat (first | rw [List.length_append] | rw [List.length_cons] | rw [List.length_nil] | rw [List.length_take] | rw [List.length_drop])) <;> omega)) fun A101 N101 C101 _ w101 F102 S101 l101 => ?_
         refine ⟨Sd.of (S81.trans (S83.trans (S99.trans S101))) [5] rfl, ?_⟩
         refine d_one (i := 7) (listed' := #[true, true, true, true, true, true, true, true, false, true, false]) rfl (by kernel_rfl) rfl rfl ?_
         refine f_app (news := a.writes) F102 S101.at' 2 ET_25 rfl rfl rfl rfl rfl rfl (F102.ev 12 rfl) (F102.ev 14 rfl) ((Rd.mq Q0 (S1.trans (S3.trans (S5.trans (S8.trans (S81.trans (S83.trans (S99.trans S101))))))))).1 (by ((repeat (first | rw [List.length_append] | rw [List.length_cons] | rw [List.length_nil] | rw [List.length_take] | rw [List.length_drop])) <;> omega)) fun A103 N103 C103 _ w103 F104 S103 l103 => ?_
         refine ⟨Sd.of (S81.trans (S83.trans (S99.trans (S101.trans S103)))) [5] rfl, ?_⟩
         refine g_take (v := .agg #[.slice A101 N101 C101, .slice A103 N103 C103]) F104 rfl (i := 8) (listed' := #[true, true, true, true, true, true, true, true, true, true, false]) rfl (by kernel_rfl) (by kernel_rfl) (by kernel_rfl) (fun _ _ _ h => h) (Sd.of (S81.trans (S83.trans (S99.trans (S101.trans S103)))) [5] rfl) rfl rfl rfl rfl (fun _ hz => (r_build BI_27 rfl (lc (pr2 (F104.ev 11 rfl)) (lc (pr2 (F104.ev 15 rfl)) rfl)) rfl)) fun _ F105 => ?_
         refine d_one (i := 10) (listed' := #[true, true, true, true, true, true, true, true, true, true, true]) rfl (by kernel_rfl) rfl rfl ?_
         refine s_store S103.at' 2 TI_27 rfl rfl rfl rfl rfl (F105.ev 5 rfl) (F105.ev 16 rfl) rfl rfl rfl rfl rfl fun w106 S106 => ?_
         refine ⟨Sd.of (S81.trans (S83.trans (S99.trans (S101.trans (S103.trans S106))))) [5] rfl, ?_⟩
         refine wpAnyH_done (by kernel_rfl) (x_normal ?_) _
         exact ⟨b83, A101, N101, C101, b81, A103, N103, C103, b99, F105.cut rfl, ((S8.trans (S81.trans (S83.trans (S99.trans (S101.trans (S103.trans S106)))))).pick [3, 4, 5, 2, 1, 0] rfl)⟩
     · skip
       refine f_alloc F82 S81.at' ZI_27 rfl rfl rfl rfl rfl fun b107 _ w107 F108 S107 => ?_
       refine ⟨Sd.of (S81.trans S107) [4] rfl, ?_⟩
       refine d_one (i := 0) (listed' := #[true, true, true, false, true, true, true, false, false, true, false]) rfl (by kernel_rfl) rfl rfl ?_
       refine f_buildSl (ok := okS) (vs := []) F108 S107.at' (([] : List ByteArray)) ET_25 rfl rfl rfl rfl rfl rfl rfl rfl rfl (by simp) fun b109 _ w109 F110 S109 => ?_
       refine ⟨Sd.of (S81.trans (S107.trans S109)) [5] rfl, ?_⟩
       refine d_one (i := 3) (listed' := #[true, true, true, true, true, true, true, false, false, true, false]) rfl (by kernel_rfl) rfl rfl ?_
       refine f_app (news := a.reads) F110 S109.at' 0 ET_25 rfl rfl rfl rfl rfl rfl (F110.ev 8 rfl) (F110.ev 10 rfl) ((Rd.mq Q1 (S1.trans (S3.trans (S5.trans (S8.trans (S81.trans (S107.trans S109)))))))).1 (by ((repeat (first | rw [List.length_append] | rw [List.length_cons] | rw [List.length_nil] | rw [List.length_take] | rw [List.length_drop])) <;> omega)) fun A111 N111 C111 _ w111 F112 S111 l111 => ?_
       refine ⟨Sd.of (S81.trans (S107.trans (S109.trans S111))) [5] rfl, ?_⟩
       refine d_one (i := 7) (listed' := #[true, true, true, true, true, true, true, true, false, true, false]) rfl (by kernel_rfl) rfl rfl ?_
       refine f_app (news := a.writes) F112 S111.at' 2 ET_25 rfl rfl rfl rfl rfl rfl (F112.ev 12 rfl) (F112.ev 14 rfl) ((Rd.mq Q0 (S1.trans (S3.trans (S5.trans (S8.trans (S81.trans (S107.trans (S109.trans S111))))))))).1 (by ((repeat (first | rw [List.length_append] | rw [List.length_cons] | rw [List.length_nil] | rw [List.length_take] | rw [List.length_drop])) <;> omega)) fun A113 N113 C113 _ w113 F114 S113 l113 => ?_
       refine ⟨Sd.of (S81.trans (S107.trans (S109.trans (S111.trans S113)))) [5] rfl, ?_⟩
       refine g_take (v := .agg #[.slice A111 N111 C111, .slice A113 N113 C113]) F114 rfl (i := 8) (listed' := #[true, true, true, true, true, true, true, true, true, true, false]) rfl (by kernel_rfl) (by kernel_rfl) (by kernel_rfl) (fun _ _ _ h => h) (Sd.of (S81.trans (S107.trans (S109.trans (S111.trans S113)))) [5] rfl) rfl rfl rfl rfl (fun _ hz => (r_build BI_27 rfl (lc (pr2 (F114.ev 11 rfl)) (lc (pr2 (F114.ev 15 rfl)) rfl)) rfl)) fun _ F115 => ?_
       refine d_one (i := 10) (listed' := #[true, true, true, true, true, true, true, true, true, true, true]) rfl (by kernel_rfl) rfl rfl ?_
       refine s_store S113.at' 2 TI_27 rfl rfl rfl rfl rfl (F115.ev 5 rfl) (F115.ev 16 rfl) rfl rfl rfl rfl rfl fun w116 S116 => ?_
       refine ⟨Sd.of (S81.trans (S107.trans (S109.trans (S111.trans (S113.trans S116))))) [5] rfl, ?_⟩
       refine wpAnyH_done (by kernel_rfl) (x_normal ?_) _
       exact ⟨b109, A111, N111, C111, b81, A113, N113, C113, b107, F115.cut rfl, ((S8.trans (S81.trans (S107.trans (S109.trans (S111.trans (S113.trans S116)))))).pick [3, 4, 5, 2, 1, 0] rfl)⟩
   · skip
     refine f_alloc F12 S8.at' ZI_27 rfl rfl rfl rfl rfl fun b117 _ w117 F118 S117 => ?_
     refine ⟨Sd.of S117 [3] rfl, ?_⟩
     refine d_all (rs := [0, 4]) rfl (by kernel_rfl) (by simp) (d_cons (i := 0) (listed' := #[true, true, true, false, false, true, true, false, false, true, false]) rfl rfl ?_ (d_cons (i := 4) (listed' := #[false, true, true, false, true, true, true, false, false, true, false]) rfl rfl ?_ d_nil))
     · skip
       refine f_buildSl (ok := okS) (vs := []) F118 S117.at' (([] : List ByteArray)) ET_25 rfl rfl rfl rfl rfl rfl rfl rfl rfl (by simp) fun b119 _ w119 F120 S119 => ?_
       refine ⟨Sd.of (S117.trans S119) [4] rfl, ?_⟩
       refine d_all (rs := [3, 4]) rfl (by kernel_rfl) (by simp) (d_cons (i := 3) (listed' := #[true, true, true, true, false, true, true, false, false, true, false]) rfl rfl ?_ (d_cons (i := 4) (listed' := #[true, true, true, false, true, true, true, false, false, true, false]) rfl rfl ?_ d_nil))
       · skip
         refine f_app (news := a.reads) F120 S119.at' 0 ET_25 rfl rfl rfl rfl rfl rfl (F120.ev 8 rfl) (F120.ev 10 rfl) ((Rd.mq Q1 (S1.trans (S3.trans (S5.trans (S8.trans (S117.trans S119))))))).1 (by ((repeat (first | rw [List.length_append] | rw [List.length_cons] | rw [List.length_nil] | rw [List.length_take] | rw [List.length_drop])) <;> omega)) fun A121 N121 C121 _ w121 F122 S121 l121 => ?_
         refine ⟨Sd.of (S117.trans (S119.trans S121)) [4] rfl, ?_⟩
         refine d_one (i := 4) (listed' := #[true, true, true, true, true, true, true, false, false, true, false]) rfl (by kernel_rfl) rfl rfl ?_
         refine f_buildSl (ok := okS) (vs := []) F122 S121.at' (([] : List ByteArray)) ET_25 rfl rfl rfl rfl rfl rfl rfl rfl rfl (by simp) fun b123 _ w123 F124 S123 => ?_
         refine ⟨Sd.of (S117.trans (S119.trans (S121.trans S123))) [5] rfl, ?_⟩
         refine d_one (i := 7) (listed' := #[true, true, true, true, true, true, true, true, false, true, false]) rfl (by kernel_rfl) rfl rfl ?_
         refine f_app (news := a.writes) F124 S123.at' 0 ET_25 rfl rfl rfl rfl rfl rfl (F124.ev 12 rfl) (F124.ev 14 rfl) ((Rd.mq Q0 (S1.trans (S3.trans (S5.trans (S8.trans (S117.trans (S119.trans (S121.trans S123))))))))).1 (by ((repeat (first | rw [List.length_append] | rw [List.length_cons] | rw [List.length_nil] | rw [List.length_take] | rw [List.length_drop])) <;> omega)) fun A125 N125 C125 _ w125 F126 S125 l125 => ?_
         refine ⟨Sd.of (S117.trans (S119.trans (S121.trans (S123.trans S125)))) [5] rfl, ?_⟩
         refine g_take (v := .agg #[.slice A121 N121 C121, .slice A125 N125 C125]) F126 rfl (i := 8) (listed' := #[true, true, true, true, true, true, true, true, true, true, false]) rfl (by kernel_rfl) (by kernel_rfl) (by kernel_rfl) (fun _ _ _ h => h) (Sd.of (S117.trans (S119.trans (S121.trans (S123.trans S125)))) [5] rfl) rfl rfl rfl rfl (fun _ hz => (r_build BI_27 rfl (lc (pr2 (F126.ev 11 rfl)) (lc (pr2 (F126.ev 15 rfl)) rfl)) rfl)) fun _ F127 => ?_
         refine d_one (i := 10) (listed' := #[true, true, true, true, true, true, true, true, true, true, true]) rfl (by kernel_rfl) rfl rfl ?_
         refine s_store S125.at' 2 TI_27 rfl rfl rfl rfl rfl (F127.ev 5 rfl) (F127.ev 16 rfl) rfl rfl rfl rfl rfl fun w128 S128 => ?_
         refine ⟨Sd.of (S117.trans (S119.trans (S121.trans (S123.trans (S125.trans S128))))) [5] rfl, ?_⟩
         refine wpAnyH_done (by kernel_rfl) (x_normal ?_) _
         exact ⟨b119, A121, N121, C121, b123, A125, N125, C125, b117, F127.cut rfl, ((S8.trans (S117.trans (S119.trans (S121.trans (S123.trans (S125.trans S128)))))).pick [3, 4, 5, 2, 1, 0] rfl)⟩
       · skip
         refine f_buildSl (ok := okS) (vs := []) F120 S119.at' (([] : List ByteArray)) ET_25 rfl rfl rfl rfl rfl rfl rfl rfl rfl (by simp) fun b129 _ w129 F130 S129 => ?_
         refine ⟨Sd.of (S117.trans (S119.trans S129)) [5] rfl, ?_⟩
         refine d_one (i := 3) (listed' := #[true, true, true, true, true, true, true, false, false, true, false]) rfl (by kernel_rfl) rfl rfl ?_
         refine f_app (news := a.reads) F130 S129.at' 1 ET_25 rfl rfl rfl rfl rfl rfl (F130.ev 8 rfl) (F130.ev 10 rfl) ((Rd.mq Q1 (S1.trans (S3.trans (S5.trans (S8.trans (S117.trans (S119.trans S129)))))))).1 (by ((repeat (first | rw [List.length_append] | rw [List.length_cons] | rw [List.length_nil] | rw [List.length_take] | rw [List.length_drop])) <;> omega)) fun A131 N131 C131 _ w131 F132 S131 l131 => ?_
         refine ⟨Sd.of (S117.trans (S119.trans (S129.trans S131))) [5] rfl, ?_⟩
         refine d_one (i := 7) (listed' := #[true, true, true, true, true, true, true, true, false, true, false]) rfl (by kernel_rfl) rfl rfl ?_
         refine f_app (news := a.writes) F132 S131.at' 1 ET_25 rfl rfl rfl rfl rfl rfl (F132.ev 12 rfl) (F132.ev 14 rfl) ((Rd.mq Q0 (S1.trans (S3.trans (S5.trans (S8.trans (S117.trans (S119.trans (S129.trans S131))))))))).1 (by ((repeat (first | rw [List.length_append] | rw [List.length_cons] | rw [List.length_nil] | rw [List.length_take] | rw [List.length_drop])) <;> omega)) fun A133 N133 C133 _ w133 F134 S133 l133 => ?_
         refine ⟨Sd.of (S117.trans (S119.trans (S129.trans (S131.trans S133)))) [5] rfl, ?_⟩
         refine g_take (v := .agg #[.slice A131 N131 C131, .slice A133 N133 C133]) F134 rfl (i := 8) (listed' := #[true, true, true, true, true, true, true, true, true, true, false]) rfl (by kernel_rfl) (by kernel_rfl) (by kernel_rfl) (fun _ _ _ h => h) (Sd.of (S117.trans (S119.trans (S129.trans (S131.trans S133)))) [5] rfl) rfl rfl rfl rfl (fun _ hz => (r_build BI_27 rfl (lc (pr2 (F134.ev 11 rfl)) (lc (pr2 (F134.ev 15 rfl)) rfl)) rfl)) fun _ F135 => ?_
         refine d_one (i := 10) (listed' := #[true, true, true, true, true, true, true, true, true, true, true]) rfl (by kernel_rfl) rfl rfl ?_
         refine s_store S133.at' 2 TI_27 rfl rfl rfl rfl rfl (F135.ev 5 rfl) (F135.ev 16 rfl) rfl rfl rfl rfl rfl fun w136 S136 => ?_
         refine ⟨Sd.of (S117.trans (S119.trans (S129.trans (S131.trans (S133.trans S136))))) [5] rfl, ?_⟩
         refine wpAnyH_done (by kernel_rfl) (x_normal ?_) _
         exact ⟨b119, A131, N131, C131, b129, A133, N133, C133, b117, F135.cut rfl, ((S8.trans (S117.trans (S119.trans (S129.trans (S131.trans (S133.trans S136)))))).pick [3, 4, 5, 2, 1, 0] rfl)⟩
     · skip
       refine f_buildSl (ok := okS) (vs := []) F118 S117.at' (([] : List ByteArray)) ET_25 rfl rfl rfl rfl rfl rfl rfl rfl rfl (by simp) fun b137 _ w137 F138 S137 => ?_
       refine ⟨Sd.of (S117.trans S137) [4] rfl, ?_⟩
       refine d_one (i := 0) (listed' := #[true, true, true, false, true, true, true, false, false, true, false]) rfl (by kernel_rfl) rfl rfl ?_
       refine f_buildSl (ok := okS) (vs := []) F138 S137.at' (([] : List ByteArray)) ET_25 rfl rfl rfl rfl rfl rfl rfl rfl rfl (by simp) fun b139 _ w139 F140 S139 => ?_
       refine ⟨Sd.of (S117.trans (S137.trans S139)) [5] rfl, ?_⟩
       refine d_one (i := 3) (listed' := #[true, true, true, true, true, true, true, false, false, true, false]) rfl (by kernel_rfl) rfl rfl ?_
       refine f_app (news := a.reads) F140 S139.at' 0 ET_25 rfl rfl rfl rfl rfl rfl (F140.ev 8 rfl) (F140.ev 10 rfl) ((Rd.mq Q1 (S1.trans (S3.trans (S5.trans (S8.trans (S117.trans (S137.trans S139)))))))).1 (by ((repeat (first | rw [List.length_append] | rw [List.length_cons] | rw [List.length_nil] | rw [List.length_take] | rw [List.length_drop])) <;> omega)) fun A141 N141 C141 _ w141 F142 S141 l141 => ?_
       refine ⟨Sd.of (S117.trans (S137.trans (S139.trans S141))) [5] rfl, ?_⟩
       refine d_one (i := 7) (listed' := #[true, true, true, true, true, true, true, true, false, true, false]) rfl (by kernel_rfl) rfl rfl ?_
       refine f_app (news := a.writes) F142 S141.at' 1 ET_25 rfl rfl rfl rfl rfl rfl (F142.ev 12 rfl) (F142.ev 14 rfl) ((Rd.mq Q0 (S1.trans (S3.trans (S5.trans (S8.trans (S117.trans (S137.trans (S139.trans S141))))))))).1 (by ((repeat (first | rw [List.length_append] | rw [List.length_cons] | rw [List.length_nil] | rw [List.length_take] | rw [List.length_drop])) <;> omega)) fun A143 N143 C143 _ w143 F144 S143 l143 => ?_
       refine ⟨Sd.of (S117.trans (S137.trans (S139.trans (S141.trans S143)))) [5] rfl, ?_⟩
       refine g_take (v := .agg #[.slice A141 N141 C141, .slice A143 N143 C143]) F144 rfl (i := 8) (listed' := #[true, true, true, true, true, true, true, true, true, true, false]) rfl (by kernel_rfl) (by kernel_rfl) (by kernel_rfl) (fun _ _ _ h => h) (Sd.of (S117.trans (S137.trans (S139.trans (S141.trans S143)))) [5] rfl) rfl rfl rfl rfl (fun _ hz => (r_build BI_27 rfl (lc (pr2 (F144.ev 11 rfl)) (lc (pr2 (F144.ev 15 rfl)) rfl)) rfl)) fun _ F145 => ?_
       refine d_one (i := 10) (listed' := #[true, true, true, true, true, true, true, true, true, true, true]) rfl (by kernel_rfl) rfl rfl ?_
       refine s_store S143.at' 2 TI_27 rfl rfl rfl rfl rfl (F145.ev 5 rfl) (F145.ev 16 rfl) rfl rfl rfl rfl rfl fun w146 S146 => ?_
       refine ⟨Sd.of (S117.trans (S137.trans (S139.trans (S141.trans (S143.trans S146))))) [5] rfl, ?_⟩
       refine wpAnyH_done (by kernel_rfl) (x_normal ?_) _
       exact ⟨b139, A141, N141, C141, b137, A143, N143, C143, b117, F145.cut rfl, ((S8.trans (S117.trans (S137.trans (S139.trans (S141.trans (S143.trans S146)))))).pick [3, 4, 5, 2, 1, 0] rfl)⟩
 · rintro a147 w147 ⟨b13, A15, N15, C15, b17, A19, N19, C19, b22, F147, S147⟩
   obtain ⟨Q28, Q30, Q32⟩ := At.ownInv S147.at' ET_25.hk 3 rfl
   obtain ⟨Q29, Q31, Q33⟩ := At.ownInv S147.at' ET_25.hk 4 rfl
   refine x_normal (wp_seq (wp_seq (wp_region_lit (l_op (f_val F147 rfl rfl (r_assign rfl rfl) rfl fun _ F148 => ?_)))))
   refine s_end (x_normal (wp_block ?_))
   have Z150 : Rd 1 encS okS (V H w [bx b5 [.slice none 0 0, .slice none 0 0] 27, bx b3 [.slice b_Ra b_Rn b_Rc, .slice b_Wa b_Wn b_Wc] 27, bx b1 [.slice a_Ra a_Rn a_Rc, .slice a_Wa a_Wn a_Wc] 27, ow 9 1 encS okS (.slice A19 N19 C19) (([] : List ByteArray) ++ a.writes), bx b22 [.slice A15 N15 C15, .slice A19 N19 C19] 27]) w147 (.slice A15 N15 C15) (([] : List ByteArray) ++ a.reads) := At.freeze (S1.trans (S3.trans (S5.trans S147))) ET_25.hk 3 rfl (fun b hb => ((S1.trans (S3.trans (S5.trans S147))).fresh b ⟨_, nth_mem (i := 3) rfl, hb⟩).resolve_left (fps_nil _))
   have S150 := At.drop S147.at' 3
   refine x_loop (fun (k : Nat) aZ wZ => ∃ (ra : Option Addr), ∃ (rn : Nat), ∃ (rc : Nat), Fr 50 [(6, .int .i64 ((k : Nat) : Int)), (3, .pointer (some ⟨b3, 0, none⟩)), (4, .pointer (some ⟨b5, 0, none⟩)), (5, .pointer (some ⟨b22, 0, none⟩))] aZ ∧ Mv [bx b5 [.slice none 0 0, .slice none 0 0] 27, bx b3 [.slice b_Ra b_Rn b_Rc, .slice b_Wa b_Wn b_Wc] 27, bx b1 [.slice a_Ra a_Rn a_Rc, .slice a_Wa a_Wn a_Wc] 27, ow 9 1 encS okS (.slice A19 N19 C19) (([] : List ByteArray) ++ a.writes), bx b22 [.slice A15 N15 C15, .slice A19 N19 C19] 27] w147 [bx b5 [.slice none 0 0, .slice none 0 0] 27, bx b3 [.slice b_Ra b_Rn b_Rc, .slice b_Wa b_Wn b_Wc] 27, bx b1 [.slice a_Ra a_Rn a_Rc, .slice a_Wa a_Wn a_Wc] 27, ow 9 1 encS okS (.slice A19 N19 C19) (([] : List ByteArray) ++ a.writes), bx b22 [.slice ra rn rc, .slice A19 N19 C19] 27] wZ ∧ Rd 1 encS okS (V H w [bx b5 [.slice none 0 0, .slice none 0 0] 27, bx b3 [.slice b_Ra b_Rn b_Rc, .slice b_Wa b_Wn b_Wc] 27, bx b1 [.slice a_Ra a_Rn a_Rc, .slice a_Wa a_Wn a_Wc] 27, ow 9 1 encS okS (.slice A19 N19 C19) (([] : List ByteArray) ++ a.writes), bx b22 [.slice ra rn rc, .slice A19 N19 C19] 27]) wZ (.slice ra rn rc) (joinL a.reads (b.reads.take k)) ∧ (k ≤ b_Rn)) (fun (k : Nat) => b_Rn - k) (0) ?_ ?_
   · exact ⟨A15, N15, C15, F148.cut rfl, (Mv.refl S150.at'), Z150, by omega⟩
   · rintro k a149 w149 ⟨ra, rn, rc, F149, S149, W149_0, h149_0⟩
     obtain ⟨lv149_0, lw149_0, lx149_0, ly149_0⟩ := Rd.inv W149_0
     have jl := joinL_length a.reads (b.reads.take k)
     rw [List.length_take] at jl
     refine wp_seq (wp_seq (wp_region_lit (l_op (f_mv F149 rfl rfl rfl rfl rfl fun _ F151 => ?_))))
     refine l_op (f_val F151 rfl rfl (r_field FI_27_0 rfl (F151.ev 3 rfl) rfl) rfl fun _ F152 => ?_)
     refine l_op (f_val (v := .slice b_Ra b_Rn b_Rc) F152 rfl rfl (r_loadB S149.at' 1 TI_25 rfl rfl (F152.ev 18 rfl) rfl rfl (fun _ => rfl) rfl) rfl fun _ F153 => ?_)
     refine l_op (f_val F153 rfl rfl (r_len Tryz.underlying25 rfl (F153.ev 19 rfl)) rfl fun _ F154 => ?_)
     refine l_op (f_val F154 rfl rfl (r_cmp (b := decide (k < b_Rn)) (.inr (.inr (.inl rfl))) rfl (F154.ev 17 rfl) (F154.ev 20 rfl) (dec_of (by omega))) rfl fun _ F155 => ?_)
     refine s_end (x_normal (x_cond (p := k < b_Rn) (F155.ev 21 rfl) (fun h156 => ?_) (fun h156 => ?_)))
     · skip
       refine wp_skip (x_normal (wp_seq (wp_block ?_)))
       obtain ⟨x1, hx1, okx1⟩ := Rd.elem (Rd.mq Q8 (S1.trans (S3.trans (S5.trans (S147.trans (S150.trans S149)))))) k (by first | assumption | omega)
       refine x_draw (fun aZ wZ => ∃ (Q2 : Option Addr), ∃ (Q6 : Nat), ∃ (Q4 : Nat), Fr 50 [(3, .pointer (some ⟨b3, 0, none⟩)), (4, .pointer (some ⟨b5, 0, none⟩)), (5, .pointer (some ⟨b22, 0, none⟩)), (6, .int .i64 ((k : Nat) : Int))] aZ ∧ Mv [bx b5 [.slice none 0 0, .slice none 0 0] 27, bx b3 [.slice b_Ra b_Rn b_Rc, .slice b_Wa b_Wn b_Wc] 27, bx b1 [.slice a_Ra a_Rn a_Rc, .slice a_Wa a_Wn a_Wc] 27, ow 9 1 encS okS (.slice A19 N19 C19) (([] : List ByteArray) ++ a.writes), bx b22 [.slice ra rn rc, .slice A19 N19 C19] 27] w149 [bx b5 [.slice none 0 0, .slice none 0 0] 27, bx b3 [.slice b_Ra b_Rn b_Rc, .slice b_Wa b_Wn b_Wc] 27, bx b1 [.slice a_Ra a_Rn a_Rc, .slice a_Wa a_Wn a_Wc] 27, ow 9 1 encS okS (.slice A19 N19 C19) (([] : List ByteArray) ++ a.writes), bx b22 [.slice Q2 Q6 Q4, .slice A19 N19 C19] 27] wZ ∧ Rd 1 encS okS (V H w [bx b5 [.slice none 0 0, .slice none 0 0] 27, bx b3 [.slice b_Ra b_Rn b_Rc, .slice b_Wa b_Wn b_Wc] 27, bx b1 [.slice a_Ra a_Rn a_Rc, .slice a_Wa a_Wn a_Wc] 27, ow 9 1 encS okS (.slice A19 N19 C19) (([] : List ByteArray) ++ a.writes), bx b22 [.slice Q2 Q6 Q4, .slice A19 N19 C19] 27]) wZ (.slice Q2 Q6 Q4) (putL (joinL a.reads (b.reads.take k)) x1)) [bx b3 [.slice b_Ra b_Rn b_Rc, .slice b_Wa b_Wn b_Wc] 27] mixed S149.at' (listed := #[false, false, false, false, false, false, false, false, false, false]) rfl (fun w158 S158 => ?_) [1] rfl ?_
       · skip
         refine g_take F155 rfl (i := 0) (listed' := #[true, false, false, false, false, false, false, false, false, false]) rfl (by kernel_rfl) (by kernel_rfl) (by kernel_rfl) (fun _ _ _ h => h) (Sd.of (Mv.refl S158.at') [1] rfl) rfl rfl rfl rfl (fun _ hz => (r_field FI_27_0 rfl (F155.ev 5 rfl) rfl)) fun _ F159 => ?_
         refine g_take F159 rfl (i := 2) (listed' := #[true, false, true, false, false, false, false, false, false, false]) rfl (by kernel_rfl) (by kernel_rfl) (by kernel_rfl) (fun _ _ _ h => h) (Sd.of (Mv.refl S158.at') [1] rfl) rfl rfl rfl rfl (fun _ hz => (r_field FI_27_0 rfl (F159.ev 3 rfl) rfl)) fun _ F160 => ?_
         refine g_take (v := .slice b_Ra b_Rn b_Rc) F160 rfl (i := 3) (listed' := #[true, false, true, true, false, false, false, false, false, false]) rfl (by kernel_rfl) (by kernel_rfl) (by kernel_rfl) (fun _ _ _ h => h) (Sd.of (Mv.refl S158.at') [1] rfl) rfl rfl rfl rfl (fun _ hz => (r_loadX (hz.bx 0 rfl) TI_25 rfl (F160.ev 26 rfl) rfl rfl (fun _ => rfl) rfl)) fun _ F161 => ?_
         refine g_take F161 rfl (i := 4) (listed' := #[true, false, true, true, true, false, false, false, false, false]) rfl (by kernel_rfl) (by kernel_rfl) (by kernel_rfl) (fun _ _ _ h => h) (Sd.of (Mv.refl S158.at') [1] rfl) rfl rfl rfl rfl (fun _ hz => (r_move rfl (F161.ev 6 rfl))) fun _ F162 => ?_
         obtain ⟨B163, O163, y163, ad163, hy163, oky163, ln163, cl163⟩ := Rd.atK (Nat.succ_pos _) (Rd.mq Q8 (S1.trans (S3.trans (S5.trans (S147.trans (S150.trans (S149.trans S158))))))) k (by first | assumption | omega)
         clear ln163
         obtain rfl := Option.some.inj (hx1.symm.trans hy163)
         clear hy163 oky163
         refine g_take F162 rfl (i := 5) (listed' := #[true, false, true, true, true, true, false, false, false, false]) rfl (by kernel_rfl) (by kernel_rfl) (by kernel_rfl) (fun _ _ _ h => h) (Sd.of (Mv.refl S158.at') [1] rfl) rfl rfl rfl rfl (fun _ hz => (r_indexAddr (i := k) ET_25 rfl ((F162.ev 27 rfl).trans (by rw [ad163])) (F162.ev 28 rfl) (by omega) (by first | assumption | omega))) fun _ F164 => ?_
         refine g_take (v := .string x1) F164 rfl (i := 6) (listed' := #[true, false, true, true, true, true, true, false, false, false]) rfl (by kernel_rfl) (by kernel_rfl) (by kernel_rfl) (fun _ _ _ h => h) (Sd.of (Mv.refl S158.at') [1] rfl) rfl rfl rfl rfl (fun _ hz => (r_load (cs := [.string x1]) TI_9 rfl (F164.ev 29 rfl) rfl (fun _ => rfl) (elem_sub (f := 0) (cl163 _ hz.kp) [.string x1] rfl))) fun _ F165 => ?_
         refine d_one (i := 1) (listed' := #[true, true, true, true, true, true, true, false, false, false]) rfl (by kernel_rfl) rfl rfl ?_
         refine f_val (v := .slice ra rn rc) F165 rfl rfl (r_loadB S158.at' 4 TI_25 rfl rfl (F165.ev 24 rfl) rfl rfl (fun _ => rfl) rfl) rfl fun _ F166 => ?_
         refine ⟨Sd.of (Mv.refl S158.at') [1] rfl, ?_⟩
         refine d_one (i := 7) (listed' := #[true, true, true, true, true, true, true, true, false, false]) rfl (by kernel_rfl) rfl rfl ?_
         refine f_call F166 CF_96 rfl rfl rfl rfl (lc (F166.ev 25 rfl) (lc (F166.ev 30 rfl) rfl)) (spec_AddSpan_c (list := joinL a.reads (b.reads.take k)) (span := x1) (Rd.mq W149_0 S158) okx1 (by first | assumption | omega | (simp <;> omega))) ?_
         rintro _ w167 ⟨Q2, Q6, Q4, rfl, m167, v167_0⟩
         refine ⟨_, rfl, fun _ F168 => ?_⟩
         have S167 := At.frame0 S158.at' m167
         have V167_0 := Rd.got0 S158.at' ((S1.trans (S3.trans (S5.trans (S147.trans (S150.trans (S149.trans S158)))))).kp.size) v167_0 S167
         obtain ⟨ln167_0, le167_0, mx167_0, ni167_0⟩ := Rd.inv V167_0
         clear m167 v167_0
         refine ⟨Sd.of S167 [1] rfl, ?_⟩
         refine g_take F168 rfl (i := 8) (listed' := #[true, true, true, true, true, true, true, true, true, false]) rfl (by kernel_rfl) (by kernel_rfl) (by kernel_rfl) (fun _ _ _ h => h) (Sd.of S167 [1] rfl) rfl rfl rfl rfl (fun _ hz => (r_field FI_27_0 rfl (F168.ev 5 rfl) rfl)) fun _ F169 => ?_
         refine d_one (i := 9) (listed' := #[true, true, true, true, true, true, true, true, true, true]) rfl (by kernel_rfl) rfl rfl ?_
         refine s_store S167.at' 4 TI_25 rfl rfl rfl rfl rfl (F169.ev 32 rfl) (F169.ev 31 rfl) rfl rfl rfl rfl rfl fun w170 S170 => ?_
         refine ⟨Sd.of (S167.trans S170) [2] rfl, ?_⟩
         refine wpAnyH_done (by kernel_rfl) (x_normal ?_) _
         exact ⟨Q2, Q6, Q4, F169.cut rfl, ((S158.trans (S167.trans S170)).pick [1, 2, 3, 4, 0] rfl), (Rd.mq (Rd.mq V167_0 S170) (Mv.pick (Mv.refl S170.at') [1, 2, 3, 4, 0] rfl))⟩
       · rintro a171 w171 ⟨Q2, Q6, Q4, F171, S171, V171_0⟩
         obtain ⟨ln171_0, le171_0, mx171_0, ni171_0⟩ := Rd.inv V171_0
         refine x_block_normal (x_normal (wp_region_lit (l_op (f_mv F171 rfl rfl rfl rfl rfl fun _ F172 => ?_))))
         refine l_op (f_val F172 rfl rfl (r_add (z := ((k + 1 : Nat) : Int)) rfl (F172.ev 22 rfl) rfl (by first | rfl | omega) ⟨by first | omega | (unfold i64ok at *; omega), by first | omega | (unfold i64ok at *; omega)⟩) rfl fun _ F173 => ?_)
         refine l_op (f_as F173 rfl rfl rfl rfl rfl fun _ F174 => ?_)
         refine s_end ?_
         refine x_normal ⟨k + 1, by omega, Q2, Q6, Q4, F174.cut rfl, ((S149.trans S171).pick [0, 1, 2, 3, 4] rfl), (Rd.cast V171_0 (by exact (joinL_step hx1).symm)), by omega⟩
     · skip
       refine wp_exit (x_then_exit (x_then_exit (x_block_here (x_normal (wp_seq (wp_seq (wp_region_lit (l_op (f_val F155 rfl rfl (r_assign rfl rfl) rfl fun _ F175 => ?_)))))))))
       refine s_end (x_normal (wp_block ?_))
       have Z177 : Rd 1 encS okS (V H w [bx b5 [.slice none 0 0, .slice none 0 0] 27, bx b3 [.slice b_Ra b_Rn b_Rc, .slice b_Wa b_Wn b_Wc] 27, bx b1 [.slice a_Ra a_Rn a_Rc, .slice a_Wa a_Wn a_Wc] 27, bx b22 [.slice ra rn rc, .slice A19 N19 C19] 27]) w149 (.slice A19 N19 C19) (([] : List ByteArray) ++ a.writes) := At.freeze (S1.trans (S3.trans (S5.trans (S147.trans (S150.trans S149))))) ET_25.hk 3 rfl (fun b hb => ((S1.trans (S3.trans (S5.trans (S147.trans (S150.trans S149))))).fresh b ⟨_, nth_mem (i := 3) rfl, hb⟩).resolve_left (fps_nil _))
       have S177 := At.drop S149.at' 3
       refine x_loop (fun (j : Nat) aZ wZ => ∃ (ua : Option Addr), ∃ (un : Nat), ∃ (uc : Nat), Fr 50 [(7, .int .i64 ((j : Nat) : Int)), (3, .pointer (some ⟨b3, 0, none⟩)), (4, .pointer (some ⟨b5, 0, none⟩)), (5, .pointer (some ⟨b22, 0, none⟩))] aZ ∧ Mv [bx b5 [.slice none 0 0, .slice none 0 0] 27, bx b3 [.slice b_Ra b_Rn b_Rc, .slice b_Wa b_Wn b_Wc] 27, bx b1 [.slice a_Ra a_Rn a_Rc, .slice a_Wa a_Wn a_Wc] 27, bx b22 [.slice ra rn rc, .slice A19 N19 C19] 27] w149 [bx b5 [.slice none 0 0, .slice none 0 0] 27, bx b3 [.slice b_Ra b_Rn b_Rc, .slice b_Wa b_Wn b_Wc] 27, bx b1 [.slice a_Ra a_Rn a_Rc, .slice a_Wa a_Wn a_Wc] 27, bx b22 [.slice ra rn rc, .slice ua un uc] 27] wZ ∧ Rd 1 encS okS (V H w [bx b5 [.slice none 0 0, .slice none 0 0] 27, bx b3 [.slice b_Ra b_Rn b_Rc, .slice b_Wa b_Wn b_Wc] 27, bx b1 [.slice a_Ra a_Rn a_Rc, .slice a_Wa a_Wn a_Wc] 27, bx b22 [.slice ra rn rc, .slice ua un uc] 27]) wZ (.slice ua un uc) (joinL a.writes (b.writes.take j)) ∧ (j ≤ b_Wn)) (fun (j : Nat) => b_Wn - j) (0) ?_ ?_
       · exact ⟨A19, N19, C19, F175.cut rfl, (Mv.refl S177.at'), Z177, by omega⟩
       · rintro j a176 w176 ⟨ua, un, uc, F176, S176, W176_0, h176_0⟩
         obtain ⟨lv176_0, lw176_0, lx176_0, ly176_0⟩ := Rd.inv W176_0
         have jl := joinL_length a.writes (b.writes.take j)
         rw [List.length_take] at jl
         refine wp_seq (wp_seq (wp_region_lit (l_op (f_mv F176 rfl rfl rfl rfl rfl fun _ F178 => ?_))))
         refine l_op (f_val F178 rfl rfl (r_field FI_27_1 rfl (F178.ev 3 rfl) rfl) rfl fun _ F179 => ?_)
         refine l_op (f_val (v := .slice b_Wa b_Wn b_Wc) F179 rfl rfl (r_loadB S176.at' 1 TI_25 rfl rfl (F179.ev 34 rfl) rfl rfl (fun _ => rfl) rfl) rfl fun _ F180 => ?_)
         refine l_op (f_val F180 rfl rfl (r_len Tryz.underlying25 rfl (F180.ev 35 rfl)) rfl fun _ F181 => ?_)
         refine l_op (f_val F181 rfl rfl (r_cmp (b := decide (j < b_Wn)) (.inr (.inr (.inl rfl))) rfl (F181.ev 33 rfl) (F181.ev 36 rfl) (dec_of (by omega))) rfl fun _ F182 => ?_)
         refine s_end (x_normal (x_cond (p := j < b_Wn) (F182.ev 37 rfl) (fun h183 => ?_) (fun h183 => ?_)))
         · skip
           refine wp_skip (x_normal (wp_seq (wp_block ?_)))
           obtain ⟨x1, hx1, okx1⟩ := Rd.elem (Rd.mq Q9 (S1.trans (S3.trans (S5.trans (S147.trans (S150.trans (S149.trans (S177.trans S176)))))))) j (by first | assumption | omega)
           refine x_draw (fun aZ wZ => ∃ (Q3 : Option Addr), ∃ (Q7 : Nat), ∃ (Q5 : Nat), Fr 50 [(3, .pointer (some ⟨b3, 0, none⟩)), (4, .pointer (some ⟨b5, 0, none⟩)), (5, .pointer (some ⟨b22, 0, none⟩)), (7, .int .i64 ((j : Nat) : Int))] aZ ∧ Mv [bx b5 [.slice none 0 0, .slice none 0 0] 27, bx b3 [.slice b_Ra b_Rn b_Rc, .slice b_Wa b_Wn b_Wc] 27, bx b1 [.slice a_Ra a_Rn a_Rc, .slice a_Wa a_Wn a_Wc] 27, bx b22 [.slice ra rn rc, .slice ua un uc] 27] w176 [bx b5 [.slice none 0 0, .slice none 0 0] 27, bx b3 [.slice b_Ra b_Rn b_Rc, .slice b_Wa b_Wn b_Wc] 27, bx b1 [.slice a_Ra a_Rn a_Rc, .slice a_Wa a_Wn a_Wc] 27, bx b22 [.slice ra rn rc, .slice Q3 Q7 Q5] 27] wZ ∧ Rd 1 encS okS (V H w [bx b5 [.slice none 0 0, .slice none 0 0] 27, bx b3 [.slice b_Ra b_Rn b_Rc, .slice b_Wa b_Wn b_Wc] 27, bx b1 [.slice a_Ra a_Rn a_Rc, .slice a_Wa a_Wn a_Wc] 27, bx b22 [.slice ra rn rc, .slice Q3 Q7 Q5] 27]) wZ (.slice Q3 Q7 Q5) (putL (joinL a.writes (b.writes.take j)) x1)) [bx b3 [.slice b_Ra b_Rn b_Rc, .slice b_Wa b_Wn b_Wc] 27] mixed S176.at' (listed := #[false, false, false, false, false, false, false, false, false, false]) rfl (fun w185 S185 => ?_) [1] rfl ?_
           · skip
             refine g_take F182 rfl (i := 0) (listed' := #[true, false, false, false, false, false, false, false, false, false]) rfl (by kernel_rfl) (by kernel_rfl) (by kernel_rfl) (fun _ _ _ h => h) (Sd.of (Mv.refl S185.at') [1] rfl) rfl rfl rfl rfl (fun _ hz => (r_field FI_27_1 rfl (F182.ev 5 rfl) rfl)) fun _ F186 => ?_
             refine g_take F186 rfl (i := 2) (listed' := #[true, false, true, false, false, false, false, false, false, false]) rfl (by kernel_rfl) (by kernel_rfl) (by kernel_rfl) (fun _ _ _ h => h) (Sd.of (Mv.refl S185.at') [1] rfl) rfl rfl rfl rfl (fun _ hz => (r_field FI_27_1 rfl (F186.ev 3 rfl) rfl)) fun _ F187 => ?_
             refine g_take (v := .slice b_Wa b_Wn b_Wc) F187 rfl (i := 3) (listed' := #[true, false, true, true, false, false, false, false, false, false]) rfl (by kernel_rfl) (by kernel_rfl) (by kernel_rfl) (fun _ _ _ h => h) (Sd.of (Mv.refl S185.at') [1] rfl) rfl rfl rfl rfl (fun _ hz => (r_loadX (hz.bx 0 rfl) TI_25 rfl (F187.ev 42 rfl) rfl rfl (fun _ => rfl) rfl)) fun _ F188 => ?_
             refine g_take F188 rfl (i := 4) (listed' := #[true, false, true, true, true, false, false, false, false, false]) rfl (by kernel_rfl) (by kernel_rfl) (by kernel_rfl) (fun _ _ _ h => h) (Sd.of (Mv.refl S185.at') [1] rfl) rfl rfl rfl rfl (fun _ hz => (r_move rfl (F188.ev 7 rfl))) fun _ F189 => ?_
             obtain ⟨B190, O190, y190, ad190, hy190, oky190, ln190, cl190⟩ := Rd.atK (Nat.succ_pos _) (Rd.mq Q9 (S1.trans (S3.trans (S5.trans (S147.trans (S150.trans (S149.trans (S177.trans (S176.trans S185))))))))) j (by first | assumption | omega)
             clear ln190
             obtain rfl := Option.some.inj (hx1.symm.trans hy190)
             clear hy190 oky190
             refine g_take F189 rfl (i := 5) (listed' := #[true, false, true, true, true, true, false, false, false, false]) rfl (by kernel_rfl) (by kernel_rfl) (by kernel_rfl) (fun _ _ _ h => h) (Sd.of (Mv.refl S185.at') [1] rfl) rfl rfl rfl rfl (fun _ hz => (r_indexAddr (i := j) ET_25 rfl ((F189.ev 43 rfl).trans (by rw [ad190])) (F189.ev 44 rfl) (by omega) (by first | assumption | omega))) fun _ F191 => ?_
             refine g_take (v := .string x1) F191 rfl (i := 6) (listed' := #[true, false, true, true, true, true, true, false, false, false]) rfl (by kernel_rfl) (by kernel_rfl) (by kernel_rfl) (fun _ _ _ h => h) (Sd.of (Mv.refl S185.at') [1] rfl) rfl rfl rfl rfl (fun _ hz => (r_load (cs := [.string x1]) TI_9 rfl (F191.ev 45 rfl) rfl (fun _ => rfl) (elem_sub (f := 0) (cl190 _ hz.kp) [.string x1] rfl))) fun _ F192 => ?_
             refine d_one (i := 1) (listed' := #[true, true, true, true, true, true, true, false, false, false]) rfl (by kernel_rfl) rfl rfl ?_
             refine f_val (v := .slice ua un uc) F192 rfl rfl (r_loadB S185.at' 3 TI_25 rfl rfl (F192.ev 40 rfl) rfl rfl (fun _ => rfl) rfl) rfl fun _ F193 => ?_
             refine ⟨Sd.of (Mv.refl S185.at') [1] rfl, ?_⟩
             refine d_one (i := 7) (listed' := #[true, true, true, true, true, true, true, true, false, false]) rfl (by kernel_rfl) rfl rfl ?_
             refine f_call F193 CF_96 rfl rfl rfl rfl (lc (F193.ev 41 rfl) (lc (F193.ev 46 rfl) rfl)) (spec_AddSpan_c (list := joinL a.writes (b.writes.take j)) (span := x1) (Rd.mq W176_0 S185) okx1 (by first | assumption | omega | (simp <;> omega))) ?_
             rintro _ w194 ⟨Q3, Q7, Q5, rfl, m194, v194_0⟩
             refine ⟨_, rfl, fun _ F195 => ?_⟩
             have S194 := At.frame0 S185.at' m194
             have V194_0 := Rd.got0 S185.at' ((S1.trans (S3.trans (S5.trans (S147.trans (S150.trans (S149.trans (S177.trans (S176.trans S185)))))))).kp.size) v194_0 S194
             obtain ⟨ln194_0, le194_0, mx194_0, ni194_0⟩ := Rd.inv V194_0
             clear m194 v194_0
             refine ⟨Sd.of S194 [1] rfl, ?_⟩
             refine g_take F195 rfl (i := 8) (listed' := #[true, true, true, true, true, true, true, true, true, false]) rfl (by kernel_rfl) (by kernel_rfl) (by kernel_rfl) (fun _ _ _ h => h) (Sd.of S194 [1] rfl) rfl rfl rfl rfl (fun _ hz => (r_field FI_27_1 rfl (F195.ev 5 rfl) rfl)) fun _ F196 => ?_
             refine d_one (i := 9) (listed' := #[true, true, true, true, true, true, true, true, true, true]) rfl (by kernel_rfl) rfl rfl ?_
             refine s_store S194.at' 3 TI_25 rfl rfl rfl rfl rfl (F196.ev 48 rfl) (F196.ev 47 rfl) rfl rfl rfl rfl rfl fun w197 S197 => ?_
             refine ⟨Sd.of (S194.trans S197) [2] rfl, ?_⟩
             refine wpAnyH_done (by kernel_rfl) (x_normal ?_) _
             exact ⟨Q3, Q7, Q5, F196.cut rfl, ((S185.trans (S194.trans S197)).pick [1, 2, 3, 0] rfl), (Rd.mq (Rd.mq V194_0 S197) (Mv.pick (Mv.refl S197.at') [1, 2, 3, 0] rfl))⟩
           · rintro a198 w198 ⟨Q3, Q7, Q5, F198, S198, V198_0⟩
             obtain ⟨ln198_0, le198_0, mx198_0, ni198_0⟩ := Rd.inv V198_0
             refine x_block_normal (x_normal (wp_region_lit (l_op (f_mv F198 rfl rfl rfl rfl rfl fun _ F199 => ?_))))
             refine l_op (f_val F199 rfl rfl (r_add (z := ((j + 1 : Nat) : Int)) rfl (F199.ev 38 rfl) rfl (by first | rfl | omega) ⟨by first | omega | (unfold i64ok at *; omega), by first | omega | (unfold i64ok at *; omega)⟩) rfl fun _ F200 => ?_)
             refine l_op (f_as F200 rfl rfl rfl rfl rfl fun _ F201 => ?_)
             refine s_end ?_
             refine x_normal ⟨j + 1, by omega, Q3, Q7, Q5, F201.cut rfl, ((S176.trans S198).pick [0, 1, 2, 3] rfl), (Rd.cast V198_0 (by exact (joinL_step hx1).symm)), by omega⟩
         · skip
           refine wp_exit (x_then_exit (x_then_exit (x_block_here (x_normal (wp_seq (wp_region_lit (l_op (f_val (v := .agg #[.slice ra rn rc, .slice ua un uc]) F182 rfl rfl (r_loadB S176.at' 3 TI_27 rfl rfl (F182.ev 5 rfl) rfl rfl (fun h => nomatch h) rfl) rfl fun _ F202 => ?_))))))))
           refine l_op (s_store S176.at' 0 TI_27 rfl rfl rfl rfl rfl (F202.ev 4 rfl) (F202.ev 49 rfl) rfl rfl rfl rfl rfl fun w203 S203 => ?_)
           have T204 : Mv _ _ [bx b5 [.slice ra rn rc, .slice ua un uc] 27, bx b3 [.slice b_Ra b_Rn b_Rc, .slice b_Wa b_Wn b_Wc] 27, bx b1 [.slice a_Ra a_Rn a_Rc, .slice a_Wa a_Wn a_Wc] 27, bx b22 [.slice ra rn rc, .slice ua un uc] 27] _ := S203
           refine s_end (x_normal (wp_ret ?_))
           refine x_done (v := .agg #[.slice ra rn rc, .slice ua un uc]) F202 (results_1 Tryz.results79 (.cell (F202.ev 4 rfl) (run_loadVar' TI_27 _ [.slice ra rn rc, .slice ua un uc] rfl (fun h => nomatch h) (At.cells T204.at' 0 rfl 0 [.slice ra rn rc, .slice ua un uc] rfl)))) ?_
           exact ⟨ra, rn, rc, ua, un, uc, rfl, (Mv.pick (S1.trans (S3.trans (S5.trans (S147.trans (S150.trans (S149.trans (S177.trans (S176.trans T204)))))))) [] rfl), (Rd.cast (Rd.give (Rd.mq W149_0 (S177.trans (S176.trans T204)))) (show (joinL a.reads (b.reads.take k)) = (joinT a b).reads from by unfold joinT; dsimp only; congr 1; exact List.take_of_length_le (by omega))), (Rd.cast (Rd.give (Rd.mq W176_0 T204)) (show (joinL a.writes (b.writes.take j)) = (joinT a b).writes from by unfold joinT; dsimp only; congr 1; exact List.take_of_length_le (by omega)))⟩
theorem spec_l04Copy_c {w : World} {H : Nat → Prop} {m : MachD} {m_Sa : Option Addr} {m_Sn m_Sc : Nat} {m_Ra : Option Addr} {m_Rn m_Rc : Nat} {m_Wa : Option Addr} {m_Wn m_Wc : Nat} (Q15 : Rd 2 encC okC H w (.slice m_Sa m_Sn m_Sc) m.store) (Q16 : Rd 1 encS okS H w (.slice m_Ra m_Rn m_Rc) m.touch.reads) (Q17 : Rd 1 encS okS H w (.slice m_Wa m_Wn m_Wc) m.touch.writes) (p0 : m.store.length ≤ 274877906944) (p1 : m.touch.reads.length ≤ 274877906944) (p2 : m.touch.writes.length ≤ 274877906944) :
    Calls Tryz.prog 42 #[.agg #[.slice m_Sa m_Sn m_Sc, .slice m_Ra m_Rn m_Rc, .slice m_Wa m_Wn m_Wc]] w fun e w' => ∃ (Q9 : Option Addr), ∃ (Q11 : Nat), ∃ (Q10 : Nat), ∃ (Q6 : Option Addr), ∃ (Q8 : Nat), ∃ (Q7 : Nat), ∃ (Q12 : Option Addr), ∃ (Q14 : Nat), ∃ (Q13 : Nat), e = .returned (.agg #[.slice Q9 Q11 Q10, .slice Q6 Q8 Q7, .slice Q12 Q14 Q13]) ∧ Mv [] w [] w' ∧ Rd 2 encC okC (Fsh H w) w' (.slice Q9 Q11 Q10) m.store ∧ Rd 1 encS okS (Fsh H w) w' (.slice Q6 Q8 Q7) m.touch.reads ∧ Rd 1 encS okS (Fsh H w) w' (.slice Q12 Q14 Q13) m.touch.writes := by
 have uU : True := (fun _ _ _ => trivial) p0 p1 p2
 clear uU
 have Q18 : Rd 2 encC okC (V H w []) w (.slice m_Sa m_Sn m_Sc) m.store := Rd.start Q15 (fun _ _ => fps_nil _)
 obtain ⟨Q24, Q21, Q30, Q33⟩ := Rd.inv Q15
 have Q19 : Rd 1 encS okS (V H w []) w (.slice m_Ra m_Rn m_Rc) m.touch.reads := Rd.start Q16 (fun _ _ => fps_nil _)
 obtain ⟨Q25, Q22, Q31, Q34⟩ := Rd.inv Q16
 have Q20 : Rd 1 encS okS (V H w []) w (.slice m_Wa m_Wn m_Wc) m.touch.writes := Rd.start Q17 (fun _ _ => fps_nil _)
 obtain ⟨Q26, Q23, Q32, Q35⟩ := Rd.inv Q17
 refine calls_enter 12 Tryz.func42 rfl Tryz.ntmps42 (Nat.le_of_ble_eq_true rfl) (fun _ F0i => ?_)
 have F0 : Fr 12 [(0, .agg #[.slice m_Sa m_Sn m_Sc, .slice m_Ra m_Rn m_Rc, .slice m_Wa m_Wn m_Wc])] _ := F0i
 clear F0i
 refine wp_seq (wp_region_lit (l_op (f_box F0 (At.nil w) rfl rfl rfl (F0.ev 0 rfl) rfl rfl fun b1 _ w1 F2 S1 => ?_)))
 refine l_op (f_alloc F2 S1.at' ZI_29 rfl rfl rfl rfl rfl fun b3 _ w3 F4 S3 => ?_)
 refine s_end (x_normal (wp_seq ?_))
 refine x_draw (fun aZ wZ => ∃ (b12 : Nat), ∃ (A14 : Option Addr), ∃ (N14 : Nat), ∃ (C14 : Nat), ∃ (Q0 : Option Addr), ∃ (Q2 : Nat), ∃ (Q1 : Nat), ∃ (Q3 : Option Addr), ∃ (Q5 : Nat), ∃ (Q4 : Nat), Fr 12 [(2, .pointer (some ⟨b3, 0, none⟩))] aZ ∧ Mv [bx b3 [.slice none 0 0, .slice none 0 0, .slice none 0 0] 29, bx b1 [.slice m_Sa m_Sn m_Sc, .slice m_Ra m_Rn m_Rc, .slice m_Wa m_Wn m_Wc] 29] w3 [bx b3 [.slice A14 N14 C14, .slice Q0 Q2 Q1, .slice Q3 Q5 Q4] 29, bx b1 [.slice m_Sa m_Sn m_Sc, .slice m_Ra m_Rn m_Rc, .slice m_Wa m_Wn m_Wc] 29, ow 73 2 encC okC (.slice A14 N14 C14) (([] : List CellD) ++ m.store)] wZ ∧ Rd 1 encS okS (V H w [bx b3 [.slice A14 N14 C14, .slice Q0 Q2 Q1, .slice Q3 Q5 Q4] 29, bx b1 [.slice m_Sa m_Sn m_Sc, .slice m_Ra m_Rn m_Rc, .slice m_Wa m_Wn m_Wc] 29, ow 73 2 encC okC (.slice A14 N14 C14) (([] : List CellD) ++ m.store)]) wZ (.slice Q0 Q2 Q1) (joinT m.touch (⟨[], []⟩ : TouchD)).reads ∧ Rd 1 encS okS (V H w [bx b3 [.slice A14 N14 C14, .slice Q0 Q2 Q1, .slice Q3 Q5 Q4] 29, bx b1 [.slice m_Sa m_Sn m_Sc, .slice m_Ra m_Rn m_Rc, .slice m_Wa m_Wn m_Wc] 29, ow 73 2 encC okC (.slice A14 N14 C14) (([] : List CellD) ++ m.store)]) wZ (.slice Q3 Q5 Q4) (joinT m.touch (⟨[], []⟩ : TouchD)).writes) [bx b1 [.slice m_Sa m_Sn m_Sc, .slice m_Ra m_Rn m_Rc, .slice m_Wa m_Wn m_Wc] 29] mixed S3.at' (listed := #[false, false, false, false, false, false, false, false, false, false]) rfl (fun w6 S6 => ?_) [1] rfl ?_
 · skip
   refine g_take F4 rfl (i := 1) (listed' := #[false, true, false, false, false, false, false, false, false, false]) rfl (by kernel_rfl) (by kernel_rfl) (by kernel_rfl) (fun _ _ _ h => h) (Sd.of (Mv.refl S6.at') [1] rfl) rfl rfl rfl rfl (fun _ hz => (r_field FI_29_0 rfl (F4.ev 1 rfl) rfl)) fun _ F7 => ?_
   refine g_take (v := .slice m_Sa m_Sn m_Sc) F7 rfl (i := 2) (listed' := #[false, true, true, false, false, false, false, false, false, false]) rfl (by kernel_rfl) (by kernel_rfl) (by kernel_rfl) (fun _ _ _ h => h) (Sd.of (Mv.refl S6.at') [1] rfl) rfl rfl rfl rfl (fun _ hz => (r_loadX (hz.bx 0 rfl) TI_24 rfl (F7.ev 4 rfl) rfl rfl (fun _ => rfl) rfl)) fun _ F8 => ?_
   refine g_take F8 rfl (i := 4) (listed' := #[false, true, true, false, true, false, false, false, false, false]) rfl (by kernel_rfl) (by kernel_rfl) (by kernel_rfl) (fun _ _ _ h => h) (Sd.of (Mv.refl S6.at') [1] rfl) rfl rfl rfl rfl (fun _ hz => (r_field FI_29_1 rfl (F8.ev 1 rfl) rfl)) fun _ F9 => ?_
   refine g_take (v := .agg #[.slice m_Ra m_Rn m_Rc, .slice m_Wa m_Wn m_Wc]) F9 rfl (i := 5) (listed' := #[false, true, true, false, true, true, false, false, false, false]) rfl (by kernel_rfl) (by kernel_rfl) (by kernel_rfl) (fun _ _ _ h => h) (Sd.of (Mv.refl S6.at') [1] rfl) rfl rfl rfl rfl (fun _ hz => (r_loadX (hz.bx 0 rfl) TI_27 rfl (F9.ev 7 rfl) rfl rfl (fun h => nomatch h) rfl)) fun _ F10 => ?_
   refine g_take (v := .agg #[.slice none 0 0, .slice none 0 0]) F10 rfl (i := 6) (listed' := #[false, true, true, false, true, true, true, false, false, false]) rfl (by kernel_rfl) (by kernel_rfl) (by kernel_rfl) (fun _ _ _ h => h) (Sd.of (Mv.refl S6.at') [1] rfl) rfl rfl rfl rfl (fun _ hz => (r_build BI_27 rfl rfl rfl)) fun _ F11 => ?_
   refine d_one (i := 0) (listed' := #[true, true, true, false, true, true, true, false, false, false]) rfl (by kernel_rfl) rfl rfl ?_
   refine f_buildSl (ok := okC) (vs := []) F11 S6.at' (([] : List CellD)) ET_24 rfl rfl rfl rfl rfl rfl rfl rfl rfl (by simp) fun b12 _ w12 F13 S12 => ?_
   refine ⟨Sd.of S12 [2] rfl, ?_⟩
   refine d_one (i := 3) (listed' := #[true, true, true, true, true, true, true, false, false, false]) rfl (by kernel_rfl) rfl rfl ?_
   refine f_app (news := m.store) F13 S12.at' 0 ET_24 rfl rfl rfl rfl rfl rfl (F13.ev 3 rfl) (F13.ev 5 rfl) ((Rd.mq Q18 (S1.trans (S3.trans (S6.trans S12))))).1 (by ((repeat (first | rw [List.length_append] | rw [List.length_cons] | rw [List.length_nil] | rw [List.length_take] | rw [List.length_drop])) <;> omega)) fun A14 N14 C14 _ w14 F15 S14 l14 => ?_
   refine ⟨Sd.of (S12.trans S14) [2] rfl, ?_⟩
   refine d_one (i := 7) (listed' := #[true, true, true, true, true, true, true, true, false, false]) rfl (by kernel_rfl) rfl rfl ?_
   refine f_call F15 CF_79 rfl rfl rfl rfl (lc (F15.ev 8 rfl) (lc (F15.ev 9 rfl) rfl)) (spec_JoinTouch_c (a := m.touch) (b := (⟨[], []⟩ : TouchD)) (Rd.mq Q19 (S1.trans (S3.trans (S6.trans (S12.trans S14))))) (Rd.mq Q20 (S1.trans (S3.trans (S6.trans (S12.trans S14))))) Rd.nil Rd.nil (by first | assumption | omega | (simp <;> omega)) (by first | assumption | omega | (simp <;> omega)) (by first | assumption | omega | (simp <;> omega)) (by first | assumption | omega | (simp <;> omega))) ?_
   rintro _ w16 ⟨Q0, Q2, Q1, Q3, Q5, Q4, rfl, m16, v16_0, v16_1⟩
   refine ⟨_, rfl, fun _ F17 => ?_⟩
   have S16 := At.frame0 S14.at' m16
   have V16_0 := Rd.got0 S14.at' ((S1.trans (S3.trans (S6.trans (S12.trans S14)))).kp.size) v16_0 S16
   obtain ⟨ln16_0, le16_0, mx16_0, ni16_0⟩ := Rd.inv V16_0
   have V16_1 := Rd.got0 S14.at' ((S1.trans (S3.trans (S6.trans (S12.trans S14)))).kp.size) v16_1 S16
   obtain ⟨ln16_1, le16_1, mx16_1, ni16_1⟩ := Rd.inv V16_1
   clear m16 v16_0 v16_1
   refine ⟨Sd.of (S12.trans (S14.trans S16)) [2] rfl, ?_⟩
   refine g_take (v := .agg #[.slice A14 N14 C14, .slice Q0 Q2 Q1, .slice Q3 Q5 Q4]) F17 rfl (i := 8) (listed' := #[true, true, true, true, true, true, true, true, true, false]) rfl (by kernel_rfl) (by kernel_rfl) (by kernel_rfl) (fun _ _ _ h => h) (Sd.of (S12.trans (S14.trans S16)) [2] rfl) rfl rfl rfl rfl (fun _ hz => (r_build BI_29 rfl (lc (pr2 (F17.ev 6 rfl)) (lc (pr2 (F17.ev 10 rfl)) rfl)) rfl)) fun _ F18 => ?_
   refine d_one (i := 9) (listed' := #[true, true, true, true, true, true, true, true, true, true]) rfl (by kernel_rfl) rfl rfl ?_
   refine s_store S16.at' 1 TI_29 rfl rfl rfl rfl rfl (F18.ev 2 rfl) (F18.ev 11 rfl) rfl rfl rfl rfl rfl fun w19 S19 => ?_
   refine ⟨Sd.of (S12.trans (S14.trans (S16.trans S19))) [2] rfl, ?_⟩
   refine wpAnyH_done (by kernel_rfl) (x_normal ?_) _
   exact ⟨b12, A14, N14, C14, Q0, Q2, Q1, Q3, Q5, Q4, F18.cut rfl, ((S6.trans (S12.trans (S14.trans (S16.trans S19)))).pick [0, 2, 1] rfl), (Rd.mq (Rd.mq V16_0 S19) (Mv.pick (Mv.refl S19.at') [0, 2, 1] rfl)), (Rd.mq (Rd.mq V16_1 S19) (Mv.pick (Mv.refl S19.at') [0, 2, 1] rfl))⟩
 · rintro a20 w20 ⟨b12, A14, N14, C14, Q0, Q2, Q1, Q3, Q5, Q4, F20, S20, V20_0, V20_1⟩
   obtain ⟨ln20_0, le20_0, mx20_0, ni20_0⟩ := Rd.inv V20_0
   obtain ⟨ln20_1, le20_1, mx20_1, ni20_1⟩ := Rd.inv V20_1
   obtain ⟨Q27, Q28, Q29⟩ := At.ownInv S20.at' ET_24.hk 2 rfl
   refine x_normal (wp_ret ?_)
   have Z21 : Rd 2 encC okC (V H w [bx b3 [.slice A14 N14 C14, .slice Q0 Q2 Q1, .slice Q3 Q5 Q4] 29, bx b1 [.slice m_Sa m_Sn m_Sc, .slice m_Ra m_Rn m_Rc, .slice m_Wa m_Wn m_Wc] 29]) w20 (.slice A14 N14 C14) (([] : List CellD) ++ m.store) := At.freeze (S1.trans (S3.trans S20)) ET_24.hk 2 rfl (fun b hb => ((S1.trans (S3.trans S20)).fresh b ⟨_, nth_mem (i := 2) rfl, hb⟩).resolve_left (fps_nil _))
   have S21 := At.drop S20.at' 2
   refine x_done (v := .agg #[.slice A14 N14 C14, .slice Q0 Q2 Q1, .slice Q3 Q5 Q4]) F20 (results_1 Tryz.results42 (.cell (F20.ev 2 rfl) (run_loadVar' TI_29 _ [.slice A14 N14 C14, .slice Q0 Q2 Q1, .slice Q3 Q5 Q4] rfl (fun h => nomatch h) (At.cells S20.at' 0 rfl 0 [.slice A14 N14 C14, .slice Q0 Q2 Q1, .slice Q3 Q5 Q4] rfl)))) ?_
   exact ⟨A14, N14, C14, Q0, Q2, Q1, Q3, Q5, Q4, rfl, (Mv.pick (S1.trans (S3.trans (S20.trans S21))) [] rfl), (Rd.cast (Rd.give Z21) (show (([] : List CellD) ++ m.store) = m.store from by first | rfl | simp [joinT, joinL])), (Rd.cast (Rd.give (Rd.mq V20_0 S21)) (show (joinT m.touch (⟨[], []⟩ : TouchD)).reads = m.touch.reads from by first | rfl | simp [joinT, joinL])), (Rd.cast (Rd.give (Rd.mq V20_1 S21)) (show (joinT m.touch (⟨[], []⟩ : TouchD)).writes = m.touch.writes from by first | rfl | simp [joinT, joinL]))⟩
end Go.Proofs.YtibgmijfnbnfkaaGreatDoor
