/-
  Walks: machines are looked at.
-/
import Derived.Test.YtjiplnaceiofmaaDoorGenC
namespace Go.Proofs.YtjiplnaceiofmaaDoor
open Go.ChangeShapes Go.WideShapes Go.ChangeAt Go.RowKit
set_option maxRecDepth 100000
set_option maxHeartbeats 1000000
theorem spec_JoinTouch_c {w : World} {H : Nat → Prop} {a : TouchD} {a_reads_a : Option Addr} {a_reads_n a_reads_c : Nat} {a_writes_a : Option Addr} {a_writes_n a_writes_c : Nat} {b : TouchD} {b_reads_a : Option Addr} {b_reads_n b_reads_c : Nat} {b_writes_a : Option Addr} {b_writes_n b_writes_c : Nat} (v_a_reads : Rd 1 encS okS H w (.slice a_reads_a a_reads_n a_reads_c) a.reads) (v_a_writes : Rd 1 encS okS H w (.slice a_writes_a a_writes_n a_writes_c) a.writes) (v_b_reads : Rd 1 encS okS H w (.slice b_reads_a b_reads_n b_reads_c) b.reads) (v_b_writes : Rd 1 encS okS H w (.slice b_writes_a b_writes_n b_writes_c) b.writes) (p0 : a.reads.length ≤ 274877906944) (p1 : a.writes.length ≤ 274877906944) (p2 : b.reads.length ≤ 274877906944) (p3 : b.writes.length ≤ 274877906944) :
    Calls Tryd.prog 118 #[.agg #[.slice a_reads_a a_reads_n a_reads_c, .slice a_writes_a a_writes_n a_writes_c], .agg #[.slice b_reads_a b_reads_n b_reads_c, .slice b_writes_a b_writes_n b_writes_c]] w fun e w' => ∃ (r0_reads_a : Option Addr), ∃ (r0_reads_n : Nat), ∃ (r0_reads_c : Nat), ∃ (r0_writes_a : Option Addr), ∃ (r0_writes_n : Nat), ∃ (r0_writes_c : Nat), e = .returned (.agg #[.slice r0_reads_a r0_reads_n r0_reads_c, .slice r0_writes_a r0_writes_n r0_writes_c]) ∧ Mv [] w [] w' ∧ Rd 1 encS okS (Fsh H w) w' (.slice r0_reads_a r0_reads_n r0_reads_c) (joinT a b).reads ∧ Rd 1 encS okS (Fsh H w) w' (.slice r0_writes_a r0_writes_n r0_writes_c) (joinT a b).writes := by
 have uU : True := (fun _ _ _ _ => trivial) p0 p1 p2 p3
 clear uU
 have V_v_a_reads : Rd 1 encS okS (V H w []) w (.slice a_reads_a a_reads_n a_reads_c) a.reads := Rd.start v_a_reads (fun _ _ => fps_nil _)
 obtain ⟨ln_a_reads, le_a_reads, mx_a_reads, ni_a_reads⟩ := Rd.inv v_a_reads
 have V_v_a_writes : Rd 1 encS okS (V H w []) w (.slice a_writes_a a_writes_n a_writes_c) a.writes := Rd.start v_a_writes (fun _ _ => fps_nil _)
 obtain ⟨ln_a_writes, le_a_writes, mx_a_writes, ni_a_writes⟩ := Rd.inv v_a_writes
 have V_v_b_reads : Rd 1 encS okS (V H w []) w (.slice b_reads_a b_reads_n b_reads_c) b.reads := Rd.start v_b_reads (fun _ _ => fps_nil _)
 obtain ⟨ln_b_reads, le_b_reads, mx_b_reads, ni_b_reads⟩ := Rd.inv v_b_reads
 have V_v_b_writes : Rd 1 encS okS (V H w []) w (.slice b_writes_a b_writes_n b_writes_c) b.writes := Rd.start v_b_writes (fun _ _ => fps_nil _)
 obtain ⟨ln_b_writes, le_b_writes, mx_b_writes, ni_b_writes⟩ := Rd.inv v_b_writes
 refine calls_enter 50 Tryd.func118 rfl Tryd.ntmps118 (Nat.le_of_ble_eq_true rfl) (fun _ F0i => ?_)
 have F0 : Fr 50 [(0, .agg #[.slice a_reads_a a_reads_n a_reads_c, .slice a_writes_a a_writes_n a_writes_c]), (1, .agg #[.slice b_reads_a b_reads_n b_reads_c, .slice b_writes_a b_writes_n b_writes_c])] _ := F0i
 clear F0i
 refine wp_seq (wp_region_lit (l_op (f_box F0 (At.nil w) rfl rfl rfl (F0.ev 0 rfl) rfl rfl fun b1 _ w1 F2 S1 => ?_)))
 refine l_op (f_box F2 S1.at' rfl rfl rfl (F2.ev 1 rfl) rfl rfl fun b3 _ w3 F4 S3 => ?_)
 refine l_op (f_alloc F4 S3.at' ZI_29 rfl rfl rfl rfl rfl fun b5 _ w5 F6 S5 => ?_)
 have F7 : Fr 50 [(4, .pointer (some ⟨b5, 0, none⟩)), (3, .pointer (some ⟨b3, 0, none⟩)), (2, .pointer (some ⟨b1, 0, none⟩))] _ := F6.cut rfl
 clear F0 F2 F4 F6
 have T8 : Mv _ _ [bx b5 [.slice none 0 0, .slice none 0 0] 29, bx b3 [.slice b_reads_a b_reads_n b_reads_c, .slice b_writes_a b_writes_n b_writes_c] 29, bx b1 [.slice a_reads_a a_reads_n a_reads_c, .slice a_writes_a a_writes_n a_writes_c] 29] _ := S5
 refine s_end (x_normal (wp_seq ?_))
 refine x_draw (fun aZ wZ => ∃ (b15 : Nat), ∃ (A17 : Option Addr), ∃ (N17 : Nat), ∃ (C17 : Nat), ∃ (b19 : Nat), ∃ (A21 : Option Addr), ∃ (N21 : Nat), ∃ (C21 : Nat), ∃ (b24 : Nat), Fr 50 [(3, .pointer (some ⟨b3, 0, none⟩)), (4, .pointer (some ⟨b5, 0, none⟩)), (5, .pointer (some ⟨b24, 0, none⟩))] aZ ∧ Mv [bx b5 [.slice none 0 0, .slice none 0 0] 29, bx b3 [.slice b_reads_a b_reads_n b_reads_c, .slice b_writes_a b_writes_n b_writes_c] 29, bx b1 [.slice a_reads_a a_reads_n a_reads_c, .slice a_writes_a a_writes_n a_writes_c] 29] w5 [bx b5 [.slice none 0 0, .slice none 0 0] 29, bx b3 [.slice b_reads_a b_reads_n b_reads_c, .slice b_writes_a b_writes_n b_writes_c] 29, bx b1 [.slice a_reads_a a_reads_n a_reads_c, .slice a_writes_a a_writes_n a_writes_c] 29, ow 9 1 encS okS (.slice A17 N17 C17) (([] : List ByteArray) ++ a.reads), ow 9 1 encS okS (.slice A21 N21 C21) (([] : List ByteArray) ++ a.writes), bx b24 [.slice A17 N17 C17, .slice A21 N21 C21] 29] wZ) [bx b1 [.slice a_reads_a a_reads_n a_reads_c, .slice a_writes_a a_writes_n a_writes_c] 29] mixed T8.at' (listed := #[false, false, false, false, false, false, false, false, false, false, false]) rfl (fun w10 S10 => ?_) [2] rfl ?_
 · skip
   refine g_take F7 rfl (i := 1) (listed' := #[false, true, false, false, false, false, false, false, false, false, false]) rfl (by kernel_rfl) (by kernel_rfl) (by kernel_rfl) (fun _ _ _ h => h) (Sd.of (Mv.refl S10.at') [2] rfl) rfl rfl rfl rfl (fun _ hz => (r_field FI_29_0 rfl (F7.ev 2 rfl) rfl)) fun _ F11 => ?_
   refine g_take (v := .slice a_reads_a a_reads_n a_reads_c) F11 rfl (i := 2) (listed' := #[false, true, true, false, false, false, false, false, false, false, false]) rfl (by kernel_rfl) (by kernel_rfl) (by kernel_rfl) (fun _ _ _ h => h) (Sd.of (Mv.refl S10.at') [2] rfl) rfl rfl rfl rfl (fun _ hz => (r_loadX (hz.bx 0 rfl) TI_27 rfl (F11.ev 9 rfl) rfl rfl (fun _ => rfl) rfl)) fun _ F12 => ?_
   refine g_take F12 rfl (i := 5) (listed' := #[false, true, true, false, false, true, false, false, false, false, false]) rfl (by kernel_rfl) (by kernel_rfl) (by kernel_rfl) (fun _ _ _ h => h) (Sd.of (Mv.refl S10.at') [2] rfl) rfl rfl rfl rfl (fun _ hz => (r_field FI_29_1 rfl (F12.ev 2 rfl) rfl)) fun _ F13 => ?_
   refine g_take (v := .slice a_writes_a a_writes_n a_writes_c) F13 rfl (i := 6) (listed' := #[false, true, true, false, false, true, true, false, false, false, false]) rfl (by kernel_rfl) (by kernel_rfl) (by kernel_rfl) (fun _ _ _ h => h) (Sd.of (Mv.refl S10.at') [2] rfl) rfl rfl rfl rfl (fun _ hz => (r_loadX (hz.bx 0 rfl) TI_27 rfl (F13.ev 13 rfl) rfl rfl (fun _ => rfl) rfl)) fun _ F14 => ?_
   refine d_all (rs := [0, 4, 9]) rfl (by kernel_rfl) (by simp) (d_cons (i := 0) (listed' := #[true, true, true, false, false, true, true, false, false, false, false]) rfl rfl ?_ (d_cons (i := 4) (listed' := #[false, true, true, false, true, true, true, false, false, false, false]) rfl rfl ?_ (d_cons (i := 9) (listed' := #[false, true, true, false, false, true, true, false, false, true, false]) rfl rfl ?_ d_nil)))
   · skip
     refine f_buildSl (ok := okS) (vs := []) F14 S10.at' (([] : List ByteArray)) ET_27 rfl rfl rfl rfl rfl rfl rfl rfl rfl (by simp) fun b15 _ w15 F16 S15 => ?_
     refine ⟨Sd.of S15 [3] rfl, ?_⟩
     refine d_all (rs := [3, 4, 9]) rfl (by kernel_rfl) (by simp) (d_cons (i := 3) (listed' := #[true, true, true, true, false, true, true, false, false, false, false]) rfl rfl ?_ (d_cons (i := 4) (listed' := #[true, true, true, false, true, true, true, false, false, false, false]) rfl rfl ?_ (d_cons (i := 9) (listed' := #[true, true, true, false, false, true, true, false, false, true, false]) rfl rfl ?_ d_nil)))
     · skip
       refine f_app (news := a.reads) F16 S15.at' 0 ET_27 rfl rfl rfl rfl rfl rfl (F16.ev 8 rfl) (F16.ev 10 rfl) ((Rd.mv (Nat.succ_pos _) V_v_a_reads (S1.trans (S3.trans (T8.trans (S10.trans S15)))))).1 (by ((repeat (first | rw [List.length_append] | rw [List.length_cons] | rw [List.length_nil] | rw [List.length_take] | rw [List.length_drop])) <;> omega)) fun A17 N17 C17 _ w17 F18 S17 l17 => ?_
       refine ⟨Sd.of (S15.trans S17) [3] rfl, ?_⟩
       refine d_all (rs := [4, 9]) rfl (by kernel_rfl) (by simp) (d_cons (i := 4) (listed' := #[true, true, true, true, true, true, true, false, false, false, false]) rfl rfl ?_ (d_cons (i := 9) (listed' := #[true, true, true, true, false, true, true, false, false, true, false]) rfl rfl ?_ d_nil))
       · skip
         refine f_buildSl (ok := okS) (vs := []) F18 S17.at' (([] : List ByteArray)) ET_27 rfl rfl rfl rfl rfl rfl rfl rfl rfl (by simp) fun b19 _ w19 F20 S19 => ?_
         refine ⟨Sd.of (S15.trans (S17.trans S19)) [4] rfl, ?_⟩
         refine d_all (rs := [7, 9]) rfl (by kernel_rfl) (by simp) (d_cons (i := 7) (listed' := #[true, true, true, true, true, true, true, true, false, false, false]) rfl rfl ?_ (d_cons (i := 9) (listed' := #[true, true, true, true, true, true, true, false, false, true, false]) rfl rfl ?_ d_nil))
         · skip
           refine f_app (news := a.writes) F20 S19.at' 0 ET_27 rfl rfl rfl rfl rfl rfl (F20.ev 12 rfl) (F20.ev 14 rfl) ((Rd.mv (Nat.succ_pos _) V_v_a_writes (S1.trans (S3.trans (T8.trans (S10.trans (S15.trans (S17.trans S19)))))))).1 (by ((repeat (first | rw [List.length_append] | rw [List.length_cons] | rw [List.length_nil] | rw [List.length_take] | rw [List.length_drop])) <;> omega)) fun A21 N21 C21 _ w21 F22 S21 l21 => ?_
           refine ⟨Sd.of (S15.trans (S17.trans (S19.trans S21))) [4] rfl, ?_⟩
           refine g_take (v := .agg #[.slice A17 N17 C17, .slice A21 N21 C21]) F22 rfl (i := 8) (listed' := #[true, true, true, true, true, true, true, true, true, false, false]) rfl (by kernel_rfl) (by kernel_rfl) (by kernel_rfl) (fun _ _ _ h => h) (Sd.of (S15.trans (S17.trans (S19.trans S21))) [4] rfl) rfl rfl rfl rfl (fun _ hz => (r_build BI_29 rfl (lc (pr2 (F22.ev 11 rfl)) (lc (pr2 (F22.ev 15 rfl)) rfl)) rfl)) fun _ F23 => ?_
           refine d_one (i := 9) (listed' := #[true, true, true, true, true, true, true, true, true, true, false]) rfl (by kernel_rfl) rfl rfl ?_
           refine f_alloc F23 S21.at' ZI_29 rfl rfl rfl rfl rfl fun b24 _ w24 F25 S24 => ?_
           refine ⟨Sd.of (S15.trans (S17.trans (S19.trans (S21.trans S24)))) [5] rfl, ?_⟩
           refine d_one (i := 10) (listed' := #[true, true, true, true, true, true, true, true, true, true, true]) rfl (by kernel_rfl) rfl rfl ?_
           refine s_store S24.at' 0 TI_29 rfl rfl rfl rfl rfl (F25.ev 5 rfl) (F25.ev 16 rfl) rfl rfl rfl rfl rfl fun w26 S26 => ?_
           refine ⟨Sd.of (S15.trans (S17.trans (S19.trans (S21.trans (S24.trans S26))))) [5] rfl, ?_⟩
           refine wpAnyH_done (by kernel_rfl) (x_normal ?_) _
           exact ⟨b15, A17, N17, C17, b19, A21, N21, C21, b24, F25.cut rfl, ((S10.trans (S15.trans (S17.trans (S19.trans (S21.trans (S24.trans S26)))))).pick [3, 4, 5, 2, 1, 0] rfl)⟩
         · skip
           refine f_alloc F20 S19.at' ZI_29 rfl rfl rfl rfl rfl fun b27 _ w27 F28 S27 => ?_
           refine ⟨Sd.of (S15.trans (S17.trans (S19.trans S27))) [5] rfl, ?_⟩
           refine d_one (i := 7) (listed' := #[true, true, true, true, true, true, true, true, false, true, false]) rfl (by kernel_rfl) rfl rfl ?_
           refine f_app (news := a.writes) F28 S27.at' 1 ET_27 rfl rfl rfl rfl rfl rfl (F28.ev 12 rfl) (F28.ev 14 rfl) ((Rd.mv (Nat.succ_pos _) V_v_a_writes (S1.trans (S3.trans (T8.trans (S10.trans (S15.trans (S17.trans (S19.trans S27))))))))).1 (by ((repeat (first | rw [List.length_append] | rw [List.length_cons] | rw [List.length_nil] | rw [List.length_take] | rw [List.length_drop])) <;> omega)) fun A29 N29 C29 _ w29 F30 S29 l29 => ?_
           refine ⟨Sd.of (S15.trans (S17.trans (S19.trans (S27.trans S29)))) [5] rfl, ?_⟩
           refine g_take (v := .agg #[.slice A17 N17 C17, .slice A29 N29 C29]) F30 rfl (i := 8) (listed' := #[true, true, true, true, true, true, true, true, true, true, false]) rfl (by kernel_rfl) (by kernel_rfl) (by kernel_rfl) (fun _ _ _ h => h) (Sd.of (S15.trans (S17.trans (S19.trans (S27.trans S29)))) [5] rfl) rfl rfl rfl rfl (fun _ hz => (r_build BI_29 rfl (lc (pr2 (F30.ev 11 rfl)) (lc (pr2 (F30.ev 15 rfl)) rfl)) rfl)) fun _ F31 => ?_
           refine d_one (i := 10) (listed' := #[true, true, true, true, true, true, true, true, true, true, true]) rfl (by kernel_rfl) rfl rfl ?_
           refine s_store S29.at' 1 TI_29 rfl rfl rfl rfl rfl (F31.ev 5 rfl) (F31.ev 16 rfl) rfl rfl rfl rfl rfl fun w32 S32 => ?_
           refine ⟨Sd.of (S15.trans (S17.trans (S19.trans (S27.trans (S29.trans S32))))) [5] rfl, ?_⟩
           refine wpAnyH_done (by kernel_rfl) (x_normal ?_) _
           exact ⟨b15, A17, N17, C17, b19, A29, N29, C29, b27, F31.cut rfl, ((S10.trans (S15.trans (S17.trans (S19.trans (S27.trans (S29.trans S32)))))).pick [3, 4, 5, 2, 1, 0] rfl)⟩
       · skip
         refine f_alloc F18 S17.at' ZI_29 rfl rfl rfl rfl rfl fun b33 _ w33 F34 S33 => ?_
         refine ⟨Sd.of (S15.trans (S17.trans S33)) [4] rfl, ?_⟩
         refine d_one (i := 4) (listed' := #[true, true, true, true, true, true, true, false, false, true, false]) rfl (by kernel_rfl) rfl rfl ?_
         refine f_buildSl (ok := okS) (vs := []) F34 S33.at' (([] : List ByteArray)) ET_27 rfl rfl rfl rfl rfl rfl rfl rfl rfl (by simp) fun b35 _ w35 F36 S35 => ?_
         refine ⟨Sd.of (S15.trans (S17.trans (S33.trans S35))) [5] rfl, ?_⟩
         refine d_one (i := 7) (listed' := #[true, true, true, true, true, true, true, true, false, true, false]) rfl (by kernel_rfl) rfl rfl ?_
         refine f_app (news := a.writes) F36 S35.at' 0 ET_27 rfl rfl rfl rfl rfl rfl (F36.ev 12 rfl) (F36.ev 14 rfl) ((Rd.mv (Nat.succ_pos _) V_v_a_writes (S1.trans (S3.trans (T8.trans (S10.trans (S15.trans (S17.trans (S33.trans S35))))))))).1 (by ((repeat (first | rw [List.length_append] | rw [List.length_cons] | rw [List.length_nil] | rw [List.length_take] | rw [List.length_drop])) <;> omega)) fun A37 N37 C37 _ w37 F38 S37 l37 => ?_
         refine ⟨Sd.of (S15.trans (S17.trans (S33.trans (S35.trans S37)))) [5] rfl, ?_⟩
         refine g_take (v := .agg #[.slice A17 N17 C17, .slice A37 N37 C37]) F38 rfl (i := 8) (listed' := #[true, true, true, true, true, true, true, true, true, true, false]) rfl (by kernel_rfl) (by kernel_rfl) (by kernel_rfl) (fun _ _ _ h => h) (Sd.of (S15.trans (S17.trans (S33.trans (S35.trans S37)))) [5] rfl) rfl rfl rfl rfl (fun _ hz => (r_build BI_29 rfl (lc (pr2 (F38.ev 11 rfl)) (lc (pr2 (F38.ev 15 rfl)) rfl)) rfl)) fun _ F39 => ?_
         refine d_one (i := 10) (listed' := #[true, true, true, true, true, true, true, true, true, true, true]) rfl (by kernel_rfl) rfl rfl ?_
         refine s_store S37.at' 1 TI_29 rfl rfl rfl rfl rfl (F39.ev 5 rfl) (F39.ev 16 rfl) rfl rfl rfl rfl rfl fun w40 S40 => ?_
         refine ⟨Sd.of (S15.trans (S17.trans (S33.trans (S35.trans (S37.trans S40))))) [5] rfl, ?_⟩
         refine wpAnyH_done (by kernel_rfl) (x_normal ?_) _
         exact ⟨b15, A17, N17, C17, b35, A37, N37, C37, b33, F39.cut rfl, ((S10.trans (S15.trans (S17.trans (S33.trans (S35.trans (S37.trans S40)))))).pick [3, 4, 5, 2, 1, 0] rfl)⟩
     · skip
       refine f_buildSl (ok := okS) (vs := []) F16 S15.at' (([] : List ByteArray)) ET_27 rfl rfl rfl rfl rfl rfl rfl rfl rfl (by simp) fun b41 _ w41 F42 S41 => ?_
       refine ⟨Sd.of (S15.trans S41) [4] rfl, ?_⟩
       refine d_all (rs := [3, 9]) rfl (by kernel_rfl) (by simp) (d_cons (i := 3) (listed' := #[true, true, true, true, true, true, true, false, false, false, false]) rfl rfl ?_ (d_cons (i := 9) (listed' := #[true, true, true, false, true, true, true, false, false, true, false]) rfl rfl ?_ d_nil))
       · skip
         refine f_app (news := a.reads) F42 S41.at' 1 ET_27 rfl rfl rfl rfl rfl rfl (F42.ev 8 rfl) (F42.ev 10 rfl) ((Rd.mv (Nat.succ_pos _) V_v_a_reads (S1.trans (S3.trans (T8.trans (S10.trans (S15.trans S41))))))).1 (by ((repeat (first | rw [List.length_append] | rw [List.length_cons] | rw [List.length_nil] | rw [List.length_take] | rw [List.length_drop])) <;> omega)) fun A43 N43 C43 _ w43 F44 S43 l43 => ?_
         refine ⟨Sd.of (S15.trans (S41.trans S43)) [4] rfl, ?_⟩
         refine d_all (rs := [7, 9]) rfl (by kernel_rfl) (by simp) (d_cons (i := 7) (listed' := #[true, true, true, true, true, true, true, true, false, false, false]) rfl rfl ?_ (d_cons (i := 9) (listed' := #[true, true, true, true, true, true, true, false, false, true, false]) rfl rfl ?_ d_nil))
         · skip
           refine f_app (news := a.writes) F44 S43.at' 1 ET_27 rfl rfl rfl rfl rfl rfl (F44.ev 12 rfl) (F44.ev 14 rfl) ((Rd.mv (Nat.succ_pos _) V_v_a_writes (S1.trans (S3.trans (T8.trans (S10.trans (S15.trans (S41.trans S43)))))))).1 (by ((repeat (first | rw [List.length_append] | rw [List.length_cons] | rw [List.length_nil] | rw [List.length_take] | rw [List.length_drop])) <;> omega)) fun A45 N45 C45 _ w45 F46 S45 l45 => ?_
           refine ⟨Sd.of (S15.trans (S41.trans (S43.trans S45))) [4] rfl, ?_⟩
           refine g_take (v := .agg #[.slice A43 N43 C43, .slice A45 N45 C45]) F46 rfl (i := 8) (listed' := #[true, true, true, true, true, true, true, true, true, false, false]) rfl (by kernel_rfl) (by kernel_rfl) (by kernel_rfl) (fun _ _ _ h => h) (Sd.of (S15.trans (S41.trans (S43.trans S45))) [4] rfl) rfl rfl rfl rfl (fun _ hz => (r_build BI_29 rfl (lc (pr2 (F46.ev 11 rfl)) (lc (pr2 (F46.ev 15 rfl)) rfl)) rfl)) fun _ F47 => ?_
           refine d_one (i := 9) (listed' := #[true, true, true, true, true, true, true, true, true, true, false]) rfl (by kernel_rfl) rfl rfl ?_
           refine f_alloc F47 S45.at' ZI_29 rfl rfl rfl rfl rfl fun b48 _ w48 F49 S48 => ?_
           refine ⟨Sd.of (S15.trans (S41.trans (S43.trans (S45.trans S48)))) [5] rfl, ?_⟩
           refine d_one (i := 10) (listed' := #[true, true, true, true, true, true, true, true, true, true, true]) rfl (by kernel_rfl) rfl rfl ?_
           refine s_store S48.at' 0 TI_29 rfl rfl rfl rfl rfl (F49.ev 5 rfl) (F49.ev 16 rfl) rfl rfl rfl rfl rfl fun w50 S50 => ?_
           refine ⟨Sd.of (S15.trans (S41.trans (S43.trans (S45.trans (S48.trans S50))))) [5] rfl, ?_⟩
           refine wpAnyH_done (by kernel_rfl) (x_normal ?_) _
           exact ⟨b15, A43, N43, C43, b41, A45, N45, C45, b48, F49.cut rfl, ((S10.trans (S15.trans (S41.trans (S43.trans (S45.trans (S48.trans S50)))))).pick [3, 4, 5, 2, 1, 0] rfl)⟩
         · skip
           refine f_alloc F44 S43.at' ZI_29 rfl rfl rfl rfl rfl fun b51 _ w51 F52 S51 => ?_
           refine ⟨Sd.of (S15.trans (S41.trans (S43.trans S51))) [5] rfl, ?_⟩
           refine d_one (i := 7) (listed' := #[true, true, true, true, true, true, true, true, false, true, false]) rfl (by kernel_rfl) rfl rfl ?_
           refine f_app (news := a.writes) F52 S51.at' 2 ET_27 rfl rfl rfl rfl rfl rfl (F52.ev 12 rfl) (F52.ev 14 rfl) ((Rd.mv (Nat.succ_pos _) V_v_a_writes (S1.trans (S3.trans (T8.trans (S10.trans (S15.trans (S41.trans (S43.trans S51))))))))).1 (by ((repeat (first | rw [List.length_append] | rw [List.length_cons] | rw [List.length_nil] | rw [List.length_take] | rw [List.length_drop])) <;> omega)) fun A53 N53 C53 _ w53 F54 S53 l53 => ?_
           refine ⟨Sd.of (S15.trans (S41.trans (S43.trans (S51.trans S53)))) [5] rfl, ?_⟩
           refine g_take (v := .agg #[.slice A43 N43 C43, .slice A53 N53 C53]) F54 rfl (i := 8) (listed' := #[true, true, true, true, true, true, true, true, true, true, false]) rfl (by kernel_rfl) (by kernel_rfl) (by kernel_rfl) (fun _ _ _ h => h) (Sd.of (S15.trans (S41.trans (S43.trans (S51.trans S53)))) [5] rfl) rfl rfl rfl rfl (fun _ hz => (r_build BI_29 rfl (lc (pr2 (F54.ev 11 rfl)) (lc (pr2 (F54.ev 15 rfl)) rfl)) rfl)) fun _ F55 => ?_
           refine d_one (i := 10) (listed' := #[true, true, true, true, true, true, true, true, true, true, true]) rfl (by kernel_rfl) rfl rfl ?_
           refine s_store S53.at' 1 TI_29 rfl rfl rfl rfl rfl (F55.ev 5 rfl) (F55.ev 16 rfl) rfl rfl rfl rfl rfl fun w56 S56 => ?_
           refine ⟨Sd.of (S15.trans (S41.trans (S43.trans (S51.trans (S53.trans S56))))) [5] rfl, ?_⟩
           refine wpAnyH_done (by kernel_rfl) (x_normal ?_) _
           exact ⟨b15, A43, N43, C43, b41, A53, N53, C53, b51, F55.cut rfl, ((S10.trans (S15.trans (S41.trans (S43.trans (S51.trans (S53.trans S56)))))).pick [3, 4, 5, 2, 1, 0] rfl)⟩
       · skip
         refine f_alloc F42 S41.at' ZI_29 rfl rfl rfl rfl rfl fun b57 _ w57 F58 S57 => ?_
         refine ⟨Sd.of (S15.trans (S41.trans S57)) [5] rfl, ?_⟩
         refine d_one (i := 3) (listed' := #[true, true, true, true, true, true, true, false, false, true, false]) rfl (by kernel_rfl) rfl rfl ?_
         refine f_app (news := a.reads) F58 S57.at' 2 ET_27 rfl rfl rfl rfl rfl rfl (F58.ev 8 rfl) (F58.ev 10 rfl) ((Rd.mv (Nat.succ_pos _) V_v_a_reads (S1.trans (S3.trans (T8.trans (S10.trans (S15.trans (S41.trans S57)))))))).1 (by ((repeat (first | rw [List.length_append] | rw [List.length_cons] | rw [List.length_nil] | rw [List.length_take] | rw [List.length_drop])) <;> omega)) fun A59 N59 C59 _ w59 F60 S59 l59 => ?_
         refine ⟨Sd.of (S15.trans (S41.trans (S57.trans S59))) [5] rfl, ?_⟩
         refine d_one (i := 7) (listed' := #[true, true, true, true, true, true, true, true, false, true, false]) rfl (by kernel_rfl) rfl rfl ?_
         refine f_app (news := a.writes) F60 S59.at' 2 ET_27 rfl rfl rfl rfl rfl rfl (F60.ev 12 rfl) (F60.ev 14 rfl) ((Rd.mv (Nat.succ_pos _) V_v_a_writes (S1.trans (S3.trans (T8.trans (S10.trans (S15.trans (S41.trans (S57.trans S59))))))))).1 (by ((repeat (first | rw [List.length_append] | rw [List.length_cons] | rw [List.length_nil] | rw [List.length_take] | rw [List.length_drop])) <;> omega)) fun A61 N61 C61 _ w61 F62 S61 l61 => ?_
         refine ⟨Sd.of (S15.trans (S41.trans (S57.trans (S59.trans S61)))) [5] rfl, ?_⟩
         refine g_take (v := .agg #[.slice A59 N59 C59, .slice A61 N61 C61]) F62 rfl (i := 8) (listed' := #[true, true, true, true, true, true, true, true, true, true, false]) rfl (by kernel_rfl) (by kernel_rfl) (by kernel_rfl) (fun _ _ _ h => h) (Sd.of (S15.trans (S41.trans (S57.trans (S59.trans S61)))) [5] rfl) rfl rfl rfl rfl (fun _ hz => (r_build BI_29 rfl (lc (pr2 (F62.ev 11 rfl)) (lc (pr2 (F62.ev 15 rfl)) rfl)) rfl)) fun _ F63 => ?_
         refine d_one (i := 10) (listed' := #[true, true, true, true, true, true, true, true, true, true, true]) rfl (by kernel_rfl) rfl rfl ?_
         refine s_store S61.at' 2 TI_29 rfl rfl rfl rfl rfl (F63.ev 5 rfl) (F63.ev 16 rfl) rfl rfl rfl rfl rfl fun w64 S64 => ?_
         refine ⟨Sd.of (S15.trans (S41.trans (S57.trans (S59.trans (S61.trans S64))))) [5] rfl, ?_⟩
         refine wpAnyH_done (by kernel_rfl) (x_normal ?_) _
         exact ⟨b15, A59, N59, C59, b41, A61, N61, C61, b57, F63.cut rfl, ((S10.trans (S15.trans (S41.trans (S57.trans (S59.trans (S61.trans S64)))))).pick [3, 4, 5, 2, 1, 0] rfl)⟩
     · skip
       refine f_alloc F16 S15.at' ZI_29 rfl rfl rfl rfl rfl fun b65 _ w65 F66 S65 => ?_
       refine ⟨Sd.of (S15.trans S65) [4] rfl, ?_⟩
       refine d_all (rs := [3, 4]) rfl (by kernel_rfl) (by simp) (d_cons (i := 3) (listed' := #[true, true, true, true, false, true, true, false, false, true, false]) rfl rfl ?_ (d_cons (i := 4) (listed' := #[true, true, true, false, true, true, true, false, false, true, false]) rfl rfl ?_ d_nil))
       · skip
         refine f_app (news := a.reads) F66 S65.at' 1 ET_27 rfl rfl rfl rfl rfl rfl (F66.ev 8 rfl) (F66.ev 10 rfl) ((Rd.mv (Nat.succ_pos _) V_v_a_reads (S1.trans (S3.trans (T8.trans (S10.trans (S15.trans S65))))))).1 (by ((repeat (first | rw [List.length_append] | rw [List.length_cons] | rw [List.length_nil] | rw [List.length_take] | rw [List.length_drop])) <;> omega)) fun A67 N67 C67 _ w67 F68 S67 l67 => ?_
         refine ⟨Sd.of (S15.trans (S65.trans S67)) [4] rfl, ?_⟩
         refine d_one (i := 4) (listed' := #[true, true, true, true, true, true, true, false, false, true, false]) rfl (by kernel_rfl) rfl rfl ?_
         refine f_buildSl (ok := okS) (vs := []) F68 S67.at' (([] : List ByteArray)) ET_27 rfl rfl rfl rfl rfl rfl rfl rfl rfl (by simp) fun b69 _ w69 F70 S69 => ?_
         refine ⟨Sd.of (S15.trans (S65.trans (S67.trans S69))) [5] rfl, ?_⟩
         refine d_one (i := 7) (listed' := #[true, true, true, true, true, true, true, true, false, true, false]) rfl (by kernel_rfl) rfl rfl ?_
         refine f_app (news := a.writes) F70 S69.at' 0 ET_27 rfl rfl rfl rfl rfl rfl (F70.ev 12 rfl) (F70.ev 14 rfl) ((Rd.mv (Nat.succ_pos _) V_v_a_writes (S1.trans (S3.trans (T8.trans (S10.trans (S15.trans (S65.trans (S67.trans S69))))))))).1 (by ((repeat (first | rw [List.length_append] | rw [List.length_cons] | rw [List.length_nil] | rw [List.length_take] | rw [List.length_drop])) <;> omega)) fun A71 N71 C71 _ w71 F72 S71 l71 => ?_
         refine ⟨Sd.of (S15.trans (S65.trans (S67.trans (S69.trans S71)))) [5] rfl, ?_⟩
         refine g_take (v := .agg #[.slice A67 N67 C67, .slice A71 N71 C71]) F72 rfl (i := 8) (listed' := #[true, true, true, true, true, true, true, true, true, true, false]) rfl (by kernel_rfl) (by kernel_rfl) (by kernel_rfl) (fun _ _ _ h => h) (Sd.of (S15.trans (S65.trans (S67.trans (S69.trans S71)))) [5] rfl) rfl rfl rfl rfl (fun _ hz => (r_build BI_29 rfl (lc (pr2 (F72.ev 11 rfl)) (lc (pr2 (F72.ev 15 rfl)) rfl)) rfl)) fun _ F73 => ?_
         refine d_one (i := 10) (listed' := #[true, true, true, true, true, true, true, true, true, true, true]) rfl (by kernel_rfl) rfl rfl ?_
         refine s_store S71.at' 2 TI_29 rfl rfl rfl rfl rfl (F73.ev 5 rfl) (F73.ev 16 rfl) rfl rfl rfl rfl rfl fun w74 S74 => ?_
         refine ⟨Sd.of (S15.trans (S65.trans (S67.trans (S69.trans (S71.trans S74))))) [5] rfl, ?_⟩
         refine wpAnyH_done (by kernel_rfl) (x_normal ?_) _
         exact ⟨b15, A67, N67, C67, b69, A71, N71, C71, b65, F73.cut rfl, ((S10.trans (S15.trans (S65.trans (S67.trans (S69.trans (S71.trans S74)))))).pick [3, 4, 5, 2, 1, 0] rfl)⟩
       · skip
         refine f_buildSl (ok := okS) (vs := []) F66 S65.at' (([] : List ByteArray)) ET_27 rfl rfl rfl rfl rfl rfl rfl rfl rfl (by simp) fun b75 _ w75 F76 S75 => ?_
         refine ⟨Sd.of (S15.trans (S65.trans S75)) [5] rfl, ?_⟩
         refine d_one (i := 3) (listed' := #[true, true, true, true, true, true, true, false, false, true, false]) rfl (by kernel_rfl) rfl rfl ?_
         refine f_app (news := a.reads) F76 S75.at' 2 ET_27 rfl rfl rfl rfl rfl rfl (F76.ev 8 rfl) (F76.ev 10 rfl) ((Rd.mv (Nat.succ_pos _) V_v_a_reads (S1.trans (S3.trans (T8.trans (S10.trans (S15.trans (S65.trans S75)))))))).1 (by ((repeat (first | rw [List.length_append] | rw [List.length_cons] | rw [List.length_nil] | rw [List.length_take] | rw [List.length_drop])) <;> omega)) fun A77 N77 C77 _ w77 F78 S77 l77 => ?_
         refine ⟨Sd.of (S15.trans (S65.trans (S75.trans S77))) [5] rfl, ?_⟩
         refine d_one (i := 7) (listed' := #[true, true, true, true, true, true, true, true, false, true, false]) rfl (by kernel_rfl) rfl rfl ?_
         refine f_app (news := a.writes) F78 S77.at' 1 ET_27 rfl rfl rfl rfl rfl rfl (F78.ev 12 rfl) (F78.ev 14 rfl) ((Rd.mv (Nat.succ_pos _) V_v_a_writes (S1.trans (S3.trans (T8.trans (S10.trans (S15.trans (S65.trans (S75.trans S77))))))))).1 (by ((repeat (first | rw [List.length_append] | rw [List.length_cons] | rw [List.length_nil] | rw [List.length_take] | rw [List.length_drop])) <;> omega)) fun A79 N79 C79 _ w79 F80 S79 l79 => ?_
         refine ⟨Sd.of (S15.trans (S65.trans (S75.trans (S77.trans S79)))) [5] rfl, ?_⟩
         refine g_take (v := .agg #[.slice A77 N77 C77, .slice A79 N79 C79]) F80 rfl (i := 8) (listed' := #[true, true, true, true, true, true, true, true, true, true, false]) rfl (by kernel_rfl) (by kernel_rfl) (by kernel_rfl) (fun _ _ _ h => h) (Sd.of (S15.trans (S65.trans (S75.trans (S77.trans S79)))) [5] rfl) rfl rfl rfl rfl (fun _ hz => (r_build BI_29 rfl (lc (pr2 (F80.ev 11 rfl)) (lc (pr2 (F80.ev 15 rfl)) rfl)) rfl)) fun _ F81 => ?_
         refine d_one (i := 10) (listed' := #[true, true, true, true, true, true, true, true, true, true, true]) rfl (by kernel_rfl) rfl rfl ?_
         refine s_store S79.at' 2 TI_29 rfl rfl rfl rfl rfl (F81.ev 5 rfl) (F81.ev 16 rfl) rfl rfl rfl rfl rfl fun w82 S82 => ?_
         refine ⟨Sd.of (S15.trans (S65.trans (S75.trans (S77.trans (S79.trans S82))))) [5] rfl, ?_⟩
         refine wpAnyH_done (by kernel_rfl) (x_normal ?_) _
         exact ⟨b15, A77, N77, C77, b75, A79, N79, C79, b65, F81.cut rfl, ((S10.trans (S15.trans (S65.trans (S75.trans (S77.trans (S79.trans S82)))))).pick [3, 4, 5, 2, 1, 0] rfl)⟩
   · skip
     refine f_buildSl (ok := okS) (vs := []) F14 S10.at' (([] : List ByteArray)) ET_27 rfl rfl rfl rfl rfl rfl rfl rfl rfl (by simp) fun b83 _ w83 F84 S83 => ?_
     refine ⟨Sd.of S83 [3] rfl, ?_⟩
     refine d_all (rs := [0, 9]) rfl (by kernel_rfl) (by simp) (d_cons (i := 0) (listed' := #[true, true, true, false, true, true, true, false, false, false, false]) rfl rfl ?_ (d_cons (i := 9) (listed' := #[false, true, true, false, true, true, true, false, false, true, false]) rfl rfl ?_ d_nil))
     · skip
       refine f_buildSl (ok := okS) (vs := []) F84 S83.at' (([] : List ByteArray)) ET_27 rfl rfl rfl rfl rfl rfl rfl rfl rfl (by simp) fun b85 _ w85 F86 S85 => ?_
       refine ⟨Sd.of (S83.trans S85) [4] rfl, ?_⟩
       refine d_all (rs := [3, 9]) rfl (by kernel_rfl) (by simp) (d_cons (i := 3) (listed' := #[true, true, true, true, true, true, true, false, false, false, false]) rfl rfl ?_ (d_cons (i := 9) (listed' := #[true, true, true, false, true, true, true, false, false, true, false]) rfl rfl ?_ d_nil))
       · skip
         refine f_app (news := a.reads) F86 S85.at' 0 ET_27 rfl rfl rfl rfl rfl rfl (F86.ev 8 rfl) (F86.ev 10 rfl) ((Rd.mv (Nat.succ_pos _) V_v_a_reads (S1.trans (S3.trans (T8.trans (S10.trans (S83.trans S85))))))).1 (by ((repeat (first | rw [List.length_append] | rw [List.length_cons] | rw [List.length_nil] | rw [List.length_take] | rw [List.length_drop])) <;> omega)) fun A87 N87 C87 _ w87 F88 S87 l87 => ?_
         refine ⟨Sd.of (S83.trans (S85.trans S87)) [4] rfl, ?_⟩
         refine d_all (rs := [7, 9]) rfl (by kernel_rfl) (by simp) (d_cons (i := 7) (listed' := #[true, true, true, true, true, true, true, true, false, false, false]) rfl rfl ?_ (d_cons (i := 9) (listed' := #[true, true, true, true, true, true, true, false, false, true, false]) rfl rfl ?_ d_nil))
         · skip
           refine f_app (news := a.writes) F88 S87.at' 1 ET_27 rfl rfl rfl rfl rfl rfl (F88.ev 12 rfl) (F88.ev 14 rfl) ((Rd.mv (Nat.succ_pos _) V_v_a_writes (S1.trans (S3.trans (T8.trans (S10.trans (S83.trans (S85.trans S87)))))))).1 (by ((repeat (first | rw [List.length_append] | rw [List.length_cons] | rw [List.length_nil] | rw [List.length_take] | rw [List.length_drop])) <;> omega)) fun A89 N89 C89 _ w89 F90 S89 l89 => ?_
           refine ⟨Sd.of (S83.trans (S85.trans (S87.trans S89))) [4] rfl, ?_⟩
           refine g_take (v := .agg #[.slice A87 N87 C87, .slice A89 N89 C89]) F90 rfl (i := 8) (listed' := #[true, true, true, true, true, true, true, true, true, false, false]) rfl (by kernel_rfl) (by kernel_rfl) (by kernel_rfl) (fun _ _ _ h => h) (Sd.of (S83.trans (S85.trans (S87.trans S89))) [4] rfl) rfl rfl rfl rfl (fun _ hz => (r_build BI_29 rfl (lc (pr2 (F90.ev 11 rfl)) (lc (pr2 (F90.ev 15 rfl)) rfl)) rfl)) fun _ F91 => ?_
           refine d_one (i := 9) (listed' := #[true, true, true, true, true, true, true, true, true, true, false]) rfl (by kernel_rfl) rfl rfl ?_
           refine f_alloc F91 S89.at' ZI_29 rfl rfl rfl rfl rfl fun b92 _ w92 F93 S92 => ?_
           refine ⟨Sd.of (S83.trans (S85.trans (S87.trans (S89.trans S92)))) [5] rfl, ?_⟩
           refine d_one (i := 10) (listed' := #[true, true, true, true, true, true, true, true, true, true, true]) rfl (by kernel_rfl) rfl rfl ?_
           refine s_store S92.at' 0 TI_29 rfl rfl rfl rfl rfl (F93.ev 5 rfl) (F93.ev 16 rfl) rfl rfl rfl rfl rfl fun w94 S94 => ?_
           refine ⟨Sd.of (S83.trans (S85.trans (S87.trans (S89.trans (S92.trans S94))))) [5] rfl, ?_⟩
           refine wpAnyH_done (by kernel_rfl) (x_normal ?_) _
           exact ⟨b85, A87, N87, C87, b83, A89, N89, C89, b92, F93.cut rfl, ((S10.trans (S83.trans (S85.trans (S87.trans (S89.trans (S92.trans S94)))))).pick [3, 4, 5, 2, 1, 0] rfl)⟩
         · skip
           refine f_alloc F88 S87.at' ZI_29 rfl rfl rfl rfl rfl fun b95 _ w95 F96 S95 => ?_
           refine ⟨Sd.of (S83.trans (S85.trans (S87.trans S95))) [5] rfl, ?_⟩
           refine d_one (i := 7) (listed' := #[true, true, true, true, true, true, true, true, false, true, false]) rfl (by kernel_rfl) rfl rfl ?_
           refine f_app (news := a.writes) F96 S95.at' 2 ET_27 rfl rfl rfl rfl rfl rfl (F96.ev 12 rfl) (F96.ev 14 rfl) ((Rd.mv (Nat.succ_pos _) V_v_a_writes (S1.trans (S3.trans (T8.trans (S10.trans (S83.trans (S85.trans (S87.trans S95))))))))).1 (by ((repeat (first | rw [List.length_append] | rw [List.length_cons] | rw [List.length_nil] | rw [List.length_take] | rw [List.length_drop])) <;> omega)) fun A97 N97 C97 _ w97 F98 S97 l97 => ?_
           refine ⟨Sd.of (S83.trans (S85.trans (S87.trans (S95.trans S97)))) [5] rfl, ?_⟩
           refine g_take (v := .agg #[.slice A87 N87 C87, .slice A97 N97 C97]) F98 rfl (i := 8) (listed' := #[true, true, true, true, true, true, true, true, true, true, false]) rfl (by kernel_rfl) (by kernel_rfl) (by kernel_rfl) (fun _ _ _ h => h) (Sd.of (S83.trans (S85.trans (S87.trans (S95.trans S97)))) [5] rfl) rfl rfl rfl rfl (fun _ hz => (r_build BI_29 rfl (lc (pr2 (F98.ev 11 rfl)) (lc (pr2 (F98.ev 15 rfl)) rfl)) rfl)) fun _ F99 => ?_
           refine d_one (i := 10) (listed' := #[true, true, true, true, true, true, true, true, true, true, true]) rfl (by kernel_rfl) rfl rfl ?_
           refine s_store S97.at' 1 TI_29 rfl rfl rfl rfl rfl (F99.ev 5 rfl) (F99.ev 16 rfl) rfl rfl rfl rfl rfl fun w100 S100 => ?_
           refine ⟨Sd.of (S83.trans (S85.trans (S87.trans (S95.trans (S97.trans S100))))) [5] rfl, ?_⟩
           refine wpAnyH_done (by kernel_rfl) (x_normal ?_) _
           exact ⟨b85, A87, N87, C87, b83, A97, N97, C97, b95, F99.cut rfl, ((S10.trans (S83.trans (S85.trans (S87.trans (S95.trans (S97.trans S100)))))).pick [3, 4, 5, 2, 1, 0] rfl)⟩
       · skip
         refine f_alloc F86 S85.at' ZI_29 rfl rfl rfl rfl rfl fun b101 _ w101 F102 S101 => ?_
         refine ⟨Sd.of (S83.trans (S85.trans S101)) [5] rfl, ?_⟩
         refine d_one (i := 3) (listed' := #[true, true, true, true, true, true, true, false, false, true, false]) rfl (by kernel_rfl) rfl rfl ?_
         refine f_app (news := a.reads) F102 S101.at' 1 ET_27 rfl rfl rfl rfl rfl rfl (F102.ev 8 rfl) (F102.ev 10 rfl) ((Rd.mv (Nat.succ_pos _) V_v_a_reads (S1.trans (S3.trans (T8.trans (S10.trans (S83.trans (S85.trans S101)))))))).1 (by ((repeat (first | rw [List.length_append] | rw [List.length_cons] | rw [List.length_nil] | rw [List.length_take] | rw [List.length_drop])) <;> omega)) fun A103 N103 C103 _ w103 F104 S103 l103 => ?_
         refine ⟨Sd.of (S83.trans (S85.trans (S101.trans S103))) [5] rfl, ?_⟩
         refine d_one (i := 7) (listed' := #[true, true, true, true, true, true, true, true, false, true, false]) rfl (by kernel_rfl) rfl rfl ?_
         refine f_app (news := a.writes) F104 S103.at' 2 ET_27 rfl rfl rfl rfl rfl rfl (F104.ev 12 rfl) (F104.ev 14 rfl) ((Rd.mv (Nat.succ_pos _) V_v_a_writes (S1.trans (S3.trans (T8.trans (S10.trans (S83.trans (S85.trans (S101.trans S103))))))))).1 (by ((repeat (first | rw [List.length_append] | rw [List.length_cons] | rw [List.length_nil] | rw [List.length_take] | rw [List.length_drop])) <;> omega)) fun A105 N105 C105 _ w105 F106 S105 l105 => ?_
         refine ⟨Sd.of (S83.trans (S85.trans (S101.trans (S103.trans S105)))) [5] rfl, ?_⟩
         refine g_take (v := .agg #[.slice A103 N103 C103, .slice A105 N105 C105]) F106 rfl (i := 8) (listed' := #[true, true, true, true, true, true, true, true, true, true, false]) rfl (by kernel_rfl) (by kernel_rfl) (by kernel_rfl) (fun _ _ _ h => h) (Sd.of (S83.trans (S85.trans (S101.trans (S103.trans S105)))) [5] rfl) rfl rfl rfl rfl (fun _ hz => (r_build BI_29 rfl (lc (pr2 (F106.ev 11 rfl)) (lc (pr2 (F106.ev 15 rfl)) rfl)) rfl)) fun _ F107 => ?_
         refine d_one (i := 10) (listed' := #[true, true, true, true, true, true, true, true, true, true, true]) rfl (by kernel_rfl) rfl rfl ?_
         refine s_store S105.at' 2 TI_29 rfl rfl rfl rfl rfl (F107.ev 5 rfl) (F107.ev 16 rfl) rfl rfl rfl rfl rfl fun w108 S108 => ?_
         refine ⟨Sd.of (S83.trans (S85.trans (S101.trans (S103.trans (S105.trans S108))))) [5] rfl, ?_⟩
         refine wpAnyH_done (by kernel_rfl) (x_normal ?_) _
         exact ⟨b85, A103, N103, C103, b83, A105, N105, C105, b101, F107.cut rfl, ((S10.trans (S83.trans (S85.trans (S101.trans (S103.trans (S105.trans S108)))))).pick [3, 4, 5, 2, 1, 0] rfl)⟩
     · skip
       refine f_alloc F84 S83.at' ZI_29 rfl rfl rfl rfl rfl fun b109 _ w109 F110 S109 => ?_
       refine ⟨Sd.of (S83.trans S109) [4] rfl, ?_⟩
       refine d_one (i := 0) (listed' := #[true, true, true, false, true, true, true, false, false, true, false]) rfl (by kernel_rfl) rfl rfl ?_
       refine f_buildSl (ok := okS) (vs := []) F110 S109.at' (([] : List ByteArray)) ET_27 rfl rfl rfl rfl rfl rfl rfl rfl rfl (by simp) fun b111 _ w111 F112 S111 => ?_
       refine ⟨Sd.of (S83.trans (S109.trans S111)) [5] rfl, ?_⟩
       refine d_one (i := 3) (listed' := #[true, true, true, true, true, true, true, false, false, true, false]) rfl (by kernel_rfl) rfl rfl ?_
       refine f_app (news := a.reads) F112 S111.at' 0 ET_27 rfl rfl rfl rfl rfl rfl (F112.ev 8 rfl) (F112.ev 10 rfl) ((Rd.mv (Nat.succ_pos _) V_v_a_reads (S1.trans (S3.trans (T8.trans (S10.trans (S83.trans (S109.trans S111)))))))).1 (by ((repeat (first | rw [List.length_append] | rw [List.length_cons] | rw [List.length_nil] | rw [List.length_take] | rw [List.length_drop])) <;> omega)) fun A113 N113 C113 _ w113 F114 S113 l113 => ?_
       refine ⟨Sd.of (S83.trans (S109.trans (S111.trans S113))) [5] rfl, ?_⟩
       refine d_one (i := 7) (listed' := #[true, true, true, true, true, true, true, true, false, true, false]) rfl (by kernel_rfl) rfl rfl ?_
       refine f_app (news := a.writes) F114 S113.at' 2 ET_27 rfl rfl rfl rfl rfl rfl (F114.ev 12 rfl) (F114.ev 14 rfl) ((Rd.mv (Nat.succ_pos _) V_v_a_writes (S1.trans (S3.trans (T8.trans (S10.trans (S83.trans (S109.trans (S111.trans S113))))))))).1 (by ((repeat (first | rw [List.length_append] | rw [List.length_cons] | rw [List.length_nil] | rw [List.length_take] | rw [List.length_drop])) <;> omega)) fun A115 N115 C115 _ w115 F116 S115 l115 => ?_
       refine ⟨Sd.of (S83.trans (S109.trans (S111.trans (S113.trans S115)))) [5] rfl, ?_⟩
       refine g_take (v := .agg #[.slice A113 N113 C113, .slice A115 N115 C115]) F116 rfl (i := 8) (listed' := #[true, true, true, true, true, true, true, true, true, true, false]) rfl (by kernel_rfl) (by kernel_rfl) (by kernel_rfl) (fun _ _ _ h => h) (Sd.of (S83.trans (S109.trans (S111.trans (S113.trans S115)))) [5] rfl) rfl rfl rfl rfl (fun _ hz => (r_build BI_29 rfl (lc (pr2 (F116.ev 11 rfl)) (lc (pr2 (F116.ev 15 rfl)) rfl)) rfl)) fun _ F117 => ?_
       refine d_one (i := 10) (listed' := #[true, true, true, true, true, true, true, true, true, true, true]) rfl (by kernel_rfl) rfl rfl ?_
       refine s_store S115.at' 2 TI_29 rfl rfl rfl rfl rfl (F117.ev 5 rfl) (F117.ev 16 rfl) rfl rfl rfl rfl rfl fun w118 S118 => ?_
       refine ⟨Sd.of (S83.trans (S109.trans (S111.trans (S113.trans (S115.trans S118))))) [5] rfl, ?_⟩
       refine wpAnyH_done (by kernel_rfl) (x_normal ?_) _
       exact ⟨b111, A113, N113, C113, b83, A115, N115, C115, b109, F117.cut rfl, ((S10.trans (S83.trans (S109.trans (S111.trans (S113.trans (S115.trans S118)))))).pick [3, 4, 5, 2, 1, 0] rfl)⟩
   · skip
     refine f_alloc F14 S10.at' ZI_29 rfl rfl rfl rfl rfl fun b119 _ w119 F120 S119 => ?_
     refine ⟨Sd.of S119 [3] rfl, ?_⟩
     refine d_all (rs := [0, 4]) rfl (by kernel_rfl) (by simp) (d_cons (i := 0) (listed' := #[true, true, true, false, false, true, true, false, false, true, false]) rfl rfl ?_ (d_cons (i := 4) (listed' := #[false, true, true, false, true, true, true, false, false, true, false]) rfl rfl ?_ d_nil))
     · skip
       refine f_buildSl (ok := okS) (vs := []) F120 S119.at' (([] : List ByteArray)) ET_27 rfl rfl rfl rfl rfl rfl rfl rfl rfl (by simp) fun b121 _ w121 F122 S121 => ?_
       refine ⟨Sd.of (S119.trans S121) [4] rfl, ?_⟩
       refine d_all (rs := [3, 4]) rfl (by kernel_rfl) (by simp) (d_cons (i := 3) (listed' := #[true, true, true, true, false, true, true, false, false, true, false]) rfl rfl ?_ (d_cons (i := 4) (listed' := #[true, true, true, false, true, true, true, false, false, true, false]) rfl rfl ?_ d_nil))
       · skip
         refine f_app (news := a.reads) F122 S121.at' 0 ET_27 rfl rfl rfl rfl rfl rfl (F122.ev 8 rfl) (F122.ev 10 rfl) ((Rd.mv (Nat.succ_pos _) V_v_a_reads (S1.trans (S3.trans (T8.trans (S10.trans (S119.trans S121))))))).1 (by ((repeat (first | rw [List.length_append] | rw [List.length_cons] | rw [List.length_nil] | rw [List.length_take] | rw [List.length_drop])) <;> omega)) fun A123 N123 C123 _ w123 F124 S123 l123 => ?_
         refine ⟨Sd.of (S119.trans (S121.trans S123)) [4] rfl, ?_⟩
         refine d_one (i := 4) (listed' := #[true, true, true, true, true, true, true, false, false, true, false]) rfl (by kernel_rfl) rfl rfl ?_
         refine f_buildSl (ok := okS) (vs := []) F124 S123.at' (([] : List ByteArray)) ET_27 rfl rfl rfl rfl rfl rfl rfl rfl rfl (by simp) fun b125 _ w125 F126 S125 => ?_
         refine ⟨Sd.of (S119.trans (S121.trans (S123.trans S125))) [5] rfl, ?_⟩
         refine d_one (i := 7) (listed' := #[true, true, true, true, true, true, true, true, false, true, false]) rfl (by kernel_rfl) rfl rfl ?_
         refine f_app (news := a.writes) F126 S125.at' 0 ET_27 rfl rfl rfl rfl rfl rfl (F126.ev 12 rfl) (F126.ev 14 rfl) ((Rd.mv (Nat.succ_pos _) V_v_a_writes (S1.trans (S3.trans (T8.trans (S10.trans (S119.trans (S121.trans (S123.trans S125))))))))).1 (by ((repeat (first | rw [List.length_append] | rw [List.length_cons] | rw [List.length_nil] | rw [List.length_take] | rw [List.length_drop])) <;> omega)) fun A127 N127 C127 _ w127 F128 S127 l127 => ?_
         refine ⟨Sd.of (S119.trans (S121.trans (S123.trans (S125.trans S127)))) [5] rfl, ?_⟩
         refine g_take (v := .agg #[.slice A123 N123 C123, .slice A127 N127 C127]) F128 rfl (i := 8) (listed' := #[true, true, true, true, true, true, true, true, true, true, false]) rfl (by kernel_rfl) (by kernel_rfl) (by kernel_rfl) (fun _ _ _ h => h) (Sd.of (S119.trans (S121.trans (S123.trans (S125.trans S127)))) [5] rfl) rfl rfl rfl rfl (fun _ hz => (r_build BI_29 rfl (lc (pr2 (F128.ev 11 rfl)) (lc (pr2 (F128.ev 15 rfl)) rfl)) rfl)) fun _ F129 => ?_
         refine d_one (i := 10) (listed' := #[true, true, true, true, true, true, true, true, true, true, true]) rfl (by kernel_rfl) rfl rfl ?_
         refine s_store S127.at' 2 TI_29 rfl rfl rfl rfl rfl (F129.ev 5 rfl) (F129.ev 16 rfl) rfl rfl rfl rfl rfl fun w130 S130 => ?_
         refine ⟨Sd.of (S119.trans (S121.trans (S123.trans (S125.trans (S127.trans S130))))) [5] rfl, ?_⟩
         refine wpAnyH_done (by kernel_rfl) (x_normal ?_) _
         exact ⟨b121, A123, N123, C123, b125, A127, N127, C127, b119, F129.cut rfl, ((S10.trans (S119.trans (S121.trans (S123.trans (S125.trans (S127.trans S130)))))).pick [3, 4, 5, 2, 1, 0] rfl)⟩
       · skip
         refine f_buildSl (ok := okS) (vs := []) F122 S121.at' (([] : List ByteArray)) ET_27 rfl rfl rfl rfl rfl rfl rfl rfl rfl (by simp) fun b131 _ w131 F132 S131 => ?_
         refine ⟨Sd.of (S119.trans (S121.trans S131)) [5] rfl, ?_⟩
         refine d_one (i := 3) (listed' := #[true, true, true, true, true, true, true, false, false, true, false]) rfl (by kernel_rfl) rfl rfl ?_
         refine f_app (news := a.reads) F132 S131.at' 1 ET_27 rfl rfl rfl rfl rfl rfl (F132.ev 8 rfl) (F132.ev 10 rfl) ((Rd.mv (Nat.succ_pos _) V_v_a_reads (S1.trans (S3.trans (T8.trans (S10.trans (S119.trans (S121.trans S131)))))))).1 (by ((repeat (first | rw [List.length_append] | rw [List.length_cons] | rw [List.length_nil] | rw [List.length_take] | rw [List.length_drop])) <;> omega)) fun A133 N133 C133 _ w133 F134 S133 l133 => ?_
         refine ⟨Sd.of (S119.trans (S121.trans (S131.trans S133))) [5] rfl, ?_⟩
         refine d_one (i := 7) (listed' := #[true, true, true, true, true, true, true, true, false, true, false]) rfl (by kernel_rfl) rfl rfl ?_
         refine f_app (news := a.writes) F134 S133.at' 1 ET_27 rfl rfl rfl rfl rfl rfl (F134.ev 12 rfl) (F134.ev 14 rfl) ((Rd.mv (Nat.succ_pos _) V_v_a_writes (S1.trans (S3.trans (T8.trans (S10.trans (S119.trans (S121.trans (S131.trans S133))))))))).1 (by ((repeat (first | rw [List.length_append] | rw [List.length_cons] | rw [List.length_nil] | rw [List.length_take] | rw [List.length_drop])) <;> omega)) fun A135 N135 C135 _ w135 F136 S135 l135 => ?_
         refine ⟨Sd.of (S119.trans (S121.trans (S131.trans (S133.trans S135)))) [5] rfl, ?_⟩
         refine g_take (v := .agg #[.slice A133 N133 C133, .slice A135 N135 C135]) F136 rfl (i := 8) (listed' := #[true, true, true, true, true, true, true, true, true, true, false]) rfl (by kernel_rfl) (by kernel_rfl) (by kernel_rfl) (fun _ _ _ h => h) (Sd.of (S119.trans (S121.trans (S131.trans (S133.trans S135)))) [5] rfl) rfl rfl rfl rfl (fun _ hz => (r_build BI_29 rfl (lc (pr2 (F136.ev 11 rfl)) (lc (pr2 (F136.ev 15 rfl)) rfl)) rfl)) fun _ F137 => ?_
         refine d_one (i := 10) (listed' := #[true, true, true, true, true, true, true, true, true, true, true]) rfl (by kernel_rfl) rfl rfl ?_
         refine s_store S135.at' 2 TI_29 rfl rfl rfl rfl rfl (F137.ev 5 rfl) (F137.ev 16 rfl) rfl rfl rfl rfl rfl fun w138 S138 => ?_
         refine ⟨Sd.of (S119.trans (S121.trans (S131.trans (S133.trans (S135.trans S138))))) [5] rfl, ?_⟩
         refine wpAnyH_done (by kernel_rfl) (x_normal ?_) _
         exact ⟨b121, A133, N133, C133, b131, A135, N135, C135, b119, F137.cut rfl, ((S10.trans (S119.trans (S121.trans (S131.trans (S133.trans (S135.trans S138)))))).pick [3, 4, 5, 2, 1, 0] rfl)⟩
     · skip
       refine f_buildSl (ok := okS) (vs := []) F120 S119.at' (([] : List ByteArray)) ET_27 rfl rfl rfl rfl rfl rfl rfl rfl rfl (by simp) fun b139 _ w139 F140 S139 => ?_
       refine ⟨Sd.of (S119.trans S139) [4] rfl, ?_⟩
       refine d_one (i := 0) (listed' := #[true, true, true, false, true, true, true, false, false, true, false]) rfl (by kernel_rfl) rfl rfl ?_
       refine f_buildSl (ok := okS) (vs := []) F140 S139.at' (([] : List ByteArray)) ET_27 rfl rfl rfl rfl rfl rfl rfl rfl rfl (by simp) fun b141 _ w141 F142 S141 => ?_
       refine ⟨Sd.of (S119.trans (S139.trans S141)) [5] rfl, ?_⟩
       refine d_one (i := 3) (listed' := #[true, true, true, true, true, true, true, false, false, true, false]) rfl (by kernel_rfl) rfl rfl ?_
       refine f_app (news := a.reads) F142 S141.at' 0 ET_27 rfl rfl rfl rfl rfl rfl (F142.ev 8 rfl) (F142.ev 10 rfl) ((Rd.mv (Nat.succ_pos _) V_v_a_reads (S1.trans (S3.trans (T8.trans (S10.trans (S119.trans (S139.trans S141)))))))).1 (by ((repeat (first | rw [List.length_append] | rw [List.length_cons] | rw [List.length_nil] | rw [List.length_take] | rw [List.length_drop])) <;> omega)) fun A143 N143 C143 _ w143 F144 S143 l143 => ?_
       refine ⟨Sd.of (S119.trans (S139.trans (S141.trans S143))) [5] rfl, ?_⟩
       refine d_one (i := 7) (listed' := #[true, true, true, true, true, true, true, true, false, true, false]) rfl (by kernel_rfl) rfl rfl ?_
       refine f_app (news := a.writes) F144 S143.at' 1 ET_27 rfl rfl rfl rfl rfl rfl (F144.ev 12 rfl) (F144.ev 14 rfl) ((Rd.mv (Nat.succ_pos _) V_v_a_writes (S1.trans (S3.trans (T8.trans (S10.trans (S119.trans (S139.trans (S141.trans S143))))))))).1 (by ((repeat (first | rw [List.length_append] | rw [List.length_cons] | rw [List.length_nil] | rw [List.length_take] | rw [List.length_drop])) <;> omega)) fun A145 N145 C145 _ w145 F146 S145 l145 => ?_
       refine ⟨Sd.of (S119.trans (S139.trans (S141.trans (S143.trans S145)))) [5] rfl, ?_⟩
       refine g_take (v := .agg #[.slice A143 N143 C143, .slice A145 N145 C145]) F146 rfl (i := 8) (listed' := #[true, true, true, true, true, true, true, true, true, true, false]) rfl (by kernel_rfl) (by kernel_rfl) (by kernel_rfl) (fun _ _ _ h => h) (Sd.of (S119.trans (S139.trans (S141.trans (S143.trans S145)))) [5] rfl) rfl rfl rfl rfl (fun _ hz => (r_build BI_29 rfl (lc (pr2 (F146.ev 11 rfl)) (lc (pr2 (F146.ev 15 rfl)) rfl)) rfl)) fun _ F147 => ?_
       refine d_one (i := 10) (listed' := #[true, true, true, true, true, true, true, true, true, true, true]) rfl (by kernel_rfl) rfl rfl ?_
       refine s_store S145.at' 2 TI_29 rfl rfl rfl rfl rfl (F147.ev 5 rfl) (F147.ev 16 rfl) rfl rfl rfl rfl rfl fun w148 S148 => ?_
       refine ⟨Sd.of (S119.trans (S139.trans (S141.trans (S143.trans (S145.trans S148))))) [5] rfl, ?_⟩
       refine wpAnyH_done (by kernel_rfl) (x_normal ?_) _
       exact ⟨b141, A143, N143, C143, b139, A145, N145, C145, b119, F147.cut rfl, ((S10.trans (S119.trans (S139.trans (S141.trans (S143.trans (S145.trans S148)))))).pick [3, 4, 5, 2, 1, 0] rfl)⟩
 · rintro a149 w149 ⟨b15, A17, N17, C17, b19, A21, N21, C21, b24, F149, S149⟩
   refine x_normal (wp_seq (wp_seq (wp_region_lit (l_op (f_val F149 rfl rfl (r_assign rfl rfl) rfl fun _ F150 => ?_)))))
   have F151 : Fr 50 [(6, .int .i64 0), (3, .pointer (some ⟨b3, 0, none⟩)), (4, .pointer (some ⟨b5, 0, none⟩)), (5, .pointer (some ⟨b24, 0, none⟩))] _ := F150.cut rfl
   clear F149 F150
   refine s_end (x_normal (wp_block ?_))
   have Z153 : Rd 1 encS okS (V H w [bx b5 [.slice none 0 0, .slice none 0 0] 29, bx b3 [.slice b_reads_a b_reads_n b_reads_c, .slice b_writes_a b_writes_n b_writes_c] 29, bx b1 [.slice a_reads_a a_reads_n a_reads_c, .slice a_writes_a a_writes_n a_writes_c] 29, ow 9 1 encS okS (.slice A21 N21 C21) (([] : List ByteArray) ++ a.writes), bx b24 [.slice A17 N17 C17, .slice A21 N21 C21] 29]) w149 (.slice A17 N17 C17) (([] : List ByteArray) ++ a.reads) := At.freeze (S1.trans (S3.trans (T8.trans S149))) ET_27.hk 3 rfl (fun b hb => ((S1.trans (S3.trans (T8.trans S149))).fresh b ⟨_, nth_mem (i := 3) rfl, hb⟩).resolve_left (fps_nil _))
   have S153 := At.drop S149.at' 3
   refine x_loop (fun (k : Nat) aZ wZ => ∃ (ra : Option Addr), ∃ (rn : Nat), ∃ (rc : Nat), Fr 50 [(6, .int .i64 ((k : Nat) : Int)), (3, .pointer (some ⟨b3, 0, none⟩)), (4, .pointer (some ⟨b5, 0, none⟩)), (5, .pointer (some ⟨b24, 0, none⟩))] aZ ∧ Mv [bx b5 [.slice none 0 0, .slice none 0 0] 29, bx b3 [.slice b_reads_a b_reads_n b_reads_c, .slice b_writes_a b_writes_n b_writes_c] 29, bx b1 [.slice a_reads_a a_reads_n a_reads_c, .slice a_writes_a a_writes_n a_writes_c] 29, ow 9 1 encS okS (.slice A21 N21 C21) (([] : List ByteArray) ++ a.writes), bx b24 [.slice A17 N17 C17, .slice A21 N21 C21] 29] w149 [bx b5 [.slice none 0 0, .slice none 0 0] 29, bx b3 [.slice b_reads_a b_reads_n b_reads_c, .slice b_writes_a b_writes_n b_writes_c] 29, bx b1 [.slice a_reads_a a_reads_n a_reads_c, .slice a_writes_a a_writes_n a_writes_c] 29, ow 9 1 encS okS (.slice A21 N21 C21) (([] : List ByteArray) ++ a.writes), bx b24 [.slice ra rn rc, .slice A21 N21 C21] 29] wZ ∧ Rd 1 encS okS (V H w [bx b5 [.slice none 0 0, .slice none 0 0] 29, bx b3 [.slice b_reads_a b_reads_n b_reads_c, .slice b_writes_a b_writes_n b_writes_c] 29, bx b1 [.slice a_reads_a a_reads_n a_reads_c, .slice a_writes_a a_writes_n a_writes_c] 29, ow 9 1 encS okS (.slice A21 N21 C21) (([] : List ByteArray) ++ a.writes), bx b24 [.slice ra rn rc, .slice A21 N21 C21] 29]) wZ (.slice ra rn rc) (joinL a.reads (b.reads.take k)) ∧ (k ≤ b_reads_n)) (fun (k : Nat) => b_reads_n - k) (0) ?_ ?_
   · exact ⟨A17, N17, C17, F151.cut rfl, (Mv.refl S153.at'), Z153, by omega⟩
   · rintro k a152 w152 ⟨ra, rn, rc, F152, S152, W152_0, h152_0⟩
     obtain ⟨lv152_0, lw152_0, lx152_0, ly152_0⟩ := Rd.inv W152_0
     have jl := joinL_length a.reads (b.reads.take k)
     rw [List.length_take] at jl
     refine wp_seq (wp_seq (wp_region_lit (l_op (f_mv F152 rfl rfl rfl rfl rfl fun _ F154 => ?_))))
     refine l_op (f_val F154 rfl rfl (r_field FI_29_0 rfl (F154.ev 3 rfl) rfl) rfl fun _ F155 => ?_)
     refine l_op (f_val (v := .slice b_reads_a b_reads_n b_reads_c) F155 rfl rfl (r_loadB S152.at' 1 TI_27 rfl rfl (F155.ev 18 rfl) rfl rfl (fun _ => rfl) rfl) rfl fun _ F156 => ?_)
     refine l_op (f_val F156 rfl rfl (r_len Tryd.underlying27 rfl (F156.ev 19 rfl)) rfl fun _ F157 => ?_)
     refine l_op (f_val F157 rfl rfl (r_cmp (b := decide (k < b_reads_n)) (.inr (.inr (.inl rfl))) rfl (F157.ev 17 rfl) (F157.ev 20 rfl) (dec_of (by omega))) rfl fun _ F158 => ?_)
     have F159 : Fr 50 [(21, .bool (decide (k < b_reads_n))), (6, .int .i64 ((k : Nat) : Int)), (3, .pointer (some ⟨b3, 0, none⟩)), (4, .pointer (some ⟨b5, 0, none⟩)), (5, .pointer (some ⟨b24, 0, none⟩))] _ := F158.cut rfl
     clear F152 F154 F155 F156 F157 F158
     refine s_end (x_normal (x_cond (p := k < b_reads_n) (F159.ev 21 rfl) (fun h160 => ?_) (fun h160 => ?_)))
     · skip
       refine wp_skip (x_normal (wp_seq (wp_block ?_)))
       obtain ⟨x1, hx1, okx1⟩ := Rd.elem (Rd.mv (Nat.succ_pos _) V_v_b_reads (S1.trans (S3.trans (T8.trans (S149.trans (S153.trans S152)))))) k (by first | assumption | omega)
       refine x_draw (fun aZ wZ => ∃ (r0_a_171 : Option Addr), ∃ (r0_n_171 : Nat), ∃ (r0_c_171 : Nat), Fr 50 [(3, .pointer (some ⟨b3, 0, none⟩)), (4, .pointer (some ⟨b5, 0, none⟩)), (5, .pointer (some ⟨b24, 0, none⟩)), (6, .int .i64 ((k : Nat) : Int))] aZ ∧ Mv [bx b5 [.slice none 0 0, .slice none 0 0] 29, bx b3 [.slice b_reads_a b_reads_n b_reads_c, .slice b_writes_a b_writes_n b_writes_c] 29, bx b1 [.slice a_reads_a a_reads_n a_reads_c, .slice a_writes_a a_writes_n a_writes_c] 29, ow 9 1 encS okS (.slice A21 N21 C21) (([] : List ByteArray) ++ a.writes), bx b24 [.slice ra rn rc, .slice A21 N21 C21] 29] w152 [bx b5 [.slice none 0 0, .slice none 0 0] 29, bx b3 [.slice b_reads_a b_reads_n b_reads_c, .slice b_writes_a b_writes_n b_writes_c] 29, bx b1 [.slice a_reads_a a_reads_n a_reads_c, .slice a_writes_a a_writes_n a_writes_c] 29, ow 9 1 encS okS (.slice A21 N21 C21) (([] : List ByteArray) ++ a.writes), bx b24 [.slice r0_a_171 r0_n_171 r0_c_171, .slice A21 N21 C21] 29] wZ ∧ Rd 1 encS okS (V H w [bx b5 [.slice none 0 0, .slice none 0 0] 29, bx b3 [.slice b_reads_a b_reads_n b_reads_c, .slice b_writes_a b_writes_n b_writes_c] 29, bx b1 [.slice a_reads_a a_reads_n a_reads_c, .slice a_writes_a a_writes_n a_writes_c] 29, ow 9 1 encS okS (.slice A21 N21 C21) (([] : List ByteArray) ++ a.writes), bx b24 [.slice r0_a_171 r0_n_171 r0_c_171, .slice A21 N21 C21] 29]) wZ (.slice r0_a_171 r0_n_171 r0_c_171) (putL (joinL a.reads (b.reads.take k)) x1)) [bx b3 [.slice b_reads_a b_reads_n b_reads_c, .slice b_writes_a b_writes_n b_writes_c] 29] mixed S152.at' (listed := #[false, false, false, false, false, false, false, false, false, false]) rfl (fun w162 S162 => ?_) [1] rfl ?_
       · skip
         refine g_take F159 rfl (i := 0) (listed' := #[true, false, false, false, false, false, false, false, false, false]) rfl (by kernel_rfl) (by kernel_rfl) (by kernel_rfl) (fun _ _ _ h => h) (Sd.of (Mv.refl S162.at') [1] rfl) rfl rfl rfl rfl (fun _ hz => (r_field FI_29_0 rfl (F159.ev 5 rfl) rfl)) fun _ F163 => ?_
         refine g_take F163 rfl (i := 2) (listed' := #[true, false, true, false, false, false, false, false, false, false]) rfl (by kernel_rfl) (by kernel_rfl) (by kernel_rfl) (fun _ _ _ h => h) (Sd.of (Mv.refl S162.at') [1] rfl) rfl rfl rfl rfl (fun _ hz => (r_field FI_29_0 rfl (F163.ev 3 rfl) rfl)) fun _ F164 => ?_
         refine g_take (v := .slice b_reads_a b_reads_n b_reads_c) F164 rfl (i := 3) (listed' := #[true, false, true, true, false, false, false, false, false, false]) rfl (by kernel_rfl) (by kernel_rfl) (by kernel_rfl) (fun _ _ _ h => h) (Sd.of (Mv.refl S162.at') [1] rfl) rfl rfl rfl rfl (fun _ hz => (r_loadX (hz.bx 0 rfl) TI_27 rfl (F164.ev 26 rfl) rfl rfl (fun _ => rfl) rfl)) fun _ F165 => ?_
         refine g_take F165 rfl (i := 4) (listed' := #[true, false, true, true, true, false, false, false, false, false]) rfl (by kernel_rfl) (by kernel_rfl) (by kernel_rfl) (fun _ _ _ h => h) (Sd.of (Mv.refl S162.at') [1] rfl) rfl rfl rfl rfl (fun _ hz => (r_move rfl (F165.ev 6 rfl))) fun _ F166 => ?_
         obtain ⟨B167, O167, y167, ad167, hy167, oky167, ln167, cl167⟩ := Rd.atK (Nat.succ_pos _) (Rd.mv (Nat.succ_pos _) V_v_b_reads (S1.trans (S3.trans (T8.trans (S149.trans (S153.trans (S152.trans S162))))))) k (by first | assumption | omega)
         clear ln167
         obtain rfl := Option.some.inj (hx1.symm.trans hy167)
         clear hy167 oky167
         refine g_take F166 rfl (i := 5) (listed' := #[true, false, true, true, true, true, false, false, false, false]) rfl (by kernel_rfl) (by kernel_rfl) (by kernel_rfl) (fun _ _ _ h => h) (Sd.of (Mv.refl S162.at') [1] rfl) rfl rfl rfl rfl (fun _ hz => (r_indexAddr (i := k) ET_27 rfl ((F166.ev 27 rfl).trans (by rw [ad167])) (F166.ev 28 rfl) (by omega) (by first | assumption | omega))) fun _ F168 => ?_
         refine g_take (v := .string x1) F168 rfl (i := 6) (listed' := #[true, false, true, true, true, true, true, false, false, false]) rfl (by kernel_rfl) (by kernel_rfl) (by kernel_rfl) (fun _ _ _ h => h) (Sd.of (Mv.refl S162.at') [1] rfl) rfl rfl rfl rfl (fun _ hz => (r_load (cs := [.string x1]) TI_9 rfl (F168.ev 29 rfl) rfl (fun _ => rfl) (elem_sub (f := 0) (cl167 _ hz.kp) [.string x1] rfl))) fun _ F169 => ?_
         refine d_one (i := 1) (listed' := #[true, true, true, true, true, true, true, false, false, false]) rfl (by kernel_rfl) rfl rfl ?_
         refine f_val (v := .slice ra rn rc) F169 rfl rfl (r_loadB S162.at' 4 TI_27 rfl rfl (F169.ev 24 rfl) rfl rfl (fun _ => rfl) rfl) rfl fun _ F170 => ?_
         refine ⟨Sd.of (Mv.refl S162.at') [1] rfl, ?_⟩
         refine d_one (i := 7) (listed' := #[true, true, true, true, true, true, true, true, false, false]) rfl (by kernel_rfl) rfl rfl ?_
         refine f_call F170 CF_143 rfl rfl rfl rfl (lc (F170.ev 25 rfl) (lc (F170.ev 30 rfl) rfl)) (spec_AddSpan_c (list := joinL a.reads (b.reads.take k)) (span := x1) (Rd.mv (Nat.succ_pos _) W152_0 S162) okx1 (by first | assumption | omega | (simp <;> omega))) ?_
         rintro _ w171 ⟨r0_a_171, r0_n_171, r0_c_171, rfl, m171, v171_0⟩
         refine ⟨_, rfl, fun _ F172 => ?_⟩
         have S171 := At.frame0 S162.at' m171
         have V171_0 := Rd.got0 S162.at' ((S1.trans (S3.trans (T8.trans (S149.trans (S153.trans (S152.trans S162)))))).kp.size) v171_0 S171
         obtain ⟨ln171_0, le171_0, mx171_0, ni171_0⟩ := Rd.inv V171_0
         clear m171 v171_0
         refine ⟨Sd.of S171 [1] rfl, ?_⟩
         refine g_take F172 rfl (i := 8) (listed' := #[true, true, true, true, true, true, true, true, true, false]) rfl (by kernel_rfl) (by kernel_rfl) (by kernel_rfl) (fun _ _ _ h => h) (Sd.of S171 [1] rfl) rfl rfl rfl rfl (fun _ hz => (r_field FI_29_0 rfl (F172.ev 5 rfl) rfl)) fun _ F173 => ?_
         refine d_one (i := 9) (listed' := #[true, true, true, true, true, true, true, true, true, true]) rfl (by kernel_rfl) rfl rfl ?_
         refine s_store S171.at' 4 TI_27 rfl rfl rfl rfl rfl (F173.ev 32 rfl) (F173.ev 31 rfl) rfl rfl rfl rfl rfl fun w174 S174 => ?_
         refine ⟨Sd.of (S171.trans S174) [2] rfl, ?_⟩
         refine wpAnyH_done (by kernel_rfl) (x_normal ?_) _
         exact ⟨r0_a_171, r0_n_171, r0_c_171, F173.cut rfl, ((S162.trans (S171.trans S174)).pick [1, 2, 3, 4, 0] rfl), (Rd.mv (Nat.succ_pos _) (Rd.mv (Nat.succ_pos _) V171_0 S174) (Mv.pick (Mv.refl S174.at') [1, 2, 3, 4, 0] rfl))⟩
       · rintro a175 w175 ⟨r0_a_171, r0_n_171, r0_c_171, F175, S175, V175_0⟩
         obtain ⟨ln175_0, le175_0, mx175_0, ni175_0⟩ := Rd.inv V175_0
         refine x_block_normal (x_normal (wp_region_lit (l_op (f_mv F175 rfl rfl rfl rfl rfl fun _ F176 => ?_))))
         refine l_op (f_val F176 rfl rfl (r_add (z := ((k + 1 : Nat) : Int)) rfl (F176.ev 22 rfl) rfl (by first | rfl | omega) ⟨by first | omega | (unfold i64ok at *; omega), by first | omega | (unfold i64ok at *; omega)⟩) rfl fun _ F177 => ?_)
         refine l_op (f_as F177 rfl rfl rfl rfl rfl fun _ F178 => ?_)
         have F179 : Fr 50 [(6, .int .i64 ((k + 1 : Nat) : Int)), (3, .pointer (some ⟨b3, 0, none⟩)), (4, .pointer (some ⟨b5, 0, none⟩)), (5, .pointer (some ⟨b24, 0, none⟩))] _ := F178.cut rfl
         clear F175 F176 F177 F178
         refine s_end ?_
         refine x_normal ⟨k + 1, by omega, r0_a_171, r0_n_171, r0_c_171, F179.cut rfl, ((S152.trans S175).pick [0, 1, 2, 3, 4] rfl), (Rd.cast V175_0 (by exact (joinL_step hx1).symm)), by omega⟩
     · skip
       refine wp_exit (x_then_exit (x_then_exit (x_block_here (x_normal (wp_seq (wp_seq (wp_region_lit (l_op (f_val F159 rfl rfl (r_assign rfl rfl) rfl fun _ F180 => ?_)))))))))
       have F181 : Fr 50 [(7, .int .i64 0), (3, .pointer (some ⟨b3, 0, none⟩)), (4, .pointer (some ⟨b5, 0, none⟩)), (5, .pointer (some ⟨b24, 0, none⟩))] _ := F180.cut rfl
       clear F159 F180
       refine s_end (x_normal (wp_block ?_))
       have Z183 : Rd 1 encS okS (V H w [bx b5 [.slice none 0 0, .slice none 0 0] 29, bx b3 [.slice b_reads_a b_reads_n b_reads_c, .slice b_writes_a b_writes_n b_writes_c] 29, bx b1 [.slice a_reads_a a_reads_n a_reads_c, .slice a_writes_a a_writes_n a_writes_c] 29, bx b24 [.slice ra rn rc, .slice A21 N21 C21] 29]) w152 (.slice A21 N21 C21) (([] : List ByteArray) ++ a.writes) := At.freeze (S1.trans (S3.trans (T8.trans (S149.trans (S153.trans S152))))) ET_27.hk 3 rfl (fun b hb => ((S1.trans (S3.trans (T8.trans (S149.trans (S153.trans S152))))).fresh b ⟨_, nth_mem (i := 3) rfl, hb⟩).resolve_left (fps_nil _))
       have S183 := At.drop S152.at' 3
       refine x_loop (fun (j : Nat) aZ wZ => ∃ (ua : Option Addr), ∃ (un : Nat), ∃ (uc : Nat), Fr 50 [(7, .int .i64 ((j : Nat) : Int)), (3, .pointer (some ⟨b3, 0, none⟩)), (4, .pointer (some ⟨b5, 0, none⟩)), (5, .pointer (some ⟨b24, 0, none⟩))] aZ ∧ Mv [bx b5 [.slice none 0 0, .slice none 0 0] 29, bx b3 [.slice b_reads_a b_reads_n b_reads_c, .slice b_writes_a b_writes_n b_writes_c] 29, bx b1 [.slice a_reads_a a_reads_n a_reads_c, .slice a_writes_a a_writes_n a_writes_c] 29, bx b24 [.slice ra rn rc, .slice A21 N21 C21] 29] w152 [bx b5 [.slice none 0 0, .slice none 0 0] 29, bx b3 [.slice b_reads_a b_reads_n b_reads_c, .slice b_writes_a b_writes_n b_writes_c] 29, bx b1 [.slice a_reads_a a_reads_n a_reads_c, .slice a_writes_a a_writes_n a_writes_c] 29, bx b24 [.slice ra rn rc, .slice ua un uc] 29] wZ ∧ Rd 1 encS okS (V H w [bx b5 [.slice none 0 0, .slice none 0 0] 29, bx b3 [.slice b_reads_a b_reads_n b_reads_c, .slice b_writes_a b_writes_n b_writes_c] 29, bx b1 [.slice a_reads_a a_reads_n a_reads_c, .slice a_writes_a a_writes_n a_writes_c] 29, bx b24 [.slice ra rn rc, .slice ua un uc] 29]) wZ (.slice ua un uc) (joinL a.writes (b.writes.take j)) ∧ (j ≤ b_writes_n)) (fun (j : Nat) => b_writes_n - j) (0) ?_ ?_
       · exact ⟨A21, N21, C21, F181.cut rfl, (Mv.refl S183.at'), Z183, by omega⟩
       · rintro j a182 w182 ⟨ua, un, uc, F182, S182, W182_0, h182_0⟩
         obtain ⟨lv182_0, lw182_0, lx182_0, ly182_0⟩ := Rd.inv W182_0
         have jl := joinL_length a.writes (b.writes.take j)
         rw [List.length_take] at jl
         refine wp_seq (wp_seq (wp_region_lit (l_op (f_mv F182 rfl rfl rfl rfl rfl fun _ F184 => ?_))))
         refine l_op (f_val F184 rfl rfl (r_field FI_29_1 rfl (F184.ev 3 rfl) rfl) rfl fun _ F185 => ?_)
         refine l_op (f_val (v := .slice b_writes_a b_writes_n b_writes_c) F185 rfl rfl (r_loadB S182.at' 1 TI_27 rfl rfl (F185.ev 34 rfl) rfl rfl (fun _ => rfl) rfl) rfl fun _ F186 => ?_)
         refine l_op (f_val F186 rfl rfl (r_len Tryd.underlying27 rfl (F186.ev 35 rfl)) rfl fun _ F187 => ?_)
         refine l_op (f_val F187 rfl rfl (r_cmp (b := decide (j < b_writes_n)) (.inr (.inr (.inl rfl))) rfl (F187.ev 33 rfl) (F187.ev 36 rfl) (dec_of (by omega))) rfl fun _ F188 => ?_)
         have F189 : Fr 50 [(37, .bool (decide (j < b_writes_n))), (7, .int .i64 ((j : Nat) : Int)), (3, .pointer (some ⟨b3, 0, none⟩)), (4, .pointer (some ⟨b5, 0, none⟩)), (5, .pointer (some ⟨b24, 0, none⟩))] _ := F188.cut rfl
         clear F182 F184 F185 F186 F187 F188
         refine s_end (x_normal (x_cond (p := j < b_writes_n) (F189.ev 37 rfl) (fun h190 => ?_) (fun h190 => ?_)))
         · skip
           refine wp_skip (x_normal (wp_seq (wp_block ?_)))
           obtain ⟨x1, hx1, okx1⟩ := Rd.elem (Rd.mv (Nat.succ_pos _) V_v_b_writes (S1.trans (S3.trans (T8.trans (S149.trans (S153.trans (S152.trans (S183.trans S182)))))))) j (by first | assumption | omega)
           refine x_draw (fun aZ wZ => ∃ (r0_a_201 : Option Addr), ∃ (r0_n_201 : Nat), ∃ (r0_c_201 : Nat), Fr 50 [(3, .pointer (some ⟨b3, 0, none⟩)), (4, .pointer (some ⟨b5, 0, none⟩)), (5, .pointer (some ⟨b24, 0, none⟩)), (7, .int .i64 ((j : Nat) : Int))] aZ ∧ Mv [bx b5 [.slice none 0 0, .slice none 0 0] 29, bx b3 [.slice b_reads_a b_reads_n b_reads_c, .slice b_writes_a b_writes_n b_writes_c] 29, bx b1 [.slice a_reads_a a_reads_n a_reads_c, .slice a_writes_a a_writes_n a_writes_c] 29, bx b24 [.slice ra rn rc, .slice ua un uc] 29] w182 [bx b5 [.slice none 0 0, .slice none 0 0] 29, bx b3 [.slice b_reads_a b_reads_n b_reads_c, .slice b_writes_a b_writes_n b_writes_c] 29, bx b1 [.slice a_reads_a a_reads_n a_reads_c, .slice a_writes_a a_writes_n a_writes_c] 29, bx b24 [.slice ra rn rc, .slice r0_a_201 r0_n_201 r0_c_201] 29] wZ ∧ Rd 1 encS okS (V H w [bx b5 [.slice none 0 0, .slice none 0 0] 29, bx b3 [.slice b_reads_a b_reads_n b_reads_c, .slice b_writes_a b_writes_n b_writes_c] 29, bx b1 [.slice a_reads_a a_reads_n a_reads_c, .slice a_writes_a a_writes_n a_writes_c] 29, bx b24 [.slice ra rn rc, .slice r0_a_201 r0_n_201 r0_c_201] 29]) wZ (.slice r0_a_201 r0_n_201 r0_c_201) (putL (joinL a.writes (b.writes.take j)) x1)) [bx b3 [.slice b_reads_a b_reads_n b_reads_c, .slice b_writes_a b_writes_n b_writes_c] 29] mixed S182.at' (listed := #[false, false, false, false, false, false, false, false, false, false]) rfl (fun w192 S192 => ?_) [1] rfl ?_
           · skip
             refine g_take F189 rfl (i := 0) (listed' := #[true, false, false, false, false, false, false, false, false, false]) rfl (by kernel_rfl) (by kernel_rfl) (by kernel_rfl) (fun _ _ _ h => h) (Sd.of (Mv.refl S192.at') [1] rfl) rfl rfl rfl rfl (fun _ hz => (r_field FI_29_1 rfl (F189.ev 5 rfl) rfl)) fun _ F193 => ?_
             refine g_take F193 rfl (i := 2) (listed' := #[true, false, true, false, false, false, false, false, false, false]) rfl (by kernel_rfl) (by kernel_rfl) (by kernel_rfl) (fun _ _ _ h => h) (Sd.of (Mv.refl S192.at') [1] rfl) rfl rfl rfl rfl (fun _ hz => (r_field FI_29_1 rfl (F193.ev 3 rfl) rfl)) fun _ F194 => ?_
             refine g_take (v := .slice b_writes_a b_writes_n b_writes_c) F194 rfl (i := 3) (listed' := #[true, false, true, true, false, false, false, false, false, false]) rfl (by kernel_rfl) (by kernel_rfl) (by kernel_rfl) (fun _ _ _ h => h) (Sd.of (Mv.refl S192.at') [1] rfl) rfl rfl rfl rfl (fun _ hz => (r_loadX (hz.bx 0 rfl) TI_27 rfl (F194.ev 42 rfl) rfl rfl (fun _ => rfl) rfl)) fun _ F195 => ?_
             refine g_take F195 rfl (i := 4) (listed' := #[true, false, true, true, true, false, false, false, false, false]) rfl (by kernel_rfl) (by kernel_rfl) (by kernel_rfl) (fun _ _ _ h => h) (Sd.of (Mv.refl S192.at') [1] rfl) rfl rfl rfl rfl (fun _ hz => (r_move rfl (F195.ev 7 rfl))) fun _ F196 => ?_
             obtain ⟨B197, O197, y197, ad197, hy197, oky197, ln197, cl197⟩ := Rd.atK (Nat.succ_pos _) (Rd.mv (Nat.succ_pos _) V_v_b_writes (S1.trans (S3.trans (T8.trans (S149.trans (S153.trans (S152.trans (S183.trans (S182.trans S192))))))))) j (by first | assumption | omega)
             clear ln197
             obtain rfl := Option.some.inj (hx1.symm.trans hy197)
             clear hy197 oky197
             refine g_take F196 rfl (i := 5) (listed' := #[true, false, true, true, true, true, false, false, false, false]) rfl (by kernel_rfl) (by kernel_rfl) (by kernel_rfl) (fun _ _ _ h => h) (Sd.of (Mv.refl S192.at') [1] rfl) rfl rfl rfl rfl (fun _ hz => (r_indexAddr (i := j) ET_27 rfl ((F196.ev 43 rfl).trans (by rw [ad197])) (F196.ev 44 rfl) (by omega) (by first | assumption | omega))) fun _ F198 => ?_
             refine g_take (v := .string x1) F198 rfl (i := 6) (listed' := #[true, false, true, true, true, true, true, false, false, false]) rfl (by kernel_rfl) (by kernel_rfl) (by kernel_rfl) (fun _ _ _ h => h) (Sd.of (Mv.refl S192.at') [1] rfl) rfl rfl rfl rfl (fun _ hz => (r_load (cs := [.string x1]) TI_9 rfl (F198.ev 45 rfl) rfl (fun _ => rfl) (elem_sub (f := 0) (cl197 _ hz.kp) [.string x1] rfl))) fun _ F199 => ?_
             refine d_one (i := 1) (listed' := #[true, true, true, true, true, true, true, false, false, false]) rfl (by kernel_rfl) rfl rfl ?_
             refine f_val (v := .slice ua un uc) F199 rfl rfl (r_loadB S192.at' 3 TI_27 rfl rfl (F199.ev 40 rfl) rfl rfl (fun _ => rfl) rfl) rfl fun _ F200 => ?_
             refine ⟨Sd.of (Mv.refl S192.at') [1] rfl, ?_⟩
             refine d_one (i := 7) (listed' := #[true, true, true, true, true, true, true, true, false, false]) rfl (by kernel_rfl) rfl rfl ?_
             refine f_call F200 CF_143 rfl rfl rfl rfl (lc (F200.ev 41 rfl) (lc (F200.ev 46 rfl) rfl)) (spec_AddSpan_c (list := joinL a.writes (b.writes.take j)) (span := x1) (Rd.mv (Nat.succ_pos _) W182_0 S192) okx1 (by first | assumption | omega | (simp <;> omega))) ?_
             rintro _ w201 ⟨r0_a_201, r0_n_201, r0_c_201, rfl, m201, v201_0⟩
             refine ⟨_, rfl, fun _ F202 => ?_⟩
             have S201 := At.frame0 S192.at' m201
             have V201_0 := Rd.got0 S192.at' ((S1.trans (S3.trans (T8.trans (S149.trans (S153.trans (S152.trans (S183.trans (S182.trans S192)))))))).kp.size) v201_0 S201
             obtain ⟨ln201_0, le201_0, mx201_0, ni201_0⟩ := Rd.inv V201_0
             clear m201 v201_0
             refine ⟨Sd.of S201 [1] rfl, ?_⟩
             refine g_take F202 rfl (i := 8) (listed' := #[true, true, true, true, true, true, true, true, true, false]) rfl (by kernel_rfl) (by kernel_rfl) (by kernel_rfl) (fun _ _ _ h => h) (Sd.of S201 [1] rfl) rfl rfl rfl rfl (fun _ hz => (r_field FI_29_1 rfl (F202.ev 5 rfl) rfl)) fun _ F203 => ?_
             refine d_one (i := 9) (listed' := #[true, true, true, true, true, true, true, true, true, true]) rfl (by kernel_rfl) rfl rfl ?_
             refine s_store S201.at' 3 TI_27 rfl rfl rfl rfl rfl (F203.ev 48 rfl) (F203.ev 47 rfl) rfl rfl rfl rfl rfl fun w204 S204 => ?_
             refine ⟨Sd.of (S201.trans S204) [2] rfl, ?_⟩
             refine wpAnyH_done (by kernel_rfl) (x_normal ?_) _
             exact ⟨r0_a_201, r0_n_201, r0_c_201, F203.cut rfl, ((S192.trans (S201.trans S204)).pick [1, 2, 3, 0] rfl), (Rd.mv (Nat.succ_pos _) (Rd.mv (Nat.succ_pos _) V201_0 S204) (Mv.pick (Mv.refl S204.at') [1, 2, 3, 0] rfl))⟩
           · rintro a205 w205 ⟨r0_a_201, r0_n_201, r0_c_201, F205, S205, V205_0⟩
             obtain ⟨ln205_0, le205_0, mx205_0, ni205_0⟩ := Rd.inv V205_0
             refine x_block_normal (x_normal (wp_region_lit (l_op (f_mv F205 rfl rfl rfl rfl rfl fun _ F206 => ?_))))
             refine l_op (f_val F206 rfl rfl (r_add (z := ((j + 1 : Nat) : Int)) rfl (F206.ev 38 rfl) rfl (by first | rfl | omega) ⟨by first | omega | (unfold i64ok at *; omega), by first | omega | (unfold i64ok at *; omega)⟩) rfl fun _ F207 => ?_)
             refine l_op (f_as F207 rfl rfl rfl rfl rfl fun _ F208 => ?_)
             have F209 : Fr 50 [(7, .int .i64 ((j + 1 : Nat) : Int)), (3, .pointer (some ⟨b3, 0, none⟩)), (4, .pointer (some ⟨b5, 0, none⟩)), (5, .pointer (some ⟨b24, 0, none⟩))] _ := F208.cut rfl
             clear F205 F206 F207 F208
             refine s_end ?_
             refine x_normal ⟨j + 1, by omega, r0_a_201, r0_n_201, r0_c_201, F209.cut rfl, ((S182.trans S205).pick [0, 1, 2, 3] rfl), (Rd.cast V205_0 (by exact (joinL_step hx1).symm)), by omega⟩
         · skip
           refine wp_exit (x_then_exit (x_then_exit (x_block_here (x_normal (wp_seq (wp_region_lit (l_op (f_val (v := .agg #[.slice ra rn rc, .slice ua un uc]) F189 rfl rfl (r_loadB S182.at' 3 TI_29 rfl rfl (F189.ev 5 rfl) rfl rfl (fun h => nomatch h) rfl) rfl fun _ F210 => ?_))))))))
           refine l_op (s_store S182.at' 0 TI_29 rfl rfl rfl rfl rfl (F210.ev 4 rfl) (F210.ev 49 rfl) rfl rfl rfl rfl rfl fun w211 S211 => ?_)
           have F212 : Fr 50 [(49, .agg #[.slice ra rn rc, .slice ua un uc]), (4, .pointer (some ⟨b5, 0, none⟩))] _ := F210.cut rfl
           clear F189 F210
           have T213 : Mv _ _ [bx b5 [.slice ra rn rc, .slice ua un uc] 29, bx b3 [.slice b_reads_a b_reads_n b_reads_c, .slice b_writes_a b_writes_n b_writes_c] 29, bx b1 [.slice a_reads_a a_reads_n a_reads_c, .slice a_writes_a a_writes_n a_writes_c] 29, bx b24 [.slice ra rn rc, .slice ua un uc] 29] _ := S211
           refine s_end (x_normal (wp_ret ?_))
           refine x_done (v := .agg #[.slice ra rn rc, .slice ua un uc]) F212 (results_1 Tryd.results118 (.cell (F212.ev 4 rfl) (run_loadVar' TI_29 _ [.slice ra rn rc, .slice ua un uc] rfl (fun h => nomatch h) (At.cells T213.at' 0 rfl 0 [.slice ra rn rc, .slice ua un uc] rfl)))) ?_
           exact ⟨ra, rn, rc, ua, un, uc, rfl, (Mv.pick (S1.trans (S3.trans (T8.trans (S149.trans (S153.trans (S152.trans (S183.trans (S182.trans T213)))))))) [] rfl), (Rd.cast (Rd.give (Rd.mv (Nat.succ_pos _) W152_0 (S183.trans (S182.trans T213)))) (show (joinL a.reads (b.reads.take k)) = (joinT a b).reads from by unfold joinT; dsimp only; congr 1; exact List.take_of_length_le (by omega))), (Rd.cast (Rd.give (Rd.mv (Nat.succ_pos _) W182_0 T213)) (show (joinL a.writes (b.writes.take j)) = (joinT a b).writes from by unfold joinT; dsimp only; congr 1; exact List.take_of_length_le (by omega)))⟩
theorem spec_l04Copy_c {w : World} {H : Nat → Prop} {m : MachD} {m_store_a : Option Addr} {m_store_n m_store_c : Nat} {m_touch_reads_a : Option Addr} {m_touch_reads_n m_touch_reads_c : Nat} {m_touch_writes_a : Option Addr} {m_touch_writes_n m_touch_writes_c : Nat} (v_m_store : Rd 2 encC okC H w (.slice m_store_a m_store_n m_store_c) m.store) (v_m_touch_reads : Rd 1 encS okS H w (.slice m_touch_reads_a m_touch_reads_n m_touch_reads_c) m.touch.reads) (v_m_touch_writes : Rd 1 encS okS H w (.slice m_touch_writes_a m_touch_writes_n m_touch_writes_c) m.touch.writes) (p0 : m.store.length ≤ 274877906944) (p1 : m.touch.reads.length ≤ 274877906944) (p2 : m.touch.writes.length ≤ 274877906944) :
    Calls Tryd.prog 79 #[.agg #[.slice m_store_a m_store_n m_store_c, .slice m_touch_reads_a m_touch_reads_n m_touch_reads_c, .slice m_touch_writes_a m_touch_writes_n m_touch_writes_c]] w fun e w' => ∃ (r0_store_a : Option Addr), ∃ (r0_store_n : Nat), ∃ (r0_store_c : Nat), ∃ (r0_touch_reads_a : Option Addr), ∃ (r0_touch_reads_n : Nat), ∃ (r0_touch_reads_c : Nat), ∃ (r0_touch_writes_a : Option Addr), ∃ (r0_touch_writes_n : Nat), ∃ (r0_touch_writes_c : Nat), e = .returned (.agg #[.slice r0_store_a r0_store_n r0_store_c, .slice r0_touch_reads_a r0_touch_reads_n r0_touch_reads_c, .slice r0_touch_writes_a r0_touch_writes_n r0_touch_writes_c]) ∧ Mv [] w [] w' ∧ Rd 2 encC okC (Fsh H w) w' (.slice r0_store_a r0_store_n r0_store_c) m.store ∧ Rd 1 encS okS (Fsh H w) w' (.slice r0_touch_reads_a r0_touch_reads_n r0_touch_reads_c) m.touch.reads ∧ Rd 1 encS okS (Fsh H w) w' (.slice r0_touch_writes_a r0_touch_writes_n r0_touch_writes_c) m.touch.writes := by
 have uU : True := (fun _ _ _ => trivial) p0 p1 p2
 clear uU
 have V_v_m_store : Rd 2 encC okC (V H w []) w (.slice m_store_a m_store_n m_store_c) m.store := Rd.start v_m_store (fun _ _ => fps_nil _)
 obtain ⟨ln_m_store, le_m_store, mx_m_store, ni_m_store⟩ := Rd.inv v_m_store
 have V_v_m_touch_reads : Rd 1 encS okS (V H w []) w (.slice m_touch_reads_a m_touch_reads_n m_touch_reads_c) m.touch.reads := Rd.start v_m_touch_reads (fun _ _ => fps_nil _)
 obtain ⟨ln_m_touch_reads, le_m_touch_reads, mx_m_touch_reads, ni_m_touch_reads⟩ := Rd.inv v_m_touch_reads
 have V_v_m_touch_writes : Rd 1 encS okS (V H w []) w (.slice m_touch_writes_a m_touch_writes_n m_touch_writes_c) m.touch.writes := Rd.start v_m_touch_writes (fun _ _ => fps_nil _)
 obtain ⟨ln_m_touch_writes, le_m_touch_writes, mx_m_touch_writes, ni_m_touch_writes⟩ := Rd.inv v_m_touch_writes
 refine calls_enter 12 Tryd.func79 rfl Tryd.ntmps79 (Nat.le_of_ble_eq_true rfl) (fun _ F0i => ?_)
 have F0 : Fr 12 [(0, .agg #[.slice m_store_a m_store_n m_store_c, .slice m_touch_reads_a m_touch_reads_n m_touch_reads_c, .slice m_touch_writes_a m_touch_writes_n m_touch_writes_c])] _ := F0i
 clear F0i
 refine wp_seq (wp_region_lit (l_op (f_box F0 (At.nil w) rfl rfl rfl (F0.ev 0 rfl) rfl rfl fun b1 _ w1 F2 S1 => ?_)))
 refine l_op (f_alloc F2 S1.at' ZI_31 rfl rfl rfl rfl rfl fun b3 _ w3 F4 S3 => ?_)
 have F5 : Fr 12 [(2, .pointer (some ⟨b3, 0, none⟩)), (1, .pointer (some ⟨b1, 0, none⟩))] _ := F4.cut rfl
 clear F0 F2 F4
 have T6 : Mv _ _ [bx b3 [.slice none 0 0, .slice none 0 0, .slice none 0 0] 31, bx b1 [.slice m_store_a m_store_n m_store_c, .slice m_touch_reads_a m_touch_reads_n m_touch_reads_c, .slice m_touch_writes_a m_touch_writes_n m_touch_writes_c] 31] _ := S3
 refine s_end (x_normal (wp_seq ?_))
 refine x_draw (fun aZ wZ => ∃ (b14 : Nat), ∃ (A16 : Option Addr), ∃ (N16 : Nat), ∃ (C16 : Nat), ∃ (r0_reads_a_18 : Option Addr), ∃ (r0_reads_n_18 : Nat), ∃ (r0_reads_c_18 : Nat), ∃ (r0_writes_a_18 : Option Addr), ∃ (r0_writes_n_18 : Nat), ∃ (r0_writes_c_18 : Nat), Fr 12 [(2, .pointer (some ⟨b3, 0, none⟩))] aZ ∧ Mv [bx b3 [.slice none 0 0, .slice none 0 0, .slice none 0 0] 31, bx b1 [.slice m_store_a m_store_n m_store_c, .slice m_touch_reads_a m_touch_reads_n m_touch_reads_c, .slice m_touch_writes_a m_touch_writes_n m_touch_writes_c] 31] w3 [bx b3 [.slice A16 N16 C16, .slice r0_reads_a_18 r0_reads_n_18 r0_reads_c_18, .slice r0_writes_a_18 r0_writes_n_18 r0_writes_c_18] 31, bx b1 [.slice m_store_a m_store_n m_store_c, .slice m_touch_reads_a m_touch_reads_n m_touch_reads_c, .slice m_touch_writes_a m_touch_writes_n m_touch_writes_c] 31, ow 81 2 encC okC (.slice A16 N16 C16) (([] : List CellD) ++ m.store)] wZ ∧ Rd 1 encS okS (V H w [bx b3 [.slice A16 N16 C16, .slice r0_reads_a_18 r0_reads_n_18 r0_reads_c_18, .slice r0_writes_a_18 r0_writes_n_18 r0_writes_c_18] 31, bx b1 [.slice m_store_a m_store_n m_store_c, .slice m_touch_reads_a m_touch_reads_n m_touch_reads_c, .slice m_touch_writes_a m_touch_writes_n m_touch_writes_c] 31, ow 81 2 encC okC (.slice A16 N16 C16) (([] : List CellD) ++ m.store)]) wZ (.slice r0_reads_a_18 r0_reads_n_18 r0_reads_c_18) (joinT m.touch (⟨[], []⟩ : TouchD)).reads ∧ Rd 1 encS okS (V H w [bx b3 [.slice A16 N16 C16, .slice r0_reads_a_18 r0_reads_n_18 r0_reads_c_18, .slice r0_writes_a_18 r0_writes_n_18 r0_writes_c_18] 31, bx b1 [.slice m_store_a m_store_n m_store_c, .slice m_touch_reads_a m_touch_reads_n m_touch_reads_c, .slice m_touch_writes_a m_touch_writes_n m_touch_writes_c] 31, ow 81 2 encC okC (.slice A16 N16 C16) (([] : List CellD) ++ m.store)]) wZ (.slice r0_writes_a_18 r0_writes_n_18 r0_writes_c_18) (joinT m.touch (⟨[], []⟩ : TouchD)).writes) [bx b1 [.slice m_store_a m_store_n m_store_c, .slice m_touch_reads_a m_touch_reads_n m_touch_reads_c, .slice m_touch_writes_a m_touch_writes_n m_touch_writes_c] 31] mixed T6.at' (listed := #[false, false, false, false, false, false, false, false, false, false]) rfl (fun w8 S8 => ?_) [1] rfl ?_
 · skip
   refine g_take F5 rfl (i := 1) (listed' := #[false, true, false, false, false, false, false, false, false, false]) rfl (by kernel_rfl) (by kernel_rfl) (by kernel_rfl) (fun _ _ _ h => h) (Sd.of (Mv.refl S8.at') [1] rfl) rfl rfl rfl rfl (fun _ hz => (r_field FI_31_0 rfl (F5.ev 1 rfl) rfl)) fun _ F9 => ?_
   refine g_take (v := .slice m_store_a m_store_n m_store_c) F9 rfl (i := 2) (listed' := #[false, true, true, false, false, false, false, false, false, false]) rfl (by kernel_rfl) (by kernel_rfl) (by kernel_rfl) (fun _ _ _ h => h) (Sd.of (Mv.refl S8.at') [1] rfl) rfl rfl rfl rfl (fun _ hz => (r_loadX (hz.bx 0 rfl) TI_26 rfl (F9.ev 4 rfl) rfl rfl (fun _ => rfl) rfl)) fun _ F10 => ?_
   refine g_take F10 rfl (i := 4) (listed' := #[false, true, true, false, true, false, false, false, false, false]) rfl (by kernel_rfl) (by kernel_rfl) (by kernel_rfl) (fun _ _ _ h => h) (Sd.of (Mv.refl S8.at') [1] rfl) rfl rfl rfl rfl (fun _ hz => (r_field FI_31_1 rfl (F10.ev 1 rfl) rfl)) fun _ F11 => ?_
   refine g_take (v := .agg #[.slice m_touch_reads_a m_touch_reads_n m_touch_reads_c, .slice m_touch_writes_a m_touch_writes_n m_touch_writes_c]) F11 rfl (i := 5) (listed' := #[false, true, true, false, true, true, false, false, false, false]) rfl (by kernel_rfl) (by kernel_rfl) (by kernel_rfl) (fun _ _ _ h => h) (Sd.of (Mv.refl S8.at') [1] rfl) rfl rfl rfl rfl (fun _ hz => (r_loadX (hz.bx 0 rfl) TI_29 rfl (F11.ev 7 rfl) rfl rfl (fun h => nomatch h) rfl)) fun _ F12 => ?_
   refine g_take (v := .agg #[.slice none 0 0, .slice none 0 0]) F12 rfl (i := 6) (listed' := #[false, true, true, false, true, true, true, false, false, false]) rfl (by kernel_rfl) (by kernel_rfl) (by kernel_rfl) (fun _ _ _ h => h) (Sd.of (Mv.refl S8.at') [1] rfl) rfl rfl rfl rfl (fun _ hz => (r_build BI_29 rfl rfl rfl)) fun _ F13 => ?_
   refine d_one (i := 0) (listed' := #[true, true, true, false, true, true, true, false, false, false]) rfl (by kernel_rfl) rfl rfl ?_
   refine f_buildSl (ok := okC) (vs := []) F13 S8.at' (([] : List CellD)) ET_26 rfl rfl rfl rfl rfl rfl rfl rfl rfl (by simp) fun b14 _ w14 F15 S14 => ?_
   refine ⟨Sd.of S14 [2] rfl, ?_⟩
   refine d_one (i := 3) (listed' := #[true, true, true, true, true, true, true, false, false, false]) rfl (by kernel_rfl) rfl rfl ?_
   refine f_app (news := m.store) F15 S14.at' 0 ET_26 rfl rfl rfl rfl rfl rfl (F15.ev 3 rfl) (F15.ev 5 rfl) ((Rd.mv (Nat.succ_pos _) V_v_m_store (S1.trans (T6.trans (S8.trans S14))))).1 (by ((repeat (first | rw [List.length_append] | rw [List.length_cons] | rw [List.length_nil] | rw [List.length_take] | rw [List.length_drop])) <;> omega)) fun A16 N16 C16 _ w16 F17 S16 l16 => ?_
   refine ⟨Sd.of (S14.trans S16) [2] rfl, ?_⟩
   refine d_one (i := 7) (listed' := #[true, true, true, true, true, true, true, true, false, false]) rfl (by kernel_rfl) rfl rfl ?_
   refine f_call F17 CF_118 rfl rfl rfl rfl (lc (F17.ev 8 rfl) (lc (F17.ev 9 rfl) rfl)) (spec_JoinTouch_c (a := m.touch) (b := (⟨[], []⟩ : TouchD)) (Rd.mv (Nat.succ_pos _) V_v_m_touch_reads (S1.trans (T6.trans (S8.trans (S14.trans S16))))) (Rd.mv (Nat.succ_pos _) V_v_m_touch_writes (S1.trans (T6.trans (S8.trans (S14.trans S16))))) Rd.nil Rd.nil (by first | assumption | omega | (simp <;> omega)) (by first | assumption | omega | (simp <;> omega)) (by first | assumption | omega | (simp <;> omega)) (by first | assumption | omega | (simp <;> omega))) ?_
   rintro _ w18 ⟨r0_reads_a_18, r0_reads_n_18, r0_reads_c_18, r0_writes_a_18, r0_writes_n_18, r0_writes_c_18, rfl, m18, v18_0, v18_1⟩
   refine ⟨_, rfl, fun _ F19 => ?_⟩
   have S18 := At.frame0 S16.at' m18
   have V18_0 := Rd.got0 S16.at' ((S1.trans (T6.trans (S8.trans (S14.trans S16)))).kp.size) v18_0 S18
   obtain ⟨ln18_0, le18_0, mx18_0, ni18_0⟩ := Rd.inv V18_0
   have V18_1 := Rd.got0 S16.at' ((S1.trans (T6.trans (S8.trans (S14.trans S16)))).kp.size) v18_1 S18
   obtain ⟨ln18_1, le18_1, mx18_1, ni18_1⟩ := Rd.inv V18_1
   clear m18 v18_0 v18_1
   refine ⟨Sd.of (S14.trans (S16.trans S18)) [2] rfl, ?_⟩
   refine g_take (v := .agg #[.slice A16 N16 C16, .slice r0_reads_a_18 r0_reads_n_18 r0_reads_c_18, .slice r0_writes_a_18 r0_writes_n_18 r0_writes_c_18]) F19 rfl (i := 8) (listed' := #[true, true, true, true, true, true, true, true, true, false]) rfl (by kernel_rfl) (by kernel_rfl) (by kernel_rfl) (fun _ _ _ h => h) (Sd.of (S14.trans (S16.trans S18)) [2] rfl) rfl rfl rfl rfl (fun _ hz => (r_build BI_31 rfl (lc (pr2 (F19.ev 6 rfl)) (lc (pr2 (F19.ev 10 rfl)) rfl)) rfl)) fun _ F20 => ?_
   refine d_one (i := 9) (listed' := #[true, true, true, true, true, true, true, true, true, true]) rfl (by kernel_rfl) rfl rfl ?_
   refine s_store S18.at' 1 TI_31 rfl rfl rfl rfl rfl (F20.ev 2 rfl) (F20.ev 11 rfl) rfl rfl rfl rfl rfl fun w21 S21 => ?_
   refine ⟨Sd.of (S14.trans (S16.trans (S18.trans S21))) [2] rfl, ?_⟩
   refine wpAnyH_done (by kernel_rfl) (x_normal ?_) _
   exact ⟨b14, A16, N16, C16, r0_reads_a_18, r0_reads_n_18, r0_reads_c_18, r0_writes_a_18, r0_writes_n_18, r0_writes_c_18, F20.cut rfl, ((S8.trans (S14.trans (S16.trans (S18.trans S21)))).pick [0, 2, 1] rfl), (Rd.mv (Nat.succ_pos _) (Rd.mv (Nat.succ_pos _) V18_0 S21) (Mv.pick (Mv.refl S21.at') [0, 2, 1] rfl)), (Rd.mv (Nat.succ_pos _) (Rd.mv (Nat.succ_pos _) V18_1 S21) (Mv.pick (Mv.refl S21.at') [0, 2, 1] rfl))⟩
 · rintro a22 w22 ⟨b14, A16, N16, C16, r0_reads_a_18, r0_reads_n_18, r0_reads_c_18, r0_writes_a_18, r0_writes_n_18, r0_writes_c_18, F22, S22, V22_0, V22_1⟩
   obtain ⟨ln22_0, le22_0, mx22_0, ni22_0⟩ := Rd.inv V22_0
   obtain ⟨ln22_1, le22_1, mx22_1, ni22_1⟩ := Rd.inv V22_1
   refine x_normal (wp_ret ?_)
   have Z23 : Rd 2 encC okC (V H w [bx b3 [.slice A16 N16 C16, .slice r0_reads_a_18 r0_reads_n_18 r0_reads_c_18, .slice r0_writes_a_18 r0_writes_n_18 r0_writes_c_18] 31, bx b1 [.slice m_store_a m_store_n m_store_c, .slice m_touch_reads_a m_touch_reads_n m_touch_reads_c, .slice m_touch_writes_a m_touch_writes_n m_touch_writes_c] 31]) w22 (.slice A16 N16 C16) (([] : List CellD) ++ m.store) := At.freeze (S1.trans (T6.trans S22)) ET_26.hk 2 rfl (fun b hb => ((S1.trans (T6.trans S22)).fresh b ⟨_, nth_mem (i := 2) rfl, hb⟩).resolve_left (fps_nil _))
   have S23 := At.drop S22.at' 2
   refine x_done (v := .agg #[.slice A16 N16 C16, .slice r0_reads_a_18 r0_reads_n_18 r0_reads_c_18, .slice r0_writes_a_18 r0_writes_n_18 r0_writes_c_18]) F22 (results_1 Tryd.results79 (.cell (F22.ev 2 rfl) (run_loadVar' TI_31 _ [.slice A16 N16 C16, .slice r0_reads_a_18 r0_reads_n_18 r0_reads_c_18, .slice r0_writes_a_18 r0_writes_n_18 r0_writes_c_18] rfl (fun h => nomatch h) (At.cells S22.at' 0 rfl 0 [.slice A16 N16 C16, .slice r0_reads_a_18 r0_reads_n_18 r0_reads_c_18, .slice r0_writes_a_18 r0_writes_n_18 r0_writes_c_18] rfl)))) ?_
   exact ⟨A16, N16, C16, r0_reads_a_18, r0_reads_n_18, r0_reads_c_18, r0_writes_a_18, r0_writes_n_18, r0_writes_c_18, rfl, (Mv.pick (S1.trans (T6.trans (S22.trans S23))) [] rfl), (Rd.cast (Rd.give Z23) (show (([] : List CellD) ++ m.store) = m.store from by first | rfl | simp [joinT, joinL])), (Rd.cast (Rd.give (Rd.mv (Nat.succ_pos _) V22_0 S23)) (show (joinT m.touch (⟨[], []⟩ : TouchD)).reads = m.touch.reads from by first | rfl | simp [joinT, joinL])), (Rd.cast (Rd.give (Rd.mv (Nat.succ_pos _) V22_1 S23)) (show (joinT m.touch (⟨[], []⟩ : TouchD)).writes = m.touch.writes from by first | rfl | simp [joinT, joinL]))⟩
theorem spec_l04Look_c {w : World} {H : Nat → Prop} {m : MachD} {m_store_a : Option Addr} {m_store_n m_store_c : Nat} {m_touch_reads_a : Option Addr} {m_touch_reads_n m_touch_reads_c : Nat} {m_touch_writes_a : Option Addr} {m_touch_writes_n m_touch_writes_c : Nat} {key : ByteArray} (v_m_store : Rd 2 encC okC H w (.slice m_store_a m_store_n m_store_c) m.store) (v_m_touch_reads : Rd 1 encS okS H w (.slice m_touch_reads_a m_touch_reads_n m_touch_reads_c) m.touch.reads) (v_m_touch_writes : Rd 1 encS okS H w (.slice m_touch_writes_a m_touch_writes_n m_touch_writes_c) m.touch.writes) (h_key : okS key) (p0 : m.touch.reads.length ≤ 274877906944) :
    Calls Tryd.prog 140 #[.agg #[.slice m_store_a m_store_n m_store_c, .slice m_touch_reads_a m_touch_reads_n m_touch_reads_c, .slice m_touch_writes_a m_touch_writes_n m_touch_writes_c], .string key] w fun e w' => ∃ (r0_store_a : Option Addr), ∃ (r0_store_n : Nat), ∃ (r0_store_c : Nat), ∃ (r0_touch_reads_a : Option Addr), ∃ (r0_touch_reads_n : Nat), ∃ (r0_touch_reads_c : Nat), ∃ (r0_touch_writes_a : Option Addr), ∃ (r0_touch_writes_n : Nat), ∃ (r0_touch_writes_c : Nat), e = .returned (.tuple #[.agg #[.slice r0_store_a r0_store_n r0_store_c, .slice r0_touch_reads_a r0_touch_reads_n r0_touch_reads_c, .slice r0_touch_writes_a r0_touch_writes_n r0_touch_writes_c], .string (getKey m.store key)]) ∧ Mv [] w [] w' ∧ Rd 2 encC okC (Fsh H w) w' (.slice r0_store_a r0_store_n r0_store_c) (lookM m key).store ∧ Rd 1 encS okS (Fsh H w) w' (.slice r0_touch_reads_a r0_touch_reads_n r0_touch_reads_c) (lookM m key).touch.reads ∧ Rd 1 encS okS (Fsh H w) w' (.slice r0_touch_writes_a r0_touch_writes_n r0_touch_writes_c) (lookM m key).touch.writes ∧ okS (getKey m.store key) := by
 have uU : True := (fun _ => trivial) p0
 clear uU
 have V_v_m_store : Rd 2 encC okC (V H w []) w (.slice m_store_a m_store_n m_store_c) m.store := Rd.start v_m_store (fun _ _ => fps_nil _)
 obtain ⟨ln_m_store, le_m_store, mx_m_store, ni_m_store⟩ := Rd.inv v_m_store
 have V_v_m_touch_reads : Rd 1 encS okS (V H w []) w (.slice m_touch_reads_a m_touch_reads_n m_touch_reads_c) m.touch.reads := Rd.start v_m_touch_reads (fun _ _ => fps_nil _)
 obtain ⟨ln_m_touch_reads, le_m_touch_reads, mx_m_touch_reads, ni_m_touch_reads⟩ := Rd.inv v_m_touch_reads
 have V_v_m_touch_writes : Rd 1 encS okS (V H w []) w (.slice m_touch_writes_a m_touch_writes_n m_touch_writes_c) m.touch.writes := Rd.start v_m_touch_writes (fun _ _ => fps_nil _)
 obtain ⟨ln_m_touch_writes, le_m_touch_writes, mx_m_touch_writes, ni_m_touch_writes⟩ := Rd.inv v_m_touch_writes
 refine calls_enter 18 Tryd.func140 rfl Tryd.ntmps140 (Nat.le_of_ble_eq_true rfl) (fun _ F0i => ?_)
 have F0 : Fr 18 [(0, .agg #[.slice m_store_a m_store_n m_store_c, .slice m_touch_reads_a m_touch_reads_n m_touch_reads_c, .slice m_touch_writes_a m_touch_writes_n m_touch_writes_c]), (1, .string key)] _ := F0i
 clear F0i
 refine wp_seq (wp_region_lit (l_op (f_box F0 (At.nil w) rfl rfl rfl (F0.ev 0 rfl) rfl rfl fun b1 _ w1 F2 S1 => ?_)))
 refine l_op (f_alloc F2 S1.at' ZI_31 rfl rfl rfl rfl rfl fun b3 _ w3 F4 S3 => ?_)
 refine l_op (f_val F4 rfl rfl (r_assign rfl rfl) rfl fun _ F5 => ?_)
 have F6 : Fr 18 [(5, .string (⟨#[]⟩ : ByteArray)), (4, .pointer (some ⟨b3, 0, none⟩)), (2, .pointer (some ⟨b1, 0, none⟩)), (1, .string key)] _ := F5.cut rfl
 clear F0 F2 F4 F5
 have T7 : Mv _ _ [bx b3 [.slice none 0 0, .slice none 0 0, .slice none 0 0] 31, bx b1 [.slice m_store_a m_store_n m_store_c, .slice m_touch_reads_a m_touch_reads_n m_touch_reads_c, .slice m_touch_writes_a m_touch_writes_n m_touch_writes_c] 31] _ := S3
 refine s_end (x_normal (wp_seq (wp_region_lit (l_op (f_val F6 rfl rfl (r_field FI_31_1 rfl (F6.ev 2 rfl) rfl) rfl fun _ F8 => ?_)))))
 refine l_op (f_val F8 rfl rfl (r_field FI_29_0 rfl (F8.ev 6 rfl) rfl) rfl fun _ F9 => ?_)
 refine l_op (f_val (v := .slice m_touch_reads_a m_touch_reads_n m_touch_reads_c) F9 rfl rfl (r_loadB T7.at' 1 TI_27 rfl rfl (F9.ev 7 rfl) rfl rfl (fun _ => rfl) rfl) rfl fun _ F10 => ?_)
 refine l_op (f_mv F10 rfl rfl rfl rfl rfl fun _ F11 => ?_)
 refine l_op (f_call F11 CF_143 rfl rfl rfl rfl (lc (F11.ev 8 rfl) (lc (F11.ev 9 rfl) rfl)) (spec_AddSpan_c (list := m.touch.reads) (span := key) (Rd.mv (Nat.succ_pos _) V_v_m_touch_reads (S1.trans T7)) h_key (by first | assumption | omega | (simp <;> omega))) ?_)
 rintro _ w12 ⟨r0_a_12, r0_n_12, r0_c_12, rfl, m12, v12_0⟩
 refine ⟨_, rfl, fun _ F13 => ?_⟩
 have S12 := At.frame0 T7.at' m12
 have V12_0 := Rd.got0 T7.at' ((S1.trans T7).kp.size) v12_0 S12
 obtain ⟨ln12_0, le12_0, mx12_0, ni12_0⟩ := Rd.inv V12_0
 clear m12 v12_0
 refine l_op (f_val F13 rfl rfl (r_field FI_31_1 rfl (F13.ev 2 rfl) rfl) rfl fun _ F14 => ?_)
 refine l_op (f_val F14 rfl rfl (r_field FI_29_0 rfl (F14.ev 11 rfl) rfl) rfl fun _ F15 => ?_)
 refine l_op (s_store S12.at' 1 TI_27 rfl rfl rfl rfl rfl (F15.ev 12 rfl) (F15.ev 10 rfl) rfl rfl rfl rfl rfl fun w16 S16 => ?_)
 have F17 : Fr 18 [(12, .pointer (some ⟨b1, 1, none⟩)), (10, .slice r0_a_12 r0_n_12 r0_c_12), (4, .pointer (some ⟨b3, 0, none⟩)), (2, .pointer (some ⟨b1, 0, none⟩)), (1, .string key)] _ := F15.cut rfl
 clear F6 F8 F9 F10 F11 F13 F14 F15
 have T18 : Mv _ _ [bx b1 [.slice m_store_a m_store_n m_store_c, .slice r0_a_12 r0_n_12 r0_c_12, .slice m_touch_writes_a m_touch_writes_n m_touch_writes_c] 31, bx b3 [.slice none 0 0, .slice none 0 0, .slice none 0 0] 31] _ := S16
 refine s_end (x_normal (wp_seq ?_))
 refine x_draw (fun aZ wZ => Fr 18 [(4, .pointer (some ⟨b3, 0, none⟩)), (5, .string (getKey m.store key))] aZ ∧ Mv [bx b1 [.slice m_store_a m_store_n m_store_c, .slice r0_a_12 r0_n_12 r0_c_12, .slice m_touch_writes_a m_touch_writes_n m_touch_writes_c] 31, bx b3 [.slice none 0 0, .slice none 0 0, .slice none 0 0] 31] w16 [bx b1 [.slice m_store_a m_store_n m_store_c, .slice r0_a_12 r0_n_12 r0_c_12, .slice m_touch_writes_a m_touch_writes_n m_touch_writes_c] 31, bx b3 [.slice m_store_a m_store_n m_store_c, .slice r0_a_12 r0_n_12 r0_c_12, .slice m_touch_writes_a m_touch_writes_n m_touch_writes_c] 31] wZ ∧ okS (getKey m.store key)) [bx b1 [.slice m_store_a m_store_n m_store_c, .slice r0_a_12 r0_n_12 r0_c_12, .slice m_touch_writes_a m_touch_writes_n m_touch_writes_c] 31] mixed T18.at' (listed := #[false, false, false, false, false, false, false]) rfl (fun w20 S20 => ?_) [0] rfl ?_
 · skip
   refine g_take (v := .agg #[.slice m_store_a m_store_n m_store_c, .slice r0_a_12 r0_n_12 r0_c_12, .slice m_touch_writes_a m_touch_writes_n m_touch_writes_c]) F17 rfl (i := 0) (listed' := #[true, false, false, false, false, false, false]) rfl (by kernel_rfl) (by kernel_rfl) (by kernel_rfl) (fun _ _ _ h => h) (Sd.of (Mv.refl S20.at') [0] rfl) rfl rfl rfl rfl (fun _ hz => (r_loadX (hz.bx 0 rfl) TI_31 rfl (F17.ev 2 rfl) rfl rfl (fun h => nomatch h) rfl)) fun _ F21 => ?_
   refine g_take F21 rfl (i := 1) (listed' := #[true, true, false, false, false, false, false]) rfl (by kernel_rfl) (by kernel_rfl) (by kernel_rfl) (fun _ _ _ h => h) (Sd.of (Mv.refl S20.at') [0] rfl) rfl rfl rfl rfl (fun _ hz => (r_field FI_31_0 rfl (F21.ev 2 rfl) rfl)) fun _ F22 => ?_
   refine g_take (v := .slice m_store_a m_store_n m_store_c) F22 rfl (i := 2) (listed' := #[true, true, true, false, false, false, false]) rfl (by kernel_rfl) (by kernel_rfl) (by kernel_rfl) (fun _ _ _ h => h) (Sd.of (Mv.refl S20.at') [0] rfl) rfl rfl rfl rfl (fun _ hz => (r_loadX (hz.bx 0 rfl) TI_26 rfl (F22.ev 14 rfl) rfl rfl (fun _ => rfl) rfl)) fun _ F23 => ?_
   refine g_take F23 rfl (i := 3) (listed' := #[true, true, true, true, false, false, false]) rfl (by kernel_rfl) (by kernel_rfl) (by kernel_rfl) (fun _ _ _ h => h) (Sd.of (Mv.refl S20.at') [0] rfl) rfl rfl rfl rfl (fun _ hz => (r_move rfl (F23.ev 1 rfl))) fun _ F24 => ?_
   refine d_one (i := 4) (listed' := #[true, true, true, true, true, false, false]) rfl (by kernel_rfl) rfl rfl ?_
   refine f_call F24 CF_165 rfl rfl rfl rfl (lc (F24.ev 15 rfl) (lc (F24.ev 16 rfl) rfl)) (spec_GetKey_c (s := m.store) (key := key) (Rd.mv (Nat.succ_pos _) V_v_m_store (S1.trans (T7.trans (S12.trans (T18.trans S20))))) h_key) ?_
   rintro _ w25 ⟨rfl, m25, ok_r0_25⟩
   refine ⟨_, rfl, fun _ F26 => ?_⟩
   have S25 := At.frame0 S20.at' m25
   clear m25
   refine ⟨Sd.of S25 [0] rfl, ?_⟩
   refine d_one (i := 5) (listed' := #[true, true, true, true, true, true, false]) rfl (by kernel_rfl) rfl rfl ?_
   refine s_store S25.at' 1 TI_31 rfl rfl rfl rfl rfl (F26.ev 4 rfl) (F26.ev 13 rfl) rfl rfl rfl rfl rfl fun w27 S27 => ?_
   refine ⟨Sd.of (S25.trans S27) [1] rfl, ?_⟩
   refine g_take F26 rfl (i := 6) (listed' := #[true, true, true, true, true, true, true]) rfl (by kernel_rfl) (by kernel_rfl) (by kernel_rfl) (fun _ _ _ h => h) (Sd.of (S25.trans S27) [1] rfl) rfl rfl rfl rfl (fun _ hz => (r_assign rfl (F26.ev 17 rfl))) fun _ F28 => ?_
   refine wpAnyH_done (by kernel_rfl) (x_normal ?_) _
   exact ⟨F28.cut rfl, ((S20.trans (S25.trans S27)).pick [1, 0] rfl), ok_r0_25⟩
 · rintro a29 w29 ⟨F29, S29, ko29_0⟩
   refine x_normal (wp_ret ?_)
   refine x_done (v := .tuple #[.agg #[.slice m_store_a m_store_n m_store_c, .slice r0_a_12 r0_n_12 r0_c_12, .slice m_touch_writes_a m_touch_writes_n m_touch_writes_c], .string (getKey m.store key)]) F29 (results_2 Tryd.results140 (.cell (F29.ev 4 rfl) (run_loadVar' TI_31 _ [.slice m_store_a m_store_n m_store_c, .slice r0_a_12 r0_n_12 r0_c_12, .slice m_touch_writes_a m_touch_writes_n m_touch_writes_c] rfl (fun h => nomatch h) (At.cells S29.at' 1 rfl 0 [.slice m_store_a m_store_n m_store_c, .slice r0_a_12 r0_n_12 r0_c_12, .slice m_touch_writes_a m_touch_writes_n m_touch_writes_c] rfl))) (.tmp (F29.ev 5 rfl))) ?_
   exact ⟨m_store_a, m_store_n, m_store_c, r0_a_12, r0_n_12, r0_c_12, m_touch_writes_a, m_touch_writes_n, m_touch_writes_c, rfl, (Mv.pick (S1.trans (T7.trans (S12.trans (T18.trans S29)))) [] rfl), (Rd.cast (Rd.give (Rd.mv (Nat.succ_pos _) V_v_m_store (S1.trans (T7.trans (S12.trans (T18.trans S29)))))) (show m.store = (lookM m key).store from by rfl)), (Rd.cast (Rd.give (Rd.mv (Nat.succ_pos _) V12_0 (T18.trans S29))) (show (putL m.touch.reads key) = (lookM m key).touch.reads from by rfl)), (Rd.cast (Rd.give (Rd.mv (Nat.succ_pos _) V_v_m_touch_writes (S1.trans (T7.trans (S12.trans (T18.trans S29)))))) (show m.touch.writes = (lookM m key).touch.writes from by rfl)), ko29_0⟩
end Go.Proofs.YtjiplnaceiofmaaDoor
