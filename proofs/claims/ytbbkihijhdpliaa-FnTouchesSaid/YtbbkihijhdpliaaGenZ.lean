/-
  Walks: access sets are joined by the program.
-/
import Derived.Test.YtbbkihijhdpliaaGenY
import Derived.Test.YtbbkihijhdpliaaGenW
import Derived.Test.YtbbkihijhdpliaaGenE
namespace Go.Proofs.Ytbbkihijhdpliaa
open Go.ChangeShapes Go.WideShapes Go.ChangeAt Go.RowKit
set_option maxRecDepth 100000
set_option maxHeartbeats 1000000
theorem impl_Touch_join_c {w : World} {H : Nat → Prop} {t : TouchD} {t_reads_a : Option Addr} {t_reads_n t_reads_c : Nat} {t_writes_a : Option Addr} {t_writes_n t_writes_c : Nat} {t_b : Nat} {other : TouchD} {other_reads_a : Option Addr} {other_reads_n other_reads_c : Nat} {other_writes_a : Option Addr} {other_writes_n other_writes_c : Nat} (v_other_reads : Rd 1 encS okS H w (.slice other_reads_a other_reads_n other_reads_c) other.reads) (v_other_writes : Rd 1 encS okS H w (.slice other_writes_a other_writes_n other_writes_c) other.writes) (p0 : t.reads.length ≤ 137438953472) (p1 : t.writes.length ≤ 137438953472) (p2 : other.reads.length ≤ 137438953472) (p3 : other.writes.length ≤ 137438953472) (hA : At w [bx t_b [.slice t_reads_a t_reads_n t_reads_c, .slice t_writes_a t_writes_n t_writes_c] 26, ow 9 1 encS okS (.slice t_reads_a t_reads_n t_reads_c) t.reads, ow 9 1 encS okS (.slice t_writes_a t_writes_n t_writes_c) t.writes]) (hD : ∀ b, H b → ¬ fps [bx t_b [.slice t_reads_a t_reads_n t_reads_c, .slice t_writes_a t_writes_n t_writes_c] 26, ow 9 1 encS okS (.slice t_reads_a t_reads_n t_reads_c) t.reads, ow 9 1 encS okS (.slice t_writes_a t_writes_n t_writes_c) t.writes] b) :
    Calls Try.prog 72 #[.pointer (some ⟨t_b, 0, none⟩), .agg #[.slice other_reads_a other_reads_n other_reads_c, .slice other_writes_a other_writes_n other_writes_c]] w fun e w' => ∃ (q_t_reads_a : Option Addr), ∃ (q_t_reads_n : Nat), ∃ (q_t_reads_c : Nat), ∃ (q_t_writes_a : Option Addr), ∃ (q_t_writes_n : Nat), ∃ (q_t_writes_c : Nat), e = .returned (.tuple #[]) ∧ Mv [bx t_b [.slice t_reads_a t_reads_n t_reads_c, .slice t_writes_a t_writes_n t_writes_c] 26, ow 9 1 encS okS (.slice t_reads_a t_reads_n t_reads_c) t.reads, ow 9 1 encS okS (.slice t_writes_a t_writes_n t_writes_c) t.writes] w [bx t_b [.slice q_t_reads_a q_t_reads_n q_t_reads_c, .slice q_t_writes_a q_t_writes_n q_t_writes_c] 26, ow 9 1 encS okS (.slice q_t_reads_a q_t_reads_n q_t_reads_c) (joinT t other).reads, ow 9 1 encS okS (.slice q_t_writes_a q_t_writes_n q_t_writes_c) (joinT t other).writes] w' := by
 have V_v_other_reads : Rd 1 encS okS (V H w [bx t_b [.slice t_reads_a t_reads_n t_reads_c, .slice t_writes_a t_writes_n t_writes_c] 26, ow 9 1 encS okS (.slice t_reads_a t_reads_n t_reads_c) t.reads, ow 9 1 encS okS (.slice t_writes_a t_writes_n t_writes_c) t.writes]) w (.slice other_reads_a other_reads_n other_reads_c) other.reads := Rd.start v_other_reads hD
 obtain ⟨ln_other_reads, le_other_reads, mx_other_reads, ni_other_reads⟩ := Rd.inv v_other_reads
 have V_v_other_writes : Rd 1 encS okS (V H w [bx t_b [.slice t_reads_a t_reads_n t_reads_c, .slice t_writes_a t_writes_n t_writes_c] 26, ow 9 1 encS okS (.slice t_reads_a t_reads_n t_reads_c) t.reads, ow 9 1 encS okS (.slice t_writes_a t_writes_n t_writes_c) t.writes]) w (.slice other_writes_a other_writes_n other_writes_c) other.writes := Rd.start v_other_writes hD
 obtain ⟨ln_other_writes, le_other_writes, mx_other_writes, ni_other_writes⟩ := Rd.inv v_other_writes
 obtain ⟨lo1, lp1, lq1⟩ := At.ownInv hA ET_22.hk 1 rfl
 obtain ⟨lo2, lp2, lq2⟩ := At.ownInv hA ET_22.hk 2 rfl
 refine calls_enter 42 Try.func72 rfl Try.ntmps72 (Nat.le_of_ble_eq_true rfl) (fun _ F0i => ?_)
 have F0 : Fr 42 [(0, .pointer (some ⟨t_b, 0, none⟩)), (1, .agg #[.slice other_reads_a other_reads_n other_reads_c, .slice other_writes_a other_writes_n other_writes_c])] _ := F0i
 clear F0i
 refine wp_seq (wp_region_lit (l_op (f_box F0 hA rfl rfl rfl (F0.ev 1 rfl) rfl rfl fun b1 _ w1 F2 S1 => ?_)))
 have F3 : Fr 42 [(3, .pointer (some ⟨b1, 0, none⟩)), (0, .pointer (some ⟨t_b, 0, none⟩))] _ := F2.cut rfl
 clear F0 F2
 have T4 : Mv _ _ [bx b1 [.slice other_reads_a other_reads_n other_reads_c, .slice other_writes_a other_writes_n other_writes_c] 26, bx t_b [.slice t_reads_a t_reads_n t_reads_c, .slice t_writes_a t_writes_n t_writes_c] 26, ow 9 1 encS okS (.slice t_reads_a t_reads_n t_reads_c) t.reads, ow 9 1 encS okS (.slice t_writes_a t_writes_n t_writes_c) t.writes] _ := S1
 refine s_end (x_normal (wp_seq (wp_seq (wp_region_lit (l_op (f_val F3 rfl rfl (r_field FI_26_0 rfl (F3.ev 3 rfl) rfl) rfl fun _ F5 => ?_))))))
 refine l_op (f_val (v := .slice other_reads_a other_reads_n other_reads_c) F5 rfl rfl (r_loadB T4.at' 0 TI_22 rfl rfl (F5.ev 8 rfl) rfl rfl (fun _ => rfl) rfl) rfl fun _ F6 => ?_)
 refine l_op (f_val F6 rfl rfl (r_len Try.underlying22 rfl (F6.ev 9 rfl)) rfl fun _ F7 => ?_)
 refine l_op (f_val F7 rfl rfl (r_move rfl rfl) rfl fun _ F8 => ?_)
 have F9 : Fr 42 [(11, .int .i64 0), (10, .int .i64 ((other_reads_n : Nat) : Int)), (9, .slice other_reads_a other_reads_n other_reads_c), (3, .pointer (some ⟨b1, 0, none⟩)), (0, .pointer (some ⟨t_b, 0, none⟩))] _ := F8.cut rfl
 clear F3 F5 F6 F7 F8
 refine s_end (x_normal (wp_block ?_))
 refine x_loop (fun (k : Nat) aZ wZ => ∃ (ra : Option Addr), ∃ (rn : Nat), ∃ (rc : Nat), Fr 42 [(11, .int .i64 ((k : Nat) : Int)), (10, .int .i64 ((other_reads_n : Nat) : Int)), (9, .slice other_reads_a other_reads_n other_reads_c), (3, .pointer (some ⟨b1, 0, none⟩)), (0, .pointer (some ⟨t_b, 0, none⟩))] aZ ∧ Mv [bx b1 [.slice other_reads_a other_reads_n other_reads_c, .slice other_writes_a other_writes_n other_writes_c] 26, bx t_b [.slice t_reads_a t_reads_n t_reads_c, .slice t_writes_a t_writes_n t_writes_c] 26, ow 9 1 encS okS (.slice t_reads_a t_reads_n t_reads_c) t.reads, ow 9 1 encS okS (.slice t_writes_a t_writes_n t_writes_c) t.writes] w1 [bx b1 [.slice other_reads_a other_reads_n other_reads_c, .slice other_writes_a other_writes_n other_writes_c] 26, bx t_b [.slice ra rn rc, .slice t_writes_a t_writes_n t_writes_c] 26, ow 9 1 encS okS (.slice ra rn rc) (joinL t.reads (other.reads.take k)), ow 9 1 encS okS (.slice t_writes_a t_writes_n t_writes_c) t.writes] wZ ∧ (k ≤ other_reads_n) ∧ (rn = (joinL t.reads (other.reads.take k)).length)) (fun (k : Nat) => other_reads_n - k) (0) ?_ ?_
 · exact ⟨t_reads_a, t_reads_n, t_reads_c, F9.cut rfl, (Mv.refl T4.at'), by omega, by simp only [List.take_zero, joinL, List.foldl_nil]; omega⟩
 · rintro k a10 w10 ⟨ra, rn, rc, F10, S10, hk_0, hk_1⟩
   have jlk := joinL_length t.reads (other.reads.take k)
   rw [List.length_take] at jlk
   refine wp_seq (wp_region_lit (l_op (f_val F10 rfl rfl (r_cmp (b := decide (k < other_reads_n)) (.inr (.inr (.inl rfl))) rfl (F10.ev 11 rfl) (F10.ev 10 rfl) (dec_of (by omega))) rfl fun _ F11 => ?_)))
   have F12 : Fr 42 [(12, .bool (decide (k < other_reads_n))), (11, .int .i64 ((k : Nat) : Int)), (10, .int .i64 ((other_reads_n : Nat) : Int)), (9, .slice other_reads_a other_reads_n other_reads_c), (3, .pointer (some ⟨b1, 0, none⟩)), (0, .pointer (some ⟨t_b, 0, none⟩))] _ := F11.cut rfl
   clear F10 F11
   refine s_end (x_normal (wp_seq (x_cond (p := k < other_reads_n) (F12.ev 12 rfl) (fun h13 => ?_) (fun h13 => ?_))))
   · skip
     refine wp_skip (x_normal (wp_seq (wp_block (wp_seq (wp_region_lit ?_)))))
     obtain ⟨B14, O14, x1, ad14, hx1, okx1, ln14, cl14⟩ := Rd.at (Rd.mv (Nat.succ_pos _) V_v_other_reads (T4.trans S10)) k (by first | assumption | omega)
     clear ln14
     refine l_op (f_val F12 rfl rfl (r_indexAddr (i := k) ET_22 rfl ((F12.ev 9 rfl).trans (by rw [ad14])) (F12.ev 11 rfl) (by omega) (by first | assumption | omega)) rfl fun _ F15 => ?_)
     refine l_op (f_val (v := .string x1) F15 rfl rfl (r_load (cs := [.string x1]) TI_9 rfl (F15.ev 13 rfl) rfl (fun _ => rfl) (elem_sub (f := 0) cl14 [.string x1] rfl)) rfl fun _ F16 => ?_)
     refine l_op (f_as F16 rfl rfl rfl rfl rfl fun _ F17 => ?_)
     have F18 : Fr 42 [(5, .string x1), (11, .int .i64 ((k : Nat) : Int)), (10, .int .i64 ((other_reads_n : Nat) : Int)), (9, .slice other_reads_a other_reads_n other_reads_c), (3, .pointer (some ⟨b1, 0, none⟩)), (0, .pointer (some ⟨t_b, 0, none⟩))] _ := F17.cut rfl
     clear F12 F15 F16 F17
     refine s_end (x_normal (wp_region_lit (l_op (f_mv F18 rfl rfl rfl rfl rfl fun _ F19 => ?_))))
     refine l_op (f_mv F19 rfl rfl rfl rfl rfl fun _ F20 => ?_)
     refine l_op (f_val F20 rfl rfl (r_nilCheck rfl (F20.ev 16 rfl)) rfl fun _ F21 => ?_)
     refine l_op (f_val F21 rfl rfl (r_field FI_26_0 rfl (F21.ev 17 rfl) rfl) rfl fun _ F22 => ?_)
     refine l_op (f_val (v := .slice ra rn rc) F22 rfl rfl (r_loadB S10.at' 1 TI_22 rfl rfl (F22.ev 18 rfl) rfl rfl (fun _ => rfl) rfl) rfl fun _ F23 => ?_)
     refine l_op (f_mv F23 rfl rfl rfl rfl rfl fun _ F24 => ?_)
     refine l_op (f_call F24 CF_78 rfl rfl rfl rfl (lc (F24.ev 19 rfl) (lc (F24.ev 20 rfl) rfl)) (impl_addSpan_c (H := fun _ => True) (list := joinL t.reads (other.reads.take k)) (span := x1) okx1 (by first | assumption | omega | (simp <;> omega)) (At.pick (is := [2]) S10.at' rfl)) ?_)
     rintro _ w25 ⟨r0_a_25, r0_n_25, r0_c_25, rfl, m25⟩
     refine ⟨_, rfl, fun _ F26 => ?_⟩
     have S25 : Mv _ _ [ow 9 1 encS okS (.slice r0_a_25 r0_n_25 r0_c_25) (putL (joinL t.reads (other.reads.take k)) x1), bx b1 [.slice other_reads_a other_reads_n other_reads_c, .slice other_writes_a other_writes_n other_writes_c] 26, bx t_b [.slice ra rn rc, .slice t_writes_a t_writes_n t_writes_c] 26, ow 9 1 encS okS (.slice t_writes_a t_writes_n t_writes_c) t.writes] _ := At.frame S10.at' [2] rfl m25
     obtain ⟨lo25_0, lp25_0, lq25_0⟩ := At.ownInv S25.at' ET_22.hk 0 rfl
     clear m25
     refine l_op (f_val F26 rfl rfl (r_nilCheck rfl (F26.ev 15 rfl)) rfl fun _ F27 => ?_)
     refine l_op (f_val F27 rfl rfl (r_field FI_26_0 rfl (F27.ev 22 rfl) rfl) rfl fun _ F28 => ?_)
     refine l_op (s_store S25.at' 2 TI_22 rfl rfl rfl rfl rfl (F28.ev 23 rfl) (F28.ev 21 rfl) rfl rfl rfl rfl rfl fun w29 S29 => ?_)
     have F30 : Fr 42 [(23, .pointer (some ⟨t_b, 0, none⟩)), (21, .slice r0_a_25 r0_n_25 r0_c_25), (11, .int .i64 ((k : Nat) : Int)), (10, .int .i64 ((other_reads_n : Nat) : Int)), (9, .slice other_reads_a other_reads_n other_reads_c), (3, .pointer (some ⟨b1, 0, none⟩)), (0, .pointer (some ⟨t_b, 0, none⟩))] _ := F28.cut rfl
     clear F18 F19 F20 F21 F22 F23 F24 F26 F27 F28
     have T31 : Mv _ _ [bx t_b [.slice r0_a_25 r0_n_25 r0_c_25, .slice t_writes_a t_writes_n t_writes_c] 26, ow 9 1 encS okS (.slice r0_a_25 r0_n_25 r0_c_25) (putL (joinL t.reads (other.reads.take k)) x1), bx b1 [.slice other_reads_a other_reads_n other_reads_c, .slice other_writes_a other_writes_n other_writes_c] 26, ow 9 1 encS okS (.slice t_writes_a t_writes_n t_writes_c) t.writes] _ := S29
     refine s_end (x_block_normal (x_normal (wp_region_lit (l_op (f_val F30 rfl rfl (r_add (z := ((k + 1 : Nat) : Int)) rfl (F30.ev 11 rfl) rfl (by first | rfl | omega) ⟨by first | omega | (unfold i64ok at *; omega), by first | omega | (unfold i64ok at *; omega)⟩) rfl fun _ F32 => ?_)))))
     refine l_op (f_mv F32 rfl rfl rfl rfl rfl fun _ F33 => ?_)
     have F34 : Fr 42 [(11, .int .i64 ((k + 1 : Nat) : Int)), (10, .int .i64 ((other_reads_n : Nat) : Int)), (9, .slice other_reads_a other_reads_n other_reads_c), (3, .pointer (some ⟨b1, 0, none⟩)), (0, .pointer (some ⟨t_b, 0, none⟩))] _ := F33.cut rfl
     clear F30 F32 F33
     refine s_end ?_
     refine x_normal ⟨k + 1, by omega, r0_a_25, r0_n_25, r0_c_25, F34.cut rfl, (Mv.cast ((S10.trans (S25.trans T31)).pick [2, 0, 1, 3] rfl) (by (rw [joinL_step hx1]); all_goals rfl)), by omega, by rw [joinL_step hx1]; assumption⟩
   · skip
     refine wp_exit (x_then_exit (x_then_exit (x_block_here (x_normal (wp_seq (wp_region_lit (l_op (f_val F12 rfl rfl (r_field FI_26_1 rfl (F12.ev 3 rfl) rfl) rfl fun _ F35 => ?_))))))))
     refine l_op (f_val (v := .slice other_writes_a other_writes_n other_writes_c) F35 rfl rfl (r_loadB S10.at' 0 TI_22 rfl rfl (F35.ev 25 rfl) rfl rfl (fun _ => rfl) rfl) rfl fun _ F36 => ?_)
     refine l_op (f_val F36 rfl rfl (r_len Try.underlying22 rfl (F36.ev 26 rfl)) rfl fun _ F37 => ?_)
     refine l_op (f_val F37 rfl rfl (r_move rfl rfl) rfl fun _ F38 => ?_)
     have F39 : Fr 42 [(28, .int .i64 0), (27, .int .i64 ((other_writes_n : Nat) : Int)), (26, .slice other_writes_a other_writes_n other_writes_c), (0, .pointer (some ⟨t_b, 0, none⟩))] _ := F38.cut rfl
     clear F12 F35 F36 F37 F38
     refine s_end (x_normal (wp_block ?_))
     refine x_loop (fun (j : Nat) aZ wZ => ∃ (ua : Option Addr), ∃ (un : Nat), ∃ (uc : Nat), Fr 42 [(28, .int .i64 ((j : Nat) : Int)), (27, .int .i64 ((other_writes_n : Nat) : Int)), (26, .slice other_writes_a other_writes_n other_writes_c), (0, .pointer (some ⟨t_b, 0, none⟩))] aZ ∧ Mv [bx b1 [.slice other_reads_a other_reads_n other_reads_c, .slice other_writes_a other_writes_n other_writes_c] 26, bx t_b [.slice ra rn rc, .slice t_writes_a t_writes_n t_writes_c] 26, ow 9 1 encS okS (.slice ra rn rc) (joinL t.reads (other.reads.take k)), ow 9 1 encS okS (.slice t_writes_a t_writes_n t_writes_c) t.writes] w10 [bx b1 [.slice other_reads_a other_reads_n other_reads_c, .slice other_writes_a other_writes_n other_writes_c] 26, bx t_b [.slice ra rn rc, .slice ua un uc] 26, ow 9 1 encS okS (.slice ra rn rc) (joinL t.reads (other.reads.take k)), ow 9 1 encS okS (.slice ua un uc) (joinL t.writes (other.writes.take j))] wZ ∧ (j ≤ other_writes_n) ∧ (un = (joinL t.writes (other.writes.take j)).length)) (fun (j : Nat) => other_writes_n - j) (0) ?_ ?_
     · exact ⟨t_writes_a, t_writes_n, t_writes_c, F39.cut rfl, (Mv.refl S10.at'), by omega, by simp only [List.take_zero, joinL, List.foldl_nil]; omega⟩
     · rintro j a40 w40 ⟨ua, un, uc, F40, S40, hj_0, hj_1⟩
       have jlj := joinL_length t.writes (other.writes.take j)
       rw [List.length_take] at jlj
       refine wp_seq (wp_region_lit (l_op (f_val F40 rfl rfl (r_cmp (b := decide (j < other_writes_n)) (.inr (.inr (.inl rfl))) rfl (F40.ev 28 rfl) (F40.ev 27 rfl) (dec_of (by omega))) rfl fun _ F41 => ?_)))
       have F42 : Fr 42 [(29, .bool (decide (j < other_writes_n))), (28, .int .i64 ((j : Nat) : Int)), (27, .int .i64 ((other_writes_n : Nat) : Int)), (26, .slice other_writes_a other_writes_n other_writes_c), (0, .pointer (some ⟨t_b, 0, none⟩))] _ := F41.cut rfl
       clear F40 F41
       refine s_end (x_normal (wp_seq (x_cond (p := j < other_writes_n) (F42.ev 29 rfl) (fun h43 => ?_) (fun h43 => ?_))))
       · skip
         refine wp_skip (x_normal (wp_seq (wp_block (wp_seq (wp_region_lit ?_)))))
         obtain ⟨B44, O44, x1, ad44, hx1, okx1, ln44, cl44⟩ := Rd.at (Rd.mv (Nat.succ_pos _) V_v_other_writes (T4.trans (S10.trans S40))) j (by first | assumption | omega)
         clear ln44
         refine l_op (f_val F42 rfl rfl (r_indexAddr (i := j) ET_22 rfl ((F42.ev 26 rfl).trans (by rw [ad44])) (F42.ev 28 rfl) (by omega) (by first | assumption | omega)) rfl fun _ F45 => ?_)
         refine l_op (f_val (v := .string x1) F45 rfl rfl (r_load (cs := [.string x1]) TI_9 rfl (F45.ev 30 rfl) rfl (fun _ => rfl) (elem_sub (f := 0) cl44 [.string x1] rfl)) rfl fun _ F46 => ?_)
         refine l_op (f_as F46 rfl rfl rfl rfl rfl fun _ F47 => ?_)
         have F48 : Fr 42 [(7, .string x1), (28, .int .i64 ((j : Nat) : Int)), (27, .int .i64 ((other_writes_n : Nat) : Int)), (26, .slice other_writes_a other_writes_n other_writes_c), (0, .pointer (some ⟨t_b, 0, none⟩))] _ := F47.cut rfl
         clear F42 F45 F46 F47
         refine s_end (x_normal (wp_region_lit (l_op (f_mv F48 rfl rfl rfl rfl rfl fun _ F49 => ?_))))
         refine l_op (f_mv F49 rfl rfl rfl rfl rfl fun _ F50 => ?_)
         refine l_op (f_val F50 rfl rfl (r_nilCheck rfl (F50.ev 33 rfl)) rfl fun _ F51 => ?_)
         refine l_op (f_val F51 rfl rfl (r_field FI_26_1 rfl (F51.ev 34 rfl) rfl) rfl fun _ F52 => ?_)
         refine l_op (f_val (v := .slice ua un uc) F52 rfl rfl (r_loadB S40.at' 1 TI_22 rfl rfl (F52.ev 35 rfl) rfl rfl (fun _ => rfl) rfl) rfl fun _ F53 => ?_)
         refine l_op (f_mv F53 rfl rfl rfl rfl rfl fun _ F54 => ?_)
         refine l_op (f_call F54 CF_78 rfl rfl rfl rfl (lc (F54.ev 36 rfl) (lc (F54.ev 37 rfl) rfl)) (impl_addSpan_c (H := fun _ => True) (list := joinL t.writes (other.writes.take j)) (span := x1) okx1 (by first | assumption | omega | (simp <;> omega)) (At.pick (is := [3]) S40.at' rfl)) ?_)
         rintro _ w55 ⟨r0_a_55, r0_n_55, r0_c_55, rfl, m55⟩
         refine ⟨_, rfl, fun _ F56 => ?_⟩
         have S55 : Mv _ _ [ow 9 1 encS okS (.slice r0_a_55 r0_n_55 r0_c_55) (putL (joinL t.writes (other.writes.take j)) x1), bx b1 [.slice other_reads_a other_reads_n other_reads_c, .slice other_writes_a other_writes_n other_writes_c] 26, bx t_b [.slice ra rn rc, .slice ua un uc] 26, ow 9 1 encS okS (.slice ra rn rc) (joinL t.reads (other.reads.take k))] _ := At.frame S40.at' [3] rfl m55
         obtain ⟨lo55_0, lp55_0, lq55_0⟩ := At.ownInv S55.at' ET_22.hk 0 rfl
         clear m55
         refine l_op (f_val F56 rfl rfl (r_nilCheck rfl (F56.ev 32 rfl)) rfl fun _ F57 => ?_)
         refine l_op (f_val F57 rfl rfl (r_field FI_26_1 rfl (F57.ev 39 rfl) rfl) rfl fun _ F58 => ?_)
         refine l_op (s_store S55.at' 2 TI_22 rfl rfl rfl rfl rfl (F58.ev 40 rfl) (F58.ev 38 rfl) rfl rfl rfl rfl rfl fun w59 S59 => ?_)
         have F60 : Fr 42 [(40, .pointer (some ⟨t_b, 1, none⟩)), (38, .slice r0_a_55 r0_n_55 r0_c_55), (28, .int .i64 ((j : Nat) : Int)), (27, .int .i64 ((other_writes_n : Nat) : Int)), (26, .slice other_writes_a other_writes_n other_writes_c), (0, .pointer (some ⟨t_b, 0, none⟩))] _ := F58.cut rfl
         clear F48 F49 F50 F51 F52 F53 F54 F56 F57 F58
         have T61 : Mv _ _ [bx t_b [.slice ra rn rc, .slice r0_a_55 r0_n_55 r0_c_55] 26, ow 9 1 encS okS (.slice r0_a_55 r0_n_55 r0_c_55) (putL (joinL t.writes (other.writes.take j)) x1), bx b1 [.slice other_reads_a other_reads_n other_reads_c, .slice other_writes_a other_writes_n other_writes_c] 26, ow 9 1 encS okS (.slice ra rn rc) (joinL t.reads (other.reads.take k))] _ := S59
         refine s_end (x_block_normal (x_normal (wp_region_lit (l_op (f_val F60 rfl rfl (r_add (z := ((j + 1 : Nat) : Int)) rfl (F60.ev 28 rfl) rfl (by first | rfl | omega) ⟨by first | omega | (unfold i64ok at *; omega), by first | omega | (unfold i64ok at *; omega)⟩) rfl fun _ F62 => ?_)))))
         refine l_op (f_mv F62 rfl rfl rfl rfl rfl fun _ F63 => ?_)
         have F64 : Fr 42 [(28, .int .i64 ((j + 1 : Nat) : Int)), (27, .int .i64 ((other_writes_n : Nat) : Int)), (26, .slice other_writes_a other_writes_n other_writes_c), (0, .pointer (some ⟨t_b, 0, none⟩))] _ := F63.cut rfl
         clear F60 F62 F63
         refine s_end ?_
         refine x_normal ⟨j + 1, by omega, r0_a_55, r0_n_55, r0_c_55, F64.cut rfl, (Mv.cast ((S40.trans (S55.trans T61)).pick [2, 0, 3, 1] rfl) (by (rw [joinL_step hx1]); all_goals rfl)), by omega, by rw [joinL_step hx1]; assumption⟩
       · skip
         refine wp_exit (x_then_exit (x_then_exit (x_block_here ?_)))
         refine x_done_end (v := .tuple #[]) F42 (results_0 Try.results72) ?_
         exact ⟨ra, rn, rc, ua, un, uc, rfl, (Mv.cast (Mv.pick (T4.trans (S10.trans S40)) [1, 2, 3] rfl) (by rw [(show (joinL t.reads (other.reads.take k)) = (joinT t other).reads from by unfold joinT; dsimp only; congr 1; exact List.take_of_length_le (by omega)), (show (joinL t.writes (other.writes.take j)) = (joinT t other).writes from by unfold joinT; dsimp only; congr 1; exact List.take_of_length_le (by omega))]; all_goals rfl))⟩
theorem impl_JoinTouch_c {w : World} {H : Nat → Prop} {a : TouchD} {a_reads_a : Option Addr} {a_reads_n a_reads_c : Nat} {a_writes_a : Option Addr} {a_writes_n a_writes_c : Nat} {b : TouchD} {b_reads_a : Option Addr} {b_reads_n b_reads_c : Nat} {b_writes_a : Option Addr} {b_writes_n b_writes_c : Nat} (v_a_reads : Rd 1 encS okS H w (.slice a_reads_a a_reads_n a_reads_c) a.reads) (v_a_writes : Rd 1 encS okS H w (.slice a_writes_a a_writes_n a_writes_c) a.writes) (v_b_reads : Rd 1 encS okS H w (.slice b_reads_a b_reads_n b_reads_c) b.reads) (v_b_writes : Rd 1 encS okS H w (.slice b_writes_a b_writes_n b_writes_c) b.writes) (p0 : a.reads.length ≤ 137438953472) (p1 : a.writes.length ≤ 137438953472) (p2 : b.reads.length ≤ 137438953472) (p3 : b.writes.length ≤ 137438953472) :
    Calls Try.prog 15 #[.agg #[.slice a_reads_a a_reads_n a_reads_c, .slice a_writes_a a_writes_n a_writes_c], .agg #[.slice b_reads_a b_reads_n b_reads_c, .slice b_writes_a b_writes_n b_writes_c]] w fun e w' => ∃ (r0_reads_a : Option Addr), ∃ (r0_reads_n : Nat), ∃ (r0_reads_c : Nat), ∃ (r0_writes_a : Option Addr), ∃ (r0_writes_n : Nat), ∃ (r0_writes_c : Nat), e = .returned (.agg #[.slice r0_reads_a r0_reads_n r0_reads_c, .slice r0_writes_a r0_writes_n r0_writes_c]) ∧ Mv [] w [ow 9 1 encS okS (.slice r0_reads_a r0_reads_n r0_reads_c) (joinT a b).reads, ow 9 1 encS okS (.slice r0_writes_a r0_writes_n r0_writes_c) (joinT a b).writes] w' := by
 have V_v_a_reads : Rd 1 encS okS (V H w []) w (.slice a_reads_a a_reads_n a_reads_c) a.reads := Rd.start v_a_reads (fun _ _ => fps_nil _)
 obtain ⟨ln_a_reads, le_a_reads, mx_a_reads, ni_a_reads⟩ := Rd.inv v_a_reads
 have V_v_a_writes : Rd 1 encS okS (V H w []) w (.slice a_writes_a a_writes_n a_writes_c) a.writes := Rd.start v_a_writes (fun _ _ => fps_nil _)
 obtain ⟨ln_a_writes, le_a_writes, mx_a_writes, ni_a_writes⟩ := Rd.inv v_a_writes
 have V_v_b_reads : Rd 1 encS okS (V H w []) w (.slice b_reads_a b_reads_n b_reads_c) b.reads := Rd.start v_b_reads (fun _ _ => fps_nil _)
 obtain ⟨ln_b_reads, le_b_reads, mx_b_reads, ni_b_reads⟩ := Rd.inv v_b_reads
 have V_v_b_writes : Rd 1 encS okS (V H w []) w (.slice b_writes_a b_writes_n b_writes_c) b.writes := Rd.start v_b_writes (fun _ _ => fps_nil _)
 obtain ⟨ln_b_writes, le_b_writes, mx_b_writes, ni_b_writes⟩ := Rd.inv v_b_writes
 refine calls_enter 11 Try.func15 rfl Try.ntmps15 (Nat.le_of_ble_eq_true rfl) (fun _ F0i => ?_)
 have F0 : Fr 11 [(0, .agg #[.slice a_reads_a a_reads_n a_reads_c, .slice a_writes_a a_writes_n a_writes_c]), (1, .agg #[.slice b_reads_a b_reads_n b_reads_c, .slice b_writes_a b_writes_n b_writes_c])] _ := F0i
 clear F0i
 refine wp_seq (wp_region_lit (l_op (f_box F0 (At.nil w) rfl rfl rfl (F0.ev 0 rfl) rfl rfl fun b1 _ w1 F2 S1 => ?_)))
 refine l_op (f_box F2 S1.at' rfl rfl rfl (F2.ev 1 rfl) rfl rfl fun b3 _ w3 F4 S3 => ?_)
 refine l_op (f_alloc F4 S3.at' ZI_26 rfl rfl rfl rfl rfl fun b5 _ w5 F6 S5 => ?_)
 have F7 : Fr 11 [(4, .pointer (some ⟨b5, 0, none⟩)), (3, .pointer (some ⟨b3, 0, none⟩)), (2, .pointer (some ⟨b1, 0, none⟩))] _ := F6.cut rfl
 clear F0 F2 F4 F6
 have T8 : Mv _ _ [bx b5 [.slice none 0 0, .slice none 0 0] 26, bx b3 [.slice b_reads_a b_reads_n b_reads_c, .slice b_writes_a b_writes_n b_writes_c] 26, bx b1 [.slice a_reads_a a_reads_n a_reads_c, .slice a_writes_a a_writes_n a_writes_c] 26] _ := S5
 refine s_end (x_normal (wp_seq (wp_region_lit (l_op (f_val (v := .agg #[.slice a_reads_a a_reads_n a_reads_c, .slice a_writes_a a_writes_n a_writes_c]) F7 rfl rfl (r_loadB T8.at' 2 TI_26 rfl rfl (F7.ev 2 rfl) rfl rfl (fun h => nomatch h) rfl) rfl fun _ F9 => ?_)))))
 refine l_op (f_call F9 CF_71 rfl rfl rfl rfl (lc (F9.ev 6 rfl) rfl) (impl_Touch_clone_c (t := a) (Rd.mv (Nat.succ_pos _) V_v_a_reads (S1.trans (S3.trans T8))) (Rd.mv (Nat.succ_pos _) V_v_a_writes (S1.trans (S3.trans T8))) (by first | assumption | omega | (simp <;> omega)) (by first | assumption | omega | (simp <;> omega))) ?_)
 rintro _ w10 ⟨r0_reads_a_10, r0_reads_n_10, r0_reads_c_10, r0_writes_a_10, r0_writes_n_10, r0_writes_c_10, rfl, m10⟩
 refine ⟨_, rfl, fun _ F11 => ?_⟩
 have S10 : Mv _ _ [ow 9 1 encS okS (.slice r0_reads_a_10 r0_reads_n_10 r0_reads_c_10) a.reads, ow 9 1 encS okS (.slice r0_writes_a_10 r0_writes_n_10 r0_writes_c_10) a.writes, bx b5 [.slice none 0 0, .slice none 0 0] 26, bx b3 [.slice b_reads_a b_reads_n b_reads_c, .slice b_writes_a b_writes_n b_writes_c] 26, bx b1 [.slice a_reads_a a_reads_n a_reads_c, .slice a_writes_a a_writes_n a_writes_c] 26] _ := At.frame T8.at' [] rfl m10
 obtain ⟨lo10_0, lp10_0, lq10_0⟩ := At.ownInv S10.at' ET_22.hk 0 rfl
 obtain ⟨lo10_1, lp10_1, lq10_1⟩ := At.ownInv S10.at' ET_22.hk 1 rfl
 clear m10
 refine l_op (f_alloc F11 S10.at' ZI_26 rfl rfl rfl rfl rfl fun b12 _ w12 F13 S12 => ?_)
 refine l_op (s_store S12.at' 0 TI_26 rfl rfl rfl rfl rfl (F13.ev 5 rfl) (F13.ev 7 rfl) rfl rfl rfl rfl rfl fun w14 S14 => ?_)
 have F15 : Fr 11 [(5, .pointer (some ⟨b12, 0, none⟩)), (7, .agg #[.slice r0_reads_a_10 r0_reads_n_10 r0_reads_c_10, .slice r0_writes_a_10 r0_writes_n_10 r0_writes_c_10]), (4, .pointer (some ⟨b5, 0, none⟩)), (3, .pointer (some ⟨b3, 0, none⟩))] _ := F13.cut rfl
 clear F7 F9 F11 F13
 have T16 : Mv _ _ [bx b12 [.slice r0_reads_a_10 r0_reads_n_10 r0_reads_c_10, .slice r0_writes_a_10 r0_writes_n_10 r0_writes_c_10] 26, ow 9 1 encS okS (.slice r0_reads_a_10 r0_reads_n_10 r0_reads_c_10) a.reads, ow 9 1 encS okS (.slice r0_writes_a_10 r0_writes_n_10 r0_writes_c_10) a.writes, bx b5 [.slice none 0 0, .slice none 0 0] 26, bx b3 [.slice b_reads_a b_reads_n b_reads_c, .slice b_writes_a b_writes_n b_writes_c] 26, bx b1 [.slice a_reads_a a_reads_n a_reads_c, .slice a_writes_a a_writes_n a_writes_c] 26] _ := S14
 refine s_end (x_normal (wp_seq (wp_region_lit (l_op (f_val (v := .agg #[.slice b_reads_a b_reads_n b_reads_c, .slice b_writes_a b_writes_n b_writes_c]) F15 rfl rfl (r_loadB T16.at' 4 TI_26 rfl rfl (F15.ev 3 rfl) rfl rfl (fun h => nomatch h) rfl) rfl fun _ F17 => ?_)))))
 refine l_op (f_call F17 CF_72 rfl rfl rfl rfl (lc (F17.ev 5 rfl) (lc (F17.ev 8 rfl) rfl)) (impl_Touch_join_c (t := a) (other := b) (Rd.mv (Nat.succ_pos _) V_v_b_reads (S1.trans (S3.trans (T8.trans (S10.trans (S12.trans T16)))))) (Rd.mv (Nat.succ_pos _) V_v_b_writes (S1.trans (S3.trans (T8.trans (S10.trans (S12.trans T16)))))) (by first | assumption | omega | (simp <;> omega)) (by first | assumption | omega | (simp <;> omega)) (by first | assumption | omega | (simp <;> omega)) (by first | assumption | omega | (simp <;> omega)) (At.pick (is := [0, 1, 2]) T16.at' rfl) (V_off (is := [0, 1, 2]))) ?_)
 rintro _ w18 ⟨qt_reads_a_18, qt_reads_n_18, qt_reads_c_18, qt_writes_a_18, qt_writes_n_18, qt_writes_c_18, rfl, m18⟩
 refine ⟨_, rfl, fun _ F19 => ?_⟩
 have S18 : Mv _ _ [bx b12 [.slice qt_reads_a_18 qt_reads_n_18 qt_reads_c_18, .slice qt_writes_a_18 qt_writes_n_18 qt_writes_c_18] 26, ow 9 1 encS okS (.slice qt_reads_a_18 qt_reads_n_18 qt_reads_c_18) (joinT a b).reads, ow 9 1 encS okS (.slice qt_writes_a_18 qt_writes_n_18 qt_writes_c_18) (joinT a b).writes, bx b5 [.slice none 0 0, .slice none 0 0] 26, bx b3 [.slice b_reads_a b_reads_n b_reads_c, .slice b_writes_a b_writes_n b_writes_c] 26, bx b1 [.slice a_reads_a a_reads_n a_reads_c, .slice a_writes_a a_writes_n a_writes_c] 26] _ := At.frame T16.at' [0, 1, 2] rfl m18
 obtain ⟨lo18_1, lp18_1, lq18_1⟩ := At.ownInv S18.at' ET_22.hk 1 rfl
 obtain ⟨lo18_2, lp18_2, lq18_2⟩ := At.ownInv S18.at' ET_22.hk 2 rfl
 clear m18
 have F20 : Fr 11 [(9, .tuple #[]), (5, .pointer (some ⟨b12, 0, none⟩)), (4, .pointer (some ⟨b5, 0, none⟩))] _ := F19.cut rfl
 clear F15 F17 F19
 refine s_end (x_normal (wp_seq (wp_region_lit (l_op (f_val (v := .agg #[.slice qt_reads_a_18 qt_reads_n_18 qt_reads_c_18, .slice qt_writes_a_18 qt_writes_n_18 qt_writes_c_18]) F20 rfl rfl (r_loadB S18.at' 0 TI_26 rfl rfl (F20.ev 5 rfl) rfl rfl (fun h => nomatch h) rfl) rfl fun _ F21 => ?_)))))
 refine l_op (s_store S18.at' 3 TI_26 rfl rfl rfl rfl rfl (F21.ev 4 rfl) (F21.ev 10 rfl) rfl rfl rfl rfl rfl fun w22 S22 => ?_)
 have F23 : Fr 11 [(10, .agg #[.slice qt_reads_a_18 qt_reads_n_18 qt_reads_c_18, .slice qt_writes_a_18 qt_writes_n_18 qt_writes_c_18]), (4, .pointer (some ⟨b5, 0, none⟩))] _ := F21.cut rfl
 clear F20 F21
 have T24 : Mv _ _ [bx b5 [.slice qt_reads_a_18 qt_reads_n_18 qt_reads_c_18, .slice qt_writes_a_18 qt_writes_n_18 qt_writes_c_18] 26, bx b12 [.slice qt_reads_a_18 qt_reads_n_18 qt_reads_c_18, .slice qt_writes_a_18 qt_writes_n_18 qt_writes_c_18] 26, ow 9 1 encS okS (.slice qt_reads_a_18 qt_reads_n_18 qt_reads_c_18) (joinT a b).reads, ow 9 1 encS okS (.slice qt_writes_a_18 qt_writes_n_18 qt_writes_c_18) (joinT a b).writes, bx b3 [.slice b_reads_a b_reads_n b_reads_c, .slice b_writes_a b_writes_n b_writes_c] 26, bx b1 [.slice a_reads_a a_reads_n a_reads_c, .slice a_writes_a a_writes_n a_writes_c] 26] _ := S22
 refine s_end (x_normal (wp_ret ?_))
 refine x_done (v := .agg #[.slice qt_reads_a_18 qt_reads_n_18 qt_reads_c_18, .slice qt_writes_a_18 qt_writes_n_18 qt_writes_c_18]) F23 (results_1 Try.results15 (.cell (F23.ev 4 rfl) (run_loadVar' TI_26 _ [.slice qt_reads_a_18 qt_reads_n_18 qt_reads_c_18, .slice qt_writes_a_18 qt_writes_n_18 qt_writes_c_18] rfl (fun h => nomatch h) (At.cells T24.at' 0 rfl 0 [.slice qt_reads_a_18 qt_reads_n_18 qt_reads_c_18, .slice qt_writes_a_18 qt_writes_n_18 qt_writes_c_18] rfl)))) ?_
 exact ⟨qt_reads_a_18, qt_reads_n_18, qt_reads_c_18, qt_writes_a_18, qt_writes_n_18, qt_writes_c_18, rfl, (Mv.pick (S1.trans (S3.trans (T8.trans (S10.trans (S12.trans (T16.trans (S18.trans T24))))))) [2, 3] rfl)⟩
theorem impl_AddSpan_c {w : World} {H : Nat → Prop} {list : List ByteArray} {list_a : Option Addr} {list_n list_c : Nat} {span : ByteArray} (v_list : Rd 1 encS okS H w (.slice list_a list_n list_c) list) (h_span : okS span) (p0 : list_n ≤ 137438953472) :
    Calls Try.prog 28 #[.slice list_a list_n list_c, .string span] w fun e w' => ∃ (r0_a : Option Addr), ∃ (r0_n : Nat), ∃ (r0_c : Nat), e = .returned (.slice r0_a r0_n r0_c) ∧ Mv [] w [ow 9 1 encS okS (.slice r0_a r0_n r0_c) (putL list span)] w' := by
 have V_v_list : Rd 1 encS okS (V H w []) w (.slice list_a list_n list_c) list := Rd.start v_list (fun _ _ => fps_nil _)
 obtain ⟨ln_list, le_list, mx_list, ni_list⟩ := Rd.inv v_list
 refine calls_enter 9 Try.func28 rfl Try.ntmps28 (Nat.le_of_ble_eq_true rfl) (fun _ F0i => ?_)
 have F0 : Fr 9 [(0, .slice list_a list_n list_c), (1, .string span)] _ := F0i
 clear F0i
 refine wp_seq (wp_region_lit (l_op (f_val F0 rfl rfl (r_assign rfl rfl) rfl fun _ F1 => ?_)))
 have F2 : Fr 9 [(4, .slice none 0 0), (0, .slice list_a list_n list_c), (1, .string span)] _ := F1.cut rfl
 clear F0 F1
 refine s_end (x_normal (wp_seq (wp_region_lit (l_op (f_mv F2 rfl rfl rfl rfl rfl fun _ F3 => ?_)))))
 refine l_op (f_call F3 CF_79 rfl rfl rfl rfl (lc (F3.ev 5 rfl) rfl) (slices_Clone_Sstring_string_c (s := list) V_v_list (by first | assumption | omega | (simp <;> omega))) ?_)
 rintro _ w4 ⟨r0_a_4, r0_n_4, r0_c_4, rfl, m4⟩
 refine ⟨_, rfl, fun _ F5 => ?_⟩
 have S4 : Mv _ _ [ow 9 1 encS okS (.slice r0_a_4 r0_n_4 r0_c_4) list] _ := At.frame (At.nil w) [] rfl m4
 obtain ⟨lo4_0, lp4_0, lq4_0⟩ := At.ownInv S4.at' ET_22.hk 0 rfl
 clear m4
 refine l_op (f_mv F5 rfl rfl rfl rfl rfl fun _ F6 => ?_)
 refine l_op (f_call F6 CF_78 rfl rfl rfl rfl (lc (F6.ev 6 rfl) (lc (F6.ev 7 rfl) rfl)) (impl_addSpan_c (H := fun _ => True) (list := list) (span := span) h_span (by first | assumption | omega | (simp <;> omega)) (At.pick (is := [0]) S4.at' rfl)) ?_)
 rintro _ w7 ⟨r0_a_7, r0_n_7, r0_c_7, rfl, m7⟩
 refine ⟨_, rfl, fun _ F8 => ?_⟩
 have S7 : Mv _ _ [ow 9 1 encS okS (.slice r0_a_7 r0_n_7 r0_c_7) (putL list span)] _ := At.frame S4.at' [0] rfl m7
 obtain ⟨lo7_0, lp7_0, lq7_0⟩ := At.ownInv S7.at' ET_22.hk 0 rfl
 clear m7
 refine l_op (f_as F8 rfl rfl rfl rfl rfl fun _ F9 => ?_)
 have F10 : Fr 9 [(4, .slice r0_a_7 r0_n_7 r0_c_7)] _ := F9.cut rfl
 clear F2 F3 F5 F6 F8 F9
 refine s_end (x_normal (wp_ret ?_))
 refine x_done (v := .slice r0_a_7 r0_n_7 r0_c_7) F10 (results_1 Try.results28 (.tmp (F10.ev 4 rfl))) ?_
 exact ⟨r0_a_7, r0_n_7, r0_c_7, rfl, (Mv.pick (S4.trans S7) [0] rfl)⟩
theorem laws_big_c {w : World} {H : Nat → Prop} {code : List Nat} {code_a : Option Addr} {code_n code_c : Nat} (v_code : RdA 1 encB okB H w (.slice code_a code_n code_c) code) :
    Calls Try.prog 19 #[.slice code_a code_n code_c] w fun e w' => e = .returned (.bool (decide (code.length > 1048576))) ∧ Mv [] w [] w' := by
 have V_v_code : RdA 1 encB okB (V H w []) w (.slice code_a code_n code_c) code := RdA.start v_code (fun _ _ => fps_nil _)
 obtain ⟨ln_code, le_code, mx_code, ni_code⟩ := RdA.inv v_code
 refine calls_enter 6 Try.func19 rfl Try.ntmps19 (Nat.le_of_ble_eq_true rfl) (fun _ F0i => ?_)
 have F0 : Fr 6 [(0, .slice code_a code_n code_c)] _ := F0i
 clear F0i
 refine wp_seq (wp_region_lit (l_op (f_val F0 rfl rfl (r_assign rfl rfl) rfl fun _ F1 => ?_)))
 have F2 : Fr 6 [(2, .bool false), (0, .slice code_a code_n code_c)] _ := F1.cut rfl
 clear F0 F1
 refine s_end (x_normal (wp_seq (wp_region_lit (l_op (f_mv F2 rfl rfl rfl rfl rfl fun _ F3 => ?_)))))
 refine l_op (f_val F3 rfl rfl (r_len Try.underlying32 rfl (F3.ev 3 rfl)) rfl fun _ F4 => ?_)
 refine l_op (f_val F4 rfl rfl (r_cmp (b := decide (code_n > 1048576)) (.inr (.inr (.inr (.inr (.inl rfl))))) rfl (F4.ev 4 rfl) rfl (dec_of (by omega))) rfl fun _ F5 => ?_)
 refine l_op (f_as F5 rfl rfl rfl rfl rfl fun _ F6 => ?_)
 have F7 : Fr 6 [(2, .bool (decide (code_n > 1048576)))] _ := F6.cut rfl
 clear F2 F3 F4 F5 F6
 refine s_end (x_normal (wp_ret ?_))
 refine x_done (v := .bool (decide (code_n > 1048576))) F7 (results_1 Try.results19 (.tmp (F7.ev 2 rfl))) ?_
 exact ⟨(by rw [(show (decide (code_n > 1048576)) = (decide (code.length > 1048576)) from by rw [ln_code])]), (Mv.pick (Mv.refl (At.nil w)) [] rfl)⟩
theorem spec_DrawCovers_c {w : World} {H : Nat → Prop} {code : List Nat} {code_a : Option Addr} {code_n code_c : Nat} (v_code : RdA 1 encB okB H w (.slice code_a code_n code_c) code) (p0 : code_n ≤ 1048576) :
    Calls Try.prog 30 #[.slice code_a code_n code_c] w fun e w' => ∃ (l : List ByteArray), ∃ (l2 : List ByteArray), ∃ (r0_a : Option Addr), ∃ (r0_n : Nat), ∃ (r0_c : Nat), ∃ (r1_a : Option Addr), ∃ (r1_n : Nat), ∃ (r1_c : Nat), e = .returned (.tuple #[.slice r0_a r0_n r0_c, .slice r1_a r1_n r1_c]) ∧ Mv [] w [ow 9 1 encS okS (.slice r1_a r1_n r1_c) l2] w' ∧ Rd 1 encS okS (V (HP H []) w [ow 9 1 encS okS (.slice r1_a r1_n r1_c) l2]) w' (.slice r0_a r0_n r0_c) l ∧ l.length ≤ 4 ∧ l2.length ≤ 4 := by
 have V_v_code : RdA 1 encB okB (V (HP H []) w []) w (.slice code_a code_n code_c) code := RdA.startP v_code (fun _ _ => fps_nil _)
 obtain ⟨ln_code, le_code, mx_code, ni_code⟩ := RdA.inv v_code
 refine calls_enter 24 Try.func30 rfl Try.ntmps30 (Nat.le_of_ble_eq_true rfl) (fun _ F0i => ?_)
 have F0 : Fr 24 [(0, .slice code_a code_n code_c)] _ := F0i
 clear F0i
 refine wp_seq (wp_region_lit (l_op (f_val F0 rfl rfl (r_assign rfl rfl) rfl fun _ F1 => ?_)))
 refine l_op (f_val F1 rfl rfl (r_assign rfl rfl) rfl fun _ F2 => ?_)
 have F3 : Fr 24 [(3, .slice none 0 0), (0, .slice code_a code_n code_c)] _ := F2.cut rfl
 clear F0 F1 F2
 refine s_end (x_normal (wp_seq (wp_region_lit (l_op (f_mv F3 rfl rfl rfl rfl rfl fun _ F4 => ?_)))))
 refine l_op (f_call F4 CF_75 rfl rfl rfl rfl (lc (F4.ev 7 rfl) rfl) (spec_l01New_c (code := code) V_v_code (by first | assumption | omega | (simp <;> omega))) ?_)
 rintro _ w5 ⟨h2_5, r0_b_5, rfl, m5, q5_0⟩
 refine ⟨_, rfl, fun _ F6 => ?_⟩
 have S5 : Mv _ _ [bx r0_b_5 [.slice code_a code_n code_c, .int .i64 ((0 : Nat) : Int), .int .i64 h2_5] 108] _ := At.frame (At.nil w) [] rfl m5
 clear m5
 refine l_op (f_as F6 rfl rfl rfl rfl rfl fun _ F7 => ?_)
 have F8 : Fr 24 [(4, .pointer (some ⟨r0_b_5, 0, none⟩))] _ := F7.cut rfl
 clear F3 F4 F6 F7
 refine s_end (x_normal (wp_seq (wp_region_lit (l_op (f_buildSl (ok := okS) (vs := []) F8 S5.at' (([] : List ByteArray)) ET_22 rfl rfl rfl rfl rfl rfl rfl rfl rfl (by simp) fun b9 _ w9 F10 S9 => ?_)))))
 refine l_op (f_as F10 rfl rfl rfl rfl rfl fun _ F11 => ?_)
 have F12 : Fr 24 [(5, .slice (some ⟨b9, 0, none⟩) 0 0), (4, .pointer (some ⟨r0_b_5, 0, none⟩))] _ := F11.cut rfl
 clear F8 F10 F11
 have T13 : Mv _ _ [ow 9 1 encS okS (.slice (some ⟨b9, 0, none⟩) 0 0) ([] : List ByteArray), bx r0_b_5 [.slice code_a code_n code_c, .int .i64 ((0 : Nat) : Int), .int .i64 h2_5] 108] _ := S9
 refine s_end (x_normal (wp_seq (wp_seq (wp_region_lit (l_op (f_val F12 rfl rfl (r_assign rfl rfl) rfl fun _ F14 => ?_))))))
 have F15 : Fr 24 [(6, .int .i64 0), (5, .slice (some ⟨b9, 0, none⟩) 0 0), (4, .pointer (some ⟨r0_b_5, 0, none⟩))] _ := F14.cut rfl
 clear F12 F14
 refine s_end (x_normal (wp_block ?_))
 refine x_loop (fun (k : Nat) aZ wZ => ∃ (pp : Nat), ∃ (hh : Int), ∃ (O : List ByteArray), ∃ (oa : Option Addr), ∃ (on : Nat), ∃ (oc : Nat), Fr 24 [(6, .int .i64 ((k : Nat) : Int)), (5, .slice oa on oc), (4, .pointer (some ⟨r0_b_5, 0, none⟩))] aZ ∧ Mv [ow 9 1 encS okS (.slice (some ⟨b9, 0, none⟩) 0 0) ([] : List ByteArray), bx r0_b_5 [.slice code_a code_n code_c, .int .i64 ((0 : Nat) : Int), .int .i64 h2_5] 108] w9 [ow 9 1 encS okS (.slice oa on oc) O, bx r0_b_5 [.slice code_a code_n code_c, .int .i64 ((pp : Nat) : Int), .int .i64 hh] 108] wZ ∧ (pp ≤ code_n) ∧ (i64ok hh) ∧ (O.length ≤ k) ∧ (k ≤ 3)) (fun (k : Nat) => 3 - k) (0) ?_ ?_
 · exact ⟨0, h2_5, ([] : List ByteArray), (some ⟨b9, 0, none⟩), 0, 0, F15.cut rfl, (Mv.refl T13.at'), by omega, by assumption, Nat.le_refl _, by omega⟩
 · rintro k a16 w16 ⟨pp, hh, O, oa, on, oc, F16, S16, hk_0, hk_1, hk_2, hk_3⟩
   refine wp_seq (wp_seq (wp_region_lit (l_op (f_mv F16 rfl rfl rfl rfl rfl fun _ F17 => ?_))))
   refine l_op (f_mv F17 rfl rfl rfl rfl rfl fun _ F18 => ?_)
   refine l_op (f_call F18 CF_80 rfl rfl rfl rfl (lc (F18.ev 11 rfl) (lc rfl rfl)) (spec_l01Below_c (c := (⟨code, pp, hh⟩ : CurD)) (n := 3) (RdA.mv (Nat.succ_pos _) V_v_code (S5.trans (T13.trans S16))) (by unfold i64ok; (try dsimp only); omega) (by first | assumption | exact w64_ok _ | exact ⟨by omega, by omega⟩ | (unfold i64ok at *; omega)) (by first | assumption | exact ⟨by omega, by omega⟩ | (unfold i64ok at *; omega)) (by first | assumption | omega | (simp <;> omega)) (At.pick (is := [1]) S16.at' rfl) (V_off (is := [1]))) ?_)
   rintro _ w19 ⟨i2_19, h2_19, r_19, rfl, m19, q19_0, q19_1, q19_2, q19_3⟩
   refine ⟨_, rfl, fun _ F20 => ?_⟩
   have S19 : Mv _ _ [bx r0_b_5 [.slice code_a code_n code_c, .int .i64 ((i2_19 : Nat) : Int), .int .i64 h2_19] 108, ow 9 1 encS okS (.slice oa on oc) O] _ := At.frame S16.at' [1] rfl m19
   clear m19
   refine l_op (f_val F20 rfl rfl (r_cmp (b := decide (k < r_19)) (.inr (.inr (.inl rfl))) rfl (F20.ev 10 rfl) (F20.ev 12 rfl) (dec_of (by omega))) rfl fun _ F21 => ?_)
   have F22 : Fr 24 [(13, .bool (decide (k < r_19))), (6, .int .i64 ((k : Nat) : Int)), (5, .slice oa on oc), (4, .pointer (some ⟨r0_b_5, 0, none⟩))] _ := F21.cut rfl
   clear F16 F17 F18 F20 F21
   refine s_end (x_normal (x_cond (p := k < r_19) (F22.ev 13 rfl) (fun h23 => ?_) (fun h23 => ?_)))
   · skip
     refine wp_skip (x_normal (wp_seq (wp_block (wp_region_lit (l_op (f_mv F22 rfl rfl rfl rfl rfl fun _ F24 => ?_))))))
     refine l_op (f_mv F24 rfl rfl rfl rfl rfl fun _ F25 => ?_)
     refine l_op (f_call F25 CF_81 rfl rfl rfl rfl (lc (F25.ev 17 rfl) rfl) (spec_l02Key_c (c := (⟨code, i2_19, h2_19⟩ : CurD)) (RdA.mv (Nat.succ_pos _) V_v_code (S5.trans (T13.trans (S16.trans S19)))) (by unfold i64ok; (try dsimp only); omega) (by first | assumption | exact w64_ok _ | exact ⟨by omega, by omega⟩ | (unfold i64ok at *; omega)) (by first | assumption | omega | (simp <;> omega)) (At.pick (is := [0]) S19.at' rfl) (V_off (is := [0]))) ?_)
     rintro _ w26 ⟨i2_26, h2_26, r_26, rfl, m26, ok_r0_26, q26_0, q26_1, q26_2⟩
     refine ⟨_, rfl, fun _ F27 => ?_⟩
     have S26 : Mv _ _ [bx r0_b_5 [.slice code_a code_n code_c, .int .i64 ((i2_26 : Nat) : Int), .int .i64 h2_26] 108, ow 9 1 encS okS (.slice oa on oc) O] _ := At.frame S19.at' [0] rfl m26
     clear m26
     refine l_op (f_buildSl (ok := okS) (vs := [.string r_26]) F27 S26.at' ([r_26]) ET_22 rfl rfl rfl rfl rfl rfl (lc (pr2 (F27.ev 18 rfl)) rfl) rfl rfl (fun x hx => (List.mem_singleton.1 hx) ▸ ok_r0_26) fun b28 _ w28 F29 S28 => ?_)
     refine l_op (f_app (news := [r_26]) F29 S28.at' 2 ET_22 rfl rfl rfl rfl rfl rfl (F29.ev 16 rfl) (F29.ev 19 rfl) ((At.rd S28.at' ET_22.hk 0 rfl)).1 (by simp only [List.length_append, List.length_cons, List.length_nil]; omega) fun A30 N30 C30 _ w30 F31 S30 l30 => ?_)
     have S32 := At.drop S30.at' 1
     refine l_op (f_as F31 rfl rfl rfl rfl rfl fun _ F33 => ?_)
     have F34 : Fr 24 [(5, .slice A30 N30 C30), (6, .int .i64 ((k : Nat) : Int)), (4, .pointer (some ⟨r0_b_5, 0, none⟩))] _ := F33.cut rfl
     clear F22 F24 F25 F27 F29 F31 F33
     have T35 : Mv _ _ [ow 9 1 encS okS (.slice A30 N30 C30) (O ++ ([r_26])), bx r0_b_5 [.slice code_a code_n code_c, .int .i64 ((i2_26 : Nat) : Int), .int .i64 h2_26] 108] _ := S32
     refine s_end (x_block_normal (x_normal (wp_region_lit (l_op (f_mv F34 rfl rfl rfl rfl rfl fun _ F36 => ?_)))))
     refine l_op (f_val F36 rfl rfl (r_add (z := ((k + 1 : Nat) : Int)) rfl (F36.ev 14 rfl) rfl (by first | rfl | omega) ⟨by first | omega | (unfold i64ok at *; omega), by first | omega | (unfold i64ok at *; omega)⟩) rfl fun _ F37 => ?_)
     refine l_op (f_as F37 rfl rfl rfl rfl rfl fun _ F38 => ?_)
     have F39 : Fr 24 [(6, .int .i64 ((k + 1 : Nat) : Int)), (5, .slice A30 N30 C30), (4, .pointer (some ⟨r0_b_5, 0, none⟩))] _ := F38.cut rfl
     clear F34 F36 F37 F38
     refine s_end ?_
     refine x_normal ⟨k + 1, by omega, i2_26, h2_26, O ++ ([r_26]), A30, N30, C30, F39.cut rfl, ((S16.trans (S19.trans (S26.trans (S28.trans (S30.trans T35))))).pick [0, 1] rfl), by omega, by assumption, by simp only [List.length_append, List.length_cons, List.length_nil]; omega, by omega⟩
   · skip
     refine wp_exit (x_then_exit (x_then_exit (x_block_here (x_normal (wp_seq (wp_region_lit (l_op (f_mv F22 rfl rfl rfl rfl rfl fun _ F40 => ?_))))))))
     refine l_op (f_call F40 CF_76 rfl rfl rfl rfl (lc (F40.ev 21 rfl) rfl) (spec_l03List_c (c := (⟨code, i2_19, h2_19⟩ : CurD)) (RdA.mv (Nat.succ_pos _) V_v_code (S5.trans (T13.trans (S16.trans S19)))) (by unfold i64ok; (try dsimp only); omega) (by first | assumption | exact w64_ok _ | exact ⟨by omega, by omega⟩ | (unfold i64ok at *; omega)) (by first | assumption | omega | (simp <;> omega)) (At.pick (is := [0]) S19.at' rfl) (V_off (is := [0]))) ?_)
     rintro _ w41 ⟨i2_41, h2_41, l_41, r0_a_41, r0_n_41, r0_c_41, rfl, m41, v41_0, q41_0, q41_1, q41_2⟩
     refine ⟨_, rfl, fun _ F42 => ?_⟩
     have S41 : Mv _ _ [bx r0_b_5 [.slice code_a code_n code_c, .int .i64 ((i2_41 : Nat) : Int), .int .i64 h2_41] 108, ow 9 1 encS okS (.slice oa on oc) O] _ := At.frame S19.at' [0] rfl m41
     have V41_0 : Rd 1 encS okS (V (HP H []) w [bx r0_b_5 [.slice code_a code_n code_c, .int .i64 ((i2_41 : Nat) : Int), .int .i64 h2_41] 108, ow 9 1 encS okS (.slice oa on oc) O]) w41 (.slice r0_a_41 r0_n_41 r0_c_41) l_41 := Rd.gotP (New := [bx r0_b_5 [.slice code_a code_n code_c, .int .i64 ((i2_41 : Nat) : Int), .int .i64 h2_41] 108]) (is := [0]) S19.at' ((S5.trans (T13.trans (S16.trans S19))).kp.size) (fresh_hp (S5.trans (T13.trans (S16.trans S19)))) v41_0
     obtain ⟨ln41_0, le41_0, mx41_0, ni41_0⟩ := Rd.inv V41_0
     clear m41 v41_0
     refine l_op (f_mv F42 rfl rfl rfl rfl rfl fun _ F43 => ?_)
     refine l_op (f_as F43 rfl rfl rfl rfl rfl fun _ F44 => ?_)
     refine l_op (f_as F44 rfl rfl rfl rfl rfl fun _ F45 => ?_)
     have F46 : Fr 24 [(3, .slice oa on oc), (2, .slice r0_a_41 r0_n_41 r0_c_41)] _ := F45.cut rfl
     clear F22 F40 F42 F43 F44 F45
     refine s_end (x_normal (wp_ret ?_))
     refine x_done (v := .tuple #[.slice r0_a_41 r0_n_41 r0_c_41, .slice oa on oc]) F46 (results_2 Try.results30 (.tmp (F46.ev 2 rfl)) (.tmp (F46.ev 3 rfl))) ?_
     exact ⟨l_41, O, r0_a_41, r0_n_41, r0_c_41, oa, on, oc, rfl, (Mv.pick (S5.trans (T13.trans (S16.trans (S19.trans S41)))) [1] rfl), (Rd.mv (Nat.succ_pos _) V41_0 (Mv.pick (Mv.refl S41.at') [1] rfl)), by first | assumption | exact w64_ok _ | omega | (unfold i64ok; omega), by first | assumption | exact w64_ok _ | omega | (unfold i64ok; omega)⟩
end Go.Proofs.Ytbbkihijhdpliaa
