/-
  Walks: calls, answers and marks in the laws' hands.
-/
import Derived.Test.YtgfilegkabbliaaDatTx
namespace Go.Proofs.Ytgfilegkabbliaa
open Go.ChangeShapes Go.WideShapes Go.ChangeAt Go.RowKit
set_option maxRecDepth 100000
set_option maxHeartbeats 1000000
theorem laws_szStringS_c {w : World} {H : Nat → Prop} {a : List ByteArray} {a_a : Option Addr} {a_n a_c : Nat} {left : Int} (v_a : RdA 1 encS okS H w (.slice a_a a_n a_c) a) (h_left : i64ok left) (p0 : 0 ≤ left) (p1 : left ≤ 1048576) :
    Calls Try.prog 88 #[.slice a_a a_n a_c, .int .i64 left] w fun e w' => e = .returned (.int .i64 (subOr left (szStrs a))) ∧ Mv [] w [] w' ∧ i64ok (subOr left (szStrs a)) := by
  have uU : True := (fun _ => trivial) h_left
  clear uU
  refine (szStringS_c _ left w a v_a.1 p0 p1).mono ?_
  rintro e w' ⟨rfl, hb⟩
  exact ⟨rfl, Mv.of_bl hb, subOr_i64 p0 p1⟩
theorem laws_toStringS_c {w : World} {H : Nat → Prop} {a : List ByteArray} {a_a : Option Addr} {a_n a_c : Nat} (v_a : RdA 1 encS okS H w (.slice a_a a_n a_c) a) (p0 : a.length ≤ 1048576) :
    Calls Try.prog 93 #[.slice a_a a_n a_c] w fun e w' => ∃ (r0_a : Option Addr), ∃ (r0_n : Nat), ∃ (r0_c : Nat), e = .returned (.slice r0_a r0_n r0_c) ∧ Mv [] w [ow 9 1 encS okS (.slice r0_a r0_n r0_c) a] w' := by
  refine (toStringS_s _ w a v_a.1 p0).mono ?_
  rintro e w' ⟨x, n, c, rfl, h1, h2, h3⟩
  exact ⟨x, n, c, rfl, mv_of_fresh h1 h2 h3⟩
theorem laws_eqStringS_c {w : World} {H : Nat → Prop} {a : List ByteArray} {a_a : Option Addr} {a_n a_c : Nat} {b : List ByteArray} {b_a : Option Addr} {b_n b_c : Nat} (v_a : Rd 1 encS okS H w (.slice a_a a_n a_c) a) (v_b : Rd 1 encS okS H w (.slice b_a b_n b_c) b) (p0 : a = b) :
    Calls Try.prog 101 #[.slice a_a a_n a_c, .slice b_a b_n b_c] w fun e w' => e = .returned (.bool true) ∧ Mv [] w [] w' := by
  subst p0
  refine (eqStringS_c _ _ w a v_a.1 v_b.1).mono ?_
  rintro e w' ⟨rfl, hb⟩
  exact ⟨rfl, Mv.of_bl hb⟩
theorem laws_markStringS_c {w : World} {H : Nat → Prop} {a : List ByteArray} {a_a : Option Addr} {a_n a_c : Nat} {k : Nat} (h_k : i64ok (k : Int)) (p0 : k + a.length ≤ 4611686018427387904) (hA : At w [ow 9 1 encS okS (.slice a_a a_n a_c) a]) :
    Calls Try.prog 81 #[.slice a_a a_n a_c, .int .i64 ((k : Nat) : Int)] w fun e w' => e = .returned (.int .i64 ((k + a.length : Nat) : Int)) ∧ Mv [ow 9 1 encS okS (.slice a_a a_n a_c) a] w [ow 9 1 encS okS (.slice a_a a_n a_c) (marks k a.length)] w' := by
  have uU : True := (fun _ _ => trivial) H h_k
  clear uU
  have hO := hA.ok _ (List.mem_singleton.2 rfl)
  refine (markStringS_c _ k _ rfl w a hO p0).mono ?_
  rintro e w' ⟨rfl, h1, h2⟩
  exact ⟨rfl, mv_of_own h1 h2 (Moved.refl _ _)⟩
theorem laws_heldStringS_c {w : World} {H : Nat → Prop} {a : List ByteArray} {a_a : Option Addr} {a_n a_c : Nat} {k : Nat} {n : Nat} (v_a : Rd 1 encS okS H w (.slice a_a a_n a_c) a) (h_k : i64ok (k : Int)) (p0 : a = marks k n) (p1 : k + n ≤ 4611686018427387904) :
    Calls Try.prog 84 #[.slice a_a a_n a_c, .int .i64 ((k : Nat) : Int)] w fun e w' => e = .returned (.int .i64 ((k + n : Nat) : Int)) ∧ Mv [] w [] w' := by
  have uU : True := (fun _ => trivial) h_k
  clear uU
  subst p0
  refine (heldStringS_c _ k n _ rfl w v_a.1 p1).mono ?_
  rintro e w' ⟨rfl, hb⟩
  exact ⟨rfl, Mv.of_bl hb⟩
theorem slices_Clone_Sstring_string_c {w : World} {H : Nat → Prop} {s : List ByteArray} {s_a : Option Addr} {s_n s_c : Nat} (v_s : Rd 1 encS okS H w (.slice s_a s_n s_c) s) (p0 : s_n ≤ 1099511627776) :
    Calls Try.prog 149 #[.slice s_a s_n s_c] w fun e w' => ∃ (r0_a : Option Addr), ∃ (r0_n : Nat), ∃ (r0_c : Nat), e = .returned (.slice r0_a r0_n r0_c) ∧ Mv [] w [ow 9 1 encS okS (.slice r0_a r0_n r0_c) s] w' := by
  have uU : True := (fun _ => trivial) p0
  clear uU
  obtain ⟨hl, _⟩ := v_s.inv
  refine (cloneStrs_s _ w s v_s.1 (by omega)).mono ?_
  rintro e w' ⟨a, n, c, rfl, h1, h2, h3⟩
  exact ⟨a, n, c, rfl, mv_of_fresh h1 h2 h3⟩
theorem laws_szTouch_c {w : World} {H : Nat → Prop} {a : TouchD} {a_Ra : Option Addr} {a_Rn a_Rc : Nat} {a_Wa : Option Addr} {a_Wn a_Wc : Nat} {left : Int} (v_a_reads : RdA 1 encS okS H w (.slice a_Ra a_Rn a_Rc) a.reads) (v_a_writes : RdA 1 encS okS H w (.slice a_Wa a_Wn a_Wc) a.writes) (h_left : i64ok left) (p0 : 0 ≤ left) (p1 : left ≤ 1048576) :
    Calls Try.prog 111 #[.agg #[.slice a_Ra a_Rn a_Rc, .slice a_Wa a_Wn a_Wc], .int .i64 left] w fun e w' => e = .returned (.int .i64 (subOr left (szTouchD a))) ∧ Mv [] w [] w' ∧ i64ok (subOr left (szTouchD a)) := by
 have V_v_a_reads : RdA 1 encS okS (V H w []) w (.slice a_Ra a_Rn a_Rc) a.reads := RdA.start v_a_reads (fun _ _ => fps_nil _)
 obtain ⟨ln_a_reads, le_a_reads, mx_a_reads, ni_a_reads⟩ := RdA.inv v_a_reads
 have V_v_a_writes : RdA 1 encS okS (V H w []) w (.slice a_Wa a_Wn a_Wc) a.writes := RdA.start v_a_writes (fun _ _ => fps_nil _)
 obtain ⟨ln_a_writes, le_a_writes, mx_a_writes, ni_a_writes⟩ := RdA.inv v_a_writes
 refine calls_enter 18 Try.func111 rfl Try.ntmps111 (Nat.le_of_ble_eq_true rfl) (fun _ F0i => ?_)
 have F0 : Fr 18 [(0, .agg #[.slice a_Ra a_Rn a_Rc, .slice a_Wa a_Wn a_Wc]), (1, .int .i64 left)] _ := F0i
 clear F0i
 refine wp_seq (wp_region_lit (l_op (f_box F0 (At.nil w) rfl rfl rfl (F0.ev 0 rfl) rfl rfl fun b1 _ w1 F2 S1 => ?_)))
 refine l_op (f_val F2 rfl rfl (r_assign rfl rfl) rfl fun _ F3 => ?_)
 have F4 : Fr 18 [(4, .int .i64 0), (2, .pointer (some ⟨b1, 0, none⟩)), (1, .int .i64 left)] _ := F3.cut rfl
 clear F0 F2 F3
 have T5 : Mv _ _ [bx b1 [.slice a_Ra a_Rn a_Rc, .slice a_Wa a_Wn a_Wc] 91] _ := S1
 refine s_end (x_normal (wp_seq (wp_region_lit (l_op (f_val F4 rfl rfl (r_field FI_91_0 rfl (F4.ev 2 rfl) rfl) rfl fun _ F6 => ?_)))))
 refine l_op (f_val (v := .slice a_Ra a_Rn a_Rc) F6 rfl rfl (r_loadB T5.at' 0 TI_62 rfl rfl (F6.ev 5 rfl) rfl rfl (fun _ => rfl) rfl) rfl fun _ F7 => ?_)
 refine l_op (f_mv F7 rfl rfl rfl rfl rfl fun _ F8 => ?_)
 refine l_op (f_call F8 CF_88 rfl rfl rfl rfl (lc (F8.ev 6 rfl) (lc (F8.ev 7 rfl) rfl)) (laws_szStringS_c (a := a.reads) (left := left) (RdA.mv (Nat.succ_pos _) V_v_a_reads T5) h_left (by first | assumption | omega | (simp <;> omega)) (by first | assumption | (have := subOr_bd left (szStrs a.reads) p0; omega))) ?_)
 rintro _ w9 ⟨rfl, m9, q9_0⟩
 refine ⟨_, rfl, fun _ F10 => ?_⟩
 have S9 := At.frame0 T5.at' m9
 clear m9
 refine l_op (f_as F10 rfl rfl rfl rfl rfl fun _ F11 => ?_)
 have F12 : Fr 18 [(1, .int .i64 (subOr left (szStrs a.reads))), (2, .pointer (some ⟨b1, 0, none⟩))] _ := F11.cut rfl
 clear F4 F6 F7 F8 F10 F11
 have T13 : Mv _ _ [bx b1 [.slice a_Ra a_Rn a_Rc, .slice a_Wa a_Wn a_Wc] 91] _ := S9
 refine s_end (x_normal (wp_seq (wp_seq (wp_region_lit (l_op (f_mv F12 rfl rfl rfl rfl rfl fun _ F14 => ?_))))))
 refine l_op (f_val F14 rfl rfl (r_cmp (b := decide ((subOr left (szStrs a.reads)) < 0)) (.inr (.inr (.inl rfl))) rfl (F14.ev 9 rfl) rfl (dec_of (by omega))) rfl fun _ F15 => ?_)
 have F16 : Fr 18 [(10, .bool (decide ((subOr left (szStrs a.reads)) < 0))), (1, .int .i64 (subOr left (szStrs a.reads))), (2, .pointer (some ⟨b1, 0, none⟩))] _ := F15.cut rfl
 clear F12 F14 F15
 refine s_end (x_normal (x_cond (p := (subOr left (szStrs a.reads)) < 0) (F16.ev 10 rfl) (fun h17 => ?_) (fun h17 => ?_)))
 · skip
   refine wp_seq (wp_region_lit (l_op (f_val F16 rfl rfl (r_assign rfl rfl) rfl fun _ F18 => ?_)))
   have F19 : Fr 18 [(4, .int .i64 (-1))] _ := F18.cut rfl
   clear F16 F18
   refine s_end (x_normal (wp_ret (x_then_ret ?_)))
   refine x_done (v := .int .i64 (-1)) F19 (results_1 Try.results111 (.tmp (F19.ev 4 rfl))) ?_
   exact ⟨(by rw [(show (-1) = (subOr left (szTouchD a)) from by unfold szTouchD; exact (subOr_neg left _ _ (by assumption)).symm)]), (Mv.pick (T5.trans T13) [] rfl), subOr_i64 p0 p1⟩
 · skip
   refine wp_skip (x_normal (wp_seq (wp_region_lit (l_op (f_val F16 rfl rfl (r_field FI_91_1 rfl (F16.ev 2 rfl) rfl) rfl fun _ F20 => ?_)))))
   refine l_op (f_val (v := .slice a_Wa a_Wn a_Wc) F20 rfl rfl (r_loadB T13.at' 0 TI_62 rfl rfl (F20.ev 11 rfl) rfl rfl (fun _ => rfl) rfl) rfl fun _ F21 => ?_)
   refine l_op (f_mv F21 rfl rfl rfl rfl rfl fun _ F22 => ?_)
   refine l_op (f_call F22 CF_88 rfl rfl rfl rfl (lc (F22.ev 12 rfl) (lc (F22.ev 13 rfl) rfl)) (laws_szStringS_c (a := a.writes) (left := (subOr left (szStrs a.reads))) (RdA.mv (Nat.succ_pos _) V_v_a_writes (T5.trans T13)) (by first | assumption | exact ⟨by omega, by omega⟩ | (unfold i64ok at *; omega)) (by first | assumption | omega | (simp <;> omega)) (by first | assumption | (have := subOr_bd left (szStrs a.reads) p0; omega))) ?_)
   rintro _ w23 ⟨rfl, m23, q23_0⟩
   refine ⟨_, rfl, fun _ F24 => ?_⟩
   have S23 := At.frame0 T13.at' m23
   clear m23
   refine l_op (f_as F24 rfl rfl rfl rfl rfl fun _ F25 => ?_)
   have F26 : Fr 18 [(1, .int .i64 (subOr (subOr left (szStrs a.reads)) (szStrs a.writes)))] _ := F25.cut rfl
   clear F16 F20 F21 F22 F24 F25
   have T27 : Mv _ _ [bx b1 [.slice a_Ra a_Rn a_Rc, .slice a_Wa a_Wn a_Wc] 91] _ := S23
   refine s_end (x_normal (wp_seq (wp_seq (wp_region_lit (l_op (f_mv F26 rfl rfl rfl rfl rfl fun _ F28 => ?_))))))
   refine l_op (f_val F28 rfl rfl (r_cmp (b := decide ((subOr (subOr left (szStrs a.reads)) (szStrs a.writes)) < 0)) (.inr (.inr (.inl rfl))) rfl (F28.ev 15 rfl) rfl (dec_of (by omega))) rfl fun _ F29 => ?_)
   have F30 : Fr 18 [(16, .bool (decide ((subOr (subOr left (szStrs a.reads)) (szStrs a.writes)) < 0))), (1, .int .i64 (subOr (subOr left (szStrs a.reads)) (szStrs a.writes)))] _ := F29.cut rfl
   clear F26 F28 F29
   refine s_end (x_normal (x_cond (p := (subOr (subOr left (szStrs a.reads)) (szStrs a.writes)) < 0) (F30.ev 16 rfl) (fun h31 => ?_) (fun h31 => ?_)))
   · skip
     refine wp_seq (wp_region_lit (l_op (f_val F30 rfl rfl (r_assign rfl rfl) rfl fun _ F32 => ?_)))
     have F33 : Fr 18 [(4, .int .i64 (-1))] _ := F32.cut rfl
     clear F30 F32
     refine s_end (x_normal (wp_ret (x_then_ret ?_)))
     refine x_done (v := .int .i64 (-1)) F33 (results_1 Try.results111 (.tmp (F33.ev 4 rfl))) ?_
     exact ⟨(by rw [(show (-1) = (subOr left (szTouchD a)) from by unfold szTouchD; rw [subOr_add left _ _ (by omega)] at *; unfold subOr at *; split at * <;> omega)]), (Mv.pick (T5.trans (T13.trans T27)) [] rfl), subOr_i64 p0 p1⟩
   · skip
     refine wp_skip (x_normal (wp_seq (wp_region_lit (l_op (f_mv F30 rfl rfl rfl rfl rfl fun _ F34 => ?_)))))
     refine l_op (f_as F34 rfl rfl rfl rfl rfl fun _ F35 => ?_)
     have F36 : Fr 18 [(4, .int .i64 (subOr (subOr left (szStrs a.reads)) (szStrs a.writes)))] _ := F35.cut rfl
     clear F30 F34 F35
     refine s_end (x_normal (wp_ret ?_))
     refine x_done (v := .int .i64 (subOr (subOr left (szStrs a.reads)) (szStrs a.writes))) F36 (results_1 Try.results111 (.tmp (F36.ev 4 rfl))) ?_
     exact ⟨(by rw [(show (subOr (subOr left (szStrs a.reads)) (szStrs a.writes)) = (subOr left (szTouchD a)) from by unfold szTouchD; exact subOr_add left _ _ (by omega))]), (Mv.pick (T5.trans (T13.trans T27)) [] rfl), subOr_i64 p0 p1⟩
theorem laws_toTouch_c {w : World} {H : Nat → Prop} {a : TouchD} {a_Ra : Option Addr} {a_Rn a_Rc : Nat} {a_Wa : Option Addr} {a_Wn a_Wc : Nat} (v_a_reads : RdA 1 encS okS H w (.slice a_Ra a_Rn a_Rc) a.reads) (v_a_writes : RdA 1 encS okS H w (.slice a_Wa a_Wn a_Wc) a.writes) (p0 : a.reads.length ≤ 1048576) (p1 : a.writes.length ≤ 1048576) :
    Calls Try.prog 115 #[.agg #[.slice a_Ra a_Rn a_Rc, .slice a_Wa a_Wn a_Wc]] w fun e w' => ∃ (r0_Ra : Option Addr), ∃ (r0_Rn : Nat), ∃ (r0_Rc : Nat), ∃ (r0_Wa : Option Addr), ∃ (r0_Wn : Nat), ∃ (r0_Wc : Nat), e = .returned (.agg #[.slice r0_Ra r0_Rn r0_Rc, .slice r0_Wa r0_Wn r0_Wc]) ∧ Mv [] w [ow 9 1 encS okS (.slice r0_Ra r0_Rn r0_Rc) a.reads, ow 9 1 encS okS (.slice r0_Wa r0_Wn r0_Wc) a.writes] w' := by
 have uU : True := (fun _ _ => trivial) p0 p1
 clear uU
 have V_v_a_reads : RdA 1 encS okS (V H w []) w (.slice a_Ra a_Rn a_Rc) a.reads := RdA.start v_a_reads (fun _ _ => fps_nil _)
 obtain ⟨ln_a_reads, le_a_reads, mx_a_reads, ni_a_reads⟩ := RdA.inv v_a_reads
 have V_v_a_writes : RdA 1 encS okS (V H w []) w (.slice a_Wa a_Wn a_Wc) a.writes := RdA.start v_a_writes (fun _ _ => fps_nil _)
 obtain ⟨ln_a_writes, le_a_writes, mx_a_writes, ni_a_writes⟩ := RdA.inv v_a_writes
 refine calls_enter 13 Try.func115 rfl Try.ntmps115 (Nat.le_of_ble_eq_true rfl) (fun _ F0i => ?_)
 have F0 : Fr 13 [(0, .agg #[.slice a_Ra a_Rn a_Rc, .slice a_Wa a_Wn a_Wc])] _ := F0i
 clear F0i
 refine wp_seq (wp_region_lit (l_op (f_box F0 (At.nil w) rfl rfl rfl (F0.ev 0 rfl) rfl rfl fun b1 _ w1 F2 S1 => ?_)))
 refine l_op (f_alloc F2 S1.at' ZI_69 rfl rfl rfl rfl rfl fun b3 _ w3 F4 S3 => ?_)
 have F5 : Fr 13 [(2, .pointer (some ⟨b3, 0, none⟩)), (1, .pointer (some ⟨b1, 0, none⟩))] _ := F4.cut rfl
 clear F0 F2 F4
 have T6 : Mv _ _ [bx b3 [.slice none 0 0, .slice none 0 0] 69, bx b1 [.slice a_Ra a_Rn a_Rc, .slice a_Wa a_Wn a_Wc] 91] _ := S3
 refine s_end (x_normal (wp_seq (wp_region_lit (l_op (f_alloc F5 T6.at' ZI_69 rfl rfl rfl rfl rfl fun b7 _ w7 F8 S7 => ?_)))))
 have F9 : Fr 13 [(3, .pointer (some ⟨b7, 0, none⟩)), (2, .pointer (some ⟨b3, 0, none⟩)), (1, .pointer (some ⟨b1, 0, none⟩))] _ := F8.cut rfl
 clear F5 F8
 have T10 : Mv _ _ [bx b7 [.slice none 0 0, .slice none 0 0] 69, bx b3 [.slice none 0 0, .slice none 0 0] 69, bx b1 [.slice a_Ra a_Rn a_Rc, .slice a_Wa a_Wn a_Wc] 91] _ := S7
 refine s_end (x_normal (wp_seq (wp_region_lit (l_op (f_val F9 rfl rfl (r_field FI_91_0 rfl (F9.ev 1 rfl) rfl) rfl fun _ F11 => ?_)))))
 refine l_op (f_val (v := .slice a_Ra a_Rn a_Rc) F11 rfl rfl (r_loadB T10.at' 2 TI_62 rfl rfl (F11.ev 4 rfl) rfl rfl (fun _ => rfl) rfl) rfl fun _ F12 => ?_)
 refine l_op (f_call F12 CF_93 rfl rfl rfl rfl (lc (F12.ev 5 rfl) rfl) (laws_toStringS_c (a := a.reads) (RdA.mv (Nat.succ_pos _) V_v_a_reads (S1.trans (T6.trans T10))) (by first | assumption | omega | (simp <;> omega))) ?_)
 rintro _ w13 ⟨r0_a_13, r0_n_13, r0_c_13, rfl, m13⟩
 refine ⟨_, rfl, fun _ F14 => ?_⟩
 have S13 : Mv _ _ [ow 9 1 encS okS (.slice r0_a_13 r0_n_13 r0_c_13) a.reads, bx b7 [.slice none 0 0, .slice none 0 0] 69, bx b3 [.slice none 0 0, .slice none 0 0] 69, bx b1 [.slice a_Ra a_Rn a_Rc, .slice a_Wa a_Wn a_Wc] 91] _ := At.frame T10.at' [] rfl m13
 obtain ⟨lo13_0, lp13_0, lq13_0⟩ := At.ownInv S13.at' ET_62.hk 0 rfl
 clear m13
 refine l_op (f_val F14 rfl rfl (r_field FI_69_0 rfl (F14.ev 3 rfl) rfl) rfl fun _ F15 => ?_)
 refine l_op (s_store S13.at' 1 TI_62 rfl rfl rfl rfl rfl (F15.ev 7 rfl) (F15.ev 6 rfl) rfl rfl rfl rfl rfl fun w16 S16 => ?_)
 have F17 : Fr 13 [(7, .pointer (some ⟨b7, 0, none⟩)), (6, .slice r0_a_13 r0_n_13 r0_c_13), (3, .pointer (some ⟨b7, 0, none⟩)), (2, .pointer (some ⟨b3, 0, none⟩)), (1, .pointer (some ⟨b1, 0, none⟩))] _ := F15.cut rfl
 clear F9 F11 F12 F14 F15
 have T18 : Mv _ _ [bx b7 [.slice r0_a_13 r0_n_13 r0_c_13, .slice none 0 0] 69, ow 9 1 encS okS (.slice r0_a_13 r0_n_13 r0_c_13) a.reads, bx b3 [.slice none 0 0, .slice none 0 0] 69, bx b1 [.slice a_Ra a_Rn a_Rc, .slice a_Wa a_Wn a_Wc] 91] _ := S16
 refine s_end (x_normal (wp_seq (wp_region_lit (l_op (f_val F17 rfl rfl (r_field FI_91_1 rfl (F17.ev 1 rfl) rfl) rfl fun _ F19 => ?_)))))
 refine l_op (f_val (v := .slice a_Wa a_Wn a_Wc) F19 rfl rfl (r_loadB T18.at' 3 TI_62 rfl rfl (F19.ev 8 rfl) rfl rfl (fun _ => rfl) rfl) rfl fun _ F20 => ?_)
 refine l_op (f_call F20 CF_93 rfl rfl rfl rfl (lc (F20.ev 9 rfl) rfl) (laws_toStringS_c (a := a.writes) (RdA.mv (Nat.succ_pos _) V_v_a_writes (S1.trans (T6.trans (T10.trans (S13.trans T18))))) (by first | assumption | omega | (simp <;> omega))) ?_)
 rintro _ w21 ⟨r0_a_21, r0_n_21, r0_c_21, rfl, m21⟩
 refine ⟨_, rfl, fun _ F22 => ?_⟩
 have S21 : Mv _ _ [ow 9 1 encS okS (.slice r0_a_21 r0_n_21 r0_c_21) a.writes, bx b7 [.slice r0_a_13 r0_n_13 r0_c_13, .slice none 0 0] 69, ow 9 1 encS okS (.slice r0_a_13 r0_n_13 r0_c_13) a.reads, bx b3 [.slice none 0 0, .slice none 0 0] 69, bx b1 [.slice a_Ra a_Rn a_Rc, .slice a_Wa a_Wn a_Wc] 91] _ := At.frame T18.at' [] rfl m21
 obtain ⟨lo21_0, lp21_0, lq21_0⟩ := At.ownInv S21.at' ET_62.hk 0 rfl
 clear m21
 refine l_op (f_val F22 rfl rfl (r_field FI_69_1 rfl (F22.ev 3 rfl) rfl) rfl fun _ F23 => ?_)
 refine l_op (s_store S21.at' 1 TI_62 rfl rfl rfl rfl rfl (F23.ev 11 rfl) (F23.ev 10 rfl) rfl rfl rfl rfl rfl fun w24 S24 => ?_)
 have F25 : Fr 13 [(11, .pointer (some ⟨b7, 1, none⟩)), (10, .slice r0_a_21 r0_n_21 r0_c_21), (3, .pointer (some ⟨b7, 0, none⟩)), (2, .pointer (some ⟨b3, 0, none⟩))] _ := F23.cut rfl
 clear F17 F19 F20 F22 F23
 have T26 : Mv _ _ [bx b7 [.slice r0_a_13 r0_n_13 r0_c_13, .slice r0_a_21 r0_n_21 r0_c_21] 69, ow 9 1 encS okS (.slice r0_a_21 r0_n_21 r0_c_21) a.writes, ow 9 1 encS okS (.slice r0_a_13 r0_n_13 r0_c_13) a.reads, bx b3 [.slice none 0 0, .slice none 0 0] 69, bx b1 [.slice a_Ra a_Rn a_Rc, .slice a_Wa a_Wn a_Wc] 91] _ := S24
 refine s_end (x_normal (wp_seq (wp_region_lit (l_op (f_val (v := .agg #[.slice r0_a_13 r0_n_13 r0_c_13, .slice r0_a_21 r0_n_21 r0_c_21]) F25 rfl rfl (r_loadB T26.at' 0 TI_69 rfl rfl (F25.ev 3 rfl) rfl rfl (fun h => nomatch h) rfl) rfl fun _ F27 => ?_)))))
 refine l_op (s_store T26.at' 3 TI_69 rfl rfl rfl rfl rfl (F27.ev 2 rfl) (F27.ev 12 rfl) rfl rfl rfl rfl rfl fun w28 S28 => ?_)
 have F29 : Fr 13 [(12, .agg #[.slice r0_a_13 r0_n_13 r0_c_13, .slice r0_a_21 r0_n_21 r0_c_21]), (2, .pointer (some ⟨b3, 0, none⟩))] _ := F27.cut rfl
 clear F25 F27
 have T30 : Mv _ _ [bx b3 [.slice r0_a_13 r0_n_13 r0_c_13, .slice r0_a_21 r0_n_21 r0_c_21] 69, bx b7 [.slice r0_a_13 r0_n_13 r0_c_13, .slice r0_a_21 r0_n_21 r0_c_21] 69, ow 9 1 encS okS (.slice r0_a_21 r0_n_21 r0_c_21) a.writes, ow 9 1 encS okS (.slice r0_a_13 r0_n_13 r0_c_13) a.reads, bx b1 [.slice a_Ra a_Rn a_Rc, .slice a_Wa a_Wn a_Wc] 91] _ := S28
 refine s_end (x_normal (wp_ret ?_))
 refine x_done (v := .agg #[.slice r0_a_13 r0_n_13 r0_c_13, .slice r0_a_21 r0_n_21 r0_c_21]) F29 (results_1 Try.results115 (.cell (F29.ev 2 rfl) (run_loadVar' TI_69 _ [.slice r0_a_13 r0_n_13 r0_c_13, .slice r0_a_21 r0_n_21 r0_c_21] rfl (fun h => nomatch h) (At.cells T30.at' 0 rfl 0 [.slice r0_a_13 r0_n_13 r0_c_13, .slice r0_a_21 r0_n_21 r0_c_21] rfl)))) ?_
 exact ⟨r0_a_13, r0_n_13, r0_c_13, r0_a_21, r0_n_21, r0_c_21, rfl, (Mv.pick (S1.trans (T6.trans (T10.trans (S13.trans (T18.trans (S21.trans (T26.trans T30))))))) [3, 2] rfl)⟩
theorem laws_eqTouch_c {w : World} {H : Nat → Prop} {a : TouchD} {a_Ra : Option Addr} {a_Rn a_Rc : Nat} {a_Wa : Option Addr} {a_Wn a_Wc : Nat} {b : TouchD} {b_Ra : Option Addr} {b_Rn b_Rc : Nat} {b_Wa : Option Addr} {b_Wn b_Wc : Nat} (v_a_reads : Rd 1 encS okS H w (.slice a_Ra a_Rn a_Rc) a.reads) (v_a_writes : Rd 1 encS okS H w (.slice a_Wa a_Wn a_Wc) a.writes) (v_b_reads : Rd 1 encS okS H w (.slice b_Ra b_Rn b_Rc) b.reads) (v_b_writes : Rd 1 encS okS H w (.slice b_Wa b_Wn b_Wc) b.writes) (p0 : a = b) :
    Calls Try.prog 98 #[.agg #[.slice a_Ra a_Rn a_Rc, .slice a_Wa a_Wn a_Wc], .agg #[.slice b_Ra b_Rn b_Rc, .slice b_Wa b_Wn b_Wc]] w fun e w' => e = .returned (.bool true) ∧ Mv [] w [] w' := by
 have V_v_a_reads : Rd 1 encS okS (V H w []) w (.slice a_Ra a_Rn a_Rc) a.reads := Rd.start v_a_reads (fun _ _ => fps_nil _)
 obtain ⟨ln_a_reads, le_a_reads, mx_a_reads, ni_a_reads⟩ := Rd.inv v_a_reads
 have V_v_a_writes : Rd 1 encS okS (V H w []) w (.slice a_Wa a_Wn a_Wc) a.writes := Rd.start v_a_writes (fun _ _ => fps_nil _)
 obtain ⟨ln_a_writes, le_a_writes, mx_a_writes, ni_a_writes⟩ := Rd.inv v_a_writes
 have V_v_b_reads : Rd 1 encS okS (V H w []) w (.slice b_Ra b_Rn b_Rc) b.reads := Rd.start v_b_reads (fun _ _ => fps_nil _)
 obtain ⟨ln_b_reads, le_b_reads, mx_b_reads, ni_b_reads⟩ := Rd.inv v_b_reads
 have V_v_b_writes : Rd 1 encS okS (V H w []) w (.slice b_Wa b_Wn b_Wc) b.writes := Rd.start v_b_writes (fun _ _ => fps_nil _)
 obtain ⟨ln_b_writes, le_b_writes, mx_b_writes, ni_b_writes⟩ := Rd.inv v_b_writes
 refine calls_enter 17 Try.func98 rfl Try.ntmps98 (Nat.le_of_ble_eq_true rfl) (fun _ F0i => ?_)
 have F0 : Fr 17 [(0, .agg #[.slice a_Ra a_Rn a_Rc, .slice a_Wa a_Wn a_Wc]), (1, .agg #[.slice b_Ra b_Rn b_Rc, .slice b_Wa b_Wn b_Wc])] _ := F0i
 clear F0i
 refine wp_seq (wp_region_lit (l_op (f_box F0 (At.nil w) rfl rfl rfl (F0.ev 0 rfl) rfl rfl fun b1 _ w1 F2 S1 => ?_)))
 refine l_op (f_box F2 S1.at' rfl rfl rfl (F2.ev 1 rfl) rfl rfl fun b3 _ w3 F4 S3 => ?_)
 refine l_op (f_val F4 rfl rfl (r_assign rfl rfl) rfl fun _ F5 => ?_)
 have F6 : Fr 17 [(4, .bool false), (3, .pointer (some ⟨b3, 0, none⟩)), (2, .pointer (some ⟨b1, 0, none⟩))] _ := F5.cut rfl
 clear F0 F2 F4 F5
 have T7 : Mv _ _ [bx b3 [.slice b_Ra b_Rn b_Rc, .slice b_Wa b_Wn b_Wc] 69, bx b1 [.slice a_Ra a_Rn a_Rc, .slice a_Wa a_Wn a_Wc] 69] _ := S3
 refine s_end (x_normal (wp_seq (wp_seq (wp_region_lit (l_op (f_val F6 rfl rfl (r_field FI_69_0 rfl (F6.ev 2 rfl) rfl) rfl fun _ F8 => ?_))))))
 refine l_op (f_val (v := .slice a_Ra a_Rn a_Rc) F8 rfl rfl (r_loadB T7.at' 1 TI_62 rfl rfl (F8.ev 5 rfl) rfl rfl (fun _ => rfl) rfl) rfl fun _ F9 => ?_)
 refine l_op (f_val F9 rfl rfl (r_field FI_69_0 rfl (F9.ev 3 rfl) rfl) rfl fun _ F10 => ?_)
 refine l_op (f_val (v := .slice b_Ra b_Rn b_Rc) F10 rfl rfl (r_loadB T7.at' 0 TI_62 rfl rfl (F10.ev 7 rfl) rfl rfl (fun _ => rfl) rfl) rfl fun _ F11 => ?_)
 refine l_op (f_call F11 CF_101 rfl rfl rfl rfl (lc (F11.ev 6 rfl) (lc (F11.ev 8 rfl) rfl)) (laws_eqStringS_c (a := a.reads) (b := b.reads) (Rd.mv (Nat.succ_pos _) V_v_a_reads (S1.trans T7)) (Rd.mv (Nat.succ_pos _) V_v_b_reads (S1.trans T7)) (by rw [p0])) ?_)
 rintro _ w12 ⟨rfl, m12⟩
 refine ⟨_, rfl, fun _ F13 => ?_⟩
 have S12 := At.frame0 T7.at' m12
 clear m12
 refine l_op (f_val F13 rfl rfl (r_not rfl (F13.ev 9 rfl)) rfl fun _ F14 => ?_)
 have F15 : Fr 17 [(10, .bool false), (3, .pointer (some ⟨b3, 0, none⟩)), (2, .pointer (some ⟨b1, 0, none⟩))] _ := F14.cut rfl
 clear F6 F8 F9 F10 F11 F13 F14
 have T16 : Mv _ _ [bx b3 [.slice b_Ra b_Rn b_Rc, .slice b_Wa b_Wn b_Wc] 69, bx b1 [.slice a_Ra a_Rn a_Rc, .slice a_Wa a_Wn a_Wc] 69] _ := S12
 refine s_end (x_normal (wp_cond_false (F15.ev 10 rfl) (wp_skip (x_normal (wp_seq (wp_seq (wp_region_lit (l_op (f_val F15 rfl rfl (r_field FI_69_1 rfl (F15.ev 2 rfl) rfl) rfl fun _ F17 => ?_)))))))))
 refine l_op (f_val (v := .slice a_Wa a_Wn a_Wc) F17 rfl rfl (r_loadB T16.at' 1 TI_62 rfl rfl (F17.ev 11 rfl) rfl rfl (fun _ => rfl) rfl) rfl fun _ F18 => ?_)
 refine l_op (f_val F18 rfl rfl (r_field FI_69_1 rfl (F18.ev 3 rfl) rfl) rfl fun _ F19 => ?_)
 refine l_op (f_val (v := .slice b_Wa b_Wn b_Wc) F19 rfl rfl (r_loadB T16.at' 0 TI_62 rfl rfl (F19.ev 13 rfl) rfl rfl (fun _ => rfl) rfl) rfl fun _ F20 => ?_)
 refine l_op (f_call F20 CF_101 rfl rfl rfl rfl (lc (F20.ev 12 rfl) (lc (F20.ev 14 rfl) rfl)) (laws_eqStringS_c (a := a.writes) (b := b.writes) (Rd.mv (Nat.succ_pos _) V_v_a_writes (S1.trans (T7.trans T16))) (Rd.mv (Nat.succ_pos _) V_v_b_writes (S1.trans (T7.trans T16))) (by rw [p0])) ?_)
 rintro _ w21 ⟨rfl, m21⟩
 refine ⟨_, rfl, fun _ F22 => ?_⟩
 have S21 := At.frame0 T16.at' m21
 clear m21
 refine l_op (f_val F22 rfl rfl (r_not rfl (F22.ev 15 rfl)) rfl fun _ F23 => ?_)
 have F24 : Fr 17 [(16, .bool false)] _ := F23.cut rfl
 clear F15 F17 F18 F19 F20 F22 F23
 have T25 : Mv _ _ [bx b3 [.slice b_Ra b_Rn b_Rc, .slice b_Wa b_Wn b_Wc] 69, bx b1 [.slice a_Ra a_Rn a_Rc, .slice a_Wa a_Wn a_Wc] 69] _ := S21
 refine s_end (x_normal (wp_cond_false (F24.ev 16 rfl) (wp_skip (x_normal (wp_seq (wp_region_lit (l_op (f_val F24 rfl rfl (r_assign rfl rfl) rfl fun _ F26 => ?_))))))))
 have F27 : Fr 17 [(4, .bool true)] _ := F26.cut rfl
 clear F24 F26
 refine s_end (x_normal (wp_ret ?_))
 refine x_done (v := .bool true) F27 (results_1 Try.results98 (.tmp (F27.ev 4 rfl))) ?_
 exact ⟨rfl, (Mv.pick (S1.trans (T7.trans (T16.trans T25))) [] rfl)⟩
theorem impl_Touch_clone_c {w : World} {H : Nat → Prop} {t : TouchD} {t_Ra : Option Addr} {t_Rn t_Rc : Nat} {t_Wa : Option Addr} {t_Wn t_Wc : Nat} (v_t_reads : Rd 1 encS okS H w (.slice t_Ra t_Rn t_Rc) t.reads) (v_t_writes : Rd 1 encS okS H w (.slice t_Wa t_Wn t_Wc) t.writes) (p0 : t.reads.length ≤ 1099511627776) (p1 : t.writes.length ≤ 1099511627776) :
    Calls Try.prog 137 #[.agg #[.slice t_Ra t_Rn t_Rc, .slice t_Wa t_Wn t_Wc]] w fun e w' => ∃ (r0_Ra : Option Addr), ∃ (r0_Rn : Nat), ∃ (r0_Rc : Nat), ∃ (r0_Wa : Option Addr), ∃ (r0_Wn : Nat), ∃ (r0_Wc : Nat), e = .returned (.agg #[.slice r0_Ra r0_Rn r0_Rc, .slice r0_Wa r0_Wn r0_Wc]) ∧ Mv [] w [ow 9 1 encS okS (.slice r0_Ra r0_Rn r0_Rc) t.reads, ow 9 1 encS okS (.slice r0_Wa r0_Wn r0_Wc) t.writes] w' := by
 have uU : True := (fun _ _ => trivial) p0 p1
 clear uU
 have V_v_t_reads : Rd 1 encS okS (V H w []) w (.slice t_Ra t_Rn t_Rc) t.reads := Rd.start v_t_reads (fun _ _ => fps_nil _)
 obtain ⟨ln_t_reads, le_t_reads, mx_t_reads, ni_t_reads⟩ := Rd.inv v_t_reads
 have V_v_t_writes : Rd 1 encS okS (V H w []) w (.slice t_Wa t_Wn t_Wc) t.writes := Rd.start v_t_writes (fun _ _ => fps_nil _)
 obtain ⟨ln_t_writes, le_t_writes, mx_t_writes, ni_t_writes⟩ := Rd.inv v_t_writes
 refine calls_enter 10 Try.func137 rfl Try.ntmps137 (Nat.le_of_ble_eq_true rfl) (fun _ F0i => ?_)
 have F0 : Fr 10 [(0, .agg #[.slice t_Ra t_Rn t_Rc, .slice t_Wa t_Wn t_Wc])] _ := F0i
 clear F0i
 refine wp_seq (wp_region_lit (l_op (f_box F0 (At.nil w) rfl rfl rfl (F0.ev 0 rfl) rfl rfl fun b1 _ w1 F2 S1 => ?_)))
 refine l_op (f_alloc F2 S1.at' ZI_69 rfl rfl rfl rfl rfl fun b3 _ w3 F4 S3 => ?_)
 have F5 : Fr 10 [(2, .pointer (some ⟨b3, 0, none⟩)), (1, .pointer (some ⟨b1, 0, none⟩))] _ := F4.cut rfl
 clear F0 F2 F4
 have T6 : Mv _ _ [bx b3 [.slice none 0 0, .slice none 0 0] 69, bx b1 [.slice t_Ra t_Rn t_Rc, .slice t_Wa t_Wn t_Wc] 69] _ := S3
 refine s_end (x_normal (wp_seq ?_))
 refine x_draw (fun aZ wZ => ∃ (r0_a_13 : Option Addr), ∃ (r0_n_13 : Nat), ∃ (r0_c_13 : Nat), ∃ (r0_a_15 : Option Addr), ∃ (r0_n_15 : Nat), ∃ (r0_c_15 : Nat), Fr 10 [(2, .pointer (some ⟨b3, 0, none⟩))] aZ ∧ Mv [bx b3 [.slice none 0 0, .slice none 0 0] 69, bx b1 [.slice t_Ra t_Rn t_Rc, .slice t_Wa t_Wn t_Wc] 69] w3 [bx b3 [.slice r0_a_13 r0_n_13 r0_c_13, .slice r0_a_15 r0_n_15 r0_c_15] 69, bx b1 [.slice t_Ra t_Rn t_Rc, .slice t_Wa t_Wn t_Wc] 69, ow 9 1 encS okS (.slice r0_a_13 r0_n_13 r0_c_13) t.reads, ow 9 1 encS okS (.slice r0_a_15 r0_n_15 r0_c_15) t.writes] wZ) [bx b1 [.slice t_Ra t_Rn t_Rc, .slice t_Wa t_Wn t_Wc] 69] mixed T6.at' (listed := #[false, false, false, false, false, false, false, false]) rfl (fun w8 S8 => ?_) [1] rfl ?_
 · skip
   refine g_take F5 rfl (i := 0) (listed' := #[true, false, false, false, false, false, false, false]) rfl (by kernel_rfl) (by kernel_rfl) (by kernel_rfl) (fun _ _ _ h => h) (Sd.of (Mv.refl S8.at') [1] rfl) rfl rfl rfl rfl (fun _ hz => (r_field FI_69_0 rfl (F5.ev 1 rfl) rfl)) fun _ F9 => ?_
   refine g_take (v := .slice t_Ra t_Rn t_Rc) F9 rfl (i := 1) (listed' := #[true, true, false, false, false, false, false, false]) rfl (by kernel_rfl) (by kernel_rfl) (by kernel_rfl) (fun _ _ _ h => h) (Sd.of (Mv.refl S8.at') [1] rfl) rfl rfl rfl rfl (fun _ hz => (r_loadX (hz.bx 0 rfl) TI_62 rfl (F9.ev 3 rfl) rfl rfl (fun _ => rfl) rfl)) fun _ F10 => ?_
   refine g_take F10 rfl (i := 3) (listed' := #[true, true, false, true, false, false, false, false]) rfl (by kernel_rfl) (by kernel_rfl) (by kernel_rfl) (fun _ _ _ h => h) (Sd.of (Mv.refl S8.at') [1] rfl) rfl rfl rfl rfl (fun _ hz => (r_field FI_69_1 rfl (F10.ev 1 rfl) rfl)) fun _ F11 => ?_
   refine g_take (v := .slice t_Wa t_Wn t_Wc) F11 rfl (i := 4) (listed' := #[true, true, false, true, true, false, false, false]) rfl (by kernel_rfl) (by kernel_rfl) (by kernel_rfl) (fun _ _ _ h => h) (Sd.of (Mv.refl S8.at') [1] rfl) rfl rfl rfl rfl (fun _ hz => (r_loadX (hz.bx 0 rfl) TI_62 rfl (F11.ev 6 rfl) rfl rfl (fun _ => rfl) rfl)) fun _ F12 => ?_
   refine d_one (i := 2) (listed' := #[true, true, true, true, true, false, false, false]) rfl (by kernel_rfl) rfl rfl ?_
   refine f_call F12 CF_149 rfl rfl rfl rfl (lc (F12.ev 4 rfl) rfl) (slices_Clone_Sstring_string_c (s := t.reads) (Rd.mv (Nat.succ_pos _) V_v_t_reads (S1.trans (T6.trans S8))) (by first | assumption | omega | (simp <;> omega))) ?_
   rintro _ w13 ⟨r0_a_13, r0_n_13, r0_c_13, rfl, m13⟩
   refine ⟨_, rfl, fun _ F14 => ?_⟩
   have S13 : Mv _ _ [ow 9 1 encS okS (.slice r0_a_13 r0_n_13 r0_c_13) t.reads, bx b3 [.slice none 0 0, .slice none 0 0] 69, bx b1 [.slice t_Ra t_Rn t_Rc, .slice t_Wa t_Wn t_Wc] 69] _ := At.frame S8.at' [] rfl m13
   obtain ⟨lo13_0, lp13_0, lq13_0⟩ := At.ownInv S13.at' ET_62.hk 0 rfl
   clear m13
   refine ⟨Sd.of S13 [2] rfl, ?_⟩
   refine d_one (i := 5) (listed' := #[true, true, true, true, true, true, false, false]) rfl (by kernel_rfl) rfl rfl ?_
   refine f_call F14 CF_149 rfl rfl rfl rfl (lc (F14.ev 7 rfl) rfl) (slices_Clone_Sstring_string_c (s := t.writes) (Rd.mv (Nat.succ_pos _) V_v_t_writes (S1.trans (T6.trans (S8.trans S13)))) (by first | assumption | omega | (simp <;> omega))) ?_
   rintro _ w15 ⟨r0_a_15, r0_n_15, r0_c_15, rfl, m15⟩
   refine ⟨_, rfl, fun _ F16 => ?_⟩
   have S15 : Mv _ _ [ow 9 1 encS okS (.slice r0_a_15 r0_n_15 r0_c_15) t.writes, ow 9 1 encS okS (.slice r0_a_13 r0_n_13 r0_c_13) t.reads, bx b3 [.slice none 0 0, .slice none 0 0] 69, bx b1 [.slice t_Ra t_Rn t_Rc, .slice t_Wa t_Wn t_Wc] 69] _ := At.frame S13.at' [] rfl m15
   obtain ⟨lo15_0, lp15_0, lq15_0⟩ := At.ownInv S15.at' ET_62.hk 0 rfl
   clear m15
   refine ⟨Sd.of (S13.trans S15) [3] rfl, ?_⟩
   refine g_take (v := .agg #[.slice r0_a_13 r0_n_13 r0_c_13, .slice r0_a_15 r0_n_15 r0_c_15]) F16 rfl (i := 6) (listed' := #[true, true, true, true, true, true, true, false]) rfl (by kernel_rfl) (by kernel_rfl) (by kernel_rfl) (fun _ _ _ h => h) (Sd.of (S13.trans S15) [3] rfl) rfl rfl rfl rfl (fun _ hz => (r_build BI_69 rfl (lc (pr2 (F16.ev 5 rfl)) (lc (pr2 (F16.ev 8 rfl)) rfl)) rfl)) fun _ F17 => ?_
   refine d_one (i := 7) (listed' := #[true, true, true, true, true, true, true, true]) rfl (by kernel_rfl) rfl rfl ?_
   refine s_store S15.at' 2 TI_69 rfl rfl rfl rfl rfl (F17.ev 2 rfl) (F17.ev 9 rfl) rfl rfl rfl rfl rfl fun w18 S18 => ?_
   refine ⟨Sd.of (S13.trans (S15.trans S18)) [3] rfl, ?_⟩
   refine wpAnyH_done (by kernel_rfl) (x_normal ?_) _
   exact ⟨r0_a_13, r0_n_13, r0_c_13, r0_a_15, r0_n_15, r0_c_15, F17.cut rfl, ((S8.trans (S13.trans (S15.trans S18))).pick [0, 3, 2, 1] rfl)⟩
 · rintro a19 w19 ⟨r0_a_13, r0_n_13, r0_c_13, r0_a_15, r0_n_15, r0_c_15, F19, S19⟩
   refine x_normal (wp_ret ?_)
   refine x_done (v := .agg #[.slice r0_a_13 r0_n_13 r0_c_13, .slice r0_a_15 r0_n_15 r0_c_15]) F19 (results_1 Try.results137 (.cell (F19.ev 2 rfl) (run_loadVar' TI_69 _ [.slice r0_a_13 r0_n_13 r0_c_13, .slice r0_a_15 r0_n_15 r0_c_15] rfl (fun h => nomatch h) (At.cells S19.at' 0 rfl 0 [.slice r0_a_13 r0_n_13 r0_c_13, .slice r0_a_15 r0_n_15 r0_c_15] rfl)))) ?_
   exact ⟨r0_a_13, r0_n_13, r0_c_13, r0_a_15, r0_n_15, r0_c_15, rfl, (Mv.pick (S1.trans (T6.trans S19)) [2, 3] rfl)⟩
theorem laws_markText_c {w : World} {H : Nat → Prop} {k : Nat} (h_k : i64ok (k : Int)) :
    Calls Try.prog 127 #[.int .i64 ((k : Nat) : Int)] w fun e w' => e = .returned (.string (markT k)) ∧ Mv [] w [] w' ∧ okS (markT k) := by
  have uU : True := (fun _ => trivial) H
  clear uU
  refine (markText_c k w (by obtain ⟨_, h⟩ := h_k; omega)).mono ?_
  rintro e w' ⟨rfl, hb⟩
  exact ⟨rfl, Mv.of_bl hb, markT_ok k⟩
theorem laws_szCall_c {w : World} {H : Nat → Prop} {a : CallD} {left : Int} (h_a_kind : i64ok a.kind) (h_a_name : okS a.name) (h_a_to_ : okS a.to_) (h_a_a : i64ok a.a) (h_a_b : i64ok a.b) (h_a_text : okS a.text) (h_left : i64ok left) (p0 : 0 ≤ left) (p1 : left ≤ 1048576) :
    Calls Try.prog 143 #[.agg #[.int .i64 a.kind, .string a.name, .string a.to_, .int .i64 a.a, .int .i64 a.b, .string a.text], .int .i64 left] w fun e w' => e = .returned (.int .i64 (subOr left (szCallD a))) ∧ Mv [] w [] w' ∧ i64ok (subOr left (szCallD a)) := by
 have uU : True := (fun _ _ _ _ _ => trivial) H h_a_kind h_a_a h_a_b h_left
 clear uU
 unfold okS at h_a_name h_a_to_ h_a_text
 refine calls_enter 27 Try.func143 rfl Try.ntmps143 (Nat.le_of_ble_eq_true rfl) (fun _ F0i => ?_)
 have F0 : Fr 27 [(0, .agg #[.int .i64 a.kind, .string a.name, .string a.to_, .int .i64 a.a, .int .i64 a.b, .string a.text]), (1, .int .i64 left)] _ := F0i
 clear F0i
 refine wp_seq (wp_region_lit (l_op (f_box F0 (At.nil w) rfl rfl rfl (F0.ev 0 rfl) rfl rfl fun b1 _ w1 F2 S1 => ?_)))
 refine l_op (f_val F2 rfl rfl (r_assign rfl rfl) rfl fun _ F3 => ?_)
 have F4 : Fr 27 [(4, .int .i64 0), (2, .pointer (some ⟨b1, 0, none⟩)), (1, .int .i64 left)] _ := F3.cut rfl
 clear F0 F2 F3
 have T5 : Mv _ _ [bx b1 [.int .i64 a.kind, .string a.name, .string a.to_, .int .i64 a.a, .int .i64 a.b, .string a.text] 173] _ := S1
 refine s_end (x_normal (wp_seq (wp_region_lit (l_op (f_mv F4 rfl rfl rfl rfl rfl fun _ F6 => ?_)))))
 refine l_op (f_val F6 rfl rfl (r_field FI_173_1 rfl (F6.ev 2 rfl) rfl) rfl fun _ F7 => ?_)
 refine l_op (f_val (v := .string a.name) F7 rfl rfl (r_loadB T5.at' 0 TI_9 rfl rfl (F7.ev 6 rfl) rfl rfl (fun _ => rfl) rfl) rfl fun _ F8 => ?_)
 refine l_op (f_val F8 rfl rfl (r_lenS (fun t ht => by cases ht; exact Try.underlying9) rfl rfl (F8.ev 7 rfl)) rfl fun _ F9 => ?_)
 refine l_op (f_val F9 rfl rfl (r_sub (z := (left - ((a.name.size : Nat) : Int))) rfl (F9.ev 5 rfl) (F9.ev 8 rfl) (by first | rfl | omega) ⟨by first | omega | (unfold i64ok at *; omega), by first | omega | (unfold i64ok at *; omega)⟩) rfl fun _ F10 => ?_)
 refine l_op (f_as F10 rfl rfl rfl rfl rfl fun _ F11 => ?_)
 have F12 : Fr 27 [(1, .int .i64 (left - ((a.name.size : Nat) : Int))), (2, .pointer (some ⟨b1, 0, none⟩))] _ := F11.cut rfl
 clear F4 F6 F7 F8 F9 F10 F11
 refine s_end (x_normal (wp_seq (wp_seq (wp_region_lit (l_op (f_mv F12 rfl rfl rfl rfl rfl fun _ F13 => ?_))))))
 refine l_op (f_val F13 rfl rfl (r_cmp (b := decide ((left - ((a.name.size : Nat) : Int)) < 0)) (.inr (.inr (.inl rfl))) rfl (F13.ev 10 rfl) rfl (dec_of (by omega))) rfl fun _ F14 => ?_)
 have F15 : Fr 27 [(11, .bool (decide ((left - ((a.name.size : Nat) : Int)) < 0))), (1, .int .i64 (left - ((a.name.size : Nat) : Int))), (2, .pointer (some ⟨b1, 0, none⟩))] _ := F14.cut rfl
 clear F12 F13 F14
 refine s_end (x_normal (x_cond (p := (left - ((a.name.size : Nat) : Int)) < 0) (F15.ev 11 rfl) (fun h16 => ?_) (fun h16 => ?_)))
 · skip
   refine wp_seq (wp_region_lit (l_op (f_val F15 rfl rfl (r_assign rfl rfl) rfl fun _ F17 => ?_)))
   have F18 : Fr 27 [(4, .int .i64 (-1))] _ := F17.cut rfl
   clear F15 F17
   refine s_end (x_normal (wp_ret (x_then_ret ?_)))
   refine x_done (v := .int .i64 (-1)) F18 (results_1 Try.results143 (.tmp (F18.ev 4 rfl))) ?_
   exact ⟨(by rw [(show (-1) = (subOr left (szCallD a)) from by unfold szCallD; first | exact sz3_a (by assumption) | exact sz3_b (by assumption) | exact sz3_c (by assumption) | exact sz3_d (by assumption))]), (Mv.pick T5 [] rfl), subOr_i64 p0 p1⟩
 · skip
   refine wp_skip (x_normal (wp_seq (wp_region_lit (l_op (f_mv F15 rfl rfl rfl rfl rfl fun _ F19 => ?_)))))
   refine l_op (f_val F19 rfl rfl (r_field FI_173_2 rfl (F19.ev 2 rfl) rfl) rfl fun _ F20 => ?_)
   refine l_op (f_val (v := .string a.to_) F20 rfl rfl (r_loadB T5.at' 0 TI_9 rfl rfl (F20.ev 13 rfl) rfl rfl (fun _ => rfl) rfl) rfl fun _ F21 => ?_)
   refine l_op (f_val F21 rfl rfl (r_lenS (fun t ht => by cases ht; exact Try.underlying9) rfl rfl (F21.ev 14 rfl)) rfl fun _ F22 => ?_)
   refine l_op (f_val F22 rfl rfl (r_sub (z := ((left - ((a.name.size : Nat) : Int)) - ((a.to_.size : Nat) : Int))) rfl (F22.ev 12 rfl) (F22.ev 15 rfl) (by first | rfl | omega) ⟨by first | omega | (unfold i64ok at *; omega), by first | omega | (unfold i64ok at *; omega)⟩) rfl fun _ F23 => ?_)
   refine l_op (f_as F23 rfl rfl rfl rfl rfl fun _ F24 => ?_)
   have F25 : Fr 27 [(1, .int .i64 ((left - ((a.name.size : Nat) : Int)) - ((a.to_.size : Nat) : Int))), (2, .pointer (some ⟨b1, 0, none⟩))] _ := F24.cut rfl
   clear F15 F19 F20 F21 F22 F23 F24
   refine s_end (x_normal (wp_seq (wp_seq (wp_region_lit (l_op (f_mv F25 rfl rfl rfl rfl rfl fun _ F26 => ?_))))))
   refine l_op (f_val F26 rfl rfl (r_cmp (b := decide (((left - ((a.name.size : Nat) : Int)) - ((a.to_.size : Nat) : Int)) < 0)) (.inr (.inr (.inl rfl))) rfl (F26.ev 17 rfl) rfl (dec_of (by omega))) rfl fun _ F27 => ?_)
   have F28 : Fr 27 [(18, .bool (decide (((left - ((a.name.size : Nat) : Int)) - ((a.to_.size : Nat) : Int)) < 0))), (1, .int .i64 ((left - ((a.name.size : Nat) : Int)) - ((a.to_.size : Nat) : Int))), (2, .pointer (some ⟨b1, 0, none⟩))] _ := F27.cut rfl
   clear F25 F26 F27
   refine s_end (x_normal (x_cond (p := ((left - ((a.name.size : Nat) : Int)) - ((a.to_.size : Nat) : Int)) < 0) (F28.ev 18 rfl) (fun h29 => ?_) (fun h29 => ?_)))
   · skip
     refine wp_seq (wp_region_lit (l_op (f_val F28 rfl rfl (r_assign rfl rfl) rfl fun _ F30 => ?_)))
     have F31 : Fr 27 [(4, .int .i64 (-1))] _ := F30.cut rfl
     clear F28 F30
     refine s_end (x_normal (wp_ret (x_then_ret ?_)))
     refine x_done (v := .int .i64 (-1)) F31 (results_1 Try.results143 (.tmp (F31.ev 4 rfl))) ?_
     exact ⟨(by rw [(show (-1) = (subOr left (szCallD a)) from by unfold szCallD; first | exact sz3_a (by assumption) | exact sz3_b (by assumption) | exact sz3_c (by assumption) | exact sz3_d (by assumption))]), (Mv.pick T5 [] rfl), subOr_i64 p0 p1⟩
   · skip
     refine wp_skip (x_normal (wp_seq (wp_region_lit (l_op (f_mv F28 rfl rfl rfl rfl rfl fun _ F32 => ?_)))))
     refine l_op (f_val F32 rfl rfl (r_field FI_173_5 rfl (F32.ev 2 rfl) rfl) rfl fun _ F33 => ?_)
     refine l_op (f_val (v := .string a.text) F33 rfl rfl (r_loadB T5.at' 0 TI_9 rfl rfl (F33.ev 20 rfl) rfl rfl (fun _ => rfl) rfl) rfl fun _ F34 => ?_)
     refine l_op (f_val F34 rfl rfl (r_lenS (fun t ht => by cases ht; exact Try.underlying9) rfl rfl (F34.ev 21 rfl)) rfl fun _ F35 => ?_)
     refine l_op (f_val F35 rfl rfl (r_sub (z := (((left - ((a.name.size : Nat) : Int)) - ((a.to_.size : Nat) : Int)) - ((a.text.size : Nat) : Int))) rfl (F35.ev 19 rfl) (F35.ev 22 rfl) (by first | rfl | omega) ⟨by first | omega | (unfold i64ok at *; omega), by first | omega | (unfold i64ok at *; omega)⟩) rfl fun _ F36 => ?_)
     refine l_op (f_as F36 rfl rfl rfl rfl rfl fun _ F37 => ?_)
     have F38 : Fr 27 [(1, .int .i64 (((left - ((a.name.size : Nat) : Int)) - ((a.to_.size : Nat) : Int)) - ((a.text.size : Nat) : Int)))] _ := F37.cut rfl
     clear F28 F32 F33 F34 F35 F36 F37
     refine s_end (x_normal (wp_seq (wp_seq (wp_region_lit (l_op (f_mv F38 rfl rfl rfl rfl rfl fun _ F39 => ?_))))))
     refine l_op (f_val F39 rfl rfl (r_cmp (b := decide ((((left - ((a.name.size : Nat) : Int)) - ((a.to_.size : Nat) : Int)) - ((a.text.size : Nat) : Int)) < 0)) (.inr (.inr (.inl rfl))) rfl (F39.ev 24 rfl) rfl (dec_of (by omega))) rfl fun _ F40 => ?_)
     have F41 : Fr 27 [(25, .bool (decide ((((left - ((a.name.size : Nat) : Int)) - ((a.to_.size : Nat) : Int)) - ((a.text.size : Nat) : Int)) < 0))), (1, .int .i64 (((left - ((a.name.size : Nat) : Int)) - ((a.to_.size : Nat) : Int)) - ((a.text.size : Nat) : Int)))] _ := F40.cut rfl
     clear F38 F39 F40
     refine s_end (x_normal (x_cond (p := (((left - ((a.name.size : Nat) : Int)) - ((a.to_.size : Nat) : Int)) - ((a.text.size : Nat) : Int)) < 0) (F41.ev 25 rfl) (fun h42 => ?_) (fun h42 => ?_)))
     · skip
       refine wp_seq (wp_region_lit (l_op (f_val F41 rfl rfl (r_assign rfl rfl) rfl fun _ F43 => ?_)))
       have F44 : Fr 27 [(4, .int .i64 (-1))] _ := F43.cut rfl
       clear F41 F43
       refine s_end (x_normal (wp_ret (x_then_ret ?_)))
       refine x_done (v := .int .i64 (-1)) F44 (results_1 Try.results143 (.tmp (F44.ev 4 rfl))) ?_
       exact ⟨(by rw [(show (-1) = (subOr left (szCallD a)) from by unfold szCallD; first | exact sz3_a (by assumption) | exact sz3_b (by assumption) | exact sz3_c (by assumption) | exact sz3_d (by assumption))]), (Mv.pick T5 [] rfl), subOr_i64 p0 p1⟩
     · skip
       refine wp_skip (x_normal (wp_seq (wp_region_lit (l_op (f_mv F41 rfl rfl rfl rfl rfl fun _ F45 => ?_)))))
       refine l_op (f_as F45 rfl rfl rfl rfl rfl fun _ F46 => ?_)
       have F47 : Fr 27 [(4, .int .i64 (((left - ((a.name.size : Nat) : Int)) - ((a.to_.size : Nat) : Int)) - ((a.text.size : Nat) : Int)))] _ := F46.cut rfl
       clear F41 F45 F46
       refine s_end (x_normal (wp_ret ?_))
       refine x_done (v := .int .i64 (((left - ((a.name.size : Nat) : Int)) - ((a.to_.size : Nat) : Int)) - ((a.text.size : Nat) : Int))) F47 (results_1 Try.results143 (.tmp (F47.ev 4 rfl))) ?_
       exact ⟨(by rw [(show (((left - ((a.name.size : Nat) : Int)) - ((a.to_.size : Nat) : Int)) - ((a.text.size : Nat) : Int)) = (subOr left (szCallD a)) from by unfold szCallD; first | exact sz3_a (by assumption) | exact sz3_b (by assumption) | exact sz3_c (by assumption) | exact sz3_d (by assumption))]), (Mv.pick T5 [] rfl), subOr_i64 p0 p1⟩
theorem laws_szAnswer_c {w : World} {H : Nat → Prop} {a : AnsD} {left : Int} (h_a_code : i64ok a.code) (h_a_n : i64ok a.n) (h_a_text : okS a.text) (h_left : i64ok left) (p0 : 0 ≤ left) (p1 : left ≤ 1048576) :
    Calls Try.prog 144 #[.agg #[.int .i64 a.code, .int .i64 a.n, .string a.text], .int .i64 left] w fun e w' => e = .returned (.int .i64 (subOr left (szAnsD a))) ∧ Mv [] w [] w' ∧ i64ok (subOr left (szAnsD a)) := by
 have uU : True := (fun _ _ _ _ => trivial) H h_a_code h_a_n h_left
 clear uU
 unfold okS at h_a_text
 refine calls_enter 13 Try.func144 rfl Try.ntmps144 (Nat.le_of_ble_eq_true rfl) (fun _ F0i => ?_)
 have F0 : Fr 13 [(0, .agg #[.int .i64 a.code, .int .i64 a.n, .string a.text]), (1, .int .i64 left)] _ := F0i
 clear F0i
 refine wp_seq (wp_region_lit (l_op (f_box F0 (At.nil w) rfl rfl rfl (F0.ev 0 rfl) rfl rfl fun b1 _ w1 F2 S1 => ?_)))
 refine l_op (f_val F2 rfl rfl (r_assign rfl rfl) rfl fun _ F3 => ?_)
 have F4 : Fr 13 [(4, .int .i64 0), (2, .pointer (some ⟨b1, 0, none⟩)), (1, .int .i64 left)] _ := F3.cut rfl
 clear F0 F2 F3
 have T5 : Mv _ _ [bx b1 [.int .i64 a.code, .int .i64 a.n, .string a.text] 175] _ := S1
 refine s_end (x_normal (wp_seq (wp_region_lit (l_op (f_mv F4 rfl rfl rfl rfl rfl fun _ F6 => ?_)))))
 refine l_op (f_val F6 rfl rfl (r_field FI_175_2 rfl (F6.ev 2 rfl) rfl) rfl fun _ F7 => ?_)
 refine l_op (f_val (v := .string a.text) F7 rfl rfl (r_loadB T5.at' 0 TI_9 rfl rfl (F7.ev 6 rfl) rfl rfl (fun _ => rfl) rfl) rfl fun _ F8 => ?_)
 refine l_op (f_val F8 rfl rfl (r_lenS (fun t ht => by cases ht; exact Try.underlying9) rfl rfl (F8.ev 7 rfl)) rfl fun _ F9 => ?_)
 refine l_op (f_val F9 rfl rfl (r_sub (z := (left - ((a.text.size : Nat) : Int))) rfl (F9.ev 5 rfl) (F9.ev 8 rfl) (by first | rfl | omega) ⟨by first | omega | (unfold i64ok at *; omega), by first | omega | (unfold i64ok at *; omega)⟩) rfl fun _ F10 => ?_)
 refine l_op (f_as F10 rfl rfl rfl rfl rfl fun _ F11 => ?_)
 have F12 : Fr 13 [(1, .int .i64 (left - ((a.text.size : Nat) : Int)))] _ := F11.cut rfl
 clear F4 F6 F7 F8 F9 F10 F11
 refine s_end (x_normal (wp_seq (wp_seq (wp_region_lit (l_op (f_mv F12 rfl rfl rfl rfl rfl fun _ F13 => ?_))))))
 refine l_op (f_val F13 rfl rfl (r_cmp (b := decide ((left - ((a.text.size : Nat) : Int)) < 0)) (.inr (.inr (.inl rfl))) rfl (F13.ev 10 rfl) rfl (dec_of (by omega))) rfl fun _ F14 => ?_)
 have F15 : Fr 13 [(11, .bool (decide ((left - ((a.text.size : Nat) : Int)) < 0))), (1, .int .i64 (left - ((a.text.size : Nat) : Int)))] _ := F14.cut rfl
 clear F12 F13 F14
 refine s_end (x_normal (x_cond (p := (left - ((a.text.size : Nat) : Int)) < 0) (F15.ev 11 rfl) (fun h16 => ?_) (fun h16 => ?_)))
 · skip
   refine wp_seq (wp_region_lit (l_op (f_val F15 rfl rfl (r_assign rfl rfl) rfl fun _ F17 => ?_)))
   have F18 : Fr 13 [(4, .int .i64 (-1))] _ := F17.cut rfl
   clear F15 F17
   refine s_end (x_normal (wp_ret (x_then_ret ?_)))
   refine x_done (v := .int .i64 (-1)) F18 (results_1 Try.results144 (.tmp (F18.ev 4 rfl))) ?_
   exact ⟨(by rw [(show (-1) = (subOr left (szAnsD a)) from by unfold szAnsD; first | exact sz1_a (by assumption) | exact sz1_b (by assumption))]), (Mv.pick T5 [] rfl), subOr_i64 p0 p1⟩
 · skip
   refine wp_skip (x_normal (wp_seq (wp_region_lit (l_op (f_mv F15 rfl rfl rfl rfl rfl fun _ F19 => ?_)))))
   refine l_op (f_as F19 rfl rfl rfl rfl rfl fun _ F20 => ?_)
   have F21 : Fr 13 [(4, .int .i64 (left - ((a.text.size : Nat) : Int)))] _ := F20.cut rfl
   clear F15 F19 F20
   refine s_end (x_normal (wp_ret ?_))
   refine x_done (v := .int .i64 (left - ((a.text.size : Nat) : Int))) F21 (results_1 Try.results144 (.tmp (F21.ev 4 rfl))) ?_
   exact ⟨(by rw [(show (left - ((a.text.size : Nat) : Int)) = (subOr left (szAnsD a)) from by unfold szAnsD; first | exact sz1_a (by assumption) | exact sz1_b (by assumption))]), (Mv.pick T5 [] rfl), subOr_i64 p0 p1⟩
theorem laws_szCallS_c {w : World} {H : Nat → Prop} {a : List CallD} {a_a : Option Addr} {a_n a_c : Nat} {left : Int} (v_a : RdA 6 encK okK H w (.slice a_a a_n a_c) a) (h_left : i64ok left) (p0 : 0 ≤ left) (p1 : left ≤ 1048576) :
    Calls Try.prog 109 #[.slice a_a a_n a_c, .int .i64 left] w fun e w' => e = .returned (.int .i64 (subOr left (szCalls a))) ∧ Mv [] w [] w' ∧ i64ok (subOr left (szCalls a)) := by
 have uU : True := (fun _ => trivial) h_left
 clear uU
 have V_v_a : RdA 6 encK okK (V H w []) w (.slice a_a a_n a_c) a := RdA.start v_a (fun _ _ => fps_nil _)
 obtain ⟨ln_a, le_a, mx_a, ni_a⟩ := RdA.inv v_a
 refine calls_enter 27 Try.func109 rfl Try.ntmps109 (Nat.le_of_ble_eq_true rfl) (fun _ F0i => ?_)
 have F0 : Fr 27 [(0, .slice a_a a_n a_c), (1, .int .i64 left)] _ := F0i
 clear F0i
 refine wp_seq (wp_region_lit (l_op (f_val F0 rfl rfl (r_assign rfl rfl) rfl fun _ F1 => ?_)))
 have F2 : Fr 27 [(4, .int .i64 0), (0, .slice a_a a_n a_c), (1, .int .i64 left)] _ := F1.cut rfl
 clear F0 F1
 refine s_end (x_normal (wp_seq (wp_region_lit (l_op (f_mv F2 rfl rfl rfl rfl rfl fun _ F3 => ?_)))))
 refine l_op (f_mv F3 rfl rfl rfl rfl rfl fun _ F4 => ?_)
 refine l_op (f_val F4 rfl rfl (r_len Try.underlying89 rfl (F4.ev 7 rfl)) rfl fun _ F5 => ?_)
 refine l_op (f_val F5 rfl rfl (r_sub (z := (left - ((a_n : Nat) : Int))) rfl (F5.ev 6 rfl) (F5.ev 8 rfl) (by first | rfl | omega) ⟨by first | omega | (unfold i64ok at *; omega), by first | omega | (unfold i64ok at *; omega)⟩) rfl fun _ F6 => ?_)
 refine l_op (f_as F6 rfl rfl rfl rfl rfl fun _ F7 => ?_)
 have F8 : Fr 27 [(1, .int .i64 (left - ((a_n : Nat) : Int))), (0, .slice a_a a_n a_c)] _ := F7.cut rfl
 clear F2 F3 F4 F5 F6 F7
 refine s_end (x_normal (wp_seq (wp_seq (wp_region_lit (l_op (f_mv F8 rfl rfl rfl rfl rfl fun _ F9 => ?_))))))
 refine l_op (f_val F9 rfl rfl (r_cmp (b := decide ((left - ((a_n : Nat) : Int)) < 0)) (.inr (.inr (.inl rfl))) rfl (F9.ev 10 rfl) rfl (dec_of (by omega))) rfl fun _ F10 => ?_)
 have F11 : Fr 27 [(11, .bool (decide ((left - ((a_n : Nat) : Int)) < 0))), (1, .int .i64 (left - ((a_n : Nat) : Int))), (0, .slice a_a a_n a_c)] _ := F10.cut rfl
 clear F8 F9 F10
 refine s_end (x_normal (x_cond (p := (left - ((a_n : Nat) : Int)) < 0) (F11.ev 11 rfl) (fun h12 => ?_) (fun h12 => ?_)))
 · skip
   refine wp_seq (wp_region_lit (l_op (f_val F11 rfl rfl (r_assign rfl rfl) rfl fun _ F13 => ?_)))
   have F14 : Fr 27 [(4, .int .i64 (-1))] _ := F13.cut rfl
   clear F11 F13
   refine s_end (x_normal (wp_ret (x_then_ret ?_)))
   refine x_done (v := .int .i64 (-1)) F14 (results_1 Try.results109 (.tmp (F14.ev 4 rfl))) ?_
   exact ⟨(by rw [(show (-1) = (subOr left (szCalls a)) from by unfold szCalls; rw [← ln_a]; exact sz_neg (by assumption))]), (Mv.pick (Mv.refl (At.nil w)) [] rfl), subOr_i64 p0 p1⟩
 · skip
   refine wp_skip (x_normal (wp_seq (wp_seq (wp_region_lit (l_op (f_val F11 rfl rfl (r_assign rfl rfl) rfl fun _ F15 => ?_))))))
   have F16 : Fr 27 [(5, .int .i64 0), (1, .int .i64 (left - ((a_n : Nat) : Int))), (0, .slice a_a a_n a_c)] _ := F15.cut rfl
   clear F11 F15
   refine s_end (x_normal (wp_block ?_))
   refine x_loop (fun (k : Nat) aZ wZ => ∃ (lv : Int), Fr 27 [(5, .int .i64 ((k : Nat) : Int)), (1, .int .i64 lv), (0, .slice a_a a_n a_c)] aZ ∧ Mv [] w [] wZ ∧ (k ≤ a_n) ∧ (lv = left - ((a.length + sumOf szCallD (a.take k) : Nat) : Int)) ∧ (0 ≤ lv)) (fun (k : Nat) => a_n - k) (0) ?_ ?_
   · exact ⟨(left - ((a_n : Nat) : Int)), F16.cut rfl, (Mv.refl (At.nil w)), by omega, by have e : sumOf szCallD (a.take 0) = 0 := rfl; rw [e]; omega, by omega⟩
   · rintro k a17 w17 ⟨lv, F17, S17, hk_0, hk_1, hk_2⟩
     refine wp_seq (wp_seq (wp_region_lit (l_op (f_mv F17 rfl rfl rfl rfl rfl fun _ F18 => ?_))))
     refine l_op (f_mv F18 rfl rfl rfl rfl rfl fun _ F19 => ?_)
     refine l_op (f_val F19 rfl rfl (r_len Try.underlying89 rfl (F19.ev 13 rfl)) rfl fun _ F20 => ?_)
     refine l_op (f_val F20 rfl rfl (r_cmp (b := decide (k < a_n)) (.inr (.inr (.inl rfl))) rfl (F20.ev 12 rfl) (F20.ev 14 rfl) (dec_of (by omega))) rfl fun _ F21 => ?_)
     have F22 : Fr 27 [(15, .bool (decide (k < a_n))), (5, .int .i64 ((k : Nat) : Int)), (1, .int .i64 lv), (0, .slice a_a a_n a_c)] _ := F21.cut rfl
     clear F17 F18 F19 F20 F21
     refine s_end (x_normal (x_cond (p := k < a_n) (F22.ev 15 rfl) (fun h23 => ?_) (fun h23 => ?_)))
     · skip
       refine wp_skip (x_normal (wp_seq (wp_block (wp_seq (wp_region_lit (l_op (f_mv F22 rfl rfl rfl rfl rfl fun _ F24 => ?_)))))))
       refine l_op (f_mv F24 rfl rfl rfl rfl rfl fun _ F25 => ?_)
       obtain ⟨B26, O26, x1, ad26, hx1, okx1, ln26, cl26⟩ := RdA.at (RdA.mv (Nat.succ_pos _) V_v_a S17) k (by first | assumption | omega)
       clear ln26
       refine l_op (f_val F25 rfl rfl (r_indexAddr (i := k) ET_89 rfl ((F25.ev 18 rfl).trans (by rw [ad26])) (F25.ev 19 rfl) (by omega) (by first | assumption | omega)) rfl fun _ F27 => ?_)
       refine l_op (f_val (v := .agg #[.int .i64 x1.kind, .string x1.name, .string x1.to_, .int .i64 x1.a, .int .i64 x1.b, .string x1.text]) F27 rfl rfl (r_load (cs := [.int .i64 x1.kind, .string x1.name, .string x1.to_, .int .i64 x1.a, .int .i64 x1.b, .string x1.text]) TI_173 rfl (F27.ev 20 rfl) rfl (fun h => nomatch h) (elem_sub (f := 0) cl26 [.int .i64 x1.kind, .string x1.name, .string x1.to_, .int .i64 x1.a, .int .i64 x1.b, .string x1.text] rfl)) rfl fun _ F28 => ?_)
       refine l_op (f_mv F28 rfl rfl rfl rfl rfl fun _ F29 => ?_)
       refine l_op (f_call F29 CF_143 rfl rfl rfl rfl (lc (F29.ev 21 rfl) (lc (F29.ev 22 rfl) rfl)) (laws_szCall_c (H := fun _ => True) (a := x1) (left := lv) okx1.1 okx1.2.1 okx1.2.2.1 okx1.2.2.2.1 okx1.2.2.2.2.1 okx1.2.2.2.2.2 (by first | assumption | exact ⟨by omega, by omega⟩ | (unfold i64ok at *; omega)) (by first | assumption | omega | (simp <;> omega)) (by first | assumption | omega | (simp <;> omega))) ?_)
       rintro _ w30 ⟨rfl, m30, q30_0⟩
       refine ⟨_, rfl, fun _ F31 => ?_⟩
       have S30 := At.frame0 S17.at' m30
       clear m30
       refine l_op (f_as F31 rfl rfl rfl rfl rfl fun _ F32 => ?_)
       have F33 : Fr 27 [(1, .int .i64 (subOr lv (szCallD x1))), (5, .int .i64 ((k : Nat) : Int)), (0, .slice a_a a_n a_c)] _ := F32.cut rfl
       clear F22 F24 F25 F27 F28 F29 F31 F32
       have T34 : Mv _ _ [] _ := S30
       refine s_end (x_normal (wp_seq (wp_region_lit (l_op (f_mv F33 rfl rfl rfl rfl rfl fun _ F35 => ?_)))))
       refine l_op (f_val F35 rfl rfl (r_cmp (b := decide ((subOr lv (szCallD x1)) < 0)) (.inr (.inr (.inl rfl))) rfl (F35.ev 24 rfl) rfl (dec_of (by omega))) rfl fun _ F36 => ?_)
       have F37 : Fr 27 [(25, .bool (decide ((subOr lv (szCallD x1)) < 0))), (1, .int .i64 (subOr lv (szCallD x1))), (5, .int .i64 ((k : Nat) : Int)), (0, .slice a_a a_n a_c)] _ := F36.cut rfl
       clear F33 F35 F36
       refine s_end (x_normal (x_cond (p := (subOr lv (szCallD x1)) < 0) (F37.ev 25 rfl) (fun h38 => ?_) (fun h38 => ?_)))
       · skip
         refine wp_seq (wp_region_lit (l_op (f_val F37 rfl rfl (r_assign rfl rfl) rfl fun _ F39 => ?_)))
         have F40 : Fr 27 [(4, .int .i64 (-1))] _ := F39.cut rfl
         clear F37 F39
         refine s_end (x_normal (wp_ret (x_block_ret (x_then_ret (x_then_ret (x_block_ret (x_then_ret ?_)))))))
         refine x_done (v := .int .i64 (-1)) F40 (results_1 Try.results109 (.tmp (F40.ev 4 rfl))) ?_
         exact ⟨(by rw [(show (-1) = (subOr left (szCalls a)) from by unfold szCalls; exact sz_stop hx1 hk_1 (by assumption))]), (Mv.pick (S17.trans T34) [] rfl), subOr_i64 p0 p1⟩
       · skip
         refine wp_skip (x_block_normal (x_normal (wp_region_lit (l_op (f_mv F37 rfl rfl rfl rfl rfl fun _ F41 => ?_)))))
         refine l_op (f_val F41 rfl rfl (r_add (z := ((k + 1 : Nat) : Int)) rfl (F41.ev 16 rfl) rfl (by first | rfl | omega) ⟨by first | omega | (unfold i64ok at *; omega), by first | omega | (unfold i64ok at *; omega)⟩) rfl fun _ F42 => ?_)
         refine l_op (f_as F42 rfl rfl rfl rfl rfl fun _ F43 => ?_)
         have F44 : Fr 27 [(5, .int .i64 ((k + 1 : Nat) : Int)), (1, .int .i64 (subOr lv (szCallD x1))), (0, .slice a_a a_n a_c)] _ := F43.cut rfl
         clear F37 F41 F42 F43
         refine s_end ?_
         refine x_normal ⟨k + 1, by omega, (subOr lv (szCallD x1)), F44.cut rfl, ((S17.trans T34).pick [] rfl), by omega, (sz_next hx1 hk_1 (by assumption)).1, (sz_next hx1 hk_1 (by assumption)).2⟩
     · skip
       refine wp_exit (x_then_exit (x_then_exit (x_block_here (x_normal (wp_seq (wp_region_lit (l_op (f_mv F22 rfl rfl rfl rfl rfl fun _ F45 => ?_))))))))
       refine l_op (f_as F45 rfl rfl rfl rfl rfl fun _ F46 => ?_)
       have F47 : Fr 27 [(4, .int .i64 lv)] _ := F46.cut rfl
       clear F22 F45 F46
       refine s_end (x_normal (wp_ret ?_))
       refine x_done (v := .int .i64 lv) F47 (results_1 Try.results109 (.tmp (F47.ev 4 rfl))) ?_
       exact ⟨(by rw [(show lv = (subOr left (szCalls a)) from by unfold szCalls; exact sz_done (by omega) hk_1 hk_2)]), (Mv.pick S17 [] rfl), subOr_i64 p0 p1⟩
theorem laws_szAnswerS_c {w : World} {H : Nat → Prop} {a : List AnsD} {a_a : Option Addr} {a_n a_c : Nat} {left : Int} (v_a : RdA 3 encR okR H w (.slice a_a a_n a_c) a) (h_left : i64ok left) (p0 : 0 ≤ left) (p1 : left ≤ 1048576) :
    Calls Try.prog 110 #[.slice a_a a_n a_c, .int .i64 left] w fun e w' => e = .returned (.int .i64 (subOr left (szAnss a))) ∧ Mv [] w [] w' ∧ i64ok (subOr left (szAnss a)) := by
 have uU : True := (fun _ => trivial) h_left
 clear uU
 have V_v_a : RdA 3 encR okR (V H w []) w (.slice a_a a_n a_c) a := RdA.start v_a (fun _ _ => fps_nil _)
 obtain ⟨ln_a, le_a, mx_a, ni_a⟩ := RdA.inv v_a
 refine calls_enter 27 Try.func110 rfl Try.ntmps110 (Nat.le_of_ble_eq_true rfl) (fun _ F0i => ?_)
 have F0 : Fr 27 [(0, .slice a_a a_n a_c), (1, .int .i64 left)] _ := F0i
 clear F0i
 refine wp_seq (wp_region_lit (l_op (f_val F0 rfl rfl (r_assign rfl rfl) rfl fun _ F1 => ?_)))
 have F2 : Fr 27 [(4, .int .i64 0), (0, .slice a_a a_n a_c), (1, .int .i64 left)] _ := F1.cut rfl
 clear F0 F1
 refine s_end (x_normal (wp_seq (wp_region_lit (l_op (f_mv F2 rfl rfl rfl rfl rfl fun _ F3 => ?_)))))
 refine l_op (f_mv F3 rfl rfl rfl rfl rfl fun _ F4 => ?_)
 refine l_op (f_val F4 rfl rfl (r_len Try.underlying90 rfl (F4.ev 7 rfl)) rfl fun _ F5 => ?_)
 refine l_op (f_val F5 rfl rfl (r_sub (z := (left - ((a_n : Nat) : Int))) rfl (F5.ev 6 rfl) (F5.ev 8 rfl) (by first | rfl | omega) ⟨by first | omega | (unfold i64ok at *; omega), by first | omega | (unfold i64ok at *; omega)⟩) rfl fun _ F6 => ?_)
 refine l_op (f_as F6 rfl rfl rfl rfl rfl fun _ F7 => ?_)
 have F8 : Fr 27 [(1, .int .i64 (left - ((a_n : Nat) : Int))), (0, .slice a_a a_n a_c)] _ := F7.cut rfl
 clear F2 F3 F4 F5 F6 F7
 refine s_end (x_normal (wp_seq (wp_seq (wp_region_lit (l_op (f_mv F8 rfl rfl rfl rfl rfl fun _ F9 => ?_))))))
 refine l_op (f_val F9 rfl rfl (r_cmp (b := decide ((left - ((a_n : Nat) : Int)) < 0)) (.inr (.inr (.inl rfl))) rfl (F9.ev 10 rfl) rfl (dec_of (by omega))) rfl fun _ F10 => ?_)
 have F11 : Fr 27 [(11, .bool (decide ((left - ((a_n : Nat) : Int)) < 0))), (1, .int .i64 (left - ((a_n : Nat) : Int))), (0, .slice a_a a_n a_c)] _ := F10.cut rfl
 clear F8 F9 F10
 refine s_end (x_normal (x_cond (p := (left - ((a_n : Nat) : Int)) < 0) (F11.ev 11 rfl) (fun h12 => ?_) (fun h12 => ?_)))
 · skip
   refine wp_seq (wp_region_lit (l_op (f_val F11 rfl rfl (r_assign rfl rfl) rfl fun _ F13 => ?_)))
   have F14 : Fr 27 [(4, .int .i64 (-1))] _ := F13.cut rfl
   clear F11 F13
   refine s_end (x_normal (wp_ret (x_then_ret ?_)))
   refine x_done (v := .int .i64 (-1)) F14 (results_1 Try.results110 (.tmp (F14.ev 4 rfl))) ?_
   exact ⟨(by rw [(show (-1) = (subOr left (szAnss a)) from by unfold szAnss; rw [← ln_a]; exact sz_neg (by assumption))]), (Mv.pick (Mv.refl (At.nil w)) [] rfl), subOr_i64 p0 p1⟩
 · skip
   refine wp_skip (x_normal (wp_seq (wp_seq (wp_region_lit (l_op (f_val F11 rfl rfl (r_assign rfl rfl) rfl fun _ F15 => ?_))))))
   have F16 : Fr 27 [(5, .int .i64 0), (1, .int .i64 (left - ((a_n : Nat) : Int))), (0, .slice a_a a_n a_c)] _ := F15.cut rfl
   clear F11 F15
   refine s_end (x_normal (wp_block ?_))
   refine x_loop (fun (k : Nat) aZ wZ => ∃ (lv : Int), Fr 27 [(5, .int .i64 ((k : Nat) : Int)), (1, .int .i64 lv), (0, .slice a_a a_n a_c)] aZ ∧ Mv [] w [] wZ ∧ (k ≤ a_n) ∧ (lv = left - ((a.length + sumOf szAnsD (a.take k) : Nat) : Int)) ∧ (0 ≤ lv)) (fun (k : Nat) => a_n - k) (0) ?_ ?_
   · exact ⟨(left - ((a_n : Nat) : Int)), F16.cut rfl, (Mv.refl (At.nil w)), by omega, by have e : sumOf szAnsD (a.take 0) = 0 := rfl; rw [e]; omega, by omega⟩
   · rintro k a17 w17 ⟨lv, F17, S17, hk_0, hk_1, hk_2⟩
     refine wp_seq (wp_seq (wp_region_lit (l_op (f_mv F17 rfl rfl rfl rfl rfl fun _ F18 => ?_))))
     refine l_op (f_mv F18 rfl rfl rfl rfl rfl fun _ F19 => ?_)
     refine l_op (f_val F19 rfl rfl (r_len Try.underlying90 rfl (F19.ev 13 rfl)) rfl fun _ F20 => ?_)
     refine l_op (f_val F20 rfl rfl (r_cmp (b := decide (k < a_n)) (.inr (.inr (.inl rfl))) rfl (F20.ev 12 rfl) (F20.ev 14 rfl) (dec_of (by omega))) rfl fun _ F21 => ?_)
     have F22 : Fr 27 [(15, .bool (decide (k < a_n))), (5, .int .i64 ((k : Nat) : Int)), (1, .int .i64 lv), (0, .slice a_a a_n a_c)] _ := F21.cut rfl
     clear F17 F18 F19 F20 F21
     refine s_end (x_normal (x_cond (p := k < a_n) (F22.ev 15 rfl) (fun h23 => ?_) (fun h23 => ?_)))
     · skip
       refine wp_skip (x_normal (wp_seq (wp_block (wp_seq (wp_region_lit (l_op (f_mv F22 rfl rfl rfl rfl rfl fun _ F24 => ?_)))))))
       refine l_op (f_mv F24 rfl rfl rfl rfl rfl fun _ F25 => ?_)
       obtain ⟨B26, O26, x1, ad26, hx1, okx1, ln26, cl26⟩ := RdA.at (RdA.mv (Nat.succ_pos _) V_v_a S17) k (by first | assumption | omega)
       clear ln26
       refine l_op (f_val F25 rfl rfl (r_indexAddr (i := k) ET_90 rfl ((F25.ev 18 rfl).trans (by rw [ad26])) (F25.ev 19 rfl) (by omega) (by first | assumption | omega)) rfl fun _ F27 => ?_)
       refine l_op (f_val (v := .agg #[.int .i64 x1.code, .int .i64 x1.n, .string x1.text]) F27 rfl rfl (r_load (cs := [.int .i64 x1.code, .int .i64 x1.n, .string x1.text]) TI_175 rfl (F27.ev 20 rfl) rfl (fun h => nomatch h) (elem_sub (f := 0) cl26 [.int .i64 x1.code, .int .i64 x1.n, .string x1.text] rfl)) rfl fun _ F28 => ?_)
       refine l_op (f_mv F28 rfl rfl rfl rfl rfl fun _ F29 => ?_)
       refine l_op (f_call F29 CF_144 rfl rfl rfl rfl (lc (F29.ev 21 rfl) (lc (F29.ev 22 rfl) rfl)) (laws_szAnswer_c (H := fun _ => True) (a := x1) (left := lv) okx1.1 okx1.2.1 okx1.2.2 (by first | assumption | exact ⟨by omega, by omega⟩ | (unfold i64ok at *; omega)) (by first | assumption | omega | (simp <;> omega)) (by first | assumption | omega | (simp <;> omega))) ?_)
       rintro _ w30 ⟨rfl, m30, q30_0⟩
       refine ⟨_, rfl, fun _ F31 => ?_⟩
       have S30 := At.frame0 S17.at' m30
       clear m30
       refine l_op (f_as F31 rfl rfl rfl rfl rfl fun _ F32 => ?_)
       have F33 : Fr 27 [(1, .int .i64 (subOr lv (szAnsD x1))), (5, .int .i64 ((k : Nat) : Int)), (0, .slice a_a a_n a_c)] _ := F32.cut rfl
       clear F22 F24 F25 F27 F28 F29 F31 F32
       have T34 : Mv _ _ [] _ := S30
       refine s_end (x_normal (wp_seq (wp_region_lit (l_op (f_mv F33 rfl rfl rfl rfl rfl fun _ F35 => ?_)))))
       refine l_op (f_val F35 rfl rfl (r_cmp (b := decide ((subOr lv (szAnsD x1)) < 0)) (.inr (.inr (.inl rfl))) rfl (F35.ev 24 rfl) rfl (dec_of (by omega))) rfl fun _ F36 => ?_)
       have F37 : Fr 27 [(25, .bool (decide ((subOr lv (szAnsD x1)) < 0))), (1, .int .i64 (subOr lv (szAnsD x1))), (5, .int .i64 ((k : Nat) : Int)), (0, .slice a_a a_n a_c)] _ := F36.cut rfl
       clear F33 F35 F36
       refine s_end (x_normal (x_cond (p := (subOr lv (szAnsD x1)) < 0) (F37.ev 25 rfl) (fun h38 => ?_) (fun h38 => ?_)))
       · skip
         refine wp_seq (wp_region_lit (l_op (f_val F37 rfl rfl (r_assign rfl rfl) rfl fun _ F39 => ?_)))
         have F40 : Fr 27 [(4, .int .i64 (-1))] _ := F39.cut rfl
         clear F37 F39
         refine s_end (x_normal (wp_ret (x_block_ret (x_then_ret (x_then_ret (x_block_ret (x_then_ret ?_)))))))
         refine x_done (v := .int .i64 (-1)) F40 (results_1 Try.results110 (.tmp (F40.ev 4 rfl))) ?_
         exact ⟨(by rw [(show (-1) = (subOr left (szAnss a)) from by unfold szAnss; exact sz_stop hx1 hk_1 (by assumption))]), (Mv.pick (S17.trans T34) [] rfl), subOr_i64 p0 p1⟩
       · skip
         refine wp_skip (x_block_normal (x_normal (wp_region_lit (l_op (f_mv F37 rfl rfl rfl rfl rfl fun _ F41 => ?_)))))
         refine l_op (f_val F41 rfl rfl (r_add (z := ((k + 1 : Nat) : Int)) rfl (F41.ev 16 rfl) rfl (by first | rfl | omega) ⟨by first | omega | (unfold i64ok at *; omega), by first | omega | (unfold i64ok at *; omega)⟩) rfl fun _ F42 => ?_)
         refine l_op (f_as F42 rfl rfl rfl rfl rfl fun _ F43 => ?_)
         have F44 : Fr 27 [(5, .int .i64 ((k + 1 : Nat) : Int)), (1, .int .i64 (subOr lv (szAnsD x1))), (0, .slice a_a a_n a_c)] _ := F43.cut rfl
         clear F37 F41 F42 F43
         refine s_end ?_
         refine x_normal ⟨k + 1, by omega, (subOr lv (szAnsD x1)), F44.cut rfl, ((S17.trans T34).pick [] rfl), by omega, (sz_next hx1 hk_1 (by assumption)).1, (sz_next hx1 hk_1 (by assumption)).2⟩
     · skip
       refine wp_exit (x_then_exit (x_then_exit (x_block_here (x_normal (wp_seq (wp_region_lit (l_op (f_mv F22 rfl rfl rfl rfl rfl fun _ F45 => ?_))))))))
       refine l_op (f_as F45 rfl rfl rfl rfl rfl fun _ F46 => ?_)
       have F47 : Fr 27 [(4, .int .i64 lv)] _ := F46.cut rfl
       clear F22 F45 F46
       refine s_end (x_normal (wp_ret ?_))
       refine x_done (v := .int .i64 lv) F47 (results_1 Try.results110 (.tmp (F47.ev 4 rfl))) ?_
       exact ⟨(by rw [(show lv = (subOr left (szAnss a)) from by unfold szAnss; exact sz_done (by omega) hk_1 hk_2)]), (Mv.pick S17 [] rfl), subOr_i64 p0 p1⟩
theorem laws_szIntS_c {w : World} {H : Nat → Prop} {a : List Int} {a_a : Option Addr} {a_n a_c : Nat} {left : Int} (v_a : RdA 1 encI okI H w (.slice a_a a_n a_c) a) (h_left : i64ok left) (p0 : 0 ≤ left) (p1 : left ≤ 1048576) :
    Calls Try.prog 112 #[.slice a_a a_n a_c, .int .i64 left] w fun e w' => e = .returned (.int .i64 (subOr left a.length)) ∧ Mv [] w [] w' ∧ i64ok (subOr left a.length) := by
 have uU : True := (fun _ => trivial) h_left
 clear uU
 have V_v_a : RdA 1 encI okI (V H w []) w (.slice a_a a_n a_c) a := RdA.start v_a (fun _ _ => fps_nil _)
 obtain ⟨ln_a, le_a, mx_a, ni_a⟩ := RdA.inv v_a
 refine calls_enter 12 Try.func112 rfl Try.ntmps112 (Nat.le_of_ble_eq_true rfl) (fun _ F0i => ?_)
 have F0 : Fr 12 [(0, .slice a_a a_n a_c), (1, .int .i64 left)] _ := F0i
 clear F0i
 refine wp_seq (wp_region_lit (l_op (f_val F0 rfl rfl (r_assign rfl rfl) rfl fun _ F1 => ?_)))
 have F2 : Fr 12 [(4, .int .i64 0), (0, .slice a_a a_n a_c), (1, .int .i64 left)] _ := F1.cut rfl
 clear F0 F1
 refine s_end (x_normal (wp_seq (wp_region_lit (l_op (f_mv F2 rfl rfl rfl rfl rfl fun _ F3 => ?_)))))
 refine l_op (f_mv F3 rfl rfl rfl rfl rfl fun _ F4 => ?_)
 refine l_op (f_val F4 rfl rfl (r_len Try.underlying53 rfl (F4.ev 6 rfl)) rfl fun _ F5 => ?_)
 refine l_op (f_val F5 rfl rfl (r_sub (z := (left - ((a_n : Nat) : Int))) rfl (F5.ev 5 rfl) (F5.ev 7 rfl) (by first | rfl | omega) ⟨by first | omega | (unfold i64ok at *; omega), by first | omega | (unfold i64ok at *; omega)⟩) rfl fun _ F6 => ?_)
 refine l_op (f_as F6 rfl rfl rfl rfl rfl fun _ F7 => ?_)
 have F8 : Fr 12 [(1, .int .i64 (left - ((a_n : Nat) : Int)))] _ := F7.cut rfl
 clear F2 F3 F4 F5 F6 F7
 refine s_end (x_normal (wp_seq (wp_seq (wp_region_lit (l_op (f_mv F8 rfl rfl rfl rfl rfl fun _ F9 => ?_))))))
 refine l_op (f_val F9 rfl rfl (r_cmp (b := decide ((left - ((a_n : Nat) : Int)) < 0)) (.inr (.inr (.inl rfl))) rfl (F9.ev 9 rfl) rfl (dec_of (by omega))) rfl fun _ F10 => ?_)
 have F11 : Fr 12 [(10, .bool (decide ((left - ((a_n : Nat) : Int)) < 0))), (1, .int .i64 (left - ((a_n : Nat) : Int)))] _ := F10.cut rfl
 clear F8 F9 F10
 refine s_end (x_normal (x_cond (p := (left - ((a_n : Nat) : Int)) < 0) (F11.ev 10 rfl) (fun h12 => ?_) (fun h12 => ?_)))
 · skip
   refine wp_seq (wp_region_lit (l_op (f_val F11 rfl rfl (r_assign rfl rfl) rfl fun _ F13 => ?_)))
   have F14 : Fr 12 [(4, .int .i64 (-1))] _ := F13.cut rfl
   clear F11 F13
   refine s_end (x_normal (wp_ret (x_then_ret ?_)))
   refine x_done (v := .int .i64 (-1)) F14 (results_1 Try.results112 (.tmp (F14.ev 4 rfl))) ?_
   exact ⟨(by rw [(show (-1) = (subOr left a.length) from by rw [← ln_a]; first | exact sz1_a (by assumption) | exact sz1_b (by assumption))]), (Mv.pick (Mv.refl (At.nil w)) [] rfl), subOr_i64 p0 p1⟩
 · skip
   refine wp_skip (x_normal (wp_seq (wp_region_lit (l_op (f_mv F11 rfl rfl rfl rfl rfl fun _ F15 => ?_)))))
   refine l_op (f_as F15 rfl rfl rfl rfl rfl fun _ F16 => ?_)
   have F17 : Fr 12 [(4, .int .i64 (left - ((a_n : Nat) : Int)))] _ := F16.cut rfl
   clear F11 F15 F16
   refine s_end (x_normal (wp_ret ?_))
   refine x_done (v := .int .i64 (left - ((a_n : Nat) : Int))) F17 (results_1 Try.results112 (.tmp (F17.ev 4 rfl))) ?_
   exact ⟨(by rw [(show (left - ((a_n : Nat) : Int)) = (subOr left a.length) from by rw [← ln_a]; first | exact sz1_a (by assumption) | exact sz1_b (by assumption))]), (Mv.pick (Mv.refl (At.nil w)) [] rfl), subOr_i64 p0 p1⟩
theorem laws_toCall_c {w : World} {H : Nat → Prop} {a : CallD} (h_a_kind : i64ok a.kind) (h_a_name : okS a.name) (h_a_to_ : okS a.to_) (h_a_a : i64ok a.a) (h_a_b : i64ok a.b) (h_a_text : okS a.text) :
    Calls Try.prog 145 #[.agg #[.int .i64 a.kind, .string a.name, .string a.to_, .int .i64 a.a, .int .i64 a.b, .string a.text]] w fun e w' => e = .returned (.agg #[.int .i64 a.kind, .string a.name, .string a.to_, .int .i64 a.a, .int .i64 a.b, .string a.text]) ∧ Mv [] w [] w' ∧ okS a.name ∧ okS a.to_ ∧ okS a.text ∧ i64ok a.kind ∧ i64ok a.a ∧ i64ok a.b := by
 have uU : True := (fun _ _ _ _ => trivial) H h_a_kind h_a_a h_a_b
 clear uU
 refine calls_enter 23 Try.func145 rfl Try.ntmps145 (Nat.le_of_ble_eq_true rfl) (fun _ F0i => ?_)
 have F0 : Fr 23 [(0, .agg #[.int .i64 a.kind, .string a.name, .string a.to_, .int .i64 a.a, .int .i64 a.b, .string a.text])] _ := F0i
 clear F0i
 refine wp_seq (wp_region_lit (l_op (f_box F0 (At.nil w) rfl rfl rfl (F0.ev 0 rfl) rfl rfl fun b1 _ w1 F2 S1 => ?_)))
 refine l_op (f_alloc F2 S1.at' ZI_148 rfl rfl rfl rfl rfl fun b3 _ w3 F4 S3 => ?_)
 have F5 : Fr 23 [(2, .pointer (some ⟨b3, 0, none⟩)), (1, .pointer (some ⟨b1, 0, none⟩))] _ := F4.cut rfl
 clear F0 F2 F4
 have T6 : Mv _ _ [bx b3 [.int .i64 0, .string (⟨#[]⟩ : ByteArray), .string (⟨#[]⟩ : ByteArray), .int .i64 0, .int .i64 0, .string (⟨#[]⟩ : ByteArray)] 148, bx b1 [.int .i64 a.kind, .string a.name, .string a.to_, .int .i64 a.a, .int .i64 a.b, .string a.text] 173] _ := S3
 refine s_end (x_normal (wp_seq (wp_region_lit (l_op (f_alloc F5 T6.at' ZI_148 rfl rfl rfl rfl rfl fun b7 _ w7 F8 S7 => ?_)))))
 have F9 : Fr 23 [(3, .pointer (some ⟨b7, 0, none⟩)), (2, .pointer (some ⟨b3, 0, none⟩)), (1, .pointer (some ⟨b1, 0, none⟩))] _ := F8.cut rfl
 clear F5 F8
 have T10 : Mv _ _ [bx b7 [.int .i64 0, .string (⟨#[]⟩ : ByteArray), .string (⟨#[]⟩ : ByteArray), .int .i64 0, .int .i64 0, .string (⟨#[]⟩ : ByteArray)] 148, bx b3 [.int .i64 0, .string (⟨#[]⟩ : ByteArray), .string (⟨#[]⟩ : ByteArray), .int .i64 0, .int .i64 0, .string (⟨#[]⟩ : ByteArray)] 148, bx b1 [.int .i64 a.kind, .string a.name, .string a.to_, .int .i64 a.a, .int .i64 a.b, .string a.text] 173] _ := S7
 refine s_end (x_normal (wp_seq (wp_region_lit (l_op (f_val F9 rfl rfl (r_field FI_173_0 rfl (F9.ev 1 rfl) rfl) rfl fun _ F11 => ?_)))))
 refine l_op (f_val (v := .int .i64 a.kind) F11 rfl rfl (r_loadB T10.at' 2 TI_3 rfl rfl (F11.ev 4 rfl) rfl rfl (fun _ => rfl) rfl) rfl fun _ F12 => ?_)
 refine l_op (f_val F12 rfl rfl (r_field FI_148_0 rfl (F12.ev 3 rfl) rfl) rfl fun _ F13 => ?_)
 refine l_op (s_store T10.at' 0 TI_3 rfl rfl rfl rfl rfl (F13.ev 6 rfl) (F13.ev 5 rfl) rfl rfl rfl rfl rfl fun w14 S14 => ?_)
 have F15 : Fr 23 [(6, .pointer (some ⟨b7, 0, none⟩)), (5, .int .i64 a.kind), (3, .pointer (some ⟨b7, 0, none⟩)), (2, .pointer (some ⟨b3, 0, none⟩)), (1, .pointer (some ⟨b1, 0, none⟩))] _ := F13.cut rfl
 clear F9 F11 F12 F13
 have T16 : Mv _ _ [bx b7 [.int .i64 a.kind, .string (⟨#[]⟩ : ByteArray), .string (⟨#[]⟩ : ByteArray), .int .i64 0, .int .i64 0, .string (⟨#[]⟩ : ByteArray)] 148, bx b3 [.int .i64 0, .string (⟨#[]⟩ : ByteArray), .string (⟨#[]⟩ : ByteArray), .int .i64 0, .int .i64 0, .string (⟨#[]⟩ : ByteArray)] 148, bx b1 [.int .i64 a.kind, .string a.name, .string a.to_, .int .i64 a.a, .int .i64 a.b, .string a.text] 173] _ := S14
 refine s_end (x_normal (wp_seq (wp_region_lit (l_op (f_val F15 rfl rfl (r_field FI_173_1 rfl (F15.ev 1 rfl) rfl) rfl fun _ F17 => ?_)))))
 refine l_op (f_val (v := .string a.name) F17 rfl rfl (r_loadB T16.at' 2 TI_9 rfl rfl (F17.ev 7 rfl) rfl rfl (fun _ => rfl) rfl) rfl fun _ F18 => ?_)
 refine l_op (f_val F18 rfl rfl (r_field FI_148_1 rfl (F18.ev 3 rfl) rfl) rfl fun _ F19 => ?_)
 refine l_op (s_store T16.at' 0 TI_9 rfl rfl rfl rfl rfl (F19.ev 9 rfl) (F19.ev 8 rfl) rfl rfl rfl rfl rfl fun w20 S20 => ?_)
 have F21 : Fr 23 [(9, .pointer (some ⟨b7, 1, none⟩)), (8, .string a.name), (3, .pointer (some ⟨b7, 0, none⟩)), (2, .pointer (some ⟨b3, 0, none⟩)), (1, .pointer (some ⟨b1, 0, none⟩))] _ := F19.cut rfl
 clear F15 F17 F18 F19
 have T22 : Mv _ _ [bx b7 [.int .i64 a.kind, .string a.name, .string (⟨#[]⟩ : ByteArray), .int .i64 0, .int .i64 0, .string (⟨#[]⟩ : ByteArray)] 148, bx b3 [.int .i64 0, .string (⟨#[]⟩ : ByteArray), .string (⟨#[]⟩ : ByteArray), .int .i64 0, .int .i64 0, .string (⟨#[]⟩ : ByteArray)] 148, bx b1 [.int .i64 a.kind, .string a.name, .string a.to_, .int .i64 a.a, .int .i64 a.b, .string a.text] 173] _ := S20
 refine s_end (x_normal (wp_seq (wp_region_lit (l_op (f_val F21 rfl rfl (r_field FI_173_2 rfl (F21.ev 1 rfl) rfl) rfl fun _ F23 => ?_)))))
 refine l_op (f_val (v := .string a.to_) F23 rfl rfl (r_loadB T22.at' 2 TI_9 rfl rfl (F23.ev 10 rfl) rfl rfl (fun _ => rfl) rfl) rfl fun _ F24 => ?_)
 refine l_op (f_val F24 rfl rfl (r_field FI_148_2 rfl (F24.ev 3 rfl) rfl) rfl fun _ F25 => ?_)
 refine l_op (s_store T22.at' 0 TI_9 rfl rfl rfl rfl rfl (F25.ev 12 rfl) (F25.ev 11 rfl) rfl rfl rfl rfl rfl fun w26 S26 => ?_)
 have F27 : Fr 23 [(12, .pointer (some ⟨b7, 2, none⟩)), (11, .string a.to_), (3, .pointer (some ⟨b7, 0, none⟩)), (2, .pointer (some ⟨b3, 0, none⟩)), (1, .pointer (some ⟨b1, 0, none⟩))] _ := F25.cut rfl
 clear F21 F23 F24 F25
 have T28 : Mv _ _ [bx b7 [.int .i64 a.kind, .string a.name, .string a.to_, .int .i64 0, .int .i64 0, .string (⟨#[]⟩ : ByteArray)] 148, bx b3 [.int .i64 0, .string (⟨#[]⟩ : ByteArray), .string (⟨#[]⟩ : ByteArray), .int .i64 0, .int .i64 0, .string (⟨#[]⟩ : ByteArray)] 148, bx b1 [.int .i64 a.kind, .string a.name, .string a.to_, .int .i64 a.a, .int .i64 a.b, .string a.text] 173] _ := S26
 refine s_end (x_normal (wp_seq (wp_region_lit (l_op (f_val F27 rfl rfl (r_field FI_173_3 rfl (F27.ev 1 rfl) rfl) rfl fun _ F29 => ?_)))))
 refine l_op (f_val (v := .int .i64 a.a) F29 rfl rfl (r_loadB T28.at' 2 TI_3 rfl rfl (F29.ev 13 rfl) rfl rfl (fun _ => rfl) rfl) rfl fun _ F30 => ?_)
 refine l_op (f_val F30 rfl rfl (r_field FI_148_3 rfl (F30.ev 3 rfl) rfl) rfl fun _ F31 => ?_)
 refine l_op (s_store T28.at' 0 TI_3 rfl rfl rfl rfl rfl (F31.ev 15 rfl) (F31.ev 14 rfl) rfl rfl rfl rfl rfl fun w32 S32 => ?_)
 have F33 : Fr 23 [(15, .pointer (some ⟨b7, 3, none⟩)), (14, .int .i64 a.a), (3, .pointer (some ⟨b7, 0, none⟩)), (2, .pointer (some ⟨b3, 0, none⟩)), (1, .pointer (some ⟨b1, 0, none⟩))] _ := F31.cut rfl
 clear F27 F29 F30 F31
 have T34 : Mv _ _ [bx b7 [.int .i64 a.kind, .string a.name, .string a.to_, .int .i64 a.a, .int .i64 0, .string (⟨#[]⟩ : ByteArray)] 148, bx b3 [.int .i64 0, .string (⟨#[]⟩ : ByteArray), .string (⟨#[]⟩ : ByteArray), .int .i64 0, .int .i64 0, .string (⟨#[]⟩ : ByteArray)] 148, bx b1 [.int .i64 a.kind, .string a.name, .string a.to_, .int .i64 a.a, .int .i64 a.b, .string a.text] 173] _ := S32
 refine s_end (x_normal (wp_seq (wp_region_lit (l_op (f_val F33 rfl rfl (r_field FI_173_4 rfl (F33.ev 1 rfl) rfl) rfl fun _ F35 => ?_)))))
 refine l_op (f_val (v := .int .i64 a.b) F35 rfl rfl (r_loadB T34.at' 2 TI_3 rfl rfl (F35.ev 16 rfl) rfl rfl (fun _ => rfl) rfl) rfl fun _ F36 => ?_)
 refine l_op (f_val F36 rfl rfl (r_field FI_148_4 rfl (F36.ev 3 rfl) rfl) rfl fun _ F37 => ?_)
 refine l_op (s_store T34.at' 0 TI_3 rfl rfl rfl rfl rfl (F37.ev 18 rfl) (F37.ev 17 rfl) rfl rfl rfl rfl rfl fun w38 S38 => ?_)
 have F39 : Fr 23 [(18, .pointer (some ⟨b7, 4, none⟩)), (17, .int .i64 a.b), (3, .pointer (some ⟨b7, 0, none⟩)), (2, .pointer (some ⟨b3, 0, none⟩)), (1, .pointer (some ⟨b1, 0, none⟩))] _ := F37.cut rfl
 clear F33 F35 F36 F37
 have T40 : Mv _ _ [bx b7 [.int .i64 a.kind, .string a.name, .string a.to_, .int .i64 a.a, .int .i64 a.b, .string (⟨#[]⟩ : ByteArray)] 148, bx b3 [.int .i64 0, .string (⟨#[]⟩ : ByteArray), .string (⟨#[]⟩ : ByteArray), .int .i64 0, .int .i64 0, .string (⟨#[]⟩ : ByteArray)] 148, bx b1 [.int .i64 a.kind, .string a.name, .string a.to_, .int .i64 a.a, .int .i64 a.b, .string a.text] 173] _ := S38
 refine s_end (x_normal (wp_seq (wp_region_lit (l_op (f_val F39 rfl rfl (r_field FI_173_5 rfl (F39.ev 1 rfl) rfl) rfl fun _ F41 => ?_)))))
 refine l_op (f_val (v := .string a.text) F41 rfl rfl (r_loadB T40.at' 2 TI_9 rfl rfl (F41.ev 19 rfl) rfl rfl (fun _ => rfl) rfl) rfl fun _ F42 => ?_)
 refine l_op (f_val F42 rfl rfl (r_field FI_148_5 rfl (F42.ev 3 rfl) rfl) rfl fun _ F43 => ?_)
 refine l_op (s_store T40.at' 0 TI_9 rfl rfl rfl rfl rfl (F43.ev 21 rfl) (F43.ev 20 rfl) rfl rfl rfl rfl rfl fun w44 S44 => ?_)
 have F45 : Fr 23 [(21, .pointer (some ⟨b7, 5, none⟩)), (20, .string a.text), (3, .pointer (some ⟨b7, 0, none⟩)), (2, .pointer (some ⟨b3, 0, none⟩))] _ := F43.cut rfl
 clear F39 F41 F42 F43
 have T46 : Mv _ _ [bx b7 [.int .i64 a.kind, .string a.name, .string a.to_, .int .i64 a.a, .int .i64 a.b, .string a.text] 148, bx b3 [.int .i64 0, .string (⟨#[]⟩ : ByteArray), .string (⟨#[]⟩ : ByteArray), .int .i64 0, .int .i64 0, .string (⟨#[]⟩ : ByteArray)] 148, bx b1 [.int .i64 a.kind, .string a.name, .string a.to_, .int .i64 a.a, .int .i64 a.b, .string a.text] 173] _ := S44
 refine s_end (x_normal (wp_seq (wp_region_lit (l_op (f_val (v := .agg #[.int .i64 a.kind, .string a.name, .string a.to_, .int .i64 a.a, .int .i64 a.b, .string a.text]) F45 rfl rfl (r_loadB T46.at' 0 TI_148 rfl rfl (F45.ev 3 rfl) rfl rfl (fun h => nomatch h) rfl) rfl fun _ F47 => ?_)))))
 refine l_op (s_store T46.at' 1 TI_148 rfl rfl rfl rfl rfl (F47.ev 2 rfl) (F47.ev 22 rfl) rfl rfl rfl rfl rfl fun w48 S48 => ?_)
 have F49 : Fr 23 [(22, .agg #[.int .i64 a.kind, .string a.name, .string a.to_, .int .i64 a.a, .int .i64 a.b, .string a.text]), (2, .pointer (some ⟨b3, 0, none⟩))] _ := F47.cut rfl
 clear F45 F47
 have T50 : Mv _ _ [bx b3 [.int .i64 a.kind, .string a.name, .string a.to_, .int .i64 a.a, .int .i64 a.b, .string a.text] 148, bx b7 [.int .i64 a.kind, .string a.name, .string a.to_, .int .i64 a.a, .int .i64 a.b, .string a.text] 148, bx b1 [.int .i64 a.kind, .string a.name, .string a.to_, .int .i64 a.a, .int .i64 a.b, .string a.text] 173] _ := S48
 refine s_end (x_normal (wp_ret ?_))
 refine x_done (v := .agg #[.int .i64 a.kind, .string a.name, .string a.to_, .int .i64 a.a, .int .i64 a.b, .string a.text]) F49 (results_1 Try.results145 (.cell (F49.ev 2 rfl) (run_loadVar' TI_148 _ [.int .i64 a.kind, .string a.name, .string a.to_, .int .i64 a.a, .int .i64 a.b, .string a.text] rfl (fun h => nomatch h) (At.cells T50.at' 0 rfl 0 [.int .i64 a.kind, .string a.name, .string a.to_, .int .i64 a.a, .int .i64 a.b, .string a.text] rfl)))) ?_
 exact ⟨rfl, (Mv.pick (S1.trans (T6.trans (T10.trans (T16.trans (T22.trans (T28.trans (T34.trans (T40.trans (T46.trans T50))))))))) [] rfl), h_a_name, h_a_to_, h_a_text, by first | assumption | omega, by first | assumption | omega, by first | assumption | omega⟩
theorem laws_toAnswer_c {w : World} {H : Nat → Prop} {a : AnsD} (h_a_code : i64ok a.code) (h_a_n : i64ok a.n) (h_a_text : okS a.text) :
    Calls Try.prog 146 #[.agg #[.int .i64 a.code, .int .i64 a.n, .string a.text]] w fun e w' => e = .returned (.agg #[.int .i64 a.code, .int .i64 a.n, .string a.text]) ∧ Mv [] w [] w' ∧ okS a.text ∧ i64ok a.code ∧ i64ok a.n := by
 have uU : True := (fun _ _ _ => trivial) H h_a_code h_a_n
 clear uU
 refine calls_enter 14 Try.func146 rfl Try.ntmps146 (Nat.le_of_ble_eq_true rfl) (fun _ F0i => ?_)
 have F0 : Fr 14 [(0, .agg #[.int .i64 a.code, .int .i64 a.n, .string a.text])] _ := F0i
 clear F0i
 refine wp_seq (wp_region_lit (l_op (f_box F0 (At.nil w) rfl rfl rfl (F0.ev 0 rfl) rfl rfl fun b1 _ w1 F2 S1 => ?_)))
 refine l_op (f_alloc F2 S1.at' ZI_151 rfl rfl rfl rfl rfl fun b3 _ w3 F4 S3 => ?_)
 have F5 : Fr 14 [(2, .pointer (some ⟨b3, 0, none⟩)), (1, .pointer (some ⟨b1, 0, none⟩))] _ := F4.cut rfl
 clear F0 F2 F4
 have T6 : Mv _ _ [bx b3 [.int .i64 0, .int .i64 0, .string (⟨#[]⟩ : ByteArray)] 151, bx b1 [.int .i64 a.code, .int .i64 a.n, .string a.text] 175] _ := S3
 refine s_end (x_normal (wp_seq (wp_region_lit (l_op (f_alloc F5 T6.at' ZI_151 rfl rfl rfl rfl rfl fun b7 _ w7 F8 S7 => ?_)))))
 have F9 : Fr 14 [(3, .pointer (some ⟨b7, 0, none⟩)), (2, .pointer (some ⟨b3, 0, none⟩)), (1, .pointer (some ⟨b1, 0, none⟩))] _ := F8.cut rfl
 clear F5 F8
 have T10 : Mv _ _ [bx b7 [.int .i64 0, .int .i64 0, .string (⟨#[]⟩ : ByteArray)] 151, bx b3 [.int .i64 0, .int .i64 0, .string (⟨#[]⟩ : ByteArray)] 151, bx b1 [.int .i64 a.code, .int .i64 a.n, .string a.text] 175] _ := S7
 refine s_end (x_normal (wp_seq (wp_region_lit (l_op (f_val F9 rfl rfl (r_field FI_175_0 rfl (F9.ev 1 rfl) rfl) rfl fun _ F11 => ?_)))))
 refine l_op (f_val (v := .int .i64 a.code) F11 rfl rfl (r_loadB T10.at' 2 TI_3 rfl rfl (F11.ev 4 rfl) rfl rfl (fun _ => rfl) rfl) rfl fun _ F12 => ?_)
 refine l_op (f_val F12 rfl rfl (r_field FI_151_0 rfl (F12.ev 3 rfl) rfl) rfl fun _ F13 => ?_)
 refine l_op (s_store T10.at' 0 TI_3 rfl rfl rfl rfl rfl (F13.ev 6 rfl) (F13.ev 5 rfl) rfl rfl rfl rfl rfl fun w14 S14 => ?_)
 have F15 : Fr 14 [(6, .pointer (some ⟨b7, 0, none⟩)), (5, .int .i64 a.code), (3, .pointer (some ⟨b7, 0, none⟩)), (2, .pointer (some ⟨b3, 0, none⟩)), (1, .pointer (some ⟨b1, 0, none⟩))] _ := F13.cut rfl
 clear F9 F11 F12 F13
 have T16 : Mv _ _ [bx b7 [.int .i64 a.code, .int .i64 0, .string (⟨#[]⟩ : ByteArray)] 151, bx b3 [.int .i64 0, .int .i64 0, .string (⟨#[]⟩ : ByteArray)] 151, bx b1 [.int .i64 a.code, .int .i64 a.n, .string a.text] 175] _ := S14
 refine s_end (x_normal (wp_seq (wp_region_lit (l_op (f_val F15 rfl rfl (r_field FI_175_1 rfl (F15.ev 1 rfl) rfl) rfl fun _ F17 => ?_)))))
 refine l_op (f_val (v := .int .i64 a.n) F17 rfl rfl (r_loadB T16.at' 2 TI_3 rfl rfl (F17.ev 7 rfl) rfl rfl (fun _ => rfl) rfl) rfl fun _ F18 => ?_)
 refine l_op (f_val F18 rfl rfl (r_field FI_151_1 rfl (F18.ev 3 rfl) rfl) rfl fun _ F19 => ?_)
 refine l_op (s_store T16.at' 0 TI_3 rfl rfl rfl rfl rfl (F19.ev 9 rfl) (F19.ev 8 rfl) rfl rfl rfl rfl rfl fun w20 S20 => ?_)
 have F21 : Fr 14 [(9, .pointer (some ⟨b7, 1, none⟩)), (8, .int .i64 a.n), (3, .pointer (some ⟨b7, 0, none⟩)), (2, .pointer (some ⟨b3, 0, none⟩)), (1, .pointer (some ⟨b1, 0, none⟩))] _ := F19.cut rfl
 clear F15 F17 F18 F19
 have T22 : Mv _ _ [bx b7 [.int .i64 a.code, .int .i64 a.n, .string (⟨#[]⟩ : ByteArray)] 151, bx b3 [.int .i64 0, .int .i64 0, .string (⟨#[]⟩ : ByteArray)] 151, bx b1 [.int .i64 a.code, .int .i64 a.n, .string a.text] 175] _ := S20
 refine s_end (x_normal (wp_seq (wp_region_lit (l_op (f_val F21 rfl rfl (r_field FI_175_2 rfl (F21.ev 1 rfl) rfl) rfl fun _ F23 => ?_)))))
 refine l_op (f_val (v := .string a.text) F23 rfl rfl (r_loadB T22.at' 2 TI_9 rfl rfl (F23.ev 10 rfl) rfl rfl (fun _ => rfl) rfl) rfl fun _ F24 => ?_)
 refine l_op (f_val F24 rfl rfl (r_field FI_151_2 rfl (F24.ev 3 rfl) rfl) rfl fun _ F25 => ?_)
 refine l_op (s_store T22.at' 0 TI_9 rfl rfl rfl rfl rfl (F25.ev 12 rfl) (F25.ev 11 rfl) rfl rfl rfl rfl rfl fun w26 S26 => ?_)
 have F27 : Fr 14 [(12, .pointer (some ⟨b7, 2, none⟩)), (11, .string a.text), (3, .pointer (some ⟨b7, 0, none⟩)), (2, .pointer (some ⟨b3, 0, none⟩))] _ := F25.cut rfl
 clear F21 F23 F24 F25
 have T28 : Mv _ _ [bx b7 [.int .i64 a.code, .int .i64 a.n, .string a.text] 151, bx b3 [.int .i64 0, .int .i64 0, .string (⟨#[]⟩ : ByteArray)] 151, bx b1 [.int .i64 a.code, .int .i64 a.n, .string a.text] 175] _ := S26
 refine s_end (x_normal (wp_seq (wp_region_lit (l_op (f_val (v := .agg #[.int .i64 a.code, .int .i64 a.n, .string a.text]) F27 rfl rfl (r_loadB T28.at' 0 TI_151 rfl rfl (F27.ev 3 rfl) rfl rfl (fun h => nomatch h) rfl) rfl fun _ F29 => ?_)))))
 refine l_op (s_store T28.at' 1 TI_151 rfl rfl rfl rfl rfl (F29.ev 2 rfl) (F29.ev 13 rfl) rfl rfl rfl rfl rfl fun w30 S30 => ?_)
 have F31 : Fr 14 [(13, .agg #[.int .i64 a.code, .int .i64 a.n, .string a.text]), (2, .pointer (some ⟨b3, 0, none⟩))] _ := F29.cut rfl
 clear F27 F29
 have T32 : Mv _ _ [bx b3 [.int .i64 a.code, .int .i64 a.n, .string a.text] 151, bx b7 [.int .i64 a.code, .int .i64 a.n, .string a.text] 151, bx b1 [.int .i64 a.code, .int .i64 a.n, .string a.text] 175] _ := S30
 refine s_end (x_normal (wp_ret ?_))
 refine x_done (v := .agg #[.int .i64 a.code, .int .i64 a.n, .string a.text]) F31 (results_1 Try.results146 (.cell (F31.ev 2 rfl) (run_loadVar' TI_151 _ [.int .i64 a.code, .int .i64 a.n, .string a.text] rfl (fun h => nomatch h) (At.cells T32.at' 0 rfl 0 [.int .i64 a.code, .int .i64 a.n, .string a.text] rfl)))) ?_
 exact ⟨rfl, (Mv.pick (S1.trans (T6.trans (T10.trans (T16.trans (T22.trans (T28.trans T32)))))) [] rfl), h_a_text, by first | assumption | omega, by first | assumption | omega⟩
theorem laws_toCallS_c {w : World} {H : Nat → Prop} {a : List CallD} {a_a : Option Addr} {a_n a_c : Nat} (v_a : RdA 6 encK okK H w (.slice a_a a_n a_c) a) (p0 : a.length ≤ 1048576) :
    Calls Try.prog 113 #[.slice a_a a_n a_c] w fun e w' => ∃ (r0_a : Option Addr), ∃ (r0_n : Nat), ∃ (r0_c : Nat), e = .returned (.slice r0_a r0_n r0_c) ∧ Mv [] w [ow 148 6 encK okK (.slice r0_a r0_n r0_c) a] w' := by
 have uU : True := (fun _ => trivial) p0
 clear uU
 have V_v_a : RdA 6 encK okK (V H w []) w (.slice a_a a_n a_c) a := RdA.start v_a (fun _ _ => fps_nil _)
 obtain ⟨ln_a, le_a, mx_a, ni_a⟩ := RdA.inv v_a
 refine calls_enter 23 Try.func113 rfl Try.ntmps113 (Nat.le_of_ble_eq_true rfl) (fun _ F0i => ?_)
 have F0 : Fr 23 [(0, .slice a_a a_n a_c)] _ := F0i
 clear F0i
 refine wp_seq (wp_region_lit (l_op (f_val F0 rfl rfl (r_assign rfl rfl) rfl fun _ F1 => ?_)))
 have F2 : Fr 23 [(2, .slice none 0 0), (0, .slice a_a a_n a_c)] _ := F1.cut rfl
 clear F0 F1
 refine s_end (x_normal (wp_seq (wp_region_lit (l_op (f_mv F2 rfl rfl rfl rfl rfl fun _ F3 => ?_)))))
 refine l_op (f_val F3 rfl rfl (r_len Try.underlying89 rfl (F3.ev 5 rfl)) rfl fun _ F4 => ?_)
 refine l_op (f_mk (ok := okK) (⟨0, (⟨#[]⟩ : ByteArray), (⟨#[]⟩ : ByteArray), 0, 0, (⟨#[]⟩ : ByteArray)⟩ : CallD) F4 (At.nil w) ET_66 rfl rfl rfl rfl (F4.ev 6 rfl) (F4.ev 6 rfl) rfl ⟨(show i64ok 0 from by first | assumption | exact ⟨by omega, by omega⟩), (by unfold okS; decide), (by unfold okS; decide), (show i64ok 0 from by first | assumption | exact ⟨by omega, by omega⟩), (show i64ok 0 from by first | assumption | exact ⟨by omega, by omega⟩), (by unfold okS; decide)⟩ (by omega) fun b5 _ w5 F6 S5 => ?_)
 refine l_op (f_as F6 rfl rfl rfl rfl rfl fun _ F7 => ?_)
 have F8 : Fr 23 [(3, .slice (some ⟨b5, 0, none⟩) a_n a_n), (0, .slice a_a a_n a_c)] _ := F7.cut rfl
 clear F2 F3 F4 F6 F7
 have T9 : Mv _ _ [ow 148 6 encK okK (.slice (some ⟨b5, 0, none⟩) a_n a_n) (List.replicate a_n (⟨0, (⟨#[]⟩ : ByteArray), (⟨#[]⟩ : ByteArray), 0, 0, (⟨#[]⟩ : ByteArray)⟩ : CallD))] _ := S5
 refine s_end (x_normal (wp_seq (wp_seq (wp_region_lit (l_op (f_val F8 rfl rfl (r_assign rfl rfl) rfl fun _ F10 => ?_))))))
 have F11 : Fr 23 [(4, .int .i64 0), (3, .slice (some ⟨b5, 0, none⟩) a_n a_n), (0, .slice a_a a_n a_c)] _ := F10.cut rfl
 clear F8 F10
 refine s_end (x_normal (wp_block ?_))
 refine x_loop (fun (k : Nat) aZ wZ => ∃ (D : List CallD), ∃ (oa : Option Addr), ∃ (on : Nat), ∃ (oc : Nat), Fr 23 [(4, .int .i64 ((k : Nat) : Int)), (3, .slice oa on oc), (0, .slice a_a a_n a_c)] aZ ∧ Mv [ow 148 6 encK okK (.slice (some ⟨b5, 0, none⟩) a_n a_n) (List.replicate a_n (⟨0, (⟨#[]⟩ : ByteArray), (⟨#[]⟩ : ByteArray), 0, 0, (⟨#[]⟩ : ByteArray)⟩ : CallD))] w5 [ow 148 6 encK okK (.slice oa on oc) D] wZ ∧ (k ≤ a_n) ∧ (D = copyTo (⟨0, (⟨#[]⟩ : ByteArray), (⟨#[]⟩ : ByteArray), 0, 0, (⟨#[]⟩ : ByteArray)⟩ : CallD) k a) ∧ (on = a_n)) (fun (k : Nat) => a_n - k) (0) ?_ ?_
 · exact ⟨List.replicate a_n (⟨0, (⟨#[]⟩ : ByteArray), (⟨#[]⟩ : ByteArray), 0, 0, (⟨#[]⟩ : ByteArray)⟩ : CallD), (some ⟨b5, 0, none⟩), a_n, a_n, F11.cut rfl, (Mv.refl T9.at'), by omega, copyTo_start _ _ ln_a, rfl⟩
 · rintro k a12 w12 ⟨D, oa, on, oc, F12, S12, hk_0, hk_1, hk_2⟩
   refine wp_seq (wp_seq (wp_region_lit (l_op (f_mv F12 rfl rfl rfl rfl rfl fun _ F13 => ?_))))
   refine l_op (f_mv F13 rfl rfl rfl rfl rfl fun _ F14 => ?_)
   refine l_op (f_val F14 rfl rfl (r_len Try.underlying89 rfl (F14.ev 9 rfl)) rfl fun _ F15 => ?_)
   refine l_op (f_val F15 rfl rfl (r_cmp (b := decide (k < a_n)) (.inr (.inr (.inl rfl))) rfl (F15.ev 8 rfl) (F15.ev 10 rfl) (dec_of (by omega))) rfl fun _ F16 => ?_)
   have F17 : Fr 23 [(11, .bool (decide (k < a_n))), (4, .int .i64 ((k : Nat) : Int)), (3, .slice oa on oc), (0, .slice a_a a_n a_c)] _ := F16.cut rfl
   clear F12 F13 F14 F15 F16
   refine s_end (x_normal (x_cond (p := k < a_n) (F17.ev 11 rfl) (fun h18 => ?_) (fun h18 => ?_)))
   · skip
     refine wp_skip (x_normal (wp_seq (wp_block (wp_region_lit (l_op (f_mv F17 rfl rfl rfl rfl rfl fun _ F19 => ?_))))))
     refine l_op (f_mv F19 rfl rfl rfl rfl rfl fun _ F20 => ?_)
     refine l_op (f_mv F20 rfl rfl rfl rfl rfl fun _ F21 => ?_)
     refine l_op (f_mv F21 rfl rfl rfl rfl rfl fun _ F22 => ?_)
     obtain ⟨B23, O23, x1, ad23, hx1, okx1, ln23, cl23⟩ := RdA.at (RdA.mv (Nat.succ_pos _) V_v_a (T9.trans S12)) k (by first | assumption | omega)
     clear ln23
     refine l_op (f_val F22 rfl rfl (r_indexAddr (i := k) ET_89 rfl ((F22.ev 16 rfl).trans (by rw [ad23])) (F22.ev 17 rfl) (by omega) (by first | assumption | omega)) rfl fun _ F24 => ?_)
     refine l_op (f_val (v := .agg #[.int .i64 x1.kind, .string x1.name, .string x1.to_, .int .i64 x1.a, .int .i64 x1.b, .string x1.text]) F24 rfl rfl (r_load (cs := [.int .i64 x1.kind, .string x1.name, .string x1.to_, .int .i64 x1.a, .int .i64 x1.b, .string x1.text]) TI_173 rfl (F24.ev 18 rfl) rfl (fun h => nomatch h) (elem_sub (f := 0) cl23 [.int .i64 x1.kind, .string x1.name, .string x1.to_, .int .i64 x1.a, .int .i64 x1.b, .string x1.text] rfl)) rfl fun _ F25 => ?_)
     refine l_op (f_call F25 CF_145 rfl rfl rfl rfl (lc (F25.ev 19 rfl) rfl) (laws_toCall_c (H := fun _ => True) (a := x1) okx1.1 okx1.2.1 okx1.2.2.1 okx1.2.2.2.1 okx1.2.2.2.2.1 okx1.2.2.2.2.2) ?_)
     rintro _ w26 ⟨rfl, m26, ok_r0_name_26, ok_r0_to__26, ok_r0_text_26, q26_0, q26_1, q26_2⟩
     refine ⟨_, rfl, fun _ F27 => ?_⟩
     have S26 := At.frame0 S12.at' m26
     clear m26
     obtain ⟨B28, x2, ad28, hx2, okx2, cl28⟩ := At.ownAt S26.at' ET_66.hk 0 rfl k (by first | assumption | omega)
     refine l_op (f_val F27 rfl rfl (r_indexAddr (i := k) ET_66 rfl ((F27.ev 14 rfl).trans (by rw [ad28])) (F27.ev 15 rfl) (by omega) (by first | assumption | omega)) rfl fun _ F29 => ?_)
     refine l_op (s_storeEl S26.at' 0 k x1 ET_66.hk ET_66.h1 TI_148 rfl ad28 rfl rfl rfl rfl (F29.ev 21 rfl) (F29.ev 20 rfl) rfl (by first | assumption | omega) ⟨(show i64ok x1.kind from by first | assumption | exact ⟨by omega, by omega⟩), ok_r0_name_26, ok_r0_to__26, (show i64ok x1.a from by first | assumption | exact ⟨by omega, by omega⟩), (show i64ok x1.b from by first | assumption | exact ⟨by omega, by omega⟩), ok_r0_text_26⟩ fun w30 S30 => ?_)
     have F31 : Fr 23 [(21, .pointer (some ⟨B28, 0 + k * 6, none⟩)), (20, .agg #[.int .i64 x1.kind, .string x1.name, .string x1.to_, .int .i64 x1.a, .int .i64 x1.b, .string x1.text]), (4, .int .i64 ((k : Nat) : Int)), (3, .slice oa on oc), (0, .slice a_a a_n a_c)] _ := F29.cut rfl
     clear F17 F19 F20 F21 F22 F24 F25 F27 F29
     have T32 : Mv _ _ [ow 148 6 encK okK (.slice oa on oc) (D.set k x1)] _ := S30
     refine s_end (x_block_normal (x_normal (wp_region_lit (l_op (f_mv F31 rfl rfl rfl rfl rfl fun _ F33 => ?_)))))
     refine l_op (f_val F33 rfl rfl (r_add (z := ((k + 1 : Nat) : Int)) rfl (F33.ev 12 rfl) rfl (by first | rfl | omega) ⟨by first | omega | (unfold i64ok at *; omega), by first | omega | (unfold i64ok at *; omega)⟩) rfl fun _ F34 => ?_)
     refine l_op (f_as F34 rfl rfl rfl rfl rfl fun _ F35 => ?_)
     have F36 : Fr 23 [(4, .int .i64 ((k + 1 : Nat) : Int)), (3, .slice oa on oc), (0, .slice a_a a_n a_c)] _ := F35.cut rfl
     clear F31 F33 F34 F35
     refine s_end ?_
     refine x_normal ⟨k + 1, by omega, D.set k x1, oa, on, oc, F36.cut rfl, ((S12.trans (S26.trans T32)).pick [0] rfl), by omega, by rw [hk_1, copyTo_step hx1], by assumption⟩
   · skip
     refine wp_exit (x_then_exit (x_then_exit (x_block_here (x_normal (wp_seq (wp_region_lit (l_op (f_mv F17 rfl rfl rfl rfl rfl fun _ F37 => ?_))))))))
     refine l_op (f_as F37 rfl rfl rfl rfl rfl fun _ F38 => ?_)
     have F39 : Fr 23 [(2, .slice oa on oc)] _ := F38.cut rfl
     clear F17 F37 F38
     refine s_end (x_normal (wp_ret ?_))
     refine x_done (v := .slice oa on oc) F39 (results_1 Try.results113 (.tmp (F39.ev 2 rfl))) ?_
     exact ⟨oa, on, oc, rfl, (Mv.cast (Mv.pick (T9.trans S12) [0] rfl) (by rw [(show D = a from by rw [hk_1, copyTo_end (by omega)])]; all_goals rfl))⟩
theorem laws_toAnswerS_c {w : World} {H : Nat → Prop} {a : List AnsD} {a_a : Option Addr} {a_n a_c : Nat} (v_a : RdA 3 encR okR H w (.slice a_a a_n a_c) a) (p0 : a.length ≤ 1048576) :
    Calls Try.prog 114 #[.slice a_a a_n a_c] w fun e w' => ∃ (r0_a : Option Addr), ∃ (r0_n : Nat), ∃ (r0_c : Nat), e = .returned (.slice r0_a r0_n r0_c) ∧ Mv [] w [ow 151 3 encR okR (.slice r0_a r0_n r0_c) a] w' := by
 have uU : True := (fun _ => trivial) p0
 clear uU
 have V_v_a : RdA 3 encR okR (V H w []) w (.slice a_a a_n a_c) a := RdA.start v_a (fun _ _ => fps_nil _)
 obtain ⟨ln_a, le_a, mx_a, ni_a⟩ := RdA.inv v_a
 refine calls_enter 23 Try.func114 rfl Try.ntmps114 (Nat.le_of_ble_eq_true rfl) (fun _ F0i => ?_)
 have F0 : Fr 23 [(0, .slice a_a a_n a_c)] _ := F0i
 clear F0i
 refine wp_seq (wp_region_lit (l_op (f_val F0 rfl rfl (r_assign rfl rfl) rfl fun _ F1 => ?_)))
 have F2 : Fr 23 [(2, .slice none 0 0), (0, .slice a_a a_n a_c)] _ := F1.cut rfl
 clear F0 F1
 refine s_end (x_normal (wp_seq (wp_region_lit (l_op (f_mv F2 rfl rfl rfl rfl rfl fun _ F3 => ?_)))))
 refine l_op (f_val F3 rfl rfl (r_len Try.underlying90 rfl (F3.ev 5 rfl)) rfl fun _ F4 => ?_)
 refine l_op (f_mk (ok := okR) (⟨0, 0, (⟨#[]⟩ : ByteArray)⟩ : AnsD) F4 (At.nil w) ET_67 rfl rfl rfl rfl (F4.ev 6 rfl) (F4.ev 6 rfl) rfl ⟨(show i64ok 0 from by first | assumption | exact ⟨by omega, by omega⟩), (show i64ok 0 from by first | assumption | exact ⟨by omega, by omega⟩), (by unfold okS; decide)⟩ (by omega) fun b5 _ w5 F6 S5 => ?_)
 refine l_op (f_as F6 rfl rfl rfl rfl rfl fun _ F7 => ?_)
 have F8 : Fr 23 [(3, .slice (some ⟨b5, 0, none⟩) a_n a_n), (0, .slice a_a a_n a_c)] _ := F7.cut rfl
 clear F2 F3 F4 F6 F7
 have T9 : Mv _ _ [ow 151 3 encR okR (.slice (some ⟨b5, 0, none⟩) a_n a_n) (List.replicate a_n (⟨0, 0, (⟨#[]⟩ : ByteArray)⟩ : AnsD))] _ := S5
 refine s_end (x_normal (wp_seq (wp_seq (wp_region_lit (l_op (f_val F8 rfl rfl (r_assign rfl rfl) rfl fun _ F10 => ?_))))))
 have F11 : Fr 23 [(4, .int .i64 0), (3, .slice (some ⟨b5, 0, none⟩) a_n a_n), (0, .slice a_a a_n a_c)] _ := F10.cut rfl
 clear F8 F10
 refine s_end (x_normal (wp_block ?_))
 refine x_loop (fun (k : Nat) aZ wZ => ∃ (D : List AnsD), ∃ (oa : Option Addr), ∃ (on : Nat), ∃ (oc : Nat), Fr 23 [(4, .int .i64 ((k : Nat) : Int)), (3, .slice oa on oc), (0, .slice a_a a_n a_c)] aZ ∧ Mv [ow 151 3 encR okR (.slice (some ⟨b5, 0, none⟩) a_n a_n) (List.replicate a_n (⟨0, 0, (⟨#[]⟩ : ByteArray)⟩ : AnsD))] w5 [ow 151 3 encR okR (.slice oa on oc) D] wZ ∧ (k ≤ a_n) ∧ (D = copyTo (⟨0, 0, (⟨#[]⟩ : ByteArray)⟩ : AnsD) k a) ∧ (on = a_n)) (fun (k : Nat) => a_n - k) (0) ?_ ?_
 · exact ⟨List.replicate a_n (⟨0, 0, (⟨#[]⟩ : ByteArray)⟩ : AnsD), (some ⟨b5, 0, none⟩), a_n, a_n, F11.cut rfl, (Mv.refl T9.at'), by omega, copyTo_start _ _ ln_a, rfl⟩
 · rintro k a12 w12 ⟨D, oa, on, oc, F12, S12, hk_0, hk_1, hk_2⟩
   refine wp_seq (wp_seq (wp_region_lit (l_op (f_mv F12 rfl rfl rfl rfl rfl fun _ F13 => ?_))))
   refine l_op (f_mv F13 rfl rfl rfl rfl rfl fun _ F14 => ?_)
   refine l_op (f_val F14 rfl rfl (r_len Try.underlying90 rfl (F14.ev 9 rfl)) rfl fun _ F15 => ?_)
   refine l_op (f_val F15 rfl rfl (r_cmp (b := decide (k < a_n)) (.inr (.inr (.inl rfl))) rfl (F15.ev 8 rfl) (F15.ev 10 rfl) (dec_of (by omega))) rfl fun _ F16 => ?_)
   have F17 : Fr 23 [(11, .bool (decide (k < a_n))), (4, .int .i64 ((k : Nat) : Int)), (3, .slice oa on oc), (0, .slice a_a a_n a_c)] _ := F16.cut rfl
   clear F12 F13 F14 F15 F16
   refine s_end (x_normal (x_cond (p := k < a_n) (F17.ev 11 rfl) (fun h18 => ?_) (fun h18 => ?_)))
   · skip
     refine wp_skip (x_normal (wp_seq (wp_block (wp_region_lit (l_op (f_mv F17 rfl rfl rfl rfl rfl fun _ F19 => ?_))))))
     refine l_op (f_mv F19 rfl rfl rfl rfl rfl fun _ F20 => ?_)
     refine l_op (f_mv F20 rfl rfl rfl rfl rfl fun _ F21 => ?_)
     refine l_op (f_mv F21 rfl rfl rfl rfl rfl fun _ F22 => ?_)
     obtain ⟨B23, O23, x1, ad23, hx1, okx1, ln23, cl23⟩ := RdA.at (RdA.mv (Nat.succ_pos _) V_v_a (T9.trans S12)) k (by first | assumption | omega)
     clear ln23
     refine l_op (f_val F22 rfl rfl (r_indexAddr (i := k) ET_90 rfl ((F22.ev 16 rfl).trans (by rw [ad23])) (F22.ev 17 rfl) (by omega) (by first | assumption | omega)) rfl fun _ F24 => ?_)
     refine l_op (f_val (v := .agg #[.int .i64 x1.code, .int .i64 x1.n, .string x1.text]) F24 rfl rfl (r_load (cs := [.int .i64 x1.code, .int .i64 x1.n, .string x1.text]) TI_175 rfl (F24.ev 18 rfl) rfl (fun h => nomatch h) (elem_sub (f := 0) cl23 [.int .i64 x1.code, .int .i64 x1.n, .string x1.text] rfl)) rfl fun _ F25 => ?_)
     refine l_op (f_call F25 CF_146 rfl rfl rfl rfl (lc (F25.ev 19 rfl) rfl) (laws_toAnswer_c (H := fun _ => True) (a := x1) okx1.1 okx1.2.1 okx1.2.2) ?_)
     rintro _ w26 ⟨rfl, m26, ok_r0_text_26, q26_0, q26_1⟩
     refine ⟨_, rfl, fun _ F27 => ?_⟩
     have S26 := At.frame0 S12.at' m26
     clear m26
     obtain ⟨B28, x2, ad28, hx2, okx2, cl28⟩ := At.ownAt S26.at' ET_67.hk 0 rfl k (by first | assumption | omega)
     refine l_op (f_val F27 rfl rfl (r_indexAddr (i := k) ET_67 rfl ((F27.ev 14 rfl).trans (by rw [ad28])) (F27.ev 15 rfl) (by omega) (by first | assumption | omega)) rfl fun _ F29 => ?_)
     refine l_op (s_storeEl S26.at' 0 k x1 ET_67.hk ET_67.h1 TI_151 rfl ad28 rfl rfl rfl rfl (F29.ev 21 rfl) (F29.ev 20 rfl) rfl (by first | assumption | omega) ⟨(show i64ok x1.code from by first | assumption | exact ⟨by omega, by omega⟩), (show i64ok x1.n from by first | assumption | exact ⟨by omega, by omega⟩), ok_r0_text_26⟩ fun w30 S30 => ?_)
     have F31 : Fr 23 [(21, .pointer (some ⟨B28, 0 + k * 3, none⟩)), (20, .agg #[.int .i64 x1.code, .int .i64 x1.n, .string x1.text]), (4, .int .i64 ((k : Nat) : Int)), (3, .slice oa on oc), (0, .slice a_a a_n a_c)] _ := F29.cut rfl
     clear F17 F19 F20 F21 F22 F24 F25 F27 F29
     have T32 : Mv _ _ [ow 151 3 encR okR (.slice oa on oc) (D.set k x1)] _ := S30
     refine s_end (x_block_normal (x_normal (wp_region_lit (l_op (f_mv F31 rfl rfl rfl rfl rfl fun _ F33 => ?_)))))
     refine l_op (f_val F33 rfl rfl (r_add (z := ((k + 1 : Nat) : Int)) rfl (F33.ev 12 rfl) rfl (by first | rfl | omega) ⟨by first | omega | (unfold i64ok at *; omega), by first | omega | (unfold i64ok at *; omega)⟩) rfl fun _ F34 => ?_)
     refine l_op (f_as F34 rfl rfl rfl rfl rfl fun _ F35 => ?_)
     have F36 : Fr 23 [(4, .int .i64 ((k + 1 : Nat) : Int)), (3, .slice oa on oc), (0, .slice a_a a_n a_c)] _ := F35.cut rfl
     clear F31 F33 F34 F35
     refine s_end ?_
     refine x_normal ⟨k + 1, by omega, D.set k x1, oa, on, oc, F36.cut rfl, ((S12.trans (S26.trans T32)).pick [0] rfl), by omega, by rw [hk_1, copyTo_step hx1], by assumption⟩
   · skip
     refine wp_exit (x_then_exit (x_then_exit (x_block_here (x_normal (wp_seq (wp_region_lit (l_op (f_mv F17 rfl rfl rfl rfl rfl fun _ F37 => ?_))))))))
     refine l_op (f_as F37 rfl rfl rfl rfl rfl fun _ F38 => ?_)
     have F39 : Fr 23 [(2, .slice oa on oc)] _ := F38.cut rfl
     clear F17 F37 F38
     refine s_end (x_normal (wp_ret ?_))
     refine x_done (v := .slice oa on oc) F39 (results_1 Try.results114 (.tmp (F39.ev 2 rfl))) ?_
     exact ⟨oa, on, oc, rfl, (Mv.cast (Mv.pick (T9.trans S12) [0] rfl) (by rw [(show D = a from by rw [hk_1, copyTo_end (by omega)])]; all_goals rfl))⟩
theorem laws_toIntS_c {w : World} {H : Nat → Prop} {a : List Int} {a_a : Option Addr} {a_n a_c : Nat} (v_a : RdA 1 encI okI H w (.slice a_a a_n a_c) a) (p0 : a.length ≤ 1048576) :
    Calls Try.prog 34 #[.slice a_a a_n a_c] w fun e w' => ∃ (r0_a : Option Addr), ∃ (r0_n : Nat), ∃ (r0_c : Nat), e = .returned (.slice r0_a r0_n r0_c) ∧ Mv [] w [ow 3 1 encI okI (.slice r0_a r0_n r0_c) a] w' := by
 have uU : True := (fun _ => trivial) p0
 clear uU
 have V_v_a : RdA 1 encI okI (V H w []) w (.slice a_a a_n a_c) a := RdA.start v_a (fun _ _ => fps_nil _)
 obtain ⟨ln_a, le_a, mx_a, ni_a⟩ := RdA.inv v_a
 refine calls_enter 22 Try.func34 rfl Try.ntmps34 (Nat.le_of_ble_eq_true rfl) (fun _ F0i => ?_)
 have F0 : Fr 22 [(0, .slice a_a a_n a_c)] _ := F0i
 clear F0i
 refine wp_seq (wp_region_lit (l_op (f_val F0 rfl rfl (r_assign rfl rfl) rfl fun _ F1 => ?_)))
 have F2 : Fr 22 [(2, .slice none 0 0), (0, .slice a_a a_n a_c)] _ := F1.cut rfl
 clear F0 F1
 refine s_end (x_normal (wp_seq (wp_region_lit (l_op (f_mv F2 rfl rfl rfl rfl rfl fun _ F3 => ?_)))))
 refine l_op (f_val F3 rfl rfl (r_len Try.underlying53 rfl (F3.ev 5 rfl)) rfl fun _ F4 => ?_)
 refine l_op (f_mk (ok := okI) 0 F4 (At.nil w) ET_53 rfl rfl rfl rfl (F4.ev 6 rfl) (F4.ev 6 rfl) rfl ⟨by omega, by omega⟩ (by omega) fun b5 _ w5 F6 S5 => ?_)
 refine l_op (f_as F6 rfl rfl rfl rfl rfl fun _ F7 => ?_)
 have F8 : Fr 22 [(3, .slice (some ⟨b5, 0, none⟩) a_n a_n), (0, .slice a_a a_n a_c)] _ := F7.cut rfl
 clear F2 F3 F4 F6 F7
 have T9 : Mv _ _ [ow 3 1 encI okI (.slice (some ⟨b5, 0, none⟩) a_n a_n) (List.replicate a_n 0)] _ := S5
 refine s_end (x_normal (wp_seq (wp_seq (wp_region_lit (l_op (f_val F8 rfl rfl (r_assign rfl rfl) rfl fun _ F10 => ?_))))))
 have F11 : Fr 22 [(4, .int .i64 0), (3, .slice (some ⟨b5, 0, none⟩) a_n a_n), (0, .slice a_a a_n a_c)] _ := F10.cut rfl
 clear F8 F10
 refine s_end (x_normal (wp_block ?_))
 refine x_loop (fun (k : Nat) aZ wZ => ∃ (D : List Int), ∃ (oa : Option Addr), ∃ (on : Nat), ∃ (oc : Nat), Fr 22 [(4, .int .i64 ((k : Nat) : Int)), (3, .slice oa on oc), (0, .slice a_a a_n a_c)] aZ ∧ Mv [ow 3 1 encI okI (.slice (some ⟨b5, 0, none⟩) a_n a_n) (List.replicate a_n 0)] w5 [ow 3 1 encI okI (.slice oa on oc) D] wZ ∧ (k ≤ a_n) ∧ (D = copyTo (0 : Int) k a) ∧ (on = a_n)) (fun (k : Nat) => a_n - k) (0) ?_ ?_
 · exact ⟨List.replicate a_n 0, (some ⟨b5, 0, none⟩), a_n, a_n, F11.cut rfl, (Mv.refl T9.at'), by omega, copyTo_start _ _ ln_a, rfl⟩
 · rintro k a12 w12 ⟨D, oa, on, oc, F12, S12, hk_0, hk_1, hk_2⟩
   refine wp_seq (wp_seq (wp_region_lit (l_op (f_mv F12 rfl rfl rfl rfl rfl fun _ F13 => ?_))))
   refine l_op (f_mv F13 rfl rfl rfl rfl rfl fun _ F14 => ?_)
   refine l_op (f_val F14 rfl rfl (r_len Try.underlying53 rfl (F14.ev 9 rfl)) rfl fun _ F15 => ?_)
   refine l_op (f_val F15 rfl rfl (r_cmp (b := decide (k < a_n)) (.inr (.inr (.inl rfl))) rfl (F15.ev 8 rfl) (F15.ev 10 rfl) (dec_of (by omega))) rfl fun _ F16 => ?_)
   have F17 : Fr 22 [(11, .bool (decide (k < a_n))), (4, .int .i64 ((k : Nat) : Int)), (3, .slice oa on oc), (0, .slice a_a a_n a_c)] _ := F16.cut rfl
   clear F12 F13 F14 F15 F16
   refine s_end (x_normal (x_cond (p := k < a_n) (F17.ev 11 rfl) (fun h18 => ?_) (fun h18 => ?_)))
   · skip
     refine wp_skip (x_normal (wp_seq (wp_block (wp_region_lit (l_op (f_mv F17 rfl rfl rfl rfl rfl fun _ F19 => ?_))))))
     refine l_op (f_mv F19 rfl rfl rfl rfl rfl fun _ F20 => ?_)
     refine l_op (f_mv F20 rfl rfl rfl rfl rfl fun _ F21 => ?_)
     refine l_op (f_mv F21 rfl rfl rfl rfl rfl fun _ F22 => ?_)
     obtain ⟨B23, O23, x1, ad23, hx1, okx1, ln23, cl23⟩ := RdA.at (RdA.mv (Nat.succ_pos _) V_v_a (T9.trans S12)) k (by first | assumption | omega)
     clear ln23
     refine l_op (f_val F22 rfl rfl (r_indexAddr (i := k) ET_53 rfl ((F22.ev 16 rfl).trans (by rw [ad23])) (F22.ev 17 rfl) (by omega) (by first | assumption | omega)) rfl fun _ F24 => ?_)
     refine l_op (f_val (v := .int .i64 x1) F24 rfl rfl (r_load (cs := [.int .i64 x1]) TI_3 rfl (F24.ev 18 rfl) rfl (fun _ => rfl) (elem_sub (f := 0) cl23 [.int .i64 x1] rfl)) rfl fun _ F25 => ?_)
     obtain ⟨B26, x2, ad26, hx2, okx2, cl26⟩ := At.ownAt S12.at' ET_53.hk 0 rfl k (by first | assumption | omega)
     refine l_op (f_val F25 rfl rfl (r_indexAddr (i := k) ET_53 rfl ((F25.ev 14 rfl).trans (by rw [ad26])) (F25.ev 15 rfl) (by omega) (by first | assumption | omega)) rfl fun _ F27 => ?_)
     refine l_op (s_storeEl S12.at' 0 k x1 ET_53.hk ET_53.h1 TI_3 rfl ad26 rfl rfl rfl rfl (F27.ev 20 rfl) (F27.ev 19 rfl) rfl (by first | assumption | omega) okx1 fun w28 S28 => ?_)
     have F29 : Fr 22 [(20, .pointer (some ⟨B26, 0 + k * 1, none⟩)), (19, .int .i64 x1), (4, .int .i64 ((k : Nat) : Int)), (3, .slice oa on oc), (0, .slice a_a a_n a_c)] _ := F27.cut rfl
     clear F17 F19 F20 F21 F22 F24 F25 F27
     have T30 : Mv _ _ [ow 3 1 encI okI (.slice oa on oc) (D.set k x1)] _ := S28
     refine s_end (x_block_normal (x_normal (wp_region_lit (l_op (f_mv F29 rfl rfl rfl rfl rfl fun _ F31 => ?_)))))
     refine l_op (f_val F31 rfl rfl (r_add (z := ((k + 1 : Nat) : Int)) rfl (F31.ev 12 rfl) rfl (by first | rfl | omega) ⟨by first | omega | (unfold i64ok at *; omega), by first | omega | (unfold i64ok at *; omega)⟩) rfl fun _ F32 => ?_)
     refine l_op (f_as F32 rfl rfl rfl rfl rfl fun _ F33 => ?_)
     have F34 : Fr 22 [(4, .int .i64 ((k + 1 : Nat) : Int)), (3, .slice oa on oc), (0, .slice a_a a_n a_c)] _ := F33.cut rfl
     clear F29 F31 F32 F33
     refine s_end ?_
     refine x_normal ⟨k + 1, by omega, D.set k x1, oa, on, oc, F34.cut rfl, ((S12.trans T30).pick [0] rfl), by omega, by rw [hk_1, copyTo_step hx1], by assumption⟩
   · skip
     refine wp_exit (x_then_exit (x_then_exit (x_block_here (x_normal (wp_seq (wp_region_lit (l_op (f_mv F17 rfl rfl rfl rfl rfl fun _ F35 => ?_))))))))
     refine l_op (f_as F35 rfl rfl rfl rfl rfl fun _ F36 => ?_)
     have F37 : Fr 22 [(2, .slice oa on oc)] _ := F36.cut rfl
     clear F17 F35 F36
     refine s_end (x_normal (wp_ret ?_))
     refine x_done (v := .slice oa on oc) F37 (results_1 Try.results34 (.tmp (F37.ev 2 rfl))) ?_
     exact ⟨oa, on, oc, rfl, (Mv.cast (Mv.pick (T9.trans S12) [0] rfl) (by rw [(show D = a from by rw [hk_1, copyTo_end (by omega)])]; all_goals rfl))⟩
theorem laws_eqCall_c {w : World} {H : Nat → Prop} {a : CallD} {b : CallD} (h_a_kind : i64ok a.kind) (h_a_name : okS a.name) (h_a_to_ : okS a.to_) (h_a_a : i64ok a.a) (h_a_b : i64ok a.b) (h_a_text : okS a.text) (h_b_kind : i64ok b.kind) (h_b_name : okS b.name) (h_b_to_ : okS b.to_) (h_b_a : i64ok b.a) (h_b_b : i64ok b.b) (h_b_text : okS b.text) (p0 : a = b) :
    Calls Try.prog 138 #[.agg #[.int .i64 a.kind, .string a.name, .string a.to_, .int .i64 a.a, .int .i64 a.b, .string a.text], .agg #[.int .i64 b.kind, .string b.name, .string b.to_, .int .i64 b.a, .int .i64 b.b, .string b.text]] w fun e w' => e = .returned (.bool true) ∧ Mv [] w [] w' := by
 have uU : True := (fun _ _ _ _ _ _ _ _ _ _ _ _ _ => trivial) H h_a_kind h_a_name h_a_to_ h_a_a h_a_b h_a_text h_b_kind h_b_name h_b_to_ h_b_a h_b_b h_b_text
 clear uU
 refine calls_enter 35 Try.func138 rfl Try.ntmps138 (Nat.le_of_ble_eq_true rfl) (fun _ F0i => ?_)
 have F0 : Fr 35 [(0, .agg #[.int .i64 a.kind, .string a.name, .string a.to_, .int .i64 a.a, .int .i64 a.b, .string a.text]), (1, .agg #[.int .i64 b.kind, .string b.name, .string b.to_, .int .i64 b.a, .int .i64 b.b, .string b.text])] _ := F0i
 clear F0i
 refine wp_seq (wp_region_lit (l_op (f_box F0 (At.nil w) rfl rfl rfl (F0.ev 0 rfl) rfl rfl fun b1 _ w1 F2 S1 => ?_)))
 refine l_op (f_box F2 S1.at' rfl rfl rfl (F2.ev 1 rfl) rfl rfl fun b3 _ w3 F4 S3 => ?_)
 refine l_op (f_val F4 rfl rfl (r_assign rfl rfl) rfl fun _ F5 => ?_)
 have F6 : Fr 35 [(4, .bool false), (3, .pointer (some ⟨b3, 0, none⟩)), (2, .pointer (some ⟨b1, 0, none⟩))] _ := F5.cut rfl
 clear F0 F2 F4 F5
 have T7 : Mv _ _ [bx b3 [.int .i64 b.kind, .string b.name, .string b.to_, .int .i64 b.a, .int .i64 b.b, .string b.text] 148, bx b1 [.int .i64 a.kind, .string a.name, .string a.to_, .int .i64 a.a, .int .i64 a.b, .string a.text] 148] _ := S3
 refine s_end (x_normal (wp_seq (wp_seq (wp_region_lit (l_op (f_val F6 rfl rfl (r_field FI_148_0 rfl (F6.ev 2 rfl) rfl) rfl fun _ F8 => ?_))))))
 refine l_op (f_val (v := .int .i64 a.kind) F8 rfl rfl (r_loadB T7.at' 1 TI_3 rfl rfl (F8.ev 5 rfl) rfl rfl (fun _ => rfl) rfl) rfl fun _ F9 => ?_)
 refine l_op (f_val F9 rfl rfl (r_field FI_148_0 rfl (F9.ev 3 rfl) rfl) rfl fun _ F10 => ?_)
 refine l_op (f_val (v := .int .i64 b.kind) F10 rfl rfl (r_loadB T7.at' 0 TI_3 rfl rfl (F10.ev 7 rfl) rfl rfl (fun _ => rfl) rfl) rfl fun _ F11 => ?_)
 refine l_op (f_val F11 rfl rfl (r_cmp (b := decide (a.kind ≠ b.kind)) (.inr (.inl rfl)) rfl (F11.ev 6 rfl) (F11.ev 8 rfl) (dec_of (by omega))) rfl fun _ F12 => ?_)
 rw [show (decide (a.kind ≠ b.kind)) = false from decide_eq_false (fun h => h (by rw [p0]))] at F12
 have F13 : Fr 35 [(9, .bool false), (3, .pointer (some ⟨b3, 0, none⟩)), (2, .pointer (some ⟨b1, 0, none⟩))] _ := F12.cut rfl
 clear F6 F8 F9 F10 F11 F12
 refine s_end (x_normal (wp_cond_false (F13.ev 9 rfl) (wp_skip (x_normal (wp_seq (wp_seq (wp_region_lit (l_op (f_val F13 rfl rfl (r_field FI_148_1 rfl (F13.ev 2 rfl) rfl) rfl fun _ F14 => ?_)))))))))
 refine l_op (f_val (v := .string a.name) F14 rfl rfl (r_loadB T7.at' 1 TI_9 rfl rfl (F14.ev 10 rfl) rfl rfl (fun _ => rfl) rfl) rfl fun _ F15 => ?_)
 refine l_op (f_val F15 rfl rfl (r_field FI_148_1 rfl (F15.ev 3 rfl) rfl) rfl fun _ F16 => ?_)
 refine l_op (f_val (v := .string b.name) F16 rfl rfl (r_loadB T7.at' 0 TI_9 rfl rfl (F16.ev 12 rfl) rfl rfl (fun _ => rfl) rfl) rfl fun _ F17 => ?_)
 refine l_op (f_val F17 rfl rfl (r_cmps (b := (decide (a.name ≠ b.name))) (.inr (.inl rfl)) rfl (F17.ev 11 rfl) (F17.ev 13 rfl) rfl) rfl fun _ F18 => ?_)
 rw [show (decide (a.name ≠ b.name)) = false from decide_eq_false (fun h => h (by rw [p0]))] at F18
 have F19 : Fr 35 [(14, .bool false), (3, .pointer (some ⟨b3, 0, none⟩)), (2, .pointer (some ⟨b1, 0, none⟩))] _ := F18.cut rfl
 clear F13 F14 F15 F16 F17 F18
 refine s_end (x_normal (wp_cond_false (F19.ev 14 rfl) (wp_skip (x_normal (wp_seq (wp_seq (wp_region_lit (l_op (f_val F19 rfl rfl (r_field FI_148_2 rfl (F19.ev 2 rfl) rfl) rfl fun _ F20 => ?_)))))))))
 refine l_op (f_val (v := .string a.to_) F20 rfl rfl (r_loadB T7.at' 1 TI_9 rfl rfl (F20.ev 15 rfl) rfl rfl (fun _ => rfl) rfl) rfl fun _ F21 => ?_)
 refine l_op (f_val F21 rfl rfl (r_field FI_148_2 rfl (F21.ev 3 rfl) rfl) rfl fun _ F22 => ?_)
 refine l_op (f_val (v := .string b.to_) F22 rfl rfl (r_loadB T7.at' 0 TI_9 rfl rfl (F22.ev 17 rfl) rfl rfl (fun _ => rfl) rfl) rfl fun _ F23 => ?_)
 refine l_op (f_val F23 rfl rfl (r_cmps (b := (decide (a.to_ ≠ b.to_))) (.inr (.inl rfl)) rfl (F23.ev 16 rfl) (F23.ev 18 rfl) rfl) rfl fun _ F24 => ?_)
 rw [show (decide (a.to_ ≠ b.to_)) = false from decide_eq_false (fun h => h (by rw [p0]))] at F24
 have F25 : Fr 35 [(19, .bool false), (3, .pointer (some ⟨b3, 0, none⟩)), (2, .pointer (some ⟨b1, 0, none⟩))] _ := F24.cut rfl
 clear F19 F20 F21 F22 F23 F24
 refine s_end (x_normal (wp_cond_false (F25.ev 19 rfl) (wp_skip (x_normal (wp_seq (wp_seq (wp_region_lit (l_op (f_val F25 rfl rfl (r_field FI_148_3 rfl (F25.ev 2 rfl) rfl) rfl fun _ F26 => ?_)))))))))
 refine l_op (f_val (v := .int .i64 a.a) F26 rfl rfl (r_loadB T7.at' 1 TI_3 rfl rfl (F26.ev 20 rfl) rfl rfl (fun _ => rfl) rfl) rfl fun _ F27 => ?_)
 refine l_op (f_val F27 rfl rfl (r_field FI_148_3 rfl (F27.ev 3 rfl) rfl) rfl fun _ F28 => ?_)
 refine l_op (f_val (v := .int .i64 b.a) F28 rfl rfl (r_loadB T7.at' 0 TI_3 rfl rfl (F28.ev 22 rfl) rfl rfl (fun _ => rfl) rfl) rfl fun _ F29 => ?_)
 refine l_op (f_val F29 rfl rfl (r_cmp (b := decide (a.a ≠ b.a)) (.inr (.inl rfl)) rfl (F29.ev 21 rfl) (F29.ev 23 rfl) (dec_of (by omega))) rfl fun _ F30 => ?_)
 rw [show (decide (a.a ≠ b.a)) = false from decide_eq_false (fun h => h (by rw [p0]))] at F30
 have F31 : Fr 35 [(24, .bool false), (3, .pointer (some ⟨b3, 0, none⟩)), (2, .pointer (some ⟨b1, 0, none⟩))] _ := F30.cut rfl
 clear F25 F26 F27 F28 F29 F30
 refine s_end (x_normal (wp_cond_false (F31.ev 24 rfl) (wp_skip (x_normal (wp_seq (wp_seq (wp_region_lit (l_op (f_val F31 rfl rfl (r_field FI_148_4 rfl (F31.ev 2 rfl) rfl) rfl fun _ F32 => ?_)))))))))
 refine l_op (f_val (v := .int .i64 a.b) F32 rfl rfl (r_loadB T7.at' 1 TI_3 rfl rfl (F32.ev 25 rfl) rfl rfl (fun _ => rfl) rfl) rfl fun _ F33 => ?_)
 refine l_op (f_val F33 rfl rfl (r_field FI_148_4 rfl (F33.ev 3 rfl) rfl) rfl fun _ F34 => ?_)
 refine l_op (f_val (v := .int .i64 b.b) F34 rfl rfl (r_loadB T7.at' 0 TI_3 rfl rfl (F34.ev 27 rfl) rfl rfl (fun _ => rfl) rfl) rfl fun _ F35 => ?_)
 refine l_op (f_val F35 rfl rfl (r_cmp (b := decide (a.b ≠ b.b)) (.inr (.inl rfl)) rfl (F35.ev 26 rfl) (F35.ev 28 rfl) (dec_of (by omega))) rfl fun _ F36 => ?_)
 rw [show (decide (a.b ≠ b.b)) = false from decide_eq_false (fun h => h (by rw [p0]))] at F36
 have F37 : Fr 35 [(29, .bool false), (3, .pointer (some ⟨b3, 0, none⟩)), (2, .pointer (some ⟨b1, 0, none⟩))] _ := F36.cut rfl
 clear F31 F32 F33 F34 F35 F36
 refine s_end (x_normal (wp_cond_false (F37.ev 29 rfl) (wp_skip (x_normal (wp_seq (wp_seq (wp_region_lit (l_op (f_val F37 rfl rfl (r_field FI_148_5 rfl (F37.ev 2 rfl) rfl) rfl fun _ F38 => ?_)))))))))
 refine l_op (f_val (v := .string a.text) F38 rfl rfl (r_loadB T7.at' 1 TI_9 rfl rfl (F38.ev 30 rfl) rfl rfl (fun _ => rfl) rfl) rfl fun _ F39 => ?_)
 refine l_op (f_val F39 rfl rfl (r_field FI_148_5 rfl (F39.ev 3 rfl) rfl) rfl fun _ F40 => ?_)
 refine l_op (f_val (v := .string b.text) F40 rfl rfl (r_loadB T7.at' 0 TI_9 rfl rfl (F40.ev 32 rfl) rfl rfl (fun _ => rfl) rfl) rfl fun _ F41 => ?_)
 refine l_op (f_val F41 rfl rfl (r_cmps (b := (decide (a.text ≠ b.text))) (.inr (.inl rfl)) rfl (F41.ev 31 rfl) (F41.ev 33 rfl) rfl) rfl fun _ F42 => ?_)
 rw [show (decide (a.text ≠ b.text)) = false from decide_eq_false (fun h => h (by rw [p0]))] at F42
 have F43 : Fr 35 [(34, .bool false)] _ := F42.cut rfl
 clear F37 F38 F39 F40 F41 F42
 refine s_end (x_normal (wp_cond_false (F43.ev 34 rfl) (wp_skip (x_normal (wp_seq (wp_region_lit (l_op (f_val F43 rfl rfl (r_assign rfl rfl) rfl fun _ F44 => ?_))))))))
 have F45 : Fr 35 [(4, .bool true)] _ := F44.cut rfl
 clear F43 F44
 refine s_end (x_normal (wp_ret ?_))
 refine x_done (v := .bool true) F45 (results_1 Try.results138 (.tmp (F45.ev 4 rfl))) ?_
 exact ⟨rfl, (Mv.pick (S1.trans T7) [] rfl)⟩
theorem laws_eqAnswer_c {w : World} {H : Nat → Prop} {a : AnsD} {b : AnsD} (h_a_code : i64ok a.code) (h_a_n : i64ok a.n) (h_a_text : okS a.text) (h_b_code : i64ok b.code) (h_b_n : i64ok b.n) (h_b_text : okS b.text) (p0 : a = b) :
    Calls Try.prog 139 #[.agg #[.int .i64 a.code, .int .i64 a.n, .string a.text], .agg #[.int .i64 b.code, .int .i64 b.n, .string b.text]] w fun e w' => e = .returned (.bool true) ∧ Mv [] w [] w' := by
 have uU : True := (fun _ _ _ _ _ _ _ => trivial) H h_a_code h_a_n h_a_text h_b_code h_b_n h_b_text
 clear uU
 refine calls_enter 20 Try.func139 rfl Try.ntmps139 (Nat.le_of_ble_eq_true rfl) (fun _ F0i => ?_)
 have F0 : Fr 20 [(0, .agg #[.int .i64 a.code, .int .i64 a.n, .string a.text]), (1, .agg #[.int .i64 b.code, .int .i64 b.n, .string b.text])] _ := F0i
 clear F0i
 refine wp_seq (wp_region_lit (l_op (f_box F0 (At.nil w) rfl rfl rfl (F0.ev 0 rfl) rfl rfl fun b1 _ w1 F2 S1 => ?_)))
 refine l_op (f_box F2 S1.at' rfl rfl rfl (F2.ev 1 rfl) rfl rfl fun b3 _ w3 F4 S3 => ?_)
 refine l_op (f_val F4 rfl rfl (r_assign rfl rfl) rfl fun _ F5 => ?_)
 have F6 : Fr 20 [(4, .bool false), (3, .pointer (some ⟨b3, 0, none⟩)), (2, .pointer (some ⟨b1, 0, none⟩))] _ := F5.cut rfl
 clear F0 F2 F4 F5
 have T7 : Mv _ _ [bx b3 [.int .i64 b.code, .int .i64 b.n, .string b.text] 151, bx b1 [.int .i64 a.code, .int .i64 a.n, .string a.text] 151] _ := S3
 refine s_end (x_normal (wp_seq (wp_seq (wp_region_lit (l_op (f_val F6 rfl rfl (r_field FI_151_0 rfl (F6.ev 2 rfl) rfl) rfl fun _ F8 => ?_))))))
 refine l_op (f_val (v := .int .i64 a.code) F8 rfl rfl (r_loadB T7.at' 1 TI_3 rfl rfl (F8.ev 5 rfl) rfl rfl (fun _ => rfl) rfl) rfl fun _ F9 => ?_)
 refine l_op (f_val F9 rfl rfl (r_field FI_151_0 rfl (F9.ev 3 rfl) rfl) rfl fun _ F10 => ?_)
 refine l_op (f_val (v := .int .i64 b.code) F10 rfl rfl (r_loadB T7.at' 0 TI_3 rfl rfl (F10.ev 7 rfl) rfl rfl (fun _ => rfl) rfl) rfl fun _ F11 => ?_)
 refine l_op (f_val F11 rfl rfl (r_cmp (b := decide (a.code ≠ b.code)) (.inr (.inl rfl)) rfl (F11.ev 6 rfl) (F11.ev 8 rfl) (dec_of (by omega))) rfl fun _ F12 => ?_)
 rw [show (decide (a.code ≠ b.code)) = false from decide_eq_false (fun h => h (by rw [p0]))] at F12
 have F13 : Fr 20 [(9, .bool false), (3, .pointer (some ⟨b3, 0, none⟩)), (2, .pointer (some ⟨b1, 0, none⟩))] _ := F12.cut rfl
 clear F6 F8 F9 F10 F11 F12
 refine s_end (x_normal (wp_cond_false (F13.ev 9 rfl) (wp_skip (x_normal (wp_seq (wp_seq (wp_region_lit (l_op (f_val F13 rfl rfl (r_field FI_151_1 rfl (F13.ev 2 rfl) rfl) rfl fun _ F14 => ?_)))))))))
 refine l_op (f_val (v := .int .i64 a.n) F14 rfl rfl (r_loadB T7.at' 1 TI_3 rfl rfl (F14.ev 10 rfl) rfl rfl (fun _ => rfl) rfl) rfl fun _ F15 => ?_)
 refine l_op (f_val F15 rfl rfl (r_field FI_151_1 rfl (F15.ev 3 rfl) rfl) rfl fun _ F16 => ?_)
 refine l_op (f_val (v := .int .i64 b.n) F16 rfl rfl (r_loadB T7.at' 0 TI_3 rfl rfl (F16.ev 12 rfl) rfl rfl (fun _ => rfl) rfl) rfl fun _ F17 => ?_)
 refine l_op (f_val F17 rfl rfl (r_cmp (b := decide (a.n ≠ b.n)) (.inr (.inl rfl)) rfl (F17.ev 11 rfl) (F17.ev 13 rfl) (dec_of (by omega))) rfl fun _ F18 => ?_)
 rw [show (decide (a.n ≠ b.n)) = false from decide_eq_false (fun h => h (by rw [p0]))] at F18
 have F19 : Fr 20 [(14, .bool false), (3, .pointer (some ⟨b3, 0, none⟩)), (2, .pointer (some ⟨b1, 0, none⟩))] _ := F18.cut rfl
 clear F13 F14 F15 F16 F17 F18
 refine s_end (x_normal (wp_cond_false (F19.ev 14 rfl) (wp_skip (x_normal (wp_seq (wp_seq (wp_region_lit (l_op (f_val F19 rfl rfl (r_field FI_151_2 rfl (F19.ev 2 rfl) rfl) rfl fun _ F20 => ?_)))))))))
 refine l_op (f_val (v := .string a.text) F20 rfl rfl (r_loadB T7.at' 1 TI_9 rfl rfl (F20.ev 15 rfl) rfl rfl (fun _ => rfl) rfl) rfl fun _ F21 => ?_)
 refine l_op (f_val F21 rfl rfl (r_field FI_151_2 rfl (F21.ev 3 rfl) rfl) rfl fun _ F22 => ?_)
 refine l_op (f_val (v := .string b.text) F22 rfl rfl (r_loadB T7.at' 0 TI_9 rfl rfl (F22.ev 17 rfl) rfl rfl (fun _ => rfl) rfl) rfl fun _ F23 => ?_)
 refine l_op (f_val F23 rfl rfl (r_cmps (b := (decide (a.text ≠ b.text))) (.inr (.inl rfl)) rfl (F23.ev 16 rfl) (F23.ev 18 rfl) rfl) rfl fun _ F24 => ?_)
 rw [show (decide (a.text ≠ b.text)) = false from decide_eq_false (fun h => h (by rw [p0]))] at F24
 have F25 : Fr 20 [(19, .bool false)] _ := F24.cut rfl
 clear F19 F20 F21 F22 F23 F24
 refine s_end (x_normal (wp_cond_false (F25.ev 19 rfl) (wp_skip (x_normal (wp_seq (wp_region_lit (l_op (f_val F25 rfl rfl (r_assign rfl rfl) rfl fun _ F26 => ?_))))))))
 have F27 : Fr 20 [(4, .bool true)] _ := F26.cut rfl
 clear F25 F26
 refine s_end (x_normal (wp_ret ?_))
 refine x_done (v := .bool true) F27 (results_1 Try.results139 (.tmp (F27.ev 4 rfl))) ?_
 exact ⟨rfl, (Mv.pick (S1.trans T7) [] rfl)⟩
theorem laws_eqCallS_c {w : World} {H : Nat → Prop} {a : List CallD} {a_a : Option Addr} {a_n a_c : Nat} {b : List CallD} {b_a : Option Addr} {b_n b_c : Nat} (v_a : Rd 6 encK okK H w (.slice a_a a_n a_c) a) (v_b : Rd 6 encK okK H w (.slice b_a b_n b_c) b) (p0 : a = b) :
    Calls Try.prog 96 #[.slice a_a a_n a_c, .slice b_a b_n b_c] w fun e w' => e = .returned (.bool true) ∧ Mv [] w [] w' := by
 have V_v_a : Rd 6 encK okK (V H w []) w (.slice a_a a_n a_c) a := Rd.start v_a (fun _ _ => fps_nil _)
 obtain ⟨ln_a, le_a, mx_a, ni_a⟩ := Rd.inv v_a
 have V_v_b : Rd 6 encK okK (V H w []) w (.slice b_a b_n b_c) b := Rd.start v_b (fun _ _ => fps_nil _)
 obtain ⟨ln_b, le_b, mx_b, ni_b⟩ := Rd.inv v_b
 refine calls_enter 27 Try.func96 rfl Try.ntmps96 (Nat.le_of_ble_eq_true rfl) (fun _ F0i => ?_)
 have F0 : Fr 27 [(0, .slice a_a a_n a_c), (1, .slice b_a b_n b_c)] _ := F0i
 clear F0i
 refine wp_seq ?_
 have hab : a_n = b_n := by rw [ln_a, ln_b, p0]
 refine wp_region_lit (l_op (f_val F0 rfl rfl (r_assign rfl rfl) rfl fun _ F1 => ?_))
 have F2 : Fr 27 [(4, .bool false), (0, .slice a_a a_n a_c), (1, .slice b_a b_n b_c)] _ := F1.cut rfl
 clear F0 F1
 refine s_end (x_normal (wp_seq (wp_seq (wp_region_lit (l_op (f_mv F2 rfl rfl rfl rfl rfl fun _ F3 => ?_))))))
 refine l_op (f_val F3 rfl rfl (r_len Try.underlying66 rfl (F3.ev 6 rfl)) rfl fun _ F4 => ?_)
 refine l_op (f_mv F4 rfl rfl rfl rfl rfl fun _ F5 => ?_)
 refine l_op (f_val F5 rfl rfl (r_len Try.underlying66 rfl (F5.ev 8 rfl)) rfl fun _ F6 => ?_)
 refine l_op (f_val F6 rfl rfl (r_cmp (b := decide (a_n ≠ b_n)) (.inr (.inl rfl)) rfl (F6.ev 7 rfl) (F6.ev 9 rfl) (dec_of (by omega))) rfl fun _ F7 => ?_)
 rw [show (decide (a_n ≠ b_n)) = false from decide_eq_false (fun h => h hab)] at F7
 have F8 : Fr 27 [(10, .bool false), (0, .slice a_a a_n a_c), (1, .slice b_a b_n b_c)] _ := F7.cut rfl
 clear F2 F3 F4 F5 F6 F7
 refine s_end (x_normal (wp_cond_false (F8.ev 10 rfl) (wp_skip (x_normal (wp_seq (wp_seq (wp_region_lit (l_op (f_val F8 rfl rfl (r_assign rfl rfl) rfl fun _ F9 => ?_)))))))))
 have F10 : Fr 27 [(5, .int .i64 0), (0, .slice a_a a_n a_c), (1, .slice b_a b_n b_c)] _ := F9.cut rfl
 clear F8 F9
 refine s_end (x_normal (wp_block ?_))
 refine x_loop (fun (k : Nat) aZ wZ => Fr 27 [(5, .int .i64 ((k : Nat) : Int)), (0, .slice a_a a_n a_c), (1, .slice b_a b_n b_c)] aZ ∧ Mv [] w [] wZ ∧ (k ≤ a_n)) (fun (k : Nat) => a_n - k) (0) ?_ ?_
 · exact ⟨F10.cut rfl, (Mv.refl (At.nil w)), by omega⟩
 · rintro k a11 w11 ⟨F11, S11, hk_0⟩
   refine wp_seq (wp_seq (wp_region_lit (l_op (f_mv F11 rfl rfl rfl rfl rfl fun _ F12 => ?_))))
   refine l_op (f_mv F12 rfl rfl rfl rfl rfl fun _ F13 => ?_)
   refine l_op (f_val F13 rfl rfl (r_len Try.underlying66 rfl (F13.ev 12 rfl)) rfl fun _ F14 => ?_)
   refine l_op (f_val F14 rfl rfl (r_cmp (b := decide (k < a_n)) (.inr (.inr (.inl rfl))) rfl (F14.ev 11 rfl) (F14.ev 13 rfl) (dec_of (by omega))) rfl fun _ F15 => ?_)
   have F16 : Fr 27 [(14, .bool (decide (k < a_n))), (5, .int .i64 ((k : Nat) : Int)), (0, .slice a_a a_n a_c), (1, .slice b_a b_n b_c)] _ := F15.cut rfl
   clear F11 F12 F13 F14 F15
   refine s_end (x_normal (x_cond (p := k < a_n) (F16.ev 14 rfl) (fun h17 => ?_) (fun h17 => ?_)))
   · skip
     refine wp_skip (x_normal (wp_seq (wp_block (wp_seq ?_))))
     obtain ⟨x1, hx1, okx1⟩ := Rd.elem (Rd.mv (Nat.succ_pos _) V_v_a S11) k (by first | assumption | omega)
     obtain ⟨x2, hx2, okx2⟩ := Rd.elem (Rd.mv (Nat.succ_pos _) V_v_b S11) k (by first | assumption | omega)
     refine x_draw (fun aZ wZ => Fr 27 [(0, .slice a_a a_n a_c), (1, .slice b_a b_n b_c), (5, .int .i64 ((k : Nat) : Int)), (26, .bool false)] aZ ∧ Mv [] w11 [] wZ) [] mixed S11.at' (listed := #[false, false, false, false, false, false, false, false, false, false]) rfl (fun w19 S19 => ?_) [] rfl ?_
     · skip
       refine g_take F16 rfl (i := 0) (listed' := #[true, false, false, false, false, false, false, false, false, false]) rfl (by kernel_rfl) (by kernel_rfl) (by kernel_rfl) (fun _ _ _ h => h) (Sd.of (Mv.refl S19.at') [] rfl) rfl rfl rfl rfl (fun _ hz => (r_move rfl (F16.ev 0 rfl))) fun _ F20 => ?_
       refine g_take F20 rfl (i := 1) (listed' := #[true, true, false, false, false, false, false, false, false, false]) rfl (by kernel_rfl) (by kernel_rfl) (by kernel_rfl) (fun _ _ _ h => h) (Sd.of (Mv.refl S19.at') [] rfl) rfl rfl rfl rfl (fun _ hz => (r_move rfl (F20.ev 5 rfl))) fun _ F21 => ?_
       obtain ⟨B22, O22, y22, ad22, hy22, oky22, ln22, cl22⟩ := Rd.atK (Nat.succ_pos _) (Rd.mv (Nat.succ_pos _) V_v_a (S11.trans S19)) k (by first | assumption | omega)
       clear ln22
       obtain rfl := Option.some.inj (hx1.symm.trans hy22)
       clear hy22 oky22
       refine g_take F21 rfl (i := 2) (listed' := #[true, true, true, false, false, false, false, false, false, false]) rfl (by kernel_rfl) (by kernel_rfl) (by kernel_rfl) (fun _ _ _ h => h) (Sd.of (Mv.refl S19.at') [] rfl) rfl rfl rfl rfl (fun _ hz => (r_indexAddr (i := k) ET_66 rfl ((F21.ev 17 rfl).trans (by rw [ad22])) (F21.ev 18 rfl) (by omega) (by first | assumption | omega))) fun _ F23 => ?_
       refine g_take (v := .agg #[.int .i64 x1.kind, .string x1.name, .string x1.to_, .int .i64 x1.a, .int .i64 x1.b, .string x1.text]) F23 rfl (i := 3) (listed' := #[true, true, true, true, false, false, false, false, false, false]) rfl (by kernel_rfl) (by kernel_rfl) (by kernel_rfl) (fun _ _ _ h => h) (Sd.of (Mv.refl S19.at') [] rfl) rfl rfl rfl rfl (fun _ hz => (r_load (cs := [.int .i64 x1.kind, .string x1.name, .string x1.to_, .int .i64 x1.a, .int .i64 x1.b, .string x1.text]) TI_148 rfl (F23.ev 19 rfl) rfl (fun h => nomatch h) (elem_sub (f := 0) (cl22 _ hz.kp) [.int .i64 x1.kind, .string x1.name, .string x1.to_, .int .i64 x1.a, .int .i64 x1.b, .string x1.text] rfl))) fun _ F24 => ?_
       refine g_take F24 rfl (i := 4) (listed' := #[true, true, true, true, true, false, false, false, false, false]) rfl (by kernel_rfl) (by kernel_rfl) (by kernel_rfl) (fun _ _ _ h => h) (Sd.of (Mv.refl S19.at') [] rfl) rfl rfl rfl rfl (fun _ hz => (r_move rfl (F24.ev 1 rfl))) fun _ F25 => ?_
       refine g_take F25 rfl (i := 5) (listed' := #[true, true, true, true, true, true, false, false, false, false]) rfl (by kernel_rfl) (by kernel_rfl) (by kernel_rfl) (fun _ _ _ h => h) (Sd.of (Mv.refl S19.at') [] rfl) rfl rfl rfl rfl (fun _ hz => (r_move rfl (F25.ev 5 rfl))) fun _ F26 => ?_
       obtain ⟨B27, O27, y27, ad27, hy27, oky27, ln27, cl27⟩ := Rd.atK (Nat.succ_pos _) (Rd.mv (Nat.succ_pos _) V_v_b (S11.trans S19)) k (by first | assumption | omega)
       clear ln27
       obtain rfl := Option.some.inj (hx2.symm.trans hy27)
       clear hy27 oky27
       refine g_take F26 rfl (i := 6) (listed' := #[true, true, true, true, true, true, true, false, false, false]) rfl (by kernel_rfl) (by kernel_rfl) (by kernel_rfl) (fun _ _ _ h => h) (Sd.of (Mv.refl S19.at') [] rfl) rfl rfl rfl rfl (fun _ hz => (r_indexAddr (i := k) ET_66 rfl ((F26.ev 21 rfl).trans (by rw [ad27])) (F26.ev 22 rfl) (by omega) (by first | assumption | omega))) fun _ F28 => ?_
       refine g_take (v := .agg #[.int .i64 x2.kind, .string x2.name, .string x2.to_, .int .i64 x2.a, .int .i64 x2.b, .string x2.text]) F28 rfl (i := 7) (listed' := #[true, true, true, true, true, true, true, true, false, false]) rfl (by kernel_rfl) (by kernel_rfl) (by kernel_rfl) (fun _ _ _ h => h) (Sd.of (Mv.refl S19.at') [] rfl) rfl rfl rfl rfl (fun _ hz => (r_load (cs := [.int .i64 x2.kind, .string x2.name, .string x2.to_, .int .i64 x2.a, .int .i64 x2.b, .string x2.text]) TI_148 rfl (F28.ev 23 rfl) rfl (fun h => nomatch h) (elem_sub (f := 0) (cl27 _ hz.kp) [.int .i64 x2.kind, .string x2.name, .string x2.to_, .int .i64 x2.a, .int .i64 x2.b, .string x2.text] rfl))) fun _ F29 => ?_
       refine d_one (i := 8) (listed' := #[true, true, true, true, true, true, true, true, true, false]) rfl (by kernel_rfl) rfl rfl ?_
       refine f_call F29 CF_138 rfl rfl rfl rfl (lc (F29.ev 20 rfl) (lc (F29.ev 24 rfl) rfl)) (laws_eqCall_c (H := fun _ => True) (a := x1) (b := x2) okx1.1 okx1.2.1 okx1.2.2.1 okx1.2.2.2.1 okx1.2.2.2.2.1 okx1.2.2.2.2.2 okx2.1 okx2.2.1 okx2.2.2.1 okx2.2.2.2.1 okx2.2.2.2.2.1 okx2.2.2.2.2.2 (by exact el_eq p0 hx1 hx2)) ?_
       rintro _ w30 ⟨rfl, m30⟩
       refine ⟨_, rfl, fun _ F31 => ?_⟩
       have S30 := At.frame0 S19.at' m30
       clear m30
       refine ⟨Sd.of S30 [] rfl, ?_⟩
       refine g_take F31 rfl (i := 9) (listed' := #[true, true, true, true, true, true, true, true, true, true]) rfl (by kernel_rfl) (by kernel_rfl) (by kernel_rfl) (fun _ _ _ h => h) (Sd.of S30 [] rfl) rfl rfl rfl rfl (fun _ hz => (r_not rfl (F31.ev 25 rfl))) fun _ F32 => ?_
       refine wpAnyH_done (by kernel_rfl) (x_normal ?_) _
       exact ⟨F32.cut rfl, ((S19.trans S30).pick [] rfl)⟩
     · rintro a33 w33 ⟨F33, S33⟩
       refine x_normal (wp_cond_false (F33.ev 26 rfl) (wp_skip (x_block_normal (x_normal (wp_region_lit (l_op (f_mv F33 rfl rfl rfl rfl rfl fun _ F34 => ?_)))))))
       refine l_op (f_val F34 rfl rfl (r_add (z := ((k + 1 : Nat) : Int)) rfl (F34.ev 15 rfl) rfl (by first | rfl | omega) ⟨by first | omega | (unfold i64ok at *; omega), by first | omega | (unfold i64ok at *; omega)⟩) rfl fun _ F35 => ?_)
       refine l_op (f_as F35 rfl rfl rfl rfl rfl fun _ F36 => ?_)
       have F37 : Fr 27 [(5, .int .i64 ((k + 1 : Nat) : Int)), (0, .slice a_a a_n a_c), (1, .slice b_a b_n b_c)] _ := F36.cut rfl
       clear F33 F34 F35 F36
       refine s_end ?_
       refine x_normal ⟨k + 1, by omega, F37.cut rfl, ((S11.trans S33).pick [] rfl), by omega⟩
   · skip
     refine wp_exit (x_then_exit (x_then_exit (x_block_here (x_normal (wp_seq (wp_region_lit (l_op (f_val F16 rfl rfl (r_assign rfl rfl) rfl fun _ F38 => ?_))))))))
     have F39 : Fr 27 [(4, .bool true)] _ := F38.cut rfl
     clear F16 F38
     refine s_end (x_normal (wp_ret ?_))
     refine x_done (v := .bool true) F39 (results_1 Try.results96 (.tmp (F39.ev 4 rfl))) ?_
     exact ⟨rfl, (Mv.pick S11 [] rfl)⟩
theorem laws_eqAnswerS_c {w : World} {H : Nat → Prop} {a : List AnsD} {a_a : Option Addr} {a_n a_c : Nat} {b : List AnsD} {b_a : Option Addr} {b_n b_c : Nat} (v_a : Rd 3 encR okR H w (.slice a_a a_n a_c) a) (v_b : Rd 3 encR okR H w (.slice b_a b_n b_c) b) (p0 : a = b) :
    Calls Try.prog 97 #[.slice a_a a_n a_c, .slice b_a b_n b_c] w fun e w' => e = .returned (.bool true) ∧ Mv [] w [] w' := by
 have V_v_a : Rd 3 encR okR (V H w []) w (.slice a_a a_n a_c) a := Rd.start v_a (fun _ _ => fps_nil _)
 obtain ⟨ln_a, le_a, mx_a, ni_a⟩ := Rd.inv v_a
 have V_v_b : Rd 3 encR okR (V H w []) w (.slice b_a b_n b_c) b := Rd.start v_b (fun _ _ => fps_nil _)
 obtain ⟨ln_b, le_b, mx_b, ni_b⟩ := Rd.inv v_b
 refine calls_enter 27 Try.func97 rfl Try.ntmps97 (Nat.le_of_ble_eq_true rfl) (fun _ F0i => ?_)
 have F0 : Fr 27 [(0, .slice a_a a_n a_c), (1, .slice b_a b_n b_c)] _ := F0i
 clear F0i
 refine wp_seq ?_
 have hab : a_n = b_n := by rw [ln_a, ln_b, p0]
 refine wp_region_lit (l_op (f_val F0 rfl rfl (r_assign rfl rfl) rfl fun _ F1 => ?_))
 have F2 : Fr 27 [(4, .bool false), (0, .slice a_a a_n a_c), (1, .slice b_a b_n b_c)] _ := F1.cut rfl
 clear F0 F1
 refine s_end (x_normal (wp_seq (wp_seq (wp_region_lit (l_op (f_mv F2 rfl rfl rfl rfl rfl fun _ F3 => ?_))))))
 refine l_op (f_val F3 rfl rfl (r_len Try.underlying67 rfl (F3.ev 6 rfl)) rfl fun _ F4 => ?_)
 refine l_op (f_mv F4 rfl rfl rfl rfl rfl fun _ F5 => ?_)
 refine l_op (f_val F5 rfl rfl (r_len Try.underlying67 rfl (F5.ev 8 rfl)) rfl fun _ F6 => ?_)
 refine l_op (f_val F6 rfl rfl (r_cmp (b := decide (a_n ≠ b_n)) (.inr (.inl rfl)) rfl (F6.ev 7 rfl) (F6.ev 9 rfl) (dec_of (by omega))) rfl fun _ F7 => ?_)
 rw [show (decide (a_n ≠ b_n)) = false from decide_eq_false (fun h => h hab)] at F7
 have F8 : Fr 27 [(10, .bool false), (0, .slice a_a a_n a_c), (1, .slice b_a b_n b_c)] _ := F7.cut rfl
 clear F2 F3 F4 F5 F6 F7
 refine s_end (x_normal (wp_cond_false (F8.ev 10 rfl) (wp_skip (x_normal (wp_seq (wp_seq (wp_region_lit (l_op (f_val F8 rfl rfl (r_assign rfl rfl) rfl fun _ F9 => ?_)))))))))
 have F10 : Fr 27 [(5, .int .i64 0), (0, .slice a_a a_n a_c), (1, .slice b_a b_n b_c)] _ := F9.cut rfl
 clear F8 F9
 refine s_end (x_normal (wp_block ?_))
 refine x_loop (fun (k : Nat) aZ wZ => Fr 27 [(5, .int .i64 ((k : Nat) : Int)), (0, .slice a_a a_n a_c), (1, .slice b_a b_n b_c)] aZ ∧ Mv [] w [] wZ ∧ (k ≤ a_n)) (fun (k : Nat) => a_n - k) (0) ?_ ?_
 · exact ⟨F10.cut rfl, (Mv.refl (At.nil w)), by omega⟩
 · rintro k a11 w11 ⟨F11, S11, hk_0⟩
   refine wp_seq (wp_seq (wp_region_lit (l_op (f_mv F11 rfl rfl rfl rfl rfl fun _ F12 => ?_))))
   refine l_op (f_mv F12 rfl rfl rfl rfl rfl fun _ F13 => ?_)
   refine l_op (f_val F13 rfl rfl (r_len Try.underlying67 rfl (F13.ev 12 rfl)) rfl fun _ F14 => ?_)
   refine l_op (f_val F14 rfl rfl (r_cmp (b := decide (k < a_n)) (.inr (.inr (.inl rfl))) rfl (F14.ev 11 rfl) (F14.ev 13 rfl) (dec_of (by omega))) rfl fun _ F15 => ?_)
   have F16 : Fr 27 [(14, .bool (decide (k < a_n))), (5, .int .i64 ((k : Nat) : Int)), (0, .slice a_a a_n a_c), (1, .slice b_a b_n b_c)] _ := F15.cut rfl
   clear F11 F12 F13 F14 F15
   refine s_end (x_normal (x_cond (p := k < a_n) (F16.ev 14 rfl) (fun h17 => ?_) (fun h17 => ?_)))
   · skip
     refine wp_skip (x_normal (wp_seq (wp_block (wp_seq ?_))))
     obtain ⟨x1, hx1, okx1⟩ := Rd.elem (Rd.mv (Nat.succ_pos _) V_v_a S11) k (by first | assumption | omega)
     obtain ⟨x2, hx2, okx2⟩ := Rd.elem (Rd.mv (Nat.succ_pos _) V_v_b S11) k (by first | assumption | omega)
     refine x_draw (fun aZ wZ => Fr 27 [(0, .slice a_a a_n a_c), (1, .slice b_a b_n b_c), (5, .int .i64 ((k : Nat) : Int)), (26, .bool false)] aZ ∧ Mv [] w11 [] wZ) [] mixed S11.at' (listed := #[false, false, false, false, false, false, false, false, false, false]) rfl (fun w19 S19 => ?_) [] rfl ?_
     · skip
       refine g_take F16 rfl (i := 0) (listed' := #[true, false, false, false, false, false, false, false, false, false]) rfl (by kernel_rfl) (by kernel_rfl) (by kernel_rfl) (fun _ _ _ h => h) (Sd.of (Mv.refl S19.at') [] rfl) rfl rfl rfl rfl (fun _ hz => (r_move rfl (F16.ev 0 rfl))) fun _ F20 => ?_
       refine g_take F20 rfl (i := 1) (listed' := #[true, true, false, false, false, false, false, false, false, false]) rfl (by kernel_rfl) (by kernel_rfl) (by kernel_rfl) (fun _ _ _ h => h) (Sd.of (Mv.refl S19.at') [] rfl) rfl rfl rfl rfl (fun _ hz => (r_move rfl (F20.ev 5 rfl))) fun _ F21 => ?_
       obtain ⟨B22, O22, y22, ad22, hy22, oky22, ln22, cl22⟩ := Rd.atK (Nat.succ_pos _) (Rd.mv (Nat.succ_pos _) V_v_a (S11.trans S19)) k (by first | assumption | omega)
       clear ln22
       obtain rfl := Option.some.inj (hx1.symm.trans hy22)
       clear hy22 oky22
       refine g_take F21 rfl (i := 2) (listed' := #[true, true, true, false, false, false, false, false, false, false]) rfl (by kernel_rfl) (by kernel_rfl) (by kernel_rfl) (fun _ _ _ h => h) (Sd.of (Mv.refl S19.at') [] rfl) rfl rfl rfl rfl (fun _ hz => (r_indexAddr (i := k) ET_67 rfl ((F21.ev 17 rfl).trans (by rw [ad22])) (F21.ev 18 rfl) (by omega) (by first | assumption | omega))) fun _ F23 => ?_
       refine g_take (v := .agg #[.int .i64 x1.code, .int .i64 x1.n, .string x1.text]) F23 rfl (i := 3) (listed' := #[true, true, true, true, false, false, false, false, false, false]) rfl (by kernel_rfl) (by kernel_rfl) (by kernel_rfl) (fun _ _ _ h => h) (Sd.of (Mv.refl S19.at') [] rfl) rfl rfl rfl rfl (fun _ hz => (r_load (cs := [.int .i64 x1.code, .int .i64 x1.n, .string x1.text]) TI_151 rfl (F23.ev 19 rfl) rfl (fun h => nomatch h) (elem_sub (f := 0) (cl22 _ hz.kp) [.int .i64 x1.code, .int .i64 x1.n, .string x1.text] rfl))) fun _ F24 => ?_
       refine g_take F24 rfl (i := 4) (listed' := #[true, true, true, true, true, false, false, false, false, false]) rfl (by kernel_rfl) (by kernel_rfl) (by kernel_rfl) (fun _ _ _ h => h) (Sd.of (Mv.refl S19.at') [] rfl) rfl rfl rfl rfl (fun _ hz => (r_move rfl (F24.ev 1 rfl))) fun _ F25 => ?_
       refine g_take F25 rfl (i := 5) (listed' := #[true, true, true, true, true, true, false, false, false, false]) rfl (by kernel_rfl) (by kernel_rfl) (by kernel_rfl) (fun _ _ _ h => h) (Sd.of (Mv.refl S19.at') [] rfl) rfl rfl rfl rfl (fun _ hz => (r_move rfl (F25.ev 5 rfl))) fun _ F26 => ?_
       obtain ⟨B27, O27, y27, ad27, hy27, oky27, ln27, cl27⟩ := Rd.atK (Nat.succ_pos _) (Rd.mv (Nat.succ_pos _) V_v_b (S11.trans S19)) k (by first | assumption | omega)
       clear ln27
       obtain rfl := Option.some.inj (hx2.symm.trans hy27)
       clear hy27 oky27
       refine g_take F26 rfl (i := 6) (listed' := #[true, true, true, true, true, true, true, false, false, false]) rfl (by kernel_rfl) (by kernel_rfl) (by kernel_rfl) (fun _ _ _ h => h) (Sd.of (Mv.refl S19.at') [] rfl) rfl rfl rfl rfl (fun _ hz => (r_indexAddr (i := k) ET_67 rfl ((F26.ev 21 rfl).trans (by rw [ad27])) (F26.ev 22 rfl) (by omega) (by first | assumption | omega))) fun _ F28 => ?_
       refine g_take (v := .agg #[.int .i64 x2.code, .int .i64 x2.n, .string x2.text]) F28 rfl (i := 7) (listed' := #[true, true, true, true, true, true, true, true, false, false]) rfl (by kernel_rfl) (by kernel_rfl) (by kernel_rfl) (fun _ _ _ h => h) (Sd.of (Mv.refl S19.at') [] rfl) rfl rfl rfl rfl (fun _ hz => (r_load (cs := [.int .i64 x2.code, .int .i64 x2.n, .string x2.text]) TI_151 rfl (F28.ev 23 rfl) rfl (fun h => nomatch h) (elem_sub (f := 0) (cl27 _ hz.kp) [.int .i64 x2.code, .int .i64 x2.n, .string x2.text] rfl))) fun _ F29 => ?_
       refine d_one (i := 8) (listed' := #[true, true, true, true, true, true, true, true, true, false]) rfl (by kernel_rfl) rfl rfl ?_
       refine f_call F29 CF_139 rfl rfl rfl rfl (lc (F29.ev 20 rfl) (lc (F29.ev 24 rfl) rfl)) (laws_eqAnswer_c (H := fun _ => True) (a := x1) (b := x2) okx1.1 okx1.2.1 okx1.2.2 okx2.1 okx2.2.1 okx2.2.2 (by exact el_eq p0 hx1 hx2)) ?_
       rintro _ w30 ⟨rfl, m30⟩
       refine ⟨_, rfl, fun _ F31 => ?_⟩
       have S30 := At.frame0 S19.at' m30
       clear m30
       refine ⟨Sd.of S30 [] rfl, ?_⟩
       refine g_take F31 rfl (i := 9) (listed' := #[true, true, true, true, true, true, true, true, true, true]) rfl (by kernel_rfl) (by kernel_rfl) (by kernel_rfl) (fun _ _ _ h => h) (Sd.of S30 [] rfl) rfl rfl rfl rfl (fun _ hz => (r_not rfl (F31.ev 25 rfl))) fun _ F32 => ?_
       refine wpAnyH_done (by kernel_rfl) (x_normal ?_) _
       exact ⟨F32.cut rfl, ((S19.trans S30).pick [] rfl)⟩
     · rintro a33 w33 ⟨F33, S33⟩
       refine x_normal (wp_cond_false (F33.ev 26 rfl) (wp_skip (x_block_normal (x_normal (wp_region_lit (l_op (f_mv F33 rfl rfl rfl rfl rfl fun _ F34 => ?_)))))))
       refine l_op (f_val F34 rfl rfl (r_add (z := ((k + 1 : Nat) : Int)) rfl (F34.ev 15 rfl) rfl (by first | rfl | omega) ⟨by first | omega | (unfold i64ok at *; omega), by first | omega | (unfold i64ok at *; omega)⟩) rfl fun _ F35 => ?_)
       refine l_op (f_as F35 rfl rfl rfl rfl rfl fun _ F36 => ?_)
       have F37 : Fr 27 [(5, .int .i64 ((k + 1 : Nat) : Int)), (0, .slice a_a a_n a_c), (1, .slice b_a b_n b_c)] _ := F36.cut rfl
       clear F33 F34 F35 F36
       refine s_end ?_
       refine x_normal ⟨k + 1, by omega, F37.cut rfl, ((S11.trans S33).pick [] rfl), by omega⟩
   · skip
     refine wp_exit (x_then_exit (x_then_exit (x_block_here (x_normal (wp_seq (wp_region_lit (l_op (f_val F16 rfl rfl (r_assign rfl rfl) rfl fun _ F38 => ?_))))))))
     have F39 : Fr 27 [(4, .bool true)] _ := F38.cut rfl
     clear F16 F38
     refine s_end (x_normal (wp_ret ?_))
     refine x_done (v := .bool true) F39 (results_1 Try.results97 (.tmp (F39.ev 4 rfl))) ?_
     exact ⟨rfl, (Mv.pick S11 [] rfl)⟩
theorem laws_eqIntS_c {w : World} {H : Nat → Prop} {a : List Int} {a_a : Option Addr} {a_n a_c : Nat} {b : List Int} {b_a : Option Addr} {b_n b_c : Nat} (v_a : Rd 1 encI okI H w (.slice a_a a_n a_c) a) (v_b : Rd 1 encI okI H w (.slice b_a b_n b_c) b) (p0 : a = b) :
    Calls Try.prog 36 #[.slice a_a a_n a_c, .slice b_a b_n b_c] w fun e w' => e = .returned (.bool true) ∧ Mv [] w [] w' := by
 have V_v_a : Rd 1 encI okI (V H w []) w (.slice a_a a_n a_c) a := Rd.start v_a (fun _ _ => fps_nil _)
 obtain ⟨ln_a, le_a, mx_a, ni_a⟩ := Rd.inv v_a
 have V_v_b : Rd 1 encI okI (V H w []) w (.slice b_a b_n b_c) b := Rd.start v_b (fun _ _ => fps_nil _)
 obtain ⟨ln_b, le_b, mx_b, ni_b⟩ := Rd.inv v_b
 refine calls_enter 26 Try.func36 rfl Try.ntmps36 (Nat.le_of_ble_eq_true rfl) (fun _ F0i => ?_)
 have F0 : Fr 26 [(0, .slice a_a a_n a_c), (1, .slice b_a b_n b_c)] _ := F0i
 clear F0i
 refine wp_seq ?_
 have hab : a_n = b_n := by rw [ln_a, ln_b, p0]
 refine wp_region_lit (l_op (f_val F0 rfl rfl (r_assign rfl rfl) rfl fun _ F1 => ?_))
 have F2 : Fr 26 [(4, .bool false), (0, .slice a_a a_n a_c), (1, .slice b_a b_n b_c)] _ := F1.cut rfl
 clear F0 F1
 refine s_end (x_normal (wp_seq (wp_seq (wp_region_lit (l_op (f_mv F2 rfl rfl rfl rfl rfl fun _ F3 => ?_))))))
 refine l_op (f_val F3 rfl rfl (r_len Try.underlying53 rfl (F3.ev 6 rfl)) rfl fun _ F4 => ?_)
 refine l_op (f_mv F4 rfl rfl rfl rfl rfl fun _ F5 => ?_)
 refine l_op (f_val F5 rfl rfl (r_len Try.underlying53 rfl (F5.ev 8 rfl)) rfl fun _ F6 => ?_)
 refine l_op (f_val F6 rfl rfl (r_cmp (b := decide (a_n ≠ b_n)) (.inr (.inl rfl)) rfl (F6.ev 7 rfl) (F6.ev 9 rfl) (dec_of (by omega))) rfl fun _ F7 => ?_)
 rw [show (decide (a_n ≠ b_n)) = false from decide_eq_false (fun h => h hab)] at F7
 have F8 : Fr 26 [(10, .bool false), (0, .slice a_a a_n a_c), (1, .slice b_a b_n b_c)] _ := F7.cut rfl
 clear F2 F3 F4 F5 F6 F7
 refine s_end (x_normal (wp_cond_false (F8.ev 10 rfl) (wp_skip (x_normal (wp_seq (wp_seq (wp_region_lit (l_op (f_val F8 rfl rfl (r_assign rfl rfl) rfl fun _ F9 => ?_)))))))))
 have F10 : Fr 26 [(5, .int .i64 0), (0, .slice a_a a_n a_c), (1, .slice b_a b_n b_c)] _ := F9.cut rfl
 clear F8 F9
 refine s_end (x_normal (wp_block ?_))
 refine x_loop (fun (k : Nat) aZ wZ => Fr 26 [(5, .int .i64 ((k : Nat) : Int)), (0, .slice a_a a_n a_c), (1, .slice b_a b_n b_c)] aZ ∧ Mv [] w [] wZ ∧ (k ≤ a_n)) (fun (k : Nat) => a_n - k) (0) ?_ ?_
 · exact ⟨F10.cut rfl, (Mv.refl (At.nil w)), by omega⟩
 · rintro k a11 w11 ⟨F11, S11, hk_0⟩
   refine wp_seq (wp_seq (wp_region_lit (l_op (f_mv F11 rfl rfl rfl rfl rfl fun _ F12 => ?_))))
   refine l_op (f_mv F12 rfl rfl rfl rfl rfl fun _ F13 => ?_)
   refine l_op (f_val F13 rfl rfl (r_len Try.underlying53 rfl (F13.ev 12 rfl)) rfl fun _ F14 => ?_)
   refine l_op (f_val F14 rfl rfl (r_cmp (b := decide (k < a_n)) (.inr (.inr (.inl rfl))) rfl (F14.ev 11 rfl) (F14.ev 13 rfl) (dec_of (by omega))) rfl fun _ F15 => ?_)
   have F16 : Fr 26 [(14, .bool (decide (k < a_n))), (5, .int .i64 ((k : Nat) : Int)), (0, .slice a_a a_n a_c), (1, .slice b_a b_n b_c)] _ := F15.cut rfl
   clear F11 F12 F13 F14 F15
   refine s_end (x_normal (x_cond (p := k < a_n) (F16.ev 14 rfl) (fun h17 => ?_) (fun h17 => ?_)))
   · skip
     refine wp_skip (x_normal (wp_seq (wp_block (wp_seq ?_))))
     obtain ⟨x1, hx1, okx1⟩ := Rd.elem (Rd.mv (Nat.succ_pos _) V_v_a S11) k (by first | assumption | omega)
     obtain ⟨x2, hx2, okx2⟩ := Rd.elem (Rd.mv (Nat.succ_pos _) V_v_b S11) k (by first | assumption | omega)
     refine x_draw (fun aZ wZ => Fr 26 [(0, .slice a_a a_n a_c), (1, .slice b_a b_n b_c), (5, .int .i64 ((k : Nat) : Int)), (25, .bool false)] aZ ∧ Mv [] w11 [] wZ) [] mixed S11.at' (listed := #[false, false, false, false, false, false, false, false, false]) rfl (fun w19 S19 => ?_) [] rfl ?_
     · skip
       refine g_take F16 rfl (i := 0) (listed' := #[true, false, false, false, false, false, false, false, false]) rfl (by kernel_rfl) (by kernel_rfl) (by kernel_rfl) (fun _ _ _ h => h) (Sd.of (Mv.refl S19.at') [] rfl) rfl rfl rfl rfl (fun _ hz => (r_move rfl (F16.ev 0 rfl))) fun _ F20 => ?_
       refine g_take F20 rfl (i := 1) (listed' := #[true, true, false, false, false, false, false, false, false]) rfl (by kernel_rfl) (by kernel_rfl) (by kernel_rfl) (fun _ _ _ h => h) (Sd.of (Mv.refl S19.at') [] rfl) rfl rfl rfl rfl (fun _ hz => (r_move rfl (F20.ev 5 rfl))) fun _ F21 => ?_
       obtain ⟨B22, O22, y22, ad22, hy22, oky22, ln22, cl22⟩ := Rd.atK (Nat.succ_pos _) (Rd.mv (Nat.succ_pos _) V_v_a (S11.trans S19)) k (by first | assumption | omega)
       clear ln22
       obtain rfl := Option.some.inj (hx1.symm.trans hy22)
       clear hy22 oky22
       refine g_take F21 rfl (i := 2) (listed' := #[true, true, true, false, false, false, false, false, false]) rfl (by kernel_rfl) (by kernel_rfl) (by kernel_rfl) (fun _ _ _ h => h) (Sd.of (Mv.refl S19.at') [] rfl) rfl rfl rfl rfl (fun _ hz => (r_indexAddr (i := k) ET_53 rfl ((F21.ev 17 rfl).trans (by rw [ad22])) (F21.ev 18 rfl) (by omega) (by first | assumption | omega))) fun _ F23 => ?_
       refine g_take (v := .int .i64 x1) F23 rfl (i := 3) (listed' := #[true, true, true, true, false, false, false, false, false]) rfl (by kernel_rfl) (by kernel_rfl) (by kernel_rfl) (fun _ _ _ h => h) (Sd.of (Mv.refl S19.at') [] rfl) rfl rfl rfl rfl (fun _ hz => (r_load (cs := [.int .i64 x1]) TI_3 rfl (F23.ev 19 rfl) rfl (fun _ => rfl) (elem_sub (f := 0) (cl22 _ hz.kp) [.int .i64 x1] rfl))) fun _ F24 => ?_
       refine g_take F24 rfl (i := 4) (listed' := #[true, true, true, true, true, false, false, false, false]) rfl (by kernel_rfl) (by kernel_rfl) (by kernel_rfl) (fun _ _ _ h => h) (Sd.of (Mv.refl S19.at') [] rfl) rfl rfl rfl rfl (fun _ hz => (r_move rfl (F24.ev 1 rfl))) fun _ F25 => ?_
       refine g_take F25 rfl (i := 5) (listed' := #[true, true, true, true, true, true, false, false, false]) rfl (by kernel_rfl) (by kernel_rfl) (by kernel_rfl) (fun _ _ _ h => h) (Sd.of (Mv.refl S19.at') [] rfl) rfl rfl rfl rfl (fun _ hz => (r_move rfl (F25.ev 5 rfl))) fun _ F26 => ?_
       obtain ⟨B27, O27, y27, ad27, hy27, oky27, ln27, cl27⟩ := Rd.atK (Nat.succ_pos _) (Rd.mv (Nat.succ_pos _) V_v_b (S11.trans S19)) k (by first | assumption | omega)
       clear ln27
       obtain rfl := Option.some.inj (hx2.symm.trans hy27)
       clear hy27 oky27
       refine g_take F26 rfl (i := 6) (listed' := #[true, true, true, true, true, true, true, false, false]) rfl (by kernel_rfl) (by kernel_rfl) (by kernel_rfl) (fun _ _ _ h => h) (Sd.of (Mv.refl S19.at') [] rfl) rfl rfl rfl rfl (fun _ hz => (r_indexAddr (i := k) ET_53 rfl ((F26.ev 21 rfl).trans (by rw [ad27])) (F26.ev 22 rfl) (by omega) (by first | assumption | omega))) fun _ F28 => ?_
       refine g_take (v := .int .i64 x2) F28 rfl (i := 7) (listed' := #[true, true, true, true, true, true, true, true, false]) rfl (by kernel_rfl) (by kernel_rfl) (by kernel_rfl) (fun _ _ _ h => h) (Sd.of (Mv.refl S19.at') [] rfl) rfl rfl rfl rfl (fun _ hz => (r_load (cs := [.int .i64 x2]) TI_3 rfl (F28.ev 23 rfl) rfl (fun _ => rfl) (elem_sub (f := 0) (cl27 _ hz.kp) [.int .i64 x2] rfl))) fun _ F29 => ?_
       refine g_take F29 rfl (i := 8) (listed' := #[true, true, true, true, true, true, true, true, true]) rfl (by kernel_rfl) (by kernel_rfl) (by kernel_rfl) (fun _ _ _ h => h) (Sd.of (Mv.refl S19.at') [] rfl) rfl rfl rfl rfl (fun _ hz => (r_cmp (b := decide (x1 ≠ x2)) (.inr (.inl rfl)) rfl (F29.ev 20 rfl) (F29.ev 24 rfl) (dec_of (by omega)))) fun _ F30 => ?_
       rw [show (decide (x1 ≠ x2)) = false from decide_eq_false (fun h => h (el_eq p0 hx1 hx2))] at F30
       refine wpAnyH_done (by kernel_rfl) (x_normal ?_) _
       exact ⟨F30.cut rfl, (S19.pick [] rfl)⟩
     · rintro a31 w31 ⟨F31, S31⟩
       refine x_normal (wp_cond_false (F31.ev 25 rfl) (wp_skip (x_block_normal (x_normal (wp_region_lit (l_op (f_mv F31 rfl rfl rfl rfl rfl fun _ F32 => ?_)))))))
       refine l_op (f_val F32 rfl rfl (r_add (z := ((k + 1 : Nat) : Int)) rfl (F32.ev 15 rfl) rfl (by first | rfl | omega) ⟨by first | omega | (unfold i64ok at *; omega), by first | omega | (unfold i64ok at *; omega)⟩) rfl fun _ F33 => ?_)
       refine l_op (f_as F33 rfl rfl rfl rfl rfl fun _ F34 => ?_)
       have F35 : Fr 26 [(5, .int .i64 ((k + 1 : Nat) : Int)), (0, .slice a_a a_n a_c), (1, .slice b_a b_n b_c)] _ := F34.cut rfl
       clear F31 F32 F33 F34
       refine s_end ?_
       refine x_normal ⟨k + 1, by omega, F35.cut rfl, ((S11.trans S31).pick [] rfl), by omega⟩
   · skip
     refine wp_exit (x_then_exit (x_then_exit (x_block_here (x_normal (wp_seq (wp_region_lit (l_op (f_val F16 rfl rfl (r_assign rfl rfl) rfl fun _ F36 => ?_))))))))
     have F37 : Fr 26 [(4, .bool true)] _ := F36.cut rfl
     clear F16 F36
     refine s_end (x_normal (wp_ret ?_))
     refine x_done (v := .bool true) F37 (results_1 Try.results36 (.tmp (F37.ev 4 rfl))) ?_
     exact ⟨rfl, (Mv.pick S11 [] rfl)⟩
theorem laws_markCallS_c {w : World} {H : Nat → Prop} {a : List CallD} {a_a : Option Addr} {a_n a_c : Nat} {k : Nat} (h_k : i64ok (k : Int)) (p0 : k + 6 * a.length ≤ 4611686018427387904) (hA : At w [ow 148 6 encK okK (.slice a_a a_n a_c) a]) :
    Calls Try.prog 79 #[.slice a_a a_n a_c, .int .i64 ((k : Nat) : Int)] w fun e w' => e = .returned (.int .i64 ((k + 6 * a.length : Nat) : Int)) ∧ Mv [ow 148 6 encK okK (.slice a_a a_n a_c) a] w [ow 148 6 encK okK (.slice a_a a_n a_c) (marksOf markK k a.length)] w' := by
 have uU : True := (fun _ _ _ => trivial) H h_k p0
 clear uU
 obtain ⟨lo0, lp0, lq0⟩ := At.ownInv hA ET_66.hk 0 rfl
 refine calls_enter 58 Try.func79 rfl Try.ntmps79 (Nat.le_of_ble_eq_true rfl) (fun _ F0i => ?_)
 have F0 : Fr 58 [(0, .slice a_a a_n a_c), (1, .int .i64 ((k : Nat) : Int))] _ := F0i
 clear F0i
 refine wp_seq (wp_region_lit (l_op (f_val F0 rfl rfl (r_assign rfl rfl) rfl fun _ F1 => ?_)))
 have F2 : Fr 58 [(4, .int .i64 0), (0, .slice a_a a_n a_c), (1, .int .i64 ((k : Nat) : Int))] _ := F1.cut rfl
 clear F0 F1
 refine s_end (x_normal (wp_seq (wp_seq (wp_region_lit (l_op (f_val F2 rfl rfl (r_assign rfl rfl) rfl fun _ F3 => ?_))))))
 have F4 : Fr 58 [(5, .int .i64 0), (0, .slice a_a a_n a_c), (1, .int .i64 ((k : Nat) : Int))] _ := F3.cut rfl
 clear F2 F3
 refine s_end (x_normal (wp_block ?_))
 refine x_loop (fun (j : Nat) aZ wZ => ∃ (kk : Nat), ∃ (D : List CallD), Fr 58 [(5, .int .i64 ((j : Nat) : Int)), (0, .slice a_a a_n a_c), (1, .int .i64 ((kk : Nat) : Int))] aZ ∧ Mv [ow 148 6 encK okK (.slice a_a a_n a_c) a] w [ow 148 6 encK okK (.slice a_a a_n a_c) D] wZ ∧ (j ≤ a_n) ∧ (kk = k + 6 * j) ∧ (D = upTo markK k j a)) (fun (j : Nat) => a_n - j) (0) ?_ ?_
 · exact ⟨k, a, F4.cut rfl, (Mv.refl hA), by omega, by omega, upTo_start ..⟩
 · rintro j a5 w5 ⟨kk, D, F5, S5, hj_0, hj_1, hj_2⟩
   refine wp_seq (wp_seq (wp_region_lit (l_op (f_mv F5 rfl rfl rfl rfl rfl fun _ F6 => ?_))))
   refine l_op (f_mv F6 rfl rfl rfl rfl rfl fun _ F7 => ?_)
   refine l_op (f_val F7 rfl rfl (r_len Try.underlying66 rfl (F7.ev 7 rfl)) rfl fun _ F8 => ?_)
   refine l_op (f_val F8 rfl rfl (r_cmp (b := decide (j < a_n)) (.inr (.inr (.inl rfl))) rfl (F8.ev 6 rfl) (F8.ev 8 rfl) (dec_of (by omega))) rfl fun _ F9 => ?_)
   have F10 : Fr 58 [(9, .bool (decide (j < a_n))), (5, .int .i64 ((j : Nat) : Int)), (0, .slice a_a a_n a_c), (1, .int .i64 ((kk : Nat) : Int))] _ := F9.cut rfl
   clear F5 F6 F7 F8 F9
   refine s_end (x_normal (x_cond (p := j < a_n) (F10.ev 9 rfl) (fun h11 => ?_) (fun h11 => ?_)))
   · skip
     refine wp_skip (x_normal (wp_seq (wp_block (wp_seq (wp_region_lit (l_op (f_mv F10 rfl rfl rfl rfl rfl fun _ F12 => ?_)))))))
     refine l_op (f_mv F12 rfl rfl rfl rfl rfl fun _ F13 => ?_)
     refine l_op (f_mv F13 rfl rfl rfl rfl rfl fun _ F14 => ?_)
     obtain ⟨B15, x1, ad15, hx1, okx1, cl15⟩ := At.ownAt S5.at' ET_66.hk 0 rfl j (by first | assumption | omega)
     refine l_op (f_val F14 rfl rfl (r_indexAddr (i := j) ET_66 rfl ((F14.ev 12 rfl).trans (by rw [ad15])) (F14.ev 13 rfl) (by omega) (by first | assumption | omega)) rfl fun _ F16 => ?_)
     refine l_op (f_val F16 rfl rfl (r_field FI_148_0 rfl (F16.ev 15 rfl) rfl) rfl fun _ F17 => ?_)
     refine l_op (s_storeElF (off := 0) S5.at' 0 j x1 (⟨((kk : Nat) : Int), x1.name, x1.to_, x1.a, x1.b, x1.text⟩ : CallD) ET_66.hk ET_66.h1 TI_3 rfl ad15 rfl rfl rfl rfl (F17.ev 16 rfl) (F17.ev 14 rfl) rfl (by first | assumption | omega) hx1 rfl (by decide) (⟨(show i64ok ((kk : Nat) : Int) from by first | assumption | exact ⟨by omega, by omega⟩), okx1.2.1, okx1.2.2.1, okx1.2.2.2.1, okx1.2.2.2.2.1, okx1.2.2.2.2.2⟩) fun w18 S18 => ?_)
     obtain ⟨x2, hx2, ex2⟩ : ∃ zZ, nth (D.set j (⟨((kk : Nat) : Int), x1.name, x1.to_, x1.a, x1.b, x1.text⟩ : CallD)) j = some zZ ∧ zZ = (⟨((kk : Nat) : Int), x1.name, x1.to_, x1.a, x1.b, x1.text⟩ : CallD) := ⟨_, nth_setSelf hx1, rfl⟩
     have okx2 : okK x2 := by rw [ex2]; exact ⟨(show i64ok ((kk : Nat) : Int) from by first | assumption | exact ⟨by omega, by omega⟩), okx1.2.1, okx1.2.2.1, okx1.2.2.2.1, okx1.2.2.2.2.1, okx1.2.2.2.2.2⟩
     have F19 : Fr 58 [(16, .pointer (some ⟨B15, 0 + j * 6, none⟩)), (14, .int .i64 ((kk : Nat) : Int)), (5, .int .i64 ((j : Nat) : Int)), (0, .slice a_a a_n a_c), (1, .int .i64 ((kk : Nat) : Int))] _ := F17.cut rfl
     clear F10 F12 F13 F14 F16 F17
     have T20 : Mv _ _ [ow 148 6 encK okK (.slice a_a a_n a_c) (D.set j (⟨((kk : Nat) : Int), x1.name, x1.to_, x1.a, x1.b, x1.text⟩ : CallD))] _ := S18
     refine s_end (x_normal (wp_seq (wp_region_lit (l_op (f_mv F19 rfl rfl rfl rfl rfl fun _ F21 => ?_)))))
     refine l_op (f_val F21 rfl rfl (r_add (z := ((kk + 1 : Nat) : Int)) rfl (F21.ev 17 rfl) rfl (by first | rfl | omega) ⟨by first | omega | (unfold i64ok at *; omega), by first | omega | (unfold i64ok at *; omega)⟩) rfl fun _ F22 => ?_)
     refine l_op (f_as F22 rfl rfl rfl rfl rfl fun _ F23 => ?_)
     have F24 : Fr 58 [(1, .int .i64 ((kk + 1 : Nat) : Int)), (5, .int .i64 ((j : Nat) : Int)), (0, .slice a_a a_n a_c)] _ := F23.cut rfl
     clear F19 F21 F22 F23
     refine s_end (x_normal (wp_seq (wp_region_lit (l_op (f_mv F24 rfl rfl rfl rfl rfl fun _ F25 => ?_)))))
     refine l_op (f_mv F25 rfl rfl rfl rfl rfl fun _ F26 => ?_)
     refine l_op (f_mv F26 rfl rfl rfl rfl rfl fun _ F27 => ?_)
     refine l_op (f_call F27 CF_127 rfl rfl rfl rfl (lc (F27.ev 21 rfl) rfl) (laws_markText_c (H := fun _ => True) (k := kk + 1) ⟨by omega, by first | omega | (unfold i64ok at *; omega)⟩) ?_)
     rintro _ w28 ⟨rfl, m28, ok_r0_28⟩
     refine ⟨_, rfl, fun _ F29 => ?_⟩
     have S28 := At.frame0 T20.at' m28
     clear m28
     obtain ⟨B30, y30, ad30, hy30, oky30, cl30⟩ := At.ownAt S28.at' ET_66.hk 0 rfl j (by first | assumption | omega)
     obtain rfl := Option.some.inj (hx2.symm.trans hy30)
     clear hy30 oky30
     refine l_op (f_val F29 rfl rfl (r_indexAddr (i := j) ET_66 rfl ((F29.ev 19 rfl).trans (by rw [ad30])) (F29.ev 20 rfl) (by omega) (by first | assumption | omega)) rfl fun _ F31 => ?_)
     refine l_op (f_val F31 rfl rfl (r_field FI_148_1 rfl (F31.ev 23 rfl) rfl) rfl fun _ F32 => ?_)
     refine l_op (s_storeElF (off := 1) S28.at' 0 j x2 (⟨x2.kind, (markT (kk + 1)), x2.to_, x2.a, x2.b, x2.text⟩ : CallD) ET_66.hk ET_66.h1 TI_9 rfl ad30 rfl rfl rfl rfl (F32.ev 24 rfl) (F32.ev 22 rfl) rfl (by first | assumption | omega) hx2 rfl (by decide) (⟨okx2.1, ok_r0_28, okx2.2.2.1, okx2.2.2.2.1, okx2.2.2.2.2.1, okx2.2.2.2.2.2⟩) fun w33 S33 => ?_)
     obtain ⟨x3, hx3, ex3⟩ : ∃ zZ, nth ((D.set j (⟨((kk : Nat) : Int), x1.name, x1.to_, x1.a, x1.b, x1.text⟩ : CallD)).set j (⟨x2.kind, (markT (kk + 1)), x2.to_, x2.a, x2.b, x2.text⟩ : CallD)) j = some zZ ∧ zZ = (⟨x2.kind, (markT (kk + 1)), x2.to_, x2.a, x2.b, x2.text⟩ : CallD) := ⟨_, nth_setSelf hx2, rfl⟩
     have okx3 : okK x3 := by rw [ex3]; exact ⟨okx2.1, ok_r0_28, okx2.2.2.1, okx2.2.2.2.1, okx2.2.2.2.2.1, okx2.2.2.2.2.2⟩
     have F34 : Fr 58 [(24, .pointer (some ⟨B30, 0 + j * 6 + 1, none⟩)), (22, .string (markT (kk + 1))), (1, .int .i64 ((kk + 1 : Nat) : Int)), (5, .int .i64 ((j : Nat) : Int)), (0, .slice a_a a_n a_c)] _ := F32.cut rfl
     clear F24 F25 F26 F27 F29 F31 F32
     have T35 : Mv _ _ [ow 148 6 encK okK (.slice a_a a_n a_c) ((D.set j (⟨((kk : Nat) : Int), x1.name, x1.to_, x1.a, x1.b, x1.text⟩ : CallD)).set j (⟨x2.kind, (markT (kk + 1)), x2.to_, x2.a, x2.b, x2.text⟩ : CallD))] _ := S33
     refine s_end (x_normal (wp_seq (wp_region_lit (l_op (f_mv F34 rfl rfl rfl rfl rfl fun _ F36 => ?_)))))
     refine l_op (f_val F36 rfl rfl (r_add (z := (((kk + 1) + 1 : Nat) : Int)) rfl (F36.ev 25 rfl) rfl (by first | rfl | omega) ⟨by first | omega | (unfold i64ok at *; omega), by first | omega | (unfold i64ok at *; omega)⟩) rfl fun _ F37 => ?_)
     refine l_op (f_as F37 rfl rfl rfl rfl rfl fun _ F38 => ?_)
     have F39 : Fr 58 [(1, .int .i64 (((kk + 1) + 1 : Nat) : Int)), (5, .int .i64 ((j : Nat) : Int)), (0, .slice a_a a_n a_c)] _ := F38.cut rfl
     clear F34 F36 F37 F38
     refine s_end (x_normal (wp_seq (wp_region_lit (l_op (f_mv F39 rfl rfl rfl rfl rfl fun _ F40 => ?_)))))
     refine l_op (f_mv F40 rfl rfl rfl rfl rfl fun _ F41 => ?_)
     refine l_op (f_mv F41 rfl rfl rfl rfl rfl fun _ F42 => ?_)
     refine l_op (f_call F42 CF_127 rfl rfl rfl rfl (lc (F42.ev 29 rfl) rfl) (laws_markText_c (H := fun _ => True) (k := (kk + 1) + 1) ⟨by omega, by first | omega | (unfold i64ok at *; omega)⟩) ?_)
     rintro _ w43 ⟨rfl, m43, ok_r0_43⟩
     refine ⟨_, rfl, fun _ F44 => ?_⟩
     have S43 := At.frame0 T35.at' m43
     clear m43
     obtain ⟨B45, y45, ad45, hy45, oky45, cl45⟩ := At.ownAt S43.at' ET_66.hk 0 rfl j (by first | assumption | omega)
     obtain rfl := Option.some.inj (hx3.symm.trans hy45)
     clear hy45 oky45
     refine l_op (f_val F44 rfl rfl (r_indexAddr (i := j) ET_66 rfl ((F44.ev 27 rfl).trans (by rw [ad45])) (F44.ev 28 rfl) (by omega) (by first | assumption | omega)) rfl fun _ F46 => ?_)
     refine l_op (f_val F46 rfl rfl (r_field FI_148_2 rfl (F46.ev 31 rfl) rfl) rfl fun _ F47 => ?_)
     refine l_op (s_storeElF (off := 2) S43.at' 0 j x3 (⟨x3.kind, x3.name, (markT ((kk + 1) + 1)), x3.a, x3.b, x3.text⟩ : CallD) ET_66.hk ET_66.h1 TI_9 rfl ad45 rfl rfl rfl rfl (F47.ev 32 rfl) (F47.ev 30 rfl) rfl (by first | assumption | omega) hx3 rfl (by decide) (⟨okx3.1, okx3.2.1, ok_r0_43, okx3.2.2.2.1, okx3.2.2.2.2.1, okx3.2.2.2.2.2⟩) fun w48 S48 => ?_)
     obtain ⟨x4, hx4, ex4⟩ : ∃ zZ, nth (((D.set j (⟨((kk : Nat) : Int), x1.name, x1.to_, x1.a, x1.b, x1.text⟩ : CallD)).set j (⟨x2.kind, (markT (kk + 1)), x2.to_, x2.a, x2.b, x2.text⟩ : CallD)).set j (⟨x3.kind, x3.name, (markT ((kk + 1) + 1)), x3.a, x3.b, x3.text⟩ : CallD)) j = some zZ ∧ zZ = (⟨x3.kind, x3.name, (markT ((kk + 1) + 1)), x3.a, x3.b, x3.text⟩ : CallD) := ⟨_, nth_setSelf hx3, rfl⟩
     have okx4 : okK x4 := by rw [ex4]; exact ⟨okx3.1, okx3.2.1, ok_r0_43, okx3.2.2.2.1, okx3.2.2.2.2.1, okx3.2.2.2.2.2⟩
     have F49 : Fr 58 [(32, .pointer (some ⟨B45, 0 + j * 6 + 2, none⟩)), (30, .string (markT ((kk + 1) + 1))), (1, .int .i64 (((kk + 1) + 1 : Nat) : Int)), (5, .int .i64 ((j : Nat) : Int)), (0, .slice a_a a_n a_c)] _ := F47.cut rfl
     clear F39 F40 F41 F42 F44 F46 F47
     have T50 : Mv _ _ [ow 148 6 encK okK (.slice a_a a_n a_c) (((D.set j (⟨((kk : Nat) : Int), x1.name, x1.to_, x1.a, x1.b, x1.text⟩ : CallD)).set j (⟨x2.kind, (markT (kk + 1)), x2.to_, x2.a, x2.b, x2.text⟩ : CallD)).set j (⟨x3.kind, x3.name, (markT ((kk + 1) + 1)), x3.a, x3.b, x3.text⟩ : CallD))] _ := S48
     refine s_end (x_normal (wp_seq (wp_region_lit (l_op (f_mv F49 rfl rfl rfl rfl rfl fun _ F51 => ?_)))))
     refine l_op (f_val F51 rfl rfl (r_add (z := ((((kk + 1) + 1) + 1 : Nat) : Int)) rfl (F51.ev 33 rfl) rfl (by first | rfl | omega) ⟨by first | omega | (unfold i64ok at *; omega), by first | omega | (unfold i64ok at *; omega)⟩) rfl fun _ F52 => ?_)
     refine l_op (f_as F52 rfl rfl rfl rfl rfl fun _ F53 => ?_)
     have F54 : Fr 58 [(1, .int .i64 ((((kk + 1) + 1) + 1 : Nat) : Int)), (5, .int .i64 ((j : Nat) : Int)), (0, .slice a_a a_n a_c)] _ := F53.cut rfl
     clear F49 F51 F52 F53
     refine s_end (x_normal (wp_seq (wp_region_lit (l_op (f_mv F54 rfl rfl rfl rfl rfl fun _ F55 => ?_)))))
     refine l_op (f_mv F55 rfl rfl rfl rfl rfl fun _ F56 => ?_)
     refine l_op (f_mv F56 rfl rfl rfl rfl rfl fun _ F57 => ?_)
     obtain ⟨B58, y58, ad58, hy58, oky58, cl58⟩ := At.ownAt T50.at' ET_66.hk 0 rfl j (by first | assumption | omega)
     obtain rfl := Option.some.inj (hx4.symm.trans hy58)
     clear hy58 oky58
     refine l_op (f_val F57 rfl rfl (r_indexAddr (i := j) ET_66 rfl ((F57.ev 35 rfl).trans (by rw [ad58])) (F57.ev 36 rfl) (by omega) (by first | assumption | omega)) rfl fun _ F59 => ?_)
     refine l_op (f_val F59 rfl rfl (r_field FI_148_3 rfl (F59.ev 38 rfl) rfl) rfl fun _ F60 => ?_)
     refine l_op (s_storeElF (off := 3) T50.at' 0 j x4 (⟨x4.kind, x4.name, x4.to_, ((((kk + 1) + 1) + 1 : Nat) : Int), x4.b, x4.text⟩ : CallD) ET_66.hk ET_66.h1 TI_3 rfl ad58 rfl rfl rfl rfl (F60.ev 39 rfl) (F60.ev 37 rfl) rfl (by first | assumption | omega) hx4 rfl (by decide) (⟨okx4.1, okx4.2.1, okx4.2.2.1, (show i64ok ((((kk + 1) + 1) + 1 : Nat) : Int) from by first | assumption | exact ⟨by omega, by omega⟩), okx4.2.2.2.2.1, okx4.2.2.2.2.2⟩) fun w61 S61 => ?_)
     obtain ⟨x5, hx5, ex5⟩ : ∃ zZ, nth ((((D.set j (⟨((kk : Nat) : Int), x1.name, x1.to_, x1.a, x1.b, x1.text⟩ : CallD)).set j (⟨x2.kind, (markT (kk + 1)), x2.to_, x2.a, x2.b, x2.text⟩ : CallD)).set j (⟨x3.kind, x3.name, (markT ((kk + 1) + 1)), x3.a, x3.b, x3.text⟩ : CallD)).set j (⟨x4.kind, x4.name, x4.to_, ((((kk + 1) + 1) + 1 : Nat) : Int), x4.b, x4.text⟩ : CallD)) j = some zZ ∧ zZ = (⟨x4.kind, x4.name, x4.to_, ((((kk + 1) + 1) + 1 : Nat) : Int), x4.b, x4.text⟩ : CallD) := ⟨_, nth_setSelf hx4, rfl⟩
     have okx5 : okK x5 := by rw [ex5]; exact ⟨okx4.1, okx4.2.1, okx4.2.2.1, (show i64ok ((((kk + 1) + 1) + 1 : Nat) : Int) from by first | assumption | exact ⟨by omega, by omega⟩), okx4.2.2.2.2.1, okx4.2.2.2.2.2⟩
     have F62 : Fr 58 [(39, .pointer (some ⟨B58, 0 + j * 6 + 3, none⟩)), (37, .int .i64 ((((kk + 1) + 1) + 1 : Nat) : Int)), (1, .int .i64 ((((kk + 1) + 1) + 1 : Nat) : Int)), (5, .int .i64 ((j : Nat) : Int)), (0, .slice a_a a_n a_c)] _ := F60.cut rfl
     clear F54 F55 F56 F57 F59 F60
     have T63 : Mv _ _ [ow 148 6 encK okK (.slice a_a a_n a_c) ((((D.set j (⟨((kk : Nat) : Int), x1.name, x1.to_, x1.a, x1.b, x1.text⟩ : CallD)).set j (⟨x2.kind, (markT (kk + 1)), x2.to_, x2.a, x2.b, x2.text⟩ : CallD)).set j (⟨x3.kind, x3.name, (markT ((kk + 1) + 1)), x3.a, x3.b, x3.text⟩ : CallD)).set j (⟨x4.kind, x4.name, x4.to_, ((((kk + 1) + 1) + 1 : Nat) : Int), x4.b, x4.text⟩ : CallD))] _ := S61
     refine s_end (x_normal (wp_seq (wp_region_lit (l_op (f_mv F62 rfl rfl rfl rfl rfl fun _ F64 => ?_)))))
     refine l_op (f_val F64 rfl rfl (r_add (z := (((((kk + 1) + 1) + 1) + 1 : Nat) : Int)) rfl (F64.ev 40 rfl) rfl (by first | rfl | omega) ⟨by first | omega | (unfold i64ok at *; omega), by first | omega | (unfold i64ok at *; omega)⟩) rfl fun _ F65 => ?_)
     refine l_op (f_as F65 rfl rfl rfl rfl rfl fun _ F66 => ?_)
     have F67 : Fr 58 [(1, .int .i64 (((((kk + 1) + 1) + 1) + 1 : Nat) : Int)), (5, .int .i64 ((j : Nat) : Int)), (0, .slice a_a a_n a_c)] _ := F66.cut rfl
     clear F62 F64 F65 F66
     refine s_end (x_normal (wp_seq (wp_region_lit (l_op (f_mv F67 rfl rfl rfl rfl rfl fun _ F68 => ?_)))))
     refine l_op (f_mv F68 rfl rfl rfl rfl rfl fun _ F69 => ?_)
     refine l_op (f_mv F69 rfl rfl rfl rfl rfl fun _ F70 => ?_)
     obtain ⟨B71, y71, ad71, hy71, oky71, cl71⟩ := At.ownAt T63.at' ET_66.hk 0 rfl j (by first | assumption | omega)
     obtain rfl := Option.some.inj (hx5.symm.trans hy71)
     clear hy71 oky71
     refine l_op (f_val F70 rfl rfl (r_indexAddr (i := j) ET_66 rfl ((F70.ev 42 rfl).trans (by rw [ad71])) (F70.ev 43 rfl) (by omega) (by first | assumption | omega)) rfl fun _ F72 => ?_)
     refine l_op (f_val F72 rfl rfl (r_field FI_148_4 rfl (F72.ev 45 rfl) rfl) rfl fun _ F73 => ?_)
     refine l_op (s_storeElF (off := 4) T63.at' 0 j x5 (⟨x5.kind, x5.name, x5.to_, x5.a, (((((kk + 1) + 1) + 1) + 1 : Nat) : Int), x5.text⟩ : CallD) ET_66.hk ET_66.h1 TI_3 rfl ad71 rfl rfl rfl rfl (F73.ev 46 rfl) (F73.ev 44 rfl) rfl (by first | assumption | omega) hx5 rfl (by decide) (⟨okx5.1, okx5.2.1, okx5.2.2.1, okx5.2.2.2.1, (show i64ok (((((kk + 1) + 1) + 1) + 1 : Nat) : Int) from by first | assumption | exact ⟨by omega, by omega⟩), okx5.2.2.2.2.2⟩) fun w74 S74 => ?_)
     obtain ⟨x6, hx6, ex6⟩ : ∃ zZ, nth (((((D.set j (⟨((kk : Nat) : Int), x1.name, x1.to_, x1.a, x1.b, x1.text⟩ : CallD)).set j (⟨x2.kind, (markT (kk + 1)), x2.to_, x2.a, x2.b, x2.text⟩ : CallD)).set j (⟨x3.kind, x3.name, (markT ((kk + 1) + 1)), x3.a, x3.b, x3.text⟩ : CallD)).set j (⟨x4.kind, x4.name, x4.to_, ((((kk + 1) + 1) + 1 : Nat) : Int), x4.b, x4.text⟩ : CallD)).set j (⟨x5.kind, x5.name, x5.to_, x5.a, (((((kk + 1) + 1) + 1) + 1 : Nat) : Int), x5.text⟩ : CallD)) j = some zZ ∧ zZ = (⟨x5.kind, x5.name, x5.to_, x5.a, (((((kk + 1) + 1) + 1) + 1 : Nat) : Int), x5.text⟩ : CallD) := ⟨_, nth_setSelf hx5, rfl⟩
     have okx6 : okK x6 := by rw [ex6]; exact ⟨okx5.1, okx5.2.1, okx5.2.2.1, okx5.2.2.2.1, (show i64ok (((((kk + 1) + 1) + 1) + 1 : Nat) : Int) from by first | assumption | exact ⟨by omega, by omega⟩), okx5.2.2.2.2.2⟩
     have F75 : Fr 58 [(46, .pointer (some ⟨B71, 0 + j * 6 + 4, none⟩)), (44, .int .i64 (((((kk + 1) + 1) + 1) + 1 : Nat) : Int)), (1, .int .i64 (((((kk + 1) + 1) + 1) + 1 : Nat) : Int)), (5, .int .i64 ((j : Nat) : Int)), (0, .slice a_a a_n a_c)] _ := F73.cut rfl
     clear F67 F68 F69 F70 F72 F73
     have T76 : Mv _ _ [ow 148 6 encK okK (.slice a_a a_n a_c) (((((D.set j (⟨((kk : Nat) : Int), x1.name, x1.to_, x1.a, x1.b, x1.text⟩ : CallD)).set j (⟨x2.kind, (markT (kk + 1)), x2.to_, x2.a, x2.b, x2.text⟩ : CallD)).set j (⟨x3.kind, x3.name, (markT ((kk + 1) + 1)), x3.a, x3.b, x3.text⟩ : CallD)).set j (⟨x4.kind, x4.name, x4.to_, ((((kk + 1) + 1) + 1 : Nat) : Int), x4.b, x4.text⟩ : CallD)).set j (⟨x5.kind, x5.name, x5.to_, x5.a, (((((kk + 1) + 1) + 1) + 1 : Nat) : Int), x5.text⟩ : CallD))] _ := S74
     refine s_end (x_normal (wp_seq (wp_region_lit (l_op (f_mv F75 rfl rfl rfl rfl rfl fun _ F77 => ?_)))))
     refine l_op (f_val F77 rfl rfl (r_add (z := ((((((kk + 1) + 1) + 1) + 1) + 1 : Nat) : Int)) rfl (F77.ev 47 rfl) rfl (by first | rfl | omega) ⟨by first | omega | (unfold i64ok at *; omega), by first | omega | (unfold i64ok at *; omega)⟩) rfl fun _ F78 => ?_)
     refine l_op (f_as F78 rfl rfl rfl rfl rfl fun _ F79 => ?_)
     have F80 : Fr 58 [(1, .int .i64 ((((((kk + 1) + 1) + 1) + 1) + 1 : Nat) : Int)), (5, .int .i64 ((j : Nat) : Int)), (0, .slice a_a a_n a_c)] _ := F79.cut rfl
     clear F75 F77 F78 F79
     refine s_end (x_normal (wp_seq (wp_region_lit (l_op (f_mv F80 rfl rfl rfl rfl rfl fun _ F81 => ?_)))))
     refine l_op (f_mv F81 rfl rfl rfl rfl rfl fun _ F82 => ?_)
     refine l_op (f_mv F82 rfl rfl rfl rfl rfl fun _ F83 => ?_)
     refine l_op (f_call F83 CF_127 rfl rfl rfl rfl (lc (F83.ev 51 rfl) rfl) (laws_markText_c (H := fun _ => True) (k := ((((kk + 1) + 1) + 1) + 1) + 1) ⟨by omega, by first | omega | (unfold i64ok at *; omega)⟩) ?_)
     rintro _ w84 ⟨rfl, m84, ok_r0_84⟩
     refine ⟨_, rfl, fun _ F85 => ?_⟩
     have S84 := At.frame0 T76.at' m84
     clear m84
     obtain ⟨B86, y86, ad86, hy86, oky86, cl86⟩ := At.ownAt S84.at' ET_66.hk 0 rfl j (by first | assumption | omega)
     obtain rfl := Option.some.inj (hx6.symm.trans hy86)
     clear hy86 oky86
     refine l_op (f_val F85 rfl rfl (r_indexAddr (i := j) ET_66 rfl ((F85.ev 49 rfl).trans (by rw [ad86])) (F85.ev 50 rfl) (by omega) (by first | assumption | omega)) rfl fun _ F87 => ?_)
     refine l_op (f_val F87 rfl rfl (r_field FI_148_5 rfl (F87.ev 53 rfl) rfl) rfl fun _ F88 => ?_)
     refine l_op (s_storeElF (off := 5) S84.at' 0 j x6 (⟨x6.kind, x6.name, x6.to_, x6.a, x6.b, (markT (((((kk + 1) + 1) + 1) + 1) + 1))⟩ : CallD) ET_66.hk ET_66.h1 TI_9 rfl ad86 rfl rfl rfl rfl (F88.ev 54 rfl) (F88.ev 52 rfl) rfl (by first | assumption | omega) hx6 rfl (by decide) (⟨okx6.1, okx6.2.1, okx6.2.2.1, okx6.2.2.2.1, okx6.2.2.2.2.1, ok_r0_84⟩) fun w89 S89 => ?_)
     obtain ⟨x7, hx7, ex7⟩ : ∃ zZ, nth ((((((D.set j (⟨((kk : Nat) : Int), x1.name, x1.to_, x1.a, x1.b, x1.text⟩ : CallD)).set j (⟨x2.kind, (markT (kk + 1)), x2.to_, x2.a, x2.b, x2.text⟩ : CallD)).set j (⟨x3.kind, x3.name, (markT ((kk + 1) + 1)), x3.a, x3.b, x3.text⟩ : CallD)).set j (⟨x4.kind, x4.name, x4.to_, ((((kk + 1) + 1) + 1 : Nat) : Int), x4.b, x4.text⟩ : CallD)).set j (⟨x5.kind, x5.name, x5.to_, x5.a, (((((kk + 1) + 1) + 1) + 1 : Nat) : Int), x5.text⟩ : CallD)).set j (⟨x6.kind, x6.name, x6.to_, x6.a, x6.b, (markT (((((kk + 1) + 1) + 1) + 1) + 1))⟩ : CallD)) j = some zZ ∧ zZ = (⟨x6.kind, x6.name, x6.to_, x6.a, x6.b, (markT (((((kk + 1) + 1) + 1) + 1) + 1))⟩ : CallD) := ⟨_, nth_setSelf hx6, rfl⟩
     have okx7 : okK x7 := by rw [ex7]; exact ⟨okx6.1, okx6.2.1, okx6.2.2.1, okx6.2.2.2.1, okx6.2.2.2.2.1, ok_r0_84⟩
     have F90 : Fr 58 [(54, .pointer (some ⟨B86, 0 + j * 6 + 5, none⟩)), (52, .string (markT (((((kk + 1) + 1) + 1) + 1) + 1))), (1, .int .i64 ((((((kk + 1) + 1) + 1) + 1) + 1 : Nat) : Int)), (5, .int .i64 ((j : Nat) : Int)), (0, .slice a_a a_n a_c)] _ := F88.cut rfl
     clear F80 F81 F82 F83 F85 F87 F88
     have T91 : Mv _ _ [ow 148 6 encK okK (.slice a_a a_n a_c) ((((((D.set j (⟨((kk : Nat) : Int), x1.name, x1.to_, x1.a, x1.b, x1.text⟩ : CallD)).set j (⟨x2.kind, (markT (kk + 1)), x2.to_, x2.a, x2.b, x2.text⟩ : CallD)).set j (⟨x3.kind, x3.name, (markT ((kk + 1) + 1)), x3.a, x3.b, x3.text⟩ : CallD)).set j (⟨x4.kind, x4.name, x4.to_, ((((kk + 1) + 1) + 1 : Nat) : Int), x4.b, x4.text⟩ : CallD)).set j (⟨x5.kind, x5.name, x5.to_, x5.a, (((((kk + 1) + 1) + 1) + 1 : Nat) : Int), x5.text⟩ : CallD)).set j (⟨x6.kind, x6.name, x6.to_, x6.a, x6.b, (markT (((((kk + 1) + 1) + 1) + 1) + 1))⟩ : CallD))] _ := S89
     refine s_end (x_normal (wp_region_lit (l_op (f_mv F90 rfl rfl rfl rfl rfl fun _ F92 => ?_))))
     refine l_op (f_val F92 rfl rfl (r_add (z := (((((((kk + 1) + 1) + 1) + 1) + 1) + 1 : Nat) : Int)) rfl (F92.ev 55 rfl) rfl (by first | rfl | omega) ⟨by first | omega | (unfold i64ok at *; omega), by first | omega | (unfold i64ok at *; omega)⟩) rfl fun _ F93 => ?_)
     refine l_op (f_as F93 rfl rfl rfl rfl rfl fun _ F94 => ?_)
     have F95 : Fr 58 [(1, .int .i64 (((((((kk + 1) + 1) + 1) + 1) + 1) + 1 : Nat) : Int)), (5, .int .i64 ((j : Nat) : Int)), (0, .slice a_a a_n a_c)] _ := F94.cut rfl
     clear F90 F92 F93 F94
     refine s_end (x_block_normal (x_normal (wp_region_lit (l_op (f_mv F95 rfl rfl rfl rfl rfl fun _ F96 => ?_)))))
     refine l_op (f_val F96 rfl rfl (r_add (z := ((j + 1 : Nat) : Int)) rfl (F96.ev 10 rfl) rfl (by first | rfl | omega) ⟨by first | omega | (unfold i64ok at *; omega), by first | omega | (unfold i64ok at *; omega)⟩) rfl fun _ F97 => ?_)
     refine l_op (f_as F97 rfl rfl rfl rfl rfl fun _ F98 => ?_)
     have F99 : Fr 58 [(5, .int .i64 ((j + 1 : Nat) : Int)), (1, .int .i64 (((((((kk + 1) + 1) + 1) + 1) + 1) + 1 : Nat) : Int)), (0, .slice a_a a_n a_c)] _ := F98.cut rfl
     clear F95 F96 F97 F98
     refine s_end ?_
     refine x_normal ⟨j + 1, by omega, (((((kk + 1) + 1) + 1) + 1) + 1) + 1, (((((D.set j (⟨((kk : Nat) : Int), x1.name, x1.to_, x1.a, x1.b, x1.text⟩ : CallD)).set j (⟨x2.kind, (markT (kk + 1)), x2.to_, x2.a, x2.b, x2.text⟩ : CallD)).set j (⟨x3.kind, x3.name, (markT ((kk + 1) + 1)), x3.a, x3.b, x3.text⟩ : CallD)).set j (⟨x4.kind, x4.name, x4.to_, ((((kk + 1) + 1) + 1 : Nat) : Int), x4.b, x4.text⟩ : CallD)).set j (⟨x5.kind, x5.name, x5.to_, x5.a, (((((kk + 1) + 1) + 1) + 1 : Nat) : Int), x5.text⟩ : CallD)).set j (⟨x6.kind, x6.name, x6.to_, x6.a, x6.b, (markT (((((kk + 1) + 1) + 1) + 1) + 1))⟩ : CallD), F99.cut rfl, ((S5.trans (T20.trans (S28.trans (T35.trans (S43.trans (T50.trans (T63.trans (T76.trans (S84.trans T91))))))))).pick [0] rfl), by omega, by omega, by simp only [List.set_set]; rw [hj_2]; refine upTo_step (by omega) ?_; subst hj_1; subst_vars; rfl⟩
   · skip
     refine wp_exit (x_then_exit (x_then_exit (x_block_here (x_normal (wp_seq (wp_region_lit (l_op (f_mv F10 rfl rfl rfl rfl rfl fun _ F100 => ?_))))))))
     refine l_op (f_as F100 rfl rfl rfl rfl rfl fun _ F101 => ?_)
     have F102 : Fr 58 [(4, .int .i64 ((kk : Nat) : Int))] _ := F101.cut rfl
     clear F10 F100 F101
     refine s_end (x_normal (wp_ret ?_))
     refine x_done (v := .int .i64 ((kk : Nat) : Int)) F102 (results_1 Try.results79 (.tmp (F102.ev 4 rfl))) ?_
     exact ⟨(by rw [(show ((kk : Nat) : Int) = ((k + 6 * a.length : Nat) : Int) from by first | omega | rw [hj_2, upTo_end (by omega) (by omega)])]), (Mv.cast (Mv.pick S5 [0] rfl) (by rw [(show D = (marksOf markK k a.length) from by first | omega | rw [hj_2, upTo_end (by omega) (by omega)])]; all_goals rfl))⟩
theorem laws_markAnswerS_c {w : World} {H : Nat → Prop} {a : List AnsD} {a_a : Option Addr} {a_n a_c : Nat} {k : Nat} (h_k : i64ok (k : Int)) (p0 : k + 3 * a.length ≤ 4611686018427387904) (hA : At w [ow 151 3 encR okR (.slice a_a a_n a_c) a]) :
    Calls Try.prog 80 #[.slice a_a a_n a_c, .int .i64 ((k : Nat) : Int)] w fun e w' => e = .returned (.int .i64 ((k + 3 * a.length : Nat) : Int)) ∧ Mv [ow 151 3 encR okR (.slice a_a a_n a_c) a] w [ow 151 3 encR okR (.slice a_a a_n a_c) (marksOf markR k a.length)] w' := by
 have uU : True := (fun _ _ _ => trivial) H h_k p0
 clear uU
 obtain ⟨lo0, lp0, lq0⟩ := At.ownInv hA ET_67.hk 0 rfl
 refine calls_enter 35 Try.func80 rfl Try.ntmps80 (Nat.le_of_ble_eq_true rfl) (fun _ F0i => ?_)
 have F0 : Fr 35 [(0, .slice a_a a_n a_c), (1, .int .i64 ((k : Nat) : Int))] _ := F0i
 clear F0i
 refine wp_seq (wp_region_lit (l_op (f_val F0 rfl rfl (r_assign rfl rfl) rfl fun _ F1 => ?_)))
 have F2 : Fr 35 [(4, .int .i64 0), (0, .slice a_a a_n a_c), (1, .int .i64 ((k : Nat) : Int))] _ := F1.cut rfl
 clear F0 F1
 refine s_end (x_normal (wp_seq (wp_seq (wp_region_lit (l_op (f_val F2 rfl rfl (r_assign rfl rfl) rfl fun _ F3 => ?_))))))
 have F4 : Fr 35 [(5, .int .i64 0), (0, .slice a_a a_n a_c), (1, .int .i64 ((k : Nat) : Int))] _ := F3.cut rfl
 clear F2 F3
 refine s_end (x_normal (wp_block ?_))
 refine x_loop (fun (j : Nat) aZ wZ => ∃ (kk : Nat), ∃ (D : List AnsD), Fr 35 [(5, .int .i64 ((j : Nat) : Int)), (0, .slice a_a a_n a_c), (1, .int .i64 ((kk : Nat) : Int))] aZ ∧ Mv [ow 151 3 encR okR (.slice a_a a_n a_c) a] w [ow 151 3 encR okR (.slice a_a a_n a_c) D] wZ ∧ (j ≤ a_n) ∧ (kk = k + 3 * j) ∧ (D = upTo markR k j a)) (fun (j : Nat) => a_n - j) (0) ?_ ?_
 · exact ⟨k, a, F4.cut rfl, (Mv.refl hA), by omega, by omega, upTo_start ..⟩
 · rintro j a5 w5 ⟨kk, D, F5, S5, hj_0, hj_1, hj_2⟩
   refine wp_seq (wp_seq (wp_region_lit (l_op (f_mv F5 rfl rfl rfl rfl rfl fun _ F6 => ?_))))
   refine l_op (f_mv F6 rfl rfl rfl rfl rfl fun _ F7 => ?_)
   refine l_op (f_val F7 rfl rfl (r_len Try.underlying67 rfl (F7.ev 7 rfl)) rfl fun _ F8 => ?_)
   refine l_op (f_val F8 rfl rfl (r_cmp (b := decide (j < a_n)) (.inr (.inr (.inl rfl))) rfl (F8.ev 6 rfl) (F8.ev 8 rfl) (dec_of (by omega))) rfl fun _ F9 => ?_)
   have F10 : Fr 35 [(9, .bool (decide (j < a_n))), (5, .int .i64 ((j : Nat) : Int)), (0, .slice a_a a_n a_c), (1, .int .i64 ((kk : Nat) : Int))] _ := F9.cut rfl
   clear F5 F6 F7 F8 F9
   refine s_end (x_normal (x_cond (p := j < a_n) (F10.ev 9 rfl) (fun h11 => ?_) (fun h11 => ?_)))
   · skip
     refine wp_skip (x_normal (wp_seq (wp_block (wp_seq (wp_region_lit (l_op (f_mv F10 rfl rfl rfl rfl rfl fun _ F12 => ?_)))))))
     refine l_op (f_mv F12 rfl rfl rfl rfl rfl fun _ F13 => ?_)
     refine l_op (f_mv F13 rfl rfl rfl rfl rfl fun _ F14 => ?_)
     obtain ⟨B15, x1, ad15, hx1, okx1, cl15⟩ := At.ownAt S5.at' ET_67.hk 0 rfl j (by first | assumption | omega)
     refine l_op (f_val F14 rfl rfl (r_indexAddr (i := j) ET_67 rfl ((F14.ev 12 rfl).trans (by rw [ad15])) (F14.ev 13 rfl) (by omega) (by first | assumption | omega)) rfl fun _ F16 => ?_)
     refine l_op (f_val F16 rfl rfl (r_field FI_151_0 rfl (F16.ev 15 rfl) rfl) rfl fun _ F17 => ?_)
     refine l_op (s_storeElF (off := 0) S5.at' 0 j x1 (⟨((kk : Nat) : Int), x1.n, x1.text⟩ : AnsD) ET_67.hk ET_67.h1 TI_3 rfl ad15 rfl rfl rfl rfl (F17.ev 16 rfl) (F17.ev 14 rfl) rfl (by first | assumption | omega) hx1 rfl (by decide) (⟨(show i64ok ((kk : Nat) : Int) from by first | assumption | exact ⟨by omega, by omega⟩), okx1.2.1, okx1.2.2⟩) fun w18 S18 => ?_)
     obtain ⟨x2, hx2, ex2⟩ : ∃ zZ, nth (D.set j (⟨((kk : Nat) : Int), x1.n, x1.text⟩ : AnsD)) j = some zZ ∧ zZ = (⟨((kk : Nat) : Int), x1.n, x1.text⟩ : AnsD) := ⟨_, nth_setSelf hx1, rfl⟩
     have okx2 : okR x2 := by rw [ex2]; exact ⟨(show i64ok ((kk : Nat) : Int) from by first | assumption | exact ⟨by omega, by omega⟩), okx1.2.1, okx1.2.2⟩
     have F19 : Fr 35 [(16, .pointer (some ⟨B15, 0 + j * 3, none⟩)), (14, .int .i64 ((kk : Nat) : Int)), (5, .int .i64 ((j : Nat) : Int)), (0, .slice a_a a_n a_c), (1, .int .i64 ((kk : Nat) : Int))] _ := F17.cut rfl
     clear F10 F12 F13 F14 F16 F17
     have T20 : Mv _ _ [ow 151 3 encR okR (.slice a_a a_n a_c) (D.set j (⟨((kk : Nat) : Int), x1.n, x1.text⟩ : AnsD))] _ := S18
     refine s_end (x_normal (wp_seq (wp_region_lit (l_op (f_mv F19 rfl rfl rfl rfl rfl fun _ F21 => ?_)))))
     refine l_op (f_val F21 rfl rfl (r_add (z := ((kk + 1 : Nat) : Int)) rfl (F21.ev 17 rfl) rfl (by first | rfl | omega) ⟨by first | omega | (unfold i64ok at *; omega), by first | omega | (unfold i64ok at *; omega)⟩) rfl fun _ F22 => ?_)
     refine l_op (f_as F22 rfl rfl rfl rfl rfl fun _ F23 => ?_)
     have F24 : Fr 35 [(1, .int .i64 ((kk + 1 : Nat) : Int)), (5, .int .i64 ((j : Nat) : Int)), (0, .slice a_a a_n a_c)] _ := F23.cut rfl
     clear F19 F21 F22 F23
     refine s_end (x_normal (wp_seq (wp_region_lit (l_op (f_mv F24 rfl rfl rfl rfl rfl fun _ F25 => ?_)))))
     refine l_op (f_mv F25 rfl rfl rfl rfl rfl fun _ F26 => ?_)
     refine l_op (f_mv F26 rfl rfl rfl rfl rfl fun _ F27 => ?_)
     obtain ⟨B28, y28, ad28, hy28, oky28, cl28⟩ := At.ownAt T20.at' ET_67.hk 0 rfl j (by first | assumption | omega)
     obtain rfl := Option.some.inj (hx2.symm.trans hy28)
     clear hy28 oky28
     refine l_op (f_val F27 rfl rfl (r_indexAddr (i := j) ET_67 rfl ((F27.ev 19 rfl).trans (by rw [ad28])) (F27.ev 20 rfl) (by omega) (by first | assumption | omega)) rfl fun _ F29 => ?_)
     refine l_op (f_val F29 rfl rfl (r_field FI_151_1 rfl (F29.ev 22 rfl) rfl) rfl fun _ F30 => ?_)
     refine l_op (s_storeElF (off := 1) T20.at' 0 j x2 (⟨x2.code, ((kk + 1 : Nat) : Int), x2.text⟩ : AnsD) ET_67.hk ET_67.h1 TI_3 rfl ad28 rfl rfl rfl rfl (F30.ev 23 rfl) (F30.ev 21 rfl) rfl (by first | assumption | omega) hx2 rfl (by decide) (⟨okx2.1, (show i64ok ((kk + 1 : Nat) : Int) from by first | assumption | exact ⟨by omega, by omega⟩), okx2.2.2⟩) fun w31 S31 => ?_)
     obtain ⟨x3, hx3, ex3⟩ : ∃ zZ, nth ((D.set j (⟨((kk : Nat) : Int), x1.n, x1.text⟩ : AnsD)).set j (⟨x2.code, ((kk + 1 : Nat) : Int), x2.text⟩ : AnsD)) j = some zZ ∧ zZ = (⟨x2.code, ((kk + 1 : Nat) : Int), x2.text⟩ : AnsD) := ⟨_, nth_setSelf hx2, rfl⟩
     have okx3 : okR x3 := by rw [ex3]; exact ⟨okx2.1, (show i64ok ((kk + 1 : Nat) : Int) from by first | assumption | exact ⟨by omega, by omega⟩), okx2.2.2⟩
     have F32 : Fr 35 [(23, .pointer (some ⟨B28, 0 + j * 3 + 1, none⟩)), (21, .int .i64 ((kk + 1 : Nat) : Int)), (1, .int .i64 ((kk + 1 : Nat) : Int)), (5, .int .i64 ((j : Nat) : Int)), (0, .slice a_a a_n a_c)] _ := F30.cut rfl
     clear F24 F25 F26 F27 F29 F30
     have T33 : Mv _ _ [ow 151 3 encR okR (.slice a_a a_n a_c) ((D.set j (⟨((kk : Nat) : Int), x1.n, x1.text⟩ : AnsD)).set j (⟨x2.code, ((kk + 1 : Nat) : Int), x2.text⟩ : AnsD))] _ := S31
     refine s_end (x_normal (wp_seq (wp_region_lit (l_op (f_mv F32 rfl rfl rfl rfl rfl fun _ F34 => ?_)))))
     refine l_op (f_val F34 rfl rfl (r_add (z := (((kk + 1) + 1 : Nat) : Int)) rfl (F34.ev 24 rfl) rfl (by first | rfl | omega) ⟨by first | omega | (unfold i64ok at *; omega), by first | omega | (unfold i64ok at *; omega)⟩) rfl fun _ F35 => ?_)
     refine l_op (f_as F35 rfl rfl rfl rfl rfl fun _ F36 => ?_)
     have F37 : Fr 35 [(1, .int .i64 (((kk + 1) + 1 : Nat) : Int)), (5, .int .i64 ((j : Nat) : Int)), (0, .slice a_a a_n a_c)] _ := F36.cut rfl
     clear F32 F34 F35 F36
     refine s_end (x_normal (wp_seq (wp_region_lit (l_op (f_mv F37 rfl rfl rfl rfl rfl fun _ F38 => ?_)))))
     refine l_op (f_mv F38 rfl rfl rfl rfl rfl fun _ F39 => ?_)
     refine l_op (f_mv F39 rfl rfl rfl rfl rfl fun _ F40 => ?_)
     refine l_op (f_call F40 CF_127 rfl rfl rfl rfl (lc (F40.ev 28 rfl) rfl) (laws_markText_c (H := fun _ => True) (k := (kk + 1) + 1) ⟨by omega, by first | omega | (unfold i64ok at *; omega)⟩) ?_)
     rintro _ w41 ⟨rfl, m41, ok_r0_41⟩
     refine ⟨_, rfl, fun _ F42 => ?_⟩
     have S41 := At.frame0 T33.at' m41
     clear m41
     obtain ⟨B43, y43, ad43, hy43, oky43, cl43⟩ := At.ownAt S41.at' ET_67.hk 0 rfl j (by first | assumption | omega)
     obtain rfl := Option.some.inj (hx3.symm.trans hy43)
     clear hy43 oky43
     refine l_op (f_val F42 rfl rfl (r_indexAddr (i := j) ET_67 rfl ((F42.ev 26 rfl).trans (by rw [ad43])) (F42.ev 27 rfl) (by omega) (by first | assumption | omega)) rfl fun _ F44 => ?_)
     refine l_op (f_val F44 rfl rfl (r_field FI_151_2 rfl (F44.ev 30 rfl) rfl) rfl fun _ F45 => ?_)
     refine l_op (s_storeElF (off := 2) S41.at' 0 j x3 (⟨x3.code, x3.n, (markT ((kk + 1) + 1))⟩ : AnsD) ET_67.hk ET_67.h1 TI_9 rfl ad43 rfl rfl rfl rfl (F45.ev 31 rfl) (F45.ev 29 rfl) rfl (by first | assumption | omega) hx3 rfl (by decide) (⟨okx3.1, okx3.2.1, ok_r0_41⟩) fun w46 S46 => ?_)
     obtain ⟨x4, hx4, ex4⟩ : ∃ zZ, nth (((D.set j (⟨((kk : Nat) : Int), x1.n, x1.text⟩ : AnsD)).set j (⟨x2.code, ((kk + 1 : Nat) : Int), x2.text⟩ : AnsD)).set j (⟨x3.code, x3.n, (markT ((kk + 1) + 1))⟩ : AnsD)) j = some zZ ∧ zZ = (⟨x3.code, x3.n, (markT ((kk + 1) + 1))⟩ : AnsD) := ⟨_, nth_setSelf hx3, rfl⟩
     have okx4 : okR x4 := by rw [ex4]; exact ⟨okx3.1, okx3.2.1, ok_r0_41⟩
     have F47 : Fr 35 [(31, .pointer (some ⟨B43, 0 + j * 3 + 2, none⟩)), (29, .string (markT ((kk + 1) + 1))), (1, .int .i64 (((kk + 1) + 1 : Nat) : Int)), (5, .int .i64 ((j : Nat) : Int)), (0, .slice a_a a_n a_c)] _ := F45.cut rfl
     clear F37 F38 F39 F40 F42 F44 F45
     have T48 : Mv _ _ [ow 151 3 encR okR (.slice a_a a_n a_c) (((D.set j (⟨((kk : Nat) : Int), x1.n, x1.text⟩ : AnsD)).set j (⟨x2.code, ((kk + 1 : Nat) : Int), x2.text⟩ : AnsD)).set j (⟨x3.code, x3.n, (markT ((kk + 1) + 1))⟩ : AnsD))] _ := S46
     refine s_end (x_normal (wp_region_lit (l_op (f_mv F47 rfl rfl rfl rfl rfl fun _ F49 => ?_))))
     refine l_op (f_val F49 rfl rfl (r_add (z := ((((kk + 1) + 1) + 1 : Nat) : Int)) rfl (F49.ev 32 rfl) rfl (by first | rfl | omega) ⟨by first | omega | (unfold i64ok at *; omega), by first | omega | (unfold i64ok at *; omega)⟩) rfl fun _ F50 => ?_)
     refine l_op (f_as F50 rfl rfl rfl rfl rfl fun _ F51 => ?_)
     have F52 : Fr 35 [(1, .int .i64 ((((kk + 1) + 1) + 1 : Nat) : Int)), (5, .int .i64 ((j : Nat) : Int)), (0, .slice a_a a_n a_c)] _ := F51.cut rfl
     clear F47 F49 F50 F51
     refine s_end (x_block_normal (x_normal (wp_region_lit (l_op (f_mv F52 rfl rfl rfl rfl rfl fun _ F53 => ?_)))))
     refine l_op (f_val F53 rfl rfl (r_add (z := ((j + 1 : Nat) : Int)) rfl (F53.ev 10 rfl) rfl (by first | rfl | omega) ⟨by first | omega | (unfold i64ok at *; omega), by first | omega | (unfold i64ok at *; omega)⟩) rfl fun _ F54 => ?_)
     refine l_op (f_as F54 rfl rfl rfl rfl rfl fun _ F55 => ?_)
     have F56 : Fr 35 [(5, .int .i64 ((j + 1 : Nat) : Int)), (1, .int .i64 ((((kk + 1) + 1) + 1 : Nat) : Int)), (0, .slice a_a a_n a_c)] _ := F55.cut rfl
     clear F52 F53 F54 F55
     refine s_end ?_
     refine x_normal ⟨j + 1, by omega, ((kk + 1) + 1) + 1, ((D.set j (⟨((kk : Nat) : Int), x1.n, x1.text⟩ : AnsD)).set j (⟨x2.code, ((kk + 1 : Nat) : Int), x2.text⟩ : AnsD)).set j (⟨x3.code, x3.n, (markT ((kk + 1) + 1))⟩ : AnsD), F56.cut rfl, ((S5.trans (T20.trans (T33.trans (S41.trans T48)))).pick [0] rfl), by omega, by omega, by simp only [List.set_set]; rw [hj_2]; refine upTo_step (by omega) ?_; subst hj_1; subst_vars; rfl⟩
   · skip
     refine wp_exit (x_then_exit (x_then_exit (x_block_here (x_normal (wp_seq (wp_region_lit (l_op (f_mv F10 rfl rfl rfl rfl rfl fun _ F57 => ?_))))))))
     refine l_op (f_as F57 rfl rfl rfl rfl rfl fun _ F58 => ?_)
     have F59 : Fr 35 [(4, .int .i64 ((kk : Nat) : Int))] _ := F58.cut rfl
     clear F10 F57 F58
     refine s_end (x_normal (wp_ret ?_))
     refine x_done (v := .int .i64 ((kk : Nat) : Int)) F59 (results_1 Try.results80 (.tmp (F59.ev 4 rfl))) ?_
     exact ⟨(by rw [(show ((kk : Nat) : Int) = ((k + 3 * a.length : Nat) : Int) from by first | omega | rw [hj_2, upTo_end (by omega) (by omega)])]), (Mv.cast (Mv.pick S5 [0] rfl) (by rw [(show D = (marksOf markR k a.length) from by first | omega | rw [hj_2, upTo_end (by omega) (by omega)])]; all_goals rfl))⟩
theorem laws_markIntS_c {w : World} {H : Nat → Prop} {a : List Int} {a_a : Option Addr} {a_n a_c : Nat} {k : Nat} (h_k : i64ok (k : Int)) (p0 : k + 1 * a.length ≤ 4611686018427387904) (hA : At w [ow 3 1 encI okI (.slice a_a a_n a_c) a]) :
    Calls Try.prog 38 #[.slice a_a a_n a_c, .int .i64 ((k : Nat) : Int)] w fun e w' => e = .returned (.int .i64 ((k + a.length : Nat) : Int)) ∧ Mv [ow 3 1 encI okI (.slice a_a a_n a_c) a] w [ow 3 1 encI okI (.slice a_a a_n a_c) (marksOf markI k a.length)] w' := by
 have uU : True := (fun _ _ _ => trivial) H h_k p0
 clear uU
 obtain ⟨lo0, lp0, lq0⟩ := At.ownInv hA ET_53.hk 0 rfl
 refine calls_enter 19 Try.func38 rfl Try.ntmps38 (Nat.le_of_ble_eq_true rfl) (fun _ F0i => ?_)
 have F0 : Fr 19 [(0, .slice a_a a_n a_c), (1, .int .i64 ((k : Nat) : Int))] _ := F0i
 clear F0i
 refine wp_seq (wp_region_lit (l_op (f_val F0 rfl rfl (r_assign rfl rfl) rfl fun _ F1 => ?_)))
 have F2 : Fr 19 [(4, .int .i64 0), (0, .slice a_a a_n a_c), (1, .int .i64 ((k : Nat) : Int))] _ := F1.cut rfl
 clear F0 F1
 refine s_end (x_normal (wp_seq (wp_seq (wp_region_lit (l_op (f_val F2 rfl rfl (r_assign rfl rfl) rfl fun _ F3 => ?_))))))
 have F4 : Fr 19 [(5, .int .i64 0), (0, .slice a_a a_n a_c), (1, .int .i64 ((k : Nat) : Int))] _ := F3.cut rfl
 clear F2 F3
 refine s_end (x_normal (wp_block ?_))
 refine x_loop (fun (j : Nat) aZ wZ => ∃ (kk : Nat), ∃ (D : List Int), Fr 19 [(5, .int .i64 ((j : Nat) : Int)), (0, .slice a_a a_n a_c), (1, .int .i64 ((kk : Nat) : Int))] aZ ∧ Mv [ow 3 1 encI okI (.slice a_a a_n a_c) a] w [ow 3 1 encI okI (.slice a_a a_n a_c) D] wZ ∧ (j ≤ a_n) ∧ (kk = k + 1 * j) ∧ (D = upTo markI k j a)) (fun (j : Nat) => a_n - j) (0) ?_ ?_
 · exact ⟨k, a, F4.cut rfl, (Mv.refl hA), by omega, by omega, upTo_start ..⟩
 · rintro j a5 w5 ⟨kk, D, F5, S5, hj_0, hj_1, hj_2⟩
   refine wp_seq (wp_seq (wp_region_lit (l_op (f_mv F5 rfl rfl rfl rfl rfl fun _ F6 => ?_))))
   refine l_op (f_mv F6 rfl rfl rfl rfl rfl fun _ F7 => ?_)
   refine l_op (f_val F7 rfl rfl (r_len Try.underlying53 rfl (F7.ev 7 rfl)) rfl fun _ F8 => ?_)
   refine l_op (f_val F8 rfl rfl (r_cmp (b := decide (j < a_n)) (.inr (.inr (.inl rfl))) rfl (F8.ev 6 rfl) (F8.ev 8 rfl) (dec_of (by omega))) rfl fun _ F9 => ?_)
   have F10 : Fr 19 [(9, .bool (decide (j < a_n))), (5, .int .i64 ((j : Nat) : Int)), (0, .slice a_a a_n a_c), (1, .int .i64 ((kk : Nat) : Int))] _ := F9.cut rfl
   clear F5 F6 F7 F8 F9
   refine s_end (x_normal (x_cond (p := j < a_n) (F10.ev 9 rfl) (fun h11 => ?_) (fun h11 => ?_)))
   · skip
     refine wp_skip (x_normal (wp_seq (wp_block (wp_seq (wp_region_lit (l_op (f_mv F10 rfl rfl rfl rfl rfl fun _ F12 => ?_)))))))
     refine l_op (f_mv F12 rfl rfl rfl rfl rfl fun _ F13 => ?_)
     refine l_op (f_mv F13 rfl rfl rfl rfl rfl fun _ F14 => ?_)
     obtain ⟨B15, x1, ad15, hx1, okx1, cl15⟩ := At.ownAt S5.at' ET_53.hk 0 rfl j (by first | assumption | omega)
     refine l_op (f_val F14 rfl rfl (r_indexAddr (i := j) ET_53 rfl ((F14.ev 12 rfl).trans (by rw [ad15])) (F14.ev 13 rfl) (by omega) (by first | assumption | omega)) rfl fun _ F16 => ?_)
     refine l_op (s_storeEl S5.at' 0 j ((kk : Nat) : Int) ET_53.hk ET_53.h1 TI_3 rfl ad15 rfl rfl rfl rfl (F16.ev 15 rfl) (F16.ev 14 rfl) rfl (by first | assumption | omega) ⟨by omega, by omega⟩ fun w17 S17 => ?_)
     have F18 : Fr 19 [(15, .pointer (some ⟨B15, 0 + j * 1, none⟩)), (14, .int .i64 ((kk : Nat) : Int)), (5, .int .i64 ((j : Nat) : Int)), (0, .slice a_a a_n a_c), (1, .int .i64 ((kk : Nat) : Int))] _ := F16.cut rfl
     clear F10 F12 F13 F14 F16
     have T19 : Mv _ _ [ow 3 1 encI okI (.slice a_a a_n a_c) (D.set j ((kk : Nat) : Int))] _ := S17
     refine s_end (x_normal (wp_region_lit (l_op (f_mv F18 rfl rfl rfl rfl rfl fun _ F20 => ?_))))
     refine l_op (f_val F20 rfl rfl (r_add (z := ((kk + 1 : Nat) : Int)) rfl (F20.ev 16 rfl) rfl (by first | rfl | omega) ⟨by first | omega | (unfold i64ok at *; omega), by first | omega | (unfold i64ok at *; omega)⟩) rfl fun _ F21 => ?_)
     refine l_op (f_as F21 rfl rfl rfl rfl rfl fun _ F22 => ?_)
     have F23 : Fr 19 [(1, .int .i64 ((kk + 1 : Nat) : Int)), (5, .int .i64 ((j : Nat) : Int)), (0, .slice a_a a_n a_c)] _ := F22.cut rfl
     clear F18 F20 F21 F22
     refine s_end (x_block_normal (x_normal (wp_region_lit (l_op (f_mv F23 rfl rfl rfl rfl rfl fun _ F24 => ?_)))))
     refine l_op (f_val F24 rfl rfl (r_add (z := ((j + 1 : Nat) : Int)) rfl (F24.ev 10 rfl) rfl (by first | rfl | omega) ⟨by first | omega | (unfold i64ok at *; omega), by first | omega | (unfold i64ok at *; omega)⟩) rfl fun _ F25 => ?_)
     refine l_op (f_as F25 rfl rfl rfl rfl rfl fun _ F26 => ?_)
     have F27 : Fr 19 [(5, .int .i64 ((j + 1 : Nat) : Int)), (1, .int .i64 ((kk + 1 : Nat) : Int)), (0, .slice a_a a_n a_c)] _ := F26.cut rfl
     clear F23 F24 F25 F26
     refine s_end ?_
     refine x_normal ⟨j + 1, by omega, kk + 1, D.set j ((kk : Nat) : Int), F27.cut rfl, ((S5.trans T19).pick [0] rfl), by omega, by omega, by rw [hj_2]; refine upTo_step (by omega) ?_; subst hj_1; unfold markI; omega⟩
   · skip
     refine wp_exit (x_then_exit (x_then_exit (x_block_here (x_normal (wp_seq (wp_region_lit (l_op (f_mv F10 rfl rfl rfl rfl rfl fun _ F28 => ?_))))))))
     refine l_op (f_as F28 rfl rfl rfl rfl rfl fun _ F29 => ?_)
     have F30 : Fr 19 [(4, .int .i64 ((kk : Nat) : Int))] _ := F29.cut rfl
     clear F10 F28 F29
     refine s_end (x_normal (wp_ret ?_))
     refine x_done (v := .int .i64 ((kk : Nat) : Int)) F30 (results_1 Try.results38 (.tmp (F30.ev 4 rfl))) ?_
     exact ⟨(by rw [(show ((kk : Nat) : Int) = ((k + a.length : Nat) : Int) from by first | omega | rw [hj_2, upTo_end (by omega) (by omega)])]), (Mv.cast (Mv.pick S5 [0] rfl) (by rw [(show D = (marksOf markI k a.length) from by first | omega | rw [hj_2, upTo_end (by omega) (by omega)])]; all_goals rfl))⟩
theorem laws_heldCallS_c {w : World} {H : Nat → Prop} {a : List CallD} {a_a : Option Addr} {a_n a_c : Nat} {k : Nat} {n : Nat} (v_a : Rd 6 encK okK H w (.slice a_a a_n a_c) a) (h_k : i64ok (k : Int)) (p0 : a = marksOf markK k n) (p1 : k + 6 * n ≤ 4611686018427387904) :
    Calls Try.prog 82 #[.slice a_a a_n a_c, .int .i64 ((k : Nat) : Int)] w fun e w' => e = .returned (.int .i64 ((k + 6 * n : Nat) : Int)) ∧ Mv [] w [] w' := by
 have uU : True := (fun _ _ => trivial) h_k p1
 clear uU
 have V_v_a : Rd 6 encK okK (V H w []) w (.slice a_a a_n a_c) a := Rd.start v_a (fun _ _ => fps_nil _)
 obtain ⟨ln_a, le_a, mx_a, ni_a⟩ := Rd.inv v_a
 refine calls_enter 70 Try.func82 rfl Try.ntmps82 (Nat.le_of_ble_eq_true rfl) (fun _ F0i => ?_)
 have F0 : Fr 70 [(0, .slice a_a a_n a_c), (1, .int .i64 ((k : Nat) : Int))] _ := F0i
 clear F0i
 refine wp_seq ?_
 have hln : a_n = n := by rw [ln_a, p0, marksOf_length]
 refine wp_region_lit (l_op (f_val F0 rfl rfl (r_assign rfl rfl) rfl fun _ F1 => ?_))
 have F2 : Fr 70 [(4, .int .i64 0), (0, .slice a_a a_n a_c), (1, .int .i64 ((k : Nat) : Int))] _ := F1.cut rfl
 clear F0 F1
 refine s_end (x_normal (wp_seq (wp_seq (wp_region_lit (l_op (f_val F2 rfl rfl (r_assign rfl rfl) rfl fun _ F3 => ?_))))))
 have F4 : Fr 70 [(5, .int .i64 0), (0, .slice a_a a_n a_c), (1, .int .i64 ((k : Nat) : Int))] _ := F3.cut rfl
 clear F2 F3
 refine s_end (x_normal (wp_block ?_))
 refine x_loop (fun (j : Nat) aZ wZ => ∃ (kk : Nat), Fr 70 [(5, .int .i64 ((j : Nat) : Int)), (0, .slice a_a a_n a_c), (1, .int .i64 ((kk : Nat) : Int))] aZ ∧ Mv [] w [] wZ ∧ (j ≤ a_n) ∧ (kk = k + 6 * j)) (fun (j : Nat) => a_n - j) (0) ?_ ?_
 · exact ⟨k, F4.cut rfl, (Mv.refl (At.nil w)), by omega, by omega⟩
 · rintro j a5 w5 ⟨kk, F5, S5, hj_0, hj_1⟩
   refine wp_seq (wp_seq (wp_region_lit (l_op (f_mv F5 rfl rfl rfl rfl rfl fun _ F6 => ?_))))
   refine l_op (f_mv F6 rfl rfl rfl rfl rfl fun _ F7 => ?_)
   refine l_op (f_val F7 rfl rfl (r_len Try.underlying66 rfl (F7.ev 7 rfl)) rfl fun _ F8 => ?_)
   refine l_op (f_val F8 rfl rfl (r_cmp (b := decide (j < a_n)) (.inr (.inr (.inl rfl))) rfl (F8.ev 6 rfl) (F8.ev 8 rfl) (dec_of (by omega))) rfl fun _ F9 => ?_)
   have F10 : Fr 70 [(9, .bool (decide (j < a_n))), (5, .int .i64 ((j : Nat) : Int)), (0, .slice a_a a_n a_c), (1, .int .i64 ((kk : Nat) : Int))] _ := F9.cut rfl
   clear F5 F6 F7 F8 F9
   refine s_end (x_normal (x_cond (p := j < a_n) (F10.ev 9 rfl) (fun h11 => ?_) (fun h11 => ?_)))
   · skip
     refine wp_skip (x_normal (wp_seq (wp_block (wp_seq (wp_seq (wp_region_lit (l_op (f_mv F10 rfl rfl rfl rfl rfl fun _ F12 => ?_))))))))
     refine l_op (f_mv F12 rfl rfl rfl rfl rfl fun _ F13 => ?_)
     obtain ⟨B14, O14, x1, ad14, hx1, okx1, ln14, cl14⟩ := Rd.at (Rd.mv (Nat.succ_pos _) V_v_a S5) j (by first | assumption | omega)
     clear ln14
     refine l_op (f_val F13 rfl rfl (r_indexAddr (i := j) ET_66 rfl ((F13.ev 12 rfl).trans (by rw [ad14])) (F13.ev 13 rfl) (by omega) (by first | assumption | omega)) rfl fun _ F15 => ?_)
     refine l_op (f_val F15 rfl rfl (r_field FI_148_0 rfl (F15.ev 14 rfl) rfl) rfl fun _ F16 => ?_)
     refine l_op (f_val (v := .int .i64 x1.kind) F16 rfl rfl (r_load (cs := [.int .i64 x1.kind]) TI_3 rfl (F16.ev 15 rfl) rfl (fun _ => rfl) (elem_sub (f := 0) cl14 [.int .i64 x1.kind] rfl)) rfl fun _ F17 => ?_)
     refine l_op (f_mv F17 rfl rfl rfl rfl rfl fun _ F18 => ?_)
     refine l_op (f_val F18 rfl rfl (r_cmp (b := decide (x1.kind ≠ ((kk : Nat) : Int))) (.inr (.inl rfl)) rfl (F18.ev 16 rfl) (F18.ev 17 rfl) (dec_of (by omega))) rfl fun _ F19 => ?_)
     rw [show (decide (x1.kind ≠ ((kk : Nat) : Int))) = false from decide_eq_false (fun h => h (by rw [(marksOf_at p0 hx1).1, hj_1]; rfl))] at F19
     have F20 : Fr 70 [(18, .bool false), (5, .int .i64 ((j : Nat) : Int)), (0, .slice a_a a_n a_c), (1, .int .i64 ((kk : Nat) : Int))] _ := F19.cut rfl
     clear F10 F12 F13 F15 F16 F17 F18 F19
     refine s_end (x_normal (wp_cond_false (F20.ev 18 rfl) (wp_skip (x_normal (wp_seq (wp_region_lit (l_op (f_mv F20 rfl rfl rfl rfl rfl fun _ F21 => ?_))))))))
     refine l_op (f_val F21 rfl rfl (r_add (z := ((kk + 1 : Nat) : Int)) rfl (F21.ev 19 rfl) rfl (by first | rfl | omega) ⟨by first | omega | (unfold i64ok at *; omega), by first | omega | (unfold i64ok at *; omega)⟩) rfl fun _ F22 => ?_)
     refine l_op (f_as F22 rfl rfl rfl rfl rfl fun _ F23 => ?_)
     have F24 : Fr 70 [(1, .int .i64 ((kk + 1 : Nat) : Int)), (5, .int .i64 ((j : Nat) : Int)), (0, .slice a_a a_n a_c)] _ := F23.cut rfl
     clear F20 F21 F22 F23
     refine s_end (x_normal (wp_seq (wp_seq ?_)))
     refine x_draw (fun aZ wZ => Fr 70 [(0, .slice a_a a_n a_c), (1, .int .i64 ((kk + 1 : Nat) : Int)), (5, .int .i64 ((j : Nat) : Int)), (28, .bool false)] aZ ∧ Mv [] w5 [] wZ) [] mixed S5.at' (listed := #[false, false, false, false, false, false, false, false]) rfl (fun w26 S26 => ?_) [] rfl ?_
     · skip
       refine g_take F24 rfl (i := 0) (listed' := #[true, false, false, false, false, false, false, false]) rfl (by kernel_rfl) (by kernel_rfl) (by kernel_rfl) (fun _ _ _ h => h) (Sd.of (Mv.refl S26.at') [] rfl) rfl rfl rfl rfl (fun _ hz => (r_move rfl (F24.ev 0 rfl))) fun _ F27 => ?_
       refine g_take F27 rfl (i := 1) (listed' := #[true, true, false, false, false, false, false, false]) rfl (by kernel_rfl) (by kernel_rfl) (by kernel_rfl) (fun _ _ _ h => h) (Sd.of (Mv.refl S26.at') [] rfl) rfl rfl rfl rfl (fun _ hz => (r_move rfl (F27.ev 5 rfl))) fun _ F28 => ?_
       obtain ⟨B29, O29, y29, ad29, hy29, oky29, ln29, cl29⟩ := Rd.atK (Nat.succ_pos _) (Rd.mv (Nat.succ_pos _) V_v_a (S5.trans S26)) j (by first | assumption | omega)
       clear ln29
       obtain rfl := Option.some.inj (hx1.symm.trans hy29)
       clear hy29 oky29
       refine g_take F28 rfl (i := 2) (listed' := #[true, true, true, false, false, false, false, false]) rfl (by kernel_rfl) (by kernel_rfl) (by kernel_rfl) (fun _ _ _ h => h) (Sd.of (Mv.refl S26.at') [] rfl) rfl rfl rfl rfl (fun _ hz => (r_indexAddr (i := j) ET_66 rfl ((F28.ev 21 rfl).trans (by rw [ad29])) (F28.ev 22 rfl) (by omega) (by first | assumption | omega))) fun _ F30 => ?_
       refine g_take F30 rfl (i := 3) (listed' := #[true, true, true, true, false, false, false, false]) rfl (by kernel_rfl) (by kernel_rfl) (by kernel_rfl) (fun _ _ _ h => h) (Sd.of (Mv.refl S26.at') [] rfl) rfl rfl rfl rfl (fun _ hz => (r_field FI_148_1 rfl (F30.ev 23 rfl) rfl)) fun _ F31 => ?_
       refine g_take (v := .string x1.name) F31 rfl (i := 4) (listed' := #[true, true, true, true, true, false, false, false]) rfl (by kernel_rfl) (by kernel_rfl) (by kernel_rfl) (fun _ _ _ h => h) (Sd.of (Mv.refl S26.at') [] rfl) rfl rfl rfl rfl (fun _ hz => (r_load (cs := [.string x1.name]) TI_9 rfl (F31.ev 24 rfl) rfl (fun _ => rfl) (elem_sub (f := 1) (cl29 _ hz.kp) [.string x1.name] rfl))) fun _ F32 => ?_
       refine g_take F32 rfl (i := 5) (listed' := #[true, true, true, true, true, true, false, false]) rfl (by kernel_rfl) (by kernel_rfl) (by kernel_rfl) (fun _ _ _ h => h) (Sd.of (Mv.refl S26.at') [] rfl) rfl rfl rfl rfl (fun _ hz => (r_move rfl (F32.ev 1 rfl))) fun _ F33 => ?_
       refine d_one (i := 6) (listed' := #[true, true, true, true, true, true, true, false]) rfl (by kernel_rfl) rfl rfl ?_
       refine f_call F33 CF_127 rfl rfl rfl rfl (lc (F33.ev 26 rfl) rfl) (laws_markText_c (H := fun _ => True) (k := kk + 1) ⟨by omega, by first | omega | (unfold i64ok at *; omega)⟩) ?_
       rintro _ w34 ⟨rfl, m34, ok_r0_34⟩
       refine ⟨_, rfl, fun _ F35 => ?_⟩
       have S34 := At.frame0 S26.at' m34
       clear m34
       refine ⟨Sd.of S34 [] rfl, ?_⟩
       refine g_take F35 rfl (i := 7) (listed' := #[true, true, true, true, true, true, true, true]) rfl (by kernel_rfl) (by kernel_rfl) (by kernel_rfl) (fun _ _ _ h => h) (Sd.of S34 [] rfl) rfl rfl rfl rfl (fun _ hz => (r_cmps (b := (decide (x1.name ≠ (markT (kk + 1))))) (.inr (.inl rfl)) rfl (F35.ev 25 rfl) (F35.ev 27 rfl) rfl)) fun _ F36 => ?_
       rw [show (decide (x1.name ≠ (markT (kk + 1)))) = false from decide_eq_false (fun h => h (by rw [(marksOf_at p0 hx1).1, hj_1]; rfl))] at F36
       refine wpAnyH_done (by kernel_rfl) (x_normal ?_) _
       exact ⟨F36.cut rfl, ((S26.trans S34).pick [] rfl)⟩
     · rintro a37 w37 ⟨F37, S37⟩
       refine x_normal (wp_cond_false (F37.ev 28 rfl) (wp_skip (x_normal (wp_seq (wp_region_lit (l_op (f_mv F37 rfl rfl rfl rfl rfl fun _ F38 => ?_)))))))
       refine l_op (f_val F38 rfl rfl (r_add (z := (((kk + 1) + 1 : Nat) : Int)) rfl (F38.ev 29 rfl) rfl (by first | rfl | omega) ⟨by first | omega | (unfold i64ok at *; omega), by first | omega | (unfold i64ok at *; omega)⟩) rfl fun _ F39 => ?_)
       refine l_op (f_as F39 rfl rfl rfl rfl rfl fun _ F40 => ?_)
       have F41 : Fr 70 [(1, .int .i64 (((kk + 1) + 1 : Nat) : Int)), (0, .slice a_a a_n a_c), (5, .int .i64 ((j : Nat) : Int))] _ := F40.cut rfl
       clear F37 F38 F39 F40
       refine s_end (x_normal (wp_seq (wp_seq ?_)))
       refine x_draw (fun aZ wZ => Fr 70 [(0, .slice a_a a_n a_c), (1, .int .i64 (((kk + 1) + 1 : Nat) : Int)), (5, .int .i64 ((j : Nat) : Int)), (38, .bool false)] aZ ∧ Mv [] w37 [] wZ) [] mixed S37.at' (listed := #[false, false, false, false, false, false, false, false]) rfl (fun w43 S43 => ?_) [] rfl ?_
       · skip
         refine g_take F41 rfl (i := 0) (listed' := #[true, false, false, false, false, false, false, false]) rfl (by kernel_rfl) (by kernel_rfl) (by kernel_rfl) (fun _ _ _ h => h) (Sd.of (Mv.refl S43.at') [] rfl) rfl rfl rfl rfl (fun _ hz => (r_move rfl (F41.ev 0 rfl))) fun _ F44 => ?_
         refine g_take F44 rfl (i := 1) (listed' := #[true, true, false, false, false, false, false, false]) rfl (by kernel_rfl) (by kernel_rfl) (by kernel_rfl) (fun _ _ _ h => h) (Sd.of (Mv.refl S43.at') [] rfl) rfl rfl rfl rfl (fun _ hz => (r_move rfl (F44.ev 5 rfl))) fun _ F45 => ?_
         obtain ⟨B46, O46, y46, ad46, hy46, oky46, ln46, cl46⟩ := Rd.atK (Nat.succ_pos _) (Rd.mv (Nat.succ_pos _) V_v_a (S5.trans (S37.trans S43))) j (by first | assumption | omega)
         clear ln46
         obtain rfl := Option.some.inj (hx1.symm.trans hy46)
         clear hy46 oky46
         refine g_take F45 rfl (i := 2) (listed' := #[true, true, true, false, false, false, false, false]) rfl (by kernel_rfl) (by kernel_rfl) (by kernel_rfl) (fun _ _ _ h => h) (Sd.of (Mv.refl S43.at') [] rfl) rfl rfl rfl rfl (fun _ hz => (r_indexAddr (i := j) ET_66 rfl ((F45.ev 31 rfl).trans (by rw [ad46])) (F45.ev 32 rfl) (by omega) (by first | assumption | omega))) fun _ F47 => ?_
         refine g_take F47 rfl (i := 3) (listed' := #[true, true, true, true, false, false, false, false]) rfl (by kernel_rfl) (by kernel_rfl) (by kernel_rfl) (fun _ _ _ h => h) (Sd.of (Mv.refl S43.at') [] rfl) rfl rfl rfl rfl (fun _ hz => (r_field FI_148_2 rfl (F47.ev 33 rfl) rfl)) fun _ F48 => ?_
         refine g_take (v := .string x1.to_) F48 rfl (i := 4) (listed' := #[true, true, true, true, true, false, false, false]) rfl (by kernel_rfl) (by kernel_rfl) (by kernel_rfl) (fun _ _ _ h => h) (Sd.of (Mv.refl S43.at') [] rfl) rfl rfl rfl rfl (fun _ hz => (r_load (cs := [.string x1.to_]) TI_9 rfl (F48.ev 34 rfl) rfl (fun _ => rfl) (elem_sub (f := 2) (cl46 _ hz.kp) [.string x1.to_] rfl))) fun _ F49 => ?_
         refine g_take F49 rfl (i := 5) (listed' := #[true, true, true, true, true, true, false, false]) rfl (by kernel_rfl) (by kernel_rfl) (by kernel_rfl) (fun _ _ _ h => h) (Sd.of (Mv.refl S43.at') [] rfl) rfl rfl rfl rfl (fun _ hz => (r_move rfl (F49.ev 1 rfl))) fun _ F50 => ?_
         refine d_one (i := 6) (listed' := #[true, true, true, true, true, true, true, false]) rfl (by kernel_rfl) rfl rfl ?_
         refine f_call F50 CF_127 rfl rfl rfl rfl (lc (F50.ev 36 rfl) rfl) (laws_markText_c (H := fun _ => True) (k := (kk + 1) + 1) ⟨by omega, by first | omega | (unfold i64ok at *; omega)⟩) ?_
         rintro _ w51 ⟨rfl, m51, ok_r0_51⟩
         refine ⟨_, rfl, fun _ F52 => ?_⟩
         have S51 := At.frame0 S43.at' m51
         clear m51
         refine ⟨Sd.of S51 [] rfl, ?_⟩
         refine g_take F52 rfl (i := 7) (listed' := #[true, true, true, true, true, true, true, true]) rfl (by kernel_rfl) (by kernel_rfl) (by kernel_rfl) (fun _ _ _ h => h) (Sd.of S51 [] rfl) rfl rfl rfl rfl (fun _ hz => (r_cmps (b := (decide (x1.to_ ≠ (markT ((kk + 1) + 1))))) (.inr (.inl rfl)) rfl (F52.ev 35 rfl) (F52.ev 37 rfl) rfl)) fun _ F53 => ?_
         rw [show (decide (x1.to_ ≠ (markT ((kk + 1) + 1)))) = false from decide_eq_false (fun h => h (by rw [(marksOf_at p0 hx1).1, hj_1]; rfl))] at F53
         refine wpAnyH_done (by kernel_rfl) (x_normal ?_) _
         exact ⟨F53.cut rfl, ((S43.trans S51).pick [] rfl)⟩
       · rintro a54 w54 ⟨F54, S54⟩
         refine x_normal (wp_cond_false (F54.ev 38 rfl) (wp_skip (x_normal (wp_seq (wp_region_lit (l_op (f_mv F54 rfl rfl rfl rfl rfl fun _ F55 => ?_)))))))
         refine l_op (f_val F55 rfl rfl (r_add (z := ((((kk + 1) + 1) + 1 : Nat) : Int)) rfl (F55.ev 39 rfl) rfl (by first | rfl | omega) ⟨by first | omega | (unfold i64ok at *; omega), by first | omega | (unfold i64ok at *; omega)⟩) rfl fun _ F56 => ?_)
         refine l_op (f_as F56 rfl rfl rfl rfl rfl fun _ F57 => ?_)
         have F58 : Fr 70 [(1, .int .i64 ((((kk + 1) + 1) + 1 : Nat) : Int)), (0, .slice a_a a_n a_c), (5, .int .i64 ((j : Nat) : Int))] _ := F57.cut rfl
         clear F54 F55 F56 F57
         refine s_end (x_normal (wp_seq (wp_seq (wp_region_lit (l_op (f_mv F58 rfl rfl rfl rfl rfl fun _ F59 => ?_))))))
         refine l_op (f_mv F59 rfl rfl rfl rfl rfl fun _ F60 => ?_)
         obtain ⟨B61, O61, y61, ad61, hy61, oky61, ln61, cl61⟩ := Rd.at (Rd.mv (Nat.succ_pos _) V_v_a (S5.trans (S37.trans S54))) j (by first | assumption | omega)
         clear ln61
         obtain rfl := Option.some.inj (hx1.symm.trans hy61)
         clear hy61 oky61
         refine l_op (f_val F60 rfl rfl (r_indexAddr (i := j) ET_66 rfl ((F60.ev 41 rfl).trans (by rw [ad61])) (F60.ev 42 rfl) (by omega) (by first | assumption | omega)) rfl fun _ F62 => ?_)
         refine l_op (f_val F62 rfl rfl (r_field FI_148_3 rfl (F62.ev 43 rfl) rfl) rfl fun _ F63 => ?_)
         refine l_op (f_val (v := .int .i64 x1.a) F63 rfl rfl (r_load (cs := [.int .i64 x1.a]) TI_3 rfl (F63.ev 44 rfl) rfl (fun _ => rfl) (elem_sub (f := 3) cl61 [.int .i64 x1.a] rfl)) rfl fun _ F64 => ?_)
         refine l_op (f_mv F64 rfl rfl rfl rfl rfl fun _ F65 => ?_)
         refine l_op (f_val F65 rfl rfl (r_cmp (b := decide (x1.a ≠ ((((kk + 1) + 1) + 1 : Nat) : Int))) (.inr (.inl rfl)) rfl (F65.ev 45 rfl) (F65.ev 46 rfl) (dec_of (by omega))) rfl fun _ F66 => ?_)
         rw [show (decide (x1.a ≠ ((((kk + 1) + 1) + 1 : Nat) : Int))) = false from decide_eq_false (fun h => h (by rw [(marksOf_at p0 hx1).1, hj_1]; rfl))] at F66
         have F67 : Fr 70 [(47, .bool false), (1, .int .i64 ((((kk + 1) + 1) + 1 : Nat) : Int)), (0, .slice a_a a_n a_c), (5, .int .i64 ((j : Nat) : Int))] _ := F66.cut rfl
         clear F58 F59 F60 F62 F63 F64 F65 F66
         refine s_end (x_normal (wp_cond_false (F67.ev 47 rfl) (wp_skip (x_normal (wp_seq (wp_region_lit (l_op (f_mv F67 rfl rfl rfl rfl rfl fun _ F68 => ?_))))))))
         refine l_op (f_val F68 rfl rfl (r_add (z := (((((kk + 1) + 1) + 1) + 1 : Nat) : Int)) rfl (F68.ev 48 rfl) rfl (by first | rfl | omega) ⟨by first | omega | (unfold i64ok at *; omega), by first | omega | (unfold i64ok at *; omega)⟩) rfl fun _ F69 => ?_)
         refine l_op (f_as F69 rfl rfl rfl rfl rfl fun _ F70 => ?_)
         have F71 : Fr 70 [(1, .int .i64 (((((kk + 1) + 1) + 1) + 1 : Nat) : Int)), (0, .slice a_a a_n a_c), (5, .int .i64 ((j : Nat) : Int))] _ := F70.cut rfl
         clear F67 F68 F69 F70
         refine s_end (x_normal (wp_seq (wp_seq (wp_region_lit (l_op (f_mv F71 rfl rfl rfl rfl rfl fun _ F72 => ?_))))))
         refine l_op (f_mv F72 rfl rfl rfl rfl rfl fun _ F73 => ?_)
         obtain ⟨B74, O74, y74, ad74, hy74, oky74, ln74, cl74⟩ := Rd.at (Rd.mv (Nat.succ_pos _) V_v_a (S5.trans (S37.trans S54))) j (by first | assumption | omega)
         clear ln74
         obtain rfl := Option.some.inj (hx1.symm.trans hy74)
         clear hy74 oky74
         refine l_op (f_val F73 rfl rfl (r_indexAddr (i := j) ET_66 rfl ((F73.ev 50 rfl).trans (by rw [ad74])) (F73.ev 51 rfl) (by omega) (by first | assumption | omega)) rfl fun _ F75 => ?_)
         refine l_op (f_val F75 rfl rfl (r_field FI_148_4 rfl (F75.ev 52 rfl) rfl) rfl fun _ F76 => ?_)
         refine l_op (f_val (v := .int .i64 x1.b) F76 rfl rfl (r_load (cs := [.int .i64 x1.b]) TI_3 rfl (F76.ev 53 rfl) rfl (fun _ => rfl) (elem_sub (f := 4) cl74 [.int .i64 x1.b] rfl)) rfl fun _ F77 => ?_)
         refine l_op (f_mv F77 rfl rfl rfl rfl rfl fun _ F78 => ?_)
         refine l_op (f_val F78 rfl rfl (r_cmp (b := decide (x1.b ≠ (((((kk + 1) + 1) + 1) + 1 : Nat) : Int))) (.inr (.inl rfl)) rfl (F78.ev 54 rfl) (F78.ev 55 rfl) (dec_of (by omega))) rfl fun _ F79 => ?_)
         rw [show (decide (x1.b ≠ (((((kk + 1) + 1) + 1) + 1 : Nat) : Int))) = false from decide_eq_false (fun h => h (by rw [(marksOf_at p0 hx1).1, hj_1]; rfl))] at F79
         have F80 : Fr 70 [(56, .bool false), (1, .int .i64 (((((kk + 1) + 1) + 1) + 1 : Nat) : Int)), (0, .slice a_a a_n a_c), (5, .int .i64 ((j : Nat) : Int))] _ := F79.cut rfl
         clear F71 F72 F73 F75 F76 F77 F78 F79
         refine s_end (x_normal (wp_cond_false (F80.ev 56 rfl) (wp_skip (x_normal (wp_seq (wp_region_lit (l_op (f_mv F80 rfl rfl rfl rfl rfl fun _ F81 => ?_))))))))
         refine l_op (f_val F81 rfl rfl (r_add (z := ((((((kk + 1) + 1) + 1) + 1) + 1 : Nat) : Int)) rfl (F81.ev 57 rfl) rfl (by first | rfl | omega) ⟨by first | omega | (unfold i64ok at *; omega), by first | omega | (unfold i64ok at *; omega)⟩) rfl fun _ F82 => ?_)
         refine l_op (f_as F82 rfl rfl rfl rfl rfl fun _ F83 => ?_)
         have F84 : Fr 70 [(1, .int .i64 ((((((kk + 1) + 1) + 1) + 1) + 1 : Nat) : Int)), (0, .slice a_a a_n a_c), (5, .int .i64 ((j : Nat) : Int))] _ := F83.cut rfl
         clear F80 F81 F82 F83
         refine s_end (x_normal (wp_seq (wp_seq ?_)))
         refine x_draw (fun aZ wZ => Fr 70 [(0, .slice a_a a_n a_c), (1, .int .i64 ((((((kk + 1) + 1) + 1) + 1) + 1 : Nat) : Int)), (5, .int .i64 ((j : Nat) : Int)), (66, .bool false)] aZ ∧ Mv [] w54 [] wZ) [] mixed S54.at' (listed := #[false, false, false, false, false, false, false, false]) rfl (fun w86 S86 => ?_) [] rfl ?_
         · skip
           refine g_take F84 rfl (i := 0) (listed' := #[true, false, false, false, false, false, false, false]) rfl (by kernel_rfl) (by kernel_rfl) (by kernel_rfl) (fun _ _ _ h => h) (Sd.of (Mv.refl S86.at') [] rfl) rfl rfl rfl rfl (fun _ hz => (r_move rfl (F84.ev 0 rfl))) fun _ F87 => ?_
           refine g_take F87 rfl (i := 1) (listed' := #[true, true, false, false, false, false, false, false]) rfl (by kernel_rfl) (by kernel_rfl) (by kernel_rfl) (fun _ _ _ h => h) (Sd.of (Mv.refl S86.at') [] rfl) rfl rfl rfl rfl (fun _ hz => (r_move rfl (F87.ev 5 rfl))) fun _ F88 => ?_
           obtain ⟨B89, O89, y89, ad89, hy89, oky89, ln89, cl89⟩ := Rd.atK (Nat.succ_pos _) (Rd.mv (Nat.succ_pos _) V_v_a (S5.trans (S37.trans (S54.trans S86)))) j (by first | assumption | omega)
           clear ln89
           obtain rfl := Option.some.inj (hx1.symm.trans hy89)
           clear hy89 oky89
           refine g_take F88 rfl (i := 2) (listed' := #[true, true, true, false, false, false, false, false]) rfl (by kernel_rfl) (by kernel_rfl) (by kernel_rfl) (fun _ _ _ h => h) (Sd.of (Mv.refl S86.at') [] rfl) rfl rfl rfl rfl (fun _ hz => (r_indexAddr (i := j) ET_66 rfl ((F88.ev 59 rfl).trans (by rw [ad89])) (F88.ev 60 rfl) (by omega) (by first | assumption | omega))) fun _ F90 => ?_
           refine g_take F90 rfl (i := 3) (listed' := #[true, true, true, true, false, false, false, false]) rfl (by kernel_rfl) (by kernel_rfl) (by kernel_rfl) (fun _ _ _ h => h) (Sd.of (Mv.refl S86.at') [] rfl) rfl rfl rfl rfl (fun _ hz => (r_field FI_148_5 rfl (F90.ev 61 rfl) rfl)) fun _ F91 => ?_
           refine g_take (v := .string x1.text) F91 rfl (i := 4) (listed' := #[true, true, true, true, true, false, false, false]) rfl (by kernel_rfl) (by kernel_rfl) (by kernel_rfl) (fun _ _ _ h => h) (Sd.of (Mv.refl S86.at') [] rfl) rfl rfl rfl rfl (fun _ hz => (r_load (cs := [.string x1.text]) TI_9 rfl (F91.ev 62 rfl) rfl (fun _ => rfl) (elem_sub (f := 5) (cl89 _ hz.kp) [.string x1.text] rfl))) fun _ F92 => ?_
           refine g_take F92 rfl (i := 5) (listed' := #[true, true, true, true, true, true, false, false]) rfl (by kernel_rfl) (by kernel_rfl) (by kernel_rfl) (fun _ _ _ h => h) (Sd.of (Mv.refl S86.at') [] rfl) rfl rfl rfl rfl (fun _ hz => (r_move rfl (F92.ev 1 rfl))) fun _ F93 => ?_
           refine d_one (i := 6) (listed' := #[true, true, true, true, true, true, true, false]) rfl (by kernel_rfl) rfl rfl ?_
           refine f_call F93 CF_127 rfl rfl rfl rfl (lc (F93.ev 64 rfl) rfl) (laws_markText_c (H := fun _ => True) (k := ((((kk + 1) + 1) + 1) + 1) + 1) ⟨by omega, by first | omega | (unfold i64ok at *; omega)⟩) ?_
           rintro _ w94 ⟨rfl, m94, ok_r0_94⟩
           refine ⟨_, rfl, fun _ F95 => ?_⟩
           have S94 := At.frame0 S86.at' m94
           clear m94
           refine ⟨Sd.of S94 [] rfl, ?_⟩
           refine g_take F95 rfl (i := 7) (listed' := #[true, true, true, true, true, true, true, true]) rfl (by kernel_rfl) (by kernel_rfl) (by kernel_rfl) (fun _ _ _ h => h) (Sd.of S94 [] rfl) rfl rfl rfl rfl (fun _ hz => (r_cmps (b := (decide (x1.text ≠ (markT (((((kk + 1) + 1) + 1) + 1) + 1))))) (.inr (.inl rfl)) rfl (F95.ev 63 rfl) (F95.ev 65 rfl) rfl)) fun _ F96 => ?_
           rw [show (decide (x1.text ≠ (markT (((((kk + 1) + 1) + 1) + 1) + 1)))) = false from decide_eq_false (fun h => h (by rw [(marksOf_at p0 hx1).1, hj_1]; rfl))] at F96
           refine wpAnyH_done (by kernel_rfl) (x_normal ?_) _
           exact ⟨F96.cut rfl, ((S86.trans S94).pick [] rfl)⟩
         · rintro a97 w97 ⟨F97, S97⟩
           refine x_normal (wp_cond_false (F97.ev 66 rfl) (wp_skip (x_normal (wp_region_lit (l_op (f_mv F97 rfl rfl rfl rfl rfl fun _ F98 => ?_))))))
           refine l_op (f_val F98 rfl rfl (r_add (z := (((((((kk + 1) + 1) + 1) + 1) + 1) + 1 : Nat) : Int)) rfl (F98.ev 67 rfl) rfl (by first | rfl | omega) ⟨by first | omega | (unfold i64ok at *; omega), by first | omega | (unfold i64ok at *; omega)⟩) rfl fun _ F99 => ?_)
           refine l_op (f_as F99 rfl rfl rfl rfl rfl fun _ F100 => ?_)
           have F101 : Fr 70 [(1, .int .i64 (((((((kk + 1) + 1) + 1) + 1) + 1) + 1 : Nat) : Int)), (0, .slice a_a a_n a_c), (5, .int .i64 ((j : Nat) : Int))] _ := F100.cut rfl
           clear F97 F98 F99 F100
           refine s_end (x_block_normal (x_normal (wp_region_lit (l_op (f_mv F101 rfl rfl rfl rfl rfl fun _ F102 => ?_)))))
           refine l_op (f_val F102 rfl rfl (r_add (z := ((j + 1 : Nat) : Int)) rfl (F102.ev 10 rfl) rfl (by first | rfl | omega) ⟨by first | omega | (unfold i64ok at *; omega), by first | omega | (unfold i64ok at *; omega)⟩) rfl fun _ F103 => ?_)
           refine l_op (f_as F103 rfl rfl rfl rfl rfl fun _ F104 => ?_)
           have F105 : Fr 70 [(5, .int .i64 ((j + 1 : Nat) : Int)), (1, .int .i64 (((((((kk + 1) + 1) + 1) + 1) + 1) + 1 : Nat) : Int)), (0, .slice a_a a_n a_c)] _ := F104.cut rfl
           clear F101 F102 F103 F104
           refine s_end ?_
           refine x_normal ⟨j + 1, by omega, (((((kk + 1) + 1) + 1) + 1) + 1) + 1, F105.cut rfl, ((S5.trans (S37.trans (S54.trans S97))).pick [] rfl), by omega, by omega⟩
   · skip
     refine wp_exit (x_then_exit (x_then_exit (x_block_here (x_normal (wp_seq (wp_region_lit (l_op (f_mv F10 rfl rfl rfl rfl rfl fun _ F106 => ?_))))))))
     refine l_op (f_as F106 rfl rfl rfl rfl rfl fun _ F107 => ?_)
     have F108 : Fr 70 [(4, .int .i64 ((kk : Nat) : Int))] _ := F107.cut rfl
     clear F10 F106 F107
     refine s_end (x_normal (wp_ret ?_))
     refine x_done (v := .int .i64 ((kk : Nat) : Int)) F108 (results_1 Try.results82 (.tmp (F108.ev 4 rfl))) ?_
     exact ⟨(by rw [(show ((kk : Nat) : Int) = ((k + 6 * n : Nat) : Int) from by omega)]), (Mv.pick S5 [] rfl)⟩
theorem laws_heldAnswerS_c {w : World} {H : Nat → Prop} {a : List AnsD} {a_a : Option Addr} {a_n a_c : Nat} {k : Nat} {n : Nat} (v_a : Rd 3 encR okR H w (.slice a_a a_n a_c) a) (h_k : i64ok (k : Int)) (p0 : a = marksOf markR k n) (p1 : k + 3 * n ≤ 4611686018427387904) :
    Calls Try.prog 83 #[.slice a_a a_n a_c, .int .i64 ((k : Nat) : Int)] w fun e w' => e = .returned (.int .i64 ((k + 3 * n : Nat) : Int)) ∧ Mv [] w [] w' := by
 have uU : True := (fun _ _ => trivial) h_k p1
 clear uU
 have V_v_a : Rd 3 encR okR (V H w []) w (.slice a_a a_n a_c) a := Rd.start v_a (fun _ _ => fps_nil _)
 obtain ⟨ln_a, le_a, mx_a, ni_a⟩ := Rd.inv v_a
 refine calls_enter 41 Try.func83 rfl Try.ntmps83 (Nat.le_of_ble_eq_true rfl) (fun _ F0i => ?_)
 have F0 : Fr 41 [(0, .slice a_a a_n a_c), (1, .int .i64 ((k : Nat) : Int))] _ := F0i
 clear F0i
 refine wp_seq ?_
 have hln : a_n = n := by rw [ln_a, p0, marksOf_length]
 refine wp_region_lit (l_op (f_val F0 rfl rfl (r_assign rfl rfl) rfl fun _ F1 => ?_))
 have F2 : Fr 41 [(4, .int .i64 0), (0, .slice a_a a_n a_c), (1, .int .i64 ((k : Nat) : Int))] _ := F1.cut rfl
 clear F0 F1
 refine s_end (x_normal (wp_seq (wp_seq (wp_region_lit (l_op (f_val F2 rfl rfl (r_assign rfl rfl) rfl fun _ F3 => ?_))))))
 have F4 : Fr 41 [(5, .int .i64 0), (0, .slice a_a a_n a_c), (1, .int .i64 ((k : Nat) : Int))] _ := F3.cut rfl
 clear F2 F3
 refine s_end (x_normal (wp_block ?_))
 refine x_loop (fun (j : Nat) aZ wZ => ∃ (kk : Nat), Fr 41 [(5, .int .i64 ((j : Nat) : Int)), (0, .slice a_a a_n a_c), (1, .int .i64 ((kk : Nat) : Int))] aZ ∧ Mv [] w [] wZ ∧ (j ≤ a_n) ∧ (kk = k + 3 * j)) (fun (j : Nat) => a_n - j) (0) ?_ ?_
 · exact ⟨k, F4.cut rfl, (Mv.refl (At.nil w)), by omega, by omega⟩
 · rintro j a5 w5 ⟨kk, F5, S5, hj_0, hj_1⟩
   refine wp_seq (wp_seq (wp_region_lit (l_op (f_mv F5 rfl rfl rfl rfl rfl fun _ F6 => ?_))))
   refine l_op (f_mv F6 rfl rfl rfl rfl rfl fun _ F7 => ?_)
   refine l_op (f_val F7 rfl rfl (r_len Try.underlying67 rfl (F7.ev 7 rfl)) rfl fun _ F8 => ?_)
   refine l_op (f_val F8 rfl rfl (r_cmp (b := decide (j < a_n)) (.inr (.inr (.inl rfl))) rfl (F8.ev 6 rfl) (F8.ev 8 rfl) (dec_of (by omega))) rfl fun _ F9 => ?_)
   have F10 : Fr 41 [(9, .bool (decide (j < a_n))), (5, .int .i64 ((j : Nat) : Int)), (0, .slice a_a a_n a_c), (1, .int .i64 ((kk : Nat) : Int))] _ := F9.cut rfl
   clear F5 F6 F7 F8 F9
   refine s_end (x_normal (x_cond (p := j < a_n) (F10.ev 9 rfl) (fun h11 => ?_) (fun h11 => ?_)))
   · skip
     refine wp_skip (x_normal (wp_seq (wp_block (wp_seq (wp_seq (wp_region_lit (l_op (f_mv F10 rfl rfl rfl rfl rfl fun _ F12 => ?_))))))))
     refine l_op (f_mv F12 rfl rfl rfl rfl rfl fun _ F13 => ?_)
     obtain ⟨B14, O14, x1, ad14, hx1, okx1, ln14, cl14⟩ := Rd.at (Rd.mv (Nat.succ_pos _) V_v_a S5) j (by first | assumption | omega)
     clear ln14
     refine l_op (f_val F13 rfl rfl (r_indexAddr (i := j) ET_67 rfl ((F13.ev 12 rfl).trans (by rw [ad14])) (F13.ev 13 rfl) (by omega) (by first | assumption | omega)) rfl fun _ F15 => ?_)
     refine l_op (f_val F15 rfl rfl (r_field FI_151_0 rfl (F15.ev 14 rfl) rfl) rfl fun _ F16 => ?_)
     refine l_op (f_val (v := .int .i64 x1.code) F16 rfl rfl (r_load (cs := [.int .i64 x1.code]) TI_3 rfl (F16.ev 15 rfl) rfl (fun _ => rfl) (elem_sub (f := 0) cl14 [.int .i64 x1.code] rfl)) rfl fun _ F17 => ?_)
     refine l_op (f_mv F17 rfl rfl rfl rfl rfl fun _ F18 => ?_)
     refine l_op (f_val F18 rfl rfl (r_cmp (b := decide (x1.code ≠ ((kk : Nat) : Int))) (.inr (.inl rfl)) rfl (F18.ev 16 rfl) (F18.ev 17 rfl) (dec_of (by omega))) rfl fun _ F19 => ?_)
     rw [show (decide (x1.code ≠ ((kk : Nat) : Int))) = false from decide_eq_false (fun h => h (by rw [(marksOf_at p0 hx1).1, hj_1]; rfl))] at F19
     have F20 : Fr 41 [(18, .bool false), (5, .int .i64 ((j : Nat) : Int)), (0, .slice a_a a_n a_c), (1, .int .i64 ((kk : Nat) : Int))] _ := F19.cut rfl
     clear F10 F12 F13 F15 F16 F17 F18 F19
     refine s_end (x_normal (wp_cond_false (F20.ev 18 rfl) (wp_skip (x_normal (wp_seq (wp_region_lit (l_op (f_mv F20 rfl rfl rfl rfl rfl fun _ F21 => ?_))))))))
     refine l_op (f_val F21 rfl rfl (r_add (z := ((kk + 1 : Nat) : Int)) rfl (F21.ev 19 rfl) rfl (by first | rfl | omega) ⟨by first | omega | (unfold i64ok at *; omega), by first | omega | (unfold i64ok at *; omega)⟩) rfl fun _ F22 => ?_)
     refine l_op (f_as F22 rfl rfl rfl rfl rfl fun _ F23 => ?_)
     have F24 : Fr 41 [(1, .int .i64 ((kk + 1 : Nat) : Int)), (5, .int .i64 ((j : Nat) : Int)), (0, .slice a_a a_n a_c)] _ := F23.cut rfl
     clear F20 F21 F22 F23
     refine s_end (x_normal (wp_seq (wp_seq (wp_region_lit (l_op (f_mv F24 rfl rfl rfl rfl rfl fun _ F25 => ?_))))))
     refine l_op (f_mv F25 rfl rfl rfl rfl rfl fun _ F26 => ?_)
     obtain ⟨B27, O27, y27, ad27, hy27, oky27, ln27, cl27⟩ := Rd.at (Rd.mv (Nat.succ_pos _) V_v_a S5) j (by first | assumption | omega)
     clear ln27
     obtain rfl := Option.some.inj (hx1.symm.trans hy27)
     clear hy27 oky27
     refine l_op (f_val F26 rfl rfl (r_indexAddr (i := j) ET_67 rfl ((F26.ev 21 rfl).trans (by rw [ad27])) (F26.ev 22 rfl) (by omega) (by first | assumption | omega)) rfl fun _ F28 => ?_)
     refine l_op (f_val F28 rfl rfl (r_field FI_151_1 rfl (F28.ev 23 rfl) rfl) rfl fun _ F29 => ?_)
     refine l_op (f_val (v := .int .i64 x1.n) F29 rfl rfl (r_load (cs := [.int .i64 x1.n]) TI_3 rfl (F29.ev 24 rfl) rfl (fun _ => rfl) (elem_sub (f := 1) cl27 [.int .i64 x1.n] rfl)) rfl fun _ F30 => ?_)
     refine l_op (f_mv F30 rfl rfl rfl rfl rfl fun _ F31 => ?_)
     refine l_op (f_val F31 rfl rfl (r_cmp (b := decide (x1.n ≠ ((kk + 1 : Nat) : Int))) (.inr (.inl rfl)) rfl (F31.ev 25 rfl) (F31.ev 26 rfl) (dec_of (by omega))) rfl fun _ F32 => ?_)
     rw [show (decide (x1.n ≠ ((kk + 1 : Nat) : Int))) = false from decide_eq_false (fun h => h (by rw [(marksOf_at p0 hx1).1, hj_1]; rfl))] at F32
     have F33 : Fr 41 [(27, .bool false), (1, .int .i64 ((kk + 1 : Nat) : Int)), (5, .int .i64 ((j : Nat) : Int)), (0, .slice a_a a_n a_c)] _ := F32.cut rfl
     clear F24 F25 F26 F28 F29 F30 F31 F32
     refine s_end (x_normal (wp_cond_false (F33.ev 27 rfl) (wp_skip (x_normal (wp_seq (wp_region_lit (l_op (f_mv F33 rfl rfl rfl rfl rfl fun _ F34 => ?_))))))))
     refine l_op (f_val F34 rfl rfl (r_add (z := (((kk + 1) + 1 : Nat) : Int)) rfl (F34.ev 28 rfl) rfl (by first | rfl | omega) ⟨by first | omega | (unfold i64ok at *; omega), by first | omega | (unfold i64ok at *; omega)⟩) rfl fun _ F35 => ?_)
     refine l_op (f_as F35 rfl rfl rfl rfl rfl fun _ F36 => ?_)
     have F37 : Fr 41 [(1, .int .i64 (((kk + 1) + 1 : Nat) : Int)), (5, .int .i64 ((j : Nat) : Int)), (0, .slice a_a a_n a_c)] _ := F36.cut rfl
     clear F33 F34 F35 F36
     refine s_end (x_normal (wp_seq (wp_seq ?_)))
     refine x_draw (fun aZ wZ => Fr 41 [(0, .slice a_a a_n a_c), (1, .int .i64 (((kk + 1) + 1 : Nat) : Int)), (5, .int .i64 ((j : Nat) : Int)), (37, .bool false)] aZ ∧ Mv [] w5 [] wZ) [] mixed S5.at' (listed := #[false, false, false, false, false, false, false, false]) rfl (fun w39 S39 => ?_) [] rfl ?_
     · skip
       refine g_take F37 rfl (i := 0) (listed' := #[true, false, false, false, false, false, false, false]) rfl (by kernel_rfl) (by kernel_rfl) (by kernel_rfl) (fun _ _ _ h => h) (Sd.of (Mv.refl S39.at') [] rfl) rfl rfl rfl rfl (fun _ hz => (r_move rfl (F37.ev 0 rfl))) fun _ F40 => ?_
       refine g_take F40 rfl (i := 1) (listed' := #[true, true, false, false, false, false, false, false]) rfl (by kernel_rfl) (by kernel_rfl) (by kernel_rfl) (fun _ _ _ h => h) (Sd.of (Mv.refl S39.at') [] rfl) rfl rfl rfl rfl (fun _ hz => (r_move rfl (F40.ev 5 rfl))) fun _ F41 => ?_
       obtain ⟨B42, O42, y42, ad42, hy42, oky42, ln42, cl42⟩ := Rd.atK (Nat.succ_pos _) (Rd.mv (Nat.succ_pos _) V_v_a (S5.trans S39)) j (by first | assumption | omega)
       clear ln42
       obtain rfl := Option.some.inj (hx1.symm.trans hy42)
       clear hy42 oky42
       refine g_take F41 rfl (i := 2) (listed' := #[true, true, true, false, false, false, false, false]) rfl (by kernel_rfl) (by kernel_rfl) (by kernel_rfl) (fun _ _ _ h => h) (Sd.of (Mv.refl S39.at') [] rfl) rfl rfl rfl rfl (fun _ hz => (r_indexAddr (i := j) ET_67 rfl ((F41.ev 30 rfl).trans (by rw [ad42])) (F41.ev 31 rfl) (by omega) (by first | assumption | omega))) fun _ F43 => ?_
       refine g_take F43 rfl (i := 3) (listed' := #[true, true, true, true, false, false, false, false]) rfl (by kernel_rfl) (by kernel_rfl) (by kernel_rfl) (fun _ _ _ h => h) (Sd.of (Mv.refl S39.at') [] rfl) rfl rfl rfl rfl (fun _ hz => (r_field FI_151_2 rfl (F43.ev 32 rfl) rfl)) fun _ F44 => ?_
       refine g_take (v := .string x1.text) F44 rfl (i := 4) (listed' := #[true, true, true, true, true, false, false, false]) rfl (by kernel_rfl) (by kernel_rfl) (by kernel_rfl) (fun _ _ _ h => h) (Sd.of (Mv.refl S39.at') [] rfl) rfl rfl rfl rfl (fun _ hz => (r_load (cs := [.string x1.text]) TI_9 rfl (F44.ev 33 rfl) rfl (fun _ => rfl) (elem_sub (f := 2) (cl42 _ hz.kp) [.string x1.text] rfl))) fun _ F45 => ?_
       refine g_take F45 rfl (i := 5) (listed' := #[true, true, true, true, true, true, false, false]) rfl (by kernel_rfl) (by kernel_rfl) (by kernel_rfl) (fun _ _ _ h => h) (Sd.of (Mv.refl S39.at') [] rfl) rfl rfl rfl rfl (fun _ hz => (r_move rfl (F45.ev 1 rfl))) fun _ F46 => ?_
       refine d_one (i := 6) (listed' := #[true, true, true, true, true, true, true, false]) rfl (by kernel_rfl) rfl rfl ?_
       refine f_call F46 CF_127 rfl rfl rfl rfl (lc (F46.ev 35 rfl) rfl) (laws_markText_c (H := fun _ => True) (k := (kk + 1) + 1) ⟨by omega, by first | omega | (unfold i64ok at *; omega)⟩) ?_
       rintro _ w47 ⟨rfl, m47, ok_r0_47⟩
       refine ⟨_, rfl, fun _ F48 => ?_⟩
       have S47 := At.frame0 S39.at' m47
       clear m47
       refine ⟨Sd.of S47 [] rfl, ?_⟩
       refine g_take F48 rfl (i := 7) (listed' := #[true, true, true, true, true, true, true, true]) rfl (by kernel_rfl) (by kernel_rfl) (by kernel_rfl) (fun _ _ _ h => h) (Sd.of S47 [] rfl) rfl rfl rfl rfl (fun _ hz => (r_cmps (b := (decide (x1.text ≠ (markT ((kk + 1) + 1))))) (.inr (.inl rfl)) rfl (F48.ev 34 rfl) (F48.ev 36 rfl) rfl)) fun _ F49 => ?_
       rw [show (decide (x1.text ≠ (markT ((kk + 1) + 1)))) = false from decide_eq_false (fun h => h (by rw [(marksOf_at p0 hx1).1, hj_1]; rfl))] at F49
       refine wpAnyH_done (by kernel_rfl) (x_normal ?_) _
       exact ⟨F49.cut rfl, ((S39.trans S47).pick [] rfl)⟩
     · rintro a50 w50 ⟨F50, S50⟩
       refine x_normal (wp_cond_false (F50.ev 37 rfl) (wp_skip (x_normal (wp_region_lit (l_op (f_mv F50 rfl rfl rfl rfl rfl fun _ F51 => ?_))))))
       refine l_op (f_val F51 rfl rfl (r_add (z := ((((kk + 1) + 1) + 1 : Nat) : Int)) rfl (F51.ev 38 rfl) rfl (by first | rfl | omega) ⟨by first | omega | (unfold i64ok at *; omega), by first | omega | (unfold i64ok at *; omega)⟩) rfl fun _ F52 => ?_)
       refine l_op (f_as F52 rfl rfl rfl rfl rfl fun _ F53 => ?_)
       have F54 : Fr 41 [(1, .int .i64 ((((kk + 1) + 1) + 1 : Nat) : Int)), (0, .slice a_a a_n a_c), (5, .int .i64 ((j : Nat) : Int))] _ := F53.cut rfl
       clear F50 F51 F52 F53
       refine s_end (x_block_normal (x_normal (wp_region_lit (l_op (f_mv F54 rfl rfl rfl rfl rfl fun _ F55 => ?_)))))
       refine l_op (f_val F55 rfl rfl (r_add (z := ((j + 1 : Nat) : Int)) rfl (F55.ev 10 rfl) rfl (by first | rfl | omega) ⟨by first | omega | (unfold i64ok at *; omega), by first | omega | (unfold i64ok at *; omega)⟩) rfl fun _ F56 => ?_)
       refine l_op (f_as F56 rfl rfl rfl rfl rfl fun _ F57 => ?_)
       have F58 : Fr 41 [(5, .int .i64 ((j + 1 : Nat) : Int)), (1, .int .i64 ((((kk + 1) + 1) + 1 : Nat) : Int)), (0, .slice a_a a_n a_c)] _ := F57.cut rfl
       clear F54 F55 F56 F57
       refine s_end ?_
       refine x_normal ⟨j + 1, by omega, ((kk + 1) + 1) + 1, F58.cut rfl, ((S5.trans S50).pick [] rfl), by omega, by omega⟩
   · skip
     refine wp_exit (x_then_exit (x_then_exit (x_block_here (x_normal (wp_seq (wp_region_lit (l_op (f_mv F10 rfl rfl rfl rfl rfl fun _ F59 => ?_))))))))
     refine l_op (f_as F59 rfl rfl rfl rfl rfl fun _ F60 => ?_)
     have F61 : Fr 41 [(4, .int .i64 ((kk : Nat) : Int))] _ := F60.cut rfl
     clear F10 F59 F60
     refine s_end (x_normal (wp_ret ?_))
     refine x_done (v := .int .i64 ((kk : Nat) : Int)) F61 (results_1 Try.results83 (.tmp (F61.ev 4 rfl))) ?_
     exact ⟨(by rw [(show ((kk : Nat) : Int) = ((k + 3 * n : Nat) : Int) from by omega)]), (Mv.pick S5 [] rfl)⟩
theorem laws_heldIntS_c {w : World} {H : Nat → Prop} {a : List Int} {a_a : Option Addr} {a_n a_c : Nat} {k : Nat} {n : Nat} (v_a : Rd 1 encI okI H w (.slice a_a a_n a_c) a) (h_k : i64ok (k : Int)) (p0 : a = marksOf markI k n) (p1 : k + 1 * n ≤ 4611686018427387904) :
    Calls Try.prog 85 #[.slice a_a a_n a_c, .int .i64 ((k : Nat) : Int)] w fun e w' => e = .returned (.int .i64 ((k + n : Nat) : Int)) ∧ Mv [] w [] w' := by
 have uU : True := (fun _ _ => trivial) h_k p1
 clear uU
 have V_v_a : Rd 1 encI okI (V H w []) w (.slice a_a a_n a_c) a := Rd.start v_a (fun _ _ => fps_nil _)
 obtain ⟨ln_a, le_a, mx_a, ni_a⟩ := Rd.inv v_a
 refine calls_enter 21 Try.func85 rfl Try.ntmps85 (Nat.le_of_ble_eq_true rfl) (fun _ F0i => ?_)
 have F0 : Fr 21 [(0, .slice a_a a_n a_c), (1, .int .i64 ((k : Nat) : Int))] _ := F0i
 clear F0i
 refine wp_seq ?_
 have hln : a_n = n := by rw [ln_a, p0, marksOf_length]
 refine wp_region_lit (l_op (f_val F0 rfl rfl (r_assign rfl rfl) rfl fun _ F1 => ?_))
 have F2 : Fr 21 [(4, .int .i64 0), (0, .slice a_a a_n a_c), (1, .int .i64 ((k : Nat) : Int))] _ := F1.cut rfl
 clear F0 F1
 refine s_end (x_normal (wp_seq (wp_seq (wp_region_lit (l_op (f_val F2 rfl rfl (r_assign rfl rfl) rfl fun _ F3 => ?_))))))
 have F4 : Fr 21 [(5, .int .i64 0), (0, .slice a_a a_n a_c), (1, .int .i64 ((k : Nat) : Int))] _ := F3.cut rfl
 clear F2 F3
 refine s_end (x_normal (wp_block ?_))
 refine x_loop (fun (j : Nat) aZ wZ => ∃ (kk : Nat), Fr 21 [(5, .int .i64 ((j : Nat) : Int)), (0, .slice a_a a_n a_c), (1, .int .i64 ((kk : Nat) : Int))] aZ ∧ Mv [] w [] wZ ∧ (j ≤ a_n) ∧ (kk = k + 1 * j)) (fun (j : Nat) => a_n - j) (0) ?_ ?_
 · exact ⟨k, F4.cut rfl, (Mv.refl (At.nil w)), by omega, by omega⟩
 · rintro j a5 w5 ⟨kk, F5, S5, hj_0, hj_1⟩
   refine wp_seq (wp_seq (wp_region_lit (l_op (f_mv F5 rfl rfl rfl rfl rfl fun _ F6 => ?_))))
   refine l_op (f_mv F6 rfl rfl rfl rfl rfl fun _ F7 => ?_)
   refine l_op (f_val F7 rfl rfl (r_len Try.underlying53 rfl (F7.ev 7 rfl)) rfl fun _ F8 => ?_)
   refine l_op (f_val F8 rfl rfl (r_cmp (b := decide (j < a_n)) (.inr (.inr (.inl rfl))) rfl (F8.ev 6 rfl) (F8.ev 8 rfl) (dec_of (by omega))) rfl fun _ F9 => ?_)
   have F10 : Fr 21 [(9, .bool (decide (j < a_n))), (5, .int .i64 ((j : Nat) : Int)), (0, .slice a_a a_n a_c), (1, .int .i64 ((kk : Nat) : Int))] _ := F9.cut rfl
   clear F5 F6 F7 F8 F9
   refine s_end (x_normal (x_cond (p := j < a_n) (F10.ev 9 rfl) (fun h11 => ?_) (fun h11 => ?_)))
   · skip
     refine wp_skip (x_normal (wp_seq (wp_block (wp_seq (wp_seq (wp_region_lit (l_op (f_mv F10 rfl rfl rfl rfl rfl fun _ F12 => ?_))))))))
     refine l_op (f_mv F12 rfl rfl rfl rfl rfl fun _ F13 => ?_)
     obtain ⟨B14, O14, x1, ad14, hx1, okx1, ln14, cl14⟩ := Rd.at (Rd.mv (Nat.succ_pos _) V_v_a S5) j (by first | assumption | omega)
     clear ln14
     refine l_op (f_val F13 rfl rfl (r_indexAddr (i := j) ET_53 rfl ((F13.ev 12 rfl).trans (by rw [ad14])) (F13.ev 13 rfl) (by omega) (by first | assumption | omega)) rfl fun _ F15 => ?_)
     refine l_op (f_val (v := .int .i64 x1) F15 rfl rfl (r_load (cs := [.int .i64 x1]) TI_3 rfl (F15.ev 14 rfl) rfl (fun _ => rfl) (elem_sub (f := 0) cl14 [.int .i64 x1] rfl)) rfl fun _ F16 => ?_)
     refine l_op (f_mv F16 rfl rfl rfl rfl rfl fun _ F17 => ?_)
     refine l_op (f_val F17 rfl rfl (r_cmp (b := decide (x1 ≠ ((kk : Nat) : Int))) (.inr (.inl rfl)) rfl (F17.ev 15 rfl) (F17.ev 16 rfl) (dec_of (by omega))) rfl fun _ F18 => ?_)
     rw [show (decide (x1 ≠ ((kk : Nat) : Int))) = false from decide_eq_false (fun h => h (by rw [(marksOf_at p0 hx1).1, hj_1]; unfold markI; omega))] at F18
     have F19 : Fr 21 [(17, .bool false), (5, .int .i64 ((j : Nat) : Int)), (0, .slice a_a a_n a_c), (1, .int .i64 ((kk : Nat) : Int))] _ := F18.cut rfl
     clear F10 F12 F13 F15 F16 F17 F18
     refine s_end (x_normal (wp_cond_false (F19.ev 17 rfl) (wp_skip (x_normal (wp_region_lit (l_op (f_mv F19 rfl rfl rfl rfl rfl fun _ F20 => ?_)))))))
     refine l_op (f_val F20 rfl rfl (r_add (z := ((kk + 1 : Nat) : Int)) rfl (F20.ev 18 rfl) rfl (by first | rfl | omega) ⟨by first | omega | (unfold i64ok at *; omega), by first | omega | (unfold i64ok at *; omega)⟩) rfl fun _ F21 => ?_)
     refine l_op (f_as F21 rfl rfl rfl rfl rfl fun _ F22 => ?_)
     have F23 : Fr 21 [(1, .int .i64 ((kk + 1 : Nat) : Int)), (5, .int .i64 ((j : Nat) : Int)), (0, .slice a_a a_n a_c)] _ := F22.cut rfl
     clear F19 F20 F21 F22
     refine s_end (x_block_normal (x_normal (wp_region_lit (l_op (f_mv F23 rfl rfl rfl rfl rfl fun _ F24 => ?_)))))
     refine l_op (f_val F24 rfl rfl (r_add (z := ((j + 1 : Nat) : Int)) rfl (F24.ev 10 rfl) rfl (by first | rfl | omega) ⟨by first | omega | (unfold i64ok at *; omega), by first | omega | (unfold i64ok at *; omega)⟩) rfl fun _ F25 => ?_)
     refine l_op (f_as F25 rfl rfl rfl rfl rfl fun _ F26 => ?_)
     have F27 : Fr 21 [(5, .int .i64 ((j + 1 : Nat) : Int)), (1, .int .i64 ((kk + 1 : Nat) : Int)), (0, .slice a_a a_n a_c)] _ := F26.cut rfl
     clear F23 F24 F25 F26
     refine s_end ?_
     refine x_normal ⟨j + 1, by omega, kk + 1, F27.cut rfl, (S5.pick [] rfl), by omega, by omega⟩
   · skip
     refine wp_exit (x_then_exit (x_then_exit (x_block_here (x_normal (wp_seq (wp_region_lit (l_op (f_mv F10 rfl rfl rfl rfl rfl fun _ F28 => ?_))))))))
     refine l_op (f_as F28 rfl rfl rfl rfl rfl fun _ F29 => ?_)
     have F30 : Fr 21 [(4, .int .i64 ((kk : Nat) : Int))] _ := F29.cut rfl
     clear F10 F28 F29
     refine s_end (x_normal (wp_ret ?_))
     refine x_done (v := .int .i64 ((kk : Nat) : Int)) F30 (results_1 Try.results85 (.tmp (F30.ev 4 rfl))) ?_
     exact ⟨(by rw [(show ((kk : Nat) : Int) = ((k + n : Nat) : Int) from by omega)]), (Mv.pick S5 [] rfl)⟩
theorem slices_Clone_Simpl_Call_impl_Call_c {w : World} {H : Nat → Prop} {s : List CallD} {s_a : Option Addr} {s_n s_c : Nat} (v_s : Rd 6 encK okK H w (.slice s_a s_n s_c) s) (p0 : s_n ≤ 1099511627776) :
    Calls Try.prog 134 #[.slice s_a s_n s_c] w fun e w' => ∃ (r0_a : Option Addr), ∃ (r0_n : Nat), ∃ (r0_c : Nat), e = .returned (.slice r0_a r0_n r0_c) ∧ Mv [] w [ow 148 6 encK okK (.slice r0_a r0_n r0_c) s] w' := by
 have uU : True := (fun _ => trivial) p0
 clear uU
 have V_v_s : Rd 6 encK okK (V H w []) w (.slice s_a s_n s_c) s := Rd.start v_s (fun _ _ => fps_nil _)
 obtain ⟨ln_s, le_s, mx_s, ni_s⟩ := Rd.inv v_s
 refine calls_enter 8 Try.func134 rfl Try.ntmps134 (Nat.le_of_ble_eq_true rfl) (fun _ F0i => ?_)
 have F0 : Fr 8 [(0, .slice s_a s_n s_c)] _ := F0i
 clear F0i
 refine wp_seq (wp_region_lit (l_op (f_val F0 rfl rfl (r_assign rfl rfl) rfl fun _ F1 => ?_)))
 have F2 : Fr 8 [(2, .slice none 0 0), (0, .slice s_a s_n s_c)] _ := F1.cut rfl
 clear F0 F1
 refine s_end (x_normal (wp_seq (wp_seq (wp_region_lit (l_op (f_mv F2 rfl rfl rfl rfl rfl fun _ F3 => ?_))))))
 refine l_op (f_val F3 rfl rfl (r_slNil Try.underlying66 rfl (F3.ev 3 rfl) rfl) rfl fun _ F4 => ?_)
 have F5 : Fr 8 [(4, .bool s_a.isNone), (0, .slice s_a s_n s_c)] _ := F4.cut rfl
 clear F2 F3 F4
 refine s_end (x_normal (x_condb (b := s_a.isNone) (F5.ev 4 rfl) (fun h6 => ?_) (fun h6 => ?_)))
 · skip
   refine wp_seq (wp_region_lit (l_op (f_val F5 rfl rfl (r_assign rfl rfl) rfl fun _ F7 => ?_)))
   have F8 : Fr 8 [(2, .slice none 0 0)] _ := F7.cut rfl
   clear F5 F7
   refine s_end (x_normal (wp_ret (x_then_ret ?_)))
   have S9 : Mv [] w [ow 148 6 encK okK (.slice none 0 0) ([] : List CallD)] w := mv_nil (At.nil w)
   refine x_done (v := .slice none 0 0) F8 (results_1 Try.results134 (.tmp (F8.ev 2 rfl))) ?_
   exact ⟨none, 0, 0, rfl, (Mv.cast (Mv.pick S9 [0] rfl) (by rw [(show ([] : List CallD) = s from by first | exact nil_of ni_s (by assumption) | exact List.nil_append _ | simp)]; all_goals rfl))⟩
 · skip
   refine wp_skip (x_normal (wp_seq (wp_region_lit (l_op (f_buildSl (ok := okK) (vs := []) F5 (At.nil w) (([] : List CallD)) ET_66 rfl rfl rfl rfl rfl rfl rfl rfl rfl (by simp) fun b10 _ w10 F11 S10 => ?_)))))
   refine l_op (f_mv F11 rfl rfl rfl rfl rfl fun _ F12 => ?_)
   refine l_op (f_app (news := s) F12 S10.at' 0 ET_66 rfl rfl rfl rfl rfl rfl (F12.ev 5 rfl) (F12.ev 6 rfl) ((Rd.mv (Nat.succ_pos _) V_v_s S10)).1 (by ((repeat (first | rw [List.length_append] | rw [List.length_cons] | rw [List.length_nil] | rw [List.length_take] | rw [List.length_drop])) <;> omega)) fun A13 N13 C13 _ w13 F14 S13 l13 => ?_)
   refine l_op (f_as F14 rfl rfl rfl rfl rfl fun _ F15 => ?_)
   have F16 : Fr 8 [(2, .slice A13 N13 C13)] _ := F15.cut rfl
   clear F5 F11 F12 F14 F15
   have T17 : Mv _ _ [ow 148 6 encK okK (.slice A13 N13 C13) (([] : List CallD) ++ s)] _ := S13
   refine s_end (x_normal (wp_ret ?_))
   refine x_done (v := .slice A13 N13 C13) F16 (results_1 Try.results134 (.tmp (F16.ev 2 rfl))) ?_
   exact ⟨A13, N13, C13, rfl, (Mv.cast (Mv.pick (S10.trans T17) [0] rfl) (by rw [(show (([] : List CallD) ++ s) = s from by first | exact nil_of ni_s (by assumption) | exact List.nil_append _ | simp)]; all_goals rfl))⟩
theorem slices_Clone_Simpl_Answer_impl_Answer_c {w : World} {H : Nat → Prop} {s : List AnsD} {s_a : Option Addr} {s_n s_c : Nat} (v_s : Rd 3 encR okR H w (.slice s_a s_n s_c) s) (p0 : s_n ≤ 1099511627776) :
    Calls Try.prog 135 #[.slice s_a s_n s_c] w fun e w' => ∃ (r0_a : Option Addr), ∃ (r0_n : Nat), ∃ (r0_c : Nat), e = .returned (.slice r0_a r0_n r0_c) ∧ Mv [] w [ow 151 3 encR okR (.slice r0_a r0_n r0_c) s] w' := by
 have uU : True := (fun _ => trivial) p0
 clear uU
 have V_v_s : Rd 3 encR okR (V H w []) w (.slice s_a s_n s_c) s := Rd.start v_s (fun _ _ => fps_nil _)
 obtain ⟨ln_s, le_s, mx_s, ni_s⟩ := Rd.inv v_s
 refine calls_enter 8 Try.func135 rfl Try.ntmps135 (Nat.le_of_ble_eq_true rfl) (fun _ F0i => ?_)
 have F0 : Fr 8 [(0, .slice s_a s_n s_c)] _ := F0i
 clear F0i
 refine wp_seq (wp_region_lit (l_op (f_val F0 rfl rfl (r_assign rfl rfl) rfl fun _ F1 => ?_)))
 have F2 : Fr 8 [(2, .slice none 0 0), (0, .slice s_a s_n s_c)] _ := F1.cut rfl
 clear F0 F1
 refine s_end (x_normal (wp_seq (wp_seq (wp_region_lit (l_op (f_mv F2 rfl rfl rfl rfl rfl fun _ F3 => ?_))))))
 refine l_op (f_val F3 rfl rfl (r_slNil Try.underlying67 rfl (F3.ev 3 rfl) rfl) rfl fun _ F4 => ?_)
 have F5 : Fr 8 [(4, .bool s_a.isNone), (0, .slice s_a s_n s_c)] _ := F4.cut rfl
 clear F2 F3 F4
 refine s_end (x_normal (x_condb (b := s_a.isNone) (F5.ev 4 rfl) (fun h6 => ?_) (fun h6 => ?_)))
 · skip
   refine wp_seq (wp_region_lit (l_op (f_val F5 rfl rfl (r_assign rfl rfl) rfl fun _ F7 => ?_)))
   have F8 : Fr 8 [(2, .slice none 0 0)] _ := F7.cut rfl
   clear F5 F7
   refine s_end (x_normal (wp_ret (x_then_ret ?_)))
   have S9 : Mv [] w [ow 151 3 encR okR (.slice none 0 0) ([] : List AnsD)] w := mv_nil (At.nil w)
   refine x_done (v := .slice none 0 0) F8 (results_1 Try.results135 (.tmp (F8.ev 2 rfl))) ?_
   exact ⟨none, 0, 0, rfl, (Mv.cast (Mv.pick S9 [0] rfl) (by rw [(show ([] : List AnsD) = s from by first | exact nil_of ni_s (by assumption) | exact List.nil_append _ | simp)]; all_goals rfl))⟩
 · skip
   refine wp_skip (x_normal (wp_seq (wp_region_lit (l_op (f_buildSl (ok := okR) (vs := []) F5 (At.nil w) (([] : List AnsD)) ET_67 rfl rfl rfl rfl rfl rfl rfl rfl rfl (by simp) fun b10 _ w10 F11 S10 => ?_)))))
   refine l_op (f_mv F11 rfl rfl rfl rfl rfl fun _ F12 => ?_)
   refine l_op (f_app (news := s) F12 S10.at' 0 ET_67 rfl rfl rfl rfl rfl rfl (F12.ev 5 rfl) (F12.ev 6 rfl) ((Rd.mv (Nat.succ_pos _) V_v_s S10)).1 (by ((repeat (first | rw [List.length_append] | rw [List.length_cons] | rw [List.length_nil] | rw [List.length_take] | rw [List.length_drop])) <;> omega)) fun A13 N13 C13 _ w13 F14 S13 l13 => ?_)
   refine l_op (f_as F14 rfl rfl rfl rfl rfl fun _ F15 => ?_)
   have F16 : Fr 8 [(2, .slice A13 N13 C13)] _ := F15.cut rfl
   clear F5 F11 F12 F14 F15
   have T17 : Mv _ _ [ow 151 3 encR okR (.slice A13 N13 C13) (([] : List AnsD) ++ s)] _ := S13
   refine s_end (x_normal (wp_ret ?_))
   refine x_done (v := .slice A13 N13 C13) F16 (results_1 Try.results135 (.tmp (F16.ev 2 rfl))) ?_
   exact ⟨A13, N13, C13, rfl, (Mv.cast (Mv.pick (S10.trans T17) [0] rfl) (by rw [(show (([] : List AnsD) ++ s) = s from by first | exact nil_of ni_s (by assumption) | exact List.nil_append _ | simp)]; all_goals rfl))⟩
theorem slices_Clone_Sint_int_c {w : World} {H : Nat → Prop} {s : List Int} {s_a : Option Addr} {s_n s_c : Nat} (v_s : Rd 1 encI okI H w (.slice s_a s_n s_c) s) (p0 : s_n ≤ 1099511627776) :
    Calls Try.prog 136 #[.slice s_a s_n s_c] w fun e w' => ∃ (r0_a : Option Addr), ∃ (r0_n : Nat), ∃ (r0_c : Nat), e = .returned (.slice r0_a r0_n r0_c) ∧ Mv [] w [ow 3 1 encI okI (.slice r0_a r0_n r0_c) s] w' := by
 have uU : True := (fun _ => trivial) p0
 clear uU
 have V_v_s : Rd 1 encI okI (V H w []) w (.slice s_a s_n s_c) s := Rd.start v_s (fun _ _ => fps_nil _)
 obtain ⟨ln_s, le_s, mx_s, ni_s⟩ := Rd.inv v_s
 refine calls_enter 8 Try.func136 rfl Try.ntmps136 (Nat.le_of_ble_eq_true rfl) (fun _ F0i => ?_)
 have F0 : Fr 8 [(0, .slice s_a s_n s_c)] _ := F0i
 clear F0i
 refine wp_seq (wp_region_lit (l_op (f_val F0 rfl rfl (r_assign rfl rfl) rfl fun _ F1 => ?_)))
 have F2 : Fr 8 [(2, .slice none 0 0), (0, .slice s_a s_n s_c)] _ := F1.cut rfl
 clear F0 F1
 refine s_end (x_normal (wp_seq (wp_seq (wp_region_lit (l_op (f_mv F2 rfl rfl rfl rfl rfl fun _ F3 => ?_))))))
 refine l_op (f_val F3 rfl rfl (r_slNil Try.underlying53 rfl (F3.ev 3 rfl) rfl) rfl fun _ F4 => ?_)
 have F5 : Fr 8 [(4, .bool s_a.isNone), (0, .slice s_a s_n s_c)] _ := F4.cut rfl
 clear F2 F3 F4
 refine s_end (x_normal (x_condb (b := s_a.isNone) (F5.ev 4 rfl) (fun h6 => ?_) (fun h6 => ?_)))
 · skip
   refine wp_seq (wp_region_lit (l_op (f_val F5 rfl rfl (r_assign rfl rfl) rfl fun _ F7 => ?_)))
   have F8 : Fr 8 [(2, .slice none 0 0)] _ := F7.cut rfl
   clear F5 F7
   refine s_end (x_normal (wp_ret (x_then_ret ?_)))
   have S9 : Mv [] w [ow 3 1 encI okI (.slice none 0 0) ([] : List Int)] w := mv_nil (At.nil w)
   refine x_done (v := .slice none 0 0) F8 (results_1 Try.results136 (.tmp (F8.ev 2 rfl))) ?_
   exact ⟨none, 0, 0, rfl, (Mv.cast (Mv.pick S9 [0] rfl) (by rw [(show ([] : List Int) = s from by first | exact nil_of ni_s (by assumption) | exact List.nil_append _ | simp)]; all_goals rfl))⟩
 · skip
   refine wp_skip (x_normal (wp_seq (wp_region_lit (l_op (f_buildSl (ok := okI) (vs := []) F5 (At.nil w) (([] : List Int)) ET_53 rfl rfl rfl rfl rfl rfl rfl rfl rfl (by simp) fun b10 _ w10 F11 S10 => ?_)))))
   refine l_op (f_mv F11 rfl rfl rfl rfl rfl fun _ F12 => ?_)
   refine l_op (f_app (news := s) F12 S10.at' 0 ET_53 rfl rfl rfl rfl rfl rfl (F12.ev 5 rfl) (F12.ev 6 rfl) ((Rd.mv (Nat.succ_pos _) V_v_s S10)).1 (by ((repeat (first | rw [List.length_append] | rw [List.length_cons] | rw [List.length_nil] | rw [List.length_take] | rw [List.length_drop])) <;> omega)) fun A13 N13 C13 _ w13 F14 S13 l13 => ?_)
   refine l_op (f_as F14 rfl rfl rfl rfl rfl fun _ F15 => ?_)
   have F16 : Fr 8 [(2, .slice A13 N13 C13)] _ := F15.cut rfl
   clear F5 F11 F12 F14 F15
   have T17 : Mv _ _ [ow 3 1 encI okI (.slice A13 N13 C13) (([] : List Int) ++ s)] _ := S13
   refine s_end (x_normal (wp_ret ?_))
   refine x_done (v := .slice A13 N13 C13) F16 (results_1 Try.results136 (.tmp (F16.ev 2 rfl))) ?_
   exact ⟨A13, N13, C13, rfl, (Mv.cast (Mv.pick (S10.trans T17) [0] rfl) (by rw [(show (([] : List Int) ++ s) = s from by first | exact nil_of ni_s (by assumption) | exact List.nil_append _ | simp)]; all_goals rfl))⟩
end Go.Proofs.Ytgfilegkabbliaa
