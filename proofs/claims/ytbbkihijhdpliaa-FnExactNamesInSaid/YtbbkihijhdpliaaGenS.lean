/-
  Walks: the names in a store.
-/
import Derived.Test.YtbbkihijhdpliaaDat4
import Derived.Test.YtbbkihijhdpliaaGenR
namespace Go.Proofs.Ytbbkihijhdpliaa
open Go.ChangeShapes Go.WideShapes Go.ChangeAt Go.RowKit
set_option maxRecDepth 100000
set_option maxHeartbeats 1000000
theorem spec_l06NamesIn_c {w : World} {H : Nat → Prop} {m : MachD} {m_store_a : Option Addr} {m_store_n m_store_c : Nat} {m_touch_reads_a : Option Addr} {m_touch_reads_n m_touch_reads_c : Nat} {m_touch_writes_a : Option Addr} {m_touch_writes_n m_touch_writes_c : Nat} (v_m_store : Rd 2 encC okC H w (.slice m_store_a m_store_n m_store_c) m.store) (v_m_touch_reads : Rd 1 encS okS H w (.slice m_touch_reads_a m_touch_reads_n m_touch_reads_c) m.touch.reads) (v_m_touch_writes : Rd 1 encS okS H w (.slice m_touch_writes_a m_touch_writes_n m_touch_writes_c) m.touch.writes) (p0 : m.store.length ≤ 68719476736) (p1 : m.touch.reads.length ≤ 68719476736) (p2 : m.touch.writes.length ≤ 68719476736) :
    Calls Try.prog 110 #[.agg #[.slice m_store_a m_store_n m_store_c, .slice m_touch_reads_a m_touch_reads_n m_touch_reads_c, .slice m_touch_writes_a m_touch_writes_n m_touch_writes_c]] w fun e w' => ∃ (r0_store_a : Option Addr), ∃ (r0_store_n : Nat), ∃ (r0_store_c : Nat), ∃ (r0_touch_reads_a : Option Addr), ∃ (r0_touch_reads_n : Nat), ∃ (r0_touch_reads_c : Nat), ∃ (r0_touch_writes_a : Option Addr), ∃ (r0_touch_writes_n : Nat), ∃ (r0_touch_writes_c : Nat), ∃ (r1_a : Option Addr), ∃ (r1_n : Nat), ∃ (r1_c : Nat), e = .returned (.tuple #[.agg #[.slice r0_store_a r0_store_n r0_store_c, .slice r0_touch_reads_a r0_touch_reads_n r0_touch_reads_c, .slice r0_touch_writes_a r0_touch_writes_n r0_touch_writes_c], .slice r1_a r1_n r1_c]) ∧ Mv [] w [] w' ∧ Rd 2 encC okC (Fsh H w) w' (.slice r0_store_a r0_store_n r0_store_c) (lookM m ((⟨#[110, 47]⟩ : ByteArray) ++ (⟨#[42]⟩ : ByteArray))).store ∧ Rd 1 encS okS (Fsh H w) w' (.slice r0_touch_reads_a r0_touch_reads_n r0_touch_reads_c) (lookM m ((⟨#[110, 47]⟩ : ByteArray) ++ (⟨#[42]⟩ : ByteArray))).touch.reads ∧ Rd 1 encS okS (Fsh H w) w' (.slice r0_touch_writes_a r0_touch_writes_n r0_touch_writes_c) (lookM m ((⟨#[110, 47]⟩ : ByteArray) ++ (⟨#[42]⟩ : ByteArray))).touch.writes ∧ Rd 1 encS okS (Fsh H w) w' (.slice r1_a r1_n r1_c) (namesL (keysUnder m.store (⟨#[110, 47]⟩ : ByteArray))) := by
 have V_v_m_store : Rd 2 encC okC (V H w []) w (.slice m_store_a m_store_n m_store_c) m.store := Rd.start v_m_store (fun _ _ => fps_nil _)
 obtain ⟨ln_m_store, le_m_store, mx_m_store, ni_m_store⟩ := Rd.inv v_m_store
 have V_v_m_touch_reads : Rd 1 encS okS (V H w []) w (.slice m_touch_reads_a m_touch_reads_n m_touch_reads_c) m.touch.reads := Rd.start v_m_touch_reads (fun _ _ => fps_nil _)
 obtain ⟨ln_m_touch_reads, le_m_touch_reads, mx_m_touch_reads, ni_m_touch_reads⟩ := Rd.inv v_m_touch_reads
 have V_v_m_touch_writes : Rd 1 encS okS (V H w []) w (.slice m_touch_writes_a m_touch_writes_n m_touch_writes_c) m.touch.writes := Rd.start v_m_touch_writes (fun _ _ => fps_nil _)
 obtain ⟨ln_m_touch_writes, le_m_touch_writes, mx_m_touch_writes, ni_m_touch_writes⟩ := Rd.inv v_m_touch_writes
 refine calls_enter 29 Try.func110 rfl Try.ntmps110 (Nat.le_of_ble_eq_true rfl) (fun _ F0i => ?_)
 have F0 : Fr 29 [(0, .agg #[.slice m_store_a m_store_n m_store_c, .slice m_touch_reads_a m_touch_reads_n m_touch_reads_c, .slice m_touch_writes_a m_touch_writes_n m_touch_writes_c])] _ := F0i
 clear F0i
 refine wp_seq (wp_region_lit (l_op (f_box F0 (At.nil w) rfl rfl rfl (F0.ev 0 rfl) rfl rfl fun b1 _ w1 F2 S1 => ?_)))
 refine l_op (f_alloc F2 S1.at' ZI_48 rfl rfl rfl rfl rfl fun b3 _ w3 F4 S3 => ?_)
 refine l_op (f_val F4 rfl rfl (r_assign rfl rfl) rfl fun _ F5 => ?_)
 have F6 : Fr 29 [(3, .slice none 0 0), (2, .pointer (some ⟨b3, 0, none⟩)), (1, .pointer (some ⟨b1, 0, none⟩))] _ := F5.cut rfl
 clear F0 F2 F4 F5
 have T7 : Mv _ _ [bx b3 [.slice none 0 0, .slice none 0 0, .slice none 0 0] 48, bx b1 [.slice m_store_a m_store_n m_store_c, .slice m_touch_reads_a m_touch_reads_n m_touch_reads_c, .slice m_touch_writes_a m_touch_writes_n m_touch_writes_c] 48] _ := S3
 refine s_end (x_normal (wp_seq (wp_region_lit (l_op (f_val (v := .agg #[.slice m_store_a m_store_n m_store_c, .slice m_touch_reads_a m_touch_reads_n m_touch_reads_c, .slice m_touch_writes_a m_touch_writes_n m_touch_writes_c]) F6 rfl rfl (r_loadB T7.at' 1 TI_48 rfl rfl (F6.ev 1 rfl) rfl rfl (fun h => nomatch h) rfl) rfl fun _ F8 => ?_)))))
 refine l_op (f_call F8 CF_98 rfl rfl rfl rfl (lc (F8.ev 8 rfl) (lc rfl rfl)) (spec_l04Under_c (m := m) (pfx := (⟨#[110, 47]⟩ : ByteArray)) (Rd.mv (Nat.succ_pos _) V_v_m_store (S1.trans T7)) (Rd.mv (Nat.succ_pos _) V_v_m_touch_reads (S1.trans T7)) (Rd.mv (Nat.succ_pos _) V_v_m_touch_writes (S1.trans T7)) (by unfold okS; decide) (by first | assumption | omega | decide) (by first | assumption | omega | decide) (by first | assumption | omega | decide)) ?_)
 rintro _ w9 ⟨r0_store_a_9, r0_store_n_9, r0_store_c_9, r0_touch_reads_a_9, r0_touch_reads_n_9, r0_touch_reads_c_9, r0_touch_writes_a_9, r0_touch_writes_n_9, r0_touch_writes_c_9, r1_a_9, r1_n_9, r1_c_9, rfl, m9, v9_0, v9_1, v9_2, v9_3⟩
 refine ⟨_, rfl, fun _ F10 => ?_⟩
 have S9 := At.frame0 T7.at' m9
 have V9_0 := Rd.got0 T7.at' ((S1.trans T7).kp.size) v9_0 S9
 obtain ⟨ln9_0, le9_0, mx9_0, ni9_0⟩ := Rd.inv V9_0
 have V9_1 := Rd.got0 T7.at' ((S1.trans T7).kp.size) v9_1 S9
 obtain ⟨ln9_1, le9_1, mx9_1, ni9_1⟩ := Rd.inv V9_1
 have V9_2 := Rd.got0 T7.at' ((S1.trans T7).kp.size) v9_2 S9
 obtain ⟨ln9_2, le9_2, mx9_2, ni9_2⟩ := Rd.inv V9_2
 have V9_3 := Rd.got0 T7.at' ((S1.trans T7).kp.size) v9_3 S9
 obtain ⟨ln9_3, le9_3, mx9_3, ni9_3⟩ := Rd.inv V9_3
 clear m9 v9_0 v9_1 v9_2 v9_3
 refine l_op (f_mv F10 rfl rfl rfl rfl rfl fun _ F11 => ?_)
 refine l_op (f_val (v := .agg #[.slice r0_store_a_9 r0_store_n_9 r0_store_c_9, .slice r0_touch_reads_a_9 r0_touch_reads_n_9 r0_touch_reads_c_9, .slice r0_touch_writes_a_9 r0_touch_writes_n_9 r0_touch_writes_c_9]) F11 rfl rfl (r_extract rfl (F11.ev 7 rfl) rfl) rfl fun _ F12 => ?_)
 refine l_op (f_val (v := .slice r1_a_9 r1_n_9 r1_c_9) F12 rfl rfl (r_extract rfl (F12.ev 7 rfl) rfl) rfl fun _ F13 => ?_)
 refine l_op (s_store S9.at' 1 TI_48 rfl rfl rfl rfl rfl (F13.ev 1 rfl) (F13.ev 10 rfl) rfl rfl rfl rfl rfl fun w14 S14 => ?_)
 refine l_op (f_as F13 rfl rfl rfl rfl rfl fun _ F15 => ?_)
 have F16 : Fr 29 [(4, .slice r1_a_9 r1_n_9 r1_c_9), (2, .pointer (some ⟨b3, 0, none⟩)), (1, .pointer (some ⟨b1, 0, none⟩))] _ := F15.cut rfl
 clear F6 F8 F10 F11 F12 F13 F15
 have T17 : Mv _ _ [bx b1 [.slice r0_store_a_9 r0_store_n_9 r0_store_c_9, .slice r0_touch_reads_a_9 r0_touch_reads_n_9 r0_touch_reads_c_9, .slice r0_touch_writes_a_9 r0_touch_writes_n_9 r0_touch_writes_c_9] 48, bx b3 [.slice none 0 0, .slice none 0 0, .slice none 0 0] 48] _ := S14
 refine s_end (x_normal (wp_seq (wp_region_lit (l_op (f_buildSl (ok := okS) (vs := []) F16 T17.at' (([] : List ByteArray)) ET_22 rfl rfl rfl rfl rfl rfl rfl rfl rfl (by simp) fun b18 _ w18 F19 S18 => ?_)))))
 refine l_op (f_as F19 rfl rfl rfl rfl rfl fun _ F20 => ?_)
 have F21 : Fr 29 [(5, .slice (some ⟨b18, 0, none⟩) 0 0), (4, .slice r1_a_9 r1_n_9 r1_c_9), (2, .pointer (some ⟨b3, 0, none⟩)), (1, .pointer (some ⟨b1, 0, none⟩))] _ := F20.cut rfl
 clear F16 F19 F20
 have T22 : Mv _ _ [ow 9 1 encS okS (.slice (some ⟨b18, 0, none⟩) 0 0) ([] : List ByteArray), bx b1 [.slice r0_store_a_9 r0_store_n_9 r0_store_c_9, .slice r0_touch_reads_a_9 r0_touch_reads_n_9 r0_touch_reads_c_9, .slice r0_touch_writes_a_9 r0_touch_writes_n_9 r0_touch_writes_c_9] 48, bx b3 [.slice none 0 0, .slice none 0 0, .slice none 0 0] 48] _ := S18
 refine s_end (x_normal (wp_seq (wp_seq (wp_region_lit (l_op (f_val F21 rfl rfl (r_assign rfl rfl) rfl fun _ F23 => ?_))))))
 have F24 : Fr 29 [(6, .int .i64 0), (5, .slice (some ⟨b18, 0, none⟩) 0 0), (4, .slice r1_a_9 r1_n_9 r1_c_9), (2, .pointer (some ⟨b3, 0, none⟩)), (1, .pointer (some ⟨b1, 0, none⟩))] _ := F23.cut rfl
 clear F21 F23
 refine s_end (x_normal (wp_block ?_))
 refine x_loop (fun (k : Nat) aZ wZ => ∃ (oa : Option Addr), ∃ (on : Nat), ∃ (oc : Nat), Fr 29 [(6, .int .i64 ((k : Nat) : Int)), (5, .slice oa on oc), (4, .slice r1_a_9 r1_n_9 r1_c_9), (2, .pointer (some ⟨b3, 0, none⟩)), (1, .pointer (some ⟨b1, 0, none⟩))] aZ ∧ Mv [ow 9 1 encS okS (.slice (some ⟨b18, 0, none⟩) 0 0) ([] : List ByteArray), bx b1 [.slice r0_store_a_9 r0_store_n_9 r0_store_c_9, .slice r0_touch_reads_a_9 r0_touch_reads_n_9 r0_touch_reads_c_9, .slice r0_touch_writes_a_9 r0_touch_writes_n_9 r0_touch_writes_c_9] 48, bx b3 [.slice none 0 0, .slice none 0 0, .slice none 0 0] 48] w18 [ow 9 1 encS okS (.slice oa on oc) (namesL ((keysUnder m.store (⟨#[110, 47]⟩ : ByteArray)).take k)), bx b1 [.slice r0_store_a_9 r0_store_n_9 r0_store_c_9, .slice r0_touch_reads_a_9 r0_touch_reads_n_9 r0_touch_reads_c_9, .slice r0_touch_writes_a_9 r0_touch_writes_n_9 r0_touch_writes_c_9] 48, bx b3 [.slice none 0 0, .slice none 0 0, .slice none 0 0] 48] wZ ∧ (k ≤ (keysUnder m.store (⟨#[110, 47]⟩ : ByteArray)).length)) (fun (k : Nat) => (keysUnder m.store (⟨#[110, 47]⟩ : ByteArray)).length - k) (0) ?_ ?_
 · exact ⟨(some ⟨b18, 0, none⟩), 0, 0, F24.cut rfl, (Mv.refl T22.at'), by omega⟩
 · rintro k a25 w25 ⟨oa, on, oc, F25, S25, hk_0⟩
   refine wp_seq (wp_seq (wp_region_lit (l_op (f_mv F25 rfl rfl rfl rfl rfl fun _ F26 => ?_))))
   refine l_op (f_mv F26 rfl rfl rfl rfl rfl fun _ F27 => ?_)
   refine l_op (f_val F27 rfl rfl (r_len Try.underlying22 rfl (F27.ev 14 rfl)) rfl fun _ F28 => ?_)
   refine l_op (f_val F28 rfl rfl (r_cmp (b := decide (k < r1_n_9)) (.inr (.inr (.inl rfl))) rfl (F28.ev 13 rfl) (F28.ev 15 rfl) (dec_of (by omega))) rfl fun _ F29 => ?_)
   have F30 : Fr 29 [(16, .bool (decide (k < r1_n_9))), (6, .int .i64 ((k : Nat) : Int)), (5, .slice oa on oc), (4, .slice r1_a_9 r1_n_9 r1_c_9), (2, .pointer (some ⟨b3, 0, none⟩)), (1, .pointer (some ⟨b1, 0, none⟩))] _ := F29.cut rfl
   clear F25 F26 F27 F28 F29
   refine s_end (x_normal (x_cond (p := k < r1_n_9) (F30.ev 16 rfl) (fun h31 => ?_) (fun h31 => ?_)))
   · skip
     refine wp_skip (x_normal (wp_seq (wp_block (wp_region_lit (l_op (f_mv F30 rfl rfl rfl rfl rfl fun _ F32 => ?_))))))
     refine l_op (f_mv F32 rfl rfl rfl rfl rfl fun _ F33 => ?_)
     refine l_op (f_mv F33 rfl rfl rfl rfl rfl fun _ F34 => ?_)
     obtain ⟨B35, O35, x1, ad35, hx1, okx1, ln35, cl35⟩ := Rd.at (Rd.mv (Nat.succ_pos _) V9_3 (T17.trans (T22.trans S25))) k (by first | assumption | omega)
     clear ln35
     refine l_op (f_val F34 rfl rfl (r_indexAddr (i := k) ET_22 rfl ((F34.ev 20 rfl).trans (by rw [ad35])) (F34.ev 21 rfl) (by omega) (by first | assumption | omega)) rfl fun _ F36 => ?_)
     refine l_op (f_val (v := .string x1) F36 rfl rfl (r_load (cs := [.string x1]) TI_9 rfl (F36.ev 22 rfl) rfl (fun _ => rfl) (elem_sub (f := 0) cl35 [.string x1] rfl)) rfl fun _ F37 => ?_)
     refine l_op (f_val F37 rfl rfl (r_sliceS (l := 2) (h := x1.size) Try.underlying9 rfl (F37.ev 23 rfl) rfl rfl (by have := keysUnder_size hx1; omega) (by have := keysUnder_size hx1; omega) rfl) rfl fun _ F38 => ?_)
     refine l_op (f_buildSl (ok := okS) (vs := [.string (x1.extract 2 x1.size)]) F38 S25.at' ([(x1.extract 2 x1.size)]) ET_22 rfl rfl rfl rfl rfl rfl (lc (pr2 (F38.ev 24 rfl)) rfl) rfl rfl (fun x hx => (List.mem_singleton.1 hx) ▸ (okS_ext okx1)) fun b39 _ w39 F40 S39 => ?_)
     refine l_op (f_app (news := [(x1.extract 2 x1.size)]) F40 S39.at' 1 ET_22 rfl rfl rfl rfl rfl rfl (F40.ev 19 rfl) (F40.ev 25 rfl) ((At.rd S39.at' ET_22.hk 0 rfl)).1 (by have := namesL_length ((keysUnder m.store (⟨#[110, 47]⟩ : ByteArray)).take k); rw [List.length_take] at this; have := keysUnder_length m.store (⟨#[110, 47]⟩ : ByteArray); first | omega | (simp only [List.length_cons, List.length_nil]; omega)) fun A41 N41 C41 _ w41 F42 S41 l41 => ?_)
     have S43 := At.drop S41.at' 1
     refine l_op (f_as F42 rfl rfl rfl rfl rfl fun _ F44 => ?_)
     have F45 : Fr 29 [(5, .slice A41 N41 C41), (6, .int .i64 ((k : Nat) : Int)), (4, .slice r1_a_9 r1_n_9 r1_c_9), (2, .pointer (some ⟨b3, 0, none⟩)), (1, .pointer (some ⟨b1, 0, none⟩))] _ := F44.cut rfl
     clear F30 F32 F33 F34 F36 F37 F38 F40 F42 F44
     have T46 : Mv _ _ [ow 9 1 encS okS (.slice A41 N41 C41) ((namesL ((keysUnder m.store (⟨#[110, 47]⟩ : ByteArray)).take k)) ++ ([(x1.extract 2 x1.size)])), bx b1 [.slice r0_store_a_9 r0_store_n_9 r0_store_c_9, .slice r0_touch_reads_a_9 r0_touch_reads_n_9 r0_touch_reads_c_9, .slice r0_touch_writes_a_9 r0_touch_writes_n_9 r0_touch_writes_c_9] 48, bx b3 [.slice none 0 0, .slice none 0 0, .slice none 0 0] 48] _ := S43
     refine s_end (x_block_normal (x_normal (wp_region_lit (l_op (f_mv F45 rfl rfl rfl rfl rfl fun _ F47 => ?_)))))
     refine l_op (f_val F47 rfl rfl (r_add (z := ((k + 1 : Nat) : Int)) rfl (F47.ev 17 rfl) rfl (by first | rfl | omega) ⟨by first | omega | (unfold i64ok at *; omega), by first | omega | (unfold i64ok at *; omega)⟩) rfl fun _ F48 => ?_)
     refine l_op (f_as F48 rfl rfl rfl rfl rfl fun _ F49 => ?_)
     have F50 : Fr 29 [(6, .int .i64 ((k + 1 : Nat) : Int)), (5, .slice A41 N41 C41), (4, .slice r1_a_9 r1_n_9 r1_c_9), (2, .pointer (some ⟨b3, 0, none⟩)), (1, .pointer (some ⟨b1, 0, none⟩))] _ := F49.cut rfl
     clear F45 F47 F48 F49
     refine s_end ?_
     refine x_normal ⟨k + 1, by omega, A41, N41, C41, F50.cut rfl, (Mv.cast ((S25.trans (S39.trans (S41.trans T46))).pick [0, 1, 2] rfl) (by (rw [namesL_step hx1]); all_goals rfl)), by omega⟩
   · skip
     refine wp_exit (x_then_exit (x_then_exit (x_block_here (x_normal (wp_seq (wp_region_lit (l_op (f_val (v := .agg #[.slice r0_store_a_9 r0_store_n_9 r0_store_c_9, .slice r0_touch_reads_a_9 r0_touch_reads_n_9 r0_touch_reads_c_9, .slice r0_touch_writes_a_9 r0_touch_writes_n_9 r0_touch_writes_c_9]) F30 rfl rfl (r_loadB S25.at' 1 TI_48 rfl rfl (F30.ev 1 rfl) rfl rfl (fun h => nomatch h) rfl) rfl fun _ F51 => ?_))))))))
     refine l_op (f_mv F51 rfl rfl rfl rfl rfl fun _ F52 => ?_)
     refine l_op (s_store S25.at' 2 TI_48 rfl rfl rfl rfl rfl (F52.ev 2 rfl) (F52.ev 27 rfl) rfl rfl rfl rfl rfl fun w53 S53 => ?_)
     refine l_op (f_as F52 rfl rfl rfl rfl rfl fun _ F54 => ?_)
     have F55 : Fr 29 [(3, .slice oa on oc), (2, .pointer (some ⟨b3, 0, none⟩))] _ := F54.cut rfl
     clear F30 F51 F52 F54
     have T56 : Mv _ _ [bx b3 [.slice r0_store_a_9 r0_store_n_9 r0_store_c_9, .slice r0_touch_reads_a_9 r0_touch_reads_n_9 r0_touch_reads_c_9, .slice r0_touch_writes_a_9 r0_touch_writes_n_9 r0_touch_writes_c_9] 48, ow 9 1 encS okS (.slice oa on oc) (namesL ((keysUnder m.store (⟨#[110, 47]⟩ : ByteArray)).take k)), bx b1 [.slice r0_store_a_9 r0_store_n_9 r0_store_c_9, .slice r0_touch_reads_a_9 r0_touch_reads_n_9 r0_touch_reads_c_9, .slice r0_touch_writes_a_9 r0_touch_writes_n_9 r0_touch_writes_c_9] 48] _ := S53
     refine s_end (x_normal (wp_ret ?_))
     have Z57 : Rd 1 encS okS (V H w [bx b3 [.slice r0_store_a_9 r0_store_n_9 r0_store_c_9, .slice r0_touch_reads_a_9 r0_touch_reads_n_9 r0_touch_reads_c_9, .slice r0_touch_writes_a_9 r0_touch_writes_n_9 r0_touch_writes_c_9] 48, bx b1 [.slice r0_store_a_9 r0_store_n_9 r0_store_c_9, .slice r0_touch_reads_a_9 r0_touch_reads_n_9 r0_touch_reads_c_9, .slice r0_touch_writes_a_9 r0_touch_writes_n_9 r0_touch_writes_c_9] 48]) w53 (.slice oa on oc) (namesL ((keysUnder m.store (⟨#[110, 47]⟩ : ByteArray)).take k)) := At.freeze (S1.trans (T7.trans (S9.trans (T17.trans (T22.trans (S25.trans T56)))))) ET_22.hk 1 rfl (fun b hb => ((S1.trans (T7.trans (S9.trans (T17.trans (T22.trans (S25.trans T56)))))).fresh b ⟨_, nth_mem (i := 1) rfl, hb⟩).resolve_left (fps_nil _))
     have S57 := At.drop T56.at' 1
     refine x_done (v := .tuple #[.agg #[.slice r0_store_a_9 r0_store_n_9 r0_store_c_9, .slice r0_touch_reads_a_9 r0_touch_reads_n_9 r0_touch_reads_c_9, .slice r0_touch_writes_a_9 r0_touch_writes_n_9 r0_touch_writes_c_9], .slice oa on oc]) F55 (results_2 Try.results110 (.cell (F55.ev 2 rfl) (run_loadVar' TI_48 _ [.slice r0_store_a_9 r0_store_n_9 r0_store_c_9, .slice r0_touch_reads_a_9 r0_touch_reads_n_9 r0_touch_reads_c_9, .slice r0_touch_writes_a_9 r0_touch_writes_n_9 r0_touch_writes_c_9] rfl (fun h => nomatch h) (At.cells T56.at' 0 rfl 0 [.slice r0_store_a_9 r0_store_n_9 r0_store_c_9, .slice r0_touch_reads_a_9 r0_touch_reads_n_9 r0_touch_reads_c_9, .slice r0_touch_writes_a_9 r0_touch_writes_n_9 r0_touch_writes_c_9] rfl))) (.tmp (F55.ev 3 rfl))) ?_
     exact ⟨r0_store_a_9, r0_store_n_9, r0_store_c_9, r0_touch_reads_a_9, r0_touch_reads_n_9, r0_touch_reads_c_9, r0_touch_writes_a_9, r0_touch_writes_n_9, r0_touch_writes_c_9, oa, on, oc, rfl, (Mv.pick (S1.trans (T7.trans (S9.trans (T17.trans (T22.trans (S25.trans (T56.trans S57))))))) [] rfl), (Rd.give (Rd.mv (Nat.succ_pos _) V9_0 (T17.trans (T22.trans (S25.trans (T56.trans S57)))))), (Rd.give (Rd.mv (Nat.succ_pos _) V9_1 (T17.trans (T22.trans (S25.trans (T56.trans S57)))))), (Rd.give (Rd.mv (Nat.succ_pos _) V9_2 (T17.trans (T22.trans (S25.trans (T56.trans S57)))))), (Rd.cast (Rd.give Z57) (show (namesL ((keysUnder m.store (⟨#[110, 47]⟩ : ByteArray)).take k)) = (namesL (keysUnder m.store (⟨#[110, 47]⟩ : ByteArray))) from by rw [List.take_of_length_le (by omega)]))⟩
theorem spec_NamesIn_c {w : World} {H : Nat → Prop} {m : MachD} {m_store_a : Option Addr} {m_store_n m_store_c : Nat} {m_touch_reads_a : Option Addr} {m_touch_reads_n m_touch_reads_c : Nat} {m_touch_writes_a : Option Addr} {m_touch_writes_n m_touch_writes_c : Nat} (v_m_store : Rd 2 encC okC H w (.slice m_store_a m_store_n m_store_c) m.store) (v_m_touch_reads : Rd 1 encS okS H w (.slice m_touch_reads_a m_touch_reads_n m_touch_reads_c) m.touch.reads) (v_m_touch_writes : Rd 1 encS okS H w (.slice m_touch_writes_a m_touch_writes_n m_touch_writes_c) m.touch.writes) (p0 : m.store.length ≤ 68719476736) (p1 : m.touch.reads.length ≤ 68719476736) (p2 : m.touch.writes.length ≤ 68719476736) :
    Calls Try.prog 56 #[.agg #[.slice m_store_a m_store_n m_store_c, .slice m_touch_reads_a m_touch_reads_n m_touch_reads_c, .slice m_touch_writes_a m_touch_writes_n m_touch_writes_c]] w fun e w' => ∃ (r0_store_a : Option Addr), ∃ (r0_store_n : Nat), ∃ (r0_store_c : Nat), ∃ (r0_touch_reads_a : Option Addr), ∃ (r0_touch_reads_n : Nat), ∃ (r0_touch_reads_c : Nat), ∃ (r0_touch_writes_a : Option Addr), ∃ (r0_touch_writes_n : Nat), ∃ (r0_touch_writes_c : Nat), ∃ (r1_a : Option Addr), ∃ (r1_n : Nat), ∃ (r1_c : Nat), e = .returned (.tuple #[.agg #[.slice r0_store_a r0_store_n r0_store_c, .slice r0_touch_reads_a r0_touch_reads_n r0_touch_reads_c, .slice r0_touch_writes_a r0_touch_writes_n r0_touch_writes_c], .slice r1_a r1_n r1_c]) ∧ Mv [] w [] w' ∧ Rd 2 encC okC (Fsh H w) w' (.slice r0_store_a r0_store_n r0_store_c) (lookM m ((⟨#[110, 47]⟩ : ByteArray) ++ (⟨#[42]⟩ : ByteArray))).store ∧ Rd 1 encS okS (Fsh H w) w' (.slice r0_touch_reads_a r0_touch_reads_n r0_touch_reads_c) (lookM m ((⟨#[110, 47]⟩ : ByteArray) ++ (⟨#[42]⟩ : ByteArray))).touch.reads ∧ Rd 1 encS okS (Fsh H w) w' (.slice r0_touch_writes_a r0_touch_writes_n r0_touch_writes_c) (lookM m ((⟨#[110, 47]⟩ : ByteArray) ++ (⟨#[42]⟩ : ByteArray))).touch.writes ∧ Rd 1 encS okS (Fsh H w) w' (.slice r1_a r1_n r1_c) (namesL (keysUnder m.store (⟨#[110, 47]⟩ : ByteArray))) := by
 have V_v_m_store : Rd 2 encC okC (V H w []) w (.slice m_store_a m_store_n m_store_c) m.store := Rd.start v_m_store (fun _ _ => fps_nil _)
 obtain ⟨ln_m_store, le_m_store, mx_m_store, ni_m_store⟩ := Rd.inv v_m_store
 have V_v_m_touch_reads : Rd 1 encS okS (V H w []) w (.slice m_touch_reads_a m_touch_reads_n m_touch_reads_c) m.touch.reads := Rd.start v_m_touch_reads (fun _ _ => fps_nil _)
 obtain ⟨ln_m_touch_reads, le_m_touch_reads, mx_m_touch_reads, ni_m_touch_reads⟩ := Rd.inv v_m_touch_reads
 have V_v_m_touch_writes : Rd 1 encS okS (V H w []) w (.slice m_touch_writes_a m_touch_writes_n m_touch_writes_c) m.touch.writes := Rd.start v_m_touch_writes (fun _ _ => fps_nil _)
 obtain ⟨ln_m_touch_writes, le_m_touch_writes, mx_m_touch_writes, ni_m_touch_writes⟩ := Rd.inv v_m_touch_writes
 refine calls_enter 9 Try.func56 rfl Try.ntmps56 (Nat.le_of_ble_eq_true rfl) (fun _ F0i => ?_)
 have F0 : Fr 9 [(0, .agg #[.slice m_store_a m_store_n m_store_c, .slice m_touch_reads_a m_touch_reads_n m_touch_reads_c, .slice m_touch_writes_a m_touch_writes_n m_touch_writes_c])] _ := F0i
 clear F0i
 refine wp_seq (wp_region_lit (l_op (f_box F0 (At.nil w) rfl rfl rfl (F0.ev 0 rfl) rfl rfl fun b1 _ w1 F2 S1 => ?_)))
 refine l_op (f_alloc F2 S1.at' ZI_48 rfl rfl rfl rfl rfl fun b3 _ w3 F4 S3 => ?_)
 refine l_op (f_val F4 rfl rfl (r_assign rfl rfl) rfl fun _ F5 => ?_)
 have F6 : Fr 9 [(3, .slice none 0 0), (2, .pointer (some ⟨b3, 0, none⟩)), (1, .pointer (some ⟨b1, 0, none⟩))] _ := F5.cut rfl
 clear F0 F2 F4 F5
 have T7 : Mv _ _ [bx b3 [.slice none 0 0, .slice none 0 0, .slice none 0 0] 48, bx b1 [.slice m_store_a m_store_n m_store_c, .slice m_touch_reads_a m_touch_reads_n m_touch_reads_c, .slice m_touch_writes_a m_touch_writes_n m_touch_writes_c] 48] _ := S3
 refine s_end (x_normal (wp_seq (wp_region_lit (l_op (f_val (v := .agg #[.slice m_store_a m_store_n m_store_c, .slice m_touch_reads_a m_touch_reads_n m_touch_reads_c, .slice m_touch_writes_a m_touch_writes_n m_touch_writes_c]) F6 rfl rfl (r_loadB T7.at' 1 TI_48 rfl rfl (F6.ev 1 rfl) rfl rfl (fun h => nomatch h) rfl) rfl fun _ F8 => ?_)))))
 refine l_op (f_call F8 CF_91 rfl rfl rfl rfl (lc (F8.ev 4 rfl) rfl) (spec_l04Copy_c (m := m) (Rd.mv (Nat.succ_pos _) V_v_m_store (S1.trans T7)) (Rd.mv (Nat.succ_pos _) V_v_m_touch_reads (S1.trans T7)) (Rd.mv (Nat.succ_pos _) V_v_m_touch_writes (S1.trans T7)) (by first | assumption | omega | (simp <;> omega)) (by first | assumption | omega | (simp <;> omega)) (by first | assumption | omega | (simp <;> omega))) ?_)
 rintro _ w9 ⟨r0_store_a_9, r0_store_n_9, r0_store_c_9, r0_touch_reads_a_9, r0_touch_reads_n_9, r0_touch_reads_c_9, r0_touch_writes_a_9, r0_touch_writes_n_9, r0_touch_writes_c_9, rfl, m9, v9_0, v9_1, v9_2⟩
 refine ⟨_, rfl, fun _ F10 => ?_⟩
 have S9 := At.frame0 T7.at' m9
 have V9_0 := Rd.got0 T7.at' ((S1.trans T7).kp.size) v9_0 S9
 obtain ⟨ln9_0, le9_0, mx9_0, ni9_0⟩ := Rd.inv V9_0
 have V9_1 := Rd.got0 T7.at' ((S1.trans T7).kp.size) v9_1 S9
 obtain ⟨ln9_1, le9_1, mx9_1, ni9_1⟩ := Rd.inv V9_1
 have V9_2 := Rd.got0 T7.at' ((S1.trans T7).kp.size) v9_2 S9
 obtain ⟨ln9_2, le9_2, mx9_2, ni9_2⟩ := Rd.inv V9_2
 clear m9 v9_0 v9_1 v9_2
 refine l_op (f_call F10 CF_110 rfl rfl rfl rfl (lc (F10.ev 5 rfl) rfl) (spec_l06NamesIn_c (m := m) V9_0 V9_1 V9_2 (by first | assumption | omega | (simp <;> omega)) (by first | assumption | omega | (simp <;> omega)) (by first | assumption | omega | (simp <;> omega))) ?_)
 rintro _ w11 ⟨r0_store_a_11, r0_store_n_11, r0_store_c_11, r0_touch_reads_a_11, r0_touch_reads_n_11, r0_touch_reads_c_11, r0_touch_writes_a_11, r0_touch_writes_n_11, r0_touch_writes_c_11, r1_a_11, r1_n_11, r1_c_11, rfl, m11, v11_0, v11_1, v11_2, v11_3⟩
 refine ⟨_, rfl, fun _ F12 => ?_⟩
 have S11 := At.frame0 S9.at' m11
 have V11_0 := Rd.got0 S9.at' ((S1.trans (T7.trans S9)).kp.size) v11_0 S11
 obtain ⟨ln11_0, le11_0, mx11_0, ni11_0⟩ := Rd.inv V11_0
 have V11_1 := Rd.got0 S9.at' ((S1.trans (T7.trans S9)).kp.size) v11_1 S11
 obtain ⟨ln11_1, le11_1, mx11_1, ni11_1⟩ := Rd.inv V11_1
 have V11_2 := Rd.got0 S9.at' ((S1.trans (T7.trans S9)).kp.size) v11_2 S11
 obtain ⟨ln11_2, le11_2, mx11_2, ni11_2⟩ := Rd.inv V11_2
 have V11_3 := Rd.got0 S9.at' ((S1.trans (T7.trans S9)).kp.size) v11_3 S11
 obtain ⟨ln11_3, le11_3, mx11_3, ni11_3⟩ := Rd.inv V11_3
 clear m11 v11_0 v11_1 v11_2 v11_3
 refine l_op (f_val (v := .agg #[.slice r0_store_a_11 r0_store_n_11 r0_store_c_11, .slice r0_touch_reads_a_11 r0_touch_reads_n_11 r0_touch_reads_c_11, .slice r0_touch_writes_a_11 r0_touch_writes_n_11 r0_touch_writes_c_11]) F12 rfl rfl (r_extract rfl (F12.ev 6 rfl) rfl) rfl fun _ F13 => ?_)
 refine l_op (f_val (v := .slice r1_a_11 r1_n_11 r1_c_11) F13 rfl rfl (r_extract rfl (F13.ev 6 rfl) rfl) rfl fun _ F14 => ?_)
 refine l_op (s_store S11.at' 0 TI_48 rfl rfl rfl rfl rfl (F14.ev 2 rfl) (F14.ev 7 rfl) rfl rfl rfl rfl rfl fun w15 S15 => ?_)
 refine l_op (f_as F14 rfl rfl rfl rfl rfl fun _ F16 => ?_)
 have F17 : Fr 9 [(3, .slice r1_a_11 r1_n_11 r1_c_11), (2, .pointer (some ⟨b3, 0, none⟩))] _ := F16.cut rfl
 clear F6 F8 F10 F12 F13 F14 F16
 have T18 : Mv _ _ [bx b3 [.slice r0_store_a_11 r0_store_n_11 r0_store_c_11, .slice r0_touch_reads_a_11 r0_touch_reads_n_11 r0_touch_reads_c_11, .slice r0_touch_writes_a_11 r0_touch_writes_n_11 r0_touch_writes_c_11] 48, bx b1 [.slice m_store_a m_store_n m_store_c, .slice m_touch_reads_a m_touch_reads_n m_touch_reads_c, .slice m_touch_writes_a m_touch_writes_n m_touch_writes_c] 48] _ := S15
 refine s_end (x_normal (wp_ret ?_))
 refine x_done (v := .tuple #[.agg #[.slice r0_store_a_11 r0_store_n_11 r0_store_c_11, .slice r0_touch_reads_a_11 r0_touch_reads_n_11 r0_touch_reads_c_11, .slice r0_touch_writes_a_11 r0_touch_writes_n_11 r0_touch_writes_c_11], .slice r1_a_11 r1_n_11 r1_c_11]) F17 (results_2 Try.results56 (.cell (F17.ev 2 rfl) (run_loadVar' TI_48 _ [.slice r0_store_a_11 r0_store_n_11 r0_store_c_11, .slice r0_touch_reads_a_11 r0_touch_reads_n_11 r0_touch_reads_c_11, .slice r0_touch_writes_a_11 r0_touch_writes_n_11 r0_touch_writes_c_11] rfl (fun h => nomatch h) (At.cells T18.at' 0 rfl 0 [.slice r0_store_a_11 r0_store_n_11 r0_store_c_11, .slice r0_touch_reads_a_11 r0_touch_reads_n_11 r0_touch_reads_c_11, .slice r0_touch_writes_a_11 r0_touch_writes_n_11 r0_touch_writes_c_11] rfl))) (.tmp (F17.ev 3 rfl))) ?_
 exact ⟨r0_store_a_11, r0_store_n_11, r0_store_c_11, r0_touch_reads_a_11, r0_touch_reads_n_11, r0_touch_reads_c_11, r0_touch_writes_a_11, r0_touch_writes_n_11, r0_touch_writes_c_11, r1_a_11, r1_n_11, r1_c_11, rfl, (Mv.pick (S1.trans (T7.trans (S9.trans (S11.trans T18)))) [] rfl), (Rd.give (Rd.mv (Nat.succ_pos _) V11_0 T18)), (Rd.give (Rd.mv (Nat.succ_pos _) V11_1 T18)), (Rd.give (Rd.mv (Nat.succ_pos _) V11_2 T18)), (Rd.give (Rd.mv (Nat.succ_pos _) V11_3 T18))⟩
theorem impl_Mach_names_c {w : World} {H : Nat → Prop} {m : MachD} {m_store_a : Option Addr} {m_store_n m_store_c : Nat} {m_touch_reads_a : Option Addr} {m_touch_reads_n m_touch_reads_c : Nat} {m_touch_writes_a : Option Addr} {m_touch_writes_n m_touch_writes_c : Nat} {m_b : Nat}  (p0 : m.store.length ≤ 68719476736) (p1 : m.touch.reads.length ≤ 68719476736) (p2 : m.touch.writes.length ≤ 68719476736) (hA : At w [bx m_b [.slice m_store_a m_store_n m_store_c, .slice m_touch_reads_a m_touch_reads_n m_touch_reads_c, .slice m_touch_writes_a m_touch_writes_n m_touch_writes_c] 48, ow 98 2 encC okC (.slice m_store_a m_store_n m_store_c) m.store, ow 9 1 encS okS (.slice m_touch_reads_a m_touch_reads_n m_touch_reads_c) m.touch.reads, ow 9 1 encS okS (.slice m_touch_writes_a m_touch_writes_n m_touch_writes_c) m.touch.writes]) :
    Calls Try.prog 111 #[.pointer (some ⟨m_b, 0, none⟩)] w fun e w' => ∃ (r0_a : Option Addr), ∃ (r0_n : Nat), ∃ (r0_c : Nat), ∃ (q_m_store_a : Option Addr), ∃ (q_m_store_n : Nat), ∃ (q_m_store_c : Nat), ∃ (q_m_touch_reads_a : Option Addr), ∃ (q_m_touch_reads_n : Nat), ∃ (q_m_touch_reads_c : Nat), ∃ (q_m_touch_writes_a : Option Addr), ∃ (q_m_touch_writes_n : Nat), ∃ (q_m_touch_writes_c : Nat), e = .returned (.slice r0_a r0_n r0_c) ∧ Mv [bx m_b [.slice m_store_a m_store_n m_store_c, .slice m_touch_reads_a m_touch_reads_n m_touch_reads_c, .slice m_touch_writes_a m_touch_writes_n m_touch_writes_c] 48, ow 98 2 encC okC (.slice m_store_a m_store_n m_store_c) m.store, ow 9 1 encS okS (.slice m_touch_reads_a m_touch_reads_n m_touch_reads_c) m.touch.reads, ow 9 1 encS okS (.slice m_touch_writes_a m_touch_writes_n m_touch_writes_c) m.touch.writes] w [ow 9 1 encS okS (.slice r0_a r0_n r0_c) (namesL (keysUnder m.store (⟨#[110, 47]⟩ : ByteArray))), bx m_b [.slice q_m_store_a q_m_store_n q_m_store_c, .slice q_m_touch_reads_a q_m_touch_reads_n q_m_touch_reads_c, .slice q_m_touch_writes_a q_m_touch_writes_n q_m_touch_writes_c] 48, ow 98 2 encC okC (.slice q_m_store_a q_m_store_n q_m_store_c) (lookM m ((⟨#[110, 47]⟩ : ByteArray) ++ (⟨#[42]⟩ : ByteArray))).store, ow 9 1 encS okS (.slice q_m_touch_reads_a q_m_touch_reads_n q_m_touch_reads_c) (lookM m ((⟨#[110, 47]⟩ : ByteArray) ++ (⟨#[42]⟩ : ByteArray))).touch.reads, ow 9 1 encS okS (.slice q_m_touch_writes_a q_m_touch_writes_n q_m_touch_writes_c) (lookM m ((⟨#[110, 47]⟩ : ByteArray) ++ (⟨#[42]⟩ : ByteArray))).touch.writes] w' := by
 obtain ⟨lo1, lp1, lq1⟩ := At.ownInv hA ET_46.hk 1 rfl
 obtain ⟨lo2, lp2, lq2⟩ := At.ownInv hA ET_22.hk 2 rfl
 obtain ⟨lo3, lp3, lq3⟩ := At.ownInv hA ET_22.hk 3 rfl
 refine calls_enter 20 Try.func111 rfl Try.ntmps111 (Nat.le_of_ble_eq_true rfl) (fun _ F0i => ?_)
 have F0 : Fr 20 [(0, .pointer (some ⟨m_b, 0, none⟩))] _ := F0i
 clear F0i
 refine wp_seq (wp_region_lit (l_op (f_val F0 rfl rfl (r_assign rfl rfl) rfl fun _ F1 => ?_)))
 have F2 : Fr 20 [(2, .slice none 0 0), (0, .pointer (some ⟨m_b, 0, none⟩))] _ := F1.cut rfl
 clear F0 F1
 refine s_end (x_normal (wp_seq (wp_region_lit (l_op (f_val F2 rfl rfl (r_assign rfl rfl) rfl fun _ F3 => ?_)))))
 have F4 : Fr 20 [(3, .slice none 0 0), (0, .pointer (some ⟨m_b, 0, none⟩))] _ := F3.cut rfl
 clear F2 F3
 refine s_end (x_normal (wp_seq (wp_seq (wp_region_lit (l_op (f_mv F4 rfl rfl rfl rfl rfl fun _ F5 => ?_))))))
 refine l_op (f_call F5 CF_99 rfl rfl rfl rfl (lc (F5.ev 6 rfl) (lc rfl rfl)) (impl_Mach_under_c (H := fun _ => True) (m := m) (pfx := (⟨#[110, 47]⟩ : ByteArray)) (by unfold okS; decide) (by first | assumption | omega | decide) (by first | assumption | omega | decide) (by first | assumption | omega | decide) (At.pick (is := [0, 1, 2, 3]) hA rfl)) ?_)
 rintro _ w6 ⟨r0_a_6, r0_n_6, r0_c_6, qm_store_a_6, qm_store_n_6, qm_store_c_6, qm_touch_reads_a_6, qm_touch_reads_n_6, qm_touch_reads_c_6, qm_touch_writes_a_6, qm_touch_writes_n_6, qm_touch_writes_c_6, rfl, m6⟩
 refine ⟨_, rfl, fun _ F7 => ?_⟩
 have S6 : Mv _ _ [ow 9 1 encS okS (.slice r0_a_6 r0_n_6 r0_c_6) (keysUnder m.store (⟨#[110, 47]⟩ : ByteArray)), bx m_b [.slice qm_store_a_6 qm_store_n_6 qm_store_c_6, .slice qm_touch_reads_a_6 qm_touch_reads_n_6 qm_touch_reads_c_6, .slice qm_touch_writes_a_6 qm_touch_writes_n_6 qm_touch_writes_c_6] 48, ow 98 2 encC okC (.slice qm_store_a_6 qm_store_n_6 qm_store_c_6) (lookM m ((⟨#[110, 47]⟩ : ByteArray) ++ (⟨#[42]⟩ : ByteArray))).store, ow 9 1 encS okS (.slice qm_touch_reads_a_6 qm_touch_reads_n_6 qm_touch_reads_c_6) (lookM m ((⟨#[110, 47]⟩ : ByteArray) ++ (⟨#[42]⟩ : ByteArray))).touch.reads, ow 9 1 encS okS (.slice qm_touch_writes_a_6 qm_touch_writes_n_6 qm_touch_writes_c_6) (lookM m ((⟨#[110, 47]⟩ : ByteArray) ++ (⟨#[42]⟩ : ByteArray))).touch.writes] _ := At.frame hA [0, 1, 2, 3] rfl m6
 obtain ⟨lo6_0, lp6_0, lq6_0⟩ := At.ownInv S6.at' ET_22.hk 0 rfl
 obtain ⟨lo6_2, lp6_2, lq6_2⟩ := At.ownInv S6.at' ET_46.hk 2 rfl
 obtain ⟨lo6_3, lp6_3, lq6_3⟩ := At.ownInv S6.at' ET_22.hk 3 rfl
 obtain ⟨lo6_4, lp6_4, lq6_4⟩ := At.ownInv S6.at' ET_22.hk 4 rfl
 clear m6
 refine l_op (f_val F7 rfl rfl (r_len Try.underlying22 rfl (F7.ev 7 rfl)) rfl fun _ F8 => ?_)
 refine l_op (f_val F8 rfl rfl (r_move rfl rfl) rfl fun _ F9 => ?_)
 have F10 : Fr 20 [(9, .int .i64 0), (8, .int .i64 ((r0_n_6 : Nat) : Int)), (7, .slice r0_a_6 r0_n_6 r0_c_6), (3, .slice none 0 0)] _ := F9.cut rfl
 clear F4 F5 F7 F8 F9
 refine s_end (x_normal (wp_block ?_))
 have S12 : Mv [ow 9 1 encS okS (.slice r0_a_6 r0_n_6 r0_c_6) (keysUnder m.store (⟨#[110, 47]⟩ : ByteArray)), bx m_b [.slice qm_store_a_6 qm_store_n_6 qm_store_c_6, .slice qm_touch_reads_a_6 qm_touch_reads_n_6 qm_touch_reads_c_6, .slice qm_touch_writes_a_6 qm_touch_writes_n_6 qm_touch_writes_c_6] 48, ow 98 2 encC okC (.slice qm_store_a_6 qm_store_n_6 qm_store_c_6) (lookM m ((⟨#[110, 47]⟩ : ByteArray) ++ (⟨#[42]⟩ : ByteArray))).store, ow 9 1 encS okS (.slice qm_touch_reads_a_6 qm_touch_reads_n_6 qm_touch_reads_c_6) (lookM m ((⟨#[110, 47]⟩ : ByteArray) ++ (⟨#[42]⟩ : ByteArray))).touch.reads, ow 9 1 encS okS (.slice qm_touch_writes_a_6 qm_touch_writes_n_6 qm_touch_writes_c_6) (lookM m ((⟨#[110, 47]⟩ : ByteArray) ++ (⟨#[42]⟩ : ByteArray))).touch.writes] w6 [ow 9 1 encS okS (.slice none 0 0) ([] : List ByteArray), ow 9 1 encS okS (.slice r0_a_6 r0_n_6 r0_c_6) (keysUnder m.store (⟨#[110, 47]⟩ : ByteArray)), bx m_b [.slice qm_store_a_6 qm_store_n_6 qm_store_c_6, .slice qm_touch_reads_a_6 qm_touch_reads_n_6 qm_touch_reads_c_6, .slice qm_touch_writes_a_6 qm_touch_writes_n_6 qm_touch_writes_c_6] 48, ow 98 2 encC okC (.slice qm_store_a_6 qm_store_n_6 qm_store_c_6) (lookM m ((⟨#[110, 47]⟩ : ByteArray) ++ (⟨#[42]⟩ : ByteArray))).store, ow 9 1 encS okS (.slice qm_touch_reads_a_6 qm_touch_reads_n_6 qm_touch_reads_c_6) (lookM m ((⟨#[110, 47]⟩ : ByteArray) ++ (⟨#[42]⟩ : ByteArray))).touch.reads, ow 9 1 encS okS (.slice qm_touch_writes_a_6 qm_touch_writes_n_6 qm_touch_writes_c_6) (lookM m ((⟨#[110, 47]⟩ : ByteArray) ++ (⟨#[42]⟩ : ByteArray))).touch.writes] w6 := mv_nil S6.at'
 refine x_loop (fun (k : Nat) aZ wZ => ∃ (oa : Option Addr), ∃ (on : Nat), ∃ (oc : Nat), Fr 20 [(9, .int .i64 ((k : Nat) : Int)), (8, .int .i64 ((r0_n_6 : Nat) : Int)), (7, .slice r0_a_6 r0_n_6 r0_c_6), (3, .slice oa on oc)] aZ ∧ Mv [ow 9 1 encS okS (.slice none 0 0) ([] : List ByteArray), ow 9 1 encS okS (.slice r0_a_6 r0_n_6 r0_c_6) (keysUnder m.store (⟨#[110, 47]⟩ : ByteArray)), bx m_b [.slice qm_store_a_6 qm_store_n_6 qm_store_c_6, .slice qm_touch_reads_a_6 qm_touch_reads_n_6 qm_touch_reads_c_6, .slice qm_touch_writes_a_6 qm_touch_writes_n_6 qm_touch_writes_c_6] 48, ow 98 2 encC okC (.slice qm_store_a_6 qm_store_n_6 qm_store_c_6) (lookM m ((⟨#[110, 47]⟩ : ByteArray) ++ (⟨#[42]⟩ : ByteArray))).store, ow 9 1 encS okS (.slice qm_touch_reads_a_6 qm_touch_reads_n_6 qm_touch_reads_c_6) (lookM m ((⟨#[110, 47]⟩ : ByteArray) ++ (⟨#[42]⟩ : ByteArray))).touch.reads, ow 9 1 encS okS (.slice qm_touch_writes_a_6 qm_touch_writes_n_6 qm_touch_writes_c_6) (lookM m ((⟨#[110, 47]⟩ : ByteArray) ++ (⟨#[42]⟩ : ByteArray))).touch.writes] w6 [ow 9 1 encS okS (.slice oa on oc) (namesL ((keysUnder m.store (⟨#[110, 47]⟩ : ByteArray)).take k)), ow 9 1 encS okS (.slice r0_a_6 r0_n_6 r0_c_6) (keysUnder m.store (⟨#[110, 47]⟩ : ByteArray)), bx m_b [.slice qm_store_a_6 qm_store_n_6 qm_store_c_6, .slice qm_touch_reads_a_6 qm_touch_reads_n_6 qm_touch_reads_c_6, .slice qm_touch_writes_a_6 qm_touch_writes_n_6 qm_touch_writes_c_6] 48, ow 98 2 encC okC (.slice qm_store_a_6 qm_store_n_6 qm_store_c_6) (lookM m ((⟨#[110, 47]⟩ : ByteArray) ++ (⟨#[42]⟩ : ByteArray))).store, ow 9 1 encS okS (.slice qm_touch_reads_a_6 qm_touch_reads_n_6 qm_touch_reads_c_6) (lookM m ((⟨#[110, 47]⟩ : ByteArray) ++ (⟨#[42]⟩ : ByteArray))).touch.reads, ow 9 1 encS okS (.slice qm_touch_writes_a_6 qm_touch_writes_n_6 qm_touch_writes_c_6) (lookM m ((⟨#[110, 47]⟩ : ByteArray) ++ (⟨#[42]⟩ : ByteArray))).touch.writes] wZ ∧ (k ≤ (keysUnder m.store (⟨#[110, 47]⟩ : ByteArray)).length)) (fun (k : Nat) => (keysUnder m.store (⟨#[110, 47]⟩ : ByteArray)).length - k) (0) ?_ ?_
 · exact ⟨none, 0, 0, F10.cut rfl, (Mv.refl S12.at'), by omega⟩
 · rintro k a11 w11 ⟨oa, on, oc, F11, S11, hk_0⟩
   refine wp_seq (wp_region_lit (l_op (f_val F11 rfl rfl (r_cmp (b := decide (k < r0_n_6)) (.inr (.inr (.inl rfl))) rfl (F11.ev 9 rfl) (F11.ev 8 rfl) (dec_of (by omega))) rfl fun _ F13 => ?_)))
   have F14 : Fr 20 [(10, .bool (decide (k < r0_n_6))), (9, .int .i64 ((k : Nat) : Int)), (8, .int .i64 ((r0_n_6 : Nat) : Int)), (7, .slice r0_a_6 r0_n_6 r0_c_6), (3, .slice oa on oc)] _ := F13.cut rfl
   clear F11 F13
   refine s_end (x_normal (wp_seq (x_cond (p := k < r0_n_6) (F14.ev 10 rfl) (fun h15 => ?_) (fun h15 => ?_))))
   · skip
     refine wp_skip (x_normal (wp_seq (wp_block (wp_seq (wp_region_lit ?_)))))
     obtain ⟨B16, O16, x1, ad16, hx1, okx1, ln16, cl16⟩ := Rd.at (At.rd S11.at' ET_22.hk 1 rfl) k (by first | assumption | omega)
     clear ln16
     refine l_op (f_val F14 rfl rfl (r_indexAddr (i := k) ET_22 rfl ((F14.ev 7 rfl).trans (by rw [ad16])) (F14.ev 9 rfl) (by omega) (by first | assumption | omega)) rfl fun _ F17 => ?_)
     refine l_op (f_val (v := .string x1) F17 rfl rfl (r_load (cs := [.string x1]) TI_9 rfl (F17.ev 11 rfl) rfl (fun _ => rfl) (elem_sub (f := 0) cl16 [.string x1] rfl)) rfl fun _ F18 => ?_)
     refine l_op (f_as F18 rfl rfl rfl rfl rfl fun _ F19 => ?_)
     have F20 : Fr 20 [(5, .string x1), (9, .int .i64 ((k : Nat) : Int)), (8, .int .i64 ((r0_n_6 : Nat) : Int)), (7, .slice r0_a_6 r0_n_6 r0_c_6), (3, .slice oa on oc)] _ := F19.cut rfl
     clear F14 F17 F18 F19
     refine s_end (x_normal (wp_region_lit (l_op (f_mv F20 rfl rfl rfl rfl rfl fun _ F21 => ?_))))
     refine l_op (f_mv F21 rfl rfl rfl rfl rfl fun _ F22 => ?_)
     refine l_op (f_val F22 rfl rfl (r_sliceS (l := 2) (h := x1.size) Try.underlying9 rfl (F22.ev 14 rfl) rfl rfl (by have := keysUnder_size hx1; omega) (by have := keysUnder_size hx1; omega) rfl) rfl fun _ F23 => ?_)
     refine l_op (f_buildSl (ok := okS) (vs := [.string (x1.extract 2 x1.size)]) F23 S11.at' ([(x1.extract 2 x1.size)]) ET_22 rfl rfl rfl rfl rfl rfl (lc (pr2 (F23.ev 15 rfl)) rfl) rfl rfl (fun x hx => (List.mem_singleton.1 hx) ▸ (okS_ext okx1)) fun b24 _ w24 F25 S24 => ?_)
     refine l_op (f_app (news := [(x1.extract 2 x1.size)]) F25 S24.at' 1 ET_22 rfl rfl rfl rfl rfl rfl (F25.ev 13 rfl) (F25.ev 16 rfl) ((At.rd S24.at' ET_22.hk 0 rfl)).1 (by have := namesL_length ((keysUnder m.store (⟨#[110, 47]⟩ : ByteArray)).take k); rw [List.length_take] at this; have := keysUnder_length m.store (⟨#[110, 47]⟩ : ByteArray); first | omega | (simp only [List.length_cons, List.length_nil]; omega)) fun A26 N26 C26 _ w26 F27 S26 l26 => ?_)
     have S28 := At.drop S26.at' 1
     refine l_op (f_as F27 rfl rfl rfl rfl rfl fun _ F29 => ?_)
     have F30 : Fr 20 [(3, .slice A26 N26 C26), (9, .int .i64 ((k : Nat) : Int)), (8, .int .i64 ((r0_n_6 : Nat) : Int)), (7, .slice r0_a_6 r0_n_6 r0_c_6)] _ := F29.cut rfl
     clear F20 F21 F22 F23 F25 F27 F29
     have T31 : Mv _ _ [ow 9 1 encS okS (.slice A26 N26 C26) ((namesL ((keysUnder m.store (⟨#[110, 47]⟩ : ByteArray)).take k)) ++ ([(x1.extract 2 x1.size)])), ow 9 1 encS okS (.slice r0_a_6 r0_n_6 r0_c_6) (keysUnder m.store (⟨#[110, 47]⟩ : ByteArray)), bx m_b [.slice qm_store_a_6 qm_store_n_6 qm_store_c_6, .slice qm_touch_reads_a_6 qm_touch_reads_n_6 qm_touch_reads_c_6, .slice qm_touch_writes_a_6 qm_touch_writes_n_6 qm_touch_writes_c_6] 48, ow 98 2 encC okC (.slice qm_store_a_6 qm_store_n_6 qm_store_c_6) (lookM m ((⟨#[110, 47]⟩ : ByteArray) ++ (⟨#[42]⟩ : ByteArray))).store, ow 9 1 encS okS (.slice qm_touch_reads_a_6 qm_touch_reads_n_6 qm_touch_reads_c_6) (lookM m ((⟨#[110, 47]⟩ : ByteArray) ++ (⟨#[42]⟩ : ByteArray))).touch.reads, ow 9 1 encS okS (.slice qm_touch_writes_a_6 qm_touch_writes_n_6 qm_touch_writes_c_6) (lookM m ((⟨#[110, 47]⟩ : ByteArray) ++ (⟨#[42]⟩ : ByteArray))).touch.writes] _ := S28
     refine s_end (x_block_normal (x_normal (wp_region_lit (l_op (f_val F30 rfl rfl (r_add (z := ((k + 1 : Nat) : Int)) rfl (F30.ev 9 rfl) rfl (by first | rfl | omega) ⟨by first | omega | (unfold i64ok at *; omega), by first | omega | (unfold i64ok at *; omega)⟩) rfl fun _ F32 => ?_)))))
     refine l_op (f_mv F32 rfl rfl rfl rfl rfl fun _ F33 => ?_)
     have F34 : Fr 20 [(9, .int .i64 ((k + 1 : Nat) : Int)), (3, .slice A26 N26 C26), (8, .int .i64 ((r0_n_6 : Nat) : Int)), (7, .slice r0_a_6 r0_n_6 r0_c_6)] _ := F33.cut rfl
     clear F30 F32 F33
     refine s_end ?_
     refine x_normal ⟨k + 1, by omega, A26, N26, C26, F34.cut rfl, (Mv.cast ((S11.trans (S24.trans (S26.trans T31))).pick [0, 1, 2, 3, 4, 5] rfl) (by (rw [namesL_step hx1]); all_goals rfl)), by omega⟩
   · skip
     refine wp_exit (x_then_exit (x_then_exit (x_block_here (x_normal (wp_seq (wp_region_lit (l_op (f_mv F14 rfl rfl rfl rfl rfl fun _ F35 => ?_))))))))
     refine l_op (f_as F35 rfl rfl rfl rfl rfl fun _ F36 => ?_)
     have F37 : Fr 20 [(2, .slice oa on oc)] _ := F36.cut rfl
     clear F14 F35 F36
     refine s_end (x_normal (wp_ret ?_))
     refine x_done (v := .slice oa on oc) F37 (results_1 Try.results111 (.tmp (F37.ev 2 rfl))) ?_
     exact ⟨oa, on, oc, qm_store_a_6, qm_store_n_6, qm_store_c_6, qm_touch_reads_a_6, qm_touch_reads_n_6, qm_touch_reads_c_6, qm_touch_writes_a_6, qm_touch_writes_n_6, qm_touch_writes_c_6, rfl, (Mv.cast (Mv.pick (S6.trans (S12.trans S11)) [0, 2, 3, 4, 5] rfl) (by rw [(show (namesL ((keysUnder m.store (⟨#[110, 47]⟩ : ByteArray)).take k)) = (namesL (keysUnder m.store (⟨#[110, 47]⟩ : ByteArray))) from by rw [List.take_of_length_le (by omega)])]; all_goals rfl))⟩
theorem impl_NamesIn_c {w : World} {H : Nat → Prop} {m : MachD} {m_store_a : Option Addr} {m_store_n m_store_c : Nat} {m_touch_reads_a : Option Addr} {m_touch_reads_n m_touch_reads_c : Nat} {m_touch_writes_a : Option Addr} {m_touch_writes_n m_touch_writes_c : Nat} (v_m_store : Rd 2 encC okC H w (.slice m_store_a m_store_n m_store_c) m.store) (v_m_touch_reads : Rd 1 encS okS H w (.slice m_touch_reads_a m_touch_reads_n m_touch_reads_c) m.touch.reads) (v_m_touch_writes : Rd 1 encS okS H w (.slice m_touch_writes_a m_touch_writes_n m_touch_writes_c) m.touch.writes) (p0 : m.store.length ≤ 68719476736) (p1 : m.touch.reads.length ≤ 68719476736) (p2 : m.touch.writes.length ≤ 68719476736) :
    Calls Try.prog 57 #[.agg #[.slice m_store_a m_store_n m_store_c, .slice m_touch_reads_a m_touch_reads_n m_touch_reads_c, .slice m_touch_writes_a m_touch_writes_n m_touch_writes_c]] w fun e w' => ∃ (r0_store_a : Option Addr), ∃ (r0_store_n : Nat), ∃ (r0_store_c : Nat), ∃ (r0_touch_reads_a : Option Addr), ∃ (r0_touch_reads_n : Nat), ∃ (r0_touch_reads_c : Nat), ∃ (r0_touch_writes_a : Option Addr), ∃ (r0_touch_writes_n : Nat), ∃ (r0_touch_writes_c : Nat), ∃ (r1_a : Option Addr), ∃ (r1_n : Nat), ∃ (r1_c : Nat), e = .returned (.tuple #[.agg #[.slice r0_store_a r0_store_n r0_store_c, .slice r0_touch_reads_a r0_touch_reads_n r0_touch_reads_c, .slice r0_touch_writes_a r0_touch_writes_n r0_touch_writes_c], .slice r1_a r1_n r1_c]) ∧ Mv [] w [ow 98 2 encC okC (.slice r0_store_a r0_store_n r0_store_c) (lookM m ((⟨#[110, 47]⟩ : ByteArray) ++ (⟨#[42]⟩ : ByteArray))).store, ow 9 1 encS okS (.slice r0_touch_reads_a r0_touch_reads_n r0_touch_reads_c) (lookM m ((⟨#[110, 47]⟩ : ByteArray) ++ (⟨#[42]⟩ : ByteArray))).touch.reads, ow 9 1 encS okS (.slice r0_touch_writes_a r0_touch_writes_n r0_touch_writes_c) (lookM m ((⟨#[110, 47]⟩ : ByteArray) ++ (⟨#[42]⟩ : ByteArray))).touch.writes, ow 9 1 encS okS (.slice r1_a r1_n r1_c) (namesL (keysUnder m.store (⟨#[110, 47]⟩ : ByteArray)))] w' := by
 have V_v_m_store : Rd 2 encC okC (V H w []) w (.slice m_store_a m_store_n m_store_c) m.store := Rd.start v_m_store (fun _ _ => fps_nil _)
 obtain ⟨ln_m_store, le_m_store, mx_m_store, ni_m_store⟩ := Rd.inv v_m_store
 have V_v_m_touch_reads : Rd 1 encS okS (V H w []) w (.slice m_touch_reads_a m_touch_reads_n m_touch_reads_c) m.touch.reads := Rd.start v_m_touch_reads (fun _ _ => fps_nil _)
 obtain ⟨ln_m_touch_reads, le_m_touch_reads, mx_m_touch_reads, ni_m_touch_reads⟩ := Rd.inv v_m_touch_reads
 have V_v_m_touch_writes : Rd 1 encS okS (V H w []) w (.slice m_touch_writes_a m_touch_writes_n m_touch_writes_c) m.touch.writes := Rd.start v_m_touch_writes (fun _ _ => fps_nil _)
 obtain ⟨ln_m_touch_writes, le_m_touch_writes, mx_m_touch_writes, ni_m_touch_writes⟩ := Rd.inv v_m_touch_writes
 refine calls_enter 10 Try.func57 rfl Try.ntmps57 (Nat.le_of_ble_eq_true rfl) (fun _ F0i => ?_)
 have F0 : Fr 10 [(0, .agg #[.slice m_store_a m_store_n m_store_c, .slice m_touch_reads_a m_touch_reads_n m_touch_reads_c, .slice m_touch_writes_a m_touch_writes_n m_touch_writes_c])] _ := F0i
 clear F0i
 refine wp_seq (wp_region_lit (l_op (f_box F0 (At.nil w) rfl rfl rfl (F0.ev 0 rfl) rfl rfl fun b1 _ w1 F2 S1 => ?_)))
 refine l_op (f_alloc F2 S1.at' ZI_48 rfl rfl rfl rfl rfl fun b3 _ w3 F4 S3 => ?_)
 refine l_op (f_val F4 rfl rfl (r_assign rfl rfl) rfl fun _ F5 => ?_)
 have F6 : Fr 10 [(3, .slice none 0 0), (2, .pointer (some ⟨b3, 0, none⟩)), (1, .pointer (some ⟨b1, 0, none⟩))] _ := F5.cut rfl
 clear F0 F2 F4 F5
 have T7 : Mv _ _ [bx b3 [.slice none 0 0, .slice none 0 0, .slice none 0 0] 48, bx b1 [.slice m_store_a m_store_n m_store_c, .slice m_touch_reads_a m_touch_reads_n m_touch_reads_c, .slice m_touch_writes_a m_touch_writes_n m_touch_writes_c] 48] _ := S3
 refine s_end (x_normal (wp_seq (wp_region_lit (l_op (f_val (v := .agg #[.slice m_store_a m_store_n m_store_c, .slice m_touch_reads_a m_touch_reads_n m_touch_reads_c, .slice m_touch_writes_a m_touch_writes_n m_touch_writes_c]) F6 rfl rfl (r_loadB T7.at' 1 TI_48 rfl rfl (F6.ev 1 rfl) rfl rfl (fun h => nomatch h) rfl) rfl fun _ F8 => ?_)))))
 refine l_op (f_call F8 CF_93 rfl rfl rfl rfl (lc (F8.ev 5 rfl) rfl) (impl_Mach_clone_c (m := m) (Rd.mv (Nat.succ_pos _) V_v_m_store (S1.trans T7)) (Rd.mv (Nat.succ_pos _) V_v_m_touch_reads (S1.trans T7)) (Rd.mv (Nat.succ_pos _) V_v_m_touch_writes (S1.trans T7)) (by first | assumption | omega | (simp <;> omega)) (by first | assumption | omega | (simp <;> omega)) (by first | assumption | omega | (simp <;> omega))) ?_)
 rintro _ w9 ⟨r0_store_a_9, r0_store_n_9, r0_store_c_9, r0_touch_reads_a_9, r0_touch_reads_n_9, r0_touch_reads_c_9, r0_touch_writes_a_9, r0_touch_writes_n_9, r0_touch_writes_c_9, rfl, m9⟩
 refine ⟨_, rfl, fun _ F10 => ?_⟩
 have S9 : Mv _ _ [ow 98 2 encC okC (.slice r0_store_a_9 r0_store_n_9 r0_store_c_9) m.store, ow 9 1 encS okS (.slice r0_touch_reads_a_9 r0_touch_reads_n_9 r0_touch_reads_c_9) m.touch.reads, ow 9 1 encS okS (.slice r0_touch_writes_a_9 r0_touch_writes_n_9 r0_touch_writes_c_9) m.touch.writes, bx b3 [.slice none 0 0, .slice none 0 0, .slice none 0 0] 48, bx b1 [.slice m_store_a m_store_n m_store_c, .slice m_touch_reads_a m_touch_reads_n m_touch_reads_c, .slice m_touch_writes_a m_touch_writes_n m_touch_writes_c] 48] _ := At.frame T7.at' [] rfl m9
 obtain ⟨lo9_0, lp9_0, lq9_0⟩ := At.ownInv S9.at' ET_46.hk 0 rfl
 obtain ⟨lo9_1, lp9_1, lq9_1⟩ := At.ownInv S9.at' ET_22.hk 1 rfl
 obtain ⟨lo9_2, lp9_2, lq9_2⟩ := At.ownInv S9.at' ET_22.hk 2 rfl
 clear m9
 refine l_op (s_store S9.at' 4 TI_48 rfl rfl rfl rfl rfl (F10.ev 1 rfl) (F10.ev 6 rfl) rfl rfl rfl rfl rfl fun w11 S11 => ?_)
 have F12 : Fr 10 [(6, .agg #[.slice r0_store_a_9 r0_store_n_9 r0_store_c_9, .slice r0_touch_reads_a_9 r0_touch_reads_n_9 r0_touch_reads_c_9, .slice r0_touch_writes_a_9 r0_touch_writes_n_9 r0_touch_writes_c_9]), (2, .pointer (some ⟨b3, 0, none⟩)), (1, .pointer (some ⟨b1, 0, none⟩))] _ := F10.cut rfl
 clear F6 F8 F10
 have T13 : Mv _ _ [bx b1 [.slice r0_store_a_9 r0_store_n_9 r0_store_c_9, .slice r0_touch_reads_a_9 r0_touch_reads_n_9 r0_touch_reads_c_9, .slice r0_touch_writes_a_9 r0_touch_writes_n_9 r0_touch_writes_c_9] 48, ow 98 2 encC okC (.slice r0_store_a_9 r0_store_n_9 r0_store_c_9) m.store, ow 9 1 encS okS (.slice r0_touch_reads_a_9 r0_touch_reads_n_9 r0_touch_reads_c_9) m.touch.reads, ow 9 1 encS okS (.slice r0_touch_writes_a_9 r0_touch_writes_n_9 r0_touch_writes_c_9) m.touch.writes, bx b3 [.slice none 0 0, .slice none 0 0, .slice none 0 0] 48] _ := S11
 refine s_end (x_normal (wp_seq (wp_region_lit (l_op (f_call F12 CF_111 rfl rfl rfl rfl (lc (F12.ev 1 rfl) rfl) (impl_Mach_names_c (H := fun _ => True) (m := m) (by first | assumption | omega | (simp <;> omega)) (by first | assumption | omega | (simp <;> omega)) (by first | assumption | omega | (simp <;> omega)) (At.pick (is := [0, 1, 2, 3]) T13.at' rfl)) ?_)))))
 rintro _ w14 ⟨r0_a_14, r0_n_14, r0_c_14, qm_store_a_14, qm_store_n_14, qm_store_c_14, qm_touch_reads_a_14, qm_touch_reads_n_14, qm_touch_reads_c_14, qm_touch_writes_a_14, qm_touch_writes_n_14, qm_touch_writes_c_14, rfl, m14⟩
 refine ⟨_, rfl, fun _ F15 => ?_⟩
 have S14 : Mv _ _ [ow 9 1 encS okS (.slice r0_a_14 r0_n_14 r0_c_14) (namesL (keysUnder m.store (⟨#[110, 47]⟩ : ByteArray))), bx b1 [.slice qm_store_a_14 qm_store_n_14 qm_store_c_14, .slice qm_touch_reads_a_14 qm_touch_reads_n_14 qm_touch_reads_c_14, .slice qm_touch_writes_a_14 qm_touch_writes_n_14 qm_touch_writes_c_14] 48, ow 98 2 encC okC (.slice qm_store_a_14 qm_store_n_14 qm_store_c_14) (lookM m ((⟨#[110, 47]⟩ : ByteArray) ++ (⟨#[42]⟩ : ByteArray))).store, ow 9 1 encS okS (.slice qm_touch_reads_a_14 qm_touch_reads_n_14 qm_touch_reads_c_14) (lookM m ((⟨#[110, 47]⟩ : ByteArray) ++ (⟨#[42]⟩ : ByteArray))).touch.reads, ow 9 1 encS okS (.slice qm_touch_writes_a_14 qm_touch_writes_n_14 qm_touch_writes_c_14) (lookM m ((⟨#[110, 47]⟩ : ByteArray) ++ (⟨#[42]⟩ : ByteArray))).touch.writes, bx b3 [.slice none 0 0, .slice none 0 0, .slice none 0 0] 48] _ := At.frame T13.at' [0, 1, 2, 3] rfl m14
 obtain ⟨lo14_0, lp14_0, lq14_0⟩ := At.ownInv S14.at' ET_22.hk 0 rfl
 obtain ⟨lo14_2, lp14_2, lq14_2⟩ := At.ownInv S14.at' ET_46.hk 2 rfl
 obtain ⟨lo14_3, lp14_3, lq14_3⟩ := At.ownInv S14.at' ET_22.hk 3 rfl
 obtain ⟨lo14_4, lp14_4, lq14_4⟩ := At.ownInv S14.at' ET_22.hk 4 rfl
 clear m14
 refine l_op (f_as F15 rfl rfl rfl rfl rfl fun _ F16 => ?_)
 have F17 : Fr 10 [(4, .slice r0_a_14 r0_n_14 r0_c_14), (2, .pointer (some ⟨b3, 0, none⟩)), (1, .pointer (some ⟨b1, 0, none⟩))] _ := F16.cut rfl
 clear F12 F15 F16
 refine s_end (x_normal (wp_seq (wp_region_lit (l_op (f_val (v := .agg #[.slice qm_store_a_14 qm_store_n_14 qm_store_c_14, .slice qm_touch_reads_a_14 qm_touch_reads_n_14 qm_touch_reads_c_14, .slice qm_touch_writes_a_14 qm_touch_writes_n_14 qm_touch_writes_c_14]) F17 rfl rfl (r_loadB S14.at' 1 TI_48 rfl rfl (F17.ev 1 rfl) rfl rfl (fun h => nomatch h) rfl) rfl fun _ F18 => ?_)))))
 refine l_op (f_mv F18 rfl rfl rfl rfl rfl fun _ F19 => ?_)
 refine l_op (s_store S14.at' 5 TI_48 rfl rfl rfl rfl rfl (F19.ev 2 rfl) (F19.ev 8 rfl) rfl rfl rfl rfl rfl fun w20 S20 => ?_)
 refine l_op (f_as F19 rfl rfl rfl rfl rfl fun _ F21 => ?_)
 have F22 : Fr 10 [(3, .slice r0_a_14 r0_n_14 r0_c_14), (2, .pointer (some ⟨b3, 0, none⟩))] _ := F21.cut rfl
 clear F17 F18 F19 F21
 have T23 : Mv _ _ [bx b3 [.slice qm_store_a_14 qm_store_n_14 qm_store_c_14, .slice qm_touch_reads_a_14 qm_touch_reads_n_14 qm_touch_reads_c_14, .slice qm_touch_writes_a_14 qm_touch_writes_n_14 qm_touch_writes_c_14] 48, ow 9 1 encS okS (.slice r0_a_14 r0_n_14 r0_c_14) (namesL (keysUnder m.store (⟨#[110, 47]⟩ : ByteArray))), bx b1 [.slice qm_store_a_14 qm_store_n_14 qm_store_c_14, .slice qm_touch_reads_a_14 qm_touch_reads_n_14 qm_touch_reads_c_14, .slice qm_touch_writes_a_14 qm_touch_writes_n_14 qm_touch_writes_c_14] 48, ow 98 2 encC okC (.slice qm_store_a_14 qm_store_n_14 qm_store_c_14) (lookM m ((⟨#[110, 47]⟩ : ByteArray) ++ (⟨#[42]⟩ : ByteArray))).store, ow 9 1 encS okS (.slice qm_touch_reads_a_14 qm_touch_reads_n_14 qm_touch_reads_c_14) (lookM m ((⟨#[110, 47]⟩ : ByteArray) ++ (⟨#[42]⟩ : ByteArray))).touch.reads, ow 9 1 encS okS (.slice qm_touch_writes_a_14 qm_touch_writes_n_14 qm_touch_writes_c_14) (lookM m ((⟨#[110, 47]⟩ : ByteArray) ++ (⟨#[42]⟩ : ByteArray))).touch.writes] _ := S20
 refine s_end (x_normal (wp_ret ?_))
 refine x_done (v := .tuple #[.agg #[.slice qm_store_a_14 qm_store_n_14 qm_store_c_14, .slice qm_touch_reads_a_14 qm_touch_reads_n_14 qm_touch_reads_c_14, .slice qm_touch_writes_a_14 qm_touch_writes_n_14 qm_touch_writes_c_14], .slice r0_a_14 r0_n_14 r0_c_14]) F22 (results_2 Try.results57 (.cell (F22.ev 2 rfl) (run_loadVar' TI_48 _ [.slice qm_store_a_14 qm_store_n_14 qm_store_c_14, .slice qm_touch_reads_a_14 qm_touch_reads_n_14 qm_touch_reads_c_14, .slice qm_touch_writes_a_14 qm_touch_writes_n_14 qm_touch_writes_c_14] rfl (fun h => nomatch h) (At.cells T23.at' 0 rfl 0 [.slice qm_store_a_14 qm_store_n_14 qm_store_c_14, .slice qm_touch_reads_a_14 qm_touch_reads_n_14 qm_touch_reads_c_14, .slice qm_touch_writes_a_14 qm_touch_writes_n_14 qm_touch_writes_c_14] rfl))) (.tmp (F22.ev 3 rfl))) ?_
 exact ⟨qm_store_a_14, qm_store_n_14, qm_store_c_14, qm_touch_reads_a_14, qm_touch_reads_n_14, qm_touch_reads_c_14, qm_touch_writes_a_14, qm_touch_writes_n_14, qm_touch_writes_c_14, r0_a_14, r0_n_14, r0_c_14, rfl, (Mv.pick (S1.trans (T7.trans (S9.trans (T13.trans (S14.trans T23))))) [3, 4, 5, 1] rfl)⟩
end Go.Proofs.Ytbbkihijhdpliaa
