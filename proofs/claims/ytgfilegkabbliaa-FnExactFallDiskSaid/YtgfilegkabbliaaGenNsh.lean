/-
  Walks: a disk in new memory.
-/
import Derived.Test.YtgfilegkabbliaaDatSl
import Derived.Test.YtgfilegkabbliaaGenNsa
namespace Go.Proofs.Ytgfilegkabbliaa
open Go.ChangeShapes Go.WideShapes Go.ChangeAt Go.RowKit
set_option maxRecDepth 100000
set_option maxHeartbeats 1000000
theorem slices_Clone_Simpl_Cell_impl_Cell_c {w : World} {H : Nat → Prop} {s : List CellD} {s_a : Option Addr} {s_n s_c : Nat} (v_s : Rd 2 encC okC H w (.slice s_a s_n s_c) s) (p0 : s_n ≤ 1099511627776) :
    Calls Try.prog 122 #[.slice s_a s_n s_c] w fun e w' => ∃ (r0_a : Option Addr), ∃ (r0_n : Nat), ∃ (r0_c : Nat), e = .returned (.slice r0_a r0_n r0_c) ∧ Mv [] w [ow 144 2 encC okC (.slice r0_a r0_n r0_c) s] w' := by
  have uU : True := (fun _ => trivial) p0
  clear uU
  obtain ⟨hl, _⟩ := v_s.inv
  refine (cloneCells_s _ w s v_s.1 (by omega)).mono ?_
  rintro e w' ⟨a, n, c, rfl, h1, h2, h3⟩
  exact ⟨a, n, c, rfl, mv_of_fresh h1 h2 h3⟩
theorem slices_Clone_Simpl_Slot_impl_Slot_c {w : World} {H : Nat → Prop} {s : List SlotH} {s_a : Option Addr} {s_n s_c : Nat} (v_s : Rd 3 encSlot okSlot H w (.slice s_a s_n s_c) s) (p0 : s_n ≤ 1099511627776) :
    Calls Try.prog 121 #[.slice s_a s_n s_c] w fun e w' => ∃ (r0_a : Option Addr), ∃ (r0_n : Nat), ∃ (r0_c : Nat), e = .returned (.slice r0_a r0_n r0_c) ∧ Mv [] w [ow 99 3 encSlot okSlot (.slice r0_a r0_n r0_c) s] w' := by
 have uU : True := (fun _ => trivial) p0
 clear uU
 have V_v_s : Rd 3 encSlot okSlot (V H w []) w (.slice s_a s_n s_c) s := Rd.start v_s (fun _ _ => fps_nil _)
 obtain ⟨ln_s, le_s, mx_s, ni_s⟩ := Rd.inv v_s
 refine calls_enter 8 Try.func121 rfl Try.ntmps121 (Nat.le_of_ble_eq_true rfl) (fun _ F0i => ?_)
 have F0 : Fr 8 [(0, .slice s_a s_n s_c)] _ := F0i
 clear F0i
 refine wp_seq (wp_region_lit (l_op (f_val F0 rfl rfl (r_assign rfl rfl) rfl fun _ F1 => ?_)))
 have F2 : Fr 8 [(2, .slice none 0 0), (0, .slice s_a s_n s_c)] _ := F1.cut rfl
 clear F0 F1
 refine s_end (x_normal (wp_seq (wp_seq (wp_region_lit (l_op (f_mv F2 rfl rfl rfl rfl rfl fun _ F3 => ?_))))))
 refine l_op (f_val F3 rfl rfl (r_slNil Try.underlying29 rfl (F3.ev 3 rfl) rfl) rfl fun _ F4 => ?_)
 have F5 : Fr 8 [(4, .bool s_a.isNone), (0, .slice s_a s_n s_c)] _ := F4.cut rfl
 clear F2 F3 F4
 refine s_end (x_normal (x_condb (b := s_a.isNone) (F5.ev 4 rfl) (fun h6 => ?_) (fun h6 => ?_)))
 · skip
   refine wp_seq (wp_region_lit (l_op (f_val F5 rfl rfl (r_assign rfl rfl) rfl fun _ F7 => ?_)))
   have F8 : Fr 8 [(2, .slice none 0 0)] _ := F7.cut rfl
   clear F5 F7
   refine s_end (x_normal (wp_ret (x_then_ret ?_)))
   have S9 : Mv [] w [ow 99 3 encSlot okSlot (.slice none 0 0) ([] : List SlotH)] w := mv_nil (At.nil w)
   have S10 : Mv [ow 99 3 encSlot okSlot (.slice none 0 0) ([] : List SlotH)] w [gr inSlot ([] : List SlotH), ow 99 3 encSlot okSlot (.slice none 0 0) ([] : List SlotH)] w := gr_nil S9.at'
   refine x_done (v := .slice none 0 0) F8 (results_1 Try.results121 (.tmp (F8.ev 2 rfl))) ?_
   exact ⟨none, 0, 0, rfl, (Mv.cast (Mv.pick (S9.trans S10) [1] rfl) (by rw [(show ([] : List SlotH) = s from by first | exact nil_of ni_s (by assumption) | exact List.nil_append _ | simp)]; all_goals rfl))⟩
 · skip
   refine wp_skip (x_normal (wp_seq (wp_region_lit (l_op (f_buildSl (ok := okSlot) (vs := []) F5 (At.nil w) (([] : List SlotH)) ET_29 rfl rfl rfl rfl rfl rfl rfl rfl rfl (by simp) fun b11 _ w11 F12 S11 => ?_)))))
   refine l_op (f_mv F12 rfl rfl rfl rfl rfl fun _ F13 => ?_)
   refine l_op (f_app (news := s) F13 S11.at' 0 ET_29 rfl rfl rfl rfl rfl rfl (F13.ev 5 rfl) (F13.ev 6 rfl) ((Rd.mv (Nat.succ_pos _) V_v_s S11)).1 (by ((repeat (first | rw [List.length_append] | rw [List.length_cons] | rw [List.length_nil] | rw [List.length_take] | rw [List.length_drop])) <;> omega)) fun A14 N14 C14 _ w14 F15 S14 l14 => ?_)
   refine l_op (f_as F15 rfl rfl rfl rfl rfl fun _ F16 => ?_)
   have F17 : Fr 8 [(2, .slice A14 N14 C14)] _ := F16.cut rfl
   clear F5 F12 F13 F15 F16
   have T18 : Mv _ _ [ow 99 3 encSlot okSlot (.slice A14 N14 C14) (([] : List SlotH) ++ s)] _ := S14
   refine s_end (x_normal (wp_ret ?_))
   refine x_done (v := .slice A14 N14 C14) F17 (results_1 Try.results121 (.tmp (F17.ev 2 rfl))) ?_
   exact ⟨A14, N14, C14, rfl, (Mv.cast (Mv.pick (S11.trans T18) [0] rfl) (by rw [(show (([] : List SlotH) ++ s) = s from by first | exact nil_of ni_s (by assumption) | exact List.nil_append _ | simp)]; all_goals rfl))⟩
theorem impl_Disk_clone_c {w : World} {H : Nat → Prop} {d : DiskH} {d_slots_a : Option Addr} {d_slots_n d_slots_c : Nat} (v_d_slots : Rd 3 encSlot okSlot H w (.slice d_slots_a d_slots_n d_slots_c) d.slots) (u_d_slots : NRd inSlot H w d.slots) (h_d_journal_text : okS d.journal.text) (h_d_journal_sure : i64ok d.journal.sure) (p0 : slotsFit 1048576 (d.slots.map SlotH.d)) :
    Calls Try.prog 62 #[.agg #[.slice d_slots_a d_slots_n d_slots_c, .string d.journal.text, .int .i64 d.journal.sure]] w fun e w' => ∃ (D : List SlotH), ∃ (r0_slots_a : Option Addr), ∃ (r0_slots_n : Nat), ∃ (r0_slots_c : Nat), e = .returned (.agg #[.slice r0_slots_a r0_slots_n r0_slots_c, .string d.journal.text, .int .i64 d.journal.sure]) ∧ Mv [] w [ow 99 3 encSlot okSlot (.slice r0_slots_a r0_slots_n r0_slots_c) D, gr inSlot D] w' ∧ okS d.journal.text ∧ D.map SlotH.d = d.slots.map SlotH.d ∧ i64ok d.journal.sure ∧ D.length = d.slots.length := by
 have uU : True := (fun _ => trivial) h_d_journal_sure
 clear uU
 have hll := p0.len
 have V_v_d_slots : Rd 3 encSlot okSlot (V H w []) w (.slice d_slots_a d_slots_n d_slots_c) d.slots := Rd.start v_d_slots (fun _ _ => fps_nil _)
 obtain ⟨ln_d_slots, le_d_slots, mx_d_slots, ni_d_slots⟩ := Rd.inv v_d_slots
 have V_u_d_slots : NRd inSlot (V H w []) w d.slots := NRd.start u_d_slots (fun _ _ => fps_nil _)
 refine calls_enter 31 Try.func62 rfl Try.ntmps62 (Nat.le_of_ble_eq_true rfl) (fun _ F0i => ?_)
 have F0 : Fr 31 [(0, .agg #[.slice d_slots_a d_slots_n d_slots_c, .string d.journal.text, .int .i64 d.journal.sure])] _ := F0i
 clear F0i
 refine wp_seq (wp_region_lit (l_op (f_box F0 (At.nil w) rfl rfl rfl (F0.ev 0 rfl) rfl rfl fun b1 _ w1 F2 S1 => ?_)))
 refine l_op (f_alloc F2 S1.at' ZI_32 rfl rfl rfl rfl rfl fun b3 _ w3 F4 S3 => ?_)
 have F5 : Fr 31 [(2, .pointer (some ⟨b3, 0, none⟩)), (1, .pointer (some ⟨b1, 0, none⟩))] _ := F4.cut rfl
 clear F0 F2 F4
 have T6 : Mv _ _ [bx b3 [.slice none 0 0, .string (⟨#[]⟩ : ByteArray), .int .i64 0] 32, bx b1 [.slice d_slots_a d_slots_n d_slots_c, .string d.journal.text, .int .i64 d.journal.sure] 32] _ := S3
 refine s_end (x_normal (wp_seq ?_))
 refine x_draw (fun aZ wZ => ∃ (r0_a_13 : Option Addr), ∃ (r0_n_13 : Nat), ∃ (r0_c_13 : Nat), ∃ (b16 : Nat), Fr 31 [(2, .pointer (some ⟨b3, 0, none⟩)), (3, .pointer (some ⟨b16, 0, none⟩))] aZ ∧ Mv [bx b3 [.slice none 0 0, .string (⟨#[]⟩ : ByteArray), .int .i64 0] 32, bx b1 [.slice d_slots_a d_slots_n d_slots_c, .string d.journal.text, .int .i64 d.journal.sure] 32] w3 [bx b3 [.slice none 0 0, .string (⟨#[]⟩ : ByteArray), .int .i64 0] 32, bx b1 [.slice d_slots_a d_slots_n d_slots_c, .string d.journal.text, .int .i64 d.journal.sure] 32, ow 99 3 encSlot okSlot (.slice r0_a_13 r0_n_13 r0_c_13) d.slots, bx b16 [.slice r0_a_13 r0_n_13 r0_c_13, .string d.journal.text, .int .i64 d.journal.sure] 32] wZ) [bx b1 [.slice d_slots_a d_slots_n d_slots_c, .string d.journal.text, .int .i64 d.journal.sure] 32] mixed T6.at' (listed := #[false, false, false, false, false, false, false, false]) rfl (fun w8 S8 => ?_) [1] rfl ?_
 · skip
   refine g_take F5 rfl (i := 0) (listed' := #[true, false, false, false, false, false, false, false]) rfl (by kernel_rfl) (by kernel_rfl) (by kernel_rfl) (fun _ _ _ h => h) (Sd.of (Mv.refl S8.at') [1] rfl) rfl rfl rfl rfl (fun _ hz => (r_field FI_32_0 rfl (F5.ev 1 rfl) rfl)) fun _ F9 => ?_
   refine g_take (v := .slice d_slots_a d_slots_n d_slots_c) F9 rfl (i := 1) (listed' := #[true, true, false, false, false, false, false, false]) rfl (by kernel_rfl) (by kernel_rfl) (by kernel_rfl) (fun _ _ _ h => h) (Sd.of (Mv.refl S8.at') [1] rfl) rfl rfl rfl rfl (fun _ hz => (r_loadX (hz.bx 0 rfl) TI_29 rfl (F9.ev 5 rfl) rfl rfl (fun _ => rfl) rfl)) fun _ F10 => ?_
   refine g_take F10 rfl (i := 3) (listed' := #[true, true, false, true, false, false, false, false]) rfl (by kernel_rfl) (by kernel_rfl) (by kernel_rfl) (fun _ _ _ h => h) (Sd.of (Mv.refl S8.at') [1] rfl) rfl rfl rfl rfl (fun _ hz => (r_field FI_32_1 rfl (F10.ev 1 rfl) rfl)) fun _ F11 => ?_
   refine g_take (v := .agg #[.string d.journal.text, .int .i64 d.journal.sure]) F11 rfl (i := 4) (listed' := #[true, true, false, true, true, false, false, false]) rfl (by kernel_rfl) (by kernel_rfl) (by kernel_rfl) (fun _ _ _ h => h) (Sd.of (Mv.refl S8.at') [1] rfl) rfl rfl rfl rfl (fun _ hz => (r_loadX (hz.bx 0 rfl) TI_30 rfl (F11.ev 8 rfl) rfl rfl (fun h => nomatch h) rfl)) fun _ F12 => ?_
   refine d_all (rs := [2, 6]) rfl (by kernel_rfl) (by simp) (d_cons (i := 2) (listed' := #[true, true, true, true, true, false, false, false]) rfl rfl ?_ (d_cons (i := 6) (listed' := #[true, true, false, true, true, false, true, false]) rfl rfl ?_ d_nil))
   · skip
     refine f_call F12 CF_121 rfl rfl rfl rfl (lc (F12.ev 6 rfl) rfl) (slices_Clone_Simpl_Slot_impl_Slot_c (s := d.slots) (Rd.mv (Nat.succ_pos _) V_v_d_slots (S1.trans (T6.trans S8))) (by first | assumption | omega | (simp <;> omega))) ?_
     rintro _ w13 ⟨r0_a_13, r0_n_13, r0_c_13, rfl, m13⟩
     refine ⟨_, rfl, fun _ F14 => ?_⟩
     have S13 : Mv _ _ [ow 99 3 encSlot okSlot (.slice r0_a_13 r0_n_13 r0_c_13) d.slots, bx b3 [.slice none 0 0, .string (⟨#[]⟩ : ByteArray), .int .i64 0] 32, bx b1 [.slice d_slots_a d_slots_n d_slots_c, .string d.journal.text, .int .i64 d.journal.sure] 32] _ := At.frame S8.at' [] rfl m13
     obtain ⟨lo13_0, lp13_0, lq13_0⟩ := At.ownInv S13.at' ET_29.hk 0 rfl
     clear m13
     refine ⟨Sd.of S13 [2] rfl, ?_⟩
     refine g_take (v := .agg #[.slice r0_a_13 r0_n_13 r0_c_13, .string d.journal.text, .int .i64 d.journal.sure]) F14 rfl (i := 5) (listed' := #[true, true, true, true, true, true, false, false]) rfl (by kernel_rfl) (by kernel_rfl) (by kernel_rfl) (fun _ _ _ h => h) (Sd.of S13 [2] rfl) rfl rfl rfl rfl (fun _ hz => (r_build BI_32 rfl (lc (pr2 (F14.ev 7 rfl)) (lc (pr2 (F14.ev 9 rfl)) rfl)) rfl)) fun _ F15 => ?_
     refine d_one (i := 6) (listed' := #[true, true, true, true, true, true, true, false]) rfl (by kernel_rfl) rfl rfl ?_
     refine f_alloc F15 S13.at' ZI_32 rfl rfl rfl rfl rfl fun b16 _ w16 F17 S16 => ?_
     refine ⟨Sd.of (S13.trans S16) [3] rfl, ?_⟩
     refine d_one (i := 7) (listed' := #[true, true, true, true, true, true, true, true]) rfl (by kernel_rfl) rfl rfl ?_
     refine s_store S16.at' 0 TI_32 rfl rfl rfl rfl rfl (F17.ev 3 rfl) (F17.ev 10 rfl) rfl rfl rfl rfl rfl fun w18 S18 => ?_
     refine ⟨Sd.of (S13.trans (S16.trans S18)) [3] rfl, ?_⟩
     refine wpAnyH_done (by kernel_rfl) (x_normal ?_) _
     exact ⟨r0_a_13, r0_n_13, r0_c_13, b16, F17.cut rfl, ((S8.trans (S13.trans (S16.trans S18))).pick [2, 3, 1, 0] rfl)⟩
   · skip
     refine f_alloc F12 S8.at' ZI_32 rfl rfl rfl rfl rfl fun b19 _ w19 F20 S19 => ?_
     refine ⟨Sd.of S19 [2] rfl, ?_⟩
     refine d_one (i := 2) (listed' := #[true, true, true, true, true, false, true, false]) rfl (by kernel_rfl) rfl rfl ?_
     refine f_call F20 CF_121 rfl rfl rfl rfl (lc (F20.ev 6 rfl) rfl) (slices_Clone_Simpl_Slot_impl_Slot_c (s := d.slots) (Rd.mv (Nat.succ_pos _) V_v_d_slots (S1.trans (T6.trans (S8.trans S19)))) (by first | assumption | omega | (simp <;> omega))) ?_
     rintro _ w21 ⟨r0_a_21, r0_n_21, r0_c_21, rfl, m21⟩
     refine ⟨_, rfl, fun _ F22 => ?_⟩
     have S21 : Mv _ _ [ow 99 3 encSlot okSlot (.slice r0_a_21 r0_n_21 r0_c_21) d.slots, bx b19 [.slice none 0 0, .string (⟨#[]⟩ : ByteArray), .int .i64 0] 32, bx b3 [.slice none 0 0, .string (⟨#[]⟩ : ByteArray), .int .i64 0] 32, bx b1 [.slice d_slots_a d_slots_n d_slots_c, .string d.journal.text, .int .i64 d.journal.sure] 32] _ := At.frame S19.at' [] rfl m21
     obtain ⟨lo21_0, lp21_0, lq21_0⟩ := At.ownInv S21.at' ET_29.hk 0 rfl
     clear m21
     refine ⟨Sd.of (S19.trans S21) [3] rfl, ?_⟩
     refine g_take (v := .agg #[.slice r0_a_21 r0_n_21 r0_c_21, .string d.journal.text, .int .i64 d.journal.sure]) F22 rfl (i := 5) (listed' := #[true, true, true, true, true, true, true, false]) rfl (by kernel_rfl) (by kernel_rfl) (by kernel_rfl) (fun _ _ _ h => h) (Sd.of (S19.trans S21) [3] rfl) rfl rfl rfl rfl (fun _ hz => (r_build BI_32 rfl (lc (pr2 (F22.ev 7 rfl)) (lc (pr2 (F22.ev 9 rfl)) rfl)) rfl)) fun _ F23 => ?_
     refine d_one (i := 7) (listed' := #[true, true, true, true, true, true, true, true]) rfl (by kernel_rfl) rfl rfl ?_
     refine s_store S21.at' 1 TI_32 rfl rfl rfl rfl rfl (F23.ev 3 rfl) (F23.ev 10 rfl) rfl rfl rfl rfl rfl fun w24 S24 => ?_
     refine ⟨Sd.of (S19.trans (S21.trans S24)) [3] rfl, ?_⟩
     refine wpAnyH_done (by kernel_rfl) (x_normal ?_) _
     exact ⟨r0_a_21, r0_n_21, r0_c_21, b19, F23.cut rfl, ((S8.trans (S19.trans (S21.trans S24))).pick [2, 3, 1, 0] rfl)⟩
 · rintro a25 w25 ⟨r0_a_13, r0_n_13, r0_c_13, b16, F25, S25⟩
   obtain ⟨lo25_2, lp25_2, lq25_2⟩ := At.ownInv S25.at' ET_29.hk 2 rfl
   refine x_normal (wp_seq (wp_seq (wp_region_lit (l_op (f_val F25 rfl rfl (r_field FI_32_0 rfl (F25.ev 3 rfl) rfl) rfl fun _ F26 => ?_)))))
   refine l_op (f_val (v := .slice r0_a_13 r0_n_13 r0_c_13) F26 rfl rfl (r_loadB S25.at' 3 TI_29 rfl rfl (F26.ev 11 rfl) rfl rfl (fun _ => rfl) rfl) rfl fun _ F27 => ?_)
   refine l_op (f_val F27 rfl rfl (r_len Try.underlying29 rfl (F27.ev 12 rfl)) rfl fun _ F28 => ?_)
   refine l_op (f_val F28 rfl rfl (r_move rfl rfl) rfl fun _ F29 => ?_)
   have F30 : Fr 31 [(14, .int .i64 0), (13, .int .i64 ((r0_n_13 : Nat) : Int)), (2, .pointer (some ⟨b3, 0, none⟩)), (3, .pointer (some ⟨b16, 0, none⟩))] _ := F29.cut rfl
   clear F25 F26 F27 F28 F29
   refine s_end (x_normal (wp_block ?_))
   have S32 : Mv [bx b3 [.slice none 0 0, .string (⟨#[]⟩ : ByteArray), .int .i64 0] 32, bx b1 [.slice d_slots_a d_slots_n d_slots_c, .string d.journal.text, .int .i64 d.journal.sure] 32, ow 99 3 encSlot okSlot (.slice r0_a_13 r0_n_13 r0_c_13) d.slots, bx b16 [.slice r0_a_13 r0_n_13 r0_c_13, .string d.journal.text, .int .i64 d.journal.sure] 32] w25 [gr inSlot ([] : List SlotH), bx b3 [.slice none 0 0, .string (⟨#[]⟩ : ByteArray), .int .i64 0] 32, bx b1 [.slice d_slots_a d_slots_n d_slots_c, .string d.journal.text, .int .i64 d.journal.sure] 32, ow 99 3 encSlot okSlot (.slice r0_a_13 r0_n_13 r0_c_13) d.slots, bx b16 [.slice r0_a_13 r0_n_13 r0_c_13, .string d.journal.text, .int .i64 d.journal.sure] 32] w25 := gr_nil S25.at'
   refine x_loop (fun (k : Nat) aZ wZ => ∃ (D : List SlotH), Fr 31 [(14, .int .i64 ((k : Nat) : Int)), (13, .int .i64 ((r0_n_13 : Nat) : Int)), (2, .pointer (some ⟨b3, 0, none⟩)), (3, .pointer (some ⟨b16, 0, none⟩))] aZ ∧ Mv [gr inSlot ([] : List SlotH), bx b3 [.slice none 0 0, .string (⟨#[]⟩ : ByteArray), .int .i64 0] 32, bx b1 [.slice d_slots_a d_slots_n d_slots_c, .string d.journal.text, .int .i64 d.journal.sure] 32, ow 99 3 encSlot okSlot (.slice r0_a_13 r0_n_13 r0_c_13) d.slots, bx b16 [.slice r0_a_13 r0_n_13 r0_c_13, .string d.journal.text, .int .i64 d.journal.sure] 32] w25 [gr inSlot (D.take k), bx b3 [.slice none 0 0, .string (⟨#[]⟩ : ByteArray), .int .i64 0] 32, bx b1 [.slice d_slots_a d_slots_n d_slots_c, .string d.journal.text, .int .i64 d.journal.sure] 32, ow 99 3 encSlot okSlot (.slice r0_a_13 r0_n_13 r0_c_13) D, bx b16 [.slice r0_a_13 r0_n_13 r0_c_13, .string d.journal.text, .int .i64 d.journal.sure] 32] wZ ∧ (k ≤ d_slots_n) ∧ (D.map SlotH.d = d.slots.map SlotH.d) ∧ (D.drop k = d.slots.drop k) ∧ (D.length = d_slots_n)) (fun (k : Nat) => d_slots_n - k) (0) ?_ ?_
   · exact ⟨d.slots, F30.cut rfl, (Mv.refl S32.at'), by omega, rfl, rfl, by omega⟩
   · rintro k a31 w31 ⟨D, F31, S31, hk_0, hk_1, hk_2, hk_3⟩
     refine wp_seq (wp_region_lit (l_op (f_val F31 rfl rfl (r_cmp (b := decide (k < r0_n_13)) (.inr (.inr (.inl rfl))) rfl (F31.ev 14 rfl) (F31.ev 13 rfl) (dec_of (by omega))) rfl fun _ F33 => ?_)))
     have F34 : Fr 31 [(15, .bool (decide (k < r0_n_13))), (14, .int .i64 ((k : Nat) : Int)), (13, .int .i64 ((r0_n_13 : Nat) : Int)), (2, .pointer (some ⟨b3, 0, none⟩)), (3, .pointer (some ⟨b16, 0, none⟩))] _ := F33.cut rfl
     clear F31 F33
     refine s_end (x_normal (wp_seq (x_cond (p := k < r0_n_13) (F34.ev 15 rfl) (fun h35 => ?_) (fun h35 => ?_))))
     · skip
       refine wp_skip (x_normal (wp_seq (wp_block (wp_seq (wp_region_lit (l_op (f_mv F34 rfl rfl rfl rfl rfl fun _ F36 => ?_)))))))
       refine l_op (f_as F36 rfl rfl rfl rfl rfl fun _ F37 => ?_)
       have F38 : Fr 31 [(4, .int .i64 ((k : Nat) : Int)), (14, .int .i64 ((k : Nat) : Int)), (13, .int .i64 ((r0_n_13 : Nat) : Int)), (2, .pointer (some ⟨b3, 0, none⟩)), (3, .pointer (some ⟨b16, 0, none⟩))] _ := F37.cut rfl
       clear F34 F36 F37
       refine s_end (x_normal ?_)
       obtain ⟨x1, hx1, okx1⟩ := Rd.elem (At.rd S31.at' ET_29.hk 3 rfl) k (by first | assumption | omega)
       have VI40 : Rd 2 encC okC (V H w [gr inSlot (D.take k), bx b3 [.slice none 0 0, .string (⟨#[]⟩ : ByteArray), .int .i64 0] 32, bx b1 [.slice d_slots_a d_slots_n d_slots_c, .string d.journal.text, .int .i64 d.journal.sure] 32, ow 99 3 encSlot okSlot (.slice r0_a_13 r0_n_13 r0_c_13) D, bx b16 [.slice r0_a_13 r0_n_13 r0_c_13, .string d.journal.text, .int .i64 d.journal.sure] 32]) w31 (.slice x1.a0 x1.n0 x1.c0) x1.d.cells := NRd.get (NRd.mv V_u_d_slots (S1.trans (T6.trans (S25.trans (S32.trans S31))))) (dropk_at hk_2 hx1) (j := 0) rfl
       obtain ⟨ln40, le40, mx40, ni40⟩ := Rd.inv VI40
       refine x_draw (fun aZ wZ => ∃ (r0_a_52 : Option Addr), ∃ (r0_n_52 : Nat), ∃ (r0_c_52 : Nat), Fr 31 [(2, .pointer (some ⟨b3, 0, none⟩)), (3, .pointer (some ⟨b16, 0, none⟩)), (13, .int .i64 ((r0_n_13 : Nat) : Int)), (14, .int .i64 ((k : Nat) : Int))] aZ ∧ Mv [gr inSlot (D.take k), bx b3 [.slice none 0 0, .string (⟨#[]⟩ : ByteArray), .int .i64 0] 32, bx b1 [.slice d_slots_a d_slots_n d_slots_c, .string d.journal.text, .int .i64 d.journal.sure] 32, ow 99 3 encSlot okSlot (.slice r0_a_13 r0_n_13 r0_c_13) D, bx b16 [.slice r0_a_13 r0_n_13 r0_c_13, .string d.journal.text, .int .i64 d.journal.sure] 32] w31 [gr inSlot ((D.set k (⟨x1.d, r0_a_52, r0_n_52, r0_c_52⟩ : SlotH)).take (k + 1)), bx b3 [.slice none 0 0, .string (⟨#[]⟩ : ByteArray), .int .i64 0] 32, bx b1 [.slice d_slots_a d_slots_n d_slots_c, .string d.journal.text, .int .i64 d.journal.sure] 32, ow 99 3 encSlot okSlot (.slice r0_a_13 r0_n_13 r0_c_13) (D.set k (⟨x1.d, r0_a_52, r0_n_52, r0_c_52⟩ : SlotH)), bx b16 [.slice r0_a_13 r0_n_13 r0_c_13, .string d.journal.text, .int .i64 d.journal.sure] 32] wZ) [bx b16 [.slice r0_a_13 r0_n_13 r0_c_13, .string d.journal.text, .int .i64 d.journal.sure] 32] mixed S31.at' (listed := #[false, false, false, false, false, false, false, false, false, false, false, false, false]) rfl (fun w41 S41 => ?_) [4] rfl ?_
       · skip
         refine g_take F38 rfl (i := 0) (listed' := #[true, false, false, false, false, false, false, false, false, false, false, false, false]) rfl (by kernel_rfl) (by kernel_rfl) (by kernel_rfl) (fun _ _ _ h => h) (Sd.of (Mv.refl S41.at') [4] rfl) rfl rfl rfl rfl (fun _ hz => (r_field FI_32_0 rfl (F38.ev 3 rfl) rfl)) fun _ F42 => ?_
         refine g_take (v := .slice r0_a_13 r0_n_13 r0_c_13) F42 rfl (i := 1) (listed' := #[true, true, false, false, false, false, false, false, false, false, false, false, false]) rfl (by kernel_rfl) (by kernel_rfl) (by kernel_rfl) (fun _ _ _ h => h) (Sd.of (Mv.refl S41.at') [4] rfl) rfl rfl rfl rfl (fun _ hz => (r_loadX (hz.bx 0 rfl) TI_29 rfl (F42.ev 17 rfl) rfl rfl (fun _ => rfl) rfl)) fun _ F43 => ?_
         refine g_take F43 rfl (i := 2) (listed' := #[true, true, true, false, false, false, false, false, false, false, false, false, false]) rfl (by kernel_rfl) (by kernel_rfl) (by kernel_rfl) (fun _ _ _ h => h) (Sd.of (Mv.refl S41.at') [4] rfl) rfl rfl rfl rfl (fun _ hz => (r_move rfl (F43.ev 4 rfl))) fun _ F44 => ?_
         refine g_take F44 rfl (i := 3) (listed' := #[true, true, true, true, false, false, false, false, false, false, false, false, false]) rfl (by kernel_rfl) (by kernel_rfl) (by kernel_rfl) (fun _ _ _ h => h) (Sd.of (Mv.refl S41.at') [4] rfl) rfl rfl rfl rfl (fun _ hz => (r_field FI_32_0 rfl (F44.ev 3 rfl) rfl)) fun _ F45 => ?_
         refine g_take (v := .slice r0_a_13 r0_n_13 r0_c_13) F45 rfl (i := 4) (listed' := #[true, true, true, true, true, false, false, false, false, false, false, false, false]) rfl (by kernel_rfl) (by kernel_rfl) (by kernel_rfl) (fun _ _ _ h => h) (Sd.of (Mv.refl S41.at') [4] rfl) rfl rfl rfl rfl (fun _ hz => (r_loadX (hz.bx 0 rfl) TI_29 rfl (F45.ev 20 rfl) rfl rfl (fun _ => rfl) rfl)) fun _ F46 => ?_
         refine g_take F46 rfl (i := 5) (listed' := #[true, true, true, true, true, true, false, false, false, false, false, false, false]) rfl (by kernel_rfl) (by kernel_rfl) (by kernel_rfl) (fun _ _ _ h => h) (Sd.of (Mv.refl S41.at') [4] rfl) rfl rfl rfl rfl (fun _ hz => (r_move rfl (F46.ev 4 rfl))) fun _ F47 => ?_
         obtain ⟨B48, y48, ad48, hy48, oky48, cl48⟩ := At.ownAt S41.at' ET_29.hk 3 rfl k (by first | assumption | omega)
         obtain rfl := Option.some.inj (hx1.symm.trans hy48)
         clear hy48 oky48
         refine g_take F47 rfl (i := 6) (listed' := #[true, true, true, true, true, true, true, false, false, false, false, false, false]) rfl (by kernel_rfl) (by kernel_rfl) (by kernel_rfl) (fun _ _ _ h => h) (Sd.of (Mv.refl S41.at') [4] rfl) rfl rfl rfl rfl (fun _ hz => (r_indexAddr (i := k) ET_29 rfl ((F47.ev 21 rfl).trans (by rw [ad48])) (F47.ev 22 rfl) (by omega) (by first | assumption | omega))) fun _ F49 => ?_
         refine g_take F49 rfl (i := 7) (listed' := #[true, true, true, true, true, true, true, true, false, false, false, false, false]) rfl (by kernel_rfl) (by kernel_rfl) (by kernel_rfl) (fun _ _ _ h => h) (Sd.of (Mv.refl S41.at') [4] rfl) rfl rfl rfl rfl (fun _ hz => (r_field FI_99_1 rfl (F49.ev 23 rfl) rfl)) fun _ F50 => ?_
         refine d_one (i := 8) (listed' := #[true, true, true, true, true, true, true, true, true, false, false, false, false]) rfl (by kernel_rfl) rfl rfl ?_
         refine f_val (v := .slice x1.a0 x1.n0 x1.c0) F50 rfl rfl (r_load (cs := [.slice x1.a0 x1.n0 x1.c0]) TI_74 rfl (F50.ev 24 rfl) rfl (fun _ => rfl) (elem_sub (f := 1) cl48 [.slice x1.a0 x1.n0 x1.c0] rfl)) rfl fun _ F51 => ?_
         refine ⟨Sd.of (Mv.refl S41.at') [4] rfl, ?_⟩
         refine d_one (i := 9) (listed' := #[true, true, true, true, true, true, true, true, true, true, false, false, false]) rfl (by kernel_rfl) rfl rfl ?_
         refine f_call F51 CF_122 rfl rfl rfl rfl (lc (F51.ev 25 rfl) rfl) (slices_Clone_Simpl_Cell_impl_Cell_c (s := x1.d.cells) (Rd.mv (Nat.succ_pos _) VI40 S41) (by have hb := p0.at (dropk_at hk_2 hx1); omega)) ?_
         rintro _ w52 ⟨r0_a_52, r0_n_52, r0_c_52, rfl, m52⟩
         refine ⟨_, rfl, fun _ F53 => ?_⟩
         have S52 : Mv _ _ [ow 144 2 encC okC (.slice r0_a_52 r0_n_52 r0_c_52) x1.d.cells, gr inSlot (D.take k), bx b3 [.slice none 0 0, .string (⟨#[]⟩ : ByteArray), .int .i64 0] 32, bx b1 [.slice d_slots_a d_slots_n d_slots_c, .string d.journal.text, .int .i64 d.journal.sure] 32, ow 99 3 encSlot okSlot (.slice r0_a_13 r0_n_13 r0_c_13) D, bx b16 [.slice r0_a_13 r0_n_13 r0_c_13, .string d.journal.text, .int .i64 d.journal.sure] 32] _ := At.frame S41.at' [] rfl m52
         obtain ⟨lo52_0, lp52_0, lq52_0⟩ := At.ownInv S52.at' ET_74.hk 0 rfl
         clear m52
         refine ⟨Sd.of S52 [5] rfl, ?_⟩
         obtain ⟨B54, y54, ad54, hy54, oky54, cl54⟩ := At.ownAt S52.at' ET_29.hk 4 rfl k (by first | assumption | omega)
         obtain rfl := Option.some.inj (hx1.symm.trans hy54)
         clear hy54 oky54
         refine g_take F53 rfl (i := 10) (listed' := #[true, true, true, true, true, true, true, true, true, true, true, false, false]) rfl (by kernel_rfl) (by kernel_rfl) (by kernel_rfl) (fun _ _ _ h => h) (Sd.of S52 [5] rfl) rfl rfl rfl rfl (fun _ hz => (r_indexAddr (i := k) ET_29 rfl ((F53.ev 18 rfl).trans (by rw [ad54])) (F53.ev 19 rfl) (by omega) (by first | assumption | omega))) fun _ F55 => ?_
         refine g_take F55 rfl (i := 11) (listed' := #[true, true, true, true, true, true, true, true, true, true, true, true, false]) rfl (by kernel_rfl) (by kernel_rfl) (by kernel_rfl) (fun _ _ _ h => h) (Sd.of S52 [5] rfl) rfl rfl rfl rfl (fun _ hz => (r_field FI_99_1 rfl (F55.ev 27 rfl) rfl)) fun _ F56 => ?_
         refine d_one (i := 12) (listed' := #[true, true, true, true, true, true, true, true, true, true, true, true, true]) rfl (by kernel_rfl) rfl rfl ?_
         refine s_storeElF (off := 1) S52.at' 4 k x1 (⟨x1.d, r0_a_52, r0_n_52, r0_c_52⟩ : SlotH) ET_29.hk ET_29.h1 TI_74 rfl ad54 rfl rfl rfl rfl (F56.ev 28 rfl) (F56.ev 26 rfl) rfl (by first | assumption | omega) hx1 rfl (by decide) (okx1) fun w57 S57 => ?_
         have S58 : Mv [ow 99 3 encSlot okSlot (.slice r0_a_13 r0_n_13 r0_c_13) (D.set k (⟨x1.d, r0_a_52, r0_n_52, r0_c_52⟩ : SlotH)), ow 144 2 encC okC (.slice r0_a_52 r0_n_52 r0_c_52) x1.d.cells, gr inSlot (D.take k), bx b3 [.slice none 0 0, .string (⟨#[]⟩ : ByteArray), .int .i64 0] 32, bx b1 [.slice d_slots_a d_slots_n d_slots_c, .string d.journal.text, .int .i64 d.journal.sure] 32, bx b16 [.slice r0_a_13 r0_n_13 r0_c_13, .string d.journal.text, .int .i64 d.journal.sure] 32] w57 [gr inSlot ((D.set k (⟨x1.d, r0_a_52, r0_n_52, r0_c_52⟩ : SlotH)).take (k + 1)), ow 99 3 encSlot okSlot (.slice r0_a_13 r0_n_13 r0_c_13) (D.set k (⟨x1.d, r0_a_52, r0_n_52, r0_c_52⟩ : SlotH)), bx b3 [.slice none 0 0, .string (⟨#[]⟩ : ByteArray), .int .i64 0] 32, bx b1 [.slice d_slots_a d_slots_n d_slots_c, .string d.journal.text, .int .i64 d.journal.sure] 32, bx b16 [.slice r0_a_13 r0_n_13 r0_c_13, .string d.journal.text, .int .i64 d.journal.sure] 32] w57 := gr_pushT S57.at' [1, 2] (⟨x1.d, r0_a_52, r0_n_52, r0_c_52⟩ : SlotH) k (by omega) rfl rfl
         refine ⟨Sd.of (S52.trans (S57.trans S58)) [4] rfl, ?_⟩
         refine wpAnyH_done (by kernel_rfl) (x_normal ?_) _
         exact ⟨r0_a_52, r0_n_52, r0_c_52, F56.cut rfl, ((S41.trans (S52.trans (S57.trans S58))).pick [0, 2, 3, 1, 4] rfl)⟩
       · rintro a59 w59 ⟨r0_a_52, r0_n_52, r0_c_52, F59, S59⟩
         refine x_block_normal (x_normal ?_)
         have hb := p0.at (dropk_at hk_2 hx1)
         refine wp_region_lit (l_op (f_val F59 rfl rfl (r_add (z := ((k + 1 : Nat) : Int)) rfl (F59.ev 14 rfl) rfl (by first | rfl | omega) ⟨by first | omega | (unfold i64ok at *; omega), by first | omega | (unfold i64ok at *; omega)⟩) rfl fun _ F60 => ?_))
         refine l_op (f_mv F60 rfl rfl rfl rfl rfl fun _ F61 => ?_)
         have F62 : Fr 31 [(14, .int .i64 ((k + 1 : Nat) : Int)), (2, .pointer (some ⟨b3, 0, none⟩)), (3, .pointer (some ⟨b16, 0, none⟩)), (13, .int .i64 ((r0_n_13 : Nat) : Int))] _ := F61.cut rfl
         clear F59 F60 F61
         refine s_end ?_
         refine x_normal ⟨k + 1, by omega, D.set k (⟨x1.d, r0_a_52, r0_n_52, r0_c_52⟩ : SlotH), F62.cut rfl, ((S31.trans S59).pick [0, 1, 2, 3, 4] rfl), by omega, set_map_same hk_1 hx1 rfl, dropk_step hk_2, by rw [List.length_set]; exact hk_3⟩
     · skip
       refine wp_exit (x_then_exit (x_then_exit (x_block_here (x_normal (wp_seq (wp_region_lit (l_op (f_val (v := .agg #[.slice r0_a_13 r0_n_13 r0_c_13, .string d.journal.text, .int .i64 d.journal.sure]) F34 rfl rfl (r_loadB S31.at' 4 TI_32 rfl rfl (F34.ev 3 rfl) rfl rfl (fun h => nomatch h) rfl) rfl fun _ F63 => ?_))))))))
       refine l_op (s_store S31.at' 1 TI_32 rfl rfl rfl rfl rfl (F63.ev 2 rfl) (F63.ev 30 rfl) rfl rfl rfl rfl rfl fun w64 S64 => ?_)
       have F65 : Fr 31 [(30, .agg #[.slice r0_a_13 r0_n_13 r0_c_13, .string d.journal.text, .int .i64 d.journal.sure]), (2, .pointer (some ⟨b3, 0, none⟩))] _ := F63.cut rfl
       clear F34 F63
       have T66 : Mv _ _ [bx b3 [.slice r0_a_13 r0_n_13 r0_c_13, .string d.journal.text, .int .i64 d.journal.sure] 32, gr inSlot (D.take k), bx b1 [.slice d_slots_a d_slots_n d_slots_c, .string d.journal.text, .int .i64 d.journal.sure] 32, ow 99 3 encSlot okSlot (.slice r0_a_13 r0_n_13 r0_c_13) D, bx b16 [.slice r0_a_13 r0_n_13 r0_c_13, .string d.journal.text, .int .i64 d.journal.sure] 32] _ := S64
       refine s_end (x_normal (wp_ret ?_))
       refine x_done (v := .agg #[.slice r0_a_13 r0_n_13 r0_c_13, .string d.journal.text, .int .i64 d.journal.sure]) F65 (results_1 Try.results62 (.cell (F65.ev 2 rfl) (run_loadVar' TI_32 _ [.slice r0_a_13 r0_n_13 r0_c_13, .string d.journal.text, .int .i64 d.journal.sure] rfl (fun h => nomatch h) (At.cells T66.at' 0 rfl 0 [.slice r0_a_13 r0_n_13 r0_c_13, .string d.journal.text, .int .i64 d.journal.sure] rfl)))) ?_
       exact ⟨D, r0_a_13, r0_n_13, r0_c_13, rfl, (Mv.cast (Mv.pick (S1.trans (T6.trans (S25.trans (S32.trans (S31.trans T66))))) [3, 1] rfl) (by rw [(show (D.take k) = D from by exact List.take_of_length_le (by omega))]; all_goals rfl)), h_d_journal_text, by first | assumption | exact w64_ok _ | omega | (unfold i64ok; omega), by first | assumption | exact w64_ok _ | omega | (unfold i64ok; omega), by first | assumption | exact w64_ok _ | omega | (unfold i64ok; omega)⟩
theorem spec_l23Copy_c {w : World} {H : Nat → Prop} {d : DiskH} {d_slots_a : Option Addr} {d_slots_n d_slots_c : Nat} (v_d_slots : Rd 3 encSlot okSlot H w (.slice d_slots_a d_slots_n d_slots_c) d.slots) (u_d_slots : NRd inSlot H w d.slots) (h_d_journal_text : okS d.journal.text) (h_d_journal_sure : i64ok d.journal.sure) (p0 : slotsFit 1048576 (d.slots.map SlotH.d)) :
    Calls Try.prog 57 #[.agg #[.slice d_slots_a d_slots_n d_slots_c, .string d.journal.text, .int .i64 d.journal.sure]] w fun e w' => ∃ (D : List SlotH), ∃ (r0_slots_a : Option Addr), ∃ (r0_slots_n : Nat), ∃ (r0_slots_c : Nat), e = .returned (.agg #[.slice r0_slots_a r0_slots_n r0_slots_c, .string d.journal.text, .int .i64 d.journal.sure]) ∧ Mv [] w [ow 99 3 encSlot okSlot (.slice r0_slots_a r0_slots_n r0_slots_c) D, gr inSlot D] w' ∧ okS d.journal.text ∧ D.map SlotH.d = d.slots.map SlotH.d ∧ i64ok d.journal.sure ∧ D.length = d.slots.length := by
 have uU : True := (fun _ => trivial) h_d_journal_sure
 clear uU
 have hll := p0.len
 have V_v_d_slots : Rd 3 encSlot okSlot (V H w []) w (.slice d_slots_a d_slots_n d_slots_c) d.slots := Rd.start v_d_slots (fun _ _ => fps_nil _)
 obtain ⟨ln_d_slots, le_d_slots, mx_d_slots, ni_d_slots⟩ := Rd.inv v_d_slots
 have V_u_d_slots : NRd inSlot (V H w []) w d.slots := NRd.start u_d_slots (fun _ _ => fps_nil _)
 refine calls_enter 33 Try.func57 rfl Try.ntmps57 (Nat.le_of_ble_eq_true rfl) (fun _ F0i => ?_)
 have F0 : Fr 33 [(0, .agg #[.slice d_slots_a d_slots_n d_slots_c, .string d.journal.text, .int .i64 d.journal.sure])] _ := F0i
 clear F0i
 refine wp_seq (wp_region_lit (l_op (f_box F0 (At.nil w) rfl rfl rfl (F0.ev 0 rfl) rfl rfl fun b1 _ w1 F2 S1 => ?_)))
 refine l_op (f_alloc F2 S1.at' ZI_32 rfl rfl rfl rfl rfl fun b3 _ w3 F4 S3 => ?_)
 have F5 : Fr 33 [(2, .pointer (some ⟨b3, 0, none⟩)), (1, .pointer (some ⟨b1, 0, none⟩))] _ := F4.cut rfl
 clear F0 F2 F4
 have T6 : Mv _ _ [bx b3 [.slice none 0 0, .string (⟨#[]⟩ : ByteArray), .int .i64 0] 32, bx b1 [.slice d_slots_a d_slots_n d_slots_c, .string d.journal.text, .int .i64 d.journal.sure] 32] _ := S3
 refine s_end (x_normal (wp_seq (wp_region_lit (l_op (f_val F5 rfl rfl (r_field FI_32_1 rfl (F5.ev 1 rfl) rfl) rfl fun _ F7 => ?_)))))
 refine l_op (f_val (v := .agg #[.string d.journal.text, .int .i64 d.journal.sure]) F7 rfl rfl (r_loadB T6.at' 1 TI_30 rfl rfl (F7.ev 6 rfl) rfl rfl (fun h => nomatch h) rfl) rfl fun _ F8 => ?_)
 refine l_op (f_val (v := .agg #[.slice none 0 0, .string d.journal.text, .int .i64 d.journal.sure]) F8 rfl rfl (r_build BI_32 rfl (lc (pr2 (F8.ev 7 rfl)) rfl) rfl) rfl fun _ F9 => ?_)
 refine l_op (f_alloc F9 T6.at' ZI_32 rfl rfl rfl rfl rfl fun b10 _ w10 F11 S10 => ?_)
 refine l_op (s_store S10.at' 0 TI_32 rfl rfl rfl rfl rfl (F11.ev 3 rfl) (F11.ev 8 rfl) rfl rfl rfl rfl rfl fun w12 S12 => ?_)
 have F13 : Fr 33 [(3, .pointer (some ⟨b10, 0, none⟩)), (8, .agg #[.slice none 0 0, .string d.journal.text, .int .i64 d.journal.sure]), (2, .pointer (some ⟨b3, 0, none⟩)), (1, .pointer (some ⟨b1, 0, none⟩))] _ := F11.cut rfl
 clear F5 F7 F8 F9 F11
 have T14 : Mv _ _ [bx b10 [.slice none 0 0, .string d.journal.text, .int .i64 d.journal.sure] 32, bx b3 [.slice none 0 0, .string (⟨#[]⟩ : ByteArray), .int .i64 0] 32, bx b1 [.slice d_slots_a d_slots_n d_slots_c, .string d.journal.text, .int .i64 d.journal.sure] 32] _ := S12
 refine s_end (x_normal (wp_seq (wp_seq (wp_region_lit (l_op (f_val F13 rfl rfl (r_assign rfl rfl) rfl fun _ F15 => ?_))))))
 have F16 : Fr 33 [(4, .int .i64 0), (3, .pointer (some ⟨b10, 0, none⟩)), (2, .pointer (some ⟨b3, 0, none⟩)), (1, .pointer (some ⟨b1, 0, none⟩))] _ := F15.cut rfl
 clear F13 F15
 refine s_end (x_normal (wp_block ?_))
 have S18 : Mv [bx b10 [.slice none 0 0, .string d.journal.text, .int .i64 d.journal.sure] 32, bx b3 [.slice none 0 0, .string (⟨#[]⟩ : ByteArray), .int .i64 0] 32, bx b1 [.slice d_slots_a d_slots_n d_slots_c, .string d.journal.text, .int .i64 d.journal.sure] 32] w12 [ow 99 3 encSlot okSlot (.slice none 0 0) ([] : List SlotH), bx b10 [.slice none 0 0, .string d.journal.text, .int .i64 d.journal.sure] 32, bx b3 [.slice none 0 0, .string (⟨#[]⟩ : ByteArray), .int .i64 0] 32, bx b1 [.slice d_slots_a d_slots_n d_slots_c, .string d.journal.text, .int .i64 d.journal.sure] 32] w12 := mv_nil T14.at'
 have S19 : Mv [ow 99 3 encSlot okSlot (.slice none 0 0) ([] : List SlotH), bx b10 [.slice none 0 0, .string d.journal.text, .int .i64 d.journal.sure] 32, bx b3 [.slice none 0 0, .string (⟨#[]⟩ : ByteArray), .int .i64 0] 32, bx b1 [.slice d_slots_a d_slots_n d_slots_c, .string d.journal.text, .int .i64 d.journal.sure] 32] w12 [gr inSlot ([] : List SlotH), ow 99 3 encSlot okSlot (.slice none 0 0) ([] : List SlotH), bx b10 [.slice none 0 0, .string d.journal.text, .int .i64 d.journal.sure] 32, bx b3 [.slice none 0 0, .string (⟨#[]⟩ : ByteArray), .int .i64 0] 32, bx b1 [.slice d_slots_a d_slots_n d_slots_c, .string d.journal.text, .int .i64 d.journal.sure] 32] w12 := gr_nil S18.at'
 refine x_loop (fun (k : Nat) aZ wZ => ∃ (D : List SlotH), ∃ (oa : Option Addr), ∃ (on : Nat), ∃ (oc : Nat), Fr 33 [(4, .int .i64 ((k : Nat) : Int)), (3, .pointer (some ⟨b10, 0, none⟩)), (2, .pointer (some ⟨b3, 0, none⟩)), (1, .pointer (some ⟨b1, 0, none⟩))] aZ ∧ Mv [gr inSlot ([] : List SlotH), ow 99 3 encSlot okSlot (.slice none 0 0) ([] : List SlotH), bx b10 [.slice none 0 0, .string d.journal.text, .int .i64 d.journal.sure] 32, bx b3 [.slice none 0 0, .string (⟨#[]⟩ : ByteArray), .int .i64 0] 32, bx b1 [.slice d_slots_a d_slots_n d_slots_c, .string d.journal.text, .int .i64 d.journal.sure] 32] w12 [gr inSlot D, ow 99 3 encSlot okSlot (.slice oa on oc) D, bx b10 [.slice oa on oc, .string d.journal.text, .int .i64 d.journal.sure] 32, bx b3 [.slice none 0 0, .string (⟨#[]⟩ : ByteArray), .int .i64 0] 32, bx b1 [.slice d_slots_a d_slots_n d_slots_c, .string d.journal.text, .int .i64 d.journal.sure] 32] wZ ∧ (k ≤ d_slots_n) ∧ (D.map SlotH.d = (d.slots.take k).map SlotH.d) ∧ (D.length = k)) (fun (k : Nat) => d_slots_n - k) (0) ?_ ?_
 · exact ⟨([] : List SlotH), none, 0, 0, F16.cut rfl, (Mv.refl S19.at'), by omega, rfl, rfl⟩
 · rintro k a17 w17 ⟨D, oa, on, oc, F17, S17, hk_0, hk_1, hk_2⟩
   refine wp_seq (wp_seq (wp_region_lit (l_op (f_mv F17 rfl rfl rfl rfl rfl fun _ F20 => ?_))))
   refine l_op (f_val F20 rfl rfl (r_field FI_32_0 rfl (F20.ev 1 rfl) rfl) rfl fun _ F21 => ?_)
   refine l_op (f_val (v := .slice d_slots_a d_slots_n d_slots_c) F21 rfl rfl (r_loadB S17.at' 4 TI_29 rfl rfl (F21.ev 10 rfl) rfl rfl (fun _ => rfl) rfl) rfl fun _ F22 => ?_)
   refine l_op (f_val F22 rfl rfl (r_len Try.underlying29 rfl (F22.ev 11 rfl)) rfl fun _ F23 => ?_)
   refine l_op (f_val F23 rfl rfl (r_cmp (b := decide (k < d_slots_n)) (.inr (.inr (.inl rfl))) rfl (F23.ev 9 rfl) (F23.ev 12 rfl) (dec_of (by omega))) rfl fun _ F24 => ?_)
   have F25 : Fr 33 [(13, .bool (decide (k < d_slots_n))), (4, .int .i64 ((k : Nat) : Int)), (3, .pointer (some ⟨b10, 0, none⟩)), (2, .pointer (some ⟨b3, 0, none⟩)), (1, .pointer (some ⟨b1, 0, none⟩))] _ := F24.cut rfl
   clear F17 F20 F21 F22 F23 F24
   refine s_end (x_normal (x_cond (p := k < d_slots_n) (F25.ev 13 rfl) (fun h26 => ?_) (fun h26 => ?_)))
   · skip
     refine wp_skip (x_normal (wp_seq (wp_block (wp_seq (wp_region_lit (l_op (f_val F25 rfl rfl (r_field FI_32_0 rfl (F25.ev 1 rfl) rfl) rfl fun _ F27 => ?_)))))))
     refine l_op (f_val (v := .slice d_slots_a d_slots_n d_slots_c) F27 rfl rfl (r_loadB S17.at' 4 TI_29 rfl rfl (F27.ev 16 rfl) rfl rfl (fun _ => rfl) rfl) rfl fun _ F28 => ?_)
     refine l_op (f_mv F28 rfl rfl rfl rfl rfl fun _ F29 => ?_)
     obtain ⟨B30, O30, x1, ad30, hx1, okx1, ln30, cl30⟩ := Rd.at (Rd.mv (Nat.succ_pos _) V_v_d_slots (S1.trans (T6.trans (S10.trans (T14.trans (S18.trans (S19.trans S17))))))) k (by first | assumption | omega)
     clear ln30
     have oj31 := okx1
     unfold okSlot at oj31
     have VI32 : Rd 2 encC okC (V H w [gr inSlot D, ow 99 3 encSlot okSlot (.slice oa on oc) D, bx b10 [.slice oa on oc, .string d.journal.text, .int .i64 d.journal.sure] 32, bx b3 [.slice none 0 0, .string (⟨#[]⟩ : ByteArray), .int .i64 0] 32, bx b1 [.slice d_slots_a d_slots_n d_slots_c, .string d.journal.text, .int .i64 d.journal.sure] 32]) w17 (.slice x1.a0 x1.n0 x1.c0) x1.d.cells := NRd.get (NRd.mv V_u_d_slots (S1.trans (T6.trans (S10.trans (T14.trans (S18.trans (S19.trans S17))))))) hx1 (j := 0) rfl
     obtain ⟨ln32, le32, mx32, ni32⟩ := Rd.inv VI32
     refine l_op (f_val F29 rfl rfl (r_indexAddr (i := k) ET_29 rfl ((F29.ev 17 rfl).trans (by rw [ad30])) (F29.ev 18 rfl) (by omega) (by first | assumption | omega)) rfl fun _ F33 => ?_)
     refine l_op (f_val (v := .agg #[.int .i64 x1.d.seq, .slice x1.a0 x1.n0 x1.c0, .bool x1.d.whole]) F33 rfl rfl (r_load (cs := [.int .i64 x1.d.seq, .slice x1.a0 x1.n0 x1.c0, .bool x1.d.whole]) TI_99 rfl (F33.ev 19 rfl) rfl (fun h => nomatch h) (elem_sub (f := 0) cl30 [.int .i64 x1.d.seq, .slice x1.a0 x1.n0 x1.c0, .bool x1.d.whole] rfl)) rfl fun _ F34 => ?_)
     refine l_op (f_alloc F34 S17.at' ZI_99 rfl rfl rfl rfl rfl fun b35 _ w35 F36 S35 => ?_)
     refine l_op (s_store S35.at' 0 TI_99 rfl rfl rfl rfl rfl (F36.ev 5 rfl) (F36.ev 20 rfl) rfl rfl rfl rfl rfl fun w37 S37 => ?_)
     have F38 : Fr 33 [(5, .pointer (some ⟨b35, 0, none⟩)), (20, .agg #[.int .i64 x1.d.seq, .slice x1.a0 x1.n0 x1.c0, .bool x1.d.whole]), (4, .int .i64 ((k : Nat) : Int)), (3, .pointer (some ⟨b10, 0, none⟩)), (2, .pointer (some ⟨b3, 0, none⟩)), (1, .pointer (some ⟨b1, 0, none⟩))] _ := F36.cut rfl
     clear F25 F27 F28 F29 F33 F34 F36
     have T39 : Mv _ _ [bx b35 [.int .i64 x1.d.seq, .slice x1.a0 x1.n0 x1.c0, .bool x1.d.whole] 99, gr inSlot D, ow 99 3 encSlot okSlot (.slice oa on oc) D, bx b10 [.slice oa on oc, .string d.journal.text, .int .i64 d.journal.sure] 32, bx b3 [.slice none 0 0, .string (⟨#[]⟩ : ByteArray), .int .i64 0] 32, bx b1 [.slice d_slots_a d_slots_n d_slots_c, .string d.journal.text, .int .i64 d.journal.sure] 32] _ := S37
     refine s_end (x_normal (wp_seq (wp_region_lit (l_op (f_buildSl (ok := okC) (vs := []) F38 T39.at' (([] : List CellD)) ET_74 rfl rfl rfl rfl rfl rfl rfl rfl rfl (by simp) fun b40 _ w40 F41 S40 => ?_)))))
     refine l_op (f_val F41 rfl rfl (r_field FI_99_1 rfl (F41.ev 5 rfl) rfl) rfl fun _ F42 => ?_)
     refine l_op (f_val (v := .slice x1.a0 x1.n0 x1.c0) F42 rfl rfl (r_loadB S40.at' 1 TI_74 rfl rfl (F42.ev 22 rfl) rfl rfl (fun _ => rfl) rfl) rfl fun _ F43 => ?_)
     refine l_op (f_app (news := x1.d.cells) F43 S40.at' 0 ET_74 rfl rfl rfl rfl rfl rfl (F43.ev 21 rfl) (F43.ev 23 rfl) ((Rd.mv (Nat.succ_pos _) VI32 (S35.trans (T39.trans S40)))).1 (by (have hb := p0.at hx1; rw [List.length_nil]; omega)) fun A44 N44 C44 _ w44 F45 S44 l44 => ?_)
     refine l_op (f_val F45 rfl rfl (r_field FI_99_1 rfl (F45.ev 5 rfl) rfl) rfl fun _ F46 => ?_)
     refine l_op (s_store S44.at' 1 TI_74 rfl rfl rfl rfl rfl (F46.ev 25 rfl) (F46.ev 24 rfl) rfl rfl rfl rfl rfl fun w47 S47 => ?_)
     have F48 : Fr 33 [(25, .pointer (some ⟨b35, 1, none⟩)), (24, .slice A44 N44 C44), (5, .pointer (some ⟨b35, 0, none⟩)), (4, .int .i64 ((k : Nat) : Int)), (3, .pointer (some ⟨b10, 0, none⟩)), (2, .pointer (some ⟨b3, 0, none⟩)), (1, .pointer (some ⟨b1, 0, none⟩))] _ := F46.cut rfl
     clear F38 F41 F42 F43 F45 F46
     have T49 : Mv _ _ [bx b35 [.int .i64 x1.d.seq, .slice A44 N44 C44, .bool x1.d.whole] 99, ow 144 2 encC okC (.slice A44 N44 C44) (([] : List CellD) ++ x1.d.cells), gr inSlot D, ow 99 3 encSlot okSlot (.slice oa on oc) D, bx b10 [.slice oa on oc, .string d.journal.text, .int .i64 d.journal.sure] 32, bx b3 [.slice none 0 0, .string (⟨#[]⟩ : ByteArray), .int .i64 0] 32, bx b1 [.slice d_slots_a d_slots_n d_slots_c, .string d.journal.text, .int .i64 d.journal.sure] 32] _ := S47
     refine s_end (x_normal (wp_region_lit (l_op (f_val F48 rfl rfl (r_field FI_32_0 rfl (F48.ev 3 rfl) rfl) rfl fun _ F50 => ?_))))
     refine l_op (f_val (v := .slice oa on oc) F50 rfl rfl (r_loadB T49.at' 4 TI_29 rfl rfl (F50.ev 26 rfl) rfl rfl (fun _ => rfl) rfl) rfl fun _ F51 => ?_)
     refine l_op (f_val (v := .agg #[.int .i64 x1.d.seq, .slice A44 N44 C44, .bool x1.d.whole]) F51 rfl rfl (r_loadB T49.at' 0 TI_99 rfl rfl (F51.ev 5 rfl) rfl rfl (fun h => nomatch h) rfl) rfl fun _ F52 => ?_)
     refine l_op (f_buildSl (ok := okSlot) (vs := [.agg #[.int .i64 x1.d.seq, .slice A44 N44 C44, .bool x1.d.whole]]) F52 T49.at' ([(⟨(⟨x1.d.seq, ([] : List CellD) ++ x1.d.cells, x1.d.whole⟩ : SlotD), A44, N44, C44⟩ : SlotH)]) ET_29 rfl rfl rfl rfl rfl rfl (lc (pr2 (F52.ev 28 rfl)) rfl) rfl rfl (fun x hx => (List.mem_singleton.1 hx) ▸ okx1) fun b53 _ w53 F54 S53 => ?_)
     refine l_op (f_app (news := [(⟨(⟨x1.d.seq, ([] : List CellD) ++ x1.d.cells, x1.d.whole⟩ : SlotD), A44, N44, C44⟩ : SlotH)]) F54 S53.at' 4 ET_29 rfl rfl rfl rfl rfl rfl (F54.ev 27 rfl) (F54.ev 29 rfl) ((At.rd S53.at' ET_29.hk 0 rfl)).1 (by ((repeat (first | rw [List.length_append] | rw [List.length_cons] | rw [List.length_nil] | rw [List.length_take] | rw [List.length_drop])) <;> omega)) fun A55 N55 C55 _ w55 F56 S55 l55 => ?_)
     have S57 : Mv [ow 99 3 encSlot okSlot (.slice A55 N55 C55) (D ++ ([(⟨(⟨x1.d.seq, ([] : List CellD) ++ x1.d.cells, x1.d.whole⟩ : SlotD), A44, N44, C44⟩ : SlotH)])), ow 99 3 encSlot okSlot (.slice (some ⟨b53, 0, none⟩) 1 1) ([(⟨(⟨x1.d.seq, ([] : List CellD) ++ x1.d.cells, x1.d.whole⟩ : SlotD), A44, N44, C44⟩ : SlotH)]), bx b35 [.int .i64 x1.d.seq, .slice A44 N44 C44, .bool x1.d.whole] 99, ow 144 2 encC okC (.slice A44 N44 C44) (([] : List CellD) ++ x1.d.cells), gr inSlot D, bx b10 [.slice oa on oc, .string d.journal.text, .int .i64 d.journal.sure] 32, bx b3 [.slice none 0 0, .string (⟨#[]⟩ : ByteArray), .int .i64 0] 32, bx b1 [.slice d_slots_a d_slots_n d_slots_c, .string d.journal.text, .int .i64 d.journal.sure] 32] w55 [gr inSlot (D ++ ([(⟨(⟨x1.d.seq, ([] : List CellD) ++ x1.d.cells, x1.d.whole⟩ : SlotD), A44, N44, C44⟩ : SlotH)])), ow 99 3 encSlot okSlot (.slice A55 N55 C55) (D ++ ([(⟨(⟨x1.d.seq, ([] : List CellD) ++ x1.d.cells, x1.d.whole⟩ : SlotD), A44, N44, C44⟩ : SlotH)])), ow 99 3 encSlot okSlot (.slice (some ⟨b53, 0, none⟩) 1 1) ([(⟨(⟨x1.d.seq, ([] : List CellD) ++ x1.d.cells, x1.d.whole⟩ : SlotD), A44, N44, C44⟩ : SlotH)]), bx b35 [.int .i64 x1.d.seq, .slice A44 N44 C44, .bool x1.d.whole] 99, bx b10 [.slice oa on oc, .string d.journal.text, .int .i64 d.journal.sure] 32, bx b3 [.slice none 0 0, .string (⟨#[]⟩ : ByteArray), .int .i64 0] 32, bx b1 [.slice d_slots_a d_slots_n d_slots_c, .string d.journal.text, .int .i64 d.journal.sure] 32] w55 := gr_push S55.at' [3, 4] (⟨(⟨x1.d.seq, ([] : List CellD) ++ x1.d.cells, x1.d.whole⟩ : SlotD), A44, N44, C44⟩ : SlotH) rfl rfl
     have S58 := At.drop S57.at' 2
     refine l_op (f_val F56 rfl rfl (r_field FI_32_0 rfl (F56.ev 3 rfl) rfl) rfl fun _ F59 => ?_)
     refine l_op (s_store S58.at' 3 TI_29 rfl rfl rfl rfl rfl (F59.ev 31 rfl) (F59.ev 30 rfl) rfl rfl rfl rfl rfl fun w60 S60 => ?_)
     have F61 : Fr 33 [(31, .pointer (some ⟨b10, 0, none⟩)), (30, .slice A55 N55 C55), (4, .int .i64 ((k : Nat) : Int)), (3, .pointer (some ⟨b10, 0, none⟩)), (2, .pointer (some ⟨b3, 0, none⟩)), (1, .pointer (some ⟨b1, 0, none⟩))] _ := F59.cut rfl
     clear F48 F50 F51 F52 F54 F56 F59
     have T62 : Mv _ _ [bx b10 [.slice A55 N55 C55, .string d.journal.text, .int .i64 d.journal.sure] 32, gr inSlot (D ++ ([(⟨(⟨x1.d.seq, ([] : List CellD) ++ x1.d.cells, x1.d.whole⟩ : SlotD), A44, N44, C44⟩ : SlotH)])), ow 99 3 encSlot okSlot (.slice A55 N55 C55) (D ++ ([(⟨(⟨x1.d.seq, ([] : List CellD) ++ x1.d.cells, x1.d.whole⟩ : SlotD), A44, N44, C44⟩ : SlotH)])), bx b35 [.int .i64 x1.d.seq, .slice A44 N44 C44, .bool x1.d.whole] 99, bx b3 [.slice none 0 0, .string (⟨#[]⟩ : ByteArray), .int .i64 0] 32, bx b1 [.slice d_slots_a d_slots_n d_slots_c, .string d.journal.text, .int .i64 d.journal.sure] 32] _ := S60
     refine s_end (x_block_normal (x_normal (wp_region_lit (l_op (f_mv F61 rfl rfl rfl rfl rfl fun _ F63 => ?_)))))
     refine l_op (f_val F63 rfl rfl (r_add (z := ((k + 1 : Nat) : Int)) rfl (F63.ev 14 rfl) rfl (by first | rfl | omega) ⟨by first | omega | (unfold i64ok at *; omega), by first | omega | (unfold i64ok at *; omega)⟩) rfl fun _ F64 => ?_)
     refine l_op (f_as F64 rfl rfl rfl rfl rfl fun _ F65 => ?_)
     have F66 : Fr 33 [(4, .int .i64 ((k + 1 : Nat) : Int)), (3, .pointer (some ⟨b10, 0, none⟩)), (2, .pointer (some ⟨b3, 0, none⟩)), (1, .pointer (some ⟨b1, 0, none⟩))] _ := F65.cut rfl
     clear F61 F63 F64 F65
     refine s_end ?_
     refine x_normal ⟨k + 1, by omega, D ++ ([(⟨(⟨x1.d.seq, ([] : List CellD) ++ x1.d.cells, x1.d.whole⟩ : SlotD), A44, N44, C44⟩ : SlotH)]), A55, N55, C55, F66.cut rfl, ((S17.trans (S35.trans (T39.trans (S40.trans (S44.trans (T49.trans (S53.trans (S55.trans (S57.trans (S58.trans T62)))))))))).pick [1, 2, 0, 4, 5] rfl), by omega, by rw [List.map_append, hk_1, takeM_step hx1]; rfl, by rw [List.length_append, hk_2]; rfl⟩
   · skip
     refine wp_exit (x_then_exit (x_then_exit (x_block_here (x_normal (wp_seq (wp_region_lit (l_op (f_val (v := .agg #[.slice oa on oc, .string d.journal.text, .int .i64 d.journal.sure]) F25 rfl rfl (r_loadB S17.at' 2 TI_32 rfl rfl (F25.ev 3 rfl) rfl rfl (fun h => nomatch h) rfl) rfl fun _ F67 => ?_))))))))
     refine l_op (s_store S17.at' 3 TI_32 rfl rfl rfl rfl rfl (F67.ev 2 rfl) (F67.ev 32 rfl) rfl rfl rfl rfl rfl fun w68 S68 => ?_)
     have F69 : Fr 33 [(32, .agg #[.slice oa on oc, .string d.journal.text, .int .i64 d.journal.sure]), (2, .pointer (some ⟨b3, 0, none⟩))] _ := F67.cut rfl
     clear F25 F67
     have T70 : Mv _ _ [bx b3 [.slice oa on oc, .string d.journal.text, .int .i64 d.journal.sure] 32, gr inSlot D, ow 99 3 encSlot okSlot (.slice oa on oc) D, bx b10 [.slice oa on oc, .string d.journal.text, .int .i64 d.journal.sure] 32, bx b1 [.slice d_slots_a d_slots_n d_slots_c, .string d.journal.text, .int .i64 d.journal.sure] 32] _ := S68
     refine s_end (x_normal (wp_ret ?_))
     refine x_done (v := .agg #[.slice oa on oc, .string d.journal.text, .int .i64 d.journal.sure]) F69 (results_1 Try.results57 (.cell (F69.ev 2 rfl) (run_loadVar' TI_32 _ [.slice oa on oc, .string d.journal.text, .int .i64 d.journal.sure] rfl (fun h => nomatch h) (At.cells T70.at' 0 rfl 0 [.slice oa on oc, .string d.journal.text, .int .i64 d.journal.sure] rfl)))) ?_
     exact ⟨D, oa, on, oc, rfl, (Mv.pick (S1.trans (T6.trans (S10.trans (T14.trans (S18.trans (S19.trans (S17.trans T70))))))) [2, 1] rfl), h_d_journal_text, by rw [hk_1, List.take_of_length_le (by omega)], by first | assumption | exact w64_ok _ | omega | (unfold i64ok; omega), by first | assumption | exact w64_ok _ | omega | (unfold i64ok; omega)⟩
end Go.Proofs.Ytgfilegkabbliaa
