/-
  Texts laid together: GenRf, GenRg.
-/
import Derived.Test.YtipdbeklopjbmaaGreatDoorP10
import Derived.Test.YtipdbeklopjbmaaGreatDoorP05
import Derived.Test.YtipdbeklopjbmaaGreatDoorP19
/-
  Walks: a builder is written, read.
-/

namespace Go.Proofs.YtipdbeklopjbmaaGreatDoor
open Go.ChangeShapes Go.WideShapes Go.ChangeAt Go.RowKit
set_option maxRecDepth 100000
set_option maxHeartbeats 1000000
theorem strings_Builder_copyCheck_nil_c {w : World} {H : Nat → Prop} {b : BldD} {Q0 : Option Addr} {Q2 Q1 : Nat} {b_b : Nat}  (hA : At w [bx b_b [.pointer none, .slice Q0 Q2 Q1] 195, owB 5 (.slice Q0 Q2 Q1) b.buf]) :
    Calls Tryz.prog 181 #[.pointer (some ⟨b_b, 0, none⟩)] w fun e w' => e = .returned (.tuple #[]) ∧ Mv [bx b_b [.pointer none, .slice Q0 Q2 Q1] 195, owB 5 (.slice Q0 Q2 Q1) b.buf] w [bx b_b [.pointer (some ⟨b_b, 0, none⟩), .slice Q0 Q2 Q1] 195, owB 5 (.slice Q0 Q2 Q1) b.buf] w' := by
  have uU : True := (fun _ => trivial) H
  clear uU
  have hbk := bx_at hA
  refine (Any.Builder_copyCheck_fresh { laysBWr with } extraW b_b w (by rw [Lib.cell_of_heap hbk]; rfl) (shape_bx hbk) (Lib.frozen_of_heap hbk 0)).mono ?_
  rintro e w' ⟨rfl, rfl⟩
  exact ⟨rfl, bld_set _ hA⟩
theorem strings_Builder_copyCheck_c {w : World} {H : Nat → Prop} {b : BldD} {Q0 : Option Addr} {Q2 Q1 : Nat} {b_b : Nat}  (hA : At w [bx b_b [.pointer (some ⟨b_b, 0, none⟩), .slice Q0 Q2 Q1] 195, owB 5 (.slice Q0 Q2 Q1) b.buf]) :
    Calls Tryz.prog 181 #[.pointer (some ⟨b_b, 0, none⟩)] w fun e w' => e = .returned (.tuple #[]) ∧ Mv [bx b_b [.pointer (some ⟨b_b, 0, none⟩), .slice Q0 Q2 Q1] 195, owB 5 (.slice Q0 Q2 Q1) b.buf] w [bx b_b [.pointer (some ⟨b_b, 0, none⟩), .slice Q0 Q2 Q1] 195, owB 5 (.slice Q0 Q2 Q1) b.buf] w' := by
  have uU : True := (fun _ => trivial) H
  clear uU
  have hbk := bx_at hA
  refine (Any.Builder_copyCheck_used { laysBWr with } extraW b_b w (by rw [Lib.cell_of_heap hbk]; rfl)).mono ?_
  rintro e w' ⟨rfl, rfl⟩
  exact ⟨rfl, Mv.refl hA⟩
theorem strings_Builder_WriteString_nil_c {w : World} {H : Nat → Prop} {b : BldD} {Q0 : Option Addr} {Q2 Q1 : Nat} {b_b : Nat} {s : ByteArray} (h_s : okS s) (p0 : b.buf.length + s.size ≤ 140737488355328) (hA : At w [bx b_b [.pointer none, .slice Q0 Q2 Q1] 195, owB 5 (.slice Q0 Q2 Q1) b.buf]) :
    Calls Tryz.prog 150 #[.pointer (some ⟨b_b, 0, none⟩), .string s] w fun e w' => ∃ (Q3 : Option Addr), ∃ (Q5 : Nat), ∃ (Q4 : Nat), e = .returned (.tuple #[.int .i64 ((s.size : Nat) : Int), .nilIface]) ∧ Mv [bx b_b [.pointer none, .slice Q0 Q2 Q1] 195, owB 5 (.slice Q0 Q2 Q1) b.buf] w [bx b_b [.pointer (some ⟨b_b, 0, none⟩), .slice Q3 Q5 Q4] 195, owB 5 (.slice Q3 Q5 Q4) (b.buf ++ bytesN s)] w' := by
 have uU : True := (fun _ _ _ => trivial) H h_s p0
 clear uU
 obtain ⟨lo1, lp1, lq1⟩ := At.ownInvB hA 1 rfl
 refine calls_enter 19 Tryz.func150 rfl Tryz.ntmps150 (Nat.le_of_ble_eq_true rfl) (fun _ F0i => ?_)
 have F0 : Fr 19 [(0, .pointer (some ⟨b_b, 0, none⟩)), (1, .string s)] _ := F0i
 clear F0i
 refine wp_seq (wp_region_lit (l_op (f_val F0 rfl rfl (r_assign rfl rfl) rfl fun _ F1 => ?_)))
 refine l_op (f_val F1 rfl rfl (r_assign rfl rfl) rfl fun _ F2 => ?_)
 refine s_end (x_normal (wp_seq (wp_region_lit (l_op (f_mv F2 rfl rfl rfl rfl rfl fun _ F3 => ?_)))))
 refine l_op (f_call F3 CF_181 rfl rfl rfl rfl (lc (F3.ev 6 rfl) rfl) (strings_Builder_copyCheck_nil_c (H := fun _ => True) (b := (⟨(), b.buf⟩ : BldD)) (At.pick (is := [0, 1]) hA rfl)) ?_)
 rintro _ w4 ⟨rfl, m4⟩
 refine ⟨_, rfl, fun _ F5 => ?_⟩
 have S4 : Mv _ _ [bx b_b [.pointer (some ⟨b_b, 0, none⟩), .slice Q0 Q2 Q1] 195, owB 5 (.slice Q0 Q2 Q1) b.buf] _ := At.frame hA [0, 1] rfl m4
 obtain ⟨Q6, Q7, Q8⟩ := At.ownInvB S4.at' 1 rfl
 clear m4
 refine s_end (x_normal (wp_seq (wp_region_lit (l_op (f_mv F5 rfl rfl rfl rfl rfl fun _ F6 => ?_)))))
 refine l_op (f_mv F6 rfl rfl rfl rfl rfl fun _ F7 => ?_)
 refine l_op (f_val F7 rfl rfl (r_nilCheck rfl (F7.ev 9 rfl)) rfl fun _ F8 => ?_)
 refine l_op (f_val F8 rfl rfl (r_field FI_195_1 rfl (F8.ev 10 rfl) rfl) rfl fun _ F9 => ?_)
 refine l_op (f_val (v := .slice Q0 Q2 Q1) F9 rfl rfl (r_loadB S4.at' 0 TI_62 rfl rfl (F9.ev 11 rfl) rfl rfl (fun _ => rfl) rfl) rfl fun _ F10 => ?_)
 refine l_op (f_mv F10 rfl rfl rfl rfl rfl fun _ F11 => ?_)
 refine l_op (f_appBs (bs := bytesN s) F11 S4.at' 1 ET_62 Tryz.underlying9 rfl rfl rfl rfl rfl rfl rfl rfl (F11.ev 12 rfl) (F11.ev 13 rfl) rfl (by ((repeat (first | rw [List.length_append] | rw [List.length_cons] | rw [List.length_nil] | rw [bytesN_length])) <;> omega)) fun A12 N12 C12 _ w12 F13 S12 l12 => ?_)
 refine l_op (f_val F13 rfl rfl (r_nilCheck rfl (F13.ev 8 rfl)) rfl fun _ F14 => ?_)
 refine l_op (f_val F14 rfl rfl (r_field FI_195_1 rfl (F14.ev 15 rfl) rfl) rfl fun _ F15 => ?_)
 refine l_op (s_store S12.at' 1 TI_62 rfl rfl rfl rfl rfl (F15.ev 16 rfl) (F15.ev 14 rfl) rfl rfl rfl rfl rfl fun w16 S16 => ?_)
 refine s_end (x_normal (wp_seq (wp_region_lit (l_op (f_mv F15 rfl rfl rfl rfl rfl fun _ F17 => ?_)))))
 refine l_op (f_val F17 rfl rfl (r_lenS (fun t ht => by cases ht; exact Tryz.underlying9) rfl rfl (F17.ev 17 rfl)) rfl fun _ F18 => ?_)
 refine l_op (f_as F18 rfl rfl rfl rfl rfl fun _ F19 => ?_)
 refine l_op (f_val F19 rfl rfl (r_assign rfl rfl) rfl fun _ F20 => ?_)
 refine s_end (x_normal (wp_ret ?_))
 refine x_done (v := .tuple #[.int .i64 ((s.size : Nat) : Int), .nilIface]) F20 (results_2 Tryz.results150 (.tmp (F20.ev 4 rfl)) (.tmp (F20.ev 5 rfl))) ?_
 exact ⟨A12, N12, C12, rfl, (Mv.pick (S4.trans (S12.trans S16)) [0, 1] rfl)⟩
theorem strings_Builder_WriteString_c {w : World} {H : Nat → Prop} {b : BldD} {Q0 : Option Addr} {Q2 Q1 : Nat} {b_b : Nat} {s : ByteArray} (h_s : okS s) (p0 : b.buf.length + s.size ≤ 140737488355328) (hA : At w [bx b_b [.pointer (some ⟨b_b, 0, none⟩), .slice Q0 Q2 Q1] 195, owB 5 (.slice Q0 Q2 Q1) b.buf]) :
    Calls Tryz.prog 150 #[.pointer (some ⟨b_b, 0, none⟩), .string s] w fun e w' => ∃ (Q3 : Option Addr), ∃ (Q5 : Nat), ∃ (Q4 : Nat), e = .returned (.tuple #[.int .i64 ((s.size : Nat) : Int), .nilIface]) ∧ Mv [bx b_b [.pointer (some ⟨b_b, 0, none⟩), .slice Q0 Q2 Q1] 195, owB 5 (.slice Q0 Q2 Q1) b.buf] w [bx b_b [.pointer (some ⟨b_b, 0, none⟩), .slice Q3 Q5 Q4] 195, owB 5 (.slice Q3 Q5 Q4) (b.buf ++ bytesN s)] w' := by
 have uU : True := (fun _ _ _ => trivial) H h_s p0
 clear uU
 obtain ⟨lo1, lp1, lq1⟩ := At.ownInvB hA 1 rfl
 refine calls_enter 19 Tryz.func150 rfl Tryz.ntmps150 (Nat.le_of_ble_eq_true rfl) (fun _ F0i => ?_)
 have F0 : Fr 19 [(0, .pointer (some ⟨b_b, 0, none⟩)), (1, .string s)] _ := F0i
 clear F0i
 refine wp_seq (wp_region_lit (l_op (f_val F0 rfl rfl (r_assign rfl rfl) rfl fun _ F1 => ?_)))
 refine l_op (f_val F1 rfl rfl (r_assign rfl rfl) rfl fun _ F2 => ?_)
 refine s_end (x_normal (wp_seq (wp_region_lit (l_op (f_mv F2 rfl rfl rfl rfl rfl fun _ F3 => ?_)))))
 refine l_op (f_call F3 CF_181 rfl rfl rfl rfl (lc (F3.ev 6 rfl) rfl) (strings_Builder_copyCheck_c (H := fun _ => True) (b := (⟨(), b.buf⟩ : BldD)) (At.pick (is := [0, 1]) hA rfl)) ?_)
 rintro _ w4 ⟨rfl, m4⟩
 refine ⟨_, rfl, fun _ F5 => ?_⟩
 have S4 : Mv _ _ [bx b_b [.pointer (some ⟨b_b, 0, none⟩), .slice Q0 Q2 Q1] 195, owB 5 (.slice Q0 Q2 Q1) b.buf] _ := At.frame hA [0, 1] rfl m4
 obtain ⟨Q6, Q7, Q8⟩ := At.ownInvB S4.at' 1 rfl
 clear m4
 refine s_end (x_normal (wp_seq (wp_region_lit (l_op (f_mv F5 rfl rfl rfl rfl rfl fun _ F6 => ?_)))))
 refine l_op (f_mv F6 rfl rfl rfl rfl rfl fun _ F7 => ?_)
 refine l_op (f_val F7 rfl rfl (r_nilCheck rfl (F7.ev 9 rfl)) rfl fun _ F8 => ?_)
 refine l_op (f_val F8 rfl rfl (r_field FI_195_1 rfl (F8.ev 10 rfl) rfl) rfl fun _ F9 => ?_)
 refine l_op (f_val (v := .slice Q0 Q2 Q1) F9 rfl rfl (r_loadB S4.at' 0 TI_62 rfl rfl (F9.ev 11 rfl) rfl rfl (fun _ => rfl) rfl) rfl fun _ F10 => ?_)
 refine l_op (f_mv F10 rfl rfl rfl rfl rfl fun _ F11 => ?_)
 refine l_op (f_appBs (bs := bytesN s) F11 S4.at' 1 ET_62 Tryz.underlying9 rfl rfl rfl rfl rfl rfl rfl rfl (F11.ev 12 rfl) (F11.ev 13 rfl) rfl (by ((repeat (first | rw [List.length_append] | rw [List.length_cons] | rw [List.length_nil] | rw [bytesN_length])) <;> omega)) fun A12 N12 C12 _ w12 F13 S12 l12 => ?_)
 refine l_op (f_val F13 rfl rfl (r_nilCheck rfl (F13.ev 8 rfl)) rfl fun _ F14 => ?_)
 refine l_op (f_val F14 rfl rfl (r_field FI_195_1 rfl (F14.ev 15 rfl) rfl) rfl fun _ F15 => ?_)
 refine l_op (s_store S12.at' 1 TI_62 rfl rfl rfl rfl rfl (F15.ev 16 rfl) (F15.ev 14 rfl) rfl rfl rfl rfl rfl fun w16 S16 => ?_)
 refine s_end (x_normal (wp_seq (wp_region_lit (l_op (f_mv F15 rfl rfl rfl rfl rfl fun _ F17 => ?_)))))
 refine l_op (f_val F17 rfl rfl (r_lenS (fun t ht => by cases ht; exact Tryz.underlying9) rfl rfl (F17.ev 17 rfl)) rfl fun _ F18 => ?_)
 refine l_op (f_as F18 rfl rfl rfl rfl rfl fun _ F19 => ?_)
 refine l_op (f_val F19 rfl rfl (r_assign rfl rfl) rfl fun _ F20 => ?_)
 refine s_end (x_normal (wp_ret ?_))
 refine x_done (v := .tuple #[.int .i64 ((s.size : Nat) : Int), .nilIface]) F20 (results_2 Tryz.results150 (.tmp (F20.ev 4 rfl)) (.tmp (F20.ev 5 rfl))) ?_
 exact ⟨A12, N12, C12, rfl, (Mv.pick (S4.trans (S12.trans S16)) [0, 1] rfl)⟩
theorem strings_Builder_Len_c {w : World} {H : Nat → Prop} {b : BldD} {Q1 : Option Addr} {Q0 Q2 : Nat} {b_b : Nat}  (hA : At w [bx b_b [.pointer (some ⟨b_b, 0, none⟩), .slice Q1 Q0 Q2] 195, owB 5 (.slice Q1 Q0 Q2) b.buf]) :
    Calls Tryz.prog 152 #[.pointer (some ⟨b_b, 0, none⟩)] w fun e w' => e = .returned (.int .i64 ((Q0 : Nat) : Int)) ∧ Mv [bx b_b [.pointer (some ⟨b_b, 0, none⟩), .slice Q1 Q0 Q2] 195, owB 5 (.slice Q1 Q0 Q2) b.buf] w [bx b_b [.pointer (some ⟨b_b, 0, none⟩), .slice Q1 Q0 Q2] 195, owB 5 (.slice Q1 Q0 Q2) b.buf] w' := by
 have uU : True := (fun _ => trivial) H
 clear uU
 obtain ⟨lo1, lp1, lq1⟩ := At.ownInvB hA 1 rfl
 refine calls_enter 8 Tryz.func152 rfl Tryz.ntmps152 (Nat.le_of_ble_eq_true rfl) (fun _ F0i => ?_)
 have F0 : Fr 8 [(0, .pointer (some ⟨b_b, 0, none⟩))] _ := F0i
 clear F0i
 refine wp_seq (wp_region_lit (l_op (f_val F0 rfl rfl (r_assign rfl rfl) rfl fun _ F1 => ?_)))
 refine s_end (x_normal (wp_seq (wp_region_lit (l_op (f_mv F1 rfl rfl rfl rfl rfl fun _ F2 => ?_)))))
 refine l_op (f_val F2 rfl rfl (r_nilCheck rfl (F2.ev 3 rfl)) rfl fun _ F3 => ?_)
 refine l_op (f_val F3 rfl rfl (r_field FI_195_1 rfl (F3.ev 4 rfl) rfl) rfl fun _ F4 => ?_)
 refine l_op (f_val (v := .slice Q1 Q0 Q2) F4 rfl rfl (r_loadB hA 0 TI_62 rfl rfl (F4.ev 5 rfl) rfl rfl (fun _ => rfl) rfl) rfl fun _ F5 => ?_)
 refine l_op (f_val F5 rfl rfl (r_len Tryz.underlying62 rfl (F5.ev 6 rfl)) rfl fun _ F6 => ?_)
 refine l_op (f_as F6 rfl rfl rfl rfl rfl fun _ F7 => ?_)
 refine s_end (x_normal (wp_ret ?_))
 refine x_done (v := .int .i64 ((Q0 : Nat) : Int)) F7 (results_1 Tryz.results152 (.tmp (F7.ev 2 rfl))) ?_
 exact ⟨rfl, (Mv.pick (Mv.refl hA) [0, 1] rfl)⟩
theorem strings_Builder_String_c {w : World} {H : Nat → Prop} {b : BldD} {Q0 : Option Addr} {Q2 Q1 : Nat} {b_b : Nat}  (p0 : b.buf ≠ []) (hA : At w [bx b_b [.pointer (some ⟨b_b, 0, none⟩), .slice Q0 Q2 Q1] 195, owB 5 (.slice Q0 Q2 Q1) b.buf]) :
    Calls Tryz.prog 154 #[.pointer (some ⟨b_b, 0, none⟩)] w fun e w' => e = .returned (.string (bstr b.buf)) ∧ Mv [bx b_b [.pointer (some ⟨b_b, 0, none⟩), .slice Q0 Q2 Q1] 195, owB 5 (.slice Q0 Q2 Q1) b.buf] w [bx b_b [.pointer (some ⟨b_b, 0, none⟩), .slice Q0 Q2 Q1] 195, owB 5 (.slice Q0 Q2 Q1) b.buf] w' ∧ okS (bstr b.buf) := by
  have uU : True := (fun _ => trivial) H
  clear uU
  have hO : OwnB _ w (.slice Q0 Q2 Q1) b.buf := hA.ok _ (nth_mem (i := 1) rfl)
  have hl : ∀ x ∈ b.buf, x < 256 := hO.bytes
  have hz := hO.len
  obtain ⟨l, hq, hs⟩ : ∃ l : List UInt8, b.buf = l.map (·.toNat) ∧ (⟨l.toArray⟩ : ByteArray) = bstr b.buf := ⟨(bstr b.buf).data.toList, (bytesN_bstr b.buf hl).symm, rfl⟩
  rw [hq] at hA
  rw [← hs, hq]
  refine (bld_str_c laysBStr extraS l (fun e => p0 (by rw [hq, e]; rfl)) hA).mono ?_
  rintro e w' ⟨rfl, hm⟩
  exact ⟨rfl, hm, by rw [hs]; exact okS_bstr (by unfold maxLen at hz; omega)⟩
end Go.Proofs.YtipdbeklopjbmaaGreatDoor
/-
  Walks: the text of a record, by a builder.
-/

namespace Go.Proofs.YtipdbeklopjbmaaGreatDoor
open Go.ChangeShapes Go.WideShapes Go.ChangeAt Go.RowKit
set_option maxRecDepth 100000
set_option maxHeartbeats 1000000
theorem impl_RecordText_c {w : World} {H : Nat → Prop} {seq : Int} {list : List CellD} {Q1 : Option Addr} {Q0 Q2 : Nat} (Q9 : i64ok seq) (Q10 : Rd 2 encC okC H w (.slice Q1 Q0 Q2) list) (tab0 : Tb 0 H w) (p0 : list.length ≤ 4294967280) :
    Calls Tryz.prog 115 #[.int .i64 seq, .slice Q1 Q0 Q2] w fun e w' => e = .returned (.string (recT seq list)) ∧ Mv [] w [] w' ∧ okS (recT seq list) := by
 have uU : True := (fun _ => trivial) p0
 clear uU
 have hds := decS_size seq Q9
 have Q11 : Rd 2 encC okC (V H w []) w (.slice Q1 Q0 Q2) list := Rd.start Q10 (fun _ _ => fps_nil _)
 obtain ⟨Q15, Q14, Q37, Q38⟩ := Rd.inv Q10
 have V_tab0 : Tb 0 (V H w []) w := Tb.start tab0 (fun _ _ => fps_nil _)
 refine calls_enter 57 Tryz.func115 rfl Tryz.ntmps115 (Nat.le_of_ble_eq_true rfl) (fun _ F0i => ?_)
 have F0 : Fr 57 [(0, .int .i64 seq), (1, .slice Q1 Q0 Q2)] _ := F0i
 clear F0i
 refine wp_seq (wp_region_lit (l_op (f_val F0 rfl rfl (r_assign rfl rfl) rfl fun _ F1 => ?_)))
 have F2 : Fr 57 [(4, .string bE_), (0, .int .i64 seq), (1, .slice Q1 Q0 Q2)] _ := F1.cut rfl
 clear F0 F1
 refine s_end (x_normal (wp_seq (wp_seq (wp_region_lit (l_op (f_mv F2 rfl rfl rfl rfl rfl fun _ F3 => ?_))))))
 refine l_op (f_call F3 CF_93 rfl rfl rfl rfl (lc (F3.ev 9 rfl) (lc rfl (lc rfl rfl))) (impl_within_c (H := fun _ => True) (n := seq) (low := 1) (high := 100000) Q9 (by first | assumption | exact ⟨by omega, by omega⟩ | (unfold i64ok at *; omega)) (by first | assumption | exact ⟨by omega, by omega⟩ | (unfold i64ok at *; omega))) ?_)
 rintro _ w4 ⟨rfl, m4⟩
 refine ⟨_, rfl, fun _ F5 => ?_⟩
 have S4 := At.frame0 (At.nil w) m4
 clear m4
 refine l_op (f_val F5 rfl rfl (r_not rfl (F5.ev 10 rfl)) rfl fun _ F6 => ?_)
 have F7 : Fr 57 [(11, .bool (!(inB seq 1 100000))), (0, .int .i64 seq), (1, .slice Q1 Q0 Q2)] _ := F6.cut rfl
 clear F2 F3 F5 F6
 refine s_end (x_normal (x_condb (b := (!(inB seq 1 100000))) (F7.ev 11 rfl) (fun h8 => ?_) (fun h8 => ?_)))
 · skip
   refine wp_seq (wp_region_lit (l_op (f_val F7 rfl rfl (r_assign rfl rfl) rfl fun _ F9 => ?_)))
   have F10 : Fr 57 [(4, .string bE_)] _ := F9.cut rfl
   clear F7 F9
   refine s_end (x_normal (wp_ret (x_then_ret ?_)))
   refine x_done (v := .string bE_) F10 (results_1 Tryz.results115 (.tmp (F10.ev 4 rfl))) ?_
   exact ⟨(by rw [(show bE_ = (recT seq list) from by first | exact recT_no (nt ‹_›) | exact recT_bad hx1 (cellB_1 ‹_›) | exact recT_bad hx1 (cellB_2 ‹_›) | exact recT_long (congrArg List.length hk_1) (by omega) | exact recT_end (by rw [← rec_s hk_1 (by omega)]; assumption) | (rw [rec_s hk_1 (by omega)]; exact recT_yes (nf ‹_›) (fun j hj => hk_2 j (by omega)) (by rw [← rec_s hk_1 (by omega)]; assumption)))]), (Mv.pick S4 [] rfl), ((show bE_ = (recT seq list) from by first | exact recT_no (nt ‹_›) | exact recT_bad hx1 (cellB_1 ‹_›) | exact recT_bad hx1 (cellB_2 ‹_›) | exact recT_long (congrArg List.length hk_1) (by omega) | exact recT_end (by rw [← rec_s hk_1 (by omega)]; assumption) | (rw [rec_s hk_1 (by omega)]; exact recT_yes (nf ‹_›) (fun j hj => hk_2 j (by omega)) (by rw [← rec_s hk_1 (by omega)]; assumption))) ▸ (by unfold okS; decide))⟩
 · skip
   refine wp_skip (x_normal (wp_seq (wp_region_lit (l_op (f_alloc F7 S4.at' ZI_195 rfl rfl rfl rfl rfl fun b11 _ w11 F12 S11 => ?_)))))
   have F13 : Fr 57 [(5, .pointer (some ⟨b11, 0, none⟩)), (0, .int .i64 seq), (1, .slice Q1 Q0 Q2)] _ := F12.cut rfl
   clear F7 F12
   refine s_end (x_normal (wp_seq (wp_region_lit (l_op (f_mv F13 rfl rfl rfl rfl rfl fun _ F14 => ?_)))))
   refine l_op (f_call F14 CF_151 rfl rfl rfl rfl (lc (F14.ev 12 rfl) rfl) (impl_Decimal_c (n := seq) Q9 (Tb.mv V_tab0 (S4.trans S11))) ?_)
   rintro _ w15 ⟨rfl, m15, Q13⟩
   refine ⟨_, rfl, fun _ F16 => ?_⟩
   have S15 := At.frame0 S11.at' m15
   clear m15
   have S18 : Mv [bx b11 [.pointer none, .slice none 0 0] 195] w15 [owB 5 (.slice none 0 0) ([] : List Nat), bx b11 [.pointer none, .slice none 0 0] 195] w15 := mv_nilB S15.at' _
   refine l_op (f_call F16 CF_150 rfl rfl rfl rfl (lc (F16.ev 5 rfl) (lc (F16.ev 13 rfl) rfl)) (strings_Builder_WriteString_nil_c (H := fun _ => True) (b := (⟨(), []⟩ : BldD)) (s := decS seq) Q13 (by show 0 + _ ≤ _; omega) (At.pick (is := [1, 0]) S18.at' rfl)) ?_)
   rintro _ w17 ⟨Q6, Q8, Q7, rfl, m17⟩
   refine ⟨_, rfl, fun _ F19 => ?_⟩
   have S17 : Mv _ _ [bx b11 [.pointer (some ⟨b11, 0, none⟩), .slice Q6 Q8 Q7] 195, owB 5 (.slice Q6 Q8 Q7) (([]) ++ bytesN (decS seq))] _ := At.frame S18.at' [1, 0] rfl m17
   obtain ⟨Q17, Q24, Q31⟩ := At.ownInvB S17.at' 1 rfl
   clear m17
   have F20 : Fr 57 [(14, .tuple #[.int .i64 (((decS seq).size : Nat) : Int), .nilIface]), (5, .pointer (some ⟨b11, 0, none⟩)), (1, .slice Q1 Q0 Q2)] _ := F19.cut rfl
   clear F13 F14 F16 F19
   refine s_end (x_normal (wp_seq (wp_seq (wp_region_lit (l_op (f_mv F20 rfl rfl rfl rfl rfl fun _ F21 => ?_))))))
   refine l_op (f_val F21 rfl rfl (r_len Tryz.underlying28 rfl (F21.ev 15 rfl)) rfl fun _ F22 => ?_)
   refine l_op (f_val F22 rfl rfl (r_move rfl rfl) rfl fun _ F23 => ?_)
   have F24 : Fr 57 [(17, .int .i64 0), (16, .int .i64 ((Q0 : Nat) : Int)), (15, .slice Q1 Q0 Q2), (5, .pointer (some ⟨b11, 0, none⟩))] _ := F23.cut rfl
   clear F20 F21 F22 F23
   refine s_end (x_normal (wp_block ?_))
   refine x_loop (fun (k : Nat) aZ wZ => ∃ (D : List Nat), ∃ (oa : Option Addr), ∃ (on : Nat), ∃ (oc : Nat), Fr 57 [(17, .int .i64 ((k : Nat) : Int)), (16, .int .i64 ((Q0 : Nat) : Int)), (15, .slice Q1 Q0 Q2), (5, .pointer (some ⟨b11, 0, none⟩))] aZ ∧ Mv [bx b11 [.pointer (some ⟨b11, 0, none⟩), .slice Q6 Q8 Q7] 195, owB 5 (.slice Q6 Q8 Q7) (([]) ++ bytesN (decS seq))] w17 [bx b11 [.pointer (some ⟨b11, 0, none⟩), .slice oa on oc] 195, owB 5 (.slice oa on oc) D] wZ ∧ (k ≤ Q0) ∧ (D = recN seq (list.take k)) ∧ (∀ j, j < k → ∀ c, nth list j = some c → cellB c = true) ∧ (D.length ≤ 4300)) (fun (k : Nat) => Q0 - k) (0) ?_ ?_
   · exact ⟨([]) ++ bytesN (decS seq), Q6, Q8, Q7, F24.cut rfl, (Mv.refl S17.at'), by omega, rec_startB seq list, fun j hj => by omega, by rw [List.nil_append, bytesN_length]; omega⟩
   · rintro k a25 w25 ⟨D, oa, on, oc, F25, S25, hk_0, hk_1, hk_2, hk_3⟩
     obtain ⟨Q18, Q25, Q32⟩ := At.ownInvB S25.at' 1 rfl
     refine wp_seq (wp_region_lit (l_op (f_val F25 rfl rfl (r_cmp (b := decide (k < Q0)) (.inr (.inr (.inl rfl))) rfl (F25.ev 17 rfl) (F25.ev 16 rfl) (dec_of (by omega))) rfl fun _ F26 => ?_)))
     have F27 : Fr 57 [(18, .bool (decide (k < Q0))), (17, .int .i64 ((k : Nat) : Int)), (16, .int .i64 ((Q0 : Nat) : Int)), (15, .slice Q1 Q0 Q2), (5, .pointer (some ⟨b11, 0, none⟩))] _ := F26.cut rfl
     clear F25 F26
     refine s_end (x_normal (wp_seq (x_cond (p := k < Q0) (F27.ev 18 rfl) (fun h28 => ?_) (fun h28 => ?_))))
     · skip
       refine wp_skip (x_normal (wp_seq (wp_block (wp_seq (wp_region_lit ?_)))))
       obtain ⟨B29, O29, x1, ad29, hx1, okx1, ln29, cl29⟩ := Rd.at (Rd.mq Q11 (S4.trans (S11.trans (S15.trans (S18.trans (S17.trans S25)))))) k (by first | assumption | omega)
       clear ln29
       refine l_op (f_val F27 rfl rfl (r_indexAddr (i := k) ET_28 rfl ((F27.ev 15 rfl).trans (by rw [ad29])) (F27.ev 17 rfl) (by omega) (by first | assumption | omega)) rfl fun _ F30 => ?_)
       refine l_op (f_val (v := .agg #[.string x1.key, .string x1.val]) F30 rfl rfl (r_load (cs := [.string x1.key, .string x1.val]) TI_91 rfl (F30.ev 19 rfl) rfl (fun h => nomatch h) (elem_sub (f := 0) cl29 [.string x1.key, .string x1.val] rfl)) rfl fun _ F31 => ?_)
       refine l_op (f_alloc F31 S25.at' ZI_91 rfl rfl rfl rfl rfl fun b32 _ w32 F33 S32 => ?_)
       refine l_op (s_store S32.at' 0 TI_91 rfl rfl rfl rfl rfl (F33.ev 7 rfl) (F33.ev 20 rfl) rfl rfl rfl rfl rfl fun w34 S34 => ?_)
       have F35 : Fr 57 [(7, .pointer (some ⟨b32, 0, none⟩)), (20, .agg #[.string x1.key, .string x1.val]), (17, .int .i64 ((k : Nat) : Int)), (16, .int .i64 ((Q0 : Nat) : Int)), (15, .slice Q1 Q0 Q2), (5, .pointer (some ⟨b11, 0, none⟩))] _ := F33.cut rfl
       clear F27 F30 F31 F33
       have T36 : Mv _ _ [bx b32 [.string x1.key, .string x1.val] 91, bx b11 [.pointer (some ⟨b11, 0, none⟩), .slice oa on oc] 195, owB 5 (.slice oa on oc) D] _ := S34
       refine s_end (x_normal (wp_seq (wp_seq (wp_region_lit (l_op (f_val F35 rfl rfl (r_field FI_91_0 rfl (F35.ev 7 rfl) rfl) rfl fun _ F37 => ?_))))))
       refine l_op (f_val (v := .string x1.key) F37 rfl rfl (r_loadB T36.at' 0 TI_9 rfl rfl (F37.ev 21 rfl) rfl rfl (fun _ => rfl) rfl) rfl fun _ F38 => ?_)
       refine l_op (f_call F38 CF_97 rfl rfl rfl rfl (lc (F38.ev 22 rfl) rfl) (impl_KeyOk_c (H := fun _ => True) (key := x1.key) okx1.1) ?_)
       rintro _ w39 ⟨rfl, m39⟩
       refine ⟨_, rfl, fun _ F40 => ?_⟩
       have S39 := At.frame0 T36.at' m39
       clear m39
       refine l_op (f_val F40 rfl rfl (r_not rfl (F40.ev 23 rfl)) rfl fun _ F41 => ?_)
       refine l_op (f_mv F41 rfl rfl rfl rfl rfl fun _ F42 => ?_)
       rcases Bool.eq_false_or_eq_true (!(keyOk x1.key)) with h43 | h43
       · rw [h43] at F42
         refine l_op (f_skip F42 (wanted_g F42 rfl rfl rfl rfl) rfl rfl fun _ F44 => ?_)
         refine l_op (f_skip F44 (wanted_g F44 rfl rfl rfl rfl) rfl rfl fun _ F45 => ?_)
         refine l_op (f_skip F45 (wanted_g F45 rfl rfl rfl rfl) rfl rfl fun _ F46 => ?_)
         refine l_op (f_skip F46 (wanted_g F46 rfl rfl rfl rfl) rfl rfl fun _ F47 => ?_)
         refine l_op (f_val F47 rfl rfl (r_pick (b := true) rfl (F47.ev 25 rfl) rfl) rfl fun _ F48 => ?_)
         refine l_op (f_mv F48 rfl rfl rfl rfl rfl fun _ F49 => ?_)
         refine l_op (f_skip F49 (wanted_g F49 rfl rfl rfl rfl) rfl rfl fun _ F50 => ?_)
         refine l_op (f_skip F50 (wanted_g F50 rfl rfl rfl rfl) rfl rfl fun _ F51 => ?_)
         refine l_op (f_val F51 rfl rfl (r_pick (b := true) rfl (F51.ev 31 rfl) rfl) rfl fun _ F52 => ?_)
         have F53 : Fr 57 [(34, .bool true), (7, .pointer (some ⟨b32, 0, none⟩)), (17, .int .i64 ((k : Nat) : Int)), (16, .int .i64 ((Q0 : Nat) : Int)), (15, .slice Q1 Q0 Q2), (5, .pointer (some ⟨b11, 0, none⟩))] _ := F52.cut rfl
         clear F35 F37 F38 F40 F41 F42 F44 F45 F46 F47 F48 F49 F50 F51 F52
         refine s_end (x_normal (wp_cond_true (F53.ev 34 rfl) (wp_seq (wp_region_lit (l_op (f_val F53 rfl rfl (r_assign rfl rfl) rfl fun _ F54 => ?_))))))
         have F55 : Fr 57 [(4, .string bE_)] _ := F54.cut rfl
         clear F53 F54
         refine s_end (x_normal (wp_ret (x_then_ret (x_block_ret (x_then_ret (x_then_ret (x_block_ret (x_then_ret ?_))))))))
         refine x_done (v := .string bE_) F55 (results_1 Tryz.results115 (.tmp (F55.ev 4 rfl))) ?_
         exact ⟨(by rw [(show bE_ = (recT seq list) from by first | exact recT_no (nt ‹_›) | exact recT_bad hx1 (cellB_1 ‹_›) | exact recT_bad hx1 (cellB_2 ‹_›) | exact recT_long (congrArg List.length hk_1) (by omega) | exact recT_end (by rw [← rec_s hk_1 (by omega)]; assumption) | (rw [rec_s hk_1 (by omega)]; exact recT_yes (nf ‹_›) (fun j hj => hk_2 j (by omega)) (by rw [← rec_s hk_1 (by omega)]; assumption)))]), (Mv.pick (S4.trans (S11.trans (S15.trans (S18.trans (S17.trans (S25.trans (S32.trans (T36.trans S39)))))))) [] rfl), ((show bE_ = (recT seq list) from by first | exact recT_no (nt ‹_›) | exact recT_bad hx1 (cellB_1 ‹_›) | exact recT_bad hx1 (cellB_2 ‹_›) | exact recT_long (congrArg List.length hk_1) (by omega) | exact recT_end (by rw [← rec_s hk_1 (by omega)]; assumption) | (rw [rec_s hk_1 (by omega)]; exact recT_yes (nf ‹_›) (fun j hj => hk_2 j (by omega)) (by rw [← rec_s hk_1 (by omega)]; assumption))) ▸ (by unfold okS; decide))⟩
       · rw [h43] at F42
         refine l_op (f_val F42 (wanted_g F42 rfl rfl rfl rfl) rfl (r_field FI_91_1 rfl (F42.ev 7 rfl) rfl) rfl fun _ F56 => ?_)
         refine l_op (f_val (v := .string x1.val) F56 (wanted_g F56 rfl rfl rfl rfl) rfl (r_loadB S39.at' 0 TI_9 rfl rfl (F56.ev 26 rfl) rfl rfl (fun _ => rfl) rfl) rfl fun _ F57 => ?_)
         refine l_op (f_val F57 (wanted_g F57 rfl rfl rfl rfl) rfl (r_lenS (fun t ht => by cases ht; exact Tryz.underlying9) rfl rfl (F57.ev 27 rfl)) rfl fun _ F58 => ?_)
         refine l_op (f_val F58 (wanted_g F58 rfl rfl rfl rfl) rfl (r_cmp (b := decide (x1.val.size > 60)) (.inr (.inr (.inr (.inr (.inl rfl))))) rfl (F58.ev 28 rfl) rfl (dec_of (by omega))) rfl fun _ F59 => ?_)
         refine l_op (f_val F59 rfl rfl (r_pick (b := false) rfl (F59.ev 25 rfl) (F59.ev 29 rfl)) rfl fun _ F60 => ?_)
         refine l_op (f_mv F60 rfl rfl rfl rfl rfl fun _ F61 => ?_)
         rcases Decidable.em (x1.val.size > 60) with h62 | h62
         · rw [decide_eq_true h62] at F61
           refine l_op (f_skip F61 (wanted_g F61 rfl rfl rfl rfl) rfl rfl fun _ F63 => ?_)
           refine l_op (f_skip F63 (wanted_g F63 rfl rfl rfl rfl) rfl rfl fun _ F64 => ?_)
           refine l_op (f_val F64 rfl rfl (r_pick (b := true) rfl (F64.ev 31 rfl) rfl) rfl fun _ F65 => ?_)
           have F66 : Fr 57 [(34, .bool true), (7, .pointer (some ⟨b32, 0, none⟩)), (17, .int .i64 ((k : Nat) : Int)), (16, .int .i64 ((Q0 : Nat) : Int)), (15, .slice Q1 Q0 Q2), (5, .pointer (some ⟨b11, 0, none⟩))] _ := F65.cut rfl
           clear F35 F37 F38 F40 F41 F42 F56 F57 F58 F59 F60 F61 F63 F64 F65
           refine s_end (x_normal (wp_cond_true (F66.ev 34 rfl) (wp_seq (wp_region_lit (l_op (f_val F66 rfl rfl (r_assign rfl rfl) rfl fun _ F67 => ?_))))))
           have F68 : Fr 57 [(4, .string bE_)] _ := F67.cut rfl
           clear F66 F67
           refine s_end (x_normal (wp_ret (x_then_ret (x_block_ret (x_then_ret (x_then_ret (x_block_ret (x_then_ret ?_))))))))
           refine x_done (v := .string bE_) F68 (results_1 Tryz.results115 (.tmp (F68.ev 4 rfl))) ?_
           exact ⟨(by rw [(show bE_ = (recT seq list) from by first | exact recT_no (nt ‹_›) | exact recT_bad hx1 (cellB_1 ‹_›) | exact recT_bad hx1 (cellB_2 ‹_›) | exact recT_long (congrArg List.length hk_1) (by omega) | exact recT_end (by rw [← rec_s hk_1 (by omega)]; assumption) | (rw [rec_s hk_1 (by omega)]; exact recT_yes (nf ‹_›) (fun j hj => hk_2 j (by omega)) (by rw [← rec_s hk_1 (by omega)]; assumption)))]), (Mv.pick (S4.trans (S11.trans (S15.trans (S18.trans (S17.trans (S25.trans (S32.trans (T36.trans S39)))))))) [] rfl), ((show bE_ = (recT seq list) from by first | exact recT_no (nt ‹_›) | exact recT_bad hx1 (cellB_1 ‹_›) | exact recT_bad hx1 (cellB_2 ‹_›) | exact recT_long (congrArg List.length hk_1) (by omega) | exact recT_end (by rw [← rec_s hk_1 (by omega)]; assumption) | (rw [rec_s hk_1 (by omega)]; exact recT_yes (nf ‹_›) (fun j hj => hk_2 j (by omega)) (by rw [← rec_s hk_1 (by omega)]; assumption))) ▸ (by unfold okS; decide))⟩
         · rw [decide_eq_false h62] at F61
           refine l_op (f_call F61 CF_152 (wanted_g F61 rfl rfl rfl rfl) rfl rfl rfl (lc (F61.ev 5 rfl) rfl) (strings_Builder_Len_c (H := fun _ => True) (b := (⟨(), D⟩ : BldD)) (At.pick (is := [1, 2]) S39.at' rfl)) ?_)
           rintro _ w69 ⟨rfl, m69⟩
           refine ⟨_, rfl, fun _ F70 => ?_⟩
           have S69 : Mv _ _ [bx b11 [.pointer (some ⟨b11, 0, none⟩), .slice oa on oc] 195, owB 5 (.slice oa on oc) D, bx b32 [.string x1.key, .string x1.val] 91] _ := At.frame S39.at' [1, 2] rfl m69
           obtain ⟨Q19, Q26, Q33⟩ := At.ownInvB S69.at' 1 rfl
           clear m69
           refine l_op (f_val F70 (wanted_g F70 rfl rfl rfl rfl) rfl (r_cmp (b := decide (on > 4000)) (.inr (.inr (.inr (.inr (.inl rfl))))) rfl (F70.ev 32 rfl) rfl (dec_of (by omega))) rfl fun _ F71 => ?_)
           refine l_op (f_val F71 rfl rfl (r_pick (b := false) rfl (F71.ev 31 rfl) (F71.ev 33 rfl)) rfl fun _ F72 => ?_)
           have F73 : Fr 57 [(34, .bool (decide (on > 4000))), (7, .pointer (some ⟨b32, 0, none⟩)), (17, .int .i64 ((k : Nat) : Int)), (16, .int .i64 ((Q0 : Nat) : Int)), (15, .slice Q1 Q0 Q2), (5, .pointer (some ⟨b11, 0, none⟩))] _ := F72.cut rfl
           clear F35 F37 F38 F40 F41 F42 F56 F57 F58 F59 F60 F61 F70 F71 F72
           refine s_end (x_normal (x_cond (p := on > 4000) (F73.ev 34 rfl) (fun h74 => ?_) (fun h74 => ?_)))
           · skip
             refine wp_seq (wp_region_lit (l_op (f_val F73 rfl rfl (r_assign rfl rfl) rfl fun _ F75 => ?_)))
             have F76 : Fr 57 [(4, .string bE_)] _ := F75.cut rfl
             clear F73 F75
             refine s_end (x_normal (wp_ret (x_then_ret (x_block_ret (x_then_ret (x_then_ret (x_block_ret (x_then_ret ?_))))))))
             refine x_done (v := .string bE_) F76 (results_1 Tryz.results115 (.tmp (F76.ev 4 rfl))) ?_
             exact ⟨(by rw [(show bE_ = (recT seq list) from by first | exact recT_no (nt ‹_›) | exact recT_bad hx1 (cellB_1 ‹_›) | exact recT_bad hx1 (cellB_2 ‹_›) | exact recT_long (congrArg List.length hk_1) (by omega) | exact recT_end (by rw [← rec_s hk_1 (by omega)]; assumption) | (rw [rec_s hk_1 (by omega)]; exact recT_yes (nf ‹_›) (fun j hj => hk_2 j (by omega)) (by rw [← rec_s hk_1 (by omega)]; assumption)))]), (Mv.pick (S4.trans (S11.trans (S15.trans (S18.trans (S17.trans (S25.trans (S32.trans (T36.trans (S39.trans S69))))))))) [] rfl), ((show bE_ = (recT seq list) from by first | exact recT_no (nt ‹_›) | exact recT_bad hx1 (cellB_1 ‹_›) | exact recT_bad hx1 (cellB_2 ‹_›) | exact recT_long (congrArg List.length hk_1) (by omega) | exact recT_end (by rw [← rec_s hk_1 (by omega)]; assumption) | (rw [rec_s hk_1 (by omega)]; exact recT_yes (nf ‹_›) (fun j hj => hk_2 j (by omega)) (by rw [← rec_s hk_1 (by omega)]; assumption))) ▸ (by unfold okS; decide))⟩
           · skip
             refine wp_skip (x_normal ?_)
             have hs1 := keyOk_size (nf ‹_›)
             have hs2 := hexS_size x1.key
             have hs3 := hexS_size x1.val
             have hz8 : (⟨#[32]⟩ : ByteArray).size = 1 := rfl
             have hz9 : (⟨#[61]⟩ : ByteArray).size = 1 := rfl
             refine x_draw (fun aZ wZ => ∃ (Q3 : Option Addr), ∃ (Q5 : Nat), ∃ (Q4 : Nat), Fr 57 [(5, .pointer (some ⟨b11, 0, none⟩)), (15, .slice Q1 Q0 Q2), (16, .int .i64 ((Q0 : Nat) : Int)), (17, .int .i64 ((k : Nat) : Int))] aZ ∧ Mv [bx b11 [.pointer (some ⟨b11, 0, none⟩), .slice oa on oc] 195, owB 5 (.slice oa on oc) D, bx b32 [.string x1.key, .string x1.val] 91] w69 [bx b11 [.pointer (some ⟨b11, 0, none⟩), .slice Q3 Q5 Q4] 195, bx b32 [.string x1.key, .string x1.val] 91, owB 5 (.slice Q3 Q5 Q4) (D ++ bytesN ((((⟨#[32]⟩ : ByteArray) ++ (hexS x1.key)) ++ (⟨#[61]⟩ : ByteArray)) ++ (hexS x1.val)))] wZ) [bx b32 [.string x1.key, .string x1.val] 91] mixed S69.at' (listed := #[false, false, false, false, false, false, false, false, false, false]) rfl (fun w78 S78 => ?_) [2] rfl ?_
             · skip
               refine g_take F73 rfl (i := 0) (listed' := #[true, false, false, false, false, false, false, false, false, false]) rfl (by kernel_rfl) (by kernel_rfl) (by kernel_rfl) (fun _ _ _ h => h) (Sd.of (Mv.refl S78.at') [2] rfl) rfl rfl rfl rfl (fun _ hz => (r_field FI_91_0 rfl (F73.ev 7 rfl) rfl)) fun _ F79 => ?_
               refine g_take (v := .string x1.key) F79 rfl (i := 1) (listed' := #[true, true, false, false, false, false, false, false, false, false]) rfl (by kernel_rfl) (by kernel_rfl) (by kernel_rfl) (fun _ _ _ h => h) (Sd.of (Mv.refl S78.at') [2] rfl) rfl rfl rfl rfl (fun _ hz => (r_loadX (hz.bx 0 rfl) TI_9 rfl (F79.ev 35 rfl) rfl rfl (fun _ => rfl) rfl)) fun _ F80 => ?_
               refine g_take F80 rfl (i := 5) (listed' := #[true, true, false, false, false, true, false, false, false, false]) rfl (by kernel_rfl) (by kernel_rfl) (by kernel_rfl) (fun _ _ _ h => h) (Sd.of (Mv.refl S78.at') [2] rfl) rfl rfl rfl rfl (fun _ hz => (r_field FI_91_1 rfl (F80.ev 7 rfl) rfl)) fun _ F81 => ?_
               refine g_take (v := .string x1.val) F81 rfl (i := 6) (listed' := #[true, true, false, false, false, true, true, false, false, false]) rfl (by kernel_rfl) (by kernel_rfl) (by kernel_rfl) (fun _ _ _ h => h) (Sd.of (Mv.refl S78.at') [2] rfl) rfl rfl rfl rfl (fun _ hz => (r_loadX (hz.bx 0 rfl) TI_9 rfl (F81.ev 40 rfl) rfl rfl (fun _ => rfl) rfl)) fun _ F82 => ?_
               refine d_one (i := 2) (listed' := #[true, true, true, false, false, true, true, false, false, false]) rfl (by kernel_rfl) rfl rfl ?_
               refine f_call F82 CF_153 rfl rfl rfl rfl (lc (F82.ev 36 rfl) rfl) (impl_hexOf_c (H := fun _ => True) (text := x1.key) okx1.1 (by first | assumption | omega | (simp <;> omega))) ?_
               rintro _ w83 ⟨rfl, m83, Q40⟩
               refine ⟨_, rfl, fun _ F84 => ?_⟩
               have S83 := At.frame0 S78.at' m83
               clear m83
               refine ⟨Sd.of S83 [2] rfl, ?_⟩
               have k85 : (⟨#[32]⟩ : ByteArray).size + (hexS x1.key).size ≤ 9223372036854775807 := by ((repeat rw [ByteArray.size_append]) <;> omega)
               refine g_take F84 rfl (i := 3) (listed' := #[true, true, true, true, false, true, true, false, false, false]) rfl (by kernel_rfl) (by kernel_rfl) (by kernel_rfl) (fun _ _ _ h => h) (Sd.of S83 [2] rfl) rfl rfl rfl rfl (fun _ hz => (r_cat rfl rfl (F84.ev 37 rfl) k85)) fun _ F86 => ?_
               have k87 : ((⟨#[32]⟩ : ByteArray) ++ (hexS x1.key)).size + (⟨#[61]⟩ : ByteArray).size ≤ 9223372036854775807 := by ((repeat rw [ByteArray.size_append]) <;> omega)
               refine g_take F86 rfl (i := 4) (listed' := #[true, true, true, true, true, true, true, false, false, false]) rfl (by kernel_rfl) (by kernel_rfl) (by kernel_rfl) (fun _ _ _ h => h) (Sd.of S83 [2] rfl) rfl rfl rfl rfl (fun _ hz => (r_cat rfl (F86.ev 38 rfl) rfl k87)) fun _ F88 => ?_
               refine d_one (i := 7) (listed' := #[true, true, true, true, true, true, true, true, false, false]) rfl (by kernel_rfl) rfl rfl ?_
               refine f_call F88 CF_153 rfl rfl rfl rfl (lc (F88.ev 41 rfl) rfl) (impl_hexOf_c (H := fun _ => True) (text := x1.val) okx1.2 (by first | assumption | omega | (simp <;> omega))) ?_
               rintro _ w89 ⟨rfl, m89, Q41⟩
               refine ⟨_, rfl, fun _ F90 => ?_⟩
               have S89 := At.frame0 S83.at' m89
               clear m89
               refine ⟨Sd.of (S83.trans S89) [2] rfl, ?_⟩
               have k91 : (((⟨#[32]⟩ : ByteArray) ++ (hexS x1.key)) ++ (⟨#[61]⟩ : ByteArray)).size + (hexS x1.val).size ≤ 9223372036854775807 := by ((repeat rw [ByteArray.size_append]) <;> omega)
               refine g_take F90 rfl (i := 8) (listed' := #[true, true, true, true, true, true, true, true, true, false]) rfl (by kernel_rfl) (by kernel_rfl) (by kernel_rfl) (fun _ _ _ h => h) (Sd.of (S83.trans S89) [2] rfl) rfl rfl rfl rfl (fun _ hz => (r_cat rfl (F90.ev 39 rfl) (F90.ev 42 rfl) k91)) fun _ F92 => ?_
               refine d_one (i := 9) (listed' := #[true, true, true, true, true, true, true, true, true, true]) rfl (by kernel_rfl) rfl rfl ?_
               refine f_call F92 CF_150 rfl rfl rfl rfl (lc (F92.ev 5 rfl) (lc (F92.ev 43 rfl) rfl)) (strings_Builder_WriteString_c (H := fun _ => True) (b := (⟨(), D⟩ : BldD)) (s := (((⟨#[32]⟩ : ByteArray) ++ (hexS x1.key)) ++ (⟨#[61]⟩ : ByteArray)) ++ (hexS x1.val)) (okS_cat k91) (by show D.length + _ ≤ _; (repeat rw [ByteArray.size_append]); omega) (At.pick (is := [0, 1]) S89.at' rfl)) ?_
               rintro _ w93 ⟨Q3, Q5, Q4, rfl, m93⟩
               refine ⟨_, rfl, fun _ F94 => ?_⟩
               have S93 : Mv _ _ [bx b11 [.pointer (some ⟨b11, 0, none⟩), .slice Q3 Q5 Q4] 195, owB 5 (.slice Q3 Q5 Q4) (D ++ bytesN ((((⟨#[32]⟩ : ByteArray) ++ (hexS x1.key)) ++ (⟨#[61]⟩ : ByteArray)) ++ (hexS x1.val))), bx b32 [.string x1.key, .string x1.val] 91] _ := At.frame S89.at' [0, 1] rfl m93
               obtain ⟨Q20, Q27, Q34⟩ := At.ownInvB S93.at' 1 rfl
               clear m93
               refine ⟨Sd.of (S83.trans (S89.trans S93)) [2] rfl, ?_⟩
               refine wpAnyH_done (by kernel_rfl) (x_normal ?_) _
               exact ⟨Q3, Q5, Q4, F94.cut rfl, ((S78.trans (S83.trans (S89.trans S93))).pick [0, 2, 1] rfl)⟩
             · rintro a95 w95 ⟨Q3, Q5, Q4, F95, S95⟩
               obtain ⟨Q21, Q28, Q35⟩ := At.ownInvB S95.at' 2 rfl
               refine x_block_normal (x_normal (wp_region_lit (l_op (f_val F95 rfl rfl (r_add (z := ((k + 1 : Nat) : Int)) rfl (F95.ev 17 rfl) rfl (by first | rfl | omega) ⟨by first | omega | (unfold i64ok at *; omega), by first | omega | (unfold i64ok at *; omega)⟩) rfl fun _ F96 => ?_))))
               refine l_op (f_mv F96 rfl rfl rfl rfl rfl fun _ F97 => ?_)
               have F98 : Fr 57 [(17, .int .i64 ((k + 1 : Nat) : Int)), (5, .pointer (some ⟨b11, 0, none⟩)), (15, .slice Q1 Q0 Q2), (16, .int .i64 ((Q0 : Nat) : Int))] _ := F97.cut rfl
               clear F95 F96 F97
               refine s_end ?_
               refine x_normal ⟨k + 1, by omega, D ++ bytesN ((((⟨#[32]⟩ : ByteArray) ++ (hexS x1.key)) ++ (⟨#[61]⟩ : ByteArray)) ++ (hexS x1.val)), Q3, Q5, Q4, F98.cut rfl, ((S25.trans (S32.trans (T36.trans (S39.trans (S69.trans S95))))).pick [0, 2] rfl), by omega, rec_stepB hk_1 hx1, rec_all hk_2 hx1 (cellB_yes ‹_› ‹_›), by rw [List.length_append, bytesN_length]; (repeat rw [ByteArray.size_append]); omega⟩
     · skip
       refine wp_exit (x_then_exit (x_then_exit (x_block_here (x_normal (wp_seq ?_)))))
       have hz3 := bstr_size D
       have hz4 := sumN_lt (l := bytesN (bstr D))
       have hz5 := decS_size ((sumN (bytesN (bstr D)) : Nat) : Int) ⟨by omega, by omega⟩
       have hz6 : (⟨#[32, 35]⟩ : ByteArray).size = 2 := rfl
       have hz7 : (⟨#[10]⟩ : ByteArray).size = 1 := rfl
       refine wp_region_lit (l_op (f_call F27 CF_154 rfl rfl rfl rfl (lc (F27.ev 5 rfl) rfl) (strings_Builder_String_c (H := fun _ => True) (b := (⟨(), D⟩ : BldD)) (by exact recD_ne ‹_› hk_1) (At.pick (is := [0, 1]) S25.at' rfl)) ?_))
       rintro _ w99 ⟨rfl, m99, Q42⟩
       refine ⟨_, rfl, fun _ F100 => ?_⟩
       have S99 : Mv _ _ [bx b11 [.pointer (some ⟨b11, 0, none⟩), .slice oa on oc] 195, owB 5 (.slice oa on oc) D] _ := At.frame S25.at' [0, 1] rfl m99
       obtain ⟨Q22, Q29, Q36⟩ := At.ownInvB S99.at' 1 rfl
       clear m99
       have k101 : (bstr D).size + (⟨#[32, 35]⟩ : ByteArray).size ≤ 9223372036854775807 := by ((repeat rw [ByteArray.size_append]) <;> omega)
       refine l_op (f_val F100 rfl rfl (r_cat rfl (F100.ev 46 rfl) rfl k101) rfl fun _ F102 => ?_)
       refine l_op (f_call F102 CF_154 rfl rfl rfl rfl (lc (F102.ev 5 rfl) rfl) (strings_Builder_String_c (H := fun _ => True) (b := (⟨(), D⟩ : BldD)) (by exact recD_ne ‹_› hk_1) (At.pick (is := [0, 1]) S99.at' rfl)) ?_)
       rintro _ w103 ⟨rfl, m103, Q12⟩
       refine ⟨_, rfl, fun _ F104 => ?_⟩
       have S103 : Mv _ _ [bx b11 [.pointer (some ⟨b11, 0, none⟩), .slice oa on oc] 195, owB 5 (.slice oa on oc) D] _ := At.frame S99.at' [0, 1] rfl m103
       obtain ⟨Q16, Q23, Q30⟩ := At.ownInvB S103.at' 1 rfl
       clear m103
       refine l_op (f_call F104 CF_155 rfl rfl rfl rfl (lc (F104.ev 48 rfl) rfl) (impl_ByteSum_c (H := fun _ => True) (text := bstr D) Q12) ?_)
       rintro _ w105 ⟨rfl, m105⟩
       refine ⟨_, rfl, fun _ F106 => ?_⟩
       have S105 := At.frame0 S103.at' m105
       clear m105
       refine l_op (f_call F106 CF_151 rfl rfl rfl rfl (lc (F106.ev 49 rfl) rfl) (impl_Decimal_c (n := ((sumN (bytesN (bstr D)) : Nat) : Int)) (by first | assumption | exact ⟨by omega, by omega⟩ | (unfold i64ok at *; omega)) (Tb.mv V_tab0 (S4.trans (S11.trans (S15.trans (S18.trans (S17.trans (S25.trans (S99.trans (S103.trans S105)))))))))) ?_)
       rintro _ w107 ⟨rfl, m107, Q39⟩
       refine ⟨_, rfl, fun _ F108 => ?_⟩
       have S107 := At.frame0 S105.at' m107
       clear m107
       have k109 : ((bstr D) ++ (⟨#[32, 35]⟩ : ByteArray)).size + (decS ((sumN (bytesN (bstr D)) : Nat) : Int)).size ≤ 9223372036854775807 := by ((repeat rw [ByteArray.size_append]) <;> omega)
       refine l_op (f_val F108 rfl rfl (r_cat rfl (F108.ev 47 rfl) (F108.ev 50 rfl) k109) rfl fun _ F110 => ?_)
       have k111 : (((bstr D) ++ (⟨#[32, 35]⟩ : ByteArray)) ++ (decS ((sumN (bytesN (bstr D)) : Nat) : Int))).size + (⟨#[10]⟩ : ByteArray).size ≤ 9223372036854775807 := by ((repeat rw [ByteArray.size_append]) <;> omega)
       refine l_op (f_val F110 rfl rfl (r_cat rfl (F110.ev 51 rfl) rfl k111) rfl fun _ F112 => ?_)
       refine l_op (f_as F112 rfl rfl rfl rfl rfl fun _ F113 => ?_)
       have F114 : Fr 57 [(8, .string ((((bstr D) ++ (⟨#[32, 35]⟩ : ByteArray)) ++ (decS ((sumN (bytesN (bstr D)) : Nat) : Int))) ++ (⟨#[10]⟩ : ByteArray)))] _ := F113.cut rfl
       clear F27 F100 F102 F104 F106 F108 F110 F112 F113
       have T115 : Mv _ _ [bx b11 [.pointer (some ⟨b11, 0, none⟩), .slice oa on oc] 195, owB 5 (.slice oa on oc) D] _ := S107
       refine s_end (x_normal (wp_seq (wp_seq (wp_region_lit (l_op (f_mv F114 rfl rfl rfl rfl rfl fun _ F116 => ?_))))))
       refine l_op (f_val F116 rfl rfl (r_lenS (fun t ht => by cases ht; exact Tryz.underlying9) rfl rfl (F116.ev 53 rfl)) rfl fun _ F117 => ?_)
       refine l_op (f_val F117 rfl rfl (r_cmp (b := decide (((((bstr D) ++ (⟨#[32, 35]⟩ : ByteArray)) ++ (decS ((sumN (bytesN (bstr D)) : Nat) : Int))) ++ (⟨#[10]⟩ : ByteArray)).size > 4000)) (.inr (.inr (.inr (.inr (.inl rfl))))) rfl (F117.ev 54 rfl) rfl (dec_of (by omega))) rfl fun _ F118 => ?_)
       have F119 : Fr 57 [(55, .bool (decide (((((bstr D) ++ (⟨#[32, 35]⟩ : ByteArray)) ++ (decS ((sumN (bytesN (bstr D)) : Nat) : Int))) ++ (⟨#[10]⟩ : ByteArray)).size > 4000))), (8, .string ((((bstr D) ++ (⟨#[32, 35]⟩ : ByteArray)) ++ (decS ((sumN (bytesN (bstr D)) : Nat) : Int))) ++ (⟨#[10]⟩ : ByteArray)))] _ := F118.cut rfl
       clear F114 F116 F117 F118
       refine s_end (x_normal (x_cond (p := ((((bstr D) ++ (⟨#[32, 35]⟩ : ByteArray)) ++ (decS ((sumN (bytesN (bstr D)) : Nat) : Int))) ++ (⟨#[10]⟩ : ByteArray)).size > 4000) (F119.ev 55 rfl) (fun h120 => ?_) (fun h120 => ?_)))
       · skip
         refine wp_seq (wp_region_lit (l_op (f_val F119 rfl rfl (r_assign rfl rfl) rfl fun _ F121 => ?_)))
         have F122 : Fr 57 [(4, .string bE_)] _ := F121.cut rfl
         clear F119 F121
         refine s_end (x_normal (wp_ret (x_then_ret ?_)))
         refine x_done (v := .string bE_) F122 (results_1 Tryz.results115 (.tmp (F122.ev 4 rfl))) ?_
         exact ⟨(by rw [(show bE_ = (recT seq list) from by first | exact recT_no (nt ‹_›) | exact recT_bad hx1 (cellB_1 ‹_›) | exact recT_bad hx1 (cellB_2 ‹_›) | exact recT_long (congrArg List.length hk_1) (by omega) | exact recT_end (by rw [← rec_s hk_1 (by omega)]; assumption) | (rw [rec_s hk_1 (by omega)]; exact recT_yes (nf ‹_›) (fun j hj => hk_2 j (by omega)) (by rw [← rec_s hk_1 (by omega)]; assumption)))]), (Mv.pick (S4.trans (S11.trans (S15.trans (S18.trans (S17.trans (S25.trans (S99.trans (S103.trans (S105.trans T115))))))))) [] rfl), ((show bE_ = (recT seq list) from by first | exact recT_no (nt ‹_›) | exact recT_bad hx1 (cellB_1 ‹_›) | exact recT_bad hx1 (cellB_2 ‹_›) | exact recT_long (congrArg List.length hk_1) (by omega) | exact recT_end (by rw [← rec_s hk_1 (by omega)]; assumption) | (rw [rec_s hk_1 (by omega)]; exact recT_yes (nf ‹_›) (fun j hj => hk_2 j (by omega)) (by rw [← rec_s hk_1 (by omega)]; assumption))) ▸ (by unfold okS; decide))⟩
       · skip
         refine wp_skip (x_normal (wp_seq (wp_region_lit (l_op (f_mv F119 rfl rfl rfl rfl rfl fun _ F123 => ?_)))))
         refine l_op (f_as F123 rfl rfl rfl rfl rfl fun _ F124 => ?_)
         have F125 : Fr 57 [(4, .string ((((bstr D) ++ (⟨#[32, 35]⟩ : ByteArray)) ++ (decS ((sumN (bytesN (bstr D)) : Nat) : Int))) ++ (⟨#[10]⟩ : ByteArray)))] _ := F124.cut rfl
         clear F119 F123 F124
         refine s_end (x_normal (wp_ret ?_))
         refine x_done (v := .string ((((bstr D) ++ (⟨#[32, 35]⟩ : ByteArray)) ++ (decS ((sumN (bytesN (bstr D)) : Nat) : Int))) ++ (⟨#[10]⟩ : ByteArray))) F125 (results_1 Tryz.results115 (.tmp (F125.ev 4 rfl))) ?_
         exact ⟨(by rw [(show ((((bstr D) ++ (⟨#[32, 35]⟩ : ByteArray)) ++ (decS ((sumN (bytesN (bstr D)) : Nat) : Int))) ++ (⟨#[10]⟩ : ByteArray)) = (recT seq list) from by first | exact recT_no (nt ‹_›) | exact recT_bad hx1 (cellB_1 ‹_›) | exact recT_bad hx1 (cellB_2 ‹_›) | exact recT_long (congrArg List.length hk_1) (by omega) | exact recT_end (by rw [← rec_s hk_1 (by omega)]; assumption) | (rw [rec_s hk_1 (by omega)]; exact recT_yes (nf ‹_›) (fun j hj => hk_2 j (by omega)) (by rw [← rec_s hk_1 (by omega)]; assumption)))]), (Mv.pick (S4.trans (S11.trans (S15.trans (S18.trans (S17.trans (S25.trans (S99.trans (S103.trans (S105.trans T115))))))))) [] rfl), ((show ((((bstr D) ++ (⟨#[32, 35]⟩ : ByteArray)) ++ (decS ((sumN (bytesN (bstr D)) : Nat) : Int))) ++ (⟨#[10]⟩ : ByteArray)) = (recT seq list) from by first | exact recT_no (nt ‹_›) | exact recT_bad hx1 (cellB_1 ‹_›) | exact recT_bad hx1 (cellB_2 ‹_›) | exact recT_long (congrArg List.length hk_1) (by omega) | exact recT_end (by rw [← rec_s hk_1 (by omega)]; assumption) | (rw [rec_s hk_1 (by omega)]; exact recT_yes (nf ‹_›) (fun j hj => hk_2 j (by omega)) (by rw [← rec_s hk_1 (by omega)]; assumption))) ▸ (okS_cat k111))⟩
end Go.Proofs.YtipdbeklopjbmaaGreatDoor
