/-
  Texts laid together: GenKn, GenXc, GenXd, GenKt, GenKo, GenRc.
-/
import Derived.Test.YtipdbeklopjbmaaGreatDoorP15
import Derived.Test.YtipdbeklopjbmaaGreatDoorGenNsa
import Derived.Test.YtipdbeklopjbmaaGreatDoorP06
import Derived.Test.YtipdbeklopjbmaaGreatDoorGenFo
import Derived.Test.YtipdbeklopjbmaaGreatDoorP10
import Derived.Test.YtipdbeklopjbmaaGreatDoorP16
import Derived.Test.YtipdbeklopjbmaaGreatDoorP09
import Derived.Test.YtipdbeklopjbmaaGreatDoorP05
import Derived.Test.YtipdbeklopjbmaaGreatDoorGenH
/-
  Walks: kernels in the laws' hands.
-/

namespace Go.Proofs.YtipdbeklopjbmaaGreatDoor
open Go.ChangeShapes Go.WideShapes Go.ChangeAt Go.RowKit
set_option maxRecDepth 100000
set_option maxHeartbeats 1000000
end Go.Proofs.YtipdbeklopjbmaaGreatDoor
/-
  Walks: a transaction is copied.
-/

namespace Go.Proofs.YtipdbeklopjbmaaGreatDoor
open Go.ChangeShapes Go.WideShapes Go.ChangeAt Go.RowKit
set_option maxRecDepth 100000
set_option maxHeartbeats 1000000
end Go.Proofs.YtipdbeklopjbmaaGreatDoor
/-
  Walks: a mark is set.
-/

namespace Go.Proofs.YtipdbeklopjbmaaGreatDoor
open Go.ChangeShapes Go.WideShapes Go.ChangeAt Go.RowKit
set_option maxRecDepth 100000
set_option maxHeartbeats 1000000
end Go.Proofs.YtipdbeklopjbmaaGreatDoor
/-
  Walks: a transaction is looked up.
-/

namespace Go.Proofs.YtipdbeklopjbmaaGreatDoor
open Go.ChangeShapes Go.WideShapes Go.ChangeAt Go.RowKit
set_option maxRecDepth 100000
set_option maxHeartbeats 1000000
end Go.Proofs.YtipdbeklopjbmaaGreatDoor
/-
  Walks: kernels that are as they should be.
-/

namespace Go.Proofs.YtipdbeklopjbmaaGreatDoor
open Go.ChangeShapes Go.WideShapes Go.ChangeAt Go.RowKit
set_option maxRecDepth 100000
set_option maxHeartbeats 1000000
end Go.Proofs.YtipdbeklopjbmaaGreatDoor
/-
  Walks: records are summed, parted.
-/

namespace Go.Proofs.YtipdbeklopjbmaaGreatDoor
open Go.ChangeShapes Go.WideShapes Go.ChangeAt Go.RowKit
set_option maxRecDepth 100000
set_option maxHeartbeats 1000000
theorem impl_ByteSum_c {w : World} {H : Nat → Prop} {text : ByteArray} (Q0 : okS text) :
    Calls Tryz.prog 155 #[.string text] w fun e w' => e = .returned (.int .i64 ((sumN (bytesN text) : Nat) : Int)) ∧ Mv [] w [] w' := by
 have uU : True := (fun _ => trivial) H
 clear uU
 have hT := Q0
 unfold okS at hT
 refine calls_enter 20 Tryz.func155 rfl Tryz.ntmps155 (Nat.le_of_ble_eq_true rfl) (fun _ F0i => ?_)
 have F0 : Fr 20 [(0, .string text)] _ := F0i
 clear F0i
 refine wp_seq (wp_region_lit (l_op (f_val F0 rfl rfl (r_assign rfl rfl) rfl fun _ F1 => ?_)))
 refine s_end (x_normal (wp_seq (wp_region_lit (l_op (f_val F1 rfl rfl (r_assign rfl rfl) rfl fun _ F2 => ?_)))))
 refine s_end (x_normal (wp_seq (wp_seq (wp_region_lit (l_op (f_mv F2 rfl rfl rfl rfl rfl fun _ F3 => ?_))))))
 refine l_op (f_val F3 rfl rfl (r_lenS (fun t ht => by cases ht; exact Tryz.underlying9) rfl rfl (F3.ev 5 rfl)) rfl fun _ F4 => ?_)
 refine l_op (f_val F4 rfl rfl (r_move rfl rfl) rfl fun _ F5 => ?_)
 refine s_end (x_normal (wp_block ?_))
 refine x_loop (fun (k : Nat) aZ wZ => ∃ (n : Nat), Fr 20 [(7, .int .i64 ((k : Nat) : Int)), (6, .int .i64 ((text.size : Nat) : Int)), (3, .int .i64 ((n : Nat) : Int)), (0, .string text)] aZ ∧ Mv [] w [] wZ ∧ (k ≤ text.size) ∧ (n = sumN ((bytesN text).take k))) (fun (k : Nat) => text.size - k) (0) ?_ ?_
 · exact ⟨7, F5.cut rfl, (Mv.refl (At.nil w)), by omega, rfl⟩
 · rintro k a6 w6 ⟨n, F6, S6, hk_0, hk_1⟩
   have hb := byteAt_lt text k
   have hs := sumN_lt (l := (bytesN text).take k)
   refine wp_seq (wp_region_lit (l_op (f_val F6 rfl rfl (r_cmp (b := decide (k < text.size)) (.inr (.inr (.inl rfl))) rfl (F6.ev 7 rfl) (F6.ev 6 rfl) (dec_of (by omega))) rfl fun _ F7 => ?_)))
   refine s_end (x_normal (wp_seq (x_cond (p := k < text.size) (F7.ev 8 rfl) (fun h8 => ?_) (fun h8 => ?_))))
   · skip
     refine wp_skip (x_normal (wp_seq (wp_block (wp_seq (wp_region_lit (l_op (f_mv F7 rfl rfl rfl rfl rfl fun _ F9 => ?_)))))))
     refine l_op (f_as F9 rfl rfl rfl rfl rfl fun _ F10 => ?_)
     refine s_end (x_normal (wp_region_lit (l_op (f_mv F10 rfl rfl rfl rfl rfl fun _ F11 => ?_))))
     refine l_op (f_val F11 rfl rfl (r_mul (z := ((31 * n : Nat) : Int)) rfl rfl (F11.ev 10 rfl) (by first | rfl | omega) ⟨by first | omega | (unfold i64ok at *; omega), by first | omega | (unfold i64ok at *; omega)⟩) rfl fun _ F12 => ?_)
     refine l_op (f_mv F12 rfl rfl rfl rfl rfl fun _ F13 => ?_)
     refine l_op (f_mv F13 rfl rfl rfl rfl rfl fun _ F14 => ?_)
     refine l_op (f_val F14 rfl rfl (r_indexS (i := k) Tryz.underlying9 rfl (F14.ev 12 rfl) (F14.ev 13 rfl) (by omega) (by first | assumption | omega)) rfl fun _ F15 => ?_)
     refine l_op (f_val F15 rfl rfl (r_convU8 Tryz.underlying3 Tryz.underlying5 rfl (F15.ev 14 rfl) ⟨by omega, by first | omega | (have := byteAt_lt text k; omega)⟩) rfl fun _ F16 => ?_)
     refine l_op (f_val F16 rfl rfl (r_add (z := (((31 * n) + (byteAt text k) : Nat) : Int)) rfl (F16.ev 11 rfl) (F16.ev 15 rfl) (by first | rfl | omega) ⟨by first | omega | (unfold i64ok at *; omega), by first | omega | (unfold i64ok at *; omega)⟩) rfl fun _ F17 => ?_)
     have rm18 := Nat.mod_lt ((31 * n) + (byteAt text k)) (show 0 < 9973 by decide)
     refine l_op (f_val F17 rfl rfl (r_remK (c := 9973) rfl (by decide) rfl (F17.ev 16 rfl) rfl) rfl fun _ F19 => ?_)
     refine l_op (f_as F19 rfl rfl rfl rfl rfl fun _ F20 => ?_)
     refine s_end (x_block_normal (x_normal (wp_region_lit (l_op (f_val F20 rfl rfl (r_add (z := ((k + 1 : Nat) : Int)) rfl (F20.ev 7 rfl) rfl (by first | rfl | omega) ⟨by first | omega | (unfold i64ok at *; omega), by first | omega | (unfold i64ok at *; omega)⟩) rfl fun _ F21 => ?_)))))
     refine l_op (f_mv F21 rfl rfl rfl rfl rfl fun _ F22 => ?_)
     refine s_end ?_
     refine x_normal ⟨k + 1, by omega, ((31 * n) + (byteAt text k)) % 9973, F22.cut rfl, (S6.pick [] rfl), by omega, by rw [hk_1]; exact sum_step (by omega)⟩
   · skip
     refine wp_exit (x_then_exit (x_then_exit (x_block_here (x_normal (wp_seq (wp_region_lit (l_op (f_mv F7 rfl rfl rfl rfl rfl fun _ F23 => ?_))))))))
     refine l_op (f_as F23 rfl rfl rfl rfl rfl fun _ F24 => ?_)
     refine s_end (x_normal (wp_ret ?_))
     refine x_done (v := .int .i64 ((n : Nat) : Int)) F24 (results_1 Tryz.results155 (.tmp (F24.ev 2 rfl))) ?_
     exact ⟨(by rw [(show ((n : Nat) : Int) = ((sumN (bytesN text) : Nat) : Int) from by rw [hk_1, sum_all hk_0 ‹_›])]), (Mv.pick S6 [] rfl)⟩
theorem spec_ByteSum_c {w : World} {H : Nat → Prop} {text : ByteArray} (Q0 : okS text) :
    Calls Tryz.prog 146 #[.string text] w fun e w' => e = .returned (.int .i64 ((sumN (bytesN text) : Nat) : Int)) ∧ Mv [] w [] w' := by
 have uU : True := (fun _ => trivial) H
 clear uU
 have hT := Q0
 unfold okS at hT
 refine calls_enter 20 Tryz.func146 rfl Tryz.ntmps146 (Nat.le_of_ble_eq_true rfl) (fun _ F0i => ?_)
 have F0 : Fr 20 [(0, .string text)] _ := F0i
 clear F0i
 refine wp_seq (wp_region_lit (l_op (f_val F0 rfl rfl (r_assign rfl rfl) rfl fun _ F1 => ?_)))
 refine s_end (x_normal (wp_seq (wp_region_lit (l_op (f_val F1 rfl rfl (r_assign rfl rfl) rfl fun _ F2 => ?_)))))
 refine s_end (x_normal (wp_seq (wp_seq (wp_region_lit (l_op (f_val F2 rfl rfl (r_assign rfl rfl) rfl fun _ F3 => ?_))))))
 refine s_end (x_normal (wp_block ?_))
 refine x_loop (fun (k : Nat) aZ wZ => ∃ (n : Nat), Fr 20 [(4, .int .i64 ((k : Nat) : Int)), (3, .int .i64 ((n : Nat) : Int)), (0, .string text)] aZ ∧ Mv [] w [] wZ ∧ (k ≤ text.size) ∧ (n = sumN ((bytesN text).take k))) (fun (k : Nat) => text.size - k) (0) ?_ ?_
 · exact ⟨7, F3.cut rfl, (Mv.refl (At.nil w)), by omega, rfl⟩
 · rintro k a4 w4 ⟨n, F4, S4, hk_0, hk_1⟩
   have hb := byteAt_lt text k
   have hs := sumN_lt (l := (bytesN text).take k)
   refine wp_seq (wp_seq (wp_region_lit (l_op (f_mv F4 rfl rfl rfl rfl rfl fun _ F5 => ?_))))
   refine l_op (f_mv F5 rfl rfl rfl rfl rfl fun _ F6 => ?_)
   refine l_op (f_val F6 rfl rfl (r_lenS (fun t ht => by cases ht; exact Tryz.underlying9) rfl rfl (F6.ev 6 rfl)) rfl fun _ F7 => ?_)
   refine l_op (f_val F7 rfl rfl (r_cmp (b := decide (k < text.size)) (.inr (.inr (.inl rfl))) rfl (F7.ev 5 rfl) (F7.ev 7 rfl) (dec_of (by omega))) rfl fun _ F8 => ?_)
   refine s_end (x_normal (x_cond (p := k < text.size) (F8.ev 8 rfl) (fun h9 => ?_) (fun h9 => ?_)))
   · skip
     refine wp_skip (x_normal (wp_seq (wp_block (wp_region_lit (l_op (f_mv F8 rfl rfl rfl rfl rfl fun _ F10 => ?_))))))
     refine l_op (f_val F10 rfl rfl (r_mul (z := ((31 * n : Nat) : Int)) rfl rfl (F10.ev 11 rfl) (by first | rfl | omega) ⟨by first | omega | (unfold i64ok at *; omega), by first | omega | (unfold i64ok at *; omega)⟩) rfl fun _ F11 => ?_)
     refine l_op (f_mv F11 rfl rfl rfl rfl rfl fun _ F12 => ?_)
     refine l_op (f_mv F12 rfl rfl rfl rfl rfl fun _ F13 => ?_)
     refine l_op (f_val F13 rfl rfl (r_indexS (i := k) Tryz.underlying9 rfl (F13.ev 13 rfl) (F13.ev 14 rfl) (by omega) (by first | assumption | omega)) rfl fun _ F14 => ?_)
     refine l_op (f_val F14 rfl rfl (r_convU8 Tryz.underlying3 Tryz.underlying5 rfl (F14.ev 15 rfl) ⟨by omega, by first | omega | (have := byteAt_lt text k; omega)⟩) rfl fun _ F15 => ?_)
     refine l_op (f_val F15 rfl rfl (r_add (z := (((31 * n) + (byteAt text k) : Nat) : Int)) rfl (F15.ev 12 rfl) (F15.ev 16 rfl) (by first | rfl | omega) ⟨by first | omega | (unfold i64ok at *; omega), by first | omega | (unfold i64ok at *; omega)⟩) rfl fun _ F16 => ?_)
     have rm17 := Nat.mod_lt ((31 * n) + (byteAt text k)) (show 0 < 9973 by decide)
     refine l_op (f_val F16 rfl rfl (r_remK (c := 9973) rfl (by decide) rfl (F16.ev 17 rfl) rfl) rfl fun _ F18 => ?_)
     refine l_op (f_as F18 rfl rfl rfl rfl rfl fun _ F19 => ?_)
     refine s_end (x_block_normal (x_normal (wp_region_lit (l_op (f_mv F19 rfl rfl rfl rfl rfl fun _ F20 => ?_)))))
     refine l_op (f_val F20 rfl rfl (r_add (z := ((k + 1 : Nat) : Int)) rfl (F20.ev 9 rfl) rfl (by first | rfl | omega) ⟨by first | omega | (unfold i64ok at *; omega), by first | omega | (unfold i64ok at *; omega)⟩) rfl fun _ F21 => ?_)
     refine l_op (f_as F21 rfl rfl rfl rfl rfl fun _ F22 => ?_)
     refine s_end ?_
     refine x_normal ⟨k + 1, by omega, ((31 * n) + (byteAt text k)) % 9973, F22.cut rfl, (S4.pick [] rfl), by omega, by rw [hk_1]; exact sum_step (by omega)⟩
   · skip
     refine wp_exit (x_then_exit (x_then_exit (x_block_here (x_normal (wp_seq (wp_region_lit (l_op (f_mv F8 rfl rfl rfl rfl rfl fun _ F23 => ?_))))))))
     refine l_op (f_as F23 rfl rfl rfl rfl rfl fun _ F24 => ?_)
     refine s_end (x_normal (wp_ret ?_))
     refine x_done (v := .int .i64 ((n : Nat) : Int)) F24 (results_1 Tryz.results146 (.tmp (F24.ev 2 rfl))) ?_
     exact ⟨(by rw [(show ((n : Nat) : Int) = ((sumN (bytesN text) : Nat) : Int) from by rw [hk_1, sum_all hk_0 ‹_›])]), (Mv.pick S4 [] rfl)⟩
theorem spec_l21Split_c {w : World} {H : Nat → Prop} {s : ByteArray} {sign : Nat} (h_s : okS s) (Q0 : sign < 256) (p0 : s.size ≤ 4294967280) :
    Calls Tryz.prog 133 #[.string s, .int .u8 ((sign : Nat) : Int)] w fun e w' => ∃ (r0_a : Option Addr), ∃ (r0_n : Nat), ∃ (r0_c : Nat), e = .returned (.slice r0_a r0_n r0_c) ∧ Mv [] w [ow 9 1 encS okS (.slice r0_a r0_n r0_c) (spS sign s)] w' := by
 have uU : True := (fun _ _ _ => trivial) H Q0 p0
 clear uU
 refine calls_enter 36 Tryz.func133 rfl Tryz.ntmps133 (Nat.le_of_ble_eq_true rfl) (fun _ F0i => ?_)
 have F0 : Fr 36 [(0, .string s), (1, .int .u8 ((sign : Nat) : Int))] _ := F0i
 clear F0i
 refine wp_seq (wp_region_lit (l_op (f_val F0 rfl rfl (r_assign rfl rfl) rfl fun _ F1 => ?_)))
 refine s_end (x_normal (wp_seq (wp_region_lit (l_op (f_buildSl (ok := okS) (vs := []) F1 (At.nil w) (([] : List ByteArray)) ET_44 rfl rfl rfl rfl rfl rfl rfl rfl rfl (by simp) fun b2 _ w2 F3 S2 => ?_)))))
 refine l_op (f_as F3 rfl rfl rfl rfl rfl fun _ F4 => ?_)
 refine s_end (x_normal (wp_seq (wp_region_lit (l_op (f_val F4 rfl rfl (r_assign rfl rfl) rfl fun _ F5 => ?_)))))
 refine s_end (x_normal (wp_seq (wp_seq (wp_region_lit (l_op (f_val F5 rfl rfl (r_assign rfl rfl) rfl fun _ F6 => ?_))))))
 refine s_end (x_normal (wp_block ?_))
 refine x_loop (fun (k : Nat) aZ wZ => ∃ (b : Nat), ∃ (D : List ByteArray), ∃ (oa : Option Addr), ∃ (on : Nat), ∃ (oc : Nat), Fr 36 [(7, .int .i64 ((k : Nat) : Int)), (6, .int .i64 ((b : Nat) : Int)), (5, .slice oa on oc), (0, .string s), (1, .int .u8 ((sign : Nat) : Int))] aZ ∧ Mv [ow 9 1 encS okS (.slice (some ⟨b2, 0, none⟩) 0 0) ([] : List ByteArray)] w2 [ow 9 1 encS okS (.slice oa on oc) D] wZ ∧ (spI sign s D b k)) (fun (k : Nat) => s.size + 1 - k) (0) ?_ ?_
 · exact ⟨0, ([] : List ByteArray), (some ⟨b2, 0, none⟩), 0, 0, F6.cut rfl, (Mv.refl S2.at'), spI.start _ _⟩
 · rintro k a7 w7 ⟨b, D, oa, on, oc, F7, S7, hk_0⟩
   have hD := hk_0.1
   have hK := hk_0.2.1
   have hB := hk_0.le
   refine wp_seq (wp_seq (wp_region_lit (l_op (f_mv F7 rfl rfl rfl rfl rfl fun _ F8 => ?_))))
   refine l_op (f_mv F8 rfl rfl rfl rfl rfl fun _ F9 => ?_)
   refine l_op (f_val F9 rfl rfl (r_lenS (fun t ht => by cases ht; exact Tryz.underlying9) rfl rfl (F9.ev 10 rfl)) rfl fun _ F10 => ?_)
   refine l_op (f_val F10 rfl rfl (r_cmp (b := decide (k ≤ s.size)) (.inr (.inr (.inr (.inl rfl)))) rfl (F10.ev 9 rfl) (F10.ev 11 rfl) (dec_of (by omega))) rfl fun _ F11 => ?_)
   refine s_end (x_normal (x_cond (p := k ≤ s.size) (F11.ev 12 rfl) (fun h12 => ?_) (fun h12 => ?_)))
   · skip
     refine wp_skip (x_normal (wp_seq (wp_block (wp_seq (wp_region_lit (l_op (f_mv F11 rfl rfl rfl rfl rfl fun _ F13 => ?_)))))))
     refine l_op (f_mv F13 rfl rfl rfl rfl rfl fun _ F14 => ?_)
     refine l_op (f_val F14 rfl rfl (r_lenS (fun t ht => by cases ht; exact Tryz.underlying9) rfl rfl (F14.ev 16 rfl)) rfl fun _ F15 => ?_)
     refine l_op (f_val F15 rfl rfl (r_cmp (b := decide (k = s.size)) (.inl rfl) rfl (F15.ev 15 rfl) (F15.ev 17 rfl) (dec_of (by omega))) rfl fun _ F16 => ?_)
     refine l_op (f_mv F16 rfl rfl rfl rfl rfl fun _ F17 => ?_)
     rcases Decidable.em (k = s.size) with h18 | h18
     · rw [decide_eq_true h18] at F17
       refine l_op (f_skip F17 (wanted_g F17 rfl rfl rfl rfl) rfl rfl fun _ F19 => ?_)
       refine l_op (f_skip F19 (wanted_g F19 rfl rfl rfl rfl) rfl rfl fun _ F20 => ?_)
       refine l_op (f_skip F20 (wanted_g F20 rfl rfl rfl rfl) rfl rfl fun _ F21 => ?_)
       refine l_op (f_skip F21 (wanted_g F21 rfl rfl rfl rfl) rfl rfl fun _ F22 => ?_)
       refine l_op (f_skip F22 (wanted_g F22 rfl rfl rfl rfl) rfl rfl fun _ F23 => ?_)
       refine l_op (f_val F23 rfl rfl (r_pick (b := true) rfl (F23.ev 19 rfl) rfl) rfl fun _ F24 => ?_)
       refine s_end (x_normal (wp_cond_true (F24.ev 25 rfl) (wp_seq (wp_region_lit (l_op (f_mv F24 rfl rfl rfl rfl rfl fun _ F25 => ?_))))))
       refine l_op (f_mv F25 rfl rfl rfl rfl rfl fun _ F26 => ?_)
       refine l_op (f_mv F26 rfl rfl rfl rfl rfl fun _ F27 => ?_)
       refine l_op (f_mv F27 rfl rfl rfl rfl rfl fun _ F28 => ?_)
       refine l_op (f_val F28 rfl rfl (r_sliceS (l := b) (h := k) Tryz.underlying9 rfl (F28.ev 27 rfl) (F28.ev 28 rfl) (F28.ev 29 rfl) (by first | assumption | omega) (by first | assumption | omega) rfl) rfl fun _ F29 => ?_)
       refine l_op (f_buildSl (ok := okS) (vs := [.string (s.extract b k)]) F29 S7.at' ([(s.extract b k)]) ET_44 rfl rfl rfl rfl rfl rfl (lc (pr2 (F29.ev 30 rfl)) rfl) rfl rfl (fun x hx => (List.mem_singleton.1 hx) ▸ (okS_ext h_s)) fun b30 _ w30 F31 S30 => ?_)
       refine l_op (f_app (news := [(s.extract b k)]) F31 S30.at' 1 ET_44 rfl rfl rfl rfl rfl rfl (F31.ev 26 rfl) (F31.ev 31 rfl) ((At.rd S30.at' ET_44.hk 0 rfl)).1 (by ((repeat (first | rw [List.length_append] | rw [List.length_cons] | rw [List.length_nil] | rw [List.length_take] | rw [List.length_drop])) <;> omega)) fun A32 N32 C32 _ w32 F33 S32 l32 => ?_)
       have S34 := At.drop S32.at' 1
       refine l_op (f_as F33 rfl rfl rfl rfl rfl fun _ F35 => ?_)
       have T36 : Mv _ _ [ow 9 1 encS okS (.slice A32 N32 C32) (D ++ ([(s.extract b k)]))] _ := S34
       refine s_end (x_normal (wp_region_lit (l_op (f_mv F35 rfl rfl rfl rfl rfl fun _ F37 => ?_))))
       refine l_op (f_val F37 rfl rfl (r_add (z := ((k + 1 : Nat) : Int)) rfl (F37.ev 33 rfl) rfl (by first | rfl | omega) ⟨by first | omega | (unfold i64ok at *; omega), by first | omega | (unfold i64ok at *; omega)⟩) rfl fun _ F38 => ?_)
       refine l_op (f_as F38 rfl rfl rfl rfl rfl fun _ F39 => ?_)
       refine s_end (x_block_normal (x_normal (wp_region_lit (l_op (f_mv F39 rfl rfl rfl rfl rfl fun _ F40 => ?_)))))
       refine l_op (f_val F40 rfl rfl (r_add (z := ((k + 1 : Nat) : Int)) rfl (F40.ev 13 rfl) rfl (by first | rfl | omega) ⟨by first | omega | (unfold i64ok at *; omega), by first | omega | (unfold i64ok at *; omega)⟩) rfl fun _ F41 => ?_)
       refine l_op (f_as F41 rfl rfl rfl rfl rfl fun _ F42 => ?_)
       refine s_end ?_
       refine x_normal ⟨k + 1, by omega, k + 1, D ++ ([(s.extract b k)]), A32, N32, C32, F42.cut rfl, ((S7.trans (S30.trans (S32.trans T36))).pick [0] rfl), by first | exact hk_0.last ‹_› | exact hk_0.cut ‹_› ‹_› ‹_› | exact hk_0.on ‹_› ‹_› ‹_›⟩
     · rw [decide_eq_false h18] at F17
       refine l_op (f_mv F17 (wanted_g F17 rfl rfl rfl rfl) rfl rfl rfl rfl fun _ F43 => ?_)
       refine l_op (f_mv F43 (wanted_g F43 rfl rfl rfl rfl) rfl rfl rfl rfl fun _ F44 => ?_)
       refine l_op (f_val F44 (wanted_g F44 rfl rfl rfl rfl) rfl (r_indexS (i := k) Tryz.underlying9 rfl (F44.ev 20 rfl) (F44.ev 21 rfl) (by omega) (by first | assumption | omega)) rfl fun _ F45 => ?_)
       refine l_op (f_mv F45 (wanted_g F45 rfl rfl rfl rfl) rfl rfl rfl rfl fun _ F46 => ?_)
       refine l_op (f_val F46 (wanted_g F46 rfl rfl rfl rfl) rfl (r_cmp (b := decide (byteAt s k = sign)) (.inl rfl) rfl (F46.ev 22 rfl) (F46.ev 23 rfl) (dec_of (by omega))) rfl fun _ F47 => ?_)
       refine l_op (f_val F47 rfl rfl (r_pick (b := false) rfl (F47.ev 19 rfl) (F47.ev 24 rfl)) rfl fun _ F48 => ?_)
       refine s_end (x_normal (x_cond (p := byteAt s k = sign) (F48.ev 25 rfl) (fun h49 => ?_) (fun h49 => ?_)))
       · skip
         refine wp_seq (wp_region_lit (l_op (f_mv F48 rfl rfl rfl rfl rfl fun _ F50 => ?_)))
         refine l_op (f_mv F50 rfl rfl rfl rfl rfl fun _ F51 => ?_)
         refine l_op (f_mv F51 rfl rfl rfl rfl rfl fun _ F52 => ?_)
         refine l_op (f_mv F52 rfl rfl rfl rfl rfl fun _ F53 => ?_)
         refine l_op (f_val F53 rfl rfl (r_sliceS (l := b) (h := k) Tryz.underlying9 rfl (F53.ev 27 rfl) (F53.ev 28 rfl) (F53.ev 29 rfl) (by first | assumption | omega) (by first | assumption | omega) rfl) rfl fun _ F54 => ?_)
         refine l_op (f_buildSl (ok := okS) (vs := [.string (s.extract b k)]) F54 S7.at' ([(s.extract b k)]) ET_44 rfl rfl rfl rfl rfl rfl (lc (pr2 (F54.ev 30 rfl)) rfl) rfl rfl (fun x hx => (List.mem_singleton.1 hx) ▸ (okS_ext h_s)) fun b55 _ w55 F56 S55 => ?_)
         refine l_op (f_app (news := [(s.extract b k)]) F56 S55.at' 1 ET_44 rfl rfl rfl rfl rfl rfl (F56.ev 26 rfl) (F56.ev 31 rfl) ((At.rd S55.at' ET_44.hk 0 rfl)).1 (by ((repeat (first | rw [List.length_append] | rw [List.length_cons] | rw [List.length_nil] | rw [List.length_take] | rw [List.length_drop])) <;> omega)) fun A57 N57 C57 _ w57 F58 S57 l57 => ?_)
         have S59 := At.drop S57.at' 1
         refine l_op (f_as F58 rfl rfl rfl rfl rfl fun _ F60 => ?_)
         have T61 : Mv _ _ [ow 9 1 encS okS (.slice A57 N57 C57) (D ++ ([(s.extract b k)]))] _ := S59
         refine s_end (x_normal (wp_region_lit (l_op (f_mv F60 rfl rfl rfl rfl rfl fun _ F62 => ?_))))
         refine l_op (f_val F62 rfl rfl (r_add (z := ((k + 1 : Nat) : Int)) rfl (F62.ev 33 rfl) rfl (by first | rfl | omega) ⟨by first | omega | (unfold i64ok at *; omega), by first | omega | (unfold i64ok at *; omega)⟩) rfl fun _ F63 => ?_)
         refine l_op (f_as F63 rfl rfl rfl rfl rfl fun _ F64 => ?_)
         refine s_end (x_block_normal (x_normal (wp_region_lit (l_op (f_mv F64 rfl rfl rfl rfl rfl fun _ F65 => ?_)))))
         refine l_op (f_val F65 rfl rfl (r_add (z := ((k + 1 : Nat) : Int)) rfl (F65.ev 13 rfl) rfl (by first | rfl | omega) ⟨by first | omega | (unfold i64ok at *; omega), by first | omega | (unfold i64ok at *; omega)⟩) rfl fun _ F66 => ?_)
         refine l_op (f_as F66 rfl rfl rfl rfl rfl fun _ F67 => ?_)
         refine s_end ?_
         refine x_normal ⟨k + 1, by omega, k + 1, D ++ ([(s.extract b k)]), A57, N57, C57, F67.cut rfl, ((S7.trans (S55.trans (S57.trans T61))).pick [0] rfl), by first | exact hk_0.last ‹_› | exact hk_0.cut ‹_› ‹_› ‹_› | exact hk_0.on ‹_› ‹_› ‹_›⟩
       · skip
         refine wp_skip (x_block_normal (x_normal (wp_region_lit (l_op (f_mv F48 rfl rfl rfl rfl rfl fun _ F68 => ?_)))))
         refine l_op (f_val F68 rfl rfl (r_add (z := ((k + 1 : Nat) : Int)) rfl (F68.ev 13 rfl) rfl (by first | rfl | omega) ⟨by first | omega | (unfold i64ok at *; omega), by first | omega | (unfold i64ok at *; omega)⟩) rfl fun _ F69 => ?_)
         refine l_op (f_as F69 rfl rfl rfl rfl rfl fun _ F70 => ?_)
         refine s_end ?_
         refine x_normal ⟨k + 1, by omega, b, D, oa, on, oc, F70.cut rfl, (S7.pick [0] rfl), by first | exact hk_0.last ‹_› | exact hk_0.cut ‹_› ‹_› ‹_› | exact hk_0.on ‹_› ‹_› ‹_›⟩
   · skip
     refine wp_exit (x_then_exit (x_then_exit (x_block_here (x_normal (wp_seq (wp_region_lit (l_op (f_mv F11 rfl rfl rfl rfl rfl fun _ F71 => ?_))))))))
     refine l_op (f_as F71 rfl rfl rfl rfl rfl fun _ F72 => ?_)
     refine s_end (x_normal (wp_ret ?_))
     refine x_done (v := .slice oa on oc) F72 (results_1 Tryz.results133 (.tmp (F72.ev 4 rfl))) ?_
     exact ⟨oa, on, oc, rfl, (Mv.cast (Mv.pick (S2.trans S7) [0] rfl) (by rw [(show D = (spS sign s) from by rw [hk_0.done ‹_›])]; all_goals rfl))⟩
theorem spec_LinesIn_c {w : World} {H : Nat → Prop} {text : ByteArray} (Q0 : okS text) (p0 : text.size ≤ 4294967280) :
    Calls Tryz.prog 89 #[.string text] w fun e w' => ∃ (r0_a : Option Addr), ∃ (r0_n : Nat), ∃ (r0_c : Nat), e = .returned (.slice r0_a r0_n r0_c) ∧ Mv [] w [ow 9 1 encS okS (.slice r0_a r0_n r0_c) (lnS text)] w' := by
 have uU : True := (fun _ _ => trivial) H p0
 clear uU
 refine calls_enter 28 Tryz.func89 rfl Tryz.ntmps89 (Nat.le_of_ble_eq_true rfl) (fun _ F0i => ?_)
 have F0 : Fr 28 [(0, .string text)] _ := F0i
 clear F0i
 refine wp_seq (wp_region_lit (l_op (f_val F0 rfl rfl (r_assign rfl rfl) rfl fun _ F1 => ?_)))
 refine s_end (x_normal (wp_seq (wp_region_lit (l_op (f_buildSl (ok := okS) (vs := []) F1 (At.nil w) (([] : List ByteArray)) ET_44 rfl rfl rfl rfl rfl rfl rfl rfl rfl (by simp) fun b2 _ w2 F3 S2 => ?_)))))
 refine l_op (f_as F3 rfl rfl rfl rfl rfl fun _ F4 => ?_)
 refine s_end (x_normal (wp_seq (wp_region_lit (l_op (f_val F4 rfl rfl (r_assign rfl rfl) rfl fun _ F5 => ?_)))))
 refine s_end (x_normal (wp_seq (wp_seq (wp_region_lit (l_op (f_val F5 rfl rfl (r_assign rfl rfl) rfl fun _ F6 => ?_))))))
 refine s_end (x_normal (wp_block ?_))
 refine x_loop (fun (k : Nat) aZ wZ => ∃ (b : Nat), ∃ (D : List ByteArray), ∃ (oa : Option Addr), ∃ (on : Nat), ∃ (oc : Nat), Fr 28 [(5, .int .i64 ((k : Nat) : Int)), (4, .int .i64 ((b : Nat) : Int)), (3, .slice oa on oc), (0, .string text)] aZ ∧ Mv [ow 9 1 encS okS (.slice (some ⟨b2, 0, none⟩) 0 0) ([] : List ByteArray)] w2 [ow 9 1 encS okS (.slice oa on oc) D] wZ ∧ (lnInv text D b k)) (fun (k : Nat) => text.size - k) (0) ?_ ?_
 · exact ⟨0, ([] : List ByteArray), (some ⟨b2, 0, none⟩), 0, 0, F6.cut rfl, (Mv.refl S2.at'), lnInv.start _⟩
 · rintro k a7 w7 ⟨b, D, oa, on, oc, F7, S7, hk_0⟩
   have hD := hk_0.len
   have hL := lnS_len text
   have hB := hk_0.1
   have hK := hk_0.2.1
   refine wp_seq (wp_seq (wp_region_lit (l_op (f_mv F7 rfl rfl rfl rfl rfl fun _ F8 => ?_))))
   refine l_op (f_mv F8 rfl rfl rfl rfl rfl fun _ F9 => ?_)
   refine l_op (f_val F9 rfl rfl (r_lenS (fun t ht => by cases ht; exact Tryz.underlying9) rfl rfl (F9.ev 8 rfl)) rfl fun _ F10 => ?_)
   refine l_op (f_val F10 rfl rfl (r_cmp (b := decide (k < text.size)) (.inr (.inr (.inl rfl))) rfl (F10.ev 7 rfl) (F10.ev 9 rfl) (dec_of (by omega))) rfl fun _ F11 => ?_)
   refine s_end (x_normal (x_cond (p := k < text.size) (F11.ev 10 rfl) (fun h12 => ?_) (fun h12 => ?_)))
   · skip
     refine wp_skip (x_normal (wp_seq (wp_block (wp_seq (wp_region_lit (l_op (f_mv F11 rfl rfl rfl rfl rfl fun _ F13 => ?_)))))))
     refine l_op (f_mv F13 rfl rfl rfl rfl rfl fun _ F14 => ?_)
     refine l_op (f_val F14 rfl rfl (r_indexS (i := k) Tryz.underlying9 rfl (F14.ev 13 rfl) (F14.ev 14 rfl) (by omega) (by first | assumption | omega)) rfl fun _ F15 => ?_)
     refine l_op (f_val F15 rfl rfl (r_cmp (b := decide (byteAt text k = 10)) (.inl rfl) rfl (F15.ev 15 rfl) rfl (dec_of (by omega))) rfl fun _ F16 => ?_)
     refine s_end (x_normal (x_cond (p := byteAt text k = 10) (F16.ev 16 rfl) (fun h17 => ?_) (fun h17 => ?_)))
     · skip
       refine wp_seq (wp_region_lit (l_op (f_mv F16 rfl rfl rfl rfl rfl fun _ F18 => ?_)))
       refine l_op (f_mv F18 rfl rfl rfl rfl rfl fun _ F19 => ?_)
       refine l_op (f_mv F19 rfl rfl rfl rfl rfl fun _ F20 => ?_)
       refine l_op (f_mv F20 rfl rfl rfl rfl rfl fun _ F21 => ?_)
       refine l_op (f_val F21 rfl rfl (r_add (z := ((k + 1 : Nat) : Int)) rfl (F21.ev 20 rfl) rfl (by first | rfl | omega) ⟨by first | omega | (unfold i64ok at *; omega), by first | omega | (unfold i64ok at *; omega)⟩) rfl fun _ F22 => ?_)
       refine l_op (f_val F22 rfl rfl (r_sliceS (l := b) (h := k + 1) Tryz.underlying9 rfl (F22.ev 18 rfl) (F22.ev 19 rfl) (F22.ev 21 rfl) (by first | assumption | omega) (by first | assumption | omega) rfl) rfl fun _ F23 => ?_)
       refine l_op (f_buildSl (ok := okS) (vs := [.string (text.extract b (k + 1))]) F23 S7.at' ([(text.extract b (k + 1))]) ET_44 rfl rfl rfl rfl rfl rfl (lc (pr2 (F23.ev 22 rfl)) rfl) rfl rfl (fun x hx => (List.mem_singleton.1 hx) ▸ (okS_ext Q0)) fun b24 _ w24 F25 S24 => ?_)
       refine l_op (f_app (news := [(text.extract b (k + 1))]) F25 S24.at' 1 ET_44 rfl rfl rfl rfl rfl rfl (F25.ev 17 rfl) (F25.ev 23 rfl) ((At.rd S24.at' ET_44.hk 0 rfl)).1 (by ((repeat (first | rw [List.length_append] | rw [List.length_cons] | rw [List.length_nil] | rw [List.length_take] | rw [List.length_drop])) <;> omega)) fun A26 N26 C26 _ w26 F27 S26 l26 => ?_)
       have S28 := At.drop S26.at' 1
       refine l_op (f_as F27 rfl rfl rfl rfl rfl fun _ F29 => ?_)
       have T30 : Mv _ _ [ow 9 1 encS okS (.slice A26 N26 C26) (D ++ ([(text.extract b (k + 1))]))] _ := S28
       refine s_end (x_normal (wp_region_lit (l_op (f_mv F29 rfl rfl rfl rfl rfl fun _ F31 => ?_))))
       refine l_op (f_val F31 rfl rfl (r_add (z := ((k + 1 : Nat) : Int)) rfl (F31.ev 25 rfl) rfl (by first | rfl | omega) ⟨by first | omega | (unfold i64ok at *; omega), by first | omega | (unfold i64ok at *; omega)⟩) rfl fun _ F32 => ?_)
       refine l_op (f_as F32 rfl rfl rfl rfl rfl fun _ F33 => ?_)
       refine s_end (x_block_normal (x_normal (wp_region_lit (l_op (f_mv F33 rfl rfl rfl rfl rfl fun _ F34 => ?_)))))
       refine l_op (f_val F34 rfl rfl (r_add (z := ((k + 1 : Nat) : Int)) rfl (F34.ev 11 rfl) rfl (by first | rfl | omega) ⟨by first | omega | (unfold i64ok at *; omega), by first | omega | (unfold i64ok at *; omega)⟩) rfl fun _ F35 => ?_)
       refine l_op (f_as F35 rfl rfl rfl rfl rfl fun _ F36 => ?_)
       refine s_end ?_
       refine x_normal ⟨k + 1, by omega, k + 1, D ++ ([(text.extract b (k + 1))]), A26, N26, C26, F36.cut rfl, ((S7.trans (S24.trans (S26.trans T30))).pick [0] rfl), by first | exact hk_0.cut ‹_› ‹_› | exact hk_0.on ‹_› ‹_›⟩
     · skip
       refine wp_skip (x_block_normal (x_normal (wp_region_lit (l_op (f_mv F16 rfl rfl rfl rfl rfl fun _ F37 => ?_)))))
       refine l_op (f_val F37 rfl rfl (r_add (z := ((k + 1 : Nat) : Int)) rfl (F37.ev 11 rfl) rfl (by first | rfl | omega) ⟨by first | omega | (unfold i64ok at *; omega), by first | omega | (unfold i64ok at *; omega)⟩) rfl fun _ F38 => ?_)
       refine l_op (f_as F38 rfl rfl rfl rfl rfl fun _ F39 => ?_)
       refine s_end ?_
       refine x_normal ⟨k + 1, by omega, b, D, oa, on, oc, F39.cut rfl, (S7.pick [0] rfl), by first | exact hk_0.cut ‹_› ‹_› | exact hk_0.on ‹_› ‹_›⟩
   · skip
     refine wp_exit (x_then_exit (x_then_exit (x_block_here (x_normal (wp_seq (wp_region_lit (l_op (f_mv F11 rfl rfl rfl rfl rfl fun _ F40 => ?_))))))))
     refine l_op (f_as F40 rfl rfl rfl rfl rfl fun _ F41 => ?_)
     refine s_end (x_normal (wp_ret ?_))
     refine x_done (v := .slice oa on oc) F41 (results_1 Tryz.results89 (.tmp (F41.ev 2 rfl))) ?_
     exact ⟨oa, on, oc, rfl, (Mv.cast (Mv.pick (S2.trans S7) [0] rfl) (by rw [(show D = (lnS text) from by rw [hk_0.done (by have := hk_0.2.1; omega)])]; all_goals rfl))⟩
end Go.Proofs.YtipdbeklopjbmaaGreatDoor
