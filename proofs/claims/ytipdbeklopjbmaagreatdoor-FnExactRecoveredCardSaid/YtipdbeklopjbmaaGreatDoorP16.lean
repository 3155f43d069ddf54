/-
  Texts laid together: GenX, GenY, GenT, GenU, GenV, GenW, GenZ, GenTa, GenTb, GenTc.
-/
import Derived.Test.YtipdbeklopjbmaaGreatDoorP05
import Derived.Test.YtipdbeklopjbmaaGreatDoorP10
import Derived.Test.YtipdbeklopjbmaaGreatDoorP12
import Derived.Test.YtipdbeklopjbmaaGreatDoorP06
/-
  Walks: spans.
-/

namespace Go.Proofs.YtipdbeklopjbmaaGreatDoor
open Go.ChangeShapes Go.WideShapes Go.ChangeAt Go.RowKit
set_option maxRecDepth 100000
set_option maxHeartbeats 1000000
theorem internal_stringslite_HasSuffix_c {w : World} {H : Nat → Prop} {s : ByteArray} {suffix : ByteArray} (h_s : okS s) (Q0 : okS suffix) :
    Calls Tryz.prog 170 #[.string s, .string suffix] w fun e w' => e = .returned (.bool (hasSuf s suffix)) ∧ Mv [] w [] w' := by
 have uU : True := (fun _ _ => trivial) H Q0
 clear uU
 have kz := h_s
 unfold okS at kz
 refine calls_enter 21 Tryz.func170 rfl Tryz.ntmps170 (Nat.le_of_ble_eq_true rfl) (fun _ F0i => ?_)
 have F0 : Fr 21 [(0, .string s), (1, .string suffix)] _ := F0i
 clear F0i
 refine wp_seq (wp_region_lit (l_op (f_val F0 rfl rfl (r_assign rfl rfl) rfl fun _ F1 => ?_)))
 refine s_end (x_normal (wp_seq (wp_region_lit (l_op (f_mv F1 rfl rfl rfl rfl rfl fun _ F2 => ?_)))))
 refine l_op (f_val F2 rfl rfl (r_lenS (fun t ht => by cases ht; exact Tryz.underlying9) rfl rfl (F2.ev 5 rfl)) rfl fun _ F3 => ?_)
 refine l_op (f_mv F3 rfl rfl rfl rfl rfl fun _ F4 => ?_)
 refine l_op (f_val F4 rfl rfl (r_lenS (fun t ht => by cases ht; exact Tryz.underlying9) rfl rfl (F4.ev 7 rfl)) rfl fun _ F5 => ?_)
 refine l_op (f_val F5 rfl rfl (r_cmp (b := decide (s.size ≥ suffix.size)) (.inr (.inr (.inr (.inr (.inr rfl))))) rfl (F5.ev 6 rfl) (F5.ev 8 rfl) (dec_of (by omega))) rfl fun _ F6 => ?_)
 refine l_op (f_mv F6 rfl rfl rfl rfl rfl fun _ F7 => ?_)
 rcases Decidable.em (s.size ≥ suffix.size) with h8 | h8
 · rw [decide_eq_true h8] at F7
   refine l_op (f_mv F7 (wanted_g F7 rfl rfl rfl rfl) rfl rfl rfl rfl fun _ F9 => ?_)
   refine l_op (f_mv F9 (wanted_g F9 rfl rfl rfl rfl) rfl rfl rfl rfl fun _ F10 => ?_)
   refine l_op (f_val F10 (wanted_g F10 rfl rfl rfl rfl) rfl (r_lenS (fun t ht => by cases ht; exact Tryz.underlying9) rfl rfl (F10.ev 12 rfl)) rfl fun _ F11 => ?_)
   refine l_op (f_mv F11 (wanted_g F11 rfl rfl rfl rfl) rfl rfl rfl rfl fun _ F12 => ?_)
   refine l_op (f_val F12 (wanted_g F12 rfl rfl rfl rfl) rfl (r_lenS (fun t ht => by cases ht; exact Tryz.underlying9) rfl rfl (F12.ev 14 rfl)) rfl fun _ F13 => ?_)
   refine l_op (f_val F13 (wanted_g F13 rfl rfl rfl rfl) rfl (r_sub (z := ((s.size - suffix.size : Nat) : Int)) rfl (F13.ev 13 rfl) (F13.ev 15 rfl) (by first | rfl | omega) ⟨by first | omega | (unfold i64ok at *; omega), by first | omega | (unfold i64ok at *; omega)⟩) rfl fun _ F14 => ?_)
   refine l_op (f_val F14 (wanted_g F14 rfl rfl rfl rfl) rfl (r_sliceS (l := s.size - suffix.size) (h := s.size) Tryz.underlying9 rfl (F14.ev 11 rfl) (F14.ev 16 rfl) rfl (by first | assumption | omega) (by first | assumption | omega) rfl) rfl fun _ F15 => ?_)
   refine l_op (f_mv F15 (wanted_g F15 rfl rfl rfl rfl) rfl rfl rfl rfl fun _ F16 => ?_)
   refine l_op (f_val F16 (wanted_g F16 rfl rfl rfl rfl) rfl (r_cmps (b := (decide ((s.extract (s.size - suffix.size) s.size) = suffix))) (.inl rfl) rfl (F16.ev 17 rfl) (F16.ev 18 rfl) rfl) rfl fun _ F17 => ?_)
   refine l_op (f_val F17 rfl rfl (r_pick (b := true) rfl (F17.ev 10 rfl) (F17.ev 19 rfl)) rfl fun _ F18 => ?_)
   refine l_op (f_as F18 rfl rfl rfl rfl rfl fun _ F19 => ?_)
   refine s_end (x_normal (wp_ret ?_))
   refine x_done (v := .bool (decide ((s.extract (s.size - suffix.size) s.size) = suffix))) F19 (results_1 Tryz.results170 (.tmp (F19.ev 4 rfl))) ?_
   exact ⟨(by rw [(show (decide ((s.extract (s.size - suffix.size) s.size) = suffix)) = (hasSuf s suffix) from by unfold hasSuf; by_cases hb : suffix.size ≤ s.size <;> simp_all <;> omega)]), (Mv.pick (Mv.refl (At.nil w)) [] rfl)⟩
 · rw [decide_eq_false h8] at F7
   refine l_op (f_skip F7 (wanted_g F7 rfl rfl rfl rfl) rfl rfl fun _ F20 => ?_)
   refine l_op (f_skip F20 (wanted_g F20 rfl rfl rfl rfl) rfl rfl fun _ F21 => ?_)
   refine l_op (f_skip F21 (wanted_g F21 rfl rfl rfl rfl) rfl rfl fun _ F22 => ?_)
   refine l_op (f_skip F22 (wanted_g F22 rfl rfl rfl rfl) rfl rfl fun _ F23 => ?_)
   refine l_op (f_skip F23 (wanted_g F23 rfl rfl rfl rfl) rfl rfl fun _ F24 => ?_)
   refine l_op (f_skip F24 (wanted_g F24 rfl rfl rfl rfl) rfl rfl fun _ F25 => ?_)
   refine l_op (f_skip F25 (wanted_g F25 rfl rfl rfl rfl) rfl rfl fun _ F26 => ?_)
   refine l_op (f_skip F26 (wanted_g F26 rfl rfl rfl rfl) rfl rfl fun _ F27 => ?_)
   refine l_op (f_skip F27 (wanted_g F27 rfl rfl rfl rfl) rfl rfl fun _ F28 => ?_)
   refine l_op (f_val F28 rfl rfl (r_pick (b := false) rfl (F28.ev 10 rfl) rfl) rfl fun _ F29 => ?_)
   refine l_op (f_as F29 rfl rfl rfl rfl rfl fun _ F30 => ?_)
   refine s_end (x_normal (wp_ret ?_))
   refine x_done (v := .bool false) F30 (results_1 Tryz.results170 (.tmp (F30.ev 4 rfl))) ?_
   exact ⟨(by rw [(show false = (hasSuf s suffix) from by unfold hasSuf; by_cases hb : suffix.size ≤ s.size <;> simp_all <;> omega)]), (Mv.pick (Mv.refl (At.nil w)) [] rfl)⟩
end Go.Proofs.YtipdbeklopjbmaaGreatDoor
/-
  Walks: clashes, covers, equal lists.
-/

namespace Go.Proofs.YtipdbeklopjbmaaGreatDoor
open Go.ChangeShapes Go.WideShapes Go.ChangeAt Go.RowKit
set_option maxRecDepth 100000
set_option maxHeartbeats 1000000
end Go.Proofs.YtipdbeklopjbmaaGreatDoor
/-
  Walks: draws.
-/

namespace Go.Proofs.YtipdbeklopjbmaaGreatDoor
open Go.ChangeShapes Go.WideShapes Go.ChangeAt Go.RowKit
set_option maxRecDepth 100000
set_option maxHeartbeats 1000000
end Go.Proofs.YtipdbeklopjbmaaGreatDoor
/-
  Walks: drawn keys and values.
-/

namespace Go.Proofs.YtipdbeklopjbmaaGreatDoor
open Go.ChangeShapes Go.WideShapes Go.ChangeAt Go.RowKit
set_option maxRecDepth 100000
set_option maxHeartbeats 1000000
end Go.Proofs.YtipdbeklopjbmaaGreatDoor
/-
  Walks: drawn access sets and machines.
-/

namespace Go.Proofs.YtipdbeklopjbmaaGreatDoor
open Go.ChangeShapes Go.WideShapes Go.ChangeAt Go.RowKit
set_option maxRecDepth 100000
set_option maxHeartbeats 1000000
end Go.Proofs.YtipdbeklopjbmaaGreatDoor
/-
  Walks: drawn machines.
-/

namespace Go.Proofs.YtipdbeklopjbmaaGreatDoor
open Go.ChangeShapes Go.WideShapes Go.ChangeAt Go.RowKit
set_option maxRecDepth 100000
set_option maxHeartbeats 1000000
end Go.Proofs.YtipdbeklopjbmaaGreatDoor
/-
  Walks: access sets are joined by the program.
-/

namespace Go.Proofs.YtipdbeklopjbmaaGreatDoor
open Go.ChangeShapes Go.WideShapes Go.ChangeAt Go.RowKit
set_option maxRecDepth 100000
set_option maxHeartbeats 1000000
end Go.Proofs.YtipdbeklopjbmaaGreatDoor
/-
  Walks: equal access sets.
-/

namespace Go.Proofs.YtipdbeklopjbmaaGreatDoor
open Go.ChangeShapes Go.WideShapes Go.ChangeAt Go.RowKit
set_option maxRecDepth 100000
set_option maxHeartbeats 1000000
end Go.Proofs.YtipdbeklopjbmaaGreatDoor
/-
  Walks: equal machines.
-/

namespace Go.Proofs.YtipdbeklopjbmaaGreatDoor
open Go.ChangeShapes Go.WideShapes Go.ChangeAt Go.RowKit
set_option maxRecDepth 100000
set_option maxHeartbeats 1000000
end Go.Proofs.YtipdbeklopjbmaaGreatDoor
/-
  Walks: the keys that differ; a store that is as it should be.
-/

namespace Go.Proofs.YtipdbeklopjbmaaGreatDoor
open Go.ChangeShapes Go.WideShapes Go.ChangeAt Go.RowKit
set_option maxRecDepth 100000
set_option maxHeartbeats 1000000
theorem spec_StoreOk_c {w : World} {H : Nat → Prop} {s : List CellD} {s_a : Option Addr} {s_n s_c : Nat} (v_s : Rd 2 encC okC H w (.slice s_a s_n s_c) s) :
    Calls Tryz.prog 88 #[.slice s_a s_n s_c] w fun e w' => e = .returned (.bool (storeOk s)) ∧ Mv [] w [] w' := by
 have Q0 : Rd 2 encC okC (V H w []) w (.slice s_a s_n s_c) s := Rd.start v_s (fun _ _ => fps_nil _)
 obtain ⟨ln_s, le_s, mx_s, ni_s⟩ := Rd.inv v_s
 refine calls_enter 48 Tryz.func88 rfl Tryz.ntmps88 (Nat.le_of_ble_eq_true rfl) (fun _ F0i => ?_)
 have F0 : Fr 48 [(0, .slice s_a s_n s_c)] _ := F0i
 clear F0i
 refine wp_seq (wp_region_lit (l_op (f_val F0 rfl rfl (r_assign rfl rfl) rfl fun _ F1 => ?_)))
 refine s_end (x_normal (wp_seq (wp_seq (wp_region_lit (l_op (f_val F1 rfl rfl (r_assign rfl rfl) rfl fun _ F2 => ?_))))))
 refine s_end (x_normal (wp_block ?_))
 refine x_loop (fun (k : Nat) aZ wZ => Fr 48 [(3, .int .i64 ((k : Nat) : Int)), (0, .slice s_a s_n s_c)] aZ ∧ Mv [] w [] wZ ∧ (k ≤ s_n) ∧ (∀ j, j < k → cellOk s j = true)) (fun (k : Nat) => s_n - k) (0) ?_ ?_
 · exact ⟨F2.cut rfl, (Mv.refl (At.nil w)), by omega, all_none⟩
 · rintro k a3 w3 ⟨F3, S3, hk_0, hk_1⟩
   refine wp_seq (wp_seq (wp_region_lit (l_op (f_mv F3 rfl rfl rfl rfl rfl fun _ F4 => ?_))))
   refine l_op (f_mv F4 rfl rfl rfl rfl rfl fun _ F5 => ?_)
   refine l_op (f_val F5 rfl rfl (r_len Tryz.underlying28 rfl (F5.ev 5 rfl)) rfl fun _ F6 => ?_)
   refine l_op (f_val F6 rfl rfl (r_cmp (b := decide (k < s_n)) (.inr (.inr (.inl rfl))) rfl (F6.ev 4 rfl) (F6.ev 6 rfl) (dec_of (by omega))) rfl fun _ F7 => ?_)
   refine s_end (x_normal (x_cond (p := k < s_n) (F7.ev 7 rfl) (fun h8 => ?_) (fun h8 => ?_)))
   · skip
     refine wp_skip (x_normal (wp_seq (wp_block (wp_seq ?_))))
     obtain ⟨x1, hx1, okx1⟩ := Rd.elem (Rd.mq Q0 S3) k (by first | assumption | omega)
     refine x_draw (fun aZ wZ => Fr 48 [(0, .slice s_a s_n s_c), (3, .int .i64 ((k : Nat) : Int)), (44, .bool (!cellOk s k))] aZ ∧ Mv [] w3 [] wZ) [] mixed S3.at' (listed := #[false, false, false, false, false, false, false, false, false, false, false, false, false, false, false, false, false, false, false, false, false, false, false, false, false, false, false, false, false, false, false, false, false, false, false]) rfl (fun w10 S10 => ?_) [] rfl ?_
     · skip
       refine g_take F7 rfl (i := 0) (listed' := #[true, false, false, false, false, false, false, false, false, false, false, false, false, false, false, false, false, false, false, false, false, false, false, false, false, false, false, false, false, false, false, false, false, false, false]) rfl (by kernel_rfl) (by kernel_rfl) (by kernel_rfl) (fun _ _ _ h => h) (Sd.of (Mv.refl S10.at') [] rfl) rfl rfl rfl rfl (fun _ hz => (r_move rfl (F7.ev 0 rfl))) fun _ F11 => ?_
       refine g_take F11 rfl (i := 1) (listed' := #[true, true, false, false, false, false, false, false, false, false, false, false, false, false, false, false, false, false, false, false, false, false, false, false, false, false, false, false, false, false, false, false, false, false, false]) rfl (by kernel_rfl) (by kernel_rfl) (by kernel_rfl) (fun _ _ _ h => h) (Sd.of (Mv.refl S10.at') [] rfl) rfl rfl rfl rfl (fun _ hz => (r_move rfl (F11.ev 3 rfl))) fun _ F12 => ?_
       obtain ⟨B13, O13, y13, ad13, hy13, oky13, ln13, cl13⟩ := Rd.atK (Nat.succ_pos _) (Rd.mq Q0 (S3.trans S10)) k (by first | assumption | omega)
       clear ln13
       obtain rfl := Option.some.inj (hx1.symm.trans hy13)
       clear hy13 oky13
       refine g_take F12 rfl (i := 2) (listed' := #[true, true, true, false, false, false, false, false, false, false, false, false, false, false, false, false, false, false, false, false, false, false, false, false, false, false, false, false, false, false, false, false, false, false, false]) rfl (by kernel_rfl) (by kernel_rfl) (by kernel_rfl) (fun _ _ _ h => h) (Sd.of (Mv.refl S10.at') [] rfl) rfl rfl rfl rfl (fun _ hz => (r_indexAddr (i := k) ET_28 rfl ((F12.ev 10 rfl).trans (by rw [ad13])) (F12.ev 11 rfl) (by omega) (by first | assumption | omega))) fun _ F14 => ?_
       refine g_take F14 rfl (i := 3) (listed' := #[true, true, true, true, false, false, false, false, false, false, false, false, false, false, false, false, false, false, false, false, false, false, false, false, false, false, false, false, false, false, false, false, false, false, false]) rfl (by kernel_rfl) (by kernel_rfl) (by kernel_rfl) (fun _ _ _ h => h) (Sd.of (Mv.refl S10.at') [] rfl) rfl rfl rfl rfl (fun _ hz => (r_field FI_91_0 rfl (F14.ev 12 rfl) rfl)) fun _ F15 => ?_
       refine g_take (v := .string x1.key) F15 rfl (i := 4) (listed' := #[true, true, true, true, true, false, false, false, false, false, false, false, false, false, false, false, false, false, false, false, false, false, false, false, false, false, false, false, false, false, false, false, false, false, false]) rfl (by kernel_rfl) (by kernel_rfl) (by kernel_rfl) (fun _ _ _ h => h) (Sd.of (Mv.refl S10.at') [] rfl) rfl rfl rfl rfl (fun _ hz => (r_load (cs := [.string x1.key]) TI_9 rfl (F15.ev 13 rfl) rfl (fun _ => rfl) (elem_sub (f := 0) (cl13 _ hz.kp) [.string x1.key] rfl))) fun _ F16 => ?_
       refine d_one (i := 5) (listed' := #[true, true, true, true, true, true, false, false, false, false, false, false, false, false, false, false, false, false, false, false, false, false, false, false, false, false, false, false, false, false, false, false, false, false, false]) rfl (by kernel_rfl) rfl rfl ?_
       refine f_call F16 CF_132 rfl rfl rfl rfl (lc (F16.ev 14 rfl) rfl) (spec_KeyOk_c (H := fun _ => True) (key := x1.key) okx1.1) ?_
       rintro _ w17 ⟨rfl, m17⟩
       refine ⟨_, rfl, fun _ F18 => ?_⟩
       have S17 := At.frame0 S10.at' m17
       clear m17
       refine ⟨Sd.of S17 [] rfl, ?_⟩
       refine g_take F18 rfl (i := 6) (listed' := #[true, true, true, true, true, true, true, false, false, false, false, false, false, false, false, false, false, false, false, false, false, false, false, false, false, false, false, false, false, false, false, false, false, false, false]) rfl (by kernel_rfl) (by kernel_rfl) (by kernel_rfl) (fun _ _ _ h => h) (Sd.of S17 [] rfl) rfl rfl rfl rfl (fun _ hz => (r_not rfl (F18.ev 15 rfl))) fun _ F19 => ?_
       refine g_take F19 rfl (i := 7) (listed' := #[true, true, true, true, true, true, true, true, false, false, false, false, false, false, false, false, false, false, false, false, false, false, false, false, false, false, false, false, false, false, false, false, false, false, false]) rfl (by kernel_rfl) (by kernel_rfl) (by kernel_rfl) (fun _ _ _ h => h) (Sd.of S17 [] rfl) rfl rfl rfl rfl (fun _ hz => (r_move rfl (F19.ev 16 rfl))) fun _ F20 => ?_
       rcases Bool.eq_false_or_eq_true (!(keyOk x1.key)) with h21 | h21
       · rw [h21] at F20
         refine g_skip F20 rfl (i := 8) (listed' := #[true, true, true, true, true, true, true, true, true, false, false, false, false, false, false, false, false, false, false, false, false, false, false, false, false, false, false, false, false, false, false, false, false, false, false]) rfl (by kernel_rfl) (by kernel_rfl) (by kernel_rfl) (fun _ _ _ h => h) (Sd.of S17 [] rfl) rfl (wanted_g F20 rfl rfl rfl rfl) rfl rfl fun _ F22 => ?_
         refine g_skip F22 rfl (i := 9) (listed' := #[true, true, true, true, true, true, true, true, true, true, false, false, false, false, false, false, false, false, false, false, false, false, false, false, false, false, false, false, false, false, false, false, false, false, false]) rfl (by kernel_rfl) (by kernel_rfl) (by kernel_rfl) (fun _ _ _ h => h) (Sd.of S17 [] rfl) rfl (wanted_g F22 rfl rfl rfl rfl) rfl rfl fun _ F23 => ?_
         refine g_skip F23 rfl (i := 10) (listed' := #[true, true, true, true, true, true, true, true, true, true, true, false, false, false, false, false, false, false, false, false, false, false, false, false, false, false, false, false, false, false, false, false, false, false, false]) rfl (by kernel_rfl) (by kernel_rfl) (by kernel_rfl) (fun _ _ _ h => h) (Sd.of S17 [] rfl) rfl (wanted_g F23 rfl rfl rfl rfl) rfl rfl fun _ F24 => ?_
         refine g_skip F24 rfl (i := 11) (listed' := #[true, true, true, true, true, true, true, true, true, true, true, true, false, false, false, false, false, false, false, false, false, false, false, false, false, false, false, false, false, false, false, false, false, false, false]) rfl (by kernel_rfl) (by kernel_rfl) (by kernel_rfl) (fun _ _ _ h => h) (Sd.of S17 [] rfl) rfl (wanted_g F24 rfl rfl rfl rfl) rfl rfl fun _ F25 => ?_
         refine g_skip F25 rfl (i := 12) (listed' := #[true, true, true, true, true, true, true, true, true, true, true, true, true, false, false, false, false, false, false, false, false, false, false, false, false, false, false, false, false, false, false, false, false, false, false]) rfl (by kernel_rfl) (by kernel_rfl) (by kernel_rfl) (fun _ _ _ h => h) (Sd.of S17 [] rfl) rfl (wanted_g F25 rfl rfl rfl rfl) rfl rfl fun _ F26 => ?_
         refine g_skip F26 rfl (i := 13) (listed' := #[true, true, true, true, true, true, true, true, true, true, true, true, true, true, false, false, false, false, false, false, false, false, false, false, false, false, false, false, false, false, false, false, false, false, false]) rfl (by kernel_rfl) (by kernel_rfl) (by kernel_rfl) (fun _ _ _ h => h) (Sd.of S17 [] rfl) rfl (wanted_g F26 rfl rfl rfl rfl) rfl rfl fun _ F27 => ?_
         refine g_skip F27 rfl (i := 14) (listed' := #[true, true, true, true, true, true, true, true, true, true, true, true, true, true, true, false, false, false, false, false, false, false, false, false, false, false, false, false, false, false, false, false, false, false, false]) rfl (by kernel_rfl) (by kernel_rfl) (by kernel_rfl) (fun _ _ _ h => h) (Sd.of S17 [] rfl) rfl (wanted_g F27 rfl rfl rfl rfl) rfl rfl fun _ F28 => ?_
         refine g_skip F28 rfl (i := 15) (listed' := #[true, true, true, true, true, true, true, true, true, true, true, true, true, true, true, true, false, false, false, false, false, false, false, false, false, false, false, false, false, false, false, false, false, false, false]) rfl (by kernel_rfl) (by kernel_rfl) (by kernel_rfl) (fun _ _ _ h => h) (Sd.of S17 [] rfl) rfl (wanted_g F28 rfl rfl rfl rfl) rfl rfl fun _ F29 => ?_
         refine g_take F29 rfl (i := 16) (listed' := #[true, true, true, true, true, true, true, true, true, true, true, true, true, true, true, true, true, false, false, false, false, false, false, false, false, false, false, false, false, false, false, false, false, false, false]) rfl (by kernel_rfl) (by kernel_rfl) (by kernel_rfl) (fun _ _ _ h => h) (Sd.of S17 [] rfl) rfl rfl rfl rfl (fun _ hz => (r_pick (b := true) rfl (F29.ev 17 rfl) rfl)) fun _ F30 => ?_
         refine g_take F30 rfl (i := 17) (listed' := #[true, true, true, true, true, true, true, true, true, true, true, true, true, true, true, true, true, true, false, false, false, false, false, false, false, false, false, false, false, false, false, false, false, false, false]) rfl (by kernel_rfl) (by kernel_rfl) (by kernel_rfl) (fun _ _ _ h => h) (Sd.of S17 [] rfl) rfl rfl rfl rfl (fun _ hz => (r_move rfl (F30.ev 26 rfl))) fun _ F31 => ?_
         refine g_skip F31 rfl (i := 18) (listed' := #[true, true, true, true, true, true, true, true, true, true, true, true, true, true, true, true, true, true, true, false, false, false, false, false, false, false, false, false, false, false, false, false, false, false, false]) rfl (by kernel_rfl) (by kernel_rfl) (by kernel_rfl) (fun _ _ _ h => h) (Sd.of S17 [] rfl) rfl (wanted_g F31 rfl rfl rfl rfl) rfl rfl fun _ F32 => ?_
         refine g_skip F32 rfl (i := 19) (listed' := #[true, true, true, true, true, true, true, true, true, true, true, true, true, true, true, true, true, true, true, true, false, false, false, false, false, false, false, false, false, false, false, false, false, false, false]) rfl (by kernel_rfl) (by kernel_rfl) (by kernel_rfl) (fun _ _ _ h => h) (Sd.of S17 [] rfl) rfl (wanted_g F32 rfl rfl rfl rfl) rfl rfl fun _ F33 => ?_
         refine g_skip F33 rfl (i := 20) (listed' := #[true, true, true, true, true, true, true, true, true, true, true, true, true, true, true, true, true, true, true, true, true, false, false, false, false, false, false, false, false, false, false, false, false, false, false]) rfl (by kernel_rfl) (by kernel_rfl) (by kernel_rfl) (fun _ _ _ h => h) (Sd.of S17 [] rfl) rfl (wanted_g F33 rfl rfl rfl rfl) rfl rfl fun _ F34 => ?_
         refine g_skip F34 rfl (i := 21) (listed' := #[true, true, true, true, true, true, true, true, true, true, true, true, true, true, true, true, true, true, true, true, true, true, false, false, false, false, false, false, false, false, false, false, false, false, false]) rfl (by kernel_rfl) (by kernel_rfl) (by kernel_rfl) (fun _ _ _ h => h) (Sd.of S17 [] rfl) rfl (wanted_u F34 rfl rfl rfl) rfl rfl fun _ F35 => ?_
         refine g_skip F35 rfl (i := 22) (listed' := #[true, true, true, true, true, true, true, true, true, true, true, true, true, true, true, true, true, true, true, true, true, true, true, false, false, false, false, false, false, false, false, false, false, false, false]) rfl (by kernel_rfl) (by kernel_rfl) (by kernel_rfl) (fun _ _ _ h => h) (Sd.of S17 [] rfl) rfl (wanted_u F35 rfl rfl rfl) rfl rfl fun _ F36 => ?_
         refine g_skip F36 rfl (i := 23) (listed' := #[true, true, true, true, true, true, true, true, true, true, true, true, true, true, true, true, true, true, true, true, true, true, true, true, false, false, false, false, false, false, false, false, false, false, false]) rfl (by kernel_rfl) (by kernel_rfl) (by kernel_rfl) (fun _ _ _ h => h) (Sd.of S17 [] rfl) rfl (wanted_u F36 rfl rfl rfl) rfl rfl fun _ F37 => ?_
         refine g_skip F37 rfl (i := 24) (listed' := #[true, true, true, true, true, true, true, true, true, true, true, true, true, true, true, true, true, true, true, true, true, true, true, true, true, false, false, false, false, false, false, false, false, false, false]) rfl (by kernel_rfl) (by kernel_rfl) (by kernel_rfl) (fun _ _ _ h => h) (Sd.of S17 [] rfl) rfl (wanted_u F37 rfl rfl rfl) rfl rfl fun _ F38 => ?_
         refine g_skip F38 rfl (i := 25) (listed' := #[true, true, true, true, true, true, true, true, true, true, true, true, true, true, true, true, true, true, true, true, true, true, true, true, true, true, false, false, false, false, false, false, false, false, false]) rfl (by kernel_rfl) (by kernel_rfl) (by kernel_rfl) (fun _ _ _ h => h) (Sd.of S17 [] rfl) rfl (wanted_u F38 rfl rfl rfl) rfl rfl fun _ F39 => ?_
         refine g_skip F39 rfl (i := 26) (listed' := #[true, true, true, true, true, true, true, true, true, true, true, true, true, true, true, true, true, true, true, true, true, true, true, true, true, true, true, false, false, false, false, false, false, false, false]) rfl (by kernel_rfl) (by kernel_rfl) (by kernel_rfl) (fun _ _ _ h => h) (Sd.of S17 [] rfl) rfl (wanted_u F39 rfl rfl rfl) rfl rfl fun _ F40 => ?_
         refine g_skip F40 rfl (i := 27) (listed' := #[true, true, true, true, true, true, true, true, true, true, true, true, true, true, true, true, true, true, true, true, true, true, true, true, true, true, true, true, false, false, false, false, false, false, false]) rfl (by kernel_rfl) (by kernel_rfl) (by kernel_rfl) (fun _ _ _ h => h) (Sd.of S17 [] rfl) rfl (wanted_u F40 rfl rfl rfl) rfl rfl fun _ F41 => ?_
         refine g_skip F41 rfl (i := 28) (listed' := #[true, true, true, true, true, true, true, true, true, true, true, true, true, true, true, true, true, true, true, true, true, true, true, true, true, true, true, true, true, false, false, false, false, false, false]) rfl (by kernel_rfl) (by kernel_rfl) (by kernel_rfl) (fun _ _ _ h => h) (Sd.of S17 [] rfl) rfl (wanted_u F41 rfl rfl rfl) rfl rfl fun _ F42 => ?_
         refine g_skip F42 rfl (i := 29) (listed' := #[true, true, true, true, true, true, true, true, true, true, true, true, true, true, true, true, true, true, true, true, true, true, true, true, true, true, true, true, true, true, false, false, false, false, false]) rfl (by kernel_rfl) (by kernel_rfl) (by kernel_rfl) (fun _ _ _ h => h) (Sd.of S17 [] rfl) rfl (wanted_u F42 rfl rfl rfl) rfl rfl fun _ F43 => ?_
         refine g_skip F43 rfl (i := 30) (listed' := #[true, true, true, true, true, true, true, true, true, true, true, true, true, true, true, true, true, true, true, true, true, true, true, true, true, true, true, true, true, true, true, false, false, false, false]) rfl (by kernel_rfl) (by kernel_rfl) (by kernel_rfl) (fun _ _ _ h => h) (Sd.of S17 [] rfl) rfl (wanted_u F43 rfl rfl rfl) rfl rfl fun _ F44 => ?_
         refine g_skip F44 rfl (i := 31) (listed' := #[true, true, true, true, true, true, true, true, true, true, true, true, true, true, true, true, true, true, true, true, true, true, true, true, true, true, true, true, true, true, true, true, false, false, false]) rfl (by kernel_rfl) (by kernel_rfl) (by kernel_rfl) (fun _ _ _ h => h) (Sd.of S17 [] rfl) rfl (wanted_u F44 rfl rfl rfl) rfl rfl fun _ F45 => ?_
         refine g_skip F45 rfl (i := 32) (listed' := #[true, true, true, true, true, true, true, true, true, true, true, true, true, true, true, true, true, true, true, true, true, true, true, true, true, true, true, true, true, true, true, true, true, false, false]) rfl (by kernel_rfl) (by kernel_rfl) (by kernel_rfl) (fun _ _ _ h => h) (Sd.of S17 [] rfl) rfl (wanted_u F45 rfl rfl rfl) rfl rfl fun _ F46 => ?_
         refine g_skip F46 rfl (i := 33) (listed' := #[true, true, true, true, true, true, true, true, true, true, true, true, true, true, true, true, true, true, true, true, true, true, true, true, true, true, true, true, true, true, true, true, true, true, false]) rfl (by kernel_rfl) (by kernel_rfl) (by kernel_rfl) (fun _ _ _ h => h) (Sd.of S17 [] rfl) rfl (wanted_g F46 rfl rfl rfl rfl) rfl rfl fun _ F47 => ?_
         refine g_take F47 rfl (i := 34) (listed' := #[true, true, true, true, true, true, true, true, true, true, true, true, true, true, true, true, true, true, true, true, true, true, true, true, true, true, true, true, true, true, true, true, true, true, true]) rfl (by kernel_rfl) (by kernel_rfl) (by kernel_rfl) (fun _ _ _ h => h) (Sd.of S17 [] rfl) rfl rfl rfl rfl (fun _ hz => (r_pick (b := true) rfl (F47.ev 27 rfl) rfl)) fun _ F48 => ?_
         refine wpAnyH_done (by kernel_rfl) (x_normal ?_) _
         exact ⟨Fr.cast (F48.cut rfl) (congrArg (fun zZ => ([(0, .slice s_a s_n s_c), (3, .int .i64 ((k : Nat) : Int)), (44, .bool zZ)] : List (Nat × Value))) (show true = (!cellOk s k) from by first | exact ck_1 hx1 ‹_› | exact ck_2 hx1 ‹_› ‹_› | exact ck_3 hx1 ‹_› ‹_› ‹_› | exact ck_4 hx1 ‹_› ‹_› ‹_› hx2)), ((S10.trans S17).pick [] rfl)⟩
       · rw [h21] at F20
         refine g_take F20 rfl (i := 8) (listed' := #[true, true, true, true, true, true, true, true, true, false, false, false, false, false, false, false, false, false, false, false, false, false, false, false, false, false, false, false, false, false, false, false, false, false, false]) rfl (by kernel_rfl) (by kernel_rfl) (by kernel_rfl) (fun _ _ _ h => h) (Sd.of S17 [] rfl) rfl (wanted_g F20 rfl rfl rfl rfl) rfl rfl (fun _ hz => (r_move rfl (F20.ev 0 rfl))) fun _ F49 => ?_
         refine g_take F49 rfl (i := 9) (listed' := #[true, true, true, true, true, true, true, true, true, true, false, false, false, false, false, false, false, false, false, false, false, false, false, false, false, false, false, false, false, false, false, false, false, false, false]) rfl (by kernel_rfl) (by kernel_rfl) (by kernel_rfl) (fun _ _ _ h => h) (Sd.of S17 [] rfl) rfl (wanted_g F49 rfl rfl rfl rfl) rfl rfl (fun _ hz => (r_move rfl (F49.ev 3 rfl))) fun _ F50 => ?_
         obtain ⟨B51, O51, y51, ad51, hy51, oky51, ln51, cl51⟩ := Rd.atK (Nat.succ_pos _) (Rd.mq Q0 (S3.trans S10)) k (by first | assumption | omega)
         clear ln51
         obtain rfl := Option.some.inj (hx1.symm.trans hy51)
         clear hy51 oky51
         refine g_take F50 rfl (i := 10) (listed' := #[true, true, true, true, true, true, true, true, true, true, true, false, false, false, false, false, false, false, false, false, false, false, false, false, false, false, false, false, false, false, false, false, false, false, false]) rfl (by kernel_rfl) (by kernel_rfl) (by kernel_rfl) (fun _ _ _ h => h) (Sd.of S17 [] rfl) rfl (wanted_g F50 rfl rfl rfl rfl) rfl rfl (fun _ hz => (r_indexAddr (i := k) ET_28 rfl ((F50.ev 18 rfl).trans (by rw [ad51])) (F50.ev 19 rfl) (by omega) (by first | assumption | omega))) fun _ F52 => ?_
         refine g_take F52 rfl (i := 11) (listed' := #[true, true, true, true, true, true, true, true, true, true, true, true, false, false, false, false, false, false, false, false, false, false, false, false, false, false, false, false, false, false, false, false, false, false, false]) rfl (by kernel_rfl) (by kernel_rfl) (by kernel_rfl) (fun _ _ _ h => h) (Sd.of S17 [] rfl) rfl (wanted_g F52 rfl rfl rfl rfl) rfl rfl (fun _ hz => (r_field FI_91_1 rfl (F52.ev 20 rfl) rfl)) fun _ F53 => ?_
         refine g_take (v := .string x1.val) F53 rfl (i := 12) (listed' := #[true, true, true, true, true, true, true, true, true, true, true, true, true, false, false, false, false, false, false, false, false, false, false, false, false, false, false, false, false, false, false, false, false, false, false]) rfl (by kernel_rfl) (by kernel_rfl) (by kernel_rfl) (fun _ _ _ h => h) (Sd.of S17 [] rfl) rfl (wanted_g F53 rfl rfl rfl rfl) rfl rfl (fun _ hz => (r_load (cs := [.string x1.val]) TI_9 rfl (F53.ev 21 rfl) rfl (fun _ => rfl) (elem_sub (f := 1) (cl51 _ hz.kp) [.string x1.val] rfl))) fun _ F54 => ?_
         refine g_take F54 rfl (i := 13) (listed' := #[true, true, true, true, true, true, true, true, true, true, true, true, true, true, false, false, false, false, false, false, false, false, false, false, false, false, false, false, false, false, false, false, false, false, false]) rfl (by kernel_rfl) (by kernel_rfl) (by kernel_rfl) (fun _ _ _ h => h) (Sd.of S17 [] rfl) rfl (wanted_g F54 rfl rfl rfl rfl) rfl rfl (fun _ hz => (r_lenS (fun t ht => by cases ht; exact Tryz.underlying9) rfl rfl (F54.ev 22 rfl))) fun _ F55 => ?_
         refine d_one (i := 14) (listed' := #[true, true, true, true, true, true, true, true, true, true, true, true, true, true, true, false, false, false, false, false, false, false, false, false, false, false, false, false, false, false, false, false, false, false, false]) rfl (by kernel_rfl) rfl rfl ?_
         refine f_call F55 CF_87 (wanted_g F55 rfl rfl rfl rfl) rfl rfl rfl (lc (F55.ev 23 rfl) (lc rfl (lc rfl rfl))) (spec_l01In_c (H := fun _ => True) (x := ((x1.val.size : Nat) : Int)) (least := 1) (most := 60) (by first | exact ⟨by omega, by omega⟩ | (have hz := okx1.2; unfold okS at hz; exact ⟨by omega, by omega⟩)) (by first | exact ⟨by omega, by omega⟩ | (have hz := okx1.2; unfold okS at hz; exact ⟨by omega, by omega⟩)) (by first | exact ⟨by omega, by omega⟩ | (have hz := okx1.2; unfold okS at hz; exact ⟨by omega, by omega⟩))) ?_
         rintro _ w56 ⟨rfl, m56⟩
         refine ⟨_, rfl, fun _ F57 => ?_⟩
         have S56 := At.frame0 S17.at' m56
         clear m56
         refine ⟨Sd.of (S17.trans S56) [] rfl, ?_⟩
         refine g_take F57 rfl (i := 15) (listed' := #[true, true, true, true, true, true, true, true, true, true, true, true, true, true, true, true, false, false, false, false, false, false, false, false, false, false, false, false, false, false, false, false, false, false, false]) rfl (by kernel_rfl) (by kernel_rfl) (by kernel_rfl) (fun _ _ _ h => h) (Sd.of (S17.trans S56) [] rfl) rfl (wanted_g F57 rfl rfl rfl rfl) rfl rfl (fun _ hz => (r_not rfl (F57.ev 24 rfl))) fun _ F58 => ?_
         refine g_take F58 rfl (i := 16) (listed' := #[true, true, true, true, true, true, true, true, true, true, true, true, true, true, true, true, true, false, false, false, false, false, false, false, false, false, false, false, false, false, false, false, false, false, false]) rfl (by kernel_rfl) (by kernel_rfl) (by kernel_rfl) (fun _ _ _ h => h) (Sd.of (S17.trans S56) [] rfl) rfl rfl rfl rfl (fun _ hz => (r_pick (b := false) rfl (F58.ev 17 rfl) (F58.ev 25 rfl))) fun _ F59 => ?_
         refine g_take F59 rfl (i := 17) (listed' := #[true, true, true, true, true, true, true, true, true, true, true, true, true, true, true, true, true, true, false, false, false, false, false, false, false, false, false, false, false, false, false, false, false, false, false]) rfl (by kernel_rfl) (by kernel_rfl) (by kernel_rfl) (fun _ _ _ h => h) (Sd.of (S17.trans S56) [] rfl) rfl rfl rfl rfl (fun _ hz => (r_move rfl (F59.ev 26 rfl))) fun _ F60 => ?_
         rcases Bool.eq_false_or_eq_true (!(inB ((x1.val.size : Nat) : Int) 1 60)) with h61 | h61
         · rw [h61] at F60
           refine g_skip F60 rfl (i := 18) (listed' := #[true, true, true, true, true, true, true, true, true, true, true, true, true, true, true, true, true, true, true, false, false, false, false, false, false, false, false, false, false, false, false, false, false, false, false]) rfl (by kernel_rfl) (by kernel_rfl) (by kernel_rfl) (fun _ _ _ h => h) (Sd.of (S17.trans S56) [] rfl) rfl (wanted_g F60 rfl rfl rfl rfl) rfl rfl fun _ F62 => ?_
           refine g_skip F62 rfl (i := 19) (listed' := #[true, true, true, true, true, true, true, true, true, true, true, true, true, true, true, true, true, true, true, true, false, false, false, false, false, false, false, false, false, false, false, false, false, false, false]) rfl (by kernel_rfl) (by kernel_rfl) (by kernel_rfl) (fun _ _ _ h => h) (Sd.of (S17.trans S56) [] rfl) rfl (wanted_g F62 rfl rfl rfl rfl) rfl rfl fun _ F63 => ?_
           refine g_skip F63 rfl (i := 20) (listed' := #[true, true, true, true, true, true, true, true, true, true, true, true, true, true, true, true, true, true, true, true, true, false, false, false, false, false, false, false, false, false, false, false, false, false, false]) rfl (by kernel_rfl) (by kernel_rfl) (by kernel_rfl) (fun _ _ _ h => h) (Sd.of (S17.trans S56) [] rfl) rfl (wanted_g F63 rfl rfl rfl rfl) rfl rfl fun _ F64 => ?_
           refine g_skip F64 rfl (i := 21) (listed' := #[true, true, true, true, true, true, true, true, true, true, true, true, true, true, true, true, true, true, true, true, true, true, false, false, false, false, false, false, false, false, false, false, false, false, false]) rfl (by kernel_rfl) (by kernel_rfl) (by kernel_rfl) (fun _ _ _ h => h) (Sd.of (S17.trans S56) [] rfl) rfl (wanted_u F64 rfl rfl rfl) rfl rfl fun _ F65 => ?_
           refine g_skip F65 rfl (i := 22) (listed' := #[true, true, true, true, true, true, true, true, true, true, true, true, true, true, true, true, true, true, true, true, true, true, true, false, false, false, false, false, false, false, false, false, false, false, false]) rfl (by kernel_rfl) (by kernel_rfl) (by kernel_rfl) (fun _ _ _ h => h) (Sd.of (S17.trans S56) [] rfl) rfl (wanted_u F65 rfl rfl rfl) rfl rfl fun _ F66 => ?_
           refine g_skip F66 rfl (i := 23) (listed' := #[true, true, true, true, true, true, true, true, true, true, true, true, true, true, true, true, true, true, true, true, true, true, true, true, false, false, false, false, false, false, false, false, false, false, false]) rfl (by kernel_rfl) (by kernel_rfl) (by kernel_rfl) (fun _ _ _ h => h) (Sd.of (S17.trans S56) [] rfl) rfl (wanted_u F66 rfl rfl rfl) rfl rfl fun _ F67 => ?_
           refine g_skip F67 rfl (i := 24) (listed' := #[true, true, true, true, true, true, true, true, true, true, true, true, true, true, true, true, true, true, true, true, true, true, true, true, true, false, false, false, false, false, false, false, false, false, false]) rfl (by kernel_rfl) (by kernel_rfl) (by kernel_rfl) (fun _ _ _ h => h) (Sd.of (S17.trans S56) [] rfl) rfl (wanted_u F67 rfl rfl rfl) rfl rfl fun _ F68 => ?_
           refine g_skip F68 rfl (i := 25) (listed' := #[true, true, true, true, true, true, true, true, true, true, true, true, true, true, true, true, true, true, true, true, true, true, true, true, true, true, false, false, false, false, false, false, false, false, false]) rfl (by kernel_rfl) (by kernel_rfl) (by kernel_rfl) (fun _ _ _ h => h) (Sd.of (S17.trans S56) [] rfl) rfl (wanted_u F68 rfl rfl rfl) rfl rfl fun _ F69 => ?_
           refine g_skip F69 rfl (i := 26) (listed' := #[true, true, true, true, true, true, true, true, true, true, true, true, true, true, true, true, true, true, true, true, true, true, true, true, true, true, true, false, false, false, false, false, false, false, false]) rfl (by kernel_rfl) (by kernel_rfl) (by kernel_rfl) (fun _ _ _ h => h) (Sd.of (S17.trans S56) [] rfl) rfl (wanted_u F69 rfl rfl rfl) rfl rfl fun _ F70 => ?_
           refine g_skip F70 rfl (i := 27) (listed' := #[true, true, true, true, true, true, true, true, true, true, true, true, true, true, true, true, true, true, true, true, true, true, true, true, true, true, true, true, false, false, false, false, false, false, false]) rfl (by kernel_rfl) (by kernel_rfl) (by kernel_rfl) (fun _ _ _ h => h) (Sd.of (S17.trans S56) [] rfl) rfl (wanted_u F70 rfl rfl rfl) rfl rfl fun _ F71 => ?_
           refine g_skip F71 rfl (i := 28) (listed' := #[true, true, true, true, true, true, true, true, true, true, true, true, true, true, true, true, true, true, true, true, true, true, true, true, true, true, true, true, true, false, false, false, false, false, false]) rfl (by kernel_rfl) (by kernel_rfl) (by kernel_rfl) (fun _ _ _ h => h) (Sd.of (S17.trans S56) [] rfl) rfl (wanted_u F71 rfl rfl rfl) rfl rfl fun _ F72 => ?_
           refine g_skip F72 rfl (i := 29) (listed' := #[true, true, true, true, true, true, true, true, true, true, true, true, true, true, true, true, true, true, true, true, true, true, true, true, true, true, true, true, true, true, false, false, false, false, false]) rfl (by kernel_rfl) (by kernel_rfl) (by kernel_rfl) (fun _ _ _ h => h) (Sd.of (S17.trans S56) [] rfl) rfl (wanted_u F72 rfl rfl rfl) rfl rfl fun _ F73 => ?_
           refine g_skip F73 rfl (i := 30) (listed' := #[true, true, true, true, true, true, true, true, true, true, true, true, true, true, true, true, true, true, true, true, true, true, true, true, true, true, true, true, true, true, true, false, false, false, false]) rfl (by kernel_rfl) (by kernel_rfl) (by kernel_rfl) (fun _ _ _ h => h) (Sd.of (S17.trans S56) [] rfl) rfl (wanted_u F73 rfl rfl rfl) rfl rfl fun _ F74 => ?_
           refine g_skip F74 rfl (i := 31) (listed' := #[true, true, true, true, true, true, true, true, true, true, true, true, true, true, true, true, true, true, true, true, true, true, true, true, true, true, true, true, true, true, true, true, false, false, false]) rfl (by kernel_rfl) (by kernel_rfl) (by kernel_rfl) (fun _ _ _ h => h) (Sd.of (S17.trans S56) [] rfl) rfl (wanted_u F74 rfl rfl rfl) rfl rfl fun _ F75 => ?_
           refine g_skip F75 rfl (i := 32) (listed' := #[true, true, true, true, true, true, true, true, true, true, true, true, true, true, true, true, true, true, true, true, true, true, true, true, true, true, true, true, true, true, true, true, true, false, false]) rfl (by kernel_rfl) (by kernel_rfl) (by kernel_rfl) (fun _ _ _ h => h) (Sd.of (S17.trans S56) [] rfl) rfl (wanted_u F75 rfl rfl rfl) rfl rfl fun _ F76 => ?_
           refine g_skip F76 rfl (i := 33) (listed' := #[true, true, true, true, true, true, true, true, true, true, true, true, true, true, true, true, true, true, true, true, true, true, true, true, true, true, true, true, true, true, true, true, true, true, false]) rfl (by kernel_rfl) (by kernel_rfl) (by kernel_rfl) (fun _ _ _ h => h) (Sd.of (S17.trans S56) [] rfl) rfl (wanted_g F76 rfl rfl rfl rfl) rfl rfl fun _ F77 => ?_
           refine g_take F77 rfl (i := 34) (listed' := #[true, true, true, true, true, true, true, true, true, true, true, true, true, true, true, true, true, true, true, true, true, true, true, true, true, true, true, true, true, true, true, true, true, true, true]) rfl (by kernel_rfl) (by kernel_rfl) (by kernel_rfl) (fun _ _ _ h => h) (Sd.of (S17.trans S56) [] rfl) rfl rfl rfl rfl (fun _ hz => (r_pick (b := true) rfl (F77.ev 27 rfl) rfl)) fun _ F78 => ?_
           refine wpAnyH_done (by kernel_rfl) (x_normal ?_) _
           exact ⟨Fr.cast (F78.cut rfl) (congrArg (fun zZ => ([(0, .slice s_a s_n s_c), (3, .int .i64 ((k : Nat) : Int)), (44, .bool zZ)] : List (Nat × Value))) (show true = (!cellOk s k) from by first | exact ck_1 hx1 ‹_› | exact ck_2 hx1 ‹_› ‹_› | exact ck_3 hx1 ‹_› ‹_› ‹_› | exact ck_4 hx1 ‹_› ‹_› ‹_› hx2)), ((S10.trans (S17.trans S56)).pick [] rfl)⟩
         · rw [h61] at F60
           refine g_take F60 rfl (i := 18) (listed' := #[true, true, true, true, true, true, true, true, true, true, true, true, true, true, true, true, true, true, true, false, false, false, false, false, false, false, false, false, false, false, false, false, false, false, false]) rfl (by kernel_rfl) (by kernel_rfl) (by kernel_rfl) (fun _ _ _ h => h) (Sd.of (S17.trans S56) [] rfl) rfl (wanted_g F60 rfl rfl rfl rfl) rfl rfl (fun _ hz => (r_move rfl (F60.ev 3 rfl))) fun _ F79 => ?_
           refine g_take F79 rfl (i := 19) (listed' := #[true, true, true, true, true, true, true, true, true, true, true, true, true, true, true, true, true, true, true, true, false, false, false, false, false, false, false, false, false, false, false, false, false, false, false]) rfl (by kernel_rfl) (by kernel_rfl) (by kernel_rfl) (fun _ _ _ h => h) (Sd.of (S17.trans S56) [] rfl) rfl (wanted_g F79 rfl rfl rfl rfl) rfl rfl (fun _ hz => (r_cmp (b := decide (k > 0)) (.inr (.inr (.inr (.inr (.inl rfl))))) rfl (F79.ev 28 rfl) rfl (dec_of (by omega)))) fun _ F80 => ?_
           refine g_take F80 rfl (i := 20) (listed' := #[true, true, true, true, true, true, true, true, true, true, true, true, true, true, true, true, true, true, true, true, true, false, false, false, false, false, false, false, false, false, false, false, false, false, false]) rfl (by kernel_rfl) (by kernel_rfl) (by kernel_rfl) (fun _ _ _ h => h) (Sd.of (S17.trans S56) [] rfl) rfl (wanted_g F80 rfl rfl rfl rfl) rfl rfl (fun _ hz => (r_move rfl (F80.ev 29 rfl))) fun _ F81 => ?_
           rcases Decidable.em (k > 0) with h82 | h82
           · rw [decide_eq_true h82] at F81
             refine g_take F81 rfl (i := 21) (listed' := #[true, true, true, true, true, true, true, true, true, true, true, true, true, true, true, true, true, true, true, true, true, true, false, false, false, false, false, false, false, false, false, false, false, false, false]) rfl (by kernel_rfl) (by kernel_rfl) (by kernel_rfl) (fun _ _ _ h => h) (Sd.of (S17.trans S56) [] rfl) rfl (wanted_g F81 rfl rfl rfl rfl) rfl rfl (fun _ hz => (r_move rfl (F81.ev 0 rfl))) fun _ F83 => ?_
             refine g_take F83 rfl (i := 22) (listed' := #[true, true, true, true, true, true, true, true, true, true, true, true, true, true, true, true, true, true, true, true, true, true, true, false, false, false, false, false, false, false, false, false, false, false, false]) rfl (by kernel_rfl) (by kernel_rfl) (by kernel_rfl) (fun _ _ _ h => h) (Sd.of (S17.trans S56) [] rfl) rfl (wanted_g F83 rfl rfl rfl rfl) rfl rfl (fun _ hz => (r_move rfl (F83.ev 3 rfl))) fun _ F84 => ?_
             refine g_take F84 rfl (i := 23) (listed' := #[true, true, true, true, true, true, true, true, true, true, true, true, true, true, true, true, true, true, true, true, true, true, true, true, false, false, false, false, false, false, false, false, false, false, false]) rfl (by kernel_rfl) (by kernel_rfl) (by kernel_rfl) (fun _ _ _ h => h) (Sd.of (S17.trans S56) [] rfl) rfl (wanted_g F84 rfl rfl rfl rfl) rfl rfl (fun _ hz => (r_sub (z := ((k - 1 : Nat) : Int)) rfl (F84.ev 32 rfl) rfl (by first | rfl | omega) ⟨by first | omega | (unfold i64ok at *; omega), by first | omega | (unfold i64ok at *; omega)⟩)) fun _ F85 => ?_
             obtain ⟨B86, O86, x2, ad86, hx2, okx2, ln86, cl86⟩ := Rd.atK (Nat.succ_pos _) (Rd.mq Q0 (S3.trans S10)) (k - 1) (by first | assumption | omega)
             clear ln86
             refine g_take F85 rfl (i := 24) (listed' := #[true, true, true, true, true, true, true, true, true, true, true, true, true, true, true, true, true, true, true, true, true, true, true, true, true, false, false, false, false, false, false, false, false, false, false]) rfl (by kernel_rfl) (by kernel_rfl) (by kernel_rfl) (fun _ _ _ h => h) (Sd.of (S17.trans S56) [] rfl) rfl (wanted_g F85 rfl rfl rfl rfl) rfl rfl (fun _ hz => (r_indexAddr (i := k - 1) ET_28 rfl ((F85.ev 31 rfl).trans (by rw [ad86])) (F85.ev 33 rfl) (by omega) (by first | assumption | omega))) fun _ F87 => ?_
             refine g_take F87 rfl (i := 25) (listed' := #[true, true, true, true, true, true, true, true, true, true, true, true, true, true, true, true, true, true, true, true, true, true, true, true, true, true, false, false, false, false, false, false, false, false, false]) rfl (by kernel_rfl) (by kernel_rfl) (by kernel_rfl) (fun _ _ _ h => h) (Sd.of (S17.trans S56) [] rfl) rfl (wanted_g F87 rfl rfl rfl rfl) rfl rfl (fun _ hz => (r_field FI_91_0 rfl (F87.ev 34 rfl) rfl)) fun _ F88 => ?_
             refine g_take (v := .string x2.key) F88 rfl (i := 26) (listed' := #[true, true, true, true, true, true, true, true, true, true, true, true, true, true, true, true, true, true, true, true, true, true, true, true, true, true, true, false, false, false, false, false, false, false, false]) rfl (by kernel_rfl) (by kernel_rfl) (by kernel_rfl) (fun _ _ _ h => h) (Sd.of (S17.trans S56) [] rfl) rfl (wanted_g F88 rfl rfl rfl rfl) rfl rfl (fun _ hz => (r_load (cs := [.string x2.key]) TI_9 rfl (F88.ev 35 rfl) rfl (fun _ => rfl) (elem_sub (f := 0) (cl86 _ hz.kp) [.string x2.key] rfl))) fun _ F89 => ?_
             refine g_take F89 rfl (i := 27) (listed' := #[true, true, true, true, true, true, true, true, true, true, true, true, true, true, true, true, true, true, true, true, true, true, true, true, true, true, true, true, false, false, false, false, false, false, false]) rfl (by kernel_rfl) (by kernel_rfl) (by kernel_rfl) (fun _ _ _ h => h) (Sd.of (S17.trans S56) [] rfl) rfl (wanted_g F89 rfl rfl rfl rfl) rfl rfl (fun _ hz => (r_move rfl (F89.ev 0 rfl))) fun _ F90 => ?_
             refine g_take F90 rfl (i := 28) (listed' := #[true, true, true, true, true, true, true, true, true, true, true, true, true, true, true, true, true, true, true, true, true, true, true, true, true, true, true, true, true, false, false, false, false, false, false]) rfl (by kernel_rfl) (by kernel_rfl) (by kernel_rfl) (fun _ _ _ h => h) (Sd.of (S17.trans S56) [] rfl) rfl (wanted_g F90 rfl rfl rfl rfl) rfl rfl (fun _ hz => (r_move rfl (F90.ev 3 rfl))) fun _ F91 => ?_
             obtain ⟨B92, O92, y92, ad92, hy92, oky92, ln92, cl92⟩ := Rd.atK (Nat.succ_pos _) (Rd.mq Q0 (S3.trans S10)) k (by first | assumption | omega)
             clear ln92
             obtain rfl := Option.some.inj (hx1.symm.trans hy92)
             clear hy92 oky92
             refine g_take F91 rfl (i := 29) (listed' := #[true, true, true, true, true, true, true, true, true, true, true, true, true, true, true, true, true, true, true, true, true, true, true, true, true, true, true, true, true, true, false, false, false, false, false]) rfl (by kernel_rfl) (by kernel_rfl) (by kernel_rfl) (fun _ _ _ h => h) (Sd.of (S17.trans S56) [] rfl) rfl (wanted_g F91 rfl rfl rfl rfl) rfl rfl (fun _ hz => (r_indexAddr (i := k) ET_28 rfl ((F91.ev 37 rfl).trans (by rw [ad92])) (F91.ev 38 rfl) (by omega) (by first | assumption | omega))) fun _ F93 => ?_
             refine g_take F93 rfl (i := 30) (listed' := #[true, true, true, true, true, true, true, true, true, true, true, true, true, true, true, true, true, true, true, true, true, true, true, true, true, true, true, true, true, true, true, false, false, false, false]) rfl (by kernel_rfl) (by kernel_rfl) (by kernel_rfl) (fun _ _ _ h => h) (Sd.of (S17.trans S56) [] rfl) rfl (wanted_g F93 rfl rfl rfl rfl) rfl rfl (fun _ hz => (r_field FI_91_0 rfl (F93.ev 39 rfl) rfl)) fun _ F94 => ?_
             refine g_take (v := .string x1.key) F94 rfl (i := 31) (listed' := #[true, true, true, true, true, true, true, true, true, true, true, true, true, true, true, true, true, true, true, true, true, true, true, true, true, true, true, true, true, true, true, true, false, false, false]) rfl (by kernel_rfl) (by kernel_rfl) (by kernel_rfl) (fun _ _ _ h => h) (Sd.of (S17.trans S56) [] rfl) rfl (wanted_g F94 rfl rfl rfl rfl) rfl rfl (fun _ hz => (r_load (cs := [.string x1.key]) TI_9 rfl (F94.ev 40 rfl) rfl (fun _ => rfl) (elem_sub (f := 0) (cl92 _ hz.kp) [.string x1.key] rfl))) fun _ F95 => ?_
             refine g_take F95 rfl (i := 32) (listed' := #[true, true, true, true, true, true, true, true, true, true, true, true, true, true, true, true, true, true, true, true, true, true, true, true, true, true, true, true, true, true, true, true, true, false, false]) rfl (by kernel_rfl) (by kernel_rfl) (by kernel_rfl) (fun _ _ _ h => h) (Sd.of (S17.trans S56) [] rfl) rfl (wanted_g F95 rfl rfl rfl rfl) rfl rfl (fun _ hz => (r_cmps (b := (!ltS x2.key x1.key)) (.inr (.inr (.inr (.inr (.inr rfl))))) rfl (F95.ev 36 rfl) (F95.ev 41 rfl) rfl)) fun _ F96 => ?_
             refine g_take F96 rfl (i := 33) (listed' := #[true, true, true, true, true, true, true, true, true, true, true, true, true, true, true, true, true, true, true, true, true, true, true, true, true, true, true, true, true, true, true, true, true, true, false]) rfl (by kernel_rfl) (by kernel_rfl) (by kernel_rfl) (fun _ _ _ h => h) (Sd.of (S17.trans S56) [] rfl) rfl (wanted_g F96 rfl rfl rfl rfl) rfl rfl (fun _ hz => (r_pick (b := true) rfl (F96.ev 30 rfl) (F96.ev 42 rfl))) fun _ F97 => ?_
             refine g_take F97 rfl (i := 34) (listed' := #[true, true, true, true, true, true, true, true, true, true, true, true, true, true, true, true, true, true, true, true, true, true, true, true, true, true, true, true, true, true, true, true, true, true, true]) rfl (by kernel_rfl) (by kernel_rfl) (by kernel_rfl) (fun _ _ _ h => h) (Sd.of (S17.trans S56) [] rfl) rfl rfl rfl rfl (fun _ hz => (r_pick (b := false) rfl (F97.ev 27 rfl) (F97.ev 43 rfl))) fun _ F98 => ?_
             refine wpAnyH_done (by kernel_rfl) (x_normal ?_) _
             exact ⟨Fr.cast (F98.cut rfl) (congrArg (fun zZ => ([(0, .slice s_a s_n s_c), (3, .int .i64 ((k : Nat) : Int)), (44, .bool zZ)] : List (Nat × Value))) (show (!ltS x2.key x1.key) = (!cellOk s k) from by first | exact ck_1 hx1 ‹_› | exact ck_2 hx1 ‹_› ‹_› | exact ck_3 hx1 ‹_› ‹_› ‹_› | exact ck_4 hx1 ‹_› ‹_› ‹_› hx2)), ((S10.trans (S17.trans S56)).pick [] rfl)⟩
           · rw [decide_eq_false h82] at F81
             refine g_skip F81 rfl (i := 21) (listed' := #[true, true, true, true, true, true, true, true, true, true, true, true, true, true, true, true, true, true, true, true, true, true, false, false, false, false, false, false, false, false, false, false, false, false, false]) rfl (by kernel_rfl) (by kernel_rfl) (by kernel_rfl) (fun _ _ _ h => h) (Sd.of (S17.trans S56) [] rfl) rfl (wanted_g F81 rfl rfl rfl rfl) rfl rfl fun _ F99 => ?_
             refine g_skip F99 rfl (i := 22) (listed' := #[true, true, true, true, true, true, true, true, true, true, true, true, true, true, true, true, true, true, true, true, true, true, true, false, false, false, false, false, false, false, false, false, false, false, false]) rfl (by kernel_rfl) (by kernel_rfl) (by kernel_rfl) (fun _ _ _ h => h) (Sd.of (S17.trans S56) [] rfl) rfl (wanted_g F99 rfl rfl rfl rfl) rfl rfl fun _ F100 => ?_
             refine g_skip F100 rfl (i := 23) (listed' := #[true, true, true, true, true, true, true, true, true, true, true, true, true, true, true, true, true, true, true, true, true, true, true, true, false, false, false, false, false, false, false, false, false, false, false]) rfl (by kernel_rfl) (by kernel_rfl) (by kernel_rfl) (fun _ _ _ h => h) (Sd.of (S17.trans S56) [] rfl) rfl (wanted_g F100 rfl rfl rfl rfl) rfl rfl fun _ F101 => ?_
             refine g_skip F101 rfl (i := 24) (listed' := #[true, true, true, true, true, true, true, true, true, true, true, true, true, true, true, true, true, true, true, true, true, true, true, true, true, false, false, false, false, false, false, false, false, false, false]) rfl (by kernel_rfl) (by kernel_rfl) (by kernel_rfl) (fun _ _ _ h => h) (Sd.of (S17.trans S56) [] rfl) rfl (wanted_g F101 rfl rfl rfl rfl) rfl rfl fun _ F102 => ?_
             refine g_skip F102 rfl (i := 25) (listed' := #[true, true, true, true, true, true, true, true, true, true, true, true, true, true, true, true, true, true, true, true, true, true, true, true, true, true, false, false, false, false, false, false, false, false, false]) rfl (by kernel_rfl) (by kernel_rfl) (by kernel_rfl) (fun _ _ _ h => h) (Sd.of (S17.trans S56) [] rfl) rfl (wanted_g F102 rfl rfl rfl rfl) rfl rfl fun _ F103 => ?_
             refine g_skip F103 rfl (i := 26) (listed' := #[true, true, true, true, true, true, true, true, true, true, true, true, true, true, true, true, true, true, true, true, true, true, true, true, true, true, true, false, false, false, false, false, false, false, false]) rfl (by kernel_rfl) (by kernel_rfl) (by kernel_rfl) (fun _ _ _ h => h) (Sd.of (S17.trans S56) [] rfl) rfl (wanted_g F103 rfl rfl rfl rfl) rfl rfl fun _ F104 => ?_
             refine g_skip F104 rfl (i := 27) (listed' := #[true, true, true, true, true, true, true, true, true, true, true, true, true, true, true, true, true, true, true, true, true, true, true, true, true, true, true, true, false, false, false, false, false, false, false]) rfl (by kernel_rfl) (by kernel_rfl) (by kernel_rfl) (fun _ _ _ h => h) (Sd.of (S17.trans S56) [] rfl) rfl (wanted_g F104 rfl rfl rfl rfl) rfl rfl fun _ F105 => ?_
             refine g_skip F105 rfl (i := 28) (listed' := #[true, true, true, true, true, true, true, true, true, true, true, true, true, true, true, true, true, true, true, true, true, true, true, true, true, true, true, true, true, false, false, false, false, false, false]) rfl (by kernel_rfl) (by kernel_rfl) (by kernel_rfl) (fun _ _ _ h => h) (Sd.of (S17.trans S56) [] rfl) rfl (wanted_g F105 rfl rfl rfl rfl) rfl rfl fun _ F106 => ?_
             refine g_skip F106 rfl (i := 29) (listed' := #[true, true, true, true, true, true, true, true, true, true, true, true, true, true, true, true, true, true, true, true, true, true, true, true, true, true, true, true, true, true, false, false, false, false, false]) rfl (by kernel_rfl) (by kernel_rfl) (by kernel_rfl) (fun _ _ _ h => h) (Sd.of (S17.trans S56) [] rfl) rfl (wanted_g F106 rfl rfl rfl rfl) rfl rfl fun _ F107 => ?_
             refine g_skip F107 rfl (i := 30) (listed' := #[true, true, true, true, true, true, true, true, true, true, true, true, true, true, true, true, true, true, true, true, true, true, true, true, true, true, true, true, true, true, true, false, false, false, false]) rfl (by kernel_rfl) (by kernel_rfl) (by kernel_rfl) (fun _ _ _ h => h) (Sd.of (S17.trans S56) [] rfl) rfl (wanted_g F107 rfl rfl rfl rfl) rfl rfl fun _ F108 => ?_
             refine g_skip F108 rfl (i := 31) (listed' := #[true, true, true, true, true, true, true, true, true, true, true, true, true, true, true, true, true, true, true, true, true, true, true, true, true, true, true, true, true, true, true, true, false, false, false]) rfl (by kernel_rfl) (by kernel_rfl) (by kernel_rfl) (fun _ _ _ h => h) (Sd.of (S17.trans S56) [] rfl) rfl (wanted_g F108 rfl rfl rfl rfl) rfl rfl fun _ F109 => ?_
             refine g_skip F109 rfl (i := 32) (listed' := #[true, true, true, true, true, true, true, true, true, true, true, true, true, true, true, true, true, true, true, true, true, true, true, true, true, true, true, true, true, true, true, true, true, false, false]) rfl (by kernel_rfl) (by kernel_rfl) (by kernel_rfl) (fun _ _ _ h => h) (Sd.of (S17.trans S56) [] rfl) rfl (wanted_g F109 rfl rfl rfl rfl) rfl rfl fun _ F110 => ?_
             refine g_take F110 rfl (i := 33) (listed' := #[true, true, true, true, true, true, true, true, true, true, true, true, true, true, true, true, true, true, true, true, true, true, true, true, true, true, true, true, true, true, true, true, true, true, false]) rfl (by kernel_rfl) (by kernel_rfl) (by kernel_rfl) (fun _ _ _ h => h) (Sd.of (S17.trans S56) [] rfl) rfl (wanted_g F110 rfl rfl rfl rfl) rfl rfl (fun _ hz => (r_pick (b := false) rfl (F110.ev 30 rfl) rfl)) fun _ F111 => ?_
             refine g_take F111 rfl (i := 34) (listed' := #[true, true, true, true, true, true, true, true, true, true, true, true, true, true, true, true, true, true, true, true, true, true, true, true, true, true, true, true, true, true, true, true, true, true, true]) rfl (by kernel_rfl) (by kernel_rfl) (by kernel_rfl) (fun _ _ _ h => h) (Sd.of (S17.trans S56) [] rfl) rfl rfl rfl rfl (fun _ hz => (r_pick (b := false) rfl (F111.ev 27 rfl) (F111.ev 43 rfl))) fun _ F112 => ?_
             refine wpAnyH_done (by kernel_rfl) (x_normal ?_) _
             exact ⟨Fr.cast (F112.cut rfl) (congrArg (fun zZ => ([(0, .slice s_a s_n s_c), (3, .int .i64 ((k : Nat) : Int)), (44, .bool zZ)] : List (Nat × Value))) (show false = (!cellOk s k) from by first | exact ck_1 hx1 ‹_› | exact ck_2 hx1 ‹_› ‹_› | exact ck_3 hx1 ‹_› ‹_› ‹_› | exact ck_4 hx1 ‹_› ‹_› ‹_› hx2)), ((S10.trans (S17.trans S56)).pick [] rfl)⟩
     · rintro a113 w113 ⟨F113, S113⟩
       refine x_normal (x_condb (b := (!cellOk s k)) (F113.ev 44 rfl) (fun h114 => ?_) (fun h114 => ?_))
       · skip
         refine wp_seq (wp_region_lit (l_op (f_val F113 rfl rfl (r_assign rfl rfl) rfl fun _ F115 => ?_)))
         refine s_end (x_normal (wp_ret (x_block_ret (x_then_ret (x_then_ret (x_block_ret (x_then_ret ?_)))))))
         refine x_done (v := .bool false) F115 (results_1 Tryz.results88 (.tmp (F115.ev 2 rfl))) ?_
         exact ⟨(by rw [(show false = (storeOk s) from by exact (storeOk_bad (k := k) (by omega) (nt ‹_›)).symm)]), (Mv.pick (S3.trans S113) [] rfl)⟩
       · skip
         refine wp_skip (x_block_normal (x_normal (wp_region_lit (l_op (f_mv F113 rfl rfl rfl rfl rfl fun _ F116 => ?_)))))
         refine l_op (f_val F116 rfl rfl (r_add (z := ((k + 1 : Nat) : Int)) rfl (F116.ev 8 rfl) rfl (by first | rfl | omega) ⟨by first | omega | (unfold i64ok at *; omega), by first | omega | (unfold i64ok at *; omega)⟩) rfl fun _ F117 => ?_)
         refine l_op (f_as F117 rfl rfl rfl rfl rfl fun _ F118 => ?_)
         refine s_end ?_
         refine x_normal ⟨k + 1, by omega, F118.cut rfl, ((S3.trans S113).pick [] rfl), by omega, all_step hk_1 (nf ‹_›)⟩
   · skip
     refine wp_exit (x_then_exit (x_then_exit (x_block_here (x_normal (wp_seq (wp_region_lit (l_op (f_mv F7 rfl rfl rfl rfl rfl fun _ F119 => ?_))))))))
     refine l_op (f_val F119 rfl rfl (r_len Tryz.underlying28 rfl (F119.ev 45 rfl)) rfl fun _ F120 => ?_)
     refine l_op (f_val F120 rfl rfl (r_cmp (b := decide (s_n ≤ 900)) (.inr (.inr (.inr (.inl rfl)))) rfl (F120.ev 46 rfl) rfl (dec_of (by omega))) rfl fun _ F121 => ?_)
     refine l_op (f_as F121 rfl rfl rfl rfl rfl fun _ F122 => ?_)
     refine s_end (x_normal (wp_ret ?_))
     refine x_done (v := .bool (decide (s_n ≤ 900))) F122 (results_1 Tryz.results88 (.tmp (F122.ev 2 rfl))) ?_
     exact ⟨(by rw [(show (decide (s_n ≤ 900)) = (storeOk s) from by rw [ln_s]; exact (storeOk_all (fun j hj => hk_1 j (by omega))).symm)]), (Mv.pick S3 [] rfl)⟩
end Go.Proofs.YtipdbeklopjbmaaGreatDoor
