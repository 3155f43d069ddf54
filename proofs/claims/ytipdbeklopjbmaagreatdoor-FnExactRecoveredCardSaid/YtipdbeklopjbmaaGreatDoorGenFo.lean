/-
  Walks: disks that are as they should be.
-/
import Derived.Test.YtipdbeklopjbmaaGreatDoorP08
import Derived.Test.YtipdbeklopjbmaaGreatDoorP15
import Derived.Test.YtipdbeklopjbmaaGreatDoorGenP
import Derived.Test.YtipdbeklopjbmaaGreatDoorP16

namespace Go.Proofs.YtipdbeklopjbmaaGreatDoor
open Go.ChangeShapes Go.WideShapes Go.ChangeAt Go.RowKit
set_option maxRecDepth 100000
set_option maxHeartbeats 1000000
theorem impl_StoreOk_c {w : World} {H : Nat → Prop} {s : List CellD} {s_a : Option Addr} {s_n s_c : Nat} (v_s : Rd 2 encC okC H w (.slice s_a s_n s_c) s) :
    Calls Tryz.prog 94 #[.slice s_a s_n s_c] w fun e w' => e = .returned (.bool (storeOk s)) ∧ Mv [] w [] w' := by
 have Q0 : Rd 2 encC okC (V H w []) w (.slice s_a s_n s_c) s := Rd.start v_s (fun _ _ => fps_nil _)
 obtain ⟨ln_s, le_s, mx_s, ni_s⟩ := Rd.inv v_s
 refine calls_enter 42 Tryz.func94 rfl Tryz.ntmps94 (Nat.le_of_ble_eq_true rfl) (fun _ F0i => ?_)
 have F0 : Fr 42 [(0, .slice s_a s_n s_c)] _ := F0i
 clear F0i
 refine wp_seq (wp_region_lit (l_op (f_val F0 rfl rfl (r_assign rfl rfl) rfl fun _ F1 => ?_)))
 refine s_end (x_normal (wp_seq (wp_seq (wp_region_lit (l_op (f_mv F1 rfl rfl rfl rfl rfl fun _ F2 => ?_))))))
 refine l_op (f_val F2 rfl rfl (r_len Tryz.underlying28 rfl (F2.ev 5 rfl)) rfl fun _ F3 => ?_)
 refine l_op (f_val F3 rfl rfl (r_move rfl rfl) rfl fun _ F4 => ?_)
 refine s_end (x_normal (wp_block ?_))
 refine x_loop (fun (k : Nat) aZ wZ => Fr 42 [(7, .int .i64 ((k : Nat) : Int)), (6, .int .i64 ((s_n : Nat) : Int)), (5, .slice s_a s_n s_c), (0, .slice s_a s_n s_c)] aZ ∧ Mv [] w [] wZ ∧ (k ≤ s_n) ∧ (∀ j, j < k → cellOk s j = true)) (fun (k : Nat) => s_n - k) (0) ?_ ?_
 · exact ⟨F4.cut rfl, (Mv.refl (At.nil w)), by omega, all_none⟩
 · rintro k a5 w5 ⟨F5, S5, hk_0, hk_1⟩
   refine wp_seq (wp_region_lit (l_op (f_val F5 rfl rfl (r_cmp (b := decide (k < s_n)) (.inr (.inr (.inl rfl))) rfl (F5.ev 7 rfl) (F5.ev 6 rfl) (dec_of (by omega))) rfl fun _ F6 => ?_)))
   refine s_end (x_normal (wp_seq (x_cond (p := k < s_n) (F6.ev 8 rfl) (fun h7 => ?_) (fun h7 => ?_))))
   · skip
     refine wp_skip (x_normal (wp_seq (wp_block (wp_seq (wp_region_lit (l_op (f_mv F6 rfl rfl rfl rfl rfl fun _ F8 => ?_)))))))
     obtain ⟨B9, O9, x1, ad9, hx1, okx1, ln9, cl9⟩ := Rd.at (Rd.mq Q0 S5) k (by first | assumption | omega)
     clear ln9
     refine l_op (f_val F8 rfl rfl (r_indexAddr (i := k) ET_28 rfl ((F8.ev 5 rfl).trans (by rw [ad9])) (F8.ev 7 rfl) (by omega) (by first | assumption | omega)) rfl fun _ F10 => ?_)
     refine l_op (f_val (v := .agg #[.string x1.key, .string x1.val]) F10 rfl rfl (r_load (cs := [.string x1.key, .string x1.val]) TI_91 rfl (F10.ev 10 rfl) rfl (fun h => nomatch h) (elem_sub (f := 0) cl9 [.string x1.key, .string x1.val] rfl)) rfl fun _ F11 => ?_)
     refine l_op (f_alloc F11 S5.at' ZI_91 rfl rfl rfl rfl rfl fun b12 _ w12 F13 S12 => ?_)
     refine l_op (f_as F13 rfl rfl rfl rfl rfl fun _ F14 => ?_)
     refine l_op (s_store S12.at' 0 TI_91 rfl rfl rfl rfl rfl (F14.ev 4 rfl) (F14.ev 11 rfl) rfl rfl rfl rfl rfl fun w15 S15 => ?_)
     refine s_end (x_normal (wp_seq ?_))
     refine x_draw (fun aZ wZ => Fr 42 [(0, .slice s_a s_n s_c), (5, .slice s_a s_n s_c), (6, .int .i64 ((s_n : Nat) : Int)), (7, .int .i64 ((k : Nat) : Int)), (37, .bool (!cellOk s k))] aZ ∧ Mv [bx b12 [.string x1.key, .string x1.val] 91] w15 [bx b12 [.string x1.key, .string x1.val] 91] wZ) [bx b12 [.string x1.key, .string x1.val] 91] mixed S15.at' (listed := #[false, false, false, false, false, false, false, false, false, false, false, false, false, false, false, false, false, false, false, false, false, false, false, false, false, false]) rfl (fun w17 S17 => ?_) [0] rfl ?_
     · skip
       refine g_take F14 rfl (i := 0) (listed' := #[true, false, false, false, false, false, false, false, false, false, false, false, false, false, false, false, false, false, false, false, false, false, false, false, false, false]) rfl (by kernel_rfl) (by kernel_rfl) (by kernel_rfl) (fun _ _ _ h => h) (Sd.of (Mv.refl S17.at') [0] rfl) rfl rfl rfl rfl (fun _ hz => (r_field FI_91_0 rfl (F14.ev 4 rfl) rfl)) fun _ F18 => ?_
       refine g_take (v := .string x1.key) F18 rfl (i := 1) (listed' := #[true, true, false, false, false, false, false, false, false, false, false, false, false, false, false, false, false, false, false, false, false, false, false, false, false, false]) rfl (by kernel_rfl) (by kernel_rfl) (by kernel_rfl) (fun _ _ _ h => h) (Sd.of (Mv.refl S17.at') [0] rfl) rfl rfl rfl rfl (fun _ hz => (r_loadX (hz.bx 0 rfl) TI_9 rfl (F18.ev 12 rfl) rfl rfl (fun _ => rfl) rfl)) fun _ F19 => ?_
       refine d_one (i := 2) (listed' := #[true, true, true, false, false, false, false, false, false, false, false, false, false, false, false, false, false, false, false, false, false, false, false, false, false, false]) rfl (by kernel_rfl) rfl rfl ?_
       refine f_call F19 CF_97 rfl rfl rfl rfl (lc (F19.ev 13 rfl) rfl) (impl_KeyOk_c (H := fun _ => True) (key := x1.key) okx1.1) ?_
       rintro _ w20 ⟨rfl, m20⟩
       refine ⟨_, rfl, fun _ F21 => ?_⟩
       have S20 := At.frame0 S17.at' m20
       clear m20
       refine ⟨Sd.of S20 [0] rfl, ?_⟩
       refine g_take F21 rfl (i := 3) (listed' := #[true, true, true, true, false, false, false, false, false, false, false, false, false, false, false, false, false, false, false, false, false, false, false, false, false, false]) rfl (by kernel_rfl) (by kernel_rfl) (by kernel_rfl) (fun _ _ _ h => h) (Sd.of S20 [0] rfl) rfl rfl rfl rfl (fun _ hz => (r_not rfl (F21.ev 14 rfl))) fun _ F22 => ?_
       refine g_take F22 rfl (i := 4) (listed' := #[true, true, true, true, true, false, false, false, false, false, false, false, false, false, false, false, false, false, false, false, false, false, false, false, false, false]) rfl (by kernel_rfl) (by kernel_rfl) (by kernel_rfl) (fun _ _ _ h => h) (Sd.of S20 [0] rfl) rfl rfl rfl rfl (fun _ hz => (r_move rfl (F22.ev 15 rfl))) fun _ F23 => ?_
       rcases Bool.eq_false_or_eq_true (!(keyOk x1.key)) with h24 | h24
       · rw [h24] at F23
         refine g_skip F23 rfl (i := 5) (listed' := #[true, true, true, true, true, true, false, false, false, false, false, false, false, false, false, false, false, false, false, false, false, false, false, false, false, false]) rfl (by kernel_rfl) (by kernel_rfl) (by kernel_rfl) (fun _ _ _ h => h) (Sd.of S20 [0] rfl) rfl (wanted_g F23 rfl rfl rfl rfl) rfl rfl fun _ F25 => ?_
         refine g_skip F25 rfl (i := 6) (listed' := #[true, true, true, true, true, true, true, false, false, false, false, false, false, false, false, false, false, false, false, false, false, false, false, false, false, false]) rfl (by kernel_rfl) (by kernel_rfl) (by kernel_rfl) (fun _ _ _ h => h) (Sd.of S20 [0] rfl) rfl (wanted_g F25 rfl rfl rfl rfl) rfl rfl fun _ F26 => ?_
         refine g_skip F26 rfl (i := 7) (listed' := #[true, true, true, true, true, true, true, true, false, false, false, false, false, false, false, false, false, false, false, false, false, false, false, false, false, false]) rfl (by kernel_rfl) (by kernel_rfl) (by kernel_rfl) (fun _ _ _ h => h) (Sd.of S20 [0] rfl) rfl (wanted_g F26 rfl rfl rfl rfl) rfl rfl fun _ F27 => ?_
         refine g_skip F27 rfl (i := 8) (listed' := #[true, true, true, true, true, true, true, true, true, false, false, false, false, false, false, false, false, false, false, false, false, false, false, false, false, false]) rfl (by kernel_rfl) (by kernel_rfl) (by kernel_rfl) (fun _ _ _ h => h) (Sd.of S20 [0] rfl) rfl (wanted_g F27 rfl rfl rfl rfl) rfl rfl fun _ F28 => ?_
         refine g_skip F28 rfl (i := 9) (listed' := #[true, true, true, true, true, true, true, true, true, true, false, false, false, false, false, false, false, false, false, false, false, false, false, false, false, false]) rfl (by kernel_rfl) (by kernel_rfl) (by kernel_rfl) (fun _ _ _ h => h) (Sd.of S20 [0] rfl) rfl (wanted_g F28 rfl rfl rfl rfl) rfl rfl fun _ F29 => ?_
         refine g_take F29 rfl (i := 10) (listed' := #[true, true, true, true, true, true, true, true, true, true, true, false, false, false, false, false, false, false, false, false, false, false, false, false, false, false]) rfl (by kernel_rfl) (by kernel_rfl) (by kernel_rfl) (fun _ _ _ h => h) (Sd.of S20 [0] rfl) rfl rfl rfl rfl (fun _ hz => (r_pick (b := true) rfl (F29.ev 16 rfl) rfl)) fun _ F30 => ?_
         refine g_take F30 rfl (i := 11) (listed' := #[true, true, true, true, true, true, true, true, true, true, true, true, false, false, false, false, false, false, false, false, false, false, false, false, false, false]) rfl (by kernel_rfl) (by kernel_rfl) (by kernel_rfl) (fun _ _ _ h => h) (Sd.of S20 [0] rfl) rfl rfl rfl rfl (fun _ hz => (r_move rfl (F30.ev 22 rfl))) fun _ F31 => ?_
         refine g_skip F31 rfl (i := 12) (listed' := #[true, true, true, true, true, true, true, true, true, true, true, true, true, false, false, false, false, false, false, false, false, false, false, false, false, false]) rfl (by kernel_rfl) (by kernel_rfl) (by kernel_rfl) (fun _ _ _ h => h) (Sd.of S20 [0] rfl) rfl (wanted_g F31 rfl rfl rfl rfl) rfl rfl fun _ F32 => ?_
         refine g_skip F32 rfl (i := 13) (listed' := #[true, true, true, true, true, true, true, true, true, true, true, true, true, true, false, false, false, false, false, false, false, false, false, false, false, false]) rfl (by kernel_rfl) (by kernel_rfl) (by kernel_rfl) (fun _ _ _ h => h) (Sd.of S20 [0] rfl) rfl (wanted_g F32 rfl rfl rfl rfl) rfl rfl fun _ F33 => ?_
         refine g_skip F33 rfl (i := 14) (listed' := #[true, true, true, true, true, true, true, true, true, true, true, true, true, true, true, false, false, false, false, false, false, false, false, false, false, false]) rfl (by kernel_rfl) (by kernel_rfl) (by kernel_rfl) (fun _ _ _ h => h) (Sd.of S20 [0] rfl) rfl (wanted_g F33 rfl rfl rfl rfl) rfl rfl fun _ F34 => ?_
         refine g_skip F34 rfl (i := 15) (listed' := #[true, true, true, true, true, true, true, true, true, true, true, true, true, true, true, true, false, false, false, false, false, false, false, false, false, false]) rfl (by kernel_rfl) (by kernel_rfl) (by kernel_rfl) (fun _ _ _ h => h) (Sd.of S20 [0] rfl) rfl (wanted_u F34 rfl rfl rfl) rfl rfl fun _ F35 => ?_
         refine g_skip F35 rfl (i := 16) (listed' := #[true, true, true, true, true, true, true, true, true, true, true, true, true, true, true, true, true, false, false, false, false, false, false, false, false, false]) rfl (by kernel_rfl) (by kernel_rfl) (by kernel_rfl) (fun _ _ _ h => h) (Sd.of S20 [0] rfl) rfl (wanted_u F35 rfl rfl rfl) rfl rfl fun _ F36 => ?_
         refine g_skip F36 rfl (i := 17) (listed' := #[true, true, true, true, true, true, true, true, true, true, true, true, true, true, true, true, true, true, false, false, false, false, false, false, false, false]) rfl (by kernel_rfl) (by kernel_rfl) (by kernel_rfl) (fun _ _ _ h => h) (Sd.of S20 [0] rfl) rfl (wanted_u F36 rfl rfl rfl) rfl rfl fun _ F37 => ?_
         refine g_skip F37 rfl (i := 18) (listed' := #[true, true, true, true, true, true, true, true, true, true, true, true, true, true, true, true, true, true, true, false, false, false, false, false, false, false]) rfl (by kernel_rfl) (by kernel_rfl) (by kernel_rfl) (fun _ _ _ h => h) (Sd.of S20 [0] rfl) rfl (wanted_u F37 rfl rfl rfl) rfl rfl fun _ F38 => ?_
         refine g_skip F38 rfl (i := 19) (listed' := #[true, true, true, true, true, true, true, true, true, true, true, true, true, true, true, true, true, true, true, true, false, false, false, false, false, false]) rfl (by kernel_rfl) (by kernel_rfl) (by kernel_rfl) (fun _ _ _ h => h) (Sd.of S20 [0] rfl) rfl (wanted_u F38 rfl rfl rfl) rfl rfl fun _ F39 => ?_
         refine g_skip F39 rfl (i := 20) (listed' := #[true, true, true, true, true, true, true, true, true, true, true, true, true, true, true, true, true, true, true, true, true, false, false, false, false, false]) rfl (by kernel_rfl) (by kernel_rfl) (by kernel_rfl) (fun _ _ _ h => h) (Sd.of S20 [0] rfl) rfl (wanted_u F39 rfl rfl rfl) rfl rfl fun _ F40 => ?_
         refine g_skip F40 rfl (i := 21) (listed' := #[true, true, true, true, true, true, true, true, true, true, true, true, true, true, true, true, true, true, true, true, true, true, false, false, false, false]) rfl (by kernel_rfl) (by kernel_rfl) (by kernel_rfl) (fun _ _ _ h => h) (Sd.of S20 [0] rfl) rfl (wanted_u F40 rfl rfl rfl) rfl rfl fun _ F41 => ?_
         refine g_skip F41 rfl (i := 22) (listed' := #[true, true, true, true, true, true, true, true, true, true, true, true, true, true, true, true, true, true, true, true, true, true, true, false, false, false]) rfl (by kernel_rfl) (by kernel_rfl) (by kernel_rfl) (fun _ _ _ h => h) (Sd.of S20 [0] rfl) rfl (wanted_u F41 rfl rfl rfl) rfl rfl fun _ F42 => ?_
         refine g_skip F42 rfl (i := 23) (listed' := #[true, true, true, true, true, true, true, true, true, true, true, true, true, true, true, true, true, true, true, true, true, true, true, true, false, false]) rfl (by kernel_rfl) (by kernel_rfl) (by kernel_rfl) (fun _ _ _ h => h) (Sd.of S20 [0] rfl) rfl (wanted_u F42 rfl rfl rfl) rfl rfl fun _ F43 => ?_
         refine g_skip F43 rfl (i := 24) (listed' := #[true, true, true, true, true, true, true, true, true, true, true, true, true, true, true, true, true, true, true, true, true, true, true, true, true, false]) rfl (by kernel_rfl) (by kernel_rfl) (by kernel_rfl) (fun _ _ _ h => h) (Sd.of S20 [0] rfl) rfl (wanted_g F43 rfl rfl rfl rfl) rfl rfl fun _ F44 => ?_
         refine g_take F44 rfl (i := 25) (listed' := #[true, true, true, true, true, true, true, true, true, true, true, true, true, true, true, true, true, true, true, true, true, true, true, true, true, true]) rfl (by kernel_rfl) (by kernel_rfl) (by kernel_rfl) (fun _ _ _ h => h) (Sd.of S20 [0] rfl) rfl rfl rfl rfl (fun _ hz => (r_pick (b := true) rfl (F44.ev 23 rfl) rfl)) fun _ F45 => ?_
         refine wpAnyH_done (by kernel_rfl) (x_normal ?_) _
         exact ⟨Fr.cast (F45.cut rfl) (congrArg (fun zZ => ([(0, .slice s_a s_n s_c), (5, .slice s_a s_n s_c), (6, .int .i64 ((s_n : Nat) : Int)), (7, .int .i64 ((k : Nat) : Int)), (37, .bool zZ)] : List (Nat × Value))) (show true = (!cellOk s k) from by first | exact ck_1 hx1 ‹_› | exact ck_2 hx1 ‹_› ‹_› | exact ck_3 hx1 ‹_› ‹_› ‹_› | exact ck_5 hx1 ‹_› ‹_› ‹_› hx2)), ((S17.trans S20).pick [0] rfl)⟩
       · rw [h24] at F23
         refine g_take F23 rfl (i := 5) (listed' := #[true, true, true, true, true, true, false, false, false, false, false, false, false, false, false, false, false, false, false, false, false, false, false, false, false, false]) rfl (by kernel_rfl) (by kernel_rfl) (by kernel_rfl) (fun _ _ _ h => h) (Sd.of S20 [0] rfl) rfl (wanted_g F23 rfl rfl rfl rfl) rfl rfl (fun _ hz => (r_field FI_91_1 rfl (F23.ev 4 rfl) rfl)) fun _ F46 => ?_
         refine g_take (v := .string x1.val) F46 rfl (i := 6) (listed' := #[true, true, true, true, true, true, true, false, false, false, false, false, false, false, false, false, false, false, false, false, false, false, false, false, false, false]) rfl (by kernel_rfl) (by kernel_rfl) (by kernel_rfl) (fun _ _ _ h => h) (Sd.of S20 [0] rfl) rfl (wanted_g F46 rfl rfl rfl rfl) rfl rfl (fun _ hz => (r_loadX (hz.bx 0 rfl) TI_9 rfl (F46.ev 17 rfl) rfl rfl (fun _ => rfl) rfl)) fun _ F47 => ?_
         refine g_take F47 rfl (i := 7) (listed' := #[true, true, true, true, true, true, true, true, false, false, false, false, false, false, false, false, false, false, false, false, false, false, false, false, false, false]) rfl (by kernel_rfl) (by kernel_rfl) (by kernel_rfl) (fun _ _ _ h => h) (Sd.of S20 [0] rfl) rfl (wanted_g F47 rfl rfl rfl rfl) rfl rfl (fun _ hz => (r_lenS (fun t ht => by cases ht; exact Tryz.underlying9) rfl rfl (F47.ev 18 rfl))) fun _ F48 => ?_
         refine d_one (i := 8) (listed' := #[true, true, true, true, true, true, true, true, true, false, false, false, false, false, false, false, false, false, false, false, false, false, false, false, false, false]) rfl (by kernel_rfl) rfl rfl ?_
         refine f_call F48 CF_93 (wanted_g F48 rfl rfl rfl rfl) rfl rfl rfl (lc (F48.ev 19 rfl) (lc rfl (lc rfl rfl))) (impl_within_c (H := fun _ => True) (n := ((x1.val.size : Nat) : Int)) (low := 1) (high := 60) (by first | exact ⟨by omega, by omega⟩ | (have hz := okx1.2; unfold okS at hz; exact ⟨by omega, by omega⟩)) (by first | exact ⟨by omega, by omega⟩ | (have hz := okx1.2; unfold okS at hz; exact ⟨by omega, by omega⟩)) (by first | exact ⟨by omega, by omega⟩ | (have hz := okx1.2; unfold okS at hz; exact ⟨by omega, by omega⟩))) ?_
         rintro _ w49 ⟨rfl, m49⟩
         refine ⟨_, rfl, fun _ F50 => ?_⟩
         have S49 := At.frame0 S20.at' m49
         clear m49
         refine ⟨Sd.of (S20.trans S49) [0] rfl, ?_⟩
         refine g_take F50 rfl (i := 9) (listed' := #[true, true, true, true, true, true, true, true, true, true, false, false, false, false, false, false, false, false, false, false, false, false, false, false, false, false]) rfl (by kernel_rfl) (by kernel_rfl) (by kernel_rfl) (fun _ _ _ h => h) (Sd.of (S20.trans S49) [0] rfl) rfl (wanted_g F50 rfl rfl rfl rfl) rfl rfl (fun _ hz => (r_not rfl (F50.ev 20 rfl))) fun _ F51 => ?_
         refine g_take F51 rfl (i := 10) (listed' := #[true, true, true, true, true, true, true, true, true, true, true, false, false, false, false, false, false, false, false, false, false, false, false, false, false, false]) rfl (by kernel_rfl) (by kernel_rfl) (by kernel_rfl) (fun _ _ _ h => h) (Sd.of (S20.trans S49) [0] rfl) rfl rfl rfl rfl (fun _ hz => (r_pick (b := false) rfl (F51.ev 16 rfl) (F51.ev 21 rfl))) fun _ F52 => ?_
         refine g_take F52 rfl (i := 11) (listed' := #[true, true, true, true, true, true, true, true, true, true, true, true, false, false, false, false, false, false, false, false, false, false, false, false, false, false]) rfl (by kernel_rfl) (by kernel_rfl) (by kernel_rfl) (fun _ _ _ h => h) (Sd.of (S20.trans S49) [0] rfl) rfl rfl rfl rfl (fun _ hz => (r_move rfl (F52.ev 22 rfl))) fun _ F53 => ?_
         rcases Bool.eq_false_or_eq_true (!(inB ((x1.val.size : Nat) : Int) 1 60)) with h54 | h54
         · rw [h54] at F53
           refine g_skip F53 rfl (i := 12) (listed' := #[true, true, true, true, true, true, true, true, true, true, true, true, true, false, false, false, false, false, false, false, false, false, false, false, false, false]) rfl (by kernel_rfl) (by kernel_rfl) (by kernel_rfl) (fun _ _ _ h => h) (Sd.of (S20.trans S49) [0] rfl) rfl (wanted_g F53 rfl rfl rfl rfl) rfl rfl fun _ F55 => ?_
           refine g_skip F55 rfl (i := 13) (listed' := #[true, true, true, true, true, true, true, true, true, true, true, true, true, true, false, false, false, false, false, false, false, false, false, false, false, false]) rfl (by kernel_rfl) (by kernel_rfl) (by kernel_rfl) (fun _ _ _ h => h) (Sd.of (S20.trans S49) [0] rfl) rfl (wanted_g F55 rfl rfl rfl rfl) rfl rfl fun _ F56 => ?_
           refine g_skip F56 rfl (i := 14) (listed' := #[true, true, true, true, true, true, true, true, true, true, true, true, true, true, true, false, false, false, false, false, false, false, false, false, false, false]) rfl (by kernel_rfl) (by kernel_rfl) (by kernel_rfl) (fun _ _ _ h => h) (Sd.of (S20.trans S49) [0] rfl) rfl (wanted_g F56 rfl rfl rfl rfl) rfl rfl fun _ F57 => ?_
           refine g_skip F57 rfl (i := 15) (listed' := #[true, true, true, true, true, true, true, true, true, true, true, true, true, true, true, true, false, false, false, false, false, false, false, false, false, false]) rfl (by kernel_rfl) (by kernel_rfl) (by kernel_rfl) (fun _ _ _ h => h) (Sd.of (S20.trans S49) [0] rfl) rfl (wanted_u F57 rfl rfl rfl) rfl rfl fun _ F58 => ?_
           refine g_skip F58 rfl (i := 16) (listed' := #[true, true, true, true, true, true, true, true, true, true, true, true, true, true, true, true, true, false, false, false, false, false, false, false, false, false]) rfl (by kernel_rfl) (by kernel_rfl) (by kernel_rfl) (fun _ _ _ h => h) (Sd.of (S20.trans S49) [0] rfl) rfl (wanted_u F58 rfl rfl rfl) rfl rfl fun _ F59 => ?_
           refine g_skip F59 rfl (i := 17) (listed' := #[true, true, true, true, true, true, true, true, true, true, true, true, true, true, true, true, true, true, false, false, false, false, false, false, false, false]) rfl (by kernel_rfl) (by kernel_rfl) (by kernel_rfl) (fun _ _ _ h => h) (Sd.of (S20.trans S49) [0] rfl) rfl (wanted_u F59 rfl rfl rfl) rfl rfl fun _ F60 => ?_
           refine g_skip F60 rfl (i := 18) (listed' := #[true, true, true, true, true, true, true, true, true, true, true, true, true, true, true, true, true, true, true, false, false, false, false, false, false, false]) rfl (by kernel_rfl) (by kernel_rfl) (by kernel_rfl) (fun _ _ _ h => h) (Sd.of (S20.trans S49) [0] rfl) rfl (wanted_u F60 rfl rfl rfl) rfl rfl fun _ F61 => ?_
           refine g_skip F61 rfl (i := 19) (listed' := #[true, true, true, true, true, true, true, true, true, true, true, true, true, true, true, true, true, true, true, true, false, false, false, false, false, false]) rfl (by kernel_rfl) (by kernel_rfl) (by kernel_rfl) (fun _ _ _ h => h) (Sd.of (S20.trans S49) [0] rfl) rfl (wanted_u F61 rfl rfl rfl) rfl rfl fun _ F62 => ?_
           refine g_skip F62 rfl (i := 20) (listed' := #[true, true, true, true, true, true, true, true, true, true, true, true, true, true, true, true, true, true, true, true, true, false, false, false, false, false]) rfl (by kernel_rfl) (by kernel_rfl) (by kernel_rfl) (fun _ _ _ h => h) (Sd.of (S20.trans S49) [0] rfl) rfl (wanted_u F62 rfl rfl rfl) rfl rfl fun _ F63 => ?_
           refine g_skip F63 rfl (i := 21) (listed' := #[true, true, true, true, true, true, true, true, true, true, true, true, true, true, true, true, true, true, true, true, true, true, false, false, false, false]) rfl (by kernel_rfl) (by kernel_rfl) (by kernel_rfl) (fun _ _ _ h => h) (Sd.of (S20.trans S49) [0] rfl) rfl (wanted_u F63 rfl rfl rfl) rfl rfl fun _ F64 => ?_
           refine g_skip F64 rfl (i := 22) (listed' := #[true, true, true, true, true, true, true, true, true, true, true, true, true, true, true, true, true, true, true, true, true, true, true, false, false, false]) rfl (by kernel_rfl) (by kernel_rfl) (by kernel_rfl) (fun _ _ _ h => h) (Sd.of (S20.trans S49) [0] rfl) rfl (wanted_u F64 rfl rfl rfl) rfl rfl fun _ F65 => ?_
           refine g_skip F65 rfl (i := 23) (listed' := #[true, true, true, true, true, true, true, true, true, true, true, true, true, true, true, true, true, true, true, true, true, true, true, true, false, false]) rfl (by kernel_rfl) (by kernel_rfl) (by kernel_rfl) (fun _ _ _ h => h) (Sd.of (S20.trans S49) [0] rfl) rfl (wanted_u F65 rfl rfl rfl) rfl rfl fun _ F66 => ?_
           refine g_skip F66 rfl (i := 24) (listed' := #[true, true, true, true, true, true, true, true, true, true, true, true, true, true, true, true, true, true, true, true, true, true, true, true, true, false]) rfl (by kernel_rfl) (by kernel_rfl) (by kernel_rfl) (fun _ _ _ h => h) (Sd.of (S20.trans S49) [0] rfl) rfl (wanted_g F66 rfl rfl rfl rfl) rfl rfl fun _ F67 => ?_
           refine g_take F67 rfl (i := 25) (listed' := #[true, true, true, true, true, true, true, true, true, true, true, true, true, true, true, true, true, true, true, true, true, true, true, true, true, true]) rfl (by kernel_rfl) (by kernel_rfl) (by kernel_rfl) (fun _ _ _ h => h) (Sd.of (S20.trans S49) [0] rfl) rfl rfl rfl rfl (fun _ hz => (r_pick (b := true) rfl (F67.ev 23 rfl) rfl)) fun _ F68 => ?_
           refine wpAnyH_done (by kernel_rfl) (x_normal ?_) _
           exact ⟨Fr.cast (F68.cut rfl) (congrArg (fun zZ => ([(0, .slice s_a s_n s_c), (5, .slice s_a s_n s_c), (6, .int .i64 ((s_n : Nat) : Int)), (7, .int .i64 ((k : Nat) : Int)), (37, .bool zZ)] : List (Nat × Value))) (show true = (!cellOk s k) from by first | exact ck_1 hx1 ‹_› | exact ck_2 hx1 ‹_› ‹_› | exact ck_3 hx1 ‹_› ‹_› ‹_› | exact ck_5 hx1 ‹_› ‹_› ‹_› hx2)), ((S17.trans (S20.trans S49)).pick [0] rfl)⟩
         · rw [h54] at F53
           refine g_take F53 rfl (i := 12) (listed' := #[true, true, true, true, true, true, true, true, true, true, true, true, true, false, false, false, false, false, false, false, false, false, false, false, false, false]) rfl (by kernel_rfl) (by kernel_rfl) (by kernel_rfl) (fun _ _ _ h => h) (Sd.of (S20.trans S49) [0] rfl) rfl (wanted_g F53 rfl rfl rfl rfl) rfl rfl (fun _ hz => (r_move rfl (F53.ev 3 rfl))) fun _ F69 => ?_
           refine g_take F69 rfl (i := 13) (listed' := #[true, true, true, true, true, true, true, true, true, true, true, true, true, true, false, false, false, false, false, false, false, false, false, false, false, false]) rfl (by kernel_rfl) (by kernel_rfl) (by kernel_rfl) (fun _ _ _ h => h) (Sd.of (S20.trans S49) [0] rfl) rfl (wanted_g F69 rfl rfl rfl rfl) rfl rfl (fun _ hz => (r_cmp (b := decide (k > 0)) (.inr (.inr (.inr (.inr (.inl rfl))))) rfl (F69.ev 24 rfl) rfl (dec_of (by omega)))) fun _ F70 => ?_
           refine g_take F70 rfl (i := 14) (listed' := #[true, true, true, true, true, true, true, true, true, true, true, true, true, true, true, false, false, false, false, false, false, false, false, false, false, false]) rfl (by kernel_rfl) (by kernel_rfl) (by kernel_rfl) (fun _ _ _ h => h) (Sd.of (S20.trans S49) [0] rfl) rfl (wanted_g F70 rfl rfl rfl rfl) rfl rfl (fun _ hz => (r_move rfl (F70.ev 25 rfl))) fun _ F71 => ?_
           rcases Decidable.em (k > 0) with h72 | h72
           · rw [decide_eq_true h72] at F71
             refine g_take F71 rfl (i := 15) (listed' := #[true, true, true, true, true, true, true, true, true, true, true, true, true, true, true, true, false, false, false, false, false, false, false, false, false, false]) rfl (by kernel_rfl) (by kernel_rfl) (by kernel_rfl) (fun _ _ _ h => h) (Sd.of (S20.trans S49) [0] rfl) rfl (wanted_g F71 rfl rfl rfl rfl) rfl rfl (fun _ hz => (r_field FI_91_0 rfl (F71.ev 4 rfl) rfl)) fun _ F73 => ?_
             refine g_take (v := .string x1.key) F73 rfl (i := 16) (listed' := #[true, true, true, true, true, true, true, true, true, true, true, true, true, true, true, true, true, false, false, false, false, false, false, false, false, false]) rfl (by kernel_rfl) (by kernel_rfl) (by kernel_rfl) (fun _ _ _ h => h) (Sd.of (S20.trans S49) [0] rfl) rfl (wanted_g F73 rfl rfl rfl rfl) rfl rfl (fun _ hz => (r_loadX (hz.bx 0 rfl) TI_9 rfl (F73.ev 27 rfl) rfl rfl (fun _ => rfl) rfl)) fun _ F74 => ?_
             refine g_take F74 rfl (i := 17) (listed' := #[true, true, true, true, true, true, true, true, true, true, true, true, true, true, true, true, true, true, false, false, false, false, false, false, false, false]) rfl (by kernel_rfl) (by kernel_rfl) (by kernel_rfl) (fun _ _ _ h => h) (Sd.of (S20.trans S49) [0] rfl) rfl (wanted_g F74 rfl rfl rfl rfl) rfl rfl (fun _ hz => (r_move rfl (F74.ev 0 rfl))) fun _ F75 => ?_
             refine g_take F75 rfl (i := 18) (listed' := #[true, true, true, true, true, true, true, true, true, true, true, true, true, true, true, true, true, true, true, false, false, false, false, false, false, false]) rfl (by kernel_rfl) (by kernel_rfl) (by kernel_rfl) (fun _ _ _ h => h) (Sd.of (S20.trans S49) [0] rfl) rfl (wanted_g F75 rfl rfl rfl rfl) rfl rfl (fun _ hz => (r_move rfl (F75.ev 3 rfl))) fun _ F76 => ?_
             refine g_take F76 rfl (i := 19) (listed' := #[true, true, true, true, true, true, true, true, true, true, true, true, true, true, true, true, true, true, true, true, false, false, false, false, false, false]) rfl (by kernel_rfl) (by kernel_rfl) (by kernel_rfl) (fun _ _ _ h => h) (Sd.of (S20.trans S49) [0] rfl) rfl (wanted_g F76 rfl rfl rfl rfl) rfl rfl (fun _ hz => (r_sub (z := ((k - 1 : Nat) : Int)) rfl (F76.ev 30 rfl) rfl (by first | rfl | omega) ⟨by first | omega | (unfold i64ok at *; omega), by first | omega | (unfold i64ok at *; omega)⟩)) fun _ F77 => ?_
             obtain ⟨B78, O78, x2, ad78, hx2, okx2, ln78, cl78⟩ := Rd.atK (Nat.succ_pos _) (Rd.mq Q0 (S5.trans (S12.trans (S15.trans S17)))) (k - 1) (by first | assumption | omega)
             clear ln78
             refine g_take F77 rfl (i := 20) (listed' := #[true, true, true, true, true, true, true, true, true, true, true, true, true, true, true, true, true, true, true, true, true, false, false, false, false, false]) rfl (by kernel_rfl) (by kernel_rfl) (by kernel_rfl) (fun _ _ _ h => h) (Sd.of (S20.trans S49) [0] rfl) rfl (wanted_g F77 rfl rfl rfl rfl) rfl rfl (fun _ hz => (r_indexAddr (i := k - 1) ET_28 rfl ((F77.ev 29 rfl).trans (by rw [ad78])) (F77.ev 31 rfl) (by omega) (by first | assumption | omega))) fun _ F79 => ?_
             refine g_take F79 rfl (i := 21) (listed' := #[true, true, true, true, true, true, true, true, true, true, true, true, true, true, true, true, true, true, true, true, true, true, false, false, false, false]) rfl (by kernel_rfl) (by kernel_rfl) (by kernel_rfl) (fun _ _ _ h => h) (Sd.of (S20.trans S49) [0] rfl) rfl (wanted_g F79 rfl rfl rfl rfl) rfl rfl (fun _ hz => (r_field FI_91_0 rfl (F79.ev 32 rfl) rfl)) fun _ F80 => ?_
             refine g_take (v := .string x2.key) F80 rfl (i := 22) (listed' := #[true, true, true, true, true, true, true, true, true, true, true, true, true, true, true, true, true, true, true, true, true, true, true, false, false, false]) rfl (by kernel_rfl) (by kernel_rfl) (by kernel_rfl) (fun _ _ _ h => h) (Sd.of (S20.trans S49) [0] rfl) rfl (wanted_g F80 rfl rfl rfl rfl) rfl rfl (fun _ hz => (r_load (cs := [.string x2.key]) TI_9 rfl (F80.ev 33 rfl) rfl (fun _ => rfl) (elem_sub (f := 0) (cl78 _ hz.kp) [.string x2.key] rfl))) fun _ F81 => ?_
             refine g_take F81 rfl (i := 23) (listed' := #[true, true, true, true, true, true, true, true, true, true, true, true, true, true, true, true, true, true, true, true, true, true, true, true, false, false]) rfl (by kernel_rfl) (by kernel_rfl) (by kernel_rfl) (fun _ _ _ h => h) (Sd.of (S20.trans S49) [0] rfl) rfl (wanted_g F81 rfl rfl rfl rfl) rfl rfl (fun _ hz => (r_cmps (b := (leS x1.key x2.key)) (.inr (.inr (.inr (.inl rfl)))) rfl (F81.ev 28 rfl) (F81.ev 34 rfl) rfl)) fun _ F82 => ?_
             refine g_take F82 rfl (i := 24) (listed' := #[true, true, true, true, true, true, true, true, true, true, true, true, true, true, true, true, true, true, true, true, true, true, true, true, true, false]) rfl (by kernel_rfl) (by kernel_rfl) (by kernel_rfl) (fun _ _ _ h => h) (Sd.of (S20.trans S49) [0] rfl) rfl (wanted_g F82 rfl rfl rfl rfl) rfl rfl (fun _ hz => (r_pick (b := true) rfl (F82.ev 26 rfl) (F82.ev 35 rfl))) fun _ F83 => ?_
             refine g_take F83 rfl (i := 25) (listed' := #[true, true, true, true, true, true, true, true, true, true, true, true, true, true, true, true, true, true, true, true, true, true, true, true, true, true]) rfl (by kernel_rfl) (by kernel_rfl) (by kernel_rfl) (fun _ _ _ h => h) (Sd.of (S20.trans S49) [0] rfl) rfl rfl rfl rfl (fun _ hz => (r_pick (b := false) rfl (F83.ev 23 rfl) (F83.ev 36 rfl))) fun _ F84 => ?_
             refine wpAnyH_done (by kernel_rfl) (x_normal ?_) _
             exact ⟨Fr.cast (F84.cut rfl) (congrArg (fun zZ => ([(0, .slice s_a s_n s_c), (5, .slice s_a s_n s_c), (6, .int .i64 ((s_n : Nat) : Int)), (7, .int .i64 ((k : Nat) : Int)), (37, .bool zZ)] : List (Nat × Value))) (show (leS x1.key x2.key) = (!cellOk s k) from by first | exact ck_1 hx1 ‹_› | exact ck_2 hx1 ‹_› ‹_› | exact ck_3 hx1 ‹_› ‹_› ‹_› | exact ck_5 hx1 ‹_› ‹_› ‹_› hx2)), ((S17.trans (S20.trans S49)).pick [0] rfl)⟩
           · rw [decide_eq_false h72] at F71
             refine g_skip F71 rfl (i := 15) (listed' := #[true, true, true, true, true, true, true, true, true, true, true, true, true, true, true, true, false, false, false, false, false, false, false, false, false, false]) rfl (by kernel_rfl) (by kernel_rfl) (by kernel_rfl) (fun _ _ _ h => h) (Sd.of (S20.trans S49) [0] rfl) rfl (wanted_g F71 rfl rfl rfl rfl) rfl rfl fun _ F85 => ?_
             refine g_skip F85 rfl (i := 16) (listed' := #[true, true, true, true, true, true, true, true, true, true, true, true, true, true, true, true, true, false, false, false, false, false, false, false, false, false]) rfl (by kernel_rfl) (by kernel_rfl) (by kernel_rfl) (fun _ _ _ h => h) (Sd.of (S20.trans S49) [0] rfl) rfl (wanted_g F85 rfl rfl rfl rfl) rfl rfl fun _ F86 => ?_
             refine g_skip F86 rfl (i := 17) (listed' := #[true, true, true, true, true, true, true, true, true, true, true, true, true, true, true, true, true, true, false, false, false, false, false, false, false, false]) rfl (by kernel_rfl) (by kernel_rfl) (by kernel_rfl) (fun _ _ _ h => h) (Sd.of (S20.trans S49) [0] rfl) rfl (wanted_g F86 rfl rfl rfl rfl) rfl rfl fun _ F87 => ?_
             refine g_skip F87 rfl (i := 18) (listed' := #[true, true, true, true, true, true, true, true, true, true, true, true, true, true, true, true, true, true, true, false, false, false, false, false, false, false]) rfl (by kernel_rfl) (by kernel_rfl) (by kernel_rfl) (fun _ _ _ h => h) (Sd.of (S20.trans S49) [0] rfl) rfl (wanted_g F87 rfl rfl rfl rfl) rfl rfl fun _ F88 => ?_
             refine g_skip F88 rfl (i := 19) (listed' := #[true, true, true, true, true, true, true, true, true, true, true, true, true, true, true, true, true, true, true, true, false, false, false, false, false, false]) rfl (by kernel_rfl) (by kernel_rfl) (by kernel_rfl) (fun _ _ _ h => h) (Sd.of (S20.trans S49) [0] rfl) rfl (wanted_g F88 rfl rfl rfl rfl) rfl rfl fun _ F89 => ?_
             refine g_skip F89 rfl (i := 20) (listed' := #[true, true, true, true, true, true, true, true, true, true, true, true, true, true, true, true, true, true, true, true, true, false, false, false, false, false]) rfl (by kernel_rfl) (by kernel_rfl) (by kernel_rfl) (fun _ _ _ h => h) (Sd.of (S20.trans S49) [0] rfl) rfl (wanted_g F89 rfl rfl rfl rfl) rfl rfl fun _ F90 => ?_
             refine g_skip F90 rfl (i := 21) (listed' := #[true, true, true, true, true, true, true, true, true, true, true, true, true, true, true, true, true, true, true, true, true, true, false, false, false, false]) rfl (by kernel_rfl) (by kernel_rfl) (by kernel_rfl) (fun _ _ _ h => h) (Sd.of (S20.trans S49) [0] rfl) rfl (wanted_g F90 rfl rfl rfl rfl) rfl rfl fun _ F91 => ?_
             refine g_skip F91 rfl (i := 22) (listed' := #[true, true, true, true, true, true, true, true, true, true, true, true, true, true, true, true, true, true, true, true, true, true, true, false, false, false]) rfl (by kernel_rfl) (by kernel_rfl) (by kernel_rfl) (fun _ _ _ h => h) (Sd.of (S20.trans S49) [0] rfl) rfl (wanted_g F91 rfl rfl rfl rfl) rfl rfl fun _ F92 => ?_
             refine g_skip F92 rfl (i := 23) (listed' := #[true, true, true, true, true, true, true, true, true, true, true, true, true, true, true, true, true, true, true, true, true, true, true, true, false, false]) rfl (by kernel_rfl) (by kernel_rfl) (by kernel_rfl) (fun _ _ _ h => h) (Sd.of (S20.trans S49) [0] rfl) rfl (wanted_g F92 rfl rfl rfl rfl) rfl rfl fun _ F93 => ?_
             refine g_take F93 rfl (i := 24) (listed' := #[true, true, true, true, true, true, true, true, true, true, true, true, true, true, true, true, true, true, true, true, true, true, true, true, true, false]) rfl (by kernel_rfl) (by kernel_rfl) (by kernel_rfl) (fun _ _ _ h => h) (Sd.of (S20.trans S49) [0] rfl) rfl (wanted_g F93 rfl rfl rfl rfl) rfl rfl (fun _ hz => (r_pick (b := false) rfl (F93.ev 26 rfl) rfl)) fun _ F94 => ?_
             refine g_take F94 rfl (i := 25) (listed' := #[true, true, true, true, true, true, true, true, true, true, true, true, true, true, true, true, true, true, true, true, true, true, true, true, true, true]) rfl (by kernel_rfl) (by kernel_rfl) (by kernel_rfl) (fun _ _ _ h => h) (Sd.of (S20.trans S49) [0] rfl) rfl rfl rfl rfl (fun _ hz => (r_pick (b := false) rfl (F94.ev 23 rfl) (F94.ev 36 rfl))) fun _ F95 => ?_
             refine wpAnyH_done (by kernel_rfl) (x_normal ?_) _
             exact ⟨Fr.cast (F95.cut rfl) (congrArg (fun zZ => ([(0, .slice s_a s_n s_c), (5, .slice s_a s_n s_c), (6, .int .i64 ((s_n : Nat) : Int)), (7, .int .i64 ((k : Nat) : Int)), (37, .bool zZ)] : List (Nat × Value))) (show false = (!cellOk s k) from by first | exact ck_1 hx1 ‹_› | exact ck_2 hx1 ‹_› ‹_› | exact ck_3 hx1 ‹_› ‹_› ‹_› | exact ck_5 hx1 ‹_› ‹_› ‹_› hx2)), ((S17.trans (S20.trans S49)).pick [0] rfl)⟩
     · rintro a96 w96 ⟨F96, S96⟩
       refine x_normal (x_condb (b := (!cellOk s k)) (F96.ev 37 rfl) (fun h97 => ?_) (fun h97 => ?_))
       · skip
         refine wp_seq (wp_region_lit (l_op (f_val F96 rfl rfl (r_assign rfl rfl) rfl fun _ F98 => ?_)))
         refine s_end (x_normal (wp_ret (x_block_ret (x_then_ret (x_then_ret (x_block_ret (x_then_ret ?_)))))))
         refine x_done (v := .bool false) F98 (results_1 Tryz.results94 (.tmp (F98.ev 2 rfl))) ?_
         exact ⟨(by rw [(show false = (storeOk s) from by exact (storeOk_bad (k := k) (by omega) (nt ‹_›)).symm)]), (Mv.pick (S5.trans (S12.trans (S15.trans S96))) [] rfl)⟩
       · skip
         refine wp_skip (x_block_normal (x_normal (wp_region_lit (l_op (f_val F96 rfl rfl (r_add (z := ((k + 1 : Nat) : Int)) rfl (F96.ev 7 rfl) rfl (by first | rfl | omega) ⟨by first | omega | (unfold i64ok at *; omega), by first | omega | (unfold i64ok at *; omega)⟩) rfl fun _ F99 => ?_)))))
         refine l_op (f_mv F99 rfl rfl rfl rfl rfl fun _ F100 => ?_)
         refine s_end ?_
         refine x_normal ⟨k + 1, by omega, F100.cut rfl, ((S5.trans (S12.trans (S15.trans S96))).pick [] rfl), by omega, all_step hk_1 (nf ‹_›)⟩
   · skip
     refine wp_exit (x_then_exit (x_then_exit (x_block_here (x_normal (wp_seq (wp_region_lit (l_op (f_mv F6 rfl rfl rfl rfl rfl fun _ F101 => ?_))))))))
     refine l_op (f_val F101 rfl rfl (r_len Tryz.underlying28 rfl (F101.ev 39 rfl)) rfl fun _ F102 => ?_)
     refine l_op (f_val F102 rfl rfl (r_cmp (b := decide (s_n ≤ 900)) (.inr (.inr (.inr (.inl rfl)))) rfl (F102.ev 40 rfl) rfl (dec_of (by omega))) rfl fun _ F103 => ?_)
     refine l_op (f_as F103 rfl rfl rfl rfl rfl fun _ F104 => ?_)
     refine s_end (x_normal (wp_ret ?_))
     refine x_done (v := .bool (decide (s_n ≤ 900))) F104 (results_1 Tryz.results94 (.tmp (F104.ev 2 rfl))) ?_
     exact ⟨(by rw [(show (decide (s_n ≤ 900)) = (storeOk s) from by rw [ln_s]; exact (storeOk_all (fun j hj => hk_1 j (by omega))).symm)]), (Mv.pick S5 [] rfl)⟩
theorem impl_BestSlot_c {w : World} {H : Nat → Prop} {d : DiskH} {Q1 : Option Addr} {Q0 Q2 : Nat} (Q5 : Rd 3 encSlot okSlot H w (.slice Q1 Q0 Q2) d.slots) (Q8 : NRd inSlot H w d.slots) (Q7 : okS d.journal.text) (Q6 : i64ok d.journal.sure) :
    Calls Tryz.prog 44 #[.agg #[.slice Q1 Q0 Q2, .string d.journal.text, .int .i64 d.journal.sure]] w fun e w' => e = .returned (.int .i64 (bestTo (d.slots.map SlotH.d) d.slots.length)) ∧ Mv [] w [] w' ∧ i64ok (bestTo (d.slots.map SlotH.d) d.slots.length) := by
 have uU : True := (fun _ _ => trivial) Q7 Q6
 clear uU
 have Q3 : Rd 3 encSlot okSlot (V H w []) w (.slice Q1 Q0 Q2) d.slots := Rd.start Q5 (fun _ _ => fps_nil _)
 obtain ⟨Q10, Q9, Q11, Q12⟩ := Rd.inv Q5
 have Q4 : NRd inSlot (V H w []) w d.slots := NRd.start Q8 (fun _ _ => fps_nil _)
 refine calls_enter 34 Tryz.func44 rfl Tryz.ntmps44 (Nat.le_of_ble_eq_true rfl) (fun _ F0i => ?_)
 have F0 : Fr 34 [(0, .agg #[.slice Q1 Q0 Q2, .string d.journal.text, .int .i64 d.journal.sure])] _ := F0i
 clear F0i
 refine wp_seq (wp_region_lit (l_op (f_box F0 (At.nil w) rfl rfl rfl (F0.ev 0 rfl) rfl rfl fun b1 _ w1 F2 S1 => ?_)))
 refine l_op (f_val F2 rfl rfl (r_assign rfl rfl) rfl fun _ F3 => ?_)
 refine s_end (x_normal (wp_seq (wp_region_lit (l_op (f_val F3 rfl rfl (r_assign rfl rfl) rfl fun _ F4 => ?_)))))
 refine s_end (x_normal (wp_seq (wp_seq (wp_region_lit (l_op (f_val F4 rfl rfl (r_field FI_34_0 rfl (F4.ev 1 rfl) rfl) rfl fun _ F5 => ?_))))))
 refine l_op (f_val (v := .slice Q1 Q0 Q2) F5 rfl rfl (r_loadB S1.at' 0 TI_31 rfl rfl (F5.ev 6 rfl) rfl rfl (fun _ => rfl) rfl) rfl fun _ F6 => ?_)
 refine l_op (f_val F6 rfl rfl (r_len Tryz.underlying31 rfl (F6.ev 7 rfl)) rfl fun _ F7 => ?_)
 refine l_op (f_val F7 rfl rfl (r_move rfl rfl) rfl fun _ F8 => ?_)
 refine s_end (x_normal (wp_block ?_))
 refine x_loop (fun (k : Nat) aZ wZ => ∃ (best : Int), Fr 34 [(9, .int .i64 ((k : Nat) : Int)), (8, .int .i64 ((Q0 : Nat) : Int)), (7, .slice Q1 Q0 Q2), (3, .int .i64 best), (1, .pointer (some ⟨b1, 0, none⟩))] aZ ∧ Mv [bx b1 [.slice Q1 Q0 Q2, .string d.journal.text, .int .i64 d.journal.sure] 34] w1 [bx b1 [.slice Q1 Q0 Q2, .string d.journal.text, .int .i64 d.journal.sure] 34] wZ ∧ (k ≤ Q0) ∧ (best = bestTo (d.slots.map SlotH.d) k) ∧ (-1 ≤ best ∧ best < ((k : Nat) : Int))) (fun (k : Nat) => Q0 - k) (0) ?_ ?_
 · exact ⟨(-1), F8.cut rfl, (Mv.refl S1.at'), by omega, rfl, ⟨by omega, by omega⟩⟩
 · rintro k a9 w9 ⟨best, F9, S9, hk_0, hk_1, hk_2⟩
   refine wp_seq (wp_region_lit (l_op (f_val F9 rfl rfl (r_cmp (b := decide (k < Q0)) (.inr (.inr (.inl rfl))) rfl (F9.ev 9 rfl) (F9.ev 8 rfl) (dec_of (by omega))) rfl fun _ F10 => ?_)))
   refine s_end (x_normal (wp_seq (x_cond (p := k < Q0) (F10.ev 10 rfl) (fun h11 => ?_) (fun h11 => ?_))))
   · skip
     refine wp_skip (x_normal (wp_seq (wp_block (wp_seq (wp_region_lit (l_op (f_mv F10 rfl rfl rfl rfl rfl fun _ F12 => ?_)))))))
     obtain ⟨B13, O13, x1, ad13, hx1, okx1, ln13, cl13⟩ := Rd.at (Rd.mq Q3 (S1.trans S9)) k (by first | assumption | omega)
     clear ln13
     have oj14 := okx1
     unfold okSlot at oj14
     have VI15 : Rd 2 encC okC (V H w [bx b1 [.slice Q1 Q0 Q2, .string d.journal.text, .int .i64 d.journal.sure] 34]) w9 (.slice x1.a0 x1.n0 x1.c0) x1.d.cells := NRd.get (NRd.mv Q4 (S1.trans S9)) hx1 (j := 0) rfl
     obtain ⟨ln15, le15, mx15, ni15⟩ := Rd.inv VI15
     refine l_op (f_val F12 rfl rfl (r_indexAddr (i := k) ET_31 rfl ((F12.ev 7 rfl).trans (by rw [ad13])) (F12.ev 9 rfl) (by omega) (by first | assumption | omega)) rfl fun _ F16 => ?_)
     refine l_op (f_val (v := .agg #[.int .i64 x1.d.seq, .slice x1.a0 x1.n0 x1.c0, .bool x1.d.whole]) F16 rfl rfl (r_load (cs := [.int .i64 x1.d.seq, .slice x1.a0 x1.n0 x1.c0, .bool x1.d.whole]) TI_81 rfl (F16.ev 12 rfl) rfl (fun h => nomatch h) (elem_sub (f := 0) cl13 [.int .i64 x1.d.seq, .slice x1.a0 x1.n0 x1.c0, .bool x1.d.whole] rfl)) rfl fun _ F17 => ?_)
     refine l_op (f_alloc F17 S9.at' ZI_81 rfl rfl rfl rfl rfl fun b18 _ w18 F19 S18 => ?_)
     refine l_op (f_as F19 rfl rfl rfl rfl rfl fun _ F20 => ?_)
     refine l_op (s_store S18.at' 0 TI_81 rfl rfl rfl rfl rfl (F20.ev 5 rfl) (F20.ev 13 rfl) rfl rfl rfl rfl rfl fun w21 S21 => ?_)
     have T22 : Mv _ _ [bx b18 [.int .i64 x1.d.seq, .slice x1.a0 x1.n0 x1.c0, .bool x1.d.whole] 81, bx b1 [.slice Q1 Q0 Q2, .string d.journal.text, .int .i64 d.journal.sure] 34] _ := S21
     refine s_end (x_normal (wp_seq ?_))
     obtain ⟨x2, hx2, okx2⟩ := Rd.elem (Rd.mq Q3 (S1.trans (S9.trans (S18.trans T22)))) (best).toNat (by first | assumption | omega)
     have oj24 := okx2
     unfold okSlot at oj24
     have VI25 : Rd 2 encC okC (V H w [bx b18 [.int .i64 x1.d.seq, .slice x1.a0 x1.n0 x1.c0, .bool x1.d.whole] 81, bx b1 [.slice Q1 Q0 Q2, .string d.journal.text, .int .i64 d.journal.sure] 34]) w21 (.slice x2.a0 x2.n0 x2.c0) x2.d.cells := NRd.get (NRd.mv Q4 (S1.trans (S9.trans (S18.trans T22)))) hx2 (j := 0) rfl
     obtain ⟨ln25, le25, mx25, ni25⟩ := Rd.inv VI25
     refine x_draw (fun aZ wZ => Fr 34 [(1, .pointer (some ⟨b1, 0, none⟩)), (3, .int .i64 best), (4, .int .i64 ((k : Nat) : Int)), (7, .slice Q1 Q0 Q2), (8, .int .i64 ((Q0 : Nat) : Int)), (9, .int .i64 ((k : Nat) : Int)), (30, .bool (x1.d.whole && (decide (best < 0) || decide (x1.d.seq > x2.d.seq))))] aZ ∧ Mv [bx b18 [.int .i64 x1.d.seq, .slice x1.a0 x1.n0 x1.c0, .bool x1.d.whole] 81, bx b1 [.slice Q1 Q0 Q2, .string d.journal.text, .int .i64 d.journal.sure] 34] w21 [bx b18 [.int .i64 x1.d.seq, .slice x1.a0 x1.n0 x1.c0, .bool x1.d.whole] 81, bx b1 [.slice Q1 Q0 Q2, .string d.journal.text, .int .i64 d.journal.sure] 34] wZ) [bx b18 [.int .i64 x1.d.seq, .slice x1.a0 x1.n0 x1.c0, .bool x1.d.whole] 81, bx b1 [.slice Q1 Q0 Q2, .string d.journal.text, .int .i64 d.journal.sure] 34] mixed T22.at' (listed := #[false, false, false, false, false, false, false, false, false, false, false, false, false, false, false, false, false]) rfl (fun w26 S26 => ?_) [0, 1] rfl ?_
     · skip
       refine g_take F20 rfl (i := 0) (listed' := #[true, false, false, false, false, false, false, false, false, false, false, false, false, false, false, false, false]) rfl (by kernel_rfl) (by kernel_rfl) (by kernel_rfl) (fun _ _ _ h => h) (Sd.of (Mv.refl S26.at') [0, 1] rfl) rfl rfl rfl rfl (fun _ hz => (r_field FI_81_2 rfl (F20.ev 5 rfl) rfl)) fun _ F27 => ?_
       refine g_take (v := .bool x1.d.whole) F27 rfl (i := 1) (listed' := #[true, true, false, false, false, false, false, false, false, false, false, false, false, false, false, false, false]) rfl (by kernel_rfl) (by kernel_rfl) (by kernel_rfl) (fun _ _ _ h => h) (Sd.of (Mv.refl S26.at') [0, 1] rfl) rfl rfl rfl rfl (fun _ hz => (r_loadX (hz.bx 0 rfl) TI_4 rfl (F27.ev 14 rfl) rfl rfl (fun _ => rfl) rfl)) fun _ F28 => ?_
       refine g_take F28 rfl (i := 2) (listed' := #[true, true, true, false, false, false, false, false, false, false, false, false, false, false, false, false, false]) rfl (by kernel_rfl) (by kernel_rfl) (by kernel_rfl) (fun _ _ _ h => h) (Sd.of (Mv.refl S26.at') [0, 1] rfl) rfl rfl rfl rfl (fun _ hz => (r_move rfl (F28.ev 15 rfl))) fun _ F29 => ?_
       rcases Bool.eq_false_or_eq_true x1.d.whole with h30 | h30
       · rw [h30] at F29
         refine g_take F29 rfl (i := 3) (listed' := #[true, true, true, true, false, false, false, false, false, false, false, false, false, false, false, false, false]) rfl (by kernel_rfl) (by kernel_rfl) (by kernel_rfl) (fun _ _ _ h => h) (Sd.of (Mv.refl S26.at') [0, 1] rfl) rfl (wanted_g F29 rfl rfl rfl rfl) rfl rfl (fun _ hz => (r_move rfl (F29.ev 3 rfl))) fun _ F31 => ?_
         refine g_take F31 rfl (i := 4) (listed' := #[true, true, true, true, true, false, false, false, false, false, false, false, false, false, false, false, false]) rfl (by kernel_rfl) (by kernel_rfl) (by kernel_rfl) (fun _ _ _ h => h) (Sd.of (Mv.refl S26.at') [0, 1] rfl) rfl (wanted_g F31 rfl rfl rfl rfl) rfl rfl (fun _ hz => (r_cmp (b := decide (best < 0)) (.inr (.inr (.inl rfl))) rfl (F31.ev 17 rfl) rfl (dec_of (by omega)))) fun _ F32 => ?_
         refine g_take F32 rfl (i := 5) (listed' := #[true, true, true, true, true, true, false, false, false, false, false, false, false, false, false, false, false]) rfl (by kernel_rfl) (by kernel_rfl) (by kernel_rfl) (fun _ _ _ h => h) (Sd.of (Mv.refl S26.at') [0, 1] rfl) rfl (wanted_g F32 rfl rfl rfl rfl) rfl rfl (fun _ hz => (r_move rfl (F32.ev 18 rfl))) fun _ F33 => ?_
         rcases Decidable.em (best < 0) with h34 | h34
         · rw [decide_eq_true h34] at F33
           refine g_skip F33 rfl (i := 6) (listed' := #[true, true, true, true, true, true, true, false, false, false, false, false, false, false, false, false, false]) rfl (by kernel_rfl) (by kernel_rfl) (by kernel_rfl) (fun _ _ _ h => h) (Sd.of (Mv.refl S26.at') [0, 1] rfl) rfl (wanted_g F33 rfl rfl rfl rfl) rfl rfl fun _ F35 => ?_
           refine g_skip F35 rfl (i := 7) (listed' := #[true, true, true, true, true, true, true, true, false, false, false, false, false, false, false, false, false]) rfl (by kernel_rfl) (by kernel_rfl) (by kernel_rfl) (fun _ _ _ h => h) (Sd.of (Mv.refl S26.at') [0, 1] rfl) rfl (wanted_g F35 rfl rfl rfl rfl) rfl rfl fun _ F36 => ?_
           refine g_skip F36 rfl (i := 8) (listed' := #[true, true, true, true, true, true, true, true, true, false, false, false, false, false, false, false, false]) rfl (by kernel_rfl) (by kernel_rfl) (by kernel_rfl) (fun _ _ _ h => h) (Sd.of (Mv.refl S26.at') [0, 1] rfl) rfl (wanted_g F36 rfl rfl rfl rfl) rfl rfl fun _ F37 => ?_
           refine g_skip F37 rfl (i := 9) (listed' := #[true, true, true, true, true, true, true, true, true, true, false, false, false, false, false, false, false]) rfl (by kernel_rfl) (by kernel_rfl) (by kernel_rfl) (fun _ _ _ h => h) (Sd.of (Mv.refl S26.at') [0, 1] rfl) rfl (wanted_g F37 rfl rfl rfl rfl) rfl rfl fun _ F38 => ?_
           refine g_skip F38 rfl (i := 10) (listed' := #[true, true, true, true, true, true, true, true, true, true, true, false, false, false, false, false, false]) rfl (by kernel_rfl) (by kernel_rfl) (by kernel_rfl) (fun _ _ _ h => h) (Sd.of (Mv.refl S26.at') [0, 1] rfl) rfl (wanted_g F38 rfl rfl rfl rfl) rfl rfl fun _ F39 => ?_
           refine g_skip F39 rfl (i := 11) (listed' := #[true, true, true, true, true, true, true, true, true, true, true, true, false, false, false, false, false]) rfl (by kernel_rfl) (by kernel_rfl) (by kernel_rfl) (fun _ _ _ h => h) (Sd.of (Mv.refl S26.at') [0, 1] rfl) rfl (wanted_g F39 rfl rfl rfl rfl) rfl rfl fun _ F40 => ?_
           refine g_skip F40 rfl (i := 12) (listed' := #[true, true, true, true, true, true, true, true, true, true, true, true, true, false, false, false, false]) rfl (by kernel_rfl) (by kernel_rfl) (by kernel_rfl) (fun _ _ _ h => h) (Sd.of (Mv.refl S26.at') [0, 1] rfl) rfl (wanted_g F40 rfl rfl rfl rfl) rfl rfl fun _ F41 => ?_
           refine g_skip F41 rfl (i := 13) (listed' := #[true, true, true, true, true, true, true, true, true, true, true, true, true, true, false, false, false]) rfl (by kernel_rfl) (by kernel_rfl) (by kernel_rfl) (fun _ _ _ h => h) (Sd.of (Mv.refl S26.at') [0, 1] rfl) rfl (wanted_g F41 rfl rfl rfl rfl) rfl rfl fun _ F42 => ?_
           refine g_skip F42 rfl (i := 14) (listed' := #[true, true, true, true, true, true, true, true, true, true, true, true, true, true, true, false, false]) rfl (by kernel_rfl) (by kernel_rfl) (by kernel_rfl) (fun _ _ _ h => h) (Sd.of (Mv.refl S26.at') [0, 1] rfl) rfl (wanted_g F42 rfl rfl rfl rfl) rfl rfl fun _ F43 => ?_
           refine g_take F43 rfl (i := 15) (listed' := #[true, true, true, true, true, true, true, true, true, true, true, true, true, true, true, true, false]) rfl (by kernel_rfl) (by kernel_rfl) (by kernel_rfl) (fun _ _ _ h => h) (Sd.of (Mv.refl S26.at') [0, 1] rfl) rfl (wanted_g F43 rfl rfl rfl rfl) rfl rfl (fun _ hz => (r_pick (b := true) rfl (F43.ev 19 rfl) rfl)) fun _ F44 => ?_
           refine g_take F44 rfl (i := 16) (listed' := #[true, true, true, true, true, true, true, true, true, true, true, true, true, true, true, true, true]) rfl (by kernel_rfl) (by kernel_rfl) (by kernel_rfl) (fun _ _ _ h => h) (Sd.of (Mv.refl S26.at') [0, 1] rfl) rfl rfl rfl rfl (fun _ hz => (r_pick (b := true) rfl (F44.ev 16 rfl) (F44.ev 29 rfl))) fun _ F45 => ?_
           refine wpAnyH_done (by kernel_rfl) (x_normal ?_) _
           exact ⟨Fr.cast (F45.cut rfl) (congrArg (fun zZ => ([(1, .pointer (some ⟨b1, 0, none⟩)), (3, .int .i64 best), (4, .int .i64 ((k : Nat) : Int)), (7, .slice Q1 Q0 Q2), (8, .int .i64 ((Q0 : Nat) : Int)), (9, .int .i64 ((k : Nat) : Int)), (30, .bool zZ)] : List (Nat × Value))) (show true = (x1.d.whole && (decide (best < 0) || decide (x1.d.seq > x2.d.seq))) from by first | exact bs_1 ‹_› | exact bs_2 ‹_› ‹_› | exact bs_3 ‹_› ‹_›)), (S26.pick [0, 1] rfl)⟩
         · rw [decide_eq_false h34] at F33
           refine g_take F33 rfl (i := 6) (listed' := #[true, true, true, true, true, true, true, false, false, false, false, false, false, false, false, false, false]) rfl (by kernel_rfl) (by kernel_rfl) (by kernel_rfl) (fun _ _ _ h => h) (Sd.of (Mv.refl S26.at') [0, 1] rfl) rfl (wanted_g F33 rfl rfl rfl rfl) rfl rfl (fun _ hz => (r_field FI_81_0 rfl (F33.ev 5 rfl) rfl)) fun _ F46 => ?_
           refine g_take (v := .int .i64 x1.d.seq) F46 rfl (i := 7) (listed' := #[true, true, true, true, true, true, true, true, false, false, false, false, false, false, false, false, false]) rfl (by kernel_rfl) (by kernel_rfl) (by kernel_rfl) (fun _ _ _ h => h) (Sd.of (Mv.refl S26.at') [0, 1] rfl) rfl (wanted_g F46 rfl rfl rfl rfl) rfl rfl (fun _ hz => (r_loadX (hz.bx 0 rfl) TI_3 rfl (F46.ev 20 rfl) rfl rfl (fun _ => rfl) rfl)) fun _ F47 => ?_
           refine g_take F47 rfl (i := 8) (listed' := #[true, true, true, true, true, true, true, true, true, false, false, false, false, false, false, false, false]) rfl (by kernel_rfl) (by kernel_rfl) (by kernel_rfl) (fun _ _ _ h => h) (Sd.of (Mv.refl S26.at') [0, 1] rfl) rfl (wanted_g F47 rfl rfl rfl rfl) rfl rfl (fun _ hz => (r_field FI_34_0 rfl (F47.ev 1 rfl) rfl)) fun _ F48 => ?_
           refine g_take (v := .slice Q1 Q0 Q2) F48 rfl (i := 9) (listed' := #[true, true, true, true, true, true, true, true, true, true, false, false, false, false, false, false, false]) rfl (by kernel_rfl) (by kernel_rfl) (by kernel_rfl) (fun _ _ _ h => h) (Sd.of (Mv.refl S26.at') [0, 1] rfl) rfl (wanted_g F48 rfl rfl rfl rfl) rfl rfl (fun _ hz => (r_loadX (hz.bx 1 rfl) TI_31 rfl (F48.ev 22 rfl) rfl rfl (fun _ => rfl) rfl)) fun _ F49 => ?_
           refine g_take F49 rfl (i := 10) (listed' := #[true, true, true, true, true, true, true, true, true, true, true, false, false, false, false, false, false]) rfl (by kernel_rfl) (by kernel_rfl) (by kernel_rfl) (fun _ _ _ h => h) (Sd.of (Mv.refl S26.at') [0, 1] rfl) rfl (wanted_g F49 rfl rfl rfl rfl) rfl rfl (fun _ hz => (r_move rfl (F49.ev 3 rfl))) fun _ F50 => ?_
           obtain ⟨B51, O51, y51, ad51, hy51, oky51, ln51, cl51⟩ := Rd.atK (Nat.succ_pos _) (Rd.mq Q3 (S1.trans (S9.trans (S18.trans (T22.trans S26))))) (best).toNat (by first | assumption | omega)
           clear ln51
           obtain rfl := Option.some.inj (hx2.symm.trans hy51)
           clear hy51 oky51
           refine g_take F50 rfl (i := 11) (listed' := #[true, true, true, true, true, true, true, true, true, true, true, true, false, false, false, false, false]) rfl (by kernel_rfl) (by kernel_rfl) (by kernel_rfl) (fun _ _ _ h => h) (Sd.of (Mv.refl S26.at') [0, 1] rfl) rfl (wanted_g F50 rfl rfl rfl rfl) rfl rfl (fun _ hz => (r_indexAddr (i := (best).toNat) ET_31 rfl ((F50.ev 23 rfl).trans (by rw [ad51])) (F50.ev 24 rfl) (by omega) (by first | assumption | omega))) fun _ F52 => ?_
           refine g_take F52 rfl (i := 12) (listed' := #[true, true, true, true, true, true, true, true, true, true, true, true, true, false, false, false, false]) rfl (by kernel_rfl) (by kernel_rfl) (by kernel_rfl) (fun _ _ _ h => h) (Sd.of (Mv.refl S26.at') [0, 1] rfl) rfl (wanted_g F52 rfl rfl rfl rfl) rfl rfl (fun _ hz => (r_field FI_81_0 rfl (F52.ev 25 rfl) rfl)) fun _ F53 => ?_
           refine g_take (v := .int .i64 x2.d.seq) F53 rfl (i := 13) (listed' := #[true, true, true, true, true, true, true, true, true, true, true, true, true, true, false, false, false]) rfl (by kernel_rfl) (by kernel_rfl) (by kernel_rfl) (fun _ _ _ h => h) (Sd.of (Mv.refl S26.at') [0, 1] rfl) rfl (wanted_g F53 rfl rfl rfl rfl) rfl rfl (fun _ hz => (r_load (cs := [.int .i64 x2.d.seq]) TI_3 rfl (F53.ev 26 rfl) rfl (fun _ => rfl) (elem_sub (f := 0) (cl51 _ hz.kp) [.int .i64 x2.d.seq] rfl))) fun _ F54 => ?_
           refine g_take F54 rfl (i := 14) (listed' := #[true, true, true, true, true, true, true, true, true, true, true, true, true, true, true, false, false]) rfl (by kernel_rfl) (by kernel_rfl) (by kernel_rfl) (fun _ _ _ h => h) (Sd.of (Mv.refl S26.at') [0, 1] rfl) rfl (wanted_g F54 rfl rfl rfl rfl) rfl rfl (fun _ hz => (r_cmp (b := decide (x1.d.seq > x2.d.seq)) (.inr (.inr (.inr (.inr (.inl rfl))))) rfl (F54.ev 21 rfl) (F54.ev 27 rfl) (dec_of (by omega)))) fun _ F55 => ?_
           refine g_take F55 rfl (i := 15) (listed' := #[true, true, true, true, true, true, true, true, true, true, true, true, true, true, true, true, false]) rfl (by kernel_rfl) (by kernel_rfl) (by kernel_rfl) (fun _ _ _ h => h) (Sd.of (Mv.refl S26.at') [0, 1] rfl) rfl (wanted_g F55 rfl rfl rfl rfl) rfl rfl (fun _ hz => (r_pick (b := false) rfl (F55.ev 19 rfl) (F55.ev 28 rfl))) fun _ F56 => ?_
           refine g_take F56 rfl (i := 16) (listed' := #[true, true, true, true, true, true, true, true, true, true, true, true, true, true, true, true, true]) rfl (by kernel_rfl) (by kernel_rfl) (by kernel_rfl) (fun _ _ _ h => h) (Sd.of (Mv.refl S26.at') [0, 1] rfl) rfl rfl rfl rfl (fun _ hz => (r_pick (b := true) rfl (F56.ev 16 rfl) (F56.ev 29 rfl))) fun _ F57 => ?_
           refine wpAnyH_done (by kernel_rfl) (x_normal ?_) _
           exact ⟨Fr.cast (F57.cut rfl) (congrArg (fun zZ => ([(1, .pointer (some ⟨b1, 0, none⟩)), (3, .int .i64 best), (4, .int .i64 ((k : Nat) : Int)), (7, .slice Q1 Q0 Q2), (8, .int .i64 ((Q0 : Nat) : Int)), (9, .int .i64 ((k : Nat) : Int)), (30, .bool zZ)] : List (Nat × Value))) (show (decide (x1.d.seq > x2.d.seq)) = (x1.d.whole && (decide (best < 0) || decide (x1.d.seq > x2.d.seq))) from by first | exact bs_1 ‹_› | exact bs_2 ‹_› ‹_› | exact bs_3 ‹_› ‹_›)), (S26.pick [0, 1] rfl)⟩
       · rw [h30] at F29
         refine g_skip F29 rfl (i := 3) (listed' := #[true, true, true, true, false, false, false, false, false, false, false, false, false, false, false, false, false]) rfl (by kernel_rfl) (by kernel_rfl) (by kernel_rfl) (fun _ _ _ h => h) (Sd.of (Mv.refl S26.at') [0, 1] rfl) rfl (wanted_g F29 rfl rfl rfl rfl) rfl rfl fun _ F58 => ?_
         refine g_skip F58 rfl (i := 4) (listed' := #[true, true, true, true, true, false, false, false, false, false, false, false, false, false, false, false, false]) rfl (by kernel_rfl) (by kernel_rfl) (by kernel_rfl) (fun _ _ _ h => h) (Sd.of (Mv.refl S26.at') [0, 1] rfl) rfl (wanted_g F58 rfl rfl rfl rfl) rfl rfl fun _ F59 => ?_
         refine g_skip F59 rfl (i := 5) (listed' := #[true, true, true, true, true, true, false, false, false, false, false, false, false, false, false, false, false]) rfl (by kernel_rfl) (by kernel_rfl) (by kernel_rfl) (fun _ _ _ h => h) (Sd.of (Mv.refl S26.at') [0, 1] rfl) rfl (wanted_g F59 rfl rfl rfl rfl) rfl rfl fun _ F60 => ?_
         refine g_skip F60 rfl (i := 6) (listed' := #[true, true, true, true, true, true, true, false, false, false, false, false, false, false, false, false, false]) rfl (by kernel_rfl) (by kernel_rfl) (by kernel_rfl) (fun _ _ _ h => h) (Sd.of (Mv.refl S26.at') [0, 1] rfl) rfl (wanted_u F60 rfl rfl rfl) rfl rfl fun _ F61 => ?_
         refine g_skip F61 rfl (i := 7) (listed' := #[true, true, true, true, true, true, true, true, false, false, false, false, false, false, false, false, false]) rfl (by kernel_rfl) (by kernel_rfl) (by kernel_rfl) (fun _ _ _ h => h) (Sd.of (Mv.refl S26.at') [0, 1] rfl) rfl (wanted_u F61 rfl rfl rfl) rfl rfl fun _ F62 => ?_
         refine g_skip F62 rfl (i := 8) (listed' := #[true, true, true, true, true, true, true, true, true, false, false, false, false, false, false, false, false]) rfl (by kernel_rfl) (by kernel_rfl) (by kernel_rfl) (fun _ _ _ h => h) (Sd.of (Mv.refl S26.at') [0, 1] rfl) rfl (wanted_u F62 rfl rfl rfl) rfl rfl fun _ F63 => ?_
         refine g_skip F63 rfl (i := 9) (listed' := #[true, true, true, true, true, true, true, true, true, true, false, false, false, false, false, false, false]) rfl (by kernel_rfl) (by kernel_rfl) (by kernel_rfl) (fun _ _ _ h => h) (Sd.of (Mv.refl S26.at') [0, 1] rfl) rfl (wanted_u F63 rfl rfl rfl) rfl rfl fun _ F64 => ?_
         refine g_skip F64 rfl (i := 10) (listed' := #[true, true, true, true, true, true, true, true, true, true, true, false, false, false, false, false, false]) rfl (by kernel_rfl) (by kernel_rfl) (by kernel_rfl) (fun _ _ _ h => h) (Sd.of (Mv.refl S26.at') [0, 1] rfl) rfl (wanted_u F64 rfl rfl rfl) rfl rfl fun _ F65 => ?_
         refine g_skip F65 rfl (i := 11) (listed' := #[true, true, true, true, true, true, true, true, true, true, true, true, false, false, false, false, false]) rfl (by kernel_rfl) (by kernel_rfl) (by kernel_rfl) (fun _ _ _ h => h) (Sd.of (Mv.refl S26.at') [0, 1] rfl) rfl (wanted_u F65 rfl rfl rfl) rfl rfl fun _ F66 => ?_
         refine g_skip F66 rfl (i := 12) (listed' := #[true, true, true, true, true, true, true, true, true, true, true, true, true, false, false, false, false]) rfl (by kernel_rfl) (by kernel_rfl) (by kernel_rfl) (fun _ _ _ h => h) (Sd.of (Mv.refl S26.at') [0, 1] rfl) rfl (wanted_u F66 rfl rfl rfl) rfl rfl fun _ F67 => ?_
         refine g_skip F67 rfl (i := 13) (listed' := #[true, true, true, true, true, true, true, true, true, true, true, true, true, true, false, false, false]) rfl (by kernel_rfl) (by kernel_rfl) (by kernel_rfl) (fun _ _ _ h => h) (Sd.of (Mv.refl S26.at') [0, 1] rfl) rfl (wanted_u F67 rfl rfl rfl) rfl rfl fun _ F68 => ?_
         refine g_skip F68 rfl (i := 14) (listed' := #[true, true, true, true, true, true, true, true, true, true, true, true, true, true, true, false, false]) rfl (by kernel_rfl) (by kernel_rfl) (by kernel_rfl) (fun _ _ _ h => h) (Sd.of (Mv.refl S26.at') [0, 1] rfl) rfl (wanted_u F68 rfl rfl rfl) rfl rfl fun _ F69 => ?_
         refine g_skip F69 rfl (i := 15) (listed' := #[true, true, true, true, true, true, true, true, true, true, true, true, true, true, true, true, false]) rfl (by kernel_rfl) (by kernel_rfl) (by kernel_rfl) (fun _ _ _ h => h) (Sd.of (Mv.refl S26.at') [0, 1] rfl) rfl (wanted_g F69 rfl rfl rfl rfl) rfl rfl fun _ F70 => ?_
         refine g_take F70 rfl (i := 16) (listed' := #[true, true, true, true, true, true, true, true, true, true, true, true, true, true, true, true, true]) rfl (by kernel_rfl) (by kernel_rfl) (by kernel_rfl) (fun _ _ _ h => h) (Sd.of (Mv.refl S26.at') [0, 1] rfl) rfl rfl rfl rfl (fun _ hz => (r_pick (b := false) rfl (F70.ev 16 rfl) rfl)) fun _ F71 => ?_
         refine wpAnyH_done (by kernel_rfl) (x_normal ?_) _
         exact ⟨Fr.cast (F71.cut rfl) (congrArg (fun zZ => ([(1, .pointer (some ⟨b1, 0, none⟩)), (3, .int .i64 best), (4, .int .i64 ((k : Nat) : Int)), (7, .slice Q1 Q0 Q2), (8, .int .i64 ((Q0 : Nat) : Int)), (9, .int .i64 ((k : Nat) : Int)), (30, .bool zZ)] : List (Nat × Value))) (show false = (x1.d.whole && (decide (best < 0) || decide (x1.d.seq > x2.d.seq))) from by first | exact bs_1 ‹_› | exact bs_2 ‹_› ‹_› | exact bs_3 ‹_› ‹_›)), (S26.pick [0, 1] rfl)⟩
     · rintro a72 w72 ⟨F72, S72⟩
       refine x_normal (x_condb (b := (x1.d.whole && (decide (best < 0) || decide (x1.d.seq > x2.d.seq)))) (F72.ev 30 rfl) (fun h73 => ?_) (fun h73 => ?_))
       · skip
         refine wp_region_lit (l_op (f_mv F72 rfl rfl rfl rfl rfl fun _ F74 => ?_))
         refine l_op (f_as F74 rfl rfl rfl rfl rfl fun _ F75 => ?_)
         refine s_end (x_block_normal (x_normal (wp_region_lit (l_op (f_val F75 rfl rfl (r_add (z := ((k + 1 : Nat) : Int)) rfl (F75.ev 9 rfl) rfl (by first | rfl | omega) ⟨by first | omega | (unfold i64ok at *; omega), by first | omega | (unfold i64ok at *; omega)⟩) rfl fun _ F76 => ?_)))))
         refine l_op (f_mv F76 rfl rfl rfl rfl rfl fun _ F77 => ?_)
         refine s_end ?_
         refine x_normal ⟨k + 1, by omega, ((k : Nat) : Int), F77.cut rfl, ((S9.trans (S18.trans (T22.trans S72))).pick [1] rfl), by omega, by first | exact bestTo_t hk_1 hx1 hx2 ‹_› | exact bestTo_f hk_1 hx1 hx2 ‹_›, by omega⟩
       · skip
         refine wp_skip (x_block_normal (x_normal (wp_region_lit (l_op (f_val F72 rfl rfl (r_add (z := ((k + 1 : Nat) : Int)) rfl (F72.ev 9 rfl) rfl (by first | rfl | omega) ⟨by first | omega | (unfold i64ok at *; omega), by first | omega | (unfold i64ok at *; omega)⟩) rfl fun _ F78 => ?_)))))
         refine l_op (f_mv F78 rfl rfl rfl rfl rfl fun _ F79 => ?_)
         refine s_end ?_
         refine x_normal ⟨k + 1, by omega, best, F79.cut rfl, ((S9.trans (S18.trans (T22.trans S72))).pick [1] rfl), by omega, by first | exact bestTo_t hk_1 hx1 hx2 ‹_› | exact bestTo_f hk_1 hx1 hx2 ‹_›, by omega⟩
   · skip
     refine wp_exit (x_then_exit (x_then_exit (x_block_here (x_normal (wp_seq (wp_region_lit (l_op (f_mv F10 rfl rfl rfl rfl rfl fun _ F80 => ?_))))))))
     refine l_op (f_as F80 rfl rfl rfl rfl rfl fun _ F81 => ?_)
     refine s_end (x_normal (wp_ret ?_))
     refine x_done (v := .int .i64 best) F81 (results_1 Tryz.results44 (.tmp (F81.ev 2 rfl))) ?_
     exact ⟨(by rw [(show best = (bestTo (d.slots.map SlotH.d) d.slots.length) from by rw [hk_1, show k = d.slots.length by omega])]), (Mv.pick (S1.trans S9) [] rfl), by have := bestTo_bd (d.slots.map SlotH.d) d.slots.length; unfold i64ok; omega⟩
theorem spec_BestSlot_c {w : World} {H : Nat → Prop} {d : DiskH} {Q1 : Option Addr} {Q0 Q2 : Nat} (Q5 : Rd 3 encSlot okSlot H w (.slice Q1 Q0 Q2) d.slots) (Q8 : NRd inSlot H w d.slots) (Q7 : okS d.journal.text) (Q6 : i64ok d.journal.sure) :
    Calls Tryz.prog 38 #[.agg #[.slice Q1 Q0 Q2, .string d.journal.text, .int .i64 d.journal.sure]] w fun e w' => e = .returned (.int .i64 (bestTo (d.slots.map SlotH.d) d.slots.length)) ∧ Mv [] w [] w' ∧ i64ok (bestTo (d.slots.map SlotH.d) d.slots.length) := by
 have uU : True := (fun _ _ => trivial) Q7 Q6
 clear uU
 have Q3 : Rd 3 encSlot okSlot (V H w []) w (.slice Q1 Q0 Q2) d.slots := Rd.start Q5 (fun _ _ => fps_nil _)
 obtain ⟨Q10, Q9, Q11, Q12⟩ := Rd.inv Q5
 have Q4 : NRd inSlot (V H w []) w d.slots := NRd.start Q8 (fun _ _ => fps_nil _)
 refine calls_enter 39 Tryz.func38 rfl Tryz.ntmps38 (Nat.le_of_ble_eq_true rfl) (fun _ F0i => ?_)
 have F0 : Fr 39 [(0, .agg #[.slice Q1 Q0 Q2, .string d.journal.text, .int .i64 d.journal.sure])] _ := F0i
 clear F0i
 refine wp_seq (wp_region_lit (l_op (f_box F0 (At.nil w) rfl rfl rfl (F0.ev 0 rfl) rfl rfl fun b1 _ w1 F2 S1 => ?_)))
 refine l_op (f_val F2 rfl rfl (r_assign rfl rfl) rfl fun _ F3 => ?_)
 refine s_end (x_normal (wp_seq (wp_region_lit (l_op (f_val F3 rfl rfl (r_assign rfl rfl) rfl fun _ F4 => ?_)))))
 refine s_end (x_normal (wp_seq (wp_seq (wp_region_lit (l_op (f_val F4 rfl rfl (r_assign rfl rfl) rfl fun _ F5 => ?_))))))
 refine s_end (x_normal (wp_block ?_))
 refine x_loop (fun (k : Nat) aZ wZ => ∃ (best : Int), Fr 39 [(4, .int .i64 ((k : Nat) : Int)), (3, .int .i64 best), (1, .pointer (some ⟨b1, 0, none⟩))] aZ ∧ Mv [bx b1 [.slice Q1 Q0 Q2, .string d.journal.text, .int .i64 d.journal.sure] 34] w1 [bx b1 [.slice Q1 Q0 Q2, .string d.journal.text, .int .i64 d.journal.sure] 34] wZ ∧ (k ≤ Q0) ∧ (best = bestTo (d.slots.map SlotH.d) k) ∧ (-1 ≤ best ∧ best < ((k : Nat) : Int))) (fun (k : Nat) => Q0 - k) (0) ?_ ?_
 · exact ⟨(-1), F5.cut rfl, (Mv.refl S1.at'), by omega, rfl, ⟨by omega, by omega⟩⟩
 · rintro k a6 w6 ⟨best, F6, S6, hk_0, hk_1, hk_2⟩
   refine wp_seq (wp_seq (wp_region_lit (l_op (f_mv F6 rfl rfl rfl rfl rfl fun _ F7 => ?_))))
   refine l_op (f_val F7 rfl rfl (r_field FI_34_0 rfl (F7.ev 1 rfl) rfl) rfl fun _ F8 => ?_)
   refine l_op (f_val (v := .slice Q1 Q0 Q2) F8 rfl rfl (r_loadB S6.at' 0 TI_31 rfl rfl (F8.ev 6 rfl) rfl rfl (fun _ => rfl) rfl) rfl fun _ F9 => ?_)
   refine l_op (f_val F9 rfl rfl (r_len Tryz.underlying31 rfl (F9.ev 7 rfl)) rfl fun _ F10 => ?_)
   refine l_op (f_val F10 rfl rfl (r_cmp (b := decide (k < Q0)) (.inr (.inr (.inl rfl))) rfl (F10.ev 5 rfl) (F10.ev 8 rfl) (dec_of (by omega))) rfl fun _ F11 => ?_)
   refine s_end (x_normal (x_cond (p := k < Q0) (F11.ev 9 rfl) (fun h12 => ?_) (fun h12 => ?_)))
   · skip
     refine wp_skip (x_normal (wp_seq (wp_block (wp_seq ?_))))
     obtain ⟨x1, hx1, okx1⟩ := Rd.elem (Rd.mq Q3 (S1.trans S6)) k (by first | assumption | omega)
     have oj14 := okx1
     unfold okSlot at oj14
     have VI15 : Rd 2 encC okC (V H w [bx b1 [.slice Q1 Q0 Q2, .string d.journal.text, .int .i64 d.journal.sure] 34]) w6 (.slice x1.a0 x1.n0 x1.c0) x1.d.cells := NRd.get (NRd.mv Q4 (S1.trans S6)) hx1 (j := 0) rfl
     obtain ⟨ln15, le15, mx15, ni15⟩ := Rd.inv VI15
     obtain ⟨x2, hx2, okx2⟩ := Rd.elem (Rd.mq Q3 (S1.trans S6)) (best).toNat (by first | assumption | omega)
     have oj16 := okx2
     unfold okSlot at oj16
     have VI17 : Rd 2 encC okC (V H w [bx b1 [.slice Q1 Q0 Q2, .string d.journal.text, .int .i64 d.journal.sure] 34]) w6 (.slice x2.a0 x2.n0 x2.c0) x2.d.cells := NRd.get (NRd.mv Q4 (S1.trans S6)) hx2 (j := 0) rfl
     obtain ⟨ln17, le17, mx17, ni17⟩ := Rd.inv VI17
     refine x_draw (fun aZ wZ => Fr 39 [(1, .pointer (some ⟨b1, 0, none⟩)), (3, .int .i64 best), (4, .int .i64 ((k : Nat) : Int)), (36, .bool (x1.d.whole && (decide (best < 0) || decide (x1.d.seq > x2.d.seq))))] aZ ∧ Mv [bx b1 [.slice Q1 Q0 Q2, .string d.journal.text, .int .i64 d.journal.sure] 34] w6 [bx b1 [.slice Q1 Q0 Q2, .string d.journal.text, .int .i64 d.journal.sure] 34] wZ) [bx b1 [.slice Q1 Q0 Q2, .string d.journal.text, .int .i64 d.journal.sure] 34] mixed S6.at' (listed := #[false, false, false, false, false, false, false, false, false, false, false, false, false, false, false, false, false, false, false, false, false, false, false, false, false]) rfl (fun w18 S18 => ?_) [0] rfl ?_
     · skip
       refine g_take F11 rfl (i := 0) (listed' := #[true, false, false, false, false, false, false, false, false, false, false, false, false, false, false, false, false, false, false, false, false, false, false, false, false]) rfl (by kernel_rfl) (by kernel_rfl) (by kernel_rfl) (fun _ _ _ h => h) (Sd.of (Mv.refl S18.at') [0] rfl) rfl rfl rfl rfl (fun _ hz => (r_field FI_34_0 rfl (F11.ev 1 rfl) rfl)) fun _ F19 => ?_
       refine g_take (v := .slice Q1 Q0 Q2) F19 rfl (i := 1) (listed' := #[true, true, false, false, false, false, false, false, false, false, false, false, false, false, false, false, false, false, false, false, false, false, false, false, false]) rfl (by kernel_rfl) (by kernel_rfl) (by kernel_rfl) (fun _ _ _ h => h) (Sd.of (Mv.refl S18.at') [0] rfl) rfl rfl rfl rfl (fun _ hz => (r_loadX (hz.bx 0 rfl) TI_31 rfl (F19.ev 12 rfl) rfl rfl (fun _ => rfl) rfl)) fun _ F20 => ?_
       refine g_take F20 rfl (i := 2) (listed' := #[true, true, true, false, false, false, false, false, false, false, false, false, false, false, false, false, false, false, false, false, false, false, false, false, false]) rfl (by kernel_rfl) (by kernel_rfl) (by kernel_rfl) (fun _ _ _ h => h) (Sd.of (Mv.refl S18.at') [0] rfl) rfl rfl rfl rfl (fun _ hz => (r_move rfl (F20.ev 4 rfl))) fun _ F21 => ?_
       obtain ⟨B22, O22, y22, ad22, hy22, oky22, ln22, cl22⟩ := Rd.atK (Nat.succ_pos _) (Rd.mq Q3 (S1.trans (S6.trans S18))) k (by first | assumption | omega)
       clear ln22
       obtain rfl := Option.some.inj (hx1.symm.trans hy22)
       clear hy22 oky22
       refine g_take F21 rfl (i := 3) (listed' := #[true, true, true, true, false, false, false, false, false, false, false, false, false, false, false, false, false, false, false, false, false, false, false, false, false]) rfl (by kernel_rfl) (by kernel_rfl) (by kernel_rfl) (fun _ _ _ h => h) (Sd.of (Mv.refl S18.at') [0] rfl) rfl rfl rfl rfl (fun _ hz => (r_indexAddr (i := k) ET_31 rfl ((F21.ev 13 rfl).trans (by rw [ad22])) (F21.ev 14 rfl) (by omega) (by first | assumption | omega))) fun _ F23 => ?_
       refine g_take F23 rfl (i := 4) (listed' := #[true, true, true, true, true, false, false, false, false, false, false, false, false, false, false, false, false, false, false, false, false, false, false, false, false]) rfl (by kernel_rfl) (by kernel_rfl) (by kernel_rfl) (fun _ _ _ h => h) (Sd.of (Mv.refl S18.at') [0] rfl) rfl rfl rfl rfl (fun _ hz => (r_field FI_81_2 rfl (F23.ev 15 rfl) rfl)) fun _ F24 => ?_
       refine g_take (v := .bool x1.d.whole) F24 rfl (i := 5) (listed' := #[true, true, true, true, true, true, false, false, false, false, false, false, false, false, false, false, false, false, false, false, false, false, false, false, false]) rfl (by kernel_rfl) (by kernel_rfl) (by kernel_rfl) (fun _ _ _ h => h) (Sd.of (Mv.refl S18.at') [0] rfl) rfl rfl rfl rfl (fun _ hz => (r_load (cs := [.bool x1.d.whole]) TI_4 rfl (F24.ev 16 rfl) rfl (fun _ => rfl) (elem_sub (f := 2) (cl22 _ hz.kp) [.bool x1.d.whole] rfl))) fun _ F25 => ?_
       refine g_take F25 rfl (i := 6) (listed' := #[true, true, true, true, true, true, true, false, false, false, false, false, false, false, false, false, false, false, false, false, false, false, false, false, false]) rfl (by kernel_rfl) (by kernel_rfl) (by kernel_rfl) (fun _ _ _ h => h) (Sd.of (Mv.refl S18.at') [0] rfl) rfl rfl rfl rfl (fun _ hz => (r_move rfl (F25.ev 17 rfl))) fun _ F26 => ?_
       rcases Bool.eq_false_or_eq_true x1.d.whole with h27 | h27
       · rw [h27] at F26
         refine g_take F26 rfl (i := 7) (listed' := #[true, true, true, true, true, true, true, true, false, false, false, false, false, false, false, false, false, false, false, false, false, false, false, false, false]) rfl (by kernel_rfl) (by kernel_rfl) (by kernel_rfl) (fun _ _ _ h => h) (Sd.of (Mv.refl S18.at') [0] rfl) rfl (wanted_g F26 rfl rfl rfl rfl) rfl rfl (fun _ hz => (r_move rfl (F26.ev 3 rfl))) fun _ F28 => ?_
         refine g_take F28 rfl (i := 8) (listed' := #[true, true, true, true, true, true, true, true, true, false, false, false, false, false, false, false, false, false, false, false, false, false, false, false, false]) rfl (by kernel_rfl) (by kernel_rfl) (by kernel_rfl) (fun _ _ _ h => h) (Sd.of (Mv.refl S18.at') [0] rfl) rfl (wanted_g F28 rfl rfl rfl rfl) rfl rfl (fun _ hz => (r_cmp (b := decide (best < 0)) (.inr (.inr (.inl rfl))) rfl (F28.ev 19 rfl) rfl (dec_of (by omega)))) fun _ F29 => ?_
         refine g_take F29 rfl (i := 9) (listed' := #[true, true, true, true, true, true, true, true, true, true, false, false, false, false, false, false, false, false, false, false, false, false, false, false, false]) rfl (by kernel_rfl) (by kernel_rfl) (by kernel_rfl) (fun _ _ _ h => h) (Sd.of (Mv.refl S18.at') [0] rfl) rfl (wanted_g F29 rfl rfl rfl rfl) rfl rfl (fun _ hz => (r_move rfl (F29.ev 20 rfl))) fun _ F30 => ?_
         rcases Decidable.em (best < 0) with h31 | h31
         · rw [decide_eq_true h31] at F30
           refine g_skip F30 rfl (i := 10) (listed' := #[true, true, true, true, true, true, true, true, true, true, true, false, false, false, false, false, false, false, false, false, false, false, false, false, false]) rfl (by kernel_rfl) (by kernel_rfl) (by kernel_rfl) (fun _ _ _ h => h) (Sd.of (Mv.refl S18.at') [0] rfl) rfl (wanted_g F30 rfl rfl rfl rfl) rfl rfl fun _ F32 => ?_
           refine g_skip F32 rfl (i := 11) (listed' := #[true, true, true, true, true, true, true, true, true, true, true, true, false, false, false, false, false, false, false, false, false, false, false, false, false]) rfl (by kernel_rfl) (by kernel_rfl) (by kernel_rfl) (fun _ _ _ h => h) (Sd.of (Mv.refl S18.at') [0] rfl) rfl (wanted_g F32 rfl rfl rfl rfl) rfl rfl fun _ F33 => ?_
           refine g_skip F33 rfl (i := 12) (listed' := #[true, true, true, true, true, true, true, true, true, true, true, true, true, false, false, false, false, false, false, false, false, false, false, false, false]) rfl (by kernel_rfl) (by kernel_rfl) (by kernel_rfl) (fun _ _ _ h => h) (Sd.of (Mv.refl S18.at') [0] rfl) rfl (wanted_g F33 rfl rfl rfl rfl) rfl rfl fun _ F34 => ?_
           refine g_skip F34 rfl (i := 13) (listed' := #[true, true, true, true, true, true, true, true, true, true, true, true, true, true, false, false, false, false, false, false, false, false, false, false, false]) rfl (by kernel_rfl) (by kernel_rfl) (by kernel_rfl) (fun _ _ _ h => h) (Sd.of (Mv.refl S18.at') [0] rfl) rfl (wanted_g F34 rfl rfl rfl rfl) rfl rfl fun _ F35 => ?_
           refine g_skip F35 rfl (i := 14) (listed' := #[true, true, true, true, true, true, true, true, true, true, true, true, true, true, true, false, false, false, false, false, false, false, false, false, false]) rfl (by kernel_rfl) (by kernel_rfl) (by kernel_rfl) (fun _ _ _ h => h) (Sd.of (Mv.refl S18.at') [0] rfl) rfl (wanted_g F35 rfl rfl rfl rfl) rfl rfl fun _ F36 => ?_
           refine g_skip F36 rfl (i := 15) (listed' := #[true, true, true, true, true, true, true, true, true, true, true, true, true, true, true, true, false, false, false, false, false, false, false, false, false]) rfl (by kernel_rfl) (by kernel_rfl) (by kernel_rfl) (fun _ _ _ h => h) (Sd.of (Mv.refl S18.at') [0] rfl) rfl (wanted_g F36 rfl rfl rfl rfl) rfl rfl fun _ F37 => ?_
           refine g_skip F37 rfl (i := 16) (listed' := #[true, true, true, true, true, true, true, true, true, true, true, true, true, true, true, true, true, false, false, false, false, false, false, false, false]) rfl (by kernel_rfl) (by kernel_rfl) (by kernel_rfl) (fun _ _ _ h => h) (Sd.of (Mv.refl S18.at') [0] rfl) rfl (wanted_g F37 rfl rfl rfl rfl) rfl rfl fun _ F38 => ?_
           refine g_skip F38 rfl (i := 17) (listed' := #[true, true, true, true, true, true, true, true, true, true, true, true, true, true, true, true, true, true, false, false, false, false, false, false, false]) rfl (by kernel_rfl) (by kernel_rfl) (by kernel_rfl) (fun _ _ _ h => h) (Sd.of (Mv.refl S18.at') [0] rfl) rfl (wanted_g F38 rfl rfl rfl rfl) rfl rfl fun _ F39 => ?_
           refine g_skip F39 rfl (i := 18) (listed' := #[true, true, true, true, true, true, true, true, true, true, true, true, true, true, true, true, true, true, true, false, false, false, false, false, false]) rfl (by kernel_rfl) (by kernel_rfl) (by kernel_rfl) (fun _ _ _ h => h) (Sd.of (Mv.refl S18.at') [0] rfl) rfl (wanted_g F39 rfl rfl rfl rfl) rfl rfl fun _ F40 => ?_
           refine g_skip F40 rfl (i := 19) (listed' := #[true, true, true, true, true, true, true, true, true, true, true, true, true, true, true, true, true, true, true, true, false, false, false, false, false]) rfl (by kernel_rfl) (by kernel_rfl) (by kernel_rfl) (fun _ _ _ h => h) (Sd.of (Mv.refl S18.at') [0] rfl) rfl (wanted_g F40 rfl rfl rfl rfl) rfl rfl fun _ F41 => ?_
           refine g_skip F41 rfl (i := 20) (listed' := #[true, true, true, true, true, true, true, true, true, true, true, true, true, true, true, true, true, true, true, true, true, false, false, false, false]) rfl (by kernel_rfl) (by kernel_rfl) (by kernel_rfl) (fun _ _ _ h => h) (Sd.of (Mv.refl S18.at') [0] rfl) rfl (wanted_g F41 rfl rfl rfl rfl) rfl rfl fun _ F42 => ?_
           refine g_skip F42 rfl (i := 21) (listed' := #[true, true, true, true, true, true, true, true, true, true, true, true, true, true, true, true, true, true, true, true, true, true, false, false, false]) rfl (by kernel_rfl) (by kernel_rfl) (by kernel_rfl) (fun _ _ _ h => h) (Sd.of (Mv.refl S18.at') [0] rfl) rfl (wanted_g F42 rfl rfl rfl rfl) rfl rfl fun _ F43 => ?_
           refine g_skip F43 rfl (i := 22) (listed' := #[true, true, true, true, true, true, true, true, true, true, true, true, true, true, true, true, true, true, true, true, true, true, true, false, false]) rfl (by kernel_rfl) (by kernel_rfl) (by kernel_rfl) (fun _ _ _ h => h) (Sd.of (Mv.refl S18.at') [0] rfl) rfl (wanted_g F43 rfl rfl rfl rfl) rfl rfl fun _ F44 => ?_
           refine g_take F44 rfl (i := 23) (listed' := #[true, true, true, true, true, true, true, true, true, true, true, true, true, true, true, true, true, true, true, true, true, true, true, true, false]) rfl (by kernel_rfl) (by kernel_rfl) (by kernel_rfl) (fun _ _ _ h => h) (Sd.of (Mv.refl S18.at') [0] rfl) rfl (wanted_g F44 rfl rfl rfl rfl) rfl rfl (fun _ hz => (r_pick (b := true) rfl (F44.ev 21 rfl) rfl)) fun _ F45 => ?_
           refine g_take F45 rfl (i := 24) (listed' := #[true, true, true, true, true, true, true, true, true, true, true, true, true, true, true, true, true, true, true, true, true, true, true, true, true]) rfl (by kernel_rfl) (by kernel_rfl) (by kernel_rfl) (fun _ _ _ h => h) (Sd.of (Mv.refl S18.at') [0] rfl) rfl rfl rfl rfl (fun _ hz => (r_pick (b := true) rfl (F45.ev 18 rfl) (F45.ev 35 rfl))) fun _ F46 => ?_
           refine wpAnyH_done (by kernel_rfl) (x_normal ?_) _
           exact ⟨Fr.cast (F46.cut rfl) (congrArg (fun zZ => ([(1, .pointer (some ⟨b1, 0, none⟩)), (3, .int .i64 best), (4, .int .i64 ((k : Nat) : Int)), (36, .bool zZ)] : List (Nat × Value))) (show true = (x1.d.whole && (decide (best < 0) || decide (x1.d.seq > x2.d.seq))) from by first | exact bs_1 ‹_› | exact bs_2 ‹_› ‹_› | exact bs_3 ‹_› ‹_›)), (S18.pick [0] rfl)⟩
         · rw [decide_eq_false h31] at F30
           refine g_take F30 rfl (i := 10) (listed' := #[true, true, true, true, true, true, true, true, true, true, true, false, false, false, false, false, false, false, false, false, false, false, false, false, false]) rfl (by kernel_rfl) (by kernel_rfl) (by kernel_rfl) (fun _ _ _ h => h) (Sd.of (Mv.refl S18.at') [0] rfl) rfl (wanted_g F30 rfl rfl rfl rfl) rfl rfl (fun _ hz => (r_field FI_34_0 rfl (F30.ev 1 rfl) rfl)) fun _ F47 => ?_
           refine g_take (v := .slice Q1 Q0 Q2) F47 rfl (i := 11) (listed' := #[true, true, true, true, true, true, true, true, true, true, true, true, false, false, false, false, false, false, false, false, false, false, false, false, false]) rfl (by kernel_rfl) (by kernel_rfl) (by kernel_rfl) (fun _ _ _ h => h) (Sd.of (Mv.refl S18.at') [0] rfl) rfl (wanted_g F47 rfl rfl rfl rfl) rfl rfl (fun _ hz => (r_loadX (hz.bx 0 rfl) TI_31 rfl (F47.ev 22 rfl) rfl rfl (fun _ => rfl) rfl)) fun _ F48 => ?_
           refine g_take F48 rfl (i := 12) (listed' := #[true, true, true, true, true, true, true, true, true, true, true, true, true, false, false, false, false, false, false, false, false, false, false, false, false]) rfl (by kernel_rfl) (by kernel_rfl) (by kernel_rfl) (fun _ _ _ h => h) (Sd.of (Mv.refl S18.at') [0] rfl) rfl (wanted_g F48 rfl rfl rfl rfl) rfl rfl (fun _ hz => (r_move rfl (F48.ev 4 rfl))) fun _ F49 => ?_
           obtain ⟨B50, O50, y50, ad50, hy50, oky50, ln50, cl50⟩ := Rd.atK (Nat.succ_pos _) (Rd.mq Q3 (S1.trans (S6.trans S18))) k (by first | assumption | omega)
           clear ln50
           obtain rfl := Option.some.inj (hx1.symm.trans hy50)
           clear hy50 oky50
           refine g_take F49 rfl (i := 13) (listed' := #[true, true, true, true, true, true, true, true, true, true, true, true, true, true, false, false, false, false, false, false, false, false, false, false, false]) rfl (by kernel_rfl) (by kernel_rfl) (by kernel_rfl) (fun _ _ _ h => h) (Sd.of (Mv.refl S18.at') [0] rfl) rfl (wanted_g F49 rfl rfl rfl rfl) rfl rfl (fun _ hz => (r_indexAddr (i := k) ET_31 rfl ((F49.ev 23 rfl).trans (by rw [ad50])) (F49.ev 24 rfl) (by omega) (by first | assumption | omega))) fun _ F51 => ?_
           refine g_take F51 rfl (i := 14) (listed' := #[true, true, true, true, true, true, true, true, true, true, true, true, true, true, true, false, false, false, false, false, false, false, false, false, false]) rfl (by kernel_rfl) (by kernel_rfl) (by kernel_rfl) (fun _ _ _ h => h) (Sd.of (Mv.refl S18.at') [0] rfl) rfl (wanted_g F51 rfl rfl rfl rfl) rfl rfl (fun _ hz => (r_field FI_81_0 rfl (F51.ev 25 rfl) rfl)) fun _ F52 => ?_
           refine g_take (v := .int .i64 x1.d.seq) F52 rfl (i := 15) (listed' := #[true, true, true, true, true, true, true, true, true, true, true, true, true, true, true, true, false, false, false, false, false, false, false, false, false]) rfl (by kernel_rfl) (by kernel_rfl) (by kernel_rfl) (fun _ _ _ h => h) (Sd.of (Mv.refl S18.at') [0] rfl) rfl (wanted_g F52 rfl rfl rfl rfl) rfl rfl (fun _ hz => (r_load (cs := [.int .i64 x1.d.seq]) TI_3 rfl (F52.ev 26 rfl) rfl (fun _ => rfl) (elem_sub (f := 0) (cl50 _ hz.kp) [.int .i64 x1.d.seq] rfl))) fun _ F53 => ?_
           refine g_take F53 rfl (i := 16) (listed' := #[true, true, true, true, true, true, true, true, true, true, true, true, true, true, true, true, true, false, false, false, false, false, false, false, false]) rfl (by kernel_rfl) (by kernel_rfl) (by kernel_rfl) (fun _ _ _ h => h) (Sd.of (Mv.refl S18.at') [0] rfl) rfl (wanted_g F53 rfl rfl rfl rfl) rfl rfl (fun _ hz => (r_field FI_34_0 rfl (F53.ev 1 rfl) rfl)) fun _ F54 => ?_
           refine g_take (v := .slice Q1 Q0 Q2) F54 rfl (i := 17) (listed' := #[true, true, true, true, true, true, true, true, true, true, true, true, true, true, true, true, true, true, false, false, false, false, false, false, false]) rfl (by kernel_rfl) (by kernel_rfl) (by kernel_rfl) (fun _ _ _ h => h) (Sd.of (Mv.refl S18.at') [0] rfl) rfl (wanted_g F54 rfl rfl rfl rfl) rfl rfl (fun _ hz => (r_loadX (hz.bx 0 rfl) TI_31 rfl (F54.ev 28 rfl) rfl rfl (fun _ => rfl) rfl)) fun _ F55 => ?_
           refine g_take F55 rfl (i := 18) (listed' := #[true, true, true, true, true, true, true, true, true, true, true, true, true, true, true, true, true, true, true, false, false, false, false, false, false]) rfl (by kernel_rfl) (by kernel_rfl) (by kernel_rfl) (fun _ _ _ h => h) (Sd.of (Mv.refl S18.at') [0] rfl) rfl (wanted_g F55 rfl rfl rfl rfl) rfl rfl (fun _ hz => (r_move rfl (F55.ev 3 rfl))) fun _ F56 => ?_
           obtain ⟨B57, O57, y57, ad57, hy57, oky57, ln57, cl57⟩ := Rd.atK (Nat.succ_pos _) (Rd.mq Q3 (S1.trans (S6.trans S18))) (best).toNat (by first | assumption | omega)
           clear ln57
           obtain rfl := Option.some.inj (hx2.symm.trans hy57)
           clear hy57 oky57
           refine g_take F56 rfl (i := 19) (listed' := #[true, true, true, true, true, true, true, true, true, true, true, true, true, true, true, true, true, true, true, true, false, false, false, false, false]) rfl (by kernel_rfl) (by kernel_rfl) (by kernel_rfl) (fun _ _ _ h => h) (Sd.of (Mv.refl S18.at') [0] rfl) rfl (wanted_g F56 rfl rfl rfl rfl) rfl rfl (fun _ hz => (r_indexAddr (i := (best).toNat) ET_31 rfl ((F56.ev 29 rfl).trans (by rw [ad57])) (F56.ev 30 rfl) (by omega) (by first | assumption | omega))) fun _ F58 => ?_
           refine g_take F58 rfl (i := 20) (listed' := #[true, true, true, true, true, true, true, true, true, true, true, true, true, true, true, true, true, true, true, true, true, false, false, false, false]) rfl (by kernel_rfl) (by kernel_rfl) (by kernel_rfl) (fun _ _ _ h => h) (Sd.of (Mv.refl S18.at') [0] rfl) rfl (wanted_g F58 rfl rfl rfl rfl) rfl rfl (fun _ hz => (r_field FI_81_0 rfl (F58.ev 31 rfl) rfl)) fun _ F59 => ?_
           refine g_take (v := .int .i64 x2.d.seq) F59 rfl (i := 21) (listed' := #[true, true, true, true, true, true, true, true, true, true, true, true, true, true, true, true, true, true, true, true, true, true, false, false, false]) rfl (by kernel_rfl) (by kernel_rfl) (by kernel_rfl) (fun _ _ _ h => h) (Sd.of (Mv.refl S18.at') [0] rfl) rfl (wanted_g F59 rfl rfl rfl rfl) rfl rfl (fun _ hz => (r_load (cs := [.int .i64 x2.d.seq]) TI_3 rfl (F59.ev 32 rfl) rfl (fun _ => rfl) (elem_sub (f := 0) (cl57 _ hz.kp) [.int .i64 x2.d.seq] rfl))) fun _ F60 => ?_
           refine g_take F60 rfl (i := 22) (listed' := #[true, true, true, true, true, true, true, true, true, true, true, true, true, true, true, true, true, true, true, true, true, true, true, false, false]) rfl (by kernel_rfl) (by kernel_rfl) (by kernel_rfl) (fun _ _ _ h => h) (Sd.of (Mv.refl S18.at') [0] rfl) rfl (wanted_g F60 rfl rfl rfl rfl) rfl rfl (fun _ hz => (r_cmp (b := decide (x1.d.seq > x2.d.seq)) (.inr (.inr (.inr (.inr (.inl rfl))))) rfl (F60.ev 27 rfl) (F60.ev 33 rfl) (dec_of (by omega)))) fun _ F61 => ?_
           refine g_take F61 rfl (i := 23) (listed' := #[true, true, true, true, true, true, true, true, true, true, true, true, true, true, true, true, true, true, true, true, true, true, true, true, false]) rfl (by kernel_rfl) (by kernel_rfl) (by kernel_rfl) (fun _ _ _ h => h) (Sd.of (Mv.refl S18.at') [0] rfl) rfl (wanted_g F61 rfl rfl rfl rfl) rfl rfl (fun _ hz => (r_pick (b := false) rfl (F61.ev 21 rfl) (F61.ev 34 rfl))) fun _ F62 => ?_
           refine g_take F62 rfl (i := 24) (listed' := #[true, true, true, true, true, true, true, true, true, true, true, true, true, true, true, true, true, true, true, true, true, true, true, true, true]) rfl (by kernel_rfl) (by kernel_rfl) (by kernel_rfl) (fun _ _ _ h => h) (Sd.of (Mv.refl S18.at') [0] rfl) rfl rfl rfl rfl (fun _ hz => (r_pick (b := true) rfl (F62.ev 18 rfl) (F62.ev 35 rfl))) fun _ F63 => ?_
           refine wpAnyH_done (by kernel_rfl) (x_normal ?_) _
           exact ⟨Fr.cast (F63.cut rfl) (congrArg (fun zZ => ([(1, .pointer (some ⟨b1, 0, none⟩)), (3, .int .i64 best), (4, .int .i64 ((k : Nat) : Int)), (36, .bool zZ)] : List (Nat × Value))) (show (decide (x1.d.seq > x2.d.seq)) = (x1.d.whole && (decide (best < 0) || decide (x1.d.seq > x2.d.seq))) from by first | exact bs_1 ‹_› | exact bs_2 ‹_› ‹_› | exact bs_3 ‹_› ‹_›)), (S18.pick [0] rfl)⟩
       · rw [h27] at F26
         refine g_skip F26 rfl (i := 7) (listed' := #[true, true, true, true, true, true, true, true, false, false, false, false, false, false, false, false, false, false, false, false, false, false, false, false, false]) rfl (by kernel_rfl) (by kernel_rfl) (by kernel_rfl) (fun _ _ _ h => h) (Sd.of (Mv.refl S18.at') [0] rfl) rfl (wanted_g F26 rfl rfl rfl rfl) rfl rfl fun _ F64 => ?_
         refine g_skip F64 rfl (i := 8) (listed' := #[true, true, true, true, true, true, true, true, true, false, false, false, false, false, false, false, false, false, false, false, false, false, false, false, false]) rfl (by kernel_rfl) (by kernel_rfl) (by kernel_rfl) (fun _ _ _ h => h) (Sd.of (Mv.refl S18.at') [0] rfl) rfl (wanted_g F64 rfl rfl rfl rfl) rfl rfl fun _ F65 => ?_
         refine g_skip F65 rfl (i := 9) (listed' := #[true, true, true, true, true, true, true, true, true, true, false, false, false, false, false, false, false, false, false, false, false, false, false, false, false]) rfl (by kernel_rfl) (by kernel_rfl) (by kernel_rfl) (fun _ _ _ h => h) (Sd.of (Mv.refl S18.at') [0] rfl) rfl (wanted_g F65 rfl rfl rfl rfl) rfl rfl fun _ F66 => ?_
         refine g_skip F66 rfl (i := 10) (listed' := #[true, true, true, true, true, true, true, true, true, true, true, false, false, false, false, false, false, false, false, false, false, false, false, false, false]) rfl (by kernel_rfl) (by kernel_rfl) (by kernel_rfl) (fun _ _ _ h => h) (Sd.of (Mv.refl S18.at') [0] rfl) rfl (wanted_u F66 rfl rfl rfl) rfl rfl fun _ F67 => ?_
         refine g_skip F67 rfl (i := 11) (listed' := #[true, true, true, true, true, true, true, true, true, true, true, true, false, false, false, false, false, false, false, false, false, false, false, false, false]) rfl (by kernel_rfl) (by kernel_rfl) (by kernel_rfl) (fun _ _ _ h => h) (Sd.of (Mv.refl S18.at') [0] rfl) rfl (wanted_u F67 rfl rfl rfl) rfl rfl fun _ F68 => ?_
         refine g_skip F68 rfl (i := 12) (listed' := #[true, true, true, true, true, true, true, true, true, true, true, true, true, false, false, false, false, false, false, false, false, false, false, false, false]) rfl (by kernel_rfl) (by kernel_rfl) (by kernel_rfl) (fun _ _ _ h => h) (Sd.of (Mv.refl S18.at') [0] rfl) rfl (wanted_u F68 rfl rfl rfl) rfl rfl fun _ F69 => ?_
         refine g_skip F69 rfl (i := 13) (listed' := #[true, true, true, true, true, true, true, true, true, true, true, true, true, true, false, false, false, false, false, false, false, false, false, false, false]) rfl (by kernel_rfl) (by kernel_rfl) (by kernel_rfl) (fun _ _ _ h => h) (Sd.of (Mv.refl S18.at') [0] rfl) rfl (wanted_u F69 rfl rfl rfl) rfl rfl fun _ F70 => ?_
         refine g_skip F70 rfl (i := 14) (listed' := #[true, true, true, true, true, true, true, true, true, true, true, true, true, true, true, false, false, false, false, false, false, false, false, false, false]) rfl (by kernel_rfl) (by kernel_rfl) (by kernel_rfl) (fun _ _ _ h => h) (Sd.of (Mv.refl S18.at') [0] rfl) rfl (wanted_u F70 rfl rfl rfl) rfl rfl fun _ F71 => ?_
         refine g_skip F71 rfl (i := 15) (listed' := #[true, true, true, true, true, true, true, true, true, true, true, true, true, true, true, true, false, false, false, false, false, false, false, false, false]) rfl (by kernel_rfl) (by kernel_rfl) (by kernel_rfl) (fun _ _ _ h => h) (Sd.of (Mv.refl S18.at') [0] rfl) rfl (wanted_u F71 rfl rfl rfl) rfl rfl fun _ F72 => ?_
         refine g_skip F72 rfl (i := 16) (listed' := #[true, true, true, true, true, true, true, true, true, true, true, true, true, true, true, true, true, false, false, false, false, false, false, false, false]) rfl (by kernel_rfl) (by kernel_rfl) (by kernel_rfl) (fun _ _ _ h => h) (Sd.of (Mv.refl S18.at') [0] rfl) rfl (wanted_u F72 rfl rfl rfl) rfl rfl fun _ F73 => ?_
         refine g_skip F73 rfl (i := 17) (listed' := #[true, true, true, true, true, true, true, true, true, true, true, true, true, true, true, true, true, true, false, false, false, false, false, false, false]) rfl (by kernel_rfl) (by kernel_rfl) (by kernel_rfl) (fun _ _ _ h => h) (Sd.of (Mv.refl S18.at') [0] rfl) rfl (wanted_u F73 rfl rfl rfl) rfl rfl fun _ F74 => ?_
         refine g_skip F74 rfl (i := 18) (listed' := #[true, true, true, true, true, true, true, true, true, true, true, true, true, true, true, true, true, true, true, false, false, false, false, false, false]) rfl (by kernel_rfl) (by kernel_rfl) (by kernel_rfl) (fun _ _ _ h => h) (Sd.of (Mv.refl S18.at') [0] rfl) rfl (wanted_u F74 rfl rfl rfl) rfl rfl fun _ F75 => ?_
         refine g_skip F75 rfl (i := 19) (listed' := #[true, true, true, true, true, true, true, true, true, true, true, true, true, true, true, true, true, true, true, true, false, false, false, false, false]) rfl (by kernel_rfl) (by kernel_rfl) (by kernel_rfl) (fun _ _ _ h => h) (Sd.of (Mv.refl S18.at') [0] rfl) rfl (wanted_u F75 rfl rfl rfl) rfl rfl fun _ F76 => ?_
         refine g_skip F76 rfl (i := 20) (listed' := #[true, true, true, true, true, true, true, true, true, true, true, true, true, true, true, true, true, true, true, true, true, false, false, false, false]) rfl (by kernel_rfl) (by kernel_rfl) (by kernel_rfl) (fun _ _ _ h => h) (Sd.of (Mv.refl S18.at') [0] rfl) rfl (wanted_u F76 rfl rfl rfl) rfl rfl fun _ F77 => ?_
         refine g_skip F77 rfl (i := 21) (listed' := #[true, true, true, true, true, true, true, true, true, true, true, true, true, true, true, true, true, true, true, true, true, true, false, false, false]) rfl (by kernel_rfl) (by kernel_rfl) (by kernel_rfl) (fun _ _ _ h => h) (Sd.of (Mv.refl S18.at') [0] rfl) rfl (wanted_u F77 rfl rfl rfl) rfl rfl fun _ F78 => ?_
         refine g_skip F78 rfl (i := 22) (listed' := #[true, true, true, true, true, true, true, true, true, true, true, true, true, true, true, true, true, true, true, true, true, true, true, false, false]) rfl (by kernel_rfl) (by kernel_rfl) (by kernel_rfl) (fun _ _ _ h => h) (Sd.of (Mv.refl S18.at') [0] rfl) rfl (wanted_u F78 rfl rfl rfl) rfl rfl fun _ F79 => ?_
         refine g_skip F79 rfl (i := 23) (listed' := #[true, true, true, true, true, true, true, true, true, true, true, true, true, true, true, true, true, true, true, true, true, true, true, true, false]) rfl (by kernel_rfl) (by kernel_rfl) (by kernel_rfl) (fun _ _ _ h => h) (Sd.of (Mv.refl S18.at') [0] rfl) rfl (wanted_g F79 rfl rfl rfl rfl) rfl rfl fun _ F80 => ?_
         refine g_take F80 rfl (i := 24) (listed' := #[true, true, true, true, true, true, true, true, true, true, true, true, true, true, true, true, true, true, true, true, true, true, true, true, true]) rfl (by kernel_rfl) (by kernel_rfl) (by kernel_rfl) (fun _ _ _ h => h) (Sd.of (Mv.refl S18.at') [0] rfl) rfl rfl rfl rfl (fun _ hz => (r_pick (b := false) rfl (F80.ev 18 rfl) rfl)) fun _ F81 => ?_
         refine wpAnyH_done (by kernel_rfl) (x_normal ?_) _
         exact ⟨Fr.cast (F81.cut rfl) (congrArg (fun zZ => ([(1, .pointer (some ⟨b1, 0, none⟩)), (3, .int .i64 best), (4, .int .i64 ((k : Nat) : Int)), (36, .bool zZ)] : List (Nat × Value))) (show false = (x1.d.whole && (decide (best < 0) || decide (x1.d.seq > x2.d.seq))) from by first | exact bs_1 ‹_› | exact bs_2 ‹_› ‹_› | exact bs_3 ‹_› ‹_›)), (S18.pick [0] rfl)⟩
     · rintro a82 w82 ⟨F82, S82⟩
       refine x_normal (x_condb (b := (x1.d.whole && (decide (best < 0) || decide (x1.d.seq > x2.d.seq)))) (F82.ev 36 rfl) (fun h83 => ?_) (fun h83 => ?_))
       · skip
         refine wp_region_lit (l_op (f_mv F82 rfl rfl rfl rfl rfl fun _ F84 => ?_))
         refine l_op (f_as F84 rfl rfl rfl rfl rfl fun _ F85 => ?_)
         refine s_end (x_block_normal (x_normal (wp_region_lit (l_op (f_mv F85 rfl rfl rfl rfl rfl fun _ F86 => ?_)))))
         refine l_op (f_val F86 rfl rfl (r_add (z := ((k + 1 : Nat) : Int)) rfl (F86.ev 10 rfl) rfl (by first | rfl | omega) ⟨by first | omega | (unfold i64ok at *; omega), by first | omega | (unfold i64ok at *; omega)⟩) rfl fun _ F87 => ?_)
         refine l_op (f_as F87 rfl rfl rfl rfl rfl fun _ F88 => ?_)
         refine s_end ?_
         refine x_normal ⟨k + 1, by omega, ((k : Nat) : Int), F88.cut rfl, ((S6.trans S82).pick [0] rfl), by omega, by first | exact bestTo_t hk_1 hx1 hx2 ‹_› | exact bestTo_f hk_1 hx1 hx2 ‹_›, by omega⟩
       · skip
         refine wp_skip (x_block_normal (x_normal (wp_region_lit (l_op (f_mv F82 rfl rfl rfl rfl rfl fun _ F89 => ?_)))))
         refine l_op (f_val F89 rfl rfl (r_add (z := ((k + 1 : Nat) : Int)) rfl (F89.ev 10 rfl) rfl (by first | rfl | omega) ⟨by first | omega | (unfold i64ok at *; omega), by first | omega | (unfold i64ok at *; omega)⟩) rfl fun _ F90 => ?_)
         refine l_op (f_as F90 rfl rfl rfl rfl rfl fun _ F91 => ?_)
         refine s_end ?_
         refine x_normal ⟨k + 1, by omega, best, F91.cut rfl, ((S6.trans S82).pick [0] rfl), by omega, by first | exact bestTo_t hk_1 hx1 hx2 ‹_› | exact bestTo_f hk_1 hx1 hx2 ‹_›, by omega⟩
   · skip
     refine wp_exit (x_then_exit (x_then_exit (x_block_here (x_normal (wp_seq (wp_region_lit (l_op (f_mv F11 rfl rfl rfl rfl rfl fun _ F92 => ?_))))))))
     refine l_op (f_as F92 rfl rfl rfl rfl rfl fun _ F93 => ?_)
     refine s_end (x_normal (wp_ret ?_))
     refine x_done (v := .int .i64 best) F93 (results_1 Tryz.results38 (.tmp (F93.ev 2 rfl))) ?_
     exact ⟨(by rw [(show best = (bestTo (d.slots.map SlotH.d) d.slots.length) from by rw [hk_1, show k = d.slots.length by omega])]), (Mv.pick (S1.trans S6) [] rfl), by have := bestTo_bd (d.slots.map SlotH.d) d.slots.length; unfold i64ok; omega⟩
theorem spec_DiskOk_c {w : World} {H : Nat → Prop} {d : DiskH} {Q1 : Option Addr} {Q0 Q2 : Nat} (Q7 : Rd 3 encSlot okSlot H w (.slice Q1 Q0 Q2) d.slots) (Q9 : NRd inSlot H w d.slots) (Q6 : okS d.journal.text) (Q8 : i64ok d.journal.sure) :
    Calls Tryz.prog 37 #[.agg #[.slice Q1 Q0 Q2, .string d.journal.text, .int .i64 d.journal.sure]] w fun e w' => e = .returned (.bool (diskOk (d.slots.map SlotH.d) d.journal)) ∧ Mv [] w [] w' := by
 have uU : True := (fun _ => trivial) Q8
 clear uU
 have Q5 : Rd 3 encSlot okSlot (V H w []) w (.slice Q1 Q0 Q2) d.slots := Rd.start Q7 (fun _ _ => fps_nil _)
 obtain ⟨Q3, Q10, Q11, Q12⟩ := Rd.inv Q7
 have Q4 : NRd inSlot (V H w []) w d.slots := NRd.start Q9 (fun _ _ => fps_nil _)
 refine calls_enter 45 Tryz.func37 rfl Tryz.ntmps37 (Nat.le_of_ble_eq_true rfl) (fun _ F0i => ?_)
 have F0 : Fr 45 [(0, .agg #[.slice Q1 Q0 Q2, .string d.journal.text, .int .i64 d.journal.sure])] _ := F0i
 clear F0i
 refine wp_seq (wp_region_lit (l_op (f_box F0 (At.nil w) rfl rfl rfl (F0.ev 0 rfl) rfl rfl fun b1 _ w1 F2 S1 => ?_)))
 refine l_op (f_val F2 rfl rfl (r_assign rfl rfl) rfl fun _ F3 => ?_)
 refine s_end (x_normal (wp_seq (wp_seq (wp_region_lit (l_op (f_val F3 rfl rfl (r_assign rfl rfl) rfl fun _ F4 => ?_))))))
 refine s_end (x_normal (wp_block ?_))
 refine x_loop (fun (k : Nat) aZ wZ => Fr 45 [(3, .int .i64 ((k : Nat) : Int)), (1, .pointer (some ⟨b1, 0, none⟩))] aZ ∧ Mv [bx b1 [.slice Q1 Q0 Q2, .string d.journal.text, .int .i64 d.journal.sure] 34] w1 [bx b1 [.slice Q1 Q0 Q2, .string d.journal.text, .int .i64 d.journal.sure] 34] wZ ∧ (k ≤ Q0) ∧ (∀ j, j < k → ∀ c, nth d.slots j = some c → slotBad c.d = false)) (fun (k : Nat) => Q0 - k) (0) ?_ ?_
 · exact ⟨F4.cut rfl, (Mv.refl S1.at'), by omega, all_none'⟩
 · rintro k a5 w5 ⟨F5, S5, hk_0, hk_1⟩
   refine wp_seq (wp_seq (wp_region_lit (l_op (f_mv F5 rfl rfl rfl rfl rfl fun _ F6 => ?_))))
   refine l_op (f_val F6 rfl rfl (r_field FI_34_0 rfl (F6.ev 1 rfl) rfl) rfl fun _ F7 => ?_)
   refine l_op (f_val (v := .slice Q1 Q0 Q2) F7 rfl rfl (r_loadB S5.at' 0 TI_31 rfl rfl (F7.ev 6 rfl) rfl rfl (fun _ => rfl) rfl) rfl fun _ F8 => ?_)
   refine l_op (f_val F8 rfl rfl (r_len Tryz.underlying31 rfl (F8.ev 7 rfl)) rfl fun _ F9 => ?_)
   refine l_op (f_val F9 rfl rfl (r_cmp (b := decide (k < Q0)) (.inr (.inr (.inl rfl))) rfl (F9.ev 5 rfl) (F9.ev 8 rfl) (dec_of (by omega))) rfl fun _ F10 => ?_)
   refine s_end (x_normal (x_cond (p := k < Q0) (F10.ev 9 rfl) (fun h11 => ?_) (fun h11 => ?_)))
   · skip
     refine wp_skip (x_normal (wp_seq (wp_block (wp_seq (wp_region_lit (l_op (f_val F10 rfl rfl (r_field FI_34_0 rfl (F10.ev 1 rfl) rfl) rfl fun _ F12 => ?_)))))))
     refine l_op (f_val (v := .slice Q1 Q0 Q2) F12 rfl rfl (r_loadB S5.at' 0 TI_31 rfl rfl (F12.ev 12 rfl) rfl rfl (fun _ => rfl) rfl) rfl fun _ F13 => ?_)
     refine l_op (f_mv F13 rfl rfl rfl rfl rfl fun _ F14 => ?_)
     obtain ⟨B15, O15, x1, ad15, hx1, okx1, ln15, cl15⟩ := Rd.at (Rd.mq Q5 (S1.trans S5)) k (by first | assumption | omega)
     clear ln15
     have oj16 := okx1
     unfold okSlot at oj16
     have VI17 : Rd 2 encC okC (V H w [bx b1 [.slice Q1 Q0 Q2, .string d.journal.text, .int .i64 d.journal.sure] 34]) w5 (.slice x1.a0 x1.n0 x1.c0) x1.d.cells := NRd.get (NRd.mv Q4 (S1.trans S5)) hx1 (j := 0) rfl
     obtain ⟨ln17, le17, mx17, ni17⟩ := Rd.inv VI17
     refine l_op (f_val F14 rfl rfl (r_indexAddr (i := k) ET_31 rfl ((F14.ev 13 rfl).trans (by rw [ad15])) (F14.ev 14 rfl) (by omega) (by first | assumption | omega)) rfl fun _ F18 => ?_)
     refine l_op (f_val (v := .agg #[.int .i64 x1.d.seq, .slice x1.a0 x1.n0 x1.c0, .bool x1.d.whole]) F18 rfl rfl (r_load (cs := [.int .i64 x1.d.seq, .slice x1.a0 x1.n0 x1.c0, .bool x1.d.whole]) TI_81 rfl (F18.ev 15 rfl) rfl (fun h => nomatch h) (elem_sub (f := 0) cl15 [.int .i64 x1.d.seq, .slice x1.a0 x1.n0 x1.c0, .bool x1.d.whole] rfl)) rfl fun _ F19 => ?_)
     refine l_op (f_alloc F19 S5.at' ZI_81 rfl rfl rfl rfl rfl fun b20 _ w20 F21 S20 => ?_)
     refine l_op (s_store S20.at' 0 TI_81 rfl rfl rfl rfl rfl (F21.ev 4 rfl) (F21.ev 16 rfl) rfl rfl rfl rfl rfl fun w22 S22 => ?_)
     have T23 : Mv _ _ [bx b20 [.int .i64 x1.d.seq, .slice x1.a0 x1.n0 x1.c0, .bool x1.d.whole] 81, bx b1 [.slice Q1 Q0 Q2, .string d.journal.text, .int .i64 d.journal.sure] 34] _ := S22
     refine s_end (x_normal (wp_seq (wp_region_lit (l_op (f_val F21 rfl rfl (r_field FI_81_2 rfl (F21.ev 4 rfl) rfl) rfl fun _ F24 => ?_)))))
     refine l_op (f_val (v := .bool x1.d.whole) F24 rfl rfl (r_loadB T23.at' 0 TI_4 rfl rfl (F24.ev 17 rfl) rfl rfl (fun _ => rfl) rfl) rfl fun _ F25 => ?_)
     refine l_op (f_mv F25 rfl rfl rfl rfl rfl fun _ F26 => ?_)
     rcases Bool.eq_false_or_eq_true x1.d.whole with h27 | h27
     · rw [h27] at F26
       refine l_op (f_val F26 (wanted_g F26 rfl rfl rfl rfl) rfl (r_field FI_81_0 rfl (F26.ev 4 rfl) rfl) rfl fun _ F28 => ?_)
       refine l_op (f_val (v := .int .i64 x1.d.seq) F28 (wanted_g F28 rfl rfl rfl rfl) rfl (r_loadB T23.at' 0 TI_3 rfl rfl (F28.ev 20 rfl) rfl rfl (fun _ => rfl) rfl) rfl fun _ F29 => ?_)
       refine l_op (f_call F29 CF_87 (wanted_g F29 rfl rfl rfl rfl) rfl rfl rfl (lc (F29.ev 21 rfl) (lc rfl (lc rfl rfl))) (spec_l01In_c (H := fun _ => True) (x := x1.d.seq) (least := 0) (most := 99999) (by first | assumption | exact ⟨by omega, by omega⟩ | (unfold i64ok at *; omega)) (by first | assumption | exact ⟨by omega, by omega⟩ | (unfold i64ok at *; omega)) (by first | assumption | exact ⟨by omega, by omega⟩ | (unfold i64ok at *; omega))) ?_)
       rintro _ w30 ⟨rfl, m30⟩
       refine ⟨_, rfl, fun _ F31 => ?_⟩
       have S30 := At.frame0 T23.at' m30
       clear m30
       refine l_op (f_val F31 (wanted_g F31 rfl rfl rfl rfl) rfl (r_not rfl (F31.ev 22 rfl)) rfl fun _ F32 => ?_)
       refine l_op (f_mv F32 (wanted_g F32 rfl rfl rfl rfl) rfl rfl rfl rfl fun _ F33 => ?_)
       rcases Bool.eq_false_or_eq_true (!(inB x1.d.seq 0 99999)) with h34 | h34
       · rw [h34] at F33
         refine l_op (f_skip F33 (wanted_g F33 rfl rfl rfl rfl) rfl rfl fun _ F35 => ?_)
         refine l_op (f_skip F35 (wanted_g F35 rfl rfl rfl rfl) rfl rfl fun _ F36 => ?_)
         refine l_op (f_skip F36 (wanted_g F36 rfl rfl rfl rfl) rfl rfl fun _ F37 => ?_)
         refine l_op (f_skip F37 (wanted_g F37 rfl rfl rfl rfl) rfl rfl fun _ F38 => ?_)
         refine l_op (f_val F38 (wanted_g F38 rfl rfl rfl rfl) rfl (r_pick (b := true) rfl (F38.ev 24 rfl) rfl) rfl fun _ F39 => ?_)
         refine l_op (f_val F39 rfl rfl (r_pick (b := true) rfl (F39.ev 19 rfl) (F39.ev 29 rfl)) rfl fun _ F40 => ?_)
         refine s_end (x_normal (wp_cond_true (F40.ev 30 rfl) (wp_seq (wp_region_lit (l_op (f_val F40 rfl rfl (r_assign rfl rfl) rfl fun _ F41 => ?_))))))
         refine s_end (x_normal (wp_ret (x_block_ret (x_then_ret (x_then_ret (x_block_ret (x_then_ret ?_)))))))
         refine x_done (v := .bool false) F41 (results_1 Tryz.results37 (.tmp (F41.ev 2 rfl))) ?_
         exact ⟨(by rw [(show false = (diskOk (d.slots.map SlotH.d) d.journal) from by first | exact dk_bad hx1 (by first | exact sb_3 ‹_› ‹_› | exact sb_4 ‹_› ‹_›) | exact dk_bad hx2 (by first | exact sb_3 ‹_› ‹_› | exact sb_4 ‹_› ‹_›) | exact dk_bad hx3 (by first | exact sb_3 ‹_› ‹_› | exact sb_4 ‹_› ‹_›) | exact dk_len Q3 ‹_› | exact dk_best ‹_› | exact dk_done2 Q3 ‹_› ‹_› (fun i hi c hc => hk_1 i (by omega) c hc))]), (Mv.pick (S1.trans (S5.trans (S20.trans (T23.trans S30)))) [] rfl)⟩
       · rw [h34] at F33
         refine l_op (f_val F33 (wanted_g F33 rfl rfl rfl rfl) rfl (r_field FI_81_1 rfl (F33.ev 4 rfl) rfl) rfl fun _ F42 => ?_)
         refine l_op (f_val (v := .slice x1.a0 x1.n0 x1.c0) F42 (wanted_g F42 rfl rfl rfl rfl) rfl (r_loadB S30.at' 0 TI_28 rfl rfl (F42.ev 25 rfl) rfl rfl (fun _ => rfl) rfl) rfl fun _ F43 => ?_)
         refine l_op (f_call F43 CF_88 (wanted_g F43 rfl rfl rfl rfl) rfl rfl rfl (lc (F43.ev 26 rfl) rfl) (spec_StoreOk_c (s := x1.d.cells) (Rd.mq VI17 (S20.trans (T23.trans S30)))) ?_)
         rintro _ w44 ⟨rfl, m44⟩
         refine ⟨_, rfl, fun _ F45 => ?_⟩
         have S44 := At.frame0 S30.at' m44
         clear m44
         refine l_op (f_val F45 (wanted_g F45 rfl rfl rfl rfl) rfl (r_not rfl (F45.ev 27 rfl)) rfl fun _ F46 => ?_)
         refine l_op (f_val F46 (wanted_g F46 rfl rfl rfl rfl) rfl (r_pick (b := false) rfl (F46.ev 24 rfl) (F46.ev 28 rfl)) rfl fun _ F47 => ?_)
         refine l_op (f_val F47 rfl rfl (r_pick (b := true) rfl (F47.ev 19 rfl) (F47.ev 29 rfl)) rfl fun _ F48 => ?_)
         refine s_end (x_normal (x_condb (b := (!(storeOk x1.d.cells))) (F48.ev 30 rfl) (fun h49 => ?_) (fun h49 => ?_)))
         · skip
           refine wp_seq (wp_region_lit (l_op (f_val F48 rfl rfl (r_assign rfl rfl) rfl fun _ F50 => ?_)))
           refine s_end (x_normal (wp_ret (x_block_ret (x_then_ret (x_then_ret (x_block_ret (x_then_ret ?_)))))))
           refine x_done (v := .bool false) F50 (results_1 Tryz.results37 (.tmp (F50.ev 2 rfl))) ?_
           exact ⟨(by rw [(show false = (diskOk (d.slots.map SlotH.d) d.journal) from by first | exact dk_bad hx1 (by first | exact sb_3 ‹_› ‹_› | exact sb_4 ‹_› ‹_›) | exact dk_bad hx2 (by first | exact sb_3 ‹_› ‹_› | exact sb_4 ‹_› ‹_›) | exact dk_bad hx3 (by first | exact sb_3 ‹_› ‹_› | exact sb_4 ‹_› ‹_›) | exact dk_len Q3 ‹_› | exact dk_best ‹_› | exact dk_done2 Q3 ‹_› ‹_› (fun i hi c hc => hk_1 i (by omega) c hc))]), (Mv.pick (S1.trans (S5.trans (S20.trans (T23.trans (S30.trans S44))))) [] rfl)⟩
         · skip
           refine wp_skip (x_block_normal (x_normal (wp_region_lit (l_op (f_mv F48 rfl rfl rfl rfl rfl fun _ F51 => ?_)))))
           refine l_op (f_val F51 rfl rfl (r_add (z := ((k + 1 : Nat) : Int)) rfl (F51.ev 10 rfl) rfl (by first | rfl | omega) ⟨by first | omega | (unfold i64ok at *; omega), by first | omega | (unfold i64ok at *; omega)⟩) rfl fun _ F52 => ?_)
           refine l_op (f_as F52 rfl rfl rfl rfl rfl fun _ F53 => ?_)
           refine s_end ?_
           refine x_normal ⟨k + 1, by omega, F53.cut rfl, ((S5.trans (S20.trans (T23.trans (S30.trans S44)))).pick [1] rfl), by omega, by first | (exact all_stepP hk_1 (fun c hc => by obtain rfl := Option.some.inj (hx1.symm.trans hc); first | exact sb_1 ‹_› | exact sb_2 ‹_› ‹_›)) | (exact all_stepP hk_1 (fun c hc => by obtain rfl := Option.some.inj (hx2.symm.trans hc); first | exact sb_1 ‹_› | exact sb_2 ‹_› ‹_›)) | (exact all_stepP hk_1 (fun c hc => by obtain rfl := Option.some.inj (hx3.symm.trans hc); first | exact sb_1 ‹_› | exact sb_2 ‹_› ‹_›))⟩
     · rw [h27] at F26
       refine l_op (f_skip F26 (wanted_g F26 rfl rfl rfl rfl) rfl rfl fun _ F54 => ?_)
       refine l_op (f_skip F54 (wanted_g F54 rfl rfl rfl rfl) rfl rfl fun _ F55 => ?_)
       refine l_op (f_skip F55 (wanted_g F55 rfl rfl rfl rfl) rfl rfl fun _ F56 => ?_)
       refine l_op (f_skip F56 (wanted_g F56 rfl rfl rfl rfl) rfl rfl fun _ F57 => ?_)
       refine l_op (f_skip F57 (wanted_g F57 rfl rfl rfl rfl) rfl rfl fun _ F58 => ?_)
       refine l_op (f_skip F58 (wanted_u F58 rfl rfl rfl) rfl rfl fun _ F59 => ?_)
       refine l_op (f_skip F59 (wanted_u F59 rfl rfl rfl) rfl rfl fun _ F60 => ?_)
       refine l_op (f_skip F60 (wanted_u F60 rfl rfl rfl) rfl rfl fun _ F61 => ?_)
       refine l_op (f_skip F61 (wanted_u F61 rfl rfl rfl) rfl rfl fun _ F62 => ?_)
       refine l_op (f_skip F62 (wanted_g F62 rfl rfl rfl rfl) rfl rfl fun _ F63 => ?_)
       refine l_op (f_val F63 rfl rfl (r_pick (b := false) rfl (F63.ev 19 rfl) rfl) rfl fun _ F64 => ?_)
       refine s_end (x_normal (wp_cond_false (F64.ev 30 rfl) (wp_skip (x_block_normal (x_normal (wp_region_lit (l_op (f_mv F64 rfl rfl rfl rfl rfl fun _ F65 => ?_))))))))
       refine l_op (f_val F65 rfl rfl (r_add (z := ((k + 1 : Nat) : Int)) rfl (F65.ev 10 rfl) rfl (by first | rfl | omega) ⟨by first | omega | (unfold i64ok at *; omega), by first | omega | (unfold i64ok at *; omega)⟩) rfl fun _ F66 => ?_)
       refine l_op (f_as F66 rfl rfl rfl rfl rfl fun _ F67 => ?_)
       refine s_end ?_
       refine x_normal ⟨k + 1, by omega, F67.cut rfl, ((S5.trans (S20.trans T23)).pick [1] rfl), by omega, by first | (exact all_stepP hk_1 (fun c hc => by obtain rfl := Option.some.inj (hx1.symm.trans hc); first | exact sb_1 ‹_› | exact sb_2 ‹_› ‹_›)) | (exact all_stepP hk_1 (fun c hc => by obtain rfl := Option.some.inj (hx2.symm.trans hc); first | exact sb_1 ‹_› | exact sb_2 ‹_› ‹_›)) | (exact all_stepP hk_1 (fun c hc => by obtain rfl := Option.some.inj (hx3.symm.trans hc); first | exact sb_1 ‹_› | exact sb_2 ‹_› ‹_›))⟩
   · skip
     refine wp_exit (x_then_exit (x_then_exit (x_block_here (x_normal (wp_seq (wp_region_lit (l_op (f_val F10 rfl rfl (r_field FI_34_0 rfl (F10.ev 1 rfl) rfl) rfl fun _ F68 => ?_))))))))
     refine l_op (f_val (v := .slice Q1 Q0 Q2) F68 rfl rfl (r_loadB S5.at' 0 TI_31 rfl rfl (F68.ev 31 rfl) rfl rfl (fun _ => rfl) rfl) rfl fun _ F69 => ?_)
     refine l_op (f_val F69 rfl rfl (r_len Tryz.underlying31 rfl (F69.ev 32 rfl)) rfl fun _ F70 => ?_)
     refine l_op (f_val F70 rfl rfl (r_cmp (b := decide (Q0 = 2)) (.inl rfl) rfl (F70.ev 33 rfl) rfl (dec_of (by omega))) rfl fun _ F71 => ?_)
     refine l_op (f_mv F71 rfl rfl rfl rfl rfl fun _ F72 => ?_)
     rcases Decidable.em (Q0 = 2) with h73 | h73
     · rw [decide_eq_true h73] at F72
       refine l_op (f_val (v := .agg #[.slice Q1 Q0 Q2, .string d.journal.text, .int .i64 d.journal.sure]) F72 (wanted_g F72 rfl rfl rfl rfl) rfl (r_loadB S5.at' 0 TI_34 rfl rfl (F72.ev 1 rfl) rfl rfl (fun h => nomatch h) rfl) rfl fun _ F74 => ?_)
       refine l_op (f_call F74 CF_38 (wanted_g F74 rfl rfl rfl rfl) rfl rfl rfl (lc (F74.ev 36 rfl) rfl) (spec_BestSlot_c (d := d) (Rd.mq Q5 (S1.trans S5)) (NRd.mv Q4 (S1.trans S5)) Q6 (by first | assumption | exact ⟨by omega, by omega⟩ | (unfold i64ok at *; omega) | (simp only [i64ok]; omega))) ?_)
       rintro _ w75 ⟨rfl, m75, q75_0⟩
       refine ⟨_, rfl, fun _ F76 => ?_⟩
       have S75 := At.frame0 S5.at' m75
       clear m75
       refine l_op (f_val F76 (wanted_g F76 rfl rfl rfl rfl) rfl (r_cmp (b := decide ((bestTo (d.slots.map SlotH.d) d.slots.length) ≥ 0)) (.inr (.inr (.inr (.inr (.inr rfl))))) rfl (F76.ev 37 rfl) rfl (dec_of (by omega))) rfl fun _ F77 => ?_)
       refine l_op (f_val F77 rfl rfl (r_pick (b := true) rfl (F77.ev 35 rfl) (F77.ev 38 rfl)) rfl fun _ F78 => ?_)
       refine l_op (f_mv F78 rfl rfl rfl rfl rfl fun _ F79 => ?_)
       rcases Decidable.em ((bestTo (d.slots.map SlotH.d) d.slots.length) ≥ 0) with h80 | h80
       · rw [decide_eq_true h80] at F79
         refine l_op (f_val F79 (wanted_g F79 rfl rfl rfl rfl) rfl (r_field FI_34_1 rfl (F79.ev 1 rfl) rfl) rfl fun _ F81 => ?_)
         refine l_op (f_val (v := .agg #[.string d.journal.text, .int .i64 d.journal.sure]) F81 (wanted_g F81 rfl rfl rfl rfl) rfl (r_loadB S75.at' 0 TI_32 rfl rfl (F81.ev 41 rfl) rfl rfl (fun h => nomatch h) rfl) rfl fun _ F82 => ?_)
         refine l_op (f_call F82 CF_82 (wanted_g F82 rfl rfl rfl rfl) rfl rfl rfl (lc (F82.ev 42 rfl) rfl) (spec_JournalOk_c (H := fun _ => True) (j := d.journal) Q6 (by first | assumption | exact ⟨by omega, by omega⟩ | (unfold i64ok at *; omega) | (simp only [i64ok]; omega))) ?_)
         rintro _ w83 ⟨rfl, m83⟩
         refine ⟨_, rfl, fun _ F84 => ?_⟩
         have S83 := At.frame0 S75.at' m83
         clear m83
         refine l_op (f_val F84 rfl rfl (r_pick (b := true) rfl (F84.ev 40 rfl) (F84.ev 43 rfl)) rfl fun _ F85 => ?_)
         refine l_op (f_as F85 rfl rfl rfl rfl rfl fun _ F86 => ?_)
         have T87 : Mv _ _ [bx b1 [.slice Q1 Q0 Q2, .string d.journal.text, .int .i64 d.journal.sure] 34] _ := S83
         refine s_end (x_normal (wp_ret ?_))
         refine x_done (v := .bool (jouOk d.journal)) F86 (results_1 Tryz.results37 (.tmp (F86.ev 2 rfl))) ?_
         exact ⟨(by rw [(show (jouOk d.journal) = (diskOk (d.slots.map SlotH.d) d.journal) from by first | exact dk_bad hx1 (by first | exact sb_3 ‹_› ‹_› | exact sb_4 ‹_› ‹_›) | exact dk_bad hx2 (by first | exact sb_3 ‹_› ‹_› | exact sb_4 ‹_› ‹_›) | exact dk_bad hx3 (by first | exact sb_3 ‹_› ‹_› | exact sb_4 ‹_› ‹_›) | exact dk_len Q3 ‹_› | exact dk_best ‹_› | exact dk_done2 Q3 ‹_› ‹_› (fun i hi c hc => hk_1 i (by omega) c hc))]), (Mv.pick (S1.trans (S5.trans (S75.trans T87))) [] rfl)⟩
       · rw [decide_eq_false h80] at F79
         refine l_op (f_skip F79 (wanted_g F79 rfl rfl rfl rfl) rfl rfl fun _ F88 => ?_)
         refine l_op (f_skip F88 (wanted_g F88 rfl rfl rfl rfl) rfl rfl fun _ F89 => ?_)
         refine l_op (f_skip F89 (wanted_g F89 rfl rfl rfl rfl) rfl rfl fun _ F90 => ?_)
         refine l_op (f_val F90 rfl rfl (r_pick (b := false) rfl (F90.ev 40 rfl) rfl) rfl fun _ F91 => ?_)
         refine l_op (f_as F91 rfl rfl rfl rfl rfl fun _ F92 => ?_)
         refine s_end (x_normal (wp_ret ?_))
         refine x_done (v := .bool false) F92 (results_1 Tryz.results37 (.tmp (F92.ev 2 rfl))) ?_
         exact ⟨(by rw [(show false = (diskOk (d.slots.map SlotH.d) d.journal) from by first | exact dk_bad hx1 (by first | exact sb_3 ‹_› ‹_› | exact sb_4 ‹_› ‹_›) | exact dk_bad hx2 (by first | exact sb_3 ‹_› ‹_› | exact sb_4 ‹_› ‹_›) | exact dk_bad hx3 (by first | exact sb_3 ‹_› ‹_› | exact sb_4 ‹_› ‹_›) | exact dk_len Q3 ‹_› | exact dk_best ‹_› | exact dk_done2 Q3 ‹_› ‹_› (fun i hi c hc => hk_1 i (by omega) c hc))]), (Mv.pick (S1.trans (S5.trans S75)) [] rfl)⟩
     · rw [decide_eq_false h73] at F72
       refine l_op (f_skip F72 (wanted_g F72 rfl rfl rfl rfl) rfl rfl fun _ F93 => ?_)
       refine l_op (f_skip F93 (wanted_g F93 rfl rfl rfl rfl) rfl rfl fun _ F94 => ?_)
       refine l_op (f_skip F94 (wanted_g F94 rfl rfl rfl rfl) rfl rfl fun _ F95 => ?_)
       refine l_op (f_val F95 rfl rfl (r_pick (b := false) rfl (F95.ev 35 rfl) rfl) rfl fun _ F96 => ?_)
       refine l_op (f_mv F96 rfl rfl rfl rfl rfl fun _ F97 => ?_)
       refine l_op (f_skip F97 (wanted_g F97 rfl rfl rfl rfl) rfl rfl fun _ F98 => ?_)
       refine l_op (f_skip F98 (wanted_g F98 rfl rfl rfl rfl) rfl rfl fun _ F99 => ?_)
       refine l_op (f_skip F99 (wanted_g F99 rfl rfl rfl rfl) rfl rfl fun _ F100 => ?_)
       refine l_op (f_val F100 rfl rfl (r_pick (b := false) rfl (F100.ev 40 rfl) rfl) rfl fun _ F101 => ?_)
       refine l_op (f_as F101 rfl rfl rfl rfl rfl fun _ F102 => ?_)
       refine s_end (x_normal (wp_ret ?_))
       refine x_done (v := .bool false) F102 (results_1 Tryz.results37 (.tmp (F102.ev 2 rfl))) ?_
       exact ⟨(by rw [(show false = (diskOk (d.slots.map SlotH.d) d.journal) from by first | exact dk_bad hx1 (by first | exact sb_3 ‹_› ‹_› | exact sb_4 ‹_› ‹_›) | exact dk_bad hx2 (by first | exact sb_3 ‹_› ‹_› | exact sb_4 ‹_› ‹_›) | exact dk_bad hx3 (by first | exact sb_3 ‹_› ‹_› | exact sb_4 ‹_› ‹_›) | exact dk_len Q3 ‹_› | exact dk_best ‹_› | exact dk_done2 Q3 ‹_› ‹_› (fun i hi c hc => hk_1 i (by omega) c hc))]), (Mv.pick (S1.trans S5) [] rfl)⟩
theorem impl_DiskOk_c {w : World} {H : Nat → Prop} {d : DiskH} {Q2 : Option Addr} {Q0 Q3 : Nat} (Q7 : Rd 3 encSlot okSlot H w (.slice Q2 Q0 Q3) d.slots) (Q9 : NRd inSlot H w d.slots) (Q6 : okS d.journal.text) (Q8 : i64ok d.journal.sure) :
    Calls Tryz.prog 43 #[.agg #[.slice Q2 Q0 Q3, .string d.journal.text, .int .i64 d.journal.sure]] w fun e w' => e = .returned (.bool (diskOk (d.slots.map SlotH.d) d.journal)) ∧ Mv [] w [] w' := by
 have uU : True := (fun _ => trivial) Q8
 clear uU
 have Q5 : Rd 3 encSlot okSlot (V H w []) w (.slice Q2 Q0 Q3) d.slots := Rd.start Q7 (fun _ _ => fps_nil _)
 obtain ⟨Q1, Q10, Q11, Q12⟩ := Rd.inv Q7
 have Q4 : NRd inSlot (V H w []) w d.slots := NRd.start Q9 (fun _ _ => fps_nil _)
 refine calls_enter 50 Tryz.func43 rfl Tryz.ntmps43 (Nat.le_of_ble_eq_true rfl) (fun _ F0i => ?_)
 have F0 : Fr 50 [(0, .agg #[.slice Q2 Q0 Q3, .string d.journal.text, .int .i64 d.journal.sure])] _ := F0i
 clear F0i
 refine wp_seq (wp_region_lit (l_op (f_box F0 (At.nil w) rfl rfl rfl (F0.ev 0 rfl) rfl rfl fun b1 _ w1 F2 S1 => ?_)))
 refine l_op (f_val F2 rfl rfl (r_assign rfl rfl) rfl fun _ F3 => ?_)
 refine s_end (x_normal (wp_seq (wp_seq (wp_region_lit (l_op (f_val F3 rfl rfl (r_field FI_34_0 rfl (F3.ev 1 rfl) rfl) rfl fun _ F4 => ?_))))))
 refine l_op (f_val (v := .slice Q2 Q0 Q3) F4 rfl rfl (r_loadB S1.at' 0 TI_31 rfl rfl (F4.ev 5 rfl) rfl rfl (fun _ => rfl) rfl) rfl fun _ F5 => ?_)
 refine l_op (f_val F5 rfl rfl (r_len Tryz.underlying31 rfl (F5.ev 6 rfl)) rfl fun _ F6 => ?_)
 refine l_op (f_val F6 rfl rfl (r_cmp (b := decide (Q0 ≠ 2)) (.inr (.inl rfl)) rfl (F6.ev 7 rfl) rfl (dec_of (by omega))) rfl fun _ F7 => ?_)
 refine l_op (f_mv F7 rfl rfl rfl rfl rfl fun _ F8 => ?_)
 rcases Decidable.em (Q0 ≠ 2) with h9 | h9
 · rw [decide_eq_true h9] at F8
   refine l_op (f_skip F8 (wanted_g F8 rfl rfl rfl rfl) rfl rfl fun _ F10 => ?_)
   refine l_op (f_skip F10 (wanted_g F10 rfl rfl rfl rfl) rfl rfl fun _ F11 => ?_)
   refine l_op (f_skip F11 (wanted_g F11 rfl rfl rfl rfl) rfl rfl fun _ F12 => ?_)
   refine l_op (f_skip F12 (wanted_g F12 rfl rfl rfl rfl) rfl rfl fun _ F13 => ?_)
   refine l_op (f_skip F13 (wanted_g F13 rfl rfl rfl rfl) rfl rfl fun _ F14 => ?_)
   refine l_op (f_skip F14 (wanted_g F14 rfl rfl rfl rfl) rfl rfl fun _ F15 => ?_)
   refine l_op (f_skip F15 (wanted_g F15 rfl rfl rfl rfl) rfl rfl fun _ F16 => ?_)
   refine l_op (f_skip F16 (wanted_u F16 rfl rfl rfl) rfl rfl fun _ F17 => ?_)
   refine l_op (f_skip F17 (wanted_u F17 rfl rfl rfl) rfl rfl fun _ F18 => ?_)
   refine l_op (f_skip F18 (wanted_u F18 rfl rfl rfl) rfl rfl fun _ F19 => ?_)
   refine l_op (f_skip F19 (wanted_u F19 rfl rfl rfl) rfl rfl fun _ F20 => ?_)
   refine l_op (f_skip F20 (wanted_u F20 rfl rfl rfl) rfl rfl fun _ F21 => ?_)
   refine l_op (f_skip F21 (wanted_u F21 rfl rfl rfl) rfl rfl fun _ F22 => ?_)
   refine l_op (f_skip F22 (wanted_g F22 rfl rfl rfl rfl) rfl rfl fun _ F23 => ?_)
   refine l_op (f_val F23 rfl rfl (r_pick (b := true) rfl (F23.ev 9 rfl) rfl) rfl fun _ F24 => ?_)
   refine s_end (x_normal (wp_cond_true (F24.ev 24 rfl) (wp_seq (wp_region_lit (l_op (f_val F24 rfl rfl (r_assign rfl rfl) rfl fun _ F25 => ?_))))))
   refine s_end (x_normal (wp_ret (x_then_ret ?_)))
   refine x_done (v := .bool false) F25 (results_1 Tryz.results43 (.tmp (F25.ev 2 rfl))) ?_
   exact ⟨(by rw [(show false = (diskOk (d.slots.map SlotH.d) d.journal) from by first | exact dk_bad hx1 (by first | exact sb_3 ‹_› ‹_› | exact sb_4 ‹_› ‹_›) | exact dk_bad hx2 (by first | exact sb_3 ‹_› ‹_› | exact sb_4 ‹_› ‹_›) | exact dk_bad hx3 (by first | exact sb_3 ‹_› ‹_› | exact sb_4 ‹_› ‹_›) | exact dk_len Q1 ‹_› | exact dk_no Q1 ‹_› hx1 hx2 (nt ‹_›) (nt ‹_›) | exact dk_done Q1 (by omega) (any_at hx1 (nf ‹_›)) (fun i hi c hc => hk_1 i (by omega) c hc) | exact dk_done Q1 (by omega) (any_at hx2 (nf ‹_›)) (fun i hi c hc => hk_1 i (by omega) c hc))]), (Mv.pick S1 [] rfl)⟩
 · rw [decide_eq_false h9] at F8
   refine l_op (f_val F8 (wanted_g F8 rfl rfl rfl rfl) rfl (r_field FI_34_0 rfl (F8.ev 1 rfl) rfl) rfl fun _ F26 => ?_)
   refine l_op (f_val (v := .slice Q2 Q0 Q3) F26 (wanted_g F26 rfl rfl rfl rfl) rfl (r_loadB S1.at' 0 TI_31 rfl rfl (F26.ev 10 rfl) rfl rfl (fun _ => rfl) rfl) rfl fun _ F27 => ?_)
   obtain ⟨B28, O28, x1, ad28, hx1, okx1, ln28, cl28⟩ := Rd.at (Rd.mq Q5 S1) 0 (by first | assumption | omega)
   clear ln28
   have oj29 := okx1
   unfold okSlot at oj29
   have VI30 : Rd 2 encC okC (V H w [bx b1 [.slice Q2 Q0 Q3, .string d.journal.text, .int .i64 d.journal.sure] 34]) w1 (.slice x1.a0 x1.n0 x1.c0) x1.d.cells := NRd.get (NRd.mv Q4 S1) hx1 (j := 0) rfl
   obtain ⟨ln30, le30, mx30, ni30⟩ := Rd.inv VI30
   refine l_op (f_val F27 (wanted_g F27 rfl rfl rfl rfl) rfl (r_indexAddr (i := 0) ET_31 rfl ((F27.ev 11 rfl).trans (by rw [ad28])) rfl (by omega) (by first | assumption | omega)) rfl fun _ F31 => ?_)
   refine l_op (f_val F31 (wanted_g F31 rfl rfl rfl rfl) rfl (r_field FI_81_2 rfl (F31.ev 12 rfl) rfl) rfl fun _ F32 => ?_)
   refine l_op (f_val (v := .bool x1.d.whole) F32 (wanted_g F32 rfl rfl rfl rfl) rfl (r_load (cs := [.bool x1.d.whole]) TI_4 rfl (F32.ev 13 rfl) rfl (fun _ => rfl) (elem_sub (f := 2) cl28 [.bool x1.d.whole] rfl)) rfl fun _ F33 => ?_)
   refine l_op (f_val F33 (wanted_g F33 rfl rfl rfl rfl) rfl (r_not rfl (F33.ev 14 rfl)) rfl fun _ F34 => ?_)
   refine l_op (f_mv F34 (wanted_g F34 rfl rfl rfl rfl) rfl rfl rfl rfl fun _ F35 => ?_)
   rcases Bool.eq_false_or_eq_true (!x1.d.whole) with h36 | h36
   · rw [h36] at F35
     refine l_op (f_val F35 (wanted_g F35 rfl rfl rfl rfl) rfl (r_field FI_34_0 rfl (F35.ev 1 rfl) rfl) rfl fun _ F37 => ?_)
     refine l_op (f_val (v := .slice Q2 Q0 Q3) F37 (wanted_g F37 rfl rfl rfl rfl) rfl (r_loadB S1.at' 0 TI_31 rfl rfl (F37.ev 17 rfl) rfl rfl (fun _ => rfl) rfl) rfl fun _ F38 => ?_)
     obtain ⟨B39, O39, x2, ad39, hx2, okx2, ln39, cl39⟩ := Rd.at (Rd.mq Q5 S1) 1 (by first | assumption | omega)
     clear ln39
     have oj40 := okx2
     unfold okSlot at oj40
     have VI41 : Rd 2 encC okC (V H w [bx b1 [.slice Q2 Q0 Q3, .string d.journal.text, .int .i64 d.journal.sure] 34]) w1 (.slice x2.a0 x2.n0 x2.c0) x2.d.cells := NRd.get (NRd.mv Q4 S1) hx2 (j := 0) rfl
     obtain ⟨ln41, le41, mx41, ni41⟩ := Rd.inv VI41
     refine l_op (f_val F38 (wanted_g F38 rfl rfl rfl rfl) rfl (r_indexAddr (i := 1) ET_31 rfl ((F38.ev 18 rfl).trans (by rw [ad39])) rfl (by omega) (by first | assumption | omega)) rfl fun _ F42 => ?_)
     refine l_op (f_val F42 (wanted_g F42 rfl rfl rfl rfl) rfl (r_field FI_81_2 rfl (F42.ev 19 rfl) rfl) rfl fun _ F43 => ?_)
     refine l_op (f_val (v := .bool x2.d.whole) F43 (wanted_g F43 rfl rfl rfl rfl) rfl (r_load (cs := [.bool x2.d.whole]) TI_4 rfl (F43.ev 20 rfl) rfl (fun _ => rfl) (elem_sub (f := 2) cl39 [.bool x2.d.whole] rfl)) rfl fun _ F44 => ?_)
     refine l_op (f_val F44 (wanted_g F44 rfl rfl rfl rfl) rfl (r_not rfl (F44.ev 21 rfl)) rfl fun _ F45 => ?_)
     refine l_op (f_val F45 (wanted_g F45 rfl rfl rfl rfl) rfl (r_pick (b := true) rfl (F45.ev 16 rfl) (F45.ev 22 rfl)) rfl fun _ F46 => ?_)
     refine l_op (f_val F46 rfl rfl (r_pick (b := false) rfl (F46.ev 9 rfl) (F46.ev 23 rfl)) rfl fun _ F47 => ?_)
     refine s_end (x_normal (x_condb (b := (!x2.d.whole)) (F47.ev 24 rfl) (fun h48 => ?_) (fun h48 => ?_)))
     · skip
       refine wp_seq (wp_region_lit (l_op (f_val F47 rfl rfl (r_assign rfl rfl) rfl fun _ F49 => ?_)))
       refine s_end (x_normal (wp_ret (x_then_ret ?_)))
       refine x_done (v := .bool false) F49 (results_1 Tryz.results43 (.tmp (F49.ev 2 rfl))) ?_
       exact ⟨(by rw [(show false = (diskOk (d.slots.map SlotH.d) d.journal) from by first | exact dk_bad hx1 (by first | exact sb_3 ‹_› ‹_› | exact sb_4 ‹_› ‹_›) | exact dk_bad hx2 (by first | exact sb_3 ‹_› ‹_› | exact sb_4 ‹_› ‹_›) | exact dk_bad hx3 (by first | exact sb_3 ‹_› ‹_› | exact sb_4 ‹_› ‹_›) | exact dk_len Q1 ‹_› | exact dk_no Q1 ‹_› hx1 hx2 (nt ‹_›) (nt ‹_›) | exact dk_done Q1 (by omega) (any_at hx1 (nf ‹_›)) (fun i hi c hc => hk_1 i (by omega) c hc) | exact dk_done Q1 (by omega) (any_at hx2 (nf ‹_›)) (fun i hi c hc => hk_1 i (by omega) c hc))]), (Mv.pick S1 [] rfl)⟩
     · skip
       refine wp_skip (x_normal (wp_seq (wp_seq (wp_region_lit (l_op (f_val F47 rfl rfl (r_field FI_34_0 rfl (F47.ev 1 rfl) rfl) rfl fun _ F50 => ?_))))))
       refine l_op (f_val (v := .slice Q2 Q0 Q3) F50 rfl rfl (r_loadB S1.at' 0 TI_31 rfl rfl (F50.ev 25 rfl) rfl rfl (fun _ => rfl) rfl) rfl fun _ F51 => ?_)
       refine l_op (f_val F51 rfl rfl (r_len Tryz.underlying31 rfl (F51.ev 26 rfl)) rfl fun _ F52 => ?_)
       refine l_op (f_val F52 rfl rfl (r_move rfl rfl) rfl fun _ F53 => ?_)
       refine s_end (x_normal (wp_block ?_))
       refine x_loop (fun (k : Nat) aZ wZ => Fr 50 [(28, .int .i64 ((k : Nat) : Int)), (27, .int .i64 ((Q0 : Nat) : Int)), (26, .slice Q2 Q0 Q3), (1, .pointer (some ⟨b1, 0, none⟩))] aZ ∧ Mv [bx b1 [.slice Q2 Q0 Q3, .string d.journal.text, .int .i64 d.journal.sure] 34] w1 [bx b1 [.slice Q2 Q0 Q3, .string d.journal.text, .int .i64 d.journal.sure] 34] wZ ∧ (k ≤ Q0) ∧ (∀ j, j < k → ∀ c, nth d.slots j = some c → slotBad c.d = false)) (fun (k : Nat) => Q0 - k) (0) ?_ ?_
       · exact ⟨F53.cut rfl, (Mv.refl S1.at'), by omega, all_none'⟩
       · rintro k a54 w54 ⟨F54, S54, hk_0, hk_1⟩
         refine wp_seq (wp_region_lit (l_op (f_val F54 rfl rfl (r_cmp (b := decide (k < Q0)) (.inr (.inr (.inl rfl))) rfl (F54.ev 28 rfl) (F54.ev 27 rfl) (dec_of (by omega))) rfl fun _ F55 => ?_)))
         refine s_end (x_normal (wp_seq (x_cond (p := k < Q0) (F55.ev 29 rfl) (fun h56 => ?_) (fun h56 => ?_))))
         · skip
           refine wp_skip (x_normal (wp_seq (wp_block (wp_seq (wp_region_lit ?_)))))
           obtain ⟨B57, O57, x3, ad57, hx3, okx3, ln57, cl57⟩ := Rd.at (Rd.mq Q5 (S1.trans S54)) k (by first | assumption | omega)
           clear ln57
           have oj58 := okx3
           unfold okSlot at oj58
           have VI59 : Rd 2 encC okC (V H w [bx b1 [.slice Q2 Q0 Q3, .string d.journal.text, .int .i64 d.journal.sure] 34]) w54 (.slice x3.a0 x3.n0 x3.c0) x3.d.cells := NRd.get (NRd.mv Q4 (S1.trans S54)) hx3 (j := 0) rfl
           obtain ⟨ln59, le59, mx59, ni59⟩ := Rd.inv VI59
           refine l_op (f_val F55 rfl rfl (r_indexAddr (i := k) ET_31 rfl ((F55.ev 26 rfl).trans (by rw [ad57])) (F55.ev 28 rfl) (by omega) (by first | assumption | omega)) rfl fun _ F60 => ?_)
           refine l_op (f_val (v := .agg #[.int .i64 x3.d.seq, .slice x3.a0 x3.n0 x3.c0, .bool x3.d.whole]) F60 rfl rfl (r_load (cs := [.int .i64 x3.d.seq, .slice x3.a0 x3.n0 x3.c0, .bool x3.d.whole]) TI_81 rfl (F60.ev 30 rfl) rfl (fun h => nomatch h) (elem_sub (f := 0) cl57 [.int .i64 x3.d.seq, .slice x3.a0 x3.n0 x3.c0, .bool x3.d.whole] rfl)) rfl fun _ F61 => ?_)
           refine l_op (f_alloc F61 S54.at' ZI_81 rfl rfl rfl rfl rfl fun b62 _ w62 F63 S62 => ?_)
           refine l_op (s_store S62.at' 0 TI_81 rfl rfl rfl rfl rfl (F63.ev 4 rfl) (F63.ev 31 rfl) rfl rfl rfl rfl rfl fun w64 S64 => ?_)
           have T65 : Mv _ _ [bx b62 [.int .i64 x3.d.seq, .slice x3.a0 x3.n0 x3.c0, .bool x3.d.whole] 81, bx b1 [.slice Q2 Q0 Q3, .string d.journal.text, .int .i64 d.journal.sure] 34] _ := S64
           refine s_end (x_normal (wp_seq (wp_region_lit (l_op (f_val F63 rfl rfl (r_field FI_81_2 rfl (F63.ev 4 rfl) rfl) rfl fun _ F66 => ?_)))))
           refine l_op (f_val (v := .bool x3.d.whole) F66 rfl rfl (r_loadB T65.at' 0 TI_4 rfl rfl (F66.ev 32 rfl) rfl rfl (fun _ => rfl) rfl) rfl fun _ F67 => ?_)
           refine l_op (f_mv F67 rfl rfl rfl rfl rfl fun _ F68 => ?_)
           rcases Bool.eq_false_or_eq_true x3.d.whole with h69 | h69
           · rw [h69] at F68
             refine l_op (f_val F68 (wanted_g F68 rfl rfl rfl rfl) rfl (r_field FI_81_0 rfl (F68.ev 4 rfl) rfl) rfl fun _ F70 => ?_)
             refine l_op (f_val (v := .int .i64 x3.d.seq) F70 (wanted_g F70 rfl rfl rfl rfl) rfl (r_loadB T65.at' 0 TI_3 rfl rfl (F70.ev 35 rfl) rfl rfl (fun _ => rfl) rfl) rfl fun _ F71 => ?_)
             refine l_op (f_call F71 CF_93 (wanted_g F71 rfl rfl rfl rfl) rfl rfl rfl (lc (F71.ev 36 rfl) (lc rfl (lc rfl rfl))) (impl_within_c (H := fun _ => True) (n := x3.d.seq) (low := 0) (high := 99999) (by first | assumption | exact ⟨by omega, by omega⟩ | (unfold i64ok at *; omega)) (by first | assumption | exact ⟨by omega, by omega⟩ | (unfold i64ok at *; omega)) (by first | assumption | exact ⟨by omega, by omega⟩ | (unfold i64ok at *; omega))) ?_)
             rintro _ w72 ⟨rfl, m72⟩
             refine ⟨_, rfl, fun _ F73 => ?_⟩
             have S72 := At.frame0 T65.at' m72
             clear m72
             refine l_op (f_val F73 (wanted_g F73 rfl rfl rfl rfl) rfl (r_not rfl (F73.ev 37 rfl)) rfl fun _ F74 => ?_)
             refine l_op (f_mv F74 (wanted_g F74 rfl rfl rfl rfl) rfl rfl rfl rfl fun _ F75 => ?_)
             rcases Bool.eq_false_or_eq_true (!(inB x3.d.seq 0 99999)) with h76 | h76
             · rw [h76] at F75
               refine l_op (f_skip F75 (wanted_g F75 rfl rfl rfl rfl) rfl rfl fun _ F77 => ?_)
               refine l_op (f_skip F77 (wanted_g F77 rfl rfl rfl rfl) rfl rfl fun _ F78 => ?_)
               refine l_op (f_skip F78 (wanted_g F78 rfl rfl rfl rfl) rfl rfl fun _ F79 => ?_)
               refine l_op (f_skip F79 (wanted_g F79 rfl rfl rfl rfl) rfl rfl fun _ F80 => ?_)
               refine l_op (f_val F80 (wanted_g F80 rfl rfl rfl rfl) rfl (r_pick (b := true) rfl (F80.ev 39 rfl) rfl) rfl fun _ F81 => ?_)
               refine l_op (f_val F81 rfl rfl (r_pick (b := true) rfl (F81.ev 34 rfl) (F81.ev 44 rfl)) rfl fun _ F82 => ?_)
               refine s_end (x_normal (wp_cond_true (F82.ev 45 rfl) (wp_seq (wp_region_lit (l_op (f_val F82 rfl rfl (r_assign rfl rfl) rfl fun _ F83 => ?_))))))
               refine s_end (x_normal (wp_ret (x_block_ret (x_then_ret (x_then_ret (x_block_ret (x_then_ret ?_)))))))
               refine x_done (v := .bool false) F83 (results_1 Tryz.results43 (.tmp (F83.ev 2 rfl))) ?_
               exact ⟨(by rw [(show false = (diskOk (d.slots.map SlotH.d) d.journal) from by first | exact dk_bad hx1 (by first | exact sb_3 ‹_› ‹_› | exact sb_4 ‹_› ‹_›) | exact dk_bad hx2 (by first | exact sb_3 ‹_› ‹_› | exact sb_4 ‹_› ‹_›) | exact dk_bad hx3 (by first | exact sb_3 ‹_› ‹_› | exact sb_4 ‹_› ‹_›) | exact dk_len Q1 ‹_› | exact dk_no Q1 ‹_› hx1 hx2 (nt ‹_›) (nt ‹_›) | exact dk_done Q1 (by omega) (any_at hx1 (nf ‹_›)) (fun i hi c hc => hk_1 i (by omega) c hc) | exact dk_done Q1 (by omega) (any_at hx2 (nf ‹_›)) (fun i hi c hc => hk_1 i (by omega) c hc))]), (Mv.pick (S1.trans (S54.trans (S62.trans (T65.trans S72)))) [] rfl)⟩
             · rw [h76] at F75
               refine l_op (f_val F75 (wanted_g F75 rfl rfl rfl rfl) rfl (r_field FI_81_1 rfl (F75.ev 4 rfl) rfl) rfl fun _ F84 => ?_)
               refine l_op (f_val (v := .slice x3.a0 x3.n0 x3.c0) F84 (wanted_g F84 rfl rfl rfl rfl) rfl (r_loadB S72.at' 0 TI_28 rfl rfl (F84.ev 40 rfl) rfl rfl (fun _ => rfl) rfl) rfl fun _ F85 => ?_)
               refine l_op (f_call F85 CF_94 (wanted_g F85 rfl rfl rfl rfl) rfl rfl rfl (lc (F85.ev 41 rfl) rfl) (impl_StoreOk_c (s := x3.d.cells) (Rd.mq VI59 (S62.trans (T65.trans S72)))) ?_)
               rintro _ w86 ⟨rfl, m86⟩
               refine ⟨_, rfl, fun _ F87 => ?_⟩
               have S86 := At.frame0 S72.at' m86
               clear m86
               refine l_op (f_val F87 (wanted_g F87 rfl rfl rfl rfl) rfl (r_not rfl (F87.ev 42 rfl)) rfl fun _ F88 => ?_)
               refine l_op (f_val F88 (wanted_g F88 rfl rfl rfl rfl) rfl (r_pick (b := false) rfl (F88.ev 39 rfl) (F88.ev 43 rfl)) rfl fun _ F89 => ?_)
               refine l_op (f_val F89 rfl rfl (r_pick (b := true) rfl (F89.ev 34 rfl) (F89.ev 44 rfl)) rfl fun _ F90 => ?_)
               refine s_end (x_normal (x_condb (b := (!(storeOk x3.d.cells))) (F90.ev 45 rfl) (fun h91 => ?_) (fun h91 => ?_)))
               · skip
                 refine wp_seq (wp_region_lit (l_op (f_val F90 rfl rfl (r_assign rfl rfl) rfl fun _ F92 => ?_)))
                 refine s_end (x_normal (wp_ret (x_block_ret (x_then_ret (x_then_ret (x_block_ret (x_then_ret ?_)))))))
                 refine x_done (v := .bool false) F92 (results_1 Tryz.results43 (.tmp (F92.ev 2 rfl))) ?_
                 exact ⟨(by rw [(show false = (diskOk (d.slots.map SlotH.d) d.journal) from by first | exact dk_bad hx1 (by first | exact sb_3 ‹_› ‹_› | exact sb_4 ‹_› ‹_›) | exact dk_bad hx2 (by first | exact sb_3 ‹_› ‹_› | exact sb_4 ‹_› ‹_›) | exact dk_bad hx3 (by first | exact sb_3 ‹_› ‹_› | exact sb_4 ‹_› ‹_›) | exact dk_len Q1 ‹_› | exact dk_no Q1 ‹_› hx1 hx2 (nt ‹_›) (nt ‹_›) | exact dk_done Q1 (by omega) (any_at hx1 (nf ‹_›)) (fun i hi c hc => hk_1 i (by omega) c hc) | exact dk_done Q1 (by omega) (any_at hx2 (nf ‹_›)) (fun i hi c hc => hk_1 i (by omega) c hc))]), (Mv.pick (S1.trans (S54.trans (S62.trans (T65.trans (S72.trans S86))))) [] rfl)⟩
               · skip
                 refine wp_skip (x_block_normal (x_normal (wp_region_lit (l_op (f_val F90 rfl rfl (r_add (z := ((k + 1 : Nat) : Int)) rfl (F90.ev 28 rfl) rfl (by first | rfl | omega) ⟨by first | omega | (unfold i64ok at *; omega), by first | omega | (unfold i64ok at *; omega)⟩) rfl fun _ F93 => ?_)))))
                 refine l_op (f_mv F93 rfl rfl rfl rfl rfl fun _ F94 => ?_)
                 refine s_end ?_
                 refine x_normal ⟨k + 1, by omega, F94.cut rfl, ((S54.trans (S62.trans (T65.trans (S72.trans S86)))).pick [1] rfl), by omega, by first | (exact all_stepP hk_1 (fun c hc => by obtain rfl := Option.some.inj (hx1.symm.trans hc); first | exact sb_1 ‹_› | exact sb_2 ‹_› ‹_›)) | (exact all_stepP hk_1 (fun c hc => by obtain rfl := Option.some.inj (hx2.symm.trans hc); first | exact sb_1 ‹_› | exact sb_2 ‹_› ‹_›)) | (exact all_stepP hk_1 (fun c hc => by obtain rfl := Option.some.inj (hx3.symm.trans hc); first | exact sb_1 ‹_› | exact sb_2 ‹_› ‹_›))⟩
           · rw [h69] at F68
             refine l_op (f_skip F68 (wanted_g F68 rfl rfl rfl rfl) rfl rfl fun _ F95 => ?_)
             refine l_op (f_skip F95 (wanted_g F95 rfl rfl rfl rfl) rfl rfl fun _ F96 => ?_)
             refine l_op (f_skip F96 (wanted_g F96 rfl rfl rfl rfl) rfl rfl fun _ F97 => ?_)
             refine l_op (f_skip F97 (wanted_g F97 rfl rfl rfl rfl) rfl rfl fun _ F98 => ?_)
             refine l_op (f_skip F98 (wanted_g F98 rfl rfl rfl rfl) rfl rfl fun _ F99 => ?_)
             refine l_op (f_skip F99 (wanted_u F99 rfl rfl rfl) rfl rfl fun _ F100 => ?_)
             refine l_op (f_skip F100 (wanted_u F100 rfl rfl rfl) rfl rfl fun _ F101 => ?_)
             refine l_op (f_skip F101 (wanted_u F101 rfl rfl rfl) rfl rfl fun _ F102 => ?_)
             refine l_op (f_skip F102 (wanted_u F102 rfl rfl rfl) rfl rfl fun _ F103 => ?_)
             refine l_op (f_skip F103 (wanted_g F103 rfl rfl rfl rfl) rfl rfl fun _ F104 => ?_)
             refine l_op (f_val F104 rfl rfl (r_pick (b := false) rfl (F104.ev 34 rfl) rfl) rfl fun _ F105 => ?_)
             refine s_end (x_normal (wp_cond_false (F105.ev 45 rfl) (wp_skip (x_block_normal (x_normal (wp_region_lit (l_op (f_val F105 rfl rfl (r_add (z := ((k + 1 : Nat) : Int)) rfl (F105.ev 28 rfl) rfl (by first | rfl | omega) ⟨by first | omega | (unfold i64ok at *; omega), by first | omega | (unfold i64ok at *; omega)⟩) rfl fun _ F106 => ?_))))))))
             refine l_op (f_mv F106 rfl rfl rfl rfl rfl fun _ F107 => ?_)
             refine s_end ?_
             refine x_normal ⟨k + 1, by omega, F107.cut rfl, ((S54.trans (S62.trans T65)).pick [1] rfl), by omega, by first | (exact all_stepP hk_1 (fun c hc => by obtain rfl := Option.some.inj (hx1.symm.trans hc); first | exact sb_1 ‹_› | exact sb_2 ‹_› ‹_›)) | (exact all_stepP hk_1 (fun c hc => by obtain rfl := Option.some.inj (hx2.symm.trans hc); first | exact sb_1 ‹_› | exact sb_2 ‹_› ‹_›)) | (exact all_stepP hk_1 (fun c hc => by obtain rfl := Option.some.inj (hx3.symm.trans hc); first | exact sb_1 ‹_› | exact sb_2 ‹_› ‹_›))⟩
         · skip
           refine wp_exit (x_then_exit (x_then_exit (x_block_here (x_normal (wp_seq (wp_region_lit (l_op (f_val F55 rfl rfl (r_field FI_34_1 rfl (F55.ev 1 rfl) rfl) rfl fun _ F108 => ?_))))))))
           refine l_op (f_val (v := .agg #[.string d.journal.text, .int .i64 d.journal.sure]) F108 rfl rfl (r_loadB S54.at' 0 TI_32 rfl rfl (F108.ev 47 rfl) rfl rfl (fun h => nomatch h) rfl) rfl fun _ F109 => ?_)
           refine l_op (f_call F109 CF_81 rfl rfl rfl rfl (lc (F109.ev 48 rfl) rfl) (impl_JournalOk_c (H := fun _ => True) (j := d.journal) Q6 (by first | assumption | exact ⟨by omega, by omega⟩ | (unfold i64ok at *; omega) | (simp only [i64ok]; omega))) ?_)
           rintro _ w110 ⟨rfl, m110⟩
           refine ⟨_, rfl, fun _ F111 => ?_⟩
           have S110 := At.frame0 S54.at' m110
           clear m110
           refine l_op (f_as F111 rfl rfl rfl rfl rfl fun _ F112 => ?_)
           refine s_end (x_normal (wp_ret ?_))
           refine x_done (v := .bool (jouOk d.journal)) F112 (results_1 Tryz.results43 (.tmp (F112.ev 2 rfl))) ?_
           exact ⟨(by rw [(show (jouOk d.journal) = (diskOk (d.slots.map SlotH.d) d.journal) from by first | exact dk_bad hx1 (by first | exact sb_3 ‹_› ‹_› | exact sb_4 ‹_› ‹_›) | exact dk_bad hx2 (by first | exact sb_3 ‹_› ‹_› | exact sb_4 ‹_› ‹_›) | exact dk_bad hx3 (by first | exact sb_3 ‹_› ‹_› | exact sb_4 ‹_› ‹_›) | exact dk_len Q1 ‹_› | exact dk_no Q1 ‹_› hx1 hx2 (nt ‹_›) (nt ‹_›) | exact dk_done Q1 (by omega) (any_at hx1 (nf ‹_›)) (fun i hi c hc => hk_1 i (by omega) c hc) | exact dk_done Q1 (by omega) (any_at hx2 (nf ‹_›)) (fun i hi c hc => hk_1 i (by omega) c hc))]), (Mv.pick (S1.trans (S54.trans S110)) [] rfl)⟩
   · rw [h36] at F35
     refine l_op (f_skip F35 (wanted_g F35 rfl rfl rfl rfl) rfl rfl fun _ F113 => ?_)
     refine l_op (f_skip F113 (wanted_g F113 rfl rfl rfl rfl) rfl rfl fun _ F114 => ?_)
     refine l_op (f_skip F114 (wanted_g F114 rfl rfl rfl rfl) rfl rfl fun _ F115 => ?_)
     refine l_op (f_skip F115 (wanted_g F115 rfl rfl rfl rfl) rfl rfl fun _ F116 => ?_)
     refine l_op (f_skip F116 (wanted_g F116 rfl rfl rfl rfl) rfl rfl fun _ F117 => ?_)
     refine l_op (f_skip F117 (wanted_g F117 rfl rfl rfl rfl) rfl rfl fun _ F118 => ?_)
     refine l_op (f_val F118 (wanted_g F118 rfl rfl rfl rfl) rfl (r_pick (b := false) rfl (F118.ev 16 rfl) rfl) rfl fun _ F119 => ?_)
     refine l_op (f_val F119 rfl rfl (r_pick (b := false) rfl (F119.ev 9 rfl) (F119.ev 23 rfl)) rfl fun _ F120 => ?_)
     refine s_end (x_normal (wp_cond_false (F120.ev 24 rfl) (wp_skip (x_normal (wp_seq (wp_seq (wp_region_lit (l_op (f_val F120 rfl rfl (r_field FI_34_0 rfl (F120.ev 1 rfl) rfl) rfl fun _ F121 => ?_)))))))))
     refine l_op (f_val (v := .slice Q2 Q0 Q3) F121 rfl rfl (r_loadB S1.at' 0 TI_31 rfl rfl (F121.ev 25 rfl) rfl rfl (fun _ => rfl) rfl) rfl fun _ F122 => ?_)
     refine l_op (f_val F122 rfl rfl (r_len Tryz.underlying31 rfl (F122.ev 26 rfl)) rfl fun _ F123 => ?_)
     refine l_op (f_val F123 rfl rfl (r_move rfl rfl) rfl fun _ F124 => ?_)
     refine s_end (x_normal (wp_block ?_))
     refine x_loop (fun (k : Nat) aZ wZ => Fr 50 [(28, .int .i64 ((k : Nat) : Int)), (27, .int .i64 ((Q0 : Nat) : Int)), (26, .slice Q2 Q0 Q3), (1, .pointer (some ⟨b1, 0, none⟩))] aZ ∧ Mv [bx b1 [.slice Q2 Q0 Q3, .string d.journal.text, .int .i64 d.journal.sure] 34] w1 [bx b1 [.slice Q2 Q0 Q3, .string d.journal.text, .int .i64 d.journal.sure] 34] wZ ∧ (k ≤ Q0) ∧ (∀ j, j < k → ∀ c, nth d.slots j = some c → slotBad c.d = false)) (fun (k : Nat) => Q0 - k) (0) ?_ ?_
     · exact ⟨F124.cut rfl, (Mv.refl S1.at'), by omega, all_none'⟩
     · rintro k a125 w125 ⟨F125, S125, hk_0, hk_1⟩
       refine wp_seq (wp_region_lit (l_op (f_val F125 rfl rfl (r_cmp (b := decide (k < Q0)) (.inr (.inr (.inl rfl))) rfl (F125.ev 28 rfl) (F125.ev 27 rfl) (dec_of (by omega))) rfl fun _ F126 => ?_)))
       refine s_end (x_normal (wp_seq (x_cond (p := k < Q0) (F126.ev 29 rfl) (fun h127 => ?_) (fun h127 => ?_))))
       · skip
         refine wp_skip (x_normal (wp_seq (wp_block (wp_seq (wp_region_lit ?_)))))
         obtain ⟨B128, O128, x2, ad128, hx2, okx2, ln128, cl128⟩ := Rd.at (Rd.mq Q5 (S1.trans S125)) k (by first | assumption | omega)
         clear ln128
         have oj129 := okx2
         unfold okSlot at oj129
         have VI130 : Rd 2 encC okC (V H w [bx b1 [.slice Q2 Q0 Q3, .string d.journal.text, .int .i64 d.journal.sure] 34]) w125 (.slice x2.a0 x2.n0 x2.c0) x2.d.cells := NRd.get (NRd.mv Q4 (S1.trans S125)) hx2 (j := 0) rfl
         obtain ⟨ln130, le130, mx130, ni130⟩ := Rd.inv VI130
         refine l_op (f_val F126 rfl rfl (r_indexAddr (i := k) ET_31 rfl ((F126.ev 26 rfl).trans (by rw [ad128])) (F126.ev 28 rfl) (by omega) (by first | assumption | omega)) rfl fun _ F131 => ?_)
         refine l_op (f_val (v := .agg #[.int .i64 x2.d.seq, .slice x2.a0 x2.n0 x2.c0, .bool x2.d.whole]) F131 rfl rfl (r_load (cs := [.int .i64 x2.d.seq, .slice x2.a0 x2.n0 x2.c0, .bool x2.d.whole]) TI_81 rfl (F131.ev 30 rfl) rfl (fun h => nomatch h) (elem_sub (f := 0) cl128 [.int .i64 x2.d.seq, .slice x2.a0 x2.n0 x2.c0, .bool x2.d.whole] rfl)) rfl fun _ F132 => ?_)
         refine l_op (f_alloc F132 S125.at' ZI_81 rfl rfl rfl rfl rfl fun b133 _ w133 F134 S133 => ?_)
         refine l_op (s_store S133.at' 0 TI_81 rfl rfl rfl rfl rfl (F134.ev 4 rfl) (F134.ev 31 rfl) rfl rfl rfl rfl rfl fun w135 S135 => ?_)
         have T136 : Mv _ _ [bx b133 [.int .i64 x2.d.seq, .slice x2.a0 x2.n0 x2.c0, .bool x2.d.whole] 81, bx b1 [.slice Q2 Q0 Q3, .string d.journal.text, .int .i64 d.journal.sure] 34] _ := S135
         refine s_end (x_normal (wp_seq (wp_region_lit (l_op (f_val F134 rfl rfl (r_field FI_81_2 rfl (F134.ev 4 rfl) rfl) rfl fun _ F137 => ?_)))))
         refine l_op (f_val (v := .bool x2.d.whole) F137 rfl rfl (r_loadB T136.at' 0 TI_4 rfl rfl (F137.ev 32 rfl) rfl rfl (fun _ => rfl) rfl) rfl fun _ F138 => ?_)
         refine l_op (f_mv F138 rfl rfl rfl rfl rfl fun _ F139 => ?_)
         rcases Bool.eq_false_or_eq_true x2.d.whole with h140 | h140
         · rw [h140] at F139
           refine l_op (f_val F139 (wanted_g F139 rfl rfl rfl rfl) rfl (r_field FI_81_0 rfl (F139.ev 4 rfl) rfl) rfl fun _ F141 => ?_)
           refine l_op (f_val (v := .int .i64 x2.d.seq) F141 (wanted_g F141 rfl rfl rfl rfl) rfl (r_loadB T136.at' 0 TI_3 rfl rfl (F141.ev 35 rfl) rfl rfl (fun _ => rfl) rfl) rfl fun _ F142 => ?_)
           refine l_op (f_call F142 CF_93 (wanted_g F142 rfl rfl rfl rfl) rfl rfl rfl (lc (F142.ev 36 rfl) (lc rfl (lc rfl rfl))) (impl_within_c (H := fun _ => True) (n := x2.d.seq) (low := 0) (high := 99999) (by first | assumption | exact ⟨by omega, by omega⟩ | (unfold i64ok at *; omega)) (by first | assumption | exact ⟨by omega, by omega⟩ | (unfold i64ok at *; omega)) (by first | assumption | exact ⟨by omega, by omega⟩ | (unfold i64ok at *; omega))) ?_)
           rintro _ w143 ⟨rfl, m143⟩
           refine ⟨_, rfl, fun _ F144 => ?_⟩
           have S143 := At.frame0 T136.at' m143
           clear m143
           refine l_op (f_val F144 (wanted_g F144 rfl rfl rfl rfl) rfl (r_not rfl (F144.ev 37 rfl)) rfl fun _ F145 => ?_)
           refine l_op (f_mv F145 (wanted_g F145 rfl rfl rfl rfl) rfl rfl rfl rfl fun _ F146 => ?_)
           rcases Bool.eq_false_or_eq_true (!(inB x2.d.seq 0 99999)) with h147 | h147
           · rw [h147] at F146
             refine l_op (f_skip F146 (wanted_g F146 rfl rfl rfl rfl) rfl rfl fun _ F148 => ?_)
             refine l_op (f_skip F148 (wanted_g F148 rfl rfl rfl rfl) rfl rfl fun _ F149 => ?_)
             refine l_op (f_skip F149 (wanted_g F149 rfl rfl rfl rfl) rfl rfl fun _ F150 => ?_)
             refine l_op (f_skip F150 (wanted_g F150 rfl rfl rfl rfl) rfl rfl fun _ F151 => ?_)
             refine l_op (f_val F151 (wanted_g F151 rfl rfl rfl rfl) rfl (r_pick (b := true) rfl (F151.ev 39 rfl) rfl) rfl fun _ F152 => ?_)
             refine l_op (f_val F152 rfl rfl (r_pick (b := true) rfl (F152.ev 34 rfl) (F152.ev 44 rfl)) rfl fun _ F153 => ?_)
             refine s_end (x_normal (wp_cond_true (F153.ev 45 rfl) (wp_seq (wp_region_lit (l_op (f_val F153 rfl rfl (r_assign rfl rfl) rfl fun _ F154 => ?_))))))
             refine s_end (x_normal (wp_ret (x_block_ret (x_then_ret (x_then_ret (x_block_ret (x_then_ret ?_)))))))
             refine x_done (v := .bool false) F154 (results_1 Tryz.results43 (.tmp (F154.ev 2 rfl))) ?_
             exact ⟨(by rw [(show false = (diskOk (d.slots.map SlotH.d) d.journal) from by first | exact dk_bad hx1 (by first | exact sb_3 ‹_› ‹_› | exact sb_4 ‹_› ‹_›) | exact dk_bad hx2 (by first | exact sb_3 ‹_› ‹_› | exact sb_4 ‹_› ‹_›) | exact dk_bad hx3 (by first | exact sb_3 ‹_› ‹_› | exact sb_4 ‹_› ‹_›) | exact dk_len Q1 ‹_› | exact dk_no Q1 ‹_› hx1 hx2 (nt ‹_›) (nt ‹_›) | exact dk_done Q1 (by omega) (any_at hx1 (nf ‹_›)) (fun i hi c hc => hk_1 i (by omega) c hc) | exact dk_done Q1 (by omega) (any_at hx2 (nf ‹_›)) (fun i hi c hc => hk_1 i (by omega) c hc))]), (Mv.pick (S1.trans (S125.trans (S133.trans (T136.trans S143)))) [] rfl)⟩
           · rw [h147] at F146
             refine l_op (f_val F146 (wanted_g F146 rfl rfl rfl rfl) rfl (r_field FI_81_1 rfl (F146.ev 4 rfl) rfl) rfl fun _ F155 => ?_)
             refine l_op (f_val (v := .slice x2.a0 x2.n0 x2.c0) F155 (wanted_g F155 rfl rfl rfl rfl) rfl (r_loadB S143.at' 0 TI_28 rfl rfl (F155.ev 40 rfl) rfl rfl (fun _ => rfl) rfl) rfl fun _ F156 => ?_)
             refine l_op (f_call F156 CF_94 (wanted_g F156 rfl rfl rfl rfl) rfl rfl rfl (lc (F156.ev 41 rfl) rfl) (impl_StoreOk_c (s := x2.d.cells) (Rd.mq VI130 (S133.trans (T136.trans S143)))) ?_)
             rintro _ w157 ⟨rfl, m157⟩
             refine ⟨_, rfl, fun _ F158 => ?_⟩
             have S157 := At.frame0 S143.at' m157
             clear m157
             refine l_op (f_val F158 (wanted_g F158 rfl rfl rfl rfl) rfl (r_not rfl (F158.ev 42 rfl)) rfl fun _ F159 => ?_)
             refine l_op (f_val F159 (wanted_g F159 rfl rfl rfl rfl) rfl (r_pick (b := false) rfl (F159.ev 39 rfl) (F159.ev 43 rfl)) rfl fun _ F160 => ?_)
             refine l_op (f_val F160 rfl rfl (r_pick (b := true) rfl (F160.ev 34 rfl) (F160.ev 44 rfl)) rfl fun _ F161 => ?_)
             refine s_end (x_normal (x_condb (b := (!(storeOk x2.d.cells))) (F161.ev 45 rfl) (fun h162 => ?_) (fun h162 => ?_)))
             · skip
               refine wp_seq (wp_region_lit (l_op (f_val F161 rfl rfl (r_assign rfl rfl) rfl fun _ F163 => ?_)))
               refine s_end (x_normal (wp_ret (x_block_ret (x_then_ret (x_then_ret (x_block_ret (x_then_ret ?_)))))))
               refine x_done (v := .bool false) F163 (results_1 Tryz.results43 (.tmp (F163.ev 2 rfl))) ?_
               exact ⟨(by rw [(show false = (diskOk (d.slots.map SlotH.d) d.journal) from by first | exact dk_bad hx1 (by first | exact sb_3 ‹_› ‹_› | exact sb_4 ‹_› ‹_›) | exact dk_bad hx2 (by first | exact sb_3 ‹_› ‹_› | exact sb_4 ‹_› ‹_›) | exact dk_bad hx3 (by first | exact sb_3 ‹_› ‹_› | exact sb_4 ‹_› ‹_›) | exact dk_len Q1 ‹_› | exact dk_no Q1 ‹_› hx1 hx2 (nt ‹_›) (nt ‹_›) | exact dk_done Q1 (by omega) (any_at hx1 (nf ‹_›)) (fun i hi c hc => hk_1 i (by omega) c hc) | exact dk_done Q1 (by omega) (any_at hx2 (nf ‹_›)) (fun i hi c hc => hk_1 i (by omega) c hc))]), (Mv.pick (S1.trans (S125.trans (S133.trans (T136.trans (S143.trans S157))))) [] rfl)⟩
             · skip
               refine wp_skip (x_block_normal (x_normal (wp_region_lit (l_op (f_val F161 rfl rfl (r_add (z := ((k + 1 : Nat) : Int)) rfl (F161.ev 28 rfl) rfl (by first | rfl | omega) ⟨by first | omega | (unfold i64ok at *; omega), by first | omega | (unfold i64ok at *; omega)⟩) rfl fun _ F164 => ?_)))))
               refine l_op (f_mv F164 rfl rfl rfl rfl rfl fun _ F165 => ?_)
               refine s_end ?_
               refine x_normal ⟨k + 1, by omega, F165.cut rfl, ((S125.trans (S133.trans (T136.trans (S143.trans S157)))).pick [1] rfl), by omega, by first | (exact all_stepP hk_1 (fun c hc => by obtain rfl := Option.some.inj (hx1.symm.trans hc); first | exact sb_1 ‹_› | exact sb_2 ‹_› ‹_›)) | (exact all_stepP hk_1 (fun c hc => by obtain rfl := Option.some.inj (hx2.symm.trans hc); first | exact sb_1 ‹_› | exact sb_2 ‹_› ‹_›)) | (exact all_stepP hk_1 (fun c hc => by obtain rfl := Option.some.inj (hx3.symm.trans hc); first | exact sb_1 ‹_› | exact sb_2 ‹_› ‹_›))⟩
         · rw [h140] at F139
           refine l_op (f_skip F139 (wanted_g F139 rfl rfl rfl rfl) rfl rfl fun _ F166 => ?_)
           refine l_op (f_skip F166 (wanted_g F166 rfl rfl rfl rfl) rfl rfl fun _ F167 => ?_)
           refine l_op (f_skip F167 (wanted_g F167 rfl rfl rfl rfl) rfl rfl fun _ F168 => ?_)
           refine l_op (f_skip F168 (wanted_g F168 rfl rfl rfl rfl) rfl rfl fun _ F169 => ?_)
           refine l_op (f_skip F169 (wanted_g F169 rfl rfl rfl rfl) rfl rfl fun _ F170 => ?_)
           refine l_op (f_skip F170 (wanted_u F170 rfl rfl rfl) rfl rfl fun _ F171 => ?_)
           refine l_op (f_skip F171 (wanted_u F171 rfl rfl rfl) rfl rfl fun _ F172 => ?_)
           refine l_op (f_skip F172 (wanted_u F172 rfl rfl rfl) rfl rfl fun _ F173 => ?_)
           refine l_op (f_skip F173 (wanted_u F173 rfl rfl rfl) rfl rfl fun _ F174 => ?_)
           refine l_op (f_skip F174 (wanted_g F174 rfl rfl rfl rfl) rfl rfl fun _ F175 => ?_)
           refine l_op (f_val F175 rfl rfl (r_pick (b := false) rfl (F175.ev 34 rfl) rfl) rfl fun _ F176 => ?_)
           refine s_end (x_normal (wp_cond_false (F176.ev 45 rfl) (wp_skip (x_block_normal (x_normal (wp_region_lit (l_op (f_val F176 rfl rfl (r_add (z := ((k + 1 : Nat) : Int)) rfl (F176.ev 28 rfl) rfl (by first | rfl | omega) ⟨by first | omega | (unfold i64ok at *; omega), by first | omega | (unfold i64ok at *; omega)⟩) rfl fun _ F177 => ?_))))))))
           refine l_op (f_mv F177 rfl rfl rfl rfl rfl fun _ F178 => ?_)
           refine s_end ?_
           refine x_normal ⟨k + 1, by omega, F178.cut rfl, ((S125.trans (S133.trans T136)).pick [1] rfl), by omega, by first | (exact all_stepP hk_1 (fun c hc => by obtain rfl := Option.some.inj (hx1.symm.trans hc); first | exact sb_1 ‹_› | exact sb_2 ‹_› ‹_›)) | (exact all_stepP hk_1 (fun c hc => by obtain rfl := Option.some.inj (hx2.symm.trans hc); first | exact sb_1 ‹_› | exact sb_2 ‹_› ‹_›)) | (exact all_stepP hk_1 (fun c hc => by obtain rfl := Option.some.inj (hx3.symm.trans hc); first | exact sb_1 ‹_› | exact sb_2 ‹_› ‹_›))⟩
       · skip
         refine wp_exit (x_then_exit (x_then_exit (x_block_here (x_normal (wp_seq (wp_region_lit (l_op (f_val F126 rfl rfl (r_field FI_34_1 rfl (F126.ev 1 rfl) rfl) rfl fun _ F179 => ?_))))))))
         refine l_op (f_val (v := .agg #[.string d.journal.text, .int .i64 d.journal.sure]) F179 rfl rfl (r_loadB S125.at' 0 TI_32 rfl rfl (F179.ev 47 rfl) rfl rfl (fun h => nomatch h) rfl) rfl fun _ F180 => ?_)
         refine l_op (f_call F180 CF_81 rfl rfl rfl rfl (lc (F180.ev 48 rfl) rfl) (impl_JournalOk_c (H := fun _ => True) (j := d.journal) Q6 (by first | assumption | exact ⟨by omega, by omega⟩ | (unfold i64ok at *; omega) | (simp only [i64ok]; omega))) ?_)
         rintro _ w181 ⟨rfl, m181⟩
         refine ⟨_, rfl, fun _ F182 => ?_⟩
         have S181 := At.frame0 S125.at' m181
         clear m181
         refine l_op (f_as F182 rfl rfl rfl rfl rfl fun _ F183 => ?_)
         refine s_end (x_normal (wp_ret ?_))
         refine x_done (v := .bool (jouOk d.journal)) F183 (results_1 Tryz.results43 (.tmp (F183.ev 2 rfl))) ?_
         exact ⟨(by rw [(show (jouOk d.journal) = (diskOk (d.slots.map SlotH.d) d.journal) from by first | exact dk_bad hx1 (by first | exact sb_3 ‹_› ‹_› | exact sb_4 ‹_› ‹_›) | exact dk_bad hx2 (by first | exact sb_3 ‹_› ‹_› | exact sb_4 ‹_› ‹_›) | exact dk_bad hx3 (by first | exact sb_3 ‹_› ‹_› | exact sb_4 ‹_› ‹_›) | exact dk_len Q1 ‹_› | exact dk_no Q1 ‹_› hx1 hx2 (nt ‹_›) (nt ‹_›) | exact dk_done Q1 (by omega) (any_at hx1 (nf ‹_›)) (fun i hi c hc => hk_1 i (by omega) c hc) | exact dk_done Q1 (by omega) (any_at hx2 (nf ‹_›)) (fun i hi c hc => hk_1 i (by omega) c hc))]), (Mv.pick (S1.trans (S125.trans S181)) [] rfl)⟩
end Go.Proofs.YtipdbeklopjbmaaGreatDoor
