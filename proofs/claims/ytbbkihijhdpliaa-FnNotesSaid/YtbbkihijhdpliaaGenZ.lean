/-
  Walks: access sets are joined by the program.
-/
import Derived.Test.YtbbkihijhdpliaaGenY
import Derived.Test.YtbbkihijhdpliaaGenW
import Derived.Test.YtbbkihijhdpliaaGenE
namespace Go.Proofs.Ytbbkihijhdpliaa
open Go.ChangeShapes Go.WideShapes Go.ChangeAt Go.RowKit
set_option maxRecDepth 100000
set_option maxHeartbeats 1000000
theorem laws_big_c {w : World} {H : Nat → Prop} {code : List Nat} {code_a : Option Addr} {code_n code_c : Nat} (v_code : RdA 1 encB okB H w (.slice code_a code_n code_c) code) :
    Calls Try.prog 19 #[.slice code_a code_n code_c] w fun e w' => e = .returned (.bool (decide (code.length > 1048576))) ∧ Mv [] w [] w' := by
 have V_v_code : RdA 1 encB okB (V H w []) w (.slice code_a code_n code_c) code := RdA.start v_code (fun _ _ => fps_nil _)
 obtain ⟨ln_code, le_code, mx_code, ni_code⟩ := RdA.inv v_code
 refine calls_enter 6 Try.func19 rfl Try.ntmps19 (Nat.le_of_ble_eq_true rfl) (fun _ F0i => ?_)
 have F0 : Fr 6 [(0, .slice code_a code_n code_c)] _ := F0i
 clear F0i
 refine wp_seq (wp_region_lit (l_op (f_val F0 rfl rfl (r_assign rfl rfl) rfl fun _ F1 => ?_)))
 have F2 : Fr 6 [(2, .bool false), (0, .slice code_a code_n code_c)] _ := F1.cut rfl
 clear F0 F1
 refine s_end (x_normal (wp_seq (wp_region_lit (l_op (f_mv F2 rfl rfl rfl rfl rfl fun _ F3 => ?_)))))
 refine l_op (f_val F3 rfl rfl (r_len Try.underlying32 rfl (F3.ev 3 rfl)) rfl fun _ F4 => ?_)
 refine l_op (f_val F4 rfl rfl (r_cmp (b := decide (code_n > 1048576)) (.inr (.inr (.inr (.inr (.inl rfl))))) rfl (F4.ev 4 rfl) rfl (dec_of (by omega))) rfl fun _ F5 => ?_)
 refine l_op (f_as F5 rfl rfl rfl rfl rfl fun _ F6 => ?_)
 have F7 : Fr 6 [(2, .bool (decide (code_n > 1048576)))] _ := F6.cut rfl
 clear F2 F3 F4 F5 F6
 refine s_end (x_normal (wp_ret ?_))
 refine x_done (v := .bool (decide (code_n > 1048576))) F7 (results_1 Try.results19 (.tmp (F7.ev 2 rfl))) ?_
 exact ⟨(by rw [(show (decide (code_n > 1048576)) = (decide (code.length > 1048576)) from by rw [ln_code])]), (Mv.pick (Mv.refl (At.nil w)) [] rfl)⟩
end Go.Proofs.Ytbbkihijhdpliaa
