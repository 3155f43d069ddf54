/-
  Walks: pages are stored.
-/
import Derived.Test.YticcmacclncgaaaDoorGenH
namespace Go.Proofs.YticcmacclncgaaaDoor
open Go.ChangeShapes Go.WideShapes Go.ChangeAt Go.RowKit
set_option maxRecDepth 100000
set_option maxHeartbeats 1000000
theorem impl_pagesKey_c {w : World} {H : Nat → Prop} {id : Int} (h_id : i64ok id) (tab0 : Tb 0 H w) :
    Calls Tryd.prog 69 #[.int .i64 id] w fun e w' => e = .returned (.string (keyNum (⟨#[109, 47]⟩ : ByteArray) id (⟨#[47]⟩ : ByteArray))) ∧ Mv [] w [] w' ∧ okS (keyNum (⟨#[109, 47]⟩ : ByteArray) id (⟨#[47]⟩ : ByteArray)) := by
 have V_tab0 : Tb 0 (V H w []) w := Tb.start tab0 (fun _ _ => fps_nil _)
 refine calls_enter 5 Tryd.func69 rfl Tryd.ntmps69 (Nat.le_of_ble_eq_true rfl) (fun _ F0i => ?_)
 have F0 : Fr 5 [(0, .int .i64 id)] _ := F0i
 clear F0i
 refine wp_seq (wp_region_lit (l_op (f_val F0 rfl rfl (r_assign rfl rfl) rfl fun _ F1 => ?_)))
 have F2 : Fr 5 [(2, .string (⟨#[]⟩ : ByteArray)), (0, .int .i64 id)] _ := F1.cut rfl
 clear F0 F1
 refine s_end (x_normal (wp_seq (wp_region_lit (l_op (f_mv F2 rfl rfl rfl rfl rfl fun _ F3 => ?_)))))
 refine l_op (f_call F3 CF_99 rfl rfl rfl rfl (lc rfl (lc (F3.ev 3 rfl) (lc rfl rfl))) (impl_KeyNum_c (head := (⟨#[109, 47]⟩ : ByteArray)) (n := id) (tail := (⟨#[47]⟩ : ByteArray)) (by unfold okS; decide) h_id (by unfold okS; decide) V_tab0 (by first | assumption | omega | (refine bdC.s ?_; (repeat (first | refine bdC.look ?_ | refine bdC.lay ?_ | refine bdC.set ?_)); exact bdC.le (by assumption) (by decide)) | (refine bdC.r ?_; (repeat (first | refine bdC.look ?_ | refine bdC.lay ?_ | refine bdC.set ?_)); exact bdC.le (by assumption) (by decide)) | (refine bdC.w ?_; (repeat (first | refine bdC.look ?_ | refine bdC.lay ?_ | refine bdC.set ?_)); exact bdC.le (by assumption) (by decide)) | ((repeat (first | refine bdC.look ?_ | refine bdC.lay ?_ | refine bdC.set ?_)); exact bdC.le (by assumption) (by decide)) | decide | exact Nat.le_trans (keyNum_size _ _ (by assumption)) (by decide)) (by first | assumption | omega | (refine bdC.s ?_; (repeat (first | refine bdC.look ?_ | refine bdC.lay ?_ | refine bdC.set ?_)); exact bdC.le (by assumption) (by decide)) | (refine bdC.r ?_; (repeat (first | refine bdC.look ?_ | refine bdC.lay ?_ | refine bdC.set ?_)); exact bdC.le (by assumption) (by decide)) | (refine bdC.w ?_; (repeat (first | refine bdC.look ?_ | refine bdC.lay ?_ | refine bdC.set ?_)); exact bdC.le (by assumption) (by decide)) | ((repeat (first | refine bdC.look ?_ | refine bdC.lay ?_ | refine bdC.set ?_)); exact bdC.le (by assumption) (by decide)) | decide | exact Nat.le_trans (keyNum_size _ _ (by assumption)) (by decide))) ?_)
 rintro _ w4 ⟨rfl, m4, ok_r0_4⟩
 refine ⟨_, rfl, fun _ F5 => ?_⟩
 have S4 := At.frame0 (At.nil w) m4
 clear m4
 refine l_op (f_as F5 rfl rfl rfl rfl rfl fun _ F6 => ?_)
 have F7 : Fr 5 [(2, .string (keyNum (⟨#[109, 47]⟩ : ByteArray) id (⟨#[47]⟩ : ByteArray)))] _ := F6.cut rfl
 clear F2 F3 F5 F6
 have T8 : Mv _ _ [] _ := S4
 refine s_end (x_normal (wp_ret ?_))
 refine x_done (v := .string (keyNum (⟨#[109, 47]⟩ : ByteArray) id (⟨#[47]⟩ : ByteArray))) F7 (results_1 Tryd.results69 (.tmp (F7.ev 2 rfl))) ?_
 exact ⟨rfl, (Mv.pick T8 [] rfl), ok_r0_4⟩
theorem spec_l11Head_c {w : World} {H : Nat → Prop} {id : Int} (h_id : i64ok id) :
    Calls Tryd.prog 100 #[.int .i64 id] w fun e w' => e = .returned (.string (keyNum (⟨#[109, 47]⟩ : ByteArray) id (⟨#[47]⟩ : ByteArray))) ∧ Mv [] w [] w' ∧ okS (keyNum (⟨#[109, 47]⟩ : ByteArray) id (⟨#[47]⟩ : ByteArray)) := by
 have uU : True := (fun _ => trivial) H
 clear uU
 refine calls_enter 5 Tryd.func100 rfl Tryd.ntmps100 (Nat.le_of_ble_eq_true rfl) (fun _ F0i => ?_)
 have F0 : Fr 5 [(0, .int .i64 id)] _ := F0i
 clear F0i
 refine wp_seq (wp_region_lit (l_op (f_val F0 rfl rfl (r_assign rfl rfl) rfl fun _ F1 => ?_)))
 have F2 : Fr 5 [(2, .string (⟨#[]⟩ : ByteArray)), (0, .int .i64 id)] _ := F1.cut rfl
 clear F0 F1
 refine s_end (x_normal (wp_seq (wp_region_lit (l_op (f_mv F2 rfl rfl rfl rfl rfl fun _ F3 => ?_)))))
 refine l_op (f_call F3 CF_98 rfl rfl rfl rfl (lc rfl (lc (F3.ev 3 rfl) (lc rfl rfl))) (spec_KeyNum_c (H := fun _ => True) (head := (⟨#[109, 47]⟩ : ByteArray)) (n := id) (tail := (⟨#[47]⟩ : ByteArray)) (by unfold okS; decide) h_id (by unfold okS; decide) (by first | assumption | omega | (refine bdC.s ?_; (repeat (first | refine bdC.look ?_ | refine bdC.lay ?_ | refine bdC.set ?_)); exact bdC.le (by assumption) (by decide)) | (refine bdC.r ?_; (repeat (first | refine bdC.look ?_ | refine bdC.lay ?_ | refine bdC.set ?_)); exact bdC.le (by assumption) (by decide)) | (refine bdC.w ?_; (repeat (first | refine bdC.look ?_ | refine bdC.lay ?_ | refine bdC.set ?_)); exact bdC.le (by assumption) (by decide)) | ((repeat (first | refine bdC.look ?_ | refine bdC.lay ?_ | refine bdC.set ?_)); exact bdC.le (by assumption) (by decide)) | decide | exact Nat.le_trans (keyNum_size _ _ (by assumption)) (by decide)) (by first | assumption | omega | (refine bdC.s ?_; (repeat (first | refine bdC.look ?_ | refine bdC.lay ?_ | refine bdC.set ?_)); exact bdC.le (by assumption) (by decide)) | (refine bdC.r ?_; (repeat (first | refine bdC.look ?_ | refine bdC.lay ?_ | refine bdC.set ?_)); exact bdC.le (by assumption) (by decide)) | (refine bdC.w ?_; (repeat (first | refine bdC.look ?_ | refine bdC.lay ?_ | refine bdC.set ?_)); exact bdC.le (by assumption) (by decide)) | ((repeat (first | refine bdC.look ?_ | refine bdC.lay ?_ | refine bdC.set ?_)); exact bdC.le (by assumption) (by decide)) | decide | exact Nat.le_trans (keyNum_size _ _ (by assumption)) (by decide))) ?_)
 rintro _ w4 ⟨rfl, m4, ok_r0_4⟩
 refine ⟨_, rfl, fun _ F5 => ?_⟩
 have S4 := At.frame0 (At.nil w) m4
 clear m4
 refine l_op (f_as F5 rfl rfl rfl rfl rfl fun _ F6 => ?_)
 have F7 : Fr 5 [(2, .string (keyNum (⟨#[109, 47]⟩ : ByteArray) id (⟨#[47]⟩ : ByteArray)))] _ := F6.cut rfl
 clear F2 F3 F5 F6
 have T8 : Mv _ _ [] _ := S4
 refine s_end (x_normal (wp_ret ?_))
 refine x_done (v := .string (keyNum (⟨#[109, 47]⟩ : ByteArray) id (⟨#[47]⟩ : ByteArray))) F7 (results_1 Tryd.results100 (.tmp (F7.ev 2 rfl))) ?_
 exact ⟨rfl, (Mv.pick T8 [] rfl), ok_r0_4⟩
end Go.Proofs.YticcmacclncgaaaDoor
