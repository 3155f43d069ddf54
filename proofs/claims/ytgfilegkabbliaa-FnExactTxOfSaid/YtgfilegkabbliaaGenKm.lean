/-
  Walks: kernels are marked.
-/
import Derived.Test.YtgfilegkabbliaaGenKn
import Derived.Test.YtgfilegkabbliaaGenNsc
import Derived.Test.YtgfilegkabbliaaGenNsg
namespace Go.Proofs.Ytgfilegkabbliaa
open Go.ChangeShapes Go.WideShapes Go.ChangeAt Go.RowKit
set_option maxRecDepth 100000
set_option maxHeartbeats 1000000
theorem laws_markStepS_c {w : World} {H : Nat → Prop} {a : List StepD} {a_a : Option Addr} {a_n a_c : Nat} {k : Nat} (h_k : i64ok (k : Int)) (p0 : k + 7 * a.length ≤ 4611686018427387904) (hA : At w [ow 183 7 encStep okStep (.slice a_a a_n a_c) a]) :
    Calls Try.prog 142 #[.slice a_a a_n a_c, .int .i64 ((k : Nat) : Int)] w fun e w' => ∃ (D : List StepD), e = .returned (.int .i64 ((k + 7 * a.length : Nat) : Int)) ∧ Mv [ow 183 7 encStep okStep (.slice a_a a_n a_c) a] w [ow 183 7 encStep okStep (.slice a_a a_n a_c) D] w' := by
 have uU : True := (fun _ _ _ => trivial) H h_k p0
 clear uU
 obtain ⟨lo0, lp0, lq0⟩ := At.ownInv hA ET_159.hk 0 rfl
 refine calls_enter 71 Try.func142 rfl Try.ntmps142 (Nat.le_of_ble_eq_true rfl) (fun _ F0i => ?_)
 have F0 : Fr 71 [(0, .slice a_a a_n a_c), (1, .int .i64 ((k : Nat) : Int))] _ := F0i
 clear F0i
 refine wp_seq (wp_region_lit (l_op (f_val F0 rfl rfl (r_assign rfl rfl) rfl fun _ F1 => ?_)))
 refine s_end (x_normal (wp_seq (wp_seq (wp_region_lit (l_op (f_val F1 rfl rfl (r_assign rfl rfl) rfl fun _ F2 => ?_))))))
 refine s_end (x_normal (wp_block ?_))
 refine x_loop (fun (j : Nat) aZ wZ => ∃ (kk : Nat), ∃ (D : List StepD), Fr 71 [(5, .int .i64 ((j : Nat) : Int)), (0, .slice a_a a_n a_c), (1, .int .i64 ((kk : Nat) : Int))] aZ ∧ Mv [ow 183 7 encStep okStep (.slice a_a a_n a_c) a] w [ow 183 7 encStep okStep (.slice a_a a_n a_c) D] wZ ∧ (j ≤ a_n) ∧ (kk = k + 7 * j)) (fun (j : Nat) => a_n - j) (0) ?_ ?_
 · exact ⟨k, a, F2.cut rfl, (Mv.refl hA), by omega, by omega⟩
 · rintro j a3 w3 ⟨kk, D, F3, S3, hj_0, hj_1⟩
   refine wp_seq (wp_seq (wp_region_lit (l_op (f_mv F3 rfl rfl rfl rfl rfl fun _ F4 => ?_))))
   refine l_op (f_mv F4 rfl rfl rfl rfl rfl fun _ F5 => ?_)
   refine l_op (f_val F5 rfl rfl (r_len Try.underlying159 rfl (F5.ev 7 rfl)) rfl fun _ F6 => ?_)
   refine l_op (f_val F6 rfl rfl (r_cmp (b := decide (j < a_n)) (.inr (.inr (.inl rfl))) rfl (F6.ev 6 rfl) (F6.ev 8 rfl) (dec_of (by omega))) rfl fun _ F7 => ?_)
   refine s_end (x_normal (x_cond (p := j < a_n) (F7.ev 9 rfl) (fun h8 => ?_) (fun h8 => ?_)))
   · skip
     refine wp_skip (x_normal (wp_seq (wp_block (wp_seq (wp_region_lit (l_op (f_mv F7 rfl rfl rfl rfl rfl fun _ F9 => ?_)))))))
     refine l_op (f_mv F9 rfl rfl rfl rfl rfl fun _ F10 => ?_)
     refine l_op (f_mv F10 rfl rfl rfl rfl rfl fun _ F11 => ?_)
     obtain ⟨B12, x1, ad12, hx1, okx1, cl12⟩ := At.ownAt S3.at' ET_159.hk 0 rfl j (by first | assumption | omega)
     refine l_op (f_val F11 rfl rfl (r_indexAddr (i := j) ET_159 rfl ((F11.ev 12 rfl).trans (by rw [ad12])) (F11.ev 13 rfl) (by omega) (by first | assumption | omega)) rfl fun _ F13 => ?_)
     refine l_op (f_val F13 rfl rfl (r_field FI_183_0 rfl (F13.ev 15 rfl) rfl) rfl fun _ F14 => ?_)
     refine l_op (s_storeElF (off := 0) S3.at' 0 j x1 (⟨((kk : Nat) : Int), x1.call⟩ : StepD) ET_159.hk ET_159.h1 TI_3 rfl ad12 rfl rfl rfl rfl (F14.ev 16 rfl) (F14.ev 14 rfl) rfl (by first | assumption | omega) hx1 rfl (by decide) (⟨(show i64ok ((kk : Nat) : Int) from by first | assumption | exact ⟨by omega, by omega⟩), okx1.2.1, okx1.2.2.1, okx1.2.2.2.1, okx1.2.2.2.2.1, okx1.2.2.2.2.2.1, okx1.2.2.2.2.2.2⟩) fun w15 S15 => ?_)
     obtain ⟨E16, x2, cE16, hx2, ex2⟩ : ∃ (zD : List StepD) (zZ : StepD), zD = D.set j zZ ∧ nth zD j = some zZ ∧ zZ = (⟨((kk : Nat) : Int), x1.call⟩ : StepD) := ⟨_, _, rfl, nth_setSelf hx1, rfl⟩
     have S17 : Mv _ _ [ow 183 7 encStep okStep (.slice a_a a_n a_c) E16] _ := Mv.cast (Mv.refl S15.at') (by rw [cE16, ex2] <;> rfl)
     have okx2 : okStep x2 := by rw [ex2]; exact ⟨(show i64ok ((kk : Nat) : Int) from by first | assumption | exact ⟨by omega, by omega⟩), okx1.2.1, okx1.2.2.1, okx1.2.2.2.1, okx1.2.2.2.2.1, okx1.2.2.2.2.2.1, okx1.2.2.2.2.2.2⟩
     refine s_end (x_normal (wp_seq (wp_region_lit (l_op (f_mv F14 rfl rfl rfl rfl rfl fun _ F18 => ?_)))))
     refine l_op (f_val F18 rfl rfl (r_add (z := ((kk + 1 : Nat) : Int)) rfl (F18.ev 17 rfl) rfl (by first | rfl | omega) ⟨by first | omega | (unfold i64ok at *; omega), by first | omega | (unfold i64ok at *; omega)⟩) rfl fun _ F19 => ?_)
     refine l_op (f_as F19 rfl rfl rfl rfl rfl fun _ F20 => ?_)
     refine s_end (x_normal (wp_seq (wp_region_lit (l_op (f_mv F20 rfl rfl rfl rfl rfl fun _ F21 => ?_)))))
     refine l_op (f_mv F21 rfl rfl rfl rfl rfl fun _ F22 => ?_)
     refine l_op (f_mv F22 rfl rfl rfl rfl rfl fun _ F23 => ?_)
     obtain ⟨B24, y24, ad24, hy24, oky24, cl24⟩ := At.ownAt S17.at' ET_159.hk 0 rfl j (by first | assumption | omega)
     obtain rfl := Option.some.inj (hx2.symm.trans hy24)
     clear hy24 oky24
     refine l_op (f_val F23 rfl rfl (r_indexAddr (i := j) ET_159 rfl ((F23.ev 19 rfl).trans (by rw [ad24])) (F23.ev 20 rfl) (by omega) (by first | assumption | omega)) rfl fun _ F25 => ?_)
     refine l_op (f_val F25 rfl rfl (r_field FI_183_1 rfl (F25.ev 22 rfl) rfl) rfl fun _ F26 => ?_)
     refine l_op (f_val F26 rfl rfl (r_field FI_148_0 rfl (F26.ev 23 rfl) rfl) rfl fun _ F27 => ?_)
     refine l_op (s_storeElF (off := 1) S17.at' 0 j x2 (⟨x2.proc, (⟨((kk + 1 : Nat) : Int), x2.call.name, x2.call.to_, x2.call.a, x2.call.b, x2.call.text⟩ : CallD)⟩ : StepD) ET_159.hk ET_159.h1 TI_3 rfl ad24 rfl rfl rfl rfl (F27.ev 24 rfl) (F27.ev 21 rfl) rfl (by first | assumption | omega) hx2 rfl (by decide) (⟨okx2.1, (show i64ok ((kk + 1 : Nat) : Int) from by first | assumption | exact ⟨by omega, by omega⟩), okx2.2.2.1, okx2.2.2.2.1, okx2.2.2.2.2.1, okx2.2.2.2.2.2.1, okx2.2.2.2.2.2.2⟩) fun w28 S28 => ?_)
     obtain ⟨E29, x3, cE29, hx3, ex3⟩ : ∃ (zD : List StepD) (zZ : StepD), zD = D.set j zZ ∧ nth zD j = some zZ ∧ zZ = (⟨x2.proc, (⟨((kk + 1 : Nat) : Int), x2.call.name, x2.call.to_, x2.call.a, x2.call.b, x2.call.text⟩ : CallD)⟩ : StepD) := ⟨_, _, rfl, nth_setSelf hx1, rfl⟩
     have S30 : Mv _ _ [ow 183 7 encStep okStep (.slice a_a a_n a_c) E29] _ := Mv.cast (Mv.refl S28.at') (by rw [cE29, ex3, cE16, List.set_set] <;> rfl)
     have okx3 : okStep x3 := by rw [ex3]; exact ⟨okx2.1, (show i64ok ((kk + 1 : Nat) : Int) from by first | assumption | exact ⟨by omega, by omega⟩), okx2.2.2.1, okx2.2.2.2.1, okx2.2.2.2.2.1, okx2.2.2.2.2.2.1, okx2.2.2.2.2.2.2⟩
     have T31 : Mv _ _ [ow 183 7 encStep okStep (.slice a_a a_n a_c) E29] _ := S30
     refine s_end (x_normal (wp_seq (wp_region_lit (l_op (f_mv F27 rfl rfl rfl rfl rfl fun _ F32 => ?_)))))
     refine l_op (f_val F32 rfl rfl (r_add (z := (((kk + 1) + 1 : Nat) : Int)) rfl (F32.ev 25 rfl) rfl (by first | rfl | omega) ⟨by first | omega | (unfold i64ok at *; omega), by first | omega | (unfold i64ok at *; omega)⟩) rfl fun _ F33 => ?_)
     refine l_op (f_as F33 rfl rfl rfl rfl rfl fun _ F34 => ?_)
     refine s_end (x_normal (wp_seq (wp_region_lit (l_op (f_mv F34 rfl rfl rfl rfl rfl fun _ F35 => ?_)))))
     refine l_op (f_mv F35 rfl rfl rfl rfl rfl fun _ F36 => ?_)
     refine l_op (f_mv F36 rfl rfl rfl rfl rfl fun _ F37 => ?_)
     refine l_op (f_call F37 CF_127 rfl rfl rfl rfl (lc (F37.ev 29 rfl) rfl) (laws_markText_c (H := fun _ => True) (k := (kk + 1) + 1) ⟨by omega, by first | omega | (unfold i64ok at *; omega)⟩) ?_)
     rintro _ w38 ⟨rfl, m38, Q0⟩
     refine ⟨_, rfl, fun _ F39 => ?_⟩
     have S38 := At.frame0 T31.at' m38
     clear m38
     obtain ⟨B40, y40, ad40, hy40, oky40, cl40⟩ := At.ownAt S38.at' ET_159.hk 0 rfl j (by first | assumption | omega)
     obtain rfl := Option.some.inj (hx3.symm.trans hy40)
     clear hy40 oky40
     refine l_op (f_val F39 rfl rfl (r_indexAddr (i := j) ET_159 rfl ((F39.ev 27 rfl).trans (by rw [ad40])) (F39.ev 28 rfl) (by omega) (by first | assumption | omega)) rfl fun _ F41 => ?_)
     refine l_op (f_val F41 rfl rfl (r_field FI_183_1 rfl (F41.ev 31 rfl) rfl) rfl fun _ F42 => ?_)
     refine l_op (f_val F42 rfl rfl (r_field FI_148_1 rfl (F42.ev 32 rfl) rfl) rfl fun _ F43 => ?_)
     refine l_op (s_storeElF (off := 2) S38.at' 0 j x3 (⟨x3.proc, (⟨x3.call.kind, (markT ((kk + 1) + 1)), x3.call.to_, x3.call.a, x3.call.b, x3.call.text⟩ : CallD)⟩ : StepD) ET_159.hk ET_159.h1 TI_9 rfl ad40 rfl rfl rfl rfl (F43.ev 33 rfl) (F43.ev 30 rfl) rfl (by first | assumption | omega) hx3 rfl (by decide) (⟨okx3.1, okx3.2.1, Q0, okx3.2.2.2.1, okx3.2.2.2.2.1, okx3.2.2.2.2.2.1, okx3.2.2.2.2.2.2⟩) fun w44 S44 => ?_)
     obtain ⟨E45, x4, cE45, hx4, ex4⟩ : ∃ (zD : List StepD) (zZ : StepD), zD = D.set j zZ ∧ nth zD j = some zZ ∧ zZ = (⟨x3.proc, (⟨x3.call.kind, (markT ((kk + 1) + 1)), x3.call.to_, x3.call.a, x3.call.b, x3.call.text⟩ : CallD)⟩ : StepD) := ⟨_, _, rfl, nth_setSelf hx1, rfl⟩
     have S46 : Mv _ _ [ow 183 7 encStep okStep (.slice a_a a_n a_c) E45] _ := Mv.cast (Mv.refl S44.at') (by rw [cE45, ex4, cE29, List.set_set] <;> rfl)
     have okx4 : okStep x4 := by rw [ex4]; exact ⟨okx3.1, okx3.2.1, Q0, okx3.2.2.2.1, okx3.2.2.2.2.1, okx3.2.2.2.2.2.1, okx3.2.2.2.2.2.2⟩
     refine s_end (x_normal (wp_seq (wp_region_lit (l_op (f_mv F43 rfl rfl rfl rfl rfl fun _ F47 => ?_)))))
     refine l_op (f_val F47 rfl rfl (r_add (z := ((((kk + 1) + 1) + 1 : Nat) : Int)) rfl (F47.ev 34 rfl) rfl (by first | rfl | omega) ⟨by first | omega | (unfold i64ok at *; omega), by first | omega | (unfold i64ok at *; omega)⟩) rfl fun _ F48 => ?_)
     refine l_op (f_as F48 rfl rfl rfl rfl rfl fun _ F49 => ?_)
     refine s_end (x_normal (wp_seq (wp_region_lit (l_op (f_mv F49 rfl rfl rfl rfl rfl fun _ F50 => ?_)))))
     refine l_op (f_mv F50 rfl rfl rfl rfl rfl fun _ F51 => ?_)
     refine l_op (f_mv F51 rfl rfl rfl rfl rfl fun _ F52 => ?_)
     refine l_op (f_call F52 CF_127 rfl rfl rfl rfl (lc (F52.ev 38 rfl) rfl) (laws_markText_c (H := fun _ => True) (k := ((kk + 1) + 1) + 1) ⟨by omega, by first | omega | (unfold i64ok at *; omega)⟩) ?_)
     rintro _ w53 ⟨rfl, m53, Q1⟩
     refine ⟨_, rfl, fun _ F54 => ?_⟩
     have S53 := At.frame0 S46.at' m53
     clear m53
     obtain ⟨B55, y55, ad55, hy55, oky55, cl55⟩ := At.ownAt S53.at' ET_159.hk 0 rfl j (by first | assumption | omega)
     obtain rfl := Option.some.inj (hx4.symm.trans hy55)
     clear hy55 oky55
     refine l_op (f_val F54 rfl rfl (r_indexAddr (i := j) ET_159 rfl ((F54.ev 36 rfl).trans (by rw [ad55])) (F54.ev 37 rfl) (by omega) (by first | assumption | omega)) rfl fun _ F56 => ?_)
     refine l_op (f_val F56 rfl rfl (r_field FI_183_1 rfl (F56.ev 40 rfl) rfl) rfl fun _ F57 => ?_)
     refine l_op (f_val F57 rfl rfl (r_field FI_148_2 rfl (F57.ev 41 rfl) rfl) rfl fun _ F58 => ?_)
     refine l_op (s_storeElF (off := 3) S53.at' 0 j x4 (⟨x4.proc, (⟨x4.call.kind, x4.call.name, (markT (((kk + 1) + 1) + 1)), x4.call.a, x4.call.b, x4.call.text⟩ : CallD)⟩ : StepD) ET_159.hk ET_159.h1 TI_9 rfl ad55 rfl rfl rfl rfl (F58.ev 42 rfl) (F58.ev 39 rfl) rfl (by first | assumption | omega) hx4 rfl (by decide) (⟨okx4.1, okx4.2.1, okx4.2.2.1, Q1, okx4.2.2.2.2.1, okx4.2.2.2.2.2.1, okx4.2.2.2.2.2.2⟩) fun w59 S59 => ?_)
     obtain ⟨E60, x5, cE60, hx5, ex5⟩ : ∃ (zD : List StepD) (zZ : StepD), zD = D.set j zZ ∧ nth zD j = some zZ ∧ zZ = (⟨x4.proc, (⟨x4.call.kind, x4.call.name, (markT (((kk + 1) + 1) + 1)), x4.call.a, x4.call.b, x4.call.text⟩ : CallD)⟩ : StepD) := ⟨_, _, rfl, nth_setSelf hx1, rfl⟩
     have S61 : Mv _ _ [ow 183 7 encStep okStep (.slice a_a a_n a_c) E60] _ := Mv.cast (Mv.refl S59.at') (by rw [cE60, ex5, cE45, List.set_set] <;> rfl)
     have okx5 : okStep x5 := by rw [ex5]; exact ⟨okx4.1, okx4.2.1, okx4.2.2.1, Q1, okx4.2.2.2.2.1, okx4.2.2.2.2.2.1, okx4.2.2.2.2.2.2⟩
     have T62 : Mv _ _ [ow 183 7 encStep okStep (.slice a_a a_n a_c) E60] _ := S61
     refine s_end (x_normal (wp_seq (wp_region_lit (l_op (f_mv F58 rfl rfl rfl rfl rfl fun _ F63 => ?_)))))
     refine l_op (f_val F63 rfl rfl (r_add (z := (((((kk + 1) + 1) + 1) + 1 : Nat) : Int)) rfl (F63.ev 43 rfl) rfl (by first | rfl | omega) ⟨by first | omega | (unfold i64ok at *; omega), by first | omega | (unfold i64ok at *; omega)⟩) rfl fun _ F64 => ?_)
     refine l_op (f_as F64 rfl rfl rfl rfl rfl fun _ F65 => ?_)
     have F66 : Fr 71 [(1, .int .i64 (((((kk + 1) + 1) + 1) + 1 : Nat) : Int)), (5, .int .i64 ((j : Nat) : Int)), (0, .slice a_a a_n a_c)] _ := F65.cut rfl
     clear F3 F4 F5 F6 F7 F9 F10 F11 F13 F14 F18 F19 F20 F21 F22 F23 F25 F26 F27 F32 F33 F34 F35 F36 F37 F39 F41 F42 F43 F47 F48 F49 F50 F51 F52 F54 F56 F57 F58 F63 F64 F65
     refine s_end (x_normal (wp_seq (wp_region_lit (l_op (f_mv F66 rfl rfl rfl rfl rfl fun _ F67 => ?_)))))
     refine l_op (f_mv F67 rfl rfl rfl rfl rfl fun _ F68 => ?_)
     refine l_op (f_mv F68 rfl rfl rfl rfl rfl fun _ F69 => ?_)
     obtain ⟨B70, y70, ad70, hy70, oky70, cl70⟩ := At.ownAt T62.at' ET_159.hk 0 rfl j (by first | assumption | omega)
     obtain rfl := Option.some.inj (hx5.symm.trans hy70)
     clear hy70 oky70
     refine l_op (f_val F69 rfl rfl (r_indexAddr (i := j) ET_159 rfl ((F69.ev 45 rfl).trans (by rw [ad70])) (F69.ev 46 rfl) (by omega) (by first | assumption | omega)) rfl fun _ F71 => ?_)
     refine l_op (f_val F71 rfl rfl (r_field FI_183_1 rfl (F71.ev 48 rfl) rfl) rfl fun _ F72 => ?_)
     refine l_op (f_val F72 rfl rfl (r_field FI_148_3 rfl (F72.ev 49 rfl) rfl) rfl fun _ F73 => ?_)
     refine l_op (s_storeElF (off := 4) T62.at' 0 j x5 (⟨x5.proc, (⟨x5.call.kind, x5.call.name, x5.call.to_, (((((kk + 1) + 1) + 1) + 1 : Nat) : Int), x5.call.b, x5.call.text⟩ : CallD)⟩ : StepD) ET_159.hk ET_159.h1 TI_3 rfl ad70 rfl rfl rfl rfl (F73.ev 50 rfl) (F73.ev 47 rfl) rfl (by first | assumption | omega) hx5 rfl (by decide) (⟨okx5.1, okx5.2.1, okx5.2.2.1, okx5.2.2.2.1, (show i64ok (((((kk + 1) + 1) + 1) + 1 : Nat) : Int) from by first | assumption | exact ⟨by omega, by omega⟩), okx5.2.2.2.2.2.1, okx5.2.2.2.2.2.2⟩) fun w74 S74 => ?_)
     obtain ⟨E75, x6, cE75, hx6, ex6⟩ : ∃ (zD : List StepD) (zZ : StepD), zD = D.set j zZ ∧ nth zD j = some zZ ∧ zZ = (⟨x5.proc, (⟨x5.call.kind, x5.call.name, x5.call.to_, (((((kk + 1) + 1) + 1) + 1 : Nat) : Int), x5.call.b, x5.call.text⟩ : CallD)⟩ : StepD) := ⟨_, _, rfl, nth_setSelf hx1, rfl⟩
     have S76 : Mv _ _ [ow 183 7 encStep okStep (.slice a_a a_n a_c) E75] _ := Mv.cast (Mv.refl S74.at') (by rw [cE75, ex6, cE60, List.set_set] <;> rfl)
     have okx6 : okStep x6 := by rw [ex6]; exact ⟨okx5.1, okx5.2.1, okx5.2.2.1, okx5.2.2.2.1, (show i64ok (((((kk + 1) + 1) + 1) + 1 : Nat) : Int) from by first | assumption | exact ⟨by omega, by omega⟩), okx5.2.2.2.2.2.1, okx5.2.2.2.2.2.2⟩
     refine s_end (x_normal (wp_seq (wp_region_lit (l_op (f_mv F73 rfl rfl rfl rfl rfl fun _ F77 => ?_)))))
     refine l_op (f_val F77 rfl rfl (r_add (z := ((((((kk + 1) + 1) + 1) + 1) + 1 : Nat) : Int)) rfl (F77.ev 51 rfl) rfl (by first | rfl | omega) ⟨by first | omega | (unfold i64ok at *; omega), by first | omega | (unfold i64ok at *; omega)⟩) rfl fun _ F78 => ?_)
     refine l_op (f_as F78 rfl rfl rfl rfl rfl fun _ F79 => ?_)
     refine s_end (x_normal (wp_seq (wp_region_lit (l_op (f_mv F79 rfl rfl rfl rfl rfl fun _ F80 => ?_)))))
     refine l_op (f_mv F80 rfl rfl rfl rfl rfl fun _ F81 => ?_)
     refine l_op (f_mv F81 rfl rfl rfl rfl rfl fun _ F82 => ?_)
     obtain ⟨B83, y83, ad83, hy83, oky83, cl83⟩ := At.ownAt S76.at' ET_159.hk 0 rfl j (by first | assumption | omega)
     obtain rfl := Option.some.inj (hx6.symm.trans hy83)
     clear hy83 oky83
     refine l_op (f_val F82 rfl rfl (r_indexAddr (i := j) ET_159 rfl ((F82.ev 53 rfl).trans (by rw [ad83])) (F82.ev 54 rfl) (by omega) (by first | assumption | omega)) rfl fun _ F84 => ?_)
     refine l_op (f_val F84 rfl rfl (r_field FI_183_1 rfl (F84.ev 56 rfl) rfl) rfl fun _ F85 => ?_)
     refine l_op (f_val F85 rfl rfl (r_field FI_148_4 rfl (F85.ev 57 rfl) rfl) rfl fun _ F86 => ?_)
     refine l_op (s_storeElF (off := 5) S76.at' 0 j x6 (⟨x6.proc, (⟨x6.call.kind, x6.call.name, x6.call.to_, x6.call.a, ((((((kk + 1) + 1) + 1) + 1) + 1 : Nat) : Int), x6.call.text⟩ : CallD)⟩ : StepD) ET_159.hk ET_159.h1 TI_3 rfl ad83 rfl rfl rfl rfl (F86.ev 58 rfl) (F86.ev 55 rfl) rfl (by first | assumption | omega) hx6 rfl (by decide) (⟨okx6.1, okx6.2.1, okx6.2.2.1, okx6.2.2.2.1, okx6.2.2.2.2.1, (show i64ok ((((((kk + 1) + 1) + 1) + 1) + 1 : Nat) : Int) from by first | assumption | exact ⟨by omega, by omega⟩), okx6.2.2.2.2.2.2⟩) fun w87 S87 => ?_)
     obtain ⟨E88, x7, cE88, hx7, ex7⟩ : ∃ (zD : List StepD) (zZ : StepD), zD = D.set j zZ ∧ nth zD j = some zZ ∧ zZ = (⟨x6.proc, (⟨x6.call.kind, x6.call.name, x6.call.to_, x6.call.a, ((((((kk + 1) + 1) + 1) + 1) + 1 : Nat) : Int), x6.call.text⟩ : CallD)⟩ : StepD) := ⟨_, _, rfl, nth_setSelf hx1, rfl⟩
     have S89 : Mv _ _ [ow 183 7 encStep okStep (.slice a_a a_n a_c) E88] _ := Mv.cast (Mv.refl S87.at') (by rw [cE88, ex7, cE75, List.set_set] <;> rfl)
     have okx7 : okStep x7 := by rw [ex7]; exact ⟨okx6.1, okx6.2.1, okx6.2.2.1, okx6.2.2.2.1, okx6.2.2.2.2.1, (show i64ok ((((((kk + 1) + 1) + 1) + 1) + 1 : Nat) : Int) from by first | assumption | exact ⟨by omega, by omega⟩), okx6.2.2.2.2.2.2⟩
     have T90 : Mv _ _ [ow 183 7 encStep okStep (.slice a_a a_n a_c) E88] _ := S89
     refine s_end (x_normal (wp_seq (wp_region_lit (l_op (f_mv F86 rfl rfl rfl rfl rfl fun _ F91 => ?_)))))
     refine l_op (f_val F91 rfl rfl (r_add (z := (((((((kk + 1) + 1) + 1) + 1) + 1) + 1 : Nat) : Int)) rfl (F91.ev 59 rfl) rfl (by first | rfl | omega) ⟨by first | omega | (unfold i64ok at *; omega), by first | omega | (unfold i64ok at *; omega)⟩) rfl fun _ F92 => ?_)
     refine l_op (f_as F92 rfl rfl rfl rfl rfl fun _ F93 => ?_)
     refine s_end (x_normal (wp_seq (wp_region_lit (l_op (f_mv F93 rfl rfl rfl rfl rfl fun _ F94 => ?_)))))
     refine l_op (f_mv F94 rfl rfl rfl rfl rfl fun _ F95 => ?_)
     refine l_op (f_mv F95 rfl rfl rfl rfl rfl fun _ F96 => ?_)
     refine l_op (f_call F96 CF_127 rfl rfl rfl rfl (lc (F96.ev 63 rfl) rfl) (laws_markText_c (H := fun _ => True) (k := (((((kk + 1) + 1) + 1) + 1) + 1) + 1) ⟨by omega, by first | omega | (unfold i64ok at *; omega)⟩) ?_)
     rintro _ w97 ⟨rfl, m97, Q2⟩
     refine ⟨_, rfl, fun _ F98 => ?_⟩
     have S97 := At.frame0 T90.at' m97
     clear m97
     obtain ⟨B99, y99, ad99, hy99, oky99, cl99⟩ := At.ownAt S97.at' ET_159.hk 0 rfl j (by first | assumption | omega)
     obtain rfl := Option.some.inj (hx7.symm.trans hy99)
     clear hy99 oky99
     refine l_op (f_val F98 rfl rfl (r_indexAddr (i := j) ET_159 rfl ((F98.ev 61 rfl).trans (by rw [ad99])) (F98.ev 62 rfl) (by omega) (by first | assumption | omega)) rfl fun _ F100 => ?_)
     refine l_op (f_val F100 rfl rfl (r_field FI_183_1 rfl (F100.ev 65 rfl) rfl) rfl fun _ F101 => ?_)
     refine l_op (f_val F101 rfl rfl (r_field FI_148_5 rfl (F101.ev 66 rfl) rfl) rfl fun _ F102 => ?_)
     refine l_op (s_storeElF (off := 6) S97.at' 0 j x7 (⟨x7.proc, (⟨x7.call.kind, x7.call.name, x7.call.to_, x7.call.a, x7.call.b, (markT ((((((kk + 1) + 1) + 1) + 1) + 1) + 1))⟩ : CallD)⟩ : StepD) ET_159.hk ET_159.h1 TI_9 rfl ad99 rfl rfl rfl rfl (F102.ev 67 rfl) (F102.ev 64 rfl) rfl (by first | assumption | omega) hx7 rfl (by decide) (⟨okx7.1, okx7.2.1, okx7.2.2.1, okx7.2.2.2.1, okx7.2.2.2.2.1, okx7.2.2.2.2.2.1, Q2⟩) fun w103 S103 => ?_)
     obtain ⟨E104, x8, cE104, hx8, ex8⟩ : ∃ (zD : List StepD) (zZ : StepD), zD = D.set j zZ ∧ nth zD j = some zZ ∧ zZ = (⟨x7.proc, (⟨x7.call.kind, x7.call.name, x7.call.to_, x7.call.a, x7.call.b, (markT ((((((kk + 1) + 1) + 1) + 1) + 1) + 1))⟩ : CallD)⟩ : StepD) := ⟨_, _, rfl, nth_setSelf hx1, rfl⟩
     have S105 : Mv _ _ [ow 183 7 encStep okStep (.slice a_a a_n a_c) E104] _ := Mv.cast (Mv.refl S103.at') (by rw [cE104, ex8, cE88, List.set_set] <;> rfl)
     have okx8 : okStep x8 := by rw [ex8]; exact ⟨okx7.1, okx7.2.1, okx7.2.2.1, okx7.2.2.2.1, okx7.2.2.2.2.1, okx7.2.2.2.2.2.1, Q2⟩
     refine s_end (x_normal (wp_region_lit (l_op (f_mv F102 rfl rfl rfl rfl rfl fun _ F106 => ?_))))
     refine l_op (f_val F106 rfl rfl (r_add (z := ((((((((kk + 1) + 1) + 1) + 1) + 1) + 1) + 1 : Nat) : Int)) rfl (F106.ev 68 rfl) rfl (by first | rfl | omega) ⟨by first | omega | (unfold i64ok at *; omega), by first | omega | (unfold i64ok at *; omega)⟩) rfl fun _ F107 => ?_)
     refine l_op (f_as F107 rfl rfl rfl rfl rfl fun _ F108 => ?_)
     refine s_end (x_block_normal (x_normal (wp_region_lit (l_op (f_mv F108 rfl rfl rfl rfl rfl fun _ F109 => ?_)))))
     refine l_op (f_val F109 rfl rfl (r_add (z := ((j + 1 : Nat) : Int)) rfl (F109.ev 10 rfl) rfl (by first | rfl | omega) ⟨by first | omega | (unfold i64ok at *; omega), by first | omega | (unfold i64ok at *; omega)⟩) rfl fun _ F110 => ?_)
     refine l_op (f_as F110 rfl rfl rfl rfl rfl fun _ F111 => ?_)
     refine s_end ?_
     refine x_normal ⟨j + 1, by omega, ((((((kk + 1) + 1) + 1) + 1) + 1) + 1) + 1, E104, F111.cut rfl, ((S3.trans (S15.trans (S17.trans (S28.trans (T31.trans (S38.trans (S44.trans (S46.trans (S53.trans (S59.trans (T62.trans (S74.trans (S76.trans (S87.trans (T90.trans (S97.trans (S103.trans S105))))))))))))))))).pick [0] rfl), by omega, by omega⟩
   · skip
     refine wp_exit (x_then_exit (x_then_exit (x_block_here (x_normal (wp_seq (wp_region_lit (l_op (f_mv F7 rfl rfl rfl rfl rfl fun _ F112 => ?_))))))))
     refine l_op (f_as F112 rfl rfl rfl rfl rfl fun _ F113 => ?_)
     refine s_end (x_normal (wp_ret ?_))
     refine x_done (v := .int .i64 ((kk : Nat) : Int)) F113 (results_1 Try.results142 (.tmp (F113.ev 4 rfl))) ?_
     exact ⟨D, (by rw [(show ((kk : Nat) : Int) = ((k + 7 * a.length : Nat) : Int) from by omega)]), (Mv.pick S3 [0] rfl)⟩
theorem laws_markEntryS_c {w : World} {H : Nat → Prop} {a : List EntryH} {a_a : Option Addr} {a_n a_c : Nat} {k : Nat} {L : List EntryD} (h_k : i64ok (k : Int)) (p0 : a.map EntryH.d = L) (p1 : k + sumOf cntEn L ≤ 4611686018427387904) (hA : At w [ow 161 8 encEntry okEntry (.slice a_a a_n a_c) a, gr inEntry a]) :
    Calls Try.prog 103 #[.slice a_a a_n a_c, .int .i64 ((k : Nat) : Int)] w fun e w' => ∃ (D : List EntryH), e = .returned (.int .i64 ((k + sumOf cntEn L : Nat) : Int)) ∧ Mv [ow 161 8 encEntry okEntry (.slice a_a a_n a_c) a, gr inEntry a] w [ow 161 8 encEntry okEntry (.slice a_a a_n a_c) D, gr inEntry D] w' := by
 have uU : True := (fun _ _ _ => trivial) H h_k p1
 clear uU
 have hLn := dM_len p0
 obtain ⟨lo0, lp0, lq0⟩ := At.ownInv hA ET_75.hk 0 rfl
 refine calls_enter 71 Try.func103 rfl Try.ntmps103 (Nat.le_of_ble_eq_true rfl) (fun _ F0i => ?_)
 have F0 : Fr 71 [(0, .slice a_a a_n a_c), (1, .int .i64 ((k : Nat) : Int))] _ := F0i
 clear F0i
 refine wp_seq (wp_region_lit (l_op (f_val F0 rfl rfl (r_assign rfl rfl) rfl fun _ F1 => ?_)))
 refine s_end (x_normal (wp_seq (wp_seq (wp_region_lit (l_op (f_val F1 rfl rfl (r_assign rfl rfl) rfl fun _ F2 => ?_))))))
 refine s_end (x_normal (wp_block ?_))
 refine x_loop (fun (j : Nat) aZ wZ => ∃ (kk : Nat), ∃ (D : List EntryH), Fr 71 [(5, .int .i64 ((j : Nat) : Int)), (0, .slice a_a a_n a_c), (1, .int .i64 ((kk : Nat) : Int))] aZ ∧ Mv [ow 161 8 encEntry okEntry (.slice a_a a_n a_c) a, gr inEntry a] w [ow 161 8 encEntry okEntry (.slice a_a a_n a_c) D, gr inEntry D] wZ ∧ (j ≤ a_n) ∧ (kk = k + sumOf cntEn (L.take j)) ∧ ((D.map EntryH.d).drop j = L.drop j)) (fun (j : Nat) => a_n - j) (0) ?_ ?_
 · exact ⟨k, a, F2.cut rfl, (Mv.refl hA), by omega, rfl, by rw [p0]⟩
 · rintro j a3 w3 ⟨kk, D, F3, S3, hj_0, hj_1, hj_2⟩
   refine wp_seq (wp_seq (wp_region_lit (l_op (f_mv F3 rfl rfl rfl rfl rfl fun _ F4 => ?_))))
   refine l_op (f_mv F4 rfl rfl rfl rfl rfl fun _ F5 => ?_)
   refine l_op (f_val F5 rfl rfl (r_len Try.underlying75 rfl (F5.ev 7 rfl)) rfl fun _ F6 => ?_)
   refine l_op (f_val F6 rfl rfl (r_cmp (b := decide (j < a_n)) (.inr (.inr (.inl rfl))) rfl (F6.ev 6 rfl) (F6.ev 8 rfl) (dec_of (by omega))) rfl fun _ F7 => ?_)
   refine s_end (x_normal (x_cond (p := j < a_n) (F7.ev 9 rfl) (fun h8 => ?_) (fun h8 => ?_)))
   · skip
     refine wp_skip (x_normal (wp_seq (wp_block (wp_seq ?_))))
     obtain ⟨ym, hym⟩ := nth_some (l := L) (k := j) (by omega)
     obtain ⟨hst, hsu⟩ := sumOf_upto (f := cntEn) hym
     rw [cntEn_eq] at hst hsu
     refine wp_region_lit (l_op (f_mv F7 rfl rfl rfl rfl rfl fun _ F9 => ?_))
     refine l_op (f_mv F9 rfl rfl rfl rfl rfl fun _ F10 => ?_)
     refine l_op (f_mv F10 rfl rfl rfl rfl rfl fun _ F11 => ?_)
     obtain ⟨B12, x1, ad12, hx1, okx1, cl12⟩ := At.ownAt S3.at' ET_75.hk 0 rfl j (by first | assumption | omega)
     have oj13 := okx1
     obtain ⟨oi13_0, oi13_1, oi13_2, oi13_3, oi13_4⟩ := oj13
     obtain ⟨ln14, le14, mx14, ni14⟩ := Rd.inv (show Rd 7 encStep okStep (fun _ => True) w3 (.slice x1.a0 x1.n0 x1.c0) x1.d.steps from NRd.get (At.nrd S3.at' 1 rfl) hx1 (j := 0) rfl)
     obtain ⟨ln15, le15, mx15, ni15⟩ := Rd.inv (show Rd 3 encR okR (fun _ => True) w3 (.slice x1.a1 x1.n1 x1.c1) x1.d.answers from NRd.get (At.nrd S3.at' 1 rfl) hx1 (j := 1) rfl)
     refine l_op (f_val F11 rfl rfl (r_indexAddr (i := j) ET_75 rfl ((F11.ev 12 rfl).trans (by rw [ad12])) (F11.ev 13 rfl) (by omega) (by first | assumption | omega)) rfl fun _ F16 => ?_)
     refine l_op (f_val F16 rfl rfl (r_field FI_161_0 rfl (F16.ev 15 rfl) rfl) rfl fun _ F17 => ?_)
     refine l_op (s_storeElF (off := 0) S3.at' 0 j x1 (⟨(⟨((kk : Nat) : Int), x1.d.kind, x1.d.tx, x1.d.steps, x1.d.answers, x1.d.began, x1.d.ended, x1.d.laid⟩ : EntryD), x1.a0, x1.n0, x1.c0, x1.a1, x1.n1, x1.c1⟩ : EntryH) ET_75.hk ET_75.h1 TI_3 rfl ad12 rfl rfl rfl rfl (F17.ev 16 rfl) (F17.ev 14 rfl) rfl (by first | assumption | omega) hx1 rfl (by decide) (⟨(show i64ok ((kk : Nat) : Int) from by first | assumption | exact ⟨by omega, by omega⟩), okx1.2.1, okx1.2.2.1, okx1.2.2.2.1, okx1.2.2.2.2⟩) fun w18 S18 => ?_)
     have S19 : Mv [ow 161 8 encEntry okEntry (.slice a_a a_n a_c) (D.set j (⟨(⟨((kk : Nat) : Int), x1.d.kind, x1.d.tx, x1.d.steps, x1.d.answers, x1.d.began, x1.d.ended, x1.d.laid⟩ : EntryD), x1.a0, x1.n0, x1.c0, x1.a1, x1.n1, x1.c1⟩ : EntryH)), gr inEntry D] w18 [gr inEntry (D.set j (⟨(⟨((kk : Nat) : Int), x1.d.kind, x1.d.tx, x1.d.steps, x1.d.answers, x1.d.began, x1.d.ended, x1.d.laid⟩ : EntryD), x1.a0, x1.n0, x1.c0, x1.a1, x1.n1, x1.c1⟩ : EntryH)), ow 161 8 encEntry okEntry (.slice a_a a_n a_c) (D.set j (⟨(⟨((kk : Nat) : Int), x1.d.kind, x1.d.tx, x1.d.steps, x1.d.answers, x1.d.began, x1.d.ended, x1.d.laid⟩ : EntryD), x1.a0, x1.n0, x1.c0, x1.a1, x1.n1, x1.c1⟩ : EntryH))] w18 := gr_same S18.at' 1 rfl rfl (⟨(⟨((kk : Nat) : Int), x1.d.kind, x1.d.tx, x1.d.steps, x1.d.answers, x1.d.began, x1.d.ended, x1.d.laid⟩ : EntryD), x1.a0, x1.n0, x1.c0, x1.a1, x1.n1, x1.c1⟩ : EntryH) hx1 rfl
     obtain ⟨E20, x2, cE20, hx2, ex2⟩ : ∃ (zD : List EntryH) (zZ : EntryH), zD = D.set j zZ ∧ nth zD j = some zZ ∧ zZ = (⟨(⟨((kk : Nat) : Int), x1.d.kind, x1.d.tx, x1.d.steps, x1.d.answers, x1.d.began, x1.d.ended, x1.d.laid⟩ : EntryD), x1.a0, x1.n0, x1.c0, x1.a1, x1.n1, x1.c1⟩ : EntryH) := ⟨_, _, rfl, nth_setSelf hx1, rfl⟩
     have S21 : Mv _ _ [gr inEntry E20, ow 161 8 encEntry okEntry (.slice a_a a_n a_c) E20] _ := Mv.cast (Mv.refl S19.at') (by rw [cE20, ex2] <;> rfl)
     have okx2 : okEntry x2 := by rw [ex2]; exact ⟨(show i64ok ((kk : Nat) : Int) from by first | assumption | exact ⟨by omega, by omega⟩), okx1.2.1, okx1.2.2.1, okx1.2.2.2.1, okx1.2.2.2.2⟩
     have gx2_3 : x2.d.steps.length = x1.d.steps.length := by rw [ex2]
     have gx2_4 : x2.d.answers.length = x1.d.answers.length := by rw [ex2]
     have oj22 := okx2
     obtain ⟨oi22_0, oi22_1, oi22_2, oi22_3, oi22_4⟩ := oj22
     have T25 : Mv _ _ [gr inEntry E20, ow 161 8 encEntry okEntry (.slice a_a a_n a_c) E20] _ := S21
     refine s_end (x_normal (wp_seq ?_))
     have hx1m := map_dropk hj_2 hx1
     obtain rfl := Option.some.inj (hym.symm.trans hx1m)
     refine wp_region_lit (l_op (f_mv F17 rfl rfl rfl rfl rfl fun _ F26 => ?_))
     refine l_op (f_val F26 rfl rfl (r_add (z := ((kk + 1 : Nat) : Int)) rfl (F26.ev 17 rfl) rfl (by first | rfl | omega) ⟨by first | omega | (unfold i64ok at *; omega), by first | omega | (unfold i64ok at *; omega)⟩) rfl fun _ F27 => ?_)
     refine l_op (f_as F27 rfl rfl rfl rfl rfl fun _ F28 => ?_)
     refine s_end (x_normal (wp_seq (wp_region_lit (l_op (f_mv F28 rfl rfl rfl rfl rfl fun _ F29 => ?_)))))
     refine l_op (f_mv F29 rfl rfl rfl rfl rfl fun _ F30 => ?_)
     refine l_op (f_mv F30 rfl rfl rfl rfl rfl fun _ F31 => ?_)
     obtain ⟨B32, y32, ad32, hy32, oky32, cl32⟩ := At.ownAt T25.at' ET_75.hk 1 rfl j (by first | assumption | omega)
     obtain rfl := Option.some.inj (hx2.symm.trans hy32)
     clear hy32 oky32
     obtain ⟨ln34, le34, mx34, ni34⟩ := Rd.inv (show Rd 7 encStep okStep (fun _ => True) w18 (.slice x2.a0 x2.n0 x2.c0) x2.d.steps from NRd.get (At.nrd T25.at' 0 rfl) hx2 (j := 0) rfl)
     obtain ⟨ln35, le35, mx35, ni35⟩ := Rd.inv (show Rd 3 encR okR (fun _ => True) w18 (.slice x2.a1 x2.n1 x2.c1) x2.d.answers from NRd.get (At.nrd T25.at' 0 rfl) hx2 (j := 1) rfl)
     refine l_op (f_val F31 rfl rfl (r_indexAddr (i := j) ET_75 rfl ((F31.ev 19 rfl).trans (by rw [ad32])) (F31.ev 20 rfl) (by omega) (by first | assumption | omega)) rfl fun _ F36 => ?_)
     refine l_op (f_val F36 rfl rfl (r_field FI_161_1 rfl (F36.ev 22 rfl) rfl) rfl fun _ F37 => ?_)
     refine l_op (s_storeElF (off := 1) T25.at' 1 j x2 (⟨(⟨x2.d.seq, ((kk + 1 : Nat) : Int), x2.d.tx, x2.d.steps, x2.d.answers, x2.d.began, x2.d.ended, x2.d.laid⟩ : EntryD), x2.a0, x2.n0, x2.c0, x2.a1, x2.n1, x2.c1⟩ : EntryH) ET_75.hk ET_75.h1 TI_3 rfl ad32 rfl rfl rfl rfl (F37.ev 23 rfl) (F37.ev 21 rfl) rfl (by first | assumption | omega) hx2 rfl (by decide) (⟨okx2.1, (show i64ok ((kk + 1 : Nat) : Int) from by first | assumption | exact ⟨by omega, by omega⟩), okx2.2.2.1, okx2.2.2.2.1, okx2.2.2.2.2⟩) fun w38 S38 => ?_)
     have S39 : Mv [ow 161 8 encEntry okEntry (.slice a_a a_n a_c) (E20.set j (⟨(⟨x2.d.seq, ((kk + 1 : Nat) : Int), x2.d.tx, x2.d.steps, x2.d.answers, x2.d.began, x2.d.ended, x2.d.laid⟩ : EntryD), x2.a0, x2.n0, x2.c0, x2.a1, x2.n1, x2.c1⟩ : EntryH)), gr inEntry E20] w38 [gr inEntry (E20.set j (⟨(⟨x2.d.seq, ((kk + 1 : Nat) : Int), x2.d.tx, x2.d.steps, x2.d.answers, x2.d.began, x2.d.ended, x2.d.laid⟩ : EntryD), x2.a0, x2.n0, x2.c0, x2.a1, x2.n1, x2.c1⟩ : EntryH)), ow 161 8 encEntry okEntry (.slice a_a a_n a_c) (E20.set j (⟨(⟨x2.d.seq, ((kk + 1 : Nat) : Int), x2.d.tx, x2.d.steps, x2.d.answers, x2.d.began, x2.d.ended, x2.d.laid⟩ : EntryD), x2.a0, x2.n0, x2.c0, x2.a1, x2.n1, x2.c1⟩ : EntryH))] w38 := gr_same S38.at' 1 rfl rfl (⟨(⟨x2.d.seq, ((kk + 1 : Nat) : Int), x2.d.tx, x2.d.steps, x2.d.answers, x2.d.began, x2.d.ended, x2.d.laid⟩ : EntryD), x2.a0, x2.n0, x2.c0, x2.a1, x2.n1, x2.c1⟩ : EntryH) hx2 rfl
     obtain ⟨E40, x3, cE40, hx3, ex3⟩ : ∃ (zD : List EntryH) (zZ : EntryH), zD = D.set j zZ ∧ nth zD j = some zZ ∧ zZ = (⟨(⟨x2.d.seq, ((kk + 1 : Nat) : Int), x2.d.tx, x2.d.steps, x2.d.answers, x2.d.began, x2.d.ended, x2.d.laid⟩ : EntryD), x2.a0, x2.n0, x2.c0, x2.a1, x2.n1, x2.c1⟩ : EntryH) := ⟨_, _, rfl, nth_setSelf hx1, rfl⟩
     have S41 : Mv _ _ [gr inEntry E40, ow 161 8 encEntry okEntry (.slice a_a a_n a_c) E40] _ := Mv.cast (Mv.refl S39.at') (by rw [cE40, ex3, cE20, List.set_set] <;> rfl)
     have okx3 : okEntry x3 := by rw [ex3]; exact ⟨okx2.1, (show i64ok ((kk + 1 : Nat) : Int) from by first | assumption | exact ⟨by omega, by omega⟩), okx2.2.2.1, okx2.2.2.2.1, okx2.2.2.2.2⟩
     have gx3_3 : x3.d.steps.length = x2.d.steps.length := by rw [ex3]
     have gx3_4 : x3.d.answers.length = x2.d.answers.length := by rw [ex3]
     have oj42 := okx3
     obtain ⟨oi42_0, oi42_1, oi42_2, oi42_3, oi42_4⟩ := oj42
     refine s_end (x_normal (wp_seq (wp_region_lit (l_op (f_mv F37 rfl rfl rfl rfl rfl fun _ F45 => ?_)))))
     refine l_op (f_val F45 rfl rfl (r_add (z := (((kk + 1) + 1 : Nat) : Int)) rfl (F45.ev 24 rfl) rfl (by first | rfl | omega) ⟨by first | omega | (unfold i64ok at *; omega), by first | omega | (unfold i64ok at *; omega)⟩) rfl fun _ F46 => ?_)
     refine l_op (f_as F46 rfl rfl rfl rfl rfl fun _ F47 => ?_)
     refine s_end (x_normal (wp_seq (wp_region_lit (l_op (f_mv F47 rfl rfl rfl rfl rfl fun _ F48 => ?_)))))
     refine l_op (f_mv F48 rfl rfl rfl rfl rfl fun _ F49 => ?_)
     refine l_op (f_mv F49 rfl rfl rfl rfl rfl fun _ F50 => ?_)
     obtain ⟨B51, y51, ad51, hy51, oky51, cl51⟩ := At.ownAt S41.at' ET_75.hk 1 rfl j (by first | assumption | omega)
     obtain rfl := Option.some.inj (hx3.symm.trans hy51)
     clear hy51 oky51
     obtain ⟨ln53, le53, mx53, ni53⟩ := Rd.inv (show Rd 7 encStep okStep (fun _ => True) w38 (.slice x3.a0 x3.n0 x3.c0) x3.d.steps from NRd.get (At.nrd S41.at' 0 rfl) hx3 (j := 0) rfl)
     obtain ⟨ln54, le54, mx54, ni54⟩ := Rd.inv (show Rd 3 encR okR (fun _ => True) w38 (.slice x3.a1 x3.n1 x3.c1) x3.d.answers from NRd.get (At.nrd S41.at' 0 rfl) hx3 (j := 1) rfl)
     refine l_op (f_val F50 rfl rfl (r_indexAddr (i := j) ET_75 rfl ((F50.ev 26 rfl).trans (by rw [ad51])) (F50.ev 27 rfl) (by omega) (by first | assumption | omega)) rfl fun _ F55 => ?_)
     refine l_op (f_val F55 rfl rfl (r_field FI_161_2 rfl (F55.ev 29 rfl) rfl) rfl fun _ F56 => ?_)
     refine l_op (s_storeElF (off := 2) S41.at' 1 j x3 (⟨(⟨x3.d.seq, x3.d.kind, (((kk + 1) + 1 : Nat) : Int), x3.d.steps, x3.d.answers, x3.d.began, x3.d.ended, x3.d.laid⟩ : EntryD), x3.a0, x3.n0, x3.c0, x3.a1, x3.n1, x3.c1⟩ : EntryH) ET_75.hk ET_75.h1 TI_3 rfl ad51 rfl rfl rfl rfl (F56.ev 30 rfl) (F56.ev 28 rfl) rfl (by first | assumption | omega) hx3 rfl (by decide) (⟨okx3.1, okx3.2.1, (show i64ok (((kk + 1) + 1 : Nat) : Int) from by first | assumption | exact ⟨by omega, by omega⟩), okx3.2.2.2.1, okx3.2.2.2.2⟩) fun w57 S57 => ?_)
     have S58 : Mv [ow 161 8 encEntry okEntry (.slice a_a a_n a_c) (E40.set j (⟨(⟨x3.d.seq, x3.d.kind, (((kk + 1) + 1 : Nat) : Int), x3.d.steps, x3.d.answers, x3.d.began, x3.d.ended, x3.d.laid⟩ : EntryD), x3.a0, x3.n0, x3.c0, x3.a1, x3.n1, x3.c1⟩ : EntryH)), gr inEntry E40] w57 [gr inEntry (E40.set j (⟨(⟨x3.d.seq, x3.d.kind, (((kk + 1) + 1 : Nat) : Int), x3.d.steps, x3.d.answers, x3.d.began, x3.d.ended, x3.d.laid⟩ : EntryD), x3.a0, x3.n0, x3.c0, x3.a1, x3.n1, x3.c1⟩ : EntryH)), ow 161 8 encEntry okEntry (.slice a_a a_n a_c) (E40.set j (⟨(⟨x3.d.seq, x3.d.kind, (((kk + 1) + 1 : Nat) : Int), x3.d.steps, x3.d.answers, x3.d.began, x3.d.ended, x3.d.laid⟩ : EntryD), x3.a0, x3.n0, x3.c0, x3.a1, x3.n1, x3.c1⟩ : EntryH))] w57 := gr_same S57.at' 1 rfl rfl (⟨(⟨x3.d.seq, x3.d.kind, (((kk + 1) + 1 : Nat) : Int), x3.d.steps, x3.d.answers, x3.d.began, x3.d.ended, x3.d.laid⟩ : EntryD), x3.a0, x3.n0, x3.c0, x3.a1, x3.n1, x3.c1⟩ : EntryH) hx3 rfl
     obtain ⟨E59, x4, cE59, hx4, ex4⟩ : ∃ (zD : List EntryH) (zZ : EntryH), zD = D.set j zZ ∧ nth zD j = some zZ ∧ zZ = (⟨(⟨x3.d.seq, x3.d.kind, (((kk + 1) + 1 : Nat) : Int), x3.d.steps, x3.d.answers, x3.d.began, x3.d.ended, x3.d.laid⟩ : EntryD), x3.a0, x3.n0, x3.c0, x3.a1, x3.n1, x3.c1⟩ : EntryH) := ⟨_, _, rfl, nth_setSelf hx1, rfl⟩
     have S60 : Mv _ _ [gr inEntry E59, ow 161 8 encEntry okEntry (.slice a_a a_n a_c) E59] _ := Mv.cast (Mv.refl S58.at') (by rw [cE59, ex4, cE40, List.set_set] <;> rfl)
     have okx4 : okEntry x4 := by rw [ex4]; exact ⟨okx3.1, okx3.2.1, (show i64ok (((kk + 1) + 1 : Nat) : Int) from by first | assumption | exact ⟨by omega, by omega⟩), okx3.2.2.2.1, okx3.2.2.2.2⟩
     have gx4_3 : x4.d.steps.length = x3.d.steps.length := by rw [ex4]
     have gx4_4 : x4.d.answers.length = x3.d.answers.length := by rw [ex4]
     have oj61 := okx4
     obtain ⟨oi61_0, oi61_1, oi61_2, oi61_3, oi61_4⟩ := oj61
     have T64 : Mv _ _ [gr inEntry E59, ow 161 8 encEntry okEntry (.slice a_a a_n a_c) E59] _ := S60
     refine s_end (x_normal (wp_seq (wp_region_lit (l_op (f_mv F56 rfl rfl rfl rfl rfl fun _ F65 => ?_)))))
     refine l_op (f_val F65 rfl rfl (r_add (z := ((((kk + 1) + 1) + 1 : Nat) : Int)) rfl (F65.ev 31 rfl) rfl (by first | rfl | omega) ⟨by first | omega | (unfold i64ok at *; omega), by first | omega | (unfold i64ok at *; omega)⟩) rfl fun _ F66 => ?_)
     refine l_op (f_as F66 rfl rfl rfl rfl rfl fun _ F67 => ?_)
     refine s_end (x_normal (wp_seq (wp_region_lit (l_op (f_mv F67 rfl rfl rfl rfl rfl fun _ F68 => ?_)))))
     refine l_op (f_mv F68 rfl rfl rfl rfl rfl fun _ F69 => ?_)
     obtain ⟨B70, y70, ad70, hy70, oky70, cl70⟩ := At.ownAt T64.at' ET_75.hk 1 rfl j (by first | assumption | omega)
     obtain rfl := Option.some.inj (hx4.symm.trans hy70)
     clear hy70 oky70
     obtain ⟨ln72, le72, mx72, ni72⟩ := Rd.inv (show Rd 7 encStep okStep (fun _ => True) w57 (.slice x4.a0 x4.n0 x4.c0) x4.d.steps from NRd.get (At.nrd T64.at' 0 rfl) hx4 (j := 0) rfl)
     obtain ⟨ln73, le73, mx73, ni73⟩ := Rd.inv (show Rd 3 encR okR (fun _ => True) w57 (.slice x4.a1 x4.n1 x4.c1) x4.d.answers from NRd.get (At.nrd T64.at' 0 rfl) hx4 (j := 1) rfl)
     refine l_op (f_val F69 rfl rfl (r_indexAddr (i := j) ET_75 rfl ((F69.ev 33 rfl).trans (by rw [ad70])) (F69.ev 34 rfl) (by omega) (by first | assumption | omega)) rfl fun _ F74 => ?_)
     refine l_op (f_val F74 rfl rfl (r_field FI_161_3 rfl (F74.ev 35 rfl) rfl) rfl fun _ F75 => ?_)
     refine l_op (f_val (v := .slice x4.a0 x4.n0 x4.c0) F75 rfl rfl (r_load (cs := [.slice x4.a0 x4.n0 x4.c0]) TI_159 rfl (F75.ev 36 rfl) rfl (fun _ => rfl) (elem_sub (f := 3) cl70 [.slice x4.a0 x4.n0 x4.c0] rfl)) rfl fun _ F76 => ?_)
     refine l_op (f_mv F76 rfl rfl rfl rfl rfl fun _ F77 => ?_)
     have S79 : Mv [gr inEntry E59, ow 161 8 encEntry okEntry (.slice a_a a_n a_c) E59] w57 [ow 183 7 encStep okStep (.slice x4.a0 x4.n0 x4.c0) x4.d.steps, ow 151 3 encR okR (.slice x4.a1 x4.n1 x4.c1) x4.d.answers, grx inEntry E59 j, ow 161 8 encEntry okEntry (.slice a_a a_n a_c) E59] w57 := gr_open T64.at' 0 rfl rfl hx4
     refine l_op (f_call F77 CF_142 rfl rfl rfl rfl (lc (F77.ev 37 rfl) (lc (F77.ev 38 rfl) rfl)) (laws_markStepS_c (H := fun _ => True) (a := x4.d.steps) (k := ((kk + 1) + 1) + 1) ⟨by omega, by first | omega | (unfold i64ok at *; omega)⟩ (by first | assumption | omega | (simp <;> omega)) (At.pick (is := [0]) S79.at' rfl)) ?_)
     rintro _ w78 ⟨D_78, rfl, m78⟩
     refine ⟨_, rfl, fun _ F80 => ?_⟩
     have S78 : Mv _ _ [ow 183 7 encStep okStep (.slice x4.a0 x4.n0 x4.c0) D_78, ow 151 3 encR okR (.slice x4.a1 x4.n1 x4.c1) x4.d.answers, grx inEntry E59 j, ow 161 8 encEntry okEntry (.slice a_a a_n a_c) E59] _ := At.frame S79.at' [0] rfl m78
     obtain ⟨Q1, Q3, Q5⟩ := At.ownInv S78.at' ET_159.hk 0 rfl
     clear m78
     have S81 : Mv [ow 183 7 encStep okStep (.slice x4.a0 x4.n0 x4.c0) D_78, ow 151 3 encR okR (.slice x4.a1 x4.n1 x4.c1) x4.d.answers, grx inEntry E59 j, ow 161 8 encEntry okEntry (.slice a_a a_n a_c) E59] w78 [ow 161 8 encEntry okEntry (.slice a_a a_n a_c) (E59.set j (⟨(⟨x4.d.seq, x4.d.kind, x4.d.tx, D_78, x4.d.answers, x4.d.began, x4.d.ended, x4.d.laid⟩ : EntryD), x4.a0, x4.n0, x4.c0, x4.a1, x4.n1, x4.c1⟩ : EntryH)), ow 183 7 encStep okStep (.slice x4.a0 x4.n0 x4.c0) D_78, ow 151 3 encR okR (.slice x4.a1 x4.n1 x4.c1) x4.d.answers, grx inEntry E59 j] w78 := ow_same S78.at' 3 rfl rfl (⟨(⟨x4.d.seq, x4.d.kind, x4.d.tx, D_78, x4.d.answers, x4.d.began, x4.d.ended, x4.d.laid⟩ : EntryD), x4.a0, x4.n0, x4.c0, x4.a1, x4.n1, x4.c1⟩ : EntryH) hx4 rfl ⟨okx4.1, okx4.2.1, okx4.2.2.1, okx4.2.2.2.1, okx4.2.2.2.2⟩
     have S82 : Mv [ow 161 8 encEntry okEntry (.slice a_a a_n a_c) (E59.set j (⟨(⟨x4.d.seq, x4.d.kind, x4.d.tx, D_78, x4.d.answers, x4.d.began, x4.d.ended, x4.d.laid⟩ : EntryD), x4.a0, x4.n0, x4.c0, x4.a1, x4.n1, x4.c1⟩ : EntryH)), ow 183 7 encStep okStep (.slice x4.a0 x4.n0 x4.c0) D_78, ow 151 3 encR okR (.slice x4.a1 x4.n1 x4.c1) x4.d.answers, grx inEntry E59 j] w78 [gr inEntry (E59.set j (⟨(⟨x4.d.seq, x4.d.kind, x4.d.tx, D_78, x4.d.answers, x4.d.began, x4.d.ended, x4.d.laid⟩ : EntryD), x4.a0, x4.n0, x4.c0, x4.a1, x4.n1, x4.c1⟩ : EntryH)), ow 161 8 encEntry okEntry (.slice a_a a_n a_c) (E59.set j (⟨(⟨x4.d.seq, x4.d.kind, x4.d.tx, D_78, x4.d.answers, x4.d.began, x4.d.ended, x4.d.laid⟩ : EntryD), x4.a0, x4.n0, x4.c0, x4.a1, x4.n1, x4.c1⟩ : EntryH))] w78 := gr_close S81.at' [1, 2, 3] (⟨(⟨x4.d.seq, x4.d.kind, x4.d.tx, D_78, x4.d.answers, x4.d.began, x4.d.ended, x4.d.laid⟩ : EntryD), x4.a0, x4.n0, x4.c0, x4.a1, x4.n1, x4.c1⟩ : EntryH) rfl rfl
     obtain ⟨E83, x5, cE83, hx5, ex5⟩ : ∃ (zD : List EntryH) (zZ : EntryH), zD = D.set j zZ ∧ nth zD j = some zZ ∧ zZ = (⟨(⟨x4.d.seq, x4.d.kind, x4.d.tx, D_78, x4.d.answers, x4.d.began, x4.d.ended, x4.d.laid⟩ : EntryD), x4.a0, x4.n0, x4.c0, x4.a1, x4.n1, x4.c1⟩ : EntryH) := ⟨_, _, rfl, nth_setSelf hx1, rfl⟩
     have S84 : Mv _ _ [gr inEntry E83, ow 161 8 encEntry okEntry (.slice a_a a_n a_c) E83] _ := Mv.cast (Mv.refl S82.at') (by rw [cE83, ex5, cE59, List.set_set] <;> rfl)
     have okx5 : okEntry x5 := by rw [ex5]; exact ⟨okx4.1, okx4.2.1, okx4.2.2.1, okx4.2.2.2.1, okx4.2.2.2.2⟩
     have gx5_4 : x5.d.answers.length = x4.d.answers.length := by rw [ex5]
     have oj85 := okx5
     obtain ⟨oi85_0, oi85_1, oi85_2, oi85_3, oi85_4⟩ := oj85
     refine l_op (f_as F80 rfl rfl rfl rfl rfl fun _ F88 => ?_)
     have T89 : Mv _ _ [gr inEntry E83, ow 161 8 encEntry okEntry (.slice a_a a_n a_c) E83] _ := S84
     refine s_end (x_normal (wp_seq (wp_region_lit (l_op (f_mv F88 rfl rfl rfl rfl rfl fun _ F90 => ?_)))))
     refine l_op (f_mv F90 rfl rfl rfl rfl rfl fun _ F91 => ?_)
     obtain ⟨B92, y92, ad92, hy92, oky92, cl92⟩ := At.ownAt T89.at' ET_75.hk 1 rfl j (by first | assumption | omega)
     obtain rfl := Option.some.inj (hx5.symm.trans hy92)
     clear hy92 oky92
     obtain ⟨ln94, le94, mx94, ni94⟩ := Rd.inv (show Rd 7 encStep okStep (fun _ => True) w78 (.slice x5.a0 x5.n0 x5.c0) x5.d.steps from NRd.get (At.nrd T89.at' 0 rfl) hx5 (j := 0) rfl)
     obtain ⟨ln95, le95, mx95, ni95⟩ := Rd.inv (show Rd 3 encR okR (fun _ => True) w78 (.slice x5.a1 x5.n1 x5.c1) x5.d.answers from NRd.get (At.nrd T89.at' 0 rfl) hx5 (j := 1) rfl)
     refine l_op (f_val F91 rfl rfl (r_indexAddr (i := j) ET_75 rfl ((F91.ev 40 rfl).trans (by rw [ad92])) (F91.ev 41 rfl) (by omega) (by first | assumption | omega)) rfl fun _ F96 => ?_)
     refine l_op (f_val F96 rfl rfl (r_field FI_161_4 rfl (F96.ev 42 rfl) rfl) rfl fun _ F97 => ?_)
     refine l_op (f_val (v := .slice x5.a1 x5.n1 x5.c1) F97 rfl rfl (r_load (cs := [.slice x5.a1 x5.n1 x5.c1]) TI_67 rfl (F97.ev 43 rfl) rfl (fun _ => rfl) (elem_sub (f := 4) cl92 [.slice x5.a1 x5.n1 x5.c1] rfl)) rfl fun _ F98 => ?_)
     refine l_op (f_mv F98 rfl rfl rfl rfl rfl fun _ F99 => ?_)
     have S101 : Mv [gr inEntry E83, ow 161 8 encEntry okEntry (.slice a_a a_n a_c) E83] w78 [ow 183 7 encStep okStep (.slice x5.a0 x5.n0 x5.c0) x5.d.steps, ow 151 3 encR okR (.slice x5.a1 x5.n1 x5.c1) x5.d.answers, grx inEntry E83 j, ow 161 8 encEntry okEntry (.slice a_a a_n a_c) E83] w78 := gr_open T89.at' 0 rfl rfl hx5
     refine l_op (f_call F99 CF_80 rfl rfl rfl rfl (lc (F99.ev 44 rfl) (lc (F99.ev 45 rfl) rfl)) (laws_markAnswerS_c (H := fun _ => True) (a := x5.d.answers) (k := (((kk + 1) + 1) + 1) + 7 * x4.d.steps.length) ⟨by omega, by first | omega | (unfold i64ok at *; omega)⟩ (by first | assumption | omega | (simp <;> omega)) (At.pick (is := [1]) S101.at' rfl)) ?_)
     rintro _ w100 ⟨rfl, m100⟩
     refine ⟨_, rfl, fun _ F102 => ?_⟩
     have S100 : Mv _ _ [ow 151 3 encR okR (.slice x5.a1 x5.n1 x5.c1) (marksOf markR ((((kk + 1) + 1) + 1) + 7 * x4.d.steps.length) x5.d.answers.length), ow 183 7 encStep okStep (.slice x5.a0 x5.n0 x5.c0) x5.d.steps, grx inEntry E83 j, ow 161 8 encEntry okEntry (.slice a_a a_n a_c) E83] _ := At.frame S101.at' [1] rfl m100
     obtain ⟨Q0, Q2, Q4⟩ := At.ownInv S100.at' ET_67.hk 0 rfl
     clear m100
     have S103 : Mv [ow 151 3 encR okR (.slice x5.a1 x5.n1 x5.c1) (marksOf markR ((((kk + 1) + 1) + 1) + 7 * x4.d.steps.length) x5.d.answers.length), ow 183 7 encStep okStep (.slice x5.a0 x5.n0 x5.c0) x5.d.steps, grx inEntry E83 j, ow 161 8 encEntry okEntry (.slice a_a a_n a_c) E83] w100 [ow 161 8 encEntry okEntry (.slice a_a a_n a_c) (E83.set j (⟨(⟨x5.d.seq, x5.d.kind, x5.d.tx, x5.d.steps, marksOf markR ((((kk + 1) + 1) + 1) + 7 * x4.d.steps.length) x5.d.answers.length, x5.d.began, x5.d.ended, x5.d.laid⟩ : EntryD), x5.a0, x5.n0, x5.c0, x5.a1, x5.n1, x5.c1⟩ : EntryH)), ow 151 3 encR okR (.slice x5.a1 x5.n1 x5.c1) (marksOf markR ((((kk + 1) + 1) + 1) + 7 * x4.d.steps.length) x5.d.answers.length), ow 183 7 encStep okStep (.slice x5.a0 x5.n0 x5.c0) x5.d.steps, grx inEntry E83 j] w100 := ow_same S100.at' 3 rfl rfl (⟨(⟨x5.d.seq, x5.d.kind, x5.d.tx, x5.d.steps, marksOf markR ((((kk + 1) + 1) + 1) + 7 * x4.d.steps.length) x5.d.answers.length, x5.d.began, x5.d.ended, x5.d.laid⟩ : EntryD), x5.a0, x5.n0, x5.c0, x5.a1, x5.n1, x5.c1⟩ : EntryH) hx5 rfl ⟨okx5.1, okx5.2.1, okx5.2.2.1, okx5.2.2.2.1, okx5.2.2.2.2⟩
     have S104 : Mv [ow 161 8 encEntry okEntry (.slice a_a a_n a_c) (E83.set j (⟨(⟨x5.d.seq, x5.d.kind, x5.d.tx, x5.d.steps, marksOf markR ((((kk + 1) + 1) + 1) + 7 * x4.d.steps.length) x5.d.answers.length, x5.d.began, x5.d.ended, x5.d.laid⟩ : EntryD), x5.a0, x5.n0, x5.c0, x5.a1, x5.n1, x5.c1⟩ : EntryH)), ow 151 3 encR okR (.slice x5.a1 x5.n1 x5.c1) (marksOf markR ((((kk + 1) + 1) + 1) + 7 * x4.d.steps.length) x5.d.answers.length), ow 183 7 encStep okStep (.slice x5.a0 x5.n0 x5.c0) x5.d.steps, grx inEntry E83 j] w100 [gr inEntry (E83.set j (⟨(⟨x5.d.seq, x5.d.kind, x5.d.tx, x5.d.steps, marksOf markR ((((kk + 1) + 1) + 1) + 7 * x4.d.steps.length) x5.d.answers.length, x5.d.began, x5.d.ended, x5.d.laid⟩ : EntryD), x5.a0, x5.n0, x5.c0, x5.a1, x5.n1, x5.c1⟩ : EntryH)), ow 161 8 encEntry okEntry (.slice a_a a_n a_c) (E83.set j (⟨(⟨x5.d.seq, x5.d.kind, x5.d.tx, x5.d.steps, marksOf markR ((((kk + 1) + 1) + 1) + 7 * x4.d.steps.length) x5.d.answers.length, x5.d.began, x5.d.ended, x5.d.laid⟩ : EntryD), x5.a0, x5.n0, x5.c0, x5.a1, x5.n1, x5.c1⟩ : EntryH))] w100 := gr_close S103.at' [2, 1, 3] (⟨(⟨x5.d.seq, x5.d.kind, x5.d.tx, x5.d.steps, marksOf markR ((((kk + 1) + 1) + 1) + 7 * x4.d.steps.length) x5.d.answers.length, x5.d.began, x5.d.ended, x5.d.laid⟩ : EntryD), x5.a0, x5.n0, x5.c0, x5.a1, x5.n1, x5.c1⟩ : EntryH) rfl rfl
     obtain ⟨E105, x6, cE105, hx6, ex6⟩ : ∃ (zD : List EntryH) (zZ : EntryH), zD = D.set j zZ ∧ nth zD j = some zZ ∧ zZ = (⟨(⟨x5.d.seq, x5.d.kind, x5.d.tx, x5.d.steps, marksOf markR ((((kk + 1) + 1) + 1) + 7 * x4.d.steps.length) x5.d.answers.length, x5.d.began, x5.d.ended, x5.d.laid⟩ : EntryD), x5.a0, x5.n0, x5.c0, x5.a1, x5.n1, x5.c1⟩ : EntryH) := ⟨_, _, rfl, nth_setSelf hx1, rfl⟩
     have S106 : Mv _ _ [gr inEntry E105, ow 161 8 encEntry okEntry (.slice a_a a_n a_c) E105] _ := Mv.cast (Mv.refl S104.at') (by rw [cE105, ex6, cE83, List.set_set] <;> rfl)
     have okx6 : okEntry x6 := by rw [ex6]; exact ⟨okx5.1, okx5.2.1, okx5.2.2.1, okx5.2.2.2.1, okx5.2.2.2.2⟩
     have gx6_3 : x6.d.steps.length = x5.d.steps.length := by rw [ex6]
     have oj107 := okx6
     obtain ⟨oi107_0, oi107_1, oi107_2, oi107_3, oi107_4⟩ := oj107
     refine l_op (f_as F102 rfl rfl rfl rfl rfl fun _ F110 => ?_)
     have F111 : Fr 71 [(1, .int .i64 ((((((kk + 1) + 1) + 1) + 7 * x4.d.steps.length) + 3 * x5.d.answers.length : Nat) : Int)), (5, .int .i64 ((j : Nat) : Int)), (0, .slice a_a a_n a_c)] _ := F110.cut rfl
     clear F3 F4 F5 F6 F7 F9 F10 F11 F16 F17 F26 F27 F28 F29 F30 F31 F36 F37 F45 F46 F47 F48 F49 F50 F55 F56 F65 F66 F67 F68 F69 F74 F75 F76 F77 F80 F88 F90 F91 F96 F97 F98 F99 F102 F110
     have T112 : Mv _ _ [gr inEntry E105, ow 161 8 encEntry okEntry (.slice a_a a_n a_c) E105] _ := S106
     refine s_end (x_normal (wp_seq (wp_region_lit (l_op (f_mv F111 rfl rfl rfl rfl rfl fun _ F113 => ?_)))))
     refine l_op (f_mv F113 rfl rfl rfl rfl rfl fun _ F114 => ?_)
     refine l_op (f_mv F114 rfl rfl rfl rfl rfl fun _ F115 => ?_)
     obtain ⟨B116, y116, ad116, hy116, oky116, cl116⟩ := At.ownAt T112.at' ET_75.hk 1 rfl j (by first | assumption | omega)
     obtain rfl := Option.some.inj (hx6.symm.trans hy116)
     clear hy116 oky116
     obtain ⟨ln118, le118, mx118, ni118⟩ := Rd.inv (show Rd 7 encStep okStep (fun _ => True) w100 (.slice x6.a0 x6.n0 x6.c0) x6.d.steps from NRd.get (At.nrd T112.at' 0 rfl) hx6 (j := 0) rfl)
     obtain ⟨ln119, le119, mx119, ni119⟩ := Rd.inv (show Rd 3 encR okR (fun _ => True) w100 (.slice x6.a1 x6.n1 x6.c1) x6.d.answers from NRd.get (At.nrd T112.at' 0 rfl) hx6 (j := 1) rfl)
     refine l_op (f_val F115 rfl rfl (r_indexAddr (i := j) ET_75 rfl ((F115.ev 47 rfl).trans (by rw [ad116])) (F115.ev 48 rfl) (by omega) (by first | assumption | omega)) rfl fun _ F120 => ?_)
     refine l_op (f_val F120 rfl rfl (r_field FI_161_5 rfl (F120.ev 50 rfl) rfl) rfl fun _ F121 => ?_)
     refine l_op (s_storeElF (off := 5) T112.at' 1 j x6 (⟨(⟨x6.d.seq, x6.d.kind, x6.d.tx, x6.d.steps, x6.d.answers, ((((((kk + 1) + 1) + 1) + 7 * x4.d.steps.length) + 3 * x5.d.answers.length : Nat) : Int), x6.d.ended, x6.d.laid⟩ : EntryD), x6.a0, x6.n0, x6.c0, x6.a1, x6.n1, x6.c1⟩ : EntryH) ET_75.hk ET_75.h1 TI_3 rfl ad116 rfl rfl rfl rfl (F121.ev 51 rfl) (F121.ev 49 rfl) rfl (by first | assumption | omega) hx6 rfl (by decide) (⟨okx6.1, okx6.2.1, okx6.2.2.1, (show i64ok ((((((kk + 1) + 1) + 1) + 7 * x4.d.steps.length) + 3 * x5.d.answers.length : Nat) : Int) from by first | assumption | exact ⟨by omega, by omega⟩), okx6.2.2.2.2⟩) fun w122 S122 => ?_)
     have S123 : Mv [ow 161 8 encEntry okEntry (.slice a_a a_n a_c) (E105.set j (⟨(⟨x6.d.seq, x6.d.kind, x6.d.tx, x6.d.steps, x6.d.answers, ((((((kk + 1) + 1) + 1) + 7 * x4.d.steps.length) + 3 * x5.d.answers.length : Nat) : Int), x6.d.ended, x6.d.laid⟩ : EntryD), x6.a0, x6.n0, x6.c0, x6.a1, x6.n1, x6.c1⟩ : EntryH)), gr inEntry E105] w122 [gr inEntry (E105.set j (⟨(⟨x6.d.seq, x6.d.kind, x6.d.tx, x6.d.steps, x6.d.answers, ((((((kk + 1) + 1) + 1) + 7 * x4.d.steps.length) + 3 * x5.d.answers.length : Nat) : Int), x6.d.ended, x6.d.laid⟩ : EntryD), x6.a0, x6.n0, x6.c0, x6.a1, x6.n1, x6.c1⟩ : EntryH)), ow 161 8 encEntry okEntry (.slice a_a a_n a_c) (E105.set j (⟨(⟨x6.d.seq, x6.d.kind, x6.d.tx, x6.d.steps, x6.d.answers, ((((((kk + 1) + 1) + 1) + 7 * x4.d.steps.length) + 3 * x5.d.answers.length : Nat) : Int), x6.d.ended, x6.d.laid⟩ : EntryD), x6.a0, x6.n0, x6.c0, x6.a1, x6.n1, x6.c1⟩ : EntryH))] w122 := gr_same S122.at' 1 rfl rfl (⟨(⟨x6.d.seq, x6.d.kind, x6.d.tx, x6.d.steps, x6.d.answers, ((((((kk + 1) + 1) + 1) + 7 * x4.d.steps.length) + 3 * x5.d.answers.length : Nat) : Int), x6.d.ended, x6.d.laid⟩ : EntryD), x6.a0, x6.n0, x6.c0, x6.a1, x6.n1, x6.c1⟩ : EntryH) hx6 rfl
     obtain ⟨E124, x7, cE124, hx7, ex7⟩ : ∃ (zD : List EntryH) (zZ : EntryH), zD = D.set j zZ ∧ nth zD j = some zZ ∧ zZ = (⟨(⟨x6.d.seq, x6.d.kind, x6.d.tx, x6.d.steps, x6.d.answers, ((((((kk + 1) + 1) + 1) + 7 * x4.d.steps.length) + 3 * x5.d.answers.length : Nat) : Int), x6.d.ended, x6.d.laid⟩ : EntryD), x6.a0, x6.n0, x6.c0, x6.a1, x6.n1, x6.c1⟩ : EntryH) := ⟨_, _, rfl, nth_setSelf hx1, rfl⟩
     have S125 : Mv _ _ [gr inEntry E124, ow 161 8 encEntry okEntry (.slice a_a a_n a_c) E124] _ := Mv.cast (Mv.refl S123.at') (by rw [cE124, ex7, cE105, List.set_set] <;> rfl)
     have okx7 : okEntry x7 := by rw [ex7]; exact ⟨okx6.1, okx6.2.1, okx6.2.2.1, (show i64ok ((((((kk + 1) + 1) + 1) + 7 * x4.d.steps.length) + 3 * x5.d.answers.length : Nat) : Int) from by first | assumption | exact ⟨by omega, by omega⟩), okx6.2.2.2.2⟩
     have gx7_3 : x7.d.steps.length = x6.d.steps.length := by rw [ex7]
     have gx7_4 : x7.d.answers.length = x6.d.answers.length := by rw [ex7]
     have oj126 := okx7
     obtain ⟨oi126_0, oi126_1, oi126_2, oi126_3, oi126_4⟩ := oj126
     refine s_end (x_normal (wp_seq (wp_region_lit (l_op (f_mv F121 rfl rfl rfl rfl rfl fun _ F129 => ?_)))))
     refine l_op (f_val F129 rfl rfl (r_add (z := (((((((kk + 1) + 1) + 1) + 7 * x4.d.steps.length) + 3 * x5.d.answers.length) + 1 : Nat) : Int)) rfl (F129.ev 52 rfl) rfl (by first | rfl | omega) ⟨by first | omega | (unfold i64ok at *; omega), by first | omega | (unfold i64ok at *; omega)⟩) rfl fun _ F130 => ?_)
     refine l_op (f_as F130 rfl rfl rfl rfl rfl fun _ F131 => ?_)
     refine s_end (x_normal (wp_seq (wp_region_lit (l_op (f_mv F131 rfl rfl rfl rfl rfl fun _ F132 => ?_)))))
     refine l_op (f_mv F132 rfl rfl rfl rfl rfl fun _ F133 => ?_)
     refine l_op (f_mv F133 rfl rfl rfl rfl rfl fun _ F134 => ?_)
     obtain ⟨B135, y135, ad135, hy135, oky135, cl135⟩ := At.ownAt S125.at' ET_75.hk 1 rfl j (by first | assumption | omega)
     obtain rfl := Option.some.inj (hx7.symm.trans hy135)
     clear hy135 oky135
     obtain ⟨ln137, le137, mx137, ni137⟩ := Rd.inv (show Rd 7 encStep okStep (fun _ => True) w122 (.slice x7.a0 x7.n0 x7.c0) x7.d.steps from NRd.get (At.nrd S125.at' 0 rfl) hx7 (j := 0) rfl)
     obtain ⟨ln138, le138, mx138, ni138⟩ := Rd.inv (show Rd 3 encR okR (fun _ => True) w122 (.slice x7.a1 x7.n1 x7.c1) x7.d.answers from NRd.get (At.nrd S125.at' 0 rfl) hx7 (j := 1) rfl)
     refine l_op (f_val F134 rfl rfl (r_indexAddr (i := j) ET_75 rfl ((F134.ev 54 rfl).trans (by rw [ad135])) (F134.ev 55 rfl) (by omega) (by first | assumption | omega)) rfl fun _ F139 => ?_)
     refine l_op (f_val F139 rfl rfl (r_field FI_161_6 rfl (F139.ev 57 rfl) rfl) rfl fun _ F140 => ?_)
     refine l_op (s_storeElF (off := 6) S125.at' 1 j x7 (⟨(⟨x7.d.seq, x7.d.kind, x7.d.tx, x7.d.steps, x7.d.answers, x7.d.began, (((((((kk + 1) + 1) + 1) + 7 * x4.d.steps.length) + 3 * x5.d.answers.length) + 1 : Nat) : Int), x7.d.laid⟩ : EntryD), x7.a0, x7.n0, x7.c0, x7.a1, x7.n1, x7.c1⟩ : EntryH) ET_75.hk ET_75.h1 TI_3 rfl ad135 rfl rfl rfl rfl (F140.ev 58 rfl) (F140.ev 56 rfl) rfl (by first | assumption | omega) hx7 rfl (by decide) (⟨okx7.1, okx7.2.1, okx7.2.2.1, okx7.2.2.2.1, (show i64ok (((((((kk + 1) + 1) + 1) + 7 * x4.d.steps.length) + 3 * x5.d.answers.length) + 1 : Nat) : Int) from by first | assumption | exact ⟨by omega, by omega⟩)⟩) fun w141 S141 => ?_)
     have S142 : Mv [ow 161 8 encEntry okEntry (.slice a_a a_n a_c) (E124.set j (⟨(⟨x7.d.seq, x7.d.kind, x7.d.tx, x7.d.steps, x7.d.answers, x7.d.began, (((((((kk + 1) + 1) + 1) + 7 * x4.d.steps.length) + 3 * x5.d.answers.length) + 1 : Nat) : Int), x7.d.laid⟩ : EntryD), x7.a0, x7.n0, x7.c0, x7.a1, x7.n1, x7.c1⟩ : EntryH)), gr inEntry E124] w141 [gr inEntry (E124.set j (⟨(⟨x7.d.seq, x7.d.kind, x7.d.tx, x7.d.steps, x7.d.answers, x7.d.began, (((((((kk + 1) + 1) + 1) + 7 * x4.d.steps.length) + 3 * x5.d.answers.length) + 1 : Nat) : Int), x7.d.laid⟩ : EntryD), x7.a0, x7.n0, x7.c0, x7.a1, x7.n1, x7.c1⟩ : EntryH)), ow 161 8 encEntry okEntry (.slice a_a a_n a_c) (E124.set j (⟨(⟨x7.d.seq, x7.d.kind, x7.d.tx, x7.d.steps, x7.d.answers, x7.d.began, (((((((kk + 1) + 1) + 1) + 7 * x4.d.steps.length) + 3 * x5.d.answers.length) + 1 : Nat) : Int), x7.d.laid⟩ : EntryD), x7.a0, x7.n0, x7.c0, x7.a1, x7.n1, x7.c1⟩ : EntryH))] w141 := gr_same S141.at' 1 rfl rfl (⟨(⟨x7.d.seq, x7.d.kind, x7.d.tx, x7.d.steps, x7.d.answers, x7.d.began, (((((((kk + 1) + 1) + 1) + 7 * x4.d.steps.length) + 3 * x5.d.answers.length) + 1 : Nat) : Int), x7.d.laid⟩ : EntryD), x7.a0, x7.n0, x7.c0, x7.a1, x7.n1, x7.c1⟩ : EntryH) hx7 rfl
     obtain ⟨E143, x8, cE143, hx8, ex8⟩ : ∃ (zD : List EntryH) (zZ : EntryH), zD = D.set j zZ ∧ nth zD j = some zZ ∧ zZ = (⟨(⟨x7.d.seq, x7.d.kind, x7.d.tx, x7.d.steps, x7.d.answers, x7.d.began, (((((((kk + 1) + 1) + 1) + 7 * x4.d.steps.length) + 3 * x5.d.answers.length) + 1 : Nat) : Int), x7.d.laid⟩ : EntryD), x7.a0, x7.n0, x7.c0, x7.a1, x7.n1, x7.c1⟩ : EntryH) := ⟨_, _, rfl, nth_setSelf hx1, rfl⟩
     have S144 : Mv _ _ [gr inEntry E143, ow 161 8 encEntry okEntry (.slice a_a a_n a_c) E143] _ := Mv.cast (Mv.refl S142.at') (by rw [cE143, ex8, cE124, List.set_set] <;> rfl)
     have okx8 : okEntry x8 := by rw [ex8]; exact ⟨okx7.1, okx7.2.1, okx7.2.2.1, okx7.2.2.2.1, (show i64ok (((((((kk + 1) + 1) + 1) + 7 * x4.d.steps.length) + 3 * x5.d.answers.length) + 1 : Nat) : Int) from by first | assumption | exact ⟨by omega, by omega⟩)⟩
     have gx8_3 : x8.d.steps.length = x7.d.steps.length := by rw [ex8]
     have gx8_4 : x8.d.answers.length = x7.d.answers.length := by rw [ex8]
     have oj145 := okx8
     obtain ⟨oi145_0, oi145_1, oi145_2, oi145_3, oi145_4⟩ := oj145
     have T148 : Mv _ _ [gr inEntry E143, ow 161 8 encEntry okEntry (.slice a_a a_n a_c) E143] _ := S144
     refine s_end (x_normal (wp_seq (wp_region_lit (l_op (f_mv F140 rfl rfl rfl rfl rfl fun _ F149 => ?_)))))
     refine l_op (f_val F149 rfl rfl (r_add (z := ((((((((kk + 1) + 1) + 1) + 7 * x4.d.steps.length) + 3 * x5.d.answers.length) + 1) + 1 : Nat) : Int)) rfl (F149.ev 59 rfl) rfl (by first | rfl | omega) ⟨by first | omega | (unfold i64ok at *; omega), by first | omega | (unfold i64ok at *; omega)⟩) rfl fun _ F150 => ?_)
     refine l_op (f_as F150 rfl rfl rfl rfl rfl fun _ F151 => ?_)
     refine s_end (x_normal (wp_seq (wp_region_lit (l_op (f_mv F151 rfl rfl rfl rfl rfl fun _ F152 => ?_)))))
     refine l_op (f_mv F152 rfl rfl rfl rfl rfl fun _ F153 => ?_)
     refine l_op (f_mv F153 rfl rfl rfl rfl rfl fun _ F154 => ?_)
     have rm155 := Nat.mod_lt (((((((kk + 1) + 1) + 1) + 7 * x4.d.steps.length) + 3 * x5.d.answers.length) + 1) + 1) (show 0 < 3 by decide)
     refine l_op (f_val F154 rfl rfl (r_remC (c := 3) rfl (by decide) rfl (F154.ev 63 rfl) rfl) rfl fun _ F156 => ?_)
     refine l_op (f_val F156 rfl rfl (r_cmp (b := decide ((((((((kk + 1) + 1) + 1) + 7 * x4.d.steps.length) + 3 * x5.d.answers.length) + 1) + 1) % 3 = 0)) (.inl rfl) rfl (F156.ev 64 rfl) rfl (dec_of (by omega))) rfl fun _ F157 => ?_)
     obtain ⟨B158, y158, ad158, hy158, oky158, cl158⟩ := At.ownAt T148.at' ET_75.hk 1 rfl j (by first | assumption | omega)
     obtain rfl := Option.some.inj (hx8.symm.trans hy158)
     clear hy158 oky158
     obtain ⟨ln160, le160, mx160, ni160⟩ := Rd.inv (show Rd 7 encStep okStep (fun _ => True) w141 (.slice x8.a0 x8.n0 x8.c0) x8.d.steps from NRd.get (At.nrd T148.at' 0 rfl) hx8 (j := 0) rfl)
     obtain ⟨ln161, le161, mx161, ni161⟩ := Rd.inv (show Rd 3 encR okR (fun _ => True) w141 (.slice x8.a1 x8.n1 x8.c1) x8.d.answers from NRd.get (At.nrd T148.at' 0 rfl) hx8 (j := 1) rfl)
     refine l_op (f_val F157 rfl rfl (r_indexAddr (i := j) ET_75 rfl ((F157.ev 61 rfl).trans (by rw [ad158])) (F157.ev 62 rfl) (by omega) (by first | assumption | omega)) rfl fun _ F162 => ?_)
     refine l_op (f_val F162 rfl rfl (r_field FI_161_7 rfl (F162.ev 66 rfl) rfl) rfl fun _ F163 => ?_)
     refine l_op (s_storeElF (off := 7) T148.at' 1 j x8 (⟨(⟨x8.d.seq, x8.d.kind, x8.d.tx, x8.d.steps, x8.d.answers, x8.d.began, x8.d.ended, (decide ((((((((kk + 1) + 1) + 1) + 7 * x4.d.steps.length) + 3 * x5.d.answers.length) + 1) + 1) % 3 = 0))⟩ : EntryD), x8.a0, x8.n0, x8.c0, x8.a1, x8.n1, x8.c1⟩ : EntryH) ET_75.hk ET_75.h1 TI_4 rfl ad158 rfl rfl rfl rfl (F163.ev 67 rfl) (F163.ev 65 rfl) rfl (by first | assumption | omega) hx8 rfl (by decide) (⟨okx8.1, okx8.2.1, okx8.2.2.1, okx8.2.2.2.1, okx8.2.2.2.2⟩) fun w164 S164 => ?_)
     have S165 : Mv [ow 161 8 encEntry okEntry (.slice a_a a_n a_c) (E143.set j (⟨(⟨x8.d.seq, x8.d.kind, x8.d.tx, x8.d.steps, x8.d.answers, x8.d.began, x8.d.ended, (decide ((((((((kk + 1) + 1) + 1) + 7 * x4.d.steps.length) + 3 * x5.d.answers.length) + 1) + 1) % 3 = 0))⟩ : EntryD), x8.a0, x8.n0, x8.c0, x8.a1, x8.n1, x8.c1⟩ : EntryH)), gr inEntry E143] w164 [gr inEntry (E143.set j (⟨(⟨x8.d.seq, x8.d.kind, x8.d.tx, x8.d.steps, x8.d.answers, x8.d.began, x8.d.ended, (decide ((((((((kk + 1) + 1) + 1) + 7 * x4.d.steps.length) + 3 * x5.d.answers.length) + 1) + 1) % 3 = 0))⟩ : EntryD), x8.a0, x8.n0, x8.c0, x8.a1, x8.n1, x8.c1⟩ : EntryH)), ow 161 8 encEntry okEntry (.slice a_a a_n a_c) (E143.set j (⟨(⟨x8.d.seq, x8.d.kind, x8.d.tx, x8.d.steps, x8.d.answers, x8.d.began, x8.d.ended, (decide ((((((((kk + 1) + 1) + 1) + 7 * x4.d.steps.length) + 3 * x5.d.answers.length) + 1) + 1) % 3 = 0))⟩ : EntryD), x8.a0, x8.n0, x8.c0, x8.a1, x8.n1, x8.c1⟩ : EntryH))] w164 := gr_same S164.at' 1 rfl rfl (⟨(⟨x8.d.seq, x8.d.kind, x8.d.tx, x8.d.steps, x8.d.answers, x8.d.began, x8.d.ended, (decide ((((((((kk + 1) + 1) + 1) + 7 * x4.d.steps.length) + 3 * x5.d.answers.length) + 1) + 1) % 3 = 0))⟩ : EntryD), x8.a0, x8.n0, x8.c0, x8.a1, x8.n1, x8.c1⟩ : EntryH) hx8 rfl
     obtain ⟨E166, x9, cE166, hx9, ex9⟩ : ∃ (zD : List EntryH) (zZ : EntryH), zD = D.set j zZ ∧ nth zD j = some zZ ∧ zZ = (⟨(⟨x8.d.seq, x8.d.kind, x8.d.tx, x8.d.steps, x8.d.answers, x8.d.began, x8.d.ended, (decide ((((((((kk + 1) + 1) + 1) + 7 * x4.d.steps.length) + 3 * x5.d.answers.length) + 1) + 1) % 3 = 0))⟩ : EntryD), x8.a0, x8.n0, x8.c0, x8.a1, x8.n1, x8.c1⟩ : EntryH) := ⟨_, _, rfl, nth_setSelf hx1, rfl⟩
     have S167 : Mv _ _ [gr inEntry E166, ow 161 8 encEntry okEntry (.slice a_a a_n a_c) E166] _ := Mv.cast (Mv.refl S165.at') (by rw [cE166, ex9, cE143, List.set_set] <;> rfl)
     have okx9 : okEntry x9 := by rw [ex9]; exact ⟨okx8.1, okx8.2.1, okx8.2.2.1, okx8.2.2.2.1, okx8.2.2.2.2⟩
     have gx9_3 : x9.d.steps.length = x8.d.steps.length := by rw [ex9]
     have gx9_4 : x9.d.answers.length = x8.d.answers.length := by rw [ex9]
     have oj168 := okx9
     obtain ⟨oi168_0, oi168_1, oi168_2, oi168_3, oi168_4⟩ := oj168
     refine s_end (x_normal (wp_region_lit (l_op (f_mv F163 rfl rfl rfl rfl rfl fun _ F171 => ?_))))
     refine l_op (f_val F171 rfl rfl (r_add (z := (((((((((kk + 1) + 1) + 1) + 7 * x4.d.steps.length) + 3 * x5.d.answers.length) + 1) + 1) + 1 : Nat) : Int)) rfl (F171.ev 68 rfl) rfl (by first | rfl | omega) ⟨by first | omega | (unfold i64ok at *; omega), by first | omega | (unfold i64ok at *; omega)⟩) rfl fun _ F172 => ?_)
     refine l_op (f_as F172 rfl rfl rfl rfl rfl fun _ F173 => ?_)
     refine s_end (x_block_normal (x_normal (wp_region_lit (l_op (f_mv F173 rfl rfl rfl rfl rfl fun _ F174 => ?_)))))
     refine l_op (f_val F174 rfl rfl (r_add (z := ((j + 1 : Nat) : Int)) rfl (F174.ev 10 rfl) rfl (by first | rfl | omega) ⟨by first | omega | (unfold i64ok at *; omega), by first | omega | (unfold i64ok at *; omega)⟩) rfl fun _ F175 => ?_)
     refine l_op (f_as F175 rfl rfl rfl rfl rfl fun _ F176 => ?_)
     refine s_end ?_
     refine x_normal ⟨j + 1, by omega, (((((((kk + 1) + 1) + 1) + 7 * x4.d.steps.length) + 3 * x5.d.answers.length) + 1) + 1) + 1, E166, F176.cut rfl, ((S3.trans (S18.trans (S19.trans (T25.trans (S38.trans (S39.trans (S41.trans (S57.trans (S58.trans (T64.trans (S79.trans (S78.trans (S81.trans (S82.trans (T89.trans (S101.trans (S100.trans (S103.trans (S104.trans (T112.trans (S122.trans (S123.trans (S125.trans (S141.trans (S142.trans (T148.trans (S164.trans (S165.trans S167)))))))))))))))))))))))))))).pick [1, 0] rfl), by omega, by rw [hst]; omega, map_dropk_set (by assumption) hj_2⟩
   · skip
     refine wp_exit (x_then_exit (x_then_exit (x_block_here (x_normal (wp_seq (wp_region_lit (l_op (f_mv F7 rfl rfl rfl rfl rfl fun _ F177 => ?_))))))))
     refine l_op (f_as F177 rfl rfl rfl rfl rfl fun _ F178 => ?_)
     refine s_end (x_normal (wp_ret ?_))
     refine x_done (v := .int .i64 ((kk : Nat) : Int)) F178 (results_1 Try.results103 (.tmp (F178.ev 4 rfl))) ?_
     exact ⟨D, (by rw [(show ((kk : Nat) : Int) = ((k + sumOf cntEn L : Nat) : Int) from by rw [hj_1, List.take_of_length_le (by omega)])]), (Mv.pick S3 [0, 1] rfl)⟩
theorem laws_markKernel_c {w : World} {H : Nat → Prop} {a : KernH} {a_Sa : Option Addr} {a_Sn a_Sc : Nat} {Q9 : Option Addr} {Q11 Q10 : Nat} {Q0 : Option Addr} {Q2 Q1 : Nat} {Q3 : Option Addr} {Q5 Q4 : Nat} {Q6 : Option Addr} {Q8 Q7 : Nat} {k : Nat} (Q13 : okS a.disk.journal.text) (Q12 : i64ok a.disk.journal.sure) (Q15 : i64ok a.seq) (Q14 : i64ok a.next) (Q16 : i64ok a.time) (h_k : i64ok (k : Int)) (p0 : k ≤ 1) (p1 : a.store.length ≤ 1048576) (p2 : txsFit 1048576 (a.txs.map TxH.d)) (p3 : slotsFit 1048576 (a.disk.slots.map SlotH.d)) (p4 : entriesFit 1048576 (a.history.map EntryH.d)) (p5 : a.seen.length ≤ 1048576) (hA : At w [ow 144 2 encC okC (.slice a_Sa a_Sn a_Sc) a.store, ow 71 10 encTx okTx (.slice Q9 Q11 Q10) a.txs, gr inTx a.txs, ow 99 3 encSlot okSlot (.slice Q0 Q2 Q1) a.disk.slots, gr inSlot a.disk.slots, ow 161 8 encEntry okEntry (.slice Q3 Q5 Q4) a.history, gr inEntry a.history, ow 9 1 encS okS (.slice Q6 Q8 Q7) a.seen]) :
    Calls Try.prog 46 #[.agg #[.slice a_Sa a_Sn a_Sc, .slice Q9 Q11 Q10, .slice Q0 Q2 Q1, .string a.disk.journal.text, .int .i64 a.disk.journal.sure, .int .i64 a.seq, .int .i64 a.next, .int .i64 a.time, .slice Q3 Q5 Q4, .slice Q6 Q8 Q7, .bool a.room], .int .i64 ((k : Nat) : Int)] w fun e w' => ∃ (DT : List TxH), ∃ (DS : List SlotH), ∃ (DE : List EntryH), e = .returned (.int .i64 ((k + 2 * a.store.length + sumOf cntTx (a.txs.map TxH.d) + sumOf cntSl (a.disk.slots.map SlotH.d) + sumOf cntEn (a.history.map EntryH.d) + a.seen.length : Nat) : Int)) ∧ Mv [ow 144 2 encC okC (.slice a_Sa a_Sn a_Sc) a.store, ow 71 10 encTx okTx (.slice Q9 Q11 Q10) a.txs, gr inTx a.txs, ow 99 3 encSlot okSlot (.slice Q0 Q2 Q1) a.disk.slots, gr inSlot a.disk.slots, ow 161 8 encEntry okEntry (.slice Q3 Q5 Q4) a.history, gr inEntry a.history, ow 9 1 encS okS (.slice Q6 Q8 Q7) a.seen] w [ow 144 2 encC okC (.slice a_Sa a_Sn a_Sc) (marksC k a.store.length), ow 71 10 encTx okTx (.slice Q9 Q11 Q10) DT, gr inTx DT, ow 99 3 encSlot okSlot (.slice Q0 Q2 Q1) DS, gr inSlot DS, ow 161 8 encEntry okEntry (.slice Q3 Q5 Q4) DE, gr inEntry DE, ow 9 1 encS okS (.slice Q6 Q8 Q7) (marks (k + 2 * a.store.length + sumOf cntTx (a.txs.map TxH.d) + sumOf cntSl (a.disk.slots.map SlotH.d) + sumOf cntEn (a.history.map EntryH.d)) a.seen.length)] w' := by
 have uU : True := (fun _ _ _ _ _ _ _ _ _ => trivial) H Q12 Q15 Q14 Q16 h_k p0 p1 p5
 clear uU
 have c1 := p2.cnt
 have c2 := p3.cnt
 have c3 := p4.cnt
 obtain ⟨lo0, lp0, lq0⟩ := At.ownInv hA ET_74.hk 0 rfl
 obtain ⟨lo1, lp1, lq1⟩ := At.ownInv hA ET_39.hk 1 rfl
 obtain ⟨lo3, lp3, lq3⟩ := At.ownInv hA ET_29.hk 3 rfl
 obtain ⟨lo5, lp5, lq5⟩ := At.ownInv hA ET_75.hk 5 rfl
 obtain ⟨lo7, lp7, lq7⟩ := At.ownInv hA ET_62.hk 7 rfl
 refine calls_enter 26 Try.func46 rfl Try.ntmps46 (Nat.le_of_ble_eq_true rfl) (fun _ F0i => ?_)
 have F0 : Fr 26 [(0, .agg #[.slice a_Sa a_Sn a_Sc, .slice Q9 Q11 Q10, .slice Q0 Q2 Q1, .string a.disk.journal.text, .int .i64 a.disk.journal.sure, .int .i64 a.seq, .int .i64 a.next, .int .i64 a.time, .slice Q3 Q5 Q4, .slice Q6 Q8 Q7, .bool a.room]), (1, .int .i64 ((k : Nat) : Int))] _ := F0i
 clear F0i
 refine wp_seq (wp_region_lit (l_op (f_box F0 hA rfl rfl rfl (F0.ev 0 rfl) rfl rfl fun b1 _ w1 F2 S1 => ?_)))
 refine l_op (f_val F2 rfl rfl (r_assign rfl rfl) rfl fun _ F3 => ?_)
 refine s_end (x_normal (wp_seq (wp_region_lit (l_op (f_val F3 rfl rfl (r_field FI_77_0 rfl (F3.ev 2 rfl) rfl) rfl fun _ F4 => ?_)))))
 refine l_op (f_val (v := .slice a_Sa a_Sn a_Sc) F4 rfl rfl (r_loadB S1.at' 0 TI_74 rfl rfl (F4.ev 5 rfl) rfl rfl (fun _ => rfl) rfl) rfl fun _ F5 => ?_)
 refine l_op (f_mv F5 rfl rfl rfl rfl rfl fun _ F6 => ?_)
 refine l_op (f_call F6 CF_102 rfl rfl rfl rfl (lc (F6.ev 6 rfl) (lc (F6.ev 7 rfl) rfl)) (laws_markCellS_c (H := fun _ => True) (a := a.store) (k := k) ⟨by omega, by first | omega | (unfold i64ok at *; omega)⟩ (by first | assumption | omega | (simp <;> omega)) (At.pick (is := [1]) S1.at' rfl)) ?_)
 rintro _ w7 ⟨rfl, m7⟩
 refine ⟨_, rfl, fun _ F8 => ?_⟩
 have S7 : Mv _ _ [ow 144 2 encC okC (.slice a_Sa a_Sn a_Sc) (marksC k a.store.length), bx b1 [.slice a_Sa a_Sn a_Sc, .slice Q9 Q11 Q10, .slice Q0 Q2 Q1, .string a.disk.journal.text, .int .i64 a.disk.journal.sure, .int .i64 a.seq, .int .i64 a.next, .int .i64 a.time, .slice Q3 Q5 Q4, .slice Q6 Q8 Q7, .bool a.room] 77, ow 71 10 encTx okTx (.slice Q9 Q11 Q10) a.txs, gr inTx a.txs, ow 99 3 encSlot okSlot (.slice Q0 Q2 Q1) a.disk.slots, gr inSlot a.disk.slots, ow 161 8 encEntry okEntry (.slice Q3 Q5 Q4) a.history, gr inEntry a.history, ow 9 1 encS okS (.slice Q6 Q8 Q7) a.seen] _ := At.frame S1.at' [1] rfl m7
 obtain ⟨Q21, Q26, Q31⟩ := At.ownInv S7.at' ET_74.hk 0 rfl
 clear m7
 refine l_op (f_as F8 rfl rfl rfl rfl rfl fun _ F9 => ?_)
 refine s_end (x_normal (wp_seq (wp_region_lit (l_op (f_val F9 rfl rfl (r_field FI_77_1 rfl (F9.ev 2 rfl) rfl) rfl fun _ F10 => ?_)))))
 refine l_op (f_val (v := .slice Q9 Q11 Q10) F10 rfl rfl (r_loadB S7.at' 1 TI_39 rfl rfl (F10.ev 9 rfl) rfl rfl (fun _ => rfl) rfl) rfl fun _ F11 => ?_)
 refine l_op (f_mv F11 rfl rfl rfl rfl rfl fun _ F12 => ?_)
 refine l_op (f_call F12 CF_37 rfl rfl rfl rfl (lc (F12.ev 10 rfl) (lc (F12.ev 11 rfl) rfl)) (laws_markTxS_c (H := fun _ => True) (L := (a.txs.map TxH.d)) (a := a.txs) (k := k + 2 * a.store.length) ⟨by omega, by first | omega | (unfold i64ok at *; omega)⟩ (by rfl) (by first | assumption | omega | (simp <;> omega)) (by first | assumption | omega | (simp <;> omega)) (At.pick (is := [2, 3]) S7.at' rfl)) ?_)
 rintro _ w13 ⟨D_13, rfl, m13, q13_0⟩
 refine ⟨_, rfl, fun _ F14 => ?_⟩
 have S13 : Mv _ _ [ow 71 10 encTx okTx (.slice Q9 Q11 Q10) D_13, gr inTx D_13, ow 144 2 encC okC (.slice a_Sa a_Sn a_Sc) (marksC k a.store.length), bx b1 [.slice a_Sa a_Sn a_Sc, .slice Q9 Q11 Q10, .slice Q0 Q2 Q1, .string a.disk.journal.text, .int .i64 a.disk.journal.sure, .int .i64 a.seq, .int .i64 a.next, .int .i64 a.time, .slice Q3 Q5 Q4, .slice Q6 Q8 Q7, .bool a.room] 77, ow 99 3 encSlot okSlot (.slice Q0 Q2 Q1) a.disk.slots, gr inSlot a.disk.slots, ow 161 8 encEntry okEntry (.slice Q3 Q5 Q4) a.history, gr inEntry a.history, ow 9 1 encS okS (.slice Q6 Q8 Q7) a.seen] _ := At.frame S7.at' [2, 3] rfl m13
 obtain ⟨Q17, Q22, Q27⟩ := At.ownInv S13.at' ET_39.hk 0 rfl
 clear m13
 refine l_op (f_as F14 rfl rfl rfl rfl rfl fun _ F15 => ?_)
 refine s_end (x_normal (wp_seq (wp_region_lit (l_op (f_val F15 rfl rfl (r_field FI_77_2 rfl (F15.ev 2 rfl) rfl) rfl fun _ F16 => ?_)))))
 refine l_op (f_val (v := .agg #[.slice Q0 Q2 Q1, .string a.disk.journal.text, .int .i64 a.disk.journal.sure]) F16 rfl rfl (r_loadB S13.at' 3 TI_32 rfl rfl (F16.ev 13 rfl) rfl rfl (fun h => nomatch h) rfl) rfl fun _ F17 => ?_)
 refine l_op (f_mv F17 rfl rfl rfl rfl rfl fun _ F18 => ?_)
 refine l_op (f_call F18 CF_25 rfl rfl rfl rfl (lc (F18.ev 14 rfl) (lc (F18.ev 15 rfl) rfl)) (laws_markDisk_c (H := fun _ => True) (L := (a.disk.slots.map SlotH.d)) (a := a.disk) (k := (k + 2 * a.store.length) + sumOf cntTx (a.txs.map TxH.d)) Q13 (by first | assumption | exact ⟨by omega, by omega⟩ | (unfold i64ok at *; omega) | (simp only [i64ok]; omega)) ⟨by omega, by first | omega | (unfold i64ok at *; omega)⟩ (by rfl) (by first | assumption | omega | (simp <;> omega)) (by first | assumption | omega | (simp <;> omega)) (At.pick (is := [4, 5]) S13.at' rfl)) ?_)
 rintro _ w19 ⟨D_19, rfl, m19, q19_0⟩
 refine ⟨_, rfl, fun _ F20 => ?_⟩
 have S19 : Mv _ _ [ow 99 3 encSlot okSlot (.slice Q0 Q2 Q1) D_19, gr inSlot D_19, ow 71 10 encTx okTx (.slice Q9 Q11 Q10) D_13, gr inTx D_13, ow 144 2 encC okC (.slice a_Sa a_Sn a_Sc) (marksC k a.store.length), bx b1 [.slice a_Sa a_Sn a_Sc, .slice Q9 Q11 Q10, .slice Q0 Q2 Q1, .string a.disk.journal.text, .int .i64 a.disk.journal.sure, .int .i64 a.seq, .int .i64 a.next, .int .i64 a.time, .slice Q3 Q5 Q4, .slice Q6 Q8 Q7, .bool a.room] 77, ow 161 8 encEntry okEntry (.slice Q3 Q5 Q4) a.history, gr inEntry a.history, ow 9 1 encS okS (.slice Q6 Q8 Q7) a.seen] _ := At.frame S13.at' [4, 5] rfl m19
 obtain ⟨Q18, Q23, Q28⟩ := At.ownInv S19.at' ET_29.hk 0 rfl
 clear m19
 refine l_op (f_as F20 rfl rfl rfl rfl rfl fun _ F21 => ?_)
 refine s_end (x_normal (wp_seq (wp_region_lit (l_op (f_val F21 rfl rfl (r_field FI_77_6 rfl (F21.ev 2 rfl) rfl) rfl fun _ F22 => ?_)))))
 refine l_op (f_val (v := .slice Q3 Q5 Q4) F22 rfl rfl (r_loadB S19.at' 5 TI_75 rfl rfl (F22.ev 17 rfl) rfl rfl (fun _ => rfl) rfl) rfl fun _ F23 => ?_)
 refine l_op (f_mv F23 rfl rfl rfl rfl rfl fun _ F24 => ?_)
 refine l_op (f_call F24 CF_103 rfl rfl rfl rfl (lc (F24.ev 18 rfl) (lc (F24.ev 19 rfl) rfl)) (laws_markEntryS_c (H := fun _ => True) (L := (a.history.map EntryH.d)) (a := a.history) (k := ((k + 2 * a.store.length) + sumOf cntTx (a.txs.map TxH.d)) + sumOf cntSl (a.disk.slots.map SlotH.d)) ⟨by omega, by first | omega | (unfold i64ok at *; omega)⟩ (by rfl) (by first | assumption | omega | (simp <;> omega)) (At.pick (is := [6, 7]) S19.at' rfl)) ?_)
 rintro _ w25 ⟨D_25, rfl, m25⟩
 refine ⟨_, rfl, fun _ F26 => ?_⟩
 have S25 : Mv _ _ [ow 161 8 encEntry okEntry (.slice Q3 Q5 Q4) D_25, gr inEntry D_25, ow 99 3 encSlot okSlot (.slice Q0 Q2 Q1) D_19, gr inSlot D_19, ow 71 10 encTx okTx (.slice Q9 Q11 Q10) D_13, gr inTx D_13, ow 144 2 encC okC (.slice a_Sa a_Sn a_Sc) (marksC k a.store.length), bx b1 [.slice a_Sa a_Sn a_Sc, .slice Q9 Q11 Q10, .slice Q0 Q2 Q1, .string a.disk.journal.text, .int .i64 a.disk.journal.sure, .int .i64 a.seq, .int .i64 a.next, .int .i64 a.time, .slice Q3 Q5 Q4, .slice Q6 Q8 Q7, .bool a.room] 77, ow 9 1 encS okS (.slice Q6 Q8 Q7) a.seen] _ := At.frame S19.at' [6, 7] rfl m25
 obtain ⟨Q19, Q24, Q29⟩ := At.ownInv S25.at' ET_75.hk 0 rfl
 clear m25
 refine l_op (f_as F26 rfl rfl rfl rfl rfl fun _ F27 => ?_)
 refine s_end (x_normal (wp_seq (wp_region_lit (l_op (f_val F27 rfl rfl (r_field FI_77_7 rfl (F27.ev 2 rfl) rfl) rfl fun _ F28 => ?_)))))
 refine l_op (f_val (v := .slice Q6 Q8 Q7) F28 rfl rfl (r_loadB S25.at' 7 TI_62 rfl rfl (F28.ev 21 rfl) rfl rfl (fun _ => rfl) rfl) rfl fun _ F29 => ?_)
 refine l_op (f_mv F29 rfl rfl rfl rfl rfl fun _ F30 => ?_)
 refine l_op (f_call F30 CF_81 rfl rfl rfl rfl (lc (F30.ev 22 rfl) (lc (F30.ev 23 rfl) rfl)) (laws_markStringS_c (H := fun _ => True) (a := a.seen) (k := (((k + 2 * a.store.length) + sumOf cntTx (a.txs.map TxH.d)) + sumOf cntSl (a.disk.slots.map SlotH.d)) + sumOf cntEn (a.history.map EntryH.d)) ⟨by omega, by first | omega | (unfold i64ok at *; omega)⟩ (by first | assumption | omega | (simp <;> omega)) (At.pick (is := [8]) S25.at' rfl)) ?_)
 rintro _ w31 ⟨rfl, m31⟩
 refine ⟨_, rfl, fun _ F32 => ?_⟩
 have S31 : Mv _ _ [ow 9 1 encS okS (.slice Q6 Q8 Q7) (marks ((((k + 2 * a.store.length) + sumOf cntTx (a.txs.map TxH.d)) + sumOf cntSl (a.disk.slots.map SlotH.d)) + sumOf cntEn (a.history.map EntryH.d)) a.seen.length), ow 161 8 encEntry okEntry (.slice Q3 Q5 Q4) D_25, gr inEntry D_25, ow 99 3 encSlot okSlot (.slice Q0 Q2 Q1) D_19, gr inSlot D_19, ow 71 10 encTx okTx (.slice Q9 Q11 Q10) D_13, gr inTx D_13, ow 144 2 encC okC (.slice a_Sa a_Sn a_Sc) (marksC k a.store.length), bx b1 [.slice a_Sa a_Sn a_Sc, .slice Q9 Q11 Q10, .slice Q0 Q2 Q1, .string a.disk.journal.text, .int .i64 a.disk.journal.sure, .int .i64 a.seq, .int .i64 a.next, .int .i64 a.time, .slice Q3 Q5 Q4, .slice Q6 Q8 Q7, .bool a.room] 77] _ := At.frame S25.at' [8] rfl m31
 obtain ⟨Q20, Q25, Q30⟩ := At.ownInv S31.at' ET_62.hk 0 rfl
 clear m31
 refine l_op (f_as F32 rfl rfl rfl rfl rfl fun _ F33 => ?_)
 refine s_end (x_normal (wp_seq (wp_region_lit (l_op (f_mv F33 rfl rfl rfl rfl rfl fun _ F34 => ?_)))))
 refine l_op (f_as F34 rfl rfl rfl rfl rfl fun _ F35 => ?_)
 refine s_end (x_normal (wp_ret ?_))
 refine x_done (v := .int .i64 ((((((k + 2 * a.store.length) + sumOf cntTx (a.txs.map TxH.d)) + sumOf cntSl (a.disk.slots.map SlotH.d)) + sumOf cntEn (a.history.map EntryH.d)) + a.seen.length : Nat) : Int)) F35 (results_1 Try.results46 (.tmp (F35.ev 4 rfl))) ?_
 exact ⟨D_13, D_19, D_25, rfl, (Mv.cast (Mv.pick (S1.trans (S7.trans (S13.trans (S19.trans (S25.trans S31))))) [7, 5, 6, 3, 4, 1, 2, 0] rfl) rfl)⟩
end Go.Proofs.Ytgfilegkabbliaa
