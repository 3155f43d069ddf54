/-
  Walks: slots are marked and hold their marks.
-/
import Derived.Test.YtgfilegkabbliaaDatSl
import Derived.Test.YtgfilegkabbliaaGenNsa
namespace Go.Proofs.Ytgfilegkabbliaa
open Go.ChangeShapes Go.WideShapes Go.ChangeAt Go.RowKit
set_option maxRecDepth 100000
set_option maxHeartbeats 1000000
theorem laws_markSlotS_c {w : World} {H : Nat → Prop} {a : List SlotH} {a_a : Option Addr} {a_n a_c : Nat} {k : Nat} {L : List SlotD} (h_k : i64ok (k : Int)) (p0 : a.map SlotH.d = L) (p1 : k ≤ 4503599627370496) (p2 : sumOf cntSl L ≤ 1125899906842624) (hA : At w [ow 99 3 encSlot okSlot (.slice a_a a_n a_c) a, gr inSlot a]) :
    Calls Try.prog 67 #[.slice a_a a_n a_c, .int .i64 ((k : Nat) : Int)] w fun e w' => ∃ (D : List SlotH), e = .returned (.int .i64 ((k + sumOf cntSl L : Nat) : Int)) ∧ Mv [ow 99 3 encSlot okSlot (.slice a_a a_n a_c) a, gr inSlot a] w [ow 99 3 encSlot okSlot (.slice a_a a_n a_c) D, gr inSlot D] w' ∧ D.map SlotH.d = mkL markSlE cntSl k L := by
 have uU : True := (fun _ _ _ _ => trivial) H h_k p1 p2
 clear uU
 have hLn := dM_len p0
 obtain ⟨lo0, lp0, lq0⟩ := At.ownInv hA ET_29.hk 0 rfl
 refine calls_enter 36 Try.func67 rfl Try.ntmps67 (Nat.le_of_ble_eq_true rfl) (fun _ F0i => ?_)
 have F0 : Fr 36 [(0, .slice a_a a_n a_c), (1, .int .i64 ((k : Nat) : Int))] _ := F0i
 clear F0i
 refine wp_seq (wp_region_lit (l_op (f_val F0 rfl rfl (r_assign rfl rfl) rfl fun _ F1 => ?_)))
 refine s_end (x_normal (wp_seq (wp_seq (wp_region_lit (l_op (f_val F1 rfl rfl (r_assign rfl rfl) rfl fun _ F2 => ?_))))))
 refine s_end (x_normal (wp_block ?_))
 refine x_loop (fun (j : Nat) aZ wZ => ∃ (kk : Nat), ∃ (D : List SlotH), Fr 36 [(5, .int .i64 ((j : Nat) : Int)), (0, .slice a_a a_n a_c), (1, .int .i64 ((kk : Nat) : Int))] aZ ∧ Mv [ow 99 3 encSlot okSlot (.slice a_a a_n a_c) a, gr inSlot a] w [ow 99 3 encSlot okSlot (.slice a_a a_n a_c) D, gr inSlot D] wZ ∧ (j ≤ a_n) ∧ (kk = k + sumOf cntSl (L.take j)) ∧ (D.map SlotH.d = upL markSlE cntSl k j L)) (fun (j : Nat) => a_n - j) (0) ?_ ?_
 · exact ⟨k, a, F2.cut rfl, (Mv.refl hA), by omega, rfl, p0⟩
 · rintro j a3 w3 ⟨kk, D, F3, S3, hj_0, hj_1, hj_2⟩
   refine wp_seq (wp_seq (wp_region_lit (l_op (f_mv F3 rfl rfl rfl rfl rfl fun _ F4 => ?_))))
   refine l_op (f_mv F4 rfl rfl rfl rfl rfl fun _ F5 => ?_)
   refine l_op (f_val F5 rfl rfl (r_len Try.underlying29 rfl (F5.ev 7 rfl)) rfl fun _ F6 => ?_)
   refine l_op (f_val F6 rfl rfl (r_cmp (b := decide (j < a_n)) (.inr (.inr (.inl rfl))) rfl (F6.ev 6 rfl) (F6.ev 8 rfl) (dec_of (by omega))) rfl fun _ F7 => ?_)
   refine s_end (x_normal (x_cond (p := j < a_n) (F7.ev 9 rfl) (fun h8 => ?_) (fun h8 => ?_)))
   · skip
     refine wp_skip (x_normal (wp_seq (wp_block (wp_seq ?_))))
     obtain ⟨ym, hym⟩ := nth_some (l := L) (k := j) (by omega)
     obtain ⟨hst, hsu⟩ := sumOf_upto (f := cntSl) hym
     rw [cntSl_eq] at hst hsu
     refine wp_region_lit (l_op (f_mv F7 rfl rfl rfl rfl rfl fun _ F9 => ?_))
     refine l_op (f_mv F9 rfl rfl rfl rfl rfl fun _ F10 => ?_)
     refine l_op (f_mv F10 rfl rfl rfl rfl rfl fun _ F11 => ?_)
     obtain ⟨B12, x1, ad12, hx1, okx1, cl12⟩ := At.ownAt S3.at' ET_29.hk 0 rfl j (by first | assumption | omega)
     have oj13 := okx1
     unfold okSlot at oj13
     obtain ⟨ln14, le14, mx14, ni14⟩ := Rd.inv (show Rd 2 encC okC (fun _ => True) w3 (.slice x1.a0 x1.n0 x1.c0) x1.d.cells from NRd.get (At.nrd S3.at' 1 rfl) hx1 (j := 0) rfl)
     refine l_op (f_val F11 rfl rfl (r_indexAddr (i := j) ET_29 rfl ((F11.ev 12 rfl).trans (by rw [ad12])) (F11.ev 13 rfl) (by omega) (by first | assumption | omega)) rfl fun _ F15 => ?_)
     refine l_op (f_val F15 rfl rfl (r_field FI_99_0 rfl (F15.ev 15 rfl) rfl) rfl fun _ F16 => ?_)
     refine l_op (s_storeElF (off := 0) S3.at' 0 j x1 (⟨(⟨((kk : Nat) : Int), x1.d.cells, x1.d.whole⟩ : SlotD), x1.a0, x1.n0, x1.c0⟩ : SlotH) ET_29.hk ET_29.h1 TI_3 rfl ad12 rfl rfl rfl rfl (F16.ev 16 rfl) (F16.ev 14 rfl) rfl (by first | assumption | omega) hx1 rfl (by decide) ((show i64ok ((kk : Nat) : Int) from by first | assumption | exact ⟨by omega, by omega⟩)) fun w17 S17 => ?_)
     have S18 : Mv [ow 99 3 encSlot okSlot (.slice a_a a_n a_c) (D.set j (⟨(⟨((kk : Nat) : Int), x1.d.cells, x1.d.whole⟩ : SlotD), x1.a0, x1.n0, x1.c0⟩ : SlotH)), gr inSlot D] w17 [gr inSlot (D.set j (⟨(⟨((kk : Nat) : Int), x1.d.cells, x1.d.whole⟩ : SlotD), x1.a0, x1.n0, x1.c0⟩ : SlotH)), ow 99 3 encSlot okSlot (.slice a_a a_n a_c) (D.set j (⟨(⟨((kk : Nat) : Int), x1.d.cells, x1.d.whole⟩ : SlotD), x1.a0, x1.n0, x1.c0⟩ : SlotH))] w17 := gr_same S17.at' 1 rfl rfl (⟨(⟨((kk : Nat) : Int), x1.d.cells, x1.d.whole⟩ : SlotD), x1.a0, x1.n0, x1.c0⟩ : SlotH) hx1 rfl
     obtain ⟨x2, hx2, ex2⟩ : ∃ zZ, nth (D.set j (⟨(⟨((kk : Nat) : Int), x1.d.cells, x1.d.whole⟩ : SlotD), x1.a0, x1.n0, x1.c0⟩ : SlotH)) j = some zZ ∧ zZ = (⟨(⟨((kk : Nat) : Int), x1.d.cells, x1.d.whole⟩ : SlotD), x1.a0, x1.n0, x1.c0⟩ : SlotH) := ⟨_, nth_setSelf hx1, rfl⟩
     have okx2 : okSlot x2 := by rw [ex2]; exact (show i64ok ((kk : Nat) : Int) from by first | assumption | exact ⟨by omega, by omega⟩)
     have gx2_1 : x2.d.cells.length = x1.d.cells.length := by rw [ex2]
     have oj19 := okx2
     unfold okSlot at oj19
     refine s_end (x_normal (wp_seq ?_))
     have hx1m := nth_upL.symm.trans (dM_at hj_2 hx1)
     obtain rfl := Option.some.inj (hym.symm.trans hx1m)
     refine wp_region_lit (l_op (f_mv F16 rfl rfl rfl rfl rfl fun _ F21 => ?_))
     refine l_op (f_val F21 rfl rfl (r_add (z := ((kk + 1 : Nat) : Int)) rfl (F21.ev 17 rfl) rfl (by first | rfl | omega) ⟨by first | omega | (unfold i64ok at *; omega), by first | omega | (unfold i64ok at *; omega)⟩) rfl fun _ F22 => ?_)
     refine l_op (f_as F22 rfl rfl rfl rfl rfl fun _ F23 => ?_)
     refine s_end (x_normal (wp_seq (wp_region_lit (l_op (f_mv F23 rfl rfl rfl rfl rfl fun _ F24 => ?_)))))
     refine l_op (f_mv F24 rfl rfl rfl rfl rfl fun _ F25 => ?_)
     obtain ⟨B26, y26, ad26, hy26, oky26, cl26⟩ := At.ownAt S18.at' ET_29.hk 1 rfl j (by first | assumption | omega)
     obtain rfl := Option.some.inj (hx2.symm.trans hy26)
     clear hy26 oky26
     obtain ⟨ln28, le28, mx28, ni28⟩ := Rd.inv (show Rd 2 encC okC (fun _ => True) w17 (.slice x2.a0 x2.n0 x2.c0) x2.d.cells from NRd.get (At.nrd S18.at' 0 rfl) hx2 (j := 0) rfl)
     refine l_op (f_val F25 rfl rfl (r_indexAddr (i := j) ET_29 rfl ((F25.ev 19 rfl).trans (by rw [ad26])) (F25.ev 20 rfl) (by omega) (by first | assumption | omega)) rfl fun _ F29 => ?_)
     refine l_op (f_val F29 rfl rfl (r_field FI_99_1 rfl (F29.ev 21 rfl) rfl) rfl fun _ F30 => ?_)
     refine l_op (f_val (v := .slice x2.a0 x2.n0 x2.c0) F30 rfl rfl (r_load (cs := [.slice x2.a0 x2.n0 x2.c0]) TI_74 rfl (F30.ev 22 rfl) rfl (fun _ => rfl) (elem_sub (f := 1) cl26 [.slice x2.a0 x2.n0 x2.c0] rfl)) rfl fun _ F31 => ?_)
     refine l_op (f_mv F31 rfl rfl rfl rfl rfl fun _ F32 => ?_)
     have S34 : Mv [gr inSlot (D.set j (⟨(⟨((kk : Nat) : Int), x1.d.cells, x1.d.whole⟩ : SlotD), x1.a0, x1.n0, x1.c0⟩ : SlotH)), ow 99 3 encSlot okSlot (.slice a_a a_n a_c) (D.set j (⟨(⟨((kk : Nat) : Int), x1.d.cells, x1.d.whole⟩ : SlotD), x1.a0, x1.n0, x1.c0⟩ : SlotH))] w17 [ow 144 2 encC okC (.slice x2.a0 x2.n0 x2.c0) x2.d.cells, grx inSlot (D.set j (⟨(⟨((kk : Nat) : Int), x1.d.cells, x1.d.whole⟩ : SlotD), x1.a0, x1.n0, x1.c0⟩ : SlotH)) j, ow 99 3 encSlot okSlot (.slice a_a a_n a_c) (D.set j (⟨(⟨((kk : Nat) : Int), x1.d.cells, x1.d.whole⟩ : SlotD), x1.a0, x1.n0, x1.c0⟩ : SlotH))] w17 := gr_open S18.at' 0 rfl rfl hx2
     refine l_op (f_call F32 CF_102 rfl rfl rfl rfl (lc (F32.ev 23 rfl) (lc (F32.ev 24 rfl) rfl)) (laws_markCellS_c (H := fun _ => True) (a := x2.d.cells) (k := kk + 1) ⟨by omega, by first | omega | (unfold i64ok at *; omega)⟩ (by first | assumption | omega | (simp <;> omega)) (At.pick (is := [0]) S34.at' rfl)) ?_)
     rintro _ w33 ⟨rfl, m33⟩
     refine ⟨_, rfl, fun _ F35 => ?_⟩
     have S33 : Mv _ _ [ow 144 2 encC okC (.slice x2.a0 x2.n0 x2.c0) (marksC (kk + 1) x2.d.cells.length), grx inSlot (D.set j (⟨(⟨((kk : Nat) : Int), x1.d.cells, x1.d.whole⟩ : SlotD), x1.a0, x1.n0, x1.c0⟩ : SlotH)) j, ow 99 3 encSlot okSlot (.slice a_a a_n a_c) (D.set j (⟨(⟨((kk : Nat) : Int), x1.d.cells, x1.d.whole⟩ : SlotD), x1.a0, x1.n0, x1.c0⟩ : SlotH))] _ := At.frame S34.at' [0] rfl m33
     obtain ⟨Q0, Q1, Q2⟩ := At.ownInv S33.at' ET_74.hk 0 rfl
     clear m33
     have S36 : Mv [ow 144 2 encC okC (.slice x2.a0 x2.n0 x2.c0) (marksC (kk + 1) x2.d.cells.length), grx inSlot (D.set j (⟨(⟨((kk : Nat) : Int), x1.d.cells, x1.d.whole⟩ : SlotD), x1.a0, x1.n0, x1.c0⟩ : SlotH)) j, ow 99 3 encSlot okSlot (.slice a_a a_n a_c) (D.set j (⟨(⟨((kk : Nat) : Int), x1.d.cells, x1.d.whole⟩ : SlotD), x1.a0, x1.n0, x1.c0⟩ : SlotH))] w33 [ow 99 3 encSlot okSlot (.slice a_a a_n a_c) ((D.set j (⟨(⟨((kk : Nat) : Int), x1.d.cells, x1.d.whole⟩ : SlotD), x1.a0, x1.n0, x1.c0⟩ : SlotH)).set j (⟨(⟨x2.d.seq, marksC (kk + 1) x2.d.cells.length, x2.d.whole⟩ : SlotD), x2.a0, x2.n0, x2.c0⟩ : SlotH)), ow 144 2 encC okC (.slice x2.a0 x2.n0 x2.c0) (marksC (kk + 1) x2.d.cells.length), grx inSlot (D.set j (⟨(⟨((kk : Nat) : Int), x1.d.cells, x1.d.whole⟩ : SlotD), x1.a0, x1.n0, x1.c0⟩ : SlotH)) j] w33 := ow_same S33.at' 2 rfl rfl (⟨(⟨x2.d.seq, marksC (kk + 1) x2.d.cells.length, x2.d.whole⟩ : SlotD), x2.a0, x2.n0, x2.c0⟩ : SlotH) hx2 rfl okx2
     have S37 : Mv [ow 99 3 encSlot okSlot (.slice a_a a_n a_c) ((D.set j (⟨(⟨((kk : Nat) : Int), x1.d.cells, x1.d.whole⟩ : SlotD), x1.a0, x1.n0, x1.c0⟩ : SlotH)).set j (⟨(⟨x2.d.seq, marksC (kk + 1) x2.d.cells.length, x2.d.whole⟩ : SlotD), x2.a0, x2.n0, x2.c0⟩ : SlotH)), ow 144 2 encC okC (.slice x2.a0 x2.n0 x2.c0) (marksC (kk + 1) x2.d.cells.length), grx inSlot (D.set j (⟨(⟨((kk : Nat) : Int), x1.d.cells, x1.d.whole⟩ : SlotD), x1.a0, x1.n0, x1.c0⟩ : SlotH)) j] w33 [gr inSlot ((D.set j (⟨(⟨((kk : Nat) : Int), x1.d.cells, x1.d.whole⟩ : SlotD), x1.a0, x1.n0, x1.c0⟩ : SlotH)).set j (⟨(⟨x2.d.seq, marksC (kk + 1) x2.d.cells.length, x2.d.whole⟩ : SlotD), x2.a0, x2.n0, x2.c0⟩ : SlotH)), ow 99 3 encSlot okSlot (.slice a_a a_n a_c) ((D.set j (⟨(⟨((kk : Nat) : Int), x1.d.cells, x1.d.whole⟩ : SlotD), x1.a0, x1.n0, x1.c0⟩ : SlotH)).set j (⟨(⟨x2.d.seq, marksC (kk + 1) x2.d.cells.length, x2.d.whole⟩ : SlotD), x2.a0, x2.n0, x2.c0⟩ : SlotH))] w33 := gr_close S36.at' [1, 2] (⟨(⟨x2.d.seq, marksC (kk + 1) x2.d.cells.length, x2.d.whole⟩ : SlotD), x2.a0, x2.n0, x2.c0⟩ : SlotH) rfl rfl
     obtain ⟨x3, hx3, ex3⟩ : ∃ zZ, nth ((D.set j (⟨(⟨((kk : Nat) : Int), x1.d.cells, x1.d.whole⟩ : SlotD), x1.a0, x1.n0, x1.c0⟩ : SlotH)).set j (⟨(⟨x2.d.seq, marksC (kk + 1) x2.d.cells.length, x2.d.whole⟩ : SlotD), x2.a0, x2.n0, x2.c0⟩ : SlotH)) j = some zZ ∧ zZ = (⟨(⟨x2.d.seq, marksC (kk + 1) x2.d.cells.length, x2.d.whole⟩ : SlotD), x2.a0, x2.n0, x2.c0⟩ : SlotH) := ⟨_, nth_setSelf hx2, rfl⟩
     have okx3 : okSlot x3 := by rw [ex3]; exact okx2
     have oj38 := okx3
     unfold okSlot at oj38
     refine l_op (f_as F35 rfl rfl rfl rfl rfl fun _ F40 => ?_)
     have T41 : Mv _ _ [gr inSlot ((D.set j (⟨(⟨((kk : Nat) : Int), x1.d.cells, x1.d.whole⟩ : SlotD), x1.a0, x1.n0, x1.c0⟩ : SlotH)).set j (⟨(⟨x2.d.seq, marksC (kk + 1) x2.d.cells.length, x2.d.whole⟩ : SlotD), x2.a0, x2.n0, x2.c0⟩ : SlotH)), ow 99 3 encSlot okSlot (.slice a_a a_n a_c) ((D.set j (⟨(⟨((kk : Nat) : Int), x1.d.cells, x1.d.whole⟩ : SlotD), x1.a0, x1.n0, x1.c0⟩ : SlotH)).set j (⟨(⟨x2.d.seq, marksC (kk + 1) x2.d.cells.length, x2.d.whole⟩ : SlotD), x2.a0, x2.n0, x2.c0⟩ : SlotH))] _ := S37
     refine s_end (x_normal (wp_seq (wp_region_lit (l_op (f_mv F40 rfl rfl rfl rfl rfl fun _ F42 => ?_)))))
     refine l_op (f_mv F42 rfl rfl rfl rfl rfl fun _ F43 => ?_)
     refine l_op (f_mv F43 rfl rfl rfl rfl rfl fun _ F44 => ?_)
     have rm45 := Nat.mod_lt ((kk + 1) + 2 * x2.d.cells.length) (show 0 < 3 by decide)
     refine l_op (f_val F44 rfl rfl (r_remC (c := 3) rfl (by decide) rfl (F44.ev 28 rfl) rfl) rfl fun _ F46 => ?_)
     refine l_op (f_val F46 rfl rfl (r_cmp (b := decide (((kk + 1) + 2 * x2.d.cells.length) % 3 = 0)) (.inl rfl) rfl (F46.ev 29 rfl) rfl (dec_of (by omega))) rfl fun _ F47 => ?_)
     obtain ⟨B48, y48, ad48, hy48, oky48, cl48⟩ := At.ownAt T41.at' ET_29.hk 1 rfl j (by first | assumption | omega)
     obtain rfl := Option.some.inj (hx3.symm.trans hy48)
     clear hy48 oky48
     obtain ⟨ln50, le50, mx50, ni50⟩ := Rd.inv (show Rd 2 encC okC (fun _ => True) w33 (.slice x3.a0 x3.n0 x3.c0) x3.d.cells from NRd.get (At.nrd T41.at' 0 rfl) hx3 (j := 0) rfl)
     refine l_op (f_val F47 rfl rfl (r_indexAddr (i := j) ET_29 rfl ((F47.ev 26 rfl).trans (by rw [ad48])) (F47.ev 27 rfl) (by omega) (by first | assumption | omega)) rfl fun _ F51 => ?_)
     refine l_op (f_val F51 rfl rfl (r_field FI_99_2 rfl (F51.ev 31 rfl) rfl) rfl fun _ F52 => ?_)
     refine l_op (s_storeElF (off := 2) T41.at' 1 j x3 (⟨(⟨x3.d.seq, x3.d.cells, (decide (((kk + 1) + 2 * x2.d.cells.length) % 3 = 0))⟩ : SlotD), x3.a0, x3.n0, x3.c0⟩ : SlotH) ET_29.hk ET_29.h1 TI_4 rfl ad48 rfl rfl rfl rfl (F52.ev 32 rfl) (F52.ev 30 rfl) rfl (by first | assumption | omega) hx3 rfl (by decide) (okx3) fun w53 S53 => ?_)
     have S54 : Mv [ow 99 3 encSlot okSlot (.slice a_a a_n a_c) (((D.set j (⟨(⟨((kk : Nat) : Int), x1.d.cells, x1.d.whole⟩ : SlotD), x1.a0, x1.n0, x1.c0⟩ : SlotH)).set j (⟨(⟨x2.d.seq, marksC (kk + 1) x2.d.cells.length, x2.d.whole⟩ : SlotD), x2.a0, x2.n0, x2.c0⟩ : SlotH)).set j (⟨(⟨x3.d.seq, x3.d.cells, (decide (((kk + 1) + 2 * x2.d.cells.length) % 3 = 0))⟩ : SlotD), x3.a0, x3.n0, x3.c0⟩ : SlotH)), gr inSlot ((D.set j (⟨(⟨((kk : Nat) : Int), x1.d.cells, x1.d.whole⟩ : SlotD), x1.a0, x1.n0, x1.c0⟩ : SlotH)).set j (⟨(⟨x2.d.seq, marksC (kk + 1) x2.d.cells.length, x2.d.whole⟩ : SlotD), x2.a0, x2.n0, x2.c0⟩ : SlotH))] w53 [gr inSlot (((D.set j (⟨(⟨((kk : Nat) : Int), x1.d.cells, x1.d.whole⟩ : SlotD), x1.a0, x1.n0, x1.c0⟩ : SlotH)).set j (⟨(⟨x2.d.seq, marksC (kk + 1) x2.d.cells.length, x2.d.whole⟩ : SlotD), x2.a0, x2.n0, x2.c0⟩ : SlotH)).set j (⟨(⟨x3.d.seq, x3.d.cells, (decide (((kk + 1) + 2 * x2.d.cells.length) % 3 = 0))⟩ : SlotD), x3.a0, x3.n0, x3.c0⟩ : SlotH)), ow 99 3 encSlot okSlot (.slice a_a a_n a_c) (((D.set j (⟨(⟨((kk : Nat) : Int), x1.d.cells, x1.d.whole⟩ : SlotD), x1.a0, x1.n0, x1.c0⟩ : SlotH)).set j (⟨(⟨x2.d.seq, marksC (kk + 1) x2.d.cells.length, x2.d.whole⟩ : SlotD), x2.a0, x2.n0, x2.c0⟩ : SlotH)).set j (⟨(⟨x3.d.seq, x3.d.cells, (decide (((kk + 1) + 2 * x2.d.cells.length) % 3 = 0))⟩ : SlotD), x3.a0, x3.n0, x3.c0⟩ : SlotH))] w53 := gr_same S53.at' 1 rfl rfl (⟨(⟨x3.d.seq, x3.d.cells, (decide (((kk + 1) + 2 * x2.d.cells.length) % 3 = 0))⟩ : SlotD), x3.a0, x3.n0, x3.c0⟩ : SlotH) hx3 rfl
     obtain ⟨x4, hx4, ex4⟩ : ∃ zZ, nth (((D.set j (⟨(⟨((kk : Nat) : Int), x1.d.cells, x1.d.whole⟩ : SlotD), x1.a0, x1.n0, x1.c0⟩ : SlotH)).set j (⟨(⟨x2.d.seq, marksC (kk + 1) x2.d.cells.length, x2.d.whole⟩ : SlotD), x2.a0, x2.n0, x2.c0⟩ : SlotH)).set j (⟨(⟨x3.d.seq, x3.d.cells, (decide (((kk + 1) + 2 * x2.d.cells.length) % 3 = 0))⟩ : SlotD), x3.a0, x3.n0, x3.c0⟩ : SlotH)) j = some zZ ∧ zZ = (⟨(⟨x3.d.seq, x3.d.cells, (decide (((kk + 1) + 2 * x2.d.cells.length) % 3 = 0))⟩ : SlotD), x3.a0, x3.n0, x3.c0⟩ : SlotH) := ⟨_, nth_setSelf hx3, rfl⟩
     have okx4 : okSlot x4 := by rw [ex4]; exact okx3
     have gx4_1 : x4.d.cells.length = x3.d.cells.length := by rw [ex4]
     have oj55 := okx4
     unfold okSlot at oj55
     refine s_end (x_normal (wp_region_lit (l_op (f_mv F52 rfl rfl rfl rfl rfl fun _ F57 => ?_))))
     refine l_op (f_val F57 rfl rfl (r_add (z := ((((kk + 1) + 2 * x2.d.cells.length) + 1 : Nat) : Int)) rfl (F57.ev 33 rfl) rfl (by first | rfl | omega) ⟨by first | omega | (unfold i64ok at *; omega), by first | omega | (unfold i64ok at *; omega)⟩) rfl fun _ F58 => ?_)
     refine l_op (f_as F58 rfl rfl rfl rfl rfl fun _ F59 => ?_)
     refine s_end (x_block_normal (x_normal (wp_region_lit (l_op (f_mv F59 rfl rfl rfl rfl rfl fun _ F60 => ?_)))))
     refine l_op (f_val F60 rfl rfl (r_add (z := ((j + 1 : Nat) : Int)) rfl (F60.ev 10 rfl) rfl (by first | rfl | omega) ⟨by first | omega | (unfold i64ok at *; omega), by first | omega | (unfold i64ok at *; omega)⟩) rfl fun _ F61 => ?_)
     refine l_op (f_as F61 rfl rfl rfl rfl rfl fun _ F62 => ?_)
     refine s_end ?_
     refine x_normal ⟨j + 1, by omega, ((kk + 1) + 2 * x2.d.cells.length) + 1, ((D.set j (⟨(⟨((kk : Nat) : Int), x1.d.cells, x1.d.whole⟩ : SlotD), x1.a0, x1.n0, x1.c0⟩ : SlotH)).set j (⟨(⟨x2.d.seq, marksC (kk + 1) x2.d.cells.length, x2.d.whole⟩ : SlotD), x2.a0, x2.n0, x2.c0⟩ : SlotH)).set j (⟨(⟨x3.d.seq, x3.d.cells, (decide (((kk + 1) + 2 * x2.d.cells.length) % 3 = 0))⟩ : SlotD), x3.a0, x3.n0, x3.c0⟩ : SlotH), F62.cut rfl, ((S3.trans (S17.trans (S18.trans (S34.trans (S33.trans (S36.trans (T41.trans (S53.trans S54)))))))).pick [1, 0] rfl), by omega, by rw [hst]; omega, by simp only [List.set_set]; rw [List.map_set, hj_2]; refine upL_step hx1m ?_; rw [← hj_1]; subst_vars; rfl⟩
   · skip
     refine wp_exit (x_then_exit (x_then_exit (x_block_here (x_normal (wp_seq (wp_region_lit (l_op (f_mv F7 rfl rfl rfl rfl rfl fun _ F63 => ?_))))))))
     refine l_op (f_as F63 rfl rfl rfl rfl rfl fun _ F64 => ?_)
     refine s_end (x_normal (wp_ret ?_))
     refine x_done (v := .int .i64 ((kk : Nat) : Int)) F64 (results_1 Try.results67 (.tmp (F64.ev 4 rfl))) ?_
     exact ⟨D, (by rw [(show ((kk : Nat) : Int) = ((k + sumOf cntSl L : Nat) : Int) from by rw [hj_1, List.take_of_length_le (by omega)])]), (Mv.pick S3 [0, 1] rfl), by rw [hj_2]; exact upL_end (by omega)⟩
theorem laws_markDisk_c {w : World} {H : Nat → Prop} {a : DiskH} {Q0 : Option Addr} {Q2 Q1 : Nat} {k : Nat} {L : List SlotD} (Q4 : okS a.journal.text) (Q3 : i64ok a.journal.sure) (h_k : i64ok (k : Int)) (p0 : a.slots.map SlotH.d = L) (p1 : k ≤ 4503599627370496) (p2 : sumOf cntSl L ≤ 1125899906842624) (hA : At w [ow 99 3 encSlot okSlot (.slice Q0 Q2 Q1) a.slots, gr inSlot a.slots]) :
    Calls Try.prog 25 #[.agg #[.slice Q0 Q2 Q1, .string a.journal.text, .int .i64 a.journal.sure], .int .i64 ((k : Nat) : Int)] w fun e w' => ∃ (D : List SlotH), e = .returned (.int .i64 ((k + sumOf cntSl L : Nat) : Int)) ∧ Mv [ow 99 3 encSlot okSlot (.slice Q0 Q2 Q1) a.slots, gr inSlot a.slots] w [ow 99 3 encSlot okSlot (.slice Q0 Q2 Q1) D, gr inSlot D] w' ∧ D.map SlotH.d = mkL markSlE cntSl k L := by
 have uU : True := (fun _ _ _ _ _ _ _ => trivial) H Q4 Q3 h_k p0 p1 p2
 clear uU
 obtain ⟨lo0, lp0, lq0⟩ := At.ownInv hA ET_29.hk 0 rfl
 refine calls_enter 10 Try.func25 rfl Try.ntmps25 (Nat.le_of_ble_eq_true rfl) (fun _ F0i => ?_)
 have F0 : Fr 10 [(0, .agg #[.slice Q0 Q2 Q1, .string a.journal.text, .int .i64 a.journal.sure]), (1, .int .i64 ((k : Nat) : Int))] _ := F0i
 clear F0i
 refine wp_seq (wp_region_lit (l_op (f_box F0 hA rfl rfl rfl (F0.ev 0 rfl) rfl rfl fun b1 _ w1 F2 S1 => ?_)))
 refine l_op (f_val F2 rfl rfl (r_assign rfl rfl) rfl fun _ F3 => ?_)
 refine s_end (x_normal (wp_seq (wp_region_lit (l_op (f_val F3 rfl rfl (r_field FI_32_0 rfl (F3.ev 2 rfl) rfl) rfl fun _ F4 => ?_)))))
 refine l_op (f_val (v := .slice Q0 Q2 Q1) F4 rfl rfl (r_loadB S1.at' 0 TI_29 rfl rfl (F4.ev 5 rfl) rfl rfl (fun _ => rfl) rfl) rfl fun _ F5 => ?_)
 refine l_op (f_mv F5 rfl rfl rfl rfl rfl fun _ F6 => ?_)
 refine l_op (f_call F6 CF_67 rfl rfl rfl rfl (lc (F6.ev 6 rfl) (lc (F6.ev 7 rfl) rfl)) (laws_markSlotS_c (H := fun _ => True) (L := L) (a := a.slots) (k := k) ⟨by omega, by first | omega | (unfold i64ok at *; omega)⟩ (by first | assumption | omega | (simp <;> omega)) (by first | assumption | omega | (simp <;> omega)) (by first | assumption | omega | (simp <;> omega)) (At.pick (is := [1, 2]) S1.at' rfl)) ?_)
 rintro _ w7 ⟨D_7, rfl, m7, q7_0⟩
 refine ⟨_, rfl, fun _ F8 => ?_⟩
 have S7 : Mv _ _ [ow 99 3 encSlot okSlot (.slice Q0 Q2 Q1) D_7, gr inSlot D_7, bx b1 [.slice Q0 Q2 Q1, .string a.journal.text, .int .i64 a.journal.sure] 32] _ := At.frame S1.at' [1, 2] rfl m7
 obtain ⟨Q5, Q6, Q7⟩ := At.ownInv S7.at' ET_29.hk 0 rfl
 clear m7
 refine l_op (f_as F8 rfl rfl rfl rfl rfl fun _ F9 => ?_)
 refine s_end (x_normal (wp_seq (wp_region_lit (l_op (f_mv F9 rfl rfl rfl rfl rfl fun _ F10 => ?_)))))
 refine l_op (f_as F10 rfl rfl rfl rfl rfl fun _ F11 => ?_)
 refine s_end (x_normal (wp_ret ?_))
 refine x_done (v := .int .i64 ((k + sumOf cntSl L : Nat) : Int)) F11 (results_1 Try.results25 (.tmp (F11.ev 4 rfl))) ?_
 exact ⟨D_7, rfl, (Mv.pick (S1.trans S7) [0, 1] rfl), by first | assumption | exact w64_ok _ | omega | (unfold i64ok; omega)⟩
end Go.Proofs.Ytgfilegkabbliaa
