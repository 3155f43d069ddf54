/-
  Walks: slots are marked and hold their marks.
-/
import Derived.Test.YtgfilegkabbliaaDatSl
import Derived.Test.YtgfilegkabbliaaGenNsa
namespace Go.Proofs.Ytgfilegkabbliaa
open Go.ChangeShapes Go.WideShapes Go.ChangeAt Go.RowKit
set_option maxRecDepth 100000
set_option maxHeartbeats 1000000
theorem laws_markSlotS_c {w : World} {H : Nat → Prop} {a : List SlotH} {a_a : Option Addr} {a_n a_c : Nat} {k : Nat} {L : List SlotD} (h_k : i64ok (k : Int)) (p0 : a.map SlotH.d = L) (p1 : k ≤ 1048576) (p2 : sumOf cntSl L ≤ 1125899906842624) (hA : At w [ow 99 3 encSlot okSlot (.slice a_a a_n a_c) a, gr inSlot a]) :
    Calls Try.prog 67 #[.slice a_a a_n a_c, .int .i64 ((k : Nat) : Int)] w fun e w' => ∃ (D : List SlotH), e = .returned (.int .i64 ((k + sumOf cntSl L : Nat) : Int)) ∧ Mv [ow 99 3 encSlot okSlot (.slice a_a a_n a_c) a, gr inSlot a] w [ow 99 3 encSlot okSlot (.slice a_a a_n a_c) D, gr inSlot D] w' ∧ D.map SlotH.d = mkL markSlE cntSl k L := by
 have uU : True := (fun _ _ _ _ => trivial) H h_k p1 p2
 clear uU
 have hLn := dM_len p0
 obtain ⟨lo0, lp0, lq0⟩ := At.ownInv hA ET_29.hk 0 rfl
 refine calls_enter 36 Try.func67 rfl Try.ntmps67 (Nat.le_of_ble_eq_true rfl) (fun _ F0i => ?_)
 have F0 : Fr 36 [(0, .slice a_a a_n a_c), (1, .int .i64 ((k : Nat) : Int))] _ := F0i
 clear F0i
 refine wp_seq (wp_region_lit (l_op (f_val F0 rfl rfl (r_assign rfl rfl) rfl fun _ F1 => ?_)))
 have F2 : Fr 36 [(4, .int .i64 0), (0, .slice a_a a_n a_c), (1, .int .i64 ((k : Nat) : Int))] _ := F1.cut rfl
 clear F0 F1
 refine s_end (x_normal (wp_seq (wp_seq (wp_region_lit (l_op (f_val F2 rfl rfl (r_assign rfl rfl) rfl fun _ F3 => ?_))))))
 have F4 : Fr 36 [(5, .int .i64 0), (0, .slice a_a a_n a_c), (1, .int .i64 ((k : Nat) : Int))] _ := F3.cut rfl
 clear F2 F3
 refine s_end (x_normal (wp_block ?_))
 refine x_loop (fun (j : Nat) aZ wZ => ∃ (kk : Nat), ∃ (D : List SlotH), Fr 36 [(5, .int .i64 ((j : Nat) : Int)), (0, .slice a_a a_n a_c), (1, .int .i64 ((kk : Nat) : Int))] aZ ∧ Mv [ow 99 3 encSlot okSlot (.slice a_a a_n a_c) a, gr inSlot a] w [ow 99 3 encSlot okSlot (.slice a_a a_n a_c) D, gr inSlot D] wZ ∧ (j ≤ a_n) ∧ (kk = k + sumOf cntSl (L.take j)) ∧ (D.map SlotH.d = upL markSlE cntSl k j L)) (fun (j : Nat) => a_n - j) (0) ?_ ?_
 · exact ⟨k, a, F4.cut rfl, (Mv.refl hA), by omega, rfl, p0⟩
 · rintro j a5 w5 ⟨kk, D, F5, S5, hj_0, hj_1, hj_2⟩
   refine wp_seq (wp_seq (wp_region_lit (l_op (f_mv F5 rfl rfl rfl rfl rfl fun _ F6 => ?_))))
   refine l_op (f_mv F6 rfl rfl rfl rfl rfl fun _ F7 => ?_)
   refine l_op (f_val F7 rfl rfl (r_len Try.underlying29 rfl (F7.ev 7 rfl)) rfl fun _ F8 => ?_)
   refine l_op (f_val F8 rfl rfl (r_cmp (b := decide (j < a_n)) (.inr (.inr (.inl rfl))) rfl (F8.ev 6 rfl) (F8.ev 8 rfl) (dec_of (by omega))) rfl fun _ F9 => ?_)
   have F10 : Fr 36 [(9, .bool (decide (j < a_n))), (5, .int .i64 ((j : Nat) : Int)), (0, .slice a_a a_n a_c), (1, .int .i64 ((kk : Nat) : Int))] _ := F9.cut rfl
   clear F5 F6 F7 F8 F9
   refine s_end (x_normal (x_cond (p := j < a_n) (F10.ev 9 rfl) (fun h11 => ?_) (fun h11 => ?_)))
   · skip
     refine wp_skip (x_normal (wp_seq (wp_block (wp_seq ?_))))
     obtain ⟨ym, hym⟩ := nth_some (l := L) (k := j) (by omega)
     obtain ⟨hst, hsu⟩ := sumOf_upto (f := cntSl) hym
     rw [cntSl_eq] at hst hsu
     refine wp_region_lit (l_op (f_mv F10 rfl rfl rfl rfl rfl fun _ F12 => ?_))
     refine l_op (f_mv F12 rfl rfl rfl rfl rfl fun _ F13 => ?_)
     refine l_op (f_mv F13 rfl rfl rfl rfl rfl fun _ F14 => ?_)
     obtain ⟨B15, x1, ad15, hx1, okx1, cl15⟩ := At.ownAt S5.at' ET_29.hk 0 rfl j (by first | assumption | omega)
     have oj16 := okx1
     unfold okSlot at oj16
     obtain ⟨ln17, le17, mx17, ni17⟩ := Rd.inv (show Rd 2 encC okC (fun _ => True) w5 (.slice x1.a0 x1.n0 x1.c0) x1.d.cells from NRd.get (At.nrd S5.at' 1 rfl) hx1 (j := 0) rfl)
     refine l_op (f_val F14 rfl rfl (r_indexAddr (i := j) ET_29 rfl ((F14.ev 12 rfl).trans (by rw [ad15])) (F14.ev 13 rfl) (by omega) (by first | assumption | omega)) rfl fun _ F18 => ?_)
     refine l_op (f_val F18 rfl rfl (r_field FI_99_0 rfl (F18.ev 15 rfl) rfl) rfl fun _ F19 => ?_)
     refine l_op (s_storeElF (off := 0) S5.at' 0 j x1 (⟨(⟨((kk : Nat) : Int), x1.d.cells, x1.d.whole⟩ : SlotD), x1.a0, x1.n0, x1.c0⟩ : SlotH) ET_29.hk ET_29.h1 TI_3 rfl ad15 rfl rfl rfl rfl (F19.ev 16 rfl) (F19.ev 14 rfl) rfl (by first | assumption | omega) hx1 rfl (by decide) ((show i64ok ((kk : Nat) : Int) from by first | assumption | exact ⟨by omega, by omega⟩)) fun w20 S20 => ?_)
     have S21 : Mv [ow 99 3 encSlot okSlot (.slice a_a a_n a_c) (D.set j (⟨(⟨((kk : Nat) : Int), x1.d.cells, x1.d.whole⟩ : SlotD), x1.a0, x1.n0, x1.c0⟩ : SlotH)), gr inSlot D] w20 [gr inSlot (D.set j (⟨(⟨((kk : Nat) : Int), x1.d.cells, x1.d.whole⟩ : SlotD), x1.a0, x1.n0, x1.c0⟩ : SlotH)), ow 99 3 encSlot okSlot (.slice a_a a_n a_c) (D.set j (⟨(⟨((kk : Nat) : Int), x1.d.cells, x1.d.whole⟩ : SlotD), x1.a0, x1.n0, x1.c0⟩ : SlotH))] w20 := gr_same S20.at' 1 rfl rfl (⟨(⟨((kk : Nat) : Int), x1.d.cells, x1.d.whole⟩ : SlotD), x1.a0, x1.n0, x1.c0⟩ : SlotH) hx1 rfl
     obtain ⟨x2, hx2, ex2⟩ : ∃ zZ, nth (D.set j (⟨(⟨((kk : Nat) : Int), x1.d.cells, x1.d.whole⟩ : SlotD), x1.a0, x1.n0, x1.c0⟩ : SlotH)) j = some zZ ∧ zZ = (⟨(⟨((kk : Nat) : Int), x1.d.cells, x1.d.whole⟩ : SlotD), x1.a0, x1.n0, x1.c0⟩ : SlotH) := ⟨_, nth_setSelf hx1, rfl⟩
     have okx2 : okSlot x2 := by rw [ex2]; exact (show i64ok ((kk : Nat) : Int) from by first | assumption | exact ⟨by omega, by omega⟩)
     have gx2_1 : x2.d.cells.length = x1.d.cells.length := by rw [ex2]
     have oj22 := okx2
     unfold okSlot at oj22
     have F24 : Fr 36 [(16, .pointer (some ⟨B15, 0 + j * 3, none⟩)), (14, .int .i64 ((kk : Nat) : Int)), (5, .int .i64 ((j : Nat) : Int)), (0, .slice a_a a_n a_c), (1, .int .i64 ((kk : Nat) : Int))] _ := F19.cut rfl
     clear F10 F12 F13 F14 F18 F19
     have T25 : Mv _ _ [gr inSlot (D.set j (⟨(⟨((kk : Nat) : Int), x1.d.cells, x1.d.whole⟩ : SlotD), x1.a0, x1.n0, x1.c0⟩ : SlotH)), ow 99 3 encSlot okSlot (.slice a_a a_n a_c) (D.set j (⟨(⟨((kk : Nat) : Int), x1.d.cells, x1.d.whole⟩ : SlotD), x1.a0, x1.n0, x1.c0⟩ : SlotH))] _ := S21
     refine s_end (x_normal (wp_seq ?_))
     have hx1m := nth_upL.symm.trans (dM_at hj_2 hx1)
     obtain rfl := Option.some.inj (hym.symm.trans hx1m)
     refine wp_region_lit (l_op (f_mv F24 rfl rfl rfl rfl rfl fun _ F26 => ?_))
     refine l_op (f_val F26 rfl rfl (r_add (z := ((kk + 1 : Nat) : Int)) rfl (F26.ev 17 rfl) rfl (by first | rfl | omega) ⟨by first | omega | (unfold i64ok at *; omega), by first | omega | (unfold i64ok at *; omega)⟩) rfl fun _ F27 => ?_)
     refine l_op (f_as F27 rfl rfl rfl rfl rfl fun _ F28 => ?_)
     have F29 : Fr 36 [(1, .int .i64 ((kk + 1 : Nat) : Int)), (5, .int .i64 ((j : Nat) : Int)), (0, .slice a_a a_n a_c)] _ := F28.cut rfl
     clear F24 F26 F27 F28
     refine s_end (x_normal (wp_seq (wp_region_lit (l_op (f_mv F29 rfl rfl rfl rfl rfl fun _ F30 => ?_)))))
     refine l_op (f_mv F30 rfl rfl rfl rfl rfl fun _ F31 => ?_)
     obtain ⟨B32, y32, ad32, hy32, oky32, cl32⟩ := At.ownAt T25.at' ET_29.hk 1 rfl j (by first | assumption | omega)
     obtain rfl := Option.some.inj (hx2.symm.trans hy32)
     clear hy32 oky32
     obtain ⟨ln34, le34, mx34, ni34⟩ := Rd.inv (show Rd 2 encC okC (fun _ => True) w20 (.slice x2.a0 x2.n0 x2.c0) x2.d.cells from NRd.get (At.nrd T25.at' 0 rfl) hx2 (j := 0) rfl)
     refine l_op (f_val F31 rfl rfl (r_indexAddr (i := j) ET_29 rfl ((F31.ev 19 rfl).trans (by rw [ad32])) (F31.ev 20 rfl) (by omega) (by first | assumption | omega)) rfl fun _ F35 => ?_)
     refine l_op (f_val F35 rfl rfl (r_field FI_99_1 rfl (F35.ev 21 rfl) rfl) rfl fun _ F36 => ?_)
     refine l_op (f_val (v := .slice x2.a0 x2.n0 x2.c0) F36 rfl rfl (r_load (cs := [.slice x2.a0 x2.n0 x2.c0]) TI_74 rfl (F36.ev 22 rfl) rfl (fun _ => rfl) (elem_sub (f := 1) cl32 [.slice x2.a0 x2.n0 x2.c0] rfl)) rfl fun _ F37 => ?_)
     refine l_op (f_mv F37 rfl rfl rfl rfl rfl fun _ F38 => ?_)
     have S40 : Mv [gr inSlot (D.set j (⟨(⟨((kk : Nat) : Int), x1.d.cells, x1.d.whole⟩ : SlotD), x1.a0, x1.n0, x1.c0⟩ : SlotH)), ow 99 3 encSlot okSlot (.slice a_a a_n a_c) (D.set j (⟨(⟨((kk : Nat) : Int), x1.d.cells, x1.d.whole⟩ : SlotD), x1.a0, x1.n0, x1.c0⟩ : SlotH))] w20 [ow 144 2 encC okC (.slice x2.a0 x2.n0 x2.c0) x2.d.cells, grx inSlot (D.set j (⟨(⟨((kk : Nat) : Int), x1.d.cells, x1.d.whole⟩ : SlotD), x1.a0, x1.n0, x1.c0⟩ : SlotH)) j, ow 99 3 encSlot okSlot (.slice a_a a_n a_c) (D.set j (⟨(⟨((kk : Nat) : Int), x1.d.cells, x1.d.whole⟩ : SlotD), x1.a0, x1.n0, x1.c0⟩ : SlotH))] w20 := gr_open T25.at' 0 rfl rfl hx2
     refine l_op (f_call F38 CF_102 rfl rfl rfl rfl (lc (F38.ev 23 rfl) (lc (F38.ev 24 rfl) rfl)) (laws_markCellS_c (H := fun _ => True) (a := x2.d.cells) (k := kk + 1) ⟨by omega, by first | omega | (unfold i64ok at *; omega)⟩ (by first | assumption | omega | (simp <;> omega)) (At.pick (is := [0]) S40.at' rfl)) ?_)
     rintro _ w39 ⟨rfl, m39⟩
     refine ⟨_, rfl, fun _ F41 => ?_⟩
     have S39 : Mv _ _ [ow 144 2 encC okC (.slice x2.a0 x2.n0 x2.c0) (marksC (kk + 1) x2.d.cells.length), grx inSlot (D.set j (⟨(⟨((kk : Nat) : Int), x1.d.cells, x1.d.whole⟩ : SlotD), x1.a0, x1.n0, x1.c0⟩ : SlotH)) j, ow 99 3 encSlot okSlot (.slice a_a a_n a_c) (D.set j (⟨(⟨((kk : Nat) : Int), x1.d.cells, x1.d.whole⟩ : SlotD), x1.a0, x1.n0, x1.c0⟩ : SlotH))] _ := At.frame S40.at' [0] rfl m39
     obtain ⟨lo39_0, lp39_0, lq39_0⟩ := At.ownInv S39.at' ET_74.hk 0 rfl
     clear m39
     have S42 : Mv [ow 144 2 encC okC (.slice x2.a0 x2.n0 x2.c0) (marksC (kk + 1) x2.d.cells.length), grx inSlot (D.set j (⟨(⟨((kk : Nat) : Int), x1.d.cells, x1.d.whole⟩ : SlotD), x1.a0, x1.n0, x1.c0⟩ : SlotH)) j, ow 99 3 encSlot okSlot (.slice a_a a_n a_c) (D.set j (⟨(⟨((kk : Nat) : Int), x1.d.cells, x1.d.whole⟩ : SlotD), x1.a0, x1.n0, x1.c0⟩ : SlotH))] w39 [ow 99 3 encSlot okSlot (.slice a_a a_n a_c) ((D.set j (⟨(⟨((kk : Nat) : Int), x1.d.cells, x1.d.whole⟩ : SlotD), x1.a0, x1.n0, x1.c0⟩ : SlotH)).set j (⟨(⟨x2.d.seq, marksC (kk + 1) x2.d.cells.length, x2.d.whole⟩ : SlotD), x2.a0, x2.n0, x2.c0⟩ : SlotH)), ow 144 2 encC okC (.slice x2.a0 x2.n0 x2.c0) (marksC (kk + 1) x2.d.cells.length), grx inSlot (D.set j (⟨(⟨((kk : Nat) : Int), x1.d.cells, x1.d.whole⟩ : SlotD), x1.a0, x1.n0, x1.c0⟩ : SlotH)) j] w39 := ow_same S39.at' 2 rfl rfl (⟨(⟨x2.d.seq, marksC (kk + 1) x2.d.cells.length, x2.d.whole⟩ : SlotD), x2.a0, x2.n0, x2.c0⟩ : SlotH) hx2 rfl okx2
     have S43 : Mv [ow 99 3 encSlot okSlot (.slice a_a a_n a_c) ((D.set j (⟨(⟨((kk : Nat) : Int), x1.d.cells, x1.d.whole⟩ : SlotD), x1.a0, x1.n0, x1.c0⟩ : SlotH)).set j (⟨(⟨x2.d.seq, marksC (kk + 1) x2.d.cells.length, x2.d.whole⟩ : SlotD), x2.a0, x2.n0, x2.c0⟩ : SlotH)), ow 144 2 encC okC (.slice x2.a0 x2.n0 x2.c0) (marksC (kk + 1) x2.d.cells.length), grx inSlot (D.set j (⟨(⟨((kk : Nat) : Int), x1.d.cells, x1.d.whole⟩ : SlotD), x1.a0, x1.n0, x1.c0⟩ : SlotH)) j] w39 [gr inSlot ((D.set j (⟨(⟨((kk : Nat) : Int), x1.d.cells, x1.d.whole⟩ : SlotD), x1.a0, x1.n0, x1.c0⟩ : SlotH)).set j (⟨(⟨x2.d.seq, marksC (kk + 1) x2.d.cells.length, x2.d.whole⟩ : SlotD), x2.a0, x2.n0, x2.c0⟩ : SlotH)), ow 99 3 encSlot okSlot (.slice a_a a_n a_c) ((D.set j (⟨(⟨((kk : Nat) : Int), x1.d.cells, x1.d.whole⟩ : SlotD), x1.a0, x1.n0, x1.c0⟩ : SlotH)).set j (⟨(⟨x2.d.seq, marksC (kk + 1) x2.d.cells.length, x2.d.whole⟩ : SlotD), x2.a0, x2.n0, x2.c0⟩ : SlotH))] w39 := gr_close S42.at' [1, 2] (⟨(⟨x2.d.seq, marksC (kk + 1) x2.d.cells.length, x2.d.whole⟩ : SlotD), x2.a0, x2.n0, x2.c0⟩ : SlotH) rfl rfl
     obtain ⟨x3, hx3, ex3⟩ : ∃ zZ, nth ((D.set j (⟨(⟨((kk : Nat) : Int), x1.d.cells, x1.d.whole⟩ : SlotD), x1.a0, x1.n0, x1.c0⟩ : SlotH)).set j (⟨(⟨x2.d.seq, marksC (kk + 1) x2.d.cells.length, x2.d.whole⟩ : SlotD), x2.a0, x2.n0, x2.c0⟩ : SlotH)) j = some zZ ∧ zZ = (⟨(⟨x2.d.seq, marksC (kk + 1) x2.d.cells.length, x2.d.whole⟩ : SlotD), x2.a0, x2.n0, x2.c0⟩ : SlotH) := ⟨_, nth_setSelf hx2, rfl⟩
     have okx3 : okSlot x3 := by rw [ex3]; exact okx2
     have oj44 := okx3
     unfold okSlot at oj44
     refine l_op (f_as F41 rfl rfl rfl rfl rfl fun _ F46 => ?_)
     have F47 : Fr 36 [(1, .int .i64 (((kk + 1) + 2 * x2.d.cells.length : Nat) : Int)), (5, .int .i64 ((j : Nat) : Int)), (0, .slice a_a a_n a_c)] _ := F46.cut rfl
     clear F29 F30 F31 F35 F36 F37 F38 F41 F46
     have T48 : Mv _ _ [gr inSlot ((D.set j (⟨(⟨((kk : Nat) : Int), x1.d.cells, x1.d.whole⟩ : SlotD), x1.a0, x1.n0, x1.c0⟩ : SlotH)).set j (⟨(⟨x2.d.seq, marksC (kk + 1) x2.d.cells.length, x2.d.whole⟩ : SlotD), x2.a0, x2.n0, x2.c0⟩ : SlotH)), ow 99 3 encSlot okSlot (.slice a_a a_n a_c) ((D.set j (⟨(⟨((kk : Nat) : Int), x1.d.cells, x1.d.whole⟩ : SlotD), x1.a0, x1.n0, x1.c0⟩ : SlotH)).set j (⟨(⟨x2.d.seq, marksC (kk + 1) x2.d.cells.length, x2.d.whole⟩ : SlotD), x2.a0, x2.n0, x2.c0⟩ : SlotH))] _ := S43
     refine s_end (x_normal (wp_seq (wp_region_lit (l_op (f_mv F47 rfl rfl rfl rfl rfl fun _ F49 => ?_)))))
     refine l_op (f_mv F49 rfl rfl rfl rfl rfl fun _ F50 => ?_)
     refine l_op (f_mv F50 rfl rfl rfl rfl rfl fun _ F51 => ?_)
     have rm52 := Nat.mod_lt ((kk + 1) + 2 * x2.d.cells.length) (show 0 < 3 by decide)
     refine l_op (f_val F51 rfl rfl (r_remC (c := 3) rfl (by decide) rfl (F51.ev 28 rfl) rfl) rfl fun _ F53 => ?_)
     refine l_op (f_val F53 rfl rfl (r_cmp (b := decide (((kk + 1) + 2 * x2.d.cells.length) % 3 = 0)) (.inl rfl) rfl (F53.ev 29 rfl) rfl (dec_of (by omega))) rfl fun _ F54 => ?_)
     obtain ⟨B55, y55, ad55, hy55, oky55, cl55⟩ := At.ownAt T48.at' ET_29.hk 1 rfl j (by first | assumption | omega)
     obtain rfl := Option.some.inj (hx3.symm.trans hy55)
     clear hy55 oky55
     obtain ⟨ln57, le57, mx57, ni57⟩ := Rd.inv (show Rd 2 encC okC (fun _ => True) w39 (.slice x3.a0 x3.n0 x3.c0) x3.d.cells from NRd.get (At.nrd T48.at' 0 rfl) hx3 (j := 0) rfl)
     refine l_op (f_val F54 rfl rfl (r_indexAddr (i := j) ET_29 rfl ((F54.ev 26 rfl).trans (by rw [ad55])) (F54.ev 27 rfl) (by omega) (by first | assumption | omega)) rfl fun _ F58 => ?_)
     refine l_op (f_val F58 rfl rfl (r_field FI_99_2 rfl (F58.ev 31 rfl) rfl) rfl fun _ F59 => ?_)
     refine l_op (s_storeElF (off := 2) T48.at' 1 j x3 (⟨(⟨x3.d.seq, x3.d.cells, (decide (((kk + 1) + 2 * x2.d.cells.length) % 3 = 0))⟩ : SlotD), x3.a0, x3.n0, x3.c0⟩ : SlotH) ET_29.hk ET_29.h1 TI_4 rfl ad55 rfl rfl rfl rfl (F59.ev 32 rfl) (F59.ev 30 rfl) rfl (by first | assumption | omega) hx3 rfl (by decide) (okx3) fun w60 S60 => ?_)
     have S61 : Mv [ow 99 3 encSlot okSlot (.slice a_a a_n a_c) (((D.set j (⟨(⟨((kk : Nat) : Int), x1.d.cells, x1.d.whole⟩ : SlotD), x1.a0, x1.n0, x1.c0⟩ : SlotH)).set j (⟨(⟨x2.d.seq, marksC (kk + 1) x2.d.cells.length, x2.d.whole⟩ : SlotD), x2.a0, x2.n0, x2.c0⟩ : SlotH)).set j (⟨(⟨x3.d.seq, x3.d.cells, (decide (((kk + 1) + 2 * x2.d.cells.length) % 3 = 0))⟩ : SlotD), x3.a0, x3.n0, x3.c0⟩ : SlotH)), gr inSlot ((D.set j (⟨(⟨((kk : Nat) : Int), x1.d.cells, x1.d.whole⟩ : SlotD), x1.a0, x1.n0, x1.c0⟩ : SlotH)).set j (⟨(⟨x2.d.seq, marksC (kk + 1) x2.d.cells.length, x2.d.whole⟩ : SlotD), x2.a0, x2.n0, x2.c0⟩ : SlotH))] w60 [gr inSlot (((D.set j (⟨(⟨((kk : Nat) : Int), x1.d.cells, x1.d.whole⟩ : SlotD), x1.a0, x1.n0, x1.c0⟩ : SlotH)).set j (⟨(⟨x2.d.seq, marksC (kk + 1) x2.d.cells.length, x2.d.whole⟩ : SlotD), x2.a0, x2.n0, x2.c0⟩ : SlotH)).set j (⟨(⟨x3.d.seq, x3.d.cells, (decide (((kk + 1) + 2 * x2.d.cells.length) % 3 = 0))⟩ : SlotD), x3.a0, x3.n0, x3.c0⟩ : SlotH)), ow 99 3 encSlot okSlot (.slice a_a a_n a_c) (((D.set j (⟨(⟨((kk : Nat) : Int), x1.d.cells, x1.d.whole⟩ : SlotD), x1.a0, x1.n0, x1.c0⟩ : SlotH)).set j (⟨(⟨x2.d.seq, marksC (kk + 1) x2.d.cells.length, x2.d.whole⟩ : SlotD), x2.a0, x2.n0, x2.c0⟩ : SlotH)).set j (⟨(⟨x3.d.seq, x3.d.cells, (decide (((kk + 1) + 2 * x2.d.cells.length) % 3 = 0))⟩ : SlotD), x3.a0, x3.n0, x3.c0⟩ : SlotH))] w60 := gr_same S60.at' 1 rfl rfl (⟨(⟨x3.d.seq, x3.d.cells, (decide (((kk + 1) + 2 * x2.d.cells.length) % 3 = 0))⟩ : SlotD), x3.a0, x3.n0, x3.c0⟩ : SlotH) hx3 rfl
     obtain ⟨x4, hx4, ex4⟩ : ∃ zZ, nth (((D.set j (⟨(⟨((kk : Nat) : Int), x1.d.cells, x1.d.whole⟩ : SlotD), x1.a0, x1.n0, x1.c0⟩ : SlotH)).set j (⟨(⟨x2.d.seq, marksC (kk + 1) x2.d.cells.length, x2.d.whole⟩ : SlotD), x2.a0, x2.n0, x2.c0⟩ : SlotH)).set j (⟨(⟨x3.d.seq, x3.d.cells, (decide (((kk + 1) + 2 * x2.d.cells.length) % 3 = 0))⟩ : SlotD), x3.a0, x3.n0, x3.c0⟩ : SlotH)) j = some zZ ∧ zZ = (⟨(⟨x3.d.seq, x3.d.cells, (decide (((kk + 1) + 2 * x2.d.cells.length) % 3 = 0))⟩ : SlotD), x3.a0, x3.n0, x3.c0⟩ : SlotH) := ⟨_, nth_setSelf hx3, rfl⟩
     have okx4 : okSlot x4 := by rw [ex4]; exact okx3
     have gx4_1 : x4.d.cells.length = x3.d.cells.length := by rw [ex4]
     have oj62 := okx4
     unfold okSlot at oj62
     have F64 : Fr 36 [(32, .pointer (some ⟨B55, 0 + j * 3 + 2, none⟩)), (30, .bool (decide (((kk + 1) + 2 * x2.d.cells.length) % 3 = 0))), (1, .int .i64 (((kk + 1) + 2 * x2.d.cells.length : Nat) : Int)), (5, .int .i64 ((j : Nat) : Int)), (0, .slice a_a a_n a_c)] _ := F59.cut rfl
     clear F47 F49 F50 F51 F53 F54 F58 F59
     have T65 : Mv _ _ [gr inSlot (((D.set j (⟨(⟨((kk : Nat) : Int), x1.d.cells, x1.d.whole⟩ : SlotD), x1.a0, x1.n0, x1.c0⟩ : SlotH)).set j (⟨(⟨x2.d.seq, marksC (kk + 1) x2.d.cells.length, x2.d.whole⟩ : SlotD), x2.a0, x2.n0, x2.c0⟩ : SlotH)).set j (⟨(⟨x3.d.seq, x3.d.cells, (decide (((kk + 1) + 2 * x2.d.cells.length) % 3 = 0))⟩ : SlotD), x3.a0, x3.n0, x3.c0⟩ : SlotH)), ow 99 3 encSlot okSlot (.slice a_a a_n a_c) (((D.set j (⟨(⟨((kk : Nat) : Int), x1.d.cells, x1.d.whole⟩ : SlotD), x1.a0, x1.n0, x1.c0⟩ : SlotH)).set j (⟨(⟨x2.d.seq, marksC (kk + 1) x2.d.cells.length, x2.d.whole⟩ : SlotD), x2.a0, x2.n0, x2.c0⟩ : SlotH)).set j (⟨(⟨x3.d.seq, x3.d.cells, (decide (((kk + 1) + 2 * x2.d.cells.length) % 3 = 0))⟩ : SlotD), x3.a0, x3.n0, x3.c0⟩ : SlotH))] _ := S61
     refine s_end (x_normal (wp_region_lit (l_op (f_mv F64 rfl rfl rfl rfl rfl fun _ F66 => ?_))))
     refine l_op (f_val F66 rfl rfl (r_add (z := ((((kk + 1) + 2 * x2.d.cells.length) + 1 : Nat) : Int)) rfl (F66.ev 33 rfl) rfl (by first | rfl | omega) ⟨by first | omega | (unfold i64ok at *; omega), by first | omega | (unfold i64ok at *; omega)⟩) rfl fun _ F67 => ?_)
     refine l_op (f_as F67 rfl rfl rfl rfl rfl fun _ F68 => ?_)
     have F69 : Fr 36 [(1, .int .i64 ((((kk + 1) + 2 * x2.d.cells.length) + 1 : Nat) : Int)), (5, .int .i64 ((j : Nat) : Int)), (0, .slice a_a a_n a_c)] _ := F68.cut rfl
     clear F64 F66 F67 F68
     refine s_end (x_block_normal (x_normal (wp_region_lit (l_op (f_mv F69 rfl rfl rfl rfl rfl fun _ F70 => ?_)))))
     refine l_op (f_val F70 rfl rfl (r_add (z := ((j + 1 : Nat) : Int)) rfl (F70.ev 10 rfl) rfl (by first | rfl | omega) ⟨by first | omega | (unfold i64ok at *; omega), by first | omega | (unfold i64ok at *; omega)⟩) rfl fun _ F71 => ?_)
     refine l_op (f_as F71 rfl rfl rfl rfl rfl fun _ F72 => ?_)
     have F73 : Fr 36 [(5, .int .i64 ((j + 1 : Nat) : Int)), (1, .int .i64 ((((kk + 1) + 2 * x2.d.cells.length) + 1 : Nat) : Int)), (0, .slice a_a a_n a_c)] _ := F72.cut rfl
     clear F69 F70 F71 F72
     refine s_end ?_
     refine x_normal ⟨j + 1, by omega, ((kk + 1) + 2 * x2.d.cells.length) + 1, ((D.set j (⟨(⟨((kk : Nat) : Int), x1.d.cells, x1.d.whole⟩ : SlotD), x1.a0, x1.n0, x1.c0⟩ : SlotH)).set j (⟨(⟨x2.d.seq, marksC (kk + 1) x2.d.cells.length, x2.d.whole⟩ : SlotD), x2.a0, x2.n0, x2.c0⟩ : SlotH)).set j (⟨(⟨x3.d.seq, x3.d.cells, (decide (((kk + 1) + 2 * x2.d.cells.length) % 3 = 0))⟩ : SlotD), x3.a0, x3.n0, x3.c0⟩ : SlotH), F73.cut rfl, ((S5.trans (S20.trans (T25.trans (S40.trans (S39.trans (S42.trans (T48.trans (S60.trans T65)))))))).pick [1, 0] rfl), by omega, by rw [hst]; omega, by simp only [List.set_set]; rw [List.map_set, hj_2]; refine upL_step hx1m ?_; rw [← hj_1]; subst_vars; rfl⟩
   · skip
     refine wp_exit (x_then_exit (x_then_exit (x_block_here (x_normal (wp_seq (wp_region_lit (l_op (f_mv F10 rfl rfl rfl rfl rfl fun _ F74 => ?_))))))))
     refine l_op (f_as F74 rfl rfl rfl rfl rfl fun _ F75 => ?_)
     have F76 : Fr 36 [(4, .int .i64 ((kk : Nat) : Int))] _ := F75.cut rfl
     clear F10 F74 F75
     refine s_end (x_normal (wp_ret ?_))
     refine x_done (v := .int .i64 ((kk : Nat) : Int)) F76 (results_1 Try.results67 (.tmp (F76.ev 4 rfl))) ?_
     exact ⟨D, (by rw [(show ((kk : Nat) : Int) = ((k + sumOf cntSl L : Nat) : Int) from by rw [hj_1, List.take_of_length_le (by omega)])]), (Mv.pick S5 [0, 1] rfl), by rw [hj_2]; exact upL_end (by omega)⟩
theorem laws_heldSlotS_c {w : World} {H : Nat → Prop} {a : List SlotH} {a_a : Option Addr} {a_n a_c : Nat} {k : Nat} {d : List SlotD} (v_a : Rd 3 encSlot okSlot H w (.slice a_a a_n a_c) a) (u_a : NRd inSlot H w a) (h_k : i64ok (k : Int)) (p0 : a.map SlotH.d = mkL markSlE cntSl k d) (p1 : k ≤ 1048576) (p2 : sumOf cntSl d ≤ 1125899906842624) :
    Calls Try.prog 68 #[.slice a_a a_n a_c, .int .i64 ((k : Nat) : Int)] w fun e w' => e = .returned (.int .i64 ((k + sumOf cntSl d : Nat) : Int)) ∧ Mv [] w [] w' := by
 have uU : True := (fun _ _ _ => trivial) h_k p1 p2
 clear uU
 have V_v_a : Rd 3 encSlot okSlot (V H w []) w (.slice a_a a_n a_c) a := Rd.start v_a (fun _ _ => fps_nil _)
 obtain ⟨ln_a, le_a, mx_a, ni_a⟩ := Rd.inv v_a
 have V_u_a : NRd inSlot (V H w []) w a := NRd.start u_a (fun _ _ => fps_nil _)
 refine calls_enter 42 Try.func68 rfl Try.ntmps68 (Nat.le_of_ble_eq_true rfl) (fun _ F0i => ?_)
 have F0 : Fr 42 [(0, .slice a_a a_n a_c), (1, .int .i64 ((k : Nat) : Int))] _ := F0i
 clear F0i
 refine wp_seq ?_
 have hdl : a_n = d.length := by have := dM_len p0; rw [mkL_length] at this; rw [ln_a, this]
 refine wp_region_lit (l_op (f_val F0 rfl rfl (r_assign rfl rfl) rfl fun _ F1 => ?_))
 have F2 : Fr 42 [(4, .int .i64 0), (0, .slice a_a a_n a_c), (1, .int .i64 ((k : Nat) : Int))] _ := F1.cut rfl
 clear F0 F1
 refine s_end (x_normal (wp_seq (wp_seq (wp_region_lit (l_op (f_val F2 rfl rfl (r_assign rfl rfl) rfl fun _ F3 => ?_))))))
 have F4 : Fr 42 [(5, .int .i64 0), (0, .slice a_a a_n a_c), (1, .int .i64 ((k : Nat) : Int))] _ := F3.cut rfl
 clear F2 F3
 refine s_end (x_normal (wp_block ?_))
 refine x_loop (fun (j : Nat) aZ wZ => ∃ (kk : Nat), Fr 42 [(5, .int .i64 ((j : Nat) : Int)), (0, .slice a_a a_n a_c), (1, .int .i64 ((kk : Nat) : Int))] aZ ∧ Mv [] w [] wZ ∧ (j ≤ a_n) ∧ (kk = k + sumOf cntSl (d.take j))) (fun (j : Nat) => a_n - j) (0) ?_ ?_
 · exact ⟨k, F4.cut rfl, (Mv.refl (At.nil w)), by omega, rfl⟩
 · rintro j a5 w5 ⟨kk, F5, S5, hj_0, hj_1⟩
   refine wp_seq (wp_seq (wp_region_lit (l_op (f_mv F5 rfl rfl rfl rfl rfl fun _ F6 => ?_))))
   refine l_op (f_mv F6 rfl rfl rfl rfl rfl fun _ F7 => ?_)
   refine l_op (f_val F7 rfl rfl (r_len Try.underlying29 rfl (F7.ev 7 rfl)) rfl fun _ F8 => ?_)
   refine l_op (f_val F8 rfl rfl (r_cmp (b := decide (j < a_n)) (.inr (.inr (.inl rfl))) rfl (F8.ev 6 rfl) (F8.ev 8 rfl) (dec_of (by omega))) rfl fun _ F9 => ?_)
   have F10 : Fr 42 [(9, .bool (decide (j < a_n))), (5, .int .i64 ((j : Nat) : Int)), (0, .slice a_a a_n a_c), (1, .int .i64 ((kk : Nat) : Int))] _ := F9.cut rfl
   clear F5 F6 F7 F8 F9
   refine s_end (x_normal (x_cond (p := j < a_n) (F10.ev 9 rfl) (fun h11 => ?_) (fun h11 => ?_)))
   · skip
     refine wp_skip (x_normal (wp_seq (wp_block (wp_seq (wp_seq ?_)))))
     obtain ⟨yy, hyy⟩ := nth_some (l := d) (k := j) (by rw [← hdl]; omega)
     have hsu := (sumOf_upto (f := cntSl) hyy).2
     rw [cntSl_eq] at hsu
     refine wp_region_lit (l_op (f_mv F10 rfl rfl rfl rfl rfl fun _ F12 => ?_))
     refine l_op (f_mv F12 rfl rfl rfl rfl rfl fun _ F13 => ?_)
     obtain ⟨B14, O14, x1, ad14, hx1, okx1, ln14, cl14⟩ := Rd.at (Rd.mv (Nat.succ_pos _) V_v_a S5) j (by first | assumption | omega)
     clear ln14
     have oj15 := okx1
     unfold okSlot at oj15
     have VI16 : Rd 2 encC okC (V H w []) w5 (.slice x1.a0 x1.n0 x1.c0) x1.d.cells := NRd.get (NRd.mv V_u_a S5) hx1 (j := 0) rfl
     obtain ⟨ln16, le16, mx16, ni16⟩ := Rd.inv VI16
     refine l_op (f_val F13 rfl rfl (r_indexAddr (i := j) ET_29 rfl ((F13.ev 12 rfl).trans (by rw [ad14])) (F13.ev 13 rfl) (by omega) (by first | assumption | omega)) rfl fun _ F17 => ?_)
     refine l_op (f_val F17 rfl rfl (r_field FI_99_0 rfl (F17.ev 14 rfl) rfl) rfl fun _ F18 => ?_)
     refine l_op (f_val (v := .int .i64 x1.d.seq) F18 rfl rfl (r_load (cs := [.int .i64 x1.d.seq]) TI_3 rfl (F18.ev 15 rfl) rfl (fun _ => rfl) (elem_sub (f := 0) cl14 [.int .i64 x1.d.seq] rfl)) rfl fun _ F19 => ?_)
     refine l_op (f_mv F19 rfl rfl rfl rfl rfl fun _ F20 => ?_)
     refine l_op (f_val F20 rfl rfl (r_cmp (b := decide (x1.d.seq ≠ ((kk : Nat) : Int))) (.inr (.inl rfl)) rfl (F20.ev 16 rfl) (F20.ev 17 rfl) (dec_of (by omega))) rfl fun _ F21 => ?_)
     rw [show (decide (x1.d.seq ≠ ((kk : Nat) : Int))) = false from decide_eq_false (fun h => h (by rw [(mkL_at (dM_at p0 hx1) hyy), hj_1]; rfl))] at F21
     have F22 : Fr 42 [(18, .bool false), (5, .int .i64 ((j : Nat) : Int)), (0, .slice a_a a_n a_c), (1, .int .i64 ((kk : Nat) : Int))] _ := F21.cut rfl
     clear F10 F12 F13 F17 F18 F19 F20 F21
     refine s_end (x_normal (wp_cond_false (F22.ev 18 rfl) (wp_skip (x_normal (wp_seq (wp_region_lit (l_op (f_mv F22 rfl rfl rfl rfl rfl fun _ F23 => ?_))))))))
     refine l_op (f_val F23 rfl rfl (r_add (z := ((kk + 1 : Nat) : Int)) rfl (F23.ev 19 rfl) rfl (by first | rfl | omega) ⟨by first | omega | (unfold i64ok at *; omega), by first | omega | (unfold i64ok at *; omega)⟩) rfl fun _ F24 => ?_)
     refine l_op (f_as F24 rfl rfl rfl rfl rfl fun _ F25 => ?_)
     have F26 : Fr 42 [(1, .int .i64 ((kk + 1 : Nat) : Int)), (5, .int .i64 ((j : Nat) : Int)), (0, .slice a_a a_n a_c)] _ := F25.cut rfl
     clear F22 F23 F24 F25
     refine s_end (x_normal (wp_seq (wp_region_lit (l_op (f_mv F26 rfl rfl rfl rfl rfl fun _ F27 => ?_)))))
     refine l_op (f_mv F27 rfl rfl rfl rfl rfl fun _ F28 => ?_)
     obtain ⟨B29, O29, y29, ad29, hy29, oky29, ln29, cl29⟩ := Rd.at (Rd.mv (Nat.succ_pos _) V_v_a S5) j (by first | assumption | omega)
     clear ln29
     obtain rfl := Option.some.inj (hx1.symm.trans hy29)
     clear hy29 oky29
     refine l_op (f_val F28 rfl rfl (r_indexAddr (i := j) ET_29 rfl ((F28.ev 21 rfl).trans (by rw [ad29])) (F28.ev 22 rfl) (by omega) (by first | assumption | omega)) rfl fun _ F31 => ?_)
     refine l_op (f_val F31 rfl rfl (r_field FI_99_1 rfl (F31.ev 23 rfl) rfl) rfl fun _ F32 => ?_)
     refine l_op (f_val (v := .slice x1.a0 x1.n0 x1.c0) F32 rfl rfl (r_load (cs := [.slice x1.a0 x1.n0 x1.c0]) TI_74 rfl (F32.ev 24 rfl) rfl (fun _ => rfl) (elem_sub (f := 1) cl29 [.slice x1.a0 x1.n0 x1.c0] rfl)) rfl fun _ F33 => ?_)
     refine l_op (f_mv F33 rfl rfl rfl rfl rfl fun _ F34 => ?_)
     refine l_op (f_call F34 CF_125 rfl rfl rfl rfl (lc (F34.ev 25 rfl) (lc (F34.ev 26 rfl) rfl)) (laws_heldCellS_c (n := yy.cells.length) (a := x1.d.cells) (k := kk + 1) VI16 ⟨by omega, by first | omega | (unfold i64ok at *; omega)⟩ (by rw [(mkL_at (dM_at p0 hx1) hyy), hj_1]; rfl) (by first | assumption | omega | (simp <;> omega))) ?_)
     rintro _ w35 ⟨rfl, m35⟩
     refine ⟨_, rfl, fun _ F36 => ?_⟩
     have S35 := At.frame0 S5.at' m35
     clear m35
     refine l_op (f_as F36 rfl rfl rfl rfl rfl fun _ F37 => ?_)
     have F38 : Fr 42 [(1, .int .i64 (((kk + 1) + 2 * yy.cells.length : Nat) : Int)), (5, .int .i64 ((j : Nat) : Int)), (0, .slice a_a a_n a_c)] _ := F37.cut rfl
     clear F26 F27 F28 F31 F32 F33 F34 F36 F37
     have T39 : Mv _ _ [] _ := S35
     refine s_end (x_normal (wp_seq (wp_seq (wp_region_lit (l_op (f_mv F38 rfl rfl rfl rfl rfl fun _ F40 => ?_))))))
     refine l_op (f_val F40 rfl rfl (r_cmp (b := false) (.inr (.inr (.inl rfl))) rfl (F40.ev 28 rfl) rfl (cmp_lt0 _ _ (by omega))) rfl fun _ F41 => ?_)
     have F42 : Fr 42 [(29, .bool false), (1, .int .i64 (((kk + 1) + 2 * yy.cells.length : Nat) : Int)), (5, .int .i64 ((j : Nat) : Int)), (0, .slice a_a a_n a_c)] _ := F41.cut rfl
     clear F38 F40 F41
     refine s_end (x_normal (wp_cond_false (F42.ev 29 rfl) (wp_skip (x_normal (wp_seq (wp_seq (wp_region_lit (l_op (f_mv F42 rfl rfl rfl rfl rfl fun _ F43 => ?_)))))))))
     refine l_op (f_mv F43 rfl rfl rfl rfl rfl fun _ F44 => ?_)
     obtain ⟨B45, O45, y45, ad45, hy45, oky45, ln45, cl45⟩ := Rd.at (Rd.mv (Nat.succ_pos _) V_v_a (S5.trans T39)) j (by first | assumption | omega)
     clear ln45
     obtain rfl := Option.some.inj (hx1.symm.trans hy45)
     clear hy45 oky45
     refine l_op (f_val F44 rfl rfl (r_indexAddr (i := j) ET_29 rfl ((F44.ev 30 rfl).trans (by rw [ad45])) (F44.ev 31 rfl) (by omega) (by first | assumption | omega)) rfl fun _ F47 => ?_)
     refine l_op (f_val F47 rfl rfl (r_field FI_99_2 rfl (F47.ev 32 rfl) rfl) rfl fun _ F48 => ?_)
     refine l_op (f_val (v := .bool x1.d.whole) F48 rfl rfl (r_load (cs := [.bool x1.d.whole]) TI_4 rfl (F48.ev 33 rfl) rfl (fun _ => rfl) (elem_sub (f := 2) cl45 [.bool x1.d.whole] rfl)) rfl fun _ F49 => ?_)
     refine l_op (f_mv F49 rfl rfl rfl rfl rfl fun _ F50 => ?_)
     have rm51 := Nat.mod_lt ((kk + 1) + 2 * yy.cells.length) (show 0 < 3 by decide)
     refine l_op (f_val F50 rfl rfl (r_remC (c := 3) rfl (by decide) rfl (F50.ev 35 rfl) rfl) rfl fun _ F52 => ?_)
     refine l_op (f_val F52 rfl rfl (r_cmp (b := decide (((kk + 1) + 2 * yy.cells.length) % 3 = 0)) (.inl rfl) rfl (F52.ev 36 rfl) rfl (dec_of (by omega))) rfl fun _ F53 => ?_)
     refine l_op (f_val F53 rfl rfl (r_cmpb (b := false) Try.underlying4 (.inr rfl) rfl (F53.ev 34 rfl) (F53.ev 37 rfl) (cmpb_ne (show x1.d.whole = (decide (((kk + 1) + 2 * yy.cells.length) % 3 = 0)) from by rw [(mkL_at (dM_at p0 hx1) hyy), hj_1]; rfl))) rfl fun _ F54 => ?_)
     have F55 : Fr 42 [(38, .bool false), (1, .int .i64 (((kk + 1) + 2 * yy.cells.length : Nat) : Int)), (5, .int .i64 ((j : Nat) : Int)), (0, .slice a_a a_n a_c)] _ := F54.cut rfl
     clear F42 F43 F44 F47 F48 F49 F50 F52 F53 F54
     refine s_end (x_normal (wp_cond_false (F55.ev 38 rfl) (wp_skip (x_normal (wp_region_lit (l_op (f_mv F55 rfl rfl rfl rfl rfl fun _ F56 => ?_)))))))
     refine l_op (f_val F56 rfl rfl (r_add (z := ((((kk + 1) + 2 * yy.cells.length) + 1 : Nat) : Int)) rfl (F56.ev 39 rfl) rfl (by first | rfl | omega) ⟨by first | omega | (unfold i64ok at *; omega), by first | omega | (unfold i64ok at *; omega)⟩) rfl fun _ F57 => ?_)
     refine l_op (f_as F57 rfl rfl rfl rfl rfl fun _ F58 => ?_)
     have F59 : Fr 42 [(1, .int .i64 ((((kk + 1) + 2 * yy.cells.length) + 1 : Nat) : Int)), (5, .int .i64 ((j : Nat) : Int)), (0, .slice a_a a_n a_c)] _ := F58.cut rfl
     clear F55 F56 F57 F58
     refine s_end (x_block_normal (x_normal (wp_region_lit (l_op (f_mv F59 rfl rfl rfl rfl rfl fun _ F60 => ?_)))))
     refine l_op (f_val F60 rfl rfl (r_add (z := ((j + 1 : Nat) : Int)) rfl (F60.ev 10 rfl) rfl (by first | rfl | omega) ⟨by first | omega | (unfold i64ok at *; omega), by first | omega | (unfold i64ok at *; omega)⟩) rfl fun _ F61 => ?_)
     refine l_op (f_as F61 rfl rfl rfl rfl rfl fun _ F62 => ?_)
     have F63 : Fr 42 [(5, .int .i64 ((j + 1 : Nat) : Int)), (1, .int .i64 ((((kk + 1) + 2 * yy.cells.length) + 1 : Nat) : Int)), (0, .slice a_a a_n a_c)] _ := F62.cut rfl
     clear F59 F60 F61 F62
     refine s_end ?_
     refine x_normal ⟨j + 1, by omega, ((kk + 1) + 2 * yy.cells.length) + 1, F63.cut rfl, ((S5.trans T39).pick [] rfl), by omega, by have hst := (sumOf_upto (f := cntSl) hyy).1; rw [cntSl_eq] at hst; omega⟩
   · skip
     refine wp_exit (x_then_exit (x_then_exit (x_block_here (x_normal (wp_seq (wp_region_lit (l_op (f_mv F10 rfl rfl rfl rfl rfl fun _ F64 => ?_))))))))
     refine l_op (f_as F64 rfl rfl rfl rfl rfl fun _ F65 => ?_)
     have F66 : Fr 42 [(4, .int .i64 ((kk : Nat) : Int))] _ := F65.cut rfl
     clear F10 F64 F65
     refine s_end (x_normal (wp_ret ?_))
     refine x_done (v := .int .i64 ((kk : Nat) : Int)) F66 (results_1 Try.results68 (.tmp (F66.ev 4 rfl))) ?_
     exact ⟨(by rw [(show ((kk : Nat) : Int) = ((k + sumOf cntSl d : Nat) : Int) from by rw [List.take_of_length_le (by omega)] at hj_1; omega)]), (Mv.pick S5 [] rfl)⟩
theorem laws_markDisk_c {w : World} {H : Nat → Prop} {a : DiskH} {a_slots_a : Option Addr} {a_slots_n a_slots_c : Nat} {k : Nat} {L : List SlotD} (h_a_journal_text : okS a.journal.text) (h_a_journal_sure : i64ok a.journal.sure) (h_k : i64ok (k : Int)) (p0 : a.slots.map SlotH.d = L) (p1 : k ≤ 1048576) (p2 : sumOf cntSl L ≤ 1125899906842624) (hA : At w [ow 99 3 encSlot okSlot (.slice a_slots_a a_slots_n a_slots_c) a.slots, gr inSlot a.slots]) :
    Calls Try.prog 25 #[.agg #[.slice a_slots_a a_slots_n a_slots_c, .string a.journal.text, .int .i64 a.journal.sure], .int .i64 ((k : Nat) : Int)] w fun e w' => ∃ (D : List SlotH), e = .returned (.int .i64 ((k + sumOf cntSl L : Nat) : Int)) ∧ Mv [ow 99 3 encSlot okSlot (.slice a_slots_a a_slots_n a_slots_c) a.slots, gr inSlot a.slots] w [ow 99 3 encSlot okSlot (.slice a_slots_a a_slots_n a_slots_c) D, gr inSlot D] w' ∧ D.map SlotH.d = mkL markSlE cntSl k L := by
 have uU : True := (fun _ _ _ _ _ _ _ => trivial) H h_a_journal_text h_a_journal_sure h_k p0 p1 p2
 clear uU
 obtain ⟨lo0, lp0, lq0⟩ := At.ownInv hA ET_29.hk 0 rfl
 refine calls_enter 10 Try.func25 rfl Try.ntmps25 (Nat.le_of_ble_eq_true rfl) (fun _ F0i => ?_)
 have F0 : Fr 10 [(0, .agg #[.slice a_slots_a a_slots_n a_slots_c, .string a.journal.text, .int .i64 a.journal.sure]), (1, .int .i64 ((k : Nat) : Int))] _ := F0i
 clear F0i
 refine wp_seq (wp_region_lit (l_op (f_box F0 hA rfl rfl rfl (F0.ev 0 rfl) rfl rfl fun b1 _ w1 F2 S1 => ?_)))
 refine l_op (f_val F2 rfl rfl (r_assign rfl rfl) rfl fun _ F3 => ?_)
 have F4 : Fr 10 [(4, .int .i64 0), (2, .pointer (some ⟨b1, 0, none⟩)), (1, .int .i64 ((k : Nat) : Int))] _ := F3.cut rfl
 clear F0 F2 F3
 have T5 : Mv _ _ [bx b1 [.slice a_slots_a a_slots_n a_slots_c, .string a.journal.text, .int .i64 a.journal.sure] 32, ow 99 3 encSlot okSlot (.slice a_slots_a a_slots_n a_slots_c) a.slots, gr inSlot a.slots] _ := S1
 refine s_end (x_normal (wp_seq (wp_region_lit (l_op (f_val F4 rfl rfl (r_field FI_32_0 rfl (F4.ev 2 rfl) rfl) rfl fun _ F6 => ?_)))))
 refine l_op (f_val (v := .slice a_slots_a a_slots_n a_slots_c) F6 rfl rfl (r_loadB T5.at' 0 TI_29 rfl rfl (F6.ev 5 rfl) rfl rfl (fun _ => rfl) rfl) rfl fun _ F7 => ?_)
 refine l_op (f_mv F7 rfl rfl rfl rfl rfl fun _ F8 => ?_)
 refine l_op (f_call F8 CF_67 rfl rfl rfl rfl (lc (F8.ev 6 rfl) (lc (F8.ev 7 rfl) rfl)) (laws_markSlotS_c (H := fun _ => True) (L := L) (a := a.slots) (k := k) ⟨by omega, by first | omega | (unfold i64ok at *; omega)⟩ (by first | assumption | omega | (simp <;> omega)) (by first | assumption | omega | (simp <;> omega)) (by first | assumption | omega | (simp <;> omega)) (At.pick (is := [1, 2]) T5.at' rfl)) ?_)
 rintro _ w9 ⟨D_9, rfl, m9, q9_0⟩
 refine ⟨_, rfl, fun _ F10 => ?_⟩
 have S9 : Mv _ _ [ow 99 3 encSlot okSlot (.slice a_slots_a a_slots_n a_slots_c) D_9, gr inSlot D_9, bx b1 [.slice a_slots_a a_slots_n a_slots_c, .string a.journal.text, .int .i64 a.journal.sure] 32] _ := At.frame T5.at' [1, 2] rfl m9
 obtain ⟨lo9_0, lp9_0, lq9_0⟩ := At.ownInv S9.at' ET_29.hk 0 rfl
 clear m9
 refine l_op (f_as F10 rfl rfl rfl rfl rfl fun _ F11 => ?_)
 have F12 : Fr 10 [(1, .int .i64 ((k + sumOf cntSl L : Nat) : Int))] _ := F11.cut rfl
 clear F4 F6 F7 F8 F10 F11
 refine s_end (x_normal (wp_seq (wp_region_lit (l_op (f_mv F12 rfl rfl rfl rfl rfl fun _ F13 => ?_)))))
 refine l_op (f_as F13 rfl rfl rfl rfl rfl fun _ F14 => ?_)
 have F15 : Fr 10 [(4, .int .i64 ((k + sumOf cntSl L : Nat) : Int))] _ := F14.cut rfl
 clear F12 F13 F14
 refine s_end (x_normal (wp_ret ?_))
 refine x_done (v := .int .i64 ((k + sumOf cntSl L : Nat) : Int)) F15 (results_1 Try.results25 (.tmp (F15.ev 4 rfl))) ?_
 exact ⟨D_9, rfl, (Mv.pick (T5.trans S9) [0, 1] rfl), by first | assumption | exact w64_ok _ | omega | (unfold i64ok; omega)⟩
theorem laws_heldDisk_c {w : World} {H : Nat → Prop} {a : DiskH} {a_slots_a : Option Addr} {a_slots_n a_slots_c : Nat} {k : Nat} {d : List SlotD} (v_a_slots : Rd 3 encSlot okSlot H w (.slice a_slots_a a_slots_n a_slots_c) a.slots) (u_a_slots : NRd inSlot H w a.slots) (h_a_journal_text : okS a.journal.text) (h_a_journal_sure : i64ok a.journal.sure) (h_k : i64ok (k : Int)) (p0 : a.slots.map SlotH.d = mkL markSlE cntSl k d) (p1 : k ≤ 1048576) (p2 : sumOf cntSl d ≤ 1125899906842624) :
    Calls Try.prog 26 #[.agg #[.slice a_slots_a a_slots_n a_slots_c, .string a.journal.text, .int .i64 a.journal.sure], .int .i64 ((k : Nat) : Int)] w fun e w' => e = .returned (.int .i64 ((k + sumOf cntSl d : Nat) : Int)) ∧ Mv [] w [] w' := by
 have uU : True := (fun _ _ _ _ _ _ => trivial) h_a_journal_text h_a_journal_sure h_k p0 p1 p2
 clear uU
 have V_v_a_slots : Rd 3 encSlot okSlot (V H w []) w (.slice a_slots_a a_slots_n a_slots_c) a.slots := Rd.start v_a_slots (fun _ _ => fps_nil _)
 obtain ⟨ln_a_slots, le_a_slots, mx_a_slots, ni_a_slots⟩ := Rd.inv v_a_slots
 have V_u_a_slots : NRd inSlot (V H w []) w a.slots := NRd.start u_a_slots (fun _ _ => fps_nil _)
 refine calls_enter 12 Try.func26 rfl Try.ntmps26 (Nat.le_of_ble_eq_true rfl) (fun _ F0i => ?_)
 have F0 : Fr 12 [(0, .agg #[.slice a_slots_a a_slots_n a_slots_c, .string a.journal.text, .int .i64 a.journal.sure]), (1, .int .i64 ((k : Nat) : Int))] _ := F0i
 clear F0i
 refine wp_seq (wp_region_lit (l_op (f_box F0 (At.nil w) rfl rfl rfl (F0.ev 0 rfl) rfl rfl fun b1 _ w1 F2 S1 => ?_)))
 refine l_op (f_val F2 rfl rfl (r_assign rfl rfl) rfl fun _ F3 => ?_)
 have F4 : Fr 12 [(4, .int .i64 0), (2, .pointer (some ⟨b1, 0, none⟩)), (1, .int .i64 ((k : Nat) : Int))] _ := F3.cut rfl
 clear F0 F2 F3
 have T5 : Mv _ _ [bx b1 [.slice a_slots_a a_slots_n a_slots_c, .string a.journal.text, .int .i64 a.journal.sure] 32] _ := S1
 refine s_end (x_normal (wp_seq (wp_region_lit (l_op (f_val F4 rfl rfl (r_field FI_32_0 rfl (F4.ev 2 rfl) rfl) rfl fun _ F6 => ?_)))))
 refine l_op (f_val (v := .slice a_slots_a a_slots_n a_slots_c) F6 rfl rfl (r_loadB T5.at' 0 TI_29 rfl rfl (F6.ev 5 rfl) rfl rfl (fun _ => rfl) rfl) rfl fun _ F7 => ?_)
 refine l_op (f_mv F7 rfl rfl rfl rfl rfl fun _ F8 => ?_)
 refine l_op (f_call F8 CF_68 rfl rfl rfl rfl (lc (F8.ev 6 rfl) (lc (F8.ev 7 rfl) rfl)) (laws_heldSlotS_c (d := d) (a := a.slots) (k := k) (Rd.mv (Nat.succ_pos _) V_v_a_slots T5) (NRd.mv V_u_a_slots T5) ⟨by omega, by first | omega | (unfold i64ok at *; omega)⟩ (by first | assumption | omega | (simp <;> omega)) (by first | assumption | omega | (simp <;> omega)) (by first | assumption | omega | (simp <;> omega))) ?_)
 rintro _ w9 ⟨rfl, m9⟩
 refine ⟨_, rfl, fun _ F10 => ?_⟩
 have S9 := At.frame0 T5.at' m9
 clear m9
 refine l_op (f_as F10 rfl rfl rfl rfl rfl fun _ F11 => ?_)
 have F12 : Fr 12 [(1, .int .i64 ((k + sumOf cntSl d : Nat) : Int))] _ := F11.cut rfl
 clear F4 F6 F7 F8 F10 F11
 have T13 : Mv _ _ [bx b1 [.slice a_slots_a a_slots_n a_slots_c, .string a.journal.text, .int .i64 a.journal.sure] 32] _ := S9
 refine s_end (x_normal (wp_seq (wp_seq (wp_region_lit (l_op (f_mv F12 rfl rfl rfl rfl rfl fun _ F14 => ?_))))))
 refine l_op (f_val F14 rfl rfl (r_cmp (b := false) (.inr (.inr (.inl rfl))) rfl (F14.ev 9 rfl) rfl (cmp_lt0 _ _ (by omega))) rfl fun _ F15 => ?_)
 have F16 : Fr 12 [(10, .bool false), (1, .int .i64 ((k + sumOf cntSl d : Nat) : Int))] _ := F15.cut rfl
 clear F12 F14 F15
 refine s_end (x_normal (wp_cond_false (F16.ev 10 rfl) (wp_skip (x_normal (wp_seq (wp_region_lit (l_op (f_mv F16 rfl rfl rfl rfl rfl fun _ F17 => ?_))))))))
 refine l_op (f_as F17 rfl rfl rfl rfl rfl fun _ F18 => ?_)
 have F19 : Fr 12 [(4, .int .i64 ((k + sumOf cntSl d : Nat) : Int))] _ := F18.cut rfl
 clear F16 F17 F18
 refine s_end (x_normal (wp_ret ?_))
 refine x_done (v := .int .i64 ((k + sumOf cntSl d : Nat) : Int)) F19 (results_1 Try.results26 (.tmp (F19.ev 4 rfl))) ?_
 exact ⟨rfl, (Mv.pick (T5.trans T13) [] rfl)⟩
end Go.Proofs.Ytgfilegkabbliaa
