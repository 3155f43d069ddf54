/-
  Texts laid together: DatDr, DatSl, GenNsg, Law, Law3, LawNd, DatFo, Eng11.
-/
import Derived.Test.YtipdbeklopjbmaaGreatDoorP06
import Derived.Test.YtipdbeklopjbmaaGreatDoorGenNsa
import Derived.Test.YtipdbeklopjbmaaGreatDoorP05
import Derived.Stop.LaidErr
import Derived.LaidMore
import Derived.LaidHandle
import Derived.MakeChecks
import Derived.OpenShut
import Derived.Test.YtipdbeklopjbmaaGreatDoorTie
import Derived.Test.YtipdbeklopjbmaaGreatDoorCards
import Derived.Lay
import Derived.Test.YtipdbeklopjbmaaGreatDoorP03
import Derived.ArgAppend
import Derived.Lib.ConvBytes
/-
  Lists of transactions that are marked, that are dropped: their data.
-/

namespace Go.Proofs.YtipdbeklopjbmaaGreatDoor
open Go.ChangeShapes Go.WideShapes Go.ChangeAt Go.RowKit
set_option maxRecDepth 100000
set_option maxHeartbeats 1000000

def mkL {α : Type} (f : Nat → α → α) (c : α → Nat) : Nat → List α → List α
  | _, [] => []
  | k, x :: l => f k x :: mkL f c (k + c x) l
theorem mkL_length {α : Type} {f : Nat → α → α} {c : α → Nat} (k : Nat) (l : List α) : (mkL f c k l).length = l.length := by
  induction l generalizing k with
  | nil => rfl
  | cons x l ih => exact congrArg Nat.succ (ih _)
theorem sumOf_cons {α : Type} {c : α → Nat} (x : α) (l : List α) : sumOf c (x :: l) = c x + sumOf c l := by
  unfold sumOf
  rw [List.map_cons, List.sum_cons]
theorem mkL_snoc {α : Type} {f : Nat → α → α} {c : α → Nat} (k : Nat) (l : List α) (x : α) : mkL f c k (l ++ [x]) = mkL f c k l ++ [f (k + sumOf c l) x] := by
  induction l generalizing k with
  | nil => rfl
  | cons y l ih =>
    show f k y :: mkL f c (k + c y) (l ++ [x]) = f k y :: (mkL f c (k + c y) l ++ [f (k + sumOf c (y :: l)) x])
    rw [ih, sumOf_cons, ← Nat.add_assoc]
def upL {α : Type} (f : Nat → α → α) (c : α → Nat) (k j : Nat) (l : List α) : List α := mkL f c k (l.take j) ++ l.drop j
theorem upL_end {α : Type} {f : Nat → α → α} {c : α → Nat} {k j : Nat} {l : List α} (h : l.length ≤ j) : upL f c k j l = mkL f c k l := by
  unfold upL
  rw [List.drop_of_length_le h, List.take_of_length_le h, List.append_nil]
theorem upL_step {α : Type} {f : Nat → α → α} {c : α → Nat} {k j : Nat} {l : List α} {x y : α} (hx : nth l j = some x) (hy : y = f (k + sumOf c (l.take j)) x) : (upL f c k j l).set j y = upL f c k (j + 1) l := by
  subst hy
  rw [nth_eq] at hx
  obtain ⟨hj, rfl⟩ := List.getElem?_eq_some_iff.1 hx
  unfold upL
  rw [List.set_append, if_neg (by rw [mkL_length, List.length_take]; omega), mkL_length, List.length_take, Nat.min_eq_left (by omega), Nat.sub_self, List.take_succ_eq_append_getElem hj, mkL_snoc, List.append_assoc, List.drop_eq_getElem_cons hj, List.set_cons_zero]
  rfl
theorem nth_upL {α : Type} {f : Nat → α → α} {c : α → Nat} {k j : Nat} {l : List α} : nth (upL f c k j l) j = nth l j := by
  rw [nth_eq, nth_eq]
  unfold upL
  rcases Nat.lt_or_ge j l.length with h | h
  · rw [List.getElem?_append_right (by rw [mkL_length, List.length_take]; omega), mkL_length, List.length_take, Nat.min_eq_left (by omega), Nat.sub_self, List.getElem?_drop, Nat.add_zero]
  · rw [List.getElem?_eq_none (by rw [List.length_append, mkL_length, List.length_take, List.length_drop]; omega), List.getElem?_eq_none h]
theorem sumOf_bound {α : Type} {f : α → Nat} {l : List α} {n : Nat} (h : ∀ x ∈ l, f x ≤ n) : sumOf f l ≤ l.length * n := by
  induction l with
  | nil => exact Nat.zero_le _
  | cons x l ih =>
    rw [sumOf_cons, List.length_cons, Nat.succ_mul]
    have h1 := h x (List.mem_cons_self ..)
    have h2 := ih fun y hy => h y (List.mem_cons_of_mem _ hy)
    omega
theorem sumOf_upto {α : Type} {f : α → Nat} {l : List α} {j : Nat} {x : α} (hx : nth l j = some x) : sumOf f (l.take (j + 1)) = sumOf f (l.take j) + f x ∧ sumOf f (l.take j) + f x ≤ sumOf f l := by
  have h1 := sz_step (f := f) hx
  have h2 := sz_le f l (j + 1)
  exact ⟨h1, by omega⟩
def cntTx (x : TxD) : Nat := 5 + cntX x
theorem cntTx_eq (x : TxD) : cntTx x = 5 + 6 * x.calls.length + 3 * x.answers.length + x.touch.reads.length + x.touch.writes.length + x.marks.length := by
  unfold cntTx cntX cntT; omega
theorem txsFit.cnt {l : List TxD} (h : txsFit 1048576 l) : sumOf cntTx l ≤ 1125899906842624 := by
  have h1 := sumOf_bound (f := cntTx) (l := l) (n := 16777216) fun x hx => by
    have := h.2 x hx
    unfold txFits at this
    rw [cntTx_eq]; omega
  have h2 := Nat.mul_le_mul_right 16777216 h.1
  omega
theorem dM_at {α β : Type} {f : α → β} {D : List α} {L : List β} {j : Nat} {x : α} (h : D.map f = L) (hx : nth D j = some x) : nth L j = some (f x) := by rw [← h]; exact map_at hx
theorem dM_len {α β : Type} {f : α → β} {D : List α} {L : List β} (h : D.map f = L) : D.length = L.length := by rw [← h, List.length_map]
theorem all_none' {α : Type} {l : List α} {p : α → Prop} : ∀ j, j < 0 → ∀ c, nth l j = some c → p c := fun _ h => absurd h (Nat.not_lt_zero _)
theorem all_stepP {α : Type} {l : List α} {p : α → Prop} {k : Nat} (h : ∀ j, j < k → ∀ c, nth l j = some c → p c) (hk : ∀ c, nth l k = some c → p c) : ∀ j, j < k + 1 → ∀ c, nth l j = some c → p c := fun j hj c hc => by
  rcases Nat.lt_or_ge j k with h1 | h1
  · exact h j h1 c hc
  · obtain rfl : j = k := by omega
    exact hk c hc
end Go.Proofs.YtipdbeklopjbmaaGreatDoor
/-
  Disks in new memory: their data.
-/

namespace Go.Proofs.YtipdbeklopjbmaaGreatDoor
open Go.ChangeShapes Go.WideShapes Go.ChangeAt Go.RowKit
set_option maxRecDepth 100000
set_option maxHeartbeats 1000000

section
variable {P : Program} {ρ : Operand → Value} {w : World} {o : Oper} {x y : Operand} {t u : TypeId}
theorem r_remC {m c : Nat} {n : Int} (hn : n = (c : Int)) (hc : 0 < c) (ho : o.op = .binOp .rem t x y u) (hx : ρ x = .int .i64 ((m : Nat) : Int)) (hy : ρ y = .int .i64 n) : (execOp ρ o).run P w = .ok (.value (.int .i64 ((m % c : Nat) : Int))) w := by
  subst hn
  have := r_remN (P := P) (w := w) (n := (c : Int)) (by omega) ho hx hy
  simpa using this
end
def cntSl (x : SlotD) : Nat := 2 + 2 * x.cells.length
def markSlE (k : Nat) (x : SlotD) : SlotD := ⟨((k : Nat) : Int), marksC (k + 1) x.cells.length, decide ((k + 1 + 2 * x.cells.length) % 3 = 0)⟩
theorem cntSl_eq (x : SlotD) : cntSl x = 2 + 2 * x.cells.length := rfl
theorem slotsFit.cnt {l : List SlotD} (h : slotsFit 1048576 l) : sumOf cntSl l ≤ 1125899906842624 := by
  have h1 := sumOf_bound (f := cntSl) (l := l) (n := 4194304) fun x hx => by
    have := h.2 x hx
    unfold cntSl; omega
  have h2 := Nat.mul_le_mul_right 4194304 h.1
  omega
end Go.Proofs.YtipdbeklopjbmaaGreatDoor
/-
  Walks: slots are marked and hold their marks.
-/

namespace Go.Proofs.YtipdbeklopjbmaaGreatDoor
open Go.ChangeShapes Go.WideShapes Go.ChangeAt Go.RowKit
set_option maxRecDepth 100000
set_option maxHeartbeats 1000000
theorem laws_markSlotS_c {w : World} {H : Nat → Prop} {a : List SlotH} {a_a : Option Addr} {a_n a_c : Nat} {k : Nat} {L : List SlotD} (h_k : i64ok (k : Int)) (p0 : a.map SlotH.d = L) (p1 : k ≤ 4503599627370496) (p2 : sumOf cntSl L ≤ 1125899906842624) (hA : At w [ow 81 3 encSlot okSlot (.slice a_a a_n a_c) a, gr inSlot a]) :
    Calls Tryz.prog 51 #[.slice a_a a_n a_c, .int .i64 ((k : Nat) : Int)] w fun e w' => ∃ (D : List SlotH), e = .returned (.int .i64 ((k + sumOf cntSl L : Nat) : Int)) ∧ Mv [ow 81 3 encSlot okSlot (.slice a_a a_n a_c) a, gr inSlot a] w [ow 81 3 encSlot okSlot (.slice a_a a_n a_c) D, gr inSlot D] w' ∧ D.map SlotH.d = mkL markSlE cntSl k L := by
 have uU : True := (fun _ _ _ _ => trivial) H h_k p1 p2
 clear uU
 have hLn := dM_len p0
 obtain ⟨lo0, lp0, lq0⟩ := At.ownInv hA ET_31.hk 0 rfl
 refine calls_enter 36 Tryz.func51 rfl Tryz.ntmps51 (Nat.le_of_ble_eq_true rfl) (fun _ F0i => ?_)
 have F0 : Fr 36 [(0, .slice a_a a_n a_c), (1, .int .i64 ((k : Nat) : Int))] _ := F0i
 clear F0i
 refine wp_seq (wp_region_lit (l_op (f_val F0 rfl rfl (r_assign rfl rfl) rfl fun _ F1 => ?_)))
 refine s_end (x_normal (wp_seq (wp_seq (wp_region_lit (l_op (f_val F1 rfl rfl (r_assign rfl rfl) rfl fun _ F2 => ?_))))))
 refine s_end (x_normal (wp_block ?_))
 refine x_loop (fun (j : Nat) aZ wZ => ∃ (kk : Nat), ∃ (D : List SlotH), Fr 36 [(5, .int .i64 ((j : Nat) : Int)), (0, .slice a_a a_n a_c), (1, .int .i64 ((kk : Nat) : Int))] aZ ∧ Mv [ow 81 3 encSlot okSlot (.slice a_a a_n a_c) a, gr inSlot a] w [ow 81 3 encSlot okSlot (.slice a_a a_n a_c) D, gr inSlot D] wZ ∧ (j ≤ a_n) ∧ (kk = k + sumOf cntSl (L.take j)) ∧ (D.map SlotH.d = upL markSlE cntSl k j L)) (fun (j : Nat) => a_n - j) (0) ?_ ?_
 · exact ⟨k, a, F2.cut rfl, (Mv.refl hA), by omega, rfl, p0⟩
 · rintro j a3 w3 ⟨kk, D, F3, S3, hj_0, hj_1, hj_2⟩
   refine wp_seq (wp_seq (wp_region_lit (l_op (f_mv F3 rfl rfl rfl rfl rfl fun _ F4 => ?_))))
   refine l_op (f_mv F4 rfl rfl rfl rfl rfl fun _ F5 => ?_)
   refine l_op (f_val F5 rfl rfl (r_len Tryz.underlying31 rfl (F5.ev 7 rfl)) rfl fun _ F6 => ?_)
   refine l_op (f_val F6 rfl rfl (r_cmp (b := decide (j < a_n)) (.inr (.inr (.inl rfl))) rfl (F6.ev 6 rfl) (F6.ev 8 rfl) (dec_of (by omega))) rfl fun _ F7 => ?_)
   refine s_end (x_normal (x_cond (p := j < a_n) (F7.ev 9 rfl) (fun h8 => ?_) (fun h8 => ?_)))
   · skip
     refine wp_skip (x_normal (wp_seq (wp_block (wp_seq ?_))))
     obtain ⟨ym, hym⟩ := nth_some (l := L) (k := j) (by omega)
     obtain ⟨hst, hsu⟩ := sumOf_upto (f := cntSl) hym
     rw [cntSl_eq] at hst hsu
     refine wp_region_lit (l_op (f_mv F7 rfl rfl rfl rfl rfl fun _ F9 => ?_))
     refine l_op (f_mv F9 rfl rfl rfl rfl rfl fun _ F10 => ?_)
     refine l_op (f_mv F10 rfl rfl rfl rfl rfl fun _ F11 => ?_)
     obtain ⟨B12, x1, ad12, hx1, okx1, cl12⟩ := At.ownAt S3.at' ET_31.hk 0 rfl j  (by first | assumption | omega)
     have oj13 := okx1
     unfold okSlot at oj13
     obtain ⟨ln14, le14, mx14, ni14⟩ := Rd.inv (show Rd 2 encC okC (fun _ => True) w3 (.slice x1.a0 x1.n0 x1.c0) x1.d.cells from NRd.get (At.nrd S3.at' 1 rfl) hx1 (j := 0) rfl)
     refine l_op (f_val F11 rfl rfl (r_indexAddr (i := j) ET_31 rfl ((F11.ev 12 rfl).trans (by rw [ad12])) (F11.ev 13 rfl) (by omega) (by first | assumption | omega)) rfl fun _ F15 => ?_)
     refine l_op (f_val F15 rfl rfl (r_field FI_81_0 rfl (F15.ev 15 rfl) rfl) rfl fun _ F16 => ?_)
     refine l_op (s_storeElF (off := 0) S3.at' 0 j x1 (⟨(⟨((kk : Nat) : Int), x1.d.cells, x1.d.whole⟩ : SlotD), x1.a0, x1.n0, x1.c0⟩ : SlotH) ET_31.hk ET_31.h1 TI_3 rfl ad12 rfl rfl rfl rfl (F16.ev 16 rfl) (F16.ev 14 rfl) rfl (by first | assumption | omega) hx1 rfl (by decide) ((show i64ok ((kk : Nat) : Int) from by first | assumption | exact ⟨by omega, by omega⟩)) fun w17 S17 => ?_)
     have S18 : Mv [ow 81 3 encSlot okSlot (.slice a_a a_n a_c) (D.set j (⟨(⟨((kk : Nat) : Int), x1.d.cells, x1.d.whole⟩ : SlotD), x1.a0, x1.n0, x1.c0⟩ : SlotH)), gr inSlot D] w17 [gr inSlot (D.set j (⟨(⟨((kk : Nat) : Int), x1.d.cells, x1.d.whole⟩ : SlotD), x1.a0, x1.n0, x1.c0⟩ : SlotH)), ow 81 3 encSlot okSlot (.slice a_a a_n a_c) (D.set j (⟨(⟨((kk : Nat) : Int), x1.d.cells, x1.d.whole⟩ : SlotD), x1.a0, x1.n0, x1.c0⟩ : SlotH))] w17 := gr_same S17.at' 1 rfl rfl (⟨(⟨((kk : Nat) : Int), x1.d.cells, x1.d.whole⟩ : SlotD), x1.a0, x1.n0, x1.c0⟩ : SlotH) hx1 rfl
     obtain ⟨x2, hx2, ex2⟩ : ∃ zZ, nth (D.set j (⟨(⟨((kk : Nat) : Int), x1.d.cells, x1.d.whole⟩ : SlotD), x1.a0, x1.n0, x1.c0⟩ : SlotH)) j = some zZ ∧ zZ = (⟨(⟨((kk : Nat) : Int), x1.d.cells, x1.d.whole⟩ : SlotD), x1.a0, x1.n0, x1.c0⟩ : SlotH) := ⟨_, nth_setSelf hx1, rfl⟩
     have okx2 : okSlot x2 := by rw [ex2]; exact (show i64ok ((kk : Nat) : Int) from by first | assumption | exact ⟨by omega, by omega⟩)
     have gx2_1 : x2.d.cells.length = x1.d.cells.length := by rw [ex2]
     have oj19 := okx2
     unfold okSlot at oj19
     refine s_end (x_normal (wp_seq ?_))
     have hx1m := nth_upL.symm.trans (dM_at hj_2 hx1)
     obtain rfl := Option.some.inj (hym.symm.trans hx1m)
     refine wp_region_lit (l_op (f_mv F16 rfl rfl rfl rfl rfl fun _ F21 => ?_))
     refine l_op (f_val F21 rfl rfl (r_add (z := ((kk + 1 : Nat) : Int)) rfl (F21.ev 17 rfl) rfl (by first | rfl | omega) ⟨by first | omega | (unfold i64ok at *; omega), by first | omega | (unfold i64ok at *; omega)⟩) rfl fun _ F22 => ?_)
     refine l_op (f_as F22 rfl rfl rfl rfl rfl fun _ F23 => ?_)
     refine s_end (x_normal (wp_seq (wp_region_lit (l_op (f_mv F23 rfl rfl rfl rfl rfl fun _ F24 => ?_)))))
     refine l_op (f_mv F24 rfl rfl rfl rfl rfl fun _ F25 => ?_)
     obtain ⟨B26, y26, ad26, hy26, oky26, cl26⟩ := At.ownAt S18.at' ET_31.hk 1 rfl j  (by first | assumption | omega)
     obtain rfl := Option.some.inj (hx2.symm.trans hy26)
     clear hy26 oky26
     obtain ⟨ln28, le28, mx28, ni28⟩ := Rd.inv (show Rd 2 encC okC (fun _ => True) w17 (.slice x2.a0 x2.n0 x2.c0) x2.d.cells from NRd.get (At.nrd S18.at' 0 rfl) hx2 (j := 0) rfl)
     refine l_op (f_val F25 rfl rfl (r_indexAddr (i := j) ET_31 rfl ((F25.ev 19 rfl).trans (by rw [ad26])) (F25.ev 20 rfl) (by omega) (by first | assumption | omega)) rfl fun _ F29 => ?_)
     refine l_op (f_val F29 rfl rfl (r_field FI_81_1 rfl (F29.ev 21 rfl) rfl) rfl fun _ F30 => ?_)
     refine l_op (f_val (v := .slice x2.a0 x2.n0 x2.c0) F30 rfl rfl (r_load (cs := [.slice x2.a0 x2.n0 x2.c0]) TI_28 rfl (F30.ev 22 rfl) rfl (fun _ => rfl) (elem_sub (f := 1) cl26 [.slice x2.a0 x2.n0 x2.c0] rfl)) rfl fun _ F31 => ?_)
     refine l_op (f_mv F31 rfl rfl rfl rfl rfl fun _ F32 => ?_)
     have S34 : Mv [gr inSlot (D.set j (⟨(⟨((kk : Nat) : Int), x1.d.cells, x1.d.whole⟩ : SlotD), x1.a0, x1.n0, x1.c0⟩ : SlotH)), ow 81 3 encSlot okSlot (.slice a_a a_n a_c) (D.set j (⟨(⟨((kk : Nat) : Int), x1.d.cells, x1.d.whole⟩ : SlotD), x1.a0, x1.n0, x1.c0⟩ : SlotH))] w17 [ow 91 2 encC okC (.slice x2.a0 x2.n0 x2.c0) x2.d.cells, grx inSlot (D.set j (⟨(⟨((kk : Nat) : Int), x1.d.cells, x1.d.whole⟩ : SlotD), x1.a0, x1.n0, x1.c0⟩ : SlotH)) j, ow 81 3 encSlot okSlot (.slice a_a a_n a_c) (D.set j (⟨(⟨((kk : Nat) : Int), x1.d.cells, x1.d.whole⟩ : SlotD), x1.a0, x1.n0, x1.c0⟩ : SlotH))] w17 := gr_open S18.at' 0 rfl rfl hx2
     refine l_op (f_call F32 CF_13 rfl rfl rfl rfl (lc (F32.ev 23 rfl) (lc (F32.ev 24 rfl) rfl)) (laws_markCellS_c (H := fun _ => True) (a := x2.d.cells) (k := kk + 1) ⟨by omega, by first | omega | (unfold i64ok at *; omega)⟩ (by first | assumption | omega | (simp <;> omega)) (At.pick (is := [0]) S34.at' rfl)) ?_)
     rintro _ w33 ⟨rfl, m33⟩
     refine ⟨_, rfl, fun _ F35 => ?_⟩
     have S33 : Mv _ _ [ow 91 2 encC okC (.slice x2.a0 x2.n0 x2.c0) (marksC (kk + 1) x2.d.cells.length), grx inSlot (D.set j (⟨(⟨((kk : Nat) : Int), x1.d.cells, x1.d.whole⟩ : SlotD), x1.a0, x1.n0, x1.c0⟩ : SlotH)) j, ow 81 3 encSlot okSlot (.slice a_a a_n a_c) (D.set j (⟨(⟨((kk : Nat) : Int), x1.d.cells, x1.d.whole⟩ : SlotD), x1.a0, x1.n0, x1.c0⟩ : SlotH))] _ := At.frame S34.at' [0] rfl m33
     obtain ⟨Q0, Q1, Q2⟩ := At.ownInv S33.at' ET_28.hk 0 rfl
     clear m33
     have S36 : Mv [ow 91 2 encC okC (.slice x2.a0 x2.n0 x2.c0) (marksC (kk + 1) x2.d.cells.length), grx inSlot (D.set j (⟨(⟨((kk : Nat) : Int), x1.d.cells, x1.d.whole⟩ : SlotD), x1.a0, x1.n0, x1.c0⟩ : SlotH)) j, ow 81 3 encSlot okSlot (.slice a_a a_n a_c) (D.set j (⟨(⟨((kk : Nat) : Int), x1.d.cells, x1.d.whole⟩ : SlotD), x1.a0, x1.n0, x1.c0⟩ : SlotH))] w33 [ow 81 3 encSlot okSlot (.slice a_a a_n a_c) ((D.set j (⟨(⟨((kk : Nat) : Int), x1.d.cells, x1.d.whole⟩ : SlotD), x1.a0, x1.n0, x1.c0⟩ : SlotH)).set j (⟨(⟨x2.d.seq, marksC (kk + 1) x2.d.cells.length, x2.d.whole⟩ : SlotD), x2.a0, x2.n0, x2.c0⟩ : SlotH)), ow 91 2 encC okC (.slice x2.a0 x2.n0 x2.c0) (marksC (kk + 1) x2.d.cells.length), grx inSlot (D.set j (⟨(⟨((kk : Nat) : Int), x1.d.cells, x1.d.whole⟩ : SlotD), x1.a0, x1.n0, x1.c0⟩ : SlotH)) j] w33 := ow_same S33.at' 2 rfl rfl (⟨(⟨x2.d.seq, marksC (kk + 1) x2.d.cells.length, x2.d.whole⟩ : SlotD), x2.a0, x2.n0, x2.c0⟩ : SlotH) hx2 rfl okx2
     have S37 : Mv [ow 81 3 encSlot okSlot (.slice a_a a_n a_c) ((D.set j (⟨(⟨((kk : Nat) : Int), x1.d.cells, x1.d.whole⟩ : SlotD), x1.a0, x1.n0, x1.c0⟩ : SlotH)).set j (⟨(⟨x2.d.seq, marksC (kk + 1) x2.d.cells.length, x2.d.whole⟩ : SlotD), x2.a0, x2.n0, x2.c0⟩ : SlotH)), ow 91 2 encC okC (.slice x2.a0 x2.n0 x2.c0) (marksC (kk + 1) x2.d.cells.length), grx inSlot (D.set j (⟨(⟨((kk : Nat) : Int), x1.d.cells, x1.d.whole⟩ : SlotD), x1.a0, x1.n0, x1.c0⟩ : SlotH)) j] w33 [gr inSlot ((D.set j (⟨(⟨((kk : Nat) : Int), x1.d.cells, x1.d.whole⟩ : SlotD), x1.a0, x1.n0, x1.c0⟩ : SlotH)).set j (⟨(⟨x2.d.seq, marksC (kk + 1) x2.d.cells.length, x2.d.whole⟩ : SlotD), x2.a0, x2.n0, x2.c0⟩ : SlotH)), ow 81 3 encSlot okSlot (.slice a_a a_n a_c) ((D.set j (⟨(⟨((kk : Nat) : Int), x1.d.cells, x1.d.whole⟩ : SlotD), x1.a0, x1.n0, x1.c0⟩ : SlotH)).set j (⟨(⟨x2.d.seq, marksC (kk + 1) x2.d.cells.length, x2.d.whole⟩ : SlotD), x2.a0, x2.n0, x2.c0⟩ : SlotH))] w33 := gr_close S36.at' [1, 2] (⟨(⟨x2.d.seq, marksC (kk + 1) x2.d.cells.length, x2.d.whole⟩ : SlotD), x2.a0, x2.n0, x2.c0⟩ : SlotH) rfl rfl
     obtain ⟨x3, hx3, ex3⟩ : ∃ zZ, nth ((D.set j (⟨(⟨((kk : Nat) : Int), x1.d.cells, x1.d.whole⟩ : SlotD), x1.a0, x1.n0, x1.c0⟩ : SlotH)).set j (⟨(⟨x2.d.seq, marksC (kk + 1) x2.d.cells.length, x2.d.whole⟩ : SlotD), x2.a0, x2.n0, x2.c0⟩ : SlotH)) j = some zZ ∧ zZ = (⟨(⟨x2.d.seq, marksC (kk + 1) x2.d.cells.length, x2.d.whole⟩ : SlotD), x2.a0, x2.n0, x2.c0⟩ : SlotH) := ⟨_, nth_setSelf hx2, rfl⟩
     have okx3 : okSlot x3 := by rw [ex3]; exact okx2
     have oj38 := okx3
     unfold okSlot at oj38
     refine l_op (f_as F35 rfl rfl rfl rfl rfl fun _ F40 => ?_)
     have T41 : Mv _ _ [gr inSlot ((D.set j (⟨(⟨((kk : Nat) : Int), x1.d.cells, x1.d.whole⟩ : SlotD), x1.a0, x1.n0, x1.c0⟩ : SlotH)).set j (⟨(⟨x2.d.seq, marksC (kk + 1) x2.d.cells.length, x2.d.whole⟩ : SlotD), x2.a0, x2.n0, x2.c0⟩ : SlotH)), ow 81 3 encSlot okSlot (.slice a_a a_n a_c) ((D.set j (⟨(⟨((kk : Nat) : Int), x1.d.cells, x1.d.whole⟩ : SlotD), x1.a0, x1.n0, x1.c0⟩ : SlotH)).set j (⟨(⟨x2.d.seq, marksC (kk + 1) x2.d.cells.length, x2.d.whole⟩ : SlotD), x2.a0, x2.n0, x2.c0⟩ : SlotH))] _ := S37
     refine s_end (x_normal (wp_seq (wp_region_lit (l_op (f_mv F40 rfl rfl rfl rfl rfl fun _ F42 => ?_)))))
     refine l_op (f_mv F42 rfl rfl rfl rfl rfl fun _ F43 => ?_)
     refine l_op (f_mv F43 rfl rfl rfl rfl rfl fun _ F44 => ?_)
     have rm45 := Nat.mod_lt ((kk + 1) + 2 * x2.d.cells.length) (show 0 < 3 by decide)
     refine l_op (f_val F44 rfl rfl (r_remC (c := 3) rfl (by decide) rfl (F44.ev 28 rfl) rfl) rfl fun _ F46 => ?_)
     refine l_op (f_val F46 rfl rfl (r_cmp (b := decide (((kk + 1) + 2 * x2.d.cells.length) % 3 = 0)) (.inl rfl) rfl (F46.ev 29 rfl) rfl (dec_of (by omega))) rfl fun _ F47 => ?_)
     obtain ⟨B48, y48, ad48, hy48, oky48, cl48⟩ := At.ownAt T41.at' ET_31.hk 1 rfl j  (by first | assumption | omega)
     obtain rfl := Option.some.inj (hx3.symm.trans hy48)
     clear hy48 oky48
     obtain ⟨ln50, le50, mx50, ni50⟩ := Rd.inv (show Rd 2 encC okC (fun _ => True) w33 (.slice x3.a0 x3.n0 x3.c0) x3.d.cells from NRd.get (At.nrd T41.at' 0 rfl) hx3 (j := 0) rfl)
     refine l_op (f_val F47 rfl rfl (r_indexAddr (i := j) ET_31 rfl ((F47.ev 26 rfl).trans (by rw [ad48])) (F47.ev 27 rfl) (by omega) (by first | assumption | omega)) rfl fun _ F51 => ?_)
     refine l_op (f_val F51 rfl rfl (r_field FI_81_2 rfl (F51.ev 31 rfl) rfl) rfl fun _ F52 => ?_)
     refine l_op (s_storeElF (off := 2) T41.at' 1 j x3 (⟨(⟨x3.d.seq, x3.d.cells, (decide (((kk + 1) + 2 * x2.d.cells.length) % 3 = 0))⟩ : SlotD), x3.a0, x3.n0, x3.c0⟩ : SlotH) ET_31.hk ET_31.h1 TI_4 rfl ad48 rfl rfl rfl rfl (F52.ev 32 rfl) (F52.ev 30 rfl) rfl (by first | assumption | omega) hx3 rfl (by decide) (okx3) fun w53 S53 => ?_)
     have S54 : Mv [ow 81 3 encSlot okSlot (.slice a_a a_n a_c) (((D.set j (⟨(⟨((kk : Nat) : Int), x1.d.cells, x1.d.whole⟩ : SlotD), x1.a0, x1.n0, x1.c0⟩ : SlotH)).set j (⟨(⟨x2.d.seq, marksC (kk + 1) x2.d.cells.length, x2.d.whole⟩ : SlotD), x2.a0, x2.n0, x2.c0⟩ : SlotH)).set j (⟨(⟨x3.d.seq, x3.d.cells, (decide (((kk + 1) + 2 * x2.d.cells.length) % 3 = 0))⟩ : SlotD), x3.a0, x3.n0, x3.c0⟩ : SlotH)), gr inSlot ((D.set j (⟨(⟨((kk : Nat) : Int), x1.d.cells, x1.d.whole⟩ : SlotD), x1.a0, x1.n0, x1.c0⟩ : SlotH)).set j (⟨(⟨x2.d.seq, marksC (kk + 1) x2.d.cells.length, x2.d.whole⟩ : SlotD), x2.a0, x2.n0, x2.c0⟩ : SlotH))] w53 [gr inSlot (((D.set j (⟨(⟨((kk : Nat) : Int), x1.d.cells, x1.d.whole⟩ : SlotD), x1.a0, x1.n0, x1.c0⟩ : SlotH)).set j (⟨(⟨x2.d.seq, marksC (kk + 1) x2.d.cells.length, x2.d.whole⟩ : SlotD), x2.a0, x2.n0, x2.c0⟩ : SlotH)).set j (⟨(⟨x3.d.seq, x3.d.cells, (decide (((kk + 1) + 2 * x2.d.cells.length) % 3 = 0))⟩ : SlotD), x3.a0, x3.n0, x3.c0⟩ : SlotH)), ow 81 3 encSlot okSlot (.slice a_a a_n a_c) (((D.set j (⟨(⟨((kk : Nat) : Int), x1.d.cells, x1.d.whole⟩ : SlotD), x1.a0, x1.n0, x1.c0⟩ : SlotH)).set j (⟨(⟨x2.d.seq, marksC (kk + 1) x2.d.cells.length, x2.d.whole⟩ : SlotD), x2.a0, x2.n0, x2.c0⟩ : SlotH)).set j (⟨(⟨x3.d.seq, x3.d.cells, (decide (((kk + 1) + 2 * x2.d.cells.length) % 3 = 0))⟩ : SlotD), x3.a0, x3.n0, x3.c0⟩ : SlotH))] w53 := gr_same S53.at' 1 rfl rfl (⟨(⟨x3.d.seq, x3.d.cells, (decide (((kk + 1) + 2 * x2.d.cells.length) % 3 = 0))⟩ : SlotD), x3.a0, x3.n0, x3.c0⟩ : SlotH) hx3 rfl
     obtain ⟨x4, hx4, ex4⟩ : ∃ zZ, nth (((D.set j (⟨(⟨((kk : Nat) : Int), x1.d.cells, x1.d.whole⟩ : SlotD), x1.a0, x1.n0, x1.c0⟩ : SlotH)).set j (⟨(⟨x2.d.seq, marksC (kk + 1) x2.d.cells.length, x2.d.whole⟩ : SlotD), x2.a0, x2.n0, x2.c0⟩ : SlotH)).set j (⟨(⟨x3.d.seq, x3.d.cells, (decide (((kk + 1) + 2 * x2.d.cells.length) % 3 = 0))⟩ : SlotD), x3.a0, x3.n0, x3.c0⟩ : SlotH)) j = some zZ ∧ zZ = (⟨(⟨x3.d.seq, x3.d.cells, (decide (((kk + 1) + 2 * x2.d.cells.length) % 3 = 0))⟩ : SlotD), x3.a0, x3.n0, x3.c0⟩ : SlotH) := ⟨_, nth_setSelf hx3, rfl⟩
     have okx4 : okSlot x4 := by rw [ex4]; exact okx3
     have gx4_1 : x4.d.cells.length = x3.d.cells.length := by rw [ex4]
     have oj55 := okx4
     unfold okSlot at oj55
     refine s_end (x_normal (wp_region_lit (l_op (f_mv F52 rfl rfl rfl rfl rfl fun _ F57 => ?_))))
     refine l_op (f_val F57 rfl rfl (r_add (z := ((((kk + 1) + 2 * x2.d.cells.length) + 1 : Nat) : Int)) rfl (F57.ev 33 rfl) rfl (by first | rfl | omega) ⟨by first | omega | (unfold i64ok at *; omega), by first | omega | (unfold i64ok at *; omega)⟩) rfl fun _ F58 => ?_)
     refine l_op (f_as F58 rfl rfl rfl rfl rfl fun _ F59 => ?_)
     refine s_end (x_block_normal (x_normal (wp_region_lit (l_op (f_mv F59 rfl rfl rfl rfl rfl fun _ F60 => ?_)))))
     refine l_op (f_val F60 rfl rfl (r_add (z := ((j + 1 : Nat) : Int)) rfl (F60.ev 10 rfl) rfl (by first | rfl | omega) ⟨by first | omega | (unfold i64ok at *; omega), by first | omega | (unfold i64ok at *; omega)⟩) rfl fun _ F61 => ?_)
     refine l_op (f_as F61 rfl rfl rfl rfl rfl fun _ F62 => ?_)
     refine s_end ?_
     refine x_normal ⟨j + 1, by omega, ((kk + 1) + 2 * x2.d.cells.length) + 1, ((D.set j (⟨(⟨((kk : Nat) : Int), x1.d.cells, x1.d.whole⟩ : SlotD), x1.a0, x1.n0, x1.c0⟩ : SlotH)).set j (⟨(⟨x2.d.seq, marksC (kk + 1) x2.d.cells.length, x2.d.whole⟩ : SlotD), x2.a0, x2.n0, x2.c0⟩ : SlotH)).set j (⟨(⟨x3.d.seq, x3.d.cells, (decide (((kk + 1) + 2 * x2.d.cells.length) % 3 = 0))⟩ : SlotD), x3.a0, x3.n0, x3.c0⟩ : SlotH), F62.cut rfl, ((S3.trans (S17.trans (S18.trans (S34.trans (S33.trans (S36.trans (T41.trans (S53.trans S54)))))))).pick [1, 0] rfl), by omega, by rw [hst]; omega, by simp only [List.set_set]; rw [List.map_set, hj_2]; refine upL_step hx1m ?_; rw [← hj_1]; subst_vars; rfl⟩
   · skip
     refine wp_exit (x_then_exit (x_then_exit (x_block_here (x_normal (wp_seq (wp_region_lit (l_op (f_mv F7 rfl rfl rfl rfl rfl fun _ F63 => ?_))))))))
     refine l_op (f_as F63 rfl rfl rfl rfl rfl fun _ F64 => ?_)
     refine s_end (x_normal (wp_ret ?_))
     refine x_done (v := .int .i64 ((kk : Nat) : Int)) F64 (results_1 Tryz.results51 (.tmp (F64.ev 4 rfl))) ?_
     exact ⟨D, (by rw [(show ((kk : Nat) : Int) = ((k + sumOf cntSl L : Nat) : Int) from by rw [hj_1, List.take_of_length_le (by omega)])]), (Mv.pick S3 [0, 1] rfl), by rw [hj_2]; exact upL_end (by omega)⟩
theorem laws_markDisk_c {w : World} {H : Nat → Prop} {a : DiskH} {Q0 : Option Addr} {Q2 Q1 : Nat} {k : Nat} {L : List SlotD} (Q4 : okS a.journal.text) (Q3 : i64ok a.journal.sure) (h_k : i64ok (k : Int)) (p0 : a.slots.map SlotH.d = L) (p1 : k ≤ 4503599627370496) (p2 : sumOf cntSl L ≤ 1125899906842624) (hA : At w [ow 81 3 encSlot okSlot (.slice Q0 Q2 Q1) a.slots, gr inSlot a.slots]) :
    Calls Tryz.prog 12 #[.agg #[.slice Q0 Q2 Q1, .string a.journal.text, .int .i64 a.journal.sure], .int .i64 ((k : Nat) : Int)] w fun e w' => ∃ (D : List SlotH), e = .returned (.int .i64 ((k + sumOf cntSl L : Nat) : Int)) ∧ Mv [ow 81 3 encSlot okSlot (.slice Q0 Q2 Q1) a.slots, gr inSlot a.slots] w [ow 81 3 encSlot okSlot (.slice Q0 Q2 Q1) D, gr inSlot D] w' ∧ D.map SlotH.d = mkL markSlE cntSl k L := by
 have uU : True := (fun _ _ _ _ _ _ _ => trivial) H Q4 Q3 h_k p0 p1 p2
 clear uU
 obtain ⟨lo0, lp0, lq0⟩ := At.ownInv hA ET_31.hk 0 rfl
 refine calls_enter 10 Tryz.func12 rfl Tryz.ntmps12 (Nat.le_of_ble_eq_true rfl) (fun _ F0i => ?_)
 have F0 : Fr 10 [(0, .agg #[.slice Q0 Q2 Q1, .string a.journal.text, .int .i64 a.journal.sure]), (1, .int .i64 ((k : Nat) : Int))] _ := F0i
 clear F0i
 refine wp_seq (wp_region_lit (l_op (f_box F0 hA rfl rfl rfl (F0.ev 0 rfl) rfl rfl fun b1 _ w1 F2 S1 => ?_)))
 refine l_op (f_val F2 rfl rfl (r_assign rfl rfl) rfl fun _ F3 => ?_)
 refine s_end (x_normal (wp_seq (wp_region_lit (l_op (f_val F3 rfl rfl (r_field FI_34_0 rfl (F3.ev 2 rfl) rfl) rfl fun _ F4 => ?_)))))
 refine l_op (f_val (v := .slice Q0 Q2 Q1) F4 rfl rfl (r_loadB S1.at' 0 TI_31 rfl rfl (F4.ev 5 rfl) rfl rfl (fun _ => rfl) rfl) rfl fun _ F5 => ?_)
 refine l_op (f_mv F5 rfl rfl rfl rfl rfl fun _ F6 => ?_)
 refine l_op (f_call F6 CF_51 rfl rfl rfl rfl (lc (F6.ev 6 rfl) (lc (F6.ev 7 rfl) rfl)) (laws_markSlotS_c (H := fun _ => True) (L := L) (a := a.slots) (k := k) ⟨by omega, by first | omega | (unfold i64ok at *; omega)⟩ (by first | assumption | omega | (simp <;> omega)) (by first | assumption | omega | (simp <;> omega)) (by first | assumption | omega | (simp <;> omega)) (At.pick (is := [1, 2]) S1.at' rfl)) ?_)
 rintro _ w7 ⟨D_7, rfl, m7, q7_0⟩
 refine ⟨_, rfl, fun _ F8 => ?_⟩
 have S7 : Mv _ _ [ow 81 3 encSlot okSlot (.slice Q0 Q2 Q1) D_7, gr inSlot D_7, bx b1 [.slice Q0 Q2 Q1, .string a.journal.text, .int .i64 a.journal.sure] 34] _ := At.frame S1.at' [1, 2] rfl m7
 obtain ⟨Q5, Q6, Q7⟩ := At.ownInv S7.at' ET_31.hk 0 rfl
 clear m7
 refine l_op (f_as F8 rfl rfl rfl rfl rfl fun _ F9 => ?_)
 refine s_end (x_normal (wp_seq (wp_region_lit (l_op (f_mv F9 rfl rfl rfl rfl rfl fun _ F10 => ?_)))))
 refine l_op (f_as F10 rfl rfl rfl rfl rfl fun _ F11 => ?_)
 refine s_end (x_normal (wp_ret ?_))
 refine x_done (v := .int .i64 ((k + sumOf cntSl L : Nat) : Int)) F11 (results_1 Tryz.results12 (.tmp (F11.ev 4 rfl))) ?_
 exact ⟨D_7, rfl, (Mv.pick (S1.trans S7) [0, 1] rfl), by first | assumption | exact w64_ok _ | omega | (unfold i64ok; omega)⟩
end Go.Proofs.YtipdbeklopjbmaaGreatDoor
/-
  How a statement's arguments are opened, for the walks.
-/

namespace Go.Proofs.YtipdbeklopjbmaaGreatDoor
open Go.ChangeShapes Go.WideShapes Go.ChangeAt Go.RowKit

section
variable {P : Program} {W : World} {T e : TypeId} {cs : List Value} {α : Type} {k : Nat} {enc : α → List Value} {ok : α → Prop}
theorem rdA_of (ht : P.underlying T = some (.slice e)) (hk : P.cellsOf e = k) (hk0 : 0 < k) (hrow : ∀ row, row.length = k → Reads P W e row → ∃ x, row = enc x ∧ ok x) (h : Reads P W T cs) :
    ∃ a n c l, cs = [.slice a n c] ∧ RdA k enc ok (fun _ => True) W (.slice a n c) l := by
  obtain ⟨v, l, rfl, hr⟩ := Reads.slice (R := Enc enc ok) ht hk hk0 (fun row h1 h2 => hrow row h1 h2) h
  obtain ⟨a, cap, rfl, _⟩ := hr.inv
  exact ⟨a, _, cap, l, rfl, hr, fun _ _ _ _ _ => trivial⟩
theorem cell_row {fs : Array Field} {f0 f1 : Field} (ht : P.underlying e = some (.struct fs)) (h0 : fs[0]? = some f0) (h1 : fs[1]? = some f1) (o0 : f0.offset = 0) (o1 : f1.offset = 1) (c0 : P.cellsOf f0.type = 1) (c1 : P.cellsOf f1.type = 1)
    (u0 : P.underlying f0.type = some .string) (u1 : P.underlying f1.type = some .string) : ∀ row, row.length = 2 → Reads P W e row → ∃ x, row = encC x ∧ okC x := fun row hl hr => by
  obtain ⟨_, hf⟩ := hr.struct ht
  match row, hl with
  | [a, b], _ =>
    have g0 := hf 0 f0 h0
    have g1 := hf 1 f1 h1
    rw [o0, c0] at g0
    rw [o1, c1] at g1
    obtain ⟨s, e0, hm0⟩ := Reads.string u0 g0
    obtain ⟨t, e1, hm1⟩ := Reads.string u1 g1
    simp at e0 e1
    subst e0; subst e1
    exact ⟨⟨s, t⟩, rfl, maxLen_le hm0, maxLen_le hm1⟩
end
end Go.Proofs.YtipdbeklopjbmaaGreatDoor
/-
  A law's contract at one world; what the laid variables give.
-/

namespace Go.Proofs.YtipdbeklopjbmaaGreatDoor
open Go.ChangeShapes Go.WideShapes Go.ChangeAt Go.RowKit
theorem law_contractW {P : Program} {f : FuncId} {fn : Func} {s : ChangeSpec} {tb : TypeId}
    (hl : laidOutB P = true) (hr : ∀ t ∈ fn.params.toList, P.readableRec t = true ∧ t < P.types.size) (htb : P.underlying tb = some .bool) (hres : fn.resultTypes = #[tb]) (hv : s.vars = [])
    (hs : ∀ (H : Type) (ds : List (DataW H)), ds.length = fn.params.size → s.fn H ds = { results := [.lit (.bool true)], args := ds })
    (H : Type) (enc : TypeId × Value → H) (apart fresh handsOn again : Bool) (W : World) (args : Array Value) (ds gs : List (DataW H)) (before : List MemPlace)
    (walk : ArgsRead P W fn.params.toList args.toList → Calls P f args W fun e W' => e = .returned (.bool true) ∧ Bl W W')
    (hval : ∀ (j : Nat) t v, fn.params[j]? = some t → args[j]? = some v → Value.okWide P W .any 0 t v)
    (hW : DataW.Whole enc P fn.params.toList s.vars apart W args.toList ds gs before) :
    Calls P f args W fun e W' => ∃ v, e = .returned v ∧ s.post enc P fn apart fresh handsOn again W args v W' := by
  have hW0 := hW
  obtain ⟨p, q, hA, hV, rfl, hz, hn⟩ := hW
  obtain ⟨g1, g2, g3⟩ := argsRead_of hA
  refine (walk ⟨g1, fun j t v ht hv => ⟨g3 j t v ht hv, hval j t v (by simpa using ht) (by simpa using hv)⟩⟩).mono ?_
  rintro e W' ⟨rfl, hb⟩
  exact ⟨_, rfl, law_post hl hr htb hres hv hW0 (hs H ds (by simpa using g2)) hb⟩
theorem var_cell {P : Program} {W : World} {n : String} {g tp : Nat} {a : Addr} (hg : P.globalNamed n = some g) (h : W.var? P n = some #[.iface tp (.pointer (some a))]) : W.cell? ⟨g, 0, none⟩ = some (.iface tp (.pointer (some a))) := by
  have := World.var?_cell hg h 0
  simpa using this
end Go.Proofs.YtipdbeklopjbmaaGreatDoor
/-
  How lists of transactions and disks, as a statement's arguments, are opened.
-/

namespace Go.Proofs.YtipdbeklopjbmaaGreatDoor
open Go.ChangeShapes Go.WideShapes Go.ChangeAt Go.RowKit
section
variable {P : Program} {W : World} {T e : TypeId} {cs : List Value} {α : Type} {k : Nat} {enc : α → List Value} {ok : α → Prop}
theorem rdN_of {inns : α → List Inn} (ht : P.underlying T = some (.slice e)) (hk : P.cellsOf e = k) (hk0 : 0 < k) (hrow : ∀ row, row.length = k → Reads P W e row → ∃ x, row = enc x ∧ ok x ∧ ∀ I ∈ inns x, I.ra (fun _ => True) W) (h : Reads P W T cs) :
    ∃ a n c l, cs = [.slice a n c] ∧ RdA k enc ok (fun _ => True) W (.slice a n c) l ∧ NRa inns (fun _ => True) W l := by
  obtain ⟨v, l, rfl, hr⟩ := Reads.slice (R := fun _ row x => (row = enc x ∧ ok x) ∧ ∀ I ∈ inns x, I.ra (fun _ => True) W) ht hk hk0 (fun row h1 h2 => by
    obtain ⟨x, e1, e2, e3⟩ := hrow row h1 h2
    exact ⟨x, ⟨e1, e2⟩, e3⟩) h
  obtain ⟨a, cap, rfl, h1, h2, h3, h4⟩ := hr
  refine ⟨a, _, cap, l, rfl, ⟨⟨a, cap, rfl, h1, h2, h3, fun hn => ?_⟩, fun _ _ _ _ _ => trivial⟩, fun x hx => ?_⟩
  · obtain ⟨b, off, rfl, hc⟩ := h4 hn
    refine ⟨b, off, rfl, fun i x hx => ?_⟩
    obtain ⟨row, g1, g2, g3⟩ := hc i x hx
    exact ⟨row, g1, g2.1, g3⟩
  · obtain ⟨b, off, rfl, hc⟩ := h4 (List.length_pos_of_mem hx)
    obtain ⟨i, hi⟩ := List.mem_iff_getElem?.1 hx
    obtain ⟨row, g1, g2, g3⟩ := hc i x hi
    exact g2.2
end
end Go.Proofs.YtipdbeklopjbmaaGreatDoor
/-
  Disks that are as they should be, that fall, whose folding ends: plain functions.
-/

namespace Go.Proofs.YtipdbeklopjbmaaGreatDoor
open Go.ChangeShapes Go.WideShapes Go.ChangeAt Go.RowKit
set_option maxRecDepth 100000
set_option maxHeartbeats 1000000

theorem bytes_le : ∀ l m : List UInt8, (Op.bytesLess l m || decide (l = m)) = !Op.bytesLess m l
  | [], [] => rfl
  | [], _ :: _ => rfl
  | _ :: _, [] => rfl
  | a :: l, b :: m => by
    have ih := bytes_le l m
    simp only [Op.bytesLess]
    by_cases h : a = b
    · subst h
      have h1 : ¬ a < a := UInt8.lt_irrefl a
      simp only [h1, decide_false, Bool.false_or, beq_self_eq_true, Bool.true_and, List.cons.injEq, true_and]
      exact ih
    · have h2 : ¬ b = a := fun e => h e.symm
      have h3 : (a == b) = false := by simpa using h
      have h4 : (b == a) = false := by simpa using h2
      simp only [h3, h4, Bool.false_and, Bool.or_false, List.cons.injEq, h, false_and, decide_false]
      by_cases h5 : a < b
      · have h6 : ¬ b < a := fun e => UInt8.lt_asymm h5 e
        simp [h5, h6]
      · have h6 : b < a := by
          rcases UInt8.lt_or_lt_of_ne h with e | e
          · exact absurd e h5
          · exact e
        simp [h5, h6]
theorem leS_not (x y : ByteArray) : leS x y = !ltS y x := by
  unfold leS ltS
  rw [← bytes_le]
  congr 1
  rw [← bytes_beq]
  cases h : x.toList == y.toList
  · rw [decide_eq_false (fun e => by rw [e] at h; simp at h)]
  · rw [decide_eq_true (by simpa using h)]
theorem ck_5 {s : List CellD} {k : Nat} {x y : CellD} (hx : nth s k = some x) (h1 : (!keyOk x.key) = false) (h2 : (!inB x.val.size 1 60) = false) (h3 : k > 0) (hy : nth s (k - 1) = some y) : leS x.key y.key = !cellOk s k := by
  rw [leS_not]
  exact ck_4 hx h1 h2 h3 hy
def seqAt (l : List SlotD) (b : Int) : Int := match nth l b.toNat with
  | some x => x.seq
  | none => 0
def bestTo (l : List SlotD) : Nat → Int
  | 0 => -1
  | k + 1 => match nth l k with
    | some x => if (x.whole && (decide (bestTo l k < 0) || decide (x.seq > seqAt l (bestTo l k)))) = true then ((k : Nat) : Int) else bestTo l k
    | none => bestTo l k
theorem bestTo_bd (l : List SlotD) (k : Nat) : -1 ≤ bestTo l k ∧ bestTo l k < ((k : Nat) : Int) := by
  induction k with
  | zero => unfold bestTo; omega
  | succ k ih =>
    unfold bestTo
    split
    · split <;> omega
    · omega
theorem seqAt_eq {D : List SlotH} {b : Int} {y : SlotH} (h : nth D b.toNat = some y) : seqAt (D.map SlotH.d) b = y.d.seq := by
  unfold seqAt
  rw [map_at h]
theorem bestTo_t {D : List SlotH} {k : Nat} {x y : SlotH} {b : Int} (hb : b = bestTo (D.map SlotH.d) k) (hx : nth D k = some x) (hy : nth D b.toNat = some y) (h : (x.d.whole && (decide (b < 0) || decide (x.d.seq > y.d.seq))) = true) : ((k : Nat) : Int) = bestTo (D.map SlotH.d) (k + 1) := by
  unfold bestTo
  rw [map_at hx, ← hb, seqAt_eq hy]
  simp only []
  rw [if_pos h]
theorem bestTo_f {D : List SlotH} {k : Nat} {x y : SlotH} {b : Int} (hb : b = bestTo (D.map SlotH.d) k) (hx : nth D k = some x) (hy : nth D b.toNat = some y) (h : (x.d.whole && (decide (b < 0) || decide (x.d.seq > y.d.seq))) = false) : b = bestTo (D.map SlotH.d) (k + 1) := by
  unfold bestTo
  rw [map_at hx, ← hb, seqAt_eq hy]
  simp only []
  rw [if_neg (by rw [h]; decide)]
theorem bs_1 {w : Bool} {p : Prop} [Decidable p] {b : Int} (h : w = false) : false = (w && (decide (b < 0) || decide p)) := by rw [h]; rfl
theorem bs_2 {w : Bool} {p : Prop} [Decidable p] {b : Int} (h : w = true) (h2 : b < 0) : true = (w && (decide (b < 0) || decide p)) := by rw [h, decide_eq_true h2]; rfl
theorem bs_3 {w : Bool} {p : Prop} [Decidable p] {b : Int} (h : w = true) (h2 : ¬ b < 0) : decide p = (w && (decide (b < 0) || decide p)) := by rw [h, decide_eq_false h2]; rfl
def slotBad (x : SlotD) : Bool := x.whole && (!inB x.seq 0 99999 || !storeOk x.cells)
def diskOk (l : List SlotD) (j : JouD) : Bool := decide (l.length = 2) && l.any (·.whole) && l.all (fun x => !slotBad x) && jouOk j
theorem best_any {l : List SlotD} (k : Nat) (hk : k ≤ l.length) : bestTo l k ≥ 0 ↔ ∃ j, j < k ∧ ∃ x, nth l j = some x ∧ x.whole = true := by
  induction k with
  | zero => exact ⟨fun h => by unfold bestTo at h; omega, fun ⟨j, hj, _⟩ => absurd hj (Nat.not_lt_zero _)⟩
  | succ k ih =>
    have ih := ih (by omega)
    obtain ⟨x, hx⟩ := nth_some (l := l) (k := k) (by omega)
    unfold bestTo
    rw [hx]
    simp only []
    cases hw : x.whole
    · rw [Bool.false_and, if_neg (by decide), ih]
      constructor
      · rintro ⟨j, hj, y, hy, e⟩; exact ⟨j, by omega, y, hy, e⟩
      · rintro ⟨j, hj, y, hy, e⟩
        rcases Nat.lt_or_ge j k with h | h
        · exact ⟨j, h, y, hy, e⟩
        · obtain rfl : j = k := by omega
          rw [hx] at hy; cases hy; rw [hw] at e; cases e
    · constructor
      · intro _; exact ⟨k, by omega, x, hx, hw⟩
      · intro _
        split
        · omega
        · rename_i h
          by_cases h2 : bestTo l k < 0
          · exact absurd (by rw [decide_eq_true h2]; rfl) h
          · omega
theorem best_yes {l : List SlotD} : bestTo l l.length ≥ 0 ↔ l.any (·.whole) = true := by
  rw [best_any l.length (Nat.le_refl _), List.any_eq_true]
  constructor
  · rintro ⟨j, _, x, hx, e⟩; exact ⟨x, nth_mem hx, e⟩
  · rintro ⟨x, hx, e⟩
    obtain ⟨j, hj, rfl⟩ := List.mem_iff_getElem.1 hx
    exact ⟨j, hj, _, by rw [nth_eq]; exact List.getElem?_eq_getElem hj, e⟩
theorem sb_1 {x : SlotD} (h : x.whole = false) : slotBad x = false := by unfold slotBad; rw [h]; rfl
theorem sb_2 {x : SlotD} (h2 : (!inB x.seq 0 99999) = false) (h3 : (!storeOk x.cells) = false) : slotBad x = false := by unfold slotBad; rw [h2, h3]; cases x.whole <;> rfl
theorem sb_3 {x : SlotD} (h : x.whole = true) (h2 : (!inB x.seq 0 99999) = true) : slotBad x = true := by unfold slotBad; rw [h, h2]; rfl
theorem sb_4 {x : SlotD} (h : x.whole = true) (h3 : (!storeOk x.cells) = true) : slotBad x = true := by unfold slotBad; rw [h, h3]; cases inB x.seq 0 99999 <;> rfl
theorem dk_bad {D : List SlotH} {k : Nat} {x : SlotH} {j : JouD} (hx : nth D k = some x) (h : slotBad x.d = true) : false = diskOk (D.map SlotH.d) j := by
  have : (D.map SlotH.d).all (fun x => !slotBad x) = false := List.all_eq_false.2 ⟨x.d, nth_mem (map_at hx), by rw [h]; decide⟩
  unfold diskOk
  rw [this, Bool.and_false, Bool.false_and]
theorem dk_len {D : List SlotH} {n : Nat} {j : JouD} (hn : n = D.length) (h : n ≠ 2) : false = diskOk (D.map SlotH.d) j := by
  unfold diskOk
  rw [List.length_map, decide_eq_false (by omega)]; rfl
theorem dk_best {D : List SlotH} {j : JouD} (h : ¬ bestTo (D.map SlotH.d) D.length ≥ 0) : false = diskOk (D.map SlotH.d) j := by
  have : ¬ (D.map SlotH.d).any (·.whole) = true := fun e => h (by have := best_yes.2 e; rwa [List.length_map] at this)
  unfold diskOk
  rw [Bool.eq_false_iff.2 this, Bool.and_false, Bool.false_and, Bool.false_and]
theorem all_ok {D : List SlotH} {n : Nat} (hn : D.length ≤ n) (h : ∀ j, j < n → ∀ c, nth D j = some c → slotBad c.d = false) : (D.map SlotH.d).all (fun x => !slotBad x) = true := by
  rw [List.all_eq_true]
  intro x hx
  obtain ⟨y, hy, rfl⟩ := List.mem_map.1 hx
  obtain ⟨j, hj, rfl⟩ := List.mem_iff_getElem.1 hy
  rw [h j (by omega) _ (by rw [nth_eq]; exact List.getElem?_eq_getElem hj)]; rfl
theorem dk_done {D : List SlotH} {n : Nat} {j : JouD} (hn : n = D.length) (h2 : n = 2) (h3 : (D.map SlotH.d).any (·.whole) = true) (h4 : ∀ i, i < n → ∀ c, nth D i = some c → slotBad c.d = false) : jouOk j = diskOk (D.map SlotH.d) j := by
  unfold diskOk
  rw [h3, all_ok (by omega) h4, List.length_map, decide_eq_true (by omega)]; rfl
theorem dk_done2 {D : List SlotH} {n : Nat} {j : JouD} (hn : n = D.length) (h2 : n = 2) (h3 : bestTo (D.map SlotH.d) D.length ≥ 0) (h4 : ∀ i, i < n → ∀ c, nth D i = some c → slotBad c.d = false) : jouOk j = diskOk (D.map SlotH.d) j :=
  dk_done hn h2 (best_yes.1 (by rw [List.length_map]; exact h3)) h4
theorem any_at {D : List SlotH} {k : Nat} {x : SlotH} (hx : nth D k = some x) (h : x.d.whole = true) : (D.map SlotH.d).any (·.whole) = true := List.any_eq_true.2 ⟨x.d, nth_mem (map_at hx), h⟩
theorem dk_no {D : List SlotH} {n : Nat} {x y : SlotH} {j : JouD} (hn : n = D.length) (h2 : ¬ n ≠ 2) (hx : nth D 0 = some x) (hy : nth D 1 = some y) (h : x.d.whole = false) (h' : y.d.whole = false) : false = diskOk (D.map SlotH.d) j := by
  have : (D.map SlotH.d).any (·.whole) = false := by
    rw [List.any_eq_false]
    intro z hz
    obtain ⟨z, hz1, rfl⟩ := List.mem_map.1 hz
    obtain ⟨i, hi, rfl⟩ := List.mem_iff_getElem.1 hz1
    rw [nth_eq] at hx hy
    rcases (show i = 0 ∨ i = 1 by omega) with rfl | rfl
    · rw [List.getElem?_eq_getElem hi] at hx
      rw [Option.some.inj hx, h]; decide
    · rw [List.getElem?_eq_getElem hi] at hy
      rw [Option.some.inj hy, h']; decide
  unfold diskOk
  rw [this, Bool.and_false, Bool.false_and, Bool.false_and]
theorem diskOk_bd {D : List SlotH} {j : JouD} (h : (!diskOk (D.map SlotH.d) j) = false) : 0 ≤ bestTo (D.map SlotH.d) D.length ∧ bestTo (D.map SlotH.d) D.length ≤ 1 ∧ D.length = 2 := by
  have h1 := nf h
  unfold diskOk at h1
  simp only [Bool.and_eq_true, decide_eq_true_eq] at h1
  obtain ⟨⟨⟨h2, h3⟩, _⟩, _⟩ := h1
  have h4 := best_yes.2 h3
  rw [List.length_map] at h2 h4
  have h5 := (bestTo_bd (D.map SlotH.d) D.length).2
  exact ⟨h4, by omega, h2⟩
theorem jouOk_bd {j : JouD} (h : (!jouOk j) = false) : 0 ≤ j.sure ∧ j.sure ≤ ((j.text.size : Nat) : Int) ∧ j.text.size ≤ 20000 := by
  have h1 := nf h
  unfold jouOk inB at h1
  simp only [Bool.and_eq_true, decide_eq_true_eq] at h1
  omega
end Go.Proofs.YtipdbeklopjbmaaGreatDoor
/-
  Slices of bytes whose block may be marked behind its cells ([]byte(s) marks it): laid, appended to, stored into, read.
-/

namespace Go.Proofs.YtipdbeklopjbmaaGreatDoor
open Go.ChangeShapes Go.WideShapes Go.ChangeAt Go.RowKit
def OwnX (e : Nat) (w : World) (v : Value) (l : List Nat) : Prop :=
  ∃ (g cap : Nat) (cur : List Value) (mk : Nat × Nat), v = .slice (some ⟨g, 0, none⟩) l.length cap ∧ w.heap[g]? = some (.cells cur.toArray e mk) ∧ l.length ≤ cap ∧ cap ≤ maxLen ∧ cur.length = cap ∧ cur.take l.length = flat encB l ∧ (∀ x ∈ l, okB x) ∧ (cap ≤ mk.1 ∨ mk.2 = 0)
theorem OwnX.same {e : Nat} {w w' : World} {v : Value} {l : List Nat} (h : OwnX e w v l) (hb : ∀ b, v.ownBlock = some b → w'.heap[b]? = w.heap[b]?) : OwnX e w' v l := by
  obtain ⟨g, cap, cur, mk, rfl, h1, h2⟩ := h
  exact ⟨g, cap, cur, mk, rfl, (hb g rfl).trans h1, h2⟩
theorem OwnX.lt {e : Nat} {w : World} {v : Value} {l : List Nat} (h : OwnX e w v l) {b : Nat} (hb : v.ownBlock = some b) : b < w.heap.size := by
  obtain ⟨g, cap, cur, mk, rfl, h1, h2⟩ := h
  have : g = b := Option.some.inj hb
  subst this
  exact (Array.getElem?_eq_some_iff.1 h1).1
theorem OwnX.cellAt {e : Nat} {w : World} {g n cap : Nat} {l : List Nat} (h : OwnX e w (.slice (some ⟨g, 0, none⟩) n cap) l) (i : Nat) (x : Nat) (hx : l[i]? = some x) : w.cell? ⟨g, i, none⟩ = some (.int .u8 ((x : Nat) : Int)) := by
  obtain ⟨g', cap', cur, mk, e1, h1, h2, h3, h4, h5, h6, h7⟩ := h
  cases e1
  have hi : i < l.length := (List.getElem?_eq_some_iff.1 hx).1
  have hf := flat_at (enc := encB) (k := 1) (fun _ => rfl) l i x hx 0 (by omega)
  have hc : cur[i]? = some (.int .u8 ((x : Nat) : Int)) := by
    have h8 : (cur.take l.length)[i]? = cur[i]? := by rw [List.getElem?_take, if_pos hi]
    rw [← h8, h5]
    simpa [encB] using hf
  simp [World.cell?, h1, hc]
theorem OwnX.rd {e : Nat} {w : World} {v : Value} {l : List Nat} (h : OwnX e w v l) : RSl 1 (Enc encB okB) w v l := by
  have h0 := h
  obtain ⟨g, cap, cur, mk, rfl, h1, h2, h3, h4, h5, h6, h7⟩ := h
  refine RSl.mk g 0 cap rfl h2 h3 fun i x hx => ⟨encB x, rfl, ⟨rfl, h6 x (List.mem_of_getElem? hx)⟩, fun j u hj => ?_⟩
  cases j with
  | zero =>
    cases hj
    have := h0.cellAt i x hx
    simpa using this
  | succ j => cases hj
def owX (e : Nat) (v : Value) (l : List Nat) : Atom where
  fp := fun c => v.ownBlock = some c
  ok := fun w => OwnX e w v l
  st := fun _ _ h k => k.same h
theorem At.rdX {e : Nat} {w : World} {L : List Atom} (h : At w L) (i : Nat) {v : Value} {l : List Nat} (hL : nth L i = some (owX e v l)) : Rd 1 encB okB (fun _ => True) w v l :=
  ⟨OwnX.rd (h.ok _ (nth_mem hL)), fun _ _ _ _ _ => trivial⟩
theorem At.ownInvX {e : Nat} {w : World} {L : List Atom} {a : Option Addr} {n c : Nat} {l : List Nat} (h : At w L) (i : Nat) (hL : nth L i = some (owX e (.slice a n c) l)) : n = l.length ∧ n ≤ c ∧ c ≤ 9223372036854775807 := by
  obtain ⟨h1, h2, h3, _⟩ := (h.rdX i hL).inv
  exact ⟨h1, h2, h3⟩
theorem spliceX {v : Value} {r cur : List Value} {o : Nat} (h : o + (r.length + 1) ≤ cur.length) : spliceV (cur.set o v) (o + 1) r = spliceV cur o (v :: r) := by
  unfold spliceV
  have h1 : o < cur.length := by omega
  rw [List.set_eq_take_append_cons_drop, if_pos h1]
  have e1 : (cur.take o).length = o := by rw [List.length_take]; omega
  have e2 : (cur.take o ++ v :: cur.drop (o + 1)).take (o + 1) = cur.take o ++ [v] := by
    rw [List.take_append, e1, List.take_of_length_le (by omega), show o + 1 - o = 1 by omega]
    rfl
  have e3 : (cur.take o ++ v :: cur.drop (o + 1)).drop (o + 1 + r.length) = cur.drop (o + (r.length + 1)) := by
    rw [List.drop_append, e1, List.drop_eq_nil_of_le (by omega), show o + 1 + r.length - o = r.length + 1 by omega, List.drop_succ_cons, List.drop_drop, List.nil_append]
    congr 1
    omega
  rw [e2, e3]
  simp
theorem heap_setCells {b e : Nat} {mk : Nat × Nat} : ∀ (vs : List Value) (o : Nat) (w : World) (cur : List Value), w.heap[b]? = some (.cells cur.toArray e mk) → o + vs.length ≤ cur.length → (w.setCells b o vs).heap[b]? = some (.cells (spliceV cur o vs).toArray e mk)
  | [], o, w, cur, h, _ => by simpa [World.setCells, spliceV] using h
  | v :: r, o, w, cur, h, hl => by
    have hl' : o + (r.length + 1) ≤ cur.length := by simpa using hl
    rw [World.setCells, ← spliceX hl']
    refine heap_setCells r (o + 1) _ (cur.set o v) ?_ (by rw [List.length_set]; omega)
    show (w.heap.modify b _)[b]? = _
    rw [Array.getElem?_modify, if_pos rfl, h]
    simp
theorem setX_all (b : Nat) : ∀ (vs : List Value) (o : Nat) (w : World), (w.setCells b o vs).os = w.os ∧ (w.setCells b o vs).tape = w.tape ∧ (w.setCells b o vs).output = w.output ∧ (w.setCells b o vs).heap.size = w.heap.size ∧ ∀ q, q ≠ b → (w.setCells b o vs).heap[q]? = w.heap[q]?
  | [], o, w => ⟨rfl, rfl, rfl, rfl, fun _ _ => rfl⟩
  | v :: r, o, w => by
    obtain ⟨h1, h2, h3, h4, h5⟩ := setX_all b r (o + 1) (w.setCell ⟨b, o, none⟩ v)
    rw [World.setCells]
    refine ⟨h1.trans rfl, h2.trans rfl, h3.trans rfl, h4.trans (by simp [World.setCell]), fun q hq => (h5 q hq).trans ?_⟩
    simp [World.setCell, Array.getElem?_modify, Ne.symm hq]
section
variable {P : Program} {ops : Array Oper} {Q : Exit → Act → World → Prop} {K : Act → World → Prop} {o : Oper} {a : Act} {w : World} {L : List Atom} {d n : Nat} {m : List (Nat × Value)}
theorem mv_freshX {e : Nat} {w w' : World} {v : Value} {l : List Nat} (hO : OwnX e w' v l) (hf : ∀ b ∈ v.ownBlock.toList, w.heap.size ≤ b) (hb : Bl w w') : Mv [] w [owX e v l] w' :=
  Bl.mv_new (At.one hO (fun b hb => hO.lt hb)) (fun b ⟨B, hB, hb⟩ => by rcases List.mem_singleton.1 hB with rfl; have h : v.ownBlock = some b := hb; exact hf b (by simp [h])) hb
theorem mv_setX {e g cap off : Nat} {vs : List Value} {l l' : List Nat} (A : At w L) (i : Nat) (hL : nth L i = some (owX e (.slice (some ⟨g, 0, none⟩) l.length cap) l)) (hsel : okSel L.length [i] = true)
    (hk : off + vs.length ≤ cap) (hl : l'.length ≤ cap) (hc : ∀ cur : List Value, cur.length = cap → cur.take l.length = flat encB l → (spliceV cur off vs).take l'.length = flat encB l') (hok : ∀ x ∈ l', okB x) :
    (∀ j, j < vs.length → (w.cell? ⟨g, off + j, none⟩).isSome = true) ∧ (∀ j, j < vs.length → w.frozen? ⟨g, off + j, none⟩ = false) ∧ Mv L w ([owX e (.slice (some ⟨g, 0, none⟩) l'.length cap) l'] ++ del L [i]) (w.setCells g off vs) := by
  have hO : OwnX e w (.slice (some ⟨g, 0, none⟩) l.length cap) l := A.ok _ (nth_mem hL)
  have hlt := hO.lt (b := g) rfl
  obtain ⟨g', cap', cur, mk, e1, h1, h2, h3, h4, h5, h6, h7⟩ := hO
  cases e1
  obtain ⟨s1, s2, s3, s4, s5⟩ := setX_all g vs off w
  refine ⟨fun j hj => ?_, fun j hj => ?_, A.frame [i] hsel ?_⟩
  · have : off + j < cur.length := by omega
    simp [World.cell?, h1, this]
  · have h8 : ¬ (mk.1 ≤ off + j ∧ off + j < mk.2) := by omega
    simp only [World.frozen?, h1]
    by_cases h9 : mk.1 ≤ off + j
    · have : ¬ off + j < mk.2 := fun h => h8 ⟨h9, h⟩
      simp [this]
    · simp [h9]
  · have e2 : sel L [i] = [owX e (.slice (some ⟨g, 0, none⟩) l.length cap) l] := by simp [sel, hL]
    rw [e2]
    have hO2 : OwnX e (w.setCells g off vs) (.slice (some ⟨g, 0, none⟩) l'.length cap) l' :=
      ⟨g, cap, spliceV cur off vs, mk, rfl, heap_setCells vs off w cur h1 (by omega), hl, h3, by unfold spliceV; simp; omega, hc cur h4 h5, hok, h7⟩
    exact ⟨At.one hO2 (fun q hq => by have h : some g = some q := hq; cases h; rw [s4]; exact hlt), fun q ⟨B, hB, hq⟩ => by rcases List.mem_singleton.1 hB with rfl; exact .inl ⟨_, List.mem_singleton.2 rfl, hq⟩, ⟨s1, s2, s3, by rw [s4]; exact Nat.le_refl _, fun q _ hn => s5 q (fun e => hn ⟨_, List.mem_singleton.2 rfl, by subst e; rfl⟩)⟩⟩
theorem takeX_app {cur vs : List Value} {l news : List Nat} (h : cur.take l.length = flat encB l) (hv : vs = flat encB news) : (spliceV cur l.length vs).take (l ++ news).length = flat encB (l ++ news) := by
  subst hv
  have e1 := flat_length (enc := encB) (k := 1) (fun _ => rfl) news
  have e2 := flat_length (enc := encB) (k := 1) (fun _ => rfl) l
  unfold spliceV
  rw [h, flat_append]
  exact List.take_left' (by rw [List.length_append, List.length_append, e1, e2]; omega)
theorem r_appX {ty : TypeId} {t e bytes : Nat} {z : Value} {s x : Operand} {v xv : Value} {l news : List Nat} {ρ : Operand → Value} (E : ElemT P t e z 1 bytes encB) (A : At w L) (i : Nat) (hL : nth L i = some (owX e v l)) (ho : o.op = .call { callee := .builtin .append, args := #[s, x], argTypes := #[t, t] }) (hty : o.type = ty)
    (hs : ρ s = v) (hx : ρ x = xv) (hnews : RSl 1 (Enc encB okB) w xv news) (hne : news ≠ []) (hbytes : (l.length + news.length) * bytes ≤ 140737488355328) (hok : okSel L.length [i] = true) :
    ∃ a n c w', (execOp ρ o).run P w = .ok (.value (.slice a n c)) w' ∧ n = (l ++ news).length ∧ Mv L w ([owX e (.slice a n c) (l ++ news)] ++ del L [i]) w' := by
  have hO : OwnX e w v l := A.ok _ (nth_mem hL)
  have hO1 := hO
  have hnok := hnews.allOk
  obtain ⟨g, cap, cur, mk, rfl, h1, h2, h3, h4, h5, h6, h7⟩ := hO
  rcases hnews.cells E.hk E.hT.pos with ⟨c0, rfl, rfl⟩ | ⟨b, c0, rfl, hc⟩
  · exact absurd rfl hne
  obtain ⟨inf, hi, hz0, hz1, hz2⟩ := info_parts E.hT.info
  have hok' : ∀ x ∈ l ++ news, okB x := fun x hx' => (List.mem_append.1 hx').elim (h6 x) (hnok x)
  have hlv : (flat encB news).length = news.length * 1 := flat_length (enc := encB) (k := 1) (fun _ => rfl) news
  have hno : l.length + news.length ≤ maxLen := by
    have : (l.length + news.length) * 1 ≤ (l.length + news.length) * bytes := Nat.mul_le_mul_left _ E.by0
    unfold maxLen; omega
  by_cases hr : l.length + news.length ≤ cap
  · obtain ⟨m1, m2, m3⟩ := mv_setX (off := l.length) (vs := flat encB news) (l' := l ++ news) A i hL hok (by omega) (by rw [List.length_append]; exact hr) (fun cur' q1 q2 => takeX_app q2 rfl) hok'
    have hrun := run_append_room_cells (P := P) w t ty e inf E.ht hi g 0 l.length cap b news.length c0 (flat encB news) (by rw [hlv, hz1]) hc (flat_one E news) hr (by rw [hz1]; intro j hj; first | exact m1 j hj | (simp only [Nat.mul_one]; exact m1 j hj) | (simp; done) | simpa using m1 j hj) (by rw [hz1]; intro j hj; first | exact m2 j hj | (simp only [Nat.mul_one]; exact m2 j hj) | (simp; done) | simpa using m2 j hj)
    rw [hz1] at hrun
    refine ⟨_, _, _, _, ?_, ?_, m3⟩
    · subst hty
      simp [execOp, ho, resolve, invoke, builtin, hs, hx, hrun]
    · rfl
  · obtain ⟨v', w', hrun, hown, hgr⟩ := run_append_arg_grows (P := P) w t ty e inf z 1 bytes E.ht hi hz0 hz1 hz2 E.hT.zs E.hT.pos ⟨g, 0, none⟩ l.length cap (flat encB l) (flat_length (enc := encB) (k := 1) (fun _ => rfl) l)
      (fun j u hj => by
        have hj' : j < l.length := by
          have := (List.getElem?_eq_some_iff.1 hj).1
          rw [flat_length (enc := encB) (k := 1) (fun _ => rfl) l] at this
          omega
        have hx' : l[j]? = some l[j] := by simp [hj']
        have hf := flat_at (enc := encB) (k := 1) (fun _ => rfl) l j _ hx' 0 (by omega)
        simp only [Nat.mul_one, Nat.add_zero] at hf
        rw [hj] at hf
        have : u = .int .u8 ((l[j] : Nat) : Int) := Option.some.inj hf
        rw [this, add_flat, Nat.zero_add]
        exact hO1.cellAt j _ hx') b news.length c0 (flat encB news) hlv hc (by omega) hno hbytes
    rcases hown.2 with ⟨_, h0⟩ | ⟨g', cap', cur', rfl, hb0, hg', hc', hm', hs', ht'⟩
    · have : news.length ≠ 0 := fun h => hne (List.eq_nil_of_length_eq_zero h)
      omega
    have hO2 : OwnX e w' (.slice (some ⟨g', 0, none⟩) (l.length + news.length) cap') (l ++ news) :=
      ⟨g', cap', cur'.toList, (0, 0), by rw [List.length_append], by simpa using hg', by rw [List.length_append]; exact hc', hm', by simpa using hs', by rw [List.length_append, flat_append]; simpa using ht', hok', .inr rfl⟩
    refine ⟨some ⟨g', 0, none⟩, l.length + news.length, cap', w', ?_, (List.length_append ..).symm, ?_⟩
    · subst hty
      simp [execOp, ho, resolve, invoke, builtin, hs, hx, hrun]
    · have hM := mv_freshX (w := w) hO2 (fun q hq => by
        have : q = g' := by simpa [Value.ownBlock, eq_comm] using hq
        rw [this]
        exact hb0) ((Bl.refl w).grown hgr (Nat.le_refl _) (fun _ h => by cases h))
      have h9 := At.frame (New := [owX e (.slice (some ⟨g', 0, none⟩) (l.length + news.length) cap') (l ++ news)]) (A.drop i).at' [] rfl hM
      rw [del_none] at h9
      exact (A.drop i).trans h9
theorem f_appX {t e bytes : Nat} {z : Value} {s x : Operand} {v xv : Value} {l news : List Nat} (F : Fr n m a) (A : At w L) (i : Nat) (E : ElemT P t e z 1 bytes encB) (hL : nth L i = some (owX e v l)) (hsel : okSel L.length [i] = true) (hw : Region.wanted o (yielded ops a.tmps) = true) (hd : o.dst = some d)
    (ho : o.op = .call { callee := .builtin .append, args := #[s, x], argTypes := #[t, t] }) (hp : Nat.blt d n = true) (hs : a.eval s = v) (hx : a.eval x = xv) (hnews : RSl 1 (Enc encB okB) w xv news) (hne : news ≠ []) (hbytes : (l.length + news.length) * bytes ≤ 140737488355328)
    (kk : ∀ b q c a' w', Fr n ((d, .slice b q c) :: m) a' → Mv L w ([owX e (.slice b q c) (l ++ news)] ++ del L [i]) w' → q = (l ++ news).length → K a' w') : st1 P ops Q o K a w := by
  obtain ⟨b, q, c, w', h1, h2, h3⟩ := r_appX (o := o) (ρ := a.eval) E A i hL ho rfl hs hx hnews hne hbytes hsel
  exact s_valw hw hd h1 fun _ e' => kk _ _ _ _ _ (F.put e' hp) h3 h2
theorem bytesX {w : World} {e : Nat} (s : ByteArray) (hsz : s.size ≤ 9223372036854775807) (bs : List Nat) (hl : bs.length = s.size) (hb : ∀ x ∈ bs, x < 256) (hx : ∀ i x, bs[i]? = some x → (s.data.toList.getD i 0).toNat = x) : OwnX e (Lib.bytesWorld w e s) (.slice (some ⟨w.heap.size, 0, none⟩) s.size (grownCap w s.size 0 e)) bs := by
  have hge := grownCap_ge w s.size 0 e
  have hsz2 : (Lib.bytesCells w e s).size = grownCap w s.size 0 e := by
    simp [Lib.bytesCells]
    have : s.data.size = s.size := rfl
    omega
  refine ⟨w.heap.size, grownCap w s.size 0 e, (Lib.bytesCells w e s).toList, ((Lib.bytesCells w e s).size, (Lib.bytesCells w e s).size + 1), by rw [hl], by simpa using Lib.bytesWorld_at_new w e s, by rw [hl]; exact hge, grownCap_le_maxLen w _ 0 e (by unfold maxLen; omega), by simpa using hsz2, ?_, hb, .inl (by rw [hsz2]; exact Nat.le_refl _)⟩
  have h1 : (Lib.bytesCells w e s).toList = s.data.toList.map (fun b => Value.int .u8 b.toNat) ++ List.replicate (grownCap w s.size 0 e - s.size) (.int .u8 0) := by
    simp [Lib.bytesCells]
  rw [h1, List.take_left' (by rw [List.length_map, hl]; rfl)]
  have h2 : ∀ bs : List Nat, flat encB bs = bs.map (fun x => Value.int .u8 ((x : Nat) : Int)) := by
    intro bs
    unfold flat encB
    induction bs with
    | nil => rfl
    | cons x l ih => simpa using ih
  rw [h2]
  apply List.ext_getElem?
  intro i
  rw [List.getElem?_map, List.getElem?_map]
  by_cases hi : i < bs.length
  · have e1 := hx i bs[i] (by simp [hi])
    have hi2 : i < s.data.toList.length := by
      have : s.data.toList.length = s.size := rfl
      omega
    rw [List.getD_eq_getElem?_getD, List.getElem?_eq_getElem hi2] at e1
    rw [List.getElem?_eq_getElem hi, List.getElem?_eq_getElem hi2]
    simp only [Option.map_some, ← e1, Option.getD_some]
  · have hi2 : ¬ i < s.data.toList.length := by
      have : s.data.toList.length = s.size := rfl
      omega
    rw [List.getElem?_eq_none (by omega), List.getElem?_eq_none (by omega)]
    rfl
end
end Go.Proofs.YtipdbeklopjbmaaGreatDoor
