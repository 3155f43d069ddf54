/-
  Disks in new memory: their data.
-/
import Derived.Test.YtgfilegkabbliaaGreatDatDr
namespace Go.Proofs.YtgfilegkabbliaaGreat
open Go.ChangeShapes Go.WideShapes Go.ChangeAt Go.RowKit
set_option maxRecDepth 100000
set_option maxHeartbeats 1000000

/-- The pieces of the first elements, one more of them now. -/
theorem gr_pushT {α : Type} {inns : α → List Inn} {D : List α} {w : World} {L : List Atom} (A : At w L) (is : List Nat) (x' : α) (k : Nat) (hk : k < D.length) (hs : sel L is = pcs inns x' ++ [gr inns (D.take k)]) (hq : okSel L.length is = true) : Mv L w ([gr inns ((D.set k x').take (k + 1))] ++ del L is) w := by
  have e : (D.set k x').take (k + 1) = D.take k ++ [x'] := by
    rw [List.take_succ_eq_append_getElem (by rw [List.length_set]; exact hk), List.getElem_set_self, List.take_set_of_le (Nat.le_refl k)]
  rw [e]
  exact gr_push A is x' hs hq
theorem dropk_at {α : Type} {D l : List α} {k : Nat} {x : α} (h : D.drop k = l.drop k) (hx : nth D k = some x) : nth l k = some x := by
  rw [nth_eq] at *
  have h1 : (D.drop k)[0]? = (l.drop k)[0]? := by rw [h]
  rw [List.getElem?_drop, List.getElem?_drop] at h1
  rw [← hx]; exact h1.symm
theorem dropk_step {α : Type} {D l : List α} {k : Nat} {y : α} (h : D.drop k = l.drop k) : (D.set k y).drop (k + 1) = l.drop (k + 1) := by
  have h1 : (D.set k y).drop (k + 1) = D.drop (k + 1) := by
    apply List.ext_getElem?
    intro i
    rw [List.getElem?_drop, List.getElem?_drop, List.getElem?_set_ne (by omega)]
  have h2 : (D.drop k).drop 1 = (l.drop k).drop 1 := by rw [h]
  rw [List.drop_drop, List.drop_drop] at h2
  rw [h1]; exact h2
theorem set_map_same {α β : Type} {f : α → β} {D : List α} {L : List β} {k : Nat} {x y : α} (h : D.map f = L) (hx : nth D k = some x) (hy : f y = f x) : (D.set k y).map f = L := by
  rw [List.map_set, h, hy]
  have h1 := dM_at h hx
  rw [nth_eq] at h1
  obtain ⟨hk, e⟩ := List.getElem?_eq_some_iff.1 h1
  rw [← e]; exact List.set_getElem_self hk
section
variable {P : Program} {ρ : Operand → Value} {w : World} {o : Oper} {x y : Operand} {t u : TypeId}
theorem r_remC {m c : Nat} {n : Int} (hn : n = (c : Int)) (hc : 0 < c) (ho : o.op = .binOp .rem t x y u) (hx : ρ x = .int .i64 ((m : Nat) : Int)) (hy : ρ y = .int .i64 n) : (execOp ρ o).run P w = .ok (.value (.int .i64 ((m % c : Nat) : Int))) w := by
  subst hn
  have := r_remN (P := P) (w := w) (n := (c : Int)) (by omega) ho hx hy
  simpa using this
end
/-- Slots as the laws mark them. -/
def cntSl (x : SlotD) : Nat := 2 + 2 * x.cells.length
def markSlE (k : Nat) (x : SlotD) : SlotD := ⟨((k : Nat) : Int), marksC (k + 1) x.cells.length, decide ((k + 1 + 2 * x.cells.length) % 3 = 0)⟩
theorem cntSl_eq (x : SlotD) : cntSl x = 2 + 2 * x.cells.length := rfl
theorem slotsFit.cnt {l : List SlotD} (h : slotsFit 1048576 l) : sumOf cntSl l ≤ 1125899906842624 := by
  have h1 := sumOf_bound (f := cntSl) (l := l) (n := 4194304) fun x hx => by
    have := h.2 x hx
    unfold cntSl; omega
  have h2 := Nat.mul_le_mul_right 4194304 h.1
  omega
end Go.Proofs.YtgfilegkabbliaaGreat
