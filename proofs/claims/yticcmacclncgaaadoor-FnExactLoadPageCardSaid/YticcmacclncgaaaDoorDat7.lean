/-
  Lists are equal; clashes; covers.
-/
import Derived.Test.YticcmacclncgaaaDoorDat6
namespace Go.Proofs.YticcmacclncgaaaDoor
open Go.ChangeShapes Go.WideShapes Go.ChangeAt Go.RowKit
set_option maxRecDepth 100000
set_option maxHeartbeats 1000000

theorem eqL_len {α : Type} [DecidableEq α] {a b : List α} {m n : Nat} (ha : m = a.length) (hb : n = b.length) (h : m ≠ n) : decide (a = b) = false := decide_eq_false fun e => h (by subst e; rw [ha, hb])
theorem eqL_at {α : Type} [DecidableEq α] {a b : List α} {k : Nat} {x y : α} (hx : nth a k = some x) (hy : nth b k = some y) (h : x ≠ y) : decide (a = b) = false := decide_eq_false fun e => h (by subst e; exact Option.some.inj (hx.symm.trans hy))
theorem eqL_step {α : Type} {a b : List α} {k : Nat} {x y : α} (h : a.take k = b.take k) (hx : nth a k = some x) (hy : nth b k = some y) (e : ¬ x ≠ y) : a.take (k + 1) = b.take (k + 1) := by
  rw [nth_take_snoc hx, nth_take_snoc hy, h, Classical.not_not.1 e]
theorem eqL_end {α : Type} [DecidableEq α] {a b : List α} {k : Nat} (h : a.take k = b.take k) (ha : a.length ≤ k) (hb : b.length ≤ k) : decide (a = b) = true := by
  rw [List.take_of_length_le ha, List.take_of_length_le hb] at h
  exact decide_eq_true h
theorem cl_1 {a b : TouchD} (h : meetAny a.writes b.reads = true) : clashT a b = true := by simp [clashT, h]
theorem cl_2 {a b : TouchD} (h : meetAny a.writes b.writes = true) : clashT a b = true := by simp [clashT, h]
theorem cl_3 {a b : TouchD} (h1 : meetAny a.writes b.reads = false) (h2 : meetAny a.writes b.writes = false) : clashT a b = meetAny a.reads b.writes := by simp [clashT, h1, h2]
theorem cl_4 {a b : TouchD} (h1 : meetAny a.writes b.reads = false) (h2 : meetAny a.writes b.writes = false) : clashT a b = meetAny b.writes a.reads := by rw [cl_3 h1 h2, meetAny_comm]
theorem nth_some {α : Type} {l : List α} {k : Nat} (h : k < l.length) : ∃ x, nth l k = some x := ⟨l[k], by rw [nth_eq]; simp [h]⟩
theorem all_bad {α : Type} {p : α → Bool} {l : List α} {k : Nat} {x : α} (hx : nth l k = some x) (h : p x = false) : l.all p = false := List.all_eq_false.2 ⟨x, nth_in hx, by simp [h]⟩
theorem all_good {α : Type} {p : α → Bool} {l : List α} {k : Nat} (hk : l.length ≤ k) (h : ∀ j, j < k → ∀ x, nth l j = some x → p x = true) : l.all p = true := by
  rw [List.all_eq_true]
  intro x hx
  obtain ⟨j, hj, rfl⟩ := List.mem_iff_getElem.1 hx
  exact h j (by omega) l[j] (by rw [nth_eq]; simp [hj])
theorem any_more {α : Type} {p : α → Bool} {l : List α} {k : Nat} {b : Bool} (h : b = (l.take k).any p) (hb : b = true) : true = (l.take (k + 1)).any p := by
  have h1 : (l.take k).any p = true := h.symm.trans hb
  obtain ⟨x, hx, hp⟩ := List.any_eq_true.1 h1
  exact (List.any_eq_true.2 ⟨x, (by rw [show l.take k = (l.take (k + 1)).take k by rw [List.take_take, Nat.min_eq_left (Nat.le_succ k)]] at hx; exact List.mem_of_mem_take hx), hp⟩).symm
theorem any_snoc {α : Type} {p : α → Bool} {l : List α} {k : Nat} {x : α} (hx : nth l k = some x) : (l.take (k + 1)).any p = ((l.take k).any p || p x) := by rw [nth_take_snoc hx, List.any_append]; simp
theorem any_step {α : Type} {p : α → Bool} {l : List α} {k : Nat} {x : α} {b : Bool} (h : b = (l.take k).any p) (hb : b = false) (hx : nth l k = some x) : p x = (l.take (k + 1)).any p := by
  rw [any_snoc hx, ← h, hb]; rfl
end Go.Proofs.YticcmacclncgaaaDoor
