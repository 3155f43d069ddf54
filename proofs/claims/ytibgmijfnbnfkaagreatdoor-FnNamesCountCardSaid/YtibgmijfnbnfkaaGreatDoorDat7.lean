/-
  Lists are equal; clashes; covers.
-/
import Derived.Test.YtibgmijfnbnfkaaGreatDoorDat
import Derived.Test.YtibgmijfnbnfkaaGreatDoorEng8
namespace Go.Proofs.YtibgmijfnbnfkaaGreatDoor
open Go.ChangeShapes Go.WideShapes Go.ChangeAt Go.RowKit
set_option maxRecDepth 100000
set_option maxHeartbeats 1000000

theorem nth_in {α : Type} {l : List α} {k : Nat} {x : α} (h : nth l k = some x) : x ∈ l := List.mem_of_getElem? (by rw [← nth_eq]; exact h)
structure CurD where
  code : List Nat
  pos : Nat
  h : Int

theorem eqL_len {α : Type} [DecidableEq α] {a b : List α} {m n : Nat} (ha : m = a.length) (hb : n = b.length) (h : m ≠ n) : decide (a = b) = false := decide_eq_false fun e => h (by subst e; rw [ha, hb])
theorem eqL_at {α : Type} [DecidableEq α] {a b : List α} {k : Nat} {x y : α} (hx : nth a k = some x) (hy : nth b k = some y) (h : x ≠ y) : decide (a = b) = false := decide_eq_false fun e => h (by subst e; exact Option.some.inj (hx.symm.trans hy))
theorem eqL_step {α : Type} {a b : List α} {k : Nat} {x y : α} (h : a.take k = b.take k) (hx : nth a k = some x) (hy : nth b k = some y) (e : ¬ x ≠ y) : a.take (k + 1) = b.take (k + 1) := by
  rw [nth_take_snoc hx, nth_take_snoc hy, h, Classical.not_not.1 e]
theorem eqL_end {α : Type} [DecidableEq α] {a b : List α} {k : Nat} (h : a.take k = b.take k) (ha : a.length ≤ k) (hb : b.length ≤ k) : decide (a = b) = true := by
  rw [List.take_of_length_le ha, List.take_of_length_le hb] at h
  exact decide_eq_true h
end Go.Proofs.YtibgmijfnbnfkaaGreatDoor
