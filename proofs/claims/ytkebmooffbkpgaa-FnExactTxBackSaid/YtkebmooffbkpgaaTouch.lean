/-
  Contracts: adding a span to a list of spans (impl.addSpan in place, spec.l02Put, spec.AddSpan), access sets.
-/
import Derived.Test.YtkebmooffbkpgaaSlices
namespace Go.Proofs.Ytkebmooffbkpgaa
open Go.ChangeShapes Go.WideShapes Go.ChangeAt Go.RowKit
set_option maxHeartbeats 1000000
set_option maxRecDepth 100000

/-- A text put into a list, ahead of the first that is not below it; not a second time. -/
def putL (l : List ByteArray) (x : ByteArray) : List ByteArray := if l[l.findIdx (geS x)]? = some x then l else insAt l (l.findIdx (geS x)) x
theorem insAt_length {α : Type} (l : List α) (i : Nat) (x : α) (h : i ≤ l.length) : (insAt l i x).length = l.length + 1 := by simp [insAt]; omega
theorem putL_length (l : List ByteArray) (x : ByteArray) : (putL l x).length ≤ l.length + 1 := by
  unfold putL
  split
  · omega
  · rw [insAt_length _ _ _ List.findIdx_le_length]; omega
theorem ownBlock_addr {a : Option Addr} {n cap : Nat} : (Value.slice a n cap).ownBlock.toList = (a.map (·.block)).toList := by cases a <;> rfl

theorem putL_at (l : List ByteArray) (x : ByteArray) (k : Nat) (hk : k ≤ l.length) (hlt : ∀ q, q < k → ∀ y, l[q]? = some y → geS x y = false) (hend : ∀ y, l[k]? = some y → geS x y = true) : l.findIdx (geS x) = k := by
  rcases Nat.lt_or_ge k l.length with h | h
  · exact findIdx_found _ _ k l[k] (by simp [h]) (hend _ (by simp [h])) hlt
  · obtain rfl : k = l.length := by omega
    rw [List.findIdx_eq_length]
    intro y hy
    obtain ⟨i, hi, rfl⟩ := List.mem_iff_getElem.1 hy
    simpa using hlt i hi _ (by simp [hi])

end Go.Proofs.Ytkebmooffbkpgaa
