/-
  Clash is symmetric and goes by parts.
-/
import Derived.Test.YticcmacclncgaaaDoorDat8
namespace Go.Proofs.YticcmacclncgaaaDoor
open Go.ChangeShapes Go.WideShapes Go.ChangeAt Go.RowKit
set_option maxRecDepth 100000
set_option maxHeartbeats 1000000

theorem joinL_mem {l m : List ByteArray} {y : ByteArray} : y ∈ joinL l m ↔ y ∈ l ∨ y ∈ m := by
  induction m generalizing l with
  | nil => simp [joinL]
  | cons x m ih =>
    have : joinL l (x :: m) = joinL (putL l x) m := rfl
    rw [this, ih, putL_mem, List.mem_cons]
    constructor
    · rintro ((h | h) | h)
      · exact .inl h
      · exact .inr (.inl h)
      · exact .inr (.inr h)
    · rintro (h | h | h)
      · exact .inl (.inl h)
      · exact .inl (.inr h)
      · exact .inr h
theorem meetAny_join (l m k : List ByteArray) : meetAny (joinL l m) k = (meetAny l k || meetAny m k) := by
  rw [Bool.eq_iff_iff]
  simp only [meetAny, Bool.or_eq_true, List.any_eq_true, joinL_mem]
  constructor
  · rintro ⟨x, h | h, r⟩
    · exact .inl ⟨x, h, r⟩
    · exact .inr ⟨x, h, r⟩
  · rintro (⟨x, h, r⟩ | ⟨x, h, r⟩)
    · exact ⟨x, .inl h, r⟩
    · exact ⟨x, .inr h, r⟩
theorem clashT_comm (a b : TouchD) : clashT a b = clashT b a := by
  unfold clashT
  rw [meetAny_comm b.writes a.reads, meetAny_comm b.writes a.writes, meetAny_comm b.reads a.writes]
  cases meetAny a.writes b.reads <;> cases meetAny a.writes b.writes <;> cases meetAny a.reads b.writes <;> rfl
theorem clashT_join (a b x : TouchD) : clashT (joinT a b) x = (clashT a x || clashT b x) := by
  unfold clashT joinT
  simp only [meetAny_join]
  cases meetAny a.writes x.reads <;> cases meetAny b.writes x.reads <;> cases meetAny a.writes x.writes <;> cases meetAny b.writes x.writes <;> cases meetAny a.reads x.writes <;> cases meetAny b.reads x.writes <;> rfl
theorem clashT_j1 {a b x : TouchD} (h : clashT a x = true) : clashT (joinT a b) x = true := by rw [clashT_join, h]; rfl
theorem clashT_j2 {a b x : TouchD} (h : clashT a x = false) : clashT (joinT a b) x = clashT b x := by rw [clashT_join, h]; rfl
theorem putL_at2 (l : List ByteArray) (x : ByteArray) (h : ltS x x = false) : putL (putL l x) x = putL l x := by
  have hle : l.findIdx (geS x) ≤ l.length := List.findIdx_le_length
  have hlt : ∀ q, q < l.findIdx (geS x) → ∀ y, l[q]? = some y → geS x y = false := fun q hq y hy => by
    obtain ⟨h3, rfl⟩ := List.getElem?_eq_some_iff.1 hy
    have := List.not_of_lt_findIdx hq
    simpa using this
  have hge : geS x x = true := by simp [geS, h]
  by_cases hx : l[l.findIdx (geS x)]? = some x
  · have e : putL l x = l := by unfold putL; rw [if_pos hx]
    rw [e, e]
  · have e : putL l x = insAt l (l.findIdx (geS x)) x := by unfold putL; rw [if_neg hx]
    have hat : (insAt l (l.findIdx (geS x)) x)[l.findIdx (geS x)]? = some x := by
      unfold insAt
      rw [List.getElem?_append_right (by rw [List.length_take]; omega), List.length_take, Nat.min_eq_left hle, Nat.sub_self]
      rfl
    have hfi : (insAt l (l.findIdx (geS x)) x).findIdx (geS x) = l.findIdx (geS x) := findIdx_found _ _ _ x hat hge fun q hq y hy => by
      unfold insAt at hy
      rw [List.getElem?_append_left (by rw [List.length_take]; omega), List.getElem?_take_of_lt hq] at hy
      exact hlt q hq y hy
    rw [e]
    unfold putL
    rw [hfi, if_pos hat]
theorem ltS_self (x : ByteArray) : ltS x x = false := by
  have h : ∀ l : List UInt8, Op.bytesLess l l = false := by
    intro l
    induction l with
    | nil => rfl
    | cons a l ih => simp [Op.bytesLess, ih]
  exact h _
theorem putL_idem (l : List ByteArray) (x : ByteArray) : putL (putL l x) x = putL l x := putL_at2 l x (ltS_self x)
end Go.Proofs.YticcmacclncgaaaDoor
