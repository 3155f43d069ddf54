/-
  Contracts: the library's generic functions on slices (Clone, IndexFunc, Insert, DeleteFunc), at slices of strings and of cells.
-/
import Derived.Test.YtgfilegkabbliaaGreatStrs
namespace Go.Proofs.YtgfilegkabbliaaGreat
open Go.ChangeShapes Go.WideShapes Go.ChangeAt Go.RowKit
set_option maxHeartbeats 1000000
set_option maxRecDepth 100000

/-! ### cells -/
structure CellD where
  key : ByteArray
  val : ByteArray
deriving DecidableEq
def encC (c : CellD) : List Value := [.string c.key, .string c.val]
def okC (c : CellD) : Prop := okS c.key ∧ okS c.val
theorem cellT : ElemT Tryz.prog 35 90 (.agg #[.string ⟨#[]⟩, .string ⟨#[]⟩]) 2 32 encC where
  ht := Tryz.underlying35
  hT := ⟨by kernel_rfl, rfl, by omega⟩
  hk := fun _ => rfl
  h1 := fun x u hu => by simp [encC] at hu; rcases hu with rfl | rfl <;> rfl
  by0 := by omega
abbrev RCells (w : World) (v : Value) (l : List CellD) : Prop := RSl 2 (Enc encC okC) w v l
abbrev OCells (w : World) (v : Value) (l : List CellD) : Prop := Own 90 2 encC okC w v l
theorem OCells.rd {w : World} {v : Value} {l : List CellD} (h : OCells w v l) : RCells w v l := Own.rd cellT.hk h
theorem RCells.at {w : World} {a : Option Addr} {n cap : Nat} {l : List CellD} (h : RCells w (.slice a n cap) l) (i : Nat) (hi : i < n) :
    ∃ b off c, a = some ⟨b, off, none⟩ ∧ l[i]? = some c ∧ (c.key.size ≤ 9223372036854775807 ∧ c.val.size ≤ 9223372036854775807) ∧ w.cell? ⟨b, off + i * 2, none⟩ = some (.string c.key) ∧ w.cell? ⟨b, off + i * 2 + 1, none⟩ = some (.string c.val) := by
  obtain ⟨b, off, c, row, h1, h2, h3, ⟨rfl, h4⟩, h5⟩ := RSl.at h i hi
  exact ⟨b, off, c, h1, h2, h4, by simpa using h5 0 (.string c.key) rfl, by simpa using h5 1 (.string c.val) rfl⟩
theorem RCells.below {w w' : World} {v : Value} {l : List CellD} (h : RCells w v l) (hb : Bl w w') : RCells w' v l := RSl.below (Enc.stable _ _) h hb

/-! ### slices.Clone -/

/-! ### closures over one captured string -/
def ltS (a b : ByteArray) : Bool := Op.bytesLess a.toList b.toList
def geS (key x : ByteArray) : Bool := !ltS x key

/-! ### slices.IndexFunc -/
/-- The first place where p says yes, or -1. -/
def idxP {α : Type} (p : α → Bool) (l : List α) : Int := if l.findIdx p < l.length then (l.findIdx p : Int) else -1
theorem findIdx_found {α : Type} (p : α → Bool) (l : List α) (j : Nat) (x : α) (hx : l[j]? = some x) (hp : p x = true) (hno : ∀ q, q < j → ∀ y, l[q]? = some y → p y = false) : l.findIdx p = j := by
  induction l generalizing j with
  | nil => simp at hx
  | cons y l ih =>
    cases j with
    | zero => simp at hx; subst hx; simp [List.findIdx_cons, hp]
    | succ j =>
      have h0 := hno 0 (by omega) y rfl
      have := ih j (by simpa using hx) (fun q hq z hz => hno (q + 1) (by omega) z (by simpa using hz))
      simp [List.findIdx_cons, h0, this]
theorem idxP_found {α : Type} (p : α → Bool) (l : List α) (j : Nat) (x : α) (hx : l[j]? = some x) (hp : p x = true) (hno : ∀ q, q < j → ∀ y, l[q]? = some y → p y = false) : idxP p l = j := by
  have h := findIdx_found p l j x hx hp hno
  have hj := (List.getElem?_eq_some_iff.1 hx).1
  unfold idxP
  rw [h, if_pos hj]
theorem idxP_none {α : Type} (p : α → Bool) (l : List α) (hno : ∀ q, q < l.length → ∀ y, l[q]? = some y → p y = false) : idxP p l = -1 := by
  have h : l.findIdx p = l.length := by
    rw [List.findIdx_eq_length]
    intro x hx
    obtain ⟨i, hi, rfl⟩ := List.mem_iff_getElem.1 hx
    simpa using hno i hi _ (by simp [hi])
  unfold idxP
  rw [h, if_neg (Nat.lt_irrefl _)]

/-! ### slices.Insert, of one element -/
def insAt {α : Type} (l : List α) (i : Nat) (x : α) : List α := l.take i ++ x :: l.drop i
theorem spl_shift (A B R X : List Value) (k : Nat) (hX : X.length = k) (hR : k ≤ R.length) :
    spl (spl (A ++ B ++ R) (A.length + k) B) A.length X = A ++ X ++ B ++ R.drop k := by
  have h1 : (A ++ B ++ R).drop (A.length + k + B.length) = R.drop k := by
    rw [show A.length + k + B.length = (A ++ B).length + k by (simp <;> omega), List.drop_append]
    simp
  have h2 : ((A ++ B ++ R).take (A.length + k) ++ (B ++ R.drop k)).take A.length = A := by
    rw [List.take_append_of_le_length (by simp <;> omega), List.take_take, Nat.min_eq_left (by omega), List.append_assoc, List.take_append_of_le_length (Nat.le_refl _), List.take_length]
  have h3 : ((A ++ B ++ R).take (A.length + k) ++ (B ++ R.drop k)).drop (A.length + k) = B ++ R.drop k := by
    have hl : ((A ++ B ++ R).take (A.length + k)).length = A.length + k := by simp <;> omega
    exact List.drop_left' hl
  unfold spl
  rw [h1, h2, hX, h3]
  simp
theorem spl_fill (A Z X B : List Value) (_h : X.length + B.length ≤ Z.length) :
    spl (spl (A ++ Z) A.length X) (A.length + X.length) B = A ++ X ++ B ++ Z.drop (X.length + B.length) := by
  have h1 : spl (A ++ Z) A.length X = (A ++ X) ++ Z.drop X.length := by
    unfold spl
    rw [List.take_append_of_le_length (Nat.le_refl _), List.take_length, List.drop_append]
    simp
  rw [h1, show A.length + X.length = (A ++ X).length by simp]
  unfold spl
  rw [List.take_append_of_le_length (Nat.le_refl _), List.take_length, List.drop_append]
  simp []

end Go.Proofs.YtgfilegkabbliaaGreat
