/-
  Contracts: slices of strings in the laws' helpers (szStringS, toStringS, eqStringS, markText, markStringS, heldStringS).
-/
import Derived.Test.YtibgmijfnbnfkaaDoorMem
namespace Go.Proofs.YtibgmijfnbnfkaaDoor
open Go.ChangeShapes Go.WideShapes Go.ChangeAt Go.RowKit

/-! ### plain -/
/-- What a size function leaves of 'left': -1 if it is not enough. -/
def subOr (left : Int) (n : Nat) : Int := if (n : Int) ≤ left then left - n else -1
theorem subOr_bd (left : Int) (n : Nat) (h : 0 ≤ left) : -1 ≤ subOr left n ∧ subOr left n ≤ left := by unfold subOr; split <;> omega
theorem subOr_add (left : Int) (a b : Nat) : 0 ≤ subOr left a → subOr (subOr left a) b = subOr left (a + b) := by unfold subOr; split <;> split <;> split <;> omega
theorem subOr_neg (left : Int) (a b : Nat) : subOr left a < 0 → subOr left (a + b) = -1 := by unfold subOr; split <;> split <;> omega
theorem subOr_ge {left : Int} {a : Nat} : 0 ≤ subOr left a → subOr left a = left - a ∧ (a : Int) ≤ left := by unfold subOr; split <;> omega
def sumOf {α : Type} (f : α → Nat) (l : List α) : Nat := (l.map f).sum
theorem sumOf_take {α : Type} (f : α → Nat) (l : List α) (k : Nat) (x : α) (h : l[k]? = some x) : sumOf f (l.take (k + 1)) = sumOf f (l.take k) + f x := by
  have hk : k < l.length := (List.getElem?_eq_some_iff.1 h).1
  have hx : l[k] = x := (List.getElem?_eq_some_iff.1 h).2
  rw [List.take_succ_eq_append_getElem hk]
  simp [sumOf, hx]
theorem sumOf_split {α : Type} (f : α → Nat) (l : List α) (k : Nat) : sumOf f l = sumOf f (l.take k) + sumOf f (l.drop k) := by
  unfold sumOf
  conv => lhs; rw [← List.take_append_drop k l]
  simp only [List.map_append, List.sum_append]
theorem sumOf_all {α : Type} (f : α → Nat) (l : List α) (k : Nat) (h : l.length ≤ k) : sumOf f (l.take k) = sumOf f l := by rw [List.take_of_length_le h]
theorem sumOf_mem {α : Type} (f : α → Nat) (l : List α) (x : α) (h : x ∈ l) : f x ≤ sumOf f l := by
  induction l with
  | nil => cases h
  | cons y l ih =>
    simp only [sumOf, List.map_cons, List.sum_cons] at *
    rcases List.mem_cons.1 h with rfl | h
    · omega
    · have := ih h; omega

def encS (s : ByteArray) : List Value := [.string s]
def okS (s : ByteArray) : Prop := s.size ≤ 9223372036854775807
def szStrs (l : List ByteArray) : Nat := l.length + sumOf ByteArray.size l

/-- The letter m and the digits. -/
def markGo : Nat → Nat → List UInt8 → List UInt8
  | 0, _, out => out
  | f + 1, k, out => if k = 0 then out else markGo f (k / 10) (UInt8.ofNat (48 + k % 10) :: out)
def markT (k : Nat) : ByteArray := ⟨(109 :: (if k = 0 then [48] else markGo 20 k [])).toArray⟩
def marks (k n : Nat) : List ByteArray := (List.range n).map fun i => markT (k + i)
theorem marks_length (k n : Nat) : (marks k n).length = n := by simp [marks]
theorem marks_at (k n i : Nat) (h : i < n) : (marks k n)[i]? = some (markT (k + i)) := by simp [marks, h]
theorem marks_succ (k n : Nat) : marks k (n + 1) = marks k n ++ [markT (k + n)] := by simp [marks, List.range_succ]
theorem marks_set (k i : Nat) (l : List ByteArray) (h : i < l.length) : (marks k i ++ l.drop i).set i (markT (k + i)) = marks k (i + 1) ++ l.drop (i + 1) := by
  rw [marks_succ, List.set_append_right _ _ (by rw [marks_length]; exact Nat.le_refl _), marks_length, Nat.sub_self, List.append_assoc]
  congr 1
  rw [List.drop_eq_getElem_cons h]
  rfl

set_option maxHeartbeats 1000000

/-! ### the program's type -/
theorem strT : ElemT Tryd.prog 27 9 (.string ⟨#[]⟩) 1 16 encS where
  ht := Tryd.underlying27
  hT := ⟨by kernel_rfl, rfl, by omega⟩
  hk := fun _ => rfl
  h1 := fun x u hu => by simp [encS] at hu; subst hu; rfl
  by0 := by omega
abbrev RStrs (w : World) (v : Value) (l : List ByteArray) : Prop := RSl 1 (Enc encS okS) w v l
abbrev OStrs (w : World) (v : Value) (l : List ByteArray) : Prop := Own 9 1 encS okS w v l
theorem OStrs.rd {w : World} {v : Value} {l : List ByteArray} (h : OStrs w v l) : RStrs w v l := Own.rd strT.hk h
theorem RStrs.at {w : World} {a : Option Addr} {n cap : Nat} {l : List ByteArray} (h : RStrs w (.slice a n cap) l) (i : Nat) (hi : i < n) :
    ∃ b off s, a = some ⟨b, off, none⟩ ∧ l[i]? = some s ∧ s.size ≤ 9223372036854775807 ∧ w.cell? ⟨b, off + i, none⟩ = some (.string s) := by
  obtain ⟨b, off, s, row, h1, h2, h3, ⟨rfl, h4⟩, h5⟩ := RSl.at h i hi
  exact ⟨b, off, s, h1, h2, h4, by simpa using h5 0 (.string s) rfl⟩
abbrev AStrs (w : World) (v : Value) (l : List ByteArray) : Prop := RArg 1 (Enc encS okS) w v l
theorem AStrs.at {w : World} {a : Option Addr} {n cap : Nat} {l : List ByteArray} (h : AStrs w (.slice a n cap) l) (i : Nat) (hi : i < n) :
    ∃ b off s, a = some ⟨b, off, none⟩ ∧ l[i]? = some s ∧ s.size ≤ 9223372036854775807 ∧ w.cell? ⟨b, off + i, none⟩ = some (.string s) := by
  obtain ⟨b, off, s, row, h1, h2, h3, ⟨rfl, h4⟩, h5⟩ := RArg.at h i hi
  exact ⟨b, off, s, h1, h2, h4, by simpa using h5 0 (.string s) rfl⟩
theorem AStrs.below {w w' : World} {v : Value} {l : List ByteArray} (h : AStrs w v l) (hb : Bl w w') : AStrs w' v l := RArg.below (Enc.stable _ _) h hb
theorem RStrs.below {w w' : World} {v : Value} {l : List ByteArray} (h : RStrs w v l) (hb : Bl w w') : RStrs w' v l := RSl.below (Enc.stable _ _) h hb

/-! ### szStringS -/
/-- A conversion of a one-byte slice to a string, as the walk meets it. -/
theorem conv_byte (w : World) (n : Int) (hs : Tryd.prog.underlying 22 = some (.slice 5) := by exact Tryd.underlying22) :
    (convert 22 9 (.slice (some ⟨w.heap.size, 0, none⟩) 1 1)).run Tryd.prog (w.alloc (.cells #[.int .u8 n] 5)) = .ok (.string ⟨#[UInt8.ofNat n.toNat]⟩) (w.alloc (.cells #[.int .u8 n] 5)) := by
  have h := run_convert_bytes_arg (P := Tryd.prog) (w.alloc (.cells #[.int .u8 n] 5)) 22 5 hs Tryd.underlying5 w.heap.size 0 1 1 [n] rfl (fun i hi => by
    obtain rfl : i = 0 := by omega
    simp) 9 Tryd.underlying9
  exact h
theorem bytes_append (a b : Array UInt8) : (⟨a⟩ : ByteArray) ++ ⟨b⟩ = ⟨a ++ b⟩ := by
  apply ByteArray.ext
  simp

theorem markGo_len (f k : Nat) (out : List UInt8) : (markGo f k out).length ≤ out.length + f := by
  induction f generalizing k out with
  | zero => simp [markGo]
  | succ f ih =>
    unfold markGo
    split
    · omega
    · have := ih (k / 10) (UInt8.ofNat (48 + k % 10) :: out)
      rw [List.length_cons] at this; omega
theorem markT_size (k : Nat) : (markT k).size ≤ 21 := by
  unfold markT
  split
  · simp [ByteArray.size]
  · simp only [ByteArray.size, List.size_toArray, List.length_cons]
    have h := markGo_len 20 k []
    simp at h
    omega
theorem markT_ok (k : Nat) : okS (markT k) := by have := markT_size k; unfold okS; omega

/-! ### markStringS, heldStringS -/
end Go.Proofs.YtibgmijfnbnfkaaDoor
