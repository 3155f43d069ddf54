/-
  Contracts: the library's generic functions on slices (Clone, IndexFunc, Insert, DeleteFunc), at slices of strings and of cells.
-/
import Derived.Test.YtkebmooffbkpgaaStrs
namespace Go.Proofs.Ytkebmooffbkpgaa
open Go.ChangeShapes Go.WideShapes Go.ChangeAt Go.RowKit
set_option maxHeartbeats 1000000
set_option maxRecDepth 100000

/-! ### cells -/
structure CellD where
  key : ByteArray
  val : ByteArray
deriving DecidableEq
def encC (c : CellD) : List Value := [.string c.key, .string c.val]
def okC (c : CellD) : Prop := okS c.key ∧ okS c.val

/-! ### slices.Clone -/
theorem cloneStrs_c (v : Value) (w : World) (l : List ByteArray) (hr : RSl 1 (Enc encS okS) w v l) (hl : l.length ≤ 1099511627776) :
    Calls Try.prog 56 #[v] w fun e w' => ∃ v', e = .returned v' ∧ Own 9 1 encS okS w' v' l ∧ (∀ b ∈ v'.ownBlock.toList, w.heap.size ≤ b) ∧ Bl w w' := by
  have hr0 := hr
  obtain ⟨a, cap, rfl, hle, -, -, hn⟩ := hr.inv
  have Hr := Lib.hid hr0; clear hr hr0
  obtain ⟨len, hlen⟩ : ∃ len, l.length = len := ⟨_, rfl⟩
  rw [hlen] at hle Hr hl ⊢
  have Hlen := Lib.hid hlen; clear hlen
  cases a with
  | none =>
    obtain ⟨rfl, rfl⟩ := hn rfl
    have h0 := Hlen.out
    simp only [List.length_nil] at h0
    subst h0
    clear hn
    have hnil : ∀ (W : World), (binOp .eql 24 (.slice none 0 0) (.slice none 0 0)).run Try.prog W = .ok (.bool true) W := fun W => Lib.run_eql_slice_nil (P := Try.prog) W 24 9 none 0 0 0 0 Try.underlying24
    go_enter Try.func56, Try.ntmps56
    go_wp2
    go_ret
    exact ⟨_, rfl, own_nil _ _ _ _ _, by simp [Value.ownBlock], Bl.refl _⟩
  | some a =>
    clear hn
    have hnil : ∀ (W : World), (binOp .eql 24 (.slice (some a) len cap) (.slice none 0 0)).run Try.prog W = .ok (.bool false) W := fun W => Lib.run_eql_slice_nil (P := Try.prog) W 24 9 (some a) len cap 0 0 Try.underlying24
    have hown := own_made0 w 9 1 encS okS
    have hsrc := RSl.below (Enc.stable _ _) Hr.out ((Bl.refl w).alloc (.cells #[] 9))
    go_enter Try.func56, Try.ntmps56
    go_wp2_with (at_builtin; refine wpList_app strT rfl (.tmp 5) (.tmp 6) rfl (.slice (some ⟨w.heap.size, 0, none⟩) 0 0) (.slice (some a) len cap) [] l rfl rfl hown hsrc (by have := Hlen.out; simp <;> omega) ?_; intro v' w' hO hkb hmv hnl)
    have hO' := hO
    rw [List.nil_append] at hO'
    have hfr : ∀ b ∈ v'.ownBlock.toList, w.heap.size ≤ b := hmv.fresh (by simp) (by simp [Value.ownBlock])
    have hbl : Bl w w' := hkb.under ((Bl.refl w).alloc _) (by simp [Value.ownBlock])
    clear hO hkb hmv hnl hown hsrc
    go_wp2
    go_ret
    exact ⟨_, rfl, hO', hfr, hbl⟩
theorem cloneStrs_s (v : Value) (w : World) (l : List ByteArray) (hr : RSl 1 (Enc encS okS) w v l) (hl : l.length ≤ 1099511627776) :
    Calls Try.prog 56 #[v] w fun e w' => ∃ a n cap, e = .returned (.slice a n cap) ∧ Own 9 1 encS okS w' (.slice a n cap) l ∧ (∀ b ∈ (Value.slice a n cap).ownBlock.toList, w.heap.size ≤ b) ∧ Bl w w' :=
  Calls.sl (cloneStrs_c v w l hr hl) fun _ _ h => h.1.isSl

/-! ### closures over one captured string -/
def ltS (a b : ByteArray) : Bool := Op.bytesLess a.toList b.toList
def geS (key x : ByteArray) : Bool := !ltS x key

/-! ### slices.IndexFunc -/
/-- The first place where p says yes, or -1. -/
def idxP {α : Type} (p : α → Bool) (l : List α) : Int := if l.findIdx p < l.length then (l.findIdx p : Int) else -1
theorem findIdx_found {α : Type} (p : α → Bool) (l : List α) (j : Nat) (x : α) (hx : l[j]? = some x) (hp : p x = true) (hno : ∀ q, q < j → ∀ y, l[q]? = some y → p y = false) : l.findIdx p = j := by
  induction l generalizing j with
  | nil => simp at hx
  | cons y l ih =>
    cases j with
    | zero => simp at hx; subst hx; simp [List.findIdx_cons, hp]
    | succ j =>
      have h0 := hno 0 (by omega) y rfl
      have := ih j (by simpa using hx) (fun q hq z hz => hno (q + 1) (by omega) z (by simpa using hz))
      simp [List.findIdx_cons, h0, this]
theorem idxP_found {α : Type} (p : α → Bool) (l : List α) (j : Nat) (x : α) (hx : l[j]? = some x) (hp : p x = true) (hno : ∀ q, q < j → ∀ y, l[q]? = some y → p y = false) : idxP p l = j := by
  have h := findIdx_found p l j x hx hp hno
  have hj := (List.getElem?_eq_some_iff.1 hx).1
  unfold idxP
  rw [h, if_pos hj]
theorem idxP_none {α : Type} (p : α → Bool) (l : List α) (hno : ∀ q, q < l.length → ∀ y, l[q]? = some y → p y = false) : idxP p l = -1 := by
  have h : l.findIdx p = l.length := by
    rw [List.findIdx_eq_length]
    intro x hx
    obtain ⟨i, hi, rfl⟩ := List.mem_iff_getElem.1 hx
    simpa using hno i hi _ (by simp [hi])
  unfold idxP
  rw [h, if_neg (Nat.lt_irrefl _)]

/-! ### slices.Insert, of one element -/
def insAt {α : Type} (l : List α) (i : Nat) (x : α) : List α := l.take i ++ x :: l.drop i
theorem spl_shift (A B R X : List Value) (k : Nat) (hX : X.length = k) (hR : k ≤ R.length) :
    spl (spl (A ++ B ++ R) (A.length + k) B) A.length X = A ++ X ++ B ++ R.drop k := by
  have h1 : (A ++ B ++ R).drop (A.length + k + B.length) = R.drop k := by
    rw [show A.length + k + B.length = (A ++ B).length + k by (simp <;> omega), List.drop_append]
    simp
  have h2 : ((A ++ B ++ R).take (A.length + k) ++ (B ++ R.drop k)).take A.length = A := by
    rw [List.take_append_of_le_length (by simp <;> omega), List.take_take, Nat.min_eq_left (by omega), List.append_assoc, List.take_append_of_le_length (Nat.le_refl _), List.take_length]
  have h3 : ((A ++ B ++ R).take (A.length + k) ++ (B ++ R.drop k)).drop (A.length + k) = B ++ R.drop k := by
    have hl : ((A ++ B ++ R).take (A.length + k)).length = A.length + k := by simp <;> omega
    exact List.drop_left' hl
  unfold spl
  rw [h1, h2, hX, h3]
  simp
theorem spl_fill (A Z X B : List Value) (_h : X.length + B.length ≤ Z.length) :
    spl (spl (A ++ Z) A.length X) (A.length + X.length) B = A ++ X ++ B ++ Z.drop (X.length + B.length) := by
  have h1 : spl (A ++ Z) A.length X = (A ++ X) ++ Z.drop X.length := by
    unfold spl
    rw [List.take_append_of_le_length (Nat.le_refl _), List.take_length, List.drop_append]
    simp
  rw [h1, show A.length + X.length = (A ++ X).length by simp]
  unfold spl
  rw [List.take_append_of_le_length (Nat.le_refl _), List.take_length, List.drop_append]
  simp []

end Go.Proofs.Ytkebmooffbkpgaa
