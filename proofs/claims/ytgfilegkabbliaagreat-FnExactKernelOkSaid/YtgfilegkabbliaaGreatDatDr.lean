/-
  Lists of transactions that are marked, that are dropped: their data.
-/
import Derived.Test.YtgfilegkabbliaaGreatDatNs
import Derived.Test.YtgfilegkabbliaaGreatGenXb
namespace Go.Proofs.YtgfilegkabbliaaGreat
open Go.ChangeShapes Go.WideShapes Go.ChangeAt Go.RowKit
set_option maxRecDepth 100000
set_option maxHeartbeats 1000000

/-- Marks, element by element. -/
def mkL {α : Type} (f : Nat → α → α) (c : α → Nat) : Nat → List α → List α
  | _, [] => []
  | k, x :: l => f k x :: mkL f c (k + c x) l
theorem mkL_length {α : Type} {f : Nat → α → α} {c : α → Nat} (k : Nat) (l : List α) : (mkL f c k l).length = l.length := by
  induction l generalizing k with
  | nil => rfl
  | cons x l ih => exact congrArg Nat.succ (ih _)
theorem sumOf_cons {α : Type} {c : α → Nat} (x : α) (l : List α) : sumOf c (x :: l) = c x + sumOf c l := by
  unfold sumOf
  rw [List.map_cons, List.sum_cons]
theorem mkL_snoc {α : Type} {f : Nat → α → α} {c : α → Nat} (k : Nat) (l : List α) (x : α) : mkL f c k (l ++ [x]) = mkL f c k l ++ [f (k + sumOf c l) x] := by
  induction l generalizing k with
  | nil => rfl
  | cons y l ih =>
    show f k y :: mkL f c (k + c y) (l ++ [x]) = f k y :: (mkL f c (k + c y) l ++ [f (k + sumOf c (y :: l)) x])
    rw [ih, sumOf_cons, ← Nat.add_assoc]
theorem mkL_at {α : Type} {f : Nat → α → α} {c : α → Nat} {k j : Nat} {d : List α} {x y : α} (hx : nth (mkL f c k d) j = some x) (hy : nth d j = some y) : x = f (k + sumOf c (d.take j)) y := by
  induction d generalizing k j with
  | nil => cases j <;> cases hy
  | cons z l ih =>
    cases j with
    | zero =>
      have e1 := Option.some.inj (show some z = some y from hy)
      rw [← e1]
      exact (Option.some.inj (show some (f k z) = some x from hx)).symm
    | succ j =>
      have h := ih (show nth (mkL f c (k + c z) l) j = some x from hx) (show nth l j = some y from hy)
      rw [List.take_succ_cons, sumOf_cons, ← Nat.add_assoc]
      exact h
/-- .. of the first j. -/
def upL {α : Type} (f : Nat → α → α) (c : α → Nat) (k j : Nat) (l : List α) : List α := mkL f c k (l.take j) ++ l.drop j
theorem upL_end {α : Type} {f : Nat → α → α} {c : α → Nat} {k j : Nat} {l : List α} (h : l.length ≤ j) : upL f c k j l = mkL f c k l := by
  unfold upL
  rw [List.drop_of_length_le h, List.take_of_length_le h, List.append_nil]
theorem upL_step {α : Type} {f : Nat → α → α} {c : α → Nat} {k j : Nat} {l : List α} {x y : α} (hx : nth l j = some x) (hy : y = f (k + sumOf c (l.take j)) x) : (upL f c k j l).set j y = upL f c k (j + 1) l := by
  subst hy
  rw [nth_eq] at hx
  obtain ⟨hj, rfl⟩ := List.getElem?_eq_some_iff.1 hx
  unfold upL
  rw [List.set_append, if_neg (by rw [mkL_length, List.length_take]; omega), mkL_length, List.length_take, Nat.min_eq_left (by omega), Nat.sub_self, List.take_succ_eq_append_getElem hj, mkL_snoc, List.append_assoc, List.drop_eq_getElem_cons hj, List.set_cons_zero]
  rfl
theorem upD_step {α β : Type} {g : β → α} {f : Nat → α → α} {c : α → Nat} {k j : Nat} {l : List α} {x : α} {D E : List β} {z : β} (hc : E = D.set j z) (hD : D.map g = upL f c k j l) (hx : nth l j = some x) (hz : g z = f (k + sumOf c (l.take j)) x) : E.map g = upL f c k (j + 1) l := by
  rw [hc, List.map_set, hD]
  exact upL_step hx hz
theorem nth_upL {α : Type} {f : Nat → α → α} {c : α → Nat} {k j : Nat} {l : List α} : nth (upL f c k j l) j = nth l j := by
  rw [nth_eq, nth_eq]
  unfold upL
  rcases Nat.lt_or_ge j l.length with h | h
  · rw [List.getElem?_append_right (by rw [mkL_length, List.length_take]; omega), mkL_length, List.length_take, Nat.min_eq_left (by omega), Nat.sub_self, List.getElem?_drop, Nat.add_zero]
  · rw [List.getElem?_eq_none (by rw [List.length_append, mkL_length, List.length_take, List.length_drop]; omega), List.getElem?_eq_none h]
theorem sumOf_bound {α : Type} {f : α → Nat} {l : List α} {n : Nat} (h : ∀ x ∈ l, f x ≤ n) : sumOf f l ≤ l.length * n := by
  induction l with
  | nil => exact Nat.zero_le _
  | cons x l ih =>
    rw [sumOf_cons, List.length_cons, Nat.succ_mul]
    have h1 := h x (List.mem_cons_self ..)
    have h2 := ih fun y hy => h y (List.mem_cons_of_mem _ hy)
    omega
theorem sumOf_upto {α : Type} {f : α → Nat} {l : List α} {j : Nat} {x : α} (hx : nth l j = some x) : sumOf f (l.take (j + 1)) = sumOf f (l.take j) + f x ∧ sumOf f (l.take j) + f x ≤ sumOf f l := by
  have h1 := sz_step (f := f) hx
  have h2 := sz_le f l (j + 1)
  exact ⟨h1, by omega⟩
/-- A transaction as the laws mark it in a list. -/
def cntTx (x : TxD) : Nat := 5 + cntX x
def markTxE (k : Nat) (x : TxD) : TxD :=
  ⟨((k : Nat) : Int), ((k + 1 : Nat) : Int), ((k + 1 + 1 : Nat) : Int), ((k + 1 + 1 + 1 : Nat) : Int), marksOf markK (k + 1 + 1 + 1 + 1) x.calls.length, marksOf markR (k + 1 + 1 + 1 + 1 + 6 * x.calls.length) x.answers.length,
   ⟨marks (k + 1 + 1 + 1 + 1 + 6 * x.calls.length + 3 * x.answers.length) x.touch.reads.length, marks (k + 1 + 1 + 1 + 1 + 6 * x.calls.length + 3 * x.answers.length + x.touch.reads.length) x.touch.writes.length⟩,
   marksOf markI (k + 1 + 1 + 1 + 1 + 6 * x.calls.length + 3 * x.answers.length + x.touch.reads.length + x.touch.writes.length) x.marks.length,
   ((k + 1 + 1 + 1 + 1 + 6 * x.calls.length + 3 * x.answers.length + x.touch.reads.length + x.touch.writes.length + x.marks.length : Nat) : Int)⟩
theorem cntTx_eq (x : TxD) : cntTx x = 5 + 6 * x.calls.length + 3 * x.answers.length + x.touch.reads.length + x.touch.writes.length + x.marks.length := by
  unfold cntTx cntX cntT; omega
theorem txsFit.cnt {l : List TxD} (h : txsFit 1048576 l) : sumOf cntTx l ≤ 1125899906842624 := by
  have h1 := sumOf_bound (f := cntTx) (l := l) (n := 16777216) fun x hx => by
    have := h.2 x hx
    unfold txFits at this
    rw [cntTx_eq]; omega
  have h2 := Nat.mul_le_mul_right 16777216 h.1
  omega
/-- .. is dropped. -/
def dropE (ids : List Int) (x : TxD) : TxD := if x.state = 1 ∧ x.id ∈ ids then ⟨x.id, x.age, x.proc, x.began, x.calls, x.answers, x.touch, x.marks, 3⟩ else x
def dropL (ids : List Int) (l : List TxD) : List TxD := l.map (dropE ids)
theorem dropE_fit {ids : List Int} {x : TxD} {n : Nat} (h : txFits n x) : txFits n (dropE ids x) := by
  unfold dropE
  split
  · exact h
  · exact h
theorem dropL_fit {ids : List Int} {l : List TxD} {n : Nat} (h : txsFit n l) : txsFit n (dropL ids l) := by
  refine ⟨by unfold dropL; rw [List.length_map]; exact h.1, fun x hx => ?_⟩
  obtain ⟨y, hy, rfl⟩ := List.mem_map.1 hx
  exact dropE_fit (h.2 y hy)
/-- The first j elements are turned. -/
def upM {α : Type} (g : α → α) (j : Nat) (l : List α) : List α := (l.take j).map g ++ l.drop j
theorem upM_end {α : Type} {g : α → α} {j : Nat} {l : List α} (h : l.length ≤ j) : upM g j l = l.map g := by
  unfold upM
  rw [List.drop_of_length_le h, List.take_of_length_le h, List.append_nil]
theorem upM_step {α : Type} {g : α → α} {j : Nat} {l : List α} {x y : α} (hx : nth l j = some x) (hy : y = g x) : (upM g j l).set j y = upM g (j + 1) l := by
  subst hy
  rw [nth_eq] at hx
  obtain ⟨hj, rfl⟩ := List.getElem?_eq_some_iff.1 hx
  unfold upM
  rw [List.set_append, if_neg (by rw [List.length_map, List.length_take]; omega), List.length_map, List.length_take, Nat.min_eq_left (by omega), Nat.sub_self, List.take_succ_eq_append_getElem hj, List.map_append, List.append_assoc, List.drop_eq_getElem_cons hj, List.set_cons_zero]
  rfl
theorem upM_keep {α : Type} {g : α → α} {j : Nat} {l : List α} {x : α} (hx : nth l j = some x) (hg : g x = x) : upM g j l = upM g (j + 1) l := by
  rw [nth_eq] at hx
  obtain ⟨hj, rfl⟩ := List.getElem?_eq_some_iff.1 hx
  unfold upM
  rw [List.take_succ_eq_append_getElem hj, List.map_append, List.append_assoc, List.drop_eq_getElem_cons hj]
  simp [hg]
theorem nth_upM {α : Type} {g : α → α} {j : Nat} {l : List α} : nth (upM g j l) j = nth l j := by
  rw [nth_eq, nth_eq]
  unfold upM
  rcases Nat.lt_or_ge j l.length with h | h
  · rw [List.getElem?_append_right (by rw [List.length_map, List.length_take]; omega), List.length_map, List.length_take, Nat.min_eq_left (by omega), Nat.sub_self, List.getElem?_drop, Nat.add_zero]
  · rw [List.getElem?_eq_none (by rw [List.length_append, List.length_map, List.length_take, List.length_drop]; omega), List.getElem?_eq_none h]
/-- Lists, their data. -/
theorem dM_at {α β : Type} {f : α → β} {D : List α} {L : List β} {j : Nat} {x : α} (h : D.map f = L) (hx : nth D j = some x) : nth L j = some (f x) := by rw [← h]; exact map_at hx
theorem dM_len {α β : Type} {f : α → β} {D : List α} {L : List β} (h : D.map f = L) : D.length = L.length := by rw [← h, List.length_map]
theorem idx_mem {v : Int} {s : List Int} : decide (idxP (fun c => decide (v = c)) s ≥ 0) = decide (v ∈ s) := by
  rw [any_idx]
  by_cases h : v ∈ s
  · rw [decide_eq_true h]; exact List.any_eq_true.2 ⟨v, h, decide_eq_true rfl⟩
  · rw [decide_eq_false h, List.any_eq_false]
    intro x hx e
    exact h (by rw [of_decide_eq_true e]; exact hx)
theorem all_none' {α : Type} {l : List α} {p : α → Prop} : ∀ j, j < 0 → ∀ c, nth l j = some c → p c := fun _ h => absurd h (Nat.not_lt_zero _)
theorem all_stepP {α : Type} {l : List α} {p : α → Prop} {k : Nat} (h : ∀ j, j < k → ∀ c, nth l j = some c → p c) (hk : ∀ c, nth l k = some c → p c) : ∀ j, j < k + 1 → ∀ c, nth l j = some c → p c := fun j hj c hc => by
  rcases Nat.lt_or_ge j k with h1 | h1
  · exact h j h1 c hc
  · obtain rfl : j = k := by omega
    exact hk c hc
theorem has_t {l : List Int} {k : Nat} {x n : Int} (hx : nth l k = some x) (h : x = n) : n ∈ l := h ▸ nth_mem hx
theorem has_f {l : List Int} {k : Nat} {n : Int} (hk : l.length ≤ k) (h : ∀ j, j < k → ∀ c, nth l j = some c → ¬ c = n) : ¬ n ∈ l := fun hm => by
  obtain ⟨j, hj, e⟩ := List.mem_iff_getElem.1 hm
  exact h j (by omega) l[j] (by rw [nth_eq]; exact List.getElem?_eq_getElem hj) e
theorem dropE_y {ids : List Int} {x : TxD} (h1 : x.state = 1) (h2 : x.id ∈ ids) : (⟨x.id, x.age, x.proc, x.began, x.calls, x.answers, x.touch, x.marks, 3⟩ : TxD) = dropE ids x := by
  unfold dropE
  rw [if_pos ⟨h1, h2⟩]
theorem dropE_n1 {ids : List Int} {x : TxD} (h1 : ¬ x.state = 1) : dropE ids x = x := by
  unfold dropE
  rw [if_neg (fun h => h1 h.1)]
theorem dropE_n2 {ids : List Int} {x : TxD} (h1 : ¬ x.id ∈ ids) : dropE ids x = x := by
  unfold dropE
  rw [if_neg (fun h => h1 h.2)]
end Go.Proofs.YtgfilegkabbliaaGreat
