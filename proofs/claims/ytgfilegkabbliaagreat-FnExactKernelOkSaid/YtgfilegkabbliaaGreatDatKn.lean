/-
  Kernels: their data.
-/
import Derived.Test.YtgfilegkabbliaaGreatDatSl
namespace Go.Proofs.YtgfilegkabbliaaGreat
open Go.ChangeShapes Go.WideShapes Go.ChangeAt Go.RowKit
set_option maxRecDepth 100000
set_option maxHeartbeats 1000000

def szStepD (s : StepD) : Nat := szCallD s.call
def szSteps (l : List StepD) : Nat := l.length + sumOf szStepD l
def szEntryD (x : EntryD) : Nat := szSteps x.steps + szAnss x.answers
def szEntryH (x : EntryH) : Nat := szEntryD x.d
def szEntriesH (l : List EntryH) : Nat := l.length + sumOf szEntryH l
def entriesFit (n : Nat) (l : List EntryD) : Prop := l.length ≤ n ∧ ∀ x ∈ l, x.steps.length ≤ n ∧ x.answers.length ≤ n
theorem entriesFit_of {l : List EntryH} {n : Nat} (h : szEntriesH l ≤ n) : entriesFit n (l.map EntryH.d) := by
  unfold szEntriesH at h
  refine ⟨by rw [List.length_map]; omega, fun x hx => ?_⟩
  obtain ⟨y, hy, rfl⟩ := List.mem_map.1 hx
  have := sumOf_ge (f := szEntryH) hy
  have h2 : szEntryH y = szSteps y.d.steps + szAnss y.d.answers := rfl
  unfold szSteps szAnss at h2
  omega
theorem entriesFit.at {l : List EntryH} {n k : Nat} {x : EntryH} (h : entriesFit n (l.map EntryH.d)) (hx : nth l k = some x) : x.d.steps.length ≤ n ∧ x.d.answers.length ≤ n := h.2 _ (nth_mem (map_at hx))
theorem entriesFit.len {l : List EntryH} {n : Nat} (h : entriesFit n (l.map EntryH.d)) : l.length ≤ n := by
  have := h.1
  rwa [List.length_map] at this
theorem entriesFit.eq {l l' : List EntryD} {n : Nat} (h : entriesFit n l) (e : l' = l) : entriesFit n l' := by rw [e]; exact h
def cntEn (x : EntryD) : Nat := 6 + (7 * x.steps.length + 3 * x.answers.length)
theorem cntEn_eq (x : EntryD) : cntEn x = 6 + (7 * x.steps.length + 3 * x.answers.length) := rfl
theorem entriesFit.cnt {l : List EntryD} (h : entriesFit 1048576 l) : sumOf cntEn l ≤ 1125899906842624 := by
  have h1 := sumOf_bound (f := cntEn) (l := l) (n := 16777216) fun x hx => by
    have := h.2 x hx
    rw [cntEn_eq]; omega
  have h2 := Nat.mul_le_mul_right 16777216 h.1
  omega
theorem map_dropk {α β : Type} {f : α → β} {D : List α} {L : List β} {k : Nat} {x : α} (h : (D.map f).drop k = L.drop k) (hx : nth D k = some x) : nth L k = some (f x) := dropk_at h (map_at hx)
theorem map_dropk_step {α β : Type} {f : α → β} {D : List α} {L : List β} {k : Nat} {y : α} (h : (D.map f).drop k = L.drop k) : ((D.set k y).map f).drop (k + 1) = L.drop (k + 1) := by
  rw [List.map_set]; exact dropk_step h
theorem map_dropk_set {α β : Type} {f : α → β} {D E : List α} {L : List β} {k : Nat} {y : α} (hc : E = D.set k y) (h : (D.map f).drop k = L.drop k) : (E.map f).drop (k + 1) = L.drop (k + 1) := by
  rw [hc]; exact map_dropk_step h
theorem sz5_d {left : Int} {A B C D E : Nat} (h : ¬ subOr left A < 0) (h2 : ¬ subOr (subOr left A) B < 0) (h3 : ¬ subOr (subOr (subOr left A) B) C < 0) (h4 : subOr (subOr (subOr (subOr left A) B) C) D < 0) : -1 = subOr left (A + (B + (C + (D + E)))) := by
  rw [← sz4_d h h2 h3]
  exact (subOr_neg _ D _ h4).symm
theorem sz5_e {left : Int} {A B C D E : Nat} (h : ¬ subOr left A < 0) (h2 : ¬ subOr (subOr left A) B < 0) (h3 : ¬ subOr (subOr (subOr left A) B) C < 0) (h4 : ¬ subOr (subOr (subOr (subOr left A) B) C) D < 0) : subOr (subOr (subOr (subOr (subOr left A) B) C) D) E = subOr left (A + (B + (C + (D + E)))) := by
  rw [← sz4_d h h2 h3, subOr_add _ D _ (by omega)]
def szKernelH (k : KernH) : Nat := szCells k.store + (szTxsH k.txs + (szDiskH k.disk + (szEntriesH k.history + szStrs k.seen)))
theorem kernFits {k : KernH} {n : Nat} {z : Int} (hz : z ≤ n) (h : ¬ subOr z (szKernelH k) < 0) : k.store.length ≤ n ∧ txsFit n (k.txs.map TxH.d) ∧ slotsFit n (k.disk.slots.map SlotH.d) ∧ k.disk.journal.text.size ≤ n ∧ entriesFit n (k.history.map EntryH.d) ∧ k.seen.length ≤ n := by
  have h1 : 0 ≤ subOr z (szKernelH k) := by omega
  have h2 := (subOr_ge h1).2
  unfold szKernelH szDiskH at h2
  have h3 : k.store.length ≤ szCells k.store := by unfold szCells; omega
  have h4 : k.seen.length ≤ szStrs k.seen := by unfold szStrs; omega
  exact ⟨by omega, txsFit_of (by omega), slotsFit_of (by omega), by omega, entriesFit_of (by omega), by omega⟩
/-- A transaction is looked up. -/
def findT (L : List TxD) (id : Int) : Int := idxP (fun x => decide (x.id = id)) L
def zTxD : TxD := ⟨0, 0, 0, 0, [], [], ⟨[], []⟩, [], 0⟩
def findB (L : List TxD) (id : Int) : Bool := decide (0 ≤ findT L id)
def txAt (L : List TxD) (id : Int) : TxD := if findT L id < 0 then zTxD else (nth L (findT L id).toNat).getD zTxD
theorem findT_bd (L : List TxD) (id : Int) : -1 ≤ findT L id ∧ findT L id < L.length := idxP_bd _ _
theorem findT_ok {L : List TxD} {id : Int} (h : L.length ≤ 1048576) : i64ok (findT L id) := idxP_ok _ _ (by omega)
theorem find_t {D : List TxH} {id : Int} {k : Nat} {x : TxH} (hx : nth D k = some x) (h : x.d.id = id) (hno : ∀ j, j < k → ∀ c, nth D j = some c → ¬ c.d.id = id) : ((k : Nat) : Int) = findT (D.map TxH.d) id := by
  refine (idxP_found _ _ k x.d (by rw [← nth_eq]; exact map_at hx) (decide_eq_true h) fun q hq y hy => ?_).symm
  rw [List.getElem?_map] at hy
  obtain ⟨c, hc, rfl⟩ := Option.map_eq_some_iff.1 hy
  exact decide_eq_false (hno q hq c (by rw [nth_eq]; exact hc))
theorem find_f {D : List TxH} {id : Int} {k : Nat} (hk : D.length ≤ k) (hno : ∀ j, j < k → ∀ c, nth D j = some c → ¬ c.d.id = id) : (-1 : Int) = findT (D.map TxH.d) id := by
  refine (idxP_none _ _ fun q hq y hy => ?_).symm
  rw [List.getElem?_map] at hy
  obtain ⟨c, hc, rfl⟩ := Option.map_eq_some_iff.1 hy
  rw [List.length_map] at hq
  exact decide_eq_false (hno q (by omega) c (by rw [nth_eq]; exact hc))
theorem txAt_f {L : List TxD} {id : Int} (h : findT L id < 0) : zTxD = txAt L id ∧ false = findB L id := ⟨(if_pos h).symm, (decide_eq_false (by omega)).symm⟩
theorem txAt_t {D : List TxH} {L : List TxD} {id : Int} {x : TxH} (hD : D.map TxH.d = L) (h : ¬ findT (D.map TxH.d) id < 0) (hx : nth D (findT (D.map TxH.d) id).toNat = some x) : x.d = txAt L id ∧ true = findB L id := by
  rw [hD] at h hx
  refine ⟨?_, (decide_eq_true (by omega)).symm⟩
  unfold txAt
  rw [if_neg h, dM_at hD hx]; rfl
theorem txAt_fit {L : List TxD} {id : Int} {n : Nat} (h : txsFit n L) : txFits n (txAt L id) := by
  have hz : txFits n zTxD := ⟨Nat.zero_le _, Nat.zero_le _, Nat.zero_le _, Nat.zero_le _, Nat.zero_le _⟩
  unfold txAt
  split
  · exact hz
  · cases e : nth L (findT L id).toNat with
    | none => exact hz
    | some x => exact h.2 x (nth_mem e)
def okI5 (x : TxD) : Prop := i64ok x.id ∧ i64ok x.age ∧ i64ok x.proc ∧ i64ok x.began ∧ i64ok x.state
theorem okI5_z : okI5 zTxD := ⟨⟨by decide, by decide⟩, ⟨by decide, by decide⟩, ⟨by decide, by decide⟩, ⟨by decide, by decide⟩, ⟨by decide, by decide⟩⟩
end Go.Proofs.YtgfilegkabbliaaGreat
