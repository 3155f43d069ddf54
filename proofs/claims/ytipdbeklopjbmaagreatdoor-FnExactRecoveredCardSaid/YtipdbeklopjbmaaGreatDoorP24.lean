/-
  Texts laid together: DatRf, GenNsh.
-/
import Derived.Test.YtipdbeklopjbmaaGreatDoorP10
import Derived.Test.YtipdbeklopjbmaaGreatDoorP08
import Derived.Test.YtipdbeklopjbmaaGreatDoorGenNsa
import Derived.Test.YtipdbeklopjbmaaGreatDoorP06
/-
  Disks are recovered: plain functions.
-/

namespace Go.Proofs.YtipdbeklopjbmaaGreatDoor
open Go.ChangeShapes Go.WideShapes Go.ChangeAt Go.RowKit
set_option maxRecDepth 100000
set_option maxHeartbeats 1000000

def slotB (L : List SlotD) : SlotD := (nth L (bestTo L L.length).toNat).getD ⟨0, [], false⟩
def recL (L : List SlotD) (j : JouD) : List (List CellD) := (recsIn j.text ((slotB L).seq + 1)).1
def recC (L : List SlotD) (j : JouD) : List CellD := if diskOk L j = true then putLists (slotB L).cells (recL L j) else []
def recQ (L : List SlotD) (j : JouD) : Int := if diskOk L j = true then (slotB L).seq + (((recL L j).length : Nat) : Int) else 0
theorem slot_at {S : List SlotH} {L : List SlotD} {x : SlotH} (hL : S.map SlotH.d = L) (hx : nth S (bestTo (S.map SlotH.d) S.length).toNat = some x) : slotB L = x.d := by
  subst hL
  unfold slotB
  rw [List.length_map, map_at hx]; rfl
theorem best_whole {l : List SlotD} : ∀ k, k ≤ l.length → 0 ≤ bestTo l k → ∃ y, nth l (bestTo l k).toNat = some y ∧ y.whole = true
  | 0, _, h => by unfold bestTo at h; omega
  | k + 1, hk, h => by
    obtain ⟨x, hx⟩ := nth_some (l := l) (k := k) (by omega)
    have e : bestTo l (k + 1) = if (x.whole && (decide (bestTo l k < 0) || decide (x.seq > seqAt l (bestTo l k)))) = true then ((k : Nat) : Int) else bestTo l k := by rw [bestTo, hx]
    by_cases c : (x.whole && (decide (bestTo l k < 0) || decide (x.seq > seqAt l (bestTo l k)))) = true
    · rw [e, if_pos c, Int.toNat_natCast]
      rw [Bool.and_eq_true] at c
      exact ⟨x, hx, c.1⟩
    · rw [e, if_neg c] at h ⊢
      exact best_whole k (by omega) h
theorem seq_bd {S : List SlotH} {j : JouD} {x : SlotH} (h : (!diskOk (S.map SlotH.d) j) = false) (hx : nth S (bestTo (S.map SlotH.d) S.length).toNat = some x) : 0 ≤ x.d.seq ∧ x.d.seq ≤ 99999 := by
  have h1 := nf h
  unfold diskOk at h1
  simp only [Bool.and_eq_true, decide_eq_true_eq] at h1
  obtain ⟨⟨⟨h2, h3⟩, h4⟩, _⟩ := h1
  have h5 := best_whole _ (Nat.le_refl _) (best_yes.2 h3)
  have h6 := List.all_eq_true.1 h4 _ (nth_mem (map_at hx))
  have h7 : x.d.whole = true := by
    obtain ⟨y, hy, hw⟩ := h5
    rw [List.length_map] at hy
    rw [map_at hx] at hy
    cases hy
    exact hw
  unfold slotBad at h6
  rw [h7] at h6
  have h8 : inB x.d.seq 0 99999 = true := by
    cases e : inB x.d.seq 0 99999
    · rw [e] at h6; cases h6
    · rfl
  exact inB_bd h8
theorem disk_text {S : List SlotH} {j : JouD} (h : (!diskOk (S.map SlotH.d) j) = false) : j.text.size ≤ 20000 := by
  have h1 := nf h
  unfold diskOk at h1
  rw [Bool.and_eq_true] at h1
  exact (jouOk_bd (by rw [h1.2]; rfl)).2.2
theorem rec_no {S : List SlotH} {L : List SlotD} {j : JouD} (hL : S.map SlotH.d = L) (h : (!diskOk (S.map SlotH.d) j) = true) : ([] : List CellD) = recC L j ∧ (0 : Int) = recQ L j := by
  subst hL
  unfold recC recQ
  rw [nt h]; exact ⟨rfl, rfl⟩
theorem rec_yes {S : List SlotH} {L : List SlotD} {j : JouD} {x : SlotH} {R : List CsH} {D : List CellD} {k N : Nat} (hL : S.map SlotH.d = L) (h : (!diskOk (S.map SlotH.d) j) = false) (hx : nth S (bestTo (S.map SlotH.d) S.length).toNat = some x) (hR : R.map CsH.d = (recsIn j.text (x.d.seq + 1)).1)
    (hN : N = R.length) (hk : N ≤ k) (hD : D = putLists x.d.cells ((R.map CsH.d).take k)) : D = recC L j ∧ x.d.seq + ((N : Nat) : Int) = recQ L j := by
  have e := slot_at hL hx
  subst hL
  have e2 : recL (S.map SlotH.d) j = R.map CsH.d := by unfold recL; rw [e, hR]
  rw [List.take_of_length_le (by rw [List.length_map]; omega)] at hD
  unfold recC recQ
  rw [if_pos (nf h), if_pos (nf h), e2, e, List.length_map, hN]
  exact ⟨hD, rfl⟩
theorem recC_len {L : List SlotD} {j : JouD} (h : slotsFit 1048576 L) : (recC L j).length ≤ 100000000 := by
  unfold recC
  split
  · rename_i hd
    have h1 : (slotB L).cells.length ≤ 1048576 := by
      unfold slotB
      cases e : nth L (bestTo L L.length).toNat with
      | none => exact Nat.zero_le _
      | some x => exact h.2 x (nth_mem e)
    have h2 : j.text.size ≤ 20000 := by
      unfold diskOk at hd
      rw [Bool.and_eq_true] at hd
      exact (jouOk_bd (by rw [hd.2]; rfl)).2.2
    have h3 := recsIn_fit j.text ((slotB L).seq + 1)
    have h4 := putLists_len (m := 4000) (recL L j) (slotB L).cells h3.1
    have h5 : (recL L j).length ≤ j.text.size := h3.2
    omega
  · exact Nat.zero_le _
theorem recs_at {R : List CsH} {s : ByteArray} {frm : Int} {k : Nat} {x : CsH} (hR : R.map CsH.d = (recsIn s frm).1) (hx : nth R k = some x) : x.d.length ≤ 4000 := (recsIn_fit s frm).1 _ (by rw [← hR]; exact nth_mem (map_at hx))
theorem recs_len {R : List CsH} {s : ByteArray} {frm : Int} (hR : R.map CsH.d = (recsIn s frm).1) : R.length ≤ s.size := by
  have := (recsIn_fit s frm).2
  rw [← hR, List.length_map] at this
  exact this
theorem put_fit {C : List CellD} {R : List CsH} {s : ByteArray} {frm : Int} {k : Nat} (hR : R.map CsH.d = (recsIn s frm).1) : (putLists C ((R.map CsH.d).take k)).length ≤ C.length + k * 4000 := by
  have h := putLists_len (m := 4000) ((R.map CsH.d).take k) C fun l hl => (recsIn_fit s frm).1 l (by rw [← hR]; exact List.mem_of_mem_take hl)
  have h2 : ((R.map CsH.d).take k).length ≤ k := by rw [List.length_take]; omega
  have h3 := Nat.mul_le_mul_right 4000 h2
  omega
theorem put_fit2 {C : List CellD} {R : List CsH} {s : ByteArray} {frm : Int} {k j : Nat} {l : List CellD} (hR : R.map CsH.d = (recsIn s frm).1) : (putAll (putLists C ((R.map CsH.d).take k)) (l.take j)).length ≤ C.length + k * 4000 + j := by
  have h := put_fit (C := C) (k := k) hR
  have h1 := putAll_len (putLists C ((R.map CsH.d).take k)) (l.take j)
  have h2 : (l.take j).length ≤ j := by rw [List.length_take]; omega
  omega
theorem putL_next {C D : List CellD} {R : List CsH} {k j : Nat} {x : CsH} (hx : nth R k = some x) (hD : D = putAll (putLists C ((R.map CsH.d).take k)) (x.d.take j)) (hj : x.d.length ≤ j) : D = putLists C ((R.map CsH.d).take (k + 1)) := by
  rw [putLists_snoc (map_at hx), hD, List.take_of_length_le hj]
theorem putL_start (s : List CellD) (l : List (List CellD)) : s = putLists s (l.take 0) := by rw [List.take_zero]; rfl
end Go.Proofs.YtipdbeklopjbmaaGreatDoor
/-
  Walks: a disk in new memory.
-/

namespace Go.Proofs.YtipdbeklopjbmaaGreatDoor
open Go.ChangeShapes Go.WideShapes Go.ChangeAt Go.RowKit
set_option maxRecDepth 100000
set_option maxHeartbeats 1000000
end Go.Proofs.YtipdbeklopjbmaaGreatDoor
