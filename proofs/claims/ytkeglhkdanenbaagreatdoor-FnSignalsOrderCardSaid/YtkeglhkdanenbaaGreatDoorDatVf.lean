/-
  Signals.
-/
import Derived.Test.YtkeglhkdanenbaaGreatDoorDatVa
namespace Go.Proofs.YtkeglhkdanenbaaGreatDoor
open Go.ChangeShapes Go.WideShapes Go.ChangeAt Go.RowKit
set_option maxRecDepth 100000
set_option maxHeartbeats 1000000


/-! ### Signals -/
theorem noD_t' : noD (⟨#[47, 116]⟩ : ByteArray) := noD_lit [47, 116] (by decide)
theorem noD_h' : noD (⟨#[47, 104]⟩ : ByteArray) := noD_lit [47, 104] (by decide)
theorem noD_q' : noD (⟨#[47, 113, 47]⟩ : ByteArray) := noD_lit [47, 113, 47] (by decide)
theorem byteAt_app1' {a b : ByteArray} (h : 1 < a.size) : byteAt (a ++ b) 1 = byteAt a 1 := by
  unfold byteAt
  rw [toList_append, List.getElem?_append_left (by rw [← size_toList]; exact h)]
theorem q_ne' {p t : ByteArray} {a b : Nat} {i : Int} (ha : a ≤ 999) (hb : b ≤ 999) (ht : noD t) (h1 : byteAt t 1 ≠ 113) : keyNum p a t ≠ keyNum (keyNum p b (⟨#[47, 113, 47]⟩ : ByteArray)) i ⟨#[]⟩ := by
  rw [keyNum_nest]
  refine keyNum_ne ha hb ht (noD_app noD_q' (by decide)) (.inr fun e => h1 ?_)
  rw [e, byteAt_app1' (by decide)]; rfl
theorem nest_inj {p t : ByteArray} {a : Int} {i j : Nat} (hi : i ≤ 999) (hj : j ≤ 999) (h : i ≠ j) : keyNum (keyNum p a t) i ⟨#[]⟩ ≠ keyNum (keyNum p a t) j ⟨#[]⟩ := keyNum_ne hi hj noD_nil noD_nil (.inl h)
def sgC (m : MachD) (id n : Int) : Int := if numK m (keyNum (⟨#[114, 47]⟩ : ByteArray) id (⟨#[47, 115]⟩ : ByteArray)) ≠ 1 then 2 else if inB n 1 31 = false then 4 else if ((numK m (keyNum (⟨#[103, 47]⟩ : ByteArray) id (⟨#[47, 116]⟩ : ByteArray)) : Nat) : Int) - ((numK m (keyNum (⟨#[103, 47]⟩ : ByteArray) id (⟨#[47, 104]⟩ : ByteArray)) : Nat) : Int) ≥ 4 then 5 else if numK m (keyNum (⟨#[103, 47]⟩ : ByteArray) id (⟨#[47, 116]⟩ : ByteArray)) ≥ 999 then 3 else 0
def sgM (m : MachD) (id n : Int) : MachD := if numK m (keyNum (⟨#[114, 47]⟩ : ByteArray) id (⟨#[47, 115]⟩ : ByteArray)) ≠ 1 then lookM m (keyNum (⟨#[114, 47]⟩ : ByteArray) id (⟨#[47, 115]⟩ : ByteArray)) else if inB n 1 31 = false then lookM m (keyNum (⟨#[114, 47]⟩ : ByteArray) id (⟨#[47, 115]⟩ : ByteArray)) else if ((numK m (keyNum (⟨#[103, 47]⟩ : ByteArray) id (⟨#[47, 116]⟩ : ByteArray)) : Nat) : Int) - ((numK m (keyNum (⟨#[103, 47]⟩ : ByteArray) id (⟨#[47, 104]⟩ : ByteArray)) : Nat) : Int) ≥ 4 then lookM (lookM (lookM m (keyNum (⟨#[114, 47]⟩ : ByteArray) id (⟨#[47, 115]⟩ : ByteArray))) (keyNum (⟨#[103, 47]⟩ : ByteArray) id (⟨#[47, 116]⟩ : ByteArray))) (keyNum (⟨#[103, 47]⟩ : ByteArray) id (⟨#[47, 104]⟩ : ByteArray)) else if numK m (keyNum (⟨#[103, 47]⟩ : ByteArray) id (⟨#[47, 116]⟩ : ByteArray)) ≥ 999 then lookM (lookM (lookM m (keyNum (⟨#[114, 47]⟩ : ByteArray) id (⟨#[47, 115]⟩ : ByteArray))) (keyNum (⟨#[103, 47]⟩ : ByteArray) id (⟨#[47, 116]⟩ : ByteArray))) (keyNum (⟨#[103, 47]⟩ : ByteArray) id (⟨#[47, 104]⟩ : ByteArray))
  else setM (setM (lookM (lookM (lookM m (keyNum (⟨#[114, 47]⟩ : ByteArray) id (⟨#[47, 115]⟩ : ByteArray))) (keyNum (⟨#[103, 47]⟩ : ByteArray) id (⟨#[47, 116]⟩ : ByteArray))) (keyNum (⟨#[103, 47]⟩ : ByteArray) id (⟨#[47, 104]⟩ : ByteArray))) (keyNum (⟨#[103, 47]⟩ : ByteArray) id (⟨#[47, 116]⟩ : ByteArray)) ((numK m (keyNum (⟨#[103, 47]⟩ : ByteArray) id (⟨#[47, 116]⟩ : ByteArray)) + 1 : Nat) : Int)) (keyNum (keyNum (⟨#[103, 47]⟩ : ByteArray) id (⟨#[47, 113, 47]⟩ : ByteArray)) ((numK m (keyNum (⟨#[103, 47]⟩ : ByteArray) id (⟨#[47, 116]⟩ : ByteArray)) + 1 : Nat) : Int) (⟨#[]⟩ : ByteArray)) n
theorem sg_1 {m : MachD} {id n : Int} (h : numOf (getKey m.store (keyNum (⟨#[114, 47]⟩ : ByteArray) id (⟨#[47, 115]⟩ : ByteArray))) ≠ 1) : 2 = sgC m id n ∧ sgM m id n = lookM m (keyNum (⟨#[114, 47]⟩ : ByteArray) id (⟨#[47, 115]⟩ : ByteArray)) := ⟨(if_pos h).symm, if_pos h⟩
theorem sg_2 {m : MachD} {id n : Int} (h : ¬ numOf (getKey m.store (keyNum (⟨#[114, 47]⟩ : ByteArray) id (⟨#[47, 115]⟩ : ByteArray))) ≠ 1) (h2 : inB n 1 31 = false) : 4 = sgC m id n ∧ sgM m id n = lookM m (keyNum (⟨#[114, 47]⟩ : ByteArray) id (⟨#[47, 115]⟩ : ByteArray)) := by
  unfold sgC sgM numK
  rw [if_neg h, if_pos h2, if_neg h, if_pos h2]
  exact ⟨rfl, rfl⟩
theorem sg_3 {m : MachD} {id n : Int} (h : ¬ numOf (getKey m.store (keyNum (⟨#[114, 47]⟩ : ByteArray) id (⟨#[47, 115]⟩ : ByteArray))) ≠ 1) (h2 : inB n 1 31 = true) (h3 : ((numOf (getKey m.store (keyNum (⟨#[103, 47]⟩ : ByteArray) id (⟨#[47, 116]⟩ : ByteArray))) : Nat) : Int) - ((numOf (getKey m.store (keyNum (⟨#[103, 47]⟩ : ByteArray) id (⟨#[47, 104]⟩ : ByteArray))) : Nat) : Int) ≥ 4) : 5 = sgC m id n ∧ sgM m id n = lookM (lookM (lookM m (keyNum (⟨#[114, 47]⟩ : ByteArray) id (⟨#[47, 115]⟩ : ByteArray))) (keyNum (⟨#[103, 47]⟩ : ByteArray) id (⟨#[47, 116]⟩ : ByteArray))) (keyNum (⟨#[103, 47]⟩ : ByteArray) id (⟨#[47, 104]⟩ : ByteArray)) := by
  unfold sgC sgM numK
  rw [if_neg h, if_neg (by rw [h2]; decide), if_pos h3, if_neg h, if_neg (by rw [h2]; decide), if_pos h3]
  exact ⟨rfl, rfl⟩
theorem sg_4 {m : MachD} {id n : Int} (h : ¬ numOf (getKey m.store (keyNum (⟨#[114, 47]⟩ : ByteArray) id (⟨#[47, 115]⟩ : ByteArray))) ≠ 1) (h2 : inB n 1 31 = true) (h3 : ¬ ((numOf (getKey m.store (keyNum (⟨#[103, 47]⟩ : ByteArray) id (⟨#[47, 116]⟩ : ByteArray))) : Nat) : Int) - ((numOf (getKey m.store (keyNum (⟨#[103, 47]⟩ : ByteArray) id (⟨#[47, 104]⟩ : ByteArray))) : Nat) : Int) ≥ 4) (h4 : numOf (getKey m.store (keyNum (⟨#[103, 47]⟩ : ByteArray) id (⟨#[47, 116]⟩ : ByteArray))) ≥ 999) : 3 = sgC m id n ∧ sgM m id n = lookM (lookM (lookM m (keyNum (⟨#[114, 47]⟩ : ByteArray) id (⟨#[47, 115]⟩ : ByteArray))) (keyNum (⟨#[103, 47]⟩ : ByteArray) id (⟨#[47, 116]⟩ : ByteArray))) (keyNum (⟨#[103, 47]⟩ : ByteArray) id (⟨#[47, 104]⟩ : ByteArray)) := by
  unfold sgC sgM numK
  rw [if_neg h, if_neg (by rw [h2]; decide), if_neg h3, if_pos h4, if_neg h, if_neg (by rw [h2]; decide), if_neg h3, if_pos h4]
  exact ⟨rfl, rfl⟩
theorem sg_5 {m : MachD} {id n : Int} (h : ¬ numOf (getKey m.store (keyNum (⟨#[114, 47]⟩ : ByteArray) id (⟨#[47, 115]⟩ : ByteArray))) ≠ 1) (h2 : inB n 1 31 = true) (h3 : ¬ ((numOf (getKey m.store (keyNum (⟨#[103, 47]⟩ : ByteArray) id (⟨#[47, 116]⟩ : ByteArray))) : Nat) : Int) - ((numOf (getKey m.store (keyNum (⟨#[103, 47]⟩ : ByteArray) id (⟨#[47, 104]⟩ : ByteArray))) : Nat) : Int) ≥ 4) (h4 : ¬ numOf (getKey m.store (keyNum (⟨#[103, 47]⟩ : ByteArray) id (⟨#[47, 116]⟩ : ByteArray))) ≥ 999) : 0 = sgC m id n ∧ sgM m id n = setM (setM (lookM (lookM (lookM m (keyNum (⟨#[114, 47]⟩ : ByteArray) id (⟨#[47, 115]⟩ : ByteArray))) (keyNum (⟨#[103, 47]⟩ : ByteArray) id (⟨#[47, 116]⟩ : ByteArray))) (keyNum (⟨#[103, 47]⟩ : ByteArray) id (⟨#[47, 104]⟩ : ByteArray))) (keyNum (⟨#[103, 47]⟩ : ByteArray) id (⟨#[47, 116]⟩ : ByteArray)) ((numOf (getKey m.store (keyNum (⟨#[103, 47]⟩ : ByteArray) id (⟨#[47, 116]⟩ : ByteArray))) + 1 : Nat) : Int)) (keyNum (keyNum (⟨#[103, 47]⟩ : ByteArray) id (⟨#[47, 113, 47]⟩ : ByteArray)) ((numOf (getKey m.store (keyNum (⟨#[103, 47]⟩ : ByteArray) id (⟨#[47, 116]⟩ : ByteArray))) + 1 : Nat) : Int) (⟨#[]⟩ : ByteArray)) n := by
  unfold sgC sgM numK
  rw [if_neg h, if_neg (by rw [h2]; decide), if_neg h3, if_neg h4, if_neg h, if_neg (by rw [h2]; decide), if_neg h3, if_neg h4]
  exact ⟨rfl, rfl⟩
theorem bdC.sg {b : Nat} {m : MachD} {id n : Int} (h : bdC b m) : bdC (b + 8) (sgM m id n) := by
  unfold sgM
  split
  · exact h.look.le (by omega)
  · split
    · exact h.look.le (by omega)
    · split
      · exact h.look.look.look.le (by omega)
      · split
        · exact h.look.look.look.le (by omega)
        · exact h.look.look.look.set.set.le (by omega)
def tsK (m : MachD) (id : Int) : ByteArray := (keyNum (keyNum (⟨#[103, 47]⟩ : ByteArray) id (⟨#[47, 113, 47]⟩ : ByteArray)) ((numK m (keyNum (⟨#[103, 47]⟩ : ByteArray) id (⟨#[47, 104]⟩ : ByteArray)) + 1 : Nat) : Int) (⟨#[]⟩ : ByteArray))
def tsC (m : MachD) (id : Int) : Int := if numK m (keyNum (⟨#[103, 47]⟩ : ByteArray) id (⟨#[47, 116]⟩ : ByteArray)) = numK m (keyNum (⟨#[103, 47]⟩ : ByteArray) id (⟨#[47, 104]⟩ : ByteArray)) then 5 else 0
def tsN (m : MachD) (id : Int) : Nat := if numK m (keyNum (⟨#[103, 47]⟩ : ByteArray) id (⟨#[47, 116]⟩ : ByteArray)) = numK m (keyNum (⟨#[103, 47]⟩ : ByteArray) id (⟨#[47, 104]⟩ : ByteArray)) then 0 else numK m (tsK m id)
def tsM (m : MachD) (id : Int) : MachD := if numK m (keyNum (⟨#[103, 47]⟩ : ByteArray) id (⟨#[47, 116]⟩ : ByteArray)) = numK m (keyNum (⟨#[103, 47]⟩ : ByteArray) id (⟨#[47, 104]⟩ : ByteArray)) then lookM (lookM m (keyNum (⟨#[103, 47]⟩ : ByteArray) id (⟨#[47, 104]⟩ : ByteArray))) (keyNum (⟨#[103, 47]⟩ : ByteArray) id (⟨#[47, 116]⟩ : ByteArray)) else setM (layM (lookM (lookM (lookM m (keyNum (⟨#[103, 47]⟩ : ByteArray) id (⟨#[47, 104]⟩ : ByteArray))) (keyNum (⟨#[103, 47]⟩ : ByteArray) id (⟨#[47, 116]⟩ : ByteArray))) (tsK m id)) (tsK m id) ⟨#[]⟩) (keyNum (⟨#[103, 47]⟩ : ByteArray) id (⟨#[47, 104]⟩ : ByteArray)) ((numK m (keyNum (⟨#[103, 47]⟩ : ByteArray) id (⟨#[47, 104]⟩ : ByteArray)) + 1 : Nat) : Int)
theorem ts_1 {m : MachD} {id : Int} (h2 : numOf (getKey (lookM m (keyNum (⟨#[103, 47]⟩ : ByteArray) id (⟨#[47, 104]⟩ : ByteArray))).store (keyNum (⟨#[103, 47]⟩ : ByteArray) id (⟨#[47, 116]⟩ : ByteArray))) = numOf (getKey m.store (keyNum (⟨#[103, 47]⟩ : ByteArray) id (⟨#[47, 104]⟩ : ByteArray)))) : (0 : Int) = ((tsN m id : Nat) : Int) ∧ 5 = tsC m id ∧ tsM m id = lookM (lookM m (keyNum (⟨#[103, 47]⟩ : ByteArray) id (⟨#[47, 104]⟩ : ByteArray))) (keyNum (⟨#[103, 47]⟩ : ByteArray) id (⟨#[47, 116]⟩ : ByteArray)) := by
  have h3 : numK m (keyNum (⟨#[103, 47]⟩ : ByteArray) id (⟨#[47, 116]⟩ : ByteArray)) = numK m (keyNum (⟨#[103, 47]⟩ : ByteArray) id (⟨#[47, 104]⟩ : ByteArray)) := h2
  unfold tsN tsC tsM
  rw [if_pos h3, if_pos h3, if_pos h3]
  exact ⟨rfl, rfl, rfl⟩
theorem ts_2 {m : MachD} {id : Int} (h2 : ¬ numOf (getKey (lookM m (keyNum (⟨#[103, 47]⟩ : ByteArray) id (⟨#[47, 104]⟩ : ByteArray))).store (keyNum (⟨#[103, 47]⟩ : ByteArray) id (⟨#[47, 116]⟩ : ByteArray))) = numOf (getKey m.store (keyNum (⟨#[103, 47]⟩ : ByteArray) id (⟨#[47, 104]⟩ : ByteArray)))) : ((numOf (getKey m.store (tsK m id)) : Nat) : Int) = ((tsN m id : Nat) : Int) ∧ 0 = tsC m id ∧ tsM m id = setM (layM (lookM (lookM (lookM m (keyNum (⟨#[103, 47]⟩ : ByteArray) id (⟨#[47, 104]⟩ : ByteArray))) (keyNum (⟨#[103, 47]⟩ : ByteArray) id (⟨#[47, 116]⟩ : ByteArray))) (tsK m id)) (tsK m id) ⟨#[]⟩) (keyNum (⟨#[103, 47]⟩ : ByteArray) id (⟨#[47, 104]⟩ : ByteArray)) ((numK m (keyNum (⟨#[103, 47]⟩ : ByteArray) id (⟨#[47, 104]⟩ : ByteArray)) + 1 : Nat) : Int) := by
  have h3 : ¬ numK m (keyNum (⟨#[103, 47]⟩ : ByteArray) id (⟨#[47, 116]⟩ : ByteArray)) = numK m (keyNum (⟨#[103, 47]⟩ : ByteArray) id (⟨#[47, 104]⟩ : ByteArray)) := h2
  unfold tsN tsC tsM
  rw [if_neg h3, if_neg h3, if_neg h3]
  exact ⟨rfl, rfl, rfl⟩
theorem bdC.ts {b : Nat} {m : MachD} {id : Int} (h : bdC b m) : bdC (b + 6) (tsM m id) := by
  unfold tsM
  split
  · exact h.look.look.le (by omega)
  · exact h.look.look.look.lay.set.le (by omega)
/-- Process 1 runs; h signals were taken, and those of l wait. -/
def sst (l : List Nat) (h : Nat) (m : MachD) : Prop := numK m (keyNum (⟨#[114, 47]⟩ : ByteArray) ((1 : Nat) : Int) (⟨#[47, 115]⟩ : ByteArray)) = 1 ∧ numK m (keyNum (⟨#[103, 47]⟩ : ByteArray) ((1 : Nat) : Int) (⟨#[47, 116]⟩ : ByteArray)) = h + l.length ∧ numK m (keyNum (⟨#[103, 47]⟩ : ByteArray) ((1 : Nat) : Int) (⟨#[47, 104]⟩ : ByteArray)) = h ∧ (∀ i x, l[i]? = some x → x ≤ 999 ∧ numK m (keyNum (keyNum (⟨#[103, 47]⟩ : ByteArray) ((1 : Nat) : Int) (⟨#[47, 113, 47]⟩ : ByteArray)) ((h + 1 + i : Nat) : Int) (⟨#[]⟩ : ByteArray)) = x) ∧ h + l.length ≤ 900
theorem sst.sendC {l : List Nat} {h r : Nat} {m : MachD} (p : sst l h m) (hr : r < 31) : sgC m ((1 : Nat) : Int) ((1 + r : Nat) : Int) = if l.length ≥ 4 then 5 else 0 := by
  obtain ⟨h1, h2, h3, h4, h5⟩ := p
  have hb : inB ((1 + r : Nat) : Int) 1 31 = true := decide_eq_true (by omega)
  have e1 : ¬ numOf (getKey m.store (keyNum (⟨#[114, 47]⟩ : ByteArray) ((1 : Nat) : Int) (⟨#[47, 115]⟩ : ByteArray))) ≠ 1 := fun e => e h1
  have e2 : numOf (getKey m.store (keyNum (⟨#[103, 47]⟩ : ByteArray) ((1 : Nat) : Int) (⟨#[47, 116]⟩ : ByteArray))) = h + l.length := h2
  have e3 : numOf (getKey m.store (keyNum (⟨#[103, 47]⟩ : ByteArray) ((1 : Nat) : Int) (⟨#[47, 104]⟩ : ByteArray))) = h := h3
  by_cases h6 : l.length ≥ 4
  · rw [if_pos h6]; exact (sg_3 e1 hb (by rw [e2, e3]; omega)).1.symm
  · rw [if_neg h6]; exact (sg_5 e1 hb (by rw [e2, e3]; omega) (by rw [e2]; omega)).1.symm
theorem sst.send {l : List Nat} {h r : Nat} {m : MachD} (p : sst l h m) (hr : r < 31) (hh : h + l.length < 900) : sst (if l.length ≥ 4 then l else l ++ [1 + r]) h (sgM m ((1 : Nat) : Int) ((1 + r : Nat) : Int)) := by
  obtain ⟨h1, h2, h3, h4, h5⟩ := p
  have hb : inB ((1 + r : Nat) : Int) 1 31 = true := decide_eq_true (by omega)
  have e1 : ¬ numOf (getKey m.store (keyNum (⟨#[114, 47]⟩ : ByteArray) ((1 : Nat) : Int) (⟨#[47, 115]⟩ : ByteArray))) ≠ 1 := fun e => e h1
  have e2 : numOf (getKey m.store (keyNum (⟨#[103, 47]⟩ : ByteArray) ((1 : Nat) : Int) (⟨#[47, 116]⟩ : ByteArray))) = h + l.length := h2
  have e3 : numOf (getKey m.store (keyNum (⟨#[103, 47]⟩ : ByteArray) ((1 : Nat) : Int) (⟨#[47, 104]⟩ : ByteArray))) = h := h3
  by_cases h6 : l.length ≥ 4
  · rw [if_pos h6, (sg_3 e1 hb (by rw [e2, e3]; omega)).2]
    exact ⟨h1, h2, h3, h4, h5⟩
  · rw [if_neg h6, (sg_5 e1 hb (by rw [e2, e3]; omega) (by rw [e2]; omega)).2, e2]
    have kq : keyOk (keyNum (keyNum (⟨#[103, 47]⟩ : ByteArray) ((1 : Nat) : Int) (⟨#[47, 113, 47]⟩ : ByteArray)) ((h + l.length + 1 : Nat) : Int) ⟨#[]⟩) = true := by
      refine key_ok (by omega) (kbs_num (n := 1) (by decide) (by decide)) (by decide) ?_ ?_
      · decide +kernel
      · decide +kernel
    refine ⟨?_, ?_, ?_, ?_, by rw [List.length_append, List.length_singleton]; omega⟩
    · rw [numK_ne (key_other (by rw [byte_num (by decide), keyNum_nest, byte_num (by decide)]; decide)), numK_ne (key_other (by rw [byte_num (by decide), byte_num (by decide)]; decide))]; exact h1
    · rw [numK_ne (q_ne' (a := 1) (b := 1) (by decide) (by decide) noD_t' (by decide)), numK_set (key_ok (n := 1) (by decide) (by decide) (by decide) (by decide) (by decide)) (by omega), List.length_append, List.length_singleton]; omega
    · rw [numK_ne (q_ne' (a := 1) (b := 1) (by decide) (by decide) noD_h' (by decide)), numK_ne (keyNum_ne (n := 1) (k := 1) (by decide) (by decide) noD_h' noD_t' (.inr (by decide)))]; exact h3
    · intro i x hx
      rcases Nat.lt_or_ge i l.length with hi | hi
      · rw [List.getElem?_append_left hi] at hx
        have := h4 i x hx
        refine ⟨this.1, ?_⟩
        rw [numK_ne (nest_inj (by omega) (by omega) (by omega)), numK_ne (Ne.symm (q_ne' (a := 1) (b := 1) (by decide) (by decide) noD_t' (by decide)))]
        exact this.2
      · rw [List.getElem?_append_right hi] at hx
        have hi2 : i = l.length := by
          rcases Nat.eq_zero_or_pos (i - l.length) with h0 | h0
          · omega
          · rw [List.getElem?_eq_none (by rw [List.length_singleton]; omega)] at hx; cases hx
        subst hi2
        rw [Nat.sub_self] at hx
        cases hx
        refine ⟨by omega, ?_⟩
        rw [show h + 1 + l.length = h + l.length + 1 by omega]
        exact numK_set kq (by omega)
theorem sst.takeC {l : List Nat} {h : Nat} {m : MachD} (p : sst l h m) : tsC m ((1 : Nat) : Int) = if l = [] then 5 else 0 := by
  unfold tsC
  rw [p.2.1, p.2.2.1]
  by_cases e : l = []
  · subst e; rw [if_pos (by rfl), if_pos rfl]
  · rw [if_neg e, if_neg]
    have := List.length_pos_iff.2 e
    omega
theorem sst.take {x : Nat} {l : List Nat} {h : Nat} {m : MachD} (p : sst (x :: l) h m) : tsN m ((1 : Nat) : Int) = x ∧ sst l (h + 1) (tsM m ((1 : Nat) : Int)) := by
  obtain ⟨h1, h2, h3, h4, h5⟩ := p
  rw [List.length_cons] at h2 h5
  have e2 : numOf (getKey (lookM m (keyNum (⟨#[103, 47]⟩ : ByteArray) ((1 : Nat) : Int) (⟨#[47, 104]⟩ : ByteArray))).store (keyNum (⟨#[103, 47]⟩ : ByteArray) ((1 : Nat) : Int) (⟨#[47, 116]⟩ : ByteArray))) = h + (l.length + 1) := h2
  have e3 : numOf (getKey m.store (keyNum (⟨#[103, 47]⟩ : ByteArray) ((1 : Nat) : Int) (⟨#[47, 104]⟩ : ByteArray))) = h := h3
  have h6 := ts_2 (m := m) (id := ((1 : Nat) : Int)) (by rw [e2, e3]; omega)
  have hk : tsK m ((1 : Nat) : Int) = keyNum (keyNum (⟨#[103, 47]⟩ : ByteArray) ((1 : Nat) : Int) (⟨#[47, 113, 47]⟩ : ByteArray)) ((h + 1 : Nat) : Int) ⟨#[]⟩ := by unfold tsK; rw [h3]
  rw [hk, h3] at h6
  constructor
  · have h7 := (h4 0 x rfl).2
    have h8 : numOf (getKey m.store (keyNum (keyNum (⟨#[103, 47]⟩ : ByteArray) ((1 : Nat) : Int) (⟨#[47, 113, 47]⟩ : ByteArray)) ((h + 1 : Nat) : Int) ⟨#[]⟩)) = x := h7
    have h9 := h6.1
    rw [h8] at h9
    omega
  · rw [h6.2.2]
    refine ⟨?_, ?_, ?_, ?_, by omega⟩
    · rw [numK_ne (key_other (by rw [byte_num (by decide), byte_num (by decide)]; decide)), numK_lay (key_other (by rw [byte_num (by decide), keyNum_nest, byte_num (by decide)]; decide))]; exact h1
    · rw [numK_ne (keyNum_ne (n := 1) (k := 1) (by decide) (by decide) noD_t' noD_h' (.inr (by decide))), numK_lay (q_ne' (a := 1) (b := 1) (by decide) (by decide) noD_t' (by decide))]
      show numK m _ = _
      rw [h2]; omega
    · rw [numK_set (key_ok (n := 1) (by decide) (by decide) (by decide) (by decide) (by decide)) (by omega)]
    · intro i y hy
      have h7 := h4 (i + 1) y (by rw [List.getElem?_cons_succ]; exact hy)
      have hi : i < l.length := (List.getElem?_eq_some_iff.1 hy).1
      refine ⟨h7.1, ?_⟩
      rw [numK_ne (Ne.symm (q_ne' (a := 1) (b := 1) (by decide) (by decide) noD_h' (by decide))), numK_lay (nest_inj (by omega) (by omega) (by omega))]
      show numK m _ = y
      rw [show h + 1 + 1 + i = h + 1 + (i + 1) by omega]
      exact h7.2
instance (m : MachD) (key : ByteArray) (n : Nat) : Decidable (numK m key = n) := inferInstance
theorem sst_base : spawnI (⟨[], (⟨[], []⟩ : TouchD)⟩ : MachD) = 1 ∧ sst [] 0 (spawnM (⟨[], (⟨[], []⟩ : TouchD)⟩ : MachD) 0) := by
  refine ⟨by decide +kernel, by decide +kernel, by decide +kernel, by decide +kernel, fun i x hx => ?_, by decide⟩
  rw [List.getElem?_nil] at hx; cases hx

def wL (l : List Nat) : List Int := l.map fun n : Nat => ((n : Nat) : Int)
theorem wL_length (l : List Nat) : (wL l).length = l.length := List.length_map ..
theorem wL_snoc (l : List Nat) (n : Nat) : wL (l ++ [n]) = wL l ++ [((n : Nat) : Int)] := by unfold wL; rw [List.map_append]; rfl
theorem sg_iff {W : List Nat} {k r : Nat} {m : MachD} (p : sst W 0 m) (hr : r < 31) (hl : W.length = min k 4) : decide (sgC m 1 ((1 + r : Nat) : Int) = 0) = decide (k < 4) := by
  have e : sgC m 1 ((1 + r : Nat) : Int) = if W.length ≥ 4 then 5 else 0 := p.sendC hr
  rw [e, decide_eq_decide]
  by_cases h : W.length ≥ 4
  · rw [if_pos h]; omega
  · rw [if_neg h]; omega
theorem sg_nextA {W : List Nat} {k r : Nat} {m : MachD} (p : sst W 0 m) (hr : r < 31) (hl : W.length = min k 4) (hc : sgC m 1 ((1 + r : Nat) : Int) = 0) : sst (W ++ [1 + r]) 0 (sgM m 1 ((1 + r : Nat) : Int)) ∧ (W ++ [1 + r]).length = min (k + 1) 4 := by
  have e : sgC m 1 ((1 + r : Nat) : Int) = if W.length ≥ 4 then 5 else 0 := p.sendC hr
  rw [e] at hc
  have h2 := p.send hr (by omega)
  by_cases h : W.length ≥ 4
  · rw [if_pos h] at hc; omega
  · rw [if_neg h] at h2
    exact ⟨h2, by rw [List.length_append, List.length_singleton]; omega⟩
theorem sg_nextB {W : List Nat} {k r : Nat} {m : MachD} (p : sst W 0 m) (hr : r < 31) (hl : W.length = min k 4) (hc : ¬ sgC m 1 ((1 + r : Nat) : Int) = 0) : sst W 0 (sgM m 1 ((1 + r : Nat) : Int)) ∧ W.length = min (k + 1) 4 := by
  have e : sgC m 1 ((1 + r : Nat) : Int) = if W.length ≥ 4 then 5 else 0 := p.sendC hr
  rw [e] at hc
  have h2 := p.send hr (by omega)
  by_cases h : W.length ≥ 4
  · rw [if_pos h] at h2
    exact ⟨h2, by omega⟩
  · rw [if_neg h] at hc; exact absurd rfl hc
theorem ts_at {W : List Nat} {j : Nat} {m : MachD} {x : Int} {D : List Int} (hD : D = wL W) (p : sst (W.drop j) j m) (hx : nth D j = some x) : ((tsN m 1 : Nat) : Int) = x ∧ tsC m 1 = 0 ∧ sst (W.drop (j + 1)) (j + 1) (tsM m 1) := by
  subst hD
  rw [nth_eq] at hx
  unfold wL at hx
  rw [List.getElem?_map] at hx
  cases hw : W[j]? with
  | none => rw [hw] at hx; cases hx
  | some y =>
    rw [hw] at hx
    cases hx
    obtain ⟨hj, hy⟩ := List.getElem?_eq_some_iff.1 hw
    rw [List.drop_eq_getElem_cons hj, hy] at p
    have h1 := p.take
    have h2 := p.takeC
    rw [if_neg (by simp)] at h2
    exact ⟨congrArg (fun n : Nat => (n : Int)) h1.1, h2, h1.2⟩
theorem ts_end {W : List Nat} {j : Nat} {m : MachD} (p : sst (W.drop j) j m) (hj : W.length ≤ j) : tsC m 1 = 5 := by
  rw [List.drop_of_length_le hj] at p
  have := p.takeC
  rw [if_pos rfl] at this
  exact this
theorem ts_start {W : List Nat} {m : MachD} (p : sst W 0 m) : sst (W.drop 0) 0 m := p
end Go.Proofs.YtkeglhkdanenbaaGreatDoor
