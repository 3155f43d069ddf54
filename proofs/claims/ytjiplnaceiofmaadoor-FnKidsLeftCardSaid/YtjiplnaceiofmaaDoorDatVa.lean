/-
  Processes.
-/
import Derived.Test.YtjiplnaceiofmaaDoorDatV
namespace Go.Proofs.YtjiplnaceiofmaaDoor
open Go.ChangeShapes Go.WideShapes Go.ChangeAt Go.RowKit
set_option maxRecDepth 100000
set_option maxHeartbeats 1000000


theorem noD_s : noD (⟨#[47, 115]⟩ : ByteArray) := noD_lit [47, 115] (by decide)
theorem noD_p : noD (⟨#[47, 112]⟩ : ByteArray) := noD_lit [47, 112] (by decide)
theorem noD_x : noD (⟨#[47, 120]⟩ : ByteArray) := noD_lit [47, 120] (by decide)
/-! ### Processes -/
def spawnI (m : MachD) : Nat := if 12 ≤ numK m (⟨#[99, 47, 112, 114, 111, 99]⟩ : ByteArray) then 0 else bumpN (lookM m (⟨#[99, 47, 112, 114, 111, 99]⟩ : ByteArray)) (⟨#[99, 47, 112, 114, 111, 99]⟩ : ByteArray)
def spawnC (m : MachD) : Int := if 12 ≤ numK m (⟨#[99, 47, 112, 114, 111, 99]⟩ : ByteArray) then 3 else 0
def spawnM (m : MachD) (parent : Int) : MachD := if 12 ≤ numK m (⟨#[99, 47, 112, 114, 111, 99]⟩ : ByteArray) then lookM m (⟨#[99, 47, 112, 114, 111, 99]⟩ : ByteArray) else setM (setM (bumpM (lookM m (⟨#[99, 47, 112, 114, 111, 99]⟩ : ByteArray)) (⟨#[99, 47, 112, 114, 111, 99]⟩ : ByteArray)) (keyNum (⟨#[114, 47]⟩ : ByteArray) (bumpN (lookM m (⟨#[99, 47, 112, 114, 111, 99]⟩ : ByteArray)) (⟨#[99, 47, 112, 114, 111, 99]⟩ : ByteArray)) (⟨#[47, 115]⟩ : ByteArray)) 1) (keyNum (⟨#[114, 47]⟩ : ByteArray) (bumpN (lookM m (⟨#[99, 47, 112, 114, 111, 99]⟩ : ByteArray)) (⟨#[99, 47, 112, 114, 111, 99]⟩ : ByteArray)) (⟨#[47, 112]⟩ : ByteArray)) parent
theorem spawnI_t {m : MachD} (h : numOf (getKey m.store (⟨#[99, 47, 112, 114, 111, 99]⟩ : ByteArray)) ≥ 12) : (0 : Int) = ((spawnI m : Nat) : Int) := by
  unfold spawnI numK
  rw [if_pos h]; rfl
theorem spawnI_f {m : MachD} (h : ¬ numOf (getKey m.store (⟨#[99, 47, 112, 114, 111, 99]⟩ : ByteArray)) ≥ 12) : ((bumpN (lookM m (⟨#[99, 47, 112, 114, 111, 99]⟩ : ByteArray)) (⟨#[99, 47, 112, 114, 111, 99]⟩ : ByteArray) : Nat) : Int) = ((spawnI m : Nat) : Int) := by
  unfold spawnI numK
  rw [if_neg h]
theorem spawnC_t {m : MachD} (h : numOf (getKey m.store (⟨#[99, 47, 112, 114, 111, 99]⟩ : ByteArray)) ≥ 12) : 3 = spawnC m := (if_pos h).symm
theorem spawnC_f {m : MachD} (h : ¬ numOf (getKey m.store (⟨#[99, 47, 112, 114, 111, 99]⟩ : ByteArray)) ≥ 12) : 0 = spawnC m := (if_neg h).symm
theorem spawnM_t {m : MachD} {p : Int} (h : numOf (getKey m.store (⟨#[99, 47, 112, 114, 111, 99]⟩ : ByteArray)) ≥ 12) : spawnM m p = lookM m (⟨#[99, 47, 112, 114, 111, 99]⟩ : ByteArray) := if_pos h
theorem spawnM_f {m : MachD} {p : Int} (h : ¬ numOf (getKey m.store (⟨#[99, 47, 112, 114, 111, 99]⟩ : ByteArray)) ≥ 12) : spawnM m p = setM (setM (bumpM (lookM m (⟨#[99, 47, 112, 114, 111, 99]⟩ : ByteArray)) (⟨#[99, 47, 112, 114, 111, 99]⟩ : ByteArray)) (keyNum (⟨#[114, 47]⟩ : ByteArray) (bumpN (lookM m (⟨#[99, 47, 112, 114, 111, 99]⟩ : ByteArray)) (⟨#[99, 47, 112, 114, 111, 99]⟩ : ByteArray)) (⟨#[47, 115]⟩ : ByteArray)) 1) (keyNum (⟨#[114, 47]⟩ : ByteArray) (bumpN (lookM m (⟨#[99, 47, 112, 114, 111, 99]⟩ : ByteArray)) (⟨#[99, 47, 112, 114, 111, 99]⟩ : ByteArray)) (⟨#[47, 112]⟩ : ByteArray)) p := if_neg h
theorem bdC.spawn {b : Nat} {m : MachD} {p : Int} (h : bdC b m) : bdC (b + 6) (spawnM m p) := by
  unfold spawnM
  split
  · exact h.look.le (by omega)
  · exact h.look.bump.set.set.le (by omega)
def endC (m : MachD) (id n : Int) : Int := if numK m (keyNum (⟨#[114, 47]⟩ : ByteArray) id (⟨#[47, 115]⟩ : ByteArray)) ≠ 1 then 2 else if inB n 0 100 then 0 else 4
def endM (m : MachD) (id n : Int) : MachD := if numK m (keyNum (⟨#[114, 47]⟩ : ByteArray) id (⟨#[47, 115]⟩ : ByteArray)) ≠ 1 then lookM m (keyNum (⟨#[114, 47]⟩ : ByteArray) id (⟨#[47, 115]⟩ : ByteArray)) else if inB n 0 100 then setM (setM (lookM m (keyNum (⟨#[114, 47]⟩ : ByteArray) id (⟨#[47, 115]⟩ : ByteArray))) (keyNum (⟨#[114, 47]⟩ : ByteArray) id (⟨#[47, 115]⟩ : ByteArray)) 2) (keyNum (⟨#[114, 47]⟩ : ByteArray) id (⟨#[47, 120]⟩ : ByteArray)) (n + 1) else lookM m (keyNum (⟨#[114, 47]⟩ : ByteArray) id (⟨#[47, 115]⟩ : ByteArray))
theorem endC_n {m : MachD} {id n : Int} (h : numOf (getKey m.store (keyNum (⟨#[114, 47]⟩ : ByteArray) id (⟨#[47, 115]⟩ : ByteArray))) ≠ 1) : 2 = endC m id n := (if_pos h).symm
theorem endM_n {m : MachD} {id n : Int} (h : numOf (getKey m.store (keyNum (⟨#[114, 47]⟩ : ByteArray) id (⟨#[47, 115]⟩ : ByteArray))) ≠ 1) : endM m id n = lookM m (keyNum (⟨#[114, 47]⟩ : ByteArray) id (⟨#[47, 115]⟩ : ByteArray)) := if_pos h
theorem endC_b {m : MachD} {id n : Int} (h : ¬ numOf (getKey m.store (keyNum (⟨#[114, 47]⟩ : ByteArray) id (⟨#[47, 115]⟩ : ByteArray))) ≠ 1) (h2 : inB n 0 100 = false) : 4 = endC m id n := by unfold endC numK; rw [if_neg h, if_neg (by rw [h2]; decide)]
theorem endM_b {m : MachD} {id n : Int} (h : ¬ numOf (getKey m.store (keyNum (⟨#[114, 47]⟩ : ByteArray) id (⟨#[47, 115]⟩ : ByteArray))) ≠ 1) (h2 : inB n 0 100 = false) : endM m id n = lookM m (keyNum (⟨#[114, 47]⟩ : ByteArray) id (⟨#[47, 115]⟩ : ByteArray)) := by unfold endM numK; rw [if_neg h, if_neg (by rw [h2]; decide)]
theorem endC_t {m : MachD} {id n : Int} (h : ¬ numOf (getKey m.store (keyNum (⟨#[114, 47]⟩ : ByteArray) id (⟨#[47, 115]⟩ : ByteArray))) ≠ 1) (h2 : inB n 0 100 = true) : 0 = endC m id n := by unfold endC numK; rw [if_neg h, if_pos h2]
theorem endM_t {m : MachD} {id n : Int} (h : ¬ numOf (getKey m.store (keyNum (⟨#[114, 47]⟩ : ByteArray) id (⟨#[47, 115]⟩ : ByteArray))) ≠ 1) (h2 : inB n 0 100 = true) : endM m id n = setM (setM (lookM m (keyNum (⟨#[114, 47]⟩ : ByteArray) id (⟨#[47, 115]⟩ : ByteArray))) (keyNum (⟨#[114, 47]⟩ : ByteArray) id (⟨#[47, 115]⟩ : ByteArray)) 2) (keyNum (⟨#[114, 47]⟩ : ByteArray) id (⟨#[47, 120]⟩ : ByteArray)) (n + 1) := by unfold endM numK; rw [if_neg h, if_pos h2]
theorem bdC.ends {b : Nat} {m : MachD} {id n : Int} (h : bdC b m) : bdC (b + 6) (endM m id n) := by
  unfold endM
  split
  · exact h.look.le (by omega)
  · split
    · exact h.look.set.set.le (by omega)
    · exact h.look.le (by omega)
/-- k processes run. -/
def procs (k : Nat) (m : MachD) : Prop := numK m (⟨#[99, 47, 112, 114, 111, 99]⟩ : ByteArray) = k ∧ (∀ j : Nat, 1 ≤ j → j ≤ k → numK m (keyNum (⟨#[114, 47]⟩ : ByteArray) j (⟨#[47, 115]⟩ : ByteArray)) = 1) ∧ bdC (10 * k) m
theorem procs_base : procs 0 (⟨[], (⟨[], []⟩ : TouchD)⟩ : MachD) := ⟨numK_base _, fun _ _ _ => by omega, bdC_base⟩
theorem cp_ne {n : Int} {t : ByteArray} : (⟨#[99, 47, 112, 114, 111, 99]⟩ : ByteArray) ≠ keyNum (⟨#[114, 47]⟩ : ByteArray) n t := key_other (by rw [byte_num (by decide)]; decide)
theorem procs.step {k : Nat} {m : MachD} (h : procs k m) (hk : k < 12) : spawnI m = k + 1 ∧ procs (k + 1) (spawnM m 1) := by
  obtain ⟨h1, h2, h3⟩ := h
  have hl : numK (lookM m (⟨#[99, 47, 112, 114, 111, 99]⟩ : ByteArray)) (⟨#[99, 47, 112, 114, 111, 99]⟩ : ByteArray) = k := h1
  have hb : bumpN (lookM m (⟨#[99, 47, 112, 114, 111, 99]⟩ : ByteArray)) (⟨#[99, 47, 112, 114, 111, 99]⟩ : ByteArray) = k + 1 := by rw [bumpN_lt (by omega), hl]
  refine ⟨by unfold spawnI; rw [if_neg (by omega), hb], ?_, ?_, h3.spawn.le (by omega)⟩
  · unfold spawnM
    rw [if_neg (by omega), numK_ne cp_ne, numK_ne cp_ne, numK_bump (by decide) (by omega), hl]
  · intro j h4 h5
    unfold spawnM
    rw [if_neg (by omega), hb, numK_ne (keyNum_ne (by omega) (by omega) noD_s noD_p (.inr (by decide)))]
    rcases Decidable.em (j = k + 1) with e | e
    · subst e
      exact numK_set (n := 1) (key_ok (by omega) (by decide) (by decide) (by decide) (by decide)) (by decide)
    · rw [numK_ne (keyNum_ne (by omega) (by omega) noD_s noD_s (.inl e)), numK_bumpNe (Ne.symm cp_ne)]
      exact h2 j h4 (by omega)
theorem procs.full {m : MachD} (h : procs 12 m) : spawnI m = 0 ∧ spawnC m = 3 := by
  have h1 := h.1
  exact ⟨if_pos (by omega), if_pos (by omega)⟩
theorem procs.ends {m : MachD} (h : procs 12 m) {r : Nat} (hr : r < 12) : endC m ((1 + r : Nat) : Int) 3 = 0 ∧ endC (endM m ((1 + r : Nat) : Int) 3) ((1 + r : Nat) : Int) 3 = 2 := by
  have h1 := h.2.1 (1 + r) (by omega) (by omega)
  have hb : inB 3 0 100 = true := by decide
  constructor
  · unfold endC; rw [if_neg (by rw [h1]; decide), if_pos hb]
  · have h0 : ¬ numOf (getKey m.store (keyNum (⟨#[114, 47]⟩ : ByteArray) ((1 + r : Nat) : Int) (⟨#[47, 115]⟩ : ByteArray))) ≠ 1 := fun e => e h1
    have h2 : numK (endM m ((1 + r : Nat) : Int) 3) (keyNum (⟨#[114, 47]⟩ : ByteArray) ((1 + r : Nat) : Int) (⟨#[47, 115]⟩ : ByteArray)) = 2 := by
      rw [endM_t h0 hb, numK_ne (keyNum_ne (by omega) (by omega) noD_s noD_x (.inr (by decide)))]
      exact numK_set (n := 2) (key_ok (by omega) (by decide) (by decide) (by decide) (by decide)) (by decide)
    exact (endC_n (m := endM m ((1 + r : Nat) : Int) 3) (fun e => by
      have h3 : numOf (getKey (endM m ((1 + r : Nat) : Int) 3).store (keyNum (⟨#[114, 47]⟩ : ByteArray) ((1 + r : Nat) : Int) (⟨#[47, 115]⟩ : ByteArray))) = 2 := h2
      rw [h3] at e; cases e)).symm
end Go.Proofs.YtjiplnaceiofmaaDoor
