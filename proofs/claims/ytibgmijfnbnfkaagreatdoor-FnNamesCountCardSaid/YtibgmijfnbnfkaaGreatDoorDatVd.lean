/-
  Names.
-/
import Derived.Test.YtibgmijfnbnfkaaGreatDoorDatV
namespace Go.Proofs.YtibgmijfnbnfkaaGreatDoor
open Go.ChangeShapes Go.WideShapes Go.ChangeAt Go.RowKit
set_option maxRecDepth 100000
set_option maxHeartbeats 1000000


/-! ### Names -/
def nb (n : Nat) : Bool := decide ((97 ≤ n ∧ n ≤ 122) ∨ (48 ≤ n ∧ n ≤ 57) ∨ n = 46 ∨ n = 45)
def nameOk (key : ByteArray) : Bool := (List.range key.size).all (fun j => nb (byteAt key j)) && inB key.size 1 12
theorem nameOk_bad {key : ByteArray} {j : Nat} (hj : j < key.size) (h : nb (byteAt key j) = false) : nameOk key = false := by
  have : (List.range key.size).all (fun j => nb (byteAt key j)) = false := by
    rw [List.all_eq_false]
    exact ⟨j, List.mem_range.2 hj, by simp [h]⟩
  simp [nameOk, this]
theorem nameOk_all {key : ByteArray} (h : ∀ j, j < key.size → nb (byteAt key j) = true) : nameOk key = inB key.size 1 12 := by
  have : (List.range key.size).all (fun j => nb (byteAt key j)) = true := by
    rw [List.all_eq_true]
    exact fun j hj => h j (List.mem_range.1 hj)
  simp [nameOk, this]
theorem nameOk_size {key : ByteArray} (h : nameOk key = true) : key.size ≤ 12 := by
  unfold nameOk at h
  rw [Bool.and_eq_true] at h
  have := inB_bd h.2
  omega
def fo (m : MachD) (name : ByteArray) : Nat := if nameOk name then numK m ((⟨#[110, 47]⟩ : ByteArray) ++ name) else 0
def foM (m : MachD) (name : ByteArray) : MachD := if nameOk name then lookM m ((⟨#[110, 47]⟩ : ByteArray) ++ name) else m
theorem fo_t {m : MachD} {name : ByteArray} (h : nameOk name = true) : ((numOf (getKey m.store ((⟨#[110, 47]⟩ : ByteArray) ++ name)) : Nat) : Int) = ((fo m name : Nat) : Int) ∧ foM m name = lookM m ((⟨#[110, 47]⟩ : ByteArray) ++ name) := ⟨by unfold fo numK; rw [if_pos h], if_pos h⟩
theorem fo_f {m : MachD} {name : ByteArray} (h : nameOk name = false) : (0 : Int) = ((fo m name : Nat) : Int) ∧ foM m name = m := ⟨by unfold fo; rw [if_neg (by rw [h]; decide)]; rfl, if_neg (by rw [h]; decide)⟩
theorem bdC.fo {b : Nat} {m : MachD} {name : ByteArray} (h : bdC b m) : bdC (b + 1) (foM m name) := by
  unfold foM
  split
  · exact h.look
  · exact h.le (by omega)
/-- A name is made. -/
def mnI (m : MachD) (name : ByteArray) : Nat := if nameOk name = false then 0 else if fo m name ≠ 0 then 0 else if numK m (⟨#[99, 47, 102, 105, 108, 101]⟩ : ByteArray) ≥ 20 then 0 else bumpN (lookM (foM m name) (⟨#[99, 47, 102, 105, 108, 101]⟩ : ByteArray)) (⟨#[99, 47, 102, 105, 108, 101]⟩ : ByteArray)
def mnC (m : MachD) (name : ByteArray) : Int := if nameOk name = false then 4 else if fo m name ≠ 0 then 1 else if numK m (⟨#[99, 47, 102, 105, 108, 101]⟩ : ByteArray) ≥ 20 then 3 else 0
def mnM (m : MachD) (name : ByteArray) : MachD := if nameOk name = false then m else if fo m name ≠ 0 then foM m name else if numK m (⟨#[99, 47, 102, 105, 108, 101]⟩ : ByteArray) ≥ 20 then lookM (foM m name) (⟨#[99, 47, 102, 105, 108, 101]⟩ : ByteArray) else setM (setM (bumpM (lookM (foM m name) (⟨#[99, 47, 102, 105, 108, 101]⟩ : ByteArray)) (⟨#[99, 47, 102, 105, 108, 101]⟩ : ByteArray)) ((⟨#[110, 47]⟩ : ByteArray) ++ name) ((bumpN (lookM (foM m name) (⟨#[99, 47, 102, 105, 108, 101]⟩ : ByteArray)) (⟨#[99, 47, 102, 105, 108, 101]⟩ : ByteArray) : Nat) : Int)) (keyNum (⟨#[105, 47]⟩ : ByteArray) (bumpN (lookM (foM m name) (⟨#[99, 47, 102, 105, 108, 101]⟩ : ByteArray)) (⟨#[99, 47, 102, 105, 108, 101]⟩ : ByteArray)) (⟨#[47, 108]⟩ : ByteArray)) 1
theorem fo_store (m : MachD) (name : ByteArray) : (foM m name).store = m.store := by unfold foM; split <;> rfl
theorem mn_1 {m : MachD} {name : ByteArray} (h : nameOk name = false) : (0 : Int) = ((mnI m name : Nat) : Int) ∧ 4 = mnC m name ∧ mnM m name = m := ⟨by unfold mnI; rw [if_pos h]; rfl, (if_pos h).symm, if_pos h⟩
theorem mn_2 {m : MachD} {name : ByteArray} (h : nameOk name = true) (h2 : fo m name ≠ 0) : (0 : Int) = ((mnI m name : Nat) : Int) ∧ 1 = mnC m name ∧ mnM m name = foM m name := by
  unfold mnI mnC mnM
  simp only [h, if_pos h2, Bool.true_eq_false, if_false]
  exact ⟨rfl, trivial, trivial⟩
theorem mn_3 {m : MachD} {name : ByteArray} (h : nameOk name = true) (h2 : ¬ fo m name ≠ 0) (h3 : numOf (getKey (foM m name).store (⟨#[99, 47, 102, 105, 108, 101]⟩ : ByteArray)) ≥ 20) : (0 : Int) = ((mnI m name : Nat) : Int) ∧ 3 = mnC m name ∧ mnM m name = lookM (foM m name) (⟨#[99, 47, 102, 105, 108, 101]⟩ : ByteArray) := by
  rw [fo_store] at h3
  unfold mnI mnC mnM numK
  simp only [h, if_neg h2, if_pos h3, Bool.true_eq_false, if_false]
  exact ⟨rfl, trivial, trivial⟩
theorem mn_4 {m : MachD} {name : ByteArray} (h : nameOk name = true) (h2 : ¬ fo m name ≠ 0) (h3 : ¬ numOf (getKey (foM m name).store (⟨#[99, 47, 102, 105, 108, 101]⟩ : ByteArray)) ≥ 20) : ((bumpN (lookM (foM m name) (⟨#[99, 47, 102, 105, 108, 101]⟩ : ByteArray)) (⟨#[99, 47, 102, 105, 108, 101]⟩ : ByteArray) : Nat) : Int) = ((mnI m name : Nat) : Int) ∧ 0 = mnC m name ∧ mnM m name = setM (setM (bumpM (lookM (foM m name) (⟨#[99, 47, 102, 105, 108, 101]⟩ : ByteArray)) (⟨#[99, 47, 102, 105, 108, 101]⟩ : ByteArray)) ((⟨#[110, 47]⟩ : ByteArray) ++ name) ((bumpN (lookM (foM m name) (⟨#[99, 47, 102, 105, 108, 101]⟩ : ByteArray)) (⟨#[99, 47, 102, 105, 108, 101]⟩ : ByteArray) : Nat) : Int)) (keyNum (⟨#[105, 47]⟩ : ByteArray) (bumpN (lookM (foM m name) (⟨#[99, 47, 102, 105, 108, 101]⟩ : ByteArray)) (⟨#[99, 47, 102, 105, 108, 101]⟩ : ByteArray)) (⟨#[47, 108]⟩ : ByteArray)) 1 := by
  rw [fo_store] at h3
  unfold mnI mnC mnM numK
  simp only [h, if_neg h2, if_neg h3, Bool.true_eq_false, if_false]
  exact ⟨trivial, trivial, trivial⟩
theorem bdC.mn {b : Nat} {m : MachD} {name : ByteArray} (h : bdC b m) : bdC (b + 8) (mnM m name) := by
  unfold mnM
  split
  · exact h.le (by omega)
  · split
    · exact (bdC.fo h).le (by omega)
    · split
      · exact (bdC.fo h).look.le (by omega)
      · exact (bdC.fo h).look.bump.set.set.le (by omega)
def nK (s : ByteArray) : ByteArray := (⟨#[110, 47]⟩ : ByteArray) ++ s
theorem cf_ne (s : ByteArray) : (⟨#[99, 47, 102, 105, 108, 101]⟩ : ByteArray) ≠ nK s := key_other (by
  have : byteAt (nK s) 0 = 110 := by unfold nK; rw [byteAt_append (by decide)]; rfl
  rw [this]; decide)
theorem lk_ne (s : ByteArray) (n : Int) (t : ByteArray) : nK s ≠ keyNum (⟨#[105, 47]⟩ : ByteArray) n t := key_other (by
  have : byteAt (nK s) 0 = 110 := by unfold nK; rw [byteAt_append (by decide)]; rfl
  rw [this, byte_num (by decide)]; decide)
theorem cf_lk (n : Int) (t : ByteArray) : (⟨#[99, 47, 102, 105, 108, 101]⟩ : ByteArray) ≠ keyNum (⟨#[105, 47]⟩ : ByteArray) n t := key_other (by rw [byte_num (by decide)]; decide)
end Go.Proofs.YtibgmijfnbnfkaaGreatDoor
