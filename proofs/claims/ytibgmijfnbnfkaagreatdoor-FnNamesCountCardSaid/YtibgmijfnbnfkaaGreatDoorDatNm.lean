/-
  Names are linked, unlinked, renamed: in plain words.
-/
import Derived.Test.YtibgmijfnbnfkaaGreatDoorDatVd
namespace Go.Proofs.YtibgmijfnbnfkaaGreatDoor
open Go.ChangeShapes Go.WideShapes Go.ChangeAt Go.RowKit
set_option maxRecDepth 100000
set_option maxHeartbeats 1000000

/-! ### Names are linked, unlinked, renamed -/
section
variable {m M : MachD} {name from_ to_ : ByteArray}
theorem tf {b : Bool} (h : b = true) : ¬ b = false := by rw [h]; decide
theorem fo_le (m : MachD) (name : ByteArray) : fo m name ≤ 999 := by
  unfold fo
  split
  · exact numK_le _ _
  · exact Nat.zero_le _
def ulC (m : MachD) (name : ByteArray) : Int := if nameOk name = false then 4 else if fo m name = 0 then 2 else 0
def ulM (m : MachD) (name : ByteArray) : MachD := if nameOk name = false then m else if fo m name = 0 then foM m name else
  if numOf (getKey (layM (foM m name) ((⟨#[110, 47]⟩ : ByteArray) ++ name) ⟨#[]⟩).store (keyNum (⟨#[105, 47]⟩ : ByteArray) ((fo m name : Nat) : Int) (⟨#[47, 108]⟩ : ByteArray))) > 1 then setM (lookM (layM (foM m name) ((⟨#[110, 47]⟩ : ByteArray) ++ name) ⟨#[]⟩) (keyNum (⟨#[105, 47]⟩ : ByteArray) ((fo m name : Nat) : Int) (⟨#[47, 108]⟩ : ByteArray))) (keyNum (⟨#[105, 47]⟩ : ByteArray) ((fo m name : Nat) : Int) (⟨#[47, 108]⟩ : ByteArray)) (((numOf (getKey (layM (foM m name) ((⟨#[110, 47]⟩ : ByteArray) ++ name) ⟨#[]⟩).store (keyNum (⟨#[105, 47]⟩ : ByteArray) ((fo m name : Nat) : Int) (⟨#[47, 108]⟩ : ByteArray))) : Nat) : Int) - 1)
  else wipeM (lookM (layM (foM m name) ((⟨#[110, 47]⟩ : ByteArray) ++ name) ⟨#[]⟩) (keyNum (⟨#[105, 47]⟩ : ByteArray) ((fo m name : Nat) : Int) (⟨#[47, 108]⟩ : ByteArray))) (keyNum (⟨#[105, 47]⟩ : ByteArray) ((fo m name : Nat) : Int) (⟨#[47]⟩ : ByteArray))
theorem ul_1 (h : nameOk name = false) : (4 : Int) = ulC m name ∧ m = ulM m name := by unfold ulC ulM; rw [if_pos h, if_pos h]; exact ⟨rfl, rfl⟩
theorem ul_2 (h : nameOk name = true) (h2 : fo m name = 0) : (2 : Int) = ulC m name ∧ foM m name = ulM m name := by unfold ulC ulM; rw [if_neg (tf h), if_neg (tf h), if_pos h2, if_pos h2]; exact ⟨rfl, rfl⟩
theorem ul_3 (h : nameOk name = true) (h2 : ¬ fo m name = 0) (h3 : numOf (getKey (layM (foM m name) ((⟨#[110, 47]⟩ : ByteArray) ++ name) ⟨#[]⟩).store (keyNum (⟨#[105, 47]⟩ : ByteArray) ((fo m name : Nat) : Int) (⟨#[47, 108]⟩ : ByteArray))) > 1) : (0 : Int) = ulC m name ∧ setM (lookM (layM (foM m name) ((⟨#[110, 47]⟩ : ByteArray) ++ name) ⟨#[]⟩) (keyNum (⟨#[105, 47]⟩ : ByteArray) ((fo m name : Nat) : Int) (⟨#[47, 108]⟩ : ByteArray))) (keyNum (⟨#[105, 47]⟩ : ByteArray) ((fo m name : Nat) : Int) (⟨#[47, 108]⟩ : ByteArray)) (((numOf (getKey (layM (foM m name) ((⟨#[110, 47]⟩ : ByteArray) ++ name) ⟨#[]⟩).store (keyNum (⟨#[105, 47]⟩ : ByteArray) ((fo m name : Nat) : Int) (⟨#[47, 108]⟩ : ByteArray))) : Nat) : Int) - 1) = ulM m name := by
  unfold ulC ulM; rw [if_neg (tf h), if_neg (tf h), if_neg h2, if_neg h2, if_pos h3]; exact ⟨rfl, rfl⟩
theorem ul_4 (h : nameOk name = true) (h2 : ¬ fo m name = 0) (h3 : ¬ numOf (getKey (layM (foM m name) ((⟨#[110, 47]⟩ : ByteArray) ++ name) ⟨#[]⟩).store (keyNum (⟨#[105, 47]⟩ : ByteArray) ((fo m name : Nat) : Int) (⟨#[47, 108]⟩ : ByteArray))) > 1) : (0 : Int) = ulC m name ∧ wipeM (lookM (layM (foM m name) ((⟨#[110, 47]⟩ : ByteArray) ++ name) ⟨#[]⟩) (keyNum (⟨#[105, 47]⟩ : ByteArray) ((fo m name : Nat) : Int) (⟨#[47, 108]⟩ : ByteArray))) (keyNum (⟨#[105, 47]⟩ : ByteArray) ((fo m name : Nat) : Int) (⟨#[47]⟩ : ByteArray)) = ulM m name := by
  unfold ulC ulM; rw [if_neg (tf h), if_neg (tf h), if_neg h2, if_neg h2, if_neg h3]; exact ⟨rfl, rfl⟩
def lnC (m : MachD) (from_ to_ : ByteArray) : Int := if nameOk from_ = false then 4 else if nameOk to_ = false then 4 else if fo m from_ = 0 then 2 else if fo (foM m from_) to_ ≠ 0 then 1 else if numOf (getKey (foM (foM m from_) to_).store (keyNum (⟨#[105, 47]⟩ : ByteArray) ((fo m from_ : Nat) : Int) (⟨#[47, 108]⟩ : ByteArray))) ≥ 4 then 3 else 0
def lnM (m : MachD) (from_ to_ : ByteArray) : MachD := if nameOk from_ = false then m else if nameOk to_ = false then m else if fo m from_ = 0 then foM m from_ else if fo (foM m from_) to_ ≠ 0 then foM (foM m from_) to_ else if numOf (getKey (foM (foM m from_) to_).store (keyNum (⟨#[105, 47]⟩ : ByteArray) ((fo m from_ : Nat) : Int) (⟨#[47, 108]⟩ : ByteArray))) ≥ 4 then lookM (foM (foM m from_) to_) (keyNum (⟨#[105, 47]⟩ : ByteArray) ((fo m from_ : Nat) : Int) (⟨#[47, 108]⟩ : ByteArray))
  else setM (setM (lookM (foM (foM m from_) to_) (keyNum (⟨#[105, 47]⟩ : ByteArray) ((fo m from_ : Nat) : Int) (⟨#[47, 108]⟩ : ByteArray))) ((⟨#[110, 47]⟩ : ByteArray) ++ to_) ((fo m from_ : Nat) : Int)) (keyNum (⟨#[105, 47]⟩ : ByteArray) ((fo m from_ : Nat) : Int) (⟨#[47, 108]⟩ : ByteArray)) ((numOf (getKey (foM (foM m from_) to_).store (keyNum (⟨#[105, 47]⟩ : ByteArray) ((fo m from_ : Nat) : Int) (⟨#[47, 108]⟩ : ByteArray))) + 1 : Nat) : Int)
theorem ln_1 (h : nameOk from_ = false) : (4 : Int) = lnC m from_ to_ ∧ m = lnM m from_ to_ := by unfold lnC lnM; rw [if_pos h, if_pos h]; exact ⟨rfl, rfl⟩
theorem ln_2 (h : nameOk from_ = true) (k : nameOk to_ = false) : (4 : Int) = lnC m from_ to_ ∧ m = lnM m from_ to_ := by unfold lnC lnM; rw [if_neg (tf h), if_neg (tf h), if_pos k, if_pos k]; exact ⟨rfl, rfl⟩
theorem ln_3 (h : nameOk from_ = true) (k : nameOk to_ = true) (h2 : fo m from_ = 0) : (2 : Int) = lnC m from_ to_ ∧ foM m from_ = lnM m from_ to_ := by unfold lnC lnM; rw [if_neg (tf h), if_neg (tf h), if_neg (tf k), if_neg (tf k), if_pos h2, if_pos h2]; exact ⟨rfl, rfl⟩
theorem ln_4 (h : nameOk from_ = true) (k : nameOk to_ = true) (h2 : ¬ fo m from_ = 0) (h3 : fo (foM m from_) to_ ≠ 0) : (1 : Int) = lnC m from_ to_ ∧ foM (foM m from_) to_ = lnM m from_ to_ := by unfold lnC lnM; rw [if_neg (tf h), if_neg (tf h), if_neg (tf k), if_neg (tf k), if_neg h2, if_neg h2, if_pos h3, if_pos h3]; exact ⟨rfl, rfl⟩
theorem ln_5 (h : nameOk from_ = true) (k : nameOk to_ = true) (h2 : ¬ fo m from_ = 0) (h3 : ¬ fo (foM m from_) to_ ≠ 0) (h4 : numOf (getKey (foM (foM m from_) to_).store (keyNum (⟨#[105, 47]⟩ : ByteArray) ((fo m from_ : Nat) : Int) (⟨#[47, 108]⟩ : ByteArray))) ≥ 4) : (3 : Int) = lnC m from_ to_ ∧ lookM (foM (foM m from_) to_) (keyNum (⟨#[105, 47]⟩ : ByteArray) ((fo m from_ : Nat) : Int) (⟨#[47, 108]⟩ : ByteArray)) = lnM m from_ to_ := by unfold lnC lnM; rw [if_neg (tf h), if_neg (tf h), if_neg (tf k), if_neg (tf k), if_neg h2, if_neg h2, if_neg h3, if_neg h3, if_pos h4, if_pos h4]; exact ⟨rfl, rfl⟩
theorem ln_6 (h : nameOk from_ = true) (k : nameOk to_ = true) (h2 : ¬ fo m from_ = 0) (h3 : ¬ fo (foM m from_) to_ ≠ 0) (h4 : ¬ numOf (getKey (foM (foM m from_) to_).store (keyNum (⟨#[105, 47]⟩ : ByteArray) ((fo m from_ : Nat) : Int) (⟨#[47, 108]⟩ : ByteArray))) ≥ 4) : (0 : Int) = lnC m from_ to_ ∧ setM (setM (lookM (foM (foM m from_) to_) (keyNum (⟨#[105, 47]⟩ : ByteArray) ((fo m from_ : Nat) : Int) (⟨#[47, 108]⟩ : ByteArray))) ((⟨#[110, 47]⟩ : ByteArray) ++ to_) ((fo m from_ : Nat) : Int)) (keyNum (⟨#[105, 47]⟩ : ByteArray) ((fo m from_ : Nat) : Int) (⟨#[47, 108]⟩ : ByteArray)) ((numOf (getKey (foM (foM m from_) to_).store (keyNum (⟨#[105, 47]⟩ : ByteArray) ((fo m from_ : Nat) : Int) (⟨#[47, 108]⟩ : ByteArray))) + 1 : Nat) : Int) = lnM m from_ to_ := by unfold lnC lnM; rw [if_neg (tf h), if_neg (tf h), if_neg (tf k), if_neg (tf k), if_neg h2, if_neg h2, if_neg h3, if_neg h3, if_neg h4, if_neg h4]; exact ⟨rfl, rfl⟩
def rnC (m : MachD) (from_ to_ : ByteArray) : Int := if nameOk from_ = false then 4 else if nameOk to_ = false then 4 else if fo m from_ = 0 then 2 else 0
def rnM (m : MachD) (from_ to_ : ByteArray) : MachD := if nameOk from_ = false then m else if nameOk to_ = false then m else if fo m from_ = 0 then foM m from_ else if fo (foM m from_) to_ = fo m from_ then foM (foM m from_) to_ else
  if fo (foM m from_) to_ ≠ 0 then layM (setM (ulM (foM (foM m from_) to_) to_) ((⟨#[110, 47]⟩ : ByteArray) ++ to_) ((fo m from_ : Nat) : Int)) ((⟨#[110, 47]⟩ : ByteArray) ++ from_) ⟨#[]⟩ else layM (setM (foM (foM m from_) to_) ((⟨#[110, 47]⟩ : ByteArray) ++ to_) ((fo m from_ : Nat) : Int)) ((⟨#[110, 47]⟩ : ByteArray) ++ from_) ⟨#[]⟩
theorem rn_1 (h : nameOk from_ = false) : (4 : Int) = rnC m from_ to_ ∧ m = rnM m from_ to_ := by unfold rnC rnM; rw [if_pos h, if_pos h]; exact ⟨rfl, rfl⟩
theorem rn_2 (h : nameOk from_ = true) (k : nameOk to_ = false) : (4 : Int) = rnC m from_ to_ ∧ m = rnM m from_ to_ := by unfold rnC rnM; rw [if_neg (tf h), if_neg (tf h), if_pos k, if_pos k]; exact ⟨rfl, rfl⟩
theorem rn_3 (h : nameOk from_ = true) (k : nameOk to_ = true) (h2 : fo m from_ = 0) : (2 : Int) = rnC m from_ to_ ∧ foM m from_ = rnM m from_ to_ := by unfold rnC rnM; rw [if_neg (tf h), if_neg (tf h), if_neg (tf k), if_neg (tf k), if_pos h2, if_pos h2]; exact ⟨rfl, rfl⟩
theorem rn_4 (h : nameOk from_ = true) (k : nameOk to_ = true) (h2 : ¬ fo m from_ = 0) (h3 : fo (foM m from_) to_ = fo m from_) : (0 : Int) = rnC m from_ to_ ∧ foM (foM m from_) to_ = rnM m from_ to_ := by unfold rnC rnM; rw [if_neg (tf h), if_neg (tf h), if_neg (tf k), if_neg (tf k), if_neg h2, if_neg h2, if_pos h3]; exact ⟨rfl, rfl⟩
theorem rn_5 (h : nameOk from_ = true) (k : nameOk to_ = true) (h2 : ¬ fo m from_ = 0) (h3 : ¬ fo (foM m from_) to_ = fo m from_) (h4 : fo (foM m from_) to_ ≠ 0) : (0 : Int) = rnC m from_ to_ ∧ layM (setM (ulM (foM (foM m from_) to_) to_) ((⟨#[110, 47]⟩ : ByteArray) ++ to_) ((fo m from_ : Nat) : Int)) ((⟨#[110, 47]⟩ : ByteArray) ++ from_) ⟨#[]⟩ = rnM m from_ to_ := by unfold rnC rnM; rw [if_neg (tf h), if_neg (tf h), if_neg (tf k), if_neg (tf k), if_neg h2, if_neg h2, if_neg h3, if_pos h4]; exact ⟨rfl, rfl⟩
theorem rn_6 (h : nameOk from_ = true) (k : nameOk to_ = true) (h2 : ¬ fo m from_ = 0) (h3 : ¬ fo (foM m from_) to_ = fo m from_) (h4 : ¬ fo (foM m from_) to_ ≠ 0) : (0 : Int) = rnC m from_ to_ ∧ layM (setM (foM (foM m from_) to_) ((⟨#[110, 47]⟩ : ByteArray) ++ to_) ((fo m from_ : Nat) : Int)) ((⟨#[110, 47]⟩ : ByteArray) ++ from_) ⟨#[]⟩ = rnM m from_ to_ := by unfold rnC rnM; rw [if_neg (tf h), if_neg (tf h), if_neg (tf k), if_neg (tf k), if_neg h2, if_neg h2, if_neg h3, if_neg h4]; exact ⟨rfl, rfl⟩
theorem bdC.ul {b : Nat} (h : bdC b m) : bdC (2 * b + 7) (ulM m name) := by
  have h1 := bdC.fo (name := name) h
  unfold ulM
  split
  · exact h.le (by omega)
  · split
    · exact h1.le (by omega)
    · split
      · exact h1.lay.look.set.le (by omega)
      · exact h1.lay.look.wipe.le (by omega)
theorem bdC.ln {b : Nat} (h : bdC b m) : bdC (b + 5) (lnM m from_ to_) := by
  have h1 := bdC.fo (name := from_) h
  have h2 := bdC.fo (name := to_) h1
  unfold lnM
  split
  · exact h.le (by omega)
  · split
    · exact h.le (by omega)
    · split
      · exact h1.le (by omega)
      · split
        · exact h2.le (by omega)
        · split
          · exact h2.look.le (by omega)
          · exact h2.look.set.set.le (by omega)
theorem bdC.rn {b : Nat} (h : bdC b m) : bdC (2 * b + 13) (rnM m from_ to_) := by
  have h1 := bdC.fo (name := from_) h
  have h2 := bdC.fo (name := to_) h1
  unfold rnM
  split
  · exact h.le (by omega)
  · split
    · exact h.le (by omega)
    · split
      · exact h1.le (by omega)
      · split
        · exact h2.le (by omega)
        · split
          · exact (bdC.ul h2).set.lay.le (by omega)
          · exact h2.set.lay.le (by omega)
end
end Go.Proofs.YtibgmijfnbnfkaaGreatDoor
