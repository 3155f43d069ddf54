/-
  Pipes; texts put out.
-/
import Derived.Test.YtjiplnaceiofmaaDoorDatV
namespace Go.Proofs.YtjiplnaceiofmaaDoor
open Go.ChangeShapes Go.WideShapes Go.ChangeAt Go.RowKit
set_option maxRecDepth 100000
set_option maxHeartbeats 1000000


/-! ### Pipes -/
theorem noD_o : noD (⟨#[47, 111]⟩ : ByteArray) := noD_lit [47, 111] (by decide)
def isP (m : MachD) (id : Int) : Bool := decide (numK m (keyNum (⟨#[112, 47]⟩ : ByteArray) id (⟨#[47, 111]⟩ : ByteArray)) = 1)
def mpI (m : MachD) : Nat := if 8 ≤ numK m (⟨#[99, 47, 112, 105, 112, 101]⟩ : ByteArray) then 0 else bumpN (lookM m (⟨#[99, 47, 112, 105, 112, 101]⟩ : ByteArray)) (⟨#[99, 47, 112, 105, 112, 101]⟩ : ByteArray)
def mpC (m : MachD) : Int := if 8 ≤ numK m (⟨#[99, 47, 112, 105, 112, 101]⟩ : ByteArray) then 3 else 0
def mpM (m : MachD) : MachD := if 8 ≤ numK m (⟨#[99, 47, 112, 105, 112, 101]⟩ : ByteArray) then lookM m (⟨#[99, 47, 112, 105, 112, 101]⟩ : ByteArray) else setM (bumpM (lookM m (⟨#[99, 47, 112, 105, 112, 101]⟩ : ByteArray)) (⟨#[99, 47, 112, 105, 112, 101]⟩ : ByteArray)) (keyNum (⟨#[112, 47]⟩ : ByteArray) (bumpN (lookM m (⟨#[99, 47, 112, 105, 112, 101]⟩ : ByteArray)) (⟨#[99, 47, 112, 105, 112, 101]⟩ : ByteArray)) (⟨#[47, 111]⟩ : ByteArray)) 1
theorem mpI_t {m : MachD} (h : numOf (getKey m.store (⟨#[99, 47, 112, 105, 112, 101]⟩ : ByteArray)) ≥ 8) : (0 : Int) = ((mpI m : Nat) : Int) := by
  unfold mpI numK
  rw [if_pos h]; rfl
theorem mpI_f {m : MachD} (h : ¬ numOf (getKey m.store (⟨#[99, 47, 112, 105, 112, 101]⟩ : ByteArray)) ≥ 8) : ((bumpN (lookM m (⟨#[99, 47, 112, 105, 112, 101]⟩ : ByteArray)) (⟨#[99, 47, 112, 105, 112, 101]⟩ : ByteArray) : Nat) : Int) = ((mpI m : Nat) : Int) := by
  unfold mpI numK
  rw [if_neg h]
theorem mpC_t {m : MachD} (h : numOf (getKey m.store (⟨#[99, 47, 112, 105, 112, 101]⟩ : ByteArray)) ≥ 8) : 3 = mpC m := (if_pos h).symm
theorem mpC_f {m : MachD} (h : ¬ numOf (getKey m.store (⟨#[99, 47, 112, 105, 112, 101]⟩ : ByteArray)) ≥ 8) : 0 = mpC m := (if_neg h).symm
theorem mpM_t {m : MachD} (h : numOf (getKey m.store (⟨#[99, 47, 112, 105, 112, 101]⟩ : ByteArray)) ≥ 8) : mpM m = lookM m (⟨#[99, 47, 112, 105, 112, 101]⟩ : ByteArray) := if_pos h
theorem mpM_f {m : MachD} (h : ¬ numOf (getKey m.store (⟨#[99, 47, 112, 105, 112, 101]⟩ : ByteArray)) ≥ 8) : mpM m = setM (bumpM (lookM m (⟨#[99, 47, 112, 105, 112, 101]⟩ : ByteArray)) (⟨#[99, 47, 112, 105, 112, 101]⟩ : ByteArray)) (keyNum (⟨#[112, 47]⟩ : ByteArray) (bumpN (lookM m (⟨#[99, 47, 112, 105, 112, 101]⟩ : ByteArray)) (⟨#[99, 47, 112, 105, 112, 101]⟩ : ByteArray)) (⟨#[47, 111]⟩ : ByteArray)) 1 := if_neg h
theorem bdC.mp {b : Nat} {m : MachD} (h : bdC b m) : bdC (b + 5) (mpM m) := by
  unfold mpM
  split
  · exact h.look.le (by omega)
  · exact h.look.bump.set.le (by omega)
/-- What is put into a pipe. -/
def ppC (m : MachD) (id : Int) (text : ByteArray) : Int := if isP m id = false then 2 else if text.size > 20 then 4 else if ((numK m (keyNum (⟨#[112, 47]⟩ : ByteArray) id (⟨#[47, 116]⟩ : ByteArray)) : Nat) : Int) - ((numK m (keyNum (⟨#[112, 47]⟩ : ByteArray) id (⟨#[47, 104]⟩ : ByteArray)) : Nat) : Int) ≥ 4 then 5 else if numK m (keyNum (⟨#[112, 47]⟩ : ByteArray) id (⟨#[47, 116]⟩ : ByteArray)) ≥ 999 then 3 else 0
def ppM (m : MachD) (id : Int) (text : ByteArray) : MachD :=
  if isP m id = false then lookM m (keyNum (⟨#[112, 47]⟩ : ByteArray) id (⟨#[47, 111]⟩ : ByteArray)) else if text.size > 20 then lookM m (keyNum (⟨#[112, 47]⟩ : ByteArray) id (⟨#[47, 111]⟩ : ByteArray)) else if ((numK m (keyNum (⟨#[112, 47]⟩ : ByteArray) id (⟨#[47, 116]⟩ : ByteArray)) : Nat) : Int) - ((numK m (keyNum (⟨#[112, 47]⟩ : ByteArray) id (⟨#[47, 104]⟩ : ByteArray)) : Nat) : Int) ≥ 4 then lookM (lookM (lookM m (keyNum (⟨#[112, 47]⟩ : ByteArray) id (⟨#[47, 111]⟩ : ByteArray))) (keyNum (⟨#[112, 47]⟩ : ByteArray) id (⟨#[47, 116]⟩ : ByteArray))) (keyNum (⟨#[112, 47]⟩ : ByteArray) id (⟨#[47, 104]⟩ : ByteArray)) else if numK m (keyNum (⟨#[112, 47]⟩ : ByteArray) id (⟨#[47, 116]⟩ : ByteArray)) ≥ 999 then lookM (lookM (lookM m (keyNum (⟨#[112, 47]⟩ : ByteArray) id (⟨#[47, 111]⟩ : ByteArray))) (keyNum (⟨#[112, 47]⟩ : ByteArray) id (⟨#[47, 116]⟩ : ByteArray))) (keyNum (⟨#[112, 47]⟩ : ByteArray) id (⟨#[47, 104]⟩ : ByteArray))
  else layM (setM (lookM (lookM (lookM m (keyNum (⟨#[112, 47]⟩ : ByteArray) id (⟨#[47, 111]⟩ : ByteArray))) (keyNum (⟨#[112, 47]⟩ : ByteArray) id (⟨#[47, 116]⟩ : ByteArray))) (keyNum (⟨#[112, 47]⟩ : ByteArray) id (⟨#[47, 104]⟩ : ByteArray))) (keyNum (⟨#[112, 47]⟩ : ByteArray) id (⟨#[47, 116]⟩ : ByteArray)) ((numK m (keyNum (⟨#[112, 47]⟩ : ByteArray) id (⟨#[47, 116]⟩ : ByteArray)) + 1 : Nat) : Int)) (keyNum (keyNum (⟨#[112, 47]⟩ : ByteArray) id (⟨#[47, 113, 47]⟩ : ByteArray)) ((numK m (keyNum (⟨#[112, 47]⟩ : ByteArray) id (⟨#[47, 116]⟩ : ByteArray)) + 1 : Nat) : Int) (⟨#[]⟩ : ByteArray)) ((⟨#[45]⟩ : ByteArray) ++ hexS text)
theorem pp_1 {m : MachD} {id : Int} {text : ByteArray} (h : isP m id = false) : 2 = ppC m id text ∧ ppM m id text = lookM m (keyNum (⟨#[112, 47]⟩ : ByteArray) id (⟨#[47, 111]⟩ : ByteArray)) := ⟨(if_pos h).symm, if_pos h⟩
theorem pp_2 {m : MachD} {id : Int} {text : ByteArray} (h : isP m id = true) (h2 : text.size > 20) : 4 = ppC m id text ∧ ppM m id text = lookM m (keyNum (⟨#[112, 47]⟩ : ByteArray) id (⟨#[47, 111]⟩ : ByteArray)) := by
  unfold ppC ppM
  simp only [h, if_pos h2, Bool.true_eq_false, if_false, and_self]
theorem pp_3 {m : MachD} {id : Int} {text : ByteArray} (h : isP m id = true) (h2 : ¬ text.size > 20) (h3 : ((numOf (getKey m.store (keyNum (⟨#[112, 47]⟩ : ByteArray) id (⟨#[47, 116]⟩ : ByteArray))) : Nat) : Int) - ((numOf (getKey m.store (keyNum (⟨#[112, 47]⟩ : ByteArray) id (⟨#[47, 104]⟩ : ByteArray))) : Nat) : Int) ≥ 4) : 5 = ppC m id text ∧ ppM m id text = lookM (lookM (lookM m (keyNum (⟨#[112, 47]⟩ : ByteArray) id (⟨#[47, 111]⟩ : ByteArray))) (keyNum (⟨#[112, 47]⟩ : ByteArray) id (⟨#[47, 116]⟩ : ByteArray))) (keyNum (⟨#[112, 47]⟩ : ByteArray) id (⟨#[47, 104]⟩ : ByteArray)) := by
  unfold ppC ppM numK
  simp only [h, if_neg h2, if_pos h3, Bool.true_eq_false, if_false, and_self]
theorem pp_4 {m : MachD} {id : Int} {text : ByteArray} (h : isP m id = true) (h2 : ¬ text.size > 20) (h3 : ¬ ((numOf (getKey m.store (keyNum (⟨#[112, 47]⟩ : ByteArray) id (⟨#[47, 116]⟩ : ByteArray))) : Nat) : Int) - ((numOf (getKey m.store (keyNum (⟨#[112, 47]⟩ : ByteArray) id (⟨#[47, 104]⟩ : ByteArray))) : Nat) : Int) ≥ 4) (h4 : numOf (getKey m.store (keyNum (⟨#[112, 47]⟩ : ByteArray) id (⟨#[47, 116]⟩ : ByteArray))) ≥ 999) : 3 = ppC m id text ∧ ppM m id text = lookM (lookM (lookM m (keyNum (⟨#[112, 47]⟩ : ByteArray) id (⟨#[47, 111]⟩ : ByteArray))) (keyNum (⟨#[112, 47]⟩ : ByteArray) id (⟨#[47, 116]⟩ : ByteArray))) (keyNum (⟨#[112, 47]⟩ : ByteArray) id (⟨#[47, 104]⟩ : ByteArray)) := by
  unfold ppC ppM numK
  simp only [h, if_neg h2, if_neg h3, if_pos h4, Bool.true_eq_false, if_false, and_self]
theorem pp_5 {m : MachD} {id : Int} {text : ByteArray} (h : isP m id = true) (h2 : ¬ text.size > 20) (h3 : ¬ ((numOf (getKey m.store (keyNum (⟨#[112, 47]⟩ : ByteArray) id (⟨#[47, 116]⟩ : ByteArray))) : Nat) : Int) - ((numOf (getKey m.store (keyNum (⟨#[112, 47]⟩ : ByteArray) id (⟨#[47, 104]⟩ : ByteArray))) : Nat) : Int) ≥ 4) (h4 : ¬ numOf (getKey m.store (keyNum (⟨#[112, 47]⟩ : ByteArray) id (⟨#[47, 116]⟩ : ByteArray))) ≥ 999) : 0 = ppC m id text ∧ ppM m id text = layM (setM (lookM (lookM (lookM m (keyNum (⟨#[112, 47]⟩ : ByteArray) id (⟨#[47, 111]⟩ : ByteArray))) (keyNum (⟨#[112, 47]⟩ : ByteArray) id (⟨#[47, 116]⟩ : ByteArray))) (keyNum (⟨#[112, 47]⟩ : ByteArray) id (⟨#[47, 104]⟩ : ByteArray))) (keyNum (⟨#[112, 47]⟩ : ByteArray) id (⟨#[47, 116]⟩ : ByteArray)) ((numOf (getKey m.store (keyNum (⟨#[112, 47]⟩ : ByteArray) id (⟨#[47, 116]⟩ : ByteArray))) + 1 : Nat) : Int)) (keyNum (keyNum (⟨#[112, 47]⟩ : ByteArray) id (⟨#[47, 113, 47]⟩ : ByteArray)) ((numOf (getKey m.store (keyNum (⟨#[112, 47]⟩ : ByteArray) id (⟨#[47, 116]⟩ : ByteArray))) + 1 : Nat) : Int) (⟨#[]⟩ : ByteArray)) ((⟨#[45]⟩ : ByteArray) ++ hexS text) := by
  unfold ppC ppM numK
  simp only [h, if_neg h2, if_neg h3, if_neg h4, Bool.true_eq_false, if_false, and_self]
theorem bdC.pp {b : Nat} {m : MachD} {id : Int} {text : ByteArray} (h : bdC b m) : bdC (b + 8) (ppM m id text) := by
  unfold ppM
  split
  · exact h.look.le (by omega)
  · split
    · exact h.look.le (by omega)
    · split
      · exact h.look.look.look.le (by omega)
      · split
        · exact h.look.look.look.le (by omega)
        · exact h.look.look.look.set.lay.le (by omega)
/-- k pipes stand. -/
def pipes (k : Nat) (m : MachD) : Prop := numK m (⟨#[99, 47, 112, 105, 112, 101]⟩ : ByteArray) = k ∧ (∀ j : Nat, 1 ≤ j → j ≤ k → numK m (keyNum (⟨#[112, 47]⟩ : ByteArray) j (⟨#[47, 111]⟩ : ByteArray)) = 1) ∧ numK m (keyNum (⟨#[112, 47]⟩ : ByteArray) 9 (⟨#[47, 111]⟩ : ByteArray)) = 0 ∧ bdC (10 * k) m
theorem pipes_base : pipes 0 (⟨[], (⟨[], []⟩ : TouchD)⟩ : MachD) := ⟨numK_base _, fun _ _ _ => by omega, numK_base _, bdC_base⟩
theorem cpi_ne {n : Int} {t : ByteArray} : (⟨#[99, 47, 112, 105, 112, 101]⟩ : ByteArray) ≠ keyNum (⟨#[112, 47]⟩ : ByteArray) n t := key_other (by rw [byte_num (by decide)]; decide)
theorem pipes.step {k : Nat} {m : MachD} (h : pipes k m) (hk : k < 8) : mpI m = k + 1 ∧ pipes (k + 1) (mpM m) := by
  obtain ⟨h1, h2, h9, h3⟩ := h
  have hl : numK (lookM m (⟨#[99, 47, 112, 105, 112, 101]⟩ : ByteArray)) (⟨#[99, 47, 112, 105, 112, 101]⟩ : ByteArray) = k := h1
  have hb : bumpN (lookM m (⟨#[99, 47, 112, 105, 112, 101]⟩ : ByteArray)) (⟨#[99, 47, 112, 105, 112, 101]⟩ : ByteArray) = k + 1 := by rw [bumpN_lt (by omega), hl]
  refine ⟨by unfold mpI; rw [if_neg (by omega), hb], ?_, ?_, ?_, h3.mp.le (by omega)⟩
  · unfold mpM
    rw [if_neg (by omega), numK_ne cpi_ne, numK_bump (by decide) (by omega), hl]
  · intro j h4 h5
    unfold mpM
    rw [if_neg (by omega), hb]
    rcases Decidable.em (j = k + 1) with e | e
    · subst e
      exact numK_set (n := 1) (key_ok (by omega) (by decide) (by decide) (by decide) (by decide)) (by decide)
    · rw [numK_ne (keyNum_ne (by omega) (by omega) noD_o noD_o (.inl e)), numK_bumpNe (Ne.symm cpi_ne)]
      exact h2 j h4 (by omega)
  · unfold mpM
    have hne : (keyNum (⟨#[112, 47]⟩ : ByteArray) 9 (⟨#[47, 111]⟩ : ByteArray)) ≠ (keyNum (⟨#[112, 47]⟩ : ByteArray) ((k + 1 : Nat) : Int) (⟨#[47, 111]⟩ : ByteArray)) := keyNum_ne (n := 9) (by omega) (by omega) noD_o noD_o (.inl (by omega))
    rw [if_neg (by omega), hb, numK_ne hne, numK_bumpNe (Ne.symm cpi_ne)]
    exact h9
theorem pipes.full {m : MachD} (h : pipes 8 m) : mpI m = 0 ∧ mpC m = 3 ∧ (mpM m).store = m.store := by
  have h1 := h.1
  refine ⟨if_pos (by omega), if_pos (by omega), ?_⟩
  unfold mpM
  rw [if_pos (by omega)]; rfl
theorem pipes.is {m : MachD} (h : pipes 8 m) {r : Nat} (hr : r < 8) : isP m ((1 + r : Nat) : Int) = true := decide_eq_true (h.2.1 (1 + r) (by omega) (by omega))
theorem pipes.bad {m : MachD} (h : pipes 8 m) {r : Nat} (hr : r < 8) {t : ByteArray} (ht : t.size = 21) : ppC m ((1 + r : Nat) : Int) t = 4 := (pp_2 (h.is hr) (by omega)).1.symm
theorem pipes.no9 {m : MachD} (h : pipes 8 m) : isP m 9 = false := decide_eq_false (by have := h.2.2.1; intro e; rw [show numK m (keyNum (⟨#[112, 47]⟩ : ByteArray) 9 (⟨#[47, 111]⟩ : ByteArray)) = 0 from this] at e; cases e)
/-! ### Texts put out -/
def poC (m : MachD) (text : ByteArray) : Int := if inB (text.size : Int) 1 20 then (if numK m (⟨#[100, 47, 110]⟩ : ByteArray) ≥ 40 then 3 else 0) else 4
def poM (m : MachD) (text : ByteArray) : MachD := if inB (text.size : Int) 1 20 then (if numK m (⟨#[100, 47, 110]⟩ : ByteArray) ≥ 40 then lookM m (⟨#[100, 47, 110]⟩ : ByteArray) else layM (setM (lookM m (⟨#[100, 47, 110]⟩ : ByteArray)) (⟨#[100, 47, 110]⟩ : ByteArray) ((numK m (⟨#[100, 47, 110]⟩ : ByteArray) + 1 : Nat) : Int)) (keyNum (⟨#[100, 47]⟩ : ByteArray) ((numK m (⟨#[100, 47, 110]⟩ : ByteArray) + 1 : Nat) : Int) (⟨#[]⟩ : ByteArray)) ((⟨#[45]⟩ : ByteArray) ++ hexS text)) else m
theorem po_1 {m : MachD} {text : ByteArray} (h : inB (text.size : Int) 1 20 = false) : 4 = poC m text ∧ poM m text = m := ⟨(if_neg (by rw [h]; decide)).symm, if_neg (by rw [h]; decide)⟩
theorem po_2 {m : MachD} {text : ByteArray} (h : inB (text.size : Int) 1 20 = true) (h2 : numOf (getKey m.store (⟨#[100, 47, 110]⟩ : ByteArray)) ≥ 40) : 3 = poC m text ∧ poM m text = lookM m (⟨#[100, 47, 110]⟩ : ByteArray) := by
  unfold poC poM numK
  rw [if_pos h, if_pos h2, if_pos h, if_pos h2]
  exact ⟨rfl, rfl⟩
theorem po_3 {m : MachD} {text : ByteArray} (h : inB (text.size : Int) 1 20 = true) (h2 : ¬ numOf (getKey m.store (⟨#[100, 47, 110]⟩ : ByteArray)) ≥ 40) : 0 = poC m text ∧ poM m text = layM (setM (lookM m (⟨#[100, 47, 110]⟩ : ByteArray)) (⟨#[100, 47, 110]⟩ : ByteArray) ((numOf (getKey m.store (⟨#[100, 47, 110]⟩ : ByteArray)) + 1 : Nat) : Int)) (keyNum (⟨#[100, 47]⟩ : ByteArray) ((numOf (getKey m.store (⟨#[100, 47, 110]⟩ : ByteArray)) + 1 : Nat) : Int) (⟨#[]⟩ : ByteArray)) ((⟨#[45]⟩ : ByteArray) ++ hexS text) := by
  unfold poC poM numK
  rw [if_pos h, if_neg h2, if_pos h, if_neg h2]
  exact ⟨rfl, rfl⟩
theorem bdC.po {b : Nat} {m : MachD} {text : ByteArray} (h : bdC b m) : bdC (b + 4) (poM m text) := by
  unfold poM
  split
  · split
    · exact h.look.le (by omega)
    · exact h.look.set.lay.le (by omega)
  · exact h.le (by omega)
def outT (j : Nat) : ByteArray := (⟨#[120]⟩ : ByteArray) ++ decS j
def outs (k : Nat) (m : MachD) : Prop := numK m (⟨#[100, 47, 110]⟩ : ByteArray) = k ∧ (∀ j : Nat, j < k → getKey m.store (keyNum (⟨#[100, 47]⟩ : ByteArray) ((j + 1 : Nat) : Int) (⟨#[]⟩ : ByteArray)) = (⟨#[45]⟩ : ByteArray) ++ hexS (outT j)) ∧ bdC (10 * k) m
theorem outs_base : outs 0 (⟨[], (⟨[], []⟩ : TouchD)⟩ : MachD) := ⟨numK_base _, fun _ h => absurd h (Nat.not_lt_zero _), bdC_base⟩
theorem outT_size {j : Nat} (h : j ≤ 999) : 1 ≤ (outT j).size ∧ (outT j).size ≤ 4 := by
  have := decS_small h
  unfold outT
  rw [ByteArray.size_append]
  have e : (⟨#[120]⟩ : ByteArray).size = 1 := rfl
  omega
theorem dn_ne {n : Nat} (hn : n ≤ 999) : (⟨#[100, 47, 110]⟩ : ByteArray) ≠ keyNum (⟨#[100, 47]⟩ : ByteArray) n (⟨#[]⟩ : ByteArray) := fun e => by
  have h1 : (decS n).data.toList.head? = some 110 := by
    have h2 : (keyNum (⟨#[100, 47]⟩ : ByteArray) n (⟨#[]⟩ : ByteArray)).data.toList = 100 :: 47 :: (decS n).data.toList := by
      unfold keyNum
      rw [toList_append, toList_append]
      simp
    rw [← e] at h2
    have h3 : ((⟨#[100, 47, 110]⟩ : ByteArray)).data.toList = [100, 47, 110] := rfl
    rw [h3] at h2
    injection h2 with _ h2
    injection h2 with _ h2
    rw [← h2]; rfl
  rw [decS_toList] at h1
  have := dec_all n 110 (List.mem_of_mem_head? h1)
  unfold isD at this
  revert this; decide
theorem outs.step {k : Nat} {m : MachD} (h : outs k m) (hk : k < 40) : poC m (outT k) = 0 ∧ outs (k + 1) (poM m (outT k)) := by
  obtain ⟨h1, h2, h3⟩ := h
  have ht := outT_size (j := k) (by omega)
  have hb : inB ((outT k).size : Int) 1 20 = true := decide_eq_true (by omega)
  have h4 : ¬ numOf (getKey m.store (⟨#[100, 47, 110]⟩ : ByteArray)) ≥ 40 := by show ¬ numK m _ ≥ 40; omega
  have h5 := po_3 hb h4
  have h6 : numOf (getKey m.store (⟨#[100, 47, 110]⟩ : ByteArray)) = k := h1
  rw [h6] at h5
  refine ⟨h5.1.symm, ?_, ?_, h3.po.le (by omega)⟩
  · rw [h5.2, numK_lay (dn_ne (by omega)), numK_set (by decide) (by omega)]
  · intro j hj
    rw [h5.2]
    rcases Decidable.em (j = k) with e | e
    · subst e
      refine getKey_laySame (key_ok (by omega) (by decide) (by decide) (by decide) (by decide)) ?_
      rw [ByteArray.size_append, hexS_size]
      have e1 : (⟨#[45]⟩ : ByteArray).size = 1 := rfl
      omega
    · rw [getKey_lay (keyNum_ne (by omega) (by omega) noD_nil noD_nil (.inl (by omega))), getKey_set (Ne.symm (dn_ne (by omega)))]
      exact h2 j (by omega)
theorem outs.full {m : MachD} (h : outs 40 m) {t : ByteArray} (ht : t.size = 1) : poC m t = 3 := by
  have h1 := h.1
  exact (po_2 (decide_eq_true (by omega)) (by show numK m _ ≥ 40; omega)).1.symm
def outN (s : List CellD) : Nat := min (numOf (getKey s (⟨#[100, 47, 110]⟩ : ByteArray))) 40
def outL (s : List CellD) (n : Nat) : List ByteArray := (List.range n).map fun j : Nat => msgOf (getKey s (keyNum (⟨#[100, 47]⟩ : ByteArray) ((j + 1 : Nat) : Int) (⟨#[]⟩ : ByteArray)))
theorem outL_step (s : List CellD) (k : Nat) : outL s (k + 1) = outL s k ++ [msgOf (getKey s (keyNum (⟨#[100, 47]⟩ : ByteArray) ((k + 1 : Nat) : Int) (⟨#[]⟩ : ByteArray)))] := by
  unfold outL
  rw [List.range_succ, List.map_append]; rfl
theorem outL_length (s : List CellD) (k : Nat) : (outL s k).length = k := by unfold outL; rw [List.length_map, List.length_range]
theorem outs.list {m : MachD} (h : outs 40 m) : outN m.store = 40 ∧ ∀ j, j < 40 → nth (outL m.store 40) j = some (outT j) := by
  have h1 : numOf (getKey m.store (⟨#[100, 47, 110]⟩ : ByteArray)) = 40 := h.1
  refine ⟨by unfold outN; rw [h1]; rfl, fun j hj => ?_⟩
  unfold outL
  rw [nth_eq, List.getElem?_map, List.getElem?_range hj]
  show some (msgOf (getKey m.store (keyNum (⟨#[100, 47]⟩ : ByteArray) ((j + 1 : Nat) : Int) (⟨#[]⟩ : ByteArray)))) = _
  rw [h.2.1 j hj, msgOf_hex (by have := outT_size (j := j) (by omega); omega)]
theorem outs.elem {m : MachD} (h : outs 40 m) {r : Nat} {x : ByteArray} (hx : nth (outL m.store (outN m.store)) r = some x) (hr : r < 40) : x = (⟨#[120]⟩ : ByteArray) ++ decS ((r : Nat) : Int) := by
  have h1 := h.list
  rw [h1.1, h1.2 r hr] at hx
  exact (Option.some.inj hx).symm
theorem outN_le (s : List CellD) : outN s ≤ 40 := Nat.min_le_right _ _
def cellsOk (s : List CellD) : Prop := ∀ c ∈ s, c.key.size ≤ 1048576 ∧ c.val.size ≤ 1048576
theorem getKey_sz {s : List CellD} {key : ByteArray} (h : cellsOk s) : (getKey s key).size ≤ 1048576 := by
  rcases getKey_mem (l := s) (key := key) with e | ⟨c, hc, e⟩
  · rw [e]; exact Nat.zero_le _
  · rw [← e]; exact (h c hc).2
end Go.Proofs.YtjiplnaceiofmaaDoor
