/-
  Pipes are emptied.
-/
import Derived.Test.YtkeglhkdanenbaaGreatDoorDatVb
import Derived.Test.YtkeglhkdanenbaaGreatDoorDatVd
namespace Go.Proofs.YtkeglhkdanenbaaGreatDoor
open Go.ChangeShapes Go.WideShapes Go.ChangeAt Go.RowKit
set_option maxRecDepth 100000
set_option maxHeartbeats 1000000


/-! ### What is taken out of a pipe -/
def tpC (m : MachD) (id : Int) : Int := if isP m id = false then 2 else if numK m (keyNum (⟨#[112, 47]⟩ : ByteArray) id (⟨#[47, 116]⟩ : ByteArray)) = numK m (keyNum (⟨#[112, 47]⟩ : ByteArray) id (⟨#[47, 104]⟩ : ByteArray)) then 5 else 0
def tpK (m : MachD) (id : Int) : ByteArray := (keyNum (keyNum (⟨#[112, 47]⟩ : ByteArray) id (⟨#[47, 113, 47]⟩ : ByteArray)) ((numK m (keyNum (⟨#[112, 47]⟩ : ByteArray) id (⟨#[47, 104]⟩ : ByteArray)) + 1 : Nat) : Int) (⟨#[]⟩ : ByteArray))
def tpT (m : MachD) (id : Int) : ByteArray := if isP m id = false then ⟨#[]⟩ else if numK m (keyNum (⟨#[112, 47]⟩ : ByteArray) id (⟨#[47, 116]⟩ : ByteArray)) = numK m (keyNum (⟨#[112, 47]⟩ : ByteArray) id (⟨#[47, 104]⟩ : ByteArray)) then ⟨#[]⟩ else msgOf (getKey m.store (tpK m id))
def tpM (m : MachD) (id : Int) : MachD := if isP m id = false then lookM m (keyNum (⟨#[112, 47]⟩ : ByteArray) id (⟨#[47, 111]⟩ : ByteArray)) else if numK m (keyNum (⟨#[112, 47]⟩ : ByteArray) id (⟨#[47, 116]⟩ : ByteArray)) = numK m (keyNum (⟨#[112, 47]⟩ : ByteArray) id (⟨#[47, 104]⟩ : ByteArray)) then lookM (lookM (lookM m (keyNum (⟨#[112, 47]⟩ : ByteArray) id (⟨#[47, 111]⟩ : ByteArray))) (keyNum (⟨#[112, 47]⟩ : ByteArray) id (⟨#[47, 104]⟩ : ByteArray))) (keyNum (⟨#[112, 47]⟩ : ByteArray) id (⟨#[47, 116]⟩ : ByteArray))
  else setM (layM (lookM (lookM (lookM (lookM m (keyNum (⟨#[112, 47]⟩ : ByteArray) id (⟨#[47, 111]⟩ : ByteArray))) (keyNum (⟨#[112, 47]⟩ : ByteArray) id (⟨#[47, 104]⟩ : ByteArray))) (keyNum (⟨#[112, 47]⟩ : ByteArray) id (⟨#[47, 116]⟩ : ByteArray))) (tpK m id)) (tpK m id) ⟨#[]⟩) (keyNum (⟨#[112, 47]⟩ : ByteArray) id (⟨#[47, 104]⟩ : ByteArray)) ((numK m (keyNum (⟨#[112, 47]⟩ : ByteArray) id (⟨#[47, 104]⟩ : ByteArray)) + 1 : Nat) : Int)
theorem tp_1 {m : MachD} {id : Int} (h : isP m id = false) : (⟨#[]⟩ : ByteArray) = tpT m id ∧ 2 = tpC m id ∧ tpM m id = lookM m (keyNum (⟨#[112, 47]⟩ : ByteArray) id (⟨#[47, 111]⟩ : ByteArray)) := ⟨(if_pos h).symm, (if_pos h).symm, if_pos h⟩
theorem tp_2 {m : MachD} {id : Int} (h : isP m id = true) (h2 : numOf (getKey (lookM (lookM m (keyNum (⟨#[112, 47]⟩ : ByteArray) id (⟨#[47, 111]⟩ : ByteArray))) (keyNum (⟨#[112, 47]⟩ : ByteArray) id (⟨#[47, 104]⟩ : ByteArray))).store (keyNum (⟨#[112, 47]⟩ : ByteArray) id (⟨#[47, 116]⟩ : ByteArray))) = numOf (getKey (lookM m (keyNum (⟨#[112, 47]⟩ : ByteArray) id (⟨#[47, 111]⟩ : ByteArray))).store (keyNum (⟨#[112, 47]⟩ : ByteArray) id (⟨#[47, 104]⟩ : ByteArray)))) : (⟨#[]⟩ : ByteArray) = tpT m id ∧ 5 = tpC m id ∧ tpM m id = lookM (lookM (lookM m (keyNum (⟨#[112, 47]⟩ : ByteArray) id (⟨#[47, 111]⟩ : ByteArray))) (keyNum (⟨#[112, 47]⟩ : ByteArray) id (⟨#[47, 104]⟩ : ByteArray))) (keyNum (⟨#[112, 47]⟩ : ByteArray) id (⟨#[47, 116]⟩ : ByteArray)) := by
  have h3 : numK m (keyNum (⟨#[112, 47]⟩ : ByteArray) id (⟨#[47, 116]⟩ : ByteArray)) = numK m (keyNum (⟨#[112, 47]⟩ : ByteArray) id (⟨#[47, 104]⟩ : ByteArray)) := h2
  unfold tpT tpC tpM
  simp only [h, if_pos h3, Bool.true_eq_false, if_false, and_self]
theorem tp_3 {m : MachD} {id : Int} (h : isP m id = true) (h2 : ¬ numOf (getKey (lookM (lookM m (keyNum (⟨#[112, 47]⟩ : ByteArray) id (⟨#[47, 111]⟩ : ByteArray))) (keyNum (⟨#[112, 47]⟩ : ByteArray) id (⟨#[47, 104]⟩ : ByteArray))).store (keyNum (⟨#[112, 47]⟩ : ByteArray) id (⟨#[47, 116]⟩ : ByteArray))) = numOf (getKey (lookM m (keyNum (⟨#[112, 47]⟩ : ByteArray) id (⟨#[47, 111]⟩ : ByteArray))).store (keyNum (⟨#[112, 47]⟩ : ByteArray) id (⟨#[47, 104]⟩ : ByteArray)))) : msgOf (getKey m.store (tpK m id)) = tpT m id ∧ 0 = tpC m id ∧ tpM m id = setM (layM (lookM (lookM (lookM (lookM m (keyNum (⟨#[112, 47]⟩ : ByteArray) id (⟨#[47, 111]⟩ : ByteArray))) (keyNum (⟨#[112, 47]⟩ : ByteArray) id (⟨#[47, 104]⟩ : ByteArray))) (keyNum (⟨#[112, 47]⟩ : ByteArray) id (⟨#[47, 116]⟩ : ByteArray))) (tpK m id)) (tpK m id) ⟨#[]⟩) (keyNum (⟨#[112, 47]⟩ : ByteArray) id (⟨#[47, 104]⟩ : ByteArray)) ((numK m (keyNum (⟨#[112, 47]⟩ : ByteArray) id (⟨#[47, 104]⟩ : ByteArray)) + 1 : Nat) : Int) := by
  have h3 : ¬ numK m (keyNum (⟨#[112, 47]⟩ : ByteArray) id (⟨#[47, 116]⟩ : ByteArray)) = numK m (keyNum (⟨#[112, 47]⟩ : ByteArray) id (⟨#[47, 104]⟩ : ByteArray)) := h2
  unfold tpT tpC tpM
  simp only [h, if_neg h3, Bool.true_eq_false, if_false, and_self]
theorem bdC.tp {b : Nat} {m : MachD} {id : Int} (h : bdC b m) : bdC (b + 8) (tpM m id) := by
  unfold tpM
  split
  · exact h.look.le (by omega)
  · split
    · exact h.look.look.look.le (by omega)
    · exact h.look.look.look.look.lay.set.le (by omega)
theorem noD_t : noD (⟨#[47, 116]⟩ : ByteArray) := noD_lit [47, 116] (by decide)
theorem noD_h : noD (⟨#[47, 104]⟩ : ByteArray) := noD_lit [47, 104] (by decide)
theorem noD_q : noD (⟨#[47, 113, 47]⟩ : ByteArray) := noD_lit [47, 113, 47] (by decide)
theorem byteAt_app1 {a b : ByteArray} (h : 1 < a.size) : byteAt (a ++ b) 1 = byteAt a 1 := by
  unfold byteAt
  rw [toList_append, List.getElem?_append_left (by rw [← size_toList]; exact h)]
/-- A place in a queue is no other cell of a pipe. -/
theorem q_ne {p t : ByteArray} {a b : Nat} {i : Int} (ha : a ≤ 999) (hb : b ≤ 999) (ht : noD t) (h1 : byteAt t 1 ≠ 113) : keyNum p a t ≠ keyNum (keyNum p b (⟨#[47, 113, 47]⟩ : ByteArray)) i ⟨#[]⟩ := by
  rw [keyNum_nest]
  refine keyNum_ne ha hb ht (noD_app noD_q (by decide)) (.inr fun e => h1 ?_)
  rw [e, byteAt_app1 (by decide)]; rfl
/-- The pipe id stands; t were put, h taken. -/
def pst (id : Nat) (t h : Nat) (m : MachD) : Prop := numK m (keyNum (⟨#[112, 47]⟩ : ByteArray) ((id : Nat) : Int) (⟨#[47, 111]⟩ : ByteArray)) = 1 ∧ numK m (keyNum (⟨#[112, 47]⟩ : ByteArray) ((id : Nat) : Int) (⟨#[47, 116]⟩ : ByteArray)) = t ∧ numK m (keyNum (⟨#[112, 47]⟩ : ByteArray) ((id : Nat) : Int) (⟨#[47, 104]⟩ : ByteArray)) = h
theorem pst.is {id t h : Nat} {m : MachD} (p : pst id t h m) : isP m ((id : Nat) : Int) = true := decide_eq_true p.1
theorem ppC_t {id t h : Nat} {m : MachD} {text : ByteArray} (p : pst id t h m) (hx : text.size ≤ 20) (ht : t < 999) : ppC m ((id : Nat) : Int) text = if ((t : Nat) : Int) - ((h : Nat) : Int) ≥ 4 then 5 else 0 := by
  have e1 : numOf (getKey m.store (keyNum (⟨#[112, 47]⟩ : ByteArray) ((id : Nat) : Int) (⟨#[47, 116]⟩ : ByteArray))) = t := p.2.1
  have e2 : numOf (getKey m.store (keyNum (⟨#[112, 47]⟩ : ByteArray) ((id : Nat) : Int) (⟨#[47, 104]⟩ : ByteArray))) = h := p.2.2
  by_cases h4 : ((t : Nat) : Int) - ((h : Nat) : Int) ≥ 4
  · rw [if_pos h4]; exact (pp_3 p.is (by omega) (by rw [e1, e2]; exact h4)).1.symm
  · rw [if_neg h4]; exact (pp_5 (text := text) p.is (by omega) (by rw [e1, e2]; exact h4) (by rw [e1]; omega)).1.symm
theorem pst.put {id t h : Nat} {m : MachD} {text : ByteArray} (hi : id ≤ 999) (p : pst id t h m) (hx : text.size ≤ 20) (ht : t < 999) : pst id (if ((t : Nat) : Int) - ((h : Nat) : Int) ≥ 4 then t else t + 1) h (ppM m ((id : Nat) : Int) text) := by
  have e1 : numOf (getKey m.store (keyNum (⟨#[112, 47]⟩ : ByteArray) ((id : Nat) : Int) (⟨#[47, 116]⟩ : ByteArray))) = t := p.2.1
  have e2 : numOf (getKey m.store (keyNum (⟨#[112, 47]⟩ : ByteArray) ((id : Nat) : Int) (⟨#[47, 104]⟩ : ByteArray))) = h := p.2.2
  by_cases h4 : ((t : Nat) : Int) - ((h : Nat) : Int) ≥ 4
  · rw [if_pos h4, (pp_3 p.is (by omega) (by rw [e1, e2]; exact h4)).2]
    exact p
  · have h5 := (pp_5 (text := text) p.is (by omega) (by rw [e1, e2]; exact h4) (by rw [e1]; omega)).2
    rw [e1] at h5
    rw [if_neg h4, h5]
    refine ⟨?_, ?_, ?_⟩
    · rw [numK_lay (q_ne hi hi noD_o (by decide)), numK_ne (keyNum_ne hi hi noD_o noD_t (.inr (by decide)))]; exact p.1
    · rw [numK_lay (q_ne hi hi noD_t (by decide)), numK_set (key_ok hi (by decide) (by decide) (by decide) (by decide)) (by omega)]
    · rw [numK_lay (q_ne hi hi noD_h (by decide)), numK_ne (keyNum_ne hi hi noD_h noD_t (.inr (by decide)))]; exact p.2.2
theorem pst.putOther {id jd t h : Nat} {m : MachD} {text : ByteArray} (hi : id ≤ 999) (hj : jd ≤ 999) (hne : id ≠ jd) (p : pst id t h m) : pst id t h (ppM m ((jd : Nat) : Int) text) := by
  unfold ppM
  split
  · exact p
  · split
    · exact p
    · split
      · exact p
      · split
        · exact p
        · refine ⟨?_, ?_, ?_⟩
          · rw [numK_lay (q_ne hi hj noD_o (by decide)), numK_ne (keyNum_ne hi hj noD_o noD_t (.inl hne))]; exact p.1
          · rw [numK_lay (q_ne hi hj noD_t (by decide)), numK_ne (keyNum_ne hi hj noD_t noD_t (.inl hne))]; exact p.2.1
          · rw [numK_lay (q_ne hi hj noD_h (by decide)), numK_ne (keyNum_ne hi hj noD_h noD_t (.inl hne))]; exact p.2.2
theorem tpC_t {id t h : Nat} {m : MachD} (p : pst id t h m) : tpC m ((id : Nat) : Int) = if t = h then 5 else 0 := by
  unfold tpC
  rw [p.2.1, p.2.2, if_neg (by rw [p.is]; decide)]
theorem pst.take {id t h : Nat} {m : MachD} (hi : id ≤ 999) (p : pst id t h m) (ht : h < 999) : pst id t (if t = h then h else h + 1) (tpM m ((id : Nat) : Int)) := by
  have e1 : numK m (keyNum (⟨#[112, 47]⟩ : ByteArray) ((id : Nat) : Int) (⟨#[47, 116]⟩ : ByteArray)) = t := p.2.1
  have e2 : numK m (keyNum (⟨#[112, 47]⟩ : ByteArray) ((id : Nat) : Int) (⟨#[47, 104]⟩ : ByteArray)) = h := p.2.2
  by_cases h4 : t = h
  · rw [if_pos h4, (tp_2 p.is (by show numK m _ = numK m _; rw [e1, e2]; exact h4)).2.2]
    exact p
  · have h5 := (tp_3 p.is (by show ¬ numK m _ = numK m _; rw [e1, e2]; exact h4)).2.2
    unfold tpK at h5
    rw [e2] at h5
    rw [if_neg h4, h5]
    refine ⟨?_, ?_, ?_⟩
    · rw [numK_ne (keyNum_ne hi hi noD_o noD_h (.inr (by decide))), numK_lay (q_ne hi hi noD_o (by decide))]; exact p.1
    · rw [numK_ne (keyNum_ne hi hi noD_t noD_h (.inr (by decide))), numK_lay (q_ne hi hi noD_t (by decide))]; exact p.2.1
    · rw [numK_set (key_ok hi (by decide) (by decide) (by decide) (by decide)) (by omega)]
theorem pst.takeOther {id jd t h : Nat} {m : MachD} (hi : id ≤ 999) (hj : jd ≤ 999) (hne : id ≠ jd) (p : pst id t h m) : pst id t h (tpM m ((jd : Nat) : Int)) := by
  unfold tpM tpK
  split
  · exact p
  · split
    · exact p
    · refine ⟨?_, ?_, ?_⟩
      · rw [numK_ne (keyNum_ne hi hj noD_o noD_h (.inl hne)), numK_lay (q_ne hi hj noD_o (by decide))]; exact p.1
      · rw [numK_ne (keyNum_ne hi hj noD_t noD_h (.inl hne)), numK_lay (q_ne hi hj noD_t (by decide))]; exact p.2.1
      · rw [numK_ne (keyNum_ne hi hj noD_h noD_h (.inl hne)), numK_lay (q_ne hi hj noD_h (by decide))]; exact p.2.2
theorem pst.len {id t h : Nat} {m : MachD} (p : pst id t h m) : lenP m ((id : Nat) : Int) = ((t : Nat) : Int) - ((h : Nat) : Int) := by
  unfold lenP
  rw [p.2.1, p.2.2]
/-- The first pipe, and the second. -/
instance (id t h : Nat) (m : MachD) : Decidable (pst id t h m) := by unfold pst; exact inferInstance
theorem pipe_one : mpI (⟨[], (⟨[], []⟩ : TouchD)⟩ : MachD) = 1 ∧ pst 1 0 0 (mpM (⟨[], (⟨[], []⟩ : TouchD)⟩ : MachD)) := by decide +kernel
theorem pipe_two : mpI (mpM (⟨[], (⟨[], []⟩ : TouchD)⟩ : MachD)) = 2 ∧ pst 1 0 0 (mpM (mpM (⟨[], (⟨[], []⟩ : TouchD)⟩ : MachD))) ∧ pst 2 0 0 (mpM (mpM (⟨[], (⟨[], []⟩ : TouchD)⟩ : MachD))) := by decide +kernel

theorem pc1 {t h : Nat} {m : MachD} {text : ByteArray} (p : pst 1 t h m) (hx : text.size ≤ 20) (ht : t < 900) (hle : h ≤ t) (hc : ppC m 1 text = 0) : lenP (ppM m 1 text) 1 = ((t : Nat) : Int) - ((h : Nat) : Int) + 1 ∧ pst 1 (t + 1) h (ppM m 1 text) ∧ t < h + 4 := by
  have h1 : ppC m 1 text = if ((t : Nat) : Int) - ((h : Nat) : Int) ≥ 4 then 5 else 0 := ppC_t p hx (by omega)
  have h2 := pst.put (id := 1) (by decide) p hx (by omega)
  by_cases h4 : ((t : Nat) : Int) - ((h : Nat) : Int) ≥ 4
  · rw [if_pos h4] at h1; omega
  · rw [if_neg h4] at h2
    have h5 : lenP (ppM m 1 text) 1 = ((t + 1 : Nat) : Int) - ((h : Nat) : Int) := h2.len
    exact ⟨by omega, h2, by omega⟩
theorem pc2 {t h : Nat} {m : MachD} {text : ByteArray} (p : pst 1 t h m) (hx : text.size ≤ 20) (ht : t < 900) (hc : ¬ ppC m 1 text = 0) : lenP (ppM m 1 text) 1 = ((t : Nat) : Int) - ((h : Nat) : Int) ∧ pst 1 t h (ppM m 1 text) := by
  have h1 : ppC m 1 text = if ((t : Nat) : Int) - ((h : Nat) : Int) ≥ 4 then 5 else 0 := ppC_t p hx (by omega)
  have h2 := pst.put (id := 1) (by decide) p hx (by omega)
  by_cases h4 : ((t : Nat) : Int) - ((h : Nat) : Int) ≥ 4
  · rw [if_pos h4] at h2
    exact ⟨h2.len, h2⟩
  · rw [if_neg h4] at h1; exact absurd h1 hc
theorem tc1 {t h : Nat} {m : MachD} (p : pst 1 t h m) (ht : t < 900) (hle : h ≤ t) (hc : tpC m 1 = 0) : lenP (tpM m 1) 1 = ((t : Nat) : Int) - ((h : Nat) : Int) - 1 ∧ pst 1 t (h + 1) (tpM m 1) ∧ h < t := by
  have h1 : tpC m 1 = if t = h then 5 else 0 := tpC_t p
  have h2 := pst.take (id := 1) (by decide) p (by omega)
  by_cases h4 : t = h
  · rw [if_pos h4] at h1; omega
  · rw [if_neg h4] at h2
    have h5 : lenP (tpM m 1) 1 = ((t : Nat) : Int) - ((h + 1 : Nat) : Int) := h2.len
    exact ⟨by omega, h2, by omega⟩
theorem tc2 {t h : Nat} {m : MachD} (p : pst 1 t h m) (ht : t < 900) (hle : h ≤ t) (hc : ¬ tpC m 1 = 0) : lenP (tpM m 1) 1 = ((t : Nat) : Int) - ((h : Nat) : Int) ∧ pst 1 t h (tpM m 1) := by
  have h1 : tpC m 1 = if t = h then 5 else 0 := tpC_t p
  have h2 := pst.take (id := 1) (by decide) p (by omega)
  by_cases h4 : t = h
  · rw [if_pos h4] at h2
    exact ⟨h2.len, h2⟩
  · rw [if_neg h4] at h1; exact absurd h1 hc
/-- Two pipes; into the first pu were put. -/
def apart (k pu : Nat) (m : MachD) : Prop := pst 1 pu 0 m ∧ pu ≤ k ∧ ∃ t h, pst 2 t h m ∧ t ≤ k ∧ h ≤ k
theorem apart.take {k pu : Nat} {m : MachD} (p : apart k pu m) (hk : k < 900) : apart (k + 1) pu (tpM m 2) := by
  obtain ⟨h1, h2, t, h, h3, h4, h5⟩ := p
  refine ⟨pst.takeOther (id := 1) (jd := 2) (by decide) (by decide) (by decide) h1, by omega, t, _, pst.take (id := 2) (by decide) h3 (by omega), by omega, ?_⟩
  split <;> omega
theorem apart.put2 {k pu : Nat} {m : MachD} {text : ByteArray} (p : apart k pu m) (hx : text.size ≤ 20) (hk : k < 900) : apart (k + 1) pu (ppM m 2 text) := by
  obtain ⟨h1, h2, t, h, h3, h4, h5⟩ := p
  refine ⟨pst.putOther (id := 1) (jd := 2) (by decide) (by decide) (by decide) h1, by omega, _, h, pst.put (id := 2) (by decide) h3 hx (by omega), ?_, by omega⟩
  split <;> omega
theorem apart.put1 {k pu : Nat} {m : MachD} {text : ByteArray} (p : apart k pu m) (hx : text.size ≤ 20) (hk : k < 900) (hc : ppC m 1 text = 0) : apart (k + 1) (pu + 1) (ppM m 1 text) := by
  obtain ⟨h1, h2, t, h, h3, h4, h5⟩ := p
  exact ⟨(pc1 h1 hx (by omega) (by omega) hc).2.1, by omega, t, h, pst.putOther (id := 2) (jd := 1) (by decide) (by decide) (by decide) h3, by omega, by omega⟩
theorem apart.put0 {k pu : Nat} {m : MachD} {text : ByteArray} (p : apart k pu m) (hx : text.size ≤ 20) (hk : k < 900) (hc : ¬ ppC m 1 text = 0) : apart (k + 1) pu (ppM m 1 text) := by
  obtain ⟨h1, h2, t, h, h3, h4, h5⟩ := p
  exact ⟨(pc2 h1 hx (by omega) hc).2, by omega, t, h, pst.putOther (id := 2) (jd := 1) (by decide) (by decide) (by decide) h3, by omega, by omega⟩
theorem apart.len {k pu : Nat} {m : MachD} (p : apart k pu m) : lenP m 1 = ((pu : Nat) : Int) := by
  have : lenP m 1 = ((pu : Nat) : Int) - ((0 : Nat) : Int) := p.1.len
  rw [this]; omega
theorem apart_base : apart 0 0 (mpM (mpM (⟨[], (⟨[], []⟩ : TouchD)⟩ : MachD))) := ⟨pipe_two.2.1, Nat.le_refl _, 0, 0, pipe_two.2.2, Nat.le_refl _, Nat.le_refl _⟩
theorem dec_size {k : Nat} (h : k ≤ 999) : (decS ((k : Nat) : Int)).size ≤ 20 := Nat.le_trans (decS_small h) (by decide)
end Go.Proofs.YtkeglhkdanenbaaGreatDoor
