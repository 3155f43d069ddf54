/-
  The clock.
-/
import Derived.Test.YtjiplnaceiofmaaDoorDatV
namespace Go.Proofs.YtjiplnaceiofmaaDoor
open Go.ChangeShapes Go.WideShapes Go.ChangeAt Go.RowKit
set_option maxRecDepth 100000
set_option maxHeartbeats 1000000


/-! ### The clock -/
def tickC (m : MachD) (n : Int) : Int := if n < 1 then 4 else if n > 999 - ((numK m (⟨#[99, 47, 99, 108, 111, 99, 107]⟩ : ByteArray) : Nat) : Int) then 3 else 0
def tickM (m : MachD) (n : Int) : MachD := if n < 1 then m else if n > 999 - ((numK m (⟨#[99, 47, 99, 108, 111, 99, 107]⟩ : ByteArray) : Nat) : Int) then lookM m (⟨#[99, 47, 99, 108, 111, 99, 107]⟩ : ByteArray) else lookM (setM (lookM m (⟨#[99, 47, 99, 108, 111, 99, 107]⟩ : ByteArray)) (⟨#[99, 47, 99, 108, 111, 99, 107]⟩ : ByteArray) (((numK m (⟨#[99, 47, 99, 108, 111, 99, 107]⟩ : ByteArray) : Nat) : Int) + n)) ((⟨#[116, 47]⟩ : ByteArray) ++ (⟨#[42]⟩ : ByteArray))
theorem tick_1 {m : MachD} {n : Int} (h : n < 1) : 4 = tickC m n ∧ tickM m n = m := ⟨(if_pos h).symm, if_pos h⟩
theorem tick_2 {m : MachD} {n : Int} (h : ¬ n < 1) (h2 : n > 999 - ((numOf (getKey m.store (⟨#[99, 47, 99, 108, 111, 99, 107]⟩ : ByteArray)) : Nat) : Int)) : 3 = tickC m n ∧ tickM m n = lookM m (⟨#[99, 47, 99, 108, 111, 99, 107]⟩ : ByteArray) := by
  unfold tickC tickM numK
  rw [if_neg h, if_pos h2, if_neg h, if_pos h2]
  exact ⟨rfl, rfl⟩
theorem tick_3 {m : MachD} {n : Int} (h : ¬ n < 1) (h2 : ¬ n > 999 - ((numOf (getKey m.store (⟨#[99, 47, 99, 108, 111, 99, 107]⟩ : ByteArray)) : Nat) : Int)) : 0 = tickC m n ∧ tickM m n = lookM (setM (lookM m (⟨#[99, 47, 99, 108, 111, 99, 107]⟩ : ByteArray)) (⟨#[99, 47, 99, 108, 111, 99, 107]⟩ : ByteArray) (((numOf (getKey m.store (⟨#[99, 47, 99, 108, 111, 99, 107]⟩ : ByteArray)) : Nat) : Int) + n)) ((⟨#[116, 47]⟩ : ByteArray) ++ (⟨#[42]⟩ : ByteArray)) := by
  unfold tickC tickM numK
  rw [if_neg h, if_neg h2, if_neg h, if_neg h2]
  exact ⟨rfl, rfl⟩
theorem bdC.tick {b : Nat} {m : MachD} {n : Int} (h : bdC b m) : bdC (b + 4) (tickM m n) := by
  unfold tickM
  split
  · exact h.le (by omega)
  · split
    · exact h.look.le (by omega)
    · exact h.look.set.look.le (by omega)
theorem noKeys_set {m : MachD} {key p : ByteArray} {n : Int} (h : keysUnder m.store p = []) (hk : begins key p = false) : keysUnder (setM m key n).store p = [] := by
  rw [List.eq_nil_iff_forall_not_mem]
  intro x hx
  obtain ⟨⟨c, hc, e⟩, hb⟩ := keysUnder_mem.1 hx
  have h2 : c ∈ putKey m.store key (numV n) := hc
  unfold putKey at h2
  have hm : ∀ d ∈ m.store, d.key ≠ x := fun d hd e2 => by
    have : x ∈ keysUnder m.store p := keysUnder_mem.2 ⟨⟨d, hd, e2⟩, hb⟩
    rw [h] at this
    exact absurd this List.not_mem_nil
  split at h2
  · split at h2
    · exact hm c (delKey_mem.1 h2).1 e
    · unfold insK insAt at h2
      rcases List.mem_append.1 h2 with h2 | h2
      · exact hm c (delKey_mem.1 (List.mem_of_mem_take h2)).1 e
      · rcases List.mem_cons.1 h2 with h2 | h2
        · subst h2
          rw [← e] at hb
          rw [hk] at hb; cases hb
        · exact hm c (delKey_mem.1 (List.mem_of_mem_drop h2)).1 e
  · exact hm c h2 e
def clocks (k s : Nat) (m : MachD) : Prop := numK m (⟨#[99, 47, 99, 108, 111, 99, 107]⟩ : ByteArray) = s ∧ keysUnder m.store (⟨#[116, 47]⟩ : ByteArray) = [] ∧ bdC (10 * k) m
theorem clocks_base : clocks 0 0 (⟨[], (⟨[], []⟩ : TouchD)⟩ : MachD) := ⟨numK_base _, rfl, bdC_base⟩
theorem clocks.step {k s n : Nat} {m : MachD} (h : clocks k s m) (hn : 1 ≤ n) (hs : s + n ≤ 999) : clocks (k + 1) (s + n) (tickM m ((n : Nat) : Int)) := by
  obtain ⟨h1, h2, h3⟩ := h
  have h4 : numOf (getKey m.store (⟨#[99, 47, 99, 108, 111, 99, 107]⟩ : ByteArray)) = s := h1
  have h5 := (tick_3 (m := m) (n := (n : Int)) (by omega) (by rw [h4]; omega)).2
  rw [h4] at h5
  refine ⟨?_, ?_, h3.tick.le (by omega)⟩
  · rw [h5]
    have : ((s : Nat) : Int) + ((n : Nat) : Int) = ((s + n : Nat) : Int) := by omega
    rw [this]
    show numK (setM _ _ _) _ = _
    exact numK_set (by decide) (by omega)
  · rw [h5]
    exact noKeys_set (m := lookM m _) h2 (by decide)
theorem clocks.step2 {k s r : Nat} {m : MachD} (h : clocks k s m) (hs : s + 1 + r ≤ 999) : clocks (k + 1) (s + 1 + r) (tickM m ((1 + r : Nat) : Int)) := by
  rw [Nat.add_assoc s 1 r]
  exact h.step (by omega) (by omega)
theorem clocks.at {k s : Nat} {m : MachD} (h : clocks k s m) : numOf (getKey m.store (⟨#[99, 47, 99, 108, 111, 99, 107]⟩ : ByteArray)) = s := h.1
theorem clocks.bad {m : MachD} : tickC m 0 = 4 := rfl
theorem clocks.full {k s : Nat} {m : MachD} (h : clocks k s m) (hs : 1 ≤ s) : tickC m 999 = 3 := by
  have h1 := h.1
  unfold tickC
  rw [if_neg (by decide), if_pos (by omega)]
end Go.Proofs.YtjiplnaceiofmaaDoor
