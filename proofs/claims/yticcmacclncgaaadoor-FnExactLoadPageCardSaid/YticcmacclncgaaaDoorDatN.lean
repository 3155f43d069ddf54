/-
  Numbers and their decimal texts.
-/
import Derived.Lib.ItoaNum
import Derived.Lib.ItoaMem
import Derived.Lib.ItoaLen
import Derived.Lib.AtoiAll
import Derived.Test.YticcmacclncgaaaDoorDatA
namespace Go.Proofs.YticcmacclncgaaaDoor
open Go.ChangeShapes Go.WideShapes Go.ChangeAt Go.RowKit
set_option maxRecDepth 100000
set_option maxHeartbeats 1000000

/-- A number's decimal text. -/
def decS (n : Int) : ByteArray := ⟨(Lib.itoa n).toArray⟩
/-- The number that a text's figures spell. -/
def valL (l : List UInt8) : Nat := l.foldl (fun a c => 10 * a + (c.toNat - 48)) 0
theorem valL_snoc (l : List UInt8) (c : UInt8) : valL (l ++ [c]) = 10 * valL l + (c.toNat - 48) := by unfold valL; rw [List.foldl_append]; rfl
theorem fig_toNat {d : Nat} (h : d < 10) : (UInt8.ofNat (48 + d)).toNat = 48 + d := by rw [UInt8.toNat_ofNat']; omega
theorem valL_dec (u : Nat) : valL (Lib.decDigits u) = u := by
  induction u using Nat.strongRecOn with
  | ind u ih =>
    rw [Lib.decDigits]
    split
    · rename_i h
      show 10 * 0 + ((UInt8.ofNat (48 + u)).toNat - 48) = u
      rw [fig_toNat h]; omega
    · rename_i h
      rw [valL_snoc, ih _ (by omega), fig_toNat (by omega)]; omega
def isD (c : UInt8) : Prop := 48 ≤ c.toNat ∧ c.toNat ≤ 57
theorem dec_all (u : Nat) : ∀ c ∈ Lib.decDigits u, isD c := by
  induction u using Nat.strongRecOn with
  | ind u ih =>
    rw [Lib.decDigits]
    split
    · rename_i h
      intro c hc
      rw [List.mem_singleton.1 hc]
      unfold isD; rw [fig_toNat h]; omega
    · rename_i h
      intro c hc
      rcases List.mem_append.1 hc with hc | hc
      · exact ih _ (by omega) c hc
      · rw [List.mem_singleton.1 hc]
        unfold isD; rw [fig_toNat (by omega)]; omega
theorem dec_ne (u : Nat) : Lib.decDigits u ≠ [] := by
  rw [Lib.decDigits]; split <;> simp
theorem dec_len : ∀ (k u : Nat), u < 10 ^ (k + 1) → (Lib.decDigits u).length ≤ k + 1
  | 0, u, h => by rw [Lib.decDigits, dif_pos (by simpa using h)]; simp
  | k + 1, u, h => by
    rw [Lib.decDigits]
    split
    · simp
    · rw [List.length_append]
      have := dec_len k (u / 10) (by rw [Nat.pow_succ] at h; omega)
      ((repeat (first | rw [List.length_append] | rw [List.length_cons] | rw [List.length_nil] | rw [List.length_take] | rw [List.length_drop])) <;> omega)
theorem parse_step : ∀ (l : List UInt8) (acc : Nat), (∀ c ∈ l, isD c) → l.foldl (fun a c => 10 * a + (c.toNat - 48)) acc < 1844674407370955162 → Lib.parseUint10 acc l = .ok (l.foldl (fun a c => 10 * a + (c.toNat - 48)) acc)
  | [], acc, _, _ => rfl
  | c :: l, acc, hd, h => by
    have hc := hd c (List.mem_cons_self ..)
    have hm : ∀ (l : List UInt8) (a : Nat), a ≤ l.foldl (fun a (c : UInt8) => 10 * a + (c.toNat - 48)) a := by
      intro l
      induction l with
      | nil => intro a; exact Nat.le_refl _
      | cons d l ih => intro a; exact Nat.le_trans (by omega) (ih (10 * a + (d.toNat - 48)))
    have h1 := hm l (10 * acc + (c.toNat - 48))
    simp only [List.foldl_cons] at h
    unfold isD at hc
    simp only [Lib.parseUint10]
    rw [if_pos hc, if_neg (by omega), if_neg (by omega), show acc * 10 + (c.toNat - 48) = 10 * acc + (c.toNat - 48) by omega, parse_step l _ (fun d hd' => hd d (List.mem_cons_of_mem _ hd')) h]
    rfl
theorem atoi_dec {u : Nat} (h : u ≤ 1000000000) : Lib.atoiAll (Lib.decDigits u) = .ok (u : Int) := by
  have ha := dec_all u
  have hv := valL_dec u
  cases e : Lib.decDigits u with
  | nil => exact absurd e (dec_ne u)
  | cons c r =>
    rw [e] at ha hv
    have hc := ha c (List.mem_cons_self ..)
    unfold isD at hc
    have hp : Lib.parseMag (c :: r) = .ok u := by
      unfold Lib.parseMag
      rw [if_neg (by simp), parse_step _ 0 ha (by show valL (c :: r) < _; omega)]
      exact congrArg _ hv
    unfold Lib.atoiAll
    simp only
    rw [if_neg (by omega), hp]
    simp only
    rw [if_neg (by omega), if_neg (by omega), if_neg (by omega)]
/-- The number that a text is the decimal text of. -/
def readD (s : ByteArray) : Option Nat := if valL s.data.toList ≤ 1000000000 ∧ s = decS (valL s.data.toList) then some (valL s.data.toList) else none
theorem decS_toList (u : Nat) : (decS (u : Int)).data.toList = Lib.decDigits u := by
  unfold decS; rw [Lib.itoa_nonneg]
theorem readD_some {s : ByteArray} {n : Nat} : readD s = some n ↔ n ≤ 1000000000 ∧ s = decS n := by
  unfold readD
  constructor
  · intro h
    split at h
    · rename_i h1
      rw [← Option.some.inj h]; exact h1
    · cases h
  · rintro ⟨h1, rfl⟩
    have hv : valL (decS (n : Int)).data.toList = n := by rw [decS_toList, valL_dec]
    rw [hv, if_pos ⟨h1, rfl⟩]
def readN (s : ByteArray) : Nat := (readD s).getD 0
def readB (s : ByteArray) : Bool := (readD s).isSome
theorem read_yes {s : ByteArray} {n : Nat} (h1 : n ≤ 1000000000) (h2 : decS n = s) : readN s = n ∧ readB s = true := by
  have := readD_some.2 ⟨h1, h2.symm⟩
  unfold readN readB; rw [this]; exact ⟨rfl, rfl⟩
theorem read_no {s : ByteArray} (h : ∀ n, n ≤ 1000000000 → decS (n : Nat) ≠ s) : readN s = 0 ∧ readB s = false := by
  have : readD s = none := by
    cases e : readD s with
    | none => rfl
    | some n => exact absurd (readD_some.1 e).2.symm (h n (readD_some.1 e).1)
  unfold readN readB; rw [this]; exact ⟨rfl, rfl⟩
theorem readN_le (s : ByteArray) : readN s ≤ 1000000000 := by
  unfold readN
  cases e : readD s with
  | none => exact Nat.zero_le _
  | some n => exact (readD_some.1 e).1
/-- By the program: strconv.Atoi, the range, and back again. -/
theorem read_bad {s : ByteArray} (h : ∀ v, Lib.atoiAll s.data.toList ≠ .ok v) : readN s = 0 ∧ readB s = false := read_no fun n hn e => by
  subst e
  exact h n (by rw [decS_toList]; exact atoi_dec hn)
theorem read_out {s : ByteArray} {v : Int} (h : Lib.atoiAll s.data.toList = .ok v) (hv : ¬ (0 ≤ v ∧ v ≤ 1000000000) ∨ decS v ≠ s) : readN s = 0 ∧ readB s = false := read_no fun n hn e => by
  subst e
  rw [decS_toList, atoi_dec hn] at h
  have : (n : Int) = v := by injection h
  subst this
  rcases hv with hv | hv
  · omega
  · exact hv rfl
theorem read_in {s : ByteArray} {v : Int} (hv : 0 ≤ v ∧ v ≤ 1000000000) (h : decS v = s) : (readN s : Int) = v ∧ readB s = true := by
  obtain ⟨n, rfl⟩ : ∃ n : Nat, v = n := ⟨v.toNat, by omega⟩
  obtain ⟨h1, h2⟩ := read_yes (n := n) (by omega) h
  exact ⟨by rw [h1], h2⟩
/-- By the reference: figure by figure. -/
def valN (s : ByteArray) : Nat → Nat
  | 0 => 0
  | k + 1 => 10 * valN s k + (byteAt s k - 48)
theorem byteAt_get {s : ByteArray} {k : Nat} (h : k < s.data.toList.length) : byteAt s k = (s.data.toList[k]).toNat := by unfold byteAt; rw [List.getElem?_eq_getElem h]; rfl
theorem valN_take (s : ByteArray) : ∀ k, k ≤ s.data.toList.length → valN s k = valL (s.data.toList.take k)
  | 0, _ => rfl
  | k + 1, h => by rw [valN, valN_take s k (by omega), List.take_succ_eq_append_getElem (by omega), valL_snoc, byteAt_get (by omega)]
theorem size_toList (s : ByteArray) : s.size = s.data.toList.length := by rw [Array.length_toList]; rfl
theorem valN_all (s : ByteArray) : valN s s.size = valL s.data.toList := by rw [valN_take s _ (by rw [size_toList]; exact Nat.le_refl _), List.take_of_length_le (by rw [size_toList]; exact Nat.le_refl _)]
theorem valN_lt (s : ByteArray) : ∀ k, (∀ j, j < k → byteAt s j ≤ 57) → valN s k < 10 ^ k
  | 0, _ => by simp [valN]
  | k + 1, h => by
    have h1 := valN_lt s k fun j hj => h j (by omega)
    have h2 := h k (by omega)
    rw [valN, Nat.pow_succ]; omega
theorem valN_le {s : ByteArray} {k : Nat} (h : ∀ j, j < k → 48 ≤ byteAt s j ∧ byteAt s j ≤ 57) (hk : k ≤ 10) : valN s k < 10000000000 := by
  have h1 := valN_lt s k fun j hj => (h j hj).2
  have h2 : (10 : Nat) ^ k ≤ 10 ^ 10 := Nat.pow_le_pow_right (by decide) hk
  have h3 : (10 : Nat) ^ 10 = 10000000000 := by decide
  omega
theorem read_long {s : ByteArray} (h : s.size > 10) : readN s = 0 ∧ readB s = false := read_no fun n hn e => by
  subst e
  have h1 := dec_len 9 n (by have : (10 : Nat) ^ (9 + 1) = 10000000000 := by decide
                             omega)
  rw [size_toList, decS_toList] at h
  omega
theorem read_fig {s : ByteArray} {k : Nat} (hk : k < s.size) (h : ¬ (48 ≤ byteAt s k ∧ byteAt s k ≤ 57)) : readN s = 0 ∧ readB s = false := read_no fun n hn e => by
  subst e
  rw [size_toList] at hk
  rw [byteAt_get hk] at h
  have : ∀ c ∈ (decS (n : Int)).data.toList, isD c := by rw [decS_toList]; exact dec_all n
  exact h (this _ (List.getElem_mem hk))
theorem read_val {s : ByteArray} (h : ¬ valN s s.size ≤ 1000000000 ∨ decS (valN s s.size) ≠ s) : readN s = 0 ∧ readB s = false := read_no fun n hn e => by
  subst e
  have hv : valN (decS (n : Int)) (decS (n : Int)).size = n := by rw [valN_all, decS_toList, valL_dec]
  rw [hv] at h
  rcases h with h | h
  · omega
  · exact h rfl
/-- The reference's decimal: figure by figure from the right, over whole numbers of either sign. -/
def digL (u : Nat) : List UInt8 := if u = 0 then [] else Lib.decDigits u
theorem digL_step (u : Nat) (h : u ≠ 0) : digL u = digL (u / 10) ++ [UInt8.ofNat (48 + u % 10)] := by
  unfold digL
  rw [if_neg h, Lib.decDigits]
  split
  · rename_i h1
    rw [if_pos (by omega), Nat.mod_eq_of_lt h1]; rfl
  · rename_i h1
    rw [if_neg (by omega)]
/-- n0: the number; m: what is left of it; s: the figures so far. -/
def decInv (n0 m : Int) (s : ByteArray) : Prop := digL n0.natAbs = digL m.natAbs ++ s.data.toList ∧ (0 ≤ n0 → 0 ≤ m) ∧ (n0 ≤ 0 → m ≤ 0) ∧ m.natAbs ≤ n0.natAbs
theorem decInv.start (n0 : Int) : decInv n0 n0 ⟨#[]⟩ := ⟨by simp, id, id, Nat.le_refl _⟩
theorem natAbs_tdiv (m : Int) : (m.tdiv 10).natAbs = m.natAbs / 10 := by rw [Int.natAbs_tdiv]; rfl
theorem decInv.step {n0 m : Int} {s x : ByteArray} {d : Nat} (h : decInv n0 m s) (hm : m ≠ 0) (hd : (d : Int) = if m.tmod 10 < 0 then - m.tmod 10 else m.tmod 10) (hx : x.data.toList = [UInt8.ofNat (48 + d)]) : decInv n0 (m.tdiv 10) (x ++ s) := by
  obtain ⟨h1, h2, h3, h4⟩ := h
  have hmod : m.natAbs % 10 = d := by
    have : (m.tmod 10).natAbs = m.natAbs % 10 := Int.natAbs_tmod ..
    split at hd <;> omega
  refine ⟨?_, fun h => Int.tdiv_nonneg (h2 h) (by decide), fun h => ?_, by rw [natAbs_tdiv]; omega⟩
  · rw [h1, natAbs_tdiv, digL_step m.natAbs (by omega), hmod, ByteArray.data_append, Array.toList_append, hx, List.append_assoc]
  · have := h3 h
    have e : m.tdiv 10 = - ((-m).tdiv 10) := by rw [Int.neg_tdiv, Int.neg_neg]
    have := Int.tdiv_nonneg (a := -m) (b := 10) (by omega) (by decide)
    omega
theorem decInv.done {n0 : Int} {s : ByteArray} (h : decInv n0 0 s) (h0 : n0 ≠ 0) (hn : ¬ n0 < 0) : s = decS n0 := by
  obtain ⟨h1, _, _, _⟩ := h
  apply ByteArray.ext
  apply Array.toList_inj.1
  have e1 : digL 0 = [] := rfl
  rw [Int.natAbs_zero, e1, List.nil_append] at h1
  rw [← h1]
  unfold digL decS Lib.itoa
  rw [if_neg (by omega), if_neg hn]
  have : n0.natAbs = n0.toNat := by omega
  rw [this]
theorem decInv.doneN {n0 : Int} {s : ByteArray} (h : decInv n0 0 s) (hn : n0 < 0) : (⟨#[45]⟩ : ByteArray) ++ s = decS n0 := by
  obtain ⟨h1, _, _, _⟩ := h
  apply ByteArray.ext
  apply Array.toList_inj.1
  have e1 : digL 0 = [] := rfl
  rw [Int.natAbs_zero, e1, List.nil_append] at h1
  rw [ByteArray.data_append, Array.toList_append, ← h1]
  unfold digL decS Lib.itoa
  rw [if_neg (by omega), if_pos hn]
  rfl
theorem decS_zero : decS 0 = ⟨#[48]⟩ := by
  unfold decS Lib.itoa
  rw [if_neg (by omega)]
  show (⟨(Lib.decDigits 0).toArray⟩ : ByteArray) = _
  rw [Lib.decDigits, dif_pos (by decide)]
  rfl
theorem decS_size (n : Int) (h : i64ok n) : (decS n).size ≤ 21 := by
  unfold i64ok at h
  have := Lib.itoa_length_le n (by omega) (by omega)
  rw [size_toList]; exact this
/-- A count that a value stands for. -/
def numOf (s : ByteArray) : Nat := if readN s ≤ 999 then readN s else 0
theorem numOf_le (s : ByteArray) : numOf s ≤ 999 := by unfold numOf; split <;> omega
end Go.Proofs.YticcmacclncgaaaDoor
