/-
  Texts laid together: DatV, DatMm, DatNs, Adapt, GenA, GenB, GenC, GenD, GenE, GenXa, GenXb.
-/
import Derived.Lib.ItoaNum
import Derived.Lib.ItoaMem
import Derived.Lib.ItoaLen
import Derived.Lib.AtoiAll
import Derived.Lib.HexFns2
import Derived.Test.YtipdbeklopjbmaaGreatDoorP05
import Derived.Test.YtipdbeklopjbmaaGreatDoorP03
/-
  Counters; keys with numbers.
-/

namespace Go.Proofs.YtipdbeklopjbmaaGreatDoor
open Go.ChangeShapes Go.WideShapes Go.ChangeAt Go.RowKit
set_option maxRecDepth 100000
set_option maxHeartbeats 1000000

def decS (n : Int) : ByteArray := ⟨(Lib.itoa n).toArray⟩
def valL (l : List UInt8) : Nat := l.foldl (fun a c => 10 * a + (c.toNat - 48)) 0
theorem valL_snoc (l : List UInt8) (c : UInt8) : valL (l ++ [c]) = 10 * valL l + (c.toNat - 48) := by unfold valL; rw [List.foldl_append]; rfl
theorem fig_toNat {d : Nat} (h : d < 10) : (UInt8.ofNat (48 + d)).toNat = 48 + d := by rw [UInt8.toNat_ofNat']; omega
theorem valL_dec (u : Nat) : valL (Lib.decDigits u) = u := by
  induction u using Nat.strongRecOn with
  | ind u ih =>
    rw [Lib.decDigits]
    split
    · rename_i h
      show 10 * 0 + ((UInt8.ofNat (48 + u)).toNat - 48) = u
      rw [fig_toNat h]; omega
    · rename_i h
      rw [valL_snoc, ih _ (by omega), fig_toNat (by omega)]; omega
def isD (c : UInt8) : Prop := 48 ≤ c.toNat ∧ c.toNat ≤ 57
theorem dec_all (u : Nat) : ∀ c ∈ Lib.decDigits u, isD c := by
  induction u using Nat.strongRecOn with
  | ind u ih =>
    rw [Lib.decDigits]
    split
    · rename_i h
      intro c hc
      rw [List.mem_singleton.1 hc]
      unfold isD; rw [fig_toNat h]; omega
    · rename_i h
      intro c hc
      rcases List.mem_append.1 hc with hc | hc
      · exact ih _ (by omega) c hc
      · rw [List.mem_singleton.1 hc]
        unfold isD; rw [fig_toNat (by omega)]; omega
theorem dec_ne (u : Nat) : Lib.decDigits u ≠ [] := by
  rw [Lib.decDigits]; split <;> simp
theorem dec_len : ∀ (k u : Nat), u < 10 ^ (k + 1) → (Lib.decDigits u).length ≤ k + 1
  | 0, u, h => by rw [Lib.decDigits, dif_pos (by simpa using h)]; simp
  | k + 1, u, h => by
    rw [Lib.decDigits]
    split
    · simp
    · rw [List.length_append]
      have := dec_len k (u / 10) (by rw [Nat.pow_succ] at h; omega)
      ((repeat (first | rw [List.length_append] | rw [List.length_cons] | rw [List.length_nil] | rw [List.length_take] | rw [List.length_drop])) <;> omega)
theorem parse_step : ∀ (l : List UInt8) (acc : Nat), (∀ c ∈ l, isD c) → l.foldl (fun a c => 10 * a + (c.toNat - 48)) acc < 1844674407370955162 → Lib.parseUint10 acc l = .ok (l.foldl (fun a c => 10 * a + (c.toNat - 48)) acc)
  | [], acc, _, _ => rfl
  | c :: l, acc, hd, h => by
    have hc := hd c (List.mem_cons_self ..)
    have hm : ∀ (l : List UInt8) (a : Nat), a ≤ l.foldl (fun a (c : UInt8) => 10 * a + (c.toNat - 48)) a := by
      intro l
      induction l with
      | nil => intro a; exact Nat.le_refl _
      | cons d l ih => intro a; exact Nat.le_trans (by omega) (ih (10 * a + (d.toNat - 48)))
    have h1 := hm l (10 * acc + (c.toNat - 48))
    simp only [List.foldl_cons] at h
    unfold isD at hc
    simp only [Lib.parseUint10]
    rw [if_pos hc, if_neg (by omega), if_neg (by omega), show acc * 10 + (c.toNat - 48) = 10 * acc + (c.toNat - 48) by omega, parse_step l _ (fun d hd' => hd d (List.mem_cons_of_mem _ hd')) h]
    rfl
theorem atoi_dec {u : Nat} (h : u ≤ 1000000000) : Lib.atoiAll (Lib.decDigits u) = .ok (u : Int) := by
  have ha := dec_all u
  have hv := valL_dec u
  cases e : Lib.decDigits u with
  | nil => exact absurd e (dec_ne u)
  | cons c r =>
    rw [e] at ha hv
    have hc := ha c (List.mem_cons_self ..)
    unfold isD at hc
    have hp : Lib.parseMag (c :: r) = .ok u := by
      unfold Lib.parseMag
      rw [if_neg (by simp), parse_step _ 0 ha (by show valL (c :: r) < _; omega)]
      exact congrArg _ hv
    unfold Lib.atoiAll
    simp only
    rw [if_neg (by omega), hp]
    simp only
    rw [if_neg (by omega), if_neg (by omega), if_neg (by omega)]
def readD (s : ByteArray) : Option Nat := if valL s.data.toList ≤ 1000000000 ∧ s = decS (valL s.data.toList) then some (valL s.data.toList) else none
theorem decS_toList (u : Nat) : (decS (u : Int)).data.toList = Lib.decDigits u := by
  unfold decS; rw [Lib.itoa_nonneg]
theorem readD_some {s : ByteArray} {n : Nat} : readD s = some n ↔ n ≤ 1000000000 ∧ s = decS n := by
  unfold readD
  constructor
  · intro h
    split at h
    · rename_i h1
      rw [← Option.some.inj h]; exact h1
    · cases h
  · rintro ⟨h1, rfl⟩
    have hv : valL (decS (n : Int)).data.toList = n := by rw [decS_toList, valL_dec]
    rw [hv, if_pos ⟨h1, rfl⟩]
def readN (s : ByteArray) : Nat := (readD s).getD 0
def readB (s : ByteArray) : Bool := (readD s).isSome
theorem read_yes {s : ByteArray} {n : Nat} (h1 : n ≤ 1000000000) (h2 : decS n = s) : readN s = n ∧ readB s = true := by
  have := readD_some.2 ⟨h1, h2.symm⟩
  unfold readN readB; rw [this]; exact ⟨rfl, rfl⟩
theorem read_no {s : ByteArray} (h : ∀ n, n ≤ 1000000000 → decS (n : Nat) ≠ s) : readN s = 0 ∧ readB s = false := by
  have : readD s = none := by
    cases e : readD s with
    | none => rfl
    | some n => exact absurd (readD_some.1 e).2.symm (h n (readD_some.1 e).1)
  unfold readN readB; rw [this]; exact ⟨rfl, rfl⟩
theorem readN_le (s : ByteArray) : readN s ≤ 1000000000 := by
  unfold readN
  cases e : readD s with
  | none => exact Nat.zero_le _
  | some n => exact (readD_some.1 e).1
theorem read_bad {s : ByteArray} (h : ∀ v, Lib.atoiAll s.data.toList ≠ .ok v) : readN s = 0 ∧ readB s = false := read_no fun n hn e => by
  subst e
  exact h n (by rw [decS_toList]; exact atoi_dec hn)
theorem read_out {s : ByteArray} {v : Int} (h : Lib.atoiAll s.data.toList = .ok v) (hv : ¬ (0 ≤ v ∧ v ≤ 1000000000) ∨ decS v ≠ s) : readN s = 0 ∧ readB s = false := read_no fun n hn e => by
  subst e
  rw [decS_toList, atoi_dec hn] at h
  have : (n : Int) = v := by injection h
  subst this
  rcases hv with hv | hv
  · omega
  · exact hv rfl
theorem read_in {s : ByteArray} {v : Int} (hv : 0 ≤ v ∧ v ≤ 1000000000) (h : decS v = s) : (readN s : Int) = v ∧ readB s = true := by
  obtain ⟨n, rfl⟩ : ∃ n : Nat, v = n := ⟨v.toNat, by omega⟩
  obtain ⟨h1, h2⟩ := read_yes (n := n) (by omega) h
  exact ⟨by rw [h1], h2⟩
def valN (s : ByteArray) : Nat → Nat
  | 0 => 0
  | k + 1 => 10 * valN s k + (byteAt s k - 48)
theorem byteAt_get {s : ByteArray} {k : Nat} (h : k < s.data.toList.length) : byteAt s k = (s.data.toList[k]).toNat := by unfold byteAt; rw [List.getElem?_eq_getElem h]; rfl
theorem valN_take (s : ByteArray) : ∀ k, k ≤ s.data.toList.length → valN s k = valL (s.data.toList.take k)
  | 0, _ => rfl
  | k + 1, h => by rw [valN, valN_take s k (by omega), List.take_succ_eq_append_getElem (by omega), valL_snoc, byteAt_get (by omega)]
theorem size_toList (s : ByteArray) : s.size = s.data.toList.length := by rw [Array.length_toList]; rfl
theorem valN_all (s : ByteArray) : valN s s.size = valL s.data.toList := by rw [valN_take s _ (by rw [size_toList]; exact Nat.le_refl _), List.take_of_length_le (by rw [size_toList]; exact Nat.le_refl _)]
theorem valN_lt (s : ByteArray) : ∀ k, (∀ j, j < k → byteAt s j ≤ 57) → valN s k < 10 ^ k
  | 0, _ => by simp [valN]
  | k + 1, h => by
    have h1 := valN_lt s k fun j hj => h j (by omega)
    have h2 := h k (by omega)
    rw [valN, Nat.pow_succ]; omega
theorem valN_le {s : ByteArray} {k : Nat} (h : ∀ j, j < k → 48 ≤ byteAt s j ∧ byteAt s j ≤ 57) (hk : k ≤ 10) : valN s k < 10000000000 := by
  have h1 := valN_lt s k fun j hj => (h j hj).2
  have h2 : (10 : Nat) ^ k ≤ 10 ^ 10 := Nat.pow_le_pow_right (by decide) hk
  have h3 : (10 : Nat) ^ 10 = 10000000000 := by decide
  omega
theorem read_long {s : ByteArray} (h : s.size > 10) : readN s = 0 ∧ readB s = false := read_no fun n hn e => by
  subst e
  have h1 := dec_len 9 n (by have : (10 : Nat) ^ (9 + 1) = 10000000000 := by decide
                             omega)
  rw [size_toList, decS_toList] at h
  omega
theorem read_fig {s : ByteArray} {k : Nat} (hk : k < s.size) (h : ¬ (48 ≤ byteAt s k ∧ byteAt s k ≤ 57)) : readN s = 0 ∧ readB s = false := read_no fun n hn e => by
  subst e
  rw [size_toList] at hk
  rw [byteAt_get hk] at h
  have : ∀ c ∈ (decS (n : Int)).data.toList, isD c := by rw [decS_toList]; exact dec_all n
  exact h (this _ (List.getElem_mem hk))
theorem read_val {s : ByteArray} (h : ¬ valN s s.size ≤ 1000000000 ∨ decS (valN s s.size) ≠ s) : readN s = 0 ∧ readB s = false := read_no fun n hn e => by
  subst e
  have hv : valN (decS (n : Int)) (decS (n : Int)).size = n := by rw [valN_all, decS_toList, valL_dec]
  rw [hv] at h
  rcases h with h | h
  · omega
  · exact h rfl
def digL (u : Nat) : List UInt8 := if u = 0 then [] else Lib.decDigits u
theorem digL_step (u : Nat) (h : u ≠ 0) : digL u = digL (u / 10) ++ [UInt8.ofNat (48 + u % 10)] := by
  unfold digL
  rw [if_neg h, Lib.decDigits]
  split
  · rename_i h1
    rw [if_pos (by omega), Nat.mod_eq_of_lt h1]; rfl
  · rename_i h1
    rw [if_neg (by omega)]
def decInv (n0 m : Int) (s : ByteArray) : Prop := digL n0.natAbs = digL m.natAbs ++ s.data.toList ∧ (0 ≤ n0 → 0 ≤ m) ∧ (n0 ≤ 0 → m ≤ 0) ∧ m.natAbs ≤ n0.natAbs
theorem decInv.start (n0 : Int) : decInv n0 n0 ⟨#[]⟩ := ⟨by simp, id, id, Nat.le_refl _⟩
theorem natAbs_tdiv (m : Int) : (m.tdiv 10).natAbs = m.natAbs / 10 := by rw [Int.natAbs_tdiv]; rfl
theorem decInv.step {n0 m : Int} {s x : ByteArray} {d : Nat} (h : decInv n0 m s) (hm : m ≠ 0) (hd : (d : Int) = if m.tmod 10 < 0 then - m.tmod 10 else m.tmod 10) (hx : x.data.toList = [UInt8.ofNat (48 + d)]) : decInv n0 (m.tdiv 10) (x ++ s) := by
  obtain ⟨h1, h2, h3, h4⟩ := h
  have hmod : m.natAbs % 10 = d := by
    have : (m.tmod 10).natAbs = m.natAbs % 10 := Int.natAbs_tmod ..
    split at hd <;> omega
  refine ⟨?_, fun h => Int.tdiv_nonneg (h2 h) (by decide), fun h => ?_, by rw [natAbs_tdiv]; omega⟩
  · rw [h1, natAbs_tdiv, digL_step m.natAbs (by omega), hmod, ByteArray.data_append, Array.toList_append, hx, List.append_assoc]
  · have := h3 h
    have e : m.tdiv 10 = - ((-m).tdiv 10) := by rw [Int.neg_tdiv, Int.neg_neg]
    have := Int.tdiv_nonneg (a := -m) (b := 10) (by omega) (by decide)
    omega
theorem decInv.done {n0 : Int} {s : ByteArray} (h : decInv n0 0 s) (h0 : n0 ≠ 0) (hn : ¬ n0 < 0) : s = decS n0 := by
  obtain ⟨h1, _, _, _⟩ := h
  apply ByteArray.ext
  apply Array.toList_inj.1
  have e1 : digL 0 = [] := rfl
  rw [Int.natAbs_zero, e1, List.nil_append] at h1
  rw [← h1]
  unfold digL decS Lib.itoa
  rw [if_neg (by omega), if_neg hn]
  have : n0.natAbs = n0.toNat := by omega
  rw [this]
theorem decInv.doneN {n0 : Int} {s : ByteArray} (h : decInv n0 0 s) (hn : n0 < 0) : (⟨#[45]⟩ : ByteArray) ++ s = decS n0 := by
  obtain ⟨h1, _, _, _⟩ := h
  apply ByteArray.ext
  apply Array.toList_inj.1
  have e1 : digL 0 = [] := rfl
  rw [Int.natAbs_zero, e1, List.nil_append] at h1
  rw [ByteArray.data_append, Array.toList_append, ← h1]
  unfold digL decS Lib.itoa
  rw [if_neg (by omega), if_pos hn]
  rfl
theorem decS_zero : decS 0 = ⟨#[48]⟩ := by
  unfold decS Lib.itoa
  rw [if_neg (by omega)]
  show (⟨(Lib.decDigits 0).toArray⟩ : ByteArray) = _
  rw [Lib.decDigits, dif_pos (by decide)]
  rfl
theorem decS_size (n : Int) (h : i64ok n) : (decS n).size ≤ 21 := by
  unfold i64ok at h
  have := Lib.itoa_length_le n (by omega) (by omega)
  rw [size_toList]; exact this
def numOf (s : ByteArray) : Nat := if readN s ≤ 999 then readN s else 0
def fig (x : Nat) : Nat := if x < 10 then 48 + x else 87 + x
theorem fig_lt {x : Nat} (h : x < 16) : fig x < 256 := by unfold fig; split <;> omega
theorem digit_fig {x : Nat} (h : x < 16) : (Lib.Hx.digit x).toNat = fig x := by
  have : ∀ x : Fin 16, (Lib.Hx.digit x.1).toNat = fig x.1 := by decide
  exact this ⟨x, h⟩
theorem v_digit {x : Nat} (h : x < 16) : Lib.Hx.v (Lib.Hx.digit x) = x := by
  have : ∀ x : Fin 16, Lib.Hx.v (Lib.Hx.digit x.1) = x.1 := by decide +kernel
  exact this ⟨x, h⟩
theorem decode_encode (d : List UInt8) : Lib.Hx.decode (Lib.Hx.encode d) = (d, .ok) := by
  induction d with
  | nil => exact Lib.Hx.decode_nil
  | cons b d ih =>
    have hb := b.toNat_lt
    rw [Lib.Hx.encode_cons, Lib.Hx.decode_two, v_digit (by omega), v_digit (by omega), if_neg (by omega), if_neg (by omega), ih]
    have e : UInt8.ofNat (b.toNat / 16 * 16 + b.toNat % 16) = b := by
      rw [show b.toNat / 16 * 16 + b.toNat % 16 = b.toNat by omega]; exact UInt8.ofNat_toNat
    rw [e]
def hexS (s : ByteArray) : ByteArray := ⟨(Lib.Hx.encode s.data.toList).toArray⟩
theorem hexS_size (s : ByteArray) : (hexS s).size = 2 * s.size := by
  rw [size_toList, size_toList]; exact Lib.Hx.encode_length _
def unhexO (s : ByteArray) : Option ByteArray := if hexS ⟨(Lib.Hx.decode s.data.toList).1.toArray⟩ = s ∧ (Lib.Hx.decode s.data.toList).1.length ≤ 20000 then some ⟨(Lib.Hx.decode s.data.toList).1.toArray⟩ else none
theorem unhexO_some {s t : ByteArray} : unhexO s = some t ↔ hexS t = s ∧ t.size ≤ 20000 := by
  unfold unhexO
  constructor
  · intro h
    split at h
    · rename_i h1
      rw [← Option.some.inj h]
      exact ⟨h1.1, by rw [size_toList]; exact h1.2⟩
    · cases h
  · rintro ⟨rfl, h⟩
    have e : Lib.Hx.decode (hexS t).data.toList = (t.data.toList, .ok) := decode_encode _
    rw [e, if_pos ⟨rfl, by rw [← size_toList]; exact h⟩]
def unhexT (s : ByteArray) : ByteArray := (unhexO s).getD ⟨#[]⟩
def unhexB (s : ByteArray) : Bool := (unhexO s).isSome
theorem unhex_yes {s t : ByteArray} (h1 : hexS t = s) (h2 : t.size ≤ 20000) : unhexT s = t ∧ unhexB s = true := by
  unfold unhexT unhexB; rw [unhexO_some.2 ⟨h1, h2⟩]; exact ⟨rfl, rfl⟩
theorem unhex_no {s : ByteArray} (h : ∀ t, t.size ≤ 20000 → hexS t ≠ s) : unhexT s = ⟨#[]⟩ ∧ unhexB s = false := by
  have : unhexO s = none := by
    cases e : unhexO s with
    | none => rfl
    | some t => exact absurd (unhexO_some.1 e).1 (h t (unhexO_some.1 e).2)
  unfold unhexT unhexB; rw [this]; exact ⟨rfl, rfl⟩
theorem unhex_err {s : ByteArray} (h : (Lib.Hx.decode s.data.toList).2 ≠ .ok) : unhexT s = ⟨#[]⟩ ∧ unhexB s = false := unhex_no fun t _ e => by
  subst e
  exact h (by rw [show Lib.Hx.decode (hexS t).data.toList = (t.data.toList, .ok) from decode_encode _])
theorem unhex_long {s : ByteArray} (h : 20000 < (Lib.Hx.decode s.data.toList).1.length) : unhexT s = ⟨#[]⟩ ∧ unhexB s = false := unhex_no fun t ht e => by
  subst e
  rw [show Lib.Hx.decode (hexS t).data.toList = (t.data.toList, .ok) from decode_encode _, ← size_toList] at h
  exact absurd ht (by simpa using h)
theorem unhex_back {s : ByteArray} (h : hexS ⟨(Lib.Hx.decode s.data.toList).1.toArray⟩ ≠ s) : unhexT s = ⟨#[]⟩ ∧ unhexB s = false := unhex_no fun t ht e => by
  subst e
  rw [show Lib.Hx.decode (hexS t).data.toList = (t.data.toList, .ok) from decode_encode _] at h
  exact h rfl
theorem unhex_well {s : ByteArray} (h1 : ¬ 20000 < (Lib.Hx.decode s.data.toList).1.length) (h2 : hexS ⟨(Lib.Hx.decode s.data.toList).1.toArray⟩ = s) : unhexT s = ⟨(Lib.Hx.decode s.data.toList).1.toArray⟩ ∧ unhexB s = true := unhex_yes h2 (by rw [size_toList]; exact Nat.le_of_not_lt h1)
def hexL (d : List Nat) : List Nat := d.flatMap fun x => [fig (x / 16), fig (x % 16)]
def hexN (s : ByteArray) : Nat → List Nat
  | 0 => []
  | k + 1 => hexN s k ++ [fig (byteAt s k / 16), fig (byteAt s k % 16)]
def bytesN (s : ByteArray) : List Nat := s.data.toList.map (·.toNat)
theorem bytesN_length (s : ByteArray) : (bytesN s).length = s.size := by rw [size_toList]; exact List.length_map ..
theorem bstr_toList (l : List Nat) : (bstr l).data.toList = l.map UInt8.ofNat := by
  have h : ∀ (l : List Int) (s : ByteArray), (l.foldl (fun r n => r.push (UInt8.ofNat n.toNat)) s).data.toList = s.data.toList ++ l.map (fun n => UInt8.ofNat n.toNat) := by
    intro l
    induction l with
    | nil => intro s; simp
    | cons x l ih => intro s; rw [List.foldl_cons, ih, ByteArray.data_push, Array.toList_push]; simp
  unfold bstr
  rw [h, List.map_map]
  rfl
theorem bytesN_bstr (d : List Nat) (h : ∀ x ∈ d, x < 256) : bytesN (bstr d) = d := by
  unfold bytesN
  rw [bstr_toList, List.map_map]
  have : ∀ l : List Nat, (∀ x ∈ l, x < 256) → l.map ((fun x : UInt8 => x.toNat) ∘ UInt8.ofNat) = l := by
    intro l
    induction l with
    | nil => intro _; rfl
    | cons x l ih =>
      intro h
      rw [List.map_cons, ih fun y hy => h y (List.mem_cons_of_mem _ hy)]
      have := h x (List.mem_cons_self ..)
      congr 1
      show (UInt8.ofNat x).toNat = x
      rw [UInt8.toNat_ofNat']; omega
  exact this d h
theorem bytesN_inj {s t : ByteArray} (h : bytesN s = bytesN t) : s = t := by
  apply ByteArray.ext
  apply Array.toList_inj.1
  exact (List.map_inj_right (fun _ _ => UInt8.toNat_inj.1)).1 h
theorem bytesN_hexS (s : ByteArray) : bytesN (hexS s) = hexL (bytesN s) := by
  unfold bytesN hexS
  simp only
  induction s.data.toList with
  | nil => rfl
  | cons b l ih =>
    have hb := b.toNat_lt
    rw [Lib.Hx.encode_cons]
    simp only [List.map_cons]
    rw [ih, digit_fig (by omega), digit_fig (by omega)]
    rfl
theorem byteAt_bytesN (s : ByteArray) (k : Nat) : byteAt s k = ((bytesN s)[k]?).getD 0 := by unfold byteAt bytesN; rw [List.getElem?_map]
theorem hexN_take (s : ByteArray) : ∀ k, k ≤ s.size → hexN s k = hexL ((bytesN s).take k)
  | 0, _ => rfl
  | k + 1, h => by
    have hk : k < (bytesN s).length := by rw [bytesN_length]; omega
    rw [hexN, hexN_take s k (by omega), List.take_succ_eq_append_getElem hk, byteAt_bytesN, List.getElem?_eq_getElem hk]
    unfold hexL
    rw [List.flatMap_append]; rfl
theorem hexN_length (s : ByteArray) : ∀ k, (hexN s k).length = 2 * k
  | 0 => rfl
  | k + 1 => by rw [hexN, List.length_append, hexN_length s k]; ((repeat (first | rw [List.length_append] | rw [List.length_cons] | rw [List.length_nil] | rw [List.length_take] | rw [List.length_drop])) <;> omega)
theorem hexL_lt (d : List Nat) (h : ∀ x ∈ d, x < 256) : ∀ y ∈ hexL d, y < 256 := by
  intro y hy
  unfold hexL at hy
  obtain ⟨x, hx, hy⟩ := List.mem_flatMap.1 hy
  have := h x hx
  rcases List.mem_cons.1 hy with rfl | hy
  · exact fig_lt (by omega)
  · rw [List.mem_singleton.1 hy]; exact fig_lt (by omega)
theorem bytesN_lt (s : ByteArray) : ∀ x ∈ bytesN s, x < 256 := by
  intro x hx
  obtain ⟨b, _, rfl⟩ := List.mem_map.1 hx
  exact b.toNat_lt
theorem hexN_all (s : ByteArray) {k : Nat} (h1 : ¬ k < s.size) (h2 : k ≤ s.size) : bstr (hexN s k) = hexS s := by
  apply bytesN_inj
  have hk : k = (bytesN s).length := by rw [bytesN_length]; omega
  rw [hexN_take s k h2, List.take_of_length_le (by omega), bytesN_bstr _ (hexL_lt _ (bytesN_lt s)), bytesN_hexS]
def vlow (x : Nat) : Int := if 48 ≤ x ∧ x ≤ 57 then (x : Int) - 48 else if 97 ≤ x ∧ x ≤ 102 then (x : Int) - 87 else -1
theorem vlow_bd (x : Nat) : -1 ≤ vlow x ∧ vlow x ≤ 15 := by unfold vlow; split; omega; split <;> omega
theorem fig_vlow {x : Nat} (h : ¬ vlow x < 0) : fig (vlow x).toNat = x := by
  unfold vlow at *
  unfold fig
  split at h
  · rename_i h1; rw [if_pos h1]; split <;> omega
  · rename_i h1
    split at h
    · rename_i h2; rw [if_neg h1, if_pos h2]; split <;> omega
    · omega
theorem vlow_fig {x : Nat} (h : x < 16) : ¬ vlow (fig x) < 0 := by
  unfold vlow fig
  split
  · rw [if_pos (by omega)]; omega
  · rw [if_neg (by omega), if_pos (by omega)]; omega
def unInv (s : ByteArray) (k : Nat) (D : List Nat) : Prop := D.length = k ∧ (∀ x ∈ D, x < 256) ∧ hexL D = (bytesN s).take (2 * k)
theorem unInv.start (s : ByteArray) : unInv s 0 [] := ⟨rfl, fun _ h => absurd h List.not_mem_nil, rfl⟩
theorem unInv.step {s : ByteArray} {k : Nat} {D : List Nat} (h : unInv s k D) (hk : 2 * k + 1 < s.size) (h1 : ¬ vlow (byteAt s (2 * k)) < 0) (h2 : ¬ vlow (byteAt s (2 * k + 1)) < 0) : unInv s (k + 1) (D ++ [16 * (vlow (byteAt s (2 * k))).toNat + (vlow (byteAt s (2 * k + 1))).toNat]) := by
  obtain ⟨g1, g2, g3⟩ := h
  have b1 := vlow_bd (byteAt s (2 * k))
  have b2 := vlow_bd (byteAt s (2 * k + 1))
  refine ⟨by simp [g1], fun x hx => ?_, ?_⟩
  · rcases List.mem_append.1 hx with hx | hx
    · exact g2 x hx
    · rw [List.mem_singleton.1 hx]; omega
  · have hl : (bytesN s).length = s.size := bytesN_length s
    have e1 := byteAt_bytesN s (2 * k)
    have e2 := byteAt_bytesN s (2 * k + 1)
    rw [List.getElem?_eq_getElem (by omega)] at e1 e2
    simp only [Option.getD_some] at e1 e2
    unfold hexL at *
    rw [List.flatMap_append, g3, show 2 * (k + 1) = 2 * k + 1 + 1 by omega, List.take_succ_eq_append_getElem (by omega), List.take_succ_eq_append_getElem (by omega), List.append_assoc]
    congr 1
    rw [← e1, ← e2]
    simp only [List.flatMap_cons, List.flatMap_nil, List.append_nil, List.cons_append, List.nil_append]
    rw [show (16 * (vlow (byteAt s (2 * k))).toNat + (vlow (byteAt s (2 * k + 1))).toNat) / 16 = (vlow (byteAt s (2 * k))).toNat by omega, show (16 * (vlow (byteAt s (2 * k))).toNat + (vlow (byteAt s (2 * k + 1))).toNat) % 16 = (vlow (byteAt s (2 * k + 1))).toNat by omega, fig_vlow h1, fig_vlow h2]
theorem unInv.done {s : ByteArray} {k : Nat} {D : List Nat} (h : unInv s k D) (hk : s.size ≤ 2 * k) (hs : s.size ≤ 40000) (he : 2 * k ≤ s.size) : unhexT s = bstr D ∧ unhexB s = true := by
  obtain ⟨g1, g2, g3⟩ := h
  refine unhex_yes ?_ ?_
  · apply bytesN_inj
    rw [bytesN_hexS, bytesN_bstr _ g2, g3, List.take_of_length_le (by rw [bytesN_length]; omega)]
  · rw [bstr_size]; omega
theorem unhex_odd {s : ByteArray} (h : s.size % 2 ≠ 0) : unhexT s = ⟨#[]⟩ ∧ unhexB s = false := unhex_no fun t _ e => by
  subst e; rw [hexS_size] at h; omega
theorem unhex_big {s : ByteArray} (h : s.size > 40000) : unhexT s = ⟨#[]⟩ ∧ unhexB s = false := unhex_no fun t _ e => by
  subst e; rw [hexS_size] at h; omega
theorem unhex_fig {s : ByteArray} {k : Nat} (hk : k < s.size) (h : vlow (byteAt s k) < 0) : unhexT s = ⟨#[]⟩ ∧ unhexB s = false := unhex_no fun t _ e => by
  subst e
  have hm : byteAt (hexS t) k ∈ hexL (bytesN t) := by
    rw [byteAt_bytesN, ← bytesN_hexS, List.getElem?_eq_getElem (by rw [bytesN_length]; exact hk)]
    exact List.getElem_mem _
  unfold hexL at hm
  obtain ⟨x, hx, hy⟩ := List.mem_flatMap.1 hm
  have := bytesN_lt t x hx
  rcases List.mem_cons.1 hy with e | hy
  · rw [e] at h; exact vlow_fig (by omega) h
  · rw [List.mem_singleton.1 hy] at h; exact vlow_fig (by omega) h
def msgOf (s : ByteArray) : ByteArray := if begins s ⟨#[45]⟩ then unhexT (s.extract 1 s.size) else ⟨#[]⟩

theorem dec0 {n : Int} (h : n = 0) : (⟨#[48]⟩ : ByteArray) = decS n := by subst h; exact decS_zero.symm
theorem fig_lo {z : Int} (h0 : 0 ≤ z) (h : z < 10) : (48 + z).toNat = fig z.toNat := by unfold fig; rw [if_pos (by omega)]; omega
theorem fig_hi {z : Int} (h : ¬ z < 10) : (87 + z).toNat = fig z.toNat := by unfold fig; rw [if_neg (by omega)]; omega
theorem bstr_one (d : Nat) : (bstr [d]).data.toList = [UInt8.ofNat d] := bstr_toList [d]
theorem decInv.stepA {n0 m : Int} {s : ByteArray} (h : decInv n0 m s) (hm : m ≠ 0) (hd : ¬ m.tmod 10 < 0) : decInv n0 (m.tdiv 10) (bstr [fig (m.tmod 10).toNat] ++ s) := by
  have hb : -10 < m.tmod 10 ∧ m.tmod 10 < 10 := tmod_bd m (c := 10) (by decide)
  refine h.step (d := (m.tmod 10).toNat) hm (by rw [if_neg hd]; omega) ?_
  rw [bstr_one]
  unfold fig
  rw [if_pos (by omega)]
theorem decInv.stepB {n0 m : Int} {s : ByteArray} (h : decInv n0 m s) (hm : m ≠ 0) (hd : m.tmod 10 < 0) : decInv n0 (m.tdiv 10) (bstr [fig (-(m.tmod 10)).toNat] ++ s) := by
  have hb : -10 < m.tmod 10 ∧ m.tmod 10 < 10 := tmod_bd m (c := 10) (by decide)
  refine h.step (d := (-(m.tmod 10)).toNat) hm (by rw [if_pos hd]; omega) ?_
  rw [bstr_one]
  unfold fig
  rw [if_pos (by omega)]
theorem digL_len {u : Nat} (h : u < 100000000000000000000) : (digL u).length ≤ 20 := by
  unfold digL
  split
  · exact Nat.zero_le _
  · exact dec_len 19 u (by have : (10 : Nat) ^ (19 + 1) = 100000000000000000000 := by decide
                           omega)
theorem decInv.size {n0 m : Int} {s : ByteArray} (h : decInv n0 m s) (h0 : i64ok n0) : s.size ≤ 20 := by
  have h1 := congrArg List.length h.1
  have h2 := digL_len (u := n0.natAbs) (by unfold i64ok at h0; omega)
  rw [List.length_append] at h1
  rw [size_toList]; omega
theorem decInv.i64 {n0 m : Int} {s : ByteArray} (h : decInv n0 m s) (h0 : i64ok n0) : i64ok m := by
  obtain ⟨_, h1, h2, h3⟩ := h
  unfold i64ok at *
  omega
theorem decInv.end1 {n0 m : Int} {s : ByteArray} (h : decInv n0 m s) (hm : ¬ m ≠ 0) (h0 : ¬ n0 = 0) (hn : ¬ n0 < 0) : s = decS n0 := by
  have : m = 0 := Classical.not_not.1 hm
  subst this
  exact h.done h0 hn
theorem decInv.end2 {n0 m : Int} {s : ByteArray} (h : decInv n0 m s) (hm : ¬ m ≠ 0) (hn : n0 < 0) : (⟨#[45]⟩ : ByteArray) ++ s = decS n0 := by
  have : m = 0 := Classical.not_not.1 hm
  subst this
  exact h.doneN hn
theorem tdiv_dec {m : Int} (h : m ≠ 0) : (m.tdiv 10).natAbs < m.natAbs := by rw [natAbs_tdiv]; omega
def keyNum (head : ByteArray) (n : Int) (tail : ByteArray) : ByteArray := head ++ decS n ++ tail
def numV (n : Int) : ByteArray := if inB n 1 999 then decS n else ⟨#[]⟩
def setM (m : MachD) (key : ByteArray) (n : Int) : MachD := layM m key (numV n)
def bdC (b : Nat) (m : MachD) : Prop := (m.store.length ≤ b ∧ m.touch.reads.length ≤ b ∧ m.touch.writes.length ≤ b) ∧ ∀ c ∈ m.store, c.key.size ≤ 1048576 ∧ c.val.size ≤ 1048576
theorem bdC.le {b c : Nat} {m : MachD} (h : bdC b m) (hb : b ≤ c) : bdC c m := ⟨⟨Nat.le_trans h.1.1 hb, Nat.le_trans h.1.2.1 hb, Nat.le_trans h.1.2.2 hb⟩, h.2⟩
theorem bdC.look {b : Nat} {m : MachD} {key : ByteArray} (h : bdC b m) : bdC (b + 1) (lookM m key) := ⟨⟨Nat.le_succ_of_le h.1.1, Nat.le_trans (putL_length ..) (Nat.succ_le_succ h.1.2.1), Nat.le_succ_of_le h.1.2.2⟩, h.2⟩
theorem keyOk_size {key : ByteArray} (h : keyOk key = true) : key.size ≤ 40 := by
  unfold keyOk at h
  rw [Bool.and_eq_true] at h
  have := h.2
  unfold inB at this
  have := of_decide_eq_true this
  omega
theorem putKey_sizes {s : List CellD} {key val : ByteArray} (h : ∀ c ∈ s, c.key.size ≤ 1048576 ∧ c.val.size ≤ 1048576) : ∀ c ∈ putKey s key val, c.key.size ≤ 1048576 ∧ c.val.size ≤ 1048576 := by
  intro c hc
  unfold putKey at hc
  split at hc
  · rename_i hk
    split at hc
    · exact h c (delKey_mem.1 hc).1
    · unfold insK insAt at hc
      rcases List.mem_append.1 hc with hc | hc
      · exact h c (delKey_mem.1 (List.mem_of_mem_take hc)).1
      · rcases List.mem_cons.1 hc with rfl | hc
        · exact ⟨Nat.le_trans (keyOk_size hk.1) (by decide), Nat.le_trans hk.2 (by decide)⟩
        · exact h c (delKey_mem.1 (List.mem_of_mem_drop hc)).1
  · exact h c hc
theorem bdC.lay {b : Nat} {m : MachD} {key val : ByteArray} (h : bdC b m) : bdC (b + 1) (layM m key val) := ⟨⟨Nat.le_trans (putKey_length ..) (Nat.succ_le_succ h.1.1), Nat.le_succ_of_le h.1.2.1, Nat.le_trans (putL_length ..) (Nat.succ_le_succ h.1.2.2)⟩, putKey_sizes h.2⟩
theorem bdC.set {b : Nat} {m : MachD} {key : ByteArray} {n : Int} (h : bdC b m) : bdC (b + 1) (setM m key n) := h.lay
theorem bdC.s {b : Nat} {m : MachD} (h : bdC b m) : m.store.length ≤ b := h.1.1
theorem bdC.r {b : Nat} {m : MachD} (h : bdC b m) : m.touch.reads.length ≤ b := h.1.2.1
theorem bdC.w {b : Nat} {m : MachD} (h : bdC b m) : m.touch.writes.length ≤ b := h.1.2.2
theorem getKey_mem {l : List CellD} {key : ByteArray} : getKey l key = ⟨#[]⟩ ∨ ∃ c ∈ l, c.val = getKey l key := by
  unfold getKey
  cases h : l.find? (fun c : CellD => decide (c.key = key)) with
  | none => exact .inl rfl
  | some c => exact .inr ⟨c, List.mem_of_find?_eq_some h, rfl⟩
theorem bdC.val {b : Nat} {m : MachD} {key : ByteArray} (h : bdC b m) : (getKey m.store key).size ≤ 1048576 := by
  rcases getKey_mem (l := m.store) (key := key) with e | ⟨c, hc, e⟩
  · rw [e]; exact Nat.zero_le _
  · rw [← e]; exact (h.2 c hc).2
theorem bdC.key {b : Nat} {m : MachD} {p : ByteArray} {k : Nat} {x : ByteArray} (h : bdC b m) (hx : nth (keysUnder m.store p) k = some x) : x.size ≤ 1048576 := by
  obtain ⟨⟨c, hc, rfl⟩, _⟩ := keysUnder_mem.1 (nth_in hx)
  exact (h.2 c hc).1
theorem delKey_no {l : List CellD} {key : ByteArray} : ∀ c ∈ delKey l key, c.key ≠ key := fun _ hc => (delKey_mem.1 hc).2
theorem getKey_no {l : List CellD} {key : ByteArray} (h : ∀ c ∈ l, c.key ≠ key) : getKey l key = ⟨#[]⟩ := by
  rw [getKey_eq]
  have : l.find? (fun c : CellD => decide (c.key = key)) = none := by
    rw [List.find?_eq_none]
    intro c hc
    simpa using h c hc
  rw [this]; rfl
theorem getKey_insSame {l : List CellD} {key val : ByteArray} (h : ∀ c ∈ l, c.key ≠ key) : getKey (insK l key val) key = val := by
  rw [getKey_eq]
  unfold insK insAt
  have : ∀ i, (l.take i ++ ⟨key, val⟩ :: l.drop i).find? (fun c : CellD => decide (c.key = key)) = some ⟨key, val⟩ := fun i => by
    rw [List.find?_append]
    have h1 : (l.take i).find? (fun c : CellD => decide (c.key = key)) = none := by
      rw [List.find?_eq_none]
      intro c hc
      simpa using h c (List.mem_of_mem_take hc)
    rw [h1, List.find?_cons_of_pos (by simp)]
    rfl
  rw [this]; rfl
theorem getKey_putSame {l : List CellD} {key val : ByteArray} (hk : keyOk key = true) (hv : val.size ≤ 60) : getKey (putKey l key val) key = val := by
  unfold putKey
  rw [if_pos ⟨hk, hv⟩]
  split
  · rename_i e
    rw [e]; exact getKey_no delKey_no
  · exact getKey_insSame delKey_no
def numK (m : MachD) (key : ByteArray) : Nat := numOf (getKey m.store key)
theorem numOf_dec {n : Nat} (h : n ≤ 999) : numOf (decS n) = n := by
  have := (read_yes (s := decS n) (n := n) (by omega) rfl).1
  unfold numOf
  rw [this, if_pos h]
theorem numOf_nil : numOf (⟨#[]⟩ : ByteArray) = 0 := by
  have := (read_bad (s := (⟨#[]⟩ : ByteArray)) (fun v e => by cases e)).1
  unfold numOf
  rw [this]; rfl
theorem numOf_numV {n : Nat} (h : n ≤ 999) : numOf (numV n) = n := by
  unfold numV
  split
  · exact numOf_dec h
  · rename_i h1
    have : n = 0 := by
      unfold inB at h1
      have := of_decide_eq_false (Bool.eq_false_iff.2 h1)
      omega
    subst this
    exact numOf_nil
theorem numV_size (n : Int) : (numV n).size ≤ 60 := by
  unfold numV
  split
  · rename_i h
    unfold inB at h
    have := of_decide_eq_true h
    exact Nat.le_trans (decS_size n ⟨by omega, by omega⟩) (by decide)
  · exact Nat.zero_le _
theorem numK_set {m : MachD} {key : ByteArray} {n : Nat} (hk : keyOk key = true) (h : n ≤ 999) : numK (setM m key n) key = n := by
  unfold numK setM layM
  rw [getKey_putSame hk (numV_size _)]
  exact numOf_numV h
theorem getKey_lay {m : MachD} {key val k : ByteArray} (h : k ≠ key) : getKey (layM m key val).store k = getKey m.store k := getKey_put h
theorem getKey_set {m : MachD} {key k : ByteArray} {n : Int} (h : k ≠ key) : getKey (setM m key n).store k = getKey m.store k := getKey_put h
theorem getKey_laySame {m : MachD} {key val : ByteArray} (hk : keyOk key = true) (hv : val.size ≤ 60) : getKey (layM m key val).store key = val := getKey_putSame hk hv
theorem numK_ne {m : MachD} {key k : ByteArray} {n : Int} (h : k ≠ key) : numK (setM m key n) k = numK m k := by unfold numK; rw [getKey_set h]
theorem numK_lay {m : MachD} {key k val : ByteArray} (h : k ≠ key) : numK (layM m key val) k = numK m k := by unfold numK; rw [getKey_lay h]
theorem toList_append (a b : ByteArray) : (a ++ b).data.toList = a.data.toList ++ b.data.toList := by
  rw [ByteArray.data_append, Array.toList_append]
def kbs (s : ByteArray) : Bool := s.data.toList.all fun c => kb c.toNat
theorem keyOk_kbs (key : ByteArray) : keyOk key = (kbs key && inB key.size 1 40) := by
  unfold keyOk kbs
  congr 1
  rw [Bool.eq_iff_iff, List.all_eq_true, List.all_eq_true]
  constructor
  · intro h c hc
    obtain ⟨j, hj, rfl⟩ := List.mem_iff_getElem.1 hc
    have := h j (List.mem_range.2 (by rw [size_toList]; exact hj))
    unfold byteAt at this
    rw [List.getElem?_eq_getElem hj] at this
    exact this
  · intro h j hj
    have hj := List.mem_range.1 hj
    rw [size_toList] at hj
    unfold byteAt
    rw [List.getElem?_eq_getElem hj]
    exact h _ (List.getElem_mem hj)
theorem kbs_append (a b : ByteArray) : kbs (a ++ b) = (kbs a && kbs b) := by
  unfold kbs
  rw [toList_append, List.all_append]
theorem kbs_dec (n : Nat) : kbs (decS n) = true := by
  unfold kbs
  rw [List.all_eq_true]
  intro c hc
  rw [decS_toList] at hc
  have := dec_all n c hc
  unfold isD at this
  unfold kb
  exact decide_eq_true (by omega)
theorem append_cancel {a b c : ByteArray} (h : a ++ b = a ++ c) : b = c := by
  have := congrArg (fun s : ByteArray => s.data.toList) h
  simp only [toList_append] at this
  exact ByteArray.ext (Array.toList_inj.1 (List.append_cancel_left this))
theorem append_assoc' (a b c : ByteArray) : a ++ b ++ c = a ++ (b ++ c) := by
  apply ByteArray.ext; apply Array.toList_inj.1
  simp only [toList_append, List.append_assoc]
def noD (t : ByteArray) : Prop := ∀ c, t.data.toList.head? = some c → ¬ isD c
theorem noD_nil : noD ⟨#[]⟩ := fun c h => by cases h
theorem splitD : ∀ {a a' b b' : List UInt8}, (∀ c ∈ a, isD c) → (∀ c ∈ a', isD c) → (∀ c, b.head? = some c → ¬ isD c) → (∀ c, b'.head? = some c → ¬ isD c) → a ++ b = a' ++ b' → a = a' ∧ b = b'
  | [], [], _, _, _, _, _, _, e => ⟨rfl, e⟩
  | [], y :: a', b, b', _, h2, h3, _, e => by
    rw [List.nil_append] at e
    exact absurd (h2 y (List.mem_cons_self ..)) (h3 y (by rw [e]; rfl))
  | x :: a, [], b, b', h1, _, _, h4, e => by
    rw [List.nil_append] at e
    exact absurd (h1 x (List.mem_cons_self ..)) (h4 x (by rw [← e]; rfl))
  | x :: a, y :: a', b, b', h1, h2, h3, h4, e => by
    rw [List.cons_append, List.cons_append] at e
    injection e with e1 e2
    have := splitD (fun c hc => h1 c (List.mem_cons_of_mem _ hc)) (fun c hc => h2 c (List.mem_cons_of_mem _ hc)) h3 h4 e2
    exact ⟨by rw [e1, this.1], this.2⟩
theorem decS_inj {n k : Nat} (hn : n ≤ 999) (hk : k ≤ 999) (h : decS n = decS k) : n = k := by
  rw [← numOf_dec hn, h, numOf_dec hk]
theorem keyNum_inj {h t t' : ByteArray} {n k : Nat} (hn : n ≤ 999) (hk : k ≤ 999) (h1 : noD t) (h2 : noD t') (e : keyNum h n t = keyNum h k t') : n = k ∧ t = t' := by
  unfold keyNum at e
  rw [append_assoc', append_assoc'] at e
  have e := congrArg (fun s : ByteArray => s.data.toList) (append_cancel e)
  simp only [toList_append] at e
  have := splitD (a := (decS n).data.toList) (a' := (decS k).data.toList) (by rw [decS_toList]; exact dec_all n) (by rw [decS_toList]; exact dec_all k) h1 h2 e
  exact ⟨decS_inj hn hk (ByteArray.ext (Array.toList_inj.1 this.1)), ByteArray.ext (Array.toList_inj.1 this.2)⟩
theorem keyNum_ne {h t t' : ByteArray} {n k : Nat} (hn : n ≤ 999) (hk : k ≤ 999) (h1 : noD t) (h2 : noD t') (e : n ≠ k ∨ t ≠ t') : keyNum h n t ≠ keyNum h k t' := fun q => by
  have := keyNum_inj hn hk h1 h2 q
  rcases e with e | e
  · exact e this.1
  · exact e this.2
theorem byteAt_append {a b : ByteArray} (h : 0 < a.size) : byteAt (a ++ b) 0 = byteAt a 0 := by
  unfold byteAt
  rw [toList_append, List.getElem?_append_left (by rw [← size_toList]; exact h)]
theorem byte_num {h t : ByteArray} {n : Int} (hh : 0 < h.size) : byteAt (keyNum h n t) 0 = byteAt h 0 := by
  unfold keyNum
  rw [byteAt_append (by rw [ByteArray.size_append]; omega), byteAt_append hh]
theorem key_other {a b : ByteArray} (h : byteAt a 0 ≠ byteAt b 0) : a ≠ b := fun e => h (by rw [e])

def bumpM (m : MachD) (key : ByteArray) : MachD := if numK m key + 1 > 999 then lookM m key else setM (lookM m key) key ((numK m key + 1 : Nat) : Int)
def bumpN (m : MachD) (key : ByteArray) : Nat := if numK m key + 1 > 999 then 0 else numK m key + 1
theorem bdC.bump {b : Nat} {m : MachD} {key : ByteArray} (h : bdC b m) : bdC (b + 2) (bumpM m key) := by
  unfold bumpM
  split
  · exact h.look.le (by omega)
  · exact h.look.set
theorem bumpN_lt {m : MachD} {key : ByteArray} (h : numK m key < 999) : bumpN m key = numK m key + 1 := if_neg (by omega)
theorem bumpM_lt {m : MachD} {key : ByteArray} (h : numK m key < 999) : bumpM m key = setM (lookM m key) key ((numK m key + 1 : Nat) : Int) := if_neg (by omega)
theorem numK_bump {m : MachD} {key : ByteArray} (hk : keyOk key = true) (h : numK m key < 999) : numK (bumpM m key) key = numK m key + 1 := by
  rw [bumpM_lt h, numK_set hk (by omega)]
theorem numK_bumpNe {m : MachD} {key k : ByteArray} (hk : k ≠ key) : numK (bumpM m key) k = numK m k := by
  unfold bumpM
  split
  · rfl
  · rw [numK_ne hk]; rfl
def counts (k : Nat) (m : MachD) : Prop := numK m (⟨#[99, 47, 120]⟩ : ByteArray) = k ∧ bdC (10 * k) m
theorem counts.step {k : Nat} {m : MachD} (h : counts k m) (hk : k < 999) : bumpN m (⟨#[99, 47, 120]⟩ : ByteArray) = k + 1 ∧ counts (k + 1) (bumpM m (⟨#[99, 47, 120]⟩ : ByteArray)) := by
  obtain ⟨h1, h2⟩ := h
  exact ⟨by rw [bumpN_lt (by omega), h1], by rw [numK_bump (by decide) (by omega), h1], h2.bump.le (by omega)⟩

theorem inB_bd {x a b : Int} (h : inB x a b = true) : a ≤ x ∧ x ≤ b := of_decide_eq_true h
theorem decS_small {n : Nat} (h : n ≤ 999) : (decS n).size ≤ 3 := by
  rw [size_toList, decS_toList]
  exact dec_len 2 n (by have : (10 : Nat) ^ (2 + 1) = 1000 := by decide
                        omega)
theorem key_ok {h t : ByteArray} {n : Nat} (hn : n ≤ 999) (h1 : kbs h = true) (h2 : kbs t = true) (h3 : 1 ≤ h.size) (h4 : h.size + t.size ≤ 37) : keyOk (keyNum h n t) = true := by
  have := decS_small hn
  rw [keyOk_kbs]
  unfold keyNum inB
  rw [kbs_append, kbs_append, h1, h2, kbs_dec, Bool.true_and, Bool.true_and]
  refine decide_eq_true ?_
  rw [ByteArray.size_append, ByteArray.size_append]
  omega
theorem noD_lit (l : List UInt8) (h : (l.head?.all fun c => decide (c.toNat < 48 ∨ 57 < c.toNat)) = true) : noD ⟨l.toArray⟩ := fun c hc => by
  have e : (⟨l.toArray⟩ : ByteArray).data.toList = l := rfl
  rw [e] at hc
  rw [hc] at h
  unfold isD
  have := of_decide_eq_true (p := c.toNat < 48 ∨ 57 < c.toNat) (by simpa using h)
  omega
theorem begins_app (p s : ByteArray) : begins (p ++ s) p = true ∧ (p ++ s).extract p.size (p ++ s).size = s := by
  constructor
  · unfold begins
    refine decide_eq_true ⟨by rw [ByteArray.size_append]; omega, ?_⟩
    rw [ByteArray.extract_append_eq_left rfl]
  · rw [ByteArray.size_append, ByteArray.extract_append_eq_right rfl rfl]
theorem msgOf_hex {t : ByteArray} (h : t.size ≤ 20000) : msgOf ((⟨#[45]⟩ : ByteArray) ++ hexS t) = t := by
  have := begins_app (⟨#[45]⟩ : ByteArray) (hexS t)
  unfold msgOf
  rw [if_pos this.1]
  have e := this.2
  have e1 : (⟨#[45]⟩ : ByteArray).size = 1 := rfl
  rw [e1] at e
  rw [e]
  exact (unhex_yes rfl h).1
end Go.Proofs.YtipdbeklopjbmaaGreatDoor
/-
  The least and the greatest of two numbers.
-/

namespace Go.Proofs.YtipdbeklopjbmaaGreatDoor
open Go.ChangeShapes Go.WideShapes Go.ChangeAt Go.RowKit
set_option maxRecDepth 100000
set_option maxHeartbeats 1000000

section
variable {P : Program} {ρ : Operand → Value} {w : World} {o : Oper} {x y : Operand} {ts : Array TypeId}
theorem r_maxN {m n : Nat} (ho : o.op = .call { callee := .builtin .max, args := #[x, y], argTypes := ts }) (hx : ρ x = .int .i64 ((m : Nat) : Int)) (hy : ρ y = .int .i64 ((n : Nat) : Int)) : (execOp ρ o).run P w = .ok (.value (.int .i64 ((max m n : Nat) : Int))) w := by
  simp [execOp, ho, hx, hy, resolve, invoke, builtin, run_max_int2]
  split <;> omega
end
end Go.Proofs.YtipdbeklopjbmaaGreatDoor
/-
  Lists of transactions, disks: their data.
-/

namespace Go.Proofs.YtipdbeklopjbmaaGreatDoor
open Go.ChangeShapes Go.WideShapes Go.ChangeAt Go.RowKit
set_option maxRecDepth 100000
set_option maxHeartbeats 1000000

theorem map_at {α β : Type} {f : α → β} {l : List α} {k : Nat} {x : α} (h : nth l k = some x) : nth (l.map f) k = some (f x) := by
  rw [nth_eq] at *
  rw [List.getElem?_map, h]; rfl
theorem same2 {α β : Type} {f : α → β} {D D' : List α} {l : List β} (h : D.map f = l) (h' : D'.map f = l) : D.map f = D'.map f := h.trans h'.symm
theorem lenM {α β : Type} {f : α → β} {a b : List α} (p : a.map f = b.map f) : a.length = b.length := by
  have := congrArg List.length p
  simpa using this
theorem elM {α β : Type} {f : α → β} {a b : List α} {k : Nat} {x y : α} (p : a.map f = b.map f) (h1 : nth a k = some x) (h2 : nth b k = some y) : f x = f y := el_eq p (map_at h1) (map_at h2)
theorem copyM_start {α β : Type} {f : α → β} {z : α} {n : Nat} {l : List α} (h : n = l.length) : (List.replicate n z).map f = copyTo (f z) 0 (l.map f) := by
  rw [List.map_replicate]; exact copyTo_start _ _ (by rw [List.length_map]; exact h)
theorem copyM_step {α β : Type} {f : α → β} {z : β} {D l : List α} {k : Nat} {x y : α} (hD : D.map f = copyTo z k (l.map f)) (hx : nth l k = some x) (hy : f y = f x) : (D.set k y).map f = copyTo z (k + 1) (l.map f) := by
  rw [List.map_set, hD, hy, copyTo_step (map_at hx)]
theorem copyM_end {α β : Type} {f : α → β} {z : β} {D l : List α} {k : Nat} (hD : D.map f = copyTo z k (l.map f)) (hk : l.length ≤ k) : D.map f = l.map f := by
  rw [hD, copyTo_end (by rw [List.length_map]; exact hk)]
def txFits (n : Nat) (x : TxD) : Prop := x.calls.length ≤ n ∧ x.answers.length ≤ n ∧ x.touch.reads.length ≤ n ∧ x.touch.writes.length ≤ n ∧ x.marks.length ≤ n
def txsFit (n : Nat) (l : List TxD) : Prop := l.length ≤ n ∧ ∀ x ∈ l, txFits n x
theorem sumOf_ge {α : Type} {f : α → Nat} {l : List α} {x : α} (h : x ∈ l) : f x ≤ sumOf f l := by
  unfold sumOf
  induction l with
  | nil => cases h
  | cons y l ih =>
    rw [List.map_cons, List.sum_cons]
    rcases List.mem_cons.1 h with rfl | h
    · omega
    · have := ih h; omega
theorem txFits.mono {x : TxD} {n m : Nat} (h : txFits n x) (hm : n ≤ m) : txFits m x := by
  unfold txFits at *; omega
theorem txsFit.mono {l : List TxD} {n m : Nat} (h : txsFit n l) (hm : n ≤ m) : txsFit m l := ⟨Nat.le_trans h.1 hm, fun x hx => (h.2 x hx).mono hm⟩
theorem txsFit.at {l : List TxH} {n k : Nat} {x : TxH} (h : txsFit n (l.map TxH.d)) (hx : nth l k = some x) : x.d.calls.length ≤ n ∧ x.d.answers.length ≤ n ∧ x.d.touch.reads.length ≤ n ∧ x.d.touch.writes.length ≤ n ∧ x.d.marks.length ≤ n := h.2 _ (nth_mem (map_at hx))
theorem txsFit.len {l : List TxH} {n : Nat} (h : txsFit n (l.map TxH.d)) : l.length ≤ n := by
  have := h.1
  rwa [List.length_map] at this
def szSlotH (x : SlotH) : Nat := szCells x.d.cells
def szSlotsH (l : List SlotH) : Nat := l.length + sumOf szSlotH l
def slotsFit (n : Nat) (l : List SlotD) : Prop := l.length ≤ n ∧ ∀ x ∈ l, x.cells.length ≤ n
theorem slotsFit_of {l : List SlotH} {n : Nat} (h : szSlotsH l ≤ n) : slotsFit n (l.map SlotH.d) := by
  unfold szSlotsH at h
  refine ⟨by rw [List.length_map]; omega, fun x hx => ?_⟩
  obtain ⟨y, hy, rfl⟩ := List.mem_map.1 hx
  have := sumOf_ge (f := szSlotH) hy
  have h2 : szSlotH y = szCells y.d.cells := rfl
  unfold szCells at h2
  show y.d.cells.length ≤ n
  omega
theorem slotsFit.at {l : List SlotH} {n k : Nat} {x : SlotH} (h : slotsFit n (l.map SlotH.d)) (hx : nth l k = some x) : x.d.cells.length ≤ n := h.2 _ (nth_mem (map_at hx))
theorem slotsFit.len {l : List SlotH} {n : Nat} (h : slotsFit n (l.map SlotH.d)) : l.length ≤ n := by
  have := h.1
  rwa [List.length_map] at this
theorem slotsFit.mono {l : List SlotD} {n m : Nat} (h : slotsFit n l) (hm : n ≤ m) : slotsFit m l := ⟨Nat.le_trans h.1 hm, fun x hx => Nat.le_trans (h.2 x hx) hm⟩
structure JouD where
  text : ByteArray
  sure : Int
def jouOk (j : JouD) : Bool := decide (j.text.size ≤ 20000) && inB j.sure 0 j.text.size
structure DiskH where
  slots : List SlotH
  journal : JouD
def szDiskH (d : DiskH) : Nat := szSlotsH d.slots + d.journal.text.size
theorem diskFits {d : DiskH} {n : Nat} {z : Int} (hz : z ≤ n) (h : ¬ subOr z (szDiskH d) < 0) : slotsFit n (d.slots.map SlotH.d) ∧ d.journal.text.size ≤ n := by
  have h1 : 0 ≤ subOr z (szDiskH d) := by omega
  have h2 := (subOr_ge h1).2
  unfold szDiskH at h2
  exact ⟨slotsFit_of (by omega), by omega⟩
theorem sz2_a {left : Int} {A B : Nat} (h : subOr left A < 0) : -1 = subOr left (A + B) := (subOr_neg left A _ h).symm
theorem sz2_b {left : Int} {A B : Nat} (h : ¬ subOr left A < 0) : subOr (subOr left A) B = subOr left (A + B) := subOr_add left A _ (by omega)
def addJ (j : JouD) (t : ByteArray) : JouD := if jouOk j && decide (j.text.size + t.size ≤ 20000) then ⟨j.text ++ t, j.sure⟩ else j
def addB (j : JouD) (t : ByteArray) : Bool := jouOk j && decide (j.text.size + t.size ≤ 20000)
theorem addJ_t {j : JouD} {t : ByteArray} (h : jouOk j = true) (h2 : ¬ j.text.size + t.size > 20000) : addJ j t = ⟨j.text ++ t, j.sure⟩ ∧ addB j t = true := by
  have : (jouOk j && decide (j.text.size + t.size ≤ 20000)) = true := by rw [h, decide_eq_true (by omega)]; rfl
  exact ⟨if_pos this, this⟩
def jst (k : Nat) (j : JouD) : Prop := j.sure = 0 ∧ j.text.size = 8000 + 4000 * k
theorem jst.add {k : Nat} {j : JouD} {t : ByteArray} (h : jst k j) (hk : k ≤ 2) (ht : t.size = 4000) : addB j t = true ∧ jst (k + 1) (addJ j t) := by
  obtain ⟨h1, h2⟩ := h
  have ho : jouOk j = true := by
    unfold jouOk inB
    simp only [Bool.and_eq_true, decide_eq_true_eq, h1]
    omega
  have h3 := addJ_t (t := t) ho (by omega)
  refine ⟨h3.2, ?_⟩
  rw [h3.1]
  exact ⟨h1, by rw [ByteArray.size_append]; omega⟩
theorem jo_f {j : JouD} (h : ¬ j.text.size ≤ 20000) : false = jouOk j := by unfold jouOk; rw [decide_eq_false h]; rfl
theorem jo_t {j : JouD} (h : j.text.size ≤ 20000) : inB j.sure 0 ((j.text.size : Nat) : Int) = jouOk j := by unfold jouOk; rw [decide_eq_true h]; rfl
end Go.Proofs.YtipdbeklopjbmaaGreatDoor
/-
  Contracts of the library's slice functions, in the walks' form.
-/

namespace Go.Proofs.YtipdbeklopjbmaaGreatDoor
open Go.ChangeShapes Go.WideShapes Go.ChangeAt Go.RowKit
set_option maxRecDepth 100000
set_option maxHeartbeats 1000000
theorem slices_Clone_Simpl_Cell_impl_Cell_c {w : World} {H : Nat → Prop} {s : List CellD} {s_a : Option Addr} {s_n s_c : Nat} (v_s : Rd 2 encC okC H w (.slice s_a s_n s_c) s) (p0 : s_n ≤ 1099511627776) :
    Calls Tryz.prog 46 #[.slice s_a s_n s_c] w fun e w' => ∃ (r0_a : Option Addr), ∃ (r0_n : Nat), ∃ (r0_c : Nat), e = .returned (.slice r0_a r0_n r0_c) ∧ Mv [] w [ow 91 2 encC okC (.slice r0_a r0_n r0_c) s] w' := by
  have uU : True := (fun _ => trivial) p0
  clear uU
  obtain ⟨hl, _⟩ := v_s.inv
  refine (cloneCells_s _ w s v_s.1 (by omega)).mono ?_
  rintro e w' ⟨a, n, c, rfl, h1, h2, h3⟩
  exact ⟨a, n, c, rfl, mv_of_fresh h1 h2 h3⟩
theorem laws_szCellS_c {w : World} {H : Nat → Prop} {a : List CellD} {a_a : Option Addr} {a_n a_c : Nat} {left : Int} (v_a : RdA 2 encC okC H w (.slice a_a a_n a_c) a) (Q0 : i64ok left) (p0 : 0 ≤ left) (p1 : left ≤ 1048576) :
    Calls Tryz.prog 15 #[.slice a_a a_n a_c, .int .i64 left] w fun e w' => e = .returned (.int .i64 (subOr left (szCells a))) ∧ Mv [] w [] w' ∧ i64ok (subOr left (szCells a)) := by
  have uU : True := (fun _ => trivial) Q0
  clear uU
  refine (szCellS_c _ left w a v_a.1 p0 p1).mono ?_
  rintro e w' ⟨rfl, hb⟩
  exact ⟨rfl, Mv.of_bl hb, subOr_i64 p0 p1⟩
theorem laws_toCellS_c {w : World} {H : Nat → Prop} {a : List CellD} {a_a : Option Addr} {a_n a_c : Nat} (v_a : RdA 2 encC okC H w (.slice a_a a_n a_c) a) (p0 : a.length ≤ 1048576) :
    Calls Tryz.prog 18 #[.slice a_a a_n a_c] w fun e w' => ∃ (r0_a : Option Addr), ∃ (r0_n : Nat), ∃ (r0_c : Nat), e = .returned (.slice r0_a r0_n r0_c) ∧ Mv [] w [ow 91 2 encC okC (.slice r0_a r0_n r0_c) a] w' := by
  refine (toCellS_s _ w a v_a.1 p0).mono ?_
  rintro e w' ⟨x, n, c, rfl, h1, h2, h3⟩
  exact ⟨x, n, c, rfl, mv_of_fresh h1 h2 h3⟩
theorem laws_eqCellS_c {w : World} {H : Nat → Prop} {a : List CellD} {a_a : Option Addr} {a_n a_c : Nat} {b : List CellD} {b_a : Option Addr} {b_n b_c : Nat} (v_a : Rd 2 encC okC H w (.slice a_a a_n a_c) a) (v_b : Rd 2 encC okC H w (.slice b_a b_n b_c) b) (p0 : a = b) :
    Calls Tryz.prog 10 #[.slice a_a a_n a_c, .slice b_a b_n b_c] w fun e w' => e = .returned (.bool true) ∧ Mv [] w [] w' := by
  subst p0
  refine (eqCellS_c _ _ w a v_a.1 v_b.1).mono ?_
  rintro e w' ⟨rfl, hb⟩
  exact ⟨rfl, Mv.of_bl hb⟩
theorem laws_markCellS_c {w : World} {H : Nat → Prop} {a : List CellD} {a_a : Option Addr} {a_n a_c : Nat} {k : Nat} (h_k : i64ok (k : Int)) (p0 : k + 2 * a.length ≤ 4611686018427387904) (hA : At w [ow 91 2 encC okC (.slice a_a a_n a_c) a]) :
    Calls Tryz.prog 13 #[.slice a_a a_n a_c, .int .i64 ((k : Nat) : Int)] w fun e w' => e = .returned (.int .i64 ((k + 2 * a.length : Nat) : Int)) ∧ Mv [ow 91 2 encC okC (.slice a_a a_n a_c) a] w [ow 91 2 encC okC (.slice a_a a_n a_c) (marksC k a.length)] w' := by
  have uU : True := (fun _ _ => trivial) H h_k
  clear uU
  have hO := hA.ok _ (List.mem_singleton.2 rfl)
  refine (markCellS_c _ k _ rfl w a hO p0).mono ?_
  rintro e w' ⟨rfl, h1, h2⟩
  exact ⟨rfl, mv_of_own h1 h2 (Moved.refl _ _)⟩
theorem laws_heldCellS_c {w : World} {H : Nat → Prop} {a : List CellD} {a_a : Option Addr} {a_n a_c : Nat} {k : Nat} {n : Nat} (v_a : Rd 2 encC okC H w (.slice a_a a_n a_c) a) (h_k : i64ok (k : Int)) (p0 : a = marksC k n) (p1 : k + 2 * n ≤ 4611686018427387904) :
    Calls Tryz.prog 14 #[.slice a_a a_n a_c, .int .i64 ((k : Nat) : Int)] w fun e w' => e = .returned (.int .i64 ((k + 2 * n : Nat) : Int)) ∧ Mv [] w [] w' := by
  have uU : True := (fun _ => trivial) h_k
  clear uU
  subst p0
  refine (heldCellS_c _ k n _ rfl w v_a.1 p1).mono ?_
  rintro e w' ⟨rfl, hb⟩
  exact ⟨rfl, Mv.of_bl hb⟩
end Go.Proofs.YtipdbeklopjbmaaGreatDoor
/-
  Walks: numbers in a range, beginnings of texts, reading a store.
-/

namespace Go.Proofs.YtipdbeklopjbmaaGreatDoor
open Go.ChangeShapes Go.WideShapes Go.ChangeAt Go.RowKit
set_option maxRecDepth 100000
set_option maxHeartbeats 1000000
theorem spec_l01In_c {w : World} {H : Nat → Prop} {x : Int} {least : Int} {most : Int} (h_x : i64ok x) (Q0 : i64ok least) (Q1 : i64ok most) :
    Calls Tryz.prog 87 #[.int .i64 x, .int .i64 least, .int .i64 most] w fun e w' => e = .returned (.bool (inB x least most)) ∧ Mv [] w [] w' := by
 have uU : True := (fun _ _ _ _ => trivial) H h_x Q0 Q1
 clear uU
 refine calls_enter 15 Tryz.func87 rfl Tryz.ntmps87 (Nat.le_of_ble_eq_true rfl) (fun _ F0i => ?_)
 have F0 : Fr 15 [(0, .int .i64 x), (1, .int .i64 least), (2, .int .i64 most)] _ := F0i
 clear F0i
 refine wp_seq (wp_region_lit (l_op (f_val F0 rfl rfl (r_assign rfl rfl) rfl fun _ F1 => ?_)))
 refine s_end (x_normal (wp_seq (wp_region_lit (l_op (f_mv F1 rfl rfl rfl rfl rfl fun _ F2 => ?_)))))
 refine l_op (f_mv F2 rfl rfl rfl rfl rfl fun _ F3 => ?_)
 refine l_op (f_val F3 rfl rfl (r_cmp (b := decide (x ≥ least)) (.inr (.inr (.inr (.inr (.inr rfl))))) rfl (F3.ev 7 rfl) (F3.ev 8 rfl) (dec_of (by omega))) rfl fun _ F4 => ?_)
 refine l_op (f_mv F4 rfl rfl rfl rfl rfl fun _ F5 => ?_)
 rcases Decidable.em (x ≥ least) with h6 | h6
 · rw [decide_eq_true h6] at F5
   refine l_op (f_mv F5 (wanted_g F5 rfl rfl rfl rfl) rfl rfl rfl rfl fun _ F7 => ?_)
   refine l_op (f_mv F7 (wanted_g F7 rfl rfl rfl rfl) rfl rfl rfl rfl fun _ F8 => ?_)
   refine l_op (f_val F8 (wanted_g F8 rfl rfl rfl rfl) rfl (r_cmp (b := decide (x ≤ most)) (.inr (.inr (.inr (.inl rfl)))) rfl (F8.ev 11 rfl) (F8.ev 12 rfl) (dec_of (by omega))) rfl fun _ F9 => ?_)
   refine l_op (f_val F9 rfl rfl (r_pick (b := true) rfl (F9.ev 10 rfl) (F9.ev 13 rfl)) rfl fun _ F10 => ?_)
   refine l_op (f_as F10 rfl rfl rfl rfl rfl fun _ F11 => ?_)
   refine s_end (x_normal (wp_ret ?_))
   refine x_done (v := .bool (decide (x ≤ most))) F11 (results_1 Tryz.results87 (.tmp (F11.ev 6 rfl))) ?_
   exact ⟨(by rw [(show (decide (x ≤ most)) = (inB x least most) from by unfold inB; first | rfl | exact dec_of (by omega) | exact (decide_eq_false (by omega)).symm | exact (decide_eq_true (by omega)).symm)]), (Mv.pick (Mv.refl (At.nil w)) [] rfl)⟩
 · rw [decide_eq_false h6] at F5
   refine l_op (f_skip F5 (wanted_g F5 rfl rfl rfl rfl) rfl rfl fun _ F12 => ?_)
   refine l_op (f_skip F12 (wanted_g F12 rfl rfl rfl rfl) rfl rfl fun _ F13 => ?_)
   refine l_op (f_skip F13 (wanted_g F13 rfl rfl rfl rfl) rfl rfl fun _ F14 => ?_)
   refine l_op (f_val F14 rfl rfl (r_pick (b := false) rfl (F14.ev 10 rfl) rfl) rfl fun _ F15 => ?_)
   refine l_op (f_as F15 rfl rfl rfl rfl rfl fun _ F16 => ?_)
   refine s_end (x_normal (wp_ret ?_))
   refine x_done (v := .bool false) F16 (results_1 Tryz.results87 (.tmp (F16.ev 6 rfl))) ?_
   exact ⟨(by rw [(show false = (inB x least most) from by unfold inB; first | rfl | exact dec_of (by omega) | exact (decide_eq_false (by omega)).symm | exact (decide_eq_true (by omega)).symm)]), (Mv.pick (Mv.refl (At.nil w)) [] rfl)⟩
theorem impl_within_c {w : World} {H : Nat → Prop} {n : Int} {low : Int} {high : Int} (h_n : i64ok n) (Q1 : i64ok low) (Q0 : i64ok high) :
    Calls Tryz.prog 93 #[.int .i64 n, .int .i64 low, .int .i64 high] w fun e w' => e = .returned (.bool (inB n low high)) ∧ Mv [] w [] w' := by
 have uU : True := (fun _ _ _ _ => trivial) H h_n Q1 Q0
 clear uU
 refine calls_enter 15 Tryz.func93 rfl Tryz.ntmps93 (Nat.le_of_ble_eq_true rfl) (fun _ F0i => ?_)
 have F0 : Fr 15 [(0, .int .i64 n), (1, .int .i64 low), (2, .int .i64 high)] _ := F0i
 clear F0i
 refine wp_seq (wp_region_lit (l_op (f_val F0 rfl rfl (r_assign rfl rfl) rfl fun _ F1 => ?_)))
 refine s_end (x_normal (wp_seq (wp_region_lit (l_op (f_mv F1 rfl rfl rfl rfl rfl fun _ F2 => ?_)))))
 refine l_op (f_mv F2 rfl rfl rfl rfl rfl fun _ F3 => ?_)
 refine l_op (f_val F3 rfl rfl (r_cmp (b := decide (n ≥ low)) (.inr (.inr (.inr (.inr (.inr rfl))))) rfl (F3.ev 7 rfl) (F3.ev 8 rfl) (dec_of (by omega))) rfl fun _ F4 => ?_)
 refine l_op (f_mv F4 rfl rfl rfl rfl rfl fun _ F5 => ?_)
 rcases Decidable.em (n ≥ low) with h6 | h6
 · rw [decide_eq_true h6] at F5
   refine l_op (f_mv F5 (wanted_g F5 rfl rfl rfl rfl) rfl rfl rfl rfl fun _ F7 => ?_)
   refine l_op (f_mv F7 (wanted_g F7 rfl rfl rfl rfl) rfl rfl rfl rfl fun _ F8 => ?_)
   refine l_op (f_val F8 (wanted_g F8 rfl rfl rfl rfl) rfl (r_cmp (b := decide (n ≤ high)) (.inr (.inr (.inr (.inl rfl)))) rfl (F8.ev 11 rfl) (F8.ev 12 rfl) (dec_of (by omega))) rfl fun _ F9 => ?_)
   refine l_op (f_val F9 rfl rfl (r_pick (b := true) rfl (F9.ev 10 rfl) (F9.ev 13 rfl)) rfl fun _ F10 => ?_)
   refine l_op (f_as F10 rfl rfl rfl rfl rfl fun _ F11 => ?_)
   refine s_end (x_normal (wp_ret ?_))
   refine x_done (v := .bool (decide (n ≤ high))) F11 (results_1 Tryz.results93 (.tmp (F11.ev 6 rfl))) ?_
   exact ⟨(by rw [(show (decide (n ≤ high)) = (inB n low high) from by unfold inB; first | rfl | exact dec_of (by omega) | exact (decide_eq_false (by omega)).symm | exact (decide_eq_true (by omega)).symm)]), (Mv.pick (Mv.refl (At.nil w)) [] rfl)⟩
 · rw [decide_eq_false h6] at F5
   refine l_op (f_skip F5 (wanted_g F5 rfl rfl rfl rfl) rfl rfl fun _ F12 => ?_)
   refine l_op (f_skip F12 (wanted_g F12 rfl rfl rfl rfl) rfl rfl fun _ F13 => ?_)
   refine l_op (f_skip F13 (wanted_g F13 rfl rfl rfl rfl) rfl rfl fun _ F14 => ?_)
   refine l_op (f_val F14 rfl rfl (r_pick (b := false) rfl (F14.ev 10 rfl) rfl) rfl fun _ F15 => ?_)
   refine l_op (f_as F15 rfl rfl rfl rfl rfl fun _ F16 => ?_)
   refine s_end (x_normal (wp_ret ?_))
   refine x_done (v := .bool false) F16 (results_1 Tryz.results93 (.tmp (F16.ev 6 rfl))) ?_
   exact ⟨(by rw [(show false = (inB n low high) from by unfold inB; first | rfl | exact dec_of (by omega) | exact (decide_eq_false (by omega)).symm | exact (decide_eq_true (by omega)).symm)]), (Mv.pick (Mv.refl (At.nil w)) [] rfl)⟩
end Go.Proofs.YtipdbeklopjbmaaGreatDoor
/-
  Walks: access sets.
-/

namespace Go.Proofs.YtipdbeklopjbmaaGreatDoor
open Go.ChangeShapes Go.WideShapes Go.ChangeAt Go.RowKit
set_option maxRecDepth 100000
set_option maxHeartbeats 1000000
end Go.Proofs.YtipdbeklopjbmaaGreatDoor
/-
  Walks: the laws' helpers on access sets and machines.
-/

namespace Go.Proofs.YtipdbeklopjbmaaGreatDoor
open Go.ChangeShapes Go.WideShapes Go.ChangeAt Go.RowKit
set_option maxRecDepth 100000
set_option maxHeartbeats 1000000
end Go.Proofs.YtipdbeklopjbmaaGreatDoor
/-
  Walks: machines are looked at.
-/

namespace Go.Proofs.YtipdbeklopjbmaaGreatDoor
open Go.ChangeShapes Go.WideShapes Go.ChangeAt Go.RowKit
set_option maxRecDepth 100000
set_option maxHeartbeats 1000000
end Go.Proofs.YtipdbeklopjbmaaGreatDoor
/-
  Walks: the program's machines are looked at.
-/

namespace Go.Proofs.YtipdbeklopjbmaaGreatDoor
open Go.ChangeShapes Go.WideShapes Go.ChangeAt Go.RowKit
set_option maxRecDepth 100000
set_option maxHeartbeats 1000000
end Go.Proofs.YtipdbeklopjbmaaGreatDoor
/-
  Walks: calls, answers and marks in the laws' hands.
-/

namespace Go.Proofs.YtipdbeklopjbmaaGreatDoor
open Go.ChangeShapes Go.WideShapes Go.ChangeAt Go.RowKit
set_option maxRecDepth 100000
set_option maxHeartbeats 1000000
end Go.Proofs.YtipdbeklopjbmaaGreatDoor
/-
  Walks: transactions in the laws' hands.
-/

namespace Go.Proofs.YtipdbeklopjbmaaGreatDoor
open Go.ChangeShapes Go.WideShapes Go.ChangeAt Go.RowKit
set_option maxRecDepth 100000
set_option maxHeartbeats 1000000
end Go.Proofs.YtipdbeklopjbmaaGreatDoor
