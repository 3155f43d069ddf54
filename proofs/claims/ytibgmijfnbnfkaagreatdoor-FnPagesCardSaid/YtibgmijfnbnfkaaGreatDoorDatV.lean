/-
  Counters; keys with numbers.
-/
import Derived.Lib.ItoaNum
import Derived.Lib.ItoaMem
import Derived.Lib.ItoaLen
import Derived.Lib.AtoiAll
import Derived.Lib.HexFns2
import Derived.Test.YtibgmijfnbnfkaaGreatDoorDatB
import Derived.Test.YtibgmijfnbnfkaaGreatDoorEng8
import Derived.Test.YtibgmijfnbnfkaaGreatDoorTab
namespace Go.Proofs.YtibgmijfnbnfkaaGreatDoor
open Go.ChangeShapes Go.WideShapes Go.ChangeAt Go.RowKit
set_option maxRecDepth 100000
set_option maxHeartbeats 1000000

/-- A number's decimal text. -/
def decS (n : Int) : ByteArray := ⟨(Lib.itoa n).toArray⟩
/-- The number that a text's figures spell. -/
def valL (l : List UInt8) : Nat := l.foldl (fun a c => 10 * a + (c.toNat - 48)) 0
theorem valL_snoc (l : List UInt8) (c : UInt8) : valL (l ++ [c]) = 10 * valL l + (c.toNat - 48) := by unfold valL; rw [List.foldl_append]; rfl
theorem fig_toNat {d : Nat} (h : d < 10) : (UInt8.ofNat (48 + d)).toNat = 48 + d := by rw [UInt8.toNat_ofNat']; omega
theorem valL_dec (u : Nat) : valL (Lib.decDigits u) = u := by
  induction u using Nat.strongRecOn with
  | ind u ih =>
    rw [Lib.decDigits]
    split
    · rename_i h
      show 10 * 0 + ((UInt8.ofNat (48 + u)).toNat - 48) = u
      rw [fig_toNat h]; omega
    · rename_i h
      rw [valL_snoc, ih _ (by omega), fig_toNat (by omega)]; omega
def isD (c : UInt8) : Prop := 48 ≤ c.toNat ∧ c.toNat ≤ 57
theorem dec_all (u : Nat) : ∀ c ∈ Lib.decDigits u, isD c := by
  induction u using Nat.strongRecOn with
  | ind u ih =>
    rw [Lib.decDigits]
    split
    · rename_i h
      intro c hc
      rw [List.mem_singleton.1 hc]
      unfold isD; rw [fig_toNat h]; omega
    · rename_i h
      intro c hc
      rcases List.mem_append.1 hc with hc | hc
      · exact ih _ (by omega) c hc
      · rw [List.mem_singleton.1 hc]
        unfold isD; rw [fig_toNat (by omega)]; omega
theorem dec_ne (u : Nat) : Lib.decDigits u ≠ [] := by
  rw [Lib.decDigits]; split <;> simp
theorem dec_len : ∀ (k u : Nat), u < 10 ^ (k + 1) → (Lib.decDigits u).length ≤ k + 1
  | 0, u, h => by rw [Lib.decDigits, dif_pos (by simpa using h)]; simp
  | k + 1, u, h => by
    rw [Lib.decDigits]
    split
    · simp
    · rw [List.length_append]
      have := dec_len k (u / 10) (by rw [Nat.pow_succ] at h; omega)
      ((repeat (first | rw [List.length_append] | rw [List.length_cons] | rw [List.length_nil] | rw [List.length_take] | rw [List.length_drop])) <;> omega)
theorem parse_step : ∀ (l : List UInt8) (acc : Nat), (∀ c ∈ l, isD c) → l.foldl (fun a c => 10 * a + (c.toNat - 48)) acc < 1844674407370955162 → Lib.parseUint10 acc l = .ok (l.foldl (fun a c => 10 * a + (c.toNat - 48)) acc)
  | [], acc, _, _ => rfl
  | c :: l, acc, hd, h => by
    have hc := hd c (List.mem_cons_self ..)
    have hm : ∀ (l : List UInt8) (a : Nat), a ≤ l.foldl (fun a (c : UInt8) => 10 * a + (c.toNat - 48)) a := by
      intro l
      induction l with
      | nil => intro a; exact Nat.le_refl _
      | cons d l ih => intro a; exact Nat.le_trans (by omega) (ih (10 * a + (d.toNat - 48)))
    have h1 := hm l (10 * acc + (c.toNat - 48))
    simp only [List.foldl_cons] at h
    unfold isD at hc
    simp only [Lib.parseUint10]
    rw [if_pos hc, if_neg (by omega), if_neg (by omega), show acc * 10 + (c.toNat - 48) = 10 * acc + (c.toNat - 48) by omega, parse_step l _ (fun d hd' => hd d (List.mem_cons_of_mem _ hd')) h]
    rfl
theorem atoi_dec {u : Nat} (h : u ≤ 1000000000) : Lib.atoiAll (Lib.decDigits u) = .ok (u : Int) := by
  have ha := dec_all u
  have hv := valL_dec u
  cases e : Lib.decDigits u with
  | nil => exact absurd e (dec_ne u)
  | cons c r =>
    rw [e] at ha hv
    have hc := ha c (List.mem_cons_self ..)
    unfold isD at hc
    have hp : Lib.parseMag (c :: r) = .ok u := by
      unfold Lib.parseMag
      rw [if_neg (by simp), parse_step _ 0 ha (by show valL (c :: r) < _; omega)]
      exact congrArg _ hv
    unfold Lib.atoiAll
    simp only
    rw [if_neg (by omega), hp]
    simp only
    rw [if_neg (by omega), if_neg (by omega), if_neg (by omega)]
/-- The number that a text is the decimal text of. -/
def readD (s : ByteArray) : Option Nat := if valL s.data.toList ≤ 1000000000 ∧ s = decS (valL s.data.toList) then some (valL s.data.toList) else none
theorem decS_toList (u : Nat) : (decS (u : Int)).data.toList = Lib.decDigits u := by
  unfold decS; rw [Lib.itoa_nonneg]
theorem readD_some {s : ByteArray} {n : Nat} : readD s = some n ↔ n ≤ 1000000000 ∧ s = decS n := by
  unfold readD
  constructor
  · intro h
    split at h
    · rename_i h1
      rw [← Option.some.inj h]; exact h1
    · cases h
  · rintro ⟨h1, rfl⟩
    have hv : valL (decS (n : Int)).data.toList = n := by rw [decS_toList, valL_dec]
    rw [hv, if_pos ⟨h1, rfl⟩]
def readN (s : ByteArray) : Nat := (readD s).getD 0
def readB (s : ByteArray) : Bool := (readD s).isSome
theorem read_yes {s : ByteArray} {n : Nat} (h1 : n ≤ 1000000000) (h2 : decS n = s) : readN s = n ∧ readB s = true := by
  have := readD_some.2 ⟨h1, h2.symm⟩
  unfold readN readB; rw [this]; exact ⟨rfl, rfl⟩
theorem read_no {s : ByteArray} (h : ∀ n, n ≤ 1000000000 → decS (n : Nat) ≠ s) : readN s = 0 ∧ readB s = false := by
  have : readD s = none := by
    cases e : readD s with
    | none => rfl
    | some n => exact absurd (readD_some.1 e).2.symm (h n (readD_some.1 e).1)
  unfold readN readB; rw [this]; exact ⟨rfl, rfl⟩
/-- By the program: strconv.Atoi, the range, and back again. -/
theorem read_bad {s : ByteArray} (h : ∀ v, Lib.atoiAll s.data.toList ≠ .ok v) : readN s = 0 ∧ readB s = false := read_no fun n hn e => by
  subst e
  exact h n (by rw [decS_toList]; exact atoi_dec hn)
theorem size_toList (s : ByteArray) : s.size = s.data.toList.length := by rw [Array.length_toList]; rfl
/-- The reference's decimal: figure by figure from the right, over whole numbers of either sign. -/
def digL (u : Nat) : List UInt8 := if u = 0 then [] else Lib.decDigits u
theorem digL_step (u : Nat) (h : u ≠ 0) : digL u = digL (u / 10) ++ [UInt8.ofNat (48 + u % 10)] := by
  unfold digL
  rw [if_neg h, Lib.decDigits]
  split
  · rename_i h1
    rw [if_pos (by omega), Nat.mod_eq_of_lt h1]; rfl
  · rename_i h1
    rw [if_neg (by omega)]
/-- n0: the number; m: what is left of it; s: the figures so far. -/
def decInv (n0 m : Int) (s : ByteArray) : Prop := digL n0.natAbs = digL m.natAbs ++ s.data.toList ∧ (0 ≤ n0 → 0 ≤ m) ∧ (n0 ≤ 0 → m ≤ 0) ∧ m.natAbs ≤ n0.natAbs
theorem decInv.start (n0 : Int) : decInv n0 n0 ⟨#[]⟩ := ⟨by simp, id, id, Nat.le_refl _⟩
theorem natAbs_tdiv (m : Int) : (m.tdiv 10).natAbs = m.natAbs / 10 := by rw [Int.natAbs_tdiv]; rfl
theorem decInv.step {n0 m : Int} {s x : ByteArray} {d : Nat} (h : decInv n0 m s) (hm : m ≠ 0) (hd : (d : Int) = if m.tmod 10 < 0 then - m.tmod 10 else m.tmod 10) (hx : x.data.toList = [UInt8.ofNat (48 + d)]) : decInv n0 (m.tdiv 10) (x ++ s) := by
  obtain ⟨h1, h2, h3, h4⟩ := h
  have hmod : m.natAbs % 10 = d := by
    have : (m.tmod 10).natAbs = m.natAbs % 10 := Int.natAbs_tmod ..
    split at hd <;> omega
  refine ⟨?_, fun h => Int.tdiv_nonneg (h2 h) (by decide), fun h => ?_, by rw [natAbs_tdiv]; omega⟩
  · rw [h1, natAbs_tdiv, digL_step m.natAbs (by omega), hmod, ByteArray.data_append, Array.toList_append, hx, List.append_assoc]
  · have := h3 h
    have e : m.tdiv 10 = - ((-m).tdiv 10) := by rw [Int.neg_tdiv, Int.neg_neg]
    have := Int.tdiv_nonneg (a := -m) (b := 10) (by omega) (by decide)
    omega
theorem decInv.done {n0 : Int} {s : ByteArray} (h : decInv n0 0 s) (h0 : n0 ≠ 0) (hn : ¬ n0 < 0) : s = decS n0 := by
  obtain ⟨h1, _, _, _⟩ := h
  apply ByteArray.ext
  apply Array.toList_inj.1
  have e1 : digL 0 = [] := rfl
  rw [Int.natAbs_zero, e1, List.nil_append] at h1
  rw [← h1]
  unfold digL decS Lib.itoa
  rw [if_neg (by omega), if_neg hn]
  have : n0.natAbs = n0.toNat := by omega
  rw [this]
theorem decInv.doneN {n0 : Int} {s : ByteArray} (h : decInv n0 0 s) (hn : n0 < 0) : (⟨#[45]⟩ : ByteArray) ++ s = decS n0 := by
  obtain ⟨h1, _, _, _⟩ := h
  apply ByteArray.ext
  apply Array.toList_inj.1
  have e1 : digL 0 = [] := rfl
  rw [Int.natAbs_zero, e1, List.nil_append] at h1
  rw [ByteArray.data_append, Array.toList_append, ← h1]
  unfold digL decS Lib.itoa
  rw [if_neg (by omega), if_pos hn]
  rfl
theorem decS_zero : decS 0 = ⟨#[48]⟩ := by
  unfold decS Lib.itoa
  rw [if_neg (by omega)]
  show (⟨(Lib.decDigits 0).toArray⟩ : ByteArray) = _
  rw [Lib.decDigits, dif_pos (by decide)]
  rfl
theorem decS_size (n : Int) (h : i64ok n) : (decS n).size ≤ 21 := by
  unfold i64ok at h
  have := Lib.itoa_length_le n (by omega) (by omega)
  rw [size_toList]; exact this
/-- A count that a value stands for. -/
def numOf (s : ByteArray) : Nat := if readN s ≤ 999 then readN s else 0
def fig (x : Nat) : Nat := if x < 10 then 48 + x else 87 + x
theorem fig_lt {x : Nat} (h : x < 16) : fig x < 256 := by unfold fig; split <;> omega
theorem digit_fig {x : Nat} (h : x < 16) : (Lib.Hx.digit x).toNat = fig x := by
  have : ∀ x : Fin 16, (Lib.Hx.digit x.1).toNat = fig x.1 := by decide
  exact this ⟨x, h⟩
theorem v_digit {x : Nat} (h : x < 16) : Lib.Hx.v (Lib.Hx.digit x) = x := by
  have : ∀ x : Fin 16, Lib.Hx.v (Lib.Hx.digit x.1) = x.1 := by decide +kernel
  exact this ⟨x, h⟩
theorem decode_encode (d : List UInt8) : Lib.Hx.decode (Lib.Hx.encode d) = (d, .ok) := by
  induction d with
  | nil => exact Lib.Hx.decode_nil
  | cons b d ih =>
    have hb := b.toNat_lt
    rw [Lib.Hx.encode_cons, Lib.Hx.decode_two, v_digit (by omega), v_digit (by omega), if_neg (by omega), if_neg (by omega), ih]
    have e : UInt8.ofNat (b.toNat / 16 * 16 + b.toNat % 16) = b := by
      rw [show b.toNat / 16 * 16 + b.toNat % 16 = b.toNat by omega]; exact UInt8.ofNat_toNat
    rw [e]
def hexS (s : ByteArray) : ByteArray := ⟨(Lib.Hx.encode s.data.toList).toArray⟩
theorem hexS_size (s : ByteArray) : (hexS s).size = 2 * s.size := by
  rw [size_toList, size_toList]; exact Lib.Hx.encode_length _
def unhexO (s : ByteArray) : Option ByteArray := if hexS ⟨(Lib.Hx.decode s.data.toList).1.toArray⟩ = s ∧ (Lib.Hx.decode s.data.toList).1.length ≤ 20000 then some ⟨(Lib.Hx.decode s.data.toList).1.toArray⟩ else none
theorem unhexO_some {s t : ByteArray} : unhexO s = some t ↔ hexS t = s ∧ t.size ≤ 20000 := by
  unfold unhexO
  constructor
  · intro h
    split at h
    · rename_i h1
      rw [← Option.some.inj h]
      exact ⟨h1.1, by rw [size_toList]; exact h1.2⟩
    · cases h
  · rintro ⟨rfl, h⟩
    have e : Lib.Hx.decode (hexS t).data.toList = (t.data.toList, .ok) := decode_encode _
    rw [e, if_pos ⟨rfl, by rw [← size_toList]; exact h⟩]
def unhexT (s : ByteArray) : ByteArray := (unhexO s).getD ⟨#[]⟩
def unhexB (s : ByteArray) : Bool := (unhexO s).isSome
theorem unhex_yes {s t : ByteArray} (h1 : hexS t = s) (h2 : t.size ≤ 20000) : unhexT s = t ∧ unhexB s = true := by
  unfold unhexT unhexB; rw [unhexO_some.2 ⟨h1, h2⟩]; exact ⟨rfl, rfl⟩
theorem unhex_no {s : ByteArray} (h : ∀ t, t.size ≤ 20000 → hexS t ≠ s) : unhexT s = ⟨#[]⟩ ∧ unhexB s = false := by
  have : unhexO s = none := by
    cases e : unhexO s with
    | none => rfl
    | some t => exact absurd (unhexO_some.1 e).1 (h t (unhexO_some.1 e).2)
  unfold unhexT unhexB; rw [this]; exact ⟨rfl, rfl⟩
/-- By the program. -/
theorem unhex_err {s : ByteArray} (h : (Lib.Hx.decode s.data.toList).2 ≠ .ok) : unhexT s = ⟨#[]⟩ ∧ unhexB s = false := unhex_no fun t _ e => by
  subst e
  exact h (by rw [show Lib.Hx.decode (hexS t).data.toList = (t.data.toList, .ok) from decode_encode _])
theorem unhex_long {s : ByteArray} (h : 20000 < (Lib.Hx.decode s.data.toList).1.length) : unhexT s = ⟨#[]⟩ ∧ unhexB s = false := unhex_no fun t ht e => by
  subst e
  rw [show Lib.Hx.decode (hexS t).data.toList = (t.data.toList, .ok) from decode_encode _, ← size_toList] at h
  exact absurd ht (by simpa using h)
theorem unhex_back {s : ByteArray} (h : hexS ⟨(Lib.Hx.decode s.data.toList).1.toArray⟩ ≠ s) : unhexT s = ⟨#[]⟩ ∧ unhexB s = false := unhex_no fun t ht e => by
  subst e
  rw [show Lib.Hx.decode (hexS t).data.toList = (t.data.toList, .ok) from decode_encode _] at h
  exact h rfl
theorem unhex_well {s : ByteArray} (h1 : ¬ 20000 < (Lib.Hx.decode s.data.toList).1.length) (h2 : hexS ⟨(Lib.Hx.decode s.data.toList).1.toArray⟩ = s) : unhexT s = ⟨(Lib.Hx.decode s.data.toList).1.toArray⟩ ∧ unhexB s = true := unhex_yes h2 (by rw [size_toList]; exact Nat.le_of_not_lt h1)
/-- By the reference: figure by figure. -/
def hexL (d : List Nat) : List Nat := d.flatMap fun x => [fig (x / 16), fig (x % 16)]
def hexN (s : ByteArray) : Nat → List Nat
  | 0 => []
  | k + 1 => hexN s k ++ [fig (byteAt s k / 16), fig (byteAt s k % 16)]
def bytesN (s : ByteArray) : List Nat := s.data.toList.map (·.toNat)
theorem bytesN_length (s : ByteArray) : (bytesN s).length = s.size := by rw [size_toList]; exact List.length_map ..
theorem bstr_toList (l : List Nat) : (bstr l).data.toList = l.map UInt8.ofNat := by
  have h : ∀ (l : List Int) (s : ByteArray), (l.foldl (fun r n => r.push (UInt8.ofNat n.toNat)) s).data.toList = s.data.toList ++ l.map (fun n => UInt8.ofNat n.toNat) := by
    intro l
    induction l with
    | nil => intro s; simp
    | cons x l ih => intro s; rw [List.foldl_cons, ih, ByteArray.data_push, Array.toList_push]; simp
  unfold bstr
  rw [h, List.map_map]
  rfl
theorem bytesN_bstr (d : List Nat) (h : ∀ x ∈ d, x < 256) : bytesN (bstr d) = d := by
  unfold bytesN
  rw [bstr_toList, List.map_map]
  have : ∀ l : List Nat, (∀ x ∈ l, x < 256) → l.map ((fun x : UInt8 => x.toNat) ∘ UInt8.ofNat) = l := by
    intro l
    induction l with
    | nil => intro _; rfl
    | cons x l ih =>
      intro h
      rw [List.map_cons, ih fun y hy => h y (List.mem_cons_of_mem _ hy)]
      have := h x (List.mem_cons_self ..)
      congr 1
      show (UInt8.ofNat x).toNat = x
      rw [UInt8.toNat_ofNat']; omega
  exact this d h
theorem bytesN_inj {s t : ByteArray} (h : bytesN s = bytesN t) : s = t := by
  apply ByteArray.ext
  apply Array.toList_inj.1
  exact (List.map_inj_right (fun _ _ => UInt8.toNat_inj.1)).1 h
theorem bytesN_hexS (s : ByteArray) : bytesN (hexS s) = hexL (bytesN s) := by
  unfold bytesN hexS
  simp only
  induction s.data.toList with
  | nil => rfl
  | cons b l ih =>
    have hb := b.toNat_lt
    rw [Lib.Hx.encode_cons]
    simp only [List.map_cons]
    rw [ih, digit_fig (by omega), digit_fig (by omega)]
    rfl
theorem byteAt_bytesN (s : ByteArray) (k : Nat) : byteAt s k = ((bytesN s)[k]?).getD 0 := by unfold byteAt bytesN; rw [List.getElem?_map]
theorem hexN_take (s : ByteArray) : ∀ k, k ≤ s.size → hexN s k = hexL ((bytesN s).take k)
  | 0, _ => rfl
  | k + 1, h => by
    have hk : k < (bytesN s).length := by rw [bytesN_length]; omega
    rw [hexN, hexN_take s k (by omega), List.take_succ_eq_append_getElem hk, byteAt_bytesN, List.getElem?_eq_getElem hk]
    unfold hexL
    rw [List.flatMap_append]; rfl
theorem hexN_length (s : ByteArray) : ∀ k, (hexN s k).length = 2 * k
  | 0 => rfl
  | k + 1 => by rw [hexN, List.length_append, hexN_length s k]; ((repeat (first | rw [List.length_append] | rw [List.length_cons] | rw [List.length_nil] | rw [List.length_take] | rw [List.length_drop])) <;> omega)
theorem hexL_lt (d : List Nat) (h : ∀ x ∈ d, x < 256) : ∀ y ∈ hexL d, y < 256 := by
  intro y hy
  unfold hexL at hy
  obtain ⟨x, hx, hy⟩ := List.mem_flatMap.1 hy
  have := h x hx
  rcases List.mem_cons.1 hy with rfl | hy
  · exact fig_lt (by omega)
  · rw [List.mem_singleton.1 hy]; exact fig_lt (by omega)
theorem bytesN_lt (s : ByteArray) : ∀ x ∈ bytesN s, x < 256 := by
  intro x hx
  obtain ⟨b, _, rfl⟩ := List.mem_map.1 hx
  exact b.toNat_lt
theorem hexN_all (s : ByteArray) {k : Nat} (h1 : ¬ k < s.size) (h2 : k ≤ s.size) : bstr (hexN s k) = hexS s := by
  apply bytesN_inj
  have hk : k = (bytesN s).length := by rw [bytesN_length]; omega
  rw [hexN_take s k h2, List.take_of_length_le (by omega), bytesN_bstr _ (hexL_lt _ (bytesN_lt s)), bytesN_hexS]
/-- A small figure's value, or -1. -/
def vlow (x : Nat) : Int := if 48 ≤ x ∧ x ≤ 57 then (x : Int) - 48 else if 97 ≤ x ∧ x ≤ 102 then (x : Int) - 87 else -1
theorem vlow_bd (x : Nat) : -1 ≤ vlow x ∧ vlow x ≤ 15 := by unfold vlow; split; omega; split <;> omega
theorem fig_vlow {x : Nat} (h : ¬ vlow x < 0) : fig (vlow x).toNat = x := by
  unfold vlow at *
  unfold fig
  split at h
  · rename_i h1; rw [if_pos h1]; split <;> omega
  · rename_i h1
    split at h
    · rename_i h2; rw [if_neg h1, if_pos h2]; split <;> omega
    · omega
theorem vlow_fig {x : Nat} (h : x < 16) : ¬ vlow (fig x) < 0 := by
  unfold vlow fig
  split
  · rw [if_pos (by omega)]; omega
  · rw [if_neg (by omega), if_pos (by omega)]; omega
/-- The first 2k bytes are figures, and D is what they stand for. -/
def unInv (s : ByteArray) (k : Nat) (D : List Nat) : Prop := D.length = k ∧ (∀ x ∈ D, x < 256) ∧ hexL D = (bytesN s).take (2 * k)
theorem unInv.start (s : ByteArray) : unInv s 0 [] := ⟨rfl, fun _ h => absurd h List.not_mem_nil, rfl⟩
theorem unInv.step {s : ByteArray} {k : Nat} {D : List Nat} (h : unInv s k D) (hk : 2 * k + 1 < s.size) (h1 : ¬ vlow (byteAt s (2 * k)) < 0) (h2 : ¬ vlow (byteAt s (2 * k + 1)) < 0) : unInv s (k + 1) (D ++ [16 * (vlow (byteAt s (2 * k))).toNat + (vlow (byteAt s (2 * k + 1))).toNat]) := by
  obtain ⟨g1, g2, g3⟩ := h
  have b1 := vlow_bd (byteAt s (2 * k))
  have b2 := vlow_bd (byteAt s (2 * k + 1))
  refine ⟨by simp [g1], fun x hx => ?_, ?_⟩
  · rcases List.mem_append.1 hx with hx | hx
    · exact g2 x hx
    · rw [List.mem_singleton.1 hx]; omega
  · have hl : (bytesN s).length = s.size := bytesN_length s
    have e1 := byteAt_bytesN s (2 * k)
    have e2 := byteAt_bytesN s (2 * k + 1)
    rw [List.getElem?_eq_getElem (by omega)] at e1 e2
    simp only [Option.getD_some] at e1 e2
    unfold hexL at *
    rw [List.flatMap_append, g3, show 2 * (k + 1) = 2 * k + 1 + 1 by omega, List.take_succ_eq_append_getElem (by omega), List.take_succ_eq_append_getElem (by omega), List.append_assoc]
    congr 1
    rw [← e1, ← e2]
    simp only [List.flatMap_cons, List.flatMap_nil, List.append_nil, List.cons_append, List.nil_append]
    rw [show (16 * (vlow (byteAt s (2 * k))).toNat + (vlow (byteAt s (2 * k + 1))).toNat) / 16 = (vlow (byteAt s (2 * k))).toNat by omega, show (16 * (vlow (byteAt s (2 * k))).toNat + (vlow (byteAt s (2 * k + 1))).toNat) % 16 = (vlow (byteAt s (2 * k + 1))).toNat by omega, fig_vlow h1, fig_vlow h2]
theorem unInv.done {s : ByteArray} {k : Nat} {D : List Nat} (h : unInv s k D) (hk : s.size ≤ 2 * k) (hs : s.size ≤ 40000) (he : 2 * k ≤ s.size) : unhexT s = bstr D ∧ unhexB s = true := by
  obtain ⟨g1, g2, g3⟩ := h
  refine unhex_yes ?_ ?_
  · apply bytesN_inj
    rw [bytesN_hexS, bytesN_bstr _ g2, g3, List.take_of_length_le (by rw [bytesN_length]; omega)]
  · rw [bstr_size]; omega
theorem unhex_odd {s : ByteArray} (h : s.size % 2 ≠ 0) : unhexT s = ⟨#[]⟩ ∧ unhexB s = false := unhex_no fun t _ e => by
  subst e; rw [hexS_size] at h; omega
theorem unhex_big {s : ByteArray} (h : s.size > 40000) : unhexT s = ⟨#[]⟩ ∧ unhexB s = false := unhex_no fun t _ e => by
  subst e; rw [hexS_size] at h; omega
theorem unhex_fig {s : ByteArray} {k : Nat} (hk : k < s.size) (h : vlow (byteAt s k) < 0) : unhexT s = ⟨#[]⟩ ∧ unhexB s = false := unhex_no fun t _ e => by
  subst e
  have hm : byteAt (hexS t) k ∈ hexL (bytesN t) := by
    rw [byteAt_bytesN, ← bytesN_hexS, List.getElem?_eq_getElem (by rw [bytesN_length]; exact hk)]
    exact List.getElem_mem _
  unfold hexL at hm
  obtain ⟨x, hx, hy⟩ := List.mem_flatMap.1 hm
  have := bytesN_lt t x hx
  rcases List.mem_cons.1 hy with e | hy
  · rw [e] at h; exact vlow_fig (by omega) h
  · rw [List.mem_singleton.1 hy] at h; exact vlow_fig (by omega) h
/-- The text behind a hyphen, in figures. -/
def msgOf (s : ByteArray) : ByteArray := if begins s ⟨#[45]⟩ then unhexT (s.extract 1 s.size) else ⟨#[]⟩

theorem dec0 {n : Int} (h : n = 0) : (⟨#[48]⟩ : ByteArray) = decS n := by subst h; exact decS_zero.symm
theorem fig_lo {z : Int} (h0 : 0 ≤ z) (h : z < 10) : (48 + z).toNat = fig z.toNat := by unfold fig; rw [if_pos (by omega)]; omega
theorem fig_hi {z : Int} (h : ¬ z < 10) : (87 + z).toNat = fig z.toNat := by unfold fig; rw [if_neg (by omega)]; omega
theorem bstr_one (d : Nat) : (bstr [d]).data.toList = [UInt8.ofNat d] := bstr_toList [d]
theorem decInv.stepA {n0 m : Int} {s : ByteArray} (h : decInv n0 m s) (hm : m ≠ 0) (hd : ¬ m.tmod 10 < 0) : decInv n0 (m.tdiv 10) (bstr [fig (m.tmod 10).toNat] ++ s) := by
  have hb : -10 < m.tmod 10 ∧ m.tmod 10 < 10 := tmod_bd m (c := 10) (by decide)
  refine h.step (d := (m.tmod 10).toNat) hm (by rw [if_neg hd]; omega) ?_
  rw [bstr_one]
  unfold fig
  rw [if_pos (by omega)]
theorem decInv.stepB {n0 m : Int} {s : ByteArray} (h : decInv n0 m s) (hm : m ≠ 0) (hd : m.tmod 10 < 0) : decInv n0 (m.tdiv 10) (bstr [fig (-(m.tmod 10)).toNat] ++ s) := by
  have hb : -10 < m.tmod 10 ∧ m.tmod 10 < 10 := tmod_bd m (c := 10) (by decide)
  refine h.step (d := (-(m.tmod 10)).toNat) hm (by rw [if_pos hd]; omega) ?_
  rw [bstr_one]
  unfold fig
  rw [if_pos (by omega)]
theorem digL_len {u : Nat} (h : u < 100000000000000000000) : (digL u).length ≤ 20 := by
  unfold digL
  split
  · exact Nat.zero_le _
  · exact dec_len 19 u (by have : (10 : Nat) ^ (19 + 1) = 100000000000000000000 := by decide
                           omega)
theorem decInv.size {n0 m : Int} {s : ByteArray} (h : decInv n0 m s) (h0 : i64ok n0) : s.size ≤ 20 := by
  have h1 := congrArg List.length h.1
  have h2 := digL_len (u := n0.natAbs) (by unfold i64ok at h0; omega)
  rw [List.length_append] at h1
  rw [size_toList]; omega
theorem decInv.i64 {n0 m : Int} {s : ByteArray} (h : decInv n0 m s) (h0 : i64ok n0) : i64ok m := by
  obtain ⟨_, h1, h2, h3⟩ := h
  unfold i64ok at *
  omega
theorem decInv.end1 {n0 m : Int} {s : ByteArray} (h : decInv n0 m s) (hm : ¬ m ≠ 0) (h0 : ¬ n0 = 0) (hn : ¬ n0 < 0) : s = decS n0 := by
  have : m = 0 := Classical.not_not.1 hm
  subst this
  exact h.done h0 hn
theorem decInv.end2 {n0 m : Int} {s : ByteArray} (h : decInv n0 m s) (hm : ¬ m ≠ 0) (hn : n0 < 0) : (⟨#[45]⟩ : ByteArray) ++ s = decS n0 := by
  have : m = 0 := Classical.not_not.1 hm
  subst this
  exact h.doneN hn
theorem tdiv_dec {m : Int} (h : m ≠ 0) : (m.tdiv 10).natAbs < m.natAbs := by rw [natAbs_tdiv]; omega
/-- A key: head, number, tail. -/
def keyNum (head : ByteArray) (n : Int) (tail : ByteArray) : ByteArray := head ++ decS n ++ tail
abbrev kP_ (n : Int) : ByteArray := keyNum (⟨#[109, 47]⟩ : ByteArray) n (⟨#[47]⟩ : ByteArray)
abbrev kQ_ (n k : Int) : ByteArray := keyNum (kP_ n) k (⟨#[]⟩ : ByteArray)
theorem keyNum_size (head : ByteArray) {n : Int} (tail : ByteArray) (h : i64ok n) : (keyNum head n tail).size ≤ head.size + 21 + tail.size := by
  have := decS_size n h
  unfold keyNum
  rw [ByteArray.size_append, ByteArray.size_append]; omega
/-- The value of a number in a store, or nothing. -/
def numV (n : Int) : ByteArray := if inB n 1 999 then decS n else ⟨#[]⟩
def setM (m : MachD) (key : ByteArray) (n : Int) : MachD := layM m key (numV n)
/-- A machine's texts are short, its lists at most b long. -/
def bdC (b : Nat) (m : MachD) : Prop := (m.store.length ≤ b ∧ m.touch.reads.length ≤ b ∧ m.touch.writes.length ≤ b) ∧ ∀ c ∈ m.store, c.key.size ≤ 1048576 ∧ c.val.size ≤ 1048576
theorem bdC.le {b c : Nat} {m : MachD} (h : bdC b m) (hb : b ≤ c) : bdC c m := ⟨⟨Nat.le_trans h.1.1 hb, Nat.le_trans h.1.2.1 hb, Nat.le_trans h.1.2.2 hb⟩, h.2⟩
theorem bdC.look {b : Nat} {m : MachD} {key : ByteArray} (h : bdC b m) : bdC (b + 1) (lookM m key) := ⟨⟨Nat.le_succ_of_le h.1.1, Nat.le_trans (putL_length ..) (Nat.succ_le_succ h.1.2.1), Nat.le_succ_of_le h.1.2.2⟩, h.2⟩
theorem keyOk_size {key : ByteArray} (h : keyOk key = true) : key.size ≤ 40 := by
  unfold keyOk at h
  rw [Bool.and_eq_true] at h
  have := h.2
  unfold inB at this
  have := of_decide_eq_true this
  omega
theorem putKey_sizes {s : List CellD} {key val : ByteArray} (h : ∀ c ∈ s, c.key.size ≤ 1048576 ∧ c.val.size ≤ 1048576) : ∀ c ∈ putKey s key val, c.key.size ≤ 1048576 ∧ c.val.size ≤ 1048576 := by
  intro c hc
  unfold putKey at hc
  split at hc
  · rename_i hk
    split at hc
    · exact h c (delKey_mem.1 hc).1
    · unfold insK insAt at hc
      rcases List.mem_append.1 hc with hc | hc
      · exact h c (delKey_mem.1 (List.mem_of_mem_take hc)).1
      · rcases List.mem_cons.1 hc with rfl | hc
        · exact ⟨Nat.le_trans (keyOk_size hk.1) (by decide), Nat.le_trans hk.2 (by decide)⟩
        · exact h c (delKey_mem.1 (List.mem_of_mem_drop hc)).1
  · exact h c hc
theorem bdC.lay {b : Nat} {m : MachD} {key val : ByteArray} (h : bdC b m) : bdC (b + 1) (layM m key val) := ⟨⟨Nat.le_trans (putKey_length ..) (Nat.succ_le_succ h.1.1), Nat.le_succ_of_le h.1.2.1, Nat.le_trans (putL_length ..) (Nat.succ_le_succ h.1.2.2)⟩, putKey_sizes h.2⟩
theorem bdC.set {b : Nat} {m : MachD} {key : ByteArray} {n : Int} (h : bdC b m) : bdC (b + 1) (setM m key n) := h.lay
theorem bdC.s {b : Nat} {m : MachD} (h : bdC b m) : m.store.length ≤ b := h.1.1
theorem bdC.r {b : Nat} {m : MachD} (h : bdC b m) : m.touch.reads.length ≤ b := h.1.2.1
theorem bdC.w {b : Nat} {m : MachD} (h : bdC b m) : m.touch.writes.length ≤ b := h.1.2.2
theorem b1_ {b : Nat} {m : MachD} (h : bdC b m) : m.store.length ≤ b := h.s
theorem b2_ {b : Nat} {m : MachD} (h : bdC b m) : m.touch.reads.length ≤ b := h.r
theorem b3_ {b : Nat} {m : MachD} (h : bdC b m) : m.touch.writes.length ≤ b := h.w
theorem b4_ {b : Nat} {m : MachD} {key : ByteArray} (h : bdC b m) : bdC (b + 1) (lookM m key) := h.look
theorem b5_ {b : Nat} {m : MachD} {key val : ByteArray} (h : bdC b m) : bdC (b + 1) (layM m key val) := h.lay
theorem b6_ {b : Nat} {m : MachD} {key : ByteArray} {n : Int} (h : bdC b m) : bdC (b + 1) (setM m key n) := h.set
theorem getKey_mem {l : List CellD} {key : ByteArray} : getKey l key = ⟨#[]⟩ ∨ ∃ c ∈ l, c.val = getKey l key := by
  unfold getKey
  cases h : l.find? (fun c : CellD => decide (c.key = key)) with
  | none => exact .inl rfl
  | some c => exact .inr ⟨c, List.mem_of_find?_eq_some h, rfl⟩
theorem bdC.val {b : Nat} {m : MachD} {key : ByteArray} (h : bdC b m) : (getKey m.store key).size ≤ 1048576 := by
  rcases getKey_mem (l := m.store) (key := key) with e | ⟨c, hc, e⟩
  · rw [e]; exact Nat.zero_le _
  · rw [← e]; exact (h.2 c hc).2
theorem keysUnder_pre {l : List CellD} {p : ByteArray} {k : Nat} {x : ByteArray} (hx : nth (keysUnder l p) k = some x) : p.size ≤ x.size := by
  have h := (keysUnder_mem.1 (nth_in hx)).2
  unfold begins at h
  exact (of_decide_eq_true h).1
def cutL (n : Nat) (ks : List ByteArray) : List ByteArray := ks.map fun k => k.extract n k.size
theorem cutL_length (n : Nat) (ks : List ByteArray) : (cutL n ks).length = ks.length := List.length_map ..
theorem cutL_step {n : Nat} {ks : List ByteArray} {k : Nat} {x : ByteArray} (hx : nth ks k = some x) : cutL n (ks.take (k + 1)) = cutL n (ks.take k) ++ [x.extract n x.size] := by
  rw [nth_take_snoc hx]; simp [cutL]
theorem cutL_take (n : Nat) (l : List CellD) (p : ByteArray) (k : Nat) : (cutL n ((keysUnder l p).take k)).length ≤ l.length := by
  have := keysUnder_length l p
  rw [cutL_length, List.length_take]; omega
/-- One page's copy: the key is read, and laid under another head. -/
def forkStep (f t : ByteArray) (m : MachD) (key : ByteArray) : MachD := layM (lookM m key) (t ++ key.extract f.size key.size) (getKey m.store key)
def forkL (f t : ByteArray) (m : MachD) (ks : List ByteArray) : MachD := ks.foldl (forkStep f t) m
theorem forkL_step {f t : ByteArray} {m : MachD} {ks : List ByteArray} {k : Nat} {x : ByteArray} (hx : nth ks k = some x) : forkL f t m (ks.take (k + 1)) = forkStep f t (forkL f t m (ks.take k)) x := by
  rw [nth_take_snoc hx]; unfold forkL; rw [List.foldl_append]; rfl
def forkM (f t : ByteArray) (m : MachD) : MachD := forkL f t (lookM m (f ++ (⟨#[42]⟩ : ByteArray))) (keysUnder m.store f)
theorem forkL_bdC {f t : ByteArray} {b k : Nat} {ks : List ByteArray} {m : MachD} (h : bdC b m) (hk : ks.length ≤ k) : bdC (b + 2 * k) (forkL f t m ks) := by
  induction ks generalizing b k m with
  | nil => exact h.le (Nat.le_add_right _ _)
  | cons x ks ih =>
    simp only [List.length_cons] at hk
    have := ih (b := b + 1 + 1) (k := k - 1) ((h.look (key := x)).lay (key := t ++ x.extract f.size x.size) (val := getKey m.store x)) (by omega)
    exact this.le (by omega)
theorem forkT_bdC {f t : ByteArray} {b : Nat} {m : MachD} (h : bdC b m) (k : Nat) : bdC (3 * b + 1) (forkL f t (lookM m (f ++ (⟨#[42]⟩ : ByteArray))) ((keysUnder m.store f).take k)) := by
  have h1 := forkL_bdC (f := f) (t := t) (k := b) (ks := (keysUnder m.store f).take k) (h.look (key := f ++ (⟨#[42]⟩ : ByteArray))) (by have h1 := keysUnder_length m.store f; have h2 := h.s; rw [List.length_take]; omega)
  exact h1.le (by omega)
theorem bdC.fork {f t : ByteArray} {b : Nat} {m : MachD} (h : bdC b m) : bdC (3 * b + 1) (forkM f t m) := by
  have := forkT_bdC (f := f) (t := t) h (keysUnder m.store f).length
  rw [List.take_length] at this; exact this
theorem bdC.key {b : Nat} {m : MachD} {p : ByteArray} {k : Nat} {x : ByteArray} (h : bdC b m) (hx : nth (keysUnder m.store p) k = some x) : x.size ≤ 1048576 := by
  obtain ⟨⟨c, hc, rfl⟩, _⟩ := keysUnder_mem.1 (nth_in hx)
  exact (h.2 c hc).1
/-! ### What a store holds after a key is laid -/
theorem delKey_no {l : List CellD} {key : ByteArray} : ∀ c ∈ delKey l key, c.key ≠ key := fun _ hc => (delKey_mem.1 hc).2
theorem getKey_no {l : List CellD} {key : ByteArray} (h : ∀ c ∈ l, c.key ≠ key) : getKey l key = ⟨#[]⟩ := by
  rw [getKey_eq]
  have : l.find? (fun c : CellD => decide (c.key = key)) = none := by
    rw [List.find?_eq_none]
    intro c hc
    simpa using h c hc
  rw [this]; rfl
theorem getKey_insSame {l : List CellD} {key val : ByteArray} (h : ∀ c ∈ l, c.key ≠ key) : getKey (insK l key val) key = val := by
  rw [getKey_eq]
  unfold insK insAt
  have : ∀ i, (l.take i ++ ⟨key, val⟩ :: l.drop i).find? (fun c : CellD => decide (c.key = key)) = some ⟨key, val⟩ := fun i => by
    rw [List.find?_append]
    have h1 : (l.take i).find? (fun c : CellD => decide (c.key = key)) = none := by
      rw [List.find?_eq_none]
      intro c hc
      simpa using h c (List.mem_of_mem_take hc)
    rw [h1, List.find?_cons_of_pos (by simp)]
    rfl
  rw [this]; rfl
theorem getKey_putSame {l : List CellD} {key val : ByteArray} (hk : keyOk key = true) (hv : val.size ≤ 60) : getKey (putKey l key val) key = val := by
  unfold putKey
  rw [if_pos ⟨hk, hv⟩]
  split
  · rename_i e
    rw [e]; exact getKey_no delKey_no
  · exact getKey_insSame delKey_no
/-- The number at a key. -/
def numK (m : MachD) (key : ByteArray) : Nat := numOf (getKey m.store key)
theorem numOf_dec {n : Nat} (h : n ≤ 999) : numOf (decS n) = n := by
  have := (read_yes (s := decS n) (n := n) (by omega) rfl).1
  unfold numOf
  rw [this, if_pos h]
theorem numOf_nil : numOf (⟨#[]⟩ : ByteArray) = 0 := by
  have := (read_bad (s := (⟨#[]⟩ : ByteArray)) (fun v e => by cases e)).1
  unfold numOf
  rw [this]; rfl
theorem numOf_numV {n : Nat} (h : n ≤ 999) : numOf (numV n) = n := by
  unfold numV
  split
  · exact numOf_dec h
  · rename_i h1
    have : n = 0 := by
      unfold inB at h1
      have := of_decide_eq_false (Bool.eq_false_iff.2 h1)
      omega
    subst this
    exact numOf_nil
theorem numV_size (n : Int) : (numV n).size ≤ 60 := by
  unfold numV
  split
  · rename_i h
    unfold inB at h
    have := of_decide_eq_true h
    exact Nat.le_trans (decS_size n ⟨by omega, by omega⟩) (by decide)
  · exact Nat.zero_le _
theorem numK_set {m : MachD} {key : ByteArray} {n : Nat} (hk : keyOk key = true) (h : n ≤ 999) : numK (setM m key n) key = n := by
  unfold numK setM layM
  rw [getKey_putSame hk (numV_size _)]
  exact numOf_numV h
theorem getKey_laySame {m : MachD} {key val : ByteArray} (hk : keyOk key = true) (hv : val.size ≤ 60) : getKey (layM m key val).store key = val := getKey_putSame hk hv
theorem bdC_base : bdC 0 (⟨[], (⟨[], []⟩ : TouchD)⟩ : MachD) := ⟨⟨Nat.le_refl _, Nat.le_refl _, Nat.le_refl _⟩, fun _ h => absurd h List.not_mem_nil⟩
/-! ### Keys with numbers -/
theorem toList_append (a b : ByteArray) : (a ++ b).data.toList = a.data.toList ++ b.data.toList := by
  rw [ByteArray.data_append, Array.toList_append]
def kbs (s : ByteArray) : Bool := s.data.toList.all fun c => kb c.toNat
theorem keyOk_kbs (key : ByteArray) : keyOk key = (kbs key && inB key.size 1 40) := by
  unfold keyOk kbs
  congr 1
  rw [Bool.eq_iff_iff, List.all_eq_true, List.all_eq_true]
  constructor
  · intro h c hc
    obtain ⟨j, hj, rfl⟩ := List.mem_iff_getElem.1 hc
    have := h j (List.mem_range.2 (by rw [size_toList]; exact hj))
    unfold byteAt at this
    rw [List.getElem?_eq_getElem hj] at this
    exact this
  · intro h j hj
    have hj := List.mem_range.1 hj
    rw [size_toList] at hj
    unfold byteAt
    rw [List.getElem?_eq_getElem hj]
    exact h _ (List.getElem_mem hj)
theorem kbs_append (a b : ByteArray) : kbs (a ++ b) = (kbs a && kbs b) := by
  unfold kbs
  rw [toList_append, List.all_append]
theorem kbs_dec (n : Nat) : kbs (decS n) = true := by
  unfold kbs
  rw [List.all_eq_true]
  intro c hc
  rw [decS_toList] at hc
  have := dec_all n c hc
  unfold isD at this
  unfold kb
  exact decide_eq_true (by omega)
/-! ### Counters -/
def bumpM (m : MachD) (key : ByteArray) : MachD := if numK m key + 1 > 999 then lookM m key else setM (lookM m key) key ((numK m key + 1 : Nat) : Int)
def bumpN (m : MachD) (key : ByteArray) : Nat := if numK m key + 1 > 999 then 0 else numK m key + 1
theorem bdC.bump {b : Nat} {m : MachD} {key : ByteArray} (h : bdC b m) : bdC (b + 2) (bumpM m key) := by
  unfold bumpM
  split
  · exact h.look.le (by omega)
  · exact h.look.set
theorem bumpN_lt {m : MachD} {key : ByteArray} (h : numK m key < 999) : bumpN m key = numK m key + 1 := if_neg (by omega)
theorem bumpM_lt {m : MachD} {key : ByteArray} (h : numK m key < 999) : bumpM m key = setM (lookM m key) key ((numK m key + 1 : Nat) : Int) := if_neg (by omega)
theorem numK_bump {m : MachD} {key : ByteArray} (hk : keyOk key = true) (h : numK m key < 999) : numK (bumpM m key) key = numK m key + 1 := by
  rw [bumpM_lt h, numK_set hk (by omega)]
def counts (k : Nat) (m : MachD) : Prop := numK m (⟨#[99, 47, 120]⟩ : ByteArray) = k ∧ bdC (10 * k) m
theorem counts.step {k : Nat} {m : MachD} (h : counts k m) (hk : k < 999) : bumpN m (⟨#[99, 47, 120]⟩ : ByteArray) = k + 1 ∧ counts (k + 1) (bumpM m (⟨#[99, 47, 120]⟩ : ByteArray)) := by
  obtain ⟨h1, h2⟩ := h
  exact ⟨by rw [bumpN_lt (by omega), h1], by rw [numK_bump (by decide) (by omega), h1], h2.bump.le (by omega)⟩

theorem decS_small {n : Nat} (h : n ≤ 999) : (decS n).size ≤ 3 := by
  rw [size_toList, decS_toList]
  exact dec_len 2 n (by have : (10 : Nat) ^ (2 + 1) = 1000 := by decide
                        omega)
theorem key_ok {h t : ByteArray} {n : Nat} (hn : n ≤ 999) (h1 : kbs h = true) (h2 : kbs t = true) (h3 : 1 ≤ h.size) (h4 : h.size + t.size ≤ 37) : keyOk (keyNum h n t) = true := by
  have := decS_small hn
  rw [keyOk_kbs]
  unfold keyNum inB
  rw [kbs_append, kbs_append, h1, h2, kbs_dec, Bool.true_and, Bool.true_and]
  refine decide_eq_true ?_
  rw [ByteArray.size_append, ByteArray.size_append]
  omega
theorem kbs_num {h t : ByteArray} {n : Nat} (h1 : kbs h = true) (h2 : kbs t = true) : kbs (keyNum h n t) = true := by
  unfold keyNum
  rw [kbs_append, kbs_append, h1, h2, kbs_dec]; rfl
theorem size_num {h t : ByteArray} {n : Nat} (hn : n ≤ 999) : (keyNum h n t).size ≤ h.size + 3 + t.size := by
  have := decS_small hn
  unfold keyNum
  rw [ByteArray.size_append, ByteArray.size_append]; omega
theorem begins_app (p s : ByteArray) : begins (p ++ s) p = true ∧ (p ++ s).extract p.size (p ++ s).size = s := by
  constructor
  · unfold begins
    refine decide_eq_true ⟨by rw [ByteArray.size_append]; omega, ?_⟩
    rw [ByteArray.extract_append_eq_left rfl]
  · rw [ByteArray.size_append, ByteArray.extract_append_eq_right rfl rfl]
end Go.Proofs.YtibgmijfnbnfkaaGreatDoor
