/-
  Texts in hexadecimal figures.
-/
import Derived.Lib.HexFns2
import Derived.Test.YticcmacclncgaaaDoorDatN
import Derived.Test.YticcmacclncgaaaDoorEng8
namespace Go.Proofs.YticcmacclncgaaaDoor
open Go.ChangeShapes Go.WideShapes Go.ChangeAt Go.RowKit
set_option maxRecDepth 100000
set_option maxHeartbeats 1000000

def fig (x : Nat) : Nat := if x < 10 then 48 + x else 87 + x
theorem fig_lt {x : Nat} (h : x < 16) : fig x < 256 := by unfold fig; split <;> omega
theorem digit_fig {x : Nat} (h : x < 16) : (Lib.Hx.digit x).toNat = fig x := by
  have : ∀ x : Fin 16, (Lib.Hx.digit x.1).toNat = fig x.1 := by decide
  exact this ⟨x, h⟩
theorem v_digit {x : Nat} (h : x < 16) : Lib.Hx.v (Lib.Hx.digit x) = x := by
  have : ∀ x : Fin 16, Lib.Hx.v (Lib.Hx.digit x.1) = x.1 := by decide +kernel
  exact this ⟨x, h⟩
theorem decode_encode (d : List UInt8) : Lib.Hx.decode (Lib.Hx.encode d) = (d, .ok) := by
  induction d with
  | nil => exact Lib.Hx.decode_nil
  | cons b d ih =>
    have hb := b.toNat_lt
    rw [Lib.Hx.encode_cons, Lib.Hx.decode_two, v_digit (by omega), v_digit (by omega), if_neg (by omega), if_neg (by omega), ih]
    have e : UInt8.ofNat (b.toNat / 16 * 16 + b.toNat % 16) = b := by
      rw [show b.toNat / 16 * 16 + b.toNat % 16 = b.toNat by omega]; exact UInt8.ofNat_toNat
    rw [e]
def hexS (s : ByteArray) : ByteArray := ⟨(Lib.Hx.encode s.data.toList).toArray⟩
theorem hexS_size (s : ByteArray) : (hexS s).size = 2 * s.size := by
  rw [size_toList, size_toList]; exact Lib.Hx.encode_length _
def unhexO (s : ByteArray) : Option ByteArray := if hexS ⟨(Lib.Hx.decode s.data.toList).1.toArray⟩ = s ∧ (Lib.Hx.decode s.data.toList).1.length ≤ 20000 then some ⟨(Lib.Hx.decode s.data.toList).1.toArray⟩ else none
theorem unhexO_some {s t : ByteArray} : unhexO s = some t ↔ hexS t = s ∧ t.size ≤ 20000 := by
  unfold unhexO
  constructor
  · intro h
    split at h
    · rename_i h1
      rw [← Option.some.inj h]
      exact ⟨h1.1, by rw [size_toList]; exact h1.2⟩
    · cases h
  · rintro ⟨rfl, h⟩
    have e : Lib.Hx.decode (hexS t).data.toList = (t.data.toList, .ok) := decode_encode _
    rw [e, if_pos ⟨rfl, by rw [← size_toList]; exact h⟩]
def unhexT (s : ByteArray) : ByteArray := (unhexO s).getD ⟨#[]⟩
def unhexB (s : ByteArray) : Bool := (unhexO s).isSome
theorem unhex_yes {s t : ByteArray} (h1 : hexS t = s) (h2 : t.size ≤ 20000) : unhexT s = t ∧ unhexB s = true := by
  unfold unhexT unhexB; rw [unhexO_some.2 ⟨h1, h2⟩]; exact ⟨rfl, rfl⟩
theorem unhex_no {s : ByteArray} (h : ∀ t, t.size ≤ 20000 → hexS t ≠ s) : unhexT s = ⟨#[]⟩ ∧ unhexB s = false := by
  have : unhexO s = none := by
    cases e : unhexO s with
    | none => rfl
    | some t => exact absurd (unhexO_some.1 e).1 (h t (unhexO_some.1 e).2)
  unfold unhexT unhexB; rw [this]; exact ⟨rfl, rfl⟩
theorem unhexT_size (s : ByteArray) : (unhexT s).size ≤ 20000 := by
  unfold unhexT
  cases e : unhexO s with
  | none => exact Nat.zero_le _
  | some t => exact (unhexO_some.1 e).2
/-- By the program. -/
theorem unhex_err {s : ByteArray} (h : (Lib.Hx.decode s.data.toList).2 ≠ .ok) : unhexT s = ⟨#[]⟩ ∧ unhexB s = false := unhex_no fun t _ e => by
  subst e
  exact h (by rw [show Lib.Hx.decode (hexS t).data.toList = (t.data.toList, .ok) from decode_encode _])
theorem unhex_long {s : ByteArray} (h : 20000 < (Lib.Hx.decode s.data.toList).1.length) : unhexT s = ⟨#[]⟩ ∧ unhexB s = false := unhex_no fun t ht e => by
  subst e
  rw [show Lib.Hx.decode (hexS t).data.toList = (t.data.toList, .ok) from decode_encode _, ← size_toList] at h
  exact absurd ht (by simpa using h)
theorem unhex_back {s : ByteArray} (h : hexS ⟨(Lib.Hx.decode s.data.toList).1.toArray⟩ ≠ s) : unhexT s = ⟨#[]⟩ ∧ unhexB s = false := unhex_no fun t ht e => by
  subst e
  rw [show Lib.Hx.decode (hexS t).data.toList = (t.data.toList, .ok) from decode_encode _] at h
  exact h rfl
theorem unhex_well {s : ByteArray} (h1 : ¬ 20000 < (Lib.Hx.decode s.data.toList).1.length) (h2 : hexS ⟨(Lib.Hx.decode s.data.toList).1.toArray⟩ = s) : unhexT s = ⟨(Lib.Hx.decode s.data.toList).1.toArray⟩ ∧ unhexB s = true := unhex_yes h2 (by rw [size_toList]; exact Nat.le_of_not_lt h1)
/-- By the reference: figure by figure. -/
def hexL (d : List Nat) : List Nat := d.flatMap fun x => [fig (x / 16), fig (x % 16)]
def hexN (s : ByteArray) : Nat → List Nat
  | 0 => []
  | k + 1 => hexN s k ++ [fig (byteAt s k / 16), fig (byteAt s k % 16)]
def bytesN (s : ByteArray) : List Nat := s.data.toList.map (·.toNat)
theorem bytesN_length (s : ByteArray) : (bytesN s).length = s.size := by rw [size_toList]; exact List.length_map ..
theorem bstr_toList (l : List Nat) : (bstr l).data.toList = l.map UInt8.ofNat := by
  have h : ∀ (l : List Int) (s : ByteArray), (l.foldl (fun r n => r.push (UInt8.ofNat n.toNat)) s).data.toList = s.data.toList ++ l.map (fun n => UInt8.ofNat n.toNat) := by
    intro l
    induction l with
    | nil => intro s; simp
    | cons x l ih => intro s; rw [List.foldl_cons, ih, ByteArray.data_push, Array.toList_push]; simp
  unfold bstr
  rw [h, List.map_map]
  rfl
theorem bytesN_bstr (d : List Nat) (h : ∀ x ∈ d, x < 256) : bytesN (bstr d) = d := by
  unfold bytesN
  rw [bstr_toList, List.map_map]
  have : ∀ l : List Nat, (∀ x ∈ l, x < 256) → l.map ((fun x : UInt8 => x.toNat) ∘ UInt8.ofNat) = l := by
    intro l
    induction l with
    | nil => intro _; rfl
    | cons x l ih =>
      intro h
      rw [List.map_cons, ih fun y hy => h y (List.mem_cons_of_mem _ hy)]
      have := h x (List.mem_cons_self ..)
      congr 1
      show (UInt8.ofNat x).toNat = x
      rw [UInt8.toNat_ofNat']; omega
  exact this d h
theorem bytesN_inj {s t : ByteArray} (h : bytesN s = bytesN t) : s = t := by
  apply ByteArray.ext
  apply Array.toList_inj.1
  exact (List.map_inj_right (fun _ _ => UInt8.toNat_inj.1)).1 h
theorem bytesN_hexS (s : ByteArray) : bytesN (hexS s) = hexL (bytesN s) := by
  unfold bytesN hexS
  simp only
  induction s.data.toList with
  | nil => rfl
  | cons b l ih =>
    have hb := b.toNat_lt
    rw [Lib.Hx.encode_cons]
    simp only [List.map_cons]
    rw [ih, digit_fig (by omega), digit_fig (by omega)]
    rfl
theorem byteAt_bytesN (s : ByteArray) (k : Nat) : byteAt s k = ((bytesN s)[k]?).getD 0 := by unfold byteAt bytesN; rw [List.getElem?_map]
theorem hexN_take (s : ByteArray) : ∀ k, k ≤ s.size → hexN s k = hexL ((bytesN s).take k)
  | 0, _ => rfl
  | k + 1, h => by
    have hk : k < (bytesN s).length := by rw [bytesN_length]; omega
    rw [hexN, hexN_take s k (by omega), List.take_succ_eq_append_getElem hk, byteAt_bytesN, List.getElem?_eq_getElem hk]
    unfold hexL
    rw [List.flatMap_append]; rfl
theorem hexN_length (s : ByteArray) : ∀ k, (hexN s k).length = 2 * k
  | 0 => rfl
  | k + 1 => by rw [hexN, List.length_append, hexN_length s k]; ((repeat (first | rw [List.length_append] | rw [List.length_cons] | rw [List.length_nil] | rw [List.length_take] | rw [List.length_drop])) <;> omega)
theorem hexL_lt (d : List Nat) (h : ∀ x ∈ d, x < 256) : ∀ y ∈ hexL d, y < 256 := by
  intro y hy
  unfold hexL at hy
  obtain ⟨x, hx, hy⟩ := List.mem_flatMap.1 hy
  have := h x hx
  rcases List.mem_cons.1 hy with rfl | hy
  · exact fig_lt (by omega)
  · rw [List.mem_singleton.1 hy]; exact fig_lt (by omega)
theorem bytesN_lt (s : ByteArray) : ∀ x ∈ bytesN s, x < 256 := by
  intro x hx
  obtain ⟨b, _, rfl⟩ := List.mem_map.1 hx
  exact b.toNat_lt
theorem hexN_all (s : ByteArray) {k : Nat} (h1 : ¬ k < s.size) (h2 : k ≤ s.size) : bstr (hexN s k) = hexS s := by
  apply bytesN_inj
  have hk : k = (bytesN s).length := by rw [bytesN_length]; omega
  rw [hexN_take s k h2, List.take_of_length_le (by omega), bytesN_bstr _ (hexL_lt _ (bytesN_lt s)), bytesN_hexS]
/-- A small figure's value, or -1. -/
def vlow (x : Nat) : Int := if 48 ≤ x ∧ x ≤ 57 then (x : Int) - 48 else if 97 ≤ x ∧ x ≤ 102 then (x : Int) - 87 else -1
theorem vlow_bd (x : Nat) : -1 ≤ vlow x ∧ vlow x ≤ 15 := by unfold vlow; split; omega; split <;> omega
theorem fig_vlow {x : Nat} (h : ¬ vlow x < 0) : fig (vlow x).toNat = x := by
  unfold vlow at *
  unfold fig
  split at h
  · rename_i h1; rw [if_pos h1]; split <;> omega
  · rename_i h1
    split at h
    · rename_i h2; rw [if_neg h1, if_pos h2]; split <;> omega
    · omega
theorem vlow_fig {x : Nat} (h : x < 16) : ¬ vlow (fig x) < 0 := by
  unfold vlow fig
  split
  · rw [if_pos (by omega)]; omega
  · rw [if_neg (by omega), if_pos (by omega)]; omega
/-- The first 2k bytes are figures, and D is what they stand for. -/
def unInv (s : ByteArray) (k : Nat) (D : List Nat) : Prop := D.length = k ∧ (∀ x ∈ D, x < 256) ∧ hexL D = (bytesN s).take (2 * k)
theorem unInv.start (s : ByteArray) : unInv s 0 [] := ⟨rfl, fun _ h => absurd h List.not_mem_nil, rfl⟩
theorem unInv.step {s : ByteArray} {k : Nat} {D : List Nat} (h : unInv s k D) (hk : 2 * k + 1 < s.size) (h1 : ¬ vlow (byteAt s (2 * k)) < 0) (h2 : ¬ vlow (byteAt s (2 * k + 1)) < 0) : unInv s (k + 1) (D ++ [16 * (vlow (byteAt s (2 * k))).toNat + (vlow (byteAt s (2 * k + 1))).toNat]) := by
  obtain ⟨g1, g2, g3⟩ := h
  have b1 := vlow_bd (byteAt s (2 * k))
  have b2 := vlow_bd (byteAt s (2 * k + 1))
  refine ⟨by simp [g1], fun x hx => ?_, ?_⟩
  · rcases List.mem_append.1 hx with hx | hx
    · exact g2 x hx
    · rw [List.mem_singleton.1 hx]; omega
  · have hl : (bytesN s).length = s.size := bytesN_length s
    have e1 := byteAt_bytesN s (2 * k)
    have e2 := byteAt_bytesN s (2 * k + 1)
    rw [List.getElem?_eq_getElem (by omega)] at e1 e2
    simp only [Option.getD_some] at e1 e2
    unfold hexL at *
    rw [List.flatMap_append, g3, show 2 * (k + 1) = 2 * k + 1 + 1 by omega, List.take_succ_eq_append_getElem (by omega), List.take_succ_eq_append_getElem (by omega), List.append_assoc]
    congr 1
    rw [← e1, ← e2]
    simp only [List.flatMap_cons, List.flatMap_nil, List.append_nil, List.cons_append, List.nil_append]
    rw [show (16 * (vlow (byteAt s (2 * k))).toNat + (vlow (byteAt s (2 * k + 1))).toNat) / 16 = (vlow (byteAt s (2 * k))).toNat by omega, show (16 * (vlow (byteAt s (2 * k))).toNat + (vlow (byteAt s (2 * k + 1))).toNat) % 16 = (vlow (byteAt s (2 * k + 1))).toNat by omega, fig_vlow h1, fig_vlow h2]
theorem unInv.done {s : ByteArray} {k : Nat} {D : List Nat} (h : unInv s k D) (hk : s.size ≤ 2 * k) (hs : s.size ≤ 40000) (he : 2 * k ≤ s.size) : unhexT s = bstr D ∧ unhexB s = true := by
  obtain ⟨g1, g2, g3⟩ := h
  refine unhex_yes ?_ ?_
  · apply bytesN_inj
    rw [bytesN_hexS, bytesN_bstr _ g2, g3, List.take_of_length_le (by rw [bytesN_length]; omega)]
  · rw [bstr_size]; omega
theorem unhex_odd {s : ByteArray} (h : s.size % 2 ≠ 0) : unhexT s = ⟨#[]⟩ ∧ unhexB s = false := unhex_no fun t _ e => by
  subst e; rw [hexS_size] at h; omega
theorem unhex_big {s : ByteArray} (h : s.size > 40000) : unhexT s = ⟨#[]⟩ ∧ unhexB s = false := unhex_no fun t _ e => by
  subst e; rw [hexS_size] at h; omega
theorem unhex_fig {s : ByteArray} {k : Nat} (hk : k < s.size) (h : vlow (byteAt s k) < 0) : unhexT s = ⟨#[]⟩ ∧ unhexB s = false := unhex_no fun t _ e => by
  subst e
  have hm : byteAt (hexS t) k ∈ hexL (bytesN t) := by
    rw [byteAt_bytesN, ← bytesN_hexS, List.getElem?_eq_getElem (by rw [bytesN_length]; exact hk)]
    exact List.getElem_mem _
  unfold hexL at hm
  obtain ⟨x, hx, hy⟩ := List.mem_flatMap.1 hm
  have := bytesN_lt t x hx
  rcases List.mem_cons.1 hy with e | hy
  · rw [e] at h; exact vlow_fig (by omega) h
  · rw [List.mem_singleton.1 hy] at h; exact vlow_fig (by omega) h
/-- The text behind a hyphen, in figures. -/
def msgOf (s : ByteArray) : ByteArray := if begins s ⟨#[45]⟩ then unhexT (s.extract 1 s.size) else ⟨#[]⟩
end Go.Proofs.YticcmacclncgaaaDoor
