/-
  Lists are equal; clashes; covers.
-/
import Derived.Test.YtibgmijfnbnfkaaDoorDat
import Derived.Test.YtibgmijfnbnfkaaDoorEng8
namespace Go.Proofs.YtibgmijfnbnfkaaDoor
open Go.ChangeShapes Go.WideShapes Go.ChangeAt Go.RowKit
set_option maxRecDepth 100000
set_option maxHeartbeats 1000000

theorem nth_in {α : Type} {l : List α} {k : Nat} {x : α} (h : nth l k = some x) : x ∈ l := List.mem_of_getElem? (by rw [← nth_eq]; exact h)
structure CurD where
  code : List Nat
  pos : Nat
  h : Int

def hasSuf (s p : ByteArray) : Bool := decide (p.size ≤ s.size ∧ s.extract (s.size - p.size) s.size = p)
def cutSuf (s p : ByteArray) : ByteArray := if hasSuf s p then s.extract 0 (s.size - p.size) else s
theorem hasSuf_le {s p : ByteArray} (h : hasSuf s p = true) : p.size ≤ s.size := (of_decide_eq_true h).1
theorem cutSuf_yes {s p : ByteArray} (h : hasSuf s p = true) : cutSuf s p = s.extract 0 (s.size - p.size) := if_pos h
theorem cutSuf_no {s p : ByteArray} (h : hasSuf s p = false) : cutSuf s p = s := if_neg (by rw [h]; decide)
def openS (s : ByteArray) : Bool := hasSuf s ⟨#[42]⟩
def stemS (s : ByteArray) : ByteArray := cutSuf s ⟨#[42]⟩
theorem last_star {s : ByteArray} (h : 0 < s.size) : s.extract (s.size - 1) s.size = ⟨#[42]⟩ ↔ byteAt s (s.size - 1) = 42 := by
  have hl : s.size - 1 < s.data.size := by show s.size - 1 < s.size; omega
  have hb : byteAt s (s.size - 1) = (s.data[s.size - 1]'hl).toNat := by
    unfold byteAt
    rw [Array.getElem?_toList, Array.getElem?_eq_getElem hl]
    rfl
  have hd : (s.extract (s.size - 1) s.size).data = #[s.data[s.size - 1]'hl] := by
    rw [ByteArray.data_extract]
    apply Array.ext
    · simp only [Array.size_extract, List.size_toArray, List.length_cons, List.length_nil]; show min s.size s.size - (s.size - 1) = 0 + 1; omega
    · intro i h1 h2
      have hi : i = 0 := by simp only [List.size_toArray, List.length_cons, List.length_nil] at h2; omega
      subst hi
      simp [Array.getElem_extract]
  constructor
  · intro e
    rw [e] at hd
    have h0 : (42 : UInt8) = s.data[s.size - 1]'hl := by
      have := congrArg (fun a => a[0]?) hd
      simpa using this
    rw [hb, ← h0]; rfl
  · intro e
    have h0 : s.data[s.size - 1]'hl = 42 := by
      apply UInt8.toNat_inj.1
      rw [← hb, e]; rfl
    apply ByteArray.ext
    rw [hd, h0]
theorem openS_t {s : ByteArray} (h1 : s.size > 0) (h2 : byteAt s (s.size - 1) = 42) : openS s = true := decide_eq_true ⟨h1, (last_star h1).2 h2⟩
theorem openS_f1 {s : ByteArray} (h1 : ¬ s.size > 0) : openS s = false := decide_eq_false fun h => h1 h.1
theorem openS_f2 {s : ByteArray} (h2 : ¬ byteAt s (s.size - 1) = 42) : openS s = false := decide_eq_false fun h => h2 ((last_star h.1).1 h.2)
theorem stemS_t {s : ByteArray} (h : openS s = true) : stemS s = s.extract 0 (s.size - 1) := cutSuf_yes h
theorem stemS_f {s : ByteArray} (h : openS s = false) : stemS s = s := cutSuf_no h
def spanHas (span key : ByteArray) : Bool := if openS span then begins key (stemS span) else decide (span = key)
theorem spanHas_t {s k : ByteArray} (h : openS s = true) : spanHas s k = begins k (stemS s) := if_pos h
theorem spanHas_f {s k : ByteArray} (h : openS s = false) : spanHas s k = decide (s = k) := if_neg (by rw [h]; decide)
def spansMeet (a b : ByteArray) : Bool := if openS a && openS b then begins (stemS a) (stemS b) || begins (stemS b) (stemS a) else if openS a then begins b (stemS a) else spanHas b a
theorem sm_t1 {a b : ByteArray} (ha : openS a = true) (hb : openS b = true) (h : begins (stemS a) (stemS b) = true) : spansMeet a b = true := by simp [spansMeet, ha, hb, h]
theorem sm_t2 {a b : ByteArray} (ha : openS a = true) (hb : openS b = true) (h : begins (stemS a) (stemS b) = false) : spansMeet a b = begins (stemS b) (stemS a) := by simp [spansMeet, ha, hb, h]
theorem sm_b {a b : ByteArray} (ha : openS a = true) (hb : openS b = false) : spansMeet a b = begins b (stemS a) := by simp [spansMeet, ha, hb]
theorem sm_s {a b : ByteArray} (ha : openS a = true) (hb : openS b = false) : spansMeet a b = spanHas a b := by simp [spansMeet, spanHas, ha, hb]
theorem sm_f {a b : ByteArray} (ha : openS a = false) : spansMeet a b = spanHas b a := by simp [spansMeet, ha]
theorem spansMeet_comm (a b : ByteArray) : spansMeet a b = spansMeet b a := by
  unfold spansMeet spanHas
  cases ha : openS a <;> cases hb : openS b <;> simp [Bool.or_comm, eq_comm]
def meetAny (a b : List ByteArray) : Bool := a.any fun x => b.any fun y => spansMeet x y
theorem meetAny_comm (a b : List ByteArray) : meetAny a b = meetAny b a := by
  rw [Bool.eq_iff_iff]
  simp only [meetAny, List.any_eq_true]
  constructor
  · rintro ⟨x, hx, y, hy, h⟩; exact ⟨y, hy, x, hx, by rw [spansMeet_comm]; exact h⟩
  · rintro ⟨x, hx, y, hy, h⟩; exact ⟨y, hy, x, hx, by rw [spansMeet_comm]; exact h⟩
theorem any_yes {α : Type} {p : α → Bool} {l : List α} {k : Nat} {x : α} (hx : nth l k = some x) (h : p x = true) : l.any p = true := List.any_eq_true.2 ⟨x, nth_in hx, h⟩
theorem any_no {α : Type} {p : α → Bool} {l : List α} {k : Nat} (hk : l.length ≤ k) (h : ∀ j, j < k → ∀ x, nth l j = some x → p x = false) : l.any p = false := by
  rw [List.any_eq_false]
  intro x hx
  obtain ⟨j, hj, rfl⟩ := List.mem_iff_getElem.1 hx
  have := h j (by omega) l[j] (by rw [nth_eq]; simp [hj])
  simp [this]
theorem any_idx {α : Type} {p : α → Bool} {l : List α} : decide (idxP p l ≥ 0) = l.any p := by
  by_cases h : 0 ≤ idxP p l
  · rw [decide_eq_true h]
    have hb := idxP_bd p l
    have hk : (idxP p l).toNat < l.length := by omega
    have hx : nth l (idxP p l).toNat = some l[(idxP p l).toNat] := by rw [nth_eq]; simp [hk]
    exact (any_yes hx (idxP_at (show idxP p l = ((idxP p l).toNat : Nat) by omega) hx).1).symm
  · rw [decide_eq_false h]
    exact (any_no (Nat.le_refl _) (idxP_no h)).symm
def clashT (a b : TouchD) : Bool := meetAny a.writes b.reads || meetAny a.writes b.writes || meetAny a.reads b.writes
def coversL (list keys : List ByteArray) : Bool := keys.all fun k => list.any fun s => spanHas s k

theorem eqL_len {α : Type} [DecidableEq α] {a b : List α} {m n : Nat} (ha : m = a.length) (hb : n = b.length) (h : m ≠ n) : decide (a = b) = false := decide_eq_false fun e => h (by subst e; rw [ha, hb])
theorem eqL_at {α : Type} [DecidableEq α] {a b : List α} {k : Nat} {x y : α} (hx : nth a k = some x) (hy : nth b k = some y) (h : x ≠ y) : decide (a = b) = false := decide_eq_false fun e => h (by subst e; exact Option.some.inj (hx.symm.trans hy))
theorem eqL_step {α : Type} {a b : List α} {k : Nat} {x y : α} (h : a.take k = b.take k) (hx : nth a k = some x) (hy : nth b k = some y) (e : ¬ x ≠ y) : a.take (k + 1) = b.take (k + 1) := by
  rw [nth_take_snoc hx, nth_take_snoc hy, h, Classical.not_not.1 e]
theorem eqL_end {α : Type} [DecidableEq α] {a b : List α} {k : Nat} (h : a.take k = b.take k) (ha : a.length ≤ k) (hb : b.length ≤ k) : decide (a = b) = true := by
  rw [List.take_of_length_le ha, List.take_of_length_le hb] at h
  exact decide_eq_true h
theorem cl_1 {a b : TouchD} (h : meetAny a.writes b.reads = true) : clashT a b = true := by simp [clashT, h]
theorem cl_2 {a b : TouchD} (h : meetAny a.writes b.writes = true) : clashT a b = true := by simp [clashT, h]
theorem cl_3 {a b : TouchD} (h1 : meetAny a.writes b.reads = false) (h2 : meetAny a.writes b.writes = false) : clashT a b = meetAny a.reads b.writes := by simp [clashT, h1, h2]
theorem cl_4 {a b : TouchD} (h1 : meetAny a.writes b.reads = false) (h2 : meetAny a.writes b.writes = false) : clashT a b = meetAny b.writes a.reads := by rw [cl_3 h1 h2, meetAny_comm]
theorem nth_some {α : Type} {l : List α} {k : Nat} (h : k < l.length) : ∃ x, nth l k = some x := ⟨l[k], by rw [nth_eq]; simp [h]⟩
theorem all_bad {α : Type} {p : α → Bool} {l : List α} {k : Nat} {x : α} (hx : nth l k = some x) (h : p x = false) : l.all p = false := List.all_eq_false.2 ⟨x, nth_in hx, by simp [h]⟩
theorem all_good {α : Type} {p : α → Bool} {l : List α} {k : Nat} (hk : l.length ≤ k) (h : ∀ j, j < k → ∀ x, nth l j = some x → p x = true) : l.all p = true := by
  rw [List.all_eq_true]
  intro x hx
  obtain ⟨j, hj, rfl⟩ := List.mem_iff_getElem.1 hx
  exact h j (by omega) l[j] (by rw [nth_eq]; simp [hj])
theorem any_more {α : Type} {p : α → Bool} {l : List α} {k : Nat} {b : Bool} (h : b = (l.take k).any p) (hb : b = true) : true = (l.take (k + 1)).any p := by
  have h1 : (l.take k).any p = true := h.symm.trans hb
  obtain ⟨x, hx, hp⟩ := List.any_eq_true.1 h1
  exact (List.any_eq_true.2 ⟨x, (by rw [show l.take k = (l.take (k + 1)).take k by rw [List.take_take, Nat.min_eq_left (Nat.le_succ k)]] at hx; exact List.mem_of_mem_take hx), hp⟩).symm
theorem any_snoc {α : Type} {p : α → Bool} {l : List α} {k : Nat} {x : α} (hx : nth l k = some x) : (l.take (k + 1)).any p = ((l.take k).any p || p x) := by rw [nth_take_snoc hx, List.any_append]; simp
theorem any_step {α : Type} {p : α → Bool} {l : List α} {k : Nat} {x : α} {b : Bool} (h : b = (l.take k).any p) (hb : b = false) (hx : nth l k = some x) : p x = (l.take (k + 1)).any p := by
  rw [any_snoc hx, ← h, hb]; rfl
end Go.Proofs.YtibgmijfnbnfkaaDoor
