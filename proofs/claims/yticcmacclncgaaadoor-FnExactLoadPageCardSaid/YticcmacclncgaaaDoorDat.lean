/-
  Plain functions on lists and strings that the walks are held against.
-/
import Derived.Test.YticcmacclncgaaaDoorFacts
import Derived.Test.YticcmacclncgaaaDoorTouch2
import Derived.Test.YticcmacclncgaaaDoorCells
namespace Go.Proofs.YticcmacclncgaaaDoor
open Go.ChangeShapes Go.WideShapes Go.ChangeAt Go.RowKit
set_option maxRecDepth 100000
set_option maxHeartbeats 1000000

def inB (x a b : Int) : Bool := decide (a ≤ x ∧ x ≤ b)
/-- Does the text begin so? -/
def begins (s p : ByteArray) : Bool := decide (p.size ≤ s.size ∧ s.extract 0 p.size = p)
theorem all_step {k : Nat} {p : Nat → Prop} (h : ∀ j, j < k → p j) (hk : p k) : ∀ j, j < k + 1 → p j := fun j hj => (Nat.lt_succ_iff_lt_or_eq.1 hj).elim (h j) (fun e => e ▸ hk)
theorem all_none {p : Nat → Prop} : ∀ j, j < 0 → p j := fun j hj => absurd hj (Nat.not_lt_zero j)
/-- The value of the first cell with a key. -/
def getKey (l : List CellD) (key : ByteArray) : ByteArray := match l.find? (fun c : CellD => decide (c.key = key)) with
  | some c => c.val
  | none => ⟨#[]⟩
theorem getKey_found {l : List CellD} {key : ByteArray} {k : Nat} {x : CellD} (hx : nth l k = some x) (hp : x.key = key) (hno : ∀ j, j < k → ∀ y, nth l j = some y → y.key ≠ key) : getKey l key = x.val := by
  have : l.find? (fun c : CellD => decide (c.key = key)) = some x := by
    rw [List.find?_eq_some_iff_getElem]
    rw [nth_eq] at hx
    obtain ⟨h1, h2⟩ := List.getElem?_eq_some_iff.1 hx
    refine ⟨by simpa using hp, k, h1, h2, fun j hj => ?_⟩
    have := hno j hj l[j] (by rw [nth_eq]; simp)
    simpa using this
  simp [getKey, this]
theorem getKey_none {l : List CellD} {key : ByteArray} {k : Nat} (hk : l.length ≤ k) (hno : ∀ j, j < k → ∀ y, nth l j = some y → y.key ≠ key) : getKey l key = ⟨#[]⟩ := by
  have : l.find? (fun c : CellD => decide (c.key = key)) = none := by
    rw [List.find?_eq_none]
    intro x hx
    obtain ⟨j, hj, rfl⟩ := List.mem_iff_getElem.1 hx
    have := hno j (by omega) l[j] (by rw [nth_eq]; simp [hj])
    simpa using this
  simp [getKey, this]
/-- The keys that begin so. -/
def keysUnder (l : List CellD) (p : ByteArray) : List ByteArray := (l.filter fun c => begins c.key p).map (·.key)
theorem keysUnder_step {l : List CellD} {p : ByteArray} {k : Nat} {x : CellD} (hx : nth l k = some x) : keysUnder (l.take (k + 1)) p = keysUnder (l.take k) p ++ if begins x.key p then [x.key] else [] := by
  rw [nth_eq] at hx
  obtain ⟨h1, h2⟩ := List.getElem?_eq_some_iff.1 hx
  rw [List.take_succ_eq_append_getElem h1, h2]
  unfold keysUnder
  rw [List.filter_append, List.map_append]
  by_cases h : begins x.key p <;> simp [h]
theorem keysUnder_length (l : List CellD) (p : ByteArray) : (keysUnder l p).length ≤ l.length := by unfold keysUnder; rw [List.length_map]; exact List.length_filter_le _ _
theorem keysUnder_take (l : List CellD) (p : ByteArray) (k : Nat) : (keysUnder (l.take k) p).length ≤ k := by
  have := keysUnder_length (l.take k) p
  rw [List.length_take] at this; omega
structure MachD where
  store : List CellD
  touch : TouchD
deriving DecidableEq
theorem putL_ins {l : List ByteArray} {x : ByteArray} {k : Nat} (hk : k ≤ l.length) (hlt : ∀ j, j < k → ∀ y, nth l j = some y → ltS y x = true) (hend : ∀ y, nth l k = some y → ltS y x = false ∧ y ≠ x) : putL l x = l.take k ++ x :: l.drop k := by
  have h := putL_at l x k hk (fun q hq y hy => by rw [← nth_eq] at hy; simp [geS, hlt q hq y hy]) (fun y hy => by rw [← nth_eq] at hy; simp [geS, (hend y hy).1])
  unfold putL
  rw [h, if_neg (fun e => by rw [← nth_eq] at e; exact (hend x e).2 rfl)]
  rfl
theorem putL_same {l : List ByteArray} {x : ByteArray} {k : Nat} (hx : nth l k = some x) (hlt : ∀ j, j < k → ∀ y, nth l j = some y → ltS y x = true) (hend : ltS x x = false) : putL l x = l := by
  have hk := nth_lt hx
  have h := putL_at l x k (by omega) (fun q hq y hy => by rw [← nth_eq] at hy; simp [geS, hlt q hq y hy]) (fun y hy => by rw [← nth_eq, hx] at hy; cases hy; simp [geS, hend])
  unfold putL
  rw [h, if_pos (by rw [← nth_eq]; exact hx)]
def szMachD (m : MachD) : Nat := szCells m.store + szTouchD m.touch
def cntM (m : MachD) : Nat := 2 * m.store.length + cntT m.touch
def marksM (k : Nat) (m : MachD) : MachD := ⟨marksC k m.store.length, marksT (k + 2 * m.store.length) m.touch⟩
def lookM (m : MachD) (key : ByteArray) : MachD := ⟨m.store, ⟨putL m.touch.reads key, m.touch.writes⟩⟩
theorem sz_of {n : Int} {a : Nat} (h : ¬ subOr n a < 0) : (a : Int) ≤ n := by unfold subOr at h; split at h <;> omega
theorem szM_of {m : MachD} {n : Int} (hn : n ≤ 1048576) (h : ¬ subOr n (szMachD m) < 0) : m.store.length ≤ 1048576 ∧ m.touch.reads.length ≤ 1048576 ∧ m.touch.writes.length ≤ 1048576 := by
  have := sz_of h
  unfold szMachD szCells szTouchD szStrs at this
  omega
theorem subOr_i64 {n : Int} {a : Nat} (h0 : 0 ≤ n) (h1 : n ≤ 1048576) : i64ok (subOr n a) := by
  have := subOr_bd n a h0
  unfold i64ok; omega
theorem smT_mk {t : TouchD} (h1 : t.reads.length ≤ 1048576) (h2 : t.writes.length ≤ 1048576) : smT t := ⟨h1, h2⟩
/-- What a machine may hold at most, as the walks carry it. -/
def bdM (b : Nat) (m : MachD) : Prop := m.store.length ≤ b ∧ m.touch.reads.length ≤ b ∧ m.touch.writes.length ≤ b
theorem joinL_step {l m : List ByteArray} {i : Nat} {x : ByteArray} (h : nth m i = some x) : joinL l (m.take (i + 1)) = putL (joinL l (m.take i)) x := by
  rw [nth_eq] at h
  obtain ⟨hi, hx⟩ := List.getElem?_eq_some_iff.1 h
  rw [List.take_succ_eq_append_getElem hi, hx]
  simp [joinL]
theorem joinL_length (l m : List ByteArray) : (joinL l m).length ≤ l.length + m.length := by
  induction m generalizing l with
  | nil => simp [joinL]
  | cons x m ih =>
    have h1 := ih (putL l x)
    have h2 := putL_length l x
    simp only [joinL, List.foldl_cons, List.length_cons] at *
    omega
/-- Where a key stands first, or -1. -/
def idxKey (s : List CellD) (key : ByteArray) : Int := idxP (fun c => decide (c.key = key)) s
theorem idxKey_bd (s : List CellD) (key : ByteArray) : -1 ≤ idxKey s key ∧ idxKey s key < s.length := by
  unfold idxKey idxP; split <;> omega
theorem idxP_ok {α : Type} (p : α → Bool) (l : List α) (h : l.length ≤ 9223372036854775807) : i64ok (idxP p l) := by
  unfold idxP i64ok; split <;> omega
theorem idxP_bd {α : Type} (p : α → Bool) (l : List α) : -1 ≤ idxP p l ∧ idxP p l < l.length := by
  unfold idxP; split <;> omega
/-- The first that is found. -/
theorem idxP_at {α : Type} {p : α → Bool} {l : List α} {k : Nat} {x : α} (h : idxP p l = k) (hx : nth l k = some x) : p x = true ∧ ∀ j, j < k → ∀ y, nth l j = some y → p y = false := by
  unfold idxP at h
  split at h
  · rename_i hlt
    have hk : l.findIdx p = k := by omega
    subst hk
    rw [nth_eq] at hx
    obtain ⟨h1, h2⟩ := List.getElem?_eq_some_iff.1 hx
    refine ⟨?_, fun j hj y hy => ?_⟩
    · have := List.findIdx_getElem (p := p) (w := hlt)
      rw [h2] at this; exact this
    · rw [nth_eq] at hy
      obtain ⟨h3, h4⟩ := List.getElem?_eq_some_iff.1 hy
      have := List.not_of_lt_findIdx hj
      rw [h4] at this
      simpa using this
  · omega
theorem idxP_no {α : Type} {p : α → Bool} {l : List α} (h : ¬ 0 ≤ idxP p l) : ∀ j, j < l.length → ∀ y, nth l j = some y → p y = false := by
  intro j hj y hy
  unfold idxP at h
  split at h
  · omega
  · rename_i hlt
    rw [nth_eq] at hy
    obtain ⟨h3, h4⟩ := List.getElem?_eq_some_iff.1 hy
    have : j < l.findIdx p := by omega
    have := List.not_of_lt_findIdx this
    rw [h4] at this
    simpa using this
end Go.Proofs.YticcmacclncgaaaDoor
