/-
  Plain functions on lists and strings that the walks are held against.
-/
import Derived.Test.YtibgmijfnbnfkaaGreatDoorFacts
import Derived.Test.YtibgmijfnbnfkaaGreatDoorTouch2
import Derived.Test.YtibgmijfnbnfkaaGreatDoorCells
import Derived.Test.YtibgmijfnbnfkaaGreatDoorEng7
namespace Go.Proofs.YtibgmijfnbnfkaaGreatDoor
open Go.ChangeShapes Go.WideShapes Go.ChangeAt Go.RowKit
set_option maxRecDepth 100000
set_option maxHeartbeats 1000000

def inB (x a b : Int) : Bool := decide (a ≤ x ∧ x ≤ b)
/-- Does the text begin so? -/
def begins (s p : ByteArray) : Bool := decide (p.size ≤ s.size ∧ s.extract 0 p.size = p)
theorem all_step {k : Nat} {p : Nat → Prop} (h : ∀ j, j < k → p j) (hk : p k) : ∀ j, j < k + 1 → p j := fun j hj => (Nat.lt_succ_iff_lt_or_eq.1 hj).elim (h j) (fun e => e ▸ hk)
theorem all_none {p : Nat → Prop} : ∀ j, j < 0 → p j := fun j hj => absurd hj (Nat.not_lt_zero j)
/-- The value of the first cell with a key. -/
def getKey (l : List CellD) (key : ByteArray) : ByteArray := match l.find? (fun c : CellD => decide (c.key = key)) with
  | some c => c.val
  | none => ⟨#[]⟩
theorem getKey_found {l : List CellD} {key : ByteArray} {k : Nat} {x : CellD} (hx : nth l k = some x) (hp : x.key = key) (hno : ∀ j, j < k → ∀ y, nth l j = some y → y.key ≠ key) : getKey l key = x.val := by
  have : l.find? (fun c : CellD => decide (c.key = key)) = some x := by
    rw [List.find?_eq_some_iff_getElem]
    rw [nth_eq] at hx
    obtain ⟨h1, h2⟩ := List.getElem?_eq_some_iff.1 hx
    refine ⟨by simpa using hp, k, h1, h2, fun j hj => ?_⟩
    have := hno j hj l[j] (by rw [nth_eq]; simp)
    simpa using this
  simp [getKey, this]
theorem getKey_none {l : List CellD} {key : ByteArray} {k : Nat} (hk : l.length ≤ k) (hno : ∀ j, j < k → ∀ y, nth l j = some y → y.key ≠ key) : getKey l key = ⟨#[]⟩ := by
  have : l.find? (fun c : CellD => decide (c.key = key)) = none := by
    rw [List.find?_eq_none]
    intro x hx
    obtain ⟨j, hj, rfl⟩ := List.mem_iff_getElem.1 hx
    have := hno j (by omega) l[j] (by rw [nth_eq]; simp [hj])
    simpa using this
  simp [getKey, this]
/-- The keys that begin so. -/
def keysUnder (l : List CellD) (p : ByteArray) : List ByteArray := (l.filter fun c => begins c.key p).map (·.key)
theorem keysUnder_step {l : List CellD} {p : ByteArray} {k : Nat} {x : CellD} (hx : nth l k = some x) : keysUnder (l.take (k + 1)) p = keysUnder (l.take k) p ++ if begins x.key p then [x.key] else [] := by
  rw [nth_eq] at hx
  obtain ⟨h1, h2⟩ := List.getElem?_eq_some_iff.1 hx
  rw [List.take_succ_eq_append_getElem h1, h2]
  unfold keysUnder
  rw [List.filter_append, List.map_append]
  by_cases h : begins x.key p <;> simp [h]
theorem keysUnder_length (l : List CellD) (p : ByteArray) : (keysUnder l p).length ≤ l.length := by unfold keysUnder; rw [List.length_map]; exact List.length_filter_le _ _
theorem keysUnder_take (l : List CellD) (p : ByteArray) (k : Nat) : (keysUnder (l.take k) p).length ≤ k := by
  have := keysUnder_length (l.take k) p
  rw [List.length_take] at this; omega
structure MachD where
  store : List CellD
  touch : TouchD
deriving DecidableEq
theorem putL_ins {l : List ByteArray} {x : ByteArray} {k : Nat} (hk : k ≤ l.length) (hlt : ∀ j, j < k → ∀ y, nth l j = some y → ltS y x = true) (hend : ∀ y, nth l k = some y → ltS y x = false ∧ y ≠ x) : putL l x = l.take k ++ x :: l.drop k := by
  have h := putL_at l x k hk (fun q hq y hy => by rw [← nth_eq] at hy; simp [geS, hlt q hq y hy]) (fun y hy => by rw [← nth_eq] at hy; simp [geS, (hend y hy).1])
  unfold putL
  rw [h, if_neg (fun e => by rw [← nth_eq] at e; exact (hend x e).2 rfl)]
  rfl
theorem putL_same {l : List ByteArray} {x : ByteArray} {k : Nat} (hx : nth l k = some x) (hlt : ∀ j, j < k → ∀ y, nth l j = some y → ltS y x = true) (hend : ltS x x = false) : putL l x = l := by
  have hk := nth_lt hx
  have h := putL_at l x k (by omega) (fun q hq y hy => by rw [← nth_eq] at hy; simp [geS, hlt q hq y hy]) (fun y hy => by rw [← nth_eq, hx] at hy; cases hy; simp [geS, hend])
  unfold putL
  rw [h, if_pos (by rw [← nth_eq]; exact hx)]
def lookM (m : MachD) (key : ByteArray) : MachD := ⟨m.store, ⟨putL m.touch.reads key, m.touch.writes⟩⟩
theorem joinL_step {l m : List ByteArray} {i : Nat} {x : ByteArray} (h : nth m i = some x) : joinL l (m.take (i + 1)) = putL (joinL l (m.take i)) x := by
  rw [nth_eq] at h
  obtain ⟨hi, hx⟩ := List.getElem?_eq_some_iff.1 h
  rw [List.take_succ_eq_append_getElem hi, hx]
  simp [joinL]
theorem joinL_length (l m : List ByteArray) : (joinL l m).length ≤ l.length + m.length := by
  induction m generalizing l with
  | nil => simp [joinL]
  | cons x m ih =>
    have h1 := ih (putL l x)
    have h2 := putL_length l x
    simp only [joinL, List.foldl_cons, List.length_cons] at *
    omega
/-- Where a key stands first, or -1. -/
def idxKey (s : List CellD) (key : ByteArray) : Int := idxP (fun c => decide (c.key = key)) s
theorem idxKey_bd (s : List CellD) (key : ByteArray) : -1 ≤ idxKey s key ∧ idxKey s key < s.length := by
  unfold idxKey idxP; split <;> omega
theorem idxP_ok {α : Type} (p : α → Bool) (l : List α) (h : l.length ≤ 9223372036854775807) : i64ok (idxP p l) := by
  unfold idxP i64ok; split <;> omega
theorem idxP_bd {α : Type} (p : α → Bool) (l : List α) : -1 ≤ idxP p l ∧ idxP p l < l.length := by
  unfold idxP; split <;> omega
/-- The first that is found. -/
theorem idxP_at {α : Type} {p : α → Bool} {l : List α} {k : Nat} {x : α} (h : idxP p l = k) (hx : nth l k = some x) : p x = true ∧ ∀ j, j < k → ∀ y, nth l j = some y → p y = false := by
  unfold idxP at h
  split at h
  · rename_i hlt
    have hk : l.findIdx p = k := by omega
    subst hk
    rw [nth_eq] at hx
    obtain ⟨h1, h2⟩ := List.getElem?_eq_some_iff.1 hx
    refine ⟨?_, fun j hj y hy => ?_⟩
    · have := List.findIdx_getElem (p := p) (w := hlt)
      rw [h2] at this; exact this
    · rw [nth_eq] at hy
      obtain ⟨h3, h4⟩ := List.getElem?_eq_some_iff.1 hy
      have := List.not_of_lt_findIdx hj
      rw [h4] at this
      simpa using this
  · omega
theorem idxP_no {α : Type} {p : α → Bool} {l : List α} (h : ¬ 0 ≤ idxP p l) : ∀ j, j < l.length → ∀ y, nth l j = some y → p y = false := by
  intro j hj y hy
  unfold idxP at h
  split at h
  · omega
  · rename_i hlt
    rw [nth_eq] at hy
    obtain ⟨h3, h4⟩ := List.getElem?_eq_some_iff.1 hy
    have : j < l.findIdx p := by omega
    have := List.not_of_lt_findIdx this
    rw [h4] at this
    simpa using this

/-- May a byte stand in a key? -/
def kb (n : Nat) : Bool := decide (33 ≤ n ∧ n ≤ 126 ∧ n ≠ 42)
def keyOk (key : ByteArray) : Bool := (List.range key.size).all (fun j => kb (byteAt key j)) && inB key.size 1 40
theorem keyOk_bad {key : ByteArray} {j : Nat} (hj : j < key.size) (h : kb (byteAt key j) = false) : keyOk key = false := by
  have : (List.range key.size).all (fun j => kb (byteAt key j)) = false := by
    rw [List.all_eq_false]
    exact ⟨j, List.mem_range.2 hj, by simp [h]⟩
  simp [keyOk, this]
theorem keyOk_all {key : ByteArray} (h : ∀ j, j < key.size → kb (byteAt key j) = true) : keyOk key = inB key.size 1 40 := by
  have : (List.range key.size).all (fun j => kb (byteAt key j)) = true := by
    rw [List.all_eq_true]
    exact fun j hj => h j (List.mem_range.1 hj)
  simp [keyOk, this]
def delKey (s : List CellD) (key : ByteArray) : List CellD := s.filter fun c => decide (c.key ≠ key)
theorem delKey_length (s : List CellD) (key : ByteArray) : (delKey s key).length ≤ s.length := List.length_filter_le _ _
theorem nth_take_snoc {α : Type} {l : List α} {k : Nat} {x : α} (hx : nth l k = some x) : l.take (k + 1) = l.take k ++ [x] := by
  rw [nth_eq] at hx
  obtain ⟨h1, h2⟩ := List.getElem?_eq_some_iff.1 hx
  rw [List.take_succ_eq_append_getElem h1, h2]
theorem delKey_snoc (s : List CellD) (key : ByteArray) (x : CellD) : delKey (s ++ [x]) key = delKey s key ++ if x.key = key then [] else [x] := by
  unfold delKey
  rw [List.filter_append]
  by_cases h : x.key = key <;> simp [h]
theorem delKey_all {s : List CellD} {key : ByteArray} (h : ∀ c ∈ s, c.key ≠ key) : delKey s key = s := by
  unfold delKey
  rw [List.filter_eq_self]
  exact fun c hc => decide_eq_true (h c hc)
theorem delKey_none {s : List CellD} {key : ByteArray} (h : idxP (fun c : CellD => decide (c.key = key)) s = -1) : s = delKey s key := by
  refine (delKey_all fun c hc => ?_).symm
  obtain ⟨j, hj, rfl⟩ := List.mem_iff_getElem.1 hc
  have := idxP_no (p := fun c : CellD => decide (c.key = key)) (l := s) (by omega) j hj s[j] (by rw [nth_eq]; simp [hj])
  simpa using this
/-- DeleteFunc's loop: D is what the slice holds, ii the cells that stay so far. -/
def delInv (s : List CellD) (key : ByteArray) (j ii : Nat) (D : List CellD) : Prop := D.length = s.length ∧ j ≤ s.length ∧ ii < j ∧ ii = (delKey (s.take j) key).length ∧ D.take ii = delKey (s.take j) key ∧ D.drop j = s.drop j
theorem delStart {s : List CellD} {key : ByteArray} (h : ¬ idxP (fun c : CellD => decide (c.key = key)) s = -1) : ∃ k0 : Nat, idxP (fun c : CellD => decide (c.key = key)) s = (k0 : Int) ∧ k0 < s.length ∧ delInv s key (k0 + 1) k0 s := by
  have hb := idxP_bd (fun c : CellD => decide (c.key = key)) s
  obtain ⟨k0, hk0⟩ : ∃ k0 : Nat, idxP (fun c : CellD => decide (c.key = key)) s = (k0 : Int) := ⟨(idxP (fun c : CellD => decide (c.key = key)) s).toNat, by omega⟩
  have hlt : k0 < s.length := by omega
  have hx : nth s k0 = some s[k0] := by rw [nth_eq]; simp [hlt]
  obtain ⟨h1, h2⟩ := idxP_at hk0 hx
  have e1 : delKey (s.take k0) key = s.take k0 := delKey_all fun c hc => by
    obtain ⟨j, hj, rfl⟩ := List.mem_iff_getElem.1 hc
    rw [List.length_take] at hj
    have := h2 j (by omega) _ (show nth s j = some s[j] by rw [nth_eq]; simp [show j < s.length by omega])
    simpa using this
  have e2 : delKey (s.take (k0 + 1)) key = s.take k0 := by
    rw [nth_take_snoc hx, delKey_snoc, e1, if_pos (by simpa using h1), List.append_nil]
  exact ⟨k0, hk0, hlt, rfl, hlt, by omega, by rw [e2, List.length_take]; omega, e2.symm, rfl⟩
theorem delInv.nthE {s D : List CellD} {key : ByteArray} {j ii : Nat} {x : CellD} (h : delInv s key j ii D) (hx : nth D j = some x) : nth s j = some x := by
  obtain ⟨_, _, _, _, _, h6⟩ := h
  rw [nth_eq] at hx ⊢
  have := congrArg (fun l => l[0]?) h6
  simp only [List.getElem?_drop, Nat.add_zero] at this
  rw [← this]; exact hx
theorem drop_step {α : Type} {D s : List α} {j : Nat} (h : D.drop j = s.drop j) : D.drop (j + 1) = s.drop (j + 1) := by
  rw [← List.drop_drop, ← List.drop_drop, h]
theorem delInv.skip {s D : List CellD} {key : ByteArray} {j ii : Nat} {x : CellD} (h : delInv s key j ii D) (hx : nth D j = some x) (hk : x.key = key) : delInv s key (j + 1) ii D := by
  have hs := h.nthE hx
  obtain ⟨h1, h2, h3, h4, h5, h6⟩ := h
  have e : delKey (s.take (j + 1)) key = delKey (s.take j) key := by rw [nth_take_snoc hs, delKey_snoc, if_pos hk, List.append_nil]
  exact ⟨h1, nth_lt hs, by omega, by rw [e]; exact h4, by rw [e]; exact h5, drop_step h6⟩
theorem delInv.keep {s D : List CellD} {key : ByteArray} {j ii : Nat} {x : CellD} (h : delInv s key j ii D) (hx : nth D j = some x) (hk : ¬ x.key = key) : delInv s key (j + 1) (ii + 1) (D.set ii x) := by
  have hs := h.nthE hx
  obtain ⟨h1, h2, h3, h4, h5, h6⟩ := h
  have e : delKey (s.take (j + 1)) key = delKey (s.take j) key ++ [x] := by rw [nth_take_snoc hs, delKey_snoc, if_neg hk]
  have hlt := nth_lt hs
  refine ⟨by rw [List.length_set]; exact h1, hlt, by omega, by rw [e, List.length_append, ← h4]; rfl, ?_, ?_⟩
  · rw [e, ← h5]
    have hx2 : nth (D.set ii x) ii = some x := by rw [nth_eq, List.getElem?_set_self (by omega)]
    rw [nth_take_snoc hx2, List.take_set, List.set_eq_of_length_le (by rw [List.length_take]; omega)]
  · rw [List.drop_set_of_lt (by omega)]
    exact drop_step h6
theorem delInv.bd {s D : List CellD} {key : ByteArray} {j ii : Nat} (h : delInv s key j ii D) : ii < j ∧ j ≤ s.length ∧ D.length = s.length := ⟨h.2.2.1, h.2.1, h.1⟩
theorem delInv.done {s D : List CellD} {key : ByteArray} {j ii : Nat} (h : delInv s key j ii D) (hj : s.length ≤ j) (r : List CellD) : (D.take ii ++ r).take ii = delKey s key := by
  obtain ⟨h1, h2, h3, h4, h5, h6⟩ := h
  rw [List.take_left' (by rw [List.length_take]; omega), h5, List.take_of_length_le hj]
/-- Where a key belongs: ahead of the first greater one. -/
def insK (r : List CellD) (key val : ByteArray) : List CellD := insAt r (r.findIdx fun c => !leS c.key key) ⟨key, val⟩
def putKey (s : List CellD) (key val : ByteArray) : List CellD := if keyOk key = true ∧ val.size ≤ 60 then (if val = ⟨#[]⟩ then delKey s key else insK (delKey s key) key val) else s
theorem putKey_length (s : List CellD) (key val : ByteArray) : (putKey s key val).length ≤ s.length + 1 := by
  have := delKey_length s key
  unfold putKey
  split
  · split
    · omega
    · unfold insK; rw [insAt_length _ _ _ List.findIdx_le_length]; omega
  · omega
theorem putKey_no {s : List CellD} {key val : ByteArray} (h : keyOk key = false ∨ 60 < val.size) : putKey s key val = s := by
  unfold putKey
  rw [if_neg (fun e => by rcases h with h | h; (rw [h] at e; exact absurd e.1 (by decide)); omega)]
theorem putKey_del {s : List CellD} {key val : ByteArray} (h1 : keyOk key = true) (h3 : val = ⟨#[]⟩) : putKey s key val = delKey s key := by
  subst h3
  unfold putKey
  rw [if_pos ⟨h1, by decide⟩, if_pos rfl]
theorem putKey_ins {s : List CellD} {key val : ByteArray} (h1 : keyOk key = true) (h2 : val.size ≤ 60) (h3 : ¬ val = ⟨#[]⟩) : putKey s key val = insK (delKey s key) key val := by
  unfold putKey
  rw [if_pos ⟨h1, h2⟩, if_neg h3]
theorem insK_at {r : List CellD} {key val : ByteArray} {z : Int} (h : z = idxP (fun c : CellD => !leS c.key key) r) (h0 : 0 ≤ z) : insAt r z.toNat ⟨key, val⟩ = insK r key val := by
  subst h
  unfold insK idxP at *
  split at h0
  · rename_i hlt; rw [if_pos hlt]; rfl
  · omega
theorem insK_end {r : List CellD} {key val : ByteArray} {n : Nat} (hn : n = r.length) (h : idxP (fun c : CellD => !leS c.key key) r < 0) : insAt r ((n : Nat) : Int).toNat ⟨key, val⟩ = insK r key val := by
  subst hn
  unfold insK
  have : r.findIdx (fun c : CellD => !leS c.key key) = r.length := by
    have h1 : r.findIdx (fun c : CellD => !leS c.key key) ≤ r.length := List.findIdx_le_length
    unfold idxP at h
    split at h <;> omega
  rw [this]; rfl
theorem nt {b : Bool} (h : (!b) = true) : b = false := by simpa using h
theorem nf {b : Bool} (h : (!b) = false) : b = true := by simpa using h
def layM (m : MachD) (key val : ByteArray) : MachD := ⟨putKey m.store key val, ⟨m.touch.reads, putL m.touch.writes key⟩⟩
def wipeL (m : MachD) (ks : List ByteArray) : MachD := ks.foldl (fun m k => layM m k ⟨#[]⟩) m
def wipeM (m : MachD) (pfx : ByteArray) : MachD := wipeL (lookM m (pfx ++ ⟨#[42]⟩)) (keysUnder m.store pfx)
theorem wipeL_step {m : MachD} {ks : List ByteArray} {k : Nat} {x : ByteArray} (hx : nth ks k = some x) : wipeL m (ks.take (k + 1)) = layM (wipeL m (ks.take k)) x ⟨#[]⟩ := by
  rw [nth_take_snoc hx]; unfold wipeL; rw [List.foldl_append]; rfl
theorem wipeL_bd (m : MachD) (ks : List ByteArray) : (wipeL m ks).store.length ≤ m.store.length + ks.length ∧ (wipeL m ks).touch.reads.length = m.touch.reads.length ∧ (wipeL m ks).touch.writes.length ≤ m.touch.writes.length + ks.length := by
  induction ks generalizing m with
  | nil => simp [wipeL]
  | cons x ks ih =>
    have h1 := ih (layM m x ⟨#[]⟩)
    have h2 := putKey_length m.store x ⟨#[]⟩
    have h3 := putL_length m.touch.writes x
    simp only [wipeL, List.foldl_cons, List.length_cons] at h1 ⊢
    simp only [layM] at h1
    simp only [layM]
    omega
end Go.Proofs.YtibgmijfnbnfkaaGreatDoor
