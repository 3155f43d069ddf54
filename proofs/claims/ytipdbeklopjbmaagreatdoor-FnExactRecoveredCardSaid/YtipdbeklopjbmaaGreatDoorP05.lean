/-
  Texts laid together: Dat, Dat7, FactsB, DatTx, CellEq, DatB, Shelf, Tab.
-/
import Derived.Test.YtipdbeklopjbmaaGreatDoorP04
import Derived.Test.YtipdbeklopjbmaaGreatDoorP03
import Derived.Laws.StructEq
import Derived.Shelf.Strconv.Itoa3
import Derived.Shelf.Strconv.AtoiAll
import Derived.Shelf.Hex.More
import Derived.Shelf.Hex.Decode
import Derived.Shelf.Strings.Split
import Derived.Shelf.Strings.Cut
import Derived.Shelf.Strings.Search3
import Derived.Shelf.Strings.BuilderF
import Derived.Test.YtipdbeklopjbmaaGreatDoorChecked
import Derived.KernelRfl
import Derived.Lib.LaidTab
/-
  Plain functions on lists and strings that the walks are held against.
-/

namespace Go.Proofs.YtipdbeklopjbmaaGreatDoor
open Go.ChangeShapes Go.WideShapes Go.ChangeAt Go.RowKit
set_option maxRecDepth 100000
set_option maxHeartbeats 1000000

def inB (x a b : Int) : Bool := decide (a ≤ x ∧ x ≤ b)
def begins (s p : ByteArray) : Bool := decide (p.size ≤ s.size ∧ s.extract 0 p.size = p)
theorem all_step {k : Nat} {p : Nat → Prop} (h : ∀ j, j < k → p j) (hk : p k) : ∀ j, j < k + 1 → p j := fun j hj => (Nat.lt_succ_iff_lt_or_eq.1 hj).elim (h j) (fun e => e ▸ hk)
theorem all_none {p : Nat → Prop} : ∀ j, j < 0 → p j := fun j hj => absurd hj (Nat.not_lt_zero j)
def getKey (l : List CellD) (key : ByteArray) : ByteArray := match l.find? (fun c : CellD => decide (c.key = key)) with
  | some c => c.val
  | none => ⟨#[]⟩
def keysUnder (l : List CellD) (p : ByteArray) : List ByteArray := (l.filter fun c => begins c.key p).map (·.key)
structure MachD where
  store : List CellD
  touch : TouchD
deriving DecidableEq
def lookM (m : MachD) (key : ByteArray) : MachD := ⟨m.store, ⟨putL m.touch.reads key, m.touch.writes⟩⟩
theorem subOr_i64 {n : Int} {a : Nat} (h0 : 0 ≤ n) (h1 : n ≤ 1048576) : i64ok (subOr n a) := by
  have := subOr_bd n a h0
  unfold i64ok; omega
theorem idxP_ok {α : Type} (p : α → Bool) (l : List α) (h : l.length ≤ 9223372036854775807) : i64ok (idxP p l) := by
  unfold idxP i64ok; split <;> omega
theorem idxP_bd {α : Type} (p : α → Bool) (l : List α) : -1 ≤ idxP p l ∧ idxP p l < l.length := by
  unfold idxP; split <;> omega
theorem idxP_at {α : Type} {p : α → Bool} {l : List α} {k : Nat} {x : α} (h : idxP p l = k) (hx : nth l k = some x) : p x = true ∧ ∀ j, j < k → ∀ y, nth l j = some y → p y = false := by
  unfold idxP at h
  split at h
  · rename_i hlt
    have hk : l.findIdx p = k := by omega
    subst hk
    rw [nth_eq] at hx
    obtain ⟨h1, h2⟩ := List.getElem?_eq_some_iff.1 hx
    refine ⟨?_, fun j hj y hy => ?_⟩
    · have := List.findIdx_getElem (p := p) (w := hlt)
      rw [h2] at this; exact this
    · rw [nth_eq] at hy
      obtain ⟨h3, h4⟩ := List.getElem?_eq_some_iff.1 hy
      have := List.not_of_lt_findIdx hj
      rw [h4] at this
      simpa using this
  · omega
theorem idxP_no {α : Type} {p : α → Bool} {l : List α} (h : ¬ 0 ≤ idxP p l) : ∀ j, j < l.length → ∀ y, nth l j = some y → p y = false := by
  intro j hj y hy
  unfold idxP at h
  split at h
  · omega
  · rename_i hlt
    rw [nth_eq] at hy
    obtain ⟨h3, h4⟩ := List.getElem?_eq_some_iff.1 hy
    have : j < l.findIdx p := by omega
    have := List.not_of_lt_findIdx this
    rw [h4] at this
    simpa using this

def kb (n : Nat) : Bool := decide (33 ≤ n ∧ n ≤ 126 ∧ n ≠ 42)
def keyOk (key : ByteArray) : Bool := (List.range key.size).all (fun j => kb (byteAt key j)) && inB key.size 1 40
theorem keyOk_bad {key : ByteArray} {j : Nat} (hj : j < key.size) (h : kb (byteAt key j) = false) : keyOk key = false := by
  have : (List.range key.size).all (fun j => kb (byteAt key j)) = false := by
    rw [List.all_eq_false]
    exact ⟨j, List.mem_range.2 hj, by simp [h]⟩
  simp [keyOk, this]
theorem keyOk_all {key : ByteArray} (h : ∀ j, j < key.size → kb (byteAt key j) = true) : keyOk key = inB key.size 1 40 := by
  have : (List.range key.size).all (fun j => kb (byteAt key j)) = true := by
    rw [List.all_eq_true]
    exact fun j hj => h j (List.mem_range.1 hj)
  simp [keyOk, this]
theorem kb_in (n : Nat) : kb n = (inB n 33 126 && decide (n ≠ 42)) := by
  unfold kb inB
  by_cases h : n = 42 <;> simp [h]
  by_cases h1 : 33 ≤ n <;> by_cases h2 : n ≤ 126 <;> simp [h1, h2] <;> omega
def delKey (s : List CellD) (key : ByteArray) : List CellD := s.filter fun c => decide (c.key ≠ key)
theorem delKey_length (s : List CellD) (key : ByteArray) : (delKey s key).length ≤ s.length := List.length_filter_le _ _
theorem nth_take_snoc {α : Type} {l : List α} {k : Nat} {x : α} (hx : nth l k = some x) : l.take (k + 1) = l.take k ++ [x] := by
  rw [nth_eq] at hx
  obtain ⟨h1, h2⟩ := List.getElem?_eq_some_iff.1 hx
  rw [List.take_succ_eq_append_getElem h1, h2]
theorem delKey_snoc (s : List CellD) (key : ByteArray) (x : CellD) : delKey (s ++ [x]) key = delKey s key ++ if x.key = key then [] else [x] := by
  unfold delKey
  rw [List.filter_append]
  by_cases h : x.key = key <;> simp [h]
theorem delKey_all {s : List CellD} {key : ByteArray} (h : ∀ c ∈ s, c.key ≠ key) : delKey s key = s := by
  unfold delKey
  rw [List.filter_eq_self]
  exact fun c hc => decide_eq_true (h c hc)
theorem delKey_none {s : List CellD} {key : ByteArray} (h : idxP (fun c : CellD => decide (c.key = key)) s = -1) : s = delKey s key := by
  refine (delKey_all fun c hc => ?_).symm
  obtain ⟨j, hj, rfl⟩ := List.mem_iff_getElem.1 hc
  have := idxP_no (p := fun c : CellD => decide (c.key = key)) (l := s) (by omega) j hj s[j] (by rw [nth_eq]; simp [hj])
  simpa using this
def delInv (s : List CellD) (key : ByteArray) (j ii : Nat) (D : List CellD) : Prop := D.length = s.length ∧ j ≤ s.length ∧ ii < j ∧ ii = (delKey (s.take j) key).length ∧ D.take ii = delKey (s.take j) key ∧ D.drop j = s.drop j
theorem delStart {s : List CellD} {key : ByteArray} (h : ¬ idxP (fun c : CellD => decide (c.key = key)) s = -1) : ∃ k0 : Nat, idxP (fun c : CellD => decide (c.key = key)) s = (k0 : Int) ∧ k0 < s.length ∧ delInv s key (k0 + 1) k0 s := by
  have hb := idxP_bd (fun c : CellD => decide (c.key = key)) s
  obtain ⟨k0, hk0⟩ : ∃ k0 : Nat, idxP (fun c : CellD => decide (c.key = key)) s = (k0 : Int) := ⟨(idxP (fun c : CellD => decide (c.key = key)) s).toNat, by omega⟩
  have hlt : k0 < s.length := by omega
  have hx : nth s k0 = some s[k0] := by rw [nth_eq]; simp [hlt]
  obtain ⟨h1, h2⟩ := idxP_at hk0 hx
  have e1 : delKey (s.take k0) key = s.take k0 := delKey_all fun c hc => by
    obtain ⟨j, hj, rfl⟩ := List.mem_iff_getElem.1 hc
    rw [List.length_take] at hj
    have := h2 j (by omega) _ (show nth s j = some s[j] by rw [nth_eq]; simp [show j < s.length by omega])
    simpa using this
  have e2 : delKey (s.take (k0 + 1)) key = s.take k0 := by
    rw [nth_take_snoc hx, delKey_snoc, e1, if_pos (by simpa using h1), List.append_nil]
  exact ⟨k0, hk0, hlt, rfl, hlt, by omega, by rw [e2, List.length_take]; omega, e2.symm, rfl⟩
theorem delInv.nthE {s D : List CellD} {key : ByteArray} {j ii : Nat} {x : CellD} (h : delInv s key j ii D) (hx : nth D j = some x) : nth s j = some x := by
  obtain ⟨_, _, _, _, _, h6⟩ := h
  rw [nth_eq] at hx ⊢
  have := congrArg (fun l => l[0]?) h6
  simp only [List.getElem?_drop, Nat.add_zero] at this
  rw [← this]; exact hx
theorem drop_step {α : Type} {D s : List α} {j : Nat} (h : D.drop j = s.drop j) : D.drop (j + 1) = s.drop (j + 1) := by
  rw [← List.drop_drop, ← List.drop_drop, h]
theorem delInv.skip {s D : List CellD} {key : ByteArray} {j ii : Nat} {x : CellD} (h : delInv s key j ii D) (hx : nth D j = some x) (hk : x.key = key) : delInv s key (j + 1) ii D := by
  have hs := h.nthE hx
  obtain ⟨h1, h2, h3, h4, h5, h6⟩ := h
  have e : delKey (s.take (j + 1)) key = delKey (s.take j) key := by rw [nth_take_snoc hs, delKey_snoc, if_pos hk, List.append_nil]
  exact ⟨h1, nth_lt hs, by omega, by rw [e]; exact h4, by rw [e]; exact h5, drop_step h6⟩
theorem delInv.keep {s D : List CellD} {key : ByteArray} {j ii : Nat} {x : CellD} (h : delInv s key j ii D) (hx : nth D j = some x) (hk : ¬ x.key = key) : delInv s key (j + 1) (ii + 1) (D.set ii x) := by
  have hs := h.nthE hx
  obtain ⟨h1, h2, h3, h4, h5, h6⟩ := h
  have e : delKey (s.take (j + 1)) key = delKey (s.take j) key ++ [x] := by rw [nth_take_snoc hs, delKey_snoc, if_neg hk]
  have hlt := nth_lt hs
  refine ⟨by rw [List.length_set]; exact h1, hlt, by omega, by rw [e, List.length_append, ← h4]; rfl, ?_, ?_⟩
  · rw [e, ← h5]
    have hx2 : nth (D.set ii x) ii = some x := by rw [nth_eq, List.getElem?_set_self (by omega)]
    rw [nth_take_snoc hx2, List.take_set, List.set_eq_of_length_le (by rw [List.length_take]; omega)]
  · rw [List.drop_set_of_lt (by omega)]
    exact drop_step h6
theorem delInv.bd {s D : List CellD} {key : ByteArray} {j ii : Nat} (h : delInv s key j ii D) : ii < j ∧ j ≤ s.length ∧ D.length = s.length := ⟨h.2.2.1, h.2.1, h.1⟩
theorem delInv.done {s D : List CellD} {key : ByteArray} {j ii : Nat} (h : delInv s key j ii D) (hj : s.length ≤ j) (r : List CellD) : (D.take ii ++ r).take ii = delKey s key := by
  obtain ⟨h1, h2, h3, h4, h5, h6⟩ := h
  rw [List.take_left' (by rw [List.length_take]; omega), h5, List.take_of_length_le hj]
def insK (r : List CellD) (key val : ByteArray) : List CellD := insAt r (r.findIdx fun c => !leS c.key key) ⟨key, val⟩
def putKey (s : List CellD) (key val : ByteArray) : List CellD := if keyOk key = true ∧ val.size ≤ 60 then (if val = ⟨#[]⟩ then delKey s key else insK (delKey s key) key val) else s
theorem putKey_length (s : List CellD) (key val : ByteArray) : (putKey s key val).length ≤ s.length + 1 := by
  have := delKey_length s key
  unfold putKey
  split
  · split
    · omega
    · unfold insK; rw [insAt_length _ _ _ List.findIdx_le_length]; omega
  · omega
theorem putKey_no {s : List CellD} {key val : ByteArray} (h : keyOk key = false ∨ 60 < val.size) : putKey s key val = s := by
  unfold putKey
  rw [if_neg (fun e => by rcases h with h | h; (rw [h] at e; exact absurd e.1 (by decide)); omega)]
theorem putKey_del {s : List CellD} {key val : ByteArray} (h1 : keyOk key = true) (h3 : val = ⟨#[]⟩) : putKey s key val = delKey s key := by
  subst h3
  unfold putKey
  rw [if_pos ⟨h1, by decide⟩, if_pos rfl]
theorem putKey_ins {s : List CellD} {key val : ByteArray} (h1 : keyOk key = true) (h2 : val.size ≤ 60) (h3 : ¬ val = ⟨#[]⟩) : putKey s key val = insK (delKey s key) key val := by
  unfold putKey
  rw [if_pos ⟨h1, h2⟩, if_neg h3]
theorem insK_at {r : List CellD} {key val : ByteArray} {z : Int} (h : z = idxP (fun c : CellD => !leS c.key key) r) (h0 : 0 ≤ z) : insAt r z.toNat ⟨key, val⟩ = insK r key val := by
  subst h
  unfold insK idxP at *
  split at h0
  · rename_i hlt; rw [if_pos hlt]; rfl
  · omega
theorem insK_end {r : List CellD} {key val : ByteArray} {n : Nat} (hn : n = r.length) (h : idxP (fun c : CellD => !leS c.key key) r < 0) : insAt r ((n : Nat) : Int).toNat ⟨key, val⟩ = insK r key val := by
  subst hn
  unfold insK
  have : r.findIdx (fun c : CellD => !leS c.key key) = r.length := by
    have h1 : r.findIdx (fun c : CellD => !leS c.key key) ≤ r.length := List.findIdx_le_length
    unfold idxP at h
    split at h <;> omega
  rw [this]; rfl
def putF (s : List CellD) (key val : ByteArray) (p : List CellD × Bool) : List CellD × Bool := s.foldl (fun p c =>
  let q := if p.2 = false ∧ (!leS c.key key) = true then (p.1 ++ [⟨key, val⟩], true) else p
  if c.key = key then q else (q.1 ++ [c], q.2)) p
theorem putF_step {s : List CellD} {key val : ByteArray} {p q : List CellD × Bool} {k : Nat} {x : CellD} (h : putF (s.take k) key val p = q) (hx : nth s k = some x) :
    putF (s.take (k + 1)) key val p = (let r := if q.2 = false ∧ (!leS x.key key) = true then (q.1 ++ [⟨key, val⟩], true) else q
      if x.key = key then r else (r.1 ++ [x], r.2)) := by
  subst h
  rw [nth_take_snoc hx]
  unfold putF
  rw [List.foldl_append]
  rfl
theorem leS_self (k : ByteArray) : leS k k = true := by simp [leS]
theorem nt {b : Bool} (h : (!b) = true) : b = false := by simpa using h
theorem nf {b : Bool} (h : (!b) = false) : b = true := by simpa using h
theorem putF_a {s : List CellD} {key val : ByteArray} {p : List CellD × Bool} {O : List CellD} {dd : Bool} {k : Nat} {x : CellD} (h : putF (s.take k) key val p = (O, dd)) (hx : nth s k = some x) (h1 : (!dd) = true) (h2 : (!leS x.key key) = true) (h3 : x.key ≠ key) : putF (s.take (k + 1)) key val p = (O ++ [⟨key, val⟩] ++ [x], true) := by
  rw [putF_step h hx]; simp [nt h1, h2, h3]
theorem putF_b {s : List CellD} {key val : ByteArray} {p : List CellD × Bool} {O : List CellD} {dd : Bool} {k : Nat} {x : CellD} (h : putF (s.take k) key val p = (O, dd)) (hx : nth s k = some x) (h1 : (!dd) = false ∨ (!leS x.key key) = false) (h3 : x.key ≠ key) : putF (s.take (k + 1)) key val p = (O ++ [x], dd) := by
  rw [putF_step h hx]
  rcases h1 with h1 | h1
  · simp [nf h1, h3]
  · simp [nf h1, h3]
theorem putF_c {s : List CellD} {key val : ByteArray} {p : List CellD × Bool} {O : List CellD} {dd : Bool} {k : Nat} {x : CellD} (h : putF (s.take k) key val p = (O, dd)) (hx : nth s k = some x) (h1 : (!dd) = false ∨ (!leS x.key key) = false) (h3 : ¬ x.key ≠ key) : putF (s.take (k + 1)) key val p = (O, dd) := by
  rw [putF_step h hx]
  rcases h1 with h1 | h1
  · simp [Decidable.not_not.1 h3, leS_self]
  · simp [Decidable.not_not.1 h3, leS_self]
theorem putF_d {s : List CellD} {key val : ByteArray} {p : List CellD × Bool} {O : List CellD} {dd : Bool} {k : Nat} {x : CellD} (h : putF (s.take k) key val p = (O, dd)) (hx : nth s k = some x) (_h1 : (!dd) = true) (h2 : (!leS x.key key) = true) (h3 : ¬ x.key ≠ key) : putF (s.take (k + 1)) key val p = (O ++ [⟨key, val⟩], true) := by
  rw [putF_step h hx]
  have h4 := Decidable.not_not.1 h3
  rw [h4, leS_self] at h2
  exact absurd h2 (by decide)
theorem putF_true (s : List CellD) (key val : ByteArray) (o : List CellD) : putF s key val (o, true) = (o ++ delKey s key, true) := by
  induction s generalizing o with
  | nil => simp [putF, delKey]
  | cons c s ih =>
    have e : putF (c :: s) key val (o, true) = putF s key val (if c.key = key then (o, true) else (o ++ [c], true)) := by
      show putF s key val _ = _
      by_cases h : c.key = key <;> simp [h]
    rw [e]
    by_cases h : c.key = key
    · rw [if_pos h, ih]; simp [delKey, h]
    · rw [if_neg h, ih]; simp [delKey, h]
theorem insAt_cons {α : Type} (l : List α) (a : α) (i : Nat) (x : α) : insAt (a :: l) (i + 1) x = a :: insAt l i x := by simp [insAt]
theorem putF_false (s : List CellD) (key val : ByteArray) (o : List CellD) : (putF s key val (o, false)).1 ++ (if (putF s key val (o, false)).2 = false then [⟨key, val⟩] else []) = o ++ insK (delKey s key) key val := by
  induction s generalizing o with
  | nil => simp [putF, delKey, insK, insAt]
  | cons c s ih =>
    by_cases hg : (!leS c.key key) = true
    · have hne : c.key ≠ key := fun e => by rw [e, leS_self] at hg; exact absurd hg (by decide)
      have e : putF (c :: s) key val (o, false) = putF s key val (o ++ [⟨key, val⟩] ++ [c], true) := by
        show putF s key val _ = _
        simp [hg, hne]
      rw [e, putF_true]
      have : delKey (c :: s) key = c :: delKey s key := by simp [delKey, hne]
      rw [this]
      simp [insK, insAt, List.findIdx_cons, hg]
    · have e : putF (c :: s) key val (o, false) = putF s key val (if c.key = key then (o, false) else (o ++ [c], false)) := by
        show putF s key val _ = _
        by_cases h : c.key = key <;> simp [h, hg, leS_self]
      rw [e]
      by_cases h : c.key = key
      · rw [if_pos h, ih]; simp [delKey, h]
      · rw [if_neg h, ih]
        have : delKey (c :: s) key = c :: delKey s key := by simp [delKey, h]
        rw [this]
        simp [insK, List.findIdx_cons, hg, insAt_cons]
theorem putF_end {s : List CellD} {key val : ByteArray} {k : Nat} {O : List CellD} {dd : Bool} (h : putF (s.take k) key val ([], decide (val = ⟨#[]⟩)) = (O, dd)) (hk : s.length ≤ k) (h1 : keyOk key = true) (h2 : val.size ≤ 60) : O ++ (if dd = false then [⟨key, val⟩] else []) = putKey s key val := by
  rw [List.take_of_length_le hk] at h
  by_cases h3 : val = ⟨#[]⟩
  · rw [putKey_del h1 h3]
    rw [decide_eq_true h3, putF_true] at h
    obtain ⟨rfl, rfl⟩ := Prod.mk.inj h
    simp
  · rw [putKey_ins h1 h2 h3]
    rw [decide_eq_false h3] at h
    have := putF_false s key val []
    rw [h] at this
    simpa using this

def layM (m : MachD) (key val : ByteArray) : MachD := ⟨putKey m.store key val, ⟨m.touch.reads, putL m.touch.writes key⟩⟩
end Go.Proofs.YtipdbeklopjbmaaGreatDoor
/-
  Lists are equal; clashes; covers.
-/

namespace Go.Proofs.YtipdbeklopjbmaaGreatDoor
open Go.ChangeShapes Go.WideShapes Go.ChangeAt Go.RowKit
set_option maxRecDepth 100000
set_option maxHeartbeats 1000000

theorem nth_in {α : Type} {l : List α} {k : Nat} {x : α} (h : nth l k = some x) : x ∈ l := List.mem_of_getElem? (by rw [← nth_eq]; exact h)
def hasSuf (s p : ByteArray) : Bool := decide (p.size ≤ s.size ∧ s.extract (s.size - p.size) s.size = p)
def cutSuf (s p : ByteArray) : ByteArray := if hasSuf s p then s.extract 0 (s.size - p.size) else s
def openS (s : ByteArray) : Bool := hasSuf s ⟨#[42]⟩
def stemS (s : ByteArray) : ByteArray := cutSuf s ⟨#[42]⟩
def spanHas (span key : ByteArray) : Bool := if openS span then begins key (stemS span) else decide (span = key)
def spansMeet (a b : ByteArray) : Bool := if openS a && openS b then begins (stemS a) (stemS b) || begins (stemS b) (stemS a) else if openS a then begins b (stemS a) else spanHas b a
def meetAny (a b : List ByteArray) : Bool := a.any fun x => b.any fun y => spansMeet x y
def clashT (a b : TouchD) : Bool := meetAny a.writes b.reads || meetAny a.writes b.writes || meetAny a.reads b.writes
theorem nth_some {α : Type} {l : List α} {k : Nat} (h : k < l.length) : ∃ x, nth l k = some x := ⟨l[k], by rw [nth_eq]; simp [h]⟩
end Go.Proofs.YtipdbeklopjbmaaGreatDoor
/-
  More of what the walks ask of the program.
-/

namespace Go.Proofs.YtipdbeklopjbmaaGreatDoor
open Go.ChangeShapes Go.WideShapes Go.ChangeAt Go.RowKit

end Go.Proofs.YtipdbeklopjbmaaGreatDoor
/-
  Calls, answers, transactions.
-/

namespace Go.Proofs.YtipdbeklopjbmaaGreatDoor
open Go.ChangeShapes Go.WideShapes Go.ChangeAt Go.RowKit
set_option maxRecDepth 100000
set_option maxHeartbeats 1000000

section
variable {P : Program} {ρ : Operand → Value} {w : World} {o : Oper} {x y : Operand} {t u : TypeId}
end
theorem spliceV_get {cur vs : List Value} {off p : Nat} (h : off + vs.length ≤ cur.length) : (spliceV cur off vs)[p]? = if off ≤ p ∧ p < off + vs.length then vs[p - off]? else cur[p]? := by
  unfold spliceV
  rcases Nat.lt_or_ge p off with h1 | h1
  · rw [if_neg (by omega), List.append_assoc, List.getElem?_append_left (by rw [List.length_take]; omega), List.getElem?_take_of_lt h1]
  · rcases Nat.lt_or_ge p (off + vs.length) with h2 | h2
    · rw [if_pos ⟨h1, h2⟩, List.append_assoc, List.getElem?_append_right (by rw [List.length_take]; omega), List.getElem?_append_left (by rw [List.length_take]; omega), List.length_take, Nat.min_eq_left (by omega)]
    · rw [if_neg (by omega), List.getElem?_append_right (by rw [List.length_append, List.length_take]; omega), List.getElem?_drop, List.length_append, List.length_take, Nat.min_eq_left (by omega)]
      congr 1; omega
section
variable {α : Type} {e k : Nat} {enc : α → List Value} {ok : α → Prop}
variable {P : Program} {ops : Array Oper} {Q : Exit → Act → World → Prop} {K : Act → World → Prop} {o : Oper} {a : Act} {w : World} {L : List Atom}
theorem s_storeElF {t : TypeId} {xo z : Operand} {g : Bool} {ad : Option Addr} {b n c off : Nat} {l : List α} {v u : Value} (A : At w L) (i : Nat) (j : Nat) (x y : α) (hk : ∀ x, (enc x).length = k) (h1 : ∀ x, ∀ u ∈ enc x, u.oneCell' = true) (TT : TI P t g 1) (hL : nth L i = some (ow e k enc ok (.slice ad n c) l)) (ha : ad = some ⟨b, 0, none⟩) (hok : okSel L.length [i] = true)
    (hw : Region.wanted o (yielded ops a.tmps) = true) (hd : o.dst = none) (ho : o.op = .store t xo z) (hx : a.eval xo = .pointer (some ⟨b, 0 + j * k + off, none⟩)) (hz : a.eval z = v) (hv : v.cells.toList = [u]) (hj : j < n) (hxj : nth l j = some x) (he : enc y = (enc x).set off u) (hof : off < k) (hy : ok y)
    (kk : ∀ w', Mv L w ([ow e k enc ok (.slice ad n c) (l.set j y)] ++ del L [i]) w' → K a w') : st1 P ops Q o K a w := by
  obtain ⟨cur, g1, g2, g3⟩ := mv_setEl A hk i hL ha hok j hj y hy
  obtain ⟨b', x', e1, e2, e3, e4⟩ := At.ownAt A hk i hL j hj
  rw [ha] at e1
  cases e1
  rw [hxj] at e2
  cases e2
  have hu : u.oneCell' = true := h1 y u (by rw [he]; exact List.mem_iff_getElem?.2 ⟨off, by rw [List.getElem?_set_self (by rw [hk]; exact hof)]⟩)
  have hsame : spliceV cur (j * k + off) [u] = spliceV cur (j * k) (enc y) := by
    apply List.ext_getElem?
    intro p
    rw [spliceV_get (by simp; omega), spliceV_get (by rw [hk]; omega), hk, List.length_singleton]
    by_cases hp : j * k ≤ p ∧ p < j * k + k
    · rw [if_pos hp, he]
      by_cases hq : p = j * k + off
      · subst hq
        rw [if_pos (by omega), Nat.sub_self, Nat.add_sub_cancel_left, List.getElem?_set_self (by rw [hk]; exact hof)]; rfl
      · rw [if_neg (by omega), List.getElem?_set_ne (by omega)]
        have hlt : p - j * k < (enc x).length := by rw [hk]; omega
        have h5 := e4 (p - j * k) _ (List.getElem?_eq_getElem hlt)
        rw [add_flat] at h5
        unfold World.cell? at h5
        simp only [g1] at h5
        rw [List.getElem?_eq_getElem hlt]
        have h6 : 0 + j * k + (p - j * k) = p := by omega
        rw [h6] at h5
        simpa using h5
    · rw [if_neg hp, if_neg (by omega)]
  refine s_unit hw hd ?_ (kk _ g3)
  have hst := run_storeCells_at P b (j * k + off) e [u] 0 cur.toArray w g1 (by simp; omega) (by intro q hq; rcases List.mem_singleton.1 hq with rfl; exact hu)
  have hsz : v.cells.size = 1 := by
    have := congrArg List.length hv
    simpa using this
  simp only [Nat.add_zero] at hst
  have hs2 : cur.take (j * k + off) ++ [u] ++ cur.drop (j * k + off + [u].length) = spliceV cur (j * k) (enc y) := hsame
  simp only [execOp, ho, hx, hz, Nat.zero_add, Instr.storeAt, Instr.sureAddr, storeVar, hv, Sem.run_bind, Sem.run_pure, Result.andThen_ok, run_sizeOf' TT, hsz, ne_eq, not_true_eq_false, ↓reduceIte, hst]
  rw [← hs2]
end

theorem nth_setSelf {α : Type} {l : List α} {j : Nat} {y x : α} (h : nth l j = some x) : nth (l.set j y) j = some y := by
  rw [nth_eq] at *
  rw [List.getElem?_set_self (List.getElem?_eq_some_iff.1 h).1]
def copyTo {α : Type} (z : α) (k : Nat) (l : List α) : List α := l.take k ++ List.replicate (l.length - k) z
theorem copyTo_start {α : Type} (z : α) (l : List α) {n : Nat} (h : n = l.length) : List.replicate n z = copyTo z 0 l := by subst h; rfl
theorem copyTo_end {α : Type} {z : α} {l : List α} {k : Nat} (h : l.length ≤ k) : copyTo z k l = l := by
  unfold copyTo
  rw [List.take_of_length_le h, show l.length - k = 0 by omega]; exact List.append_nil _
theorem copyTo_step {α : Type} {z x : α} {l : List α} {k : Nat} (hx : nth l k = some x) : (copyTo z k l).set k x = copyTo z (k + 1) l := by
  rw [nth_eq] at hx
  obtain ⟨hk, rfl⟩ := List.getElem?_eq_some_iff.1 hx
  unfold copyTo
  rw [List.set_append, if_neg (by rw [List.length_take]; omega), List.length_take, Nat.min_eq_left (by omega), Nat.sub_self, List.take_succ_eq_append_getElem hk, List.append_assoc, show l.length - k = (l.length - (k + 1)) + 1 by omega, List.replicate_succ, List.set_cons_zero]
  rfl
theorem sz_step {α : Type} {f : α → Nat} {l : List α} {k : Nat} {x : α} (hx : nth l k = some x) : sumOf f (l.take (k + 1)) = sumOf f (l.take k) + f x := sumOf_take f l k x (by rw [← nth_eq]; exact hx)
theorem sz_le {α : Type} (f : α → Nat) (l : List α) (k : Nat) : sumOf f (l.take k) ≤ sumOf f l := by
  conv => rhs; rw [← List.take_append_drop k l]
  unfold sumOf
  rw [List.map_append, List.sum_append]; omega
theorem sz_stop {α : Type} {f : α → Nat} {l : List α} {k : Nat} {x : α} {left lv : Int} (hx : nth l k = some x) (hlv : lv = left - ((l.length + sumOf f (l.take k) : Nat) : Int)) (h : subOr lv (f x) < 0) : -1 = subOr left (l.length + sumOf f l) := by
  have h1 := sz_step (f := f) hx
  have h2 := sz_le f l (k + 1)
  unfold subOr at *
  split at h <;> split <;> omega
theorem sz_neg {left : Int} {n m : Nat} (h : left - ((n : Nat) : Int) < 0) : -1 = subOr left (n + m) := by
  unfold subOr
  split <;> omega
theorem sz_next {α : Type} {f : α → Nat} {l : List α} {k : Nat} {x : α} {left lv : Int} (hx : nth l k = some x) (hlv : lv = left - ((l.length + sumOf f (l.take k) : Nat) : Int)) (h : ¬ subOr lv (f x) < 0) : subOr lv (f x) = left - ((l.length + sumOf f (l.take (k + 1)) : Nat) : Int) ∧ 0 ≤ subOr lv (f x) := by
  have h1 := sz_step (f := f) hx
  unfold subOr at *
  split at h
  · rename_i h3
    rw [if_pos h3]
    omega
  · omega
theorem sz_done {α : Type} {f : α → Nat} {l : List α} {k : Nat} {left lv : Int} (hk : l.length ≤ k) (hlv : lv = left - ((l.length + sumOf f (l.take k) : Nat) : Int)) (h0 : 0 ≤ lv) : lv = subOr left (l.length + sumOf f l) := by
  rw [List.take_of_length_le hk] at hlv
  unfold subOr
  split <;> omega
theorem subOr_neg1 {left : Int} {a : Nat} (h : subOr left a < 0) : -1 = subOr left a := by
  unfold subOr at *
  split at h <;> split <;> omega
theorem sz1_a {left : Int} {A : Nat} (h : left - ((A : Nat) : Int) < 0) : -1 = subOr left A := by unfold subOr; split <;> omega
theorem sz1_b {left : Int} {A : Nat} (h : ¬ left - ((A : Nat) : Int) < 0) : left - ((A : Nat) : Int) = subOr left A := by unfold subOr; split <;> omega
def cntX (x : TxD) : Nat := 6 * x.calls.length + (3 * x.answers.length + (cntT x.touch + x.marks.length))
theorem el_eq {α : Type} {a b : List α} {k : Nat} {x y : α} (p : a = b) (h1 : nth a k = some x) (h2 : nth b k = some y) : x = y := by
  subst p
  exact Option.some.inj (h1.symm.trans h2)
end Go.Proofs.YtipdbeklopjbmaaGreatDoor
/-
  Two cells are compared.
-/

namespace Go.Proofs.YtipdbeklopjbmaaGreatDoor
open Go.ChangeShapes Go.WideShapes Go.ChangeAt Go.RowKit
end Go.Proofs.YtipdbeklopjbmaaGreatDoor
/-
  What is changed is among the writes; what is wiped is gone.
-/

namespace Go.Proofs.YtipdbeklopjbmaaGreatDoor
open Go.ChangeShapes Go.WideShapes Go.ChangeAt Go.RowKit
set_option maxRecDepth 100000
set_option maxHeartbeats 1000000

theorem getKey_eq (l : List CellD) (key : ByteArray) : getKey l key = ((l.find? fun c : CellD => decide (c.key = key)).map (·.val)).getD ⟨#[]⟩ := by
  unfold getKey
  cases l.find? (fun c : CellD => decide (c.key = key)) <;> rfl
theorem getKey_del {l : List CellD} {key k : ByteArray} (h : k ≠ key) : getKey (delKey l key) k = getKey l k := by
  rw [getKey_eq, getKey_eq]
  unfold delKey
  rw [List.find?_filter]
  congr 3
  funext c
  by_cases e : c.key = k
  · simp [e, h]
  · simp [e]
theorem getKey_ins {l : List CellD} {key val k : ByteArray} (h : k ≠ key) : getKey (insK l key val) k = getKey l k := by
  rw [getKey_eq, getKey_eq]
  unfold insK insAt
  have e : ∀ i, (l.take i ++ ⟨key, val⟩ :: l.drop i).find? (fun c : CellD => decide (c.key = k)) = l.find? (fun c : CellD => decide (c.key = k)) := fun i => by
    rw [List.find?_append, List.find?_cons_of_neg (by simpa using fun e => h e.symm), ← List.find?_append, List.take_append_drop]
  rw [e]
theorem getKey_put {l : List CellD} {key val k : ByteArray} (h : k ≠ key) : getKey (putKey l key val) k = getKey l k := by
  unfold putKey
  split
  · split
    · exact getKey_del h
    · rw [getKey_ins h, getKey_del h]
  · rfl
theorem keysUnder_mem {l : List CellD} {p k : ByteArray} : k ∈ keysUnder l p ↔ (∃ c ∈ l, c.key = k) ∧ begins k p = true := by
  simp only [keysUnder, List.mem_map, List.mem_filter]
  constructor
  · rintro ⟨c, ⟨h1, h2⟩, rfl⟩; exact ⟨⟨c, h1, rfl⟩, h2⟩
  · rintro ⟨⟨c, h1, rfl⟩, h2⟩; exact ⟨c, ⟨h1, h2⟩, rfl⟩
def cellOk (s : List CellD) (k : Nat) : Bool := match nth s k with
  | some x => keyOk x.key && inB x.val.size 1 60 && (decide (k = 0) || match nth s (k - 1) with
    | some y => ltS y.key x.key
    | none => true)
  | none => true
def storeOk (s : List CellD) : Bool := (List.range s.length).all (cellOk s) && decide (s.length ≤ 900)
theorem ck_1 {s : List CellD} {k : Nat} {x : CellD} (hx : nth s k = some x) (h : (!keyOk x.key) = true) : true = !cellOk s k := by simp [cellOk, hx, nt h]
theorem ck_2 {s : List CellD} {k : Nat} {x : CellD} (hx : nth s k = some x) (_h1 : (!keyOk x.key) = false) (h2 : (!inB x.val.size 1 60) = true) : true = !cellOk s k := by simp [cellOk, hx, nt h2]
theorem ck_3 {s : List CellD} {k : Nat} {x : CellD} (hx : nth s k = some x) (h1 : (!keyOk x.key) = false) (h2 : (!inB x.val.size 1 60) = false) (h3 : ¬ k > 0) : false = !cellOk s k := by
  have : k = 0 := by omega
  subst this
  simp [cellOk, hx, nf h1, nf h2]
theorem ck_4 {s : List CellD} {k : Nat} {x y : CellD} (hx : nth s k = some x) (h1 : (!keyOk x.key) = false) (h2 : (!inB x.val.size 1 60) = false) (h3 : k > 0) (hy : nth s (k - 1) = some y) : (!ltS y.key x.key) = !cellOk s k := by
  have : ¬ k = 0 := by omega
  simp [cellOk, hx, nf h1, nf h2, hy, this]
theorem storeOk_bad {s : List CellD} {k : Nat} (hk : k < s.length) (h : cellOk s k = false) : storeOk s = false := by
  have : (List.range s.length).all (cellOk s) = false := List.all_eq_false.2 ⟨k, List.mem_range.2 hk, by simp [h]⟩
  simp [storeOk, this]
theorem storeOk_all {s : List CellD} (h : ∀ j, j < s.length → cellOk s j = true) : storeOk s = decide (s.length ≤ 900) := by
  have : (List.range s.length).all (cellOk s) = true := List.all_eq_true.2 fun j hj => h j (List.mem_range.1 hj)
  simp [storeOk, this]
theorem delKey_mem {s : List CellD} {key : ByteArray} {c : CellD} : c ∈ delKey s key ↔ c ∈ s ∧ c.key ≠ key := by
  unfold delKey
  rw [List.mem_filter]
  simp
end Go.Proofs.YtipdbeklopjbmaaGreatDoor
/-
  What the contracts of the library's functions on numbers and figures ask of the program: its bodies, its types.
-/

namespace Go.Proofs.YtipdbeklopjbmaaGreatDoor
set_option maxRecDepth 100000
def laysItoa_ren : Go.Shelf.Ren := ⟨fun | 171 => 182 | 243 => 233 | 246 => 304 | 283 => 349 | 284 => 350 | 285 => 351 | 286 => 352 | 129 => 315 | 317 => 369 | 318 => 370 | 319 => 371 | 320 => 372 | 337 => 379 | 338 => 380 | n => n, fun | 3 => 3 | 9 => 9 | 2 => 2 | 4 => 4 | 171 => 352 | 0 => 0 | 53 => 331 | 37 => 62 | 5 => 5 | 173 => 354 | 212 => 367 | 51 => 329 | 20 => 20 | 213 => 368 | 46 => 214 | 232 => 374 | 233 => 375 | n => n, fun | 17 => 6 | 18 => 7 | 19 => 8 | n => n⟩
theorem laysItoa : Go.Proofs.LaysM.n171 Tryz.prog laysItoa_ren where
  mixed := by kernel_rfl
  f129 := Tryz.func315.trans (congrArg some (by kernel_rfl))
  f171 := Tryz.func182.trans (congrArg some (by kernel_rfl))
  f243 := Tryz.func233.trans (congrArg some (by kernel_rfl))
  f246 := Tryz.func304.trans (congrArg some (by kernel_rfl))
  f283 := Tryz.func349.trans (congrArg some (by kernel_rfl))
  f284 := Tryz.func350.trans (congrArg some (by kernel_rfl))
  f285 := Tryz.func351.trans (congrArg some (by kernel_rfl))
  f286 := Tryz.func352.trans (congrArg some (by kernel_rfl))
  f317 := Tryz.func369.trans (congrArg some (by kernel_rfl))
  f318 := Tryz.func370.trans (congrArg some (by kernel_rfl))
  f319 := Tryz.func371.trans (congrArg some (by kernel_rfl))
  f320 := Tryz.func372.trans (congrArg some (by kernel_rfl))
  f337 := Tryz.func379.trans (congrArg some (by kernel_rfl))
  f338 := Tryz.func380.trans (congrArg some (by kernel_rfl))
  t0 := Tryz.underlying0
  a0 := Tryz.isAgg0
  z0 := Tryz.sizeOf0
  v0 := Tryz.zeroValue0
  t2 := Tryz.underlying2
  a2 := Tryz.isAgg2
  z2 := Tryz.sizeOf2
  v2 := Tryz.zeroValue2
  t3 := Tryz.underlying3
  a3 := Tryz.isAgg3
  z3 := Tryz.sizeOf3
  v3 := Tryz.zeroValue3
  t4 := Tryz.underlying4
  a4 := Tryz.isAgg4
  z4 := Tryz.sizeOf4
  v4 := Tryz.zeroValue4
  t5 := Tryz.underlying5
  a5 := Tryz.isAgg5
  z5 := Tryz.sizeOf5
  v5 := Tryz.zeroValue5
  t9 := Tryz.underlying9
  a9 := Tryz.isAgg9
  z9 := Tryz.sizeOf9
  v9 := Tryz.zeroValue9
  t20 := Tryz.underlying20
  a20 := Tryz.isAgg20
  z20 := Tryz.sizeOf20
  v20 := Tryz.zeroValue20
  t37 := Tryz.underlying62
  a37 := Tryz.isAgg62
  z37 := Tryz.sizeOf62
  v37 := Tryz.zeroValue62
  t46 := Tryz.underlying214
  a46 := Tryz.isAgg214
  z46 := Tryz.sizeOf214
  v46 := Tryz.zeroValue214
  t51 := Tryz.underlying329
  a51 := Tryz.isAgg329
  z51 := Tryz.sizeOf329
  v51 := Tryz.zeroValue329
  t53 := Tryz.underlying331
  a53 := Tryz.isAgg331
  z53 := Tryz.sizeOf331
  v53 := Tryz.zeroValue331
  t171 := Tryz.underlying352
  a171 := Tryz.isAgg352
  z171 := Tryz.sizeOf352
  v171 := Tryz.zeroValue352
  t173 := Tryz.underlying354
  a173 := Tryz.isAgg354
  z173 := Tryz.sizeOf354
  v173 := Tryz.zeroValue354
  t212 := Tryz.underlying367
  a212 := Tryz.isAgg367
  z212 := Tryz.sizeOf367
  v212 := Tryz.zeroValue367
  t213 := Tryz.underlying368
  a213 := Tryz.isAgg368
  z213 := Tryz.sizeOf368
  t232 := Tryz.underlying374
  a232 := Tryz.isAgg374
  z232 := Tryz.sizeOf374
  v232 := Tryz.zeroValue374
  t233 := Tryz.underlying375
  a233 := Tryz.isAgg375
  z233 := Tryz.sizeOf375
  v233 := Tryz.zeroValue375
  g17 := by kernel_rfl
  g18 := by kernel_rfl
  g19 := by kernel_rfl
  i0 := by kernel_rfl
  i2 := by kernel_rfl
  i3 := by kernel_rfl
  i4 := by kernel_rfl
  i5 := by kernel_rfl
  i9 := by kernel_rfl
  i20 := by kernel_rfl
  i37 := by kernel_rfl
  i46 := by kernel_rfl
  i51 := by kernel_rfl
  i53 := by kernel_rfl
  i171 := by kernel_rfl
  i173 := by kernel_rfl
  i212 := by kernel_rfl
  i232 := by kernel_rfl
  i233 := by kernel_rfl
  m17 := by kernel_rfl
  m18 := by kernel_rfl
  m19 := by kernel_rfl
def laysAtoi_ren : Go.Shelf.Ren := ⟨fun | 172 => 172 | 244 => 205 | 245 => 206 | 247 => 272 | 279 => 273 | 280 => 274 | 281 => 275 | 282 => 276 | 287 => 339 | 316 => 340 | 171 => 182 | 205 => 341 | 321 => 366 | 322 => 367 | 243 => 233 | 246 => 304 | 283 => 349 | 284 => 350 | 285 => 351 | 286 => 352 | 129 => 315 | 317 => 369 | 318 => 370 | 319 => 371 | 320 => 372 | 337 => 379 | 338 => 380 | n => n, fun | 9 => 9 | 3 => 3 | 75 => 197 | 76 => 198 | 4 => 4 | 5 => 5 | 167 => 296 | 37 => 62 | 0 => 0 | 85 => 297 | 2 => 2 | 168 => 299 | 53 => 331 | 175 => 342 | 46 => 214 | 210 => 345 | 127 => 228 | 145 => 365 | 143 => 363 | 21 => 21 | 171 => 352 | 173 => 354 | 212 => 367 | 51 => 329 | 20 => 20 | 213 => 368 | 232 => 374 | 233 => 375 | 80 => 202 | n => n, fun | 15 => 4 | 16 => 5 | 17 => 6 | 18 => 7 | 19 => 8 | n => n⟩
theorem laysAtoi : Go.Proofs.LaysC.n172 Tryz.prog laysAtoi_ren where
  mixed := by kernel_rfl
  f129 := Tryz.func315.trans (congrArg some (by kernel_rfl))
  f171 := Tryz.func182.trans (congrArg some (by kernel_rfl))
  f172 := Tryz.func172.trans (congrArg some (by kernel_rfl))
  f205 := Tryz.func341.trans (congrArg some (by kernel_rfl))
  f243 := Tryz.func233.trans (congrArg some (by kernel_rfl))
  f244 := Tryz.func205.trans (congrArg some (by kernel_rfl))
  f245 := Tryz.func206.trans (congrArg some (by kernel_rfl))
  f246 := Tryz.func304.trans (congrArg some (by kernel_rfl))
  f247 := Tryz.func272.trans (congrArg some (by kernel_rfl))
  f279 := Tryz.func273.trans (congrArg some (by kernel_rfl))
  f280 := Tryz.func274.trans (congrArg some (by kernel_rfl))
  f281 := Tryz.func275.trans (congrArg some (by kernel_rfl))
  f282 := Tryz.func276.trans (congrArg some (by kernel_rfl))
  f283 := Tryz.func349.trans (congrArg some (by kernel_rfl))
  f284 := Tryz.func350.trans (congrArg some (by kernel_rfl))
  f285 := Tryz.func351.trans (congrArg some (by kernel_rfl))
  f286 := Tryz.func352.trans (congrArg some (by kernel_rfl))
  f287 := Tryz.func339.trans (congrArg some (by kernel_rfl))
  f316 := Tryz.func340.trans (congrArg some (by kernel_rfl))
  f317 := Tryz.func369.trans (congrArg some (by kernel_rfl))
  f318 := Tryz.func370.trans (congrArg some (by kernel_rfl))
  f319 := Tryz.func371.trans (congrArg some (by kernel_rfl))
  f320 := Tryz.func372.trans (congrArg some (by kernel_rfl))
  f321 := Tryz.func366.trans (congrArg some (by kernel_rfl))
  f322 := Tryz.func367.trans (congrArg some (by kernel_rfl))
  f337 := Tryz.func379.trans (congrArg some (by kernel_rfl))
  f338 := Tryz.func380.trans (congrArg some (by kernel_rfl))
  t0 := Tryz.underlying0
  a0 := Tryz.isAgg0
  z0 := Tryz.sizeOf0
  v0 := Tryz.zeroValue0
  t2 := Tryz.underlying2
  a2 := Tryz.isAgg2
  z2 := Tryz.sizeOf2
  v2 := Tryz.zeroValue2
  t3 := Tryz.underlying3
  a3 := Tryz.isAgg3
  z3 := Tryz.sizeOf3
  v3 := Tryz.zeroValue3
  t4 := Tryz.underlying4
  a4 := Tryz.isAgg4
  z4 := Tryz.sizeOf4
  v4 := Tryz.zeroValue4
  t5 := Tryz.underlying5
  a5 := Tryz.isAgg5
  z5 := Tryz.sizeOf5
  v5 := Tryz.zeroValue5
  t9 := Tryz.underlying9
  a9 := Tryz.isAgg9
  z9 := Tryz.sizeOf9
  v9 := Tryz.zeroValue9
  t20 := Tryz.underlying20
  a20 := Tryz.isAgg20
  z20 := Tryz.sizeOf20
  v20 := Tryz.zeroValue20
  t21 := Tryz.underlying21
  a21 := Tryz.isAgg21
  z21 := Tryz.sizeOf21
  v21 := Tryz.zeroValue21
  t37 := Tryz.underlying62
  a37 := Tryz.isAgg62
  z37 := Tryz.sizeOf62
  v37 := Tryz.zeroValue62
  t46 := Tryz.underlying214
  a46 := Tryz.isAgg214
  z46 := Tryz.sizeOf214
  v46 := Tryz.zeroValue214
  t51 := Tryz.underlying329
  a51 := Tryz.isAgg329
  z51 := Tryz.sizeOf329
  v51 := Tryz.zeroValue329
  t53 := Tryz.underlying331
  a53 := Tryz.isAgg331
  z53 := Tryz.sizeOf331
  v53 := Tryz.zeroValue331
  t75 := Tryz.underlying197
  a75 := Tryz.isAgg197
  z75 := Tryz.sizeOf197
  v75 := Tryz.zeroValue197
  t76 := Tryz.underlying198
  a76 := Tryz.isAgg198
  z76 := Tryz.sizeOf198
  v76 := Tryz.zeroValue198
  t85 := Tryz.underlying297
  a85 := Tryz.isAgg297
  z85 := Tryz.sizeOf297
  v85 := Tryz.zeroValue297
  t127 := Tryz.underlying228
  a127 := Tryz.isAgg228
  z127 := Tryz.sizeOf228
  v127 := Tryz.zeroValue228
  t143 := Tryz.underlying363
  a143 := Tryz.isAgg363
  z143 := Tryz.sizeOf363
  v143 := Tryz.zeroValue363
  t145 := Tryz.underlying365
  a145 := Tryz.isAgg365
  z145 := Tryz.sizeOf365
  v145 := Tryz.zeroValue365
  t167 := Tryz.underlying296
  a167 := Tryz.isAgg296
  z167 := Tryz.sizeOf296
  v167 := Tryz.zeroValue296
  t168 := Tryz.underlying299
  a168 := Tryz.isAgg299
  z168 := Tryz.sizeOf299
  v168 := Tryz.zeroValue299
  t171 := Tryz.underlying352
  a171 := Tryz.isAgg352
  z171 := Tryz.sizeOf352
  v171 := Tryz.zeroValue352
  t173 := Tryz.underlying354
  a173 := Tryz.isAgg354
  z173 := Tryz.sizeOf354
  v173 := Tryz.zeroValue354
  t175 := Tryz.underlying342
  a175 := Tryz.isAgg342
  z175 := Tryz.sizeOf342
  v175 := Tryz.zeroValue342
  t210 := Tryz.underlying345
  a210 := Tryz.isAgg345
  z210 := Tryz.sizeOf345
  v210 := Tryz.zeroValue345
  t212 := Tryz.underlying367
  a212 := Tryz.isAgg367
  z212 := Tryz.sizeOf367
  v212 := Tryz.zeroValue367
  t213 := Tryz.underlying368
  a213 := Tryz.isAgg368
  z213 := Tryz.sizeOf368
  t232 := Tryz.underlying374
  a232 := Tryz.isAgg374
  z232 := Tryz.sizeOf374
  v232 := Tryz.zeroValue374
  t233 := Tryz.underlying375
  a233 := Tryz.isAgg375
  z233 := Tryz.sizeOf375
  v233 := Tryz.zeroValue375
  g15 := by kernel_rfl
  g16 := by kernel_rfl
  g17 := by kernel_rfl
  g18 := by kernel_rfl
  g19 := by kernel_rfl
  t80 := Tryz.underlying202
  a80 := Tryz.isAgg202
  z80 := Tryz.sizeOf202
  v80 := Tryz.zeroValue202
  i0 := by kernel_rfl
  i2 := by kernel_rfl
  i3 := by kernel_rfl
  i4 := by kernel_rfl
  i5 := by kernel_rfl
  i9 := by kernel_rfl
  i20 := by kernel_rfl
  i21 := by kernel_rfl
  i37 := by kernel_rfl
  i46 := by kernel_rfl
  i51 := by kernel_rfl
  i53 := by kernel_rfl
  i75 := by kernel_rfl
  i76 := by kernel_rfl
  i80 := by kernel_rfl
  i85 := by kernel_rfl
  i127 := by kernel_rfl
  i143 := by kernel_rfl
  i145 := by kernel_rfl
  i167 := by kernel_rfl
  i168 := by kernel_rfl
  i171 := by kernel_rfl
  i173 := by kernel_rfl
  i175 := by kernel_rfl
  i210 := by kernel_rfl
  i212 := by kernel_rfl
  i232 := by kernel_rfl
  i233 := by kernel_rfl
  m15 := by kernel_rfl
  m16 := by kernel_rfl
  m17 := by kernel_rfl
  m18 := by kernel_rfl
  m19 := by kernel_rfl
  c0 := by kernel_rfl
  c2 := by kernel_rfl
  c3 := by kernel_rfl
  c4 := by kernel_rfl
  c5 := by kernel_rfl
  c9 := by kernel_rfl
  c20 := by kernel_rfl
  c21 := by kernel_rfl
  c37 := by kernel_rfl
  c46 := by kernel_rfl
  c51 := by kernel_rfl
  c53 := by kernel_rfl
  c75 := by kernel_rfl
  c76 := by kernel_rfl
  c80 := by kernel_rfl
  c85 := by kernel_rfl
  c127 := by kernel_rfl
  c143 := by kernel_rfl
  c145 := by kernel_rfl
  c167 := by kernel_rfl
  c168 := by kernel_rfl
  c171 := by kernel_rfl
  c173 := by kernel_rfl
  c175 := by kernel_rfl
  c210 := by kernel_rfl
  c212 := by kernel_rfl
  c213 := by kernel_rfl
  c232 := by kernel_rfl
  c233 := by kernel_rfl
def laysHex_ren : Go.Shelf.Ren := ⟨fun | 39 => 175 | 41 => 210 | 40 => 211 | n => n, fun | 30 => 62 | 9 => 9 | 3 => 3 | 0 => 0 | 5 => 5 | 46 => 214 | n => n, fun | n => n⟩
theorem laysHex : Go.Proofs.Lays.ph39 Tryz.prog laysHex_ren where
  mixed := by kernel_rfl
  f39 := Tryz.func175.trans (congrArg some (by kernel_rfl))
  f40 := Tryz.func211.trans (congrArg some (by kernel_rfl))
  f41 := Tryz.func210.trans (congrArg some (by kernel_rfl))
  t0 := Tryz.underlying0
  a0 := Tryz.isAgg0
  z0 := Tryz.sizeOf0
  v0 := Tryz.zeroValue0
  t3 := Tryz.underlying3
  a3 := Tryz.isAgg3
  z3 := Tryz.sizeOf3
  v3 := Tryz.zeroValue3
  t5 := Tryz.underlying5
  a5 := Tryz.isAgg5
  z5 := Tryz.sizeOf5
  v5 := Tryz.zeroValue5
  t9 := Tryz.underlying9
  a9 := Tryz.isAgg9
  z9 := Tryz.sizeOf9
  v9 := Tryz.zeroValue9
  t30 := Tryz.underlying62
  a30 := Tryz.isAgg62
  z30 := Tryz.sizeOf62
  v30 := Tryz.zeroValue62
  t46 := Tryz.underlying214
  a46 := Tryz.isAgg214
  z46 := Tryz.sizeOf214
  v46 := Tryz.zeroValue214
  info5 := by kernel_rfl
def laysUnhex_ren : Go.Shelf.Ren := ⟨fun | 43 => 174 | 42 => 208 | 44 => 209 | n => n, fun | 9 => 9 | 30 => 62 | 35 => 197 | 3 => 3 | 38 => 198 | 4 => 4 | 0 => 0 | 5 => 5 | 47 => 302 | 46 => 214 | 45 => 202 | n => n, fun | 0 => 1 | n => n⟩
theorem laysUnhex : Go.Proofs.Lays.ph43 Tryz.prog laysUnhex_ren where
  mixed := by kernel_rfl
  f42 := Tryz.func208.trans (congrArg some (by kernel_rfl))
  f43 := Tryz.func174.trans (congrArg some (by kernel_rfl))
  f44 := Tryz.func209.trans (congrArg some (by kernel_rfl))
  t0 := Tryz.underlying0
  a0 := Tryz.isAgg0
  z0 := Tryz.sizeOf0
  v0 := Tryz.zeroValue0
  t3 := Tryz.underlying3
  a3 := Tryz.isAgg3
  z3 := Tryz.sizeOf3
  v3 := Tryz.zeroValue3
  t4 := Tryz.underlying4
  a4 := Tryz.isAgg4
  z4 := Tryz.sizeOf4
  v4 := Tryz.zeroValue4
  t5 := Tryz.underlying5
  a5 := Tryz.isAgg5
  z5 := Tryz.sizeOf5
  v5 := Tryz.zeroValue5
  t9 := Tryz.underlying9
  a9 := Tryz.isAgg9
  z9 := Tryz.sizeOf9
  v9 := Tryz.zeroValue9
  t30 := Tryz.underlying62
  a30 := Tryz.isAgg62
  z30 := Tryz.sizeOf62
  v30 := Tryz.zeroValue62
  t35 := Tryz.underlying197
  a35 := Tryz.isAgg197
  z35 := Tryz.sizeOf197
  v35 := Tryz.zeroValue197
  t38 := Tryz.underlying198
  a38 := Tryz.isAgg198
  z38 := Tryz.sizeOf198
  v38 := Tryz.zeroValue198
  t45 := Tryz.underlying202
  a45 := Tryz.isAgg202
  z45 := Tryz.sizeOf202
  v45 := Tryz.zeroValue202
  t46 := Tryz.underlying214
  a46 := Tryz.isAgg214
  z46 := Tryz.sizeOf214
  v46 := Tryz.zeroValue214
  t47 := Tryz.underlying302
  a47 := Tryz.isAgg302
  z47 := Tryz.sizeOf302
  v47 := Tryz.zeroValue302
  g0 := by kernel_rfl
  info5 := by kernel_rfl
def laysSplit_ren : Go.Shelf.Ren := ⟨fun | 146 => 138 | 221 => 171 | 268 => 203 | 138 => 204 | 143 => 202 | 195 => 270 | 197 => 201 | 218 => 271 | 219 => 207 | 260 => 269 | 217 => 277 | 225 => 278 | 224 => 279 | 267 => 280 | 266 => 342 | 314 => 343 | n => n, fun | 9 => 9 | 31 => 44 | 3 => 3 | 4 => 4 | 0 => 0 | 105 => 247 | 21 => 21 | 5 => 5 | 46 => 214 | 119 => 338 | 139 => 341 | 138 => 340 | 146 => 347 | 51 => 329 | n => n, fun | 1 => 0 | 3 => 2 | 4 => 3 | n => n⟩
theorem laysSplit : Go.Proofs.LaysM.n146 Tryz.prog laysSplit_ren where
  mixed := by kernel_rfl
  f138 := Tryz.func204.trans (congrArg some (by kernel_rfl))
  f143 := Tryz.func202.trans (congrArg some (by kernel_rfl))
  f146 := Tryz.func138.trans (congrArg some (by kernel_rfl))
  f195 := Tryz.func270.trans (congrArg some (by kernel_rfl))
  f197 := Tryz.func201.trans (congrArg some (by kernel_rfl))
  f217 := Tryz.func277.trans (congrArg some (by kernel_rfl))
  f218 := Tryz.func271.trans (congrArg some (by kernel_rfl))
  f219 := Tryz.func207.trans (congrArg some (by kernel_rfl))
  f221 := Tryz.func171.trans (congrArg some (by kernel_rfl))
  f224 := Tryz.func279.trans (congrArg some (by kernel_rfl))
  f225 := Tryz.func278.trans (congrArg some (by kernel_rfl))
  f260 := Tryz.func269.trans (congrArg some (by kernel_rfl))
  f266 := Tryz.func342.trans (congrArg some (by kernel_rfl))
  f267 := Tryz.func280.trans (congrArg some (by kernel_rfl))
  f268 := Tryz.func203.trans (congrArg some (by kernel_rfl))
  f314 := Tryz.func343.trans (congrArg some (by kernel_rfl))
  t0 := Tryz.underlying0
  a0 := Tryz.isAgg0
  z0 := Tryz.sizeOf0
  v0 := Tryz.zeroValue0
  t3 := Tryz.underlying3
  a3 := Tryz.isAgg3
  z3 := Tryz.sizeOf3
  v3 := Tryz.zeroValue3
  t4 := Tryz.underlying4
  a4 := Tryz.isAgg4
  z4 := Tryz.sizeOf4
  v4 := Tryz.zeroValue4
  t5 := Tryz.underlying5
  a5 := Tryz.isAgg5
  z5 := Tryz.sizeOf5
  v5 := Tryz.zeroValue5
  t9 := Tryz.underlying9
  a9 := Tryz.isAgg9
  z9 := Tryz.sizeOf9
  v9 := Tryz.zeroValue9
  t21 := Tryz.underlying21
  a21 := Tryz.isAgg21
  z21 := Tryz.sizeOf21
  v21 := Tryz.zeroValue21
  t31 := Tryz.underlying44
  a31 := Tryz.isAgg44
  z31 := Tryz.sizeOf44
  v31 := Tryz.zeroValue44
  t46 := Tryz.underlying214
  a46 := Tryz.isAgg214
  z46 := Tryz.sizeOf214
  v46 := Tryz.zeroValue214
  t51 := Tryz.underlying329
  a51 := Tryz.isAgg329
  z51 := Tryz.sizeOf329
  v51 := Tryz.zeroValue329
  t105 := Tryz.underlying247
  a105 := Tryz.isAgg247
  z105 := Tryz.sizeOf247
  v105 := Tryz.zeroValue247
  t119 := Tryz.underlying338
  a119 := Tryz.isAgg338
  z119 := Tryz.sizeOf338
  t138 := Tryz.underlying340
  a138 := Tryz.isAgg340
  z138 := Tryz.sizeOf340
  v138 := Tryz.zeroValue340
  t139 := Tryz.underlying341
  a139 := Tryz.isAgg341
  z139 := Tryz.sizeOf341
  v139 := Tryz.zeroValue341
  t146 := Tryz.underlying347
  a146 := Tryz.isAgg347
  z146 := Tryz.sizeOf347
  v146 := Tryz.zeroValue347
  g1 := by kernel_rfl
  g3 := by kernel_rfl
  g4 := by kernel_rfl
  i0 := by kernel_rfl
  i3 := by kernel_rfl
  i4 := by kernel_rfl
  i5 := by kernel_rfl
  i9 := by kernel_rfl
  i21 := by kernel_rfl
  i31 := by kernel_rfl
  i46 := by kernel_rfl
  i51 := by kernel_rfl
  i105 := by kernel_rfl
  i138 := by kernel_rfl
  i139 := by kernel_rfl
  i146 := by kernel_rfl
  m1 := by kernel_rfl
  s1_3 := fun w h => Go.Proofs.cell_of_shapedOpen_int (zero := #[.int .i64 0]) (t := 3) h (of_decide_eq_true (by kernel_rfl)) (by kernel_rfl) rfl (by kernel_rfl) (by kernel_rfl) Tryz.underlying3
  m3 := by kernel_rfl
  m4 := by kernel_rfl
def laysCut_ren : Go.Shelf.Ren := ⟨fun | 145 => 140 | 220 => 173 | 219 => 207 | 217 => 277 | 225 => 278 | 224 => 279 | 267 => 280 | 266 => 342 | 314 => 343 | n => n, fun | 9 => 9 | 4 => 4 | 59 => 183 | 3 => 3 | 5 => 5 | 46 => 214 | 146 => 347 | 51 => 329 | n => n, fun | 1 => 0 | n => n⟩
theorem laysCut : Go.Proofs.Lays.n145 Tryz.prog laysCut_ren where
  mixed := by kernel_rfl
  f145 := Tryz.func140.trans (congrArg some (by kernel_rfl))
  f217 := Tryz.func277.trans (congrArg some (by kernel_rfl))
  f219 := Tryz.func207.trans (congrArg some (by kernel_rfl))
  f220 := Tryz.func173.trans (congrArg some (by kernel_rfl))
  f224 := Tryz.func279.trans (congrArg some (by kernel_rfl))
  f225 := Tryz.func278.trans (congrArg some (by kernel_rfl))
  f266 := Tryz.func342.trans (congrArg some (by kernel_rfl))
  f267 := Tryz.func280.trans (congrArg some (by kernel_rfl))
  f314 := Tryz.func343.trans (congrArg some (by kernel_rfl))
  t3 := Tryz.underlying3
  a3 := Tryz.isAgg3
  z3 := Tryz.sizeOf3
  v3 := Tryz.zeroValue3
  t4 := Tryz.underlying4
  a4 := Tryz.isAgg4
  z4 := Tryz.sizeOf4
  v4 := Tryz.zeroValue4
  t5 := Tryz.underlying5
  a5 := Tryz.isAgg5
  z5 := Tryz.sizeOf5
  v5 := Tryz.zeroValue5
  t9 := Tryz.underlying9
  a9 := Tryz.isAgg9
  z9 := Tryz.sizeOf9
  v9 := Tryz.zeroValue9
  t46 := Tryz.underlying214
  a46 := Tryz.isAgg214
  z46 := Tryz.sizeOf214
  v46 := Tryz.zeroValue214
  t51 := Tryz.underlying329
  a51 := Tryz.isAgg329
  z51 := Tryz.sizeOf329
  v51 := Tryz.zeroValue329
  t59 := Tryz.underlying183
  a59 := Tryz.isAgg183
  z59 := Tryz.sizeOf183
  v59 := Tryz.zeroValue183
  t146 := Tryz.underlying347
  a146 := Tryz.isAgg347
  z146 := Tryz.sizeOf347
  v146 := Tryz.zeroValue347
  g1 := by kernel_rfl
def laysIndex_ren : Go.Shelf.Ren := ⟨fun | 143 => 202 | 219 => 207 | 217 => 277 | 225 => 278 | 224 => 279 | 267 => 280 | 266 => 342 | 314 => 343 | n => n, fun | 9 => 9 | 3 => 3 | 4 => 4 | 5 => 5 | 46 => 214 | 146 => 347 | 51 => 329 | n => n, fun | 1 => 0 | n => n⟩
theorem laysIndex : Go.Proofs.Lays.n143 Tryz.prog laysIndex_ren where
  mixed := by kernel_rfl
  f143 := Tryz.func202.trans (congrArg some (by kernel_rfl))
  f217 := Tryz.func277.trans (congrArg some (by kernel_rfl))
  f219 := Tryz.func207.trans (congrArg some (by kernel_rfl))
  f224 := Tryz.func279.trans (congrArg some (by kernel_rfl))
  f225 := Tryz.func278.trans (congrArg some (by kernel_rfl))
  f266 := Tryz.func342.trans (congrArg some (by kernel_rfl))
  f267 := Tryz.func280.trans (congrArg some (by kernel_rfl))
  f314 := Tryz.func343.trans (congrArg some (by kernel_rfl))
  t3 := Tryz.underlying3
  a3 := Tryz.isAgg3
  z3 := Tryz.sizeOf3
  v3 := Tryz.zeroValue3
  t4 := Tryz.underlying4
  a4 := Tryz.isAgg4
  z4 := Tryz.sizeOf4
  v4 := Tryz.zeroValue4
  t5 := Tryz.underlying5
  a5 := Tryz.isAgg5
  z5 := Tryz.sizeOf5
  v5 := Tryz.zeroValue5
  t9 := Tryz.underlying9
  a9 := Tryz.isAgg9
  z9 := Tryz.sizeOf9
  v9 := Tryz.zeroValue9
  t46 := Tryz.underlying214
  a46 := Tryz.isAgg214
  z46 := Tryz.sizeOf214
  v46 := Tryz.zeroValue214
  t51 := Tryz.underlying329
  a51 := Tryz.isAgg329
  z51 := Tryz.sizeOf329
  v51 := Tryz.zeroValue329
  t146 := Tryz.underlying347
  a146 := Tryz.isAgg347
  z146 := Tryz.sizeOf347
  v146 := Tryz.zeroValue347
  g1 := by kernel_rfl
def laysBStr_ren : Go.Shelf.Ren := ⟨fun | 169 => 154 | n => n, fun | 70 => 193 | 9 => 9 | 0 => 0 | 72 => 195 | 37 => 62 | 127 => 228 | 3 => 3 | 5 => 5 | n => n, fun | n => n⟩
theorem laysBStr : Go.Proofs.Lays.n169 Tryz.prog laysBStr_ren where
  mixed := by kernel_rfl
  f169 := Tryz.func154.trans (congrArg some (by kernel_rfl))
  t0 := Tryz.underlying0
  a0 := Tryz.isAgg0
  z0 := Tryz.sizeOf0
  v0 := Tryz.zeroValue0
  t3 := Tryz.underlying3
  a3 := Tryz.isAgg3
  z3 := Tryz.sizeOf3
  v3 := Tryz.zeroValue3
  t9 := Tryz.underlying9
  a9 := Tryz.isAgg9
  z9 := Tryz.sizeOf9
  v9 := Tryz.zeroValue9
  t37 := Tryz.underlying62
  a37 := Tryz.isAgg62
  z37 := Tryz.sizeOf62
  v37 := Tryz.zeroValue62
  t70 := Tryz.underlying193
  a70 := Tryz.isAgg193
  z70 := Tryz.sizeOf193
  v70 := Tryz.zeroValue193
  t72 := Tryz.underlying195
  a72 := Tryz.isAgg195
  z72 := Tryz.sizeOf195
  v72 := Tryz.zeroValue195
  t127 := Tryz.underlying228
  a127 := Tryz.isAgg228
  z127 := Tryz.sizeOf228
  v127 := Tryz.zeroValue228
def laysBWr_ren : Go.Shelf.Ren := ⟨fun | 166 => 150 | 240 => 181 | 276 => 232 | n => n, fun | 70 => 193 | 9 => 9 | 3 => 3 | 75 => 197 | 0 => 0 | 72 => 195 | 37 => 62 | 4 => 4 | 164 => 271 | 80 => 202 | 5 => 5 | n => n, fun | n => n⟩
theorem laysBWr : Go.Proofs.Lays.n166 Tryz.prog laysBWr_ren where
  mixed := by kernel_rfl
  f166 := Tryz.func150.trans (congrArg some (by kernel_rfl))
  f240 := Tryz.func181.trans (congrArg some (by kernel_rfl))
  f276 := Tryz.func232.trans (congrArg some (by kernel_rfl))
  t0 := Tryz.underlying0
  a0 := Tryz.isAgg0
  z0 := Tryz.sizeOf0
  v0 := Tryz.zeroValue0
  t3 := Tryz.underlying3
  a3 := Tryz.isAgg3
  z3 := Tryz.sizeOf3
  v3 := Tryz.zeroValue3
  t4 := Tryz.underlying4
  a4 := Tryz.isAgg4
  z4 := Tryz.sizeOf4
  v4 := Tryz.zeroValue4
  t9 := Tryz.underlying9
  a9 := Tryz.isAgg9
  z9 := Tryz.sizeOf9
  v9 := Tryz.zeroValue9
  t20 := Tryz.underlying20
  a20 := Tryz.isAgg20
  z20 := Tryz.sizeOf20
  v20 := Tryz.zeroValue20
  t37 := Tryz.underlying62
  a37 := Tryz.isAgg62
  z37 := Tryz.sizeOf62
  v37 := Tryz.zeroValue62
  t70 := Tryz.underlying193
  a70 := Tryz.isAgg193
  z70 := Tryz.sizeOf193
  v70 := Tryz.zeroValue193
  t72 := Tryz.underlying195
  a72 := Tryz.isAgg195
  z72 := Tryz.sizeOf195
  v72 := Tryz.zeroValue195
  t75 := Tryz.underlying197
  a75 := Tryz.isAgg197
  z75 := Tryz.sizeOf197
  v75 := Tryz.zeroValue197
  t164 := Tryz.underlying271
  a164 := Tryz.isAgg271
  z164 := Tryz.sizeOf271
  v164 := Tryz.zeroValue271
end Go.Proofs.YtipdbeklopjbmaaGreatDoor
/-
  Tables and variables of the library that the walks lean on: they stand as they were laid, in blocks that no piece holds.
-/

namespace Go.Proofs.YtipdbeklopjbmaaGreatDoor
open Go.ChangeShapes Go.WideShapes Go.ChangeAt Go.RowKit
def Ground : Nat → World → Prop
  | 0, w => Lib.TabIs Tryz.prog w "internal/strconv.uint64pow10" .u64 Lib.pow10Tab
  | 1, w => (∃ ev, w.cell? ⟨laysAtoi_ren.g 15, 0, none⟩ = some ev ∧ errV ev) ∧ ∃ ev, w.cell? ⟨laysAtoi_ren.g 16, 0, none⟩ = some ev ∧ errV ev
  | _, w => ∃ ev, w.cell? ⟨laysUnhex_ren.g 0, 0, none⟩ = some ev ∧ errV ev
def GS : Nat → List Nat
  | 0 => [laysItoa_ren.g 17]
  | 1 => [laysAtoi_ren.g 15, laysAtoi_ren.g 16]
  | _ => [laysUnhex_ren.g 0]
theorem cell_same {w w' : World} {g : Nat} (e : w'.heap[g]? = w.heap[g]?) : w'.cell? ⟨g, 0, none⟩ = w.cell? ⟨g, 0, none⟩ := by
  unfold World.cell?
  simp only [e]
theorem Ground.same : ∀ {K : Nat} {w w' : World}, Ground K w → (∀ g ∈ GS K, w'.heap[g]? = w.heap[g]?) → Ground K w'
  | 0, w, w', h, e => by
    have hg : Tryz.prog.globalNamed "internal/strconv.uint64pow10" = some (laysItoa_ren.g 17) := laysItoa.m17
    have e := e _ (List.mem_singleton.2 rfl)
    generalize laysItoa_ren.g 17 = g at hg e
    have h2 : ∀ v : World, v.var? Tryz.prog "internal/strconv.uint64pow10" = match v.heap[g]? with
        | some (.cells cs _ _) => some cs
        | _ => none := fun v => by unfold World.var?; rw [hg]; rfl
    show w'.var? _ _ = _
    have h3 : w.var? Tryz.prog "internal/strconv.uint64pow10" = _ := h
    rw [h2, e, ← h2]; exact h3
  | 1, w, w', ⟨h1, h2⟩, e => by
    have e1 := cell_same (e _ (List.mem_cons_self ..))
    have e2 := cell_same (e _ (List.mem_cons_of_mem _ (List.mem_singleton.2 rfl)))
    show (∃ ev, w'.cell? ⟨laysAtoi_ren.g 15, 0, none⟩ = some ev ∧ errV ev) ∧ ∃ ev, w'.cell? ⟨laysAtoi_ren.g 16, 0, none⟩ = some ev ∧ errV ev
    rw [e1, e2]; exact ⟨h1, h2⟩
  | _ + 2, w, w', h, e => by
    have e1 := cell_same (e _ (List.mem_singleton.2 rfl))
    show ∃ ev, w'.cell? ⟨laysUnhex_ren.g 0, 0, none⟩ = some ev ∧ errV ev
    rw [e1]; exact h
def Tb (K : Nat) (H : Nat → Prop) (w : World) : Prop := Ground K w ∧ ∀ g ∈ GS K, H g ∧ g < w.heap.size
section
variable {K : Nat} {H : Nat → Prop} {w : World}
theorem Tb.mono {H' : Nat → Prop} (h : Tb K H w) (hH : ∀ b, H b → H' b) : Tb K H' w := ⟨h.1, fun g hg => ⟨hH _ (h.2 g hg).1, (h.2 g hg).2⟩⟩
theorem Tb.top (h : Tb K H w) : Tb K (fun _ => True) w := h.mono fun _ _ => trivial
theorem Tb.start {L : List Atom} (h : Tb K H w) (hL : ∀ b, H b → ¬ fps L b) : Tb K (V H w L) w := h.1 |> fun h1 => ⟨h1, fun g hg => ⟨⟨.inl (h.2 g hg).1, hL _ (h.2 g hg).1⟩, (h.2 g hg).2⟩⟩
theorem Tb.mv {G : Nat → Prop} {w0 w' : World} {L L' : List Atom} (h : Tb K (V G w0 L) w) (m : Mv L w L' w') : Tb K (V G w0 L') w' :=
  ⟨h.1.same fun g hg => m.kp.block g (h.2 g hg).2 (h.2 g hg).1.2, fun g hg => by
    have h1 := h.2 g hg
    refine ⟨⟨h1.1.1, fun hf => ?_⟩, Nat.lt_of_lt_of_le h1.2 m.kp.size⟩
    rcases m.fresh g hf with h2 | h2
    · exact h1.1.2 h2
    · omega⟩
end
theorem mv_below {w w' : World} (h : Below w.heap.size w w') : Mv [] w [] w' := ⟨At.nil _, fun _ h => .inl h, ⟨h.os, h.tape, h.output, h.size, fun k hk _ => h.block k hk⟩⟩
theorem below_grow (w : World) (k : Nat) (os : Array Obj) : Below w.heap.size w (Sort.grow (w.drewN k) os) := ⟨rfl, rfl, rfl, by simp [Sort.grow], fun i hi => by simp [Sort.grow, Array.getElem?_append_left hi]⟩
def atoiR (s : ByteArray) (r : Int) (ev : Value) : Prop := (Lib.atoiAll s.data.toList = .ok r ∧ ev = .nilIface) ∨ ((∀ v, Lib.atoiAll s.data.toList ≠ .ok v) ∧ isErr ev = true)
end Go.Proofs.YtipdbeklopjbmaaGreatDoor
