/-
  Kernels that are as they should be: plain functions.
-/
import Derived.Test.YtgfilegkabbliaaGreatDatKn
import Derived.Test.YtgfilegkabbliaaGreatDatFo
namespace Go.Proofs.YtgfilegkabbliaaGreat
open Go.ChangeShapes Go.WideShapes Go.ChangeAt Go.RowKit
set_option maxRecDepth 100000
set_option maxHeartbeats 1000000

theorem take_at {α : Type} {l : List α} {i k : Nat} {x : α} (h : nth (l.take i) k = some x) : nth l k = some x ∧ k < i := by
  rw [nth_eq] at *
  have hk := (List.getElem?_eq_some_iff.1 h).1
  rw [List.length_take] at hk
  rw [List.getElem?_take_of_lt (by omega)] at h
  exact ⟨h, by omega⟩
def badXY (x y : TxD) : Bool := decide (x.state = 1) && (decide (y.state = 1) && clashT x.touch y.touch)
theorem bd_1 {x y : TxD} (h : ¬ x.state = 1) : badXY x y = false := by unfold badXY; rw [decide_eq_false h]; rfl
theorem bd_2 {x y : TxD} (h : ¬ y.state = 1) : badXY x y = false := by unfold badXY; rw [decide_eq_false h]; cases decide (x.state = 1) <;> rfl
theorem bd_3 {x y : TxD} (h : clashT x.touch y.touch = false) : badXY x y = false := by unfold badXY; rw [h]; cases decide (x.state = 1) <;> cases decide (y.state = 1) <;> rfl
theorem bd_4 {x y : TxD} (h : x.state = 1) (h2 : y.state = 1) : clashT x.touch y.touch = badXY x y := by unfold badXY; rw [decide_eq_true h, decide_eq_true h2]; rfl
def apartAt (L : List TxD) (i j : Nat) : Bool := match nth L i, nth L j with
  | some x, some y => !badXY x y
  | _, _ => true
def apartL (L : List TxD) : Bool := (List.range L.length).all fun i => (List.range i).all fun j => apartAt L i j
theorem apart_bad {D : List TxH} {i j : Nat} {x y : TxH} (hx : nth D i = some x) (hy : nth D j = some y) (hj : j < i) (h : badXY x.d y.d = true) : false = apartL (D.map TxH.d) := by
  have h1 : apartAt (D.map TxH.d) i j = false := by unfold apartAt; rw [map_at hx, map_at hy]; simp [h]
  have h2 : (List.range i).all (fun j => apartAt (D.map TxH.d) i j) = false := List.all_eq_false.2 ⟨j, List.mem_range.2 hj, by simp [h1]⟩
  exact (List.all_eq_false.2 ⟨i, List.mem_range.2 (by rw [List.length_map]; exact nth_lt hx), by simp [h2]⟩).symm
theorem apart_all {D : List TxH} {n : Nat} (hn : D.length ≤ n) (h : ∀ i, i < n → ∀ j, j < i → ∀ x y, nth D i = some x → nth D j = some y → badXY x.d y.d = false) : true = apartL (D.map TxH.d) := by
  refine (List.all_eq_true.2 fun i hi => List.all_eq_true.2 fun j hj => ?_).symm
  rw [List.mem_range] at hi hj
  rw [List.length_map] at hi
  obtain ⟨x, hx⟩ := nth_some (l := D) (k := i) hi
  obtain ⟨y, hy⟩ := nth_some (l := D) (k := j) (by omega)
  show apartAt (D.map TxH.d) i j = true
  unfold apartAt
  rw [map_at hx, map_at hy]
  simp [h i (by omega) j hj x y hx hy]
theorem row_step {D : List TxH} {k q : Nat} (h : ∀ i, i < k → ∀ j, j < i → ∀ x y, nth D i = some x → nth D j = some y → badXY x.d y.d = false) (hq : k ≤ q) (h2 : ∀ j, j < q → ∀ y, nth D j = some y → ∀ x, nth D k = some x → badXY x.d y.d = false) : ∀ i, i < k + 1 → ∀ j, j < i → ∀ x y, nth D i = some x → nth D j = some y → badXY x.d y.d = false := fun i hi j hj x y hx hy => by
  rcases Nat.lt_or_ge i k with h1 | h1
  · exact h i h1 j hj x y hx hy
  · obtain rfl : i = k := by omega
    exact h2 j (by omega) y hy x hx
/-- Ids are less than the next one, and each is there once. -/
def idBad (L : List TxD) (next : Int) (i : Nat) : Bool := match nth L i with
  | some x => decide (x.id ≥ next) || decide (findT L x.id ≠ ((i : Nat) : Int))
  | none => false
theorem find_here {L : List TxD} {i : Nat} {x : TxD} (hx : nth L i = some x) : findT (L.take i) x.id ≥ 0 ↔ findT L x.id ≠ ((i : Nat) : Int) := by
  constructor
  · intro h
    have hb := findT_bd (L.take i) x.id
    rw [List.length_take] at hb
    have e : findT (L.take i) x.id = (((findT (L.take i) x.id).toNat : Nat) : Int) := by omega
    obtain ⟨y, hy⟩ := nth_some (l := L.take i) (k := (findT (L.take i) x.id).toNat) (by rw [List.length_take]; omega)
    obtain ⟨h1, h2⟩ := idxP_at (p := fun z : TxD => decide (z.id = x.id)) e hy
    have h3 : findT L x.id = (((findT (L.take i) x.id).toNat : Nat) : Int) := by
      refine idxP_found _ L _ y (by rw [← nth_eq]; exact (take_at hy).1) h1 fun q hq z hz => ?_
      refine h2 q hq z ?_
      rw [nth_eq, List.getElem?_take_of_lt (by omega)]; exact hz
    omega
  · intro h
    apply Decidable.byContradiction
    intro h1
    refine h (idxP_found _ L i x (by rw [← nth_eq]; exact hx) (decide_eq_true rfl) fun q hq z hz => ?_)
    have hl := (List.getElem?_eq_some_iff.1 (by rw [nth_eq] at hx; exact hx)).1
    refine idxP_no (p := fun z : TxD => decide (z.id = x.id)) (l := L.take i) (by exact fun h2 => h1 h2) q (by rw [List.length_take]; omega) z ?_
    rw [nth_eq, List.getElem?_take_of_lt hq]; exact hz
theorem ib_1 {D : List TxH} {next : Int} {i : Nat} {x : TxH} (hx : nth D i = some x) (h : x.d.id ≥ next) : true = idBad (D.map TxH.d) next i := by unfold idBad; rw [map_at hx]; simp only []; rw [decide_eq_true h]; rfl
theorem ib_2 {D : List TxH} {next : Int} {i : Nat} {x : TxH} (hx : nth D i = some x) (h : ¬ x.d.id ≥ next) : decide (findT ((D.take i).map TxH.d) x.d.id ≥ 0) = idBad (D.map TxH.d) next i := by
  unfold idBad; rw [map_at hx]; simp only []
  rw [decide_eq_false h, Bool.false_or, List.map_take]
  exact dec_of (find_here (map_at hx))
theorem ib_3 {D : List TxH} {next : Int} {i : Nat} {x : TxH} (hx : nth D i = some x) (h : ¬ x.d.id ≥ next) : decide (findT (D.map TxH.d) x.d.id ≠ ((i : Nat) : Int)) = idBad (D.map TxH.d) next i := by
  unfold idBad; rw [map_at hx]; simp only []
  rw [decide_eq_false h, Bool.false_or]
def kernOk (s : List CellD) (l : List TxD) (sl : List SlotD) (j : JouD) (seq next : Int) : Bool := storeOk s && (diskOk sl j && (inB seq 0 99000 && (((List.range l.length).all fun i => !idBad l next i) && apartL l)))
theorem ko_s {s : List CellD} {l : List TxD} {sl : List SlotD} {j : JouD} {seq next : Int} (h : storeOk s = false) : false = kernOk s l sl j seq next := by unfold kernOk; rw [h]; rfl
theorem ko_d {s : List CellD} {l : List TxD} {sl : List SlotD} {j : JouD} {seq next : Int} (h : diskOk sl j = false) : false = kernOk s l sl j seq next := by unfold kernOk; rw [h]; cases storeOk s <;> rfl
theorem ko_q {s : List CellD} {l : List TxD} {sl : List SlotD} {j : JouD} {seq next : Int} (h : inB seq 0 99000 = false) : false = kernOk s l sl j seq next := by unfold kernOk; rw [h]; cases storeOk s <;> cases diskOk sl j <;> rfl
theorem ko_i {s : List CellD} {l : List TxD} {sl : List SlotD} {j : JouD} {seq next : Int} {i : Nat} (hi : i < l.length) (h : idBad l next i = true) : false = kernOk s l sl j seq next := by
  have : ((List.range l.length).all fun i => !idBad l next i) = false := List.all_eq_false.2 ⟨i, List.mem_range.2 hi, by simp [h]⟩
  unfold kernOk; rw [this]; cases storeOk s <;> cases diskOk sl j <;> cases inB seq 0 99000 <;> rfl
theorem ko_t {s : List CellD} {l : List TxD} {sl : List SlotD} {j : JouD} {seq next : Int} {n : Nat} (h1 : storeOk s = true) (h2 : diskOk sl j = true) (h3 : inB seq 0 99000 = true) (hn : l.length ≤ n) (h4 : ∀ i, i < n → idBad l next i = false) : apartL l = kernOk s l sl j seq next := by
  have : ((List.range l.length).all fun i => !idBad l next i) = true := List.all_eq_true.2 fun i hi => by rw [h4 i (by have := List.mem_range.1 hi; omega)]; rfl
  unfold kernOk; rw [this, h1, h2, h3]; rfl
theorem idb_step {l : List TxD} {next : Int} {k : Nat} (h : ∀ i, i < k → idBad l next i = false) (hk : idBad l next k = false) : ∀ i, i < k + 1 → idBad l next i = false := fun i hi => by
  rcases Nat.lt_or_ge i k with h1 | h1
  · exact h i h1
  · obtain rfl : i = k := by omega
    exact hk
theorem kern_congr {s : List CellD} {l l' : List TxD} {sl sl' : List SlotD} {j : JouD} {seq next : Int} (h : l = l') (h2 : sl = sl') : kernOk s l sl j seq next = kernOk s l' sl' j seq next := by rw [h, h2]
end Go.Proofs.YtgfilegkabbliaaGreat
