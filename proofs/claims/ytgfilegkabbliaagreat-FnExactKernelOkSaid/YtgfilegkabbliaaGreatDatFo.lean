/-
  Disks that are as they should be, that fall, whose folding ends: plain functions.
-/
import Derived.Test.YtgfilegkabbliaaGreatDatSl
import Derived.Test.YtgfilegkabbliaaGreatDatB
namespace Go.Proofs.YtgfilegkabbliaaGreat
open Go.ChangeShapes Go.WideShapes Go.ChangeAt Go.RowKit
set_option maxRecDepth 100000
set_option maxHeartbeats 1000000

theorem bytes_le : ∀ l m : List UInt8, (Op.bytesLess l m || decide (l = m)) = !Op.bytesLess m l
  | [], [] => rfl
  | [], _ :: _ => rfl
  | _ :: _, [] => rfl
  | a :: l, b :: m => by
    have ih := bytes_le l m
    simp only [Op.bytesLess]
    by_cases h : a = b
    · subst h
      have h1 : ¬ a < a := UInt8.lt_irrefl a
      simp only [h1, decide_false, Bool.false_or, beq_self_eq_true, Bool.true_and, List.cons.injEq, true_and]
      exact ih
    · have h2 : ¬ b = a := fun e => h e.symm
      have h3 : (a == b) = false := by simpa using h
      have h4 : (b == a) = false := by simpa using h2
      simp only [h3, h4, Bool.false_and, Bool.or_false, List.cons.injEq, h, false_and, decide_false]
      by_cases h5 : a < b
      · have h6 : ¬ b < a := fun e => UInt8.lt_asymm h5 e
        simp [h5, h6]
      · have h6 : b < a := by
          rcases UInt8.lt_or_lt_of_ne h with e | e
          · exact absurd e h5
          · exact e
        simp [h5, h6]
theorem leS_not (x y : ByteArray) : leS x y = !ltS y x := by
  unfold leS ltS
  rw [← bytes_le]
  congr 1
  rw [← bytes_beq]
  cases h : x.toList == y.toList
  · rw [decide_eq_false (fun e => by rw [e] at h; simp at h)]
  · rw [decide_eq_true (by simpa using h)]
theorem ck_5 {s : List CellD} {k : Nat} {x y : CellD} (hx : nth s k = some x) (h1 : (!keyOk x.key) = false) (h2 : (!inB x.val.size 1 60) = false) (h3 : k > 0) (hy : nth s (k - 1) = some y) : leS x.key y.key = !cellOk s k := by
  rw [leS_not]
  exact ck_4 hx h1 h2 h3 hy
/-- The best slot. -/
def seqAt (l : List SlotD) (b : Int) : Int := match nth l b.toNat with
  | some x => x.seq
  | none => 0
def bestTo (l : List SlotD) : Nat → Int
  | 0 => -1
  | k + 1 => match nth l k with
    | some x => if (x.whole && (decide (bestTo l k < 0) || decide (x.seq > seqAt l (bestTo l k)))) = true then ((k : Nat) : Int) else bestTo l k
    | none => bestTo l k
theorem bestTo_bd (l : List SlotD) (k : Nat) : -1 ≤ bestTo l k ∧ bestTo l k < ((k : Nat) : Int) := by
  induction k with
  | zero => unfold bestTo; omega
  | succ k ih =>
    unfold bestTo
    split
    · split <;> omega
    · omega
theorem seqAt_eq {D : List SlotH} {b : Int} {y : SlotH} (h : nth D b.toNat = some y) : seqAt (D.map SlotH.d) b = y.d.seq := by
  unfold seqAt
  rw [map_at h]
theorem bestTo_t {D : List SlotH} {k : Nat} {x y : SlotH} {b : Int} (hb : b = bestTo (D.map SlotH.d) k) (hx : nth D k = some x) (hy : nth D b.toNat = some y) (h : (x.d.whole && (decide (b < 0) || decide (x.d.seq > y.d.seq))) = true) : ((k : Nat) : Int) = bestTo (D.map SlotH.d) (k + 1) := by
  unfold bestTo
  rw [map_at hx, ← hb, seqAt_eq hy]
  simp only []
  rw [if_pos h]
theorem bestTo_f {D : List SlotH} {k : Nat} {x y : SlotH} {b : Int} (hb : b = bestTo (D.map SlotH.d) k) (hx : nth D k = some x) (hy : nth D b.toNat = some y) (h : (x.d.whole && (decide (b < 0) || decide (x.d.seq > y.d.seq))) = false) : b = bestTo (D.map SlotH.d) (k + 1) := by
  unfold bestTo
  rw [map_at hx, ← hb, seqAt_eq hy]
  simp only []
  rw [if_neg (by rw [h]; decide)]
theorem bs_1 {w : Bool} {p : Prop} [Decidable p] {b : Int} (h : w = false) : false = (w && (decide (b < 0) || decide p)) := by rw [h]; rfl
theorem bs_2 {w : Bool} {p : Prop} [Decidable p] {b : Int} (h : w = true) (h2 : b < 0) : true = (w && (decide (b < 0) || decide p)) := by rw [h, decide_eq_true h2]; rfl
theorem bs_3 {w : Bool} {p : Prop} [Decidable p] {b : Int} (h : w = true) (h2 : ¬ b < 0) : decide p = (w && (decide (b < 0) || decide p)) := by rw [h, decide_eq_false h2]; rfl
/-- Is a disk as it should be? -/
def slotBad (x : SlotD) : Bool := x.whole && (!inB x.seq 0 99999 || !storeOk x.cells)
def diskOk (l : List SlotD) (j : JouD) : Bool := decide (l.length = 2) && l.any (·.whole) && l.all (fun x => !slotBad x) && jouOk j
theorem best_any {l : List SlotD} (k : Nat) (hk : k ≤ l.length) : bestTo l k ≥ 0 ↔ ∃ j, j < k ∧ ∃ x, nth l j = some x ∧ x.whole = true := by
  induction k with
  | zero => exact ⟨fun h => by unfold bestTo at h; omega, fun ⟨j, hj, _⟩ => absurd hj (Nat.not_lt_zero _)⟩
  | succ k ih =>
    have ih := ih (by omega)
    obtain ⟨x, hx⟩ := nth_some (l := l) (k := k) (by omega)
    unfold bestTo
    rw [hx]
    simp only []
    cases hw : x.whole
    · rw [Bool.false_and, if_neg (by decide), ih]
      constructor
      · rintro ⟨j, hj, y, hy, e⟩; exact ⟨j, by omega, y, hy, e⟩
      · rintro ⟨j, hj, y, hy, e⟩
        rcases Nat.lt_or_ge j k with h | h
        · exact ⟨j, h, y, hy, e⟩
        · obtain rfl : j = k := by omega
          rw [hx] at hy; cases hy; rw [hw] at e; cases e
    · constructor
      · intro _; exact ⟨k, by omega, x, hx, hw⟩
      · intro _
        split
        · omega
        · rename_i h
          by_cases h2 : bestTo l k < 0
          · exact absurd (by rw [decide_eq_true h2]; rfl) h
          · omega
theorem best_yes {l : List SlotD} : bestTo l l.length ≥ 0 ↔ l.any (·.whole) = true := by
  rw [best_any l.length (Nat.le_refl _), List.any_eq_true]
  constructor
  · rintro ⟨j, _, x, hx, e⟩; exact ⟨x, nth_mem hx, e⟩
  · rintro ⟨x, hx, e⟩
    obtain ⟨j, hj, rfl⟩ := List.mem_iff_getElem.1 hx
    exact ⟨j, hj, _, by rw [nth_eq]; exact List.getElem?_eq_getElem hj, e⟩
theorem sb_1 {x : SlotD} (h : x.whole = false) : slotBad x = false := by unfold slotBad; rw [h]; rfl
theorem sb_2 {x : SlotD} (h2 : (!inB x.seq 0 99999) = false) (h3 : (!storeOk x.cells) = false) : slotBad x = false := by unfold slotBad; rw [h2, h3]; cases x.whole <;> rfl
theorem sb_3 {x : SlotD} (h : x.whole = true) (h2 : (!inB x.seq 0 99999) = true) : slotBad x = true := by unfold slotBad; rw [h, h2]; rfl
theorem sb_4 {x : SlotD} (h : x.whole = true) (h3 : (!storeOk x.cells) = true) : slotBad x = true := by unfold slotBad; rw [h, h3]; cases inB x.seq 0 99999 <;> rfl
theorem dk_bad {D : List SlotH} {k : Nat} {x : SlotH} {j : JouD} (hx : nth D k = some x) (h : slotBad x.d = true) : false = diskOk (D.map SlotH.d) j := by
  have : (D.map SlotH.d).all (fun x => !slotBad x) = false := List.all_eq_false.2 ⟨x.d, nth_mem (map_at hx), by rw [h]; decide⟩
  unfold diskOk
  rw [this, Bool.and_false, Bool.false_and]
theorem dk_len {D : List SlotH} {n : Nat} {j : JouD} (hn : n = D.length) (h : n ≠ 2) : false = diskOk (D.map SlotH.d) j := by
  unfold diskOk
  rw [List.length_map, decide_eq_false (by omega)]; rfl
theorem dk_best {D : List SlotH} {j : JouD} (h : ¬ bestTo (D.map SlotH.d) D.length ≥ 0) : false = diskOk (D.map SlotH.d) j := by
  have : ¬ (D.map SlotH.d).any (·.whole) = true := fun e => h (by have := best_yes.2 e; rwa [List.length_map] at this)
  unfold diskOk
  rw [Bool.eq_false_iff.2 this, Bool.and_false, Bool.false_and, Bool.false_and]
theorem all_ok {D : List SlotH} {n : Nat} (hn : D.length ≤ n) (h : ∀ j, j < n → ∀ c, nth D j = some c → slotBad c.d = false) : (D.map SlotH.d).all (fun x => !slotBad x) = true := by
  rw [List.all_eq_true]
  intro x hx
  obtain ⟨y, hy, rfl⟩ := List.mem_map.1 hx
  obtain ⟨j, hj, rfl⟩ := List.mem_iff_getElem.1 hy
  rw [h j (by omega) _ (by rw [nth_eq]; exact List.getElem?_eq_getElem hj)]; rfl
theorem dk_done {D : List SlotH} {n : Nat} {j : JouD} (hn : n = D.length) (h2 : n = 2) (h3 : (D.map SlotH.d).any (·.whole) = true) (h4 : ∀ i, i < n → ∀ c, nth D i = some c → slotBad c.d = false) : jouOk j = diskOk (D.map SlotH.d) j := by
  unfold diskOk
  rw [h3, all_ok (by omega) h4, List.length_map, decide_eq_true (by omega)]; rfl
theorem dk_done2 {D : List SlotH} {n : Nat} {j : JouD} (hn : n = D.length) (h2 : n = 2) (h3 : bestTo (D.map SlotH.d) D.length ≥ 0) (h4 : ∀ i, i < n → ∀ c, nth D i = some c → slotBad c.d = false) : jouOk j = diskOk (D.map SlotH.d) j :=
  dk_done hn h2 (best_yes.1 (by rw [List.length_map]; exact h3)) h4
theorem any_at {D : List SlotH} {k : Nat} {x : SlotH} (hx : nth D k = some x) (h : x.d.whole = true) : (D.map SlotH.d).any (·.whole) = true := List.any_eq_true.2 ⟨x.d, nth_mem (map_at hx), h⟩
theorem dk_no {D : List SlotH} {n : Nat} {x y : SlotH} {j : JouD} (hn : n = D.length) (h2 : ¬ n ≠ 2) (hx : nth D 0 = some x) (hy : nth D 1 = some y) (h : x.d.whole = false) (h' : y.d.whole = false) : false = diskOk (D.map SlotH.d) j := by
  have : (D.map SlotH.d).any (·.whole) = false := by
    rw [List.any_eq_false]
    intro z hz
    obtain ⟨z, hz1, rfl⟩ := List.mem_map.1 hz
    obtain ⟨i, hi, rfl⟩ := List.mem_iff_getElem.1 hz1
    rw [nth_eq] at hx hy
    rcases (show i = 0 ∨ i = 1 by omega) with rfl | rfl
    · rw [List.getElem?_eq_getElem hi] at hx
      rw [Option.some.inj hx, h]; decide
    · rw [List.getElem?_eq_getElem hi] at hy
      rw [Option.some.inj hy, h']; decide
  unfold diskOk
  rw [this, Bool.and_false, Bool.false_and, Bool.false_and]
theorem diskOk_bd {D : List SlotH} {j : JouD} (h : (!diskOk (D.map SlotH.d) j) = false) : 0 ≤ bestTo (D.map SlotH.d) D.length ∧ bestTo (D.map SlotH.d) D.length ≤ 1 ∧ D.length = 2 := by
  have h1 := nf h
  unfold diskOk at h1
  simp only [Bool.and_eq_true, decide_eq_true_eq] at h1
  obtain ⟨⟨⟨h2, h3⟩, _⟩, _⟩ := h1
  have h4 := best_yes.2 h3
  rw [List.length_map] at h2 h4
  have h5 := (bestTo_bd (D.map SlotH.d) D.length).2
  exact ⟨h4, by omega, h2⟩
/-- A folding ends. -/
def foldX (x y : SlotD) : Bool := !x.whole && (decide (y.seq < x.seq) && (inB x.seq 0 99999 && storeOk x.cells))
def foldAt (l : List SlotD) : Nat := (1 - bestTo l l.length).toNat
def foldC (l : List SlotD) : Bool := match nth l (foldAt l), nth l (bestTo l l.length).toNat with
  | some x, some y => foldX x y
  | _, _ => false
def foldOk (l : List SlotD) (j : JouD) : Bool := diskOk l j && foldC l
def foldL (l : List SlotD) (j : JouD) : List SlotD := if foldOk l j = true then (match nth l (foldAt l) with
  | some x => l.set (foldAt l) ⟨x.seq, x.cells, true⟩
  | none => l) else l
theorem foldL_no {l : List SlotD} {j : JouD} (h : false = foldOk l j) : l = foldL l j := by
  unfold foldL
  rw [if_neg (by rw [← h]; decide)]
theorem fo_1 {D : List SlotH} {L : List SlotD} {j : JouD} (hD : D.map SlotH.d = L) (h : (!diskOk (D.map SlotH.d) j) = true) : false = foldOk L j := by
  unfold foldOk
  rw [← hD, nt h]; rfl
theorem foldC_eq {D : List SlotH} {x y : SlotH} (hx : nth D (1 - bestTo (D.map SlotH.d) D.length).toNat = some x) (hy : nth D (bestTo (D.map SlotH.d) D.length).toNat = some y) : foldC (D.map SlotH.d) = foldX x.d y.d := by
  unfold foldC foldAt
  rw [List.length_map, map_at hx, map_at hy]
theorem fo_2 {D : List SlotH} {L : List SlotD} {j : JouD} {x y : SlotH} (hD : D.map SlotH.d = L) (hx : nth D (1 - bestTo (D.map SlotH.d) D.length).toNat = some x) (hy : nth D (bestTo (D.map SlotH.d) D.length).toNat = some y) (h : (!foldX x.d y.d) = true) : false = foldOk L j := by
  unfold foldOk
  rw [← hD, foldC_eq hx hy, nt h, Bool.and_false]
theorem fo_3 {D : List SlotH} {L : List SlotD} {j : JouD} {x y : SlotH} (hD : D.map SlotH.d = L) (h1 : (!diskOk (D.map SlotH.d) j) = false) (hx : nth D (1 - bestTo (D.map SlotH.d) D.length).toNat = some x) (hy : nth D (bestTo (D.map SlotH.d) D.length).toNat = some y) (h : (!foldX x.d y.d) = false) : true = foldOk L j := by
  unfold foldOk
  rw [← hD, foldC_eq hx hy, nf h, nf h1]; rfl
theorem foldL_yes {D E : List SlotH} {L : List SlotD} {j : JouD} {x z : SlotH} (hD : D.map SlotH.d = L) (h : true = foldOk L j) (hE : E.map SlotH.d = L) (hx : nth E (1 - bestTo (D.map SlotH.d) D.length).toNat = some x) (hz : z.d = ⟨x.d.seq, x.d.cells, true⟩) : (E.set (1 - bestTo (D.map SlotH.d) D.length).toNat z).map SlotH.d = foldL L j := by
  have e : foldAt L = (1 - bestTo (D.map SlotH.d) D.length).toNat := by
    unfold foldAt
    rw [← hD, List.length_map]
  unfold foldL
  rw [if_pos h.symm, e, List.map_set, hE, hz]
  have := dM_at hE hx
  rw [this]
theorem fx_1 {x y : SlotD} (h : x.whole = true) : true = !foldX x y := by unfold foldX; rw [h]; rfl
theorem fx_2 {x y : SlotD} (h2 : x.seq ≤ y.seq) : true = !foldX x y := by unfold foldX; rw [decide_eq_false (by omega)]; cases x.whole <;> rfl
theorem fx_3 {x y : SlotD} (h3 : (!inB x.seq 0 99999) = true) : true = !foldX x y := by unfold foldX; rw [nt h3]; cases x.whole <;> cases decide (y.seq < x.seq) <;> rfl
theorem fx_4 {x y : SlotD} (h3 : (!storeOk x.cells) = true) : true = !foldX x y := by unfold foldX; rw [nt h3]; cases x.whole <;> cases decide (y.seq < x.seq) <;> cases inB x.seq 0 99999 <;> rfl
theorem fx_5 {x y : SlotD} (h1 : x.whole = false) (h2 : ¬ x.seq ≤ y.seq) (h3 : (!inB x.seq 0 99999) = false) : (!storeOk x.cells) = !foldX x y := by unfold foldX; rw [h1, nf h3, decide_eq_true (by omega)]; rfl
theorem fx_6 {x y : SlotD} (h1 : x.whole = false) (h2 : ¬ x.seq ≤ y.seq) (h3 : (!storeOk x.cells) = false) : (!inB x.seq 0 99999) = !foldX x y := by unfold foldX; rw [h1, nf h3, decide_eq_true (by omega)]; cases inB x.seq 0 99999 <;> rfl
theorem foldL_fit {l : List SlotD} {j : JouD} {n : Nat} (h : slotsFit n l) : slotsFit n (foldL l j) := by
  unfold foldL
  split
  · split
    · rename_i x hx
      refine ⟨by rw [List.length_set]; exact h.1, fun y hy => ?_⟩
      rcases List.mem_or_eq_of_mem_set hy with hy | rfl
      · exact h.2 y hy
      · exact h.2 x (nth_mem hx)
    · exact h
  · exact h
/-- A journal falls; a disk falls. -/
def fallSz (j : JouD) (keep : Int) : Int := j.sure + max 0 (min keep (((j.text.size : Nat) : Int) - j.sure))
def fallJ (j : JouD) (keep : Int) : JouD := if jouOk j = true then ⟨j.text.extract 0 (fallSz j keep).toNat, fallSz j keep⟩ else j
theorem jouOk_bd {j : JouD} (h : (!jouOk j) = false) : 0 ≤ j.sure ∧ j.sure ≤ ((j.text.size : Nat) : Int) ∧ j.text.size ≤ 20000 := by
  have h1 := nf h
  unfold jouOk inB at h1
  simp only [Bool.and_eq_true, decide_eq_true_eq] at h1
  omega
theorem fallJ_f {j : JouD} {keep : Int} (h : (!jouOk j) = true) : fallJ j keep = j := by unfold fallJ; rw [if_neg (by rw [nt h]; decide)]
theorem fallJ_t {j : JouD} {keep : Int} (h : (!jouOk j) = false) : fallJ j keep = ⟨j.text.extract 0 (j.sure + max 0 (min keep (((j.text.size : Nat) : Int) - j.sure))).toNat, j.sure + max 0 (min keep (((j.text.size : Nat) : Int) - j.sure))⟩ := by unfold fallJ; rw [if_pos (nf h)]; rfl
theorem fallJ_sz {j : JouD} {keep : Int} (h : (!jouOk j) = false) : (((j.text.extract 0 (j.sure + max 0 (min keep (((j.text.size : Nat) : Int) - j.sure))).toNat).size : Nat) : Int) = (fallJ j keep).sure := by
  have hb := jouOk_bd h
  rw [fallJ_t h, ByteArray.size_extract]
  show _ = j.sure + max 0 (min keep (((j.text.size : Nat) : Int) - j.sure))
  omega
theorem fallJ_i64 {j : JouD} {keep : Int} (hj : i64ok j.sure) : i64ok (fallJ j keep).sure := by
  cases h : (!jouOk j)
  · have hb := jouOk_bd h
    rw [fallJ_t h]
    show i64ok (j.sure + max 0 (min keep (((j.text.size : Nat) : Int) - j.sure)))
    unfold i64ok; omega
  · rw [fallJ_f h]; exact hj
def fallE (x : SlotD) : SlotD := if x.whole = true then x else ⟨0, [], false⟩
def fallL (l : List SlotD) (j : JouD) : List SlotD := if diskOk l j = true then l.map fallE else l
def fallJo (l : List SlotD) (j : JouD) (keep : Int) : JouD := if diskOk l j = true then fallJ j keep else j
theorem fallE_y {x : SlotD} (h : (!x.whole) = true) : (⟨0, [], false⟩ : SlotD) = fallE x := by unfold fallE; rw [if_neg (by rw [nt h]; decide)]
theorem fallE_n {x : SlotD} (h : (!x.whole) = false) : fallE x = x := by unfold fallE; rw [if_pos (nf h)]
theorem fall_f {D : List SlotH} {L : List SlotD} {j : JouD} {keep : Int} (hD : D.map SlotH.d = L) (h : (!diskOk (D.map SlotH.d) j) = true) : L = fallL L j ∧ j = fallJo L j keep := by
  rw [hD] at h
  unfold fallL fallJo
  rw [if_neg (by rw [nt h]; decide), if_neg (by rw [nt h]; decide)]
  exact ⟨rfl, rfl⟩
theorem fall_t {D : List SlotH} {L : List SlotD} {j : JouD} {keep : Int} (hD : D.map SlotH.d = L) (h : (!diskOk (D.map SlotH.d) j) = false) : fallL L j = L.map fallE ∧ fallJ j keep = fallJo L j keep := by
  rw [hD] at h
  unfold fallL fallJo
  rw [if_pos (nf h), if_pos (nf h)]
  exact ⟨rfl, rfl⟩
theorem fallL_fit {l : List SlotD} {j : JouD} {n : Nat} (h : slotsFit n l) : slotsFit n (fallL l j) := by
  unfold fallL
  split
  · refine ⟨by rw [List.length_map]; exact h.1, fun y hy => ?_⟩
    obtain ⟨x, hx, rfl⟩ := List.mem_map.1 hy
    unfold fallE
    split
    · exact h.2 x hx
    · exact Nat.zero_le _
  · exact h
theorem fallJo_i64 {l : List SlotD} {j : JouD} {keep : Int} (hj : i64ok j.sure) : i64ok (fallJo l j keep).sure := by
  unfold fallJo
  split
  · exact fallJ_i64 hj
  · exact hj
end Go.Proofs.YtgfilegkabbliaaGreat
