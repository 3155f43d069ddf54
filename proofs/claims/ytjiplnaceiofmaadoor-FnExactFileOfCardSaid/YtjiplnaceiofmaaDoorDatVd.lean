/-
  Names.
-/
import Derived.Test.YtjiplnaceiofmaaDoorDatV
namespace Go.Proofs.YtjiplnaceiofmaaDoor
open Go.ChangeShapes Go.WideShapes Go.ChangeAt Go.RowKit
set_option maxRecDepth 100000
set_option maxHeartbeats 1000000


/-! ### Names -/
def nb (n : Nat) : Bool := decide ((97 ≤ n ∧ n ≤ 122) ∨ (48 ≤ n ∧ n ≤ 57) ∨ n = 46 ∨ n = 45)
theorem nb_in (n : Nat) : nb n = (inB n 97 122 || inB n 48 57 || decide (n = 46) || decide (n = 45)) := by
  unfold nb inB
  rw [Bool.eq_iff_iff]
  simp only [Bool.or_eq_true, decide_eq_true_eq]
  omega
def nameOk (key : ByteArray) : Bool := (List.range key.size).all (fun j => nb (byteAt key j)) && inB key.size 1 12
theorem nameOk_bad {key : ByteArray} {j : Nat} (hj : j < key.size) (h : nb (byteAt key j) = false) : nameOk key = false := by
  have : (List.range key.size).all (fun j => nb (byteAt key j)) = false := by
    rw [List.all_eq_false]
    exact ⟨j, List.mem_range.2 hj, by simp [h]⟩
  simp [nameOk, this]
theorem nameOk_all {key : ByteArray} (h : ∀ j, j < key.size → nb (byteAt key j) = true) : nameOk key = inB key.size 1 12 := by
  have : (List.range key.size).all (fun j => nb (byteAt key j)) = true := by
    rw [List.all_eq_true]
    exact fun j hj => h j (List.mem_range.1 hj)
  simp [nameOk, this]
theorem nameOk_size {key : ByteArray} (h : nameOk key = true) : key.size ≤ 12 := by
  unfold nameOk at h
  rw [Bool.and_eq_true] at h
  have := inB_bd h.2
  omega
def fo (m : MachD) (name : ByteArray) : Nat := if nameOk name then numK m ((⟨#[110, 47]⟩ : ByteArray) ++ name) else 0
def foM (m : MachD) (name : ByteArray) : MachD := if nameOk name then lookM m ((⟨#[110, 47]⟩ : ByteArray) ++ name) else m
theorem fo_t {m : MachD} {name : ByteArray} (h : nameOk name = true) : ((numOf (getKey m.store ((⟨#[110, 47]⟩ : ByteArray) ++ name)) : Nat) : Int) = ((fo m name : Nat) : Int) ∧ foM m name = lookM m ((⟨#[110, 47]⟩ : ByteArray) ++ name) := ⟨by unfold fo numK; rw [if_pos h], if_pos h⟩
theorem fo_f {m : MachD} {name : ByteArray} (h : nameOk name = false) : (0 : Int) = ((fo m name : Nat) : Int) ∧ foM m name = m := ⟨by unfold fo; rw [if_neg (by rw [h]; decide)]; rfl, if_neg (by rw [h]; decide)⟩
theorem bdC.fo {b : Nat} {m : MachD} {name : ByteArray} (h : bdC b m) : bdC (b + 1) (foM m name) := by
  unfold foM
  split
  · exact h.look
  · exact h.le (by omega)
def lenP (m : MachD) (id : Int) : Int := ((numK m (keyNum (⟨#[112, 47]⟩ : ByteArray) id (⟨#[47, 116]⟩ : ByteArray)) : Nat) : Int) - ((numK m (keyNum (⟨#[112, 47]⟩ : ByteArray) id (⟨#[47, 104]⟩ : ByteArray)) : Nat) : Int)
/-- A name is made. -/
def mnI (m : MachD) (name : ByteArray) : Nat := if nameOk name = false then 0 else if fo m name ≠ 0 then 0 else if numK m (⟨#[99, 47, 102, 105, 108, 101]⟩ : ByteArray) ≥ 20 then 0 else bumpN (lookM (foM m name) (⟨#[99, 47, 102, 105, 108, 101]⟩ : ByteArray)) (⟨#[99, 47, 102, 105, 108, 101]⟩ : ByteArray)
def mnC (m : MachD) (name : ByteArray) : Int := if nameOk name = false then 4 else if fo m name ≠ 0 then 1 else if numK m (⟨#[99, 47, 102, 105, 108, 101]⟩ : ByteArray) ≥ 20 then 3 else 0
def mnM (m : MachD) (name : ByteArray) : MachD := if nameOk name = false then m else if fo m name ≠ 0 then foM m name else if numK m (⟨#[99, 47, 102, 105, 108, 101]⟩ : ByteArray) ≥ 20 then lookM (foM m name) (⟨#[99, 47, 102, 105, 108, 101]⟩ : ByteArray) else setM (setM (bumpM (lookM (foM m name) (⟨#[99, 47, 102, 105, 108, 101]⟩ : ByteArray)) (⟨#[99, 47, 102, 105, 108, 101]⟩ : ByteArray)) ((⟨#[110, 47]⟩ : ByteArray) ++ name) ((bumpN (lookM (foM m name) (⟨#[99, 47, 102, 105, 108, 101]⟩ : ByteArray)) (⟨#[99, 47, 102, 105, 108, 101]⟩ : ByteArray) : Nat) : Int)) (keyNum (⟨#[105, 47]⟩ : ByteArray) (bumpN (lookM (foM m name) (⟨#[99, 47, 102, 105, 108, 101]⟩ : ByteArray)) (⟨#[99, 47, 102, 105, 108, 101]⟩ : ByteArray)) (⟨#[47, 108]⟩ : ByteArray)) 1
theorem fo_store (m : MachD) (name : ByteArray) : (foM m name).store = m.store := by unfold foM; split <;> rfl
theorem mn_1 {m : MachD} {name : ByteArray} (h : nameOk name = false) : (0 : Int) = ((mnI m name : Nat) : Int) ∧ 4 = mnC m name ∧ mnM m name = m := ⟨by unfold mnI; rw [if_pos h]; rfl, (if_pos h).symm, if_pos h⟩
theorem mn_2 {m : MachD} {name : ByteArray} (h : nameOk name = true) (h2 : fo m name ≠ 0) : (0 : Int) = ((mnI m name : Nat) : Int) ∧ 1 = mnC m name ∧ mnM m name = foM m name := by
  unfold mnI mnC mnM
  simp only [h, if_pos h2, Bool.true_eq_false, if_false]
  exact ⟨rfl, trivial, trivial⟩
theorem mn_3 {m : MachD} {name : ByteArray} (h : nameOk name = true) (h2 : ¬ fo m name ≠ 0) (h3 : numOf (getKey (foM m name).store (⟨#[99, 47, 102, 105, 108, 101]⟩ : ByteArray)) ≥ 20) : (0 : Int) = ((mnI m name : Nat) : Int) ∧ 3 = mnC m name ∧ mnM m name = lookM (foM m name) (⟨#[99, 47, 102, 105, 108, 101]⟩ : ByteArray) := by
  rw [fo_store] at h3
  unfold mnI mnC mnM numK
  simp only [h, if_neg h2, if_pos h3, Bool.true_eq_false, if_false]
  exact ⟨rfl, trivial, trivial⟩
theorem mn_4 {m : MachD} {name : ByteArray} (h : nameOk name = true) (h2 : ¬ fo m name ≠ 0) (h3 : ¬ numOf (getKey (foM m name).store (⟨#[99, 47, 102, 105, 108, 101]⟩ : ByteArray)) ≥ 20) : ((bumpN (lookM (foM m name) (⟨#[99, 47, 102, 105, 108, 101]⟩ : ByteArray)) (⟨#[99, 47, 102, 105, 108, 101]⟩ : ByteArray) : Nat) : Int) = ((mnI m name : Nat) : Int) ∧ 0 = mnC m name ∧ mnM m name = setM (setM (bumpM (lookM (foM m name) (⟨#[99, 47, 102, 105, 108, 101]⟩ : ByteArray)) (⟨#[99, 47, 102, 105, 108, 101]⟩ : ByteArray)) ((⟨#[110, 47]⟩ : ByteArray) ++ name) ((bumpN (lookM (foM m name) (⟨#[99, 47, 102, 105, 108, 101]⟩ : ByteArray)) (⟨#[99, 47, 102, 105, 108, 101]⟩ : ByteArray) : Nat) : Int)) (keyNum (⟨#[105, 47]⟩ : ByteArray) (bumpN (lookM (foM m name) (⟨#[99, 47, 102, 105, 108, 101]⟩ : ByteArray)) (⟨#[99, 47, 102, 105, 108, 101]⟩ : ByteArray)) (⟨#[47, 108]⟩ : ByteArray)) 1 := by
  rw [fo_store] at h3
  unfold mnI mnC mnM numK
  simp only [h, if_neg h2, if_neg h3, Bool.true_eq_false, if_false]
  exact ⟨trivial, trivial, trivial⟩
theorem bdC.mn {b : Nat} {m : MachD} {name : ByteArray} (h : bdC b m) : bdC (b + 8) (mnM m name) := by
  unfold mnM
  split
  · exact h.le (by omega)
  · split
    · exact (bdC.fo h).le (by omega)
    · split
      · exact (bdC.fo h).look.le (by omega)
      · exact (bdC.fo h).look.bump.set.set.le (by omega)
def fT (j : Nat) : ByteArray := (⟨#[102]⟩ : ByteArray) ++ decS j
def nK (s : ByteArray) : ByteArray := (⟨#[110, 47]⟩ : ByteArray) ++ s
theorem nK_fT (j : Nat) : nK (fT j) = keyNum (⟨#[110, 47, 102]⟩ : ByteArray) j (⟨#[]⟩ : ByteArray) := by
  unfold nK fT keyNum
  apply ByteArray.ext; apply Array.toList_inj.1
  simp only [toList_append, List.append_nil]
  rfl
theorem fT_ok {j : Nat} (h : j ≤ 999) : nameOk (fT j) = true := by
  have hs := decS_small h
  have e : (⟨#[102]⟩ : ByteArray).size = 1 := rfl
  have hz : (fT j).size ≤ 4 ∧ 1 ≤ (fT j).size := by unfold fT; rw [ByteArray.size_append]; omega
  rw [nameOk_all]
  · exact decide_eq_true (by omega)
  · have hm : ∀ c ∈ (fT j).data.toList, nb c.toNat = true := by
      have hl : (fT j).data.toList = 102 :: (decS j).data.toList := by unfold fT; rw [toList_append]; rfl
      rw [hl]
      intro c hc
      rcases List.mem_cons.1 hc with e | hc
      · rw [e]; decide
      · rw [decS_toList] at hc
        have := dec_all j _ hc
        unfold isD at this
        exact decide_eq_true (by omega)
    intro i hi
    rw [size_toList] at hi
    unfold byteAt
    rw [List.getElem?_eq_getElem hi]
    exact hm _ (List.getElem_mem hi)
/-- k files stand. -/
def files (k : Nat) (m : MachD) : Prop := numK m (⟨#[99, 47, 102, 105, 108, 101]⟩ : ByteArray) = k ∧ (∀ j : Nat, j < k → numK m (nK (fT j)) = j + 1) ∧ (∀ j : Nat, k ≤ j → j ≤ 999 → numK m (nK (fT j)) = 0) ∧ numK m (nK (⟨#[103]⟩ : ByteArray)) = 0 ∧ bdC (10 * k) m
theorem files_base : files 0 (⟨[], (⟨[], []⟩ : TouchD)⟩ : MachD) := ⟨numK_base _, fun _ h => absurd h (Nat.not_lt_zero _), fun _ _ _ => numK_base _, numK_base _, bdC_base⟩
theorem cf_ne (s : ByteArray) : (⟨#[99, 47, 102, 105, 108, 101]⟩ : ByteArray) ≠ nK s := key_other (by
  have : byteAt (nK s) 0 = 110 := by unfold nK; rw [byteAt_append (by decide)]; rfl
  rw [this]; decide)
theorem lk_ne (s : ByteArray) (n : Int) (t : ByteArray) : nK s ≠ keyNum (⟨#[105, 47]⟩ : ByteArray) n t := key_other (by
  have : byteAt (nK s) 0 = 110 := by unfold nK; rw [byteAt_append (by decide)]; rfl
  rw [this, byte_num (by decide)]; decide)
theorem cf_lk (n : Int) (t : ByteArray) : (⟨#[99, 47, 102, 105, 108, 101]⟩ : ByteArray) ≠ keyNum (⟨#[105, 47]⟩ : ByteArray) n t := key_other (by rw [byte_num (by decide)]; decide)
theorem nK_ne {i j : Nat} (hi : i ≤ 999) (hj : j ≤ 999) (h : i ≠ j) : nK (fT i) ≠ nK (fT j) := by
  rw [nK_fT, nK_fT]
  exact keyNum_ne hi hj noD_nil noD_nil (.inl h)
theorem nK_g (j : Nat) : nK (⟨#[103]⟩ : ByteArray) ≠ nK (fT j) := fun e => by
  have h1 := congrArg (fun s : ByteArray => s.data.toList) e
  unfold nK fT at h1
  simp only [toList_append] at h1
  have h2 : ([110, 47] : List UInt8) ++ [103] = [110, 47] ++ (102 :: (decS j).data.toList) := h1
  simp at h2
theorem nK_ok {j : Nat} (h : j ≤ 999) : keyOk (nK (fT j)) = true := by rw [nK_fT]; exact key_ok h (by decide) (by decide) (by decide) (by decide)
theorem files.step {k : Nat} {m : MachD} (h : files k m) (hk : k < 20) : mnC m (fT k) = 0 ∧ files (k + 1) (mnM m (fT k)) := by
  obtain ⟨h1, h2, h3, hg, h4⟩ := h
  have hn := fT_ok (j := k) (by omega)
  have h0 : ¬ fo m (fT k) ≠ 0 := by
    unfold fo
    rw [if_pos hn]
    exact fun e => e (h3 k (Nat.le_refl _) (by omega))
  have hc : ¬ numOf (getKey (foM m (fT k)).store (⟨#[99, 47, 102, 105, 108, 101]⟩ : ByteArray)) ≥ 20 := by
    rw [fo_store]
    show ¬ numK m _ ≥ 20
    omega
  have h5 := mn_4 hn h0 hc
  have hl : ∀ key, numK (lookM (foM m (fT k)) (⟨#[99, 47, 102, 105, 108, 101]⟩ : ByteArray)) key = numK m key := fun key => by show numOf (getKey (foM m (fT k)).store key) = _; rw [fo_store]; rfl
  have hb : bumpN (lookM (foM m (fT k)) (⟨#[99, 47, 102, 105, 108, 101]⟩ : ByteArray)) (⟨#[99, 47, 102, 105, 108, 101]⟩ : ByteArray) = k + 1 := by rw [bumpN_lt (by rw [hl]; omega), hl, h1]
  have he : (⟨#[110, 47]⟩ : ByteArray) ++ fT k = nK (fT k) := rfl
  rw [hb, he] at h5
  refine ⟨h5.2.1.symm, ?_, ?_, ?_, ?_, (bdC.mn h4).le (by omega)⟩
  · rw [h5.2.2, numK_ne (cf_lk _ _), numK_ne (cf_ne _), numK_bump (by decide) (by rw [hl]; omega), hl, h1]
  · intro j hj
    rw [h5.2.2, numK_ne (lk_ne _ _ _)]
    rcases Decidable.em (j = k) with e | e
    · subst e
      exact numK_set (nK_ok (by omega)) (by omega)
    · rw [numK_ne (nK_ne (by omega) (by omega) e), numK_bumpNe (Ne.symm (cf_ne _)), hl]
      exact h2 j (by omega)
  · intro j hj hj2
    rw [h5.2.2, numK_ne (lk_ne _ _ _), numK_ne (nK_ne (by omega) (by omega) (by omega)), numK_bumpNe (Ne.symm (cf_ne _)), hl]
    exact h3 j (by omega) hj2
  · rw [h5.2.2, numK_ne (lk_ne _ _ _), numK_ne (nK_g k), numK_bumpNe (Ne.symm (cf_ne _)), hl]
    exact hg
theorem g_ok : nameOk (⟨#[103]⟩ : ByteArray) = true := by decide
theorem files.full {m : MachD} (h : files 20 m) : mnC m (⟨#[103]⟩ : ByteArray) = 3 ∧ mnI m (⟨#[103]⟩ : ByteArray) = 0 ∧ (mnM m (⟨#[103]⟩ : ByteArray)).store = m.store := by
  obtain ⟨h1, h2, h3, hg, h4⟩ := h
  have h0 : ¬ fo m (⟨#[103]⟩ : ByteArray) ≠ 0 := by
    unfold fo
    rw [if_pos g_ok]
    exact fun e => e hg
  have hc : numOf (getKey (foM m (⟨#[103]⟩ : ByteArray)).store (⟨#[99, 47, 102, 105, 108, 101]⟩ : ByteArray)) ≥ 20 := by
    rw [fo_store]
    show numK m _ ≥ 20
    omega
  have h5 := mn_3 g_ok h0 hc
  exact ⟨h5.2.1.symm, by have := h5.1; omega, by rw [h5.2.2]; exact fo_store _ _⟩
theorem files.file {m : MachD} (h : files 20 m) {r : Nat} (hr : r < 20) : fo (mnM m (⟨#[103]⟩ : ByteArray)) ((⟨#[102]⟩ : ByteArray) ++ decS ((r : Nat) : Int)) = r + 1 := by
  unfold fo
  rw [if_pos (show nameOk ((⟨#[102]⟩ : ByteArray) ++ decS ((r : Nat) : Int)) = true from fT_ok (by omega))]
  unfold numK
  rw [h.full.2.2]
  exact h.2.1 r hr
end Go.Proofs.YtjiplnaceiofmaaDoor
