/-
  Three names: link counts are right.
-/
import Derived.Test.YtibgmijfnbnfkaaGreatDoorDatNm
import Derived.Test.YtibgmijfnbnfkaaGreatDoorDatB
namespace Go.Proofs.YtibgmijfnbnfkaaGreatDoor
open Go.ChangeShapes Go.WideShapes Go.ChangeAt Go.RowKit
set_option maxRecDepth 100000
set_option maxHeartbeats 1000000

theorem getKey_wipeL_no {k : ByteArray} : ∀ {ks : List ByteArray} {m : MachD}, k ∉ ks → getKey (wipeL m ks).store k = getKey m.store k
  | [], _, _ => rfl
  | x :: ks, m, h => by
    have h1 : k ≠ x := fun e => h (e ▸ List.mem_cons_self ..)
    show getKey (wipeL (layM m x ⟨#[]⟩) ks).store k = _
    rw [getKey_wipeL_no fun q => h (List.mem_cons_of_mem _ q), getKey_lay h1]
theorem getKey_wipeL_in {k : ByteArray} (hk : keyOk k = true) : ∀ {ks : List ByteArray} {m : MachD}, k ∈ ks → getKey (wipeL m ks).store k = ⟨#[]⟩
  | x :: ks, m, h => by
    show getKey (wipeL (layM m x ⟨#[]⟩) ks).store k = _
    by_cases h1 : k ∈ ks
    · exact getKey_wipeL_in hk h1
    · rw [getKey_wipeL_no h1]
      rcases List.mem_cons.1 h with rfl | h2
      · exact getKey_laySame hk (Nat.zero_le _)
      · exact absurd h2 h1
theorem getKey_wipe_no {m : MachD} {p k : ByteArray} (h : begins k p = false) : getKey (wipeM m p).store k = getKey m.store k := by
  unfold wipeM
  rw [getKey_wipeL_no fun q => by rw [(keysUnder_mem.1 q).2] at h; cases h]; rfl
theorem getKey_wipe_in {m : MachD} {p k : ByteArray} (hk : keyOk k = true) (h : begins k p = true) : getKey (wipeM m p).store k = ⟨#[]⟩ := by
  by_cases h1 : k ∈ keysUnder m.store p
  · exact getKey_wipeL_in hk h1
  · unfold wipeM
    rw [getKey_wipeL_no h1]
    exact getKey_no fun c hc e => h1 (keysUnder_mem.2 ⟨⟨c, hc, e⟩, h⟩)
/-! ### Three names -/
abbrev NL : List ByteArray := [(⟨#[120]⟩ : ByteArray), (⟨#[121]⟩ : ByteArray), (⟨#[122]⟩ : ByteArray)]
def nmL (i : Nat) : ByteArray := (nth NL i).getD ⟨#[]⟩
theorem nmL_of {i : Nat} {x : ByteArray} (h : nth NL i = some x) : x = nmL i ∧ i < 3 := by
  refine ⟨by unfold nmL; rw [h]; rfl, ?_⟩
  rw [nth_eq] at h
  exact (List.getElem?_eq_some_iff.1 h).1
theorem nmL_ok : ∀ i, i < 3 → nameOk (nmL i) = true := by decide +kernel
theorem nmK_ok : ∀ i, i < 3 → keyOk (nK (nmL i)) = true := by decide +kernel
theorem nmK_ne : ∀ i, i < 3 → ∀ j, j < 3 → i ≠ j → nK (nmL i) ≠ nK (nmL j) := by decide +kernel
abbrev lK (n : Nat) : ByteArray := keyNum (⟨#[105, 47]⟩ : ByteArray) ((n : Nat) : Int) (⟨#[47, 108]⟩ : ByteArray)
abbrev cF : ByteArray := ⟨#[99, 47, 102, 105, 108, 101]⟩
theorem noD_l : noD (⟨#[47, 108]⟩ : ByteArray) := noD_lit [47, 108] (by decide)
theorem noD_sl : noD (⟨#[47]⟩ : ByteArray) := noD_lit [47] (by decide)
theorem lK_ne {a b : Nat} (ha : a ≤ 999) (hb : b ≤ 999) (h : a ≠ b) : lK a ≠ lK b := keyNum_ne ha hb noD_l noD_l (.inl h)
theorem lK_ok {a : Nat} (ha : a ≤ 999) : keyOk (lK a) = true := key_ok ha (by decide) (by decide) (by decide) (by decide)
theorem lK_begins (a : Nat) : begins (lK a) (keyNum (⟨#[105, 47]⟩ : ByteArray) ((a : Nat) : Int) (⟨#[47]⟩ : ByteArray)) = true := by
  have : lK a = keyNum (⟨#[105, 47]⟩ : ByteArray) ((a : Nat) : Int) (⟨#[47]⟩ : ByteArray) ++ (⟨#[108]⟩ : ByteArray) := by
    unfold lK keyNum
    rw [append_assoc' _ (⟨#[47]⟩ : ByteArray)]; rfl
  rw [this]
  exact (begins_app _ _).1
theorem begins_other {k p : ByteArray} (h0 : 0 < p.size) (h : byteAt k 0 ≠ byteAt p 0) : begins k p = false := by
  cases e : begins k p
  · rfl
  · unfold begins at e
    have h1 := of_decide_eq_true e
    exfalso
    apply h
    rw [← h1.2]
    unfold byteAt
    rw [ByteArray.data_extract, Array.toList_extract, List.extract_eq_take_drop]
    simp only [Nat.sub_zero, List.drop_zero, List.getElem?_take]
    rw [if_pos h0]
theorem lK_apart {a b : Nat} (ha : a ≤ 999) (hb : b ≤ 999) (h : a ≠ b) : begins (lK a) (keyNum (⟨#[105, 47]⟩ : ByteArray) ((b : Nat) : Int) (⟨#[47]⟩ : ByteArray)) = false := by
  generalize hp : keyNum (⟨#[105, 47]⟩ : ByteArray) ((b : Nat) : Int) (⟨#[47]⟩ : ByteArray) = p
  cases e : begins (lK a) p
  · rfl
  · exfalso
    unfold begins at e
    have h1 := of_decide_eq_true e
    have h2 : lK a = p ++ (lK a).extract p.size (lK a).size := by
      have e3 : p ++ (lK a).extract p.size (lK a).size = (lK a).extract 0 p.size ++ (lK a).extract p.size (lK a).size := by rw [h1.2]
      rw [e3, ByteArray.extract_append_extract, Nat.min_eq_left (Nat.zero_le _), Nat.max_eq_right h1.1, ByteArray.extract_zero_size]
    rw [← hp] at h2
    generalize (lK a).extract (keyNum (⟨#[105, 47]⟩ : ByteArray) ((b : Nat) : Int) (⟨#[47]⟩ : ByteArray)).size (lK a).size = s at h2
    have h3 : lK a = keyNum (⟨#[105, 47]⟩ : ByteArray) ((b : Nat) : Int) ((⟨#[47]⟩ : ByteArray) ++ s) := by
      rw [h2]; unfold keyNum; simp only [append_assoc']
    exact h (keyNum_inj ha hb noD_l (noD_app noD_sl (by decide)) h3).1
theorem nK_begins (s : ByteArray) (b : Nat) : begins (nK s) (keyNum (⟨#[105, 47]⟩ : ByteArray) ((b : Nat) : Int) (⟨#[47]⟩ : ByteArray)) = false := begins_other (by unfold keyNum; rw [ByteArray.size_append, ByteArray.size_append]; have e : (⟨#[105, 47]⟩ : ByteArray).size = 2 := rfl; omega) (by
  have : byteAt (nK s) 0 = 110 := by unfold nK; rw [byteAt_append (by decide)]; rfl
  rw [this, byte_num (by decide)]; decide)
theorem cF_begins (b : Nat) : begins cF (keyNum (⟨#[105, 47]⟩ : ByteArray) ((b : Nat) : Int) (⟨#[47]⟩ : ByteArray)) = false := begins_other (by unfold keyNum; rw [ByteArray.size_append, ByteArray.size_append]; have e : (⟨#[105, 47]⟩ : ByteArray).size = 2 := rfl; omega) (by rw [byte_num (by decide)]; decide)
def upd (v : Nat → Nat) (i y : Nat) : Nat → Nat := fun j => if j = i then y else v j
def one (b : Prop) [Decidable b] : Nat := if b then 1 else 0
/-- How many of the three names denote a file. -/
def cnt (v : Nat → Nat) (id : Nat) : Nat := one (v 0 = id) + one (v 1 = id) + one (v 2 = id)
theorem cnt_upd {v : Nat → Nat} {i y id : Nat} (hi : i < 3) : cnt (upd v i y) id + one (v i = id) = cnt v id + one (y = id) := by
  unfold cnt upd
  rcases (show i = 0 ∨ i = 1 ∨ i = 2 by omega) with rfl | rfl | rfl <;> simp <;> omega
theorem cnt_le {v : Nat → Nat} {i id : Nat} (hi : i < 3) (h : v i ≠ id) : cnt v id ≤ 2 := by
  have hl : ∀ (b : Prop) [Decidable b], one b ≤ 1 := fun b _ => by unfold one; split <;> omega
  have h0 : one (v i = id) = 0 := if_neg h
  have h1 := hl (v 0 = id); have h2 := hl (v 1 = id); have h3 := hl (v 2 = id)
  unfold cnt
  rcases (show i = 0 ∨ i = 1 ∨ i = 2 by omega) with rfl | rfl | rfl <;> omega
theorem one_t {b : Prop} [Decidable b] (h : b) : one b = 1 := if_pos h
theorem one_f {b : Prop} [Decidable b] (h : ¬ b) : one b = 0 := if_neg h
/-- The machine's names denote the files v; c files have been made; each file's link count is right. -/
def namesOk (m : MachD) (c : Nat) (v : Nat → Nat) : Prop := numK m cF = c ∧ (∀ i, i < 3 → numK m (nK (nmL i)) = v i) ∧ (∀ i, i < 3 → v i ≤ c) ∧ ∀ id, 1 ≤ id → id ≤ 900 → numK m (lK id) = cnt v id
theorem fo_nm {m : MachD} {i : Nat} (hi : i < 3) : fo m (nmL i) = numK m (nK (nmL i)) := by unfold fo; rw [if_pos (nmL_ok i hi)]; rfl
theorem namesOk.val {m : MachD} {c : Nat} {v : Nat → Nat} (h : namesOk m c v) {i : Nat} (hi : i < 3) : fo m (nmL i) = v i := (fo_nm hi).trans (h.2.1 i hi)
theorem namesOk.store {m m' : MachD} {c : Nat} {v : Nat → Nat} (h : namesOk m c v) (e : m'.store = m.store) : namesOk m' c v := by
  have hk : ∀ k, numK m' k = numK m k := fun k => by unfold numK; rw [e]
  refine ⟨by rw [hk]; exact h.1, fun i hi => by rw [hk]; exact h.2.1 i hi, h.2.2.1, fun id h1 h2 => by rw [hk]; exact h.2.2.2 id h1 h2⟩
theorem namesOk_base : namesOk (⟨[], (⟨[], []⟩ : TouchD)⟩ : MachD) 0 (fun _ => 0) := ⟨numK_base _, fun _ _ => numK_base _, fun _ _ => Nat.le_refl _, fun id h1 _ => by
  rw [numK_base]
  show 0 = one (0 = id) + one (0 = id) + one (0 = id)
  rw [one_f (show ¬ 0 = id by omega)]⟩
/-- A name's number is set, a file's link count too. -/
theorem namesOk.setName {m : MachD} {c : Nat} {v : Nat → Nat} (h : namesOk m c v) {i y : Nat} (hi : i < 3) (hy : y ≤ c) {m' : MachD} (hs : ∀ k, k ≠ nK (nmL i) → (∀ id, id ≤ 900 → k ≠ lK id) → numK m' k = numK m k) (h1 : numK m' (nK (nmL i)) = y) (h2 : ∀ id, 1 ≤ id → id ≤ 900 → numK m' (lK id) = cnt (upd v i y) id) : namesOk m' c (upd v i y) := by
  refine ⟨by rw [hs _ (cf_ne _) fun id _ => cf_lk _ _]; exact h.1, fun j hj => ?_, fun j hj => ?_, h2⟩
  · unfold upd
    by_cases e : j = i
    · rw [if_pos e, e]; exact h1
    · rw [if_neg e, hs _ (nmK_ne j hj i hi e) fun id _ => lk_ne _ _ _]; exact h.2.1 j hj
  · unfold upd
    by_cases e : j = i
    · rw [if_pos e]; exact hy
    · rw [if_neg e]; exact h.2.2.1 j hj
theorem namesOk.make {m : MachD} {c : Nat} {v : Nat → Nat} (h : namesOk m c v) (hc : c ≤ 15) {i : Nat} (hi : i < 3) : ∃ c' v', c' ≤ c + 1 ∧ namesOk (mnM m (nmL i)) c' v' := by
  have hn := nmL_ok i hi
  by_cases h0 : fo m (nmL i) ≠ 0
  · exact ⟨c, v, by omega, h.store (by rw [(mn_2 hn h0).2.2]; exact fo_store _ _)⟩
  · have hl : ∀ key, numK (lookM (foM m (nmL i)) cF) key = numK m key := fun key => by show numOf (getKey (foM m (nmL i)).store key) = _; rw [fo_store]; rfl
    have hk : ¬ numOf (getKey (foM m (nmL i)).store cF) ≥ 20 := by rw [fo_store]; show ¬ numK m _ ≥ 20; rw [h.1]; omega
    have h5 := (mn_4 hn h0 hk).2.2
    have hb : bumpN (lookM (foM m (nmL i)) cF) cF = c + 1 := by rw [bumpN_lt (by rw [hl, h.1]; omega), hl, h.1]
    rw [hb] at h5
    have he : (⟨#[110, 47]⟩ : ByteArray) ++ nmL i = nK (nmL i) := rfl
    rw [he] at h5
    have hv : v i = 0 := by rw [← h.val hi]; exact Classical.not_not.1 h0
    have hu : ∀ id, 1 ≤ id → id ≤ 900 → cnt (upd v i (c + 1)) id = cnt v id + one (c + 1 = id) := fun id h1 _ => by
      have := cnt_upd (v := v) (i := i) (y := c + 1) (id := id) hi
      rw [one_f (show ¬ v i = id by omega)] at this
      exact this
    have hfresh : cnt v (c + 1) = 0 := by
      have h0 := h.2.2.1 0 (by omega); have h1 := h.2.2.1 1 (by omega); have h2 := h.2.2.1 2 (by omega)
      unfold cnt
      rw [one_f (by omega), one_f (by omega), one_f (by omega)]
    refine ⟨c + 1, upd v i (c + 1), Nat.le_refl _, ?_, fun j hj => ?_, fun j hj => ?_, fun id h1 h2 => ?_⟩
    · rw [h5, numK_ne (cf_lk _ _), numK_ne (cf_ne _), numK_bump (by decide) (by rw [hl, h.1]; omega), hl, h.1]
    · rw [h5, numK_ne (lk_ne _ _ _)]
      unfold upd
      by_cases e : j = i
      · rw [if_pos e, e]; exact numK_set (nmK_ok i hi) (by omega)
      · rw [if_neg e, numK_ne (nmK_ne j hj i hi e), numK_bumpNe (Ne.symm (cf_ne _)), hl]; exact h.2.1 j hj
    · unfold upd
      by_cases e : j = i
      · rw [if_pos e]; exact Nat.le_refl _
      · rw [if_neg e]; have := h.2.2.1 j hj; omega
    · rw [h5, hu id h1 h2]
      by_cases e : id = c + 1
      · subst e
        rw [one_t rfl, hfresh]
        exact numK_set (n := 1) (lK_ok (by omega)) (by decide)
      · rw [one_f (fun q => e q.symm), Nat.add_zero, numK_ne (lK_ne (by omega) (by omega) e), numK_ne (fun q => lk_ne _ _ _ q.symm), numK_bumpNe (fun q => cf_lk _ _ q.symm), hl]
        exact h.2.2.2 id h1 h2
theorem namesOk.link {m : MachD} {c : Nat} {v : Nat → Nat} (h : namesOk m c v) (hc : c ≤ 15) {i j : Nat} (hi : i < 3) (hj : j < 3) : ∃ v', namesOk (lnM m (nmL i) (nmL j)) c v' := by
  have hn := nmL_ok i hi
  have hk := nmL_ok j hj
  have hi0 := h.val hi
  have hs1 : (foM m (nmL i)).store = m.store := fo_store _ _
  have hf : namesOk (foM m (nmL i)) c v := h.store hs1
  have hj0 := hf.val hj
  by_cases h2 : fo m (nmL i) = 0
  · exact ⟨v, h.store (by rw [← (ln_3 hn hk h2).2]; exact hs1)⟩
  by_cases h3 : fo (foM m (nmL i)) (nmL j) ≠ 0
  · exact ⟨v, h.store (by rw [← (ln_4 hn hk h2 h3).2, fo_store]; exact hs1)⟩
  have hs2 : (foM (foM m (nmL i)) (nmL j)).store = m.store := (fo_store _ _).trans hs1
  have hle := h.2.2.1 i hi
  have hvi : v i ≠ 0 := by rw [← hi0]; exact h2
  have hvj : v j = 0 := by rw [← hj0]; exact Classical.not_not.1 h3
  have hct : numK m (lK (v i)) = cnt v (v i) := h.2.2.2 (v i) (by omega) (by omega)
  have hc2 := cnt_le (v := v) (i := j) (id := v i) hj (by omega)
  have e1 : ∀ k, numK (lookM (foM (foM m (nmL i)) (nmL j)) k) = numK m := fun k => by funext q; show numOf (getKey (foM (foM m (nmL i)) (nmL j)).store q) = _; rw [hs2]; rfl
  have h4 : ¬ numOf (getKey (foM (foM m (nmL i)) (nmL j)).store (lK (fo m (nmL i)))) ≥ 4 := by rw [hs2, hi0]; show ¬ numK m (lK (v i)) ≥ 4; omega
  have h6 := (ln_6 hn hk h2 h3 h4).2
  rw [hs2, hi0] at h6
  have he : (⟨#[110, 47]⟩ : ByteArray) ++ nmL j = nK (nmL j) := rfl
  rw [he] at h6
  rw [← h6]
  have hN : numOf (getKey m.store (lK (v i))) = cnt v (v i) := hct
  rw [hN]
  refine ⟨upd v j (v i), h.setName hj hle (fun k hk1 hk2 => ?_) ?_ fun id h7 h8 => ?_⟩
  · rw [numK_ne (hk2 _ (by omega)), numK_ne hk1, e1]
  · rw [numK_ne (lk_ne _ _ _)]; exact numK_set (nmK_ok j hj) (by omega)
  · have hu := cnt_upd (v := v) (i := j) (y := v i) (id := id) hj
    rw [one_f (show ¬ v j = id by omega)] at hu
    by_cases e : id = v i
    · subst e
      rw [one_t rfl] at hu
      rw [numK_set (lK_ok (by omega)) (by omega)]; omega
    · rw [one_f (fun q => e q.symm)] at hu
      rw [numK_ne (lK_ne (by omega) (by omega) e), numK_ne (fun q => lk_ne _ _ _ q.symm), e1, h.2.2.2 id h7 h8]; omega
theorem namesOk.unlink {m : MachD} {c : Nat} {v : Nat → Nat} (h : namesOk m c v) (hc : c ≤ 15) {i : Nat} (hi : i < 3) (h0 : v i ≠ 0) : namesOk (ulM m (nmL i)) c (upd v i 0) := by
  have hn := nmL_ok i hi
  have hi0 := h.val hi
  have hs1 : (foM m (nmL i)).store = m.store := fo_store _ _
  have hle := h.2.2.1 i hi
  have h2 : ¬ fo m (nmL i) = 0 := by rw [hi0]; exact h0
  have he : (⟨#[110, 47]⟩ : ByteArray) ++ nmL i = nK (nmL i) := rfl
  have hg : ∀ k, k ≠ nK (nmL i) → getKey (layM (foM m (nmL i)) (nK (nmL i)) ⟨#[]⟩).store k = getKey m.store k := fun k hk => by rw [getKey_lay hk, hs1]
  have hg0 : getKey (layM (foM m (nmL i)) (nK (nmL i)) ⟨#[]⟩).store (nK (nmL i)) = ⟨#[]⟩ := getKey_laySame (nmK_ok i hi) (Nat.zero_le _)
  have hct : numK m (lK (v i)) = cnt v (v i) := h.2.2.2 (v i) (by omega) (by omega)
  have hN : numOf (getKey (layM (foM m (nmL i)) (nK (nmL i)) ⟨#[]⟩).store (lK (v i))) = cnt v (v i) := by rw [hg _ fun q => lk_ne _ _ _ q.symm]; exact hct
  have hu : ∀ id, 1 ≤ id → cnt (upd v i 0) id + one (v i = id) = cnt v id := fun id h1 => by
    have := cnt_upd (v := v) (i := i) (y := 0) (id := id) hi
    rw [one_f (show ¬ 0 = id by omega)] at this
    exact this
  have hui := hu (v i) (by omega)
  rw [one_t rfl] at hui
  have hc3 : cnt v (v i) ≤ 3 := by
    have hl : ∀ (b : Prop) [Decidable b], one b ≤ 1 := fun b _ => by unfold one; split <;> omega
    have h1 := hl (v 0 = v i); have h2 := hl (v 1 = v i); have h3 := hl (v 2 = v i)
    unfold cnt; omega
  by_cases h3 : cnt v (v i) > 1
  · have h5 := (ul_3 (m := m) (name := nmL i) hn h2 (by rw [he, hi0, hN]; exact h3)).2
    rw [he, hi0, hN] at h5
    rw [← h5]
    have e1 : ((cnt v (v i) : Nat) : Int) - 1 = ((cnt v (v i) - 1 : Nat) : Int) := by omega
    rw [e1]
    refine h.setName hi (Nat.zero_le _) (fun k hk1 hk2 => ?_) ?_ fun id h7 h8 => ?_
    · rw [numK_ne (hk2 _ (by omega))]; unfold numK; exact congrArg numOf (hg k hk1)
    · rw [numK_ne (lk_ne _ _ _)]; unfold numK; exact (congrArg numOf hg0).trans numOf_nil
    · have hid := hu id h7
      by_cases e : id = v i
      · subst e
        rw [one_t rfl] at hid
        rw [numK_set (lK_ok (by omega)) (by omega)]; omega
      · rw [one_f (fun q => e q.symm)] at hid
        rw [numK_ne (lK_ne (by omega) (by omega) e)]
        have := h.2.2.2 id h7 h8
        have e2 : numK (lookM (layM (foM m (nmL i)) (nK (nmL i)) ⟨#[]⟩) (lK (v i))) (lK id) = numK m (lK id) := congrArg numOf (hg _ fun q => lk_ne _ _ _ q.symm)
        rw [e2]; omega
  · have h5 := (ul_4 (m := m) (name := nmL i) hn h2 (by rw [he, hi0, hN]; exact h3)).2
    rw [he, hi0] at h5
    rw [← h5]
    refine ⟨?_, fun j hj => ?_, fun j hj => ?_, fun id h7 h8 => ?_⟩
    · unfold numK; rw [getKey_wipe_no (cF_begins _)]; exact (congrArg numOf (hg _ (cf_ne _))).trans h.1
    · unfold upd numK
      rw [getKey_wipe_no (nK_begins _ _)]
      by_cases e : j = i
      · rw [if_pos e, e]; exact (congrArg numOf hg0).trans numOf_nil
      · rw [if_neg e]; exact (congrArg numOf (hg _ (nmK_ne j hj i hi e))).trans (h.2.1 j hj)
    · unfold upd
      split
      · exact Nat.zero_le _
      · exact h.2.2.1 j hj
    · have hid := hu id h7
      by_cases e : id = v i
      · subst e
        rw [one_t rfl] at hid
        unfold numK
        rw [getKey_wipe_in (lK_ok (by omega)) (lK_begins _), numOf_nil]; omega
      · rw [one_f (fun q => e q.symm)] at hid
        have := h.2.2.2 id h7 h8
        unfold numK
        rw [getKey_wipe_no (lK_apart (by omega) (by omega) e)]
        have e2 : numOf (getKey (lookM (layM (foM m (nmL i)) (nK (nmL i)) ⟨#[]⟩) (lK (v i))).store (lK id)) = numK m (lK id) := congrArg numOf (hg _ fun q => lk_ne _ _ _ q.symm)
        rw [e2]; omega
theorem namesOk.unlink' {m : MachD} {c : Nat} {v : Nat → Nat} (h : namesOk m c v) (hc : c ≤ 15) {i : Nat} (hi : i < 3) : ∃ v', namesOk (ulM m (nmL i)) c v' := by
  by_cases h0 : v i = 0
  · exact ⟨v, h.store (by rw [← (ul_2 (nmL_ok i hi) ((h.val hi).trans h0)).2]; exact fo_store _ _)⟩
  · exact ⟨_, h.unlink hc hi h0⟩
theorem namesOk.move {m : MachD} {c : Nat} {v : Nat → Nat} (h : namesOk m c v) (hc : c ≤ 15) {i j : Nat} (hi : i < 3) (hj : j < 3) (h0 : v i ≠ 0) (hj0 : v j = 0) : namesOk (layM (setM m (nK (nmL j)) ((v i : Nat) : Int)) (nK (nmL i)) ⟨#[]⟩) c (upd (upd v j (v i)) i 0) := by
  have hle := h.2.2.1 i hi
  have hij : i ≠ j := fun e => by rw [e] at h0; exact h0 hj0
  refine ⟨?_, fun q hq => ?_, fun q hq => ?_, fun id h7 h8 => ?_⟩
  · rw [numK_lay (cf_ne _), numK_ne (cf_ne _)]; exact h.1
  · unfold upd
    by_cases e : q = i
    · rw [if_pos e, e]; unfold numK; rw [getKey_laySame (nmK_ok i hi) (Nat.zero_le _)]; exact numOf_nil
    · rw [if_neg e, numK_lay (nmK_ne q hq i hi e)]
      by_cases e2 : q = j
      · rw [if_pos e2, e2]; exact numK_set (nmK_ok j hj) (by omega)
      · rw [if_neg e2, numK_ne (nmK_ne q hq j hj e2)]; exact h.2.1 q hq
  · unfold upd
    split
    · exact Nat.zero_le _
    · split
      · exact hle
      · exact h.2.2.1 q hq
  · rw [numK_lay (fun q => lk_ne _ _ _ q.symm), numK_ne (fun q => lk_ne _ _ _ q.symm), h.2.2.2 id h7 h8]
    have h1 := cnt_upd (v := v) (i := j) (y := v i) (id := id) hj
    have h2 := cnt_upd (v := upd v j (v i)) (i := i) (y := 0) (id := id) hi
    have e3 : upd v j (v i) i = v i := if_neg hij
    rw [e3, one_f (show ¬ 0 = id by omega)] at h2
    rw [one_f (show ¬ v j = id by omega)] at h1
    omega
theorem namesOk.rename {m : MachD} {c : Nat} {v : Nat → Nat} (h : namesOk m c v) (hc : c ≤ 15) {i j : Nat} (hi : i < 3) (hj : j < 3) : ∃ v', namesOk (rnM m (nmL i) (nmL j)) c v' := by
  have hn := nmL_ok i hi
  have hk := nmL_ok j hj
  have hi0 := h.val hi
  have hs1 : (foM m (nmL i)).store = m.store := fo_store _ _
  have hf : namesOk (foM m (nmL i)) c v := h.store hs1
  have hj0 := hf.val hj
  have hs2 : (foM (foM m (nmL i)) (nmL j)).store = m.store := (fo_store _ _).trans hs1
  have hf2 : namesOk (foM (foM m (nmL i)) (nmL j)) c v := h.store hs2
  by_cases h2 : fo m (nmL i) = 0
  · exact ⟨v, h.store (by rw [← (rn_3 hn hk h2).2]; exact hs1)⟩
  by_cases h3 : fo (foM m (nmL i)) (nmL j) = fo m (nmL i)
  · exact ⟨v, h.store (by rw [← (rn_4 hn hk h2 h3).2]; exact hs2)⟩
  have hvi : v i ≠ 0 := by rw [← hi0]; exact h2
  have he1 : (⟨#[110, 47]⟩ : ByteArray) ++ nmL j = nK (nmL j) := rfl
  have he2 : (⟨#[110, 47]⟩ : ByteArray) ++ nmL i = nK (nmL i) := rfl
  by_cases h4 : fo (foM m (nmL i)) (nmL j) ≠ 0
  · have h5 := (rn_5 hn hk h2 h3 h4).2
    rw [he1, he2, hi0] at h5
    rw [← h5]
    have hij : i ≠ j := fun e => h3 (by rw [hj0, hi0, e])
    have hu := hf2.unlink hc hj (by rw [← hj0]; exact h4)
    have e3 : upd v j 0 i = v i := if_neg hij
    have := hu.move hc hi hj (by rw [e3]; exact hvi) (if_pos rfl)
    rw [e3] at this
    exact ⟨_, this⟩
  · have h5 := (rn_6 hn hk h2 h3 h4).2
    rw [he1, he2, hi0] at h5
    rw [← h5]
    exact ⟨_, hf2.move hc hi hj hvi (by rw [← hj0]; exact Classical.not_not.1 h4)⟩
def nBd : Nat → Nat
  | 0 => 20
  | k + 1 => 2 * nBd k + 20
theorem nBd_le {k : Nat} (h : k ≤ 6) : nBd k ≤ 200000 := by
  have : ∀ k, k < 7 → nBd k ≤ 200000 := by decide
  exact this k (by omega)
/-- .. after k steps. -/
def steps (k : Nat) (m : MachD) : Prop := (∃ c v, c ≤ k + 1 ∧ namesOk m c v) ∧ bdC (nBd k) m
theorem steps_base : steps 0 (mnM (⟨[], (⟨[], []⟩ : TouchD)⟩ : MachD) (⟨#[120]⟩ : ByteArray)) := by
  obtain ⟨c, v, h1, h2⟩ := namesOk_base.make (by decide) (i := 0) (by decide)
  exact ⟨⟨c, v, by omega, h2⟩, (bdC.mn bdC_base).le (by decide)⟩
theorem first_one : mnI (⟨[], (⟨[], []⟩ : TouchD)⟩ : MachD) (⟨#[120]⟩ : ByteArray) > 0 := by
  have hn : nameOk (⟨#[120]⟩ : ByteArray) = true := by decide +kernel
  have h0 : ¬ fo (⟨[], (⟨[], []⟩ : TouchD)⟩ : MachD) (⟨#[120]⟩ : ByteArray) ≠ 0 := by
    unfold fo
    rw [if_pos hn, numK_base]; decide
  have hk : ∀ key, getKey (foM (⟨[], (⟨[], []⟩ : TouchD)⟩ : MachD) (⟨#[120]⟩ : ByteArray)).store key = ⟨#[]⟩ := fun key => by rw [fo_store]; rfl
  have h1 := (mn_4 hn h0 (by rw [hk, numOf_nil]; decide)).1
  rw [bumpN_lt (by show numOf (getKey (foM _ _).store _) < 999; rw [hk, numOf_nil]; decide)] at h1
  omega
theorem steps.make {k i : Nat} {m : MachD} {x : ByteArray} (h : steps k m) (hk : k < 6) (hx : nth NL i = some x) : steps (k + 1) (mnM m x) := by
  obtain ⟨⟨c, v, h1, h2⟩, h3⟩ := h
  obtain ⟨rfl, hi⟩ := nmL_of hx
  obtain ⟨c', v', h4, h5⟩ := h2.make (by omega) hi
  exact ⟨⟨c', v', by omega, h5⟩, (bdC.mn h3).le (by show _ ≤ 2 * nBd k + 20; omega)⟩
theorem steps.link {k i j : Nat} {m : MachD} {x y : ByteArray} (h : steps k m) (hk : k < 6) (hx : nth NL i = some x) (hy : nth NL j = some y) : steps (k + 1) (lnM m x y) := by
  obtain ⟨⟨c, v, h1, h2⟩, h3⟩ := h
  obtain ⟨rfl, hi⟩ := nmL_of hx
  obtain ⟨rfl, hj⟩ := nmL_of hy
  obtain ⟨v', h5⟩ := h2.link (by omega) hi hj
  exact ⟨⟨c, v', by omega, h5⟩, (bdC.ln h3).le (by show _ ≤ 2 * nBd k + 20; omega)⟩
theorem steps.unlink {k i : Nat} {m : MachD} {x : ByteArray} (h : steps k m) (hk : k < 6) (hx : nth NL i = some x) : steps (k + 1) (ulM m x) := by
  obtain ⟨⟨c, v, h1, h2⟩, h3⟩ := h
  obtain ⟨rfl, hi⟩ := nmL_of hx
  obtain ⟨v', h5⟩ := h2.unlink' (by omega) hi
  exact ⟨⟨c, v', by omega, h5⟩, (bdC.ul h3).le (by show _ ≤ 2 * nBd k + 20; omega)⟩
theorem steps.rename {k i j : Nat} {m : MachD} {x y : ByteArray} (h : steps k m) (hk : k < 6) (hx : nth NL i = some x) (hy : nth NL j = some y) : steps (k + 1) (rnM m x y) := by
  obtain ⟨⟨c, v, h1, h2⟩, h3⟩ := h
  obtain ⟨rfl, hi⟩ := nmL_of hx
  obtain ⟨rfl, hj⟩ := nmL_of hy
  obtain ⟨v', h5⟩ := h2.rename (by omega) hi hj
  exact ⟨⟨c, v', by omega, h5⟩, (bdC.rn h3).le (by show _ ≤ 2 * nBd k + 20; omega)⟩
def pc (m : MachD) (id : Nat) : Nat → Nat
  | 0 => 0
  | j + 1 => pc m id j + one (fo m (nmL j) = id)
theorem pc_t {m : MachD} {id j nn : Nat} {x : ByteArray} (h : nn = pc m id j) (hx : nth NL j = some x) (hb : fo m x = id) : nn + 1 = pc m id (j + 1) := by
  obtain ⟨rfl, _⟩ := nmL_of hx
  rw [pc, one_t hb, h]
theorem pc_f {m : MachD} {id j nn : Nat} {x : ByteArray} (h : nn = pc m id j) (hx : nth NL j = some x) (hb : ¬ fo m x = id) : nn = pc m id (j + 1) := by
  obtain ⟨rfl, _⟩ := nmL_of hx
  rw [pc, one_f hb, h]; rfl
theorem steps.count {k id nn j : Nat} {m : MachD} (h : steps k m) (h1 : 1 ≤ id) (h2 : id ≤ 6) (hj : j = 3) (hn : nn = pc m id j) : nn = numOf (getKey m.store (lK id)) := by
  obtain ⟨⟨c, v, _, h4⟩, _⟩ := h
  subst hj
  rw [hn]
  have : numK m (lK id) = cnt v id := h4.2.2.2 id h1 (by omega)
  show pc m id 3 = numK m (lK id)
  rw [this]
  show 0 + one (fo m (nmL 0) = id) + one (fo m (nmL 1) = id) + one (fo m (nmL 2) = id) = _
  rw [h4.val (i := 0) (by omega), h4.val (i := 1) (by omega), h4.val (i := 2) (by omega)]
  unfold cnt; omega
end Go.Proofs.YtibgmijfnbnfkaaGreatDoor
