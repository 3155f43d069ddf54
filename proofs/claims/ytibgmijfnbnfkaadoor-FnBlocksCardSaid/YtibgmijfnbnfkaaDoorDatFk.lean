/-
  Files: what the statements ask.
-/
import Derived.Test.YtibgmijfnbnfkaaDoorDatFj
namespace Go.Proofs.YtibgmijfnbnfkaaDoor
open Go.ChangeShapes Go.WideShapes Go.ChangeAt Go.RowKit
set_option maxRecDepth 100000
set_option maxHeartbeats 1000000

theorem isF.new {id : Int} {t : ByteArray} (hi : idOk id) (h0 : 0 < t.size) (ht : t.size ≤ 64) : wfC (⟨[], (⟨[], []⟩ : TouchD)⟩ : MachD) id 0 t = 0 ∧ isF (wfM (⟨[], (⟨[], []⟩ : TouchD)⟩ : MachD) id 0 t) id (bytesN t) := by
  have := (isF_base id).write (at_ := 0) (a := 0) (t := t) hi rfl (Nat.le_refl _) h0 (by omega)
  have e : over [] (bytesN t) 0 = bytesN t := by unfold over; simp
  rw [e] at this
  exact this
theorem isF.parts {m : MachD} {id : Int} {L : List Nat} (h : isF m id L) {a n k : Nat} {z : Int} (hk : k ≤ n) (hz : z = ((n - k : Nat) : Int)) : rfT m id ((a : Nat) : Int) ((n : Nat) : Int) = rfT m id ((a : Nat) : Int) ((k : Nat) : Int) ++ rfT m id ((a + k : Nat) : Int) z := by
  rw [(h.read (a := a) (k := n) rfl rfl).1, (h.read (a := a) (k := k) rfl rfl).1, (h.read (n := z) (a := a + k) (k := n - k) rfl hz).1, ← bstr_app]
  congr 1
  rw [show n = k + (n - k) by omega, List.take_add, List.drop_drop, show k + (n - k) - k = n - k by omega]
theorem rfT_size (m : MachD) (id at_ n : Int) : (rfT m id at_ n).size ≤ 2000 := by
  unfold rfT
  split
  · have hl := numOf_le (getKey m.store (keyNum (⟨#[105, 47]⟩ : ByteArray) id (⟨#[47, 115]⟩ : ByteArray)))
    refine Nat.le_trans (rdT_size ..) ?_
    unfold nBl rfE; omega
  · exact Nat.zero_le _
theorem isF.textSize {m : MachD} {id : Int} {t : ByteArray} (h : isF m id (bytesN t)) : (rfT m id 0 999).size = t.size := by
  rw [h.text, bstr_size, bytesN_length]
theorem isF.textEq {m : MachD} {id : Int} {t : ByteArray} (h : isF m id (bytesN t)) : rfT m id 0 999 = t := by
  rw [h.text]; exact bstr_back t
theorem bytesN_pre (t : ByteArray) (k : Nat) : bytesN (t.extract 0 k) = (bytesN t).take k := by rw [bytesN_ext, List.drop_zero]
theorem bytesN_suf (t : ByteArray) (k : Nat) : bytesN (t.extract k t.size) = (bytesN t).drop k := by
  rw [bytesN_ext, List.take_of_length_le (by rw [bytesN_length]; exact Nat.le_refl _)]
theorem over_parts {L : List Nat} {k : Nat} (h : k ≤ L.length) : over (L.take k) (L.drop k) k = L := by
  unfold over
  rw [List.take_take, Nat.min_self, List.take_append_drop, List.drop_eq_nil_of_le (by rw [List.length_take, List.length_drop]; omega), List.append_nil]
theorem isF.cutText {m : MachD} {id : Int} {t : ByteArray} {k : Nat} (h : isF m id ((bytesN t).take k)) : rfT m id 0 999 = t.extract 0 k := by
  rw [← bytesN_pre] at h
  exact h.textEq
/-- The rest is written behind the beginning. -/
theorem isF.rest {m : MachD} {id : Int} {t : ByteArray} {k : Nat} (h : isF m id ((bytesN t).take k)) (hi : idOk id) (hk : k < t.size) (ht : t.size ≤ 64) : wfC m id ((k : Nat) : Int) (t.extract k t.size) = 0 ∧ isF (wfM m id ((k : Nat) : Int) (t.extract k t.size)) id (bytesN t) := by
  have hb := bytesN_length t
  have hz : (t.extract k t.size).size = t.size - k := by rw [ByteArray.size_extract]; omega
  have := h.write (at_ := ((k : Nat) : Int)) (a := k) (t := t.extract k t.size) hi rfl (by rw [List.length_take]; omega) (by omega) (by omega)
  rw [bytesN_suf, over_parts (by omega)] at this
  exact this
theorem dec4 {x : Int} (h : 0 ≤ x ∧ x < 10000) : 1 ≤ (decS x).size ∧ (decS x).size ≤ 4 := by
  obtain ⟨n, rfl⟩ := Int.eq_ofNat_of_zero_le h.1
  constructor
  · refine Nat.one_le_iff_ne_zero.2 fun e => ?_
    have h1 := (read_yes (s := decS n) (n := n) (by omega) rfl).2
    have h2 : decS n = ⟨#[]⟩ := by
      generalize decS n = z at e
      cases z with
      | mk d => exact congrArg ByteArray.mk (Array.eq_empty_of_size_eq_zero e)
    rw [h2, (read_bad (s := (⟨#[]⟩ : ByteArray)) (fun v e => by cases e)).2] at h1
    cases h1
  · rw [size_toList, decS_toList]
    exact dec_len 3 n (by have : (10 : Nat) ^ (3 + 1) = 10000 := by decide
                          omega)
theorem bdC.wf {b : Nat} {m : MachD} {id at_ : Int} {t : ByteArray} (h : bdC b m) : bdC (b + 30) (wfM m id at_ t) := by
  unfold wfM
  split
  · rename_i hc
    have h1 := hc.1
    unfold wfB inB at h1
    rw [Bool.and_eq_true] at h1
    have h2 := of_decide_eq_true h1.1
    have h3 := hc.2
    have hn : nBl at_.toNat t.size ≤ 9 := by unfold nBl; omega
    have hw := bdC.wrN (id := id) (a := at_.toNat) (t := t) (h.look (key := (keyNum (⟨#[105, 47]⟩ : ByteArray) id (⟨#[47, 115]⟩ : ByteArray)))) (nBl at_.toNat t.size)
    split
    · exact hw.set.le (by omega)
    · exact hw.le (by omega)
  · exact h.look.le (by omega)
theorem bdC.rf {b : Nat} {m : MachD} {id at_ n : Int} (h : bdC b m) : bdC (b + 140) (rfM m id at_ n) := by
  unfold rfM
  split
  · have hl := numOf_le (getKey m.store (keyNum (⟨#[105, 47]⟩ : ByteArray) id (⟨#[47, 115]⟩ : ByteArray)))
    have hn : nBl at_.toNat (rfE m id at_ n - at_.toNat) ≤ 130 := by
      unfold nBl rfE; omega
    exact (bdC.rdM (id := id) (a := at_.toNat) (h.look (key := (keyNum (⟨#[105, 47]⟩ : ByteArray) id (⟨#[47, 115]⟩ : ByteArray)))) _).le (by omega)
  · exact h.look.le (by omega)
theorem bdC.ct {b : Nat} {m : MachD} {id n : Int} (h : bdC b m) : bdC (b + 140) (ctM m id n) := by
  unfold ctM
  split
  · have hl := numOf_le (getKey m.store (keyNum (⟨#[105, 47]⟩ : ByteArray) id (⟨#[47, 115]⟩ : ByteArray)))
    exact (bdC.ctN (bdC.ctH (h.look (key := (keyNum (⟨#[105, 47]⟩ : ByteArray) id (⟨#[47, 115]⟩ : ByteArray))))) _).set.le (by omega)
  · exact h.look.le (by omega)
/-! ### A file's keys -/
theorem getKey_in : ∀ {s : List CellD}, srt s → ∀ {c : CellD}, c ∈ s → getKey s c.key = c.val
  | x :: l, h, c, hc => by
    rcases List.mem_cons.1 hc with rfl | hc
    · exact getKey_hd _ _
    · rw [getKey_tl (ltS_ne ((srt_tl h).2 c hc)), getKey_in (srt_tl h).1 hc]
def fileS (L : List Nat) : List CellD := ((List.range ((L.length + 7) / 8)).map fun p => (⟨bK 1 p, hexS (bstr (blkL L p))⟩ : CellD)) ++ [⟨sK 1, numV ((L.length : Nat) : Int)⟩]
theorem bK_lt : ∀ p, p < 8 → (∀ q, q < 8 → p < q → Op.bytesLess (bK 1 p).data.toList (bK 1 q).data.toList = true) ∧ Op.bytesLess (bK 1 p).data.toList (sK 1).data.toList = true := by decide +kernel
theorem bK_pre : ∀ p, p < 8 → begins (bK 1 p) (⟨#[105, 47, 49, 47, 98, 47]⟩ : ByteArray) = true := by decide +kernel
theorem sK_pre : begins (sK 1) (⟨#[105, 47, 49, 47, 98, 47]⟩ : ByteArray) = false := by decide +kernel
theorem fileS_srt {L : List Nat} (h0 : 1 ≤ L.length) (h : L.length ≤ 64) : srt (fileS L) := by
  unfold fileS
  refine ⟨List.pairwise_append.2 ⟨List.pairwise_map.2 ?_, List.pairwise_singleton _ _, fun a ha b hb => ?_⟩, fun c hc => ?_⟩
  · refine List.Pairwise.imp_of_mem ?_ (List.pairwise_lt_range (n := (L.length + 7) / 8))
    intro p q hp hq hlt
    have hp := List.mem_range.1 hp
    have hq := List.mem_range.1 hq
    show ltS (bK 1 p) (bK 1 q) = true
    unfold ltS
    rw [bytes_toList, bytes_toList]
    exact (bK_lt p (by omega)).1 q (by omega) hlt
  · obtain ⟨p, hp, rfl⟩ := List.mem_map.1 ha
    have hp := List.mem_range.1 hp
    rw [List.mem_singleton.1 hb]
    show ltS (bK 1 p) (sK 1) = true
    unfold ltS
    rw [bytes_toList, bytes_toList]
    exact (bK_lt p (by omega)).2
  · rcases List.mem_append.1 hc with hc | hc
    · obtain ⟨p, hp, rfl⟩ := List.mem_map.1 hc
      have hp := List.mem_range.1 hp
      intro e
      have h1 := congrArg ByteArray.size e
      have h2 := hexS_size (bstr (blkL L p))
      rw [bstr_size, blkL_len] at h2
      have e0 : (⟨#[]⟩ : ByteArray).size = 0 := rfl
      have h3 : (hexS (bstr (blkL L p))).size = 0 := h1
      omega
    · rw [List.mem_singleton.1 hc]
      exact numV_ne h0 (by omega)
theorem isF.list {m : MachD} {L : List Nat} (h : isF m 1 L) (h0 : 1 ≤ L.length) : m.store = fileS L := by
  have h64 := h.1
  have hs := fileS_srt h0 h64
  have hi : idOk 1 := by unfold idOk; decide
  have hmem : ∀ c ∈ fileS L, c.key = sK 1 ∨ ∃ p, p < (L.length + 7) / 8 ∧ c.key = bK 1 p := fun c hc => by
    unfold fileS at hc
    rcases List.mem_append.1 hc with hc | hc
    · obtain ⟨p, hp, rfl⟩ := List.mem_map.1 hc
      exact .inr ⟨p, List.mem_range.1 hp, rfl⟩
    · rw [List.mem_singleton.1 hc]; exact .inl rfl
  refine srt_ext h.2.2.1 hs fun k => ?_
  by_cases e : k = sK 1
  · rw [e, h.2.2.2.1]
    exact (getKey_in hs (c := ⟨sK 1, numV ((L.length : Nat) : Int)⟩) (List.mem_append_right _ (List.mem_singleton.2 rfl))).symm
  · by_cases e2 : ∃ p, p ≤ 8 ∧ k = bK 1 p
    · obtain ⟨p, hp, rfl⟩ := e2
      rw [h.2.2.2.2.1 p hp]
      by_cases hn : p < (L.length + 7) / 8
      · exact (getKey_in hs (c := ⟨bK 1 p, hexS (bstr (blkL L p))⟩) (List.mem_append_left _ (List.mem_map.2 ⟨p, List.mem_range.2 hn, rfl⟩))).symm
      · rw [getKey_no fun c hc e3 => ?_]
        · have : blkL L p = [] := List.eq_nil_of_length_eq_zero (by rw [blkL_len]; omega)
          rw [this]; rfl
        · rcases hmem c hc with e4 | ⟨q, hq, e4⟩
          · exact bK_sK hi (e3.symm.trans e4)
          · exact bK_ne (by omega) (by omega) (by omega) (e4.symm.trans e3)
    · rw [h.2.2.2.2.2 k e fun p hp e3 => e2 ⟨p, hp, e3⟩, getKey_no fun c hc e3 => ?_]
      rcases hmem c hc with e4 | ⟨q, hq, e4⟩
      · exact e (e3.symm.trans e4)
      · exact e2 ⟨q, by omega, e3.symm.trans e4⟩
theorem isF.keys {m : MachD} {L : List Nat} (h : isF m 1 L) (h0 : 1 ≤ L.length) : (keysUnder m.store (⟨#[105, 47, 49, 47, 98, 47]⟩ : ByteArray)).length = (L.length + 7) / 8 := by
  have h64 := h.1
  rw [h.list h0]
  unfold keysUnder fileS
  rw [List.length_map, List.filter_append, List.filter_eq_self.2 ?_, List.length_append, List.length_map, List.length_range]
  · rw [List.filter_cons_of_neg (by rw [sK_pre]; decide)]; rfl
  · intro c hc
    obtain ⟨p, hp, rfl⟩ := List.mem_map.1 hc
    exact bK_pre p (by have := List.mem_range.1 hp; omega)
theorem isF.blockSize {m : MachD} {L : List Nat} (h : isF m 1 L) {p : Nat} (hp : p ≤ 8) : (unhexT (getKey m.store (bK 1 p))).size = min 8 (L.length - p * 8) := by
  rw [h.2.2.block hp (by rw [blkL_len]; omega), bstr_size, blkL_len]
end Go.Proofs.YtibgmijfnbnfkaaDoor
