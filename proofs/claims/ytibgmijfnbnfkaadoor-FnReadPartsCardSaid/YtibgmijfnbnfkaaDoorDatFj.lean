/-
  What a file holds when it is written, read, cut.
-/
import Derived.Test.YtibgmijfnbnfkaaDoorDatFi
namespace Go.Proofs.YtibgmijfnbnfkaaDoor
open Go.ChangeShapes Go.WideShapes Go.ChangeAt Go.RowKit
set_option maxRecDepth 100000
set_option maxHeartbeats 1000000

/-! ### A sorted store is told by what it holds -/
theorem lessL_cons {a b : UInt8} {x y : List UInt8} : Op.bytesLess (a :: x) (b :: y) = true ↔ a.toNat < b.toNat ∨ (a = b ∧ Op.bytesLess x y = true) := by
  simp [Op.bytesLess, UInt8.lt_iff_toNat_lt]
theorem lessL_trans : ∀ {a b c : List UInt8}, Op.bytesLess a b = true → Op.bytesLess b c = true → Op.bytesLess a c = true
  | [], [], _, h, _ => by simp [Op.bytesLess] at h
  | _ :: _, [], _, h, _ => by simp [Op.bytesLess] at h
  | _, _ :: _, [], _, h => by simp [Op.bytesLess] at h
  | [], _ :: _, _ :: _, _, _ => rfl
  | a :: x, b :: y, c :: z, h, k => by
    rw [lessL_cons] at h k ⊢
    rcases h with h | ⟨rfl, h⟩
    · rcases k with k | ⟨rfl, k⟩
      · exact .inl (by omega)
      · exact .inl h
    · rcases k with k | ⟨rfl, k⟩
      · exact .inl k
      · exact .inr ⟨rfl, lessL_trans h k⟩
theorem lessL_total : ∀ {a b : List UInt8}, Op.bytesLess a b = false → a ≠ b → Op.bytesLess b a = true
  | [], [], _, h => absurd rfl h
  | [], _ :: _, h, _ => by simp [Op.bytesLess] at h
  | _ :: _, [], _, _ => rfl
  | a :: x, b :: y, h, k => by
    have h1 : ¬ Op.bytesLess (a :: x) (b :: y) = true := by rw [h]; decide
    rw [lessL_cons] at h1 ⊢
    by_cases e : a = b
    · subst e
      refine .inr ⟨rfl, lessL_total ?_ fun q => k (by rw [q])⟩
      cases q : Op.bytesLess x y
      · rfl
      · exact absurd (.inr ⟨rfl, q⟩) h1
    · refine .inl ?_
      have h2 : ¬ a.toNat < b.toNat := fun q => h1 (.inl q)
      have h3 : a.toNat ≠ b.toNat := fun q => e (UInt8.toNat_inj.1 q)
      omega
theorem ltS_trans {a b c : ByteArray} (h : ltS a b = true) (k : ltS b c = true) : ltS a c = true := lessL_trans h k
theorem ltS_total {a b : ByteArray} (h : ltS a b = false) (k : a ≠ b) : ltS b a = true := lessL_total h fun e => k (by
  rw [bytes_toList, bytes_toList] at e
  exact ByteArray.ext (Array.toList_inj.1 e))
theorem ltS_ne {a b : ByteArray} (h : ltS a b = true) : a ≠ b := fun e => by rw [e, ltS_self] at h; cases h
def srt (s : List CellD) : Prop := s.Pairwise (fun a b => ltS a.key b.key = true) ∧ ∀ c ∈ s, c.val ≠ ⟨#[]⟩
theorem srt_nil : srt [] := ⟨.nil, fun _ h => absurd h List.not_mem_nil⟩
theorem srt.put {s : List CellD} {key val : ByteArray} (h : srt s) : srt (putKey s key val) := by
  unfold putKey
  split
  · have hd : srt (delKey s key) := ⟨h.1.filter _, fun c hc => h.2 c (delKey_mem.1 hc).1⟩
    split
    · exact hd
    · rename_i hv
      generalize hr : delKey s key = r at hd
      have hn : ∀ c ∈ r, c.key ≠ key := by rw [← hr]; exact delKey_no
      unfold insK insAt
      generalize hi : (r.findIdx fun c : CellD => !leS c.key key) = i
      have hlo : ∀ a ∈ r.take i, ltS a.key key = true := fun a ha => by
        obtain ⟨j, hj, rfl⟩ := List.mem_iff_getElem.1 ha
        rw [List.length_take] at hj
        rw [List.getElem_take]
        have h1 := List.not_of_lt_findIdx (p := fun c : CellD => !leS c.key key) (xs := r) (i := j) (by omega)
        have h2 : leS (r[j]'(by omega)).key key = true := by simpa using h1
        unfold leS at h2
        rcases Bool.or_eq_true _ _ ▸ h2 with h3 | h3
        · exact h3
        · exact absurd (of_decide_eq_true h3) (hn _ (List.getElem_mem _))
      have hhi : ∀ b ∈ r.drop i, ltS key b.key = true := fun b hb => by
        by_cases hl : i < r.length
        · have h1 : (!leS (r[i]).key key) = true := by
            have := List.findIdx_getElem (p := fun c : CellD => !leS c.key key) (xs := r) (w := by rw [hi]; exact hl)
            simpa [hi] using this
          have h2 : ltS key (r[i]).key = true := by
            have h3 : leS (r[i]).key key = false := by simpa using h1
            unfold leS at h3
            rw [Bool.or_eq_false_iff] at h3
            exact ltS_total h3.1 (hn _ (List.getElem_mem _))
          rw [List.drop_eq_getElem_cons hl] at hb
          rcases List.mem_cons.1 hb with rfl | hb
          · exact h2
          · have hp : (r.drop i).Pairwise (fun a b => ltS a.key b.key = true) := hd.1.drop
            rw [List.drop_eq_getElem_cons hl] at hp
            exact ltS_trans h2 ((List.pairwise_cons.1 hp).1 b hb)
        · rw [List.drop_eq_nil_of_le (by omega)] at hb
          exact absurd hb List.not_mem_nil
      refine ⟨List.pairwise_append.2 ⟨hd.1.take, List.pairwise_cons.2 ⟨hhi, hd.1.drop⟩, fun a ha b hb => ?_⟩, fun c hc => ?_⟩
      · rcases List.mem_cons.1 hb with rfl | hb
        · exact hlo a ha
        · exact ltS_trans (hlo a ha) (hhi b hb)
      · rcases List.mem_append.1 hc with hc | hc
        · exact hd.2 c (List.mem_of_mem_take hc)
        · rcases List.mem_cons.1 hc with rfl | hc
          · exact hv
          · exact hd.2 c (List.mem_of_mem_drop hc)
  · exact h
theorem getKey_hd (c : CellD) (l : List CellD) : getKey (c :: l) c.key = c.val := by
  rw [getKey_eq, List.find?_cons_of_pos (by simp)]; rfl
theorem getKey_tl {c : CellD} {l : List CellD} {k : ByteArray} (h : c.key ≠ k) : getKey (c :: l) k = getKey l k := by
  rw [getKey_eq, getKey_eq, List.find?_cons_of_neg (by simpa using h)]
theorem srt_tl {c : CellD} {l : List CellD} (h : srt (c :: l)) : srt l ∧ ∀ d ∈ l, ltS c.key d.key = true := ⟨⟨(List.pairwise_cons.1 h.1).2, fun d hd => h.2 d (List.mem_cons_of_mem _ hd)⟩, (List.pairwise_cons.1 h.1).1⟩
theorem srt_no {c : CellD} {l : List CellD} {k : ByteArray} (h : srt (c :: l)) (hk : ltS k c.key = true) : getKey (c :: l) k = ⟨#[]⟩ := getKey_no fun d hd => by
  rcases List.mem_cons.1 hd with rfl | hd
  · exact (ltS_ne hk).symm
  · exact (ltS_ne (ltS_trans hk ((srt_tl h).2 d hd))).symm
theorem srt_ext : ∀ {a b : List CellD}, srt a → srt b → (∀ k, getKey a k = getKey b k) → a = b
  | [], [], _, _, _ => rfl
  | [], y :: b, _, hb, h => by
    have := h y.key
    rw [getKey_hd] at this
    exact absurd this.symm (hb.2 y (List.mem_cons_self ..))
  | x :: a, [], ha, _, h => by
    have := h x.key
    rw [getKey_hd] at this
    exact absurd this (ha.2 x (List.mem_cons_self ..))
  | x :: a, y :: b, ha, hb, h => by
    by_cases e : x.key = y.key
    · have hv : x.val = y.val := by
        have := h x.key
        rw [getKey_hd, e, getKey_hd] at this
        exact this
      have hxy : x = y := by cases x; cases y; cases e; cases hv; rfl
      subst hxy
      have ht : a = b := srt_ext (srt_tl ha).1 (srt_tl hb).1 fun k => by
        by_cases hk : x.key = k
        · subst hk
          rw [getKey_no fun d hd => (ltS_ne ((srt_tl ha).2 d hd)).symm, getKey_no fun d hd => (ltS_ne ((srt_tl hb).2 d hd)).symm]
        · have := h k
          rw [getKey_tl hk, getKey_tl hk] at this
          exact this
      rw [ht]
    · exfalso
      cases q : ltS x.key y.key
      · have h1 := ltS_total q e
        have := h y.key
        rw [srt_no ha h1, getKey_hd] at this
        exact hb.2 y (List.mem_cons_self ..) this.symm
      · have := h x.key
        rw [getKey_hd, srt_no hb q] at this
        exact ha.2 x (List.mem_cons_self ..) this
/-! ### What a file holds -/
abbrev sK (id : Int) : ByteArray := (keyNum (⟨#[105, 47]⟩ : ByteArray) id (⟨#[47, 115]⟩ : ByteArray))
abbrev bK (id : Int) (p : Nat) : ByteArray := keyNum (keyNum (⟨#[105, 47]⟩ : ByteArray) id (⟨#[47, 98, 47]⟩ : ByteArray)) ((p : Nat) : Int) (⟨#[]⟩ : ByteArray)
def idOk (id : Int) : Prop := 0 ≤ id ∧ id ≤ 999
theorem bK_ne {id : Int} {p q : Nat} (hp : p ≤ 999) (hq : q ≤ 999) (h : p ≠ q) : bK id p ≠ bK id q := keyNum_ne hp hq noD_nil noD_nil (.inl h)
theorem bK_sK {id : Int} {p : Nat} (h : idOk id) : bK id p ≠ sK id := by
  obtain ⟨n, rfl⟩ := Int.eq_ofNat_of_zero_le h.1
  unfold bK sK
  rw [keyNum_nest]
  have hn : n ≤ 999 := by have := h.2; omega
  refine keyNum_ne hn hn (noD_app (noD_lit [47, 98, 47] (by decide)) (by decide)) (noD_lit [47, 115] (by decide)) (.inr fun e => ?_)
  have e1 := congrArg (fun s : ByteArray => s.data.toList[1]?) e
  simp only [toList_append] at e1
  have e2 : (([47, 98, 47] : List UInt8) ++ ((decS ((p : Nat) : Int)).data.toList ++ (⟨#[]⟩ : ByteArray).data.toList))[1]? = ([47, 115] : List UInt8)[1]? := e1
  simp at e2
theorem sK_ok {id : Int} (h : idOk id) : keyOk (sK id) = true := by
  obtain ⟨n, rfl⟩ := Int.eq_ofNat_of_zero_le h.1
  exact key_ok (by have := h.2; omega) (by decide) (by decide) (by decide) (by decide)
theorem bK_ok {id : Int} {p : Nat} (h : idOk id) (hp : p ≤ 999) : keyOk (bK id p) = true := by
  obtain ⟨n, rfl⟩ := Int.eq_ofNat_of_zero_le h.1
  have hn : n ≤ 999 := by have := h.2; omega
  have hs := size_num (h := (⟨#[105, 47]⟩ : ByteArray)) (t := (⟨#[47, 98, 47]⟩ : ByteArray)) hn
  have e1 : (⟨#[47, 98, 47]⟩ : ByteArray).size = 3 := rfl
  have e2 : (⟨#[105, 47]⟩ : ByteArray).size = 2 := rfl
  have e3 : (⟨#[]⟩ : ByteArray).size = 0 := rfl
  refine key_ok hp (kbs_num (n := n) (by decide) (by decide)) (by decide) ?_ (by omega)
  unfold keyNum
  rw [ByteArray.size_append, ByteArray.size_append]; omega
/-- A file whose blocks are B, its size's value z. -/
def holds (m : MachD) (id : Int) (z : ByteArray) (B : Nat → List Nat) : Prop := srt m.store ∧ getKey m.store (sK id) = z ∧ (∀ p, p ≤ 8 → getKey m.store (bK id p) = hexS (bstr (B p))) ∧ ∀ k, k ≠ sK id → (∀ p, p ≤ 8 → k ≠ bK id p) → getKey m.store k = ⟨#[]⟩
def blkL (L : List Nat) (p : Nat) : List Nat := (L.drop (p * 8)).take 8
def isF (m : MachD) (id : Int) (L : List Nat) : Prop := L.length ≤ 64 ∧ (∀ x ∈ L, x < 256) ∧ holds m id (numV ((L.length : Nat) : Int)) (blkL L)
theorem holds.cong {m : MachD} {id : Int} {z : ByteArray} {B C : Nat → List Nat} (h : holds m id z B) (e : ∀ p, p ≤ 8 → B p = C p) : holds m id z C := ⟨h.1, h.2.1, fun p hp => by rw [h.2.2.1 p hp, e p hp], h.2.2.2⟩
theorem holds.store {m m' : MachD} {id : Int} {z : ByteArray} {B : Nat → List Nat} (h : holds m id z B) (e : m'.store = m.store) : holds m' id z B := by unfold holds at *; rw [e]; exact h
theorem isF.store {m m' : MachD} {id : Int} {L : List Nat} (h : isF m id L) (e : m'.store = m.store) : isF m' id L := ⟨h.1, h.2.1, h.2.2.store e⟩
theorem holds.lay {m : MachD} {id : Int} {z : ByteArray} {B : Nat → List Nat} {l : List Nat} {p : Nat} (h : holds m id z B) (hi : idOk id) (hp : p ≤ 8) (hl : l.length ≤ 8) : holds (layM m (bK id p) (hexS (bstr l))) id z (fun q => if q = p then l else B q) := by
  obtain ⟨h1, h2, h3, h4⟩ := h
  refine ⟨h1.put, ?_, fun q hq => ?_, fun k hk hb => ?_⟩
  · rw [getKey_lay (bK_sK hi).symm, h2]
  · show getKey _ (bK id q) = hexS (bstr (if q = p then l else B q))
    by_cases e : q = p
    · subst e
      rw [if_pos rfl, getKey_laySame (bK_ok hi (by omega)) (by rw [hexS_size, bstr_size]; omega)]
    · rw [if_neg e, getKey_lay (bK_ne (by omega) (by omega) e), h3 q hq]
  · rw [getKey_lay (hb p hp), h4 k hk hb]
theorem holds.set {m : MachD} {id : Int} {z : ByteArray} {B : Nat → List Nat} (h : holds m id z B) (hi : idOk id) (n : Int) : holds (setM m (sK id) n) id (numV n) B := by
  obtain ⟨h1, h2, h3, h4⟩ := h
  refine ⟨h1.put, ?_, fun q hq => ?_, fun k hk hb => ?_⟩
  · unfold setM; rw [getKey_laySame (sK_ok hi) (numV_size _)]
  · rw [getKey_set (bK_sK hi), h3 q hq]
  · rw [getKey_set hk, h4 k hk hb]
theorem blkL_nil (p : Nat) : blkL [] p = [] := by unfold blkL; simp
theorem blkL_len (L : List Nat) (p : Nat) : (blkL L p).length = min 8 (L.length - p * 8) := by unfold blkL; rw [List.length_take, List.length_drop]
theorem blkL_lt {L : List Nat} (h : ∀ x ∈ L, x < 256) (p : Nat) : ∀ x ∈ blkL L p, x < 256 := fun x hx => h x (List.mem_of_mem_drop (List.mem_of_mem_take hx))
theorem isF_base (id : Int) : isF (⟨[], (⟨[], []⟩ : TouchD)⟩ : MachD) id [] := by
  refine ⟨Nat.zero_le _, fun _ h => absurd h List.not_mem_nil, srt_nil, rfl, fun p _ => ?_, fun _ _ _ => rfl⟩
  rw [blkL_nil]; rfl
theorem holds.block {m : MachD} {id : Int} {z : ByteArray} {B : Nat → List Nat} (h : holds m id z B) {p : Nat} (hp : p ≤ 8) (hl : (B p).length ≤ 8) : unhexT (getKey m.store (bK id p)) = bstr (B p) := by
  rw [h.2.2.1 p hp]
  exact (unhex_yes rfl (by rw [bstr_size]; omega)).1
theorem isF.size {m : MachD} {id : Int} {L : List Nat} (h : isF m id L) : numOf (getKey m.store (sK id)) = L.length := by
  rw [h.2.2.2.1]; exact numOf_numV (by have := h.1; omega)
/-- Two machines that hold one file alone, and the same one, have equal stores. -/
theorem isF.same {m m' : MachD} {id : Int} {L : List Nat} (h : isF m id L) (k : isF m' id L) : m.store = m'.store := by
  refine srt_ext h.2.2.1 k.2.2.1 fun q => ?_
  by_cases e : q = sK id
  · rw [e, h.2.2.2.1, k.2.2.2.1]
  · by_cases e2 : ∃ p, p ≤ 8 ∧ q = bK id p
    · obtain ⟨p, hp, rfl⟩ := e2
      rw [h.2.2.2.2.1 p hp, k.2.2.2.2.1 p hp]
    · have e3 : ∀ p, p ≤ 8 → q ≠ bK id p := fun p hp e4 => e2 ⟨p, hp, e4⟩
      rw [h.2.2.2.2.2 q e e3, k.2.2.2.2.2 q e e3]
/-! ### It is written -/
theorem set_mid {P R : List Nat} {y v n : Nat} (h : P.length = n) : (P ++ y :: R).set n v = P ++ v :: R := by
  subst h
  rw [List.set_append_right _ _ (Nat.le_refl _), Nat.sub_self]; rfl
theorem take_snoc {T : List Nat} {s j v : Nat} (h : T[s + j]? = some v) : (T.drop s).take (j + 1) = (T.drop s).take j ++ [v] := by
  rw [List.take_add_one, List.getElem?_drop, h]; rfl
theorem pad_split {Q D : List Nat} {n : Nat} (h : Q.length = n) : ∃ y, padL (Q ++ D) (n + 1) = Q ++ y :: D.drop 1 := by
  subst h
  cases D with
  | nil => exact ⟨0, by unfold padL; rw [List.append_nil, show Q.length + 1 - Q.length = 1 by omega]; rfl⟩
  | cons d D => exact ⟨d, by unfold padL; rw [List.length_append, List.length_cons, show Q.length + 1 - (Q.length + (D.length + 1)) = 0 by omega]; simp⟩
theorem wrB_eq {t : ByteArray} {a f i : Nat} {B : List Nat} (hf : f ≤ i) (ha : a ≤ i) (ho : i - f ≤ B.length) : ∀ j, i + j ≤ a + t.size → wrB t a f i B j = B.take (i - f) ++ ((bytesN t).drop (i - a)).take j ++ B.drop (i - f + j)
  | 0, _ => by simp [wrB]
  | j + 1, h => by
    have ih := wrB_eq (t := t) hf ha ho j (by omega)
    have hb := bytesN_length t
    have hv : (bytesN t)[i - a + j]? = some (byteAt t (i + j - a)) := by
      have hlt : i - a + j < (bytesN t).length := by omega
      rw [byteAt_bytesN, show i + j - a = i - a + j by omega, List.getElem?_eq_getElem hlt]; rfl
    unfold wrB
    rw [ih, show i + j - f + 1 = (i - f + j) + 1 by omega, show i + j - f = i - f + j by omega]
    have hl : (B.take (i - f) ++ ((bytesN t).drop (i - a)).take j).length = i - f + j := by
      rw [List.length_append, List.length_take, List.length_take, List.length_drop]; omega
    obtain ⟨y, hy⟩ := pad_split (D := B.drop (i - f + j)) hl
    rw [hy, set_mid hl, take_snoc hv, List.drop_drop, List.append_assoc, List.append_assoc, List.append_assoc, Nat.add_assoc]; rfl
def over (L T : List Nat) (a : Nat) : List Nat := L.take a ++ T ++ L.drop (a + T.length)
theorem over_get {L T : List Nat} {a : Nat} (h : a ≤ L.length) (i : Nat) : (over L T a)[i]? = if i < a then L[i]? else if i < a + T.length then T[i - a]? else L[i]? := by
  unfold over
  have e : (L.take a).length = a := by rw [List.length_take]; omega
  rw [List.getElem?_append, List.getElem?_append, List.length_append, e, List.getElem?_drop]
  by_cases h1 : i < a
  · rw [if_pos (by omega), if_pos h1, if_pos h1, List.getElem?_take, if_pos h1]
  · rw [if_neg h1, if_neg h1]
    by_cases h2 : i < a + T.length
    · rw [if_pos h2, if_pos h2]
    · rw [if_neg h2, if_neg h2]; congr 1; omega
theorem over_len {L T : List Nat} {a : Nat} (h : a ≤ L.length) : (over L T a).length = max L.length (a + T.length) := by
  unfold over
  rw [List.length_append, List.length_append, List.length_take, List.length_drop]; omega
theorem blkL_get (L : List Nat) (p i : Nat) : (blkL L p)[i]? = if i < 8 then L[p * 8 + i]? else none := by
  unfold blkL
  rw [List.getElem?_take, List.getElem?_drop]
theorem blk_out {L T : List Nat} {a p : Nat} (h : a ≤ L.length) (hp : p * 8 + 8 ≤ a ∨ a + T.length ≤ p * 8) : blkL (over L T a) p = blkL L p := by
  apply List.ext_getElem?
  intro i
  rw [blkL_get, blkL_get, over_get h]
  by_cases h1 : i < 8
  · rw [if_pos h1, if_pos h1]
    split
    · rfl
    · rw [if_neg (by omega)]
  · rw [if_neg h1, if_neg h1]
theorem blk_in {L : List Nat} {t : ByteArray} {a p : Nat} (h : a ≤ L.length) (hp : a / 8 ≤ p) (hq : p * 8 < a + t.size) : wrB t a (p * 8) (max a (p * 8)) (blkL L p) (min (a + t.size) (p * 8 + 8) - max a (p * 8)) = blkL (over L (bytesN t) a) p := by
  have hb := bytesN_length t
  have hl := blkL_len L p
  rw [wrB_eq (Nat.le_max_right ..) (Nat.le_max_left ..) (by omega) _ (by omega)]
  apply List.ext_getElem?
  intro i
  rw [blkL_get, over_get h, hb, List.getElem?_append, List.getElem?_append, List.length_append, List.length_take, List.length_take, List.length_drop, hb, hl, List.getElem?_take, List.getElem?_take, List.getElem?_drop, List.getElem?_drop, blkL_get, blkL_get]
  by_cases h8 : i < 8
  · by_cases h1 : p * 8 + i < a
    · rw [if_pos (by omega), if_pos (by omega), if_pos (by omega), if_pos h8, if_pos h8, if_pos h1]
    · by_cases h2 : p * 8 + i < a + t.size
      · rw [if_pos (by omega), if_neg (by omega), if_pos (by omega), if_pos h8, if_neg h1, if_pos h2]
        congr 1; omega
      · rw [if_neg (by omega), if_pos (by omega), if_pos h8, if_neg h1, if_neg h2]
        congr 1; omega
  · rw [if_neg (by omega), if_neg h8, if_neg (by omega)]
theorem wrN_holds {m : MachD} {id : Int} {z : ByteArray} {L : List Nat} {t : ByteArray} {a : Nat} (hi : idOk id) (h : holds m id z (blkL L)) (hlt : ∀ x ∈ L, x < 256) (ha : a ≤ L.length) (ht : a + t.size ≤ 64) (h0 : 0 < t.size) : ∀ k, k ≤ nBl a t.size → holds (wrN m id a t k) id z (fun p => if a / 8 ≤ p ∧ p < a / 8 + k then blkL (over L (bytesN t) a) p else blkL L p)
  | 0, _ => h.cong fun p _ => by rw [if_neg (by omega)]
  | k + 1, hk => by
    have ih := wrN_holds hi h hlt ha ht h0 k (by omega)
    have hk2 : (a / 8 + k) * 8 < a + t.size ∧ a / 8 + k ≤ 7 := by unfold nBl at hk; omega
    have hbk := ih.block (p := a / 8 + k) (by omega) (by rw [if_neg (by omega), blkL_len]; omega)
    have ih2 : holds (lookM (wrN m id a t k) (bK id (a / 8 + k))) id z _ := ih.store rfl
    rw [if_neg (by omega)] at hbk
    show holds (wrS id a t (wrN m id a t k) (a / 8 + k)) id z _
    unfold wrS
    rw [hbk, bytesN_bstr _ (blkL_lt hlt _), blk_in ha (by omega) hk2.1]
    refine (ih2.lay hi (p := a / 8 + k) (by omega) (by rw [blkL_len]; omega)).cong fun p _ => ?_
    by_cases e : p = a / 8 + k
    · rw [if_pos e, if_pos (by omega), e]
    · rw [if_neg e]
      by_cases e2 : a / 8 ≤ p ∧ p < a / 8 + k
      · rw [if_pos e2, if_pos (by omega)]
      · rw [if_neg e2, if_neg (by omega)]
theorem wrN_all {m : MachD} {id : Int} {z : ByteArray} {L : List Nat} {t : ByteArray} {a : Nat} (hi : idOk id) (h : holds m id z (blkL L)) (hlt : ∀ x ∈ L, x < 256) (ha : a ≤ L.length) (ht : a + t.size ≤ 64) (h0 : 0 < t.size) : holds (wrN m id a t (nBl a t.size)) id z (blkL (over L (bytesN t) a)) := by
  refine (wrN_holds hi h hlt ha ht h0 _ (Nat.le_refl _)).cong fun p _ => ?_
  by_cases e : a / 8 ≤ p ∧ p < a / 8 + nBl a t.size
  · rw [if_pos e]
  · rw [if_neg e, blk_out ha]
    rw [bytesN_length]
    unfold nBl at e
    omega
theorem over_lt {L : List Nat} {t : ByteArray} {a : Nat} (h : ∀ x ∈ L, x < 256) : ∀ x ∈ over L (bytesN t) a, x < 256 := fun x hx => by
  unfold over at hx
  rcases List.mem_append.1 hx with hx | hx
  · rcases List.mem_append.1 hx with hx | hx
    · exact h x (List.mem_of_mem_take hx)
    · exact bytesN_lt t x hx
  · exact h x (List.mem_of_mem_drop hx)
theorem isF.write {m : MachD} {id at_ : Int} {L : List Nat} {t : ByteArray} {a : Nat} (h : isF m id L) (hi : idOk id) (ha : at_ = ((a : Nat) : Int)) (hl : a ≤ L.length) (h0 : 0 < t.size) (ht : a + t.size ≤ 64) : wfC m id at_ t = 0 ∧ isF (wfM m id at_ t) id (over L (bytesN t) a) := by
  subst ha
  have hs := h.size
  have hne : ¬ t = ⟨#[]⟩ := fun e => by rw [e] at h0; exact absurd h0 (Nat.lt_irrefl _)
  have hb : inB ((a : Nat) : Int) 0 ((numOf (getKey m.store (sK id)) : Nat) : Int) = true := by unfold inB; rw [hs]; exact decide_eq_true (by omega)
  have hh : holds (lookM m (sK id)) id (numV ((L.length : Nat) : Int)) (blkL L) := h.2.2.store rfl
  have hw := wrN_all hi hh h.2.1 hl ht h0
  have hol := over_len (T := bytesN t) hl
  rw [bytesN_length] at hol
  by_cases hg : a + t.size > L.length
  · have := wf_G (id := id) rfl hb hne (by omega) (by rw [hs]; exact hg) rfl rfl
    refine ⟨this.1.symm, by have := h.1; omega, over_lt h.2.1, ?_⟩
    rw [← this.2, show (over L (bytesN t) a).length = a + t.size by omega]
    exact hw.set hi _
  · have := wf_S (id := id) rfl hb hne (by omega) (by rw [hs]; exact hg) rfl rfl
    refine ⟨this.1.symm, by have := h.1; omega, over_lt h.2.1, ?_⟩
    rw [← this.2, show (over L (bytesN t) a).length = L.length by omega]
    exact hw
theorem isF.full {m : MachD} {id at_ : Int} {L : List Nat} {t : ByteArray} {a : Nat} (h : isF m id L) (ha : at_ = ((a : Nat) : Int)) (hl : a ≤ L.length) (ht : a + t.size > 64) : wfC m id at_ t = 3 := by
  subst ha
  have hs := h.size
  have hne : ¬ t = ⟨#[]⟩ := fun e => by
    rw [e] at ht
    have e0 : (⟨#[]⟩ : ByteArray).size = 0 := rfl
    have := h.1; omega
  have hb : inB ((a : Nat) : Int) 0 ((numOf (getKey m.store (sK id)) : Nat) : Int) = true := by unfold inB; rw [hs]; exact decide_eq_true (by omega)
  exact (wf_L (id := id) rfl hb hne ht).1.symm
/-! ### It is read -/
theorem bytesN_app (a b : ByteArray) : bytesN (a ++ b) = bytesN a ++ bytesN b := by unfold bytesN; rw [toList_append, List.map_append]
theorem bytesN_ext (s : ByteArray) (i j : Nat) : bytesN (s.extract i j) = ((bytesN s).take j).drop i := by
  unfold bytesN
  rw [ByteArray.data_extract, Array.toList_extract, List.extract_eq_take_drop, List.map_take, List.map_drop, List.drop_take]
theorem bstr_back (s : ByteArray) : bstr (bytesN s) = s := bytesN_inj (bytesN_bstr _ (bytesN_lt s))
theorem bstr_app (a b : List Nat) : bstr (a ++ b) = bstr a ++ bstr b := by
  apply ByteArray.ext; apply Array.toList_inj.1
  rw [toList_append, bstr_toList, bstr_toList, bstr_toList, List.map_append]
theorem rdT_eq {m : MachD} {id : Int} {L : List Nat} {a e : Nat} (h : isF m id L) (ha : a ≤ e) (he : e ≤ L.length) : ∀ k, (a / 8 + k) ≤ 8 → bytesN (rdT m id a e k) = (L.drop a).take (min e ((a / 8 + k) * 8) - a)
  | 0, _ => by rw [show min e ((a / 8 + 0) * 8) - a = 0 by omega]; rfl
  | k + 1, hk => by
    have ih := rdT_eq h ha he k (by omega)
    have hl := blkL_len L (a / 8 + k)
    have hb := h.2.2.block (p := a / 8 + k) (by omega) (by omega)
    rw [rdT, hb, bytesN_app, ih, bytesN_ext, bytesN_bstr _ (blkL_lt h.2.1 _), bstr_size, hl]
    apply List.ext_getElem?
    intro i
    rw [List.getElem?_append]
    simp only [List.length_take, List.length_drop, List.getElem?_take, List.getElem?_drop, blkL_get]
    by_cases h1 : i < min e ((a / 8 + k) * 8) - a
    · rw [if_pos (by omega), if_pos h1, if_pos (by omega)]
    · by_cases h2 : i < min e ((a / 8 + (k + 1)) * 8) - a
      · rw [if_neg (by omega), if_pos (by omega), if_pos (by omega), if_pos h2]
        congr 1; omega
      · rw [if_neg (by omega), if_neg (by omega), if_neg h2]
theorem isF.read {m : MachD} {id at_ n : Int} {L : List Nat} {a k : Nat} (h : isF m id L) (ha : at_ = ((a : Nat) : Int)) (hn : n = ((k : Nat) : Int)) : rfT m id at_ n = bstr ((L.drop a).take k) ∧ (rfM m id at_ n).store = m.store := by
  subst ha hn
  have hs := h.size
  have h64 := h.1
  by_cases hb : a < L.length ∧ 1 ≤ k
  · have hE : rfE m id ((a : Nat) : Int) ((k : Nat) : Int) = a + min k (L.length - a) := by unfold rfE; rw [show numOf (getKey m.store (keyNum (⟨#[105, 47]⟩ : ByteArray) id (⟨#[47, 115]⟩ : ByteArray))) = L.length from hs]; omega
    have hB : rfB m id ((a : Nat) : Int) ((k : Nat) : Int) = true := by unfold rfB; rw [show numOf (getKey m.store (keyNum (⟨#[105, 47]⟩ : ByteArray) id (⟨#[47, 115]⟩ : ByteArray))) = L.length from hs]; exact decide_eq_true (by omega)
    refine ⟨?_, by unfold rfM; rw [if_pos hB, rdM_store]; rfl⟩
    unfold rfT
    rw [if_pos hB, hE, Int.toNat_natCast]
    have h1 := rdT_eq (a := a) (e := a + min k (L.length - a)) h (by omega) (by omega) (nBl a (a + min k (L.length - a) - a)) (by unfold nBl; omega)
    rw [← bstr_back (rdT ..), h1]
    congr 1
    apply List.ext_getElem?
    intro i
    rw [List.getElem?_take, List.getElem?_take, List.getElem?_drop]
    by_cases h2 : i < k
    · rw [if_pos h2]
      split
      · rfl
      · rename_i h3
        rw [List.getElem?_eq_none]
        unfold nBl at h3; omega
    · rw [if_neg h2, if_neg]
      unfold nBl; omega
  · have hB : rfB m id ((a : Nat) : Int) ((k : Nat) : Int) = false := by unfold rfB; rw [show numOf (getKey m.store (keyNum (⟨#[105, 47]⟩ : ByteArray) id (⟨#[47, 115]⟩ : ByteArray))) = L.length from hs]; exact decide_eq_false (by omega)
    have h2 := rf_0 hB
    refine ⟨?_, by rw [← h2.2]; rfl⟩
    rw [← h2.1, show (L.drop a).take k = [] by
      by_cases h3 : k = 0
      · rw [h3]; rfl
      · rw [List.drop_eq_nil_of_le (by omega), List.take_nil]]
    rfl
theorem isF.text {m : MachD} {id : Int} {L : List Nat} (h : isF m id L) : rfT m id 0 999 = bstr L := by
  have := (h.read (at_ := 0) (n := 999) (a := 0) (k := 999) rfl rfl).1
  rw [this, List.drop_zero, List.take_of_length_le (by have := h.1; omega)]
/-! ### It is cut -/
theorem ctN_holds {m : MachD} {id : Int} {z : ByteArray} {B : Nat → List Nat} {p : Nat} (hi : idOk id) (h : holds m id z B) : ∀ k, p + k ≤ 9 → holds (ctN m id p k) id z (fun q => if p ≤ q ∧ q < p + k then [] else B q)
  | 0, _ => h.cong fun q _ => by rw [if_neg (by omega)]
  | k + 1, hk => by
    have ih := ctN_holds (p := p) hi h k (by omega)
    show holds (layM (ctN m id p k) (bK id (p + k)) (hexS (bstr []))) id z _
    refine (ih.lay hi (p := p + k) (l := []) (by omega) (Nat.zero_le _)).cong fun q _ => ?_
    by_cases e : q = p + k
    · rw [if_pos e, if_pos (by omega)]
    · rw [if_neg e]
      by_cases e2 : p ≤ q ∧ q < p + k
      · rw [if_pos e2, if_pos (by omega)]
      · rw [if_neg e2, if_neg (by omega)]
theorem isF.cut {m : MachD} {id n : Int} {L : List Nat} {a : Nat} (h : isF m id L) (hi : idOk id) (hn : n = ((a : Nat) : Int)) (ha : a ≤ L.length) : ctC m id n = 0 ∧ isF (ctM m id n) id (L.take a) := by
  have hs := h.size
  have h64 := h.1
  have hb : inB n 0 ((numOf (getKey m.store (sK id)) : Nat) : Int) = true := by unfold inB; rw [hs, hn]; exact decide_eq_true (by omega)
  have hc := ct_1 (m := m) (id := id) hn hb rfl rfl
  have hh : holds (lookM m (sK id)) id (numV ((L.length : Nat) : Int)) (blkL L) := h.2.2.store rfl
  have h1 : holds (ctH (lookM m (sK id)) id a) id (numV ((L.length : Nat) : Int)) (fun q => if q = a / 8 ∧ a % 8 ≠ 0 then blkL (L.take a) q else blkL L q) := by
    unfold ctH
    by_cases e : a % 8 = 0
    · rw [if_pos e]
      exact hh.cong fun q _ => by rw [if_neg (by omega)]
    · rw [if_neg e]
      have hl := blkL_len L (a / 8)
      have hbk := hh.block (p := a / 8) (by omega) (by omega)
      rw [show bK id (a / 8) = keyNum (keyNum (⟨#[105, 47]⟩ : ByteArray) id (⟨#[47, 98, 47]⟩ : ByteArray)) ((a / 8 : Nat) : Int) (⟨#[]⟩ : ByteArray) from rfl] at hbk
      rw [hbk, bstr_size]
      have e2 : (bstr (blkL L (a / 8))).extract 0 (min (a % 8) (blkL L (a / 8)).length) = bstr (blkL (L.take a) (a / 8)) := by
        apply bytesN_inj
        rw [bytesN_ext, bytesN_bstr _ (blkL_lt h.2.1 _), bytesN_bstr _ (blkL_lt (fun x hx => h.2.1 x (List.mem_of_mem_take hx)) _), List.drop_zero]
        apply List.ext_getElem?
        intro i
        rw [List.getElem?_take, blkL_get, blkL_get, List.getElem?_take, hl]
        by_cases h2 : i < a % 8
        · rw [if_pos (by omega), if_pos (by omega), if_pos (by omega), if_pos (by omega)]
        · rw [if_neg (by omega)]
          split
          · rw [if_neg (by omega)]
          · rfl
      rw [e2]
      have hh2 : holds (lookM (lookM m (sK id)) (bK id (a / 8))) id (numV ((L.length : Nat) : Int)) (blkL L) := hh.store rfl
      refine (hh2.lay hi (p := a / 8) (by omega) (by rw [blkL_len]; omega)).cong fun q _ => ?_
      by_cases e3 : q = a / 8
      · rw [if_pos e3, if_pos ⟨e3, e⟩, e3]
      · rw [if_neg e3, if_neg (fun x => e3 x.1)]
  have h2 := (ctN_holds (p := (a + 7) / 8) hi h1 ((L.length + 7) / 8 - (a + 7) / 8) (by omega)).set hi ((a : Nat) : Int)
  have hs2 : numOf (getKey m.store (keyNum (⟨#[105, 47]⟩ : ByteArray) id (⟨#[47, 115]⟩ : ByteArray))) = L.length := hs
  rw [hs2] at hc
  refine ⟨hc.1.symm, by rw [List.length_take]; omega, fun x hx => h.2.1 x (List.mem_of_mem_take hx), ?_⟩
  rw [← hc.2, show (L.take a).length = a by rw [List.length_take]; omega]
  refine h2.cong fun q _ => ?_
  by_cases e : (a + 7) / 8 ≤ q
  · have e0 : blkL (L.take a) q = [] := by
      apply List.eq_nil_of_length_eq_zero
      rw [blkL_len, List.length_take]; omega
    by_cases e1 : q < (a + 7) / 8 + ((L.length + 7) / 8 - (a + 7) / 8)
    · rw [if_pos ⟨e, e1⟩, e0]
    · rw [if_neg (fun x => e1 x.2), if_neg (by omega), e0]
      apply List.eq_nil_of_length_eq_zero
      rw [blkL_len]; omega
  · rw [if_neg (fun x => e x.1)]
    by_cases e1 : q = a / 8 ∧ a % 8 ≠ 0
    · rw [if_pos e1]
    · rw [if_neg e1]
      apply List.ext_getElem?
      intro i
      rw [blkL_get, blkL_get, List.getElem?_take]
      split
      · rw [if_pos (by omega)]
      · rfl
end Go.Proofs.YtibgmijfnbnfkaaDoor
