/-
  Texts laid together: Slices, Eng2, Eng3, Eng4.
-/
import Derived.Test.YtipdbeklopjbmaaGreatDoorP01
import Derived.IntWalk
import Derived.Laws.Concat
import Derived.Laws.StructEq
import Derived.Laws.Cover1
import Derived.Laws.Tables
/-
  Contracts: the library's generic functions on slices (Clone, IndexFunc, Insert, DeleteFunc), at slices of strings and of cells.
-/

namespace Go.Proofs.YtipdbeklopjbmaaGreatDoor
open Go.ChangeShapes Go.WideShapes Go.ChangeAt Go.RowKit
set_option maxHeartbeats 1000000
set_option maxRecDepth 100000

structure CellD where
  key : ByteArray
  val : ByteArray
deriving DecidableEq
def encC (c : CellD) : List Value := [.string c.key, .string c.val]
def okC (c : CellD) : Prop := okS c.key ∧ okS c.val
theorem cellT : ElemT Tryz.prog 28 91 (.agg #[.string ⟨#[]⟩, .string ⟨#[]⟩]) 2 32 encC where
  ht := Tryz.underlying28
  hT := ⟨by kernel_rfl, rfl, by omega⟩
  hk := fun _ => rfl
  h1 := fun x u hu => by simp [encC] at hu; rcases hu with rfl | rfl <;> rfl
  by0 := by omega
abbrev RCells (w : World) (v : Value) (l : List CellD) : Prop := RSl 2 (Enc encC okC) w v l
abbrev OCells (w : World) (v : Value) (l : List CellD) : Prop := Own 91 2 encC okC w v l
theorem OCells.rd {w : World} {v : Value} {l : List CellD} (h : OCells w v l) : RCells w v l := Own.rd cellT.hk h
theorem RCells.at {w : World} {a : Option Addr} {n cap : Nat} {l : List CellD} (h : RCells w (.slice a n cap) l) (i : Nat) (hi : i < n) :
    ∃ b off c, a = some ⟨b, off, none⟩ ∧ l[i]? = some c ∧ (c.key.size ≤ 9223372036854775807 ∧ c.val.size ≤ 9223372036854775807) ∧ w.cell? ⟨b, off + i * 2, none⟩ = some (.string c.key) ∧ w.cell? ⟨b, off + i * 2 + 1, none⟩ = some (.string c.val) := by
  obtain ⟨b, off, c, row, h1, h2, h3, ⟨rfl, h4⟩, h5⟩ := RSl.at h i hi
  exact ⟨b, off, c, h1, h2, h4, by simpa using h5 0 (.string c.key) rfl, by simpa using h5 1 (.string c.val) rfl⟩
theorem RCells.below {w w' : World} {v : Value} {l : List CellD} (h : RCells w v l) (hb : Bl w w') : RCells w' v l := RSl.below (Enc.stable _ _) h hb

theorem cloneCells_c (v : Value) (w : World) (l : List CellD) (hr : RSl 2 (Enc encC okC) w v l) (hl : l.length ≤ 1099511627776) :
    Calls Tryz.prog 46 #[v] w fun e w' => ∃ v', e = .returned v' ∧ Own 91 2 encC okC w' v' l ∧ (∀ b ∈ v'.ownBlock.toList, w.heap.size ≤ b) ∧ Bl w w' := by
  have hr0 := hr
  obtain ⟨a, cap, rfl, hle, -, -, hn⟩ := hr.inv
  have Hr := Lib.hid hr0; clear hr hr0
  obtain ⟨len, hlen⟩ : ∃ len, l.length = len := ⟨_, rfl⟩
  rw [hlen] at hle Hr hl ⊢
  have Hlen := Lib.hid hlen; clear hlen
  cases a with
  | none =>
    obtain ⟨rfl, rfl⟩ := hn rfl
    have h0 := Hlen.out
    simp only [List.length_nil] at h0
    subst h0
    clear hn
    have hnil : ∀ (W : World), (binOp .eql 28 (.slice none 0 0) (.slice none 0 0)).run Tryz.prog W = .ok (.bool true) W := fun W => Lib.run_eql_slice_nil (P := Tryz.prog) W 28 91 none 0 0 0 0 Tryz.underlying28
    go_enter Tryz.func46, Tryz.ntmps46
    go_wp2
    go_ret
    exact ⟨_, rfl, own_nil _ _ _ _ _, by simp [Value.ownBlock], Bl.refl _⟩
  | some a =>
    clear hn
    have hnil : ∀ (W : World), (binOp .eql 28 (.slice (some a) len cap) (.slice none 0 0)).run Tryz.prog W = .ok (.bool false) W := fun W => Lib.run_eql_slice_nil (P := Tryz.prog) W 28 91 (some a) len cap 0 0 Tryz.underlying28
    have hown := own_made0 w 91 2 encC okC
    have hsrc := RSl.below (Enc.stable _ _) Hr.out ((Bl.refl w).alloc (.cells #[] 91))
    go_enter Tryz.func46, Tryz.ntmps46
    go_wp2_with (at_builtin; refine wpList_app cellT rfl (.tmp 5) (.tmp 6) rfl (.slice (some ⟨w.heap.size, 0, none⟩) 0 0) (.slice (some a) len cap) [] l rfl rfl hown hsrc (by have := Hlen.out; simp <;> omega) ?_; intro v' w' hO hkb hmv hnl)
    have hO' := hO
    rw [List.nil_append] at hO'
    have hfr : ∀ b ∈ v'.ownBlock.toList, w.heap.size ≤ b := hmv.fresh (by simp) (by simp [Value.ownBlock])
    have hbl : Bl w w' := hkb.under ((Bl.refl w).alloc _) (by simp [Value.ownBlock])
    clear hO hkb hmv hnl hown hsrc
    go_wp2
    go_ret
    exact ⟨_, rfl, hO', hfr, hbl⟩
theorem cloneCells_s (v : Value) (w : World) (l : List CellD) (hr : RSl 2 (Enc encC okC) w v l) (hl : l.length ≤ 1099511627776) :
    Calls Tryz.prog 46 #[v] w fun e w' => ∃ a n cap, e = .returned (.slice a n cap) ∧ Own 91 2 encC okC w' (.slice a n cap) l ∧ (∀ b ∈ (Value.slice a n cap).ownBlock.toList, w.heap.size ≤ b) ∧ Bl w w' :=
  Calls.sl (cloneCells_c v w l hr hl) fun _ _ h => h.1.isSl

def ltS (a b : ByteArray) : Bool := Op.bytesLess a.toList b.toList
def geS (key x : ByteArray) : Bool := !ltS x key
def idxP {α : Type} (p : α → Bool) (l : List α) : Int := if l.findIdx p < l.length then (l.findIdx p : Int) else -1
theorem findIdx_found {α : Type} (p : α → Bool) (l : List α) (j : Nat) (x : α) (hx : l[j]? = some x) (hp : p x = true) (hno : ∀ q, q < j → ∀ y, l[q]? = some y → p y = false) : l.findIdx p = j := by
  induction l generalizing j with
  | nil => simp at hx
  | cons y l ih =>
    cases j with
    | zero => simp at hx; subst hx; simp [List.findIdx_cons, hp]
    | succ j =>
      have h0 := hno 0 (by omega) y rfl
      have := ih j (by simpa using hx) (fun q hq z hz => hno (q + 1) (by omega) z (by simpa using hz))
      simp [List.findIdx_cons, h0, this]
theorem idxP_found {α : Type} (p : α → Bool) (l : List α) (j : Nat) (x : α) (hx : l[j]? = some x) (hp : p x = true) (hno : ∀ q, q < j → ∀ y, l[q]? = some y → p y = false) : idxP p l = j := by
  have h := findIdx_found p l j x hx hp hno
  have hj := (List.getElem?_eq_some_iff.1 hx).1
  unfold idxP
  rw [h, if_pos hj]
theorem idxP_none {α : Type} (p : α → Bool) (l : List α) (hno : ∀ q, q < l.length → ∀ y, l[q]? = some y → p y = false) : idxP p l = -1 := by
  have h : l.findIdx p = l.length := by
    rw [List.findIdx_eq_length]
    intro x hx
    obtain ⟨i, hi, rfl⟩ := List.mem_iff_getElem.1 hx
    simpa using hno i hi _ (by simp [hi])
  unfold idxP
  rw [h, if_neg (Nat.lt_irrefl _)]
def insAt {α : Type} (l : List α) (i : Nat) (x : α) : List α := l.take i ++ x :: l.drop i
theorem spl_shift (A B R X : List Value) (k : Nat) (hX : X.length = k) (hR : k ≤ R.length) :
    spl (spl (A ++ B ++ R) (A.length + k) B) A.length X = A ++ X ++ B ++ R.drop k := by
  have h1 : (A ++ B ++ R).drop (A.length + k + B.length) = R.drop k := by
    rw [show A.length + k + B.length = (A ++ B).length + k by (simp <;> omega), List.drop_append]
    simp
  have h2 : ((A ++ B ++ R).take (A.length + k) ++ (B ++ R.drop k)).take A.length = A := by
    rw [List.take_append_of_le_length (by simp <;> omega), List.take_take, Nat.min_eq_left (by omega), List.append_assoc, List.take_append_of_le_length (Nat.le_refl _), List.take_length]
  have h3 : ((A ++ B ++ R).take (A.length + k) ++ (B ++ R.drop k)).drop (A.length + k) = B ++ R.drop k := by
    have hl : ((A ++ B ++ R).take (A.length + k)).length = A.length + k := by simp <;> omega
    exact List.drop_left' hl
  unfold spl
  rw [h1, h2, hX, h3]
  simp
theorem spl_fill (A Z X B : List Value) (_h : X.length + B.length ≤ Z.length) :
    spl (spl (A ++ Z) A.length X) (A.length + X.length) B = A ++ X ++ B ++ Z.drop (X.length + B.length) := by
  have h1 : spl (A ++ Z) A.length X = (A ++ X) ++ Z.drop X.length := by
    unfold spl
    rw [List.take_append_of_le_length (Nat.le_refl _), List.take_length, List.drop_append]
    simp
  rw [h1, show A.length + X.length = (A ++ X).length by simp]
  unfold spl
  rw [List.take_append_of_le_length (Nat.le_refl _), List.take_length, List.drop_append]
  simp []

theorem insertCells_c (v : Value) (i : Nat) (x : CellD) (vb : Nat) (w : World) (l : List CellD) (hO : Own 91 2 encC okC w v l) (hi : i ≤ l.length) (hl : l.length ≤ 1099511627776) (hok : okC x)
    (hx : w.heap[vb]? = some (.cells (encC x).toArray 91 (0, 0))) (hvb : ∀ b ∈ v.ownBlock.toList, b ≠ vb) :
    Calls Tryz.prog 102 #[v, .int .i64 i, .slice (some ⟨vb, 0, none⟩) 1 1] w fun e w' => ∃ v', e = .returned v' ∧ Own 91 2 encC okC w' v' (insAt l i x) ∧ KeepBut v.ownBlock.toList w w' ∧ Moved w v v' := by
  have hxr : RSl 2 (Enc encC okC) w (.slice (some ⟨vb, 0, none⟩) 1 1) [x] := by
    refine RSl.mk vb 0 1 rfl (Nat.le_refl _) (by unfold maxLen; omega) fun q y hy => ?_
    cases q with
    | succ q => simp at hy
    | zero =>
      simp at hy; subst hy
      exact ⟨encC x, rfl, ⟨rfl, hok⟩, fun j u hj => by simp [World.cell?, hx, hj]⟩
  have hrd := Own.rd cellT.hk hO
  obtain ⟨a, cap, rfl, hle, hl63, hc63, hn⟩ := hrd.inv
  by_cases hin : i = l.length
  · obtain ⟨len, hlen⟩ : ∃ len, l.length = len := ⟨_, rfl⟩
    rw [hlen] at hin
    subst hin
    rw [hlen] at hle hl63 hO hrd hi hl ⊢
    have HO := Lib.hid hO; have Hlen := Lib.hid hlen; have Hx := Lib.hid hx
    clear hO hlen hx hrd hn hi
    have fin : ∀ v' w', Own 91 2 encC okC w' v' (l ++ [x]) → Own 91 2 encC okC w' v' (insAt l i x) := fun v' w' h => by
      have h0 := Hlen.out
      unfold insAt
      rw [List.take_of_length_le (by omega), List.drop_eq_nil_of_le (by omega)]
      exact h
    by_cases hci : cap = i
    · subst hci
      go_enter Tryz.func102, Tryz.ntmps102
      go_wp2_with (at_builtin; refine wpList_app cellT rfl (.tmp 23) (.tmp 24) rfl (.slice a cap cap) (.slice (some ⟨vb, 0, none⟩) 1 1) l [x] rfl rfl HO.out hxr (by have := Hlen.out; simp <;> omega) ?_; intro v' w' hO' hkb hmv hnl)
      go_ret
      exact ⟨_, rfl, fin _ _ hO', hkb, hmv⟩
    · go_enter Tryz.func102, Tryz.ntmps102
      go_wp2_with (at_builtin; refine wpList_app cellT rfl (.tmp 23) (.tmp 24) rfl (.slice a i cap) (.slice (some ⟨vb, 0, none⟩) 1 1) l [x] rfl rfl HO.out hxr (by have := Hlen.out; simp <;> omega) ?_; intro v' w' hO' hkb hmv hnl)
      go_ret
      exact ⟨_, rfl, fin _ _ hO', hkb, hmv⟩
  · have hin' : i < l.length := by omega
    obtain ⟨g, rfl, -, -, hfz, hgw⟩ := Own.cellAt cellT.hk hO i l[i] (by simp [hin'])
    obtain ⟨-, cur, hg, -, hm, hs, ht⟩ := Own.row hO
    have hgv : g ≠ vb := hvb g (by simp [Value.ownBlock])
    have hfl := flat_length cellT.hk l
    have hA := flat_length cellT.hk (l.take i)
    have hB := flat_length cellT.hk (l.drop i)
    have hAB : flat encC l = flat encC (l.take i) ++ flat encC (l.drop i) := by rw [← flat_append, List.take_append_drop]
    rw [List.length_take, Nat.min_eq_left hi] at hA
    rw [List.length_drop] at hB
    obtain ⟨len, hlen⟩ : ∃ len, l.length = len := ⟨_, rfl⟩
    rw [hlen] at hle hl63 hO hrd hi hl hin hin' ht hfl hB ⊢
    by_cases hroom : len + 1 ≤ cap
    · have hcur : cur = flat encC (l.take i) ++ flat encC (l.drop i) ++ cur.drop (len * 2) := by rw [← hAB, ← ht, List.take_append_drop]
      have hR : 2 ≤ (cur.drop (len * 2)).length := by
        have h1 : (len + 1) * 2 ≤ cap * 2 := Nat.mul_le_mul_right _ hroom
        rw [List.length_drop, hs]; omega
      have hsz : (Tryz.prog.info? 91).map (·.size) = some 2 := by
        obtain ⟨i0, h0, _, h2, _⟩ := info_parts cellT.hT.info
        rw [h0]; simp [h2]
      have hvl : (encC x).length = 2 := cellT.hk x
      have hov : ∀ (W : World) (lb cb : Nat), W.heap[vb]? = some (.cells (encC x).toArray 91 (0, 0)) → W.heap[g]? = some (.cells cur.toArray 91 (0, 0)) →
          (callFunc 142 #[.slice (some ⟨vb, 0, none⟩) 1 1, .slice (some ⟨g, (i + 1) * 2, none⟩) lb cb]).run Tryz.prog W = .ok (.value (.bool false)) W := fun W lb cb hx1 hg1 => by
        rw [run_callFunc_extern Tryz.func142 (by kernel_rfl) (by kernel_rfl) (by kernel_rfl) (e := Extern.SlicesOverlaps.overlaps #[28, 28] #[4]) (by kernel_rfl),
          Lib.run_overlaps_apart W 28 4 91 Tryz.underlying28 2 (fun w => by kernel_rfl) ⟨vb, 0, none⟩ ⟨g, (i + 1) * 2, none⟩ 1 1 lb cb (Ne.symm hgv) 91 91 2 (cap * 2) (by simp [World.shape?, hx1, hvl]) (by simp [World.shape?, hg1, hs]) (by have : 1 * 2 ≤ cap * 2 := Nat.mul_le_mul_right _ (by omega); omega)
            (by simp [World.frozen?, hx1]) (by simp [World.frozen?, hx1])]
        rfl
      have hlast : (len + 1) * 2 ≤ cap * 2 := Nat.mul_le_mul_right _ hroom
      have hadd : (len - i) * 2 + i * 2 = len * 2 := by rw [← Nat.add_mul]; congr 1; omega
      have hsrc : ∀ j v, (flat encC (l.drop i))[j]? = some v → w.cell? (Addr.add ⟨g, i * 2, none⟩ j) = some v := by
        intro j v hj
        have hjl := (List.getElem?_eq_some_iff.1 hj).1
        rw [add_flat, cell_of_row w g (i * 2 + j) cur.toArray 91 (0, 0) hg]
        rw [List.getElem?_toArray, hcur, List.append_assoc, List.getElem?_append_right (by omega), hA, List.getElem?_append_left (by omega), ← hj]
        congr 1; omega
      have hfit : (i + 1) * 2 + (flat encC (l.drop i)).length ≤ cur.length := by rw [hB, hs, Nat.add_mul]; omega
      have hlen2 : (spl cur ((i + 1) * 2) (flat encC (l.drop i))).length = cap * 2 := by rw [length_spl _ _ _ hfit, hs]
      have hfit2 : i * 2 + (encC x).length ≤ (spl cur ((i + 1) * 2) (flat encC (l.drop i))).length := by rw [hlen2, hvl]; omega
      have hsrc2 : ∀ W : World, W.heap[vb]? = some (.cells (encC x).toArray 91 (0, 0)) → ∀ j v, (encC x)[j]? = some v → W.cell? (Addr.add ⟨vb, 0, none⟩ j) = some v := by
        intro W hW j v hj
        rw [add_flat, cell_of_row W vb (0 + j) _ 91 (0, 0) hW]
        simpa using hj
      have hfin : spl (spl cur ((i + 1) * 2) (flat encC (l.drop i))) (i * 2) (encC x) = flat encC (l.take i) ++ encC x ++ flat encC (l.drop i) ++ (cur.drop (len * 2)).drop 2 := by
        have := spl_shift (flat encC (l.take i)) (flat encC (l.drop i)) (cur.drop (len * 2)) (encC x) 2 hvl hR
        rw [← hcur, hA] at this
        rw [Nat.add_mul, Nat.one_mul]; exact this
      have hdone : ∀ W : World, W.heap[g]? = some (.cells (spl (spl cur ((i + 1) * 2) (flat encC (l.drop i))) (i * 2) (encC x)).toArray 91 (0, 0)) → Own 91 2 encC okC W (.slice (some ⟨g, 0, none⟩) (len + 1) cap) (insAt l i x) := by
        intro W hW
        refine Own.ofRow cellT.hk ?_ (by simp [insAt, hlen]; omega) hW hroom hm (by rw [length_spl _ _ _ hfit2, hlen2]) ?_
        · intro y hy
          have hall := hO.2
          simp only [insAt, List.mem_append, List.mem_cons] at hy
          rcases hy with hy | rfl | hy
          · exact hall y (List.mem_of_mem_take hy)
          · exact hok
          · exact hall y (List.mem_of_mem_drop hy)
        · rw [hfin]
          have e1 : flat encC (insAt l i x) = flat encC (l.take i) ++ encC x ++ flat encC (l.drop i) := by simp [insAt, flat]
          rw [e1, List.take_append_of_le_length (by simp only [List.length_append, hA, hvl, hB]; omega)]
          exact List.take_of_length_le (by simp only [List.length_append, hA, hvl, hB]; omega)
      have hcap : ¬ cap = i + 1 := by omega
      have hcap2 : ¬ cap = i := by omega
      have hov1 := fun lb cb => hov w lb cb hx hg
      try simp only [Nat.mul_one] at hov1
      have Hcur := Lib.hid hcur; have Hg := Lib.hid hg; have Hx := Lib.hid hx; have HAB := Lib.hid hAB; have Hlen := Lib.hid hlen; have Ht := Lib.hid ht; have Hs := Lib.hid hs
      have Hfl := Lib.hid hfl; have HA := Lib.hid hA; have HB := Lib.hid hB; have HO := Lib.hid hO
      have Hfz := Lib.hid hfz; have Hvl := Lib.hid hvl; have Hsz := Lib.hid hsz; have Hsrc := Lib.hid hsrc; have Hfit := Lib.hid hfit; have Hsrc2 := Lib.hid hsrc2; have Hfit2 := Lib.hid hfit2; have Hdone := Lib.hid hdone
      clear hcur hg hx hAB hlen ht hs hfl hA hB hO hfz hrd hxr hov hvb hvl hsz hsrc hfit hsrc2 hfit2 hdone hfin hlen2 hadd hlast hR
      go_enter Tryz.func102, Tryz.ntmps102
      go_wp2_with (simp only [hov1])
      have hw1 : IntKind.i64.wrap ((i : Int) + 1) = (i : Int) + 1 := by rw [IntKind.wrap_i64]; omega
      have hb1 : (0 : Int) ≤ (i : Int) + 1 := by omega
      have htn : ((i : Int) + 1).toNat = i + 1 := by omega
      have hb3 : (i : Int) ≤ (len : Int) := by omega
      have hb4 : (i : Int) + 1 ≤ (len : Int) + 1 := by omega
      have hb5 : (i : Int) ≤ (len : Int) + 1 := by omega
      go_region_law (refine step_copy_k rfl (.tmp 73) (.tmp 76) 28 28 rfl 91 2 Tryz.underlying28 Hsz.out g ((i + 1) * 2) (len - i) (cap - (i + 1)) ⟨g, i * 2, none⟩ (len + 1 - i) (cap - i) (by simp [Act.eval, Act.put]) (by simp [Act.eval, Act.put]) cur 91 Hg.out (len - i) (by simp only [Nat.min_def]; split <;> omega) (flat encC (l.drop i)) HB.out Hsrc.out Hfit.out (flat_one cellT _) ?_; intro w2 hg2 hkb2)
      have hx2 : w2.heap[vb]? = some (.cells (encC x).toArray 91 (0, 0)) := hkb2.heapOf Hx.out (by simp [Ne.symm hgv])
      have Hx2 := Lib.hid hx2; have HK2 := Lib.hid hkb2
      clear hx2 hkb2
      go_wp2_with (with_reducible refine wpList_copy_k rfl (.tmp 80) (.tmp 81) 28 28 rfl 91 2 Tryz.underlying28 Hsz.out g (i * 2) (len + 1 - i) (cap - i) ⟨vb, 0, none⟩ 1 1 (by simp [Act.eval]) (by simp [Act.eval]) _ 91 hg2.out 1 (by simp only [Nat.min_def]; split <;> omega) (encC x) (by rw [Hvl.out]) (Hsrc2.out _ Hx2.out) Hfit2.out (cellT.h1 x) ?_; intro w3 hg3 hkb3)
      have HK3 := Lib.hid hkb3; clear hkb3
      go_wp2
      go_ret
      exact ⟨_, rfl, Hdone.out _ hg3.out, ((KeepBut.refl _ _).drew.trans HK2.out (by simp [Value.ownBlock])).trans HK3.out (by simp [Value.ownBlock]), fun b hb => .inl hb⟩
    · have hgrow : (cap : Int) < (len : Int) + 1 := by omega
      have hci : ¬ cap = i := by omega
      have hsz : (Tryz.prog.info? 91).map (·.size) = some 2 := by
        obtain ⟨i0, h0, _, h2, _⟩ := info_parts cellT.hT.info
        rw [h0]; simp [h2]
      have hvl : (encC x).length = 2 := cellT.hk x
      have hadd : (len - i) * 2 + i * 2 = len * 2 := by rw [← Nat.add_mul]; congr 1; omega
      have hrow : ∀ j v, (flat encC l)[j]? = some v → w.cell? (Addr.add ⟨g, 0, none⟩ j) = some v := by
        intro j v hj
        have hjl := (List.getElem?_eq_some_iff.1 hj).1
        rw [add_flat, cell_of_row w g (0 + j) cur.toArray 91 (0, 0) hg, List.getElem?_toArray, Nat.zero_add]
        rw [← ht, List.getElem?_take] at hj
        split at hj
        · exact hj
        · cases hj
      have hold : ∀ j v, (flat encC (l.take i))[j]? = some v → w.cell? (Addr.add ⟨g, 0, none⟩ j) = some v := by
        intro j v hj
        refine hrow j v ?_
        rw [hAB, List.getElem?_append_left (List.getElem?_eq_some_iff.1 hj).1]; exact hj
      have hsrc : ∀ j v, (flat encC (l.drop i))[j]? = some v → w.cell? (Addr.add ⟨g, i * 2, none⟩ j) = some v := by
        intro j v hj
        have := hrow (i * 2 + j) v (by rw [hAB, List.getElem?_append_right (by omega), hA]; rw [← hj]; congr 1; omega)
        rw [add_flat] at this ⊢
        rw [Nat.zero_add] at this
        exact this
      have hsrc2 : ∀ j v, (encC x)[j]? = some v → w.cell? (Addr.add ⟨vb, 0, none⟩ j) = some v := by
        intro j v hj
        rw [add_flat, cell_of_row w vb (0 + j) _ 91 (0, 0) hx]
        simpa using hj
      have hvw : vb < w.heap.size := (Array.getElem?_eq_some_iff.1 hx).1
      have hdone : ∀ (W : World) (G : Nat) (Z : List Value), len + 1 ≤ G → G ≤ maxLen → Z.length = (G - i) * 2 → W.heap[w.heap.size]? = some (.cells (spl (spl (flat encC (l.take i) ++ Z) (i * 2) (encC x)) ((i + 1) * 2) (flat encC (l.drop i))).toArray 91 (0, 0)) → Own 91 2 encC okC W (.slice (some ⟨w.heap.size, 0, none⟩) (len + 1) G) (insAt l i x) := by
        intro W G Z hG hGm hZ hW
        have hG1 : (len + 1) * 2 ≤ G * 2 := Nat.mul_le_mul_right _ hG
        have hG2 : (G - i) * 2 + i * 2 = G * 2 := by rw [← Nat.add_mul]; congr 1; omega
        have hf := spl_fill (flat encC (l.take i)) Z (encC x) (flat encC (l.drop i)) (by rw [hvl, hB, hZ]; omega)
        rw [hA, hvl, show i * 2 + 2 = (i + 1) * 2 by rw [Nat.add_mul, Nat.one_mul]] at hf
        rw [hf] at hW
        refine Own.ofRow cellT.hk ?_ (by simp [insAt, hlen]; omega) hW hG hGm (by simp only [List.length_append, List.length_drop, hA, hvl, hB, hZ]; omega) ?_
        · intro y hy
          have hall := hO.2
          simp only [insAt, List.mem_append, List.mem_cons] at hy
          rcases hy with hy | rfl | hy
          · exact hall y (List.mem_of_mem_take hy)
          · exact hok
          · exact hall y (List.mem_of_mem_drop hy)
        · have e1 : flat encC (insAt l i x) = flat encC (l.take i) ++ encC x ++ flat encC (l.drop i) := by simp [insAt, flat]
          rw [e1, List.take_append_of_le_length (by simp only [List.length_append, hA, hvl, hB]; omega)]
          exact List.take_of_length_le (by simp only [List.length_append, hA, hvl, hB]; omega)
      have hsrcv : ∀ W, Bl w W → ∀ j v, (encC x)[j]? = some v → W.cell? (Addr.add ⟨vb, 0, none⟩ j) = some v := fun W hb j v hj => hb.cellOf (hsrc2 j v hj)
      have hsrcg : ∀ W, Bl w W → ∀ j v, (flat encC (l.drop i))[j]? = some v → W.cell? (Addr.add ⟨g, i * 2, none⟩ j) = some v := fun W hb j v hj => hb.cellOf (hsrc j v hj)
      have hf1 : ∀ (G : Nat) (Z : List Value), len + 1 ≤ G → Z.length = (G - i) * 2 → i * 2 + (encC x).length ≤ (flat encC (l.take i) ++ Z).length := by
        intro G Z hG hZ
        have h1 : (i + 1) * 2 ≤ G * 2 := Nat.mul_le_mul_right _ (by omega)
        have h2 : (G - i) * 2 + i * 2 = G * 2 := by rw [← Nat.add_mul]; congr 1; omega
        rw [List.length_append, hA, hZ, hvl]
        rw [Nat.add_mul] at h1; omega
      have hf2 : ∀ (G : Nat) (Z : List Value), len + 1 ≤ G → Z.length = (G - i) * 2 → (i + 1) * 2 + (flat encC (l.drop i)).length ≤ (spl (flat encC (l.take i) ++ Z) (i * 2) (encC x)).length := by
        intro G Z hG hZ
        have h1 : (len + 1) * 2 ≤ G * 2 := Nat.mul_le_mul_right _ (by omega)
        have h2 : (G - i) * 2 + i * 2 = G * 2 := by rw [← Nat.add_mul]; congr 1; omega
        rw [length_spl _ _ _ (hf1 G Z hG hZ), List.length_append, hA, hZ, hB]
        rw [Nat.add_mul] at h1 ⊢; omega
      have hbnd : (i + (len + 1 - i)) * 32 ≤ 140737488355328 := by omega
      have hXi : (len : Int) + 1 - (i : Int) = ((len + 1 - i : Nat) : Int) := by omega
      have hgw' : g ≠ w.heap.size := by omega
      have hi1 : i + (len + 1 - i) = len + 1 := by omega
      have Hg := Lib.hid hg; have Hx := Lib.hid hx
      have HA := Lib.hid hA; have HB := Lib.hid hB; have Hvl := Lib.hid hvl; have Hsz := Lib.hid hsz; have Hold := Lib.hid hold; have Hsrc := Lib.hid hsrc; have Hsrc2 := Lib.hid hsrc2; have Hdone := Lib.hid hdone; have Hadd := Lib.hid hadd; have HXi := Lib.hid hXi; have Hi1 := Lib.hid hi1; have Hsrcv := Lib.hid hsrcv; have Hsrcg := Lib.hid hsrcg; have Hf1 := Lib.hid hf1; have Hf2 := Lib.hid hf2
      clear hg hx hAB hlen ht hs hfl hA hB hO hfz hrd hxr hvb hvl hsz hsrc hsrc2 hold hrow hdone hadd hXi hi1 hsrcv hsrcg hf1 hf2
      go_enter Tryz.func102, Tryz.ntmps102
      go_wp2_with (first | (refine wpList_app_zeros cellT Tryz.underlying3 rfl (.tmp 34) (.tmp 39) rfl ⟨g, 0, none⟩ i cap (len + 1 - i) _ HXi.out rfl rfl (flat encC (l.take i)) HA.out Hold.out (by omega) (by omega) hbnd ?_; intro G Z w1 hG hGm hZ hg1 hb1; rw [Hi1.out] at hG ⊢; have HG := Lib.hid hG; have HZ := Lib.hid hZ; have HGm := Lib.hid hGm; have Hb1 := Lib.hid hb1; clear hZ hGm hb1; have hG63 := maxLen_le HGm.out; have hGi : ¬ G = i := (by omega); have hGi1 : ¬ G = i + 1 := (by omega)) | (with_reducible refine wpList_copy_k rfl (.tmp 43) (.tmp 44) 28 28 rfl 91 2 Tryz.underlying28 Hsz.out w.heap.size (i * 2) (len + 1 - i) (G - i) ⟨vb, 0, none⟩ 1 1 (by simp [Act.eval]) (by simp [Act.eval]) _ 91 hg1.out 1 (by simp only [Nat.min_def]; split <;> omega) (encC x) (by rw [Hvl.out]) (Hsrcv.out _ Hb1.out) (Hf1.out G Z HG.out HZ.out) (cellT.h1 x) ?_; intro w2 hg2 hkb2; have HK2 := Lib.hid hkb2; clear hkb2))
      have hsrcg2 : ∀ j v, (flat encC (l.drop i))[j]? = some v → w2.cell? (Addr.add ⟨g, i * 2, none⟩ j) = some v := fun j v hj => by
        have h := Hsrcg.out _ Hb1.out j v hj
        rw [add_flat] at h ⊢
        exact HK2.out.cellOf h (by simp; omega)
      have Hsrcg2 := Lib.hid hsrcg2; clear hsrcg2
      have hw1 : IntKind.i64.wrap ((i : Int) + 1) = (i : Int) + 1 := by rw [IntKind.wrap_i64]; omega
      have hb1 : (0 : Int) ≤ (i : Int) + 1 := by omega
      have htn : ((i : Int) + 1).toNat = i + 1 := by omega
      have hb3 : (i : Int) ≤ (len : Int) := by omega
      have hb4 : (i : Int) + 1 ≤ (len : Int) + 1 := by omega
      go_region_law (refine step_copy_k rfl (.tmp 50) (.tmp 53) 28 28 rfl 91 2 Tryz.underlying28 Hsz.out w.heap.size ((i + 1) * 2) (len - i) (G - (i + 1)) ⟨g, i * 2, none⟩ (len - i) (cap - i) (by simp [Act.eval, Act.put]) (by simp [Act.eval, Act.put]) _ 91 hg2.out (len - i) (by simp only [Nat.min_def]; split <;> omega) (flat encC (l.drop i)) HB.out Hsrcg2.out (Hf2.out G Z HG.out HZ.out) (flat_one cellT _) ?_; intro w3 hg3 hkb3)
      have HK3 := Lib.hid hkb3; clear hkb3
      go_wp2
      go_ret
      exact ⟨_, rfl, Hdone.out _ G Z HG.out HGm.out HZ.out hg3.out, (Hb1.out.keep _).trans (HK2.out.trans (((KeepBut.refl [w.heap.size] w2).drew).trans HK3.out (fun x hx => .inl hx)) (fun x hx => .inl hx)) (fun b hb => .inr (by simp at hb; omega)), fun b hb => .inr (by simp [Value.ownBlock] at hb; omega)⟩
end Go.Proofs.YtipdbeklopjbmaaGreatDoor
/-
  The walks' laws, one for each kind of operation: arithmetic, comparisons, strings, slices.
-/

namespace Go.Proofs.YtipdbeklopjbmaaGreatDoor
open Go.ChangeShapes Go.WideShapes Go.ChangeAt Go.RowKit

def i64ok (z : Int) : Prop := -9223372036854775808 ≤ z ∧ z ≤ 9223372036854775807
theorem dec_of {p q : Prop} [Decidable p] [Decidable q] (h : p ↔ q) : decide p = decide q := by simp [h]
section
variable {P : Program} {o : Oper} {ρ : Operand → Value} {w : World} {x y : Operand} {t u : TypeId}
theorem wrap_ok {z : Int} (h : i64ok z) : IntKind.i64.wrap z = z := IntWalk.i64_in _ h
theorem r_add {m n z : Int} (ho : o.op = .binOp .add t x y u) (hx : ρ x = .int .i64 m) (hy : ρ y = .int .i64 n) (hz : m + n = z) (hb : i64ok z) : (execOp ρ o).run P w = .ok (.value (.int .i64 z)) w := by
  subst hz
  simp [execOp, ho, hx, hy, eqGuard, binOp, Op.intArith, wrap_ok hb]
theorem r_sub {m n z : Int} (ho : o.op = .binOp .sub t x y u) (hx : ρ x = .int .i64 m) (hy : ρ y = .int .i64 n) (hz : m - n = z) (hb : i64ok z) : (execOp ρ o).run P w = .ok (.value (.int .i64 z)) w := by
  subst hz
  simp [execOp, ho, hx, hy, eqGuard, binOp, Op.intArith, wrap_ok hb]
theorem r_mul {m n z : Int} (ho : o.op = .binOp .mul t x y u) (hx : ρ x = .int .i64 m) (hy : ρ y = .int .i64 n) (hz : m * n = z) (hb : i64ok z) : (execOp ρ o).run P w = .ok (.value (.int .i64 z)) w := by
  subst hz
  simp [execOp, ho, hx, hy, eqGuard, binOp, Op.intArith, wrap_ok hb]
def cmpI : BinOp → Int → Int → Bool
  | .eql, a, b => decide (a = b)
  | .neq, a, b => decide (a ≠ b)
  | .lss, a, b => decide (a < b)
  | .leq, a, b => decide (a ≤ b)
  | .gtr, a, b => decide (b < a)
  | .geq, a, b => decide (b ≤ a)
  | _, _, _ => false
theorem r_cmp {k : IntKind} {op : BinOp} {m n : Int} {b : Bool} (hop : op = .eql ∨ op = .neq ∨ op = .lss ∨ op = .leq ∨ op = .gtr ∨ op = .geq) (ho : o.op = .binOp op t x y u) (hx : ρ x = .int k m) (hy : ρ y = .int k n) (hb : cmpI op m n = b) :
    (execOp ρ o).run P w = .ok (.value (.bool b)) w := by
  subst hb
  rcases hop with rfl | rfl | rfl | rfl | rfl | rfl <;> simp [execOp, ho, hx, hy, eqGuard, binOp, Op.intCmp, cmpI] <;> rfl
theorem r_cmpb {op : BinOp} {m n : Bool} {b : Bool} (hu : P.underlying t = some .bool) (hop : op = .eql ∨ op = .neq) (ho : o.op = .binOp op t x y u) (hx : ρ x = .bool m) (hy : ρ y = .bool n) (hb : (if op = .eql then m == n else m != n) = b) :
    (execOp ρ o).run P w = .ok (.value (.bool b)) w := by
  subst hb
  have e : (Op.equalIn Op.maxDepth t (.bool m) (.bool n)).run P w = .ok (m == n) w := run_equalIn_bool w 9999 t m n hu
  rcases hop with rfl | rfl <;> simp [execOp, ho, hx, hy, eqGuard, binOp, Op.equal, e]
  cases m <;> cases n <;> rfl
def leS (a b : ByteArray) : Bool := ltS a b || decide (a = b)
def cmpS : BinOp → ByteArray → ByteArray → Bool
  | .eql, a, b => decide (a = b)
  | .neq, a, b => decide (a ≠ b)
  | .lss, a, b => ltS a b
  | .leq, a, b => leS a b
  | .gtr, a, b => !leS a b
  | .geq, a, b => !ltS a b
  | _, _, _ => false
theorem r_cmps {op : BinOp} {m n : ByteArray} {b : Bool} (hop : op = .eql ∨ op = .neq ∨ op = .lss ∨ op = .leq ∨ op = .gtr ∨ op = .geq) (ho : o.op = .binOp op t x y u) (hx : ρ x = .string m) (hy : ρ y = .string n) (hb : cmpS op m n = b) :
    (execOp ρ o).run P w = .ok (.value (.bool b)) w := by
  subst hb
  have e := bytes_beq m n
  rcases hop with rfl | rfl | rfl | rfl | rfl | rfl <;> simp [execOp, ho, hx, hy, eqGuard, binOp, Op.stringOp, cmpS, leS, ltS, e]
theorem r_cat {m n : ByteArray} (ho : o.op = .binOp .add t x y u) (hx : ρ x = .string m) (hy : ρ y = .string n) (hb : m.size + n.size ≤ 9223372036854775807) : (execOp ρ o).run P w = .ok (.value (.string (m ++ n))) w := by
  simp [execOp, ho, hx, hy, eqGuard, binOp, run_string_add_sum w m n hb]
theorem r_lenS {ats : Array TypeId} (hu : ∀ t, ats[0]? = some t → P.underlying t = some .string) (h0 : ats[0]?.isSome = true) (ho : o.op = .call { callee := .builtin .len, args := #[x], argTypes := ats }) {m : ByteArray} (hx : ρ x = .string m) : (execOp ρ o).run P w = .ok (.value (.int .i64 m.size)) w := by
  obtain ⟨t, ht⟩ := Option.isSome_iff_exists.1 h0
  simp [execOp, ho, hx, resolve, invoke, builtin, Builtin.len_, ht, run_underlying (hu t ht), goInt]
theorem r_len {e s : TypeId} {ad : Option Addr} {n c : Nat} (hu : P.underlying s = some (.slice e)) (ho : o.op = .call { callee := .builtin .len, args := #[x], argTypes := #[s] }) (hx : ρ x = .slice ad n c) : (execOp ρ o).run P w = .ok (.value (.int .i64 n)) w := by
  simp [execOp, ho, hx, resolve, invoke, builtin, Builtin.len_, run_underlying hu, goInt]
def byteAt (s : ByteArray) (i : Nat) : Nat := ((s.data.toList[i]?).map (·.toNat)).getD 0
theorem byteAt_lt (s : ByteArray) (i : Nat) : byteAt s i < 256 := by
  unfold byteAt
  cases h : s.data.toList[i]? with
  | none => simp
  | some c => simp; exact c.toNat_lt
theorem r_indexS {m : ByteArray} {z : Int} {i : Nat} (hu : P.underlying t = some .string) (ho : o.op = .index t x y) (hx : ρ x = .string m) (hy : ρ y = .int .i64 z) (hz : z = i) (hi : i < m.size) : (execOp ρ o).run P w = .ok (.value (.int .u8 (byteAt m i))) w := by
  subst hz
  have h2 : byteAt m i = m[i].toNat := by
    unfold byteAt
    have : m.data.toList[i]? = some m[i] := by
      rw [Array.getElem?_toList, Array.getElem?_eq_getElem (by simpa using hi)]
      rfl
    rw [this]; rfl
  simp [execOp, ho, hx, hy, Instr.index, asIntOf, run_underlying hu, h2, hi]
theorem r_convU8 {s d : TypeId} {n : Int} {ku : IntKind} (hd : P.underlying d = some (.int .i64)) (hs : P.underlying s = some (.int ku)) (ho : o.op = .convert s d x) (hx : ρ x = .int ku n) (hb : i64ok n) : (execOp ρ o).run P w = .ok (.value (.int .i64 n)) w := by
  simp [execOp, ho, hx, convert, run_underlying hd, run_underlying hs, Conv.intToInt, wrap_ok hb]
theorem run_bounds (g : Bool) (n c l h : Nat) (lo hi : Option Value) (hlo : match lo with | none => l = 0 | some p => p = .int .i64 (l : Int)) (hhi : match hi with | none => h = n | some p => p = .int .i64 (h : Int)) (h1 : l ≤ h) (h2 : h ≤ c) :
    (Instr.sliceBounds g n c lo hi none).run P w = .ok (l, h, c) w := by
  have e1 : (0 : Int) ≤ (l : Int) ∧ (l : Int) ≤ (h : Int) := by omega
  have e2 : (0 : Int) ≤ (h : Int) ∧ (h : Int) ≤ (c : Int) := by omega
  cases lo <;> cases hi <;> simp only at hlo hhi <;> subst hlo <;> subst hhi <;> simp [Instr.sliceBounds, Instr.sliceBound, asIntOf, h1, h2]
def idxIs (ρ : Operand → Value) (d : Nat) : Option Operand → Nat → Prop
  | none, i => i = d
  | some p, i => ρ p = .int .i64 (i : Int)
theorem r_sliceS {m m' : ByteArray} {lo hi : Option Operand} {l h : Nat} (hu : P.underlying t = some .string) (ho : o.op = .slice t x lo hi none) (hx : ρ x = .string m)
    (hlo : idxIs ρ 0 lo l) (hhi : idxIs ρ m.size hi h) (h1 : l ≤ h) (h2 : h ≤ m.size) (e : m.extract l h = m') : (execOp ρ o).run P w = .ok (.value (.string m')) w := by
  subst e
  have hb := run_bounds (P := P) (w := w) false m.size m.size l h (lo.map ρ) (hi.map ρ) (by cases lo <;> exact hlo) (by cases hi <;> exact hhi) h1 h2
  simp only [execOp, ho, hx, Instr.sliceAt, Sem.run_bind, run_underlying hu, Result.andThen_ok, Instr.slice, Option.map_none, Option.isSome_none, Bool.false_eq_true, ↓reduceIte, hb, Sem.run_pure]
end

section
variable {P : Program} {o : Oper} {ρ : Operand → Value} {w : World} {x y : Operand} {t : TypeId}
variable {α : Type} {e k bytes : Nat} {z : Value} {enc : α → List Value} {ok : α → Prop}
theorem r_indexAddr {b off n c : Nat} {zi : Int} {i : Nat} (E : ElemT P t e z k bytes enc) (ho : o.op = .indexAddr t x y) (hx : ρ x = .slice (some ⟨b, off, none⟩) n c) (hy : ρ y = .int .i64 zi) (hz : zi = i) (hi : i < n) :
    (execOp ρ o).run P w = .ok (.value (.pointer (some ⟨b, off + i * k, none⟩))) w := by
  subst hz
  obtain ⟨inf, h1, h2, h3, h4⟩ := info_parts E.hT.info
  have hk : k ≠ 0 := by have := E.hT.pos; omega
  simp [execOp, ho, hx, hy, Instr.indexAt, asIntOf, run_underlying E.ht, sizeOf, typeInfo, h1, h3, hi, add_flat]
theorem r_slice {b off n c : Nat} {lo hi : Option Operand} {l h : Nat} (E : ElemT P t e z k bytes enc) (ho : o.op = .slice t x lo hi none) (hx : ρ x = .slice (some ⟨b, off, none⟩) n c)
    (hlo : idxIs ρ 0 lo l) (hhi : idxIs ρ n hi h) (h1 : l ≤ h) (h2 : h ≤ c) :
    (execOp ρ o).run P w = .ok (.value (.slice (some (if c = l then ⟨b, off, none⟩ else ⟨b, off + l * k, none⟩)) (h - l) (c - l))) w := by
  obtain ⟨inf, g1, g2, g3, g4⟩ := info_parts E.hT.info
  have hb := run_bounds (P := P) (w := w) true n c l h (lo.map ρ) (hi.map ρ) (by cases lo <;> exact hlo) (by cases hi <;> exact hhi) h1 h2
  simp only [execOp, ho, hx, Instr.sliceAt, Sem.run_bind, run_underlying E.ht, Result.andThen_ok, Instr.slice, Option.map_none, hb, sizeOf, typeInfo, run_program, g1, g3, Sem.run_pure]
  congr 4
  split <;> simp [add_flat]
theorem r_sliceNil {lo hi : Option Operand} (hu : P.underlying t = some (.slice e)) (hsz : ∃ inf, P.info? e = some inf) (ho : o.op = .slice t x lo hi none) (hx : ρ x = .slice none 0 0)
    (hlo : match lo with | none => True | some p => ρ p = .int .i64 0) (hhi : match hi with | none => True | some p => ρ p = .int .i64 0) :
    (execOp ρ o).run P w = .ok (.value (.slice none 0 0)) w := by
  obtain ⟨inf, g1⟩ := hsz
  cases lo <;> cases hi <;> simp only at hlo hhi <;> simp [execOp, ho, hx, Instr.sliceAt, Instr.slice, run_underlying hu, Instr.sliceBounds, Instr.sliceBound, asIntOf, hlo, hhi, sizeOf, typeInfo, g1]
end
end Go.Proofs.YtipdbeklopjbmaaGreatDoor
/-
  The walks' laws for what makes or grows memory: struct values, slices written out, make, append.
-/

namespace Go.Proofs.YtipdbeklopjbmaaGreatDoor
open Go.ChangeShapes Go.WideShapes Go.ChangeAt Go.RowKit

structure BI (P : Program) (t : TypeId) (places : List (Nat × Nat)) (z : List Value) : Prop where
  ex : ∀ parts, P.built t parts = Instr.fill (places.toArray[·]?) z.toArray parts
theorem bi_mk {P : Program} {t : TypeId} {places : List (Nat × Nat)} {z : List Value} {it : TypeInfo} {fs : Array Field} {zv : Value} (h1 : P.info? t = some it) (h2 : P.underlying t = some (.struct fs)) (h3 : it.zero = some zv) (h4 : zv.cells = z.toArray)
    (h5 : fs.toList.mapM (fun f => (P.info? f.type).map fun i => (f.offset, i.size)) = some places) : BI P t places z := by
  refine ⟨fun parts => ?_⟩
  unfold Program.built
  simp only [h1, h2, h3, h5, h4]
def fillL (places : List (Nat × Nat)) : List Value → List (Nat × List Value) → Option (List Value)
  | cells, [] => some cells
  | cells, (i, v) :: rest => match nth places i with
    | none => none
    | some (off, size) => if Nat.beq v.length size && Nat.ble (off + v.length) cells.length then fillL places (spliceV cells off v) rest else none
theorem foldl_splice : ∀ (v : List Value) (off q : Nat) (cs : List Value), off + q + v.length ≤ cs.length →
    (v.zipIdx q).foldl (fun cs (c, j) => cs.setIfInBounds (off + j) c) cs.toArray = (spliceV cs (off + q) v).toArray
  | [], off, q, cs, _ => by simp [spliceV]
  | x :: v, off, q, cs, h => by
    simp only [List.length_cons] at h
    simp only [List.zipIdx_cons, List.foldl_cons, List.setIfInBounds_toArray]
    rw [foldl_splice v off (q + 1) (cs.set (off + q) x) (by simp; omega)]
    congr 1
    unfold spliceV
    apply List.ext_getElem?
    intro i
    simp only [List.length_cons, List.append_assoc]
    rw [List.getElem?_append, List.getElem?_append, List.getElem?_append, List.getElem?_append]
    simp only [List.length_take, List.length_set]
    have e1 : min (off + (q + 1)) cs.length = off + q + 1 := by omega
    have e2 : min (off + q) cs.length = off + q := by omega
    rw [e1, e2]
    by_cases h1 : i < off + q
    · have h2 : i < off + q + 1 := by omega
      simp only [h1, h2, if_true]
      rw [List.getElem?_take, List.getElem?_take, if_pos (by omega), if_pos (by omega), List.getElem?_set_ne (by omega)]
    · by_cases h2 : i = off + q
      · subst h2
        simp only [Nat.lt_irrefl, if_false, Nat.sub_self, if_true, Nat.lt_succ_self]
        rw [List.getElem?_take, if_pos (by omega), List.getElem?_set_self (by omega)]
        simp
      · simp only [h1, if_false, show ¬ i < off + q + 1 by omega]
        by_cases h3 : i - (off + q) < v.length + 1
        · simp only [List.length_cons, h3, if_true, show i - (off + q + 1) < v.length by omega]
          rw [show i - (off + q) = (i - (off + q + 1)) + 1 by omega, List.getElem?_cons_succ]
        · simp only [List.length_cons, h3, if_false, show ¬ i - (off + q + 1) < v.length by omega]
          rw [List.getElem?_drop, List.getElem?_drop, List.getElem?_set_ne (by omega)]
          congr 1; omega
theorem fill_eq (places : List (Nat × Nat)) : ∀ (parts : List (Nat × Value)) (cells out : List Value), fillL places cells (parts.map fun p => (p.1, p.2.cells.toList)) = some out →
    Instr.fill (places.toArray[·]?) cells.toArray parts = some out.toArray
  | [], cells, out, h => by simp [fillL] at h; subst h; rfl
  | (i, v) :: rest, cells, out, h => by
    simp only [List.map_cons, fillL, nth_eq] at h
    unfold Instr.fill
    have e : places.toArray[i]? = places[i]? := by simp
    simp only [e]
    cases hp : places[i]? with
    | none => rw [hp] at h; cases h
    | some p =>
      obtain ⟨off, size⟩ := p
      rw [hp] at h
      simp only at h
      split at h
      · rename_i hc
        simp only [Bool.and_eq_true, Nat.beq_eq, Nat.ble_eq] at hc
        obtain ⟨h1, h2⟩ := hc
        have hneg : ¬ ((decide (v.cells.size ≠ size) || decide (off + v.cells.size > cells.toArray.size)) = true) := by simp at h1 h2 ⊢; omega
        simp only [hneg]
        have hf := foldl_splice v.cells.toList off 0 cells (by simpa using h2)
        rw [← Array.foldl_toList, Array.toList_zipIdx, hf]
        exact fill_eq places rest _ out h
      · cases h
theorem r_build {P : Program} {o : Oper} {ρ : Operand → Value} {w : World} {t : TypeId} {ps : Array (Nat × Operand)} {places : List (Nat × Nat)} {z out : List Value} {vs : List (Nat × Value)} (B : BI P t places z) (ho : o.op = .build t ps)
    (hv : ps.toList.map (fun p => (p.1, ρ p.2)) = vs) (hf : fillL places z (vs.map fun p => (p.1, p.2.cells.toList)) = some out) : (execOp ρ o).run P w = .ok (.value (.agg out.toArray)) w := by
  have h1 := fill_eq places vs z out hf
  have h2 := B.ex vs
  have h3 := run_build (P := P) w t (ps.map fun p => (p.1, ρ p.2)) out.toArray (by
    have : (ps.map fun p => (p.1, ρ p.2)).toList = vs := by rw [← hv]; simp
    rw [this, h2, h1])
  simp [execOp, ho, h3]

section
variable {P : Program} {o : Oper} {ρ : Operand → Value} {w : World} {t : TypeId}
variable {α : Type} {e k bytes : Nat} {z : Value} {enc : α → List Value} {ok : α → Prop}
theorem own_row {w : World} {b : Nat} {l : List α} (hk : ∀ x, (enc x).length = k) (hok : ∀ x ∈ l, ok x) (hl : l.length ≤ maxLen) (hg : w.heap[b]? = some (.cells (flat enc l).toArray e (0, 0))) :
    Own e k enc ok w (.slice (some ⟨b, 0, none⟩) l.length l.length) l :=
  Own.ofRow (cur := flat enc l) hk hok rfl hg (Nat.le_refl _) hl (flat_length hk l) (by rw [← flat_length hk l]; simp)
theorem mv_ownNew (l : List α) (hk : ∀ x, (enc x).length = k) (hok : ∀ x ∈ l, ok x) (hl : l.length ≤ maxLen) : Mv [] w [ow e k enc ok (.slice (some ⟨w.heap.size, 0, none⟩) l.length l.length) l] (w.alloc (.cells (flat enc l).toArray e)) :=
  Bl.mv_new (At.one (own_row hk hok hl (heap_alloc_new _ _)) (fun b hb => by have h : some w.heap.size = some b := hb; cases h; simp))
    (fun b ⟨B, hB, hb⟩ => by rcases List.mem_singleton.1 hB with rfl; have h : some w.heap.size = some b := hb; cases h; exact Nat.le_refl _) ((Bl.refl w).alloc _)
theorem del_none {L : List Atom} : del L [] = L := by
  unfold del
  have : ∀ (l : List Atom) k, del.go l [] k = l := by
    intro l
    induction l with
    | nil => intro k; rfl
    | cons x l ih => intro k; simp [del.go, ih]
  exact this L 0
theorem mv_ownNewL {L : List Atom} (A : At w L) (l : List α) (hk : ∀ x, (enc x).length = k) (hok : ∀ x ∈ l, ok x) (hl : l.length ≤ maxLen) :
    Mv L w (ow e k enc ok (.slice (some ⟨w.heap.size, 0, none⟩) l.length l.length) l :: L) (w.alloc (.cells (flat enc l).toArray e)) := by
  have := At.frame (New := [ow e k enc ok (.slice (some ⟨w.heap.size, 0, none⟩) l.length l.length) l]) A [] rfl (mv_ownNew l hk hok hl)
  rw [del_none] at this
  exact this
theorem fill_rows (hk : ∀ x, (enc x).length = k) : ∀ (l done : List α) (vs : List Value) (Z : List Value), vs.length = l.length → (∀ (i : Nat) (x : α) (v : Value), l[i]? = some x → vs[i]? = some v → v.cells.toList = enc x) → Z.length = l.length * k →
    Instr.fill (fun i => some (i * k, k)) (flat enc done ++ Z).toArray (vs.zipIdx done.length |>.map fun p => (p.2, p.1)) = some (flat enc (done ++ l)).toArray
  | [], done, vs, Z, hv, _, hZ => by
    have h1 : vs = [] := List.eq_nil_of_length_eq_zero hv
    have h2 : Z = [] := List.eq_nil_of_length_eq_zero (by simpa using hZ)
    subst h1; subst h2
    simp [Instr.fill]
  | x :: l, done, [], Z, hv, _, _ => by simp at hv
  | x :: l, done, v :: vs, Z, hv, hc, hZ => by
    have hv0 : v.cells.toList = enc x := hc 0 x v rfl rfl
    have hsz : v.cells.size = k := by rw [← hk x, ← hv0]; simp
    have hd := flat_length hk done
    have hZ' : Z.length = l.length * k + k := by rw [hZ, List.length_cons, Nat.add_mul]; omega
    simp only [List.zipIdx_cons, List.map_cons]
    unfold Instr.fill
    have hneg : ¬ ((decide (v.cells.size ≠ k) || decide (done.length * k + v.cells.size > (flat enc done ++ Z).toArray.size)) = true) := by
      simp [hsz, hd, hZ']
    simp only [hneg]
    have hf := foldl_splice v.cells.toList (done.length * k) 0 (flat enc done ++ Z) (by simp [hsz, hd, hZ'])
    rw [← Array.foldl_toList, Array.toList_zipIdx, hf]
    have hs : spliceV (flat enc done ++ Z) (done.length * k + 0) v.cells.toList = flat enc (done ++ [x]) ++ Z.drop k := by
      unfold spliceV
      have e1 : (enc x).length = k := hk x
      have e2 : flat enc [x] = enc x := by simp [flat]
      rw [hv0, flat_append, e2, Nat.add_zero, e1]
      generalize flat enc done = D at hd
      rw [← hd, List.take_left, List.drop_append, List.drop_eq_nil_of_le (by omega)]
      simp
    rw [hs]
    have ih := fill_rows hk l (done ++ [x]) vs (Z.drop k) (by simpa using hv) (fun i y u h1 h2 => hc (i + 1) y u (by simpa using h1) (by simpa using h2)) (by simp; omega)
    simp only [List.length_append, List.length_singleton, List.append_assoc, List.singleton_append] at ih
    simpa using ih
theorem r_buildSl {n : Nat} {ps : Array (Nat × Operand)} {vs : List Value} (l : List α) (E : ElemT P t e z k bytes enc) (ho : o.op = .buildSlice t n ps) (hn : n = l.length) (hsm : Nat.ble (n * k) 16777216 = true)
    (hps : ps.toList.map (fun p => (p.1, ρ p.2)) = (vs.zipIdx 0).map fun p => (p.2, p.1)) (hvl : vs.length = l.length) (hvs : ∀ (i : Nat) (x : α) (v : Value), l[i]? = some x → vs[i]? = some v → v.cells.toList = enc x) :
    (execOp ρ o).run P w = .ok (.value (.slice (some ⟨w.heap.size, 0, none⟩) l.length l.length)) (w.alloc (.cells (flat enc l).toArray e)) := by
  subst hn
  obtain ⟨inf, g1, g2, g3, g4⟩ := info_parts E.hT.info
  have hsm' : l.length * k ≤ 16777216 := by simpa [Nat.ble_eq] using hsm
  have hz : ∀ Z : Array Value, Z.size = l.length * k → Instr.fill (fun i => some (i * k, k)) Z (ps.toList.map fun p => (p.1, ρ p.2)) = some (flat enc l).toArray := by
    intro Z hZ
    rw [hps]
    have := fill_rows (enc := enc) E.hk l [] vs Z.toList hvl hvs (by simpa using hZ)
    simpa [flat] using this
  by_cases h0 : l.length * k = 0
  · have := hz ((Array.range 0).map fun _ => default) (by simp [h0])
    simp [execOp, ho, Instr.buildSlice, run_underlying E.ht, sizeOf, typeInfo, g1, g3, h0, this, newRow, newObj, Sem.run]
  · have := hz ((Array.range (l.length * k)).map (z.cells[· % z.cells.size]!)) (by simp)
    simp [execOp, ho, Instr.buildSlice, run_underlying E.ht, sizeOf, typeInfo, zeroValue, g1, g2, g3, h0, this, newRow, newObj, Sem.run, Nat.not_lt.2 hsm']
theorem r_app {ty : TypeId} {L : List Atom} {s x : Operand} {v xv : Value} {l news : List α} (E : ElemT P t e z k bytes enc) (A : At w L) (i : Nat) (hL : nth L i = some (ow e k enc ok v l)) (ho : o.op = .call { callee := .builtin .append, args := #[s, x], argTypes := #[t, t] }) (hty : o.type = ty)
    (hs : ρ s = v) (hx : ρ x = xv) (hnews : RSl k (Enc enc ok) w xv news) (hbytes : (l.length + news.length) * bytes ≤ 140737488355328) (hok : okSel L.length [i] = true) :
    ∃ a n c w', (execOp ρ o).run P w = .ok (.value (.slice a n c)) w' ∧ n = (l ++ news).length ∧ Mv L w ([ow e k enc ok (.slice a n c) (l ++ news)] ++ del L [i]) w' := by
  have hO : Own e k enc ok w v l := A.ok _ (nth_mem hL)
  obtain ⟨v', w', hr, h2, h3, h4, h5⟩ := run_app (P := P) E ty v xv l news hO hnews hbytes
  obtain ⟨a, n, c, rfl⟩ := h2.isSl
  refine ⟨a, n, c, w', ?_, ?_, A.frame [i] hok ?_⟩
  · subst hty
    simp [execOp, ho, resolve, invoke, builtin, hs, hx, hr]
  · obtain ⟨_, cap, e1, _⟩ := (h2.rd E.hk).inv
    cases e1; rfl
  · have e1 : sel L [i] = [ow e k enc ok v l] := by simp [sel, hL]
    rw [e1]
    refine ⟨At.one h2 (fun b hb => h2.lt b (by have : (Value.slice a n c).ownBlock = some b := hb; simp [this])), ?_, Kp.of_keep h3 (fun b hb => ⟨_, List.mem_singleton.2 rfl, show v.ownBlock = some b by simpa using hb⟩)⟩
    rintro b ⟨B, hB, hb⟩
    rcases List.mem_singleton.1 hB with rfl
    have hb' : (Value.slice a n c).ownBlock = some b := hb
    rcases h4 b (by simp [hb']) with h6 | h6
    · exact .inl ⟨_, List.mem_singleton.2 rfl, show v.ownBlock = some b by simpa using h6⟩
    · exact .inr h6
end

section
variable {P : Program} {ops : Array Oper} {Q : Exit → Act → World → Prop} {K : Act → World → Prop} {o : Oper} {a : Act} {w : World} {L : List Atom} {d : Nat}
theorem s_alloc {t : TypeId} {z : Value} {cs : List Value} (A : At w L) (Z : ZI P t z) (hw : Region.wanted o (yielded ops a.tmps) = true) (hd : o.dst = some d) (ho : o.op = .alloc t) (hz : z.cells.toList = cs)
    (k : ∀ b a' w', a' = a.put (some d) (.pointer (some ⟨b, 0, none⟩)) → Mv L w (bx b cs t :: L) w' → K a' w') : st1 P ops Q o K a w :=
  s_valw hw hd (r_alloc Z ho hz) fun _ e => k _ _ _ e (mv_new A cs t)
theorem s_box {t : TypeId} {x : Operand} {v : Value} {cs : List Value} (A : At w L) (hw : Region.wanted o (yielded ops a.tmps) = true) (hd : o.dst = some d) (ho : o.op = .box t x) (hx : a.eval x = v) (hv : v.cells.toList = cs)
    (k : ∀ b a' w', a' = a.put (some d) (.pointer (some ⟨b, 0, none⟩)) → Mv L w (bx b cs t :: L) w' → K a' w') : st1 P ops Q o K a w :=
  s_valw hw hd (r_box ho hx hv) fun _ e => k _ _ _ e (mv_new A cs t)
theorem s_store {t : TypeId} {x y : Operand} {g : Bool} {n : Nat} (A : At w L) (i : Nat) {b off : Nat} {cs vs cs' : List Value} {T : TypeId} {v : Value} (TT : TI P t g n) (hL : nth L i = some (bx b cs T)) (hok : okSel L.length [i] = true) (hw : Region.wanted o (yielded ops a.tmps) = true) (hd : o.dst = none)
    (ho : o.op = .store t x y) (hx : a.eval x = .pointer (some ⟨b, off, none⟩)) (hy : a.eval y = v) (hv : v.cells.toList = vs) (hk : vs.length = n) (hfit : Nat.ble (off + vs.length) cs.length = true) (h1 : vs.all (·.oneCell') = true) (e : spliceV cs off vs = cs')
    (k : ∀ w', Mv L w ([bx b cs' T] ++ del L [i]) w' → K a w') : st1 P ops Q o K a w :=
  s_unit hw hd (r_storeB A i TT hL ho hx hy hv hk hfit h1 e) (k _ (mv_store A i hL hok))
variable {α : Type} {e k bytes : Nat} {z : Value} {enc : α → List Value} {ok : α → Prop} {t : TypeId}
theorem s_buildSl {n : Nat} {ps : Array (Nat × Operand)} {vs : List Value} (A : At w L) (l : List α) (E : ElemT P t e z k bytes enc) (hw : Region.wanted o (yielded ops a.tmps) = true) (hd : o.dst = some d) (ho : o.op = .buildSlice t n ps) (hn : n = l.length) (hsm : Nat.ble (n * k) 16777216 = true)
    (hps : ps.toList.map (fun p => (p.1, a.eval p.2)) = (vs.zipIdx 0).map fun p => (p.2, p.1)) (hvl : vs.length = l.length) (hvs : ∀ (i : Nat) (x : α) (v : Value), l[i]? = some x → vs[i]? = some v → v.cells.toList = enc x) (hok : ∀ x ∈ l, ok x)
    (kk : ∀ b a' w', a' = a.put (some d) (.slice (some ⟨b, 0, none⟩) n n) → Mv L w (ow e k enc ok (.slice (some ⟨b, 0, none⟩) n n) l :: L) w' → K a' w') : st1 P ops Q o K a w := by
  have hl : l.length ≤ maxLen := by
    have h0 : l.length * k ≤ 16777216 := by rw [← hn]; simpa [Nat.ble_eq] using hsm
    have h1 : l.length * 1 ≤ l.length * k := Nat.mul_le_mul_left _ E.hT.pos
    unfold maxLen; omega
  have hr := r_buildSl (w := w) l E ho hn hsm hps hvl hvs
  subst hn
  exact s_valw hw hd hr fun _ e' => kk _ _ _ e' (mv_ownNewL A l E.hk hok hl)
theorem s_app {s x : Operand} {v xv : Value} {l news : List α} (A : At w L) (i : Nat) (E : ElemT P t e z k bytes enc) (hL : nth L i = some (ow e k enc ok v l)) (hsel : okSel L.length [i] = true) (hw : Region.wanted o (yielded ops a.tmps) = true) (hd : o.dst = some d)
    (ho : o.op = .call { callee := .builtin .append, args := #[s, x], argTypes := #[t, t] }) (hs : a.eval s = v) (hx : a.eval x = xv) (hnews : RSl k (Enc enc ok) w xv news) (hbytes : (l.length + news.length) * bytes ≤ 140737488355328)
    (kk : ∀ b n c a' w', a' = a.put (some d) (.slice b n c) → Mv L w ([ow e k enc ok (.slice b n c) (l ++ news)] ++ del L [i]) w' → n = (l ++ news).length → K a' w') : st1 P ops Q o K a w := by
  obtain ⟨b, n, c, w', h1, h2, h3⟩ := r_app E A i hL ho rfl hs hx hnews hbytes hsel
  exact s_valw hw hd h1 fun _ e' => kk _ _ _ _ _ e' h3 h2
end

structure CF (P : Program) (f : FuncId) : Prop where
  ex : ∃ fn c, P.funcs[f]? = some fn ∧ fn.body = some c ∧ (fn.name == "runtime.NumGoroutine") = false
theorem lc {α : Type} {x y : α} {l m : List α} (h : x = y) (t : l = m) : x :: l = y :: m := by rw [h, t]
section
variable {P : Program} {ops : Array Oper} {Q : Exit → Act → World → Prop} {K : Act → World → Prop} {o : Oper} {a : Act} {w : World} {d : Nat}
theorem c_call {f : FuncId} {xs : Array Operand} {ats : Array TypeId} {vs : List Value} {R : Ending → World → Prop} (C : CF P f) (hw : Region.wanted o (yielded ops a.tmps) = true) (hd : o.dst = some d)
    (ho : o.op = .call { callee := .value (.func f), args := xs, argTypes := ats }) (hx : xs.toList.map a.eval = vs) (hc : Calls P f vs.toArray w R)
    (k : ∀ e w', R e w' → ∃ v, e = .returned v ∧ ∀ a', a' = a.put (some d) v → K a' w') : st1 P ops Q o K a w := by
  obtain ⟨fn, c, h1, h2, h3⟩ := C.ex
  exact s_call hw hd (r_call h1 h2 h3 rfl ho hx) hc k
end
section
variable {P : Program} {Q : Exit → Act → World → Prop} {a : Act} {w : World} {o : Oper} {ρ : Operand → Value}
theorem x_cond {c : Operand} {x y : Code} {p : Prop} [Decidable p] (hc : a.eval c = .bool (decide p)) (h1 : p → x.wp P Q a w) (h2 : ¬ p → y.wp P Q a w) : (Code.cond c x y).wp P Q a w :=
  wp_cond_split hc (fun h => h1 (of_decide_eq_true h)) (fun h => h2 (of_decide_eq_false h))
theorem x_condb {c : Operand} {x y : Code} {b : Bool} (hc : a.eval c = .bool b) (h1 : b = true → x.wp P Q a w) (h2 : b = false → y.wp P Q a w) : (Code.cond c x y).wp P Q a w := wp_cond_split hc h1 h2
theorem r_notD {t : TypeId} {x : Operand} {p : Prop} [Decidable p] (ho : o.op = .unOp .not t x) (hx : ρ x = .bool (decide p)) : (execOp ρ o).run P w = .ok (.value (.bool (decide (¬ p)))) w := by
  have := r_not (P := P) (w := w) ho hx
  rw [this]; simp
theorem elem_sub {b o f : Nat} {row : List Value} (h : ∀ j v, row[j]? = some v → w.cell? ((⟨b, o, none⟩ : Addr).add j) = some v) (vs : List Value) (hv : (row.drop f).take vs.length = vs) : ∀ j v, vs[j]? = some v → w.cell? ((⟨b, o + f, none⟩ : Addr).add j) = some v := by
  intro j v hj
  rw [← hv, List.getElem?_take] at hj
  split at hj
  · rw [List.getElem?_drop] at hj
    have := h (f + j) v hj
    rw [add_flat] at this ⊢
    rw [Nat.add_assoc]; exact this
  · cases hj
end
section
variable {α : Type} {k : Nat} {enc : α → List Value} {ok : α → Prop}
theorem Rd.got0 {G : Nat → Prop} {w0 w w' : World} {L : List Atom} {v : Value} {l : List α} (A : At w L) (hw : w0.heap.size ≤ w.heap.size) (h : Rd k enc ok (Fsh (V G w0 L) w) w' v l) (m : Mv L w L w') : Rd k enc ok (V G w0 L) w' v l :=
  Rd.got hw h m fun b h1 h2 => by have := A.lt b h2; omega
theorem Rd.cast {H : Nat → Prop} {w : World} {v : Value} {l l' : List α} (h : Rd k enc ok H w v l) (e : l = l') : Rd k enc ok H w v l' := e ▸ h
theorem Mv.cast {L M M' : List Atom} {w w' : World} (h : Mv L w M w') (e : M = M') : Mv L w M' w' := e ▸ h
end
end Go.Proofs.YtipdbeklopjbmaaGreatDoor
/-
  Small things that the printed walks ask for.
-/

namespace Go.Proofs.YtipdbeklopjbmaaGreatDoor
open Go.ChangeShapes Go.WideShapes Go.ChangeAt Go.RowKit

section
variable {P : Program}
theorem ti_mk {t : TypeId} {d : TypeDesc} {g : Bool} {k : Nat} (h1 : P.underlying t = some d) (h2 : isAggD d = g) (h3 : (P.info? t).map (·.size) = some k) : TI P t g k := by
  refine ⟨⟨d, h1, h2⟩, ?_⟩
  cases hi : P.info? t with
  | none => rw [hi] at h3; cases h3
  | some i => rw [hi] at h3; exact ⟨i, rfl, by simpa using h3⟩
theorem fi_mk {s : TypeId} {fs : Array Field} {i off : Nat} {f : Field} {k : Nat} (h1 : P.underlying s = some (.struct fs)) (h2 : fs[i]? = some f) (h3 : f.offset = off) (h4 : (P.info? f.type).map (·.size) = some (k + 1)) : FI P s i off := by
  cases hi : P.info? f.type with
  | none => rw [hi] at h4; cases h4
  | some inf => rw [hi] at h4; exact ⟨⟨fs, f, h1, h2, h3, inf, hi, by simp at h4; omega⟩⟩
theorem zi_mk {t : TypeId} {z : Value} (h : (P.info? t).map (·.zero) = some (some z)) : ZI P t z := by
  cases hi : P.info? t with
  | none => rw [hi] at h; cases h
  | some inf => rw [hi] at h; exact ⟨⟨inf, hi, by simpa using h⟩⟩
theorem bi_mk2 {t : TypeId} {places : List (Nat × Nat)} {z : List Value} {fs : Array Field} {zv : Value} (h2 : P.underlying t = some (.struct fs)) (h1 : (P.info? t).map (·.zero) = some (some zv)) (h4 : zv.cells = z.toArray)
    (h5 : fs.toList.mapM (fun f => (P.info? f.type).map fun i => (f.offset, i.size)) = some places) : BI P t places z := by
  cases hi : P.info? t with
  | none => rw [hi] at h1; cases h1
  | some it => rw [hi] at h1; exact bi_mk hi h2 (by simpa using h1) h4 h5
variable {o : Oper} {ρ : Operand → Value} {w : World}
theorem r_makeFuncL {f : Fn} {cs : Array Operand} {us : List Value} (ho : o.op = .makeFunc f #[] cs) (h2 : cs.toList.map ρ = us) : (execOp ρ o).run P w = .ok (.value (.func f #[] us.toArray)) w := by
  have : cs.map ρ = us.toArray := by rw [← h2]; apply Array.ext'; simp
  simp [execOp, ho, this, Instr.makeFunc]
end
theorem pr2 {i : Nat} {a b : Value} (h : a = b) : (i, a) = (i, b) := by rw [h]
theorem rowsOk {α : Type} {enc : α → List Value} {l : List α} {vs : List Value} (h : vs.map (fun v => v.cells.toList) = l.map enc) : ∀ (i : Nat) (x : α) (v : Value), l[i]? = some x → vs[i]? = some v → v.cells.toList = enc x := by
  intro i x v h1 h2
  have := congrArg (·[i]?) h
  simp [h1, h2] at this
  exact this
theorem okS_cat {a b : ByteArray} (h : a.size + b.size ≤ 9223372036854775807) : okS (a ++ b) := by
  unfold okS; rw [ByteArray.size_append]; exact h
theorem okS_ext {a : ByteArray} {i j : Nat} (h : okS a) : okS (a.extract i j) := by
  unfold okS at *
  rw [ByteArray.size_extract]; omega
theorem mv_nil {α : Type} {e k : Nat} {enc : α → List Value} {ok : α → Prop} {w : World} {L : List Atom} (A : At w L) : Mv L w (ow e k enc ok (.slice none 0 0) ([] : List α) :: L) w :=
  ⟨⟨fun B hB => by
      rcases List.mem_cons.1 hB with rfl | hB
      · exact own_nil _ _ _ _ _
      · exact A.ok B hB,
    fun b hb => by
      rcases fps_cons.1 hb with hb | hb
      · cases hb
      · exact A.lt b hb,
    .cons (fun B _ b hb => by cases hb) A.apart⟩,
   fun b hb => by
      rcases fps_cons.1 hb with hb | hb
      · cases hb
      · exact .inl hb, Kp.refl _ _⟩
theorem Fr.cast {n : Nat} {m m' : List (Nat × Value)} {a : Act} (h : Fr n m a) (e : m = m') : Fr n m' a := e ▸ h
end Go.Proofs.YtipdbeklopjbmaaGreatDoor
