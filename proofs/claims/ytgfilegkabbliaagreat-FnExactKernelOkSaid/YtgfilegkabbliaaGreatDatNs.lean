/-
  Lists of transactions, disks: their data.
-/
import Derived.Test.YtgfilegkabbliaaGreatDat7
import Derived.Test.YtgfilegkabbliaaGreatDatTx
import Derived.Test.YtgfilegkabbliaaGreatFactsB
import Derived.Test.YtgfilegkabbliaaGreatEng9
namespace Go.Proofs.YtgfilegkabbliaaGreat
open Go.ChangeShapes Go.WideShapes Go.ChangeAt Go.RowKit
set_option maxRecDepth 100000
set_option maxHeartbeats 1000000

theorem map_at {α β : Type} {f : α → β} {l : List α} {k : Nat} {x : α} (h : nth l k = some x) : nth (l.map f) k = some (f x) := by
  rw [nth_eq] at *
  rw [List.getElem?_map, h]; rfl
theorem same2 {α β : Type} {f : α → β} {D D' : List α} {l : List β} (h : D.map f = l) (h' : D'.map f = l) : D.map f = D'.map f := h.trans h'.symm
theorem lenM {α β : Type} {f : α → β} {a b : List α} (p : a.map f = b.map f) : a.length = b.length := by
  have := congrArg List.length p
  simpa using this
theorem elM {α β : Type} {f : α → β} {a b : List α} {k : Nat} {x y : α} (p : a.map f = b.map f) (h1 : nth a k = some x) (h2 : nth b k = some y) : f x = f y := el_eq p (map_at h1) (map_at h2)
theorem copyM_start {α β : Type} {f : α → β} {z : α} {n : Nat} {l : List α} (h : n = l.length) : (List.replicate n z).map f = copyTo (f z) 0 (l.map f) := by
  rw [List.map_replicate]; exact copyTo_start _ _ (by rw [List.length_map]; exact h)
theorem copyM_step {α β : Type} {f : α → β} {z : β} {D l : List α} {k : Nat} {x y : α} (hD : D.map f = copyTo z k (l.map f)) (hx : nth l k = some x) (hy : f y = f x) : (D.set k y).map f = copyTo z (k + 1) (l.map f) := by
  rw [List.map_set, hD, hy, copyTo_step (map_at hx)]
theorem copyM_end {α β : Type} {f : α → β} {z : β} {D l : List α} {k : Nat} (hD : D.map f = copyTo z k (l.map f)) (hk : l.length ≤ k) : D.map f = l.map f := by
  rw [hD, copyTo_end (by rw [List.length_map]; exact hk)]
theorem takeM_step {α β : Type} {f : α → β} {l : List α} {k : Nat} {x : α} (hx : nth l k = some x) : (l.take (k + 1)).map f = (l.take k).map f ++ [f x] := by
  rw [nth_take_snoc hx, List.map_append]; rfl
def szTxH (x : TxH) : Nat := szTxD x.d
def szTxsH (l : List TxH) : Nat := l.length + sumOf szTxH l
def txFits (n : Nat) (x : TxD) : Prop := x.calls.length ≤ n ∧ x.answers.length ≤ n ∧ x.touch.reads.length ≤ n ∧ x.touch.writes.length ≤ n ∧ x.marks.length ≤ n
def txsFit (n : Nat) (l : List TxD) : Prop := l.length ≤ n ∧ ∀ x ∈ l, txFits n x
theorem sumOf_ge {α : Type} {f : α → Nat} {l : List α} {x : α} (h : x ∈ l) : f x ≤ sumOf f l := by
  unfold sumOf
  induction l with
  | nil => cases h
  | cons y l ih =>
    rw [List.map_cons, List.sum_cons]
    rcases List.mem_cons.1 h with rfl | h
    · omega
    · have := ih h; omega
theorem txFits_of {x : TxD} {n : Nat} (h : szTxD x ≤ n) : txFits n x := by
  unfold szTxD szCalls szAnss szTouchD szStrs at h
  unfold txFits; omega
theorem txFits.mono {x : TxD} {n m : Nat} (h : txFits n x) (hm : n ≤ m) : txFits m x := by
  unfold txFits at *; omega
theorem txsFit_of {l : List TxH} {n : Nat} (h : szTxsH l ≤ n) : txsFit n (l.map TxH.d) := by
  unfold szTxsH at h
  refine ⟨by rw [List.length_map]; omega, fun x hx => ?_⟩
  obtain ⟨y, hy, rfl⟩ := List.mem_map.1 hx
  have := sumOf_ge (f := szTxH) hy
  exact txFits_of (show szTxH y ≤ n by omega)
theorem txsFit.mono {l : List TxD} {n m : Nat} (h : txsFit n l) (hm : n ≤ m) : txsFit m l := ⟨Nat.le_trans h.1 hm, fun x hx => (h.2 x hx).mono hm⟩
theorem txsFit.at {l : List TxH} {n k : Nat} {x : TxH} (h : txsFit n (l.map TxH.d)) (hx : nth l k = some x) : x.d.calls.length ≤ n ∧ x.d.answers.length ≤ n ∧ x.d.touch.reads.length ≤ n ∧ x.d.touch.writes.length ≤ n ∧ x.d.marks.length ≤ n := h.2 _ (nth_mem (map_at hx))
theorem txsFit.len {l : List TxH} {n : Nat} (h : txsFit n (l.map TxH.d)) : l.length ≤ n := by
  have := h.1
  rwa [List.length_map] at this
theorem txsFit.eq {l l' : List TxD} {n : Nat} (h : txsFit n l) (e : l' = l) : txsFit n l' := by rw [e]; exact h
/-- Slots. -/
def szSlotH (x : SlotH) : Nat := szCells x.d.cells
def szSlotsH (l : List SlotH) : Nat := l.length + sumOf szSlotH l
def slotsFit (n : Nat) (l : List SlotD) : Prop := l.length ≤ n ∧ ∀ x ∈ l, x.cells.length ≤ n
theorem slotsFit_of {l : List SlotH} {n : Nat} (h : szSlotsH l ≤ n) : slotsFit n (l.map SlotH.d) := by
  unfold szSlotsH at h
  refine ⟨by rw [List.length_map]; omega, fun x hx => ?_⟩
  obtain ⟨y, hy, rfl⟩ := List.mem_map.1 hx
  have := sumOf_ge (f := szSlotH) hy
  have h2 : szSlotH y = szCells y.d.cells := rfl
  unfold szCells at h2
  show y.d.cells.length ≤ n
  omega
theorem slotsFit.at {l : List SlotH} {n k : Nat} {x : SlotH} (h : slotsFit n (l.map SlotH.d)) (hx : nth l k = some x) : x.d.cells.length ≤ n := h.2 _ (nth_mem (map_at hx))
theorem slotsFit.len {l : List SlotH} {n : Nat} (h : slotsFit n (l.map SlotH.d)) : l.length ≤ n := by
  have := h.1
  rwa [List.length_map] at this
theorem slotsFit.mono {l : List SlotD} {n m : Nat} (h : slotsFit n l) (hm : n ≤ m) : slotsFit m l := ⟨Nat.le_trans h.1 hm, fun x hx => Nat.le_trans (h.2 x hx) hm⟩
theorem slotsFit.eq {l l' : List SlotD} {n : Nat} (h : slotsFit n l) (e : l' = l) : slotsFit n l' := by rw [e]; exact h

structure JouD where
  text : ByteArray
  sure : Int
def jouOk (j : JouD) : Bool := decide (j.text.size ≤ 20000) && inB j.sure 0 j.text.size
def fitsR (j : JouD) (n : Int) : Bool := jouOk j && decide (n ≥ 0) && decide (n ≤ 20000 - ((j.text.size : Nat) : Int))
def liveL (l : List TxD) : List Int := (l.filter fun x => decide (x.state = 1)).map (·.id)
theorem liveL_t {l : List TxD} {k : Nat} {x : TxD} (hx : nth l k = some x) (h : x.state = 1) : liveL (l.take (k + 1)) = liveL (l.take k) ++ [x.id] := by
  rw [nth_eq] at hx
  obtain ⟨h1, h2⟩ := List.getElem?_eq_some_iff.1 hx
  rw [List.take_succ_eq_append_getElem h1, h2]
  unfold liveL
  rw [List.filter_append, List.map_append]
  simp [h]
theorem liveL_f {l : List TxD} {k : Nat} {x : TxD} (hx : nth l k = some x) (h : ¬ x.state = 1) : liveL (l.take (k + 1)) = liveL (l.take k) := by
  rw [nth_eq] at hx
  obtain ⟨h1, h2⟩ := List.getElem?_eq_some_iff.1 hx
  rw [List.take_succ_eq_append_getElem h1, h2]
  unfold liveL
  rw [List.filter_append, List.map_append]
  simp [h]
theorem liveL_length (l : List TxD) : (liveL l).length ≤ l.length := by
  unfold liveL
  rw [List.length_map]; exact List.length_filter_le _ _
theorem liveL_take (l : List TxD) (k : Nat) : (liveL (l.take k)).length ≤ k := by
  have := liveL_length (l.take k)
  rw [List.length_take] at this; omega
structure DiskH where
  slots : List SlotH
  journal : JouD
structure KernH where
  store : List CellD
  txs : List TxH
  disk : DiskH
  seq : Int
  next : Int
  time : Int
  history : List EntryH
  seen : List ByteArray
  room : Bool
def szDiskH (d : DiskH) : Nat := szSlotsH d.slots + d.journal.text.size
theorem diskFits {d : DiskH} {n : Nat} {z : Int} (hz : z ≤ n) (h : ¬ subOr z (szDiskH d) < 0) : slotsFit n (d.slots.map SlotH.d) ∧ d.journal.text.size ≤ n := by
  have h1 : 0 ≤ subOr z (szDiskH d) := by omega
  have h2 := (subOr_ge h1).2
  unfold szDiskH at h2
  exact ⟨slotsFit_of (by omega), by omega⟩
theorem txsFits {l : List TxH} {n : Nat} {z : Int} (hz : z ≤ n) (h : ¬ subOr z (szTxsH l) < 0) : txsFit n (l.map TxH.d) := by
  have h1 : 0 ≤ subOr z (szTxsH l) := by omega
  have h2 := (subOr_ge h1).2
  exact txsFit_of (by omega)
theorem sz2_a {left : Int} {A B : Nat} (h : subOr left A < 0) : -1 = subOr left (A + B) := (subOr_neg left A _ h).symm
theorem sz2_b {left : Int} {A B : Nat} (h : ¬ subOr left A < 0) : subOr (subOr left A) B = subOr left (A + B) := subOr_add left A _ (by omega)
theorem liveM_t {l : List TxH} {k : Nat} {x : TxH} (hx : nth l k = some x) (h : x.d.state = 1) : liveL ((l.take (k + 1)).map TxH.d) = liveL ((l.take k).map TxH.d) ++ [x.d.id] := by
  rw [takeM_step hx]
  unfold liveL
  rw [List.filter_append, List.map_append]
  simp [h]
theorem liveM_f {l : List TxH} {k : Nat} {x : TxH} (hx : nth l k = some x) (h : ¬ x.d.state = 1) : liveL ((l.take (k + 1)).map TxH.d) = liveL ((l.take k).map TxH.d) := by
  rw [takeM_step hx]
  unfold liveL
  rw [List.filter_append, List.map_append]
  simp [h]
theorem liveM_take (l : List TxH) (k : Nat) : (liveL ((l.take k).map TxH.d)).length ≤ k := by
  have := liveL_length ((l.take k).map TxH.d)
  rw [List.length_map, List.length_take] at this; omega
theorem liveM_length (l : List TxH) : (liveL (l.map TxH.d)).length ≤ l.length := by
  have := liveL_length (l.map TxH.d)
  rwa [List.length_map] at this
/-- All are live. -/
def allLive (l : List TxD) : Prop := ∀ x ∈ l, x.state = 1
theorem allLive_nil : allLive [] := fun _ h => absurd h List.not_mem_nil
theorem allLive_snoc {l : List TxD} {x : TxD} (h : allLive l) (hx : x.state = 1) : allLive (l ++ [x]) := fun y hy => by
  rcases List.mem_append.1 hy with hy | hy
  · exact h y hy
  · rw [List.mem_singleton.1 hy]; exact hx
theorem live_all {l : List TxD} (h : allLive l) : (liveL l).length = l.length := by
  unfold liveL
  rw [List.length_map, List.filter_eq_self.2 (fun x hx => decide_eq_true (h x hx))]
def backN (l : List TxD) : Nat := 4000 * (liveL l).length
def broughtR (n a b : Int) : Int := max a (min n b)
def mayL (j : JouD) (l : List TxD) (n : Int) : Bool := fitsR j (broughtR n 0 20000 + ((backN l : Nat) : Int))
theorem fitsR_iff {j : JouD} {n : Int} (h : j.sure = 0) : fitsR j n = true ↔ (j.text.size ≤ 20000 ∧ 0 ≤ n ∧ n ≤ 20000 - ((j.text.size : Nat) : Int)) := by
  unfold fitsR jouOk inB
  simp only [Bool.and_eq_true, decide_eq_true_eq, h]
  omega
theorem mayL_iff {t : ByteArray} {l : List TxD} {n : Nat} (ht : t.size = 8000) (hl : allLive l) (hn : n ≤ 4000) : mayL ⟨t, 0⟩ l ((n : Nat) : Int) = true ↔ n + 4000 * l.length ≤ 12000 := by
  unfold mayL backN broughtR
  rw [live_all hl, fitsR_iff rfl]
  simp only [ht]
  omega
def addJ (j : JouD) (t : ByteArray) : JouD := if jouOk j && decide (j.text.size + t.size ≤ 20000) then ⟨j.text ++ t, j.sure⟩ else j
def addB (j : JouD) (t : ByteArray) : Bool := jouOk j && decide (j.text.size + t.size ≤ 20000)
theorem addJ_t {j : JouD} {t : ByteArray} (h : jouOk j = true) (h2 : ¬ j.text.size + t.size > 20000) : addJ j t = ⟨j.text ++ t, j.sure⟩ ∧ addB j t = true := by
  have : (jouOk j && decide (j.text.size + t.size ≤ 20000)) = true := by rw [h, decide_eq_true (by omega)]; rfl
  exact ⟨if_pos this, this⟩
theorem addJ_f {j : JouD} {t : ByteArray} (h : jouOk j = false) : addJ j t = j ∧ addB j t = false := by
  have : (jouOk j && decide (j.text.size + t.size ≤ 20000)) = false := by rw [h]; rfl
  exact ⟨if_neg (by rw [this]; decide), this⟩
theorem addJ_g {j : JouD} {t : ByteArray} (h2 : j.text.size + t.size > 20000) : addJ j t = j ∧ addB j t = false := by
  have : (jouOk j && decide (j.text.size + t.size ≤ 20000)) = false := by rw [decide_eq_false (by omega), Bool.and_false]
  exact ⟨if_neg (by rw [this]; decide), this⟩
/-- The journal behind k records of 4000 bytes. -/
def jst (k : Nat) (j : JouD) : Prop := j.sure = 0 ∧ j.text.size = 8000 + 4000 * k
theorem jst.add {k : Nat} {j : JouD} {t : ByteArray} (h : jst k j) (hk : k ≤ 2) (ht : t.size = 4000) : addB j t = true ∧ jst (k + 1) (addJ j t) := by
  obtain ⟨h1, h2⟩ := h
  have ho : jouOk j = true := by
    unfold jouOk inB
    simp only [Bool.and_eq_true, decide_eq_true_eq, h1]
    omega
  have h3 := addJ_t (t := t) ho (by omega)
  refine ⟨h3.2, ?_⟩
  rw [h3.1]
  exact ⟨h1, by rw [ByteArray.size_append]; omega⟩
theorem jo_f {j : JouD} (h : ¬ j.text.size ≤ 20000) : false = jouOk j := by unfold jouOk; rw [decide_eq_false h]; rfl
theorem jo_t {j : JouD} (h : j.text.size ≤ 20000) : inB j.sure 0 ((j.text.size : Nat) : Int) = jouOk j := by unfold jouOk; rw [decide_eq_true h]; rfl
theorem fr_a {j : JouD} {n : Int} (h : jouOk j = false) : false = fitsR j n := by unfold fitsR; rw [h]; rfl
theorem fr_b {j : JouD} {n : Int} (h : jouOk j = true) (h2 : ¬ n ≥ 0) : false = fitsR j n := by unfold fitsR; rw [h, decide_eq_false h2]; rfl
theorem fr_c {j : JouD} {n : Int} (h : jouOk j = true) (h2 : n ≥ 0) : decide (n ≤ 20000 - ((j.text.size : Nat) : Int)) = fitsR j n := by unfold fitsR; rw [h, decide_eq_true h2]; rfl
theorem addJ_sure (j : JouD) (t : ByteArray) : (addJ j t).sure = j.sure := by unfold addJ; split <;> rfl
theorem backN_le {l : List TxD} {n : Nat} (hn : n = l.length) (h : n ≤ 1000) : backN l ≤ 4000000 := by
  have := liveL_length l
  unfold backN; omega
theorem held_no {t : ByteArray} {l : List TxD} {n o : Nat} (h : (!mayL ⟨t, 0⟩ l ((n : Nat) : Int)) = true) (ht : t.size = 8000) (hl : allLive l) (hn : n ≤ 4000) (ho : o = l.length) : n + 4000 * o + 8000 > 20000 := by
  have h1 : ¬ mayL ⟨t, 0⟩ l ((n : Nat) : Int) = true := by
    intro e; rw [e] at h; exact absurd h (by decide)
  rw [mayL_iff ht hl hn] at h1
  omega
theorem held_yes {t : ByteArray} {l : List TxD} {n : Nat} (h : (!mayL ⟨t, 0⟩ l ((n : Nat) : Int)) = false) (ht : t.size = 8000) (hl : allLive l) (hn : n ≤ 4000) : n + 4000 * l.length ≤ 12000 := by
  have h1 : mayL ⟨t, 0⟩ l ((n : Nat) : Int) = true := by
    cases e : mayL ⟨t, 0⟩ l ((n : Nat) : Int) with
    | true => rfl
    | false => rw [e] at h; exact absurd h (by decide)
  exact (mayL_iff ht hl hn).1 h1
theorem ext_4000 {t : ByteArray} (h : t.size = 8000) : (t.extract 0 4000).size = 4000 := by rw [ByteArray.size_extract]; omega
theorem jst.fits {k n : Nat} {j : JouD} (h : jst k j) (hn : n + 4000 * k ≤ 12000) : fitsR j ((n : Nat) : Int) = true := by
  rw [fitsR_iff h.1, h.2]
  omega
theorem backM_le {l : List TxH} {n : Nat} (hn : n = l.length) (h : n ≤ 1048576) : backN (l.map TxH.d) ≤ 4194304000 := by
  have := liveM_length l
  unfold backN; omega

def pOk (p : List Int) : Prop := ∀ x ∈ p, 0 ≤ x ∧ x < 10000
theorem pOk_at {p : List Int} {k : Nat} {x : Int} (h : pOk p) (hx : nth p k = some x) : 0 ≤ x ∧ x < 10000 := h x (nth_in hx)
theorem pOk_nil : pOk [] := fun _ h => absurd h List.not_mem_nil
theorem pOk_snoc {p : List Int} {r : Nat} (h : pOk p) (hr : ((r : Nat) : Int) < 10000) : pOk (p ++ [((r : Nat) : Int)]) := fun x hx => by
  rcases List.mem_append.1 hx with hx | hx
  · exact h x hx
  · rw [List.mem_singleton.1 hx]; exact ⟨by omega, hr⟩
theorem rem_nat {x : Int} {c : Nat} (h : 0 ≤ x ∧ x < 10000) (hc : 0 < c) : ∃ r : Nat, x.tmod (c : Int) = (r : Int) ∧ r < c := by
  obtain ⟨n, rfl⟩ := Int.eq_ofNat_of_zero_le h.1
  exact ⟨n % c, by rw [← Int.ofNat_tmod], Nat.mod_lt _ hc⟩
theorem quo_nat {x : Int} {c : Nat} (h : 0 ≤ x ∧ x < 10000) (hc : 0 < c) : ∃ r : Nat, x.tdiv (c : Int) = (r : Int) ∧ r < 10000 := by
  obtain ⟨n, rfl⟩ := Int.eq_ofNat_of_zero_le h.1
  exact ⟨n / c, by rw [← Int.ofNat_tdiv], Nat.lt_of_le_of_lt (Nat.div_le_self _ _) (by omega)⟩

section
variable {P : Program} {ρ : Operand → Value} {w : World} {o : Oper} {x y : Operand} {ts : Array TypeId}
theorem r_minN {m n : Nat} (ho : o.op = .call { callee := .builtin .min, args := #[x, y], argTypes := ts }) (hx : ρ x = .int .i64 ((m : Nat) : Int)) (hy : ρ y = .int .i64 ((n : Nat) : Int)) : (execOp ρ o).run P w = .ok (.value (.int .i64 ((min m n : Nat) : Int))) w := by
  simp [execOp, ho, hx, hy, resolve, invoke, builtin, run_min_int2]
  split <;> omega
theorem r_minI {m n : Int} (ho : o.op = .call { callee := .builtin .min, args := #[x, y], argTypes := ts }) (hx : ρ x = .int .i64 m) (hy : ρ y = .int .i64 n) : (execOp ρ o).run P w = .ok (.value (.int .i64 (min m n))) w := by
  have e : (if n < m then n else m) = min m n := by split <;> omega
  simp [execOp, ho, hx, hy, resolve, invoke, builtin, run_min_int2, e]
theorem r_maxN {m n : Nat} (ho : o.op = .call { callee := .builtin .max, args := #[x, y], argTypes := ts }) (hx : ρ x = .int .i64 ((m : Nat) : Int)) (hy : ρ y = .int .i64 ((n : Nat) : Int)) : (execOp ρ o).run P w = .ok (.value (.int .i64 ((max m n : Nat) : Int))) w := by
  simp [execOp, ho, hx, hy, resolve, invoke, builtin, run_max_int2]
  split <;> omega
theorem r_maxI {m n : Int} (ho : o.op = .call { callee := .builtin .max, args := #[x, y], argTypes := ts }) (hx : ρ x = .int .i64 m) (hy : ρ y = .int .i64 n) : (execOp ρ o).run P w = .ok (.value (.int .i64 (max m n))) w := by
  have e : (if n > m then n else m) = max m n := by split <;> omega
  simp [execOp, ho, hx, hy, resolve, invoke, builtin, run_max_int2, e]
end
end Go.Proofs.YtgfilegkabbliaaGreat
