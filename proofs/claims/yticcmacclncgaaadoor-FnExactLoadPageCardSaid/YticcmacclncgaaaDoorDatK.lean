/-
  Machines that hold numbers; keys with numbers.
-/
import Derived.Test.YticcmacclncgaaaDoorDatH
import Derived.Test.YticcmacclncgaaaDoorTab
import Derived.Test.YticcmacclncgaaaDoorDatB
namespace Go.Proofs.YticcmacclncgaaaDoor
open Go.ChangeShapes Go.WideShapes Go.ChangeAt Go.RowKit
set_option maxRecDepth 100000
set_option maxHeartbeats 1000000

theorem dec0 {n : Int} (h : n = 0) : (⟨#[48]⟩ : ByteArray) = decS n := by subst h; exact decS_zero.symm
theorem fig_lo {z : Int} (h0 : 0 ≤ z) (h : z < 10) : (48 + z).toNat = fig z.toNat := by unfold fig; rw [if_pos (by omega)]; omega
theorem fig_hi {z : Int} (h : ¬ z < 10) : (87 + z).toNat = fig z.toNat := by unfold fig; rw [if_neg (by omega)]; omega
theorem bstr_one (d : Nat) : (bstr [d]).data.toList = [UInt8.ofNat d] := bstr_toList [d]
theorem decInv.stepA {n0 m : Int} {s : ByteArray} (h : decInv n0 m s) (hm : m ≠ 0) (hd : ¬ m.tmod 10 < 0) : decInv n0 (m.tdiv 10) (bstr [fig (m.tmod 10).toNat] ++ s) := by
  have hb : -10 < m.tmod 10 ∧ m.tmod 10 < 10 := tmod_bd m (c := 10) (by decide)
  refine h.step (d := (m.tmod 10).toNat) hm (by rw [if_neg hd]; omega) ?_
  rw [bstr_one]
  unfold fig
  rw [if_pos (by omega)]
theorem decInv.stepB {n0 m : Int} {s : ByteArray} (h : decInv n0 m s) (hm : m ≠ 0) (hd : m.tmod 10 < 0) : decInv n0 (m.tdiv 10) (bstr [fig (-(m.tmod 10)).toNat] ++ s) := by
  have hb : -10 < m.tmod 10 ∧ m.tmod 10 < 10 := tmod_bd m (c := 10) (by decide)
  refine h.step (d := (-(m.tmod 10)).toNat) hm (by rw [if_pos hd]; omega) ?_
  rw [bstr_one]
  unfold fig
  rw [if_pos (by omega)]
theorem digL_len {u : Nat} (h : u < 100000000000000000000) : (digL u).length ≤ 20 := by
  unfold digL
  split
  · exact Nat.zero_le _
  · exact dec_len 19 u (by have : (10 : Nat) ^ (19 + 1) = 100000000000000000000 := by decide
                           omega)
theorem decInv.size {n0 m : Int} {s : ByteArray} (h : decInv n0 m s) (h0 : i64ok n0) : s.size ≤ 20 := by
  have h1 := congrArg List.length h.1
  have h2 := digL_len (u := n0.natAbs) (by unfold i64ok at h0; omega)
  rw [List.length_append] at h1
  rw [size_toList]; omega
theorem decInv.i64 {n0 m : Int} {s : ByteArray} (h : decInv n0 m s) (h0 : i64ok n0) : i64ok m := by
  obtain ⟨_, h1, h2, h3⟩ := h
  unfold i64ok at *
  omega
theorem decInv.end1 {n0 m : Int} {s : ByteArray} (h : decInv n0 m s) (hm : ¬ m ≠ 0) (h0 : ¬ n0 = 0) (hn : ¬ n0 < 0) : s = decS n0 := by
  have : m = 0 := Classical.not_not.1 hm
  subst this
  exact h.done h0 hn
theorem decInv.end2 {n0 m : Int} {s : ByteArray} (h : decInv n0 m s) (hm : ¬ m ≠ 0) (hn : n0 < 0) : (⟨#[45]⟩ : ByteArray) ++ s = decS n0 := by
  have : m = 0 := Classical.not_not.1 hm
  subst this
  exact h.doneN hn
theorem tdiv_dec {m : Int} (h : m ≠ 0) : (m.tdiv 10).natAbs < m.natAbs := by rw [natAbs_tdiv]; omega
/-- A key: head, number, tail. -/
def keyNum (head : ByteArray) (n : Int) (tail : ByteArray) : ByteArray := head ++ decS n ++ tail
theorem keyNum_size (head : ByteArray) {n : Int} (tail : ByteArray) (h : i64ok n) : (keyNum head n tail).size ≤ head.size + 21 + tail.size := by
  have := decS_size n h
  unfold keyNum
  rw [ByteArray.size_append, ByteArray.size_append]; omega
/-- The value of a number in a store, or nothing. -/
def numV (n : Int) : ByteArray := if inB n 1 999 then decS n else ⟨#[]⟩
theorem numV_t {n : Int} (h : inB n 1 999 = true) : numV n = decS n := if_pos h
theorem numV_f {n : Int} (h : inB n 1 999 = false) : numV n = ⟨#[]⟩ := if_neg (by rw [h]; decide)
def setM (m : MachD) (key : ByteArray) (n : Int) : MachD := layM m key (numV n)
/-- A machine's texts are short, its lists at most b long. -/
def bdC (b : Nat) (m : MachD) : Prop := (m.store.length ≤ b ∧ m.touch.reads.length ≤ b ∧ m.touch.writes.length ≤ b) ∧ ∀ c ∈ m.store, c.key.size ≤ 1048576 ∧ c.val.size ≤ 1048576
theorem bdC.le {b c : Nat} {m : MachD} (h : bdC b m) (hb : b ≤ c) : bdC c m := ⟨⟨Nat.le_trans h.1.1 hb, Nat.le_trans h.1.2.1 hb, Nat.le_trans h.1.2.2 hb⟩, h.2⟩
theorem bdC.look {b : Nat} {m : MachD} {key : ByteArray} (h : bdC b m) : bdC (b + 1) (lookM m key) := ⟨⟨Nat.le_succ_of_le h.1.1, Nat.le_trans (putL_length ..) (Nat.succ_le_succ h.1.2.1), Nat.le_succ_of_le h.1.2.2⟩, h.2⟩
theorem keyOk_size {key : ByteArray} (h : keyOk key = true) : key.size ≤ 40 := by
  unfold keyOk at h
  rw [Bool.and_eq_true] at h
  have := h.2
  unfold inB at this
  have := of_decide_eq_true this
  omega
theorem putKey_sizes {s : List CellD} {key val : ByteArray} (h : ∀ c ∈ s, c.key.size ≤ 1048576 ∧ c.val.size ≤ 1048576) : ∀ c ∈ putKey s key val, c.key.size ≤ 1048576 ∧ c.val.size ≤ 1048576 := by
  intro c hc
  unfold putKey at hc
  split at hc
  · rename_i hk
    split at hc
    · exact h c (delKey_mem.1 hc).1
    · unfold insK insAt at hc
      rcases List.mem_append.1 hc with hc | hc
      · exact h c (delKey_mem.1 (List.mem_of_mem_take hc)).1
      · rcases List.mem_cons.1 hc with rfl | hc
        · exact ⟨Nat.le_trans (keyOk_size hk.1) (by decide), Nat.le_trans hk.2 (by decide)⟩
        · exact h c (delKey_mem.1 (List.mem_of_mem_drop hc)).1
  · exact h c hc
theorem bdC.lay {b : Nat} {m : MachD} {key val : ByteArray} (h : bdC b m) : bdC (b + 1) (layM m key val) := ⟨⟨Nat.le_trans (putKey_length ..) (Nat.succ_le_succ h.1.1), Nat.le_succ_of_le h.1.2.1, Nat.le_trans (putL_length ..) (Nat.succ_le_succ h.1.2.2)⟩, putKey_sizes h.2⟩
theorem bdC.set {b : Nat} {m : MachD} {key : ByteArray} {n : Int} (h : bdC b m) : bdC (b + 1) (setM m key n) := h.lay
theorem bdC.s {b : Nat} {m : MachD} (h : bdC b m) : m.store.length ≤ b := h.1.1
theorem bdC.r {b : Nat} {m : MachD} (h : bdC b m) : m.touch.reads.length ≤ b := h.1.2.1
theorem bdC.w {b : Nat} {m : MachD} (h : bdC b m) : m.touch.writes.length ≤ b := h.1.2.2
theorem getKey_mem {l : List CellD} {key : ByteArray} : getKey l key = ⟨#[]⟩ ∨ ∃ c ∈ l, c.val = getKey l key := by
  unfold getKey
  cases h : l.find? (fun c : CellD => decide (c.key = key)) with
  | none => exact .inl rfl
  | some c => exact .inr ⟨c, List.mem_of_find?_eq_some h, rfl⟩
theorem bdC.val {b : Nat} {m : MachD} {key : ByteArray} (h : bdC b m) : (getKey m.store key).size ≤ 1048576 := by
  rcases getKey_mem (l := m.store) (key := key) with e | ⟨c, hc, e⟩
  · rw [e]; exact Nat.zero_le _
  · rw [← e]; exact (h.2 c hc).2
theorem wipeL_bdC {b k : Nat} {ks : List ByteArray} {m : MachD} (h : bdC b m) (hk : ks.length ≤ k) : bdC (b + k) (wipeL m ks) := by
  induction ks generalizing b k m with
  | nil => exact h.le (Nat.le_add_right _ _)
  | cons x ks ih =>
    simp only [List.length_cons] at hk
    have := ih (b := b + 1) (k := k - 1) (h.lay (key := x) (val := ⟨#[]⟩)) (by omega)
    exact this.le (by omega)
theorem bdC.wipe {b : Nat} {m : MachD} {p : ByteArray} (h : bdC b m) : bdC (2 * b + 1) (wipeM m p) := by
  have h1 := wipeL_bdC (k := b) (ks := keysUnder m.store p) (h.look (key := p ++ (⟨#[42]⟩ : ByteArray))) (Nat.le_trans (keysUnder_length ..) h.s)
  exact h1.le (by omega)
theorem numOf_t {v : ByteArray} (h : ¬ readN v > 999) : readN v = numOf v := (if_pos (Nat.le_of_not_lt h)).symm
theorem numOf_f {v : ByteArray} (h : readN v > 999) : 0 = numOf v := (if_neg (Nat.not_le_of_gt h)).symm
theorem numOf_no {v : ByteArray} (h : (!readB v) = true) : 0 = numOf v := by
  unfold readB at h
  unfold numOf readN
  cases e : readD v with
  | none => rfl
  | some n => rw [e] at h; simp at h
end Go.Proofs.YticcmacclncgaaaDoor
