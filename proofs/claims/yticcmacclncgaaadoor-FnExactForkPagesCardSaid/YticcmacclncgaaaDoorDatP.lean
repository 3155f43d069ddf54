/-
  Pages.
-/
import Derived.Test.YticcmacclncgaaaDoorDatL
namespace Go.Proofs.YticcmacclncgaaaDoor
open Go.ChangeShapes Go.WideShapes Go.ChangeAt Go.RowKit
set_option maxRecDepth 100000
set_option maxHeartbeats 1000000

theorem keysUnder_pre {l : List CellD} {p : ByteArray} {k : Nat} {x : ByteArray} (hx : nth (keysUnder l p) k = some x) : p.size ≤ x.size := by
  have h := (keysUnder_mem.1 (nth_in hx)).2
  unfold begins at h
  exact (of_decide_eq_true h).1
def cutL (n : Nat) (ks : List ByteArray) : List ByteArray := ks.map fun k => k.extract n k.size
theorem cutL_length (n : Nat) (ks : List ByteArray) : (cutL n ks).length = ks.length := List.length_map ..
theorem cutL_step {n : Nat} {ks : List ByteArray} {k : Nat} {x : ByteArray} (hx : nth ks k = some x) : cutL n (ks.take (k + 1)) = cutL n (ks.take k) ++ [x.extract n x.size] := by
  rw [nth_take_snoc hx]; simp [cutL]
theorem cutL_take (n : Nat) (l : List CellD) (p : ByteArray) (k : Nat) : (cutL n ((keysUnder l p).take k)).length ≤ l.length := by
  have := keysUnder_length l p
  rw [cutL_length, List.length_take]; omega
/-- One page's copy: the key is read, and laid under another head. -/
def forkStep (f t : ByteArray) (m : MachD) (key : ByteArray) : MachD := layM (lookM m key) (t ++ key.extract f.size key.size) (getKey m.store key)
def forkL (f t : ByteArray) (m : MachD) (ks : List ByteArray) : MachD := ks.foldl (forkStep f t) m
theorem forkL_step {f t : ByteArray} {m : MachD} {ks : List ByteArray} {k : Nat} {x : ByteArray} (hx : nth ks k = some x) : forkL f t m (ks.take (k + 1)) = forkStep f t (forkL f t m (ks.take k)) x := by
  rw [nth_take_snoc hx]; unfold forkL; rw [List.foldl_append]; rfl
def forkM (f t : ByteArray) (m : MachD) : MachD := forkL f t (lookM m (f ++ (⟨#[42]⟩ : ByteArray))) (keysUnder m.store f)
theorem forkL_bdC {f t : ByteArray} {b k : Nat} {ks : List ByteArray} {m : MachD} (h : bdC b m) (hk : ks.length ≤ k) : bdC (b + 2 * k) (forkL f t m ks) := by
  induction ks generalizing b k m with
  | nil => exact h.le (Nat.le_add_right _ _)
  | cons x ks ih =>
    simp only [List.length_cons] at hk
    have := ih (b := b + 1 + 1) (k := k - 1) ((h.look (key := x)).lay (key := t ++ x.extract f.size x.size) (val := getKey m.store x)) (by omega)
    exact this.le (by omega)
theorem forkT_bdC {f t : ByteArray} {b : Nat} {m : MachD} (h : bdC b m) (k : Nat) : bdC (3 * b + 1) (forkL f t (lookM m (f ++ (⟨#[42]⟩ : ByteArray))) ((keysUnder m.store f).take k)) := by
  have h1 := forkL_bdC (f := f) (t := t) (k := b) (ks := (keysUnder m.store f).take k) (h.look (key := f ++ (⟨#[42]⟩ : ByteArray))) (by have h1 := keysUnder_length m.store f; have h2 := h.s; rw [List.length_take]; omega)
  exact h1.le (by omega)
theorem bdC.fork {f t : ByteArray} {b : Nat} {m : MachD} (h : bdC b m) : bdC (3 * b + 1) (forkM f t m) := by
  have := forkT_bdC (f := f) (t := t) h (keysUnder m.store f).length
  rw [List.take_length] at this; exact this
theorem bdC.key {b : Nat} {m : MachD} {p : ByteArray} {k : Nat} {x : ByteArray} (h : bdC b m) (hx : nth (keysUnder m.store p) k = some x) : x.size ≤ 1048576 := by
  obtain ⟨⟨c, hc, rfl⟩, _⟩ := keysUnder_mem.1 (nth_in hx)
  exact (h.2 c hc).1
/-- A timer. -/
def timerM (m : MachD) (key : ByteArray) (at_ : Int) : MachD := if inB at_ 0 999 then setM m key at_ else m
def timerC (at_ : Int) : Int := if inB at_ 0 999 then 0 else 4
theorem timerM_t {m : MachD} {key : ByteArray} {a : Int} (h : inB a 0 999 = true) : timerM m key a = setM m key a := if_pos h
theorem timerM_f {m : MachD} {key : ByteArray} {a : Int} (h : inB a 0 999 = false) : timerM m key a = m := if_neg (by rw [h]; decide)
theorem timerC_t {a : Int} (h : inB a 0 999 = true) : 0 = timerC a := (if_pos h).symm
theorem timerC_f {a : Int} (h : inB a 0 999 = false) : 4 = timerC a := (if_neg (by rw [h]; decide)).symm
theorem bdC.timer {b : Nat} {m : MachD} {key : ByteArray} {a : Int} (h : bdC b m) : bdC (b + 1) (timerM m key a) := by
  unfold timerM
  split
  · exact h.set
  · exact h.le (Nat.le_succ _)
end Go.Proofs.YticcmacclncgaaaDoor
