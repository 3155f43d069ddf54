/-
  Slices whose cap is less than their block; back to a mark.
-/
import Derived.Test.YtkebmooffbkpgaaDatTx
import Derived.Test.YtkebmooffbkpgaaDat7
namespace Go.Proofs.Ytkebmooffbkpgaa
open Go.ChangeShapes Go.WideShapes Go.ChangeAt Go.RowKit
set_option maxRecDepth 100000
set_option maxHeartbeats 1000000

/-- A slice's value: its cap is no less than its length. -/
def CapV (a : Option Addr) (n c : Nat) : Prop := n ≤ c ∧ (a = none → c = 0) ∧ ∀ ad, a = some ad → ∃ b off, ad = ⟨b, off, none⟩
theorem At.capv {α : Type} {e k : Nat} {enc : α → List Value} {ok : α → Prop} {w : World} {L : List Atom} {a : Option Addr} {n c : Nat} {l : List α} (A : At w L) (i : Nat) (hL : nth L i = some (ow e k enc ok (.slice a n c) l)) : CapV a n c := by
  have hO : Own e k enc ok w (.slice a n c) l := A.ok _ (nth_mem hL)
  obtain ⟨⟨g1, g2⟩, _⟩ := hO
  rcases g2 with ⟨h, h0⟩ | ⟨g, cap, cur, h, _, _, hc, _⟩
  · cases h; exact ⟨Nat.le_refl _, fun _ => rfl, fun _ h => by cases h⟩
  · cases h; exact ⟨hc, fun h => (by cases h), fun _ h => ⟨g, 0, (Option.some.inj h).symm⟩⟩
section
variable {P : Program} {ρ : Operand → Value} {w : World} {o : Oper} {x h mx : Operand} {t : TypeId} {e k bytes : Nat} {z : Value} {α : Type} {enc : α → List Value}
/-- s[:n:n] of a slice of n. -/
theorem r_clip {a : Option Addr} {n c : Nat} (E : ElemT P t e z k bytes enc) (ho : o.op = .slice t x none (some h) (some mx)) (hx : ρ x = .slice a n c) (hC : CapV a n c) (hh : ρ h = .int .i64 ((n : Nat) : Int)) (hm : ρ mx = .int .i64 ((n : Nat) : Int)) :
    (execOp ρ o).run P w = .ok (.value (.slice a n n)) w := by
  obtain ⟨inf, g1, g2, g3, g4⟩ := info_parts E.hT.info
  have hle := hC.1
  have hb : (Instr.sliceBounds true n c none (some (.int .i64 ((n : Nat) : Int))) (some (.int .i64 ((n : Nat) : Int)))).run P w = .ok (0, n, n) w := by
    have e1 : (0 : Int) ≤ ((n : Nat) : Int) := by omega
    simp [Instr.sliceBounds, Instr.sliceBound, asIntOf, hle]
  simp only [execOp, ho, hx, Instr.sliceAt, Sem.run_bind, run_underlying E.ht, Result.andThen_ok, Instr.slice, Option.map_none, Option.map_some, hh, hm, hb, sizeOf, typeInfo, run_program, g1, g3, Sem.run_pure]
  cases a with
  | none => simp
  | some ad =>
    obtain ⟨b, off, rfl⟩ := hC.2.2 ad rfl
    simp [Addr.add]
end
/-- The cap is no matter of reading. -/
theorem Rd.cap {α : Type} {k : Nat} {enc : α → List Value} {ok : α → Prop} {H : Nat → Prop} {w : World} {a : Option Addr} {n c c2 : Nat} {l : List α} (h : Rd k enc ok H w (.slice a n c) l) (h1 : n ≤ c2) (h2 : c2 ≤ c) : Rd k enc ok H w (.slice a n c2) l := by
  obtain ⟨⟨⟨a', cap, e1, g1, g2, g3, g4⟩, g5⟩, g6⟩ := h
  cases e1
  refine ⟨⟨⟨_, c2, rfl, h1, by omega, fun e => ?_, g4⟩, fun ad n' cap' e => ?_⟩, fun ad n' c' e hn => ?_⟩
  · obtain ⟨q1, q2⟩ := g3 e
    exact ⟨q1, by omega⟩
  · cases e; exact g5 _ _ _ rfl
  · cases e; exact g6 _ _ _ rfl hn
theorem inB_bd {x a b : Int} (h : (!inB x a b) = false) : a ≤ x ∧ x ≤ b := by
  have := nf h
  unfold inB at this
  exact of_decide_eq_true this
/-! ### Back to a mark -/
def txBk (x : TxD) (n : Int) : Bool := decide (x.state = 1) && inB n 1 ((x.marks.length : Nat) : Int)
def cutB (k : Int) (m : Nat) : Nat := (max 0 (min k ((m : Nat) : Int))).toNat
def txB (x : TxD) (n : Int) : TxD := if txBk x n = true then ⟨x.id, x.age, x.proc, x.began, x.calls.take (cutB ((nth x.marks (n - 1).toNat).getD 0) x.calls.length), x.answers.take (cutB ((nth x.marks (n - 1).toNat).getD 0) x.answers.length), x.touch, x.marks.take (n - 1).toNat, x.state⟩ else x
theorem tb_1 {x : TxD} {n : Int} (h : x.state ≠ 1) : x = txB x n ∧ false = txBk x n := by
  have : false = txBk x n := by unfold txBk; rw [decide_eq_false h]; rfl
  exact ⟨by unfold txB; rw [if_neg (by rw [← this]; decide)], this⟩
theorem tb_2 {x : TxD} {n : Int} {m : Nat} (h : (!inB n 1 ((m : Nat) : Int)) = true) (hm : m = x.marks.length) : x = txB x n ∧ false = txBk x n := by
  have : false = txBk x n := by unfold txBk; rw [← hm, nt h, Bool.and_false]
  exact ⟨by unfold txB; rw [if_neg (by rw [← this]; decide)], this⟩
theorem tb_b {x : TxD} {n : Int} {m : Nat} (h1 : ¬ x.state ≠ 1) (h : (!inB n 1 ((m : Nat) : Int)) = false) (hm : m = x.marks.length) : true = txBk x n := by
  unfold txBk; rw [← hm, nf h, decide_eq_true (Classical.not_not.1 h1)]; rfl
theorem txB_ints (x : TxD) (n : Int) : (txB x n).id = x.id ∧ (txB x n).age = x.age ∧ (txB x n).proc = x.proc ∧ (txB x n).began = x.began ∧ (txB x n).state = x.state ∧ (txB x n).touch.reads = x.touch.reads ∧ (txB x n).touch.writes = x.touch.writes := by
  unfold txB
  split <;> exact ⟨rfl, rfl, rfl, rfl, rfl, rfl, rfl⟩
theorem tb_c {x : TxD} {n k : Int} {m c : Nat} (h1 : ¬ x.state ≠ 1) (h : (!inB n 1 ((m : Nat) : Int)) = false) (hm : m = x.marks.length) (hx : nth x.marks (n - 1).toNat = some k) (hc : c = x.calls.length) : x.calls.take (max 0 (min k ((c : Nat) : Int))).toNat = (txB x n).calls := by
  unfold txB
  rw [if_pos (tb_b h1 h hm).symm, hx, hc]; rfl
theorem tb_a {x : TxD} {n k : Int} {m c : Nat} (h1 : ¬ x.state ≠ 1) (h : (!inB n 1 ((m : Nat) : Int)) = false) (hm : m = x.marks.length) (hx : nth x.marks (n - 1).toNat = some k) (hc : c = x.answers.length) : x.answers.take (max 0 (min k ((c : Nat) : Int))).toNat = (txB x n).answers := by
  unfold txB
  rw [if_pos (tb_b h1 h hm).symm, hx, hc]; rfl
theorem tb_m {x : TxD} {n : Int} {m : Nat} (h1 : ¬ x.state ≠ 1) (h : (!inB n 1 ((m : Nat) : Int)) = false) (hm : m = x.marks.length) : x.marks.take (n - 1).toNat = (txB x n).marks := by
  unfold txB
  rw [if_pos (tb_b h1 h hm).symm]
theorem txB_len (x : TxD) (n : Int) : (txB x n).calls.length ≤ x.calls.length ∧ (txB x n).answers.length ≤ x.answers.length ∧ (txB x n).touch.reads.length = x.touch.reads.length ∧ (txB x n).touch.writes.length = x.touch.writes.length ∧ (txB x n).marks.length ≤ x.marks.length := by
  unfold txB
  split
  · exact ⟨List.length_take_le' _ _, List.length_take_le' _ _, rfl, rfl, List.length_take_le' _ _⟩
  · exact ⟨Nat.le_refl _, Nat.le_refl _, rfl, rfl, Nat.le_refl _⟩

def pOk (p : List Int) : Prop := ∀ x ∈ p, 0 ≤ x ∧ x < 10000
theorem pOk_at {p : List Int} {k : Nat} {x : Int} (h : pOk p) (hx : nth p k = some x) : 0 ≤ x ∧ x < 10000 := h x (nth_in hx)
theorem pOk_nil : pOk [] := fun _ h => absurd h List.not_mem_nil
theorem pOk_snoc {p : List Int} {r : Nat} (h : pOk p) (hr : ((r : Nat) : Int) < 10000) : pOk (p ++ [((r : Nat) : Int)]) := fun x hx => by
  rcases List.mem_append.1 hx with hx | hx
  · exact h x hx
  · rw [List.mem_singleton.1 hx]; exact ⟨by omega, hr⟩
theorem rem_nat {x : Int} {c : Nat} (h : 0 ≤ x ∧ x < 10000) (hc : 0 < c) : ∃ r : Nat, x.tmod (c : Int) = (r : Int) ∧ r < c := by
  obtain ⟨n, rfl⟩ := Int.eq_ofNat_of_zero_le h.1
  exact ⟨n % c, by rw [← Int.ofNat_tmod], Nat.mod_lt _ hc⟩
theorem quo_nat {x : Int} {c : Nat} (h : 0 ≤ x ∧ x < 10000) (hc : 0 < c) : ∃ r : Nat, x.tdiv (c : Int) = (r : Int) ∧ r < 10000 := by
  obtain ⟨n, rfl⟩ := Int.eq_ofNat_of_zero_le h.1
  exact ⟨n / c, by rw [← Int.ofNat_tdiv], Nat.lt_of_le_of_lt (Nat.div_le_self _ _) (by omega)⟩

section
variable {P : Program} {ρ : Operand → Value} {w : World} {o : Oper} {x y : Operand} {ts : Array TypeId}
theorem r_minN {m n : Nat} (ho : o.op = .call { callee := .builtin .min, args := #[x, y], argTypes := ts }) (hx : ρ x = .int .i64 ((m : Nat) : Int)) (hy : ρ y = .int .i64 ((n : Nat) : Int)) : (execOp ρ o).run P w = .ok (.value (.int .i64 ((min m n : Nat) : Int))) w := by
  simp [execOp, ho, hx, hy, resolve, invoke, builtin, run_min_int2]
  split <;> omega
theorem r_minI {m n : Int} (ho : o.op = .call { callee := .builtin .min, args := #[x, y], argTypes := ts }) (hx : ρ x = .int .i64 m) (hy : ρ y = .int .i64 n) : (execOp ρ o).run P w = .ok (.value (.int .i64 (min m n))) w := by
  have e : (if n < m then n else m) = min m n := by split <;> omega
  simp [execOp, ho, hx, hy, resolve, invoke, builtin, run_min_int2, e]
theorem r_maxN {m n : Nat} (ho : o.op = .call { callee := .builtin .max, args := #[x, y], argTypes := ts }) (hx : ρ x = .int .i64 ((m : Nat) : Int)) (hy : ρ y = .int .i64 ((n : Nat) : Int)) : (execOp ρ o).run P w = .ok (.value (.int .i64 ((max m n : Nat) : Int))) w := by
  simp [execOp, ho, hx, hy, resolve, invoke, builtin, run_max_int2]
  split <;> omega
theorem r_maxI {m n : Int} (ho : o.op = .call { callee := .builtin .max, args := #[x, y], argTypes := ts }) (hx : ρ x = .int .i64 m) (hy : ρ y = .int .i64 n) : (execOp ρ o).run P w = .ok (.value (.int .i64 (max m n))) w := by
  have e : (if n > m then n else m) = max m n := by split <;> omega
  simp [execOp, ho, hx, hy, resolve, invoke, builtin, run_max_int2, e]
end
end Go.Proofs.Ytkebmooffbkpgaa
