/-
  How a transaction, as a statement's argument, is opened.
-/
import Derived.Test.YtkebmooffbkpgaaDatTx
namespace Go.Proofs.Ytkebmooffbkpgaa
open Go.ChangeShapes Go.WideShapes Go.ChangeAt Go.RowKit
section
variable {P : Program} {W : World} {T e : TypeId} {cs : List Value} {α : Type} {k : Nat} {enc : α → List Value} {ok : α → Prop}
theorem rdA_of (ht : P.underlying T = some (.slice e)) (hk : P.cellsOf e = k) (hk0 : 0 < k) (hrow : ∀ row, row.length = k → Reads P W e row → ∃ x, row = enc x ∧ ok x) (h : Reads P W T cs) :
    ∃ a n c l, cs = [.slice a n c] ∧ RdA k enc ok (fun _ => True) W (.slice a n c) l := by
  obtain ⟨v, l, rfl, hr⟩ := Reads.slice (R := Enc enc ok) ht hk hk0 (fun row h1 h2 => hrow row h1 h2) h
  obtain ⟨a, cap, rfl, _⟩ := hr.inv
  exact ⟨a, _, cap, l, rfl, hr, fun _ _ _ _ _ => trivial⟩
theorem str_row (ht : P.underlying e = some .string) : ∀ row, row.length = 1 → Reads P W e row → ∃ x, row = encS x ∧ okS x := fun row _ hr => by
  obtain ⟨s, rfl, hm⟩ := hr.string ht
  exact ⟨s, rfl, maxLen_le hm⟩
theorem int_row (ht : P.underlying e = some (.int .i64)) : ∀ row, row.length = 1 → Reads P W e row → ∃ x, row = encI x ∧ okI x := fun row _ hr => by
  obtain ⟨n, rfl, h0, h1⟩ := hr.i64 ht
  exact ⟨n, rfl, h0, h1⟩
theorem ans_row {fs : Array Field} {f0 f1 f2 : Field} (ht : P.underlying e = some (.struct fs)) (h0 : fs[0]? = some f0) (h1 : fs[1]? = some f1) (h2 : fs[2]? = some f2) (o0 : f0.offset = 0) (o1 : f1.offset = 1) (o2 : f2.offset = 2) (c0 : P.cellsOf f0.type = 1) (c1 : P.cellsOf f1.type = 1) (c2 : P.cellsOf f2.type = 1)
    (u0 : P.underlying f0.type = some (.int .i64)) (u1 : P.underlying f1.type = some (.int .i64)) (u2 : P.underlying f2.type = some .string) : ∀ row, row.length = 3 → Reads P W e row → ∃ x, row = encR x ∧ okR x := fun row hl hr => by
  obtain ⟨_, hf⟩ := hr.struct ht
  match row, hl with
  | [a, b, c], _ =>
    have g0 := hf 0 f0 h0
    have g1 := hf 1 f1 h1
    have g2 := hf 2 f2 h2
    rw [o0, c0] at g0
    rw [o1, c1] at g1
    rw [o2, c2] at g2
    obtain ⟨x0, e0, l0, m0⟩ := Reads.i64 u0 g0
    obtain ⟨x1, e1, l1, m1⟩ := Reads.i64 u1 g1
    obtain ⟨x2, e2, m2⟩ := Reads.string u2 g2
    simp at e0 e1 e2
    subst e0; subst e1; subst e2
    exact ⟨⟨x0, x1, x2⟩, rfl, ⟨l0, m0⟩, ⟨l1, m1⟩, maxLen_le m2⟩
theorem call_row {fs : Array Field} {f0 f1 f2 f3 f4 f5 : Field} (ht : P.underlying e = some (.struct fs)) (h0 : fs[0]? = some f0) (h1 : fs[1]? = some f1) (h2 : fs[2]? = some f2) (h3 : fs[3]? = some f3) (h4 : fs[4]? = some f4) (h5 : fs[5]? = some f5)
    (o0 : f0.offset = 0) (o1 : f1.offset = 1) (o2 : f2.offset = 2) (o3 : f3.offset = 3) (o4 : f4.offset = 4) (o5 : f5.offset = 5) (c0 : P.cellsOf f0.type = 1) (c1 : P.cellsOf f1.type = 1) (c2 : P.cellsOf f2.type = 1) (c3 : P.cellsOf f3.type = 1) (c4 : P.cellsOf f4.type = 1) (c5 : P.cellsOf f5.type = 1)
    (u0 : P.underlying f0.type = some (.int .i64)) (u1 : P.underlying f1.type = some .string) (u2 : P.underlying f2.type = some .string) (u3 : P.underlying f3.type = some (.int .i64)) (u4 : P.underlying f4.type = some (.int .i64)) (u5 : P.underlying f5.type = some .string) : ∀ row, row.length = 6 → Reads P W e row → ∃ x, row = encK x ∧ okK x := fun row hl hr => by
  obtain ⟨_, hf⟩ := hr.struct ht
  match row, hl with
  | [a, b, c, d, p, q], _ =>
    have g0 := hf 0 f0 h0
    have g1 := hf 1 f1 h1
    have g2 := hf 2 f2 h2
    have g3 := hf 3 f3 h3
    have g4 := hf 4 f4 h4
    have g5 := hf 5 f5 h5
    rw [o0, c0] at g0
    rw [o1, c1] at g1
    rw [o2, c2] at g2
    rw [o3, c3] at g3
    rw [o4, c4] at g4
    rw [o5, c5] at g5
    obtain ⟨x0, e0, l0, m0⟩ := Reads.i64 u0 g0
    obtain ⟨x1, e1, m1⟩ := Reads.string u1 g1
    obtain ⟨x2, e2, m2⟩ := Reads.string u2 g2
    obtain ⟨x3, e3, l3, m3⟩ := Reads.i64 u3 g3
    obtain ⟨x4, e4, l4, m4⟩ := Reads.i64 u4 g4
    obtain ⟨x5, e5, m5⟩ := Reads.string u5 g5
    simp at e0 e1 e2 e3 e4 e5
    subst e0; subst e1; subst e2; subst e3; subst e4; subst e5
    exact ⟨⟨x0, x1, x2, x3, x4, x5⟩, rfl, ⟨l0, m0⟩, maxLen_le m1, maxLen_le m2, ⟨l3, m3⟩, ⟨l4, m4⟩, maxLen_le m5⟩
end
end Go.Proofs.Ytkebmooffbkpgaa
