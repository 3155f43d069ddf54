/-
  The walks' laws, one for each kind of operation: arithmetic, comparisons, strings, slices.
-/
import Derived.Test.YtibgmijfnbnfkaaGreatDoorEng
import Derived.Test.YtibgmijfnbnfkaaGreatDoorSlices
import Derived.IntWalk
import Derived.Laws.Concat
import Derived.Laws.StructEq
import Derived.Laws.Cover1
namespace Go.Proofs.YtibgmijfnbnfkaaGreatDoor
open Go.ChangeShapes Go.WideShapes Go.ChangeAt Go.RowKit

def i64ok (z : Int) : Prop := -9223372036854775808 ≤ z ∧ z ≤ 9223372036854775807
theorem dec_of {p q : Prop} [Decidable p] [Decidable q] (h : p ↔ q) : decide p = decide q := by simp [h]
section
variable {P : Program} {o : Oper} {ρ : Operand → Value} {w : World} {x y : Operand} {t u : TypeId}
theorem wrap_ok {z : Int} (h : i64ok z) : IntKind.i64.wrap z = z := IntWalk.i64_in _ h
theorem r_add {m n z : Int} (ho : o.op = .binOp .add t x y u) (hx : ρ x = .int .i64 m) (hy : ρ y = .int .i64 n) (hz : m + n = z) (hb : i64ok z) : (execOp ρ o).run P w = .ok (.value (.int .i64 z)) w := by
  subst hz
  simp [execOp, ho, hx, hy, eqGuard, binOp, Op.intArith, wrap_ok hb]
theorem r_sub {m n z : Int} (ho : o.op = .binOp .sub t x y u) (hx : ρ x = .int .i64 m) (hy : ρ y = .int .i64 n) (hz : m - n = z) (hb : i64ok z) : (execOp ρ o).run P w = .ok (.value (.int .i64 z)) w := by
  subst hz
  simp [execOp, ho, hx, hy, eqGuard, binOp, Op.intArith, wrap_ok hb]
theorem r_mul {m n z : Int} (ho : o.op = .binOp .mul t x y u) (hx : ρ x = .int .i64 m) (hy : ρ y = .int .i64 n) (hz : m * n = z) (hb : i64ok z) : (execOp ρ o).run P w = .ok (.value (.int .i64 z)) w := by
  subst hz
  simp [execOp, ho, hx, hy, eqGuard, binOp, Op.intArith, wrap_ok hb]
/-- The six comparisons of integers. -/
def cmpI : BinOp → Int → Int → Bool
  | .eql, a, b => decide (a = b)
  | .neq, a, b => decide (a ≠ b)
  | .lss, a, b => decide (a < b)
  | .leq, a, b => decide (a ≤ b)
  | .gtr, a, b => decide (b < a)
  | .geq, a, b => decide (b ≤ a)
  | _, _, _ => false
theorem r_cmp {k : IntKind} {op : BinOp} {m n : Int} {b : Bool} (hop : op = .eql ∨ op = .neq ∨ op = .lss ∨ op = .leq ∨ op = .gtr ∨ op = .geq) (ho : o.op = .binOp op t x y u) (hx : ρ x = .int k m) (hy : ρ y = .int k n) (hb : cmpI op m n = b) :
    (execOp ρ o).run P w = .ok (.value (.bool b)) w := by
  subst hb
  rcases hop with rfl | rfl | rfl | rfl | rfl | rfl <;> simp [execOp, ho, hx, hy, eqGuard, binOp, Op.intCmp, cmpI] <;> rfl
def leS (a b : ByteArray) : Bool := ltS a b || decide (a = b)
/-- The six comparisons of strings. -/
def cmpS : BinOp → ByteArray → ByteArray → Bool
  | .eql, a, b => decide (a = b)
  | .neq, a, b => decide (a ≠ b)
  | .lss, a, b => ltS a b
  | .leq, a, b => leS a b
  | .gtr, a, b => !leS a b
  | .geq, a, b => !ltS a b
  | _, _, _ => false
theorem r_cmps {op : BinOp} {m n : ByteArray} {b : Bool} (hop : op = .eql ∨ op = .neq ∨ op = .lss ∨ op = .leq ∨ op = .gtr ∨ op = .geq) (ho : o.op = .binOp op t x y u) (hx : ρ x = .string m) (hy : ρ y = .string n) (hb : cmpS op m n = b) :
    (execOp ρ o).run P w = .ok (.value (.bool b)) w := by
  subst hb
  have e := bytes_beq m n
  rcases hop with rfl | rfl | rfl | rfl | rfl | rfl <;> simp [execOp, ho, hx, hy, eqGuard, binOp, Op.stringOp, cmpS, leS, ltS, e]
theorem r_cat {m n : ByteArray} (ho : o.op = .binOp .add t x y u) (hx : ρ x = .string m) (hy : ρ y = .string n) (hb : m.size + n.size ≤ 9223372036854775807) : (execOp ρ o).run P w = .ok (.value (.string (m ++ n))) w := by
  simp [execOp, ho, hx, hy, eqGuard, binOp, run_string_add_sum w m n hb]
theorem r_lenS {ats : Array TypeId} (hu : ∀ t, ats[0]? = some t → P.underlying t = some .string) (h0 : ats[0]?.isSome = true) (ho : o.op = .call { callee := .builtin .len, args := #[x], argTypes := ats }) {m : ByteArray} (hx : ρ x = .string m) : (execOp ρ o).run P w = .ok (.value (.int .i64 m.size)) w := by
  obtain ⟨t, ht⟩ := Option.isSome_iff_exists.1 h0
  simp [execOp, ho, hx, resolve, invoke, builtin, Builtin.len_, ht, run_underlying (hu t ht), goInt]
theorem r_len {e s : TypeId} {ad : Option Addr} {n c : Nat} (hu : P.underlying s = some (.slice e)) (ho : o.op = .call { callee := .builtin .len, args := #[x], argTypes := #[s] }) (hx : ρ x = .slice ad n c) : (execOp ρ o).run P w = .ok (.value (.int .i64 n)) w := by
  simp [execOp, ho, hx, resolve, invoke, builtin, Builtin.len_, run_underlying hu, goInt]
/-- A byte of a string. -/
def byteAt (s : ByteArray) (i : Nat) : Nat := ((s.data.toList[i]?).map (·.toNat)).getD 0
theorem r_indexS {m : ByteArray} {z : Int} {i : Nat} (hu : P.underlying t = some .string) (ho : o.op = .index t x y) (hx : ρ x = .string m) (hy : ρ y = .int .i64 z) (hz : z = i) (hi : i < m.size) : (execOp ρ o).run P w = .ok (.value (.int .u8 (byteAt m i))) w := by
  subst hz
  have h2 : byteAt m i = m[i].toNat := by
    unfold byteAt
    have : m.data.toList[i]? = some m[i] := by
      rw [Array.getElem?_toList, Array.getElem?_eq_getElem (by simpa using hi)]
      rfl
    rw [this]; rfl
  simp [execOp, ho, hx, hy, Instr.index, asIntOf, run_underlying hu, h2, hi]
theorem r_convU8 {s d : TypeId} {n : Int} {ku : IntKind} (hd : P.underlying d = some (.int .i64)) (hs : P.underlying s = some (.int ku)) (ho : o.op = .convert s d x) (hx : ρ x = .int ku n) (hb : i64ok n) : (execOp ρ o).run P w = .ok (.value (.int .i64 n)) w := by
  simp [execOp, ho, hx, convert, run_underlying hd, run_underlying hs, Conv.intToInt, wrap_ok hb]
theorem run_bounds (g : Bool) (n c l h : Nat) (lo hi : Option Value) (hlo : match lo with | none => l = 0 | some p => p = .int .i64 (l : Int)) (hhi : match hi with | none => h = n | some p => p = .int .i64 (h : Int)) (h1 : l ≤ h) (h2 : h ≤ c) :
    (Instr.sliceBounds g n c lo hi none).run P w = .ok (l, h, c) w := by
  have e1 : (0 : Int) ≤ (l : Int) ∧ (l : Int) ≤ (h : Int) := by omega
  have e2 : (0 : Int) ≤ (h : Int) ∧ (h : Int) ≤ (c : Int) := by omega
  cases lo <;> cases hi <;> simp only at hlo hhi <;> subst hlo <;> subst hhi <;> simp [Instr.sliceBounds, Instr.sliceBound, asIntOf, h1, h2]
/-- A bound of a slice expression: what it comes to, d where it is left out. -/
def idxIs (ρ : Operand → Value) (d : Nat) : Option Operand → Nat → Prop
  | none, i => i = d
  | some p, i => ρ p = .int .i64 (i : Int)
/-- s[i:j] of a string. -/
theorem r_sliceS {m m' : ByteArray} {lo hi : Option Operand} {l h : Nat} (hu : P.underlying t = some .string) (ho : o.op = .slice t x lo hi none) (hx : ρ x = .string m)
    (hlo : idxIs ρ 0 lo l) (hhi : idxIs ρ m.size hi h) (h1 : l ≤ h) (h2 : h ≤ m.size) (e : m.extract l h = m') : (execOp ρ o).run P w = .ok (.value (.string m')) w := by
  subst e
  have hb := run_bounds (P := P) (w := w) false m.size m.size l h (lo.map ρ) (hi.map ρ) (by cases lo <;> exact hlo) (by cases hi <;> exact hhi) h1 h2
  simp only [execOp, ho, hx, Instr.sliceAt, Sem.run_bind, run_underlying hu, Result.andThen_ok, Instr.slice, Option.map_none, Option.isSome_none, Bool.false_eq_true, ↓reduceIte, hb, Sem.run_pure]
end

/-! ### slices -/
section
variable {P : Program} {o : Oper} {ρ : Operand → Value} {w : World} {x y : Operand} {t : TypeId}
variable {α : Type} {e k bytes : Nat} {z : Value} {enc : α → List Value} {ok : α → Prop}
theorem r_indexAddr {b off n c : Nat} {zi : Int} {i : Nat} (E : ElemT P t e z k bytes enc) (ho : o.op = .indexAddr t x y) (hx : ρ x = .slice (some ⟨b, off, none⟩) n c) (hy : ρ y = .int .i64 zi) (hz : zi = i) (hi : i < n) :
    (execOp ρ o).run P w = .ok (.value (.pointer (some ⟨b, off + i * k, none⟩))) w := by
  subst hz
  obtain ⟨inf, h1, h2, h3, h4⟩ := info_parts E.hT.info
  have hk : k ≠ 0 := by have := E.hT.pos; omega
  simp [execOp, ho, hx, hy, Instr.indexAt, asIntOf, run_underlying E.ht, sizeOf, typeInfo, h1, h3, hi, add_flat]
/-- x[i:j] of a slice of more than i elements' room. -/
theorem r_slice {b off n c : Nat} {lo hi : Option Operand} {l h : Nat} (E : ElemT P t e z k bytes enc) (ho : o.op = .slice t x lo hi none) (hx : ρ x = .slice (some ⟨b, off, none⟩) n c)
    (hlo : idxIs ρ 0 lo l) (hhi : idxIs ρ n hi h) (h1 : l ≤ h) (h2 : h ≤ c) :
    (execOp ρ o).run P w = .ok (.value (.slice (some (if c = l then ⟨b, off, none⟩ else ⟨b, off + l * k, none⟩)) (h - l) (c - l))) w := by
  obtain ⟨inf, g1, g2, g3, g4⟩ := info_parts E.hT.info
  have hb := run_bounds (P := P) (w := w) true n c l h (lo.map ρ) (hi.map ρ) (by cases lo <;> exact hlo) (by cases hi <;> exact hhi) h1 h2
  simp only [execOp, ho, hx, Instr.sliceAt, Sem.run_bind, run_underlying E.ht, Result.andThen_ok, Instr.slice, Option.map_none, hb, sizeOf, typeInfo, run_program, g1, g3, Sem.run_pure]
  congr 4
  split <;> simp [add_flat]
theorem r_sliceNil {lo hi : Option Operand} (hu : P.underlying t = some (.slice e)) (hsz : ∃ inf, P.info? e = some inf) (ho : o.op = .slice t x lo hi none) (hx : ρ x = .slice none 0 0)
    (hlo : match lo with | none => True | some p => ρ p = .int .i64 0) (hhi : match hi with | none => True | some p => ρ p = .int .i64 0) :
    (execOp ρ o).run P w = .ok (.value (.slice none 0 0)) w := by
  obtain ⟨inf, g1⟩ := hsz
  cases lo <;> cases hi <;> simp only at hlo hhi <;> simp [execOp, ho, hx, Instr.sliceAt, Instr.slice, run_underlying hu, Instr.sliceBounds, Instr.sliceBound, asIntOf, hlo, hhi, sizeOf, typeInfo, g1]
end
end Go.Proofs.YtibgmijfnbnfkaaGreatDoor
