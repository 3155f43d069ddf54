/-
  The least and the greatest of two numbers.
-/
import Derived.Test.YtibgmijfnbnfkaaDoorDatB
namespace Go.Proofs.YtibgmijfnbnfkaaDoor
open Go.ChangeShapes Go.WideShapes Go.ChangeAt Go.RowKit
set_option maxRecDepth 100000
set_option maxHeartbeats 1000000

section
variable {P : Program} {ρ : Operand → Value} {w : World} {o : Oper} {x y : Operand} {ts : Array TypeId}
theorem r_minN {m n : Nat} (ho : o.op = .call { callee := .builtin .min, args := #[x, y], argTypes := ts }) (hx : ρ x = .int .i64 ((m : Nat) : Int)) (hy : ρ y = .int .i64 ((n : Nat) : Int)) : (execOp ρ o).run P w = .ok (.value (.int .i64 ((min m n : Nat) : Int))) w := by
  simp [execOp, ho, hx, hy, resolve, invoke, builtin, run_min_int2]
  split <;> omega
theorem r_minI {m n : Int} (ho : o.op = .call { callee := .builtin .min, args := #[x, y], argTypes := ts }) (hx : ρ x = .int .i64 m) (hy : ρ y = .int .i64 n) : (execOp ρ o).run P w = .ok (.value (.int .i64 (min m n))) w := by
  have e : (if n < m then n else m) = min m n := by split <;> omega
  simp [execOp, ho, hx, hy, resolve, invoke, builtin, run_min_int2, e]
theorem r_maxN {m n : Nat} (ho : o.op = .call { callee := .builtin .max, args := #[x, y], argTypes := ts }) (hx : ρ x = .int .i64 ((m : Nat) : Int)) (hy : ρ y = .int .i64 ((n : Nat) : Int)) : (execOp ρ o).run P w = .ok (.value (.int .i64 ((max m n : Nat) : Int))) w := by
  simp [execOp, ho, hx, hy, resolve, invoke, builtin, run_max_int2]
  split <;> omega
theorem r_maxI {m n : Int} (ho : o.op = .call { callee := .builtin .max, args := #[x, y], argTypes := ts }) (hx : ρ x = .int .i64 m) (hy : ρ y = .int .i64 n) : (execOp ρ o).run P w = .ok (.value (.int .i64 (max m n))) w := by
  have e : (if n > m then n else m) = max m n := by split <;> omega
  simp [execOp, ho, hx, hy, resolve, invoke, builtin, run_max_int2, e]
end
end Go.Proofs.YtibgmijfnbnfkaaDoor
