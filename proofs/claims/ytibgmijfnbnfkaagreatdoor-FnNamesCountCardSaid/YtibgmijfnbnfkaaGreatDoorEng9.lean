/-
  The walks' laws for division of whole numbers, for errors that are set against nil, for texts taken as bytes.
-/
import Derived.Test.YtibgmijfnbnfkaaGreatDoorEng8
namespace Go.Proofs.YtibgmijfnbnfkaaGreatDoor
open Go.ChangeShapes Go.WideShapes Go.ChangeAt Go.RowKit
section
variable {P : Program} {o : Oper} {ρ : Operand → Value} {w : World} {t u : TypeId} {x y : Operand}
theorem r_quoI {m : Int} {c : Nat} {n : Int} (hn : n = (c : Int)) (hc : 1 < c) (hm : i64ok m) (ho : o.op = .binOp .quo t x y u) (hx : ρ x = .int .i64 m) (hy : ρ y = .int .i64 n) : (execOp ρ o).run P w = .ok (.value (.int .i64 (m.tdiv (c : Int)))) w := by
  subst hn
  have h1 : c ≠ 0 := by omega
  have h2 : (m.tdiv (c : Int)).natAbs ≤ m.natAbs := by rw [Int.natAbs_tdiv]; exact Nat.div_le_self _ _
  have h3 : (m.tdiv (c : Int)).natAbs < 9223372036854775808 ∨ m.natAbs = 9223372036854775808 := by unfold i64ok at hm; omega
  have h4 : -9223372036854775808 ≤ m.tdiv (c : Int) ∧ m.tdiv (c : Int) ≤ 9223372036854775807 := by
    rcases h3 with h3 | h3
    · omega
    · have : (m.tdiv (c : Int)).natAbs = m.natAbs / c := by rw [Int.natAbs_tdiv]; rfl
      have : m.natAbs / c < m.natAbs := Nat.div_lt_self (by omega) hc
      omega
  have h5 : IntKind.i64.wrap (m.tdiv (c : Int)) = m.tdiv (c : Int) := IntWalk.i64_in _ h4
  simp [execOp, ho, hx, hy, eqGuard, binOp, Op.intDiv, h1, h5]
theorem r_remI {m : Int} {c : Nat} {n : Int} (hn : n = (c : Int)) (hc : 0 < c) (ho : o.op = .binOp .rem t x y u) (hx : ρ x = .int .i64 m) (hy : ρ y = .int .i64 n) : (execOp ρ o).run P w = .ok (.value (.int .i64 (m.tmod (c : Int)))) w := by
  subst hn
  have h1 : c ≠ 0 := by omega
  simp [execOp, ho, hx, hy, eqGuard, binOp, Op.intDiv, h1]
theorem r_remK {m c : Nat} {n : Int} (hn : n = (c : Int)) (hc : 0 < c) (ho : o.op = .binOp .rem t x y u) (hx : ρ x = .int .i64 ((m : Nat) : Int)) (hy : ρ y = .int .i64 n) : (execOp ρ o).run P w = .ok (.value (.int .i64 ((m % c : Nat) : Int))) w := by
  subst hn
  have h1 : c ≠ 0 := by omega
  have h2 : (m : Int).tmod (c : Int) = ((m % c : Nat) : Int) := rfl
  simp [execOp, ho, hx, hy, eqGuard, binOp, Op.intDiv, h1, h2]
/-- Is it an error? -/
def isErr : Value → Bool
  | .nilIface => false
  | _ => true
def errV (v : Value) : Prop := v = .nilIface ∨ ∃ a b, v = .iface a b
theorem equalIn_nil {ms : Array (String × TypeId)} (d : Nat) (ht : P.underlying t = some (.interface ms)) : (Op.equalIn (d + 1) t .nilIface .nilIface).run P w = .ok true w := by
  simp [Op.equalIn, run_underlying ht]
theorem equalIn_err {ms : Array (String × TypeId)} (d : Nat) (a : TypeId) (b : Value) (ht : P.underlying t = some (.interface ms)) : (Op.equalIn (d + 1) t (.iface a b) .nilIface).run P w = .ok false w := by
  simp [Op.equalIn, run_underlying ht]
theorem equal_nil {ms : Array (String × TypeId)} (ht : P.underlying t = some (.interface ms)) : (Op.equal t .nilIface .nilIface).run P w = .ok true w := equalIn_nil 9999 ht
theorem equal_err {ms : Array (String × TypeId)} (a : TypeId) (b : Value) (ht : P.underlying t = some (.interface ms)) : (Op.equal t (.iface a b) .nilIface).run P w = .ok false w := equalIn_err 9999 a b ht
theorem neq_nil {ms : Array (String × TypeId)} (ht : P.underlying t = some (.interface ms)) : (binOp .neq t .nilIface .nilIface).run P w = .ok (.bool false) w := by
  simp only [binOp]
  simp [equal_nil ht]
theorem neq_err {ms : Array (String × TypeId)} (a : TypeId) (b : Value) (ht : P.underlying t = some (.interface ms)) : (binOp .neq t (.iface a b) .nilIface).run P w = .ok (.bool true) w := by
  simp only [binOp]
  simp [equal_err a b ht]
theorem r_errNe {v : Value} {ms : Array (String × TypeId)} (ht : P.underlying t = some (.interface ms)) (ho : o.op = .binOp .neq t x (.const .nilIface) u) (hx : ρ x = v) (hy : ρ (.const .nilIface) = .nilIface) (he : errV v) : (execOp ρ o).run P w = .ok (.value (.bool (isErr v))) w := by
  rcases he with rfl | ⟨a, b, rfl⟩
  · have hg : eqGuard .neq t x (.const .nilIface) .nilIface .nilIface = pure () := eqGuard_nil_constR (op := .neq) t x .nilIface
    simp only [execOp, ho, hx, hy, Sem.run_bind, hg, Sem.run_pure, Result.andThen_ok, neq_nil ht]
    rfl
  · have hg : eqGuard .neq t x (.const .nilIface) (.iface a b) .nilIface = pure () := rfl
    simp only [execOp, ho, hx, hy, Sem.run_bind, hg, Sem.run_pure, Result.andThen_ok, neq_err a b ht]
    rfl
end
end Go.Proofs.YtibgmijfnbnfkaaGreatDoor
