/-
  Two cells are compared.
-/
import Derived.Laws.StructEq
import Derived.Test.YtibgmijfnbnfkaaGreatDoorDat7
namespace Go.Proofs.YtibgmijfnbnfkaaGreatDoor
open Go.ChangeShapes Go.WideShapes Go.ChangeAt Go.RowKit
theorem beq_list (a b : ByteArray) : (a.toList == b.toList) = decide (a = b) := by
  have h : ∀ x y : ByteArray, x.toList = y.toList ↔ x = y := fun x y => by
    rw [ByteArray.toList_eq, ByteArray.toList_eq]
    obtain ⟨⟨x⟩⟩ := x
    obtain ⟨⟨y⟩⟩ := y
    simp
  by_cases e : a = b
  · subst e; simp
  · rw [decide_eq_false e]
    exact beq_eq_false_iff_ne.2 fun q => e ((h a b).1 q)
theorem cell_eqIn (w : World) (a b c d : ByteArray) : (Op.equalIn 10000 73 (.agg #[.string a, .string b]) (.agg #[.string c, .string d])).run Tryz.prog w = .ok (decide (a = c) && decide (b = d)) w := by
  have hu := Tryz.underlying73
  have he : ∀ fs, Tryz.prog.underlying 73 = some (.struct fs) → Tryz.prog.fieldsOf 73 = fs := fun fs h => by unfold Program.fieldsOf; rw [h]
  have hg := he _ hu
  rw [run_equalIn_agg (P := Tryz.prog) w 9999 _ _ _ (by rw [hg]; exact hu) Tryz.stoodInHeld73, hg]
  simp [Op.eqFields, part, run_equalIn_string (P := Tryz.prog) _ _ 9 _ _ Tryz.underlying9, beq_list]
  by_cases h1 : a = c <;> by_cases h2 : b = d <;> simp [h1, h2]
theorem cell_ext (p q : CellD) : (decide (p.key = q.key) && decide (p.val = q.val)) = decide (p = q) := by
  cases p; cases q
  simp
/-- c1 != c2 -/
theorem r_neqC {o : Oper} {ρ : Operand → Value} {w : World} {x y : Operand} {u : TypeId} {p q : CellD} (ho : o.op = .binOp .neq 73 x y u) (hx : ρ x = .agg #[.string p.key, .string p.val]) (hy : ρ y = .agg #[.string q.key, .string q.val]) :
    (execOp ρ o).run Tryz.prog w = .ok (.value (.bool (decide (p ≠ q)))) w := by
  have hg := run_eqGuard_agg (P := Tryz.prog) w .neq 73 x y #[.string p.key, .string p.val] #[.string q.key, .string q.val] Tryz.eqGuardType73
  have hn := run_neq_struct (P := Tryz.prog) w 73 #[.string p.key, .string p.val] #[.string q.key, .string q.val]
  rw [cell_eqIn, Result.andThen_ok, cell_ext] at hn
  have e : (!decide (p = q)) = decide (p ≠ q) := by simp
  rw [e] at hn
  simp only [execOp, ho, hx, hy, Sem.run_bind, hg, Result.andThen_ok, hn, Sem.run_pure]
end Go.Proofs.YtibgmijfnbnfkaaGreatDoor
