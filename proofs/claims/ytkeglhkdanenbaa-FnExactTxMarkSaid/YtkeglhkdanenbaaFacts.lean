/-
  What the walks ask of the program: its types' shapes, its functions' bodies.
-/
import Derived.Test.YtkeglhkdanenbaaEng8
namespace Go.Proofs.Ytkeglhkdanenbaa
open Go.ChangeShapes Go.WideShapes Go.ChangeAt Go.RowKit
def encI (n : Int) : List Value := [.int .i64 n]
def okI (n : Int) : Prop := i64ok n
structure CallD where
  kind : Int
  name : ByteArray
  to_ : ByteArray
  a : Int
  b : Int
  text : ByteArray
def encK (c : CallD) : List Value := [.int .i64 c.kind, .string c.name, .string c.to_, .int .i64 c.a, .int .i64 c.b, .string c.text]
def okK (c : CallD) : Prop := i64ok c.kind ∧ okS c.name ∧ okS c.to_ ∧ i64ok c.a ∧ i64ok c.b ∧ okS c.text
structure AnsD where
  code : Int
  n : Int
  text : ByteArray
def encR (c : AnsD) : List Value := [.int .i64 c.code, .int .i64 c.n, .string c.text]
def okR (c : AnsD) : Prop := i64ok c.code ∧ i64ok c.n ∧ okS c.text
theorem BI_33 : BI Try.prog 33 [(0, 1), (1, 1)] [.slice none 0 0, .slice none 0 0] := bi_mk2 Try.underlying33 (zv := .agg #[.slice none 0 0, .slice none 0 0]) (by kernel_rfl) rfl (by kernel_rfl)
theorem CF_43 : CF Try.prog 43 := ⟨⟨_, _, Try.func43, rfl, by kernel_rfl⟩⟩
theorem CF_44 : CF Try.prog 44 := ⟨⟨_, _, Try.func44, rfl, by kernel_rfl⟩⟩
theorem CF_45 : CF Try.prog 45 := ⟨⟨_, _, Try.func45, rfl, by kernel_rfl⟩⟩
theorem CF_46 : CF Try.prog 46 := ⟨⟨_, _, Try.func46, rfl, by kernel_rfl⟩⟩
theorem CF_47 : CF Try.prog 47 := ⟨⟨_, _, Try.func47, rfl, by kernel_rfl⟩⟩
theorem CF_48 : CF Try.prog 48 := ⟨⟨_, _, Try.func48, rfl, by kernel_rfl⟩⟩
theorem CF_53 : CF Try.prog 53 := ⟨⟨_, _, Try.func53, rfl, by kernel_rfl⟩⟩
theorem CF_54 : CF Try.prog 54 := ⟨⟨_, _, Try.func54, rfl, by kernel_rfl⟩⟩
theorem CF_55 : CF Try.prog 55 := ⟨⟨_, _, Try.func55, rfl, by kernel_rfl⟩⟩
theorem CF_56 : CF Try.prog 56 := ⟨⟨_, _, Try.func56, rfl, by kernel_rfl⟩⟩
theorem CF_57 : CF Try.prog 57 := ⟨⟨_, _, Try.func57, rfl, by kernel_rfl⟩⟩
theorem CF_58 : CF Try.prog 58 := ⟨⟨_, _, Try.func58, rfl, by kernel_rfl⟩⟩
theorem CF_59 : CF Try.prog 59 := ⟨⟨_, _, Try.func59, rfl, by kernel_rfl⟩⟩
theorem ET_22 : ElemT Try.prog 22 71 (.agg #[.int .i64 0, .string ⟨#[]⟩, .string ⟨#[]⟩, .int .i64 0, .int .i64 0, .string ⟨#[]⟩]) 6 72 encK := { ht := Try.underlying22, hT := { info := by kernel_rfl, zs := rfl, pos := by decide }, hk := fun _ => rfl, h1 := by intro x u hu; simp [encK] at hu; rcases hu with rfl | rfl | rfl | rfl | rfl | rfl <;> rfl, by0 := by decide }
theorem ET_23 : ElemT Try.prog 23 73 (.agg #[.int .i64 0, .int .i64 0, .string ⟨#[]⟩]) 3 32 encR := { ht := Try.underlying23, hT := { info := by kernel_rfl, zs := rfl, pos := by decide }, hk := fun _ => rfl, h1 := by intro x u hu; simp [encR] at hu; rcases hu with rfl | rfl | rfl <;> rfl, by0 := by decide }
theorem ET_24 : ElemT Try.prog 24 9 (.string ⟨#[]⟩) 1 16 encS := { ht := Try.underlying24, hT := { info := by kernel_rfl, zs := rfl, pos := by decide }, hk := fun _ => rfl, h1 := by intro x u hu; simp [encS] at hu; subst hu; rfl, by0 := by decide }
theorem ET_27 : ElemT Try.prog 27 3 (.int .i64 0) 1 8 encI := { ht := Try.underlying27, hT := { info := by kernel_rfl, zs := rfl, pos := by decide }, hk := fun _ => rfl, h1 := by intro x u hu; simp [encI] at hu; subst hu; rfl, by0 := by decide }
theorem ET_31 : ElemT Try.prog 31 66 (.agg #[.int .i64 0, .string ⟨#[]⟩, .string ⟨#[]⟩, .int .i64 0, .int .i64 0, .string ⟨#[]⟩]) 6 72 encK := { ht := Try.underlying31, hT := { info := by kernel_rfl, zs := rfl, pos := by decide }, hk := fun _ => rfl, h1 := by intro x u hu; simp [encK] at hu; rcases hu with rfl | rfl | rfl | rfl | rfl | rfl <;> rfl, by0 := by decide }
theorem ET_32 : ElemT Try.prog 32 69 (.agg #[.int .i64 0, .int .i64 0, .string ⟨#[]⟩]) 3 32 encR := { ht := Try.underlying32, hT := { info := by kernel_rfl, zs := rfl, pos := by decide }, hk := fun _ => rfl, h1 := by intro x u hu; simp [encR] at hu; rcases hu with rfl | rfl | rfl <;> rfl, by0 := by decide }
theorem FI_26_0 : FI Try.prog 26 0 0 := fi_mk Try.underlying26 rfl rfl (k := 0) (by kernel_rfl)
theorem FI_26_1 : FI Try.prog 26 1 1 := fi_mk Try.underlying26 rfl rfl (k := 0) (by kernel_rfl)
theorem FI_33_0 : FI Try.prog 33 0 0 := fi_mk Try.underlying33 rfl rfl (k := 0) (by kernel_rfl)
theorem FI_33_1 : FI Try.prog 33 1 1 := fi_mk Try.underlying33 rfl rfl (k := 0) (by kernel_rfl)
theorem FI_66_0 : FI Try.prog 66 0 0 := fi_mk Try.underlying66 rfl rfl (k := 0) (by kernel_rfl)
theorem FI_66_1 : FI Try.prog 66 1 1 := fi_mk Try.underlying66 rfl rfl (k := 0) (by kernel_rfl)
theorem FI_66_2 : FI Try.prog 66 2 2 := fi_mk Try.underlying66 rfl rfl (k := 0) (by kernel_rfl)
theorem FI_66_3 : FI Try.prog 66 3 3 := fi_mk Try.underlying66 rfl rfl (k := 0) (by kernel_rfl)
theorem FI_66_4 : FI Try.prog 66 4 4 := fi_mk Try.underlying66 rfl rfl (k := 0) (by kernel_rfl)
theorem FI_66_5 : FI Try.prog 66 5 5 := fi_mk Try.underlying66 rfl rfl (k := 0) (by kernel_rfl)
theorem FI_69_0 : FI Try.prog 69 0 0 := fi_mk Try.underlying69 rfl rfl (k := 0) (by kernel_rfl)
theorem FI_69_1 : FI Try.prog 69 1 1 := fi_mk Try.underlying69 rfl rfl (k := 0) (by kernel_rfl)
theorem FI_69_2 : FI Try.prog 69 2 2 := fi_mk Try.underlying69 rfl rfl (k := 0) (by kernel_rfl)
theorem FI_71_0 : FI Try.prog 71 0 0 := fi_mk Try.underlying71 rfl rfl (k := 0) (by kernel_rfl)
theorem FI_71_1 : FI Try.prog 71 1 1 := fi_mk Try.underlying71 rfl rfl (k := 0) (by kernel_rfl)
theorem FI_71_2 : FI Try.prog 71 2 2 := fi_mk Try.underlying71 rfl rfl (k := 0) (by kernel_rfl)
theorem FI_71_3 : FI Try.prog 71 3 3 := fi_mk Try.underlying71 rfl rfl (k := 0) (by kernel_rfl)
theorem FI_71_4 : FI Try.prog 71 4 4 := fi_mk Try.underlying71 rfl rfl (k := 0) (by kernel_rfl)
theorem FI_71_5 : FI Try.prog 71 5 5 := fi_mk Try.underlying71 rfl rfl (k := 0) (by kernel_rfl)
theorem FI_73_0 : FI Try.prog 73 0 0 := fi_mk Try.underlying73 rfl rfl (k := 0) (by kernel_rfl)
theorem FI_73_1 : FI Try.prog 73 1 1 := fi_mk Try.underlying73 rfl rfl (k := 0) (by kernel_rfl)
theorem FI_73_2 : FI Try.prog 73 2 2 := fi_mk Try.underlying73 rfl rfl (k := 0) (by kernel_rfl)
theorem mixed : Try.prog.follows .mixedOrders = true := by kernel_rfl
theorem TI_24 : TI Try.prog 24 false 1 := ti_mk Try.underlying24 rfl (by kernel_rfl)
theorem TI_3 : TI Try.prog 3 false 1 := ti_mk Try.underlying3 rfl (by kernel_rfl)
theorem TI_33 : TI Try.prog 33 true 2 := ti_mk Try.underlying33 rfl (by kernel_rfl)
theorem TI_66 : TI Try.prog 66 true 6 := ti_mk Try.underlying66 rfl (by kernel_rfl)
theorem TI_69 : TI Try.prog 69 true 3 := ti_mk Try.underlying69 rfl (by kernel_rfl)
theorem TI_71 : TI Try.prog 71 true 6 := ti_mk Try.underlying71 rfl (by kernel_rfl)
theorem TI_73 : TI Try.prog 73 true 3 := ti_mk Try.underlying73 rfl (by kernel_rfl)
theorem TI_9 : TI Try.prog 9 false 1 := ti_mk Try.underlying9 rfl (by kernel_rfl)
theorem ZI_33 : ZI Try.prog 33 (.agg #[.slice none 0 0, .slice none 0 0]) := zi_mk (by kernel_rfl)
theorem ZI_66 : ZI Try.prog 66 (.agg #[.int .i64 0, .string (⟨#[]⟩ : ByteArray), .string (⟨#[]⟩ : ByteArray), .int .i64 0, .int .i64 0, .string (⟨#[]⟩ : ByteArray)]) := zi_mk (by kernel_rfl)
theorem ZI_69 : ZI Try.prog 69 (.agg #[.int .i64 0, .int .i64 0, .string (⟨#[]⟩ : ByteArray)]) := zi_mk (by kernel_rfl)
end Go.Proofs.Ytkeglhkdanenbaa
