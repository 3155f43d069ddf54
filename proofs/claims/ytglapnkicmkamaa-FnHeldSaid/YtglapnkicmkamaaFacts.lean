/-
  What the walks ask of the program: its types' shapes, its functions' bodies.
-/
import Derived.Test.YtglapnkicmkamaaEng8
import Derived.Test.YtglapnkicmkamaaTouch2
namespace Go.Proofs.Ytglapnkicmkamaa
open Go.ChangeShapes Go.WideShapes Go.ChangeAt Go.RowKit
def encI (n : Int) : List Value := [.int .i64 n]
def okI (n : Int) : Prop := i64ok n
structure CallD where
  kind : Int
  name : ByteArray
  to_ : ByteArray
  a : Int
  b : Int
  text : ByteArray
def encK (c : CallD) : List Value := [.int .i64 c.kind, .string c.name, .string c.to_, .int .i64 c.a, .int .i64 c.b, .string c.text]
def okK (c : CallD) : Prop := i64ok c.kind ∧ okS c.name ∧ okS c.to_ ∧ i64ok c.a ∧ i64ok c.b ∧ okS c.text
structure AnsD where
  code : Int
  n : Int
  text : ByteArray
def encR (c : AnsD) : List Value := [.int .i64 c.code, .int .i64 c.n, .string c.text]
def okR (c : AnsD) : Prop := i64ok c.code ∧ i64ok c.n ∧ okS c.text
structure TxD where
  id : Int
  age : Int
  proc : Int
  began : Int
  calls : List CallD
  answers : List AnsD
  touch : TouchD
  marks : List Int
  state : Int
/-- A transaction that has no lists (of encK, of encR). -/
def encT (x : TxD) : List Value := [.int .i64 x.id, .int .i64 x.age, .int .i64 x.proc, .int .i64 x.began, .slice none 0 0, .slice none 0 0, .slice none 0 0, .slice none 0 0, .slice none 0 0, .int .i64 x.state]
def okT (x : TxD) : Prop := i64ok x.id ∧ i64ok x.age ∧ i64ok x.proc ∧ i64ok x.began ∧ i64ok x.state
theorem BI_33 : BI Try.prog 33 [(0, 1), (1, 1), (2, 1), (3, 1), (4, 1), (5, 1), (6, 2), (8, 1), (9, 1)] [.int .i64 0, .int .i64 0, .int .i64 0, .int .i64 0, .slice none 0 0, .slice none 0 0, .slice none 0 0, .slice none 0 0, .slice none 0 0, .int .i64 0] := bi_mk2 Try.underlying33 (zv := .agg #[.int .i64 0, .int .i64 0, .int .i64 0, .int .i64 0, .slice none 0 0, .slice none 0 0, .slice none 0 0, .slice none 0 0, .slice none 0 0, .int .i64 0]) (by kernel_rfl) rfl (by kernel_rfl)
theorem BI_35 : BI Try.prog 35 [(0, 1), (1, 1)] [.string (⟨#[]⟩ : ByteArray), .int .i64 0] := bi_mk2 Try.underlying35 (zv := .agg #[.string (⟨#[]⟩ : ByteArray), .int .i64 0]) (by kernel_rfl) rfl (by kernel_rfl)
theorem BI_47 : BI Try.prog 47 [(0, 1), (1, 1), (2, 1)] [.slice none 0 0, .int .i64 0, .int .i64 0] := bi_mk2 Try.underlying47 (zv := .agg #[.slice none 0 0, .int .i64 0, .int .i64 0]) (by kernel_rfl) rfl (by kernel_rfl)
theorem CF_10 : CF Try.prog 10 := ⟨⟨_, _, Try.func10, rfl, by kernel_rfl⟩⟩
theorem CF_11 : CF Try.prog 11 := ⟨⟨_, _, Try.func11, rfl, by kernel_rfl⟩⟩
theorem CF_12 : CF Try.prog 12 := ⟨⟨_, _, Try.func12, rfl, by kernel_rfl⟩⟩
theorem CF_13 : CF Try.prog 13 := ⟨⟨_, _, Try.func13, rfl, by kernel_rfl⟩⟩
theorem CF_14 : CF Try.prog 14 := ⟨⟨_, _, Try.func14, rfl, by kernel_rfl⟩⟩
theorem CF_15 : CF Try.prog 15 := ⟨⟨_, _, Try.func15, rfl, by kernel_rfl⟩⟩
theorem CF_16 : CF Try.prog 16 := ⟨⟨_, _, Try.func16, rfl, by kernel_rfl⟩⟩
theorem CF_17 : CF Try.prog 17 := ⟨⟨_, _, Try.func17, rfl, by kernel_rfl⟩⟩
theorem CF_18 : CF Try.prog 18 := ⟨⟨_, _, Try.func18, rfl, by kernel_rfl⟩⟩
theorem CF_4 : CF Try.prog 4 := ⟨⟨_, _, Try.func4, rfl, by kernel_rfl⟩⟩
theorem CF_5 : CF Try.prog 5 := ⟨⟨_, _, Try.func5, rfl, by kernel_rfl⟩⟩
theorem CF_6 : CF Try.prog 6 := ⟨⟨_, _, Try.func6, rfl, by kernel_rfl⟩⟩
theorem CF_7 : CF Try.prog 7 := ⟨⟨_, _, Try.func7, rfl, by kernel_rfl⟩⟩
theorem CF_8 : CF Try.prog 8 := ⟨⟨_, _, Try.func8, rfl, by kernel_rfl⟩⟩
theorem CF_9 : CF Try.prog 9 := ⟨⟨_, _, Try.func9, rfl, by kernel_rfl⟩⟩
theorem ET_22 : ElemT Try.prog 22 5 (.int .u8 0) 1 1 encB := { ht := Try.underlying22, hT := { info := by kernel_rfl, zs := rfl, pos := by decide }, hk := fun _ => rfl, h1 := by intro x u hu; simp [encB] at hu; subst hu; rfl, by0 := by decide }
theorem ET_24 : ElemT Try.prog 24 3 (.int .i64 0) 1 8 encI := { ht := Try.underlying24, hT := { info := by kernel_rfl, zs := rfl, pos := by decide }, hk := fun _ => rfl, h1 := by intro x u hu; simp [encI] at hu; subst hu; rfl, by0 := by decide }
theorem ET_26 : ElemT Try.prog 26 33 (.agg #[.int .i64 0, .int .i64 0, .int .i64 0, .int .i64 0, .slice none 0 0, .slice none 0 0, .slice none 0 0, .slice none 0 0, .slice none 0 0, .int .i64 0]) 10 160 encT := { ht := Try.underlying26, hT := { info := by kernel_rfl, zs := rfl, pos := by decide }, hk := fun _ => rfl, h1 := by intro x u hu; unfold encT at hu; simp only [List.mem_cons, List.not_mem_nil, or_false] at hu; rcases hu with rfl | rfl | rfl | rfl | rfl | rfl | rfl | rfl | rfl | rfl <;> rfl, by0 := by decide }
theorem FI_33_0 : FI Try.prog 33 0 0 := fi_mk Try.underlying33 rfl rfl (k := 0) (by kernel_rfl)
theorem FI_33_8 : FI Try.prog 33 8 9 := fi_mk Try.underlying33 rfl rfl (k := 0) (by kernel_rfl)
theorem FI_35_0 : FI Try.prog 35 0 0 := fi_mk Try.underlying35 rfl rfl (k := 0) (by kernel_rfl)
theorem FI_35_1 : FI Try.prog 35 1 1 := fi_mk Try.underlying35 rfl rfl (k := 0) (by kernel_rfl)
theorem FI_47_0 : FI Try.prog 47 0 0 := fi_mk Try.underlying47 rfl rfl (k := 0) (by kernel_rfl)
theorem FI_47_1 : FI Try.prog 47 1 1 := fi_mk Try.underlying47 rfl rfl (k := 0) (by kernel_rfl)
theorem FI_47_2 : FI Try.prog 47 2 2 := fi_mk Try.underlying47 rfl rfl (k := 0) (by kernel_rfl)
theorem mixed : Try.prog.follows .mixedOrders = true := by kernel_rfl
theorem TI_22 : TI Try.prog 22 false 1 := ti_mk Try.underlying22 rfl (by kernel_rfl)
theorem TI_3 : TI Try.prog 3 false 1 := ti_mk Try.underlying3 rfl (by kernel_rfl)
theorem TI_33 : TI Try.prog 33 true 10 := ti_mk Try.underlying33 rfl (by kernel_rfl)
theorem TI_35 : TI Try.prog 35 true 2 := ti_mk Try.underlying35 rfl (by kernel_rfl)
theorem TI_5 : TI Try.prog 5 false 1 := ti_mk Try.underlying5 rfl (by kernel_rfl)
theorem TI_9 : TI Try.prog 9 false 1 := ti_mk Try.underlying9 rfl (by kernel_rfl)
theorem ZI_33 : ZI Try.prog 33 (.agg #[.int .i64 0, .int .i64 0, .int .i64 0, .int .i64 0, .slice none 0 0, .slice none 0 0, .slice none 0 0, .slice none 0 0, .slice none 0 0, .int .i64 0]) := zi_mk (by kernel_rfl)
theorem ZI_35 : ZI Try.prog 35 (.agg #[.string (⟨#[]⟩ : ByteArray), .int .i64 0]) := zi_mk (by kernel_rfl)
end Go.Proofs.Ytglapnkicmkamaa
