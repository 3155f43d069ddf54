/-
  What the walks ask of the program: its types' shapes, its functions' bodies.
-/
import Derived.Test.YtibgmijfnbnfkaaDoorEng8
namespace Go.Proofs.YtibgmijfnbnfkaaDoor
open Go.ChangeShapes Go.WideShapes Go.ChangeAt Go.RowKit
def encI (n : Int) : List Value := [.int .i64 n]
def okI (n : Int) : Prop := i64ok n
theorem BI_29 : BI Tryd.prog 29 [(0, 1), (1, 1)] [.slice none 0 0, .slice none 0 0] := bi_mk2 Tryd.underlying29 (zv := .agg #[.slice none 0 0, .slice none 0 0]) (by kernel_rfl) rfl (by kernel_rfl)
theorem BI_31 : BI Tryd.prog 31 [(0, 1), (1, 2)] [.slice none 0 0, .slice none 0 0, .slice none 0 0] := bi_mk2 Tryd.underlying31 (zv := .agg #[.slice none 0 0, .slice none 0 0, .slice none 0 0]) (by kernel_rfl) rfl (by kernel_rfl)
theorem BI_53 : BI Tryd.prog 53 [(0, 1), (1, 1)] [.string (⟨#[]⟩ : ByteArray), .string (⟨#[]⟩ : ByteArray)] := bi_mk2 Tryd.underlying53 (zv := .agg #[.string (⟨#[]⟩ : ByteArray), .string (⟨#[]⟩ : ByteArray)]) (by kernel_rfl) rfl (by kernel_rfl)
theorem BI_57 : BI Tryd.prog 57 [(0, 1), (1, 1), (2, 1)] [.slice none 0 0, .int .i64 0, .int .i64 0] := bi_mk2 Tryd.underlying57 (zv := .agg #[.slice none 0 0, .int .i64 0, .int .i64 0]) (by kernel_rfl) rfl (by kernel_rfl)
theorem CF_16 : CF Tryd.prog 16 := ⟨⟨_, _, Tryd.func16, rfl, by kernel_rfl⟩⟩
theorem CF_19 : CF Tryd.prog 19 := ⟨⟨_, _, Tryd.func19, rfl, by kernel_rfl⟩⟩
theorem CF_20 : CF Tryd.prog 20 := ⟨⟨_, _, Tryd.func20, rfl, by kernel_rfl⟩⟩
theorem CF_21 : CF Tryd.prog 21 := ⟨⟨_, _, Tryd.func21, rfl, by kernel_rfl⟩⟩
theorem CF_23 : CF Tryd.prog 23 := ⟨⟨_, _, Tryd.func23, rfl, by kernel_rfl⟩⟩
theorem CF_24 : CF Tryd.prog 24 := ⟨⟨_, _, Tryd.func24, rfl, by kernel_rfl⟩⟩
theorem CF_25 : CF Tryd.prog 25 := ⟨⟨_, _, Tryd.func25, rfl, by kernel_rfl⟩⟩
theorem CF_26 : CF Tryd.prog 26 := ⟨⟨_, _, Tryd.func26, rfl, by kernel_rfl⟩⟩
theorem CF_27 : CF Tryd.prog 27 := ⟨⟨_, _, Tryd.func27, rfl, by kernel_rfl⟩⟩
theorem CF_29 : CF Tryd.prog 29 := ⟨⟨_, _, Tryd.func29, rfl, by kernel_rfl⟩⟩
theorem CF_31 : CF Tryd.prog 31 := ⟨⟨_, _, Tryd.func31, rfl, by kernel_rfl⟩⟩
theorem CF_32 : CF Tryd.prog 32 := ⟨⟨_, _, Tryd.func32, rfl, by kernel_rfl⟩⟩
theorem CF_33 : CF Tryd.prog 33 := ⟨⟨_, _, Tryd.func33, rfl, by kernel_rfl⟩⟩
theorem CF_34 : CF Tryd.prog 34 := ⟨⟨_, _, Tryd.func34, rfl, by kernel_rfl⟩⟩
theorem CF_35 : CF Tryd.prog 35 := ⟨⟨_, _, Tryd.func35, rfl, by kernel_rfl⟩⟩
theorem CF_36 : CF Tryd.prog 36 := ⟨⟨_, _, Tryd.func36, rfl, by kernel_rfl⟩⟩
theorem CF_39 : CF Tryd.prog 39 := ⟨⟨_, _, Tryd.func39, rfl, by kernel_rfl⟩⟩
theorem CF_40 : CF Tryd.prog 40 := ⟨⟨_, _, Tryd.func40, rfl, by kernel_rfl⟩⟩
theorem CF_41 : CF Tryd.prog 41 := ⟨⟨_, _, Tryd.func41, rfl, by kernel_rfl⟩⟩
theorem CF_42 : CF Tryd.prog 42 := ⟨⟨_, _, Tryd.func42, rfl, by kernel_rfl⟩⟩
theorem CF_44 : CF Tryd.prog 44 := ⟨⟨_, _, Tryd.func44, rfl, by kernel_rfl⟩⟩
theorem CF_45 : CF Tryd.prog 45 := ⟨⟨_, _, Tryd.func45, rfl, by kernel_rfl⟩⟩
theorem CF_46 : CF Tryd.prog 46 := ⟨⟨_, _, Tryd.func46, rfl, by kernel_rfl⟩⟩
theorem CF_47 : CF Tryd.prog 47 := ⟨⟨_, _, Tryd.func47, rfl, by kernel_rfl⟩⟩
theorem CF_48 : CF Tryd.prog 48 := ⟨⟨_, _, Tryd.func48, rfl, by kernel_rfl⟩⟩
theorem CF_49 : CF Tryd.prog 49 := ⟨⟨_, _, Tryd.func49, rfl, by kernel_rfl⟩⟩
theorem CF_50 : CF Tryd.prog 50 := ⟨⟨_, _, Tryd.func50, rfl, by kernel_rfl⟩⟩
theorem CF_51 : CF Tryd.prog 51 := ⟨⟨_, _, Tryd.func51, rfl, by kernel_rfl⟩⟩
theorem CF_56 : CF Tryd.prog 56 := ⟨⟨_, _, Tryd.func56, rfl, by kernel_rfl⟩⟩
theorem CF_57 : CF Tryd.prog 57 := ⟨⟨_, _, Tryd.func57, rfl, by kernel_rfl⟩⟩
theorem CF_58 : CF Tryd.prog 58 := ⟨⟨_, _, Tryd.func58, rfl, by kernel_rfl⟩⟩
theorem CF_59 : CF Tryd.prog 59 := ⟨⟨_, _, Tryd.func59, rfl, by kernel_rfl⟩⟩
theorem CF_60 : CF Tryd.prog 60 := ⟨⟨_, _, Tryd.func60, rfl, by kernel_rfl⟩⟩
theorem CF_61 : CF Tryd.prog 61 := ⟨⟨_, _, Tryd.func61, rfl, by kernel_rfl⟩⟩
theorem CF_62 : CF Tryd.prog 62 := ⟨⟨_, _, Tryd.func62, rfl, by kernel_rfl⟩⟩
theorem CF_63 : CF Tryd.prog 63 := ⟨⟨_, _, Tryd.func63, rfl, by kernel_rfl⟩⟩
theorem CF_78 : CF Tryd.prog 78 := ⟨⟨_, _, Tryd.func78, rfl, by kernel_rfl⟩⟩
theorem ET_22 : ElemT Tryd.prog 22 5 (.int .u8 0) 1 1 encB := { ht := Tryd.underlying22, hT := { info := by kernel_rfl, zs := rfl, pos := by decide }, hk := fun _ => rfl, h1 := by intro x u hu; simp [encB] at hu; subst hu; rfl, by0 := by decide }
theorem ET_24 : ElemT Tryd.prog 24 3 (.int .i64 0) 1 8 encI := { ht := Tryd.underlying24, hT := { info := by kernel_rfl, zs := rfl, pos := by decide }, hk := fun _ => rfl, h1 := by intro x u hu; simp [encI] at hu; subst hu; rfl, by0 := by decide }
theorem ET_26 : ElemT Tryd.prog 26 53 (.agg #[.string ⟨#[]⟩, .string ⟨#[]⟩]) 2 32 encC := { ht := Tryd.underlying26, hT := { info := by kernel_rfl, zs := rfl, pos := by decide }, hk := fun _ => rfl, h1 := by intro x u hu; simp [encC] at hu; rcases hu with rfl | rfl <;> rfl, by0 := by decide }
theorem ET_27 : ElemT Tryd.prog 27 9 (.string ⟨#[]⟩) 1 16 encS := { ht := Tryd.underlying27, hT := { info := by kernel_rfl, zs := rfl, pos := by decide }, hk := fun _ => rfl, h1 := by intro x u hu; simp [encS] at hu; subst hu; rfl, by0 := by decide }
theorem FI_29_0 : FI Tryd.prog 29 0 0 := fi_mk Tryd.underlying29 rfl rfl (k := 0) (by kernel_rfl)
theorem FI_29_1 : FI Tryd.prog 29 1 1 := fi_mk Tryd.underlying29 rfl rfl (k := 0) (by kernel_rfl)
theorem FI_31_0 : FI Tryd.prog 31 0 0 := fi_mk Tryd.underlying31 rfl rfl (k := 0) (by kernel_rfl)
theorem FI_31_1 : FI Tryd.prog 31 1 1 := fi_mk Tryd.underlying31 rfl rfl (k := 1) (by kernel_rfl)
theorem FI_53_0 : FI Tryd.prog 53 0 0 := fi_mk Tryd.underlying53 rfl rfl (k := 0) (by kernel_rfl)
theorem FI_53_1 : FI Tryd.prog 53 1 1 := fi_mk Tryd.underlying53 rfl rfl (k := 0) (by kernel_rfl)
theorem FI_57_0 : FI Tryd.prog 57 0 0 := fi_mk Tryd.underlying57 rfl rfl (k := 0) (by kernel_rfl)
theorem FI_57_1 : FI Tryd.prog 57 1 1 := fi_mk Tryd.underlying57 rfl rfl (k := 0) (by kernel_rfl)
theorem FI_57_2 : FI Tryd.prog 57 2 2 := fi_mk Tryd.underlying57 rfl rfl (k := 0) (by kernel_rfl)
theorem mixed : Tryd.prog.follows .mixedOrders = true := by kernel_rfl
theorem TI_22 : TI Tryd.prog 22 false 1 := ti_mk Tryd.underlying22 rfl (by kernel_rfl)
theorem TI_26 : TI Tryd.prog 26 false 1 := ti_mk Tryd.underlying26 rfl (by kernel_rfl)
theorem TI_27 : TI Tryd.prog 27 false 1 := ti_mk Tryd.underlying27 rfl (by kernel_rfl)
theorem TI_29 : TI Tryd.prog 29 true 2 := ti_mk Tryd.underlying29 rfl (by kernel_rfl)
theorem TI_3 : TI Tryd.prog 3 false 1 := ti_mk Tryd.underlying3 rfl (by kernel_rfl)
theorem TI_31 : TI Tryd.prog 31 true 3 := ti_mk Tryd.underlying31 rfl (by kernel_rfl)
theorem TI_5 : TI Tryd.prog 5 false 1 := ti_mk Tryd.underlying5 rfl (by kernel_rfl)
theorem TI_53 : TI Tryd.prog 53 true 2 := ti_mk Tryd.underlying53 rfl (by kernel_rfl)
theorem TI_9 : TI Tryd.prog 9 false 1 := ti_mk Tryd.underlying9 rfl (by kernel_rfl)
theorem ZI_29 : ZI Tryd.prog 29 (.agg #[.slice none 0 0, .slice none 0 0]) := zi_mk (by kernel_rfl)
theorem ZI_31 : ZI Tryd.prog 31 (.agg #[.slice none 0 0, .slice none 0 0, .slice none 0 0]) := zi_mk (by kernel_rfl)
theorem ZI_53 : ZI Tryd.prog 53 (.agg #[.string (⟨#[]⟩ : ByteArray), .string (⟨#[]⟩ : ByteArray)]) := zi_mk (by kernel_rfl)
end Go.Proofs.YtibgmijfnbnfkaaDoor
