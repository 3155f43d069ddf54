/-
  What the walks ask of the program: its types' shapes, its functions' bodies.
-/
import Derived.Test.YtkebmooffbkpgaaEng8
import Derived.Test.YtkebmooffbkpgaaNest
namespace Go.Proofs.Ytkebmooffbkpgaa
open Go.ChangeShapes Go.WideShapes Go.ChangeAt Go.RowKit
theorem BI_33 : BI Try.prog 33 [(0, 1), (1, 1)] [.slice none 0 0, .slice none 0 0] := bi_mk2 Try.underlying33 (zv := .agg #[.slice none 0 0, .slice none 0 0]) (by kernel_rfl) rfl (by kernel_rfl)
theorem CF_10 : CF Try.prog 10 := ⟨⟨_, _, Try.func10, rfl, by kernel_rfl⟩⟩
theorem CF_11 : CF Try.prog 11 := ⟨⟨_, _, Try.func11, rfl, by kernel_rfl⟩⟩
theorem CF_12 : CF Try.prog 12 := ⟨⟨_, _, Try.func12, rfl, by kernel_rfl⟩⟩
theorem CF_13 : CF Try.prog 13 := ⟨⟨_, _, Try.func13, rfl, by kernel_rfl⟩⟩
theorem CF_14 : CF Try.prog 14 := ⟨⟨_, _, Try.func14, rfl, by kernel_rfl⟩⟩
theorem CF_15 : CF Try.prog 15 := ⟨⟨_, _, Try.func15, rfl, by kernel_rfl⟩⟩
theorem CF_16 : CF Try.prog 16 := ⟨⟨_, _, Try.func16, rfl, by kernel_rfl⟩⟩
theorem CF_17 : CF Try.prog 17 := ⟨⟨_, _, Try.func17, rfl, by kernel_rfl⟩⟩
theorem CF_18 : CF Try.prog 18 := ⟨⟨_, _, Try.func18, rfl, by kernel_rfl⟩⟩
theorem CF_19 : CF Try.prog 19 := ⟨⟨_, _, Try.func19, rfl, by kernel_rfl⟩⟩
theorem CF_20 : CF Try.prog 20 := ⟨⟨_, _, Try.func20, rfl, by kernel_rfl⟩⟩
theorem CF_21 : CF Try.prog 21 := ⟨⟨_, _, Try.func21, rfl, by kernel_rfl⟩⟩
theorem CF_22 : CF Try.prog 22 := ⟨⟨_, _, Try.func22, rfl, by kernel_rfl⟩⟩
theorem CF_23 : CF Try.prog 23 := ⟨⟨_, _, Try.func23, rfl, by kernel_rfl⟩⟩
theorem CF_24 : CF Try.prog 24 := ⟨⟨_, _, Try.func24, rfl, by kernel_rfl⟩⟩
theorem CF_25 : CF Try.prog 25 := ⟨⟨_, _, Try.func25, rfl, by kernel_rfl⟩⟩
theorem CF_26 : CF Try.prog 26 := ⟨⟨_, _, Try.func26, rfl, by kernel_rfl⟩⟩
theorem CF_27 : CF Try.prog 27 := ⟨⟨_, _, Try.func27, rfl, by kernel_rfl⟩⟩
theorem CF_28 : CF Try.prog 28 := ⟨⟨_, _, Try.func28, rfl, by kernel_rfl⟩⟩
theorem CF_29 : CF Try.prog 29 := ⟨⟨_, _, Try.func29, rfl, by kernel_rfl⟩⟩
theorem CF_30 : CF Try.prog 30 := ⟨⟨_, _, Try.func30, rfl, by kernel_rfl⟩⟩
theorem CF_31 : CF Try.prog 31 := ⟨⟨_, _, Try.func31, rfl, by kernel_rfl⟩⟩
theorem CF_32 : CF Try.prog 32 := ⟨⟨_, _, Try.func32, rfl, by kernel_rfl⟩⟩
theorem CF_33 : CF Try.prog 33 := ⟨⟨_, _, Try.func33, rfl, by kernel_rfl⟩⟩
theorem CF_34 : CF Try.prog 34 := ⟨⟨_, _, Try.func34, rfl, by kernel_rfl⟩⟩
theorem CF_35 : CF Try.prog 35 := ⟨⟨_, _, Try.func35, rfl, by kernel_rfl⟩⟩
theorem CF_36 : CF Try.prog 36 := ⟨⟨_, _, Try.func36, rfl, by kernel_rfl⟩⟩
theorem CF_37 : CF Try.prog 37 := ⟨⟨_, _, Try.func37, rfl, by kernel_rfl⟩⟩
theorem CF_38 : CF Try.prog 38 := ⟨⟨_, _, Try.func38, rfl, by kernel_rfl⟩⟩
theorem CF_39 : CF Try.prog 39 := ⟨⟨_, _, Try.func39, rfl, by kernel_rfl⟩⟩
theorem CF_4 : CF Try.prog 4 := ⟨⟨_, _, Try.func4, rfl, by kernel_rfl⟩⟩
theorem CF_40 : CF Try.prog 40 := ⟨⟨_, _, Try.func40, rfl, by kernel_rfl⟩⟩
theorem CF_41 : CF Try.prog 41 := ⟨⟨_, _, Try.func41, rfl, by kernel_rfl⟩⟩
theorem CF_42 : CF Try.prog 42 := ⟨⟨_, _, Try.func42, rfl, by kernel_rfl⟩⟩
theorem CF_43 : CF Try.prog 43 := ⟨⟨_, _, Try.func43, rfl, by kernel_rfl⟩⟩
theorem CF_44 : CF Try.prog 44 := ⟨⟨_, _, Try.func44, rfl, by kernel_rfl⟩⟩
theorem CF_45 : CF Try.prog 45 := ⟨⟨_, _, Try.func45, rfl, by kernel_rfl⟩⟩
theorem CF_46 : CF Try.prog 46 := ⟨⟨_, _, Try.func46, rfl, by kernel_rfl⟩⟩
theorem CF_47 : CF Try.prog 47 := ⟨⟨_, _, Try.func47, rfl, by kernel_rfl⟩⟩
theorem CF_48 : CF Try.prog 48 := ⟨⟨_, _, Try.func48, rfl, by kernel_rfl⟩⟩
theorem CF_49 : CF Try.prog 49 := ⟨⟨_, _, Try.func49, rfl, by kernel_rfl⟩⟩
theorem CF_5 : CF Try.prog 5 := ⟨⟨_, _, Try.func5, rfl, by kernel_rfl⟩⟩
theorem CF_50 : CF Try.prog 50 := ⟨⟨_, _, Try.func50, rfl, by kernel_rfl⟩⟩
theorem CF_51 : CF Try.prog 51 := ⟨⟨_, _, Try.func51, rfl, by kernel_rfl⟩⟩
theorem CF_52 : CF Try.prog 52 := ⟨⟨_, _, Try.func52, rfl, by kernel_rfl⟩⟩
theorem CF_53 : CF Try.prog 53 := ⟨⟨_, _, Try.func53, rfl, by kernel_rfl⟩⟩
theorem CF_54 : CF Try.prog 54 := ⟨⟨_, _, Try.func54, rfl, by kernel_rfl⟩⟩
theorem CF_55 : CF Try.prog 55 := ⟨⟨_, _, Try.func55, rfl, by kernel_rfl⟩⟩
theorem CF_56 : CF Try.prog 56 := ⟨⟨_, _, Try.func56, rfl, by kernel_rfl⟩⟩
theorem CF_6 : CF Try.prog 6 := ⟨⟨_, _, Try.func6, rfl, by kernel_rfl⟩⟩
theorem CF_7 : CF Try.prog 7 := ⟨⟨_, _, Try.func7, rfl, by kernel_rfl⟩⟩
theorem CF_8 : CF Try.prog 8 := ⟨⟨_, _, Try.func8, rfl, by kernel_rfl⟩⟩
theorem CF_9 : CF Try.prog 9 := ⟨⟨_, _, Try.func9, rfl, by kernel_rfl⟩⟩
theorem ET_22 : ElemT Try.prog 22 68 (.agg #[.int .i64 0, .string ⟨#[]⟩, .string ⟨#[]⟩, .int .i64 0, .int .i64 0, .string ⟨#[]⟩]) 6 72 encK := { ht := Try.underlying22, hT := { info := by kernel_rfl, zs := rfl, pos := by decide }, hk := fun _ => rfl, h1 := by intro x u hu; simp [encK] at hu; rcases hu with rfl | rfl | rfl | rfl | rfl | rfl <;> rfl, by0 := by decide }
theorem ET_23 : ElemT Try.prog 23 70 (.agg #[.int .i64 0, .int .i64 0, .string ⟨#[]⟩]) 3 32 encR := { ht := Try.underlying23, hT := { info := by kernel_rfl, zs := rfl, pos := by decide }, hk := fun _ => rfl, h1 := by intro x u hu; simp [encR] at hu; rcases hu with rfl | rfl | rfl <;> rfl, by0 := by decide }
theorem ET_24 : ElemT Try.prog 24 9 (.string ⟨#[]⟩) 1 16 encS := { ht := Try.underlying24, hT := { info := by kernel_rfl, zs := rfl, pos := by decide }, hk := fun _ => rfl, h1 := by intro x u hu; simp [encS] at hu; subst hu; rfl, by0 := by decide }
theorem ET_27 : ElemT Try.prog 27 3 (.int .i64 0) 1 8 encI := { ht := Try.underlying27, hT := { info := by kernel_rfl, zs := rfl, pos := by decide }, hk := fun _ => rfl, h1 := by intro x u hu; simp [encI] at hu; subst hu; rfl, by0 := by decide }
theorem ET_31 : ElemT Try.prog 31 56 (.agg #[.int .i64 0, .string ⟨#[]⟩, .string ⟨#[]⟩, .int .i64 0, .int .i64 0, .string ⟨#[]⟩]) 6 72 encK := { ht := Try.underlying31, hT := { info := by kernel_rfl, zs := rfl, pos := by decide }, hk := fun _ => rfl, h1 := by intro x u hu; simp [encK] at hu; rcases hu with rfl | rfl | rfl | rfl | rfl | rfl <;> rfl, by0 := by decide }
theorem ET_32 : ElemT Try.prog 32 59 (.agg #[.int .i64 0, .int .i64 0, .string ⟨#[]⟩]) 3 32 encR := { ht := Try.underlying32, hT := { info := by kernel_rfl, zs := rfl, pos := by decide }, hk := fun _ => rfl, h1 := by intro x u hu; simp [encR] at hu; rcases hu with rfl | rfl | rfl <;> rfl, by0 := by decide }
theorem FI_26_0 : FI Try.prog 26 0 0 := fi_mk Try.underlying26 rfl rfl (k := 0) (by kernel_rfl)
theorem FI_26_1 : FI Try.prog 26 1 1 := fi_mk Try.underlying26 rfl rfl (k := 0) (by kernel_rfl)
theorem FI_29_0 : FI Try.prog 29 0 0 := fi_mk Try.underlying29 rfl rfl (k := 0) (by kernel_rfl)
theorem FI_29_1 : FI Try.prog 29 1 1 := fi_mk Try.underlying29 rfl rfl (k := 0) (by kernel_rfl)
theorem FI_29_2 : FI Try.prog 29 2 2 := fi_mk Try.underlying29 rfl rfl (k := 0) (by kernel_rfl)
theorem FI_29_3 : FI Try.prog 29 3 3 := fi_mk Try.underlying29 rfl rfl (k := 0) (by kernel_rfl)
theorem FI_29_4 : FI Try.prog 29 4 4 := fi_mk Try.underlying29 rfl rfl (k := 0) (by kernel_rfl)
theorem FI_29_5 : FI Try.prog 29 5 5 := fi_mk Try.underlying29 rfl rfl (k := 0) (by kernel_rfl)
theorem FI_29_6 : FI Try.prog 29 6 6 := fi_mk Try.underlying29 rfl rfl (k := 1) (by kernel_rfl)
theorem FI_29_7 : FI Try.prog 29 7 8 := fi_mk Try.underlying29 rfl rfl (k := 0) (by kernel_rfl)
theorem FI_29_8 : FI Try.prog 29 8 9 := fi_mk Try.underlying29 rfl rfl (k := 0) (by kernel_rfl)
theorem FI_33_0 : FI Try.prog 33 0 0 := fi_mk Try.underlying33 rfl rfl (k := 0) (by kernel_rfl)
theorem FI_33_1 : FI Try.prog 33 1 1 := fi_mk Try.underlying33 rfl rfl (k := 0) (by kernel_rfl)
theorem FI_35_0 : FI Try.prog 35 0 0 := fi_mk Try.underlying35 rfl rfl (k := 0) (by kernel_rfl)
theorem FI_35_1 : FI Try.prog 35 1 1 := fi_mk Try.underlying35 rfl rfl (k := 0) (by kernel_rfl)
theorem FI_35_2 : FI Try.prog 35 2 2 := fi_mk Try.underlying35 rfl rfl (k := 0) (by kernel_rfl)
theorem FI_35_3 : FI Try.prog 35 3 3 := fi_mk Try.underlying35 rfl rfl (k := 0) (by kernel_rfl)
theorem FI_35_4 : FI Try.prog 35 4 4 := fi_mk Try.underlying35 rfl rfl (k := 0) (by kernel_rfl)
theorem FI_35_5 : FI Try.prog 35 5 5 := fi_mk Try.underlying35 rfl rfl (k := 0) (by kernel_rfl)
theorem FI_35_6 : FI Try.prog 35 6 6 := fi_mk Try.underlying35 rfl rfl (k := 1) (by kernel_rfl)
theorem FI_35_7 : FI Try.prog 35 7 8 := fi_mk Try.underlying35 rfl rfl (k := 0) (by kernel_rfl)
theorem FI_35_8 : FI Try.prog 35 8 9 := fi_mk Try.underlying35 rfl rfl (k := 0) (by kernel_rfl)
theorem FI_56_0 : FI Try.prog 56 0 0 := fi_mk Try.underlying56 rfl rfl (k := 0) (by kernel_rfl)
theorem FI_56_1 : FI Try.prog 56 1 1 := fi_mk Try.underlying56 rfl rfl (k := 0) (by kernel_rfl)
theorem FI_56_2 : FI Try.prog 56 2 2 := fi_mk Try.underlying56 rfl rfl (k := 0) (by kernel_rfl)
theorem FI_56_3 : FI Try.prog 56 3 3 := fi_mk Try.underlying56 rfl rfl (k := 0) (by kernel_rfl)
theorem FI_56_4 : FI Try.prog 56 4 4 := fi_mk Try.underlying56 rfl rfl (k := 0) (by kernel_rfl)
theorem FI_56_5 : FI Try.prog 56 5 5 := fi_mk Try.underlying56 rfl rfl (k := 0) (by kernel_rfl)
theorem FI_59_0 : FI Try.prog 59 0 0 := fi_mk Try.underlying59 rfl rfl (k := 0) (by kernel_rfl)
theorem FI_59_1 : FI Try.prog 59 1 1 := fi_mk Try.underlying59 rfl rfl (k := 0) (by kernel_rfl)
theorem FI_59_2 : FI Try.prog 59 2 2 := fi_mk Try.underlying59 rfl rfl (k := 0) (by kernel_rfl)
theorem FI_68_0 : FI Try.prog 68 0 0 := fi_mk Try.underlying68 rfl rfl (k := 0) (by kernel_rfl)
theorem FI_68_1 : FI Try.prog 68 1 1 := fi_mk Try.underlying68 rfl rfl (k := 0) (by kernel_rfl)
theorem FI_68_2 : FI Try.prog 68 2 2 := fi_mk Try.underlying68 rfl rfl (k := 0) (by kernel_rfl)
theorem FI_68_3 : FI Try.prog 68 3 3 := fi_mk Try.underlying68 rfl rfl (k := 0) (by kernel_rfl)
theorem FI_68_4 : FI Try.prog 68 4 4 := fi_mk Try.underlying68 rfl rfl (k := 0) (by kernel_rfl)
theorem FI_68_5 : FI Try.prog 68 5 5 := fi_mk Try.underlying68 rfl rfl (k := 0) (by kernel_rfl)
theorem FI_70_0 : FI Try.prog 70 0 0 := fi_mk Try.underlying70 rfl rfl (k := 0) (by kernel_rfl)
theorem FI_70_1 : FI Try.prog 70 1 1 := fi_mk Try.underlying70 rfl rfl (k := 0) (by kernel_rfl)
theorem FI_70_2 : FI Try.prog 70 2 2 := fi_mk Try.underlying70 rfl rfl (k := 0) (by kernel_rfl)
theorem mixed : Try.prog.follows .mixedOrders = true := by kernel_rfl
theorem TI_22 : TI Try.prog 22 false 1 := ti_mk Try.underlying22 rfl (by kernel_rfl)
theorem TI_23 : TI Try.prog 23 false 1 := ti_mk Try.underlying23 rfl (by kernel_rfl)
theorem TI_24 : TI Try.prog 24 false 1 := ti_mk Try.underlying24 rfl (by kernel_rfl)
theorem TI_26 : TI Try.prog 26 true 2 := ti_mk Try.underlying26 rfl (by kernel_rfl)
theorem TI_27 : TI Try.prog 27 false 1 := ti_mk Try.underlying27 rfl (by kernel_rfl)
theorem TI_29 : TI Try.prog 29 true 10 := ti_mk Try.underlying29 rfl (by kernel_rfl)
theorem TI_3 : TI Try.prog 3 false 1 := ti_mk Try.underlying3 rfl (by kernel_rfl)
theorem TI_31 : TI Try.prog 31 false 1 := ti_mk Try.underlying31 rfl (by kernel_rfl)
theorem TI_32 : TI Try.prog 32 false 1 := ti_mk Try.underlying32 rfl (by kernel_rfl)
theorem TI_33 : TI Try.prog 33 true 2 := ti_mk Try.underlying33 rfl (by kernel_rfl)
theorem TI_35 : TI Try.prog 35 true 10 := ti_mk Try.underlying35 rfl (by kernel_rfl)
theorem TI_56 : TI Try.prog 56 true 6 := ti_mk Try.underlying56 rfl (by kernel_rfl)
theorem TI_59 : TI Try.prog 59 true 3 := ti_mk Try.underlying59 rfl (by kernel_rfl)
theorem TI_68 : TI Try.prog 68 true 6 := ti_mk Try.underlying68 rfl (by kernel_rfl)
theorem TI_70 : TI Try.prog 70 true 3 := ti_mk Try.underlying70 rfl (by kernel_rfl)
theorem TI_9 : TI Try.prog 9 false 1 := ti_mk Try.underlying9 rfl (by kernel_rfl)
theorem ZI_33 : ZI Try.prog 33 (.agg #[.slice none 0 0, .slice none 0 0]) := zi_mk (by kernel_rfl)
theorem ZI_35 : ZI Try.prog 35 (.agg #[.int .i64 0, .int .i64 0, .int .i64 0, .int .i64 0, .slice none 0 0, .slice none 0 0, .slice none 0 0, .slice none 0 0, .slice none 0 0, .int .i64 0]) := zi_mk (by kernel_rfl)
theorem ZI_56 : ZI Try.prog 56 (.agg #[.int .i64 0, .string (⟨#[]⟩ : ByteArray), .string (⟨#[]⟩ : ByteArray), .int .i64 0, .int .i64 0, .string (⟨#[]⟩ : ByteArray)]) := zi_mk (by kernel_rfl)
theorem ZI_59 : ZI Try.prog 59 (.agg #[.int .i64 0, .int .i64 0, .string (⟨#[]⟩ : ByteArray)]) := zi_mk (by kernel_rfl)
end Go.Proofs.Ytkebmooffbkpgaa
