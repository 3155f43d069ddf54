/-
  What the walks ask of the program: its types' shapes, its functions' bodies.
-/
import Derived.Test.YtgfilegkabbliaaGreatEng8
import Derived.Test.YtgfilegkabbliaaGreatNest
namespace Go.Proofs.YtgfilegkabbliaaGreat
open Go.ChangeShapes Go.WideShapes Go.ChangeAt Go.RowKit
theorem CF_10 : CF Tryz.prog 10 := ⟨⟨_, _, Tryz.func10, rfl, by kernel_rfl⟩⟩
theorem CF_100 : CF Tryz.prog 100 := ⟨⟨_, _, Tryz.func100, rfl, by kernel_rfl⟩⟩
theorem CF_11 : CF Tryz.prog 11 := ⟨⟨_, _, Tryz.func11, rfl, by kernel_rfl⟩⟩
theorem CF_12 : CF Tryz.prog 12 := ⟨⟨_, _, Tryz.func12, rfl, by kernel_rfl⟩⟩
theorem CF_13 : CF Tryz.prog 13 := ⟨⟨_, _, Tryz.func13, rfl, by kernel_rfl⟩⟩
theorem CF_14 : CF Tryz.prog 14 := ⟨⟨_, _, Tryz.func14, rfl, by kernel_rfl⟩⟩
theorem CF_15 : CF Tryz.prog 15 := ⟨⟨_, _, Tryz.func15, rfl, by kernel_rfl⟩⟩
theorem CF_16 : CF Tryz.prog 16 := ⟨⟨_, _, Tryz.func16, rfl, by kernel_rfl⟩⟩
theorem CF_17 : CF Tryz.prog 17 := ⟨⟨_, _, Tryz.func17, rfl, by kernel_rfl⟩⟩
theorem CF_18 : CF Tryz.prog 18 := ⟨⟨_, _, Tryz.func18, rfl, by kernel_rfl⟩⟩
theorem CF_19 : CF Tryz.prog 19 := ⟨⟨_, _, Tryz.func19, rfl, by kernel_rfl⟩⟩
theorem CF_20 : CF Tryz.prog 20 := ⟨⟨_, _, Tryz.func20, rfl, by kernel_rfl⟩⟩
theorem CF_21 : CF Tryz.prog 21 := ⟨⟨_, _, Tryz.func21, rfl, by kernel_rfl⟩⟩
theorem CF_22 : CF Tryz.prog 22 := ⟨⟨_, _, Tryz.func22, rfl, by kernel_rfl⟩⟩
theorem CF_23 : CF Tryz.prog 23 := ⟨⟨_, _, Tryz.func23, rfl, by kernel_rfl⟩⟩
theorem CF_24 : CF Tryz.prog 24 := ⟨⟨_, _, Tryz.func24, rfl, by kernel_rfl⟩⟩
theorem CF_25 : CF Tryz.prog 25 := ⟨⟨_, _, Tryz.func25, rfl, by kernel_rfl⟩⟩
theorem CF_26 : CF Tryz.prog 26 := ⟨⟨_, _, Tryz.func26, rfl, by kernel_rfl⟩⟩
theorem CF_27 : CF Tryz.prog 27 := ⟨⟨_, _, Tryz.func27, rfl, by kernel_rfl⟩⟩
theorem CF_28 : CF Tryz.prog 28 := ⟨⟨_, _, Tryz.func28, rfl, by kernel_rfl⟩⟩
theorem CF_29 : CF Tryz.prog 29 := ⟨⟨_, _, Tryz.func29, rfl, by kernel_rfl⟩⟩
theorem CF_30 : CF Tryz.prog 30 := ⟨⟨_, _, Tryz.func30, rfl, by kernel_rfl⟩⟩
theorem CF_31 : CF Tryz.prog 31 := ⟨⟨_, _, Tryz.func31, rfl, by kernel_rfl⟩⟩
theorem CF_32 : CF Tryz.prog 32 := ⟨⟨_, _, Tryz.func32, rfl, by kernel_rfl⟩⟩
theorem CF_33 : CF Tryz.prog 33 := ⟨⟨_, _, Tryz.func33, rfl, by kernel_rfl⟩⟩
theorem CF_35 : CF Tryz.prog 35 := ⟨⟨_, _, Tryz.func35, rfl, by kernel_rfl⟩⟩
theorem CF_36 : CF Tryz.prog 36 := ⟨⟨_, _, Tryz.func36, rfl, by kernel_rfl⟩⟩
theorem CF_37 : CF Tryz.prog 37 := ⟨⟨_, _, Tryz.func37, rfl, by kernel_rfl⟩⟩
theorem CF_38 : CF Tryz.prog 38 := ⟨⟨_, _, Tryz.func38, rfl, by kernel_rfl⟩⟩
theorem CF_39 : CF Tryz.prog 39 := ⟨⟨_, _, Tryz.func39, rfl, by kernel_rfl⟩⟩
theorem CF_4 : CF Tryz.prog 4 := ⟨⟨_, _, Tryz.func4, rfl, by kernel_rfl⟩⟩
theorem CF_40 : CF Tryz.prog 40 := ⟨⟨_, _, Tryz.func40, rfl, by kernel_rfl⟩⟩
theorem CF_41 : CF Tryz.prog 41 := ⟨⟨_, _, Tryz.func41, rfl, by kernel_rfl⟩⟩
theorem CF_42 : CF Tryz.prog 42 := ⟨⟨_, _, Tryz.func42, rfl, by kernel_rfl⟩⟩
theorem CF_44 : CF Tryz.prog 44 := ⟨⟨_, _, Tryz.func44, rfl, by kernel_rfl⟩⟩
theorem CF_45 : CF Tryz.prog 45 := ⟨⟨_, _, Tryz.func45, rfl, by kernel_rfl⟩⟩
theorem CF_46 : CF Tryz.prog 46 := ⟨⟨_, _, Tryz.func46, rfl, by kernel_rfl⟩⟩
theorem CF_47 : CF Tryz.prog 47 := ⟨⟨_, _, Tryz.func47, rfl, by kernel_rfl⟩⟩
theorem CF_48 : CF Tryz.prog 48 := ⟨⟨_, _, Tryz.func48, rfl, by kernel_rfl⟩⟩
theorem CF_49 : CF Tryz.prog 49 := ⟨⟨_, _, Tryz.func49, rfl, by kernel_rfl⟩⟩
theorem CF_5 : CF Tryz.prog 5 := ⟨⟨_, _, Tryz.func5, rfl, by kernel_rfl⟩⟩
theorem CF_50 : CF Tryz.prog 50 := ⟨⟨_, _, Tryz.func50, rfl, by kernel_rfl⟩⟩
theorem CF_51 : CF Tryz.prog 51 := ⟨⟨_, _, Tryz.func51, rfl, by kernel_rfl⟩⟩
theorem CF_52 : CF Tryz.prog 52 := ⟨⟨_, _, Tryz.func52, rfl, by kernel_rfl⟩⟩
theorem CF_54 : CF Tryz.prog 54 := ⟨⟨_, _, Tryz.func54, rfl, by kernel_rfl⟩⟩
theorem CF_55 : CF Tryz.prog 55 := ⟨⟨_, _, Tryz.func55, rfl, by kernel_rfl⟩⟩
theorem CF_56 : CF Tryz.prog 56 := ⟨⟨_, _, Tryz.func56, rfl, by kernel_rfl⟩⟩
theorem CF_57 : CF Tryz.prog 57 := ⟨⟨_, _, Tryz.func57, rfl, by kernel_rfl⟩⟩
theorem CF_58 : CF Tryz.prog 58 := ⟨⟨_, _, Tryz.func58, rfl, by kernel_rfl⟩⟩
theorem CF_59 : CF Tryz.prog 59 := ⟨⟨_, _, Tryz.func59, rfl, by kernel_rfl⟩⟩
theorem CF_6 : CF Tryz.prog 6 := ⟨⟨_, _, Tryz.func6, rfl, by kernel_rfl⟩⟩
theorem CF_60 : CF Tryz.prog 60 := ⟨⟨_, _, Tryz.func60, rfl, by kernel_rfl⟩⟩
theorem CF_61 : CF Tryz.prog 61 := ⟨⟨_, _, Tryz.func61, rfl, by kernel_rfl⟩⟩
theorem CF_62 : CF Tryz.prog 62 := ⟨⟨_, _, Tryz.func62, rfl, by kernel_rfl⟩⟩
theorem CF_63 : CF Tryz.prog 63 := ⟨⟨_, _, Tryz.func63, rfl, by kernel_rfl⟩⟩
theorem CF_64 : CF Tryz.prog 64 := ⟨⟨_, _, Tryz.func64, rfl, by kernel_rfl⟩⟩
theorem CF_65 : CF Tryz.prog 65 := ⟨⟨_, _, Tryz.func65, rfl, by kernel_rfl⟩⟩
theorem CF_66 : CF Tryz.prog 66 := ⟨⟨_, _, Tryz.func66, rfl, by kernel_rfl⟩⟩
theorem CF_67 : CF Tryz.prog 67 := ⟨⟨_, _, Tryz.func67, rfl, by kernel_rfl⟩⟩
theorem CF_68 : CF Tryz.prog 68 := ⟨⟨_, _, Tryz.func68, rfl, by kernel_rfl⟩⟩
theorem CF_69 : CF Tryz.prog 69 := ⟨⟨_, _, Tryz.func69, rfl, by kernel_rfl⟩⟩
theorem CF_7 : CF Tryz.prog 7 := ⟨⟨_, _, Tryz.func7, rfl, by kernel_rfl⟩⟩
theorem CF_70 : CF Tryz.prog 70 := ⟨⟨_, _, Tryz.func70, rfl, by kernel_rfl⟩⟩
theorem CF_71 : CF Tryz.prog 71 := ⟨⟨_, _, Tryz.func71, rfl, by kernel_rfl⟩⟩
theorem CF_72 : CF Tryz.prog 72 := ⟨⟨_, _, Tryz.func72, rfl, by kernel_rfl⟩⟩
theorem CF_73 : CF Tryz.prog 73 := ⟨⟨_, _, Tryz.func73, rfl, by kernel_rfl⟩⟩
theorem CF_74 : CF Tryz.prog 74 := ⟨⟨_, _, Tryz.func74, rfl, by kernel_rfl⟩⟩
theorem CF_75 : CF Tryz.prog 75 := ⟨⟨_, _, Tryz.func75, rfl, by kernel_rfl⟩⟩
theorem CF_76 : CF Tryz.prog 76 := ⟨⟨_, _, Tryz.func76, rfl, by kernel_rfl⟩⟩
theorem CF_77 : CF Tryz.prog 77 := ⟨⟨_, _, Tryz.func77, rfl, by kernel_rfl⟩⟩
theorem CF_78 : CF Tryz.prog 78 := ⟨⟨_, _, Tryz.func78, rfl, by kernel_rfl⟩⟩
theorem CF_79 : CF Tryz.prog 79 := ⟨⟨_, _, Tryz.func79, rfl, by kernel_rfl⟩⟩
theorem CF_8 : CF Tryz.prog 8 := ⟨⟨_, _, Tryz.func8, rfl, by kernel_rfl⟩⟩
theorem CF_80 : CF Tryz.prog 80 := ⟨⟨_, _, Tryz.func80, rfl, by kernel_rfl⟩⟩
theorem CF_81 : CF Tryz.prog 81 := ⟨⟨_, _, Tryz.func81, rfl, by kernel_rfl⟩⟩
theorem CF_82 : CF Tryz.prog 82 := ⟨⟨_, _, Tryz.func82, rfl, by kernel_rfl⟩⟩
theorem CF_83 : CF Tryz.prog 83 := ⟨⟨_, _, Tryz.func83, rfl, by kernel_rfl⟩⟩
theorem CF_84 : CF Tryz.prog 84 := ⟨⟨_, _, Tryz.func84, rfl, by kernel_rfl⟩⟩
theorem CF_85 : CF Tryz.prog 85 := ⟨⟨_, _, Tryz.func85, rfl, by kernel_rfl⟩⟩
theorem CF_86 : CF Tryz.prog 86 := ⟨⟨_, _, Tryz.func86, rfl, by kernel_rfl⟩⟩
theorem CF_87 : CF Tryz.prog 87 := ⟨⟨_, _, Tryz.func87, rfl, by kernel_rfl⟩⟩
theorem CF_88 : CF Tryz.prog 88 := ⟨⟨_, _, Tryz.func88, rfl, by kernel_rfl⟩⟩
theorem CF_89 : CF Tryz.prog 89 := ⟨⟨_, _, Tryz.func89, rfl, by kernel_rfl⟩⟩
theorem CF_9 : CF Tryz.prog 9 := ⟨⟨_, _, Tryz.func9, rfl, by kernel_rfl⟩⟩
theorem CF_90 : CF Tryz.prog 90 := ⟨⟨_, _, Tryz.func90, rfl, by kernel_rfl⟩⟩
theorem CF_91 : CF Tryz.prog 91 := ⟨⟨_, _, Tryz.func91, rfl, by kernel_rfl⟩⟩
theorem CF_92 : CF Tryz.prog 92 := ⟨⟨_, _, Tryz.func92, rfl, by kernel_rfl⟩⟩
theorem CF_93 : CF Tryz.prog 93 := ⟨⟨_, _, Tryz.func93, rfl, by kernel_rfl⟩⟩
theorem CF_94 : CF Tryz.prog 94 := ⟨⟨_, _, Tryz.func94, rfl, by kernel_rfl⟩⟩
theorem CF_95 : CF Tryz.prog 95 := ⟨⟨_, _, Tryz.func95, rfl, by kernel_rfl⟩⟩
theorem CF_96 : CF Tryz.prog 96 := ⟨⟨_, _, Tryz.func96, rfl, by kernel_rfl⟩⟩
theorem CF_97 : CF Tryz.prog 97 := ⟨⟨_, _, Tryz.func97, rfl, by kernel_rfl⟩⟩
theorem CF_98 : CF Tryz.prog 98 := ⟨⟨_, _, Tryz.func98, rfl, by kernel_rfl⟩⟩
theorem CF_99 : CF Tryz.prog 99 := ⟨⟨_, _, Tryz.func99, rfl, by kernel_rfl⟩⟩
theorem ET_100 : ElemT Tryz.prog 100 145 (.agg #[.int .i64 0, .int .i64 0, .string ⟨#[]⟩, .string ⟨#[]⟩, .int .i64 0, .int .i64 0, .string ⟨#[]⟩]) 7 80 encStep := { ht := Tryz.underlying100, hT := { info := by kernel_rfl, zs := rfl, pos := by decide }, hk := fun _ => rfl, h1 := by intro x u hu; simp [encStep] at hu; rcases hu with rfl | rfl | rfl | rfl | rfl | rfl | rfl <;> rfl, by0 := by decide }
theorem ET_23 : ElemT Tryz.prog 23 82 (.agg #[.int .i64 0, .int .i64 0, .int .i64 0, .int .i64 0, .slice none 0 0, .slice none 0 0, .slice none 0 0, .slice none 0 0, .slice none 0 0, .int .i64 0]) 10 160 encTx := { ht := Tryz.underlying23, hT := { info := by kernel_rfl, zs := rfl, pos := by decide }, hk := fun _ => rfl, h1 := by intro x u hu; unfold encTx at hu; simp only [List.mem_cons, List.not_mem_nil, or_false] at hu; rcases hu with rfl | rfl | rfl | rfl | rfl | rfl | rfl | rfl | rfl | rfl <;> rfl, by0 := by decide }
theorem ET_24 : ElemT Tryz.prog 24 117 (.agg #[.int .i64 0, .slice none 0 0, .bool false]) 3 40 encSlot := { ht := Tryz.underlying24, hT := { info := by kernel_rfl, zs := rfl, pos := by decide }, hk := fun _ => rfl, h1 := by intro x u hu; simp [encSlot] at hu; rcases hu with rfl | rfl | rfl <;> rfl, by0 := by decide }
theorem ET_29 : ElemT Tryz.prog 29 88 (.agg #[.int .i64 0, .int .i64 0, .int .i64 0, .slice none 0 0, .slice none 0 0, .int .i64 0, .int .i64 0, .bool false]) 8 96 encEntry := { ht := Tryz.underlying29, hT := { info := by kernel_rfl, zs := rfl, pos := by decide }, hk := fun _ => rfl, h1 := by intro x u hu; simp [encEntry] at hu; rcases hu with rfl | rfl | rfl | rfl | rfl | rfl | rfl | rfl <;> rfl, by0 := by decide }
theorem ET_30 : ElemT Tryz.prog 30 9 (.string ⟨#[]⟩) 1 16 encS := { ht := Tryz.underlying30, hT := { info := by kernel_rfl, zs := rfl, pos := by decide }, hk := fun _ => rfl, h1 := by intro x u hu; simp [encS] at hu; subst hu; rfl, by0 := by decide }
theorem ET_35 : ElemT Tryz.prog 35 90 (.agg #[.string ⟨#[]⟩, .string ⟨#[]⟩]) 2 32 encC := { ht := Tryz.underlying35, hT := { info := by kernel_rfl, zs := rfl, pos := by decide }, hk := fun _ => rfl, h1 := by intro x u hu; simp [encC] at hu; rcases hu with rfl | rfl <;> rfl, by0 := by decide }
theorem ET_36 : ElemT Tryz.prog 36 58 (.agg #[.int .i64 0, .int .i64 0, .int .i64 0, .int .i64 0, .slice none 0 0, .slice none 0 0, .slice none 0 0, .slice none 0 0, .slice none 0 0, .int .i64 0]) 10 160 encTx := { ht := Tryz.underlying36, hT := { info := by kernel_rfl, zs := rfl, pos := by decide }, hk := fun _ => rfl, h1 := by intro x u hu; unfold encTx at hu; simp only [List.mem_cons, List.not_mem_nil, or_false] at hu; rcases hu with rfl | rfl | rfl | rfl | rfl | rfl | rfl | rfl | rfl | rfl <;> rfl, by0 := by decide }
theorem ET_37 : ElemT Tryz.prog 37 92 (.agg #[.int .i64 0, .slice none 0 0, .bool false]) 3 40 encSlot := { ht := Tryz.underlying37, hT := { info := by kernel_rfl, zs := rfl, pos := by decide }, hk := fun _ => rfl, h1 := by intro x u hu; simp [encSlot] at hu; rcases hu with rfl | rfl | rfl <;> rfl, by0 := by decide }
theorem ET_41 : ElemT Tryz.prog 41 102 (.agg #[.int .i64 0, .int .i64 0, .int .i64 0, .slice none 0 0, .slice none 0 0, .int .i64 0, .int .i64 0, .bool false]) 8 96 encEntry := { ht := Tryz.underlying41, hT := { info := by kernel_rfl, zs := rfl, pos := by decide }, hk := fun _ => rfl, h1 := by intro x u hu; simp [encEntry] at hu; rcases hu with rfl | rfl | rfl | rfl | rfl | rfl | rfl | rfl <;> rfl, by0 := by decide }
theorem ET_52 : ElemT Tryz.prog 52 140 (.agg #[.int .i64 0, .string ⟨#[]⟩, .string ⟨#[]⟩, .int .i64 0, .int .i64 0, .string ⟨#[]⟩]) 6 72 encK := { ht := Tryz.underlying52, hT := { info := by kernel_rfl, zs := rfl, pos := by decide }, hk := fun _ => rfl, h1 := by intro x u hu; simp [encK] at hu; rcases hu with rfl | rfl | rfl | rfl | rfl | rfl <;> rfl, by0 := by decide }
theorem ET_53 : ElemT Tryz.prog 53 142 (.agg #[.int .i64 0, .int .i64 0, .string ⟨#[]⟩]) 3 32 encR := { ht := Tryz.underlying53, hT := { info := by kernel_rfl, zs := rfl, pos := by decide }, hk := fun _ => rfl, h1 := by intro x u hu; simp [encR] at hu; rcases hu with rfl | rfl | rfl <;> rfl, by0 := by decide }
theorem ET_56 : ElemT Tryz.prog 56 3 (.int .i64 0) 1 8 encI := { ht := Tryz.underlying56, hT := { info := by kernel_rfl, zs := rfl, pos := by decide }, hk := fun _ => rfl, h1 := by intro x u hu; simp [encI] at hu; subst hu; rfl, by0 := by decide }
theorem ET_78 : ElemT Tryz.prog 78 132 (.agg #[.int .i64 0, .string ⟨#[]⟩, .string ⟨#[]⟩, .int .i64 0, .int .i64 0, .string ⟨#[]⟩]) 6 72 encK := { ht := Tryz.underlying78, hT := { info := by kernel_rfl, zs := rfl, pos := by decide }, hk := fun _ => rfl, h1 := by intro x u hu; simp [encK] at hu; rcases hu with rfl | rfl | rfl | rfl | rfl | rfl <;> rfl, by0 := by decide }
theorem ET_79 : ElemT Tryz.prog 79 135 (.agg #[.int .i64 0, .int .i64 0, .string ⟨#[]⟩]) 3 32 encR := { ht := Tryz.underlying79, hT := { info := by kernel_rfl, zs := rfl, pos := by decide }, hk := fun _ => rfl, h1 := by intro x u hu; simp [encR] at hu; rcases hu with rfl | rfl | rfl <;> rfl, by0 := by decide }
theorem ET_86 : ElemT Tryz.prog 86 138 (.agg #[.int .i64 0, .int .i64 0, .string ⟨#[]⟩, .string ⟨#[]⟩, .int .i64 0, .int .i64 0, .string ⟨#[]⟩]) 7 80 encStep := { ht := Tryz.underlying86, hT := { info := by kernel_rfl, zs := rfl, pos := by decide }, hk := fun _ => rfl, h1 := by intro x u hu; simp [encStep] at hu; rcases hu with rfl | rfl | rfl | rfl | rfl | rfl | rfl <;> rfl, by0 := by decide }
theorem FI_102_0 : FI Tryz.prog 102 0 0 := fi_mk Tryz.underlying102 rfl rfl (k := 0) (by kernel_rfl)
theorem FI_102_1 : FI Tryz.prog 102 1 1 := fi_mk Tryz.underlying102 rfl rfl (k := 0) (by kernel_rfl)
theorem FI_102_2 : FI Tryz.prog 102 2 2 := fi_mk Tryz.underlying102 rfl rfl (k := 0) (by kernel_rfl)
theorem FI_102_3 : FI Tryz.prog 102 3 3 := fi_mk Tryz.underlying102 rfl rfl (k := 0) (by kernel_rfl)
theorem FI_102_4 : FI Tryz.prog 102 4 4 := fi_mk Tryz.underlying102 rfl rfl (k := 0) (by kernel_rfl)
theorem FI_102_5 : FI Tryz.prog 102 5 5 := fi_mk Tryz.underlying102 rfl rfl (k := 0) (by kernel_rfl)
theorem FI_102_6 : FI Tryz.prog 102 6 6 := fi_mk Tryz.underlying102 rfl rfl (k := 0) (by kernel_rfl)
theorem FI_102_7 : FI Tryz.prog 102 7 7 := fi_mk Tryz.underlying102 rfl rfl (k := 0) (by kernel_rfl)
theorem FI_117_0 : FI Tryz.prog 117 0 0 := fi_mk Tryz.underlying117 rfl rfl (k := 0) (by kernel_rfl)
theorem FI_117_1 : FI Tryz.prog 117 1 1 := fi_mk Tryz.underlying117 rfl rfl (k := 0) (by kernel_rfl)
theorem FI_117_2 : FI Tryz.prog 117 2 2 := fi_mk Tryz.underlying117 rfl rfl (k := 0) (by kernel_rfl)
theorem FI_132_0 : FI Tryz.prog 132 0 0 := fi_mk Tryz.underlying132 rfl rfl (k := 0) (by kernel_rfl)
theorem FI_132_1 : FI Tryz.prog 132 1 1 := fi_mk Tryz.underlying132 rfl rfl (k := 0) (by kernel_rfl)
theorem FI_132_2 : FI Tryz.prog 132 2 2 := fi_mk Tryz.underlying132 rfl rfl (k := 0) (by kernel_rfl)
theorem FI_132_3 : FI Tryz.prog 132 3 3 := fi_mk Tryz.underlying132 rfl rfl (k := 0) (by kernel_rfl)
theorem FI_132_4 : FI Tryz.prog 132 4 4 := fi_mk Tryz.underlying132 rfl rfl (k := 0) (by kernel_rfl)
theorem FI_132_5 : FI Tryz.prog 132 5 5 := fi_mk Tryz.underlying132 rfl rfl (k := 0) (by kernel_rfl)
theorem FI_135_0 : FI Tryz.prog 135 0 0 := fi_mk Tryz.underlying135 rfl rfl (k := 0) (by kernel_rfl)
theorem FI_135_1 : FI Tryz.prog 135 1 1 := fi_mk Tryz.underlying135 rfl rfl (k := 0) (by kernel_rfl)
theorem FI_135_2 : FI Tryz.prog 135 2 2 := fi_mk Tryz.underlying135 rfl rfl (k := 0) (by kernel_rfl)
theorem FI_138_0 : FI Tryz.prog 138 0 0 := fi_mk Tryz.underlying138 rfl rfl (k := 0) (by kernel_rfl)
theorem FI_138_1 : FI Tryz.prog 138 1 1 := fi_mk Tryz.underlying138 rfl rfl (k := 5) (by kernel_rfl)
theorem FI_140_0 : FI Tryz.prog 140 0 0 := fi_mk Tryz.underlying140 rfl rfl (k := 0) (by kernel_rfl)
theorem FI_140_1 : FI Tryz.prog 140 1 1 := fi_mk Tryz.underlying140 rfl rfl (k := 0) (by kernel_rfl)
theorem FI_140_2 : FI Tryz.prog 140 2 2 := fi_mk Tryz.underlying140 rfl rfl (k := 0) (by kernel_rfl)
theorem FI_140_3 : FI Tryz.prog 140 3 3 := fi_mk Tryz.underlying140 rfl rfl (k := 0) (by kernel_rfl)
theorem FI_140_4 : FI Tryz.prog 140 4 4 := fi_mk Tryz.underlying140 rfl rfl (k := 0) (by kernel_rfl)
theorem FI_140_5 : FI Tryz.prog 140 5 5 := fi_mk Tryz.underlying140 rfl rfl (k := 0) (by kernel_rfl)
theorem FI_142_0 : FI Tryz.prog 142 0 0 := fi_mk Tryz.underlying142 rfl rfl (k := 0) (by kernel_rfl)
theorem FI_142_1 : FI Tryz.prog 142 1 1 := fi_mk Tryz.underlying142 rfl rfl (k := 0) (by kernel_rfl)
theorem FI_142_2 : FI Tryz.prog 142 2 2 := fi_mk Tryz.underlying142 rfl rfl (k := 0) (by kernel_rfl)
theorem FI_145_0 : FI Tryz.prog 145 0 0 := fi_mk Tryz.underlying145 rfl rfl (k := 0) (by kernel_rfl)
theorem FI_145_1 : FI Tryz.prog 145 1 1 := fi_mk Tryz.underlying145 rfl rfl (k := 5) (by kernel_rfl)
theorem FI_26_0 : FI Tryz.prog 26 0 0 := fi_mk Tryz.underlying26 rfl rfl (k := 0) (by kernel_rfl)
theorem FI_26_1 : FI Tryz.prog 26 1 1 := fi_mk Tryz.underlying26 rfl rfl (k := 0) (by kernel_rfl)
theorem FI_28_0 : FI Tryz.prog 28 0 0 := fi_mk Tryz.underlying28 rfl rfl (k := 0) (by kernel_rfl)
theorem FI_28_1 : FI Tryz.prog 28 1 1 := fi_mk Tryz.underlying28 rfl rfl (k := 1) (by kernel_rfl)
theorem FI_32_0 : FI Tryz.prog 32 0 0 := fi_mk Tryz.underlying32 rfl rfl (k := 0) (by kernel_rfl)
theorem FI_32_1 : FI Tryz.prog 32 1 1 := fi_mk Tryz.underlying32 rfl rfl (k := 0) (by kernel_rfl)
theorem FI_32_2 : FI Tryz.prog 32 2 2 := fi_mk Tryz.underlying32 rfl rfl (k := 2) (by kernel_rfl)
theorem FI_32_3 : FI Tryz.prog 32 3 5 := fi_mk Tryz.underlying32 rfl rfl (k := 0) (by kernel_rfl)
theorem FI_32_4 : FI Tryz.prog 32 4 6 := fi_mk Tryz.underlying32 rfl rfl (k := 0) (by kernel_rfl)
theorem FI_32_5 : FI Tryz.prog 32 5 7 := fi_mk Tryz.underlying32 rfl rfl (k := 0) (by kernel_rfl)
theorem FI_32_6 : FI Tryz.prog 32 6 8 := fi_mk Tryz.underlying32 rfl rfl (k := 0) (by kernel_rfl)
theorem FI_32_7 : FI Tryz.prog 32 7 9 := fi_mk Tryz.underlying32 rfl rfl (k := 0) (by kernel_rfl)
theorem FI_32_8 : FI Tryz.prog 32 8 10 := fi_mk Tryz.underlying32 rfl rfl (k := 0) (by kernel_rfl)
theorem FI_38_0 : FI Tryz.prog 38 0 0 := fi_mk Tryz.underlying38 rfl rfl (k := 0) (by kernel_rfl)
theorem FI_38_1 : FI Tryz.prog 38 1 1 := fi_mk Tryz.underlying38 rfl rfl (k := 0) (by kernel_rfl)
theorem FI_40_0 : FI Tryz.prog 40 0 0 := fi_mk Tryz.underlying40 rfl rfl (k := 0) (by kernel_rfl)
theorem FI_40_1 : FI Tryz.prog 40 1 1 := fi_mk Tryz.underlying40 rfl rfl (k := 1) (by kernel_rfl)
theorem FI_43_0 : FI Tryz.prog 43 0 0 := fi_mk Tryz.underlying43 rfl rfl (k := 0) (by kernel_rfl)
theorem FI_43_1 : FI Tryz.prog 43 1 1 := fi_mk Tryz.underlying43 rfl rfl (k := 0) (by kernel_rfl)
theorem FI_43_2 : FI Tryz.prog 43 2 2 := fi_mk Tryz.underlying43 rfl rfl (k := 2) (by kernel_rfl)
theorem FI_43_3 : FI Tryz.prog 43 3 5 := fi_mk Tryz.underlying43 rfl rfl (k := 0) (by kernel_rfl)
theorem FI_43_4 : FI Tryz.prog 43 4 6 := fi_mk Tryz.underlying43 rfl rfl (k := 0) (by kernel_rfl)
theorem FI_43_5 : FI Tryz.prog 43 5 7 := fi_mk Tryz.underlying43 rfl rfl (k := 0) (by kernel_rfl)
theorem FI_43_6 : FI Tryz.prog 43 6 8 := fi_mk Tryz.underlying43 rfl rfl (k := 0) (by kernel_rfl)
theorem FI_43_7 : FI Tryz.prog 43 7 9 := fi_mk Tryz.underlying43 rfl rfl (k := 0) (by kernel_rfl)
theorem FI_43_8 : FI Tryz.prog 43 8 10 := fi_mk Tryz.underlying43 rfl rfl (k := 0) (by kernel_rfl)
theorem FI_55_0 : FI Tryz.prog 55 0 0 := fi_mk Tryz.underlying55 rfl rfl (k := 0) (by kernel_rfl)
theorem FI_55_1 : FI Tryz.prog 55 1 1 := fi_mk Tryz.underlying55 rfl rfl (k := 0) (by kernel_rfl)
theorem FI_58_0 : FI Tryz.prog 58 0 0 := fi_mk Tryz.underlying58 rfl rfl (k := 0) (by kernel_rfl)
theorem FI_58_1 : FI Tryz.prog 58 1 1 := fi_mk Tryz.underlying58 rfl rfl (k := 0) (by kernel_rfl)
theorem FI_58_2 : FI Tryz.prog 58 2 2 := fi_mk Tryz.underlying58 rfl rfl (k := 0) (by kernel_rfl)
theorem FI_58_3 : FI Tryz.prog 58 3 3 := fi_mk Tryz.underlying58 rfl rfl (k := 0) (by kernel_rfl)
theorem FI_58_4 : FI Tryz.prog 58 4 4 := fi_mk Tryz.underlying58 rfl rfl (k := 0) (by kernel_rfl)
theorem FI_58_5 : FI Tryz.prog 58 5 5 := fi_mk Tryz.underlying58 rfl rfl (k := 0) (by kernel_rfl)
theorem FI_58_6 : FI Tryz.prog 58 6 6 := fi_mk Tryz.underlying58 rfl rfl (k := 1) (by kernel_rfl)
theorem FI_58_7 : FI Tryz.prog 58 7 8 := fi_mk Tryz.underlying58 rfl rfl (k := 0) (by kernel_rfl)
theorem FI_58_8 : FI Tryz.prog 58 8 9 := fi_mk Tryz.underlying58 rfl rfl (k := 0) (by kernel_rfl)
theorem FI_80_0 : FI Tryz.prog 80 0 0 := fi_mk Tryz.underlying80 rfl rfl (k := 0) (by kernel_rfl)
theorem FI_80_1 : FI Tryz.prog 80 1 1 := fi_mk Tryz.underlying80 rfl rfl (k := 0) (by kernel_rfl)
theorem FI_82_0 : FI Tryz.prog 82 0 0 := fi_mk Tryz.underlying82 rfl rfl (k := 0) (by kernel_rfl)
theorem FI_82_1 : FI Tryz.prog 82 1 1 := fi_mk Tryz.underlying82 rfl rfl (k := 0) (by kernel_rfl)
theorem FI_82_2 : FI Tryz.prog 82 2 2 := fi_mk Tryz.underlying82 rfl rfl (k := 0) (by kernel_rfl)
theorem FI_82_3 : FI Tryz.prog 82 3 3 := fi_mk Tryz.underlying82 rfl rfl (k := 0) (by kernel_rfl)
theorem FI_82_4 : FI Tryz.prog 82 4 4 := fi_mk Tryz.underlying82 rfl rfl (k := 0) (by kernel_rfl)
theorem FI_82_5 : FI Tryz.prog 82 5 5 := fi_mk Tryz.underlying82 rfl rfl (k := 0) (by kernel_rfl)
theorem FI_82_6 : FI Tryz.prog 82 6 6 := fi_mk Tryz.underlying82 rfl rfl (k := 1) (by kernel_rfl)
theorem FI_82_7 : FI Tryz.prog 82 7 8 := fi_mk Tryz.underlying82 rfl rfl (k := 0) (by kernel_rfl)
theorem FI_82_8 : FI Tryz.prog 82 8 9 := fi_mk Tryz.underlying82 rfl rfl (k := 0) (by kernel_rfl)
theorem FI_88_0 : FI Tryz.prog 88 0 0 := fi_mk Tryz.underlying88 rfl rfl (k := 0) (by kernel_rfl)
theorem FI_88_1 : FI Tryz.prog 88 1 1 := fi_mk Tryz.underlying88 rfl rfl (k := 0) (by kernel_rfl)
theorem FI_88_2 : FI Tryz.prog 88 2 2 := fi_mk Tryz.underlying88 rfl rfl (k := 0) (by kernel_rfl)
theorem FI_88_3 : FI Tryz.prog 88 3 3 := fi_mk Tryz.underlying88 rfl rfl (k := 0) (by kernel_rfl)
theorem FI_88_4 : FI Tryz.prog 88 4 4 := fi_mk Tryz.underlying88 rfl rfl (k := 0) (by kernel_rfl)
theorem FI_88_5 : FI Tryz.prog 88 5 5 := fi_mk Tryz.underlying88 rfl rfl (k := 0) (by kernel_rfl)
theorem FI_88_6 : FI Tryz.prog 88 6 6 := fi_mk Tryz.underlying88 rfl rfl (k := 0) (by kernel_rfl)
theorem FI_88_7 : FI Tryz.prog 88 7 7 := fi_mk Tryz.underlying88 rfl rfl (k := 0) (by kernel_rfl)
theorem FI_90_0 : FI Tryz.prog 90 0 0 := fi_mk Tryz.underlying90 rfl rfl (k := 0) (by kernel_rfl)
theorem FI_90_1 : FI Tryz.prog 90 1 1 := fi_mk Tryz.underlying90 rfl rfl (k := 0) (by kernel_rfl)
theorem FI_92_0 : FI Tryz.prog 92 0 0 := fi_mk Tryz.underlying92 rfl rfl (k := 0) (by kernel_rfl)
theorem FI_92_1 : FI Tryz.prog 92 1 1 := fi_mk Tryz.underlying92 rfl rfl (k := 0) (by kernel_rfl)
theorem FI_92_2 : FI Tryz.prog 92 2 2 := fi_mk Tryz.underlying92 rfl rfl (k := 0) (by kernel_rfl)
theorem mixed : Tryz.prog.follows .mixedOrders = true := by kernel_rfl
theorem TI_100 : TI Tryz.prog 100 false 1 := ti_mk Tryz.underlying100 rfl (by kernel_rfl)
theorem TI_102 : TI Tryz.prog 102 true 8 := ti_mk Tryz.underlying102 rfl (by kernel_rfl)
theorem TI_117 : TI Tryz.prog 117 true 3 := ti_mk Tryz.underlying117 rfl (by kernel_rfl)
theorem TI_132 : TI Tryz.prog 132 true 6 := ti_mk Tryz.underlying132 rfl (by kernel_rfl)
theorem TI_135 : TI Tryz.prog 135 true 3 := ti_mk Tryz.underlying135 rfl (by kernel_rfl)
theorem TI_138 : TI Tryz.prog 138 true 7 := ti_mk Tryz.underlying138 rfl (by kernel_rfl)
theorem TI_140 : TI Tryz.prog 140 true 6 := ti_mk Tryz.underlying140 rfl (by kernel_rfl)
theorem TI_142 : TI Tryz.prog 142 true 3 := ti_mk Tryz.underlying142 rfl (by kernel_rfl)
theorem TI_145 : TI Tryz.prog 145 true 7 := ti_mk Tryz.underlying145 rfl (by kernel_rfl)
theorem TI_22 : TI Tryz.prog 22 false 1 := ti_mk Tryz.underlying22 rfl (by kernel_rfl)
theorem TI_23 : TI Tryz.prog 23 false 1 := ti_mk Tryz.underlying23 rfl (by kernel_rfl)
theorem TI_24 : TI Tryz.prog 24 false 1 := ti_mk Tryz.underlying24 rfl (by kernel_rfl)
theorem TI_26 : TI Tryz.prog 26 true 2 := ti_mk Tryz.underlying26 rfl (by kernel_rfl)
theorem TI_28 : TI Tryz.prog 28 true 3 := ti_mk Tryz.underlying28 rfl (by kernel_rfl)
theorem TI_29 : TI Tryz.prog 29 false 1 := ti_mk Tryz.underlying29 rfl (by kernel_rfl)
theorem TI_3 : TI Tryz.prog 3 false 1 := ti_mk Tryz.underlying3 rfl (by kernel_rfl)
theorem TI_30 : TI Tryz.prog 30 false 1 := ti_mk Tryz.underlying30 rfl (by kernel_rfl)
theorem TI_32 : TI Tryz.prog 32 true 11 := ti_mk Tryz.underlying32 rfl (by kernel_rfl)
theorem TI_35 : TI Tryz.prog 35 false 1 := ti_mk Tryz.underlying35 rfl (by kernel_rfl)
theorem TI_36 : TI Tryz.prog 36 false 1 := ti_mk Tryz.underlying36 rfl (by kernel_rfl)
theorem TI_37 : TI Tryz.prog 37 false 1 := ti_mk Tryz.underlying37 rfl (by kernel_rfl)
theorem TI_38 : TI Tryz.prog 38 true 2 := ti_mk Tryz.underlying38 rfl (by kernel_rfl)
theorem TI_4 : TI Tryz.prog 4 false 1 := ti_mk Tryz.underlying4 rfl (by kernel_rfl)
theorem TI_40 : TI Tryz.prog 40 true 3 := ti_mk Tryz.underlying40 rfl (by kernel_rfl)
theorem TI_41 : TI Tryz.prog 41 false 1 := ti_mk Tryz.underlying41 rfl (by kernel_rfl)
theorem TI_43 : TI Tryz.prog 43 true 11 := ti_mk Tryz.underlying43 rfl (by kernel_rfl)
theorem TI_52 : TI Tryz.prog 52 false 1 := ti_mk Tryz.underlying52 rfl (by kernel_rfl)
theorem TI_53 : TI Tryz.prog 53 false 1 := ti_mk Tryz.underlying53 rfl (by kernel_rfl)
theorem TI_55 : TI Tryz.prog 55 true 2 := ti_mk Tryz.underlying55 rfl (by kernel_rfl)
theorem TI_56 : TI Tryz.prog 56 false 1 := ti_mk Tryz.underlying56 rfl (by kernel_rfl)
theorem TI_58 : TI Tryz.prog 58 true 10 := ti_mk Tryz.underlying58 rfl (by kernel_rfl)
theorem TI_78 : TI Tryz.prog 78 false 1 := ti_mk Tryz.underlying78 rfl (by kernel_rfl)
theorem TI_79 : TI Tryz.prog 79 false 1 := ti_mk Tryz.underlying79 rfl (by kernel_rfl)
theorem TI_80 : TI Tryz.prog 80 true 2 := ti_mk Tryz.underlying80 rfl (by kernel_rfl)
theorem TI_82 : TI Tryz.prog 82 true 10 := ti_mk Tryz.underlying82 rfl (by kernel_rfl)
theorem TI_86 : TI Tryz.prog 86 false 1 := ti_mk Tryz.underlying86 rfl (by kernel_rfl)
theorem TI_88 : TI Tryz.prog 88 true 8 := ti_mk Tryz.underlying88 rfl (by kernel_rfl)
theorem TI_9 : TI Tryz.prog 9 false 1 := ti_mk Tryz.underlying9 rfl (by kernel_rfl)
theorem TI_90 : TI Tryz.prog 90 true 2 := ti_mk Tryz.underlying90 rfl (by kernel_rfl)
theorem TI_92 : TI Tryz.prog 92 true 3 := ti_mk Tryz.underlying92 rfl (by kernel_rfl)
theorem ZI_102 : ZI Tryz.prog 102 (.agg #[.int .i64 0, .int .i64 0, .int .i64 0, .slice none 0 0, .slice none 0 0, .int .i64 0, .int .i64 0, .bool false]) := zi_mk (by kernel_rfl)
theorem ZI_140 : ZI Tryz.prog 140 (.agg #[.int .i64 0, .string (⟨#[]⟩ : ByteArray), .string (⟨#[]⟩ : ByteArray), .int .i64 0, .int .i64 0, .string (⟨#[]⟩ : ByteArray)]) := zi_mk (by kernel_rfl)
theorem ZI_142 : ZI Tryz.prog 142 (.agg #[.int .i64 0, .int .i64 0, .string (⟨#[]⟩ : ByteArray)]) := zi_mk (by kernel_rfl)
theorem ZI_145 : ZI Tryz.prog 145 (.agg #[.int .i64 0, .int .i64 0, .string (⟨#[]⟩ : ByteArray), .string (⟨#[]⟩ : ByteArray), .int .i64 0, .int .i64 0, .string (⟨#[]⟩ : ByteArray)]) := zi_mk (by kernel_rfl)
theorem ZI_38 : ZI Tryz.prog 38 (.agg #[.string (⟨#[]⟩ : ByteArray), .int .i64 0]) := zi_mk (by kernel_rfl)
theorem ZI_40 : ZI Tryz.prog 40 (.agg #[.slice none 0 0, .string (⟨#[]⟩ : ByteArray), .int .i64 0]) := zi_mk (by kernel_rfl)
theorem ZI_43 : ZI Tryz.prog 43 (.agg #[.slice none 0 0, .slice none 0 0, .slice none 0 0, .string (⟨#[]⟩ : ByteArray), .int .i64 0, .int .i64 0, .int .i64 0, .int .i64 0, .slice none 0 0, .slice none 0 0, .bool false]) := zi_mk (by kernel_rfl)
theorem ZI_55 : ZI Tryz.prog 55 (.agg #[.slice none 0 0, .slice none 0 0]) := zi_mk (by kernel_rfl)
theorem ZI_58 : ZI Tryz.prog 58 (.agg #[.int .i64 0, .int .i64 0, .int .i64 0, .int .i64 0, .slice none 0 0, .slice none 0 0, .slice none 0 0, .slice none 0 0, .slice none 0 0, .int .i64 0]) := zi_mk (by kernel_rfl)
theorem ZI_9 : ZI Tryz.prog 9 (.string (⟨#[]⟩ : ByteArray)) := zi_mk (by kernel_rfl)
theorem ZI_90 : ZI Tryz.prog 90 (.agg #[.string (⟨#[]⟩ : ByteArray), .string (⟨#[]⟩ : ByteArray)]) := zi_mk (by kernel_rfl)
theorem ZI_92 : ZI Tryz.prog 92 (.agg #[.int .i64 0, .slice none 0 0, .bool false]) := zi_mk (by kernel_rfl)
end Go.Proofs.YtgfilegkabbliaaGreat
