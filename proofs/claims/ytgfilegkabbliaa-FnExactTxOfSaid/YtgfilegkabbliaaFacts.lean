/-
  What the walks ask of the program: its types' shapes, its functions' bodies.
-/
import Derived.Test.YtgfilegkabbliaaEng8
import Derived.Test.YtgfilegkabbliaaNest
namespace Go.Proofs.Ytgfilegkabbliaa
open Go.ChangeShapes Go.WideShapes Go.ChangeAt Go.RowKit
theorem BI_69 : BI Try.prog 69 [(0, 1), (1, 1)] [.slice none 0 0, .slice none 0 0] := bi_mk2 Try.underlying69 (zv := .agg #[.slice none 0 0, .slice none 0 0]) (by kernel_rfl) rfl (by kernel_rfl)
theorem BI_71 : BI Try.prog 71 [(0, 1), (1, 1), (2, 1), (3, 1), (4, 1), (5, 1), (6, 2), (8, 1), (9, 1)] [.int .i64 0, .int .i64 0, .int .i64 0, .int .i64 0, .slice none 0 0, .slice none 0 0, .slice none 0 0, .slice none 0 0, .slice none 0 0, .int .i64 0] := bi_mk2 Try.underlying71 (zv := .agg #[.int .i64 0, .int .i64 0, .int .i64 0, .int .i64 0, .slice none 0 0, .slice none 0 0, .slice none 0 0, .slice none 0 0, .slice none 0 0, .int .i64 0]) (by kernel_rfl) rfl (by kernel_rfl)
theorem CF_100 : CF Try.prog 100 := ⟨⟨_, _, Try.func100, rfl, by kernel_rfl⟩⟩
theorem CF_101 : CF Try.prog 101 := ⟨⟨_, _, Try.func101, rfl, by kernel_rfl⟩⟩
theorem CF_102 : CF Try.prog 102 := ⟨⟨_, _, Try.func102, rfl, by kernel_rfl⟩⟩
theorem CF_103 : CF Try.prog 103 := ⟨⟨_, _, Try.func103, rfl, by kernel_rfl⟩⟩
theorem CF_104 : CF Try.prog 104 := ⟨⟨_, _, Try.func104, rfl, by kernel_rfl⟩⟩
theorem CF_105 : CF Try.prog 105 := ⟨⟨_, _, Try.func105, rfl, by kernel_rfl⟩⟩
theorem CF_106 : CF Try.prog 106 := ⟨⟨_, _, Try.func106, rfl, by kernel_rfl⟩⟩
theorem CF_107 : CF Try.prog 107 := ⟨⟨_, _, Try.func107, rfl, by kernel_rfl⟩⟩
theorem CF_108 : CF Try.prog 108 := ⟨⟨_, _, Try.func108, rfl, by kernel_rfl⟩⟩
theorem CF_109 : CF Try.prog 109 := ⟨⟨_, _, Try.func109, rfl, by kernel_rfl⟩⟩
theorem CF_11 : CF Try.prog 11 := ⟨⟨_, _, Try.func11, rfl, by kernel_rfl⟩⟩
theorem CF_110 : CF Try.prog 110 := ⟨⟨_, _, Try.func110, rfl, by kernel_rfl⟩⟩
theorem CF_111 : CF Try.prog 111 := ⟨⟨_, _, Try.func111, rfl, by kernel_rfl⟩⟩
theorem CF_112 : CF Try.prog 112 := ⟨⟨_, _, Try.func112, rfl, by kernel_rfl⟩⟩
theorem CF_113 : CF Try.prog 113 := ⟨⟨_, _, Try.func113, rfl, by kernel_rfl⟩⟩
theorem CF_114 : CF Try.prog 114 := ⟨⟨_, _, Try.func114, rfl, by kernel_rfl⟩⟩
theorem CF_115 : CF Try.prog 115 := ⟨⟨_, _, Try.func115, rfl, by kernel_rfl⟩⟩
theorem CF_127 : CF Try.prog 127 := ⟨⟨_, _, Try.func127, rfl, by kernel_rfl⟩⟩
theorem CF_129 : CF Try.prog 129 := ⟨⟨_, _, Try.func129, rfl, by kernel_rfl⟩⟩
theorem CF_13 : CF Try.prog 13 := ⟨⟨_, _, Try.func13, rfl, by kernel_rfl⟩⟩
theorem CF_131 : CF Try.prog 131 := ⟨⟨_, _, Try.func131, rfl, by kernel_rfl⟩⟩
theorem CF_132 : CF Try.prog 132 := ⟨⟨_, _, Try.func132, rfl, by kernel_rfl⟩⟩
theorem CF_133 : CF Try.prog 133 := ⟨⟨_, _, Try.func133, rfl, by kernel_rfl⟩⟩
theorem CF_134 : CF Try.prog 134 := ⟨⟨_, _, Try.func134, rfl, by kernel_rfl⟩⟩
theorem CF_135 : CF Try.prog 135 := ⟨⟨_, _, Try.func135, rfl, by kernel_rfl⟩⟩
theorem CF_136 : CF Try.prog 136 := ⟨⟨_, _, Try.func136, rfl, by kernel_rfl⟩⟩
theorem CF_137 : CF Try.prog 137 := ⟨⟨_, _, Try.func137, rfl, by kernel_rfl⟩⟩
theorem CF_138 : CF Try.prog 138 := ⟨⟨_, _, Try.func138, rfl, by kernel_rfl⟩⟩
theorem CF_139 : CF Try.prog 139 := ⟨⟨_, _, Try.func139, rfl, by kernel_rfl⟩⟩
theorem CF_141 : CF Try.prog 141 := ⟨⟨_, _, Try.func141, rfl, by kernel_rfl⟩⟩
theorem CF_142 : CF Try.prog 142 := ⟨⟨_, _, Try.func142, rfl, by kernel_rfl⟩⟩
theorem CF_143 : CF Try.prog 143 := ⟨⟨_, _, Try.func143, rfl, by kernel_rfl⟩⟩
theorem CF_144 : CF Try.prog 144 := ⟨⟨_, _, Try.func144, rfl, by kernel_rfl⟩⟩
theorem CF_145 : CF Try.prog 145 := ⟨⟨_, _, Try.func145, rfl, by kernel_rfl⟩⟩
theorem CF_146 : CF Try.prog 146 := ⟨⟨_, _, Try.func146, rfl, by kernel_rfl⟩⟩
theorem CF_147 : CF Try.prog 147 := ⟨⟨_, _, Try.func147, rfl, by kernel_rfl⟩⟩
theorem CF_148 : CF Try.prog 148 := ⟨⟨_, _, Try.func148, rfl, by kernel_rfl⟩⟩
theorem CF_149 : CF Try.prog 149 := ⟨⟨_, _, Try.func149, rfl, by kernel_rfl⟩⟩
theorem CF_15 : CF Try.prog 15 := ⟨⟨_, _, Try.func15, rfl, by kernel_rfl⟩⟩
theorem CF_150 : CF Try.prog 150 := ⟨⟨_, _, Try.func150, rfl, by kernel_rfl⟩⟩
theorem CF_151 : CF Try.prog 151 := ⟨⟨_, _, Try.func151, rfl, by kernel_rfl⟩⟩
theorem CF_152 : CF Try.prog 152 := ⟨⟨_, _, Try.func152, rfl, by kernel_rfl⟩⟩
theorem CF_153 : CF Try.prog 153 := ⟨⟨_, _, Try.func153, rfl, by kernel_rfl⟩⟩
theorem CF_16 : CF Try.prog 16 := ⟨⟨_, _, Try.func16, rfl, by kernel_rfl⟩⟩
theorem CF_18 : CF Try.prog 18 := ⟨⟨_, _, Try.func18, rfl, by kernel_rfl⟩⟩
theorem CF_20 : CF Try.prog 20 := ⟨⟨_, _, Try.func20, rfl, by kernel_rfl⟩⟩
theorem CF_25 : CF Try.prog 25 := ⟨⟨_, _, Try.func25, rfl, by kernel_rfl⟩⟩
theorem CF_27 : CF Try.prog 27 := ⟨⟨_, _, Try.func27, rfl, by kernel_rfl⟩⟩
theorem CF_29 : CF Try.prog 29 := ⟨⟨_, _, Try.func29, rfl, by kernel_rfl⟩⟩
theorem CF_34 : CF Try.prog 34 := ⟨⟨_, _, Try.func34, rfl, by kernel_rfl⟩⟩
theorem CF_36 : CF Try.prog 36 := ⟨⟨_, _, Try.func36, rfl, by kernel_rfl⟩⟩
theorem CF_37 : CF Try.prog 37 := ⟨⟨_, _, Try.func37, rfl, by kernel_rfl⟩⟩
theorem CF_38 : CF Try.prog 38 := ⟨⟨_, _, Try.func38, rfl, by kernel_rfl⟩⟩
theorem CF_40 : CF Try.prog 40 := ⟨⟨_, _, Try.func40, rfl, by kernel_rfl⟩⟩
theorem CF_41 : CF Try.prog 41 := ⟨⟨_, _, Try.func41, rfl, by kernel_rfl⟩⟩
theorem CF_42 : CF Try.prog 42 := ⟨⟨_, _, Try.func42, rfl, by kernel_rfl⟩⟩
theorem CF_43 : CF Try.prog 43 := ⟨⟨_, _, Try.func43, rfl, by kernel_rfl⟩⟩
theorem CF_44 : CF Try.prog 44 := ⟨⟨_, _, Try.func44, rfl, by kernel_rfl⟩⟩
theorem CF_45 : CF Try.prog 45 := ⟨⟨_, _, Try.func45, rfl, by kernel_rfl⟩⟩
theorem CF_46 : CF Try.prog 46 := ⟨⟨_, _, Try.func46, rfl, by kernel_rfl⟩⟩
theorem CF_47 : CF Try.prog 47 := ⟨⟨_, _, Try.func47, rfl, by kernel_rfl⟩⟩
theorem CF_48 : CF Try.prog 48 := ⟨⟨_, _, Try.func48, rfl, by kernel_rfl⟩⟩
theorem CF_49 : CF Try.prog 49 := ⟨⟨_, _, Try.func49, rfl, by kernel_rfl⟩⟩
theorem CF_50 : CF Try.prog 50 := ⟨⟨_, _, Try.func50, rfl, by kernel_rfl⟩⟩
theorem CF_51 : CF Try.prog 51 := ⟨⟨_, _, Try.func51, rfl, by kernel_rfl⟩⟩
theorem CF_52 : CF Try.prog 52 := ⟨⟨_, _, Try.func52, rfl, by kernel_rfl⟩⟩
theorem CF_53 : CF Try.prog 53 := ⟨⟨_, _, Try.func53, rfl, by kernel_rfl⟩⟩
theorem CF_55 : CF Try.prog 55 := ⟨⟨_, _, Try.func55, rfl, by kernel_rfl⟩⟩
theorem CF_67 : CF Try.prog 67 := ⟨⟨_, _, Try.func67, rfl, by kernel_rfl⟩⟩
theorem CF_79 : CF Try.prog 79 := ⟨⟨_, _, Try.func79, rfl, by kernel_rfl⟩⟩
theorem CF_80 : CF Try.prog 80 := ⟨⟨_, _, Try.func80, rfl, by kernel_rfl⟩⟩
theorem CF_81 : CF Try.prog 81 := ⟨⟨_, _, Try.func81, rfl, by kernel_rfl⟩⟩
theorem CF_82 : CF Try.prog 82 := ⟨⟨_, _, Try.func82, rfl, by kernel_rfl⟩⟩
theorem CF_83 : CF Try.prog 83 := ⟨⟨_, _, Try.func83, rfl, by kernel_rfl⟩⟩
theorem CF_84 : CF Try.prog 84 := ⟨⟨_, _, Try.func84, rfl, by kernel_rfl⟩⟩
theorem CF_85 : CF Try.prog 85 := ⟨⟨_, _, Try.func85, rfl, by kernel_rfl⟩⟩
theorem CF_86 : CF Try.prog 86 := ⟨⟨_, _, Try.func86, rfl, by kernel_rfl⟩⟩
theorem CF_87 : CF Try.prog 87 := ⟨⟨_, _, Try.func87, rfl, by kernel_rfl⟩⟩
theorem CF_88 : CF Try.prog 88 := ⟨⟨_, _, Try.func88, rfl, by kernel_rfl⟩⟩
theorem CF_89 : CF Try.prog 89 := ⟨⟨_, _, Try.func89, rfl, by kernel_rfl⟩⟩
theorem CF_90 : CF Try.prog 90 := ⟨⟨_, _, Try.func90, rfl, by kernel_rfl⟩⟩
theorem CF_91 : CF Try.prog 91 := ⟨⟨_, _, Try.func91, rfl, by kernel_rfl⟩⟩
theorem CF_92 : CF Try.prog 92 := ⟨⟨_, _, Try.func92, rfl, by kernel_rfl⟩⟩
theorem CF_93 : CF Try.prog 93 := ⟨⟨_, _, Try.func93, rfl, by kernel_rfl⟩⟩
theorem CF_94 : CF Try.prog 94 := ⟨⟨_, _, Try.func94, rfl, by kernel_rfl⟩⟩
theorem CF_95 : CF Try.prog 95 := ⟨⟨_, _, Try.func95, rfl, by kernel_rfl⟩⟩
theorem CF_96 : CF Try.prog 96 := ⟨⟨_, _, Try.func96, rfl, by kernel_rfl⟩⟩
theorem CF_97 : CF Try.prog 97 := ⟨⟨_, _, Try.func97, rfl, by kernel_rfl⟩⟩
theorem CF_98 : CF Try.prog 98 := ⟨⟨_, _, Try.func98, rfl, by kernel_rfl⟩⟩
theorem CF_99 : CF Try.prog 99 := ⟨⟨_, _, Try.func99, rfl, by kernel_rfl⟩⟩
theorem ET_155 : ElemT Try.prog 155 186 (.agg #[.int .i64 0, .int .i64 0, .string ⟨#[]⟩, .string ⟨#[]⟩, .int .i64 0, .int .i64 0, .string ⟨#[]⟩]) 7 80 encStep := { ht := Try.underlying155, hT := { info := by kernel_rfl, zs := rfl, pos := by decide }, hk := fun _ => rfl, h1 := by intro x u hu; simp [encStep] at hu; rcases hu with rfl | rfl | rfl | rfl | rfl | rfl | rfl <;> rfl, by0 := by decide }
theorem ET_159 : ElemT Try.prog 159 183 (.agg #[.int .i64 0, .int .i64 0, .string ⟨#[]⟩, .string ⟨#[]⟩, .int .i64 0, .int .i64 0, .string ⟨#[]⟩]) 7 80 encStep := { ht := Try.underlying159, hT := { info := by kernel_rfl, zs := rfl, pos := by decide }, hk := fun _ => rfl, h1 := by intro x u hu; simp [encStep] at hu; rcases hu with rfl | rfl | rfl | rfl | rfl | rfl | rfl <;> rfl, by0 := by decide }
theorem ET_22 : ElemT Try.prog 22 130 (.agg #[.int .i64 0, .slice none 0 0, .bool false]) 3 40 encSlot := { ht := Try.underlying22, hT := { info := by kernel_rfl, zs := rfl, pos := by decide }, hk := fun _ => rfl, h1 := by intro x u hu; simp [encSlot] at hu; rcases hu with rfl | rfl | rfl <;> rfl, by0 := by decide }
theorem ET_29 : ElemT Try.prog 29 99 (.agg #[.int .i64 0, .slice none 0 0, .bool false]) 3 40 encSlot := { ht := Try.underlying29, hT := { info := by kernel_rfl, zs := rfl, pos := by decide }, hk := fun _ => rfl, h1 := by intro x u hu; simp [encSlot] at hu; rcases hu with rfl | rfl | rfl <;> rfl, by0 := by decide }
theorem ET_36 : ElemT Try.prog 36 93 (.agg #[.int .i64 0, .int .i64 0, .int .i64 0, .int .i64 0, .slice none 0 0, .slice none 0 0, .slice none 0 0, .slice none 0 0, .slice none 0 0, .int .i64 0]) 10 160 encTx := { ht := Try.underlying36, hT := { info := by kernel_rfl, zs := rfl, pos := by decide }, hk := fun _ => rfl, h1 := by intro x u hu; unfold encTx at hu; simp only [List.mem_cons, List.not_mem_nil, or_false] at hu; rcases hu with rfl | rfl | rfl | rfl | rfl | rfl | rfl | rfl | rfl | rfl <;> rfl, by0 := by decide }
theorem ET_39 : ElemT Try.prog 39 71 (.agg #[.int .i64 0, .int .i64 0, .int .i64 0, .int .i64 0, .slice none 0 0, .slice none 0 0, .slice none 0 0, .slice none 0 0, .slice none 0 0, .int .i64 0]) 10 160 encTx := { ht := Try.underlying39, hT := { info := by kernel_rfl, zs := rfl, pos := by decide }, hk := fun _ => rfl, h1 := by intro x u hu; unfold encTx at hu; simp only [List.mem_cons, List.not_mem_nil, or_false] at hu; rcases hu with rfl | rfl | rfl | rfl | rfl | rfl | rfl | rfl | rfl | rfl <;> rfl, by0 := by decide }
theorem ET_53 : ElemT Try.prog 53 3 (.int .i64 0) 1 8 encI := { ht := Try.underlying53, hT := { info := by kernel_rfl, zs := rfl, pos := by decide }, hk := fun _ => rfl, h1 := by intro x u hu; simp [encI] at hu; subst hu; rfl, by0 := by decide }
theorem ET_61 : ElemT Try.prog 61 157 (.agg #[.int .i64 0, .int .i64 0, .int .i64 0, .slice none 0 0, .slice none 0 0, .int .i64 0, .int .i64 0, .bool false]) 8 96 encEntry := { ht := Try.underlying61, hT := { info := by kernel_rfl, zs := rfl, pos := by decide }, hk := fun _ => rfl, h1 := by intro x u hu; simp [encEntry] at hu; rcases hu with rfl | rfl | rfl | rfl | rfl | rfl | rfl | rfl <;> rfl, by0 := by decide }
theorem ET_62 : ElemT Try.prog 62 9 (.string ⟨#[]⟩) 1 16 encS := { ht := Try.underlying62, hT := { info := by kernel_rfl, zs := rfl, pos := by decide }, hk := fun _ => rfl, h1 := by intro x u hu; simp [encS] at hu; subst hu; rfl, by0 := by decide }
theorem ET_66 : ElemT Try.prog 66 148 (.agg #[.int .i64 0, .string ⟨#[]⟩, .string ⟨#[]⟩, .int .i64 0, .int .i64 0, .string ⟨#[]⟩]) 6 72 encK := { ht := Try.underlying66, hT := { info := by kernel_rfl, zs := rfl, pos := by decide }, hk := fun _ => rfl, h1 := by intro x u hu; simp [encK] at hu; rcases hu with rfl | rfl | rfl | rfl | rfl | rfl <;> rfl, by0 := by decide }
theorem ET_67 : ElemT Try.prog 67 151 (.agg #[.int .i64 0, .int .i64 0, .string ⟨#[]⟩]) 3 32 encR := { ht := Try.underlying67, hT := { info := by kernel_rfl, zs := rfl, pos := by decide }, hk := fun _ => rfl, h1 := by intro x u hu; simp [encR] at hu; rcases hu with rfl | rfl | rfl <;> rfl, by0 := by decide }
theorem ET_74 : ElemT Try.prog 74 144 (.agg #[.string ⟨#[]⟩, .string ⟨#[]⟩]) 2 32 encC := { ht := Try.underlying74, hT := { info := by kernel_rfl, zs := rfl, pos := by decide }, hk := fun _ => rfl, h1 := by intro x u hu; simp [encC] at hu; rcases hu with rfl | rfl <;> rfl, by0 := by decide }
theorem ET_75 : ElemT Try.prog 75 161 (.agg #[.int .i64 0, .int .i64 0, .int .i64 0, .slice none 0 0, .slice none 0 0, .int .i64 0, .int .i64 0, .bool false]) 8 96 encEntry := { ht := Try.underlying75, hT := { info := by kernel_rfl, zs := rfl, pos := by decide }, hk := fun _ => rfl, h1 := by intro x u hu; simp [encEntry] at hu; rcases hu with rfl | rfl | rfl | rfl | rfl | rfl | rfl | rfl <;> rfl, by0 := by decide }
theorem ET_89 : ElemT Try.prog 89 173 (.agg #[.int .i64 0, .string ⟨#[]⟩, .string ⟨#[]⟩, .int .i64 0, .int .i64 0, .string ⟨#[]⟩]) 6 72 encK := { ht := Try.underlying89, hT := { info := by kernel_rfl, zs := rfl, pos := by decide }, hk := fun _ => rfl, h1 := by intro x u hu; simp [encK] at hu; rcases hu with rfl | rfl | rfl | rfl | rfl | rfl <;> rfl, by0 := by decide }
theorem ET_90 : ElemT Try.prog 90 175 (.agg #[.int .i64 0, .int .i64 0, .string ⟨#[]⟩]) 3 32 encR := { ht := Try.underlying90, hT := { info := by kernel_rfl, zs := rfl, pos := by decide }, hk := fun _ => rfl, h1 := by intro x u hu; simp [encR] at hu; rcases hu with rfl | rfl | rfl <;> rfl, by0 := by decide }
theorem FI_130_0 : FI Try.prog 130 0 0 := fi_mk Try.underlying130 rfl rfl (k := 0) (by kernel_rfl)
theorem FI_130_1 : FI Try.prog 130 1 1 := fi_mk Try.underlying130 rfl rfl (k := 0) (by kernel_rfl)
theorem FI_130_2 : FI Try.prog 130 2 2 := fi_mk Try.underlying130 rfl rfl (k := 0) (by kernel_rfl)
theorem FI_148_0 : FI Try.prog 148 0 0 := fi_mk Try.underlying148 rfl rfl (k := 0) (by kernel_rfl)
theorem FI_148_1 : FI Try.prog 148 1 1 := fi_mk Try.underlying148 rfl rfl (k := 0) (by kernel_rfl)
theorem FI_148_2 : FI Try.prog 148 2 2 := fi_mk Try.underlying148 rfl rfl (k := 0) (by kernel_rfl)
theorem FI_148_3 : FI Try.prog 148 3 3 := fi_mk Try.underlying148 rfl rfl (k := 0) (by kernel_rfl)
theorem FI_148_4 : FI Try.prog 148 4 4 := fi_mk Try.underlying148 rfl rfl (k := 0) (by kernel_rfl)
theorem FI_148_5 : FI Try.prog 148 5 5 := fi_mk Try.underlying148 rfl rfl (k := 0) (by kernel_rfl)
theorem FI_151_0 : FI Try.prog 151 0 0 := fi_mk Try.underlying151 rfl rfl (k := 0) (by kernel_rfl)
theorem FI_151_1 : FI Try.prog 151 1 1 := fi_mk Try.underlying151 rfl rfl (k := 0) (by kernel_rfl)
theorem FI_151_2 : FI Try.prog 151 2 2 := fi_mk Try.underlying151 rfl rfl (k := 0) (by kernel_rfl)
theorem FI_157_0 : FI Try.prog 157 0 0 := fi_mk Try.underlying157 rfl rfl (k := 0) (by kernel_rfl)
theorem FI_157_1 : FI Try.prog 157 1 1 := fi_mk Try.underlying157 rfl rfl (k := 0) (by kernel_rfl)
theorem FI_157_2 : FI Try.prog 157 2 2 := fi_mk Try.underlying157 rfl rfl (k := 0) (by kernel_rfl)
theorem FI_157_3 : FI Try.prog 157 3 3 := fi_mk Try.underlying157 rfl rfl (k := 0) (by kernel_rfl)
theorem FI_157_4 : FI Try.prog 157 4 4 := fi_mk Try.underlying157 rfl rfl (k := 0) (by kernel_rfl)
theorem FI_157_5 : FI Try.prog 157 5 5 := fi_mk Try.underlying157 rfl rfl (k := 0) (by kernel_rfl)
theorem FI_157_6 : FI Try.prog 157 6 6 := fi_mk Try.underlying157 rfl rfl (k := 0) (by kernel_rfl)
theorem FI_157_7 : FI Try.prog 157 7 7 := fi_mk Try.underlying157 rfl rfl (k := 0) (by kernel_rfl)
theorem FI_161_0 : FI Try.prog 161 0 0 := fi_mk Try.underlying161 rfl rfl (k := 0) (by kernel_rfl)
theorem FI_161_1 : FI Try.prog 161 1 1 := fi_mk Try.underlying161 rfl rfl (k := 0) (by kernel_rfl)
theorem FI_161_2 : FI Try.prog 161 2 2 := fi_mk Try.underlying161 rfl rfl (k := 0) (by kernel_rfl)
theorem FI_161_3 : FI Try.prog 161 3 3 := fi_mk Try.underlying161 rfl rfl (k := 0) (by kernel_rfl)
theorem FI_161_4 : FI Try.prog 161 4 4 := fi_mk Try.underlying161 rfl rfl (k := 0) (by kernel_rfl)
theorem FI_161_5 : FI Try.prog 161 5 5 := fi_mk Try.underlying161 rfl rfl (k := 0) (by kernel_rfl)
theorem FI_161_6 : FI Try.prog 161 6 6 := fi_mk Try.underlying161 rfl rfl (k := 0) (by kernel_rfl)
theorem FI_161_7 : FI Try.prog 161 7 7 := fi_mk Try.underlying161 rfl rfl (k := 0) (by kernel_rfl)
theorem FI_173_0 : FI Try.prog 173 0 0 := fi_mk Try.underlying173 rfl rfl (k := 0) (by kernel_rfl)
theorem FI_173_1 : FI Try.prog 173 1 1 := fi_mk Try.underlying173 rfl rfl (k := 0) (by kernel_rfl)
theorem FI_173_2 : FI Try.prog 173 2 2 := fi_mk Try.underlying173 rfl rfl (k := 0) (by kernel_rfl)
theorem FI_173_3 : FI Try.prog 173 3 3 := fi_mk Try.underlying173 rfl rfl (k := 0) (by kernel_rfl)
theorem FI_173_4 : FI Try.prog 173 4 4 := fi_mk Try.underlying173 rfl rfl (k := 0) (by kernel_rfl)
theorem FI_173_5 : FI Try.prog 173 5 5 := fi_mk Try.underlying173 rfl rfl (k := 0) (by kernel_rfl)
theorem FI_175_0 : FI Try.prog 175 0 0 := fi_mk Try.underlying175 rfl rfl (k := 0) (by kernel_rfl)
theorem FI_175_1 : FI Try.prog 175 1 1 := fi_mk Try.underlying175 rfl rfl (k := 0) (by kernel_rfl)
theorem FI_175_2 : FI Try.prog 175 2 2 := fi_mk Try.underlying175 rfl rfl (k := 0) (by kernel_rfl)
theorem FI_183_0 : FI Try.prog 183 0 0 := fi_mk Try.underlying183 rfl rfl (k := 0) (by kernel_rfl)
theorem FI_183_1 : FI Try.prog 183 1 1 := fi_mk Try.underlying183 rfl rfl (k := 5) (by kernel_rfl)
theorem FI_186_0 : FI Try.prog 186 0 0 := fi_mk Try.underlying186 rfl rfl (k := 0) (by kernel_rfl)
theorem FI_186_1 : FI Try.prog 186 1 1 := fi_mk Try.underlying186 rfl rfl (k := 5) (by kernel_rfl)
theorem FI_24_0 : FI Try.prog 24 0 0 := fi_mk Try.underlying24 rfl rfl (k := 0) (by kernel_rfl)
theorem FI_24_1 : FI Try.prog 24 1 1 := fi_mk Try.underlying24 rfl rfl (k := 0) (by kernel_rfl)
theorem FI_26_0 : FI Try.prog 26 0 0 := fi_mk Try.underlying26 rfl rfl (k := 0) (by kernel_rfl)
theorem FI_26_1 : FI Try.prog 26 1 1 := fi_mk Try.underlying26 rfl rfl (k := 1) (by kernel_rfl)
theorem FI_30_0 : FI Try.prog 30 0 0 := fi_mk Try.underlying30 rfl rfl (k := 0) (by kernel_rfl)
theorem FI_30_1 : FI Try.prog 30 1 1 := fi_mk Try.underlying30 rfl rfl (k := 0) (by kernel_rfl)
theorem FI_32_0 : FI Try.prog 32 0 0 := fi_mk Try.underlying32 rfl rfl (k := 0) (by kernel_rfl)
theorem FI_32_1 : FI Try.prog 32 1 1 := fi_mk Try.underlying32 rfl rfl (k := 1) (by kernel_rfl)
theorem FI_64_0 : FI Try.prog 64 0 0 := fi_mk Try.underlying64 rfl rfl (k := 0) (by kernel_rfl)
theorem FI_64_1 : FI Try.prog 64 1 1 := fi_mk Try.underlying64 rfl rfl (k := 0) (by kernel_rfl)
theorem FI_64_2 : FI Try.prog 64 2 2 := fi_mk Try.underlying64 rfl rfl (k := 2) (by kernel_rfl)
theorem FI_64_3 : FI Try.prog 64 3 5 := fi_mk Try.underlying64 rfl rfl (k := 0) (by kernel_rfl)
theorem FI_64_4 : FI Try.prog 64 4 6 := fi_mk Try.underlying64 rfl rfl (k := 0) (by kernel_rfl)
theorem FI_64_5 : FI Try.prog 64 5 7 := fi_mk Try.underlying64 rfl rfl (k := 0) (by kernel_rfl)
theorem FI_64_6 : FI Try.prog 64 6 8 := fi_mk Try.underlying64 rfl rfl (k := 0) (by kernel_rfl)
theorem FI_64_7 : FI Try.prog 64 7 9 := fi_mk Try.underlying64 rfl rfl (k := 0) (by kernel_rfl)
theorem FI_64_8 : FI Try.prog 64 8 10 := fi_mk Try.underlying64 rfl rfl (k := 0) (by kernel_rfl)
theorem FI_69_0 : FI Try.prog 69 0 0 := fi_mk Try.underlying69 rfl rfl (k := 0) (by kernel_rfl)
theorem FI_69_1 : FI Try.prog 69 1 1 := fi_mk Try.underlying69 rfl rfl (k := 0) (by kernel_rfl)
theorem FI_71_0 : FI Try.prog 71 0 0 := fi_mk Try.underlying71 rfl rfl (k := 0) (by kernel_rfl)
theorem FI_71_1 : FI Try.prog 71 1 1 := fi_mk Try.underlying71 rfl rfl (k := 0) (by kernel_rfl)
theorem FI_71_2 : FI Try.prog 71 2 2 := fi_mk Try.underlying71 rfl rfl (k := 0) (by kernel_rfl)
theorem FI_71_3 : FI Try.prog 71 3 3 := fi_mk Try.underlying71 rfl rfl (k := 0) (by kernel_rfl)
theorem FI_71_4 : FI Try.prog 71 4 4 := fi_mk Try.underlying71 rfl rfl (k := 0) (by kernel_rfl)
theorem FI_71_5 : FI Try.prog 71 5 5 := fi_mk Try.underlying71 rfl rfl (k := 0) (by kernel_rfl)
theorem FI_71_6 : FI Try.prog 71 6 6 := fi_mk Try.underlying71 rfl rfl (k := 1) (by kernel_rfl)
theorem FI_71_7 : FI Try.prog 71 7 8 := fi_mk Try.underlying71 rfl rfl (k := 0) (by kernel_rfl)
theorem FI_71_8 : FI Try.prog 71 8 9 := fi_mk Try.underlying71 rfl rfl (k := 0) (by kernel_rfl)
theorem FI_77_0 : FI Try.prog 77 0 0 := fi_mk Try.underlying77 rfl rfl (k := 0) (by kernel_rfl)
theorem FI_77_1 : FI Try.prog 77 1 1 := fi_mk Try.underlying77 rfl rfl (k := 0) (by kernel_rfl)
theorem FI_77_2 : FI Try.prog 77 2 2 := fi_mk Try.underlying77 rfl rfl (k := 2) (by kernel_rfl)
theorem FI_77_3 : FI Try.prog 77 3 5 := fi_mk Try.underlying77 rfl rfl (k := 0) (by kernel_rfl)
theorem FI_77_4 : FI Try.prog 77 4 6 := fi_mk Try.underlying77 rfl rfl (k := 0) (by kernel_rfl)
theorem FI_77_5 : FI Try.prog 77 5 7 := fi_mk Try.underlying77 rfl rfl (k := 0) (by kernel_rfl)
theorem FI_77_6 : FI Try.prog 77 6 8 := fi_mk Try.underlying77 rfl rfl (k := 0) (by kernel_rfl)
theorem FI_77_7 : FI Try.prog 77 7 9 := fi_mk Try.underlying77 rfl rfl (k := 0) (by kernel_rfl)
theorem FI_77_8 : FI Try.prog 77 8 10 := fi_mk Try.underlying77 rfl rfl (k := 0) (by kernel_rfl)
theorem FI_91_0 : FI Try.prog 91 0 0 := fi_mk Try.underlying91 rfl rfl (k := 0) (by kernel_rfl)
theorem FI_91_1 : FI Try.prog 91 1 1 := fi_mk Try.underlying91 rfl rfl (k := 0) (by kernel_rfl)
theorem FI_93_0 : FI Try.prog 93 0 0 := fi_mk Try.underlying93 rfl rfl (k := 0) (by kernel_rfl)
theorem FI_93_1 : FI Try.prog 93 1 1 := fi_mk Try.underlying93 rfl rfl (k := 0) (by kernel_rfl)
theorem FI_93_2 : FI Try.prog 93 2 2 := fi_mk Try.underlying93 rfl rfl (k := 0) (by kernel_rfl)
theorem FI_93_3 : FI Try.prog 93 3 3 := fi_mk Try.underlying93 rfl rfl (k := 0) (by kernel_rfl)
theorem FI_93_4 : FI Try.prog 93 4 4 := fi_mk Try.underlying93 rfl rfl (k := 0) (by kernel_rfl)
theorem FI_93_5 : FI Try.prog 93 5 5 := fi_mk Try.underlying93 rfl rfl (k := 0) (by kernel_rfl)
theorem FI_93_6 : FI Try.prog 93 6 6 := fi_mk Try.underlying93 rfl rfl (k := 1) (by kernel_rfl)
theorem FI_93_7 : FI Try.prog 93 7 8 := fi_mk Try.underlying93 rfl rfl (k := 0) (by kernel_rfl)
theorem FI_93_8 : FI Try.prog 93 8 9 := fi_mk Try.underlying93 rfl rfl (k := 0) (by kernel_rfl)
theorem FI_99_0 : FI Try.prog 99 0 0 := fi_mk Try.underlying99 rfl rfl (k := 0) (by kernel_rfl)
theorem FI_99_1 : FI Try.prog 99 1 1 := fi_mk Try.underlying99 rfl rfl (k := 0) (by kernel_rfl)
theorem FI_99_2 : FI Try.prog 99 2 2 := fi_mk Try.underlying99 rfl rfl (k := 0) (by kernel_rfl)
theorem mixed : Try.prog.follows .mixedOrders = true := by kernel_rfl
theorem TI_130 : TI Try.prog 130 true 3 := ti_mk Try.underlying130 rfl (by kernel_rfl)
theorem TI_148 : TI Try.prog 148 true 6 := ti_mk Try.underlying148 rfl (by kernel_rfl)
theorem TI_151 : TI Try.prog 151 true 3 := ti_mk Try.underlying151 rfl (by kernel_rfl)
theorem TI_155 : TI Try.prog 155 false 1 := ti_mk Try.underlying155 rfl (by kernel_rfl)
theorem TI_157 : TI Try.prog 157 true 8 := ti_mk Try.underlying157 rfl (by kernel_rfl)
theorem TI_159 : TI Try.prog 159 false 1 := ti_mk Try.underlying159 rfl (by kernel_rfl)
theorem TI_161 : TI Try.prog 161 true 8 := ti_mk Try.underlying161 rfl (by kernel_rfl)
theorem TI_173 : TI Try.prog 173 true 6 := ti_mk Try.underlying173 rfl (by kernel_rfl)
theorem TI_175 : TI Try.prog 175 true 3 := ti_mk Try.underlying175 rfl (by kernel_rfl)
theorem TI_183 : TI Try.prog 183 true 7 := ti_mk Try.underlying183 rfl (by kernel_rfl)
theorem TI_186 : TI Try.prog 186 true 7 := ti_mk Try.underlying186 rfl (by kernel_rfl)
theorem TI_22 : TI Try.prog 22 false 1 := ti_mk Try.underlying22 rfl (by kernel_rfl)
theorem TI_24 : TI Try.prog 24 true 2 := ti_mk Try.underlying24 rfl (by kernel_rfl)
theorem TI_26 : TI Try.prog 26 true 3 := ti_mk Try.underlying26 rfl (by kernel_rfl)
theorem TI_29 : TI Try.prog 29 false 1 := ti_mk Try.underlying29 rfl (by kernel_rfl)
theorem TI_3 : TI Try.prog 3 false 1 := ti_mk Try.underlying3 rfl (by kernel_rfl)
theorem TI_30 : TI Try.prog 30 true 2 := ti_mk Try.underlying30 rfl (by kernel_rfl)
theorem TI_32 : TI Try.prog 32 true 3 := ti_mk Try.underlying32 rfl (by kernel_rfl)
theorem TI_36 : TI Try.prog 36 false 1 := ti_mk Try.underlying36 rfl (by kernel_rfl)
theorem TI_39 : TI Try.prog 39 false 1 := ti_mk Try.underlying39 rfl (by kernel_rfl)
theorem TI_4 : TI Try.prog 4 false 1 := ti_mk Try.underlying4 rfl (by kernel_rfl)
theorem TI_53 : TI Try.prog 53 false 1 := ti_mk Try.underlying53 rfl (by kernel_rfl)
theorem TI_60 : TI Try.prog 60 false 1 := ti_mk Try.underlying60 rfl (by kernel_rfl)
theorem TI_61 : TI Try.prog 61 false 1 := ti_mk Try.underlying61 rfl (by kernel_rfl)
theorem TI_62 : TI Try.prog 62 false 1 := ti_mk Try.underlying62 rfl (by kernel_rfl)
theorem TI_64 : TI Try.prog 64 true 11 := ti_mk Try.underlying64 rfl (by kernel_rfl)
theorem TI_66 : TI Try.prog 66 false 1 := ti_mk Try.underlying66 rfl (by kernel_rfl)
theorem TI_67 : TI Try.prog 67 false 1 := ti_mk Try.underlying67 rfl (by kernel_rfl)
theorem TI_69 : TI Try.prog 69 true 2 := ti_mk Try.underlying69 rfl (by kernel_rfl)
theorem TI_71 : TI Try.prog 71 true 10 := ti_mk Try.underlying71 rfl (by kernel_rfl)
theorem TI_74 : TI Try.prog 74 false 1 := ti_mk Try.underlying74 rfl (by kernel_rfl)
theorem TI_75 : TI Try.prog 75 false 1 := ti_mk Try.underlying75 rfl (by kernel_rfl)
theorem TI_77 : TI Try.prog 77 true 11 := ti_mk Try.underlying77 rfl (by kernel_rfl)
theorem TI_89 : TI Try.prog 89 false 1 := ti_mk Try.underlying89 rfl (by kernel_rfl)
theorem TI_9 : TI Try.prog 9 false 1 := ti_mk Try.underlying9 rfl (by kernel_rfl)
theorem TI_90 : TI Try.prog 90 false 1 := ti_mk Try.underlying90 rfl (by kernel_rfl)
theorem TI_91 : TI Try.prog 91 true 2 := ti_mk Try.underlying91 rfl (by kernel_rfl)
theorem TI_93 : TI Try.prog 93 true 10 := ti_mk Try.underlying93 rfl (by kernel_rfl)
theorem TI_99 : TI Try.prog 99 true 3 := ti_mk Try.underlying99 rfl (by kernel_rfl)
theorem ZI_148 : ZI Try.prog 148 (.agg #[.int .i64 0, .string (⟨#[]⟩ : ByteArray), .string (⟨#[]⟩ : ByteArray), .int .i64 0, .int .i64 0, .string (⟨#[]⟩ : ByteArray)]) := zi_mk (by kernel_rfl)
theorem ZI_151 : ZI Try.prog 151 (.agg #[.int .i64 0, .int .i64 0, .string (⟨#[]⟩ : ByteArray)]) := zi_mk (by kernel_rfl)
theorem ZI_161 : ZI Try.prog 161 (.agg #[.int .i64 0, .int .i64 0, .int .i64 0, .slice none 0 0, .slice none 0 0, .int .i64 0, .int .i64 0, .bool false]) := zi_mk (by kernel_rfl)
theorem ZI_183 : ZI Try.prog 183 (.agg #[.int .i64 0, .int .i64 0, .string (⟨#[]⟩ : ByteArray), .string (⟨#[]⟩ : ByteArray), .int .i64 0, .int .i64 0, .string (⟨#[]⟩ : ByteArray)]) := zi_mk (by kernel_rfl)
theorem ZI_30 : ZI Try.prog 30 (.agg #[.string (⟨#[]⟩ : ByteArray), .int .i64 0]) := zi_mk (by kernel_rfl)
theorem ZI_32 : ZI Try.prog 32 (.agg #[.slice none 0 0, .string (⟨#[]⟩ : ByteArray), .int .i64 0]) := zi_mk (by kernel_rfl)
theorem ZI_69 : ZI Try.prog 69 (.agg #[.slice none 0 0, .slice none 0 0]) := zi_mk (by kernel_rfl)
theorem ZI_71 : ZI Try.prog 71 (.agg #[.int .i64 0, .int .i64 0, .int .i64 0, .int .i64 0, .slice none 0 0, .slice none 0 0, .slice none 0 0, .slice none 0 0, .slice none 0 0, .int .i64 0]) := zi_mk (by kernel_rfl)
theorem ZI_77 : ZI Try.prog 77 (.agg #[.slice none 0 0, .slice none 0 0, .slice none 0 0, .string (⟨#[]⟩ : ByteArray), .int .i64 0, .int .i64 0, .int .i64 0, .int .i64 0, .slice none 0 0, .slice none 0 0, .bool false]) := zi_mk (by kernel_rfl)
theorem ZI_99 : ZI Try.prog 99 (.agg #[.int .i64 0, .slice none 0 0, .bool false]) := zi_mk (by kernel_rfl)
end Go.Proofs.Ytgfilegkabbliaa
