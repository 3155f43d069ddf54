/-
  What the walks ask of the program: its types' shapes, its functions' bodies.
-/
import Derived.Test.YtbbkihijhdpliaaEng8
namespace Go.Proofs.Ytbbkihijhdpliaa
open Go.ChangeShapes Go.WideShapes Go.ChangeAt Go.RowKit
theorem BI_108 : BI Try.prog 108 [(0, 1), (1, 1), (2, 1)] [.slice none 0 0, .int .i64 0, .int .i64 0] := bi_mk2 Try.underlying108 (zv := .agg #[.slice none 0 0, .int .i64 0, .int .i64 0]) (by kernel_rfl) rfl (by kernel_rfl)
theorem BI_26 : BI Try.prog 26 [(0, 1), (1, 1)] [.slice none 0 0, .slice none 0 0] := bi_mk2 Try.underlying26 (zv := .agg #[.slice none 0 0, .slice none 0 0]) (by kernel_rfl) rfl (by kernel_rfl)
theorem BI_48 : BI Try.prog 48 [(0, 1), (1, 2)] [.slice none 0 0, .slice none 0 0, .slice none 0 0] := bi_mk2 Try.underlying48 (zv := .agg #[.slice none 0 0, .slice none 0 0, .slice none 0 0]) (by kernel_rfl) rfl (by kernel_rfl)
theorem BI_98 : BI Try.prog 98 [(0, 1), (1, 1)] [.string (⟨#[]⟩ : ByteArray), .string (⟨#[]⟩ : ByteArray)] := bi_mk2 Try.underlying98 (zv := .agg #[.string (⟨#[]⟩ : ByteArray), .string (⟨#[]⟩ : ByteArray)]) (by kernel_rfl) rfl (by kernel_rfl)
theorem CF_101 : CF Try.prog 101 := ⟨⟨_, _, Try.func101, rfl, by kernel_rfl⟩⟩
theorem CF_102 : CF Try.prog 102 := ⟨⟨_, _, Try.func102, rfl, by kernel_rfl⟩⟩
theorem CF_103 : CF Try.prog 103 := ⟨⟨_, _, Try.func103, rfl, by kernel_rfl⟩⟩
theorem CF_104 : CF Try.prog 104 := ⟨⟨_, _, Try.func104, rfl, by kernel_rfl⟩⟩
theorem CF_105 : CF Try.prog 105 := ⟨⟨_, _, Try.func105, rfl, by kernel_rfl⟩⟩
theorem CF_106 : CF Try.prog 106 := ⟨⟨_, _, Try.func106, rfl, by kernel_rfl⟩⟩
theorem CF_107 : CF Try.prog 107 := ⟨⟨_, _, Try.func107, rfl, by kernel_rfl⟩⟩
theorem CF_108 : CF Try.prog 108 := ⟨⟨_, _, Try.func108, rfl, by kernel_rfl⟩⟩
theorem CF_109 : CF Try.prog 109 := ⟨⟨_, _, Try.func109, rfl, by kernel_rfl⟩⟩
theorem CF_112 : CF Try.prog 112 := ⟨⟨_, _, Try.func112, rfl, by kernel_rfl⟩⟩
theorem CF_113 : CF Try.prog 113 := ⟨⟨_, _, Try.func113, rfl, by kernel_rfl⟩⟩
theorem CF_114 : CF Try.prog 114 := ⟨⟨_, _, Try.func114, rfl, by kernel_rfl⟩⟩
theorem CF_115 : CF Try.prog 115 := ⟨⟨_, _, Try.func115, rfl, by kernel_rfl⟩⟩
theorem CF_116 : CF Try.prog 116 := ⟨⟨_, _, Try.func116, rfl, by kernel_rfl⟩⟩
theorem CF_117 : CF Try.prog 117 := ⟨⟨_, _, Try.func117, rfl, by kernel_rfl⟩⟩
theorem CF_118 : CF Try.prog 118 := ⟨⟨_, _, Try.func118, rfl, by kernel_rfl⟩⟩
theorem CF_119 : CF Try.prog 119 := ⟨⟨_, _, Try.func119, rfl, by kernel_rfl⟩⟩
theorem CF_121 : CF Try.prog 121 := ⟨⟨_, _, Try.func121, rfl, by kernel_rfl⟩⟩
theorem CF_125 : CF Try.prog 125 := ⟨⟨_, _, Try.func125, rfl, by kernel_rfl⟩⟩
theorem CF_127 : CF Try.prog 127 := ⟨⟨_, _, Try.func127, rfl, by kernel_rfl⟩⟩
theorem CF_13 : CF Try.prog 13 := ⟨⟨_, _, Try.func13, rfl, by kernel_rfl⟩⟩
theorem CF_133 : CF Try.prog 133 := ⟨⟨_, _, Try.func133, rfl, by kernel_rfl⟩⟩
theorem CF_135 : CF Try.prog 135 := ⟨⟨_, _, Try.func135, rfl, by kernel_rfl⟩⟩
theorem CF_136 : CF Try.prog 136 := ⟨⟨_, _, Try.func136, rfl, by kernel_rfl⟩⟩
theorem CF_137 : CF Try.prog 137 := ⟨⟨_, _, Try.func137, rfl, by kernel_rfl⟩⟩
theorem CF_138 : CF Try.prog 138 := ⟨⟨_, _, Try.func138, rfl, by kernel_rfl⟩⟩
theorem CF_139 : CF Try.prog 139 := ⟨⟨_, _, Try.func139, rfl, by kernel_rfl⟩⟩
theorem CF_140 : CF Try.prog 140 := ⟨⟨_, _, Try.func140, rfl, by kernel_rfl⟩⟩
theorem CF_141 : CF Try.prog 141 := ⟨⟨_, _, Try.func141, rfl, by kernel_rfl⟩⟩
theorem CF_145 : CF Try.prog 145 := ⟨⟨_, _, Try.func145, rfl, by kernel_rfl⟩⟩
theorem CF_146 : CF Try.prog 146 := ⟨⟨_, _, Try.func146, rfl, by kernel_rfl⟩⟩
theorem CF_147 : CF Try.prog 147 := ⟨⟨_, _, Try.func147, rfl, by kernel_rfl⟩⟩
theorem CF_148 : CF Try.prog 148 := ⟨⟨_, _, Try.func148, rfl, by kernel_rfl⟩⟩
theorem CF_149 : CF Try.prog 149 := ⟨⟨_, _, Try.func149, rfl, by kernel_rfl⟩⟩
theorem CF_150 : CF Try.prog 150 := ⟨⟨_, _, Try.func150, rfl, by kernel_rfl⟩⟩
theorem CF_151 : CF Try.prog 151 := ⟨⟨_, _, Try.func151, rfl, by kernel_rfl⟩⟩
theorem CF_152 : CF Try.prog 152 := ⟨⟨_, _, Try.func152, rfl, by kernel_rfl⟩⟩
theorem CF_155 : CF Try.prog 155 := ⟨⟨_, _, Try.func155, rfl, by kernel_rfl⟩⟩
theorem CF_156 : CF Try.prog 156 := ⟨⟨_, _, Try.func156, rfl, by kernel_rfl⟩⟩
theorem CF_19 : CF Try.prog 19 := ⟨⟨_, _, Try.func19, rfl, by kernel_rfl⟩⟩
theorem CF_23 : CF Try.prog 23 := ⟨⟨_, _, Try.func23, rfl, by kernel_rfl⟩⟩
theorem CF_26 : CF Try.prog 26 := ⟨⟨_, _, Try.func26, rfl, by kernel_rfl⟩⟩
theorem CF_31 : CF Try.prog 31 := ⟨⟨_, _, Try.func31, rfl, by kernel_rfl⟩⟩
theorem CF_32 : CF Try.prog 32 := ⟨⟨_, _, Try.func32, rfl, by kernel_rfl⟩⟩
theorem CF_38 : CF Try.prog 38 := ⟨⟨_, _, Try.func38, rfl, by kernel_rfl⟩⟩
theorem CF_40 : CF Try.prog 40 := ⟨⟨_, _, Try.func40, rfl, by kernel_rfl⟩⟩
theorem CF_44 : CF Try.prog 44 := ⟨⟨_, _, Try.func44, rfl, by kernel_rfl⟩⟩
theorem CF_45 : CF Try.prog 45 := ⟨⟨_, _, Try.func45, rfl, by kernel_rfl⟩⟩
theorem CF_49 : CF Try.prog 49 := ⟨⟨_, _, Try.func49, rfl, by kernel_rfl⟩⟩
theorem CF_50 : CF Try.prog 50 := ⟨⟨_, _, Try.func50, rfl, by kernel_rfl⟩⟩
theorem CF_52 : CF Try.prog 52 := ⟨⟨_, _, Try.func52, rfl, by kernel_rfl⟩⟩
theorem CF_54 : CF Try.prog 54 := ⟨⟨_, _, Try.func54, rfl, by kernel_rfl⟩⟩
theorem CF_55 : CF Try.prog 55 := ⟨⟨_, _, Try.func55, rfl, by kernel_rfl⟩⟩
theorem CF_58 : CF Try.prog 58 := ⟨⟨_, _, Try.func58, rfl, by kernel_rfl⟩⟩
theorem CF_59 : CF Try.prog 59 := ⟨⟨_, _, Try.func59, rfl, by kernel_rfl⟩⟩
theorem CF_60 : CF Try.prog 60 := ⟨⟨_, _, Try.func60, rfl, by kernel_rfl⟩⟩
theorem CF_61 : CF Try.prog 61 := ⟨⟨_, _, Try.func61, rfl, by kernel_rfl⟩⟩
theorem CF_62 : CF Try.prog 62 := ⟨⟨_, _, Try.func62, rfl, by kernel_rfl⟩⟩
theorem CF_63 : CF Try.prog 63 := ⟨⟨_, _, Try.func63, rfl, by kernel_rfl⟩⟩
theorem CF_64 : CF Try.prog 64 := ⟨⟨_, _, Try.func64, rfl, by kernel_rfl⟩⟩
theorem CF_65 : CF Try.prog 65 := ⟨⟨_, _, Try.func65, rfl, by kernel_rfl⟩⟩
theorem CF_66 : CF Try.prog 66 := ⟨⟨_, _, Try.func66, rfl, by kernel_rfl⟩⟩
theorem CF_67 : CF Try.prog 67 := ⟨⟨_, _, Try.func67, rfl, by kernel_rfl⟩⟩
theorem CF_68 : CF Try.prog 68 := ⟨⟨_, _, Try.func68, rfl, by kernel_rfl⟩⟩
theorem CF_71 : CF Try.prog 71 := ⟨⟨_, _, Try.func71, rfl, by kernel_rfl⟩⟩
theorem CF_74 : CF Try.prog 74 := ⟨⟨_, _, Try.func74, rfl, by kernel_rfl⟩⟩
theorem CF_75 : CF Try.prog 75 := ⟨⟨_, _, Try.func75, rfl, by kernel_rfl⟩⟩
theorem CF_78 : CF Try.prog 78 := ⟨⟨_, _, Try.func78, rfl, by kernel_rfl⟩⟩
theorem CF_79 : CF Try.prog 79 := ⟨⟨_, _, Try.func79, rfl, by kernel_rfl⟩⟩
theorem CF_80 : CF Try.prog 80 := ⟨⟨_, _, Try.func80, rfl, by kernel_rfl⟩⟩
theorem CF_81 : CF Try.prog 81 := ⟨⟨_, _, Try.func81, rfl, by kernel_rfl⟩⟩
theorem CF_82 : CF Try.prog 82 := ⟨⟨_, _, Try.func82, rfl, by kernel_rfl⟩⟩
theorem CF_90 : CF Try.prog 90 := ⟨⟨_, _, Try.func90, rfl, by kernel_rfl⟩⟩
theorem CF_91 : CF Try.prog 91 := ⟨⟨_, _, Try.func91, rfl, by kernel_rfl⟩⟩
theorem CF_93 : CF Try.prog 93 := ⟨⟨_, _, Try.func93, rfl, by kernel_rfl⟩⟩
theorem CF_94 : CF Try.prog 94 := ⟨⟨_, _, Try.func94, rfl, by kernel_rfl⟩⟩
theorem CF_98 : CF Try.prog 98 := ⟨⟨_, _, Try.func98, rfl, by kernel_rfl⟩⟩
theorem CF_99 : CF Try.prog 99 := ⟨⟨_, _, Try.func99, rfl, by kernel_rfl⟩⟩
theorem ET_22 : ElemT Try.prog 22 9 (.string ⟨#[]⟩) 1 16 encS := { ht := Try.underlying22, hT := { info := by kernel_rfl, zs := rfl, pos := by decide }, hk := fun _ => rfl, h1 := by intro x u hu; simp [encS] at hu; subst hu; rfl, by0 := by decide }
theorem ET_32 : ElemT Try.prog 32 5 (.int .u8 0) 1 1 encB := { ht := Try.underlying32, hT := { info := by kernel_rfl, zs := rfl, pos := by decide }, hk := fun _ => rfl, h1 := by intro x u hu; simp [encB] at hu; subst hu; rfl, by0 := by decide }
theorem ET_46 : ElemT Try.prog 46 98 (.agg #[.string ⟨#[]⟩, .string ⟨#[]⟩]) 2 32 encC := { ht := Try.underlying46, hT := { info := by kernel_rfl, zs := rfl, pos := by decide }, hk := fun _ => rfl, h1 := by intro x u hu; simp [encC] at hu; rcases hu with rfl | rfl <;> rfl, by0 := by decide }
theorem FI_108_0 : FI Try.prog 108 0 0 := fi_mk Try.underlying108 rfl rfl (k := 0) (by kernel_rfl)
theorem FI_108_1 : FI Try.prog 108 1 1 := fi_mk Try.underlying108 rfl rfl (k := 0) (by kernel_rfl)
theorem FI_108_2 : FI Try.prog 108 2 2 := fi_mk Try.underlying108 rfl rfl (k := 0) (by kernel_rfl)
theorem FI_26_0 : FI Try.prog 26 0 0 := fi_mk Try.underlying26 rfl rfl (k := 0) (by kernel_rfl)
theorem FI_26_1 : FI Try.prog 26 1 1 := fi_mk Try.underlying26 rfl rfl (k := 0) (by kernel_rfl)
theorem FI_48_0 : FI Try.prog 48 0 0 := fi_mk Try.underlying48 rfl rfl (k := 0) (by kernel_rfl)
theorem FI_48_1 : FI Try.prog 48 1 1 := fi_mk Try.underlying48 rfl rfl (k := 1) (by kernel_rfl)
theorem FI_98_0 : FI Try.prog 98 0 0 := fi_mk Try.underlying98 rfl rfl (k := 0) (by kernel_rfl)
theorem FI_98_1 : FI Try.prog 98 1 1 := fi_mk Try.underlying98 rfl rfl (k := 0) (by kernel_rfl)
theorem FT_26_1 : FIT Try.prog 26 1 1 22 := ⟨⟨_, _, Try.underlying26, rfl, rfl, rfl⟩⟩
theorem FT_48_0 : FIT Try.prog 48 0 0 46 := ⟨⟨_, _, Try.underlying48, rfl, rfl, rfl⟩⟩
theorem FT_48_1 : FIT Try.prog 48 1 1 26 := ⟨⟨_, _, Try.underlying48, rfl, rfl, rfl⟩⟩
theorem mixed : Try.prog.follows .mixedOrders = true := by kernel_rfl
theorem TI_22 : TI Try.prog 22 false 1 := ti_mk Try.underlying22 rfl (by kernel_rfl)
theorem TI_26 : TI Try.prog 26 true 2 := ti_mk Try.underlying26 rfl (by kernel_rfl)
theorem TI_3 : TI Try.prog 3 false 1 := ti_mk Try.underlying3 rfl (by kernel_rfl)
theorem TI_32 : TI Try.prog 32 false 1 := ti_mk Try.underlying32 rfl (by kernel_rfl)
theorem TI_46 : TI Try.prog 46 false 1 := ti_mk Try.underlying46 rfl (by kernel_rfl)
theorem TI_48 : TI Try.prog 48 true 3 := ti_mk Try.underlying48 rfl (by kernel_rfl)
theorem TI_5 : TI Try.prog 5 false 1 := ti_mk Try.underlying5 rfl (by kernel_rfl)
theorem TI_9 : TI Try.prog 9 false 1 := ti_mk Try.underlying9 rfl (by kernel_rfl)
theorem TI_98 : TI Try.prog 98 true 2 := ti_mk Try.underlying98 rfl (by kernel_rfl)
theorem ZI_26 : ZI Try.prog 26 (.agg #[.slice none 0 0, .slice none 0 0]) := zi_mk (by kernel_rfl)
theorem ZI_48 : ZI Try.prog 48 (.agg #[.slice none 0 0, .slice none 0 0, .slice none 0 0]) := zi_mk (by kernel_rfl)
theorem ZI_98 : ZI Try.prog 98 (.agg #[.string (⟨#[]⟩ : ByteArray), .string (⟨#[]⟩ : ByteArray)]) := zi_mk (by kernel_rfl)
end Go.Proofs.Ytbbkihijhdpliaa
