/-
  What the walks ask of the program: its types' shapes, its functions' bodies.
-/
import Derived.Test.YtgfilegkabbliaaEng8
import Derived.Test.YtgfilegkabbliaaNest
namespace Go.Proofs.Ytgfilegkabbliaa
open Go.ChangeShapes Go.WideShapes Go.ChangeAt Go.RowKit
theorem BI_30 : BI Try.prog 30 [(0, 1), (1, 1)] [.string (⟨#[]⟩ : ByteArray), .int .i64 0] := bi_mk2 Try.underlying30 (zv := .agg #[.string (⟨#[]⟩ : ByteArray), .int .i64 0]) (by kernel_rfl) rfl (by kernel_rfl)
theorem BI_32 : BI Try.prog 32 [(0, 1), (1, 2)] [.slice none 0 0, .string (⟨#[]⟩ : ByteArray), .int .i64 0] := bi_mk2 Try.underlying32 (zv := .agg #[.slice none 0 0, .string (⟨#[]⟩ : ByteArray), .int .i64 0]) (by kernel_rfl) rfl (by kernel_rfl)
theorem BI_99 : BI Try.prog 99 [(0, 1), (1, 1), (2, 1)] [.int .i64 0, .slice none 0 0, .bool false] := bi_mk2 Try.underlying99 (zv := .agg #[.int .i64 0, .slice none 0 0, .bool false]) (by kernel_rfl) rfl (by kernel_rfl)
theorem CF_102 : CF Try.prog 102 := ⟨⟨_, _, Try.func102, rfl, by kernel_rfl⟩⟩
theorem CF_106 : CF Try.prog 106 := ⟨⟨_, _, Try.func106, rfl, by kernel_rfl⟩⟩
theorem CF_107 : CF Try.prog 107 := ⟨⟨_, _, Try.func107, rfl, by kernel_rfl⟩⟩
theorem CF_108 : CF Try.prog 108 := ⟨⟨_, _, Try.func108, rfl, by kernel_rfl⟩⟩
theorem CF_11 : CF Try.prog 11 := ⟨⟨_, _, Try.func11, rfl, by kernel_rfl⟩⟩
theorem CF_118 : CF Try.prog 118 := ⟨⟨_, _, Try.func118, rfl, by kernel_rfl⟩⟩
theorem CF_119 : CF Try.prog 119 := ⟨⟨_, _, Try.func119, rfl, by kernel_rfl⟩⟩
theorem CF_120 : CF Try.prog 120 := ⟨⟨_, _, Try.func120, rfl, by kernel_rfl⟩⟩
theorem CF_121 : CF Try.prog 121 := ⟨⟨_, _, Try.func121, rfl, by kernel_rfl⟩⟩
theorem CF_122 : CF Try.prog 122 := ⟨⟨_, _, Try.func122, rfl, by kernel_rfl⟩⟩
theorem CF_123 : CF Try.prog 123 := ⟨⟨_, _, Try.func123, rfl, by kernel_rfl⟩⟩
theorem CF_124 : CF Try.prog 124 := ⟨⟨_, _, Try.func124, rfl, by kernel_rfl⟩⟩
theorem CF_125 : CF Try.prog 125 := ⟨⟨_, _, Try.func125, rfl, by kernel_rfl⟩⟩
theorem CF_13 : CF Try.prog 13 := ⟨⟨_, _, Try.func13, rfl, by kernel_rfl⟩⟩
theorem CF_15 : CF Try.prog 15 := ⟨⟨_, _, Try.func15, rfl, by kernel_rfl⟩⟩
theorem CF_25 : CF Try.prog 25 := ⟨⟨_, _, Try.func25, rfl, by kernel_rfl⟩⟩
theorem CF_26 : CF Try.prog 26 := ⟨⟨_, _, Try.func26, rfl, by kernel_rfl⟩⟩
theorem CF_27 : CF Try.prog 27 := ⟨⟨_, _, Try.func27, rfl, by kernel_rfl⟩⟩
theorem CF_29 : CF Try.prog 29 := ⟨⟨_, _, Try.func29, rfl, by kernel_rfl⟩⟩
theorem CF_31 : CF Try.prog 31 := ⟨⟨_, _, Try.func31, rfl, by kernel_rfl⟩⟩
theorem CF_32 : CF Try.prog 32 := ⟨⟨_, _, Try.func32, rfl, by kernel_rfl⟩⟩
theorem CF_49 : CF Try.prog 49 := ⟨⟨_, _, Try.func49, rfl, by kernel_rfl⟩⟩
theorem CF_50 : CF Try.prog 50 := ⟨⟨_, _, Try.func50, rfl, by kernel_rfl⟩⟩
theorem CF_51 : CF Try.prog 51 := ⟨⟨_, _, Try.func51, rfl, by kernel_rfl⟩⟩
theorem CF_52 : CF Try.prog 52 := ⟨⟨_, _, Try.func52, rfl, by kernel_rfl⟩⟩
theorem CF_57 : CF Try.prog 57 := ⟨⟨_, _, Try.func57, rfl, by kernel_rfl⟩⟩
theorem CF_58 : CF Try.prog 58 := ⟨⟨_, _, Try.func58, rfl, by kernel_rfl⟩⟩
theorem CF_60 : CF Try.prog 60 := ⟨⟨_, _, Try.func60, rfl, by kernel_rfl⟩⟩
theorem CF_61 : CF Try.prog 61 := ⟨⟨_, _, Try.func61, rfl, by kernel_rfl⟩⟩
theorem CF_62 : CF Try.prog 62 := ⟨⟨_, _, Try.func62, rfl, by kernel_rfl⟩⟩
theorem CF_63 : CF Try.prog 63 := ⟨⟨_, _, Try.func63, rfl, by kernel_rfl⟩⟩
theorem CF_65 : CF Try.prog 65 := ⟨⟨_, _, Try.func65, rfl, by kernel_rfl⟩⟩
theorem CF_66 : CF Try.prog 66 := ⟨⟨_, _, Try.func66, rfl, by kernel_rfl⟩⟩
theorem CF_67 : CF Try.prog 67 := ⟨⟨_, _, Try.func67, rfl, by kernel_rfl⟩⟩
theorem CF_68 : CF Try.prog 68 := ⟨⟨_, _, Try.func68, rfl, by kernel_rfl⟩⟩
theorem CF_70 : CF Try.prog 70 := ⟨⟨_, _, Try.func70, rfl, by kernel_rfl⟩⟩
theorem CF_72 : CF Try.prog 72 := ⟨⟨_, _, Try.func72, rfl, by kernel_rfl⟩⟩
theorem CF_73 : CF Try.prog 73 := ⟨⟨_, _, Try.func73, rfl, by kernel_rfl⟩⟩
theorem CF_74 : CF Try.prog 74 := ⟨⟨_, _, Try.func74, rfl, by kernel_rfl⟩⟩
theorem CF_86 : CF Try.prog 86 := ⟨⟨_, _, Try.func86, rfl, by kernel_rfl⟩⟩
theorem CF_91 : CF Try.prog 91 := ⟨⟨_, _, Try.func91, rfl, by kernel_rfl⟩⟩
theorem CF_99 : CF Try.prog 99 := ⟨⟨_, _, Try.func99, rfl, by kernel_rfl⟩⟩
theorem ET_22 : ElemT Try.prog 22 130 (.agg #[.int .i64 0, .slice none 0 0, .bool false]) 3 40 encSlot := { ht := Try.underlying22, hT := { info := by kernel_rfl, zs := rfl, pos := by decide }, hk := fun _ => rfl, h1 := by intro x u hu; simp [encSlot] at hu; rcases hu with rfl | rfl | rfl <;> rfl, by0 := by decide }
theorem ET_29 : ElemT Try.prog 29 99 (.agg #[.int .i64 0, .slice none 0 0, .bool false]) 3 40 encSlot := { ht := Try.underlying29, hT := { info := by kernel_rfl, zs := rfl, pos := by decide }, hk := fun _ => rfl, h1 := by intro x u hu; simp [encSlot] at hu; rcases hu with rfl | rfl | rfl <;> rfl, by0 := by decide }
theorem ET_74 : ElemT Try.prog 74 144 (.agg #[.string ⟨#[]⟩, .string ⟨#[]⟩]) 2 32 encC := { ht := Try.underlying74, hT := { info := by kernel_rfl, zs := rfl, pos := by decide }, hk := fun _ => rfl, h1 := by intro x u hu; simp [encC] at hu; rcases hu with rfl | rfl <;> rfl, by0 := by decide }
theorem FI_130_0 : FI Try.prog 130 0 0 := fi_mk Try.underlying130 rfl rfl (k := 0) (by kernel_rfl)
theorem FI_130_1 : FI Try.prog 130 1 1 := fi_mk Try.underlying130 rfl rfl (k := 0) (by kernel_rfl)
theorem FI_130_2 : FI Try.prog 130 2 2 := fi_mk Try.underlying130 rfl rfl (k := 0) (by kernel_rfl)
theorem FI_144_0 : FI Try.prog 144 0 0 := fi_mk Try.underlying144 rfl rfl (k := 0) (by kernel_rfl)
theorem FI_144_1 : FI Try.prog 144 1 1 := fi_mk Try.underlying144 rfl rfl (k := 0) (by kernel_rfl)
theorem FI_24_0 : FI Try.prog 24 0 0 := fi_mk Try.underlying24 rfl rfl (k := 0) (by kernel_rfl)
theorem FI_24_1 : FI Try.prog 24 1 1 := fi_mk Try.underlying24 rfl rfl (k := 0) (by kernel_rfl)
theorem FI_26_0 : FI Try.prog 26 0 0 := fi_mk Try.underlying26 rfl rfl (k := 0) (by kernel_rfl)
theorem FI_26_1 : FI Try.prog 26 1 1 := fi_mk Try.underlying26 rfl rfl (k := 1) (by kernel_rfl)
theorem FI_30_0 : FI Try.prog 30 0 0 := fi_mk Try.underlying30 rfl rfl (k := 0) (by kernel_rfl)
theorem FI_30_1 : FI Try.prog 30 1 1 := fi_mk Try.underlying30 rfl rfl (k := 0) (by kernel_rfl)
theorem FI_32_0 : FI Try.prog 32 0 0 := fi_mk Try.underlying32 rfl rfl (k := 0) (by kernel_rfl)
theorem FI_32_1 : FI Try.prog 32 1 1 := fi_mk Try.underlying32 rfl rfl (k := 1) (by kernel_rfl)
theorem FI_99_0 : FI Try.prog 99 0 0 := fi_mk Try.underlying99 rfl rfl (k := 0) (by kernel_rfl)
theorem FI_99_1 : FI Try.prog 99 1 1 := fi_mk Try.underlying99 rfl rfl (k := 0) (by kernel_rfl)
theorem FI_99_2 : FI Try.prog 99 2 2 := fi_mk Try.underlying99 rfl rfl (k := 0) (by kernel_rfl)
theorem mixed : Try.prog.follows .mixedOrders = true := by kernel_rfl
theorem TI_130 : TI Try.prog 130 true 3 := ti_mk Try.underlying130 rfl (by kernel_rfl)
theorem TI_144 : TI Try.prog 144 true 2 := ti_mk Try.underlying144 rfl (by kernel_rfl)
theorem TI_22 : TI Try.prog 22 false 1 := ti_mk Try.underlying22 rfl (by kernel_rfl)
theorem TI_24 : TI Try.prog 24 true 2 := ti_mk Try.underlying24 rfl (by kernel_rfl)
theorem TI_26 : TI Try.prog 26 true 3 := ti_mk Try.underlying26 rfl (by kernel_rfl)
theorem TI_29 : TI Try.prog 29 false 1 := ti_mk Try.underlying29 rfl (by kernel_rfl)
theorem TI_3 : TI Try.prog 3 false 1 := ti_mk Try.underlying3 rfl (by kernel_rfl)
theorem TI_30 : TI Try.prog 30 true 2 := ti_mk Try.underlying30 rfl (by kernel_rfl)
theorem TI_32 : TI Try.prog 32 true 3 := ti_mk Try.underlying32 rfl (by kernel_rfl)
theorem TI_4 : TI Try.prog 4 false 1 := ti_mk Try.underlying4 rfl (by kernel_rfl)
theorem TI_60 : TI Try.prog 60 false 1 := ti_mk Try.underlying60 rfl (by kernel_rfl)
theorem TI_74 : TI Try.prog 74 false 1 := ti_mk Try.underlying74 rfl (by kernel_rfl)
theorem TI_9 : TI Try.prog 9 false 1 := ti_mk Try.underlying9 rfl (by kernel_rfl)
theorem TI_99 : TI Try.prog 99 true 3 := ti_mk Try.underlying99 rfl (by kernel_rfl)
theorem ZI_144 : ZI Try.prog 144 (.agg #[.string (⟨#[]⟩ : ByteArray), .string (⟨#[]⟩ : ByteArray)]) := zi_mk (by kernel_rfl)
theorem ZI_30 : ZI Try.prog 30 (.agg #[.string (⟨#[]⟩ : ByteArray), .int .i64 0]) := zi_mk (by kernel_rfl)
theorem ZI_32 : ZI Try.prog 32 (.agg #[.slice none 0 0, .string (⟨#[]⟩ : ByteArray), .int .i64 0]) := zi_mk (by kernel_rfl)
theorem ZI_99 : ZI Try.prog 99 (.agg #[.int .i64 0, .slice none 0 0, .bool false]) := zi_mk (by kernel_rfl)
end Go.Proofs.Ytgfilegkabbliaa
