/-
  What the walks ask of the program: its types' shapes, its functions' bodies.
-/
import Derived.Test.YtbbkihijhdpliaaEng8
namespace Go.Proofs.Ytbbkihijhdpliaa
open Go.ChangeShapes Go.WideShapes Go.ChangeAt Go.RowKit
theorem BI_108 : BI Try.prog 108 [(0, 1), (1, 1), (2, 1)] [.slice none 0 0, .int .i64 0, .int .i64 0] := bi_mk2 Try.underlying108 (zv := .agg #[.slice none 0 0, .int .i64 0, .int .i64 0]) (by kernel_rfl) rfl (by kernel_rfl)
theorem BI_26 : BI Try.prog 26 [(0, 1), (1, 1)] [.slice none 0 0, .slice none 0 0] := bi_mk2 Try.underlying26 (zv := .agg #[.slice none 0 0, .slice none 0 0]) (by kernel_rfl) rfl (by kernel_rfl)
theorem CF_108 : CF Try.prog 108 := ⟨⟨_, _, Try.func108, rfl, by kernel_rfl⟩⟩
theorem CF_115 : CF Try.prog 115 := ⟨⟨_, _, Try.func115, rfl, by kernel_rfl⟩⟩
theorem CF_120 : CF Try.prog 120 := ⟨⟨_, _, Try.func120, rfl, by kernel_rfl⟩⟩
theorem CF_121 : CF Try.prog 121 := ⟨⟨_, _, Try.func121, rfl, by kernel_rfl⟩⟩
theorem CF_122 : CF Try.prog 122 := ⟨⟨_, _, Try.func122, rfl, by kernel_rfl⟩⟩
theorem CF_125 : CF Try.prog 125 := ⟨⟨_, _, Try.func125, rfl, by kernel_rfl⟩⟩
theorem CF_126 : CF Try.prog 126 := ⟨⟨_, _, Try.func126, rfl, by kernel_rfl⟩⟩
theorem CF_127 : CF Try.prog 127 := ⟨⟨_, _, Try.func127, rfl, by kernel_rfl⟩⟩
theorem CF_128 : CF Try.prog 128 := ⟨⟨_, _, Try.func128, rfl, by kernel_rfl⟩⟩
theorem CF_129 : CF Try.prog 129 := ⟨⟨_, _, Try.func129, rfl, by kernel_rfl⟩⟩
theorem CF_13 : CF Try.prog 13 := ⟨⟨_, _, Try.func13, rfl, by kernel_rfl⟩⟩
theorem CF_130 : CF Try.prog 130 := ⟨⟨_, _, Try.func130, rfl, by kernel_rfl⟩⟩
theorem CF_144 : CF Try.prog 144 := ⟨⟨_, _, Try.func144, rfl, by kernel_rfl⟩⟩
theorem CF_145 : CF Try.prog 145 := ⟨⟨_, _, Try.func145, rfl, by kernel_rfl⟩⟩
theorem CF_15 : CF Try.prog 15 := ⟨⟨_, _, Try.func15, rfl, by kernel_rfl⟩⟩
theorem CF_154 : CF Try.prog 154 := ⟨⟨_, _, Try.func154, rfl, by kernel_rfl⟩⟩
theorem CF_19 : CF Try.prog 19 := ⟨⟨_, _, Try.func19, rfl, by kernel_rfl⟩⟩
theorem CF_20 : CF Try.prog 20 := ⟨⟨_, _, Try.func20, rfl, by kernel_rfl⟩⟩
theorem CF_21 : CF Try.prog 21 := ⟨⟨_, _, Try.func21, rfl, by kernel_rfl⟩⟩
theorem CF_22 : CF Try.prog 22 := ⟨⟨_, _, Try.func22, rfl, by kernel_rfl⟩⟩
theorem CF_23 : CF Try.prog 23 := ⟨⟨_, _, Try.func23, rfl, by kernel_rfl⟩⟩
theorem CF_24 : CF Try.prog 24 := ⟨⟨_, _, Try.func24, rfl, by kernel_rfl⟩⟩
theorem CF_25 : CF Try.prog 25 := ⟨⟨_, _, Try.func25, rfl, by kernel_rfl⟩⟩
theorem CF_26 : CF Try.prog 26 := ⟨⟨_, _, Try.func26, rfl, by kernel_rfl⟩⟩
theorem CF_27 : CF Try.prog 27 := ⟨⟨_, _, Try.func27, rfl, by kernel_rfl⟩⟩
theorem CF_28 : CF Try.prog 28 := ⟨⟨_, _, Try.func28, rfl, by kernel_rfl⟩⟩
theorem CF_29 : CF Try.prog 29 := ⟨⟨_, _, Try.func29, rfl, by kernel_rfl⟩⟩
theorem CF_30 : CF Try.prog 30 := ⟨⟨_, _, Try.func30, rfl, by kernel_rfl⟩⟩
theorem CF_31 : CF Try.prog 31 := ⟨⟨_, _, Try.func31, rfl, by kernel_rfl⟩⟩
theorem CF_32 : CF Try.prog 32 := ⟨⟨_, _, Try.func32, rfl, by kernel_rfl⟩⟩
theorem CF_33 : CF Try.prog 33 := ⟨⟨_, _, Try.func33, rfl, by kernel_rfl⟩⟩
theorem CF_34 : CF Try.prog 34 := ⟨⟨_, _, Try.func34, rfl, by kernel_rfl⟩⟩
theorem CF_35 : CF Try.prog 35 := ⟨⟨_, _, Try.func35, rfl, by kernel_rfl⟩⟩
theorem CF_36 : CF Try.prog 36 := ⟨⟨_, _, Try.func36, rfl, by kernel_rfl⟩⟩
theorem CF_71 : CF Try.prog 71 := ⟨⟨_, _, Try.func71, rfl, by kernel_rfl⟩⟩
theorem CF_72 : CF Try.prog 72 := ⟨⟨_, _, Try.func72, rfl, by kernel_rfl⟩⟩
theorem CF_73 : CF Try.prog 73 := ⟨⟨_, _, Try.func73, rfl, by kernel_rfl⟩⟩
theorem CF_74 : CF Try.prog 74 := ⟨⟨_, _, Try.func74, rfl, by kernel_rfl⟩⟩
theorem CF_75 : CF Try.prog 75 := ⟨⟨_, _, Try.func75, rfl, by kernel_rfl⟩⟩
theorem CF_76 : CF Try.prog 76 := ⟨⟨_, _, Try.func76, rfl, by kernel_rfl⟩⟩
theorem CF_77 : CF Try.prog 77 := ⟨⟨_, _, Try.func77, rfl, by kernel_rfl⟩⟩
theorem CF_78 : CF Try.prog 78 := ⟨⟨_, _, Try.func78, rfl, by kernel_rfl⟩⟩
theorem CF_79 : CF Try.prog 79 := ⟨⟨_, _, Try.func79, rfl, by kernel_rfl⟩⟩
theorem CF_80 : CF Try.prog 80 := ⟨⟨_, _, Try.func80, rfl, by kernel_rfl⟩⟩
theorem CF_81 : CF Try.prog 81 := ⟨⟨_, _, Try.func81, rfl, by kernel_rfl⟩⟩
theorem CF_82 : CF Try.prog 82 := ⟨⟨_, _, Try.func82, rfl, by kernel_rfl⟩⟩
theorem CF_83 : CF Try.prog 83 := ⟨⟨_, _, Try.func83, rfl, by kernel_rfl⟩⟩
theorem CF_84 : CF Try.prog 84 := ⟨⟨_, _, Try.func84, rfl, by kernel_rfl⟩⟩
theorem CF_85 : CF Try.prog 85 := ⟨⟨_, _, Try.func85, rfl, by kernel_rfl⟩⟩
theorem CF_86 : CF Try.prog 86 := ⟨⟨_, _, Try.func86, rfl, by kernel_rfl⟩⟩
theorem CF_87 : CF Try.prog 87 := ⟨⟨_, _, Try.func87, rfl, by kernel_rfl⟩⟩
theorem CF_88 : CF Try.prog 88 := ⟨⟨_, _, Try.func88, rfl, by kernel_rfl⟩⟩
theorem ET_22 : ElemT Try.prog 22 9 (.string ⟨#[]⟩) 1 16 encS := { ht := Try.underlying22, hT := { info := by kernel_rfl, zs := rfl, pos := by decide }, hk := fun _ => rfl, h1 := by intro x u hu; simp [encS] at hu; subst hu; rfl, by0 := by decide }
theorem ET_32 : ElemT Try.prog 32 5 (.int .u8 0) 1 1 encB := { ht := Try.underlying32, hT := { info := by kernel_rfl, zs := rfl, pos := by decide }, hk := fun _ => rfl, h1 := by intro x u hu; simp [encB] at hu; subst hu; rfl, by0 := by decide }
theorem FI_108_0 : FI Try.prog 108 0 0 := fi_mk Try.underlying108 rfl rfl (k := 0) (by kernel_rfl)
theorem FI_108_1 : FI Try.prog 108 1 1 := fi_mk Try.underlying108 rfl rfl (k := 0) (by kernel_rfl)
theorem FI_108_2 : FI Try.prog 108 2 2 := fi_mk Try.underlying108 rfl rfl (k := 0) (by kernel_rfl)
theorem FI_26_0 : FI Try.prog 26 0 0 := fi_mk Try.underlying26 rfl rfl (k := 0) (by kernel_rfl)
theorem FI_26_1 : FI Try.prog 26 1 1 := fi_mk Try.underlying26 rfl rfl (k := 0) (by kernel_rfl)
theorem mixed : Try.prog.follows .mixedOrders = true := by kernel_rfl
theorem TI_22 : TI Try.prog 22 false 1 := ti_mk Try.underlying22 rfl (by kernel_rfl)
theorem TI_26 : TI Try.prog 26 true 2 := ti_mk Try.underlying26 rfl (by kernel_rfl)
theorem TI_3 : TI Try.prog 3 false 1 := ti_mk Try.underlying3 rfl (by kernel_rfl)
theorem TI_32 : TI Try.prog 32 false 1 := ti_mk Try.underlying32 rfl (by kernel_rfl)
theorem TI_5 : TI Try.prog 5 false 1 := ti_mk Try.underlying5 rfl (by kernel_rfl)
theorem TI_9 : TI Try.prog 9 false 1 := ti_mk Try.underlying9 rfl (by kernel_rfl)
theorem ZI_26 : ZI Try.prog 26 (.agg #[.slice none 0 0, .slice none 0 0]) := zi_mk (by kernel_rfl)
theorem ZI_9 : ZI Try.prog 9 (.string (⟨#[]⟩ : ByteArray)) := zi_mk (by kernel_rfl)
end Go.Proofs.Ytbbkihijhdpliaa
