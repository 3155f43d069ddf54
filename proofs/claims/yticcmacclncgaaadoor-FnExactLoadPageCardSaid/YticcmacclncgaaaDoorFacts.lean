/-
  What the walks ask of the program: its types' shapes, its functions' bodies.
-/
import Derived.Test.YticcmacclncgaaaDoorEng8
namespace Go.Proofs.YticcmacclncgaaaDoor
open Go.ChangeShapes Go.WideShapes Go.ChangeAt Go.RowKit
theorem BI_30 : BI Tryd.prog 30 [(0, 1), (1, 1)] [.slice none 0 0, .slice none 0 0] := bi_mk2 Tryd.underlying30 (zv := .agg #[.slice none 0 0, .slice none 0 0]) (by kernel_rfl) rfl (by kernel_rfl)
theorem BI_32 : BI Tryd.prog 32 [(0, 1), (1, 2)] [.slice none 0 0, .slice none 0 0, .slice none 0 0] := bi_mk2 Tryd.underlying32 (zv := .agg #[.slice none 0 0, .slice none 0 0, .slice none 0 0]) (by kernel_rfl) rfl (by kernel_rfl)
theorem CF_100 : CF Tryd.prog 100 := ⟨⟨_, _, Tryd.func100, rfl, by kernel_rfl⟩⟩
theorem CF_106 : CF Tryd.prog 106 := ⟨⟨_, _, Tryd.func106, rfl, by kernel_rfl⟩⟩
theorem CF_108 : CF Tryd.prog 108 := ⟨⟨_, _, Tryd.func108, rfl, by kernel_rfl⟩⟩
theorem CF_110 : CF Tryd.prog 110 := ⟨⟨_, _, Tryd.func110, rfl, by kernel_rfl⟩⟩
theorem CF_111 : CF Tryd.prog 111 := ⟨⟨_, _, Tryd.func111, rfl, by kernel_rfl⟩⟩
theorem CF_112 : CF Tryd.prog 112 := ⟨⟨_, _, Tryd.func112, rfl, by kernel_rfl⟩⟩
theorem CF_114 : CF Tryd.prog 114 := ⟨⟨_, _, Tryd.func114, rfl, by kernel_rfl⟩⟩
theorem CF_119 : CF Tryd.prog 119 := ⟨⟨_, _, Tryd.func119, rfl, by kernel_rfl⟩⟩
theorem CF_121 : CF Tryd.prog 121 := ⟨⟨_, _, Tryd.func121, rfl, by kernel_rfl⟩⟩
theorem CF_122 : CF Tryd.prog 122 := ⟨⟨_, _, Tryd.func122, rfl, by kernel_rfl⟩⟩
theorem CF_123 : CF Tryd.prog 123 := ⟨⟨_, _, Tryd.func123, rfl, by kernel_rfl⟩⟩
theorem CF_131 : CF Tryd.prog 131 := ⟨⟨_, _, Tryd.func131, rfl, by kernel_rfl⟩⟩
theorem CF_132 : CF Tryd.prog 132 := ⟨⟨_, _, Tryd.func132, rfl, by kernel_rfl⟩⟩
theorem CF_133 : CF Tryd.prog 133 := ⟨⟨_, _, Tryd.func133, rfl, by kernel_rfl⟩⟩
theorem CF_134 : CF Tryd.prog 134 := ⟨⟨_, _, Tryd.func134, rfl, by kernel_rfl⟩⟩
theorem CF_135 : CF Tryd.prog 135 := ⟨⟨_, _, Tryd.func135, rfl, by kernel_rfl⟩⟩
theorem CF_136 : CF Tryd.prog 136 := ⟨⟨_, _, Tryd.func136, rfl, by kernel_rfl⟩⟩
theorem CF_139 : CF Tryd.prog 139 := ⟨⟨_, _, Tryd.func139, rfl, by kernel_rfl⟩⟩
theorem CF_145 : CF Tryd.prog 145 := ⟨⟨_, _, Tryd.func145, rfl, by kernel_rfl⟩⟩
theorem CF_15 : CF Tryd.prog 15 := ⟨⟨_, _, Tryd.func15, rfl, by kernel_rfl⟩⟩
theorem CF_151 : CF Tryd.prog 151 := ⟨⟨_, _, Tryd.func151, rfl, by kernel_rfl⟩⟩
theorem CF_156 : CF Tryd.prog 156 := ⟨⟨_, _, Tryd.func156, rfl, by kernel_rfl⟩⟩
theorem CF_157 : CF Tryd.prog 157 := ⟨⟨_, _, Tryd.func157, rfl, by kernel_rfl⟩⟩
theorem CF_163 : CF Tryd.prog 163 := ⟨⟨_, _, Tryd.func163, rfl, by kernel_rfl⟩⟩
theorem CF_164 : CF Tryd.prog 164 := ⟨⟨_, _, Tryd.func164, rfl, by kernel_rfl⟩⟩
theorem CF_17 : CF Tryd.prog 17 := ⟨⟨_, _, Tryd.func17, rfl, by kernel_rfl⟩⟩
theorem CF_19 : CF Tryd.prog 19 := ⟨⟨_, _, Tryd.func19, rfl, by kernel_rfl⟩⟩
theorem CF_20 : CF Tryd.prog 20 := ⟨⟨_, _, Tryd.func20, rfl, by kernel_rfl⟩⟩
theorem CF_21 : CF Tryd.prog 21 := ⟨⟨_, _, Tryd.func21, rfl, by kernel_rfl⟩⟩
theorem CF_30 : CF Tryd.prog 30 := ⟨⟨_, _, Tryd.func30, rfl, by kernel_rfl⟩⟩
theorem CF_31 : CF Tryd.prog 31 := ⟨⟨_, _, Tryd.func31, rfl, by kernel_rfl⟩⟩
theorem CF_32 : CF Tryd.prog 32 := ⟨⟨_, _, Tryd.func32, rfl, by kernel_rfl⟩⟩
theorem CF_35 : CF Tryd.prog 35 := ⟨⟨_, _, Tryd.func35, rfl, by kernel_rfl⟩⟩
theorem CF_36 : CF Tryd.prog 36 := ⟨⟨_, _, Tryd.func36, rfl, by kernel_rfl⟩⟩
theorem CF_47 : CF Tryd.prog 47 := ⟨⟨_, _, Tryd.func47, rfl, by kernel_rfl⟩⟩
theorem CF_48 : CF Tryd.prog 48 := ⟨⟨_, _, Tryd.func48, rfl, by kernel_rfl⟩⟩
theorem CF_50 : CF Tryd.prog 50 := ⟨⟨_, _, Tryd.func50, rfl, by kernel_rfl⟩⟩
theorem CF_51 : CF Tryd.prog 51 := ⟨⟨_, _, Tryd.func51, rfl, by kernel_rfl⟩⟩
theorem CF_52 : CF Tryd.prog 52 := ⟨⟨_, _, Tryd.func52, rfl, by kernel_rfl⟩⟩
theorem CF_53 : CF Tryd.prog 53 := ⟨⟨_, _, Tryd.func53, rfl, by kernel_rfl⟩⟩
theorem CF_55 : CF Tryd.prog 55 := ⟨⟨_, _, Tryd.func55, rfl, by kernel_rfl⟩⟩
theorem CF_56 : CF Tryd.prog 56 := ⟨⟨_, _, Tryd.func56, rfl, by kernel_rfl⟩⟩
theorem CF_57 : CF Tryd.prog 57 := ⟨⟨_, _, Tryd.func57, rfl, by kernel_rfl⟩⟩
theorem CF_58 : CF Tryd.prog 58 := ⟨⟨_, _, Tryd.func58, rfl, by kernel_rfl⟩⟩
theorem CF_59 : CF Tryd.prog 59 := ⟨⟨_, _, Tryd.func59, rfl, by kernel_rfl⟩⟩
theorem CF_60 : CF Tryd.prog 60 := ⟨⟨_, _, Tryd.func60, rfl, by kernel_rfl⟩⟩
theorem CF_69 : CF Tryd.prog 69 := ⟨⟨_, _, Tryd.func69, rfl, by kernel_rfl⟩⟩
theorem CF_73 : CF Tryd.prog 73 := ⟨⟨_, _, Tryd.func73, rfl, by kernel_rfl⟩⟩
theorem CF_74 : CF Tryd.prog 74 := ⟨⟨_, _, Tryd.func74, rfl, by kernel_rfl⟩⟩
theorem CF_85 : CF Tryd.prog 85 := ⟨⟨_, _, Tryd.func85, rfl, by kernel_rfl⟩⟩
theorem CF_86 : CF Tryd.prog 86 := ⟨⟨_, _, Tryd.func86, rfl, by kernel_rfl⟩⟩
theorem CF_88 : CF Tryd.prog 88 := ⟨⟨_, _, Tryd.func88, rfl, by kernel_rfl⟩⟩
theorem CF_89 : CF Tryd.prog 89 := ⟨⟨_, _, Tryd.func89, rfl, by kernel_rfl⟩⟩
theorem CF_91 : CF Tryd.prog 91 := ⟨⟨_, _, Tryd.func91, rfl, by kernel_rfl⟩⟩
theorem CF_92 : CF Tryd.prog 92 := ⟨⟨_, _, Tryd.func92, rfl, by kernel_rfl⟩⟩
theorem CF_93 : CF Tryd.prog 93 := ⟨⟨_, _, Tryd.func93, rfl, by kernel_rfl⟩⟩
theorem CF_94 : CF Tryd.prog 94 := ⟨⟨_, _, Tryd.func94, rfl, by kernel_rfl⟩⟩
theorem CF_95 : CF Tryd.prog 95 := ⟨⟨_, _, Tryd.func95, rfl, by kernel_rfl⟩⟩
theorem CF_98 : CF Tryd.prog 98 := ⟨⟨_, _, Tryd.func98, rfl, by kernel_rfl⟩⟩
theorem CF_99 : CF Tryd.prog 99 := ⟨⟨_, _, Tryd.func99, rfl, by kernel_rfl⟩⟩
theorem ET_104 : ElemT Tryd.prog 104 5 (.int .u8 0) 1 1 encB := { ht := Tryd.underlying104, hT := { info := by kernel_rfl, zs := rfl, pos := by decide }, hk := fun _ => rfl, h1 := by intro x u hu; simp [encB] at hu; subst hu; rfl, by0 := by decide }
theorem ET_23 : ElemT Tryd.prog 23 9 (.string ⟨#[]⟩) 1 16 encS := { ht := Tryd.underlying23, hT := { info := by kernel_rfl, zs := rfl, pos := by decide }, hk := fun _ => rfl, h1 := by intro x u hu; simp [encS] at hu; subst hu; rfl, by0 := by decide }
theorem ET_29 : ElemT Tryd.prog 29 87 (.agg #[.string ⟨#[]⟩, .string ⟨#[]⟩]) 2 32 encC := { ht := Tryd.underlying29, hT := { info := by kernel_rfl, zs := rfl, pos := by decide }, hk := fun _ => rfl, h1 := by intro x u hu; simp [encC] at hu; rcases hu with rfl | rfl <;> rfl, by0 := by decide }
theorem FI_25_0 : FI Tryd.prog 25 0 0 := fi_mk Tryd.underlying25 rfl rfl (k := 0) (by kernel_rfl)
theorem FI_25_1 : FI Tryd.prog 25 1 1 := fi_mk Tryd.underlying25 rfl rfl (k := 0) (by kernel_rfl)
theorem FI_27_0 : FI Tryd.prog 27 0 0 := fi_mk Tryd.underlying27 rfl rfl (k := 0) (by kernel_rfl)
theorem FI_27_1 : FI Tryd.prog 27 1 1 := fi_mk Tryd.underlying27 rfl rfl (k := 1) (by kernel_rfl)
theorem FI_30_0 : FI Tryd.prog 30 0 0 := fi_mk Tryd.underlying30 rfl rfl (k := 0) (by kernel_rfl)
theorem FI_30_1 : FI Tryd.prog 30 1 1 := fi_mk Tryd.underlying30 rfl rfl (k := 0) (by kernel_rfl)
theorem FI_32_0 : FI Tryd.prog 32 0 0 := fi_mk Tryd.underlying32 rfl rfl (k := 0) (by kernel_rfl)
theorem FI_32_1 : FI Tryd.prog 32 1 1 := fi_mk Tryd.underlying32 rfl rfl (k := 1) (by kernel_rfl)
theorem FI_87_0 : FI Tryd.prog 87 0 0 := fi_mk Tryd.underlying87 rfl rfl (k := 0) (by kernel_rfl)
theorem FI_87_1 : FI Tryd.prog 87 1 1 := fi_mk Tryd.underlying87 rfl rfl (k := 0) (by kernel_rfl)
theorem mixed : Tryd.prog.follows .mixedOrders = true := by kernel_rfl
theorem TI_22 : TI Tryd.prog 22 false 1 := ti_mk Tryd.underlying22 rfl (by kernel_rfl)
theorem TI_23 : TI Tryd.prog 23 false 1 := ti_mk Tryd.underlying23 rfl (by kernel_rfl)
theorem TI_25 : TI Tryd.prog 25 true 2 := ti_mk Tryd.underlying25 rfl (by kernel_rfl)
theorem TI_27 : TI Tryd.prog 27 true 3 := ti_mk Tryd.underlying27 rfl (by kernel_rfl)
theorem TI_29 : TI Tryd.prog 29 false 1 := ti_mk Tryd.underlying29 rfl (by kernel_rfl)
theorem TI_30 : TI Tryd.prog 30 true 2 := ti_mk Tryd.underlying30 rfl (by kernel_rfl)
theorem TI_32 : TI Tryd.prog 32 true 3 := ti_mk Tryd.underlying32 rfl (by kernel_rfl)
theorem TI_87 : TI Tryd.prog 87 true 2 := ti_mk Tryd.underlying87 rfl (by kernel_rfl)
theorem TI_9 : TI Tryd.prog 9 false 1 := ti_mk Tryd.underlying9 rfl (by kernel_rfl)
theorem ZI_30 : ZI Tryd.prog 30 (.agg #[.slice none 0 0, .slice none 0 0]) := zi_mk (by kernel_rfl)
theorem ZI_32 : ZI Tryd.prog 32 (.agg #[.slice none 0 0, .slice none 0 0, .slice none 0 0]) := zi_mk (by kernel_rfl)
end Go.Proofs.YticcmacclncgaaaDoor
