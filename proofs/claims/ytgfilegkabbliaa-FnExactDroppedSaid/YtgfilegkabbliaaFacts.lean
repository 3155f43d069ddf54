/-
  What the walks ask of the program: its types' shapes, its functions' bodies.
-/
import Derived.Test.YtgfilegkabbliaaEng8
import Derived.Test.YtgfilegkabbliaaNest
namespace Go.Proofs.Ytgfilegkabbliaa
open Go.ChangeShapes Go.WideShapes Go.ChangeAt Go.RowKit
theorem BI_69 : BI Try.prog 69 [(0, 1), (1, 1)] [.slice none 0 0, .slice none 0 0] := bi_mk2 Try.underlying69 (zv := .agg #[.slice none 0 0, .slice none 0 0]) (by kernel_rfl) rfl (by kernel_rfl)
theorem CF_101 : CF Try.prog 101 := ⟨⟨_, _, Try.func101, rfl, by kernel_rfl⟩⟩
theorem CF_109 : CF Try.prog 109 := ⟨⟨_, _, Try.func109, rfl, by kernel_rfl⟩⟩
theorem CF_110 : CF Try.prog 110 := ⟨⟨_, _, Try.func110, rfl, by kernel_rfl⟩⟩
theorem CF_111 : CF Try.prog 111 := ⟨⟨_, _, Try.func111, rfl, by kernel_rfl⟩⟩
theorem CF_112 : CF Try.prog 112 := ⟨⟨_, _, Try.func112, rfl, by kernel_rfl⟩⟩
theorem CF_113 : CF Try.prog 113 := ⟨⟨_, _, Try.func113, rfl, by kernel_rfl⟩⟩
theorem CF_114 : CF Try.prog 114 := ⟨⟨_, _, Try.func114, rfl, by kernel_rfl⟩⟩
theorem CF_115 : CF Try.prog 115 := ⟨⟨_, _, Try.func115, rfl, by kernel_rfl⟩⟩
theorem CF_126 : CF Try.prog 126 := ⟨⟨_, _, Try.func126, rfl, by kernel_rfl⟩⟩
theorem CF_127 : CF Try.prog 127 := ⟨⟨_, _, Try.func127, rfl, by kernel_rfl⟩⟩
theorem CF_134 : CF Try.prog 134 := ⟨⟨_, _, Try.func134, rfl, by kernel_rfl⟩⟩
theorem CF_135 : CF Try.prog 135 := ⟨⟨_, _, Try.func135, rfl, by kernel_rfl⟩⟩
theorem CF_136 : CF Try.prog 136 := ⟨⟨_, _, Try.func136, rfl, by kernel_rfl⟩⟩
theorem CF_137 : CF Try.prog 137 := ⟨⟨_, _, Try.func137, rfl, by kernel_rfl⟩⟩
theorem CF_138 : CF Try.prog 138 := ⟨⟨_, _, Try.func138, rfl, by kernel_rfl⟩⟩
theorem CF_139 : CF Try.prog 139 := ⟨⟨_, _, Try.func139, rfl, by kernel_rfl⟩⟩
theorem CF_143 : CF Try.prog 143 := ⟨⟨_, _, Try.func143, rfl, by kernel_rfl⟩⟩
theorem CF_144 : CF Try.prog 144 := ⟨⟨_, _, Try.func144, rfl, by kernel_rfl⟩⟩
theorem CF_145 : CF Try.prog 145 := ⟨⟨_, _, Try.func145, rfl, by kernel_rfl⟩⟩
theorem CF_146 : CF Try.prog 146 := ⟨⟨_, _, Try.func146, rfl, by kernel_rfl⟩⟩
theorem CF_149 : CF Try.prog 149 := ⟨⟨_, _, Try.func149, rfl, by kernel_rfl⟩⟩
theorem CF_16 : CF Try.prog 16 := ⟨⟨_, _, Try.func16, rfl, by kernel_rfl⟩⟩
theorem CF_18 : CF Try.prog 18 := ⟨⟨_, _, Try.func18, rfl, by kernel_rfl⟩⟩
theorem CF_20 : CF Try.prog 20 := ⟨⟨_, _, Try.func20, rfl, by kernel_rfl⟩⟩
theorem CF_33 : CF Try.prog 33 := ⟨⟨_, _, Try.func33, rfl, by kernel_rfl⟩⟩
theorem CF_34 : CF Try.prog 34 := ⟨⟨_, _, Try.func34, rfl, by kernel_rfl⟩⟩
theorem CF_35 : CF Try.prog 35 := ⟨⟨_, _, Try.func35, rfl, by kernel_rfl⟩⟩
theorem CF_36 : CF Try.prog 36 := ⟨⟨_, _, Try.func36, rfl, by kernel_rfl⟩⟩
theorem CF_37 : CF Try.prog 37 := ⟨⟨_, _, Try.func37, rfl, by kernel_rfl⟩⟩
theorem CF_38 : CF Try.prog 38 := ⟨⟨_, _, Try.func38, rfl, by kernel_rfl⟩⟩
theorem CF_39 : CF Try.prog 39 := ⟨⟨_, _, Try.func39, rfl, by kernel_rfl⟩⟩
theorem CF_44 : CF Try.prog 44 := ⟨⟨_, _, Try.func44, rfl, by kernel_rfl⟩⟩
theorem CF_53 : CF Try.prog 53 := ⟨⟨_, _, Try.func53, rfl, by kernel_rfl⟩⟩
theorem CF_55 : CF Try.prog 55 := ⟨⟨_, _, Try.func55, rfl, by kernel_rfl⟩⟩
theorem CF_75 : CF Try.prog 75 := ⟨⟨_, _, Try.func75, rfl, by kernel_rfl⟩⟩
theorem CF_76 : CF Try.prog 76 := ⟨⟨_, _, Try.func76, rfl, by kernel_rfl⟩⟩
theorem CF_77 : CF Try.prog 77 := ⟨⟨_, _, Try.func77, rfl, by kernel_rfl⟩⟩
theorem CF_78 : CF Try.prog 78 := ⟨⟨_, _, Try.func78, rfl, by kernel_rfl⟩⟩
theorem CF_79 : CF Try.prog 79 := ⟨⟨_, _, Try.func79, rfl, by kernel_rfl⟩⟩
theorem CF_80 : CF Try.prog 80 := ⟨⟨_, _, Try.func80, rfl, by kernel_rfl⟩⟩
theorem CF_81 : CF Try.prog 81 := ⟨⟨_, _, Try.func81, rfl, by kernel_rfl⟩⟩
theorem CF_82 : CF Try.prog 82 := ⟨⟨_, _, Try.func82, rfl, by kernel_rfl⟩⟩
theorem CF_83 : CF Try.prog 83 := ⟨⟨_, _, Try.func83, rfl, by kernel_rfl⟩⟩
theorem CF_84 : CF Try.prog 84 := ⟨⟨_, _, Try.func84, rfl, by kernel_rfl⟩⟩
theorem CF_85 : CF Try.prog 85 := ⟨⟨_, _, Try.func85, rfl, by kernel_rfl⟩⟩
theorem CF_88 : CF Try.prog 88 := ⟨⟨_, _, Try.func88, rfl, by kernel_rfl⟩⟩
theorem CF_90 : CF Try.prog 90 := ⟨⟨_, _, Try.func90, rfl, by kernel_rfl⟩⟩
theorem CF_93 : CF Try.prog 93 := ⟨⟨_, _, Try.func93, rfl, by kernel_rfl⟩⟩
theorem CF_95 : CF Try.prog 95 := ⟨⟨_, _, Try.func95, rfl, by kernel_rfl⟩⟩
theorem CF_96 : CF Try.prog 96 := ⟨⟨_, _, Try.func96, rfl, by kernel_rfl⟩⟩
theorem CF_97 : CF Try.prog 97 := ⟨⟨_, _, Try.func97, rfl, by kernel_rfl⟩⟩
theorem CF_98 : CF Try.prog 98 := ⟨⟨_, _, Try.func98, rfl, by kernel_rfl⟩⟩
theorem ET_36 : ElemT Try.prog 36 93 (.agg #[.int .i64 0, .int .i64 0, .int .i64 0, .int .i64 0, .slice none 0 0, .slice none 0 0, .slice none 0 0, .slice none 0 0, .slice none 0 0, .int .i64 0]) 10 160 encTx := { ht := Try.underlying36, hT := { info := by kernel_rfl, zs := rfl, pos := by decide }, hk := fun _ => rfl, h1 := by intro x u hu; unfold encTx at hu; simp only [List.mem_cons, List.not_mem_nil, or_false] at hu; rcases hu with rfl | rfl | rfl | rfl | rfl | rfl | rfl | rfl | rfl | rfl <;> rfl, by0 := by decide }
theorem ET_39 : ElemT Try.prog 39 71 (.agg #[.int .i64 0, .int .i64 0, .int .i64 0, .int .i64 0, .slice none 0 0, .slice none 0 0, .slice none 0 0, .slice none 0 0, .slice none 0 0, .int .i64 0]) 10 160 encTx := { ht := Try.underlying39, hT := { info := by kernel_rfl, zs := rfl, pos := by decide }, hk := fun _ => rfl, h1 := by intro x u hu; unfold encTx at hu; simp only [List.mem_cons, List.not_mem_nil, or_false] at hu; rcases hu with rfl | rfl | rfl | rfl | rfl | rfl | rfl | rfl | rfl | rfl <;> rfl, by0 := by decide }
theorem ET_53 : ElemT Try.prog 53 3 (.int .i64 0) 1 8 encI := { ht := Try.underlying53, hT := { info := by kernel_rfl, zs := rfl, pos := by decide }, hk := fun _ => rfl, h1 := by intro x u hu; simp [encI] at hu; subst hu; rfl, by0 := by decide }
theorem ET_62 : ElemT Try.prog 62 9 (.string ⟨#[]⟩) 1 16 encS := { ht := Try.underlying62, hT := { info := by kernel_rfl, zs := rfl, pos := by decide }, hk := fun _ => rfl, h1 := by intro x u hu; simp [encS] at hu; subst hu; rfl, by0 := by decide }
theorem ET_66 : ElemT Try.prog 66 148 (.agg #[.int .i64 0, .string ⟨#[]⟩, .string ⟨#[]⟩, .int .i64 0, .int .i64 0, .string ⟨#[]⟩]) 6 72 encK := { ht := Try.underlying66, hT := { info := by kernel_rfl, zs := rfl, pos := by decide }, hk := fun _ => rfl, h1 := by intro x u hu; simp [encK] at hu; rcases hu with rfl | rfl | rfl | rfl | rfl | rfl <;> rfl, by0 := by decide }
theorem ET_67 : ElemT Try.prog 67 151 (.agg #[.int .i64 0, .int .i64 0, .string ⟨#[]⟩]) 3 32 encR := { ht := Try.underlying67, hT := { info := by kernel_rfl, zs := rfl, pos := by decide }, hk := fun _ => rfl, h1 := by intro x u hu; simp [encR] at hu; rcases hu with rfl | rfl | rfl <;> rfl, by0 := by decide }
theorem ET_89 : ElemT Try.prog 89 173 (.agg #[.int .i64 0, .string ⟨#[]⟩, .string ⟨#[]⟩, .int .i64 0, .int .i64 0, .string ⟨#[]⟩]) 6 72 encK := { ht := Try.underlying89, hT := { info := by kernel_rfl, zs := rfl, pos := by decide }, hk := fun _ => rfl, h1 := by intro x u hu; simp [encK] at hu; rcases hu with rfl | rfl | rfl | rfl | rfl | rfl <;> rfl, by0 := by decide }
theorem ET_90 : ElemT Try.prog 90 175 (.agg #[.int .i64 0, .int .i64 0, .string ⟨#[]⟩]) 3 32 encR := { ht := Try.underlying90, hT := { info := by kernel_rfl, zs := rfl, pos := by decide }, hk := fun _ => rfl, h1 := by intro x u hu; simp [encR] at hu; rcases hu with rfl | rfl | rfl <;> rfl, by0 := by decide }
theorem FI_148_0 : FI Try.prog 148 0 0 := fi_mk Try.underlying148 rfl rfl (k := 0) (by kernel_rfl)
theorem FI_148_1 : FI Try.prog 148 1 1 := fi_mk Try.underlying148 rfl rfl (k := 0) (by kernel_rfl)
theorem FI_148_2 : FI Try.prog 148 2 2 := fi_mk Try.underlying148 rfl rfl (k := 0) (by kernel_rfl)
theorem FI_148_3 : FI Try.prog 148 3 3 := fi_mk Try.underlying148 rfl rfl (k := 0) (by kernel_rfl)
theorem FI_148_4 : FI Try.prog 148 4 4 := fi_mk Try.underlying148 rfl rfl (k := 0) (by kernel_rfl)
theorem FI_148_5 : FI Try.prog 148 5 5 := fi_mk Try.underlying148 rfl rfl (k := 0) (by kernel_rfl)
theorem FI_151_0 : FI Try.prog 151 0 0 := fi_mk Try.underlying151 rfl rfl (k := 0) (by kernel_rfl)
theorem FI_151_1 : FI Try.prog 151 1 1 := fi_mk Try.underlying151 rfl rfl (k := 0) (by kernel_rfl)
theorem FI_151_2 : FI Try.prog 151 2 2 := fi_mk Try.underlying151 rfl rfl (k := 0) (by kernel_rfl)
theorem FI_173_0 : FI Try.prog 173 0 0 := fi_mk Try.underlying173 rfl rfl (k := 0) (by kernel_rfl)
theorem FI_173_1 : FI Try.prog 173 1 1 := fi_mk Try.underlying173 rfl rfl (k := 0) (by kernel_rfl)
theorem FI_173_2 : FI Try.prog 173 2 2 := fi_mk Try.underlying173 rfl rfl (k := 0) (by kernel_rfl)
theorem FI_173_3 : FI Try.prog 173 3 3 := fi_mk Try.underlying173 rfl rfl (k := 0) (by kernel_rfl)
theorem FI_173_4 : FI Try.prog 173 4 4 := fi_mk Try.underlying173 rfl rfl (k := 0) (by kernel_rfl)
theorem FI_173_5 : FI Try.prog 173 5 5 := fi_mk Try.underlying173 rfl rfl (k := 0) (by kernel_rfl)
theorem FI_175_0 : FI Try.prog 175 0 0 := fi_mk Try.underlying175 rfl rfl (k := 0) (by kernel_rfl)
theorem FI_175_1 : FI Try.prog 175 1 1 := fi_mk Try.underlying175 rfl rfl (k := 0) (by kernel_rfl)
theorem FI_175_2 : FI Try.prog 175 2 2 := fi_mk Try.underlying175 rfl rfl (k := 0) (by kernel_rfl)
theorem FI_69_0 : FI Try.prog 69 0 0 := fi_mk Try.underlying69 rfl rfl (k := 0) (by kernel_rfl)
theorem FI_69_1 : FI Try.prog 69 1 1 := fi_mk Try.underlying69 rfl rfl (k := 0) (by kernel_rfl)
theorem FI_71_0 : FI Try.prog 71 0 0 := fi_mk Try.underlying71 rfl rfl (k := 0) (by kernel_rfl)
theorem FI_71_1 : FI Try.prog 71 1 1 := fi_mk Try.underlying71 rfl rfl (k := 0) (by kernel_rfl)
theorem FI_71_2 : FI Try.prog 71 2 2 := fi_mk Try.underlying71 rfl rfl (k := 0) (by kernel_rfl)
theorem FI_71_3 : FI Try.prog 71 3 3 := fi_mk Try.underlying71 rfl rfl (k := 0) (by kernel_rfl)
theorem FI_71_4 : FI Try.prog 71 4 4 := fi_mk Try.underlying71 rfl rfl (k := 0) (by kernel_rfl)
theorem FI_71_5 : FI Try.prog 71 5 5 := fi_mk Try.underlying71 rfl rfl (k := 0) (by kernel_rfl)
theorem FI_71_6 : FI Try.prog 71 6 6 := fi_mk Try.underlying71 rfl rfl (k := 1) (by kernel_rfl)
theorem FI_71_7 : FI Try.prog 71 7 8 := fi_mk Try.underlying71 rfl rfl (k := 0) (by kernel_rfl)
theorem FI_71_8 : FI Try.prog 71 8 9 := fi_mk Try.underlying71 rfl rfl (k := 0) (by kernel_rfl)
theorem FI_91_0 : FI Try.prog 91 0 0 := fi_mk Try.underlying91 rfl rfl (k := 0) (by kernel_rfl)
theorem FI_91_1 : FI Try.prog 91 1 1 := fi_mk Try.underlying91 rfl rfl (k := 0) (by kernel_rfl)
theorem FI_93_0 : FI Try.prog 93 0 0 := fi_mk Try.underlying93 rfl rfl (k := 0) (by kernel_rfl)
theorem FI_93_1 : FI Try.prog 93 1 1 := fi_mk Try.underlying93 rfl rfl (k := 0) (by kernel_rfl)
theorem FI_93_2 : FI Try.prog 93 2 2 := fi_mk Try.underlying93 rfl rfl (k := 0) (by kernel_rfl)
theorem FI_93_3 : FI Try.prog 93 3 3 := fi_mk Try.underlying93 rfl rfl (k := 0) (by kernel_rfl)
theorem FI_93_4 : FI Try.prog 93 4 4 := fi_mk Try.underlying93 rfl rfl (k := 0) (by kernel_rfl)
theorem FI_93_5 : FI Try.prog 93 5 5 := fi_mk Try.underlying93 rfl rfl (k := 0) (by kernel_rfl)
theorem FI_93_6 : FI Try.prog 93 6 6 := fi_mk Try.underlying93 rfl rfl (k := 1) (by kernel_rfl)
theorem FI_93_7 : FI Try.prog 93 7 8 := fi_mk Try.underlying93 rfl rfl (k := 0) (by kernel_rfl)
theorem FI_93_8 : FI Try.prog 93 8 9 := fi_mk Try.underlying93 rfl rfl (k := 0) (by kernel_rfl)
theorem mixed : Try.prog.follows .mixedOrders = true := by kernel_rfl
theorem TI_148 : TI Try.prog 148 true 6 := ti_mk Try.underlying148 rfl (by kernel_rfl)
theorem TI_151 : TI Try.prog 151 true 3 := ti_mk Try.underlying151 rfl (by kernel_rfl)
theorem TI_173 : TI Try.prog 173 true 6 := ti_mk Try.underlying173 rfl (by kernel_rfl)
theorem TI_175 : TI Try.prog 175 true 3 := ti_mk Try.underlying175 rfl (by kernel_rfl)
theorem TI_3 : TI Try.prog 3 false 1 := ti_mk Try.underlying3 rfl (by kernel_rfl)
theorem TI_53 : TI Try.prog 53 false 1 := ti_mk Try.underlying53 rfl (by kernel_rfl)
theorem TI_62 : TI Try.prog 62 false 1 := ti_mk Try.underlying62 rfl (by kernel_rfl)
theorem TI_66 : TI Try.prog 66 false 1 := ti_mk Try.underlying66 rfl (by kernel_rfl)
theorem TI_67 : TI Try.prog 67 false 1 := ti_mk Try.underlying67 rfl (by kernel_rfl)
theorem TI_69 : TI Try.prog 69 true 2 := ti_mk Try.underlying69 rfl (by kernel_rfl)
theorem TI_71 : TI Try.prog 71 true 10 := ti_mk Try.underlying71 rfl (by kernel_rfl)
theorem TI_89 : TI Try.prog 89 false 1 := ti_mk Try.underlying89 rfl (by kernel_rfl)
theorem TI_9 : TI Try.prog 9 false 1 := ti_mk Try.underlying9 rfl (by kernel_rfl)
theorem TI_90 : TI Try.prog 90 false 1 := ti_mk Try.underlying90 rfl (by kernel_rfl)
theorem TI_91 : TI Try.prog 91 true 2 := ti_mk Try.underlying91 rfl (by kernel_rfl)
theorem TI_93 : TI Try.prog 93 true 10 := ti_mk Try.underlying93 rfl (by kernel_rfl)
theorem ZI_148 : ZI Try.prog 148 (.agg #[.int .i64 0, .string (⟨#[]⟩ : ByteArray), .string (⟨#[]⟩ : ByteArray), .int .i64 0, .int .i64 0, .string (⟨#[]⟩ : ByteArray)]) := zi_mk (by kernel_rfl)
theorem ZI_151 : ZI Try.prog 151 (.agg #[.int .i64 0, .int .i64 0, .string (⟨#[]⟩ : ByteArray)]) := zi_mk (by kernel_rfl)
theorem ZI_69 : ZI Try.prog 69 (.agg #[.slice none 0 0, .slice none 0 0]) := zi_mk (by kernel_rfl)
theorem ZI_71 : ZI Try.prog 71 (.agg #[.int .i64 0, .int .i64 0, .int .i64 0, .int .i64 0, .slice none 0 0, .slice none 0 0, .slice none 0 0, .slice none 0 0, .slice none 0 0, .int .i64 0]) := zi_mk (by kernel_rfl)
end Go.Proofs.Ytgfilegkabbliaa
