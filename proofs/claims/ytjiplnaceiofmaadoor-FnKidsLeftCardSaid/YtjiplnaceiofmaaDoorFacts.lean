/-
  What the walks ask of the program: its types' shapes, its functions' bodies.
-/
import Derived.Test.YtjiplnaceiofmaaDoorEng8
namespace Go.Proofs.YtjiplnaceiofmaaDoor
open Go.ChangeShapes Go.WideShapes Go.ChangeAt Go.RowKit
def encI (n : Int) : List Value := [.int .i64 n]
def okI (n : Int) : Prop := i64ok n
theorem BI_103 : BI Tryd.prog 103 [(0, 1), (1, 1), (2, 1)] [.slice none 0 0, .int .i64 0, .int .i64 0] := bi_mk2 Tryd.underlying103 (zv := .agg #[.slice none 0 0, .int .i64 0, .int .i64 0]) (by kernel_rfl) rfl (by kernel_rfl)
theorem BI_29 : BI Tryd.prog 29 [(0, 1), (1, 1)] [.slice none 0 0, .slice none 0 0] := bi_mk2 Tryd.underlying29 (zv := .agg #[.slice none 0 0, .slice none 0 0]) (by kernel_rfl) rfl (by kernel_rfl)
theorem BI_31 : BI Tryd.prog 31 [(0, 1), (1, 2)] [.slice none 0 0, .slice none 0 0, .slice none 0 0] := bi_mk2 Tryd.underlying31 (zv := .agg #[.slice none 0 0, .slice none 0 0, .slice none 0 0]) (by kernel_rfl) rfl (by kernel_rfl)
theorem BI_81 : BI Tryd.prog 81 [(0, 1), (1, 1)] [.string (⟨#[]⟩ : ByteArray), .string (⟨#[]⟩ : ByteArray)] := bi_mk2 Tryd.underlying81 (zv := .agg #[.string (⟨#[]⟩ : ByteArray), .string (⟨#[]⟩ : ByteArray)]) (by kernel_rfl) rfl (by kernel_rfl)
theorem CF_100 : CF Tryd.prog 100 := ⟨⟨_, _, Tryd.func100, rfl, by kernel_rfl⟩⟩
theorem CF_101 : CF Tryd.prog 101 := ⟨⟨_, _, Tryd.func101, rfl, by kernel_rfl⟩⟩
theorem CF_102 : CF Tryd.prog 102 := ⟨⟨_, _, Tryd.func102, rfl, by kernel_rfl⟩⟩
theorem CF_103 : CF Tryd.prog 103 := ⟨⟨_, _, Tryd.func103, rfl, by kernel_rfl⟩⟩
theorem CF_107 : CF Tryd.prog 107 := ⟨⟨_, _, Tryd.func107, rfl, by kernel_rfl⟩⟩
theorem CF_111 : CF Tryd.prog 111 := ⟨⟨_, _, Tryd.func111, rfl, by kernel_rfl⟩⟩
theorem CF_112 : CF Tryd.prog 112 := ⟨⟨_, _, Tryd.func112, rfl, by kernel_rfl⟩⟩
theorem CF_113 : CF Tryd.prog 113 := ⟨⟨_, _, Tryd.func113, rfl, by kernel_rfl⟩⟩
theorem CF_128 : CF Tryd.prog 128 := ⟨⟨_, _, Tryd.func128, rfl, by kernel_rfl⟩⟩
theorem CF_129 : CF Tryd.prog 129 := ⟨⟨_, _, Tryd.func129, rfl, by kernel_rfl⟩⟩
theorem CF_131 : CF Tryd.prog 131 := ⟨⟨_, _, Tryd.func131, rfl, by kernel_rfl⟩⟩
theorem CF_132 : CF Tryd.prog 132 := ⟨⟨_, _, Tryd.func132, rfl, by kernel_rfl⟩⟩
theorem CF_137 : CF Tryd.prog 137 := ⟨⟨_, _, Tryd.func137, rfl, by kernel_rfl⟩⟩
theorem CF_138 : CF Tryd.prog 138 := ⟨⟨_, _, Tryd.func138, rfl, by kernel_rfl⟩⟩
theorem CF_139 : CF Tryd.prog 139 := ⟨⟨_, _, Tryd.func139, rfl, by kernel_rfl⟩⟩
theorem CF_148 : CF Tryd.prog 148 := ⟨⟨_, _, Tryd.func148, rfl, by kernel_rfl⟩⟩
theorem CF_149 : CF Tryd.prog 149 := ⟨⟨_, _, Tryd.func149, rfl, by kernel_rfl⟩⟩
theorem CF_15 : CF Tryd.prog 15 := ⟨⟨_, _, Tryd.func15, rfl, by kernel_rfl⟩⟩
theorem CF_150 : CF Tryd.prog 150 := ⟨⟨_, _, Tryd.func150, rfl, by kernel_rfl⟩⟩
theorem CF_151 : CF Tryd.prog 151 := ⟨⟨_, _, Tryd.func151, rfl, by kernel_rfl⟩⟩
theorem CF_152 : CF Tryd.prog 152 := ⟨⟨_, _, Tryd.func152, rfl, by kernel_rfl⟩⟩
theorem CF_157 : CF Tryd.prog 157 := ⟨⟨_, _, Tryd.func157, rfl, by kernel_rfl⟩⟩
theorem CF_158 : CF Tryd.prog 158 := ⟨⟨_, _, Tryd.func158, rfl, by kernel_rfl⟩⟩
theorem CF_159 : CF Tryd.prog 159 := ⟨⟨_, _, Tryd.func159, rfl, by kernel_rfl⟩⟩
theorem CF_16 : CF Tryd.prog 16 := ⟨⟨_, _, Tryd.func16, rfl, by kernel_rfl⟩⟩
theorem CF_164 : CF Tryd.prog 164 := ⟨⟨_, _, Tryd.func164, rfl, by kernel_rfl⟩⟩
theorem CF_17 : CF Tryd.prog 17 := ⟨⟨_, _, Tryd.func17, rfl, by kernel_rfl⟩⟩
theorem CF_19 : CF Tryd.prog 19 := ⟨⟨_, _, Tryd.func19, rfl, by kernel_rfl⟩⟩
theorem CF_24 : CF Tryd.prog 24 := ⟨⟨_, _, Tryd.func24, rfl, by kernel_rfl⟩⟩
theorem CF_25 : CF Tryd.prog 25 := ⟨⟨_, _, Tryd.func25, rfl, by kernel_rfl⟩⟩
theorem CF_37 : CF Tryd.prog 37 := ⟨⟨_, _, Tryd.func37, rfl, by kernel_rfl⟩⟩
theorem CF_38 : CF Tryd.prog 38 := ⟨⟨_, _, Tryd.func38, rfl, by kernel_rfl⟩⟩
theorem CF_39 : CF Tryd.prog 39 := ⟨⟨_, _, Tryd.func39, rfl, by kernel_rfl⟩⟩
theorem CF_49 : CF Tryd.prog 49 := ⟨⟨_, _, Tryd.func49, rfl, by kernel_rfl⟩⟩
theorem CF_50 : CF Tryd.prog 50 := ⟨⟨_, _, Tryd.func50, rfl, by kernel_rfl⟩⟩
theorem CF_51 : CF Tryd.prog 51 := ⟨⟨_, _, Tryd.func51, rfl, by kernel_rfl⟩⟩
theorem CF_52 : CF Tryd.prog 52 := ⟨⟨_, _, Tryd.func52, rfl, by kernel_rfl⟩⟩
theorem CF_54 : CF Tryd.prog 54 := ⟨⟨_, _, Tryd.func54, rfl, by kernel_rfl⟩⟩
theorem CF_56 : CF Tryd.prog 56 := ⟨⟨_, _, Tryd.func56, rfl, by kernel_rfl⟩⟩
theorem CF_57 : CF Tryd.prog 57 := ⟨⟨_, _, Tryd.func57, rfl, by kernel_rfl⟩⟩
theorem CF_58 : CF Tryd.prog 58 := ⟨⟨_, _, Tryd.func58, rfl, by kernel_rfl⟩⟩
theorem CF_59 : CF Tryd.prog 59 := ⟨⟨_, _, Tryd.func59, rfl, by kernel_rfl⟩⟩
theorem CF_60 : CF Tryd.prog 60 := ⟨⟨_, _, Tryd.func60, rfl, by kernel_rfl⟩⟩
theorem CF_70 : CF Tryd.prog 70 := ⟨⟨_, _, Tryd.func70, rfl, by kernel_rfl⟩⟩
theorem CF_71 : CF Tryd.prog 71 := ⟨⟨_, _, Tryd.func71, rfl, by kernel_rfl⟩⟩
theorem CF_72 : CF Tryd.prog 72 := ⟨⟨_, _, Tryd.func72, rfl, by kernel_rfl⟩⟩
theorem CF_74 : CF Tryd.prog 74 := ⟨⟨_, _, Tryd.func74, rfl, by kernel_rfl⟩⟩
theorem CF_75 : CF Tryd.prog 75 := ⟨⟨_, _, Tryd.func75, rfl, by kernel_rfl⟩⟩
theorem CF_91 : CF Tryd.prog 91 := ⟨⟨_, _, Tryd.func91, rfl, by kernel_rfl⟩⟩
theorem CF_92 : CF Tryd.prog 92 := ⟨⟨_, _, Tryd.func92, rfl, by kernel_rfl⟩⟩
theorem CF_93 : CF Tryd.prog 93 := ⟨⟨_, _, Tryd.func93, rfl, by kernel_rfl⟩⟩
theorem CF_94 : CF Tryd.prog 94 := ⟨⟨_, _, Tryd.func94, rfl, by kernel_rfl⟩⟩
theorem CF_96 : CF Tryd.prog 96 := ⟨⟨_, _, Tryd.func96, rfl, by kernel_rfl⟩⟩
theorem ET_22 : ElemT Tryd.prog 22 5 (.int .u8 0) 1 1 encB := { ht := Tryd.underlying22, hT := { info := by kernel_rfl, zs := rfl, pos := by decide }, hk := fun _ => rfl, h1 := by intro x u hu; simp [encB] at hu; subst hu; rfl, by0 := by decide }
theorem ET_24 : ElemT Tryd.prog 24 3 (.int .i64 0) 1 8 encI := { ht := Tryd.underlying24, hT := { info := by kernel_rfl, zs := rfl, pos := by decide }, hk := fun _ => rfl, h1 := by intro x u hu; simp [encI] at hu; subst hu; rfl, by0 := by decide }
theorem ET_26 : ElemT Tryd.prog 26 81 (.agg #[.string ⟨#[]⟩, .string ⟨#[]⟩]) 2 32 encC := { ht := Tryd.underlying26, hT := { info := by kernel_rfl, zs := rfl, pos := by decide }, hk := fun _ => rfl, h1 := by intro x u hu; simp [encC] at hu; rcases hu with rfl | rfl <;> rfl, by0 := by decide }
theorem ET_27 : ElemT Tryd.prog 27 9 (.string ⟨#[]⟩) 1 16 encS := { ht := Tryd.underlying27, hT := { info := by kernel_rfl, zs := rfl, pos := by decide }, hk := fun _ => rfl, h1 := by intro x u hu; simp [encS] at hu; subst hu; rfl, by0 := by decide }
theorem FI_103_0 : FI Tryd.prog 103 0 0 := fi_mk Tryd.underlying103 rfl rfl (k := 0) (by kernel_rfl)
theorem FI_103_1 : FI Tryd.prog 103 1 1 := fi_mk Tryd.underlying103 rfl rfl (k := 0) (by kernel_rfl)
theorem FI_103_2 : FI Tryd.prog 103 2 2 := fi_mk Tryd.underlying103 rfl rfl (k := 0) (by kernel_rfl)
theorem FI_29_0 : FI Tryd.prog 29 0 0 := fi_mk Tryd.underlying29 rfl rfl (k := 0) (by kernel_rfl)
theorem FI_29_1 : FI Tryd.prog 29 1 1 := fi_mk Tryd.underlying29 rfl rfl (k := 0) (by kernel_rfl)
theorem FI_31_0 : FI Tryd.prog 31 0 0 := fi_mk Tryd.underlying31 rfl rfl (k := 0) (by kernel_rfl)
theorem FI_31_1 : FI Tryd.prog 31 1 1 := fi_mk Tryd.underlying31 rfl rfl (k := 1) (by kernel_rfl)
theorem FI_81_0 : FI Tryd.prog 81 0 0 := fi_mk Tryd.underlying81 rfl rfl (k := 0) (by kernel_rfl)
theorem FI_81_1 : FI Tryd.prog 81 1 1 := fi_mk Tryd.underlying81 rfl rfl (k := 0) (by kernel_rfl)
theorem mixed : Tryd.prog.follows .mixedOrders = true := by kernel_rfl
theorem TI_22 : TI Tryd.prog 22 false 1 := ti_mk Tryd.underlying22 rfl (by kernel_rfl)
theorem TI_26 : TI Tryd.prog 26 false 1 := ti_mk Tryd.underlying26 rfl (by kernel_rfl)
theorem TI_27 : TI Tryd.prog 27 false 1 := ti_mk Tryd.underlying27 rfl (by kernel_rfl)
theorem TI_29 : TI Tryd.prog 29 true 2 := ti_mk Tryd.underlying29 rfl (by kernel_rfl)
theorem TI_3 : TI Tryd.prog 3 false 1 := ti_mk Tryd.underlying3 rfl (by kernel_rfl)
theorem TI_31 : TI Tryd.prog 31 true 3 := ti_mk Tryd.underlying31 rfl (by kernel_rfl)
theorem TI_5 : TI Tryd.prog 5 false 1 := ti_mk Tryd.underlying5 rfl (by kernel_rfl)
theorem TI_81 : TI Tryd.prog 81 true 2 := ti_mk Tryd.underlying81 rfl (by kernel_rfl)
theorem TI_9 : TI Tryd.prog 9 false 1 := ti_mk Tryd.underlying9 rfl (by kernel_rfl)
theorem ZI_29 : ZI Tryd.prog 29 (.agg #[.slice none 0 0, .slice none 0 0]) := zi_mk (by kernel_rfl)
theorem ZI_31 : ZI Tryd.prog 31 (.agg #[.slice none 0 0, .slice none 0 0, .slice none 0 0]) := zi_mk (by kernel_rfl)
theorem ZI_81 : ZI Tryd.prog 81 (.agg #[.string (⟨#[]⟩ : ByteArray), .string (⟨#[]⟩ : ByteArray)]) := zi_mk (by kernel_rfl)
end Go.Proofs.YtjiplnaceiofmaaDoor
