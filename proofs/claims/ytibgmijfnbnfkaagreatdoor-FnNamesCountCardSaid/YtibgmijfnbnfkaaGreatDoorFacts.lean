/-
  What the walks ask of the program: its types' shapes, its functions' bodies.
-/
import Derived.Test.YtibgmijfnbnfkaaGreatDoorEng8
namespace Go.Proofs.YtibgmijfnbnfkaaGreatDoor
open Go.ChangeShapes Go.WideShapes Go.ChangeAt Go.RowKit
def encI (n : Int) : List Value := [.int .i64 n]
def okI (n : Int) : Prop := i64ok n
theorem BI_27 : BI Tryz.prog 27 [(0, 1), (1, 1)] [.slice none 0 0, .slice none 0 0] := bi_mk2 Tryz.underlying27 (zv := .agg #[.slice none 0 0, .slice none 0 0]) (by kernel_rfl) rfl (by kernel_rfl)
theorem BI_29 : BI Tryz.prog 29 [(0, 1), (1, 2)] [.slice none 0 0, .slice none 0 0, .slice none 0 0] := bi_mk2 Tryz.underlying29 (zv := .agg #[.slice none 0 0, .slice none 0 0, .slice none 0 0]) (by kernel_rfl) rfl (by kernel_rfl)
theorem BI_73 : BI Tryz.prog 73 [(0, 1), (1, 1)] [.string (⟨#[]⟩ : ByteArray), .string (⟨#[]⟩ : ByteArray)] := bi_mk2 Tryz.underlying73 (zv := .agg #[.string (⟨#[]⟩ : ByteArray), .string (⟨#[]⟩ : ByteArray)]) (by kernel_rfl) rfl (by kernel_rfl)
theorem BI_80 : BI Tryz.prog 80 [(0, 1), (1, 1), (2, 1)] [.slice none 0 0, .int .i64 0, .int .i64 0] := bi_mk2 Tryz.underlying80 (zv := .agg #[.slice none 0 0, .int .i64 0, .int .i64 0]) (by kernel_rfl) rfl (by kernel_rfl)
theorem CF_100 : CF Tryz.prog 100 := ⟨⟨_, _, Tryz.func100, rfl, by kernel_rfl⟩⟩
theorem CF_106 : CF Tryz.prog 106 := ⟨⟨_, _, Tryz.func106, rfl, by kernel_rfl⟩⟩
theorem CF_110 : CF Tryz.prog 110 := ⟨⟨_, _, Tryz.func110, rfl, by kernel_rfl⟩⟩
theorem CF_111 : CF Tryz.prog 111 := ⟨⟨_, _, Tryz.func111, rfl, by kernel_rfl⟩⟩
theorem CF_113 : CF Tryz.prog 113 := ⟨⟨_, _, Tryz.func113, rfl, by kernel_rfl⟩⟩
theorem CF_116 : CF Tryz.prog 116 := ⟨⟨_, _, Tryz.func116, rfl, by kernel_rfl⟩⟩
theorem CF_117 : CF Tryz.prog 117 := ⟨⟨_, _, Tryz.func117, rfl, by kernel_rfl⟩⟩
theorem CF_118 : CF Tryz.prog 118 := ⟨⟨_, _, Tryz.func118, rfl, by kernel_rfl⟩⟩
theorem CF_119 : CF Tryz.prog 119 := ⟨⟨_, _, Tryz.func119, rfl, by kernel_rfl⟩⟩
theorem CF_120 : CF Tryz.prog 120 := ⟨⟨_, _, Tryz.func120, rfl, by kernel_rfl⟩⟩
theorem CF_121 : CF Tryz.prog 121 := ⟨⟨_, _, Tryz.func121, rfl, by kernel_rfl⟩⟩
theorem CF_124 : CF Tryz.prog 124 := ⟨⟨_, _, Tryz.func124, rfl, by kernel_rfl⟩⟩
theorem CF_127 : CF Tryz.prog 127 := ⟨⟨_, _, Tryz.func127, rfl, by kernel_rfl⟩⟩
theorem CF_128 : CF Tryz.prog 128 := ⟨⟨_, _, Tryz.func128, rfl, by kernel_rfl⟩⟩
theorem CF_136 : CF Tryz.prog 136 := ⟨⟨_, _, Tryz.func136, rfl, by kernel_rfl⟩⟩
theorem CF_19 : CF Tryz.prog 19 := ⟨⟨_, _, Tryz.func19, rfl, by kernel_rfl⟩⟩
theorem CF_22 : CF Tryz.prog 22 := ⟨⟨_, _, Tryz.func22, rfl, by kernel_rfl⟩⟩
theorem CF_23 : CF Tryz.prog 23 := ⟨⟨_, _, Tryz.func23, rfl, by kernel_rfl⟩⟩
theorem CF_24 : CF Tryz.prog 24 := ⟨⟨_, _, Tryz.func24, rfl, by kernel_rfl⟩⟩
theorem CF_25 : CF Tryz.prog 25 := ⟨⟨_, _, Tryz.func25, rfl, by kernel_rfl⟩⟩
theorem CF_26 : CF Tryz.prog 26 := ⟨⟨_, _, Tryz.func26, rfl, by kernel_rfl⟩⟩
theorem CF_27 : CF Tryz.prog 27 := ⟨⟨_, _, Tryz.func27, rfl, by kernel_rfl⟩⟩
theorem CF_28 : CF Tryz.prog 28 := ⟨⟨_, _, Tryz.func28, rfl, by kernel_rfl⟩⟩
theorem CF_29 : CF Tryz.prog 29 := ⟨⟨_, _, Tryz.func29, rfl, by kernel_rfl⟩⟩
theorem CF_30 : CF Tryz.prog 30 := ⟨⟨_, _, Tryz.func30, rfl, by kernel_rfl⟩⟩
theorem CF_31 : CF Tryz.prog 31 := ⟨⟨_, _, Tryz.func31, rfl, by kernel_rfl⟩⟩
theorem CF_32 : CF Tryz.prog 32 := ⟨⟨_, _, Tryz.func32, rfl, by kernel_rfl⟩⟩
theorem CF_33 : CF Tryz.prog 33 := ⟨⟨_, _, Tryz.func33, rfl, by kernel_rfl⟩⟩
theorem CF_34 : CF Tryz.prog 34 := ⟨⟨_, _, Tryz.func34, rfl, by kernel_rfl⟩⟩
theorem CF_36 : CF Tryz.prog 36 := ⟨⟨_, _, Tryz.func36, rfl, by kernel_rfl⟩⟩
theorem CF_39 : CF Tryz.prog 39 := ⟨⟨_, _, Tryz.func39, rfl, by kernel_rfl⟩⟩
theorem CF_42 : CF Tryz.prog 42 := ⟨⟨_, _, Tryz.func42, rfl, by kernel_rfl⟩⟩
theorem CF_47 : CF Tryz.prog 47 := ⟨⟨_, _, Tryz.func47, rfl, by kernel_rfl⟩⟩
theorem CF_5 : CF Tryz.prog 5 := ⟨⟨_, _, Tryz.func5, rfl, by kernel_rfl⟩⟩
theorem CF_55 : CF Tryz.prog 55 := ⟨⟨_, _, Tryz.func55, rfl, by kernel_rfl⟩⟩
theorem CF_56 : CF Tryz.prog 56 := ⟨⟨_, _, Tryz.func56, rfl, by kernel_rfl⟩⟩
theorem CF_57 : CF Tryz.prog 57 := ⟨⟨_, _, Tryz.func57, rfl, by kernel_rfl⟩⟩
theorem CF_58 : CF Tryz.prog 58 := ⟨⟨_, _, Tryz.func58, rfl, by kernel_rfl⟩⟩
theorem CF_59 : CF Tryz.prog 59 := ⟨⟨_, _, Tryz.func59, rfl, by kernel_rfl⟩⟩
theorem CF_60 : CF Tryz.prog 60 := ⟨⟨_, _, Tryz.func60, rfl, by kernel_rfl⟩⟩
theorem CF_61 : CF Tryz.prog 61 := ⟨⟨_, _, Tryz.func61, rfl, by kernel_rfl⟩⟩
theorem CF_62 : CF Tryz.prog 62 := ⟨⟨_, _, Tryz.func62, rfl, by kernel_rfl⟩⟩
theorem CF_63 : CF Tryz.prog 63 := ⟨⟨_, _, Tryz.func63, rfl, by kernel_rfl⟩⟩
theorem CF_64 : CF Tryz.prog 64 := ⟨⟨_, _, Tryz.func64, rfl, by kernel_rfl⟩⟩
theorem CF_65 : CF Tryz.prog 65 := ⟨⟨_, _, Tryz.func65, rfl, by kernel_rfl⟩⟩
theorem CF_69 : CF Tryz.prog 69 := ⟨⟨_, _, Tryz.func69, rfl, by kernel_rfl⟩⟩
theorem CF_70 : CF Tryz.prog 70 := ⟨⟨_, _, Tryz.func70, rfl, by kernel_rfl⟩⟩
theorem CF_71 : CF Tryz.prog 71 := ⟨⟨_, _, Tryz.func71, rfl, by kernel_rfl⟩⟩
theorem CF_72 : CF Tryz.prog 72 := ⟨⟨_, _, Tryz.func72, rfl, by kernel_rfl⟩⟩
theorem CF_74 : CF Tryz.prog 74 := ⟨⟨_, _, Tryz.func74, rfl, by kernel_rfl⟩⟩
theorem CF_79 : CF Tryz.prog 79 := ⟨⟨_, _, Tryz.func79, rfl, by kernel_rfl⟩⟩
theorem CF_83 : CF Tryz.prog 83 := ⟨⟨_, _, Tryz.func83, rfl, by kernel_rfl⟩⟩
theorem CF_84 : CF Tryz.prog 84 := ⟨⟨_, _, Tryz.func84, rfl, by kernel_rfl⟩⟩
theorem CF_85 : CF Tryz.prog 85 := ⟨⟨_, _, Tryz.func85, rfl, by kernel_rfl⟩⟩
theorem CF_86 : CF Tryz.prog 86 := ⟨⟨_, _, Tryz.func86, rfl, by kernel_rfl⟩⟩
theorem CF_87 : CF Tryz.prog 87 := ⟨⟨_, _, Tryz.func87, rfl, by kernel_rfl⟩⟩
theorem CF_89 : CF Tryz.prog 89 := ⟨⟨_, _, Tryz.func89, rfl, by kernel_rfl⟩⟩
theorem CF_90 : CF Tryz.prog 90 := ⟨⟨_, _, Tryz.func90, rfl, by kernel_rfl⟩⟩
theorem CF_91 : CF Tryz.prog 91 := ⟨⟨_, _, Tryz.func91, rfl, by kernel_rfl⟩⟩
theorem CF_92 : CF Tryz.prog 92 := ⟨⟨_, _, Tryz.func92, rfl, by kernel_rfl⟩⟩
theorem CF_93 : CF Tryz.prog 93 := ⟨⟨_, _, Tryz.func93, rfl, by kernel_rfl⟩⟩
theorem CF_94 : CF Tryz.prog 94 := ⟨⟨_, _, Tryz.func94, rfl, by kernel_rfl⟩⟩
theorem CF_95 : CF Tryz.prog 95 := ⟨⟨_, _, Tryz.func95, rfl, by kernel_rfl⟩⟩
theorem CF_96 : CF Tryz.prog 96 := ⟨⟨_, _, Tryz.func96, rfl, by kernel_rfl⟩⟩
theorem CF_98 : CF Tryz.prog 98 := ⟨⟨_, _, Tryz.func98, rfl, by kernel_rfl⟩⟩
theorem ET_22 : ElemT Tryz.prog 22 5 (.int .u8 0) 1 1 encB := { ht := Tryz.underlying22, hT := { info := by kernel_rfl, zs := rfl, pos := by decide }, hk := fun _ => rfl, h1 := by intro x u hu; simp [encB] at hu; subst hu; rfl, by0 := by decide }
theorem ET_24 : ElemT Tryz.prog 24 73 (.agg #[.string ⟨#[]⟩, .string ⟨#[]⟩]) 2 32 encC := { ht := Tryz.underlying24, hT := { info := by kernel_rfl, zs := rfl, pos := by decide }, hk := fun _ => rfl, h1 := by intro x u hu; simp [encC] at hu; rcases hu with rfl | rfl <;> rfl, by0 := by decide }
theorem ET_25 : ElemT Tryz.prog 25 9 (.string ⟨#[]⟩) 1 16 encS := { ht := Tryz.underlying25, hT := { info := by kernel_rfl, zs := rfl, pos := by decide }, hk := fun _ => rfl, h1 := by intro x u hu; simp [encS] at hu; subst hu; rfl, by0 := by decide }
theorem ET_47 : ElemT Tryz.prog 47 3 (.int .i64 0) 1 8 encI := { ht := Tryz.underlying47, hT := { info := by kernel_rfl, zs := rfl, pos := by decide }, hk := fun _ => rfl, h1 := by intro x u hu; simp [encI] at hu; subst hu; rfl, by0 := by decide }
theorem FI_27_0 : FI Tryz.prog 27 0 0 := fi_mk Tryz.underlying27 rfl rfl (k := 0) (by kernel_rfl)
theorem FI_27_1 : FI Tryz.prog 27 1 1 := fi_mk Tryz.underlying27 rfl rfl (k := 0) (by kernel_rfl)
theorem FI_29_0 : FI Tryz.prog 29 0 0 := fi_mk Tryz.underlying29 rfl rfl (k := 0) (by kernel_rfl)
theorem FI_29_1 : FI Tryz.prog 29 1 1 := fi_mk Tryz.underlying29 rfl rfl (k := 1) (by kernel_rfl)
theorem FI_73_0 : FI Tryz.prog 73 0 0 := fi_mk Tryz.underlying73 rfl rfl (k := 0) (by kernel_rfl)
theorem FI_73_1 : FI Tryz.prog 73 1 1 := fi_mk Tryz.underlying73 rfl rfl (k := 0) (by kernel_rfl)
theorem FI_80_0 : FI Tryz.prog 80 0 0 := fi_mk Tryz.underlying80 rfl rfl (k := 0) (by kernel_rfl)
theorem FI_80_1 : FI Tryz.prog 80 1 1 := fi_mk Tryz.underlying80 rfl rfl (k := 0) (by kernel_rfl)
theorem FI_80_2 : FI Tryz.prog 80 2 2 := fi_mk Tryz.underlying80 rfl rfl (k := 0) (by kernel_rfl)
theorem mixed : Tryz.prog.follows .mixedOrders = true := by kernel_rfl
theorem TI_22 : TI Tryz.prog 22 false 1 := ti_mk Tryz.underlying22 rfl (by kernel_rfl)
theorem TI_24 : TI Tryz.prog 24 false 1 := ti_mk Tryz.underlying24 rfl (by kernel_rfl)
theorem TI_25 : TI Tryz.prog 25 false 1 := ti_mk Tryz.underlying25 rfl (by kernel_rfl)
theorem TI_27 : TI Tryz.prog 27 true 2 := ti_mk Tryz.underlying27 rfl (by kernel_rfl)
theorem TI_29 : TI Tryz.prog 29 true 3 := ti_mk Tryz.underlying29 rfl (by kernel_rfl)
theorem TI_3 : TI Tryz.prog 3 false 1 := ti_mk Tryz.underlying3 rfl (by kernel_rfl)
theorem TI_5 : TI Tryz.prog 5 false 1 := ti_mk Tryz.underlying5 rfl (by kernel_rfl)
theorem TI_73 : TI Tryz.prog 73 true 2 := ti_mk Tryz.underlying73 rfl (by kernel_rfl)
theorem TI_9 : TI Tryz.prog 9 false 1 := ti_mk Tryz.underlying9 rfl (by kernel_rfl)
theorem ZI_27 : ZI Tryz.prog 27 (.agg #[.slice none 0 0, .slice none 0 0]) := zi_mk (by kernel_rfl)
theorem ZI_29 : ZI Tryz.prog 29 (.agg #[.slice none 0 0, .slice none 0 0, .slice none 0 0]) := zi_mk (by kernel_rfl)
theorem ZI_73 : ZI Tryz.prog 73 (.agg #[.string (⟨#[]⟩ : ByteArray), .string (⟨#[]⟩ : ByteArray)]) := zi_mk (by kernel_rfl)
end Go.Proofs.YtibgmijfnbnfkaaGreatDoor
