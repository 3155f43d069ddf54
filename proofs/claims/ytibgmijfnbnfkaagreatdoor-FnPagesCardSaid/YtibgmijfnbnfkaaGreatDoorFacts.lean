/-
  What the walks ask of the program: its types' shapes, its functions' bodies.
-/
import Derived.Test.YtibgmijfnbnfkaaGreatDoorEng8
namespace Go.Proofs.YtibgmijfnbnfkaaGreatDoor
open Go.ChangeShapes Go.WideShapes Go.ChangeAt Go.RowKit
def encI (n : Int) : List Value := [.int .i64 n]
def okI (n : Int) : Prop := i64ok n
theorem BI_27 : BI Tryz.prog 27 [(0, 1), (1, 1)] [.slice none 0 0, .slice none 0 0] := bi_mk2 Tryz.underlying27 (zv := .agg #[.slice none 0 0, .slice none 0 0]) (by kernel_rfl) rfl (by kernel_rfl)
theorem BI_29 : BI Tryz.prog 29 [(0, 1), (1, 2)] [.slice none 0 0, .slice none 0 0, .slice none 0 0] := bi_mk2 Tryz.underlying29 (zv := .agg #[.slice none 0 0, .slice none 0 0, .slice none 0 0]) (by kernel_rfl) rfl (by kernel_rfl)
theorem BI_73 : BI Tryz.prog 73 [(0, 1), (1, 1)] [.string (⟨#[]⟩ : ByteArray), .string (⟨#[]⟩ : ByteArray)] := bi_mk2 Tryz.underlying73 (zv := .agg #[.string (⟨#[]⟩ : ByteArray), .string (⟨#[]⟩ : ByteArray)]) (by kernel_rfl) rfl (by kernel_rfl)
theorem BI_80 : BI Tryz.prog 80 [(0, 1), (1, 1), (2, 1)] [.slice none 0 0, .int .i64 0, .int .i64 0] := bi_mk2 Tryz.underlying80 (zv := .agg #[.slice none 0 0, .int .i64 0, .int .i64 0]) (by kernel_rfl) rfl (by kernel_rfl)
theorem CF_10 : CF Tryz.prog 10 := ⟨⟨_, _, Tryz.func10, rfl, by kernel_rfl⟩⟩
theorem CF_100 : CF Tryz.prog 100 := ⟨⟨_, _, Tryz.func100, rfl, by kernel_rfl⟩⟩
theorem CF_101 : CF Tryz.prog 101 := ⟨⟨_, _, Tryz.func101, rfl, by kernel_rfl⟩⟩
theorem CF_102 : CF Tryz.prog 102 := ⟨⟨_, _, Tryz.func102, rfl, by kernel_rfl⟩⟩
theorem CF_103 : CF Tryz.prog 103 := ⟨⟨_, _, Tryz.func103, rfl, by kernel_rfl⟩⟩
theorem CF_104 : CF Tryz.prog 104 := ⟨⟨_, _, Tryz.func104, rfl, by kernel_rfl⟩⟩
theorem CF_105 : CF Tryz.prog 105 := ⟨⟨_, _, Tryz.func105, rfl, by kernel_rfl⟩⟩
theorem CF_106 : CF Tryz.prog 106 := ⟨⟨_, _, Tryz.func106, rfl, by kernel_rfl⟩⟩
theorem CF_11 : CF Tryz.prog 11 := ⟨⟨_, _, Tryz.func11, rfl, by kernel_rfl⟩⟩
theorem CF_110 : CF Tryz.prog 110 := ⟨⟨_, _, Tryz.func110, rfl, by kernel_rfl⟩⟩
theorem CF_113 : CF Tryz.prog 113 := ⟨⟨_, _, Tryz.func113, rfl, by kernel_rfl⟩⟩
theorem CF_114 : CF Tryz.prog 114 := ⟨⟨_, _, Tryz.func114, rfl, by kernel_rfl⟩⟩
theorem CF_115 : CF Tryz.prog 115 := ⟨⟨_, _, Tryz.func115, rfl, by kernel_rfl⟩⟩
theorem CF_116 : CF Tryz.prog 116 := ⟨⟨_, _, Tryz.func116, rfl, by kernel_rfl⟩⟩
theorem CF_117 : CF Tryz.prog 117 := ⟨⟨_, _, Tryz.func117, rfl, by kernel_rfl⟩⟩
theorem CF_118 : CF Tryz.prog 118 := ⟨⟨_, _, Tryz.func118, rfl, by kernel_rfl⟩⟩
theorem CF_119 : CF Tryz.prog 119 := ⟨⟨_, _, Tryz.func119, rfl, by kernel_rfl⟩⟩
theorem CF_12 : CF Tryz.prog 12 := ⟨⟨_, _, Tryz.func12, rfl, by kernel_rfl⟩⟩
theorem CF_120 : CF Tryz.prog 120 := ⟨⟨_, _, Tryz.func120, rfl, by kernel_rfl⟩⟩
theorem CF_121 : CF Tryz.prog 121 := ⟨⟨_, _, Tryz.func121, rfl, by kernel_rfl⟩⟩
theorem CF_122 : CF Tryz.prog 122 := ⟨⟨_, _, Tryz.func122, rfl, by kernel_rfl⟩⟩
theorem CF_123 : CF Tryz.prog 123 := ⟨⟨_, _, Tryz.func123, rfl, by kernel_rfl⟩⟩
theorem CF_124 : CF Tryz.prog 124 := ⟨⟨_, _, Tryz.func124, rfl, by kernel_rfl⟩⟩
theorem CF_127 : CF Tryz.prog 127 := ⟨⟨_, _, Tryz.func127, rfl, by kernel_rfl⟩⟩
theorem CF_13 : CF Tryz.prog 13 := ⟨⟨_, _, Tryz.func13, rfl, by kernel_rfl⟩⟩
theorem CF_134 : CF Tryz.prog 134 := ⟨⟨_, _, Tryz.func134, rfl, by kernel_rfl⟩⟩
theorem CF_135 : CF Tryz.prog 135 := ⟨⟨_, _, Tryz.func135, rfl, by kernel_rfl⟩⟩
theorem CF_136 : CF Tryz.prog 136 := ⟨⟨_, _, Tryz.func136, rfl, by kernel_rfl⟩⟩
theorem CF_14 : CF Tryz.prog 14 := ⟨⟨_, _, Tryz.func14, rfl, by kernel_rfl⟩⟩
theorem CF_15 : CF Tryz.prog 15 := ⟨⟨_, _, Tryz.func15, rfl, by kernel_rfl⟩⟩
theorem CF_16 : CF Tryz.prog 16 := ⟨⟨_, _, Tryz.func16, rfl, by kernel_rfl⟩⟩
theorem CF_17 : CF Tryz.prog 17 := ⟨⟨_, _, Tryz.func17, rfl, by kernel_rfl⟩⟩
theorem CF_18 : CF Tryz.prog 18 := ⟨⟨_, _, Tryz.func18, rfl, by kernel_rfl⟩⟩
theorem CF_19 : CF Tryz.prog 19 := ⟨⟨_, _, Tryz.func19, rfl, by kernel_rfl⟩⟩
theorem CF_20 : CF Tryz.prog 20 := ⟨⟨_, _, Tryz.func20, rfl, by kernel_rfl⟩⟩
theorem CF_21 : CF Tryz.prog 21 := ⟨⟨_, _, Tryz.func21, rfl, by kernel_rfl⟩⟩
theorem CF_22 : CF Tryz.prog 22 := ⟨⟨_, _, Tryz.func22, rfl, by kernel_rfl⟩⟩
theorem CF_23 : CF Tryz.prog 23 := ⟨⟨_, _, Tryz.func23, rfl, by kernel_rfl⟩⟩
theorem CF_31 : CF Tryz.prog 31 := ⟨⟨_, _, Tryz.func31, rfl, by kernel_rfl⟩⟩
theorem CF_34 : CF Tryz.prog 34 := ⟨⟨_, _, Tryz.func34, rfl, by kernel_rfl⟩⟩
theorem CF_35 : CF Tryz.prog 35 := ⟨⟨_, _, Tryz.func35, rfl, by kernel_rfl⟩⟩
theorem CF_36 : CF Tryz.prog 36 := ⟨⟨_, _, Tryz.func36, rfl, by kernel_rfl⟩⟩
theorem CF_37 : CF Tryz.prog 37 := ⟨⟨_, _, Tryz.func37, rfl, by kernel_rfl⟩⟩
theorem CF_38 : CF Tryz.prog 38 := ⟨⟨_, _, Tryz.func38, rfl, by kernel_rfl⟩⟩
theorem CF_39 : CF Tryz.prog 39 := ⟨⟨_, _, Tryz.func39, rfl, by kernel_rfl⟩⟩
theorem CF_40 : CF Tryz.prog 40 := ⟨⟨_, _, Tryz.func40, rfl, by kernel_rfl⟩⟩
theorem CF_41 : CF Tryz.prog 41 := ⟨⟨_, _, Tryz.func41, rfl, by kernel_rfl⟩⟩
theorem CF_42 : CF Tryz.prog 42 := ⟨⟨_, _, Tryz.func42, rfl, by kernel_rfl⟩⟩
theorem CF_43 : CF Tryz.prog 43 := ⟨⟨_, _, Tryz.func43, rfl, by kernel_rfl⟩⟩
theorem CF_44 : CF Tryz.prog 44 := ⟨⟨_, _, Tryz.func44, rfl, by kernel_rfl⟩⟩
theorem CF_45 : CF Tryz.prog 45 := ⟨⟨_, _, Tryz.func45, rfl, by kernel_rfl⟩⟩
theorem CF_46 : CF Tryz.prog 46 := ⟨⟨_, _, Tryz.func46, rfl, by kernel_rfl⟩⟩
theorem CF_47 : CF Tryz.prog 47 := ⟨⟨_, _, Tryz.func47, rfl, by kernel_rfl⟩⟩
theorem CF_48 : CF Tryz.prog 48 := ⟨⟨_, _, Tryz.func48, rfl, by kernel_rfl⟩⟩
theorem CF_49 : CF Tryz.prog 49 := ⟨⟨_, _, Tryz.func49, rfl, by kernel_rfl⟩⟩
theorem CF_5 : CF Tryz.prog 5 := ⟨⟨_, _, Tryz.func5, rfl, by kernel_rfl⟩⟩
theorem CF_50 : CF Tryz.prog 50 := ⟨⟨_, _, Tryz.func50, rfl, by kernel_rfl⟩⟩
theorem CF_51 : CF Tryz.prog 51 := ⟨⟨_, _, Tryz.func51, rfl, by kernel_rfl⟩⟩
theorem CF_52 : CF Tryz.prog 52 := ⟨⟨_, _, Tryz.func52, rfl, by kernel_rfl⟩⟩
theorem CF_53 : CF Tryz.prog 53 := ⟨⟨_, _, Tryz.func53, rfl, by kernel_rfl⟩⟩
theorem CF_54 : CF Tryz.prog 54 := ⟨⟨_, _, Tryz.func54, rfl, by kernel_rfl⟩⟩
theorem CF_55 : CF Tryz.prog 55 := ⟨⟨_, _, Tryz.func55, rfl, by kernel_rfl⟩⟩
theorem CF_56 : CF Tryz.prog 56 := ⟨⟨_, _, Tryz.func56, rfl, by kernel_rfl⟩⟩
theorem CF_6 : CF Tryz.prog 6 := ⟨⟨_, _, Tryz.func6, rfl, by kernel_rfl⟩⟩
theorem CF_63 : CF Tryz.prog 63 := ⟨⟨_, _, Tryz.func63, rfl, by kernel_rfl⟩⟩
theorem CF_66 : CF Tryz.prog 66 := ⟨⟨_, _, Tryz.func66, rfl, by kernel_rfl⟩⟩
theorem CF_67 : CF Tryz.prog 67 := ⟨⟨_, _, Tryz.func67, rfl, by kernel_rfl⟩⟩
theorem CF_68 : CF Tryz.prog 68 := ⟨⟨_, _, Tryz.func68, rfl, by kernel_rfl⟩⟩
theorem CF_69 : CF Tryz.prog 69 := ⟨⟨_, _, Tryz.func69, rfl, by kernel_rfl⟩⟩
theorem CF_7 : CF Tryz.prog 7 := ⟨⟨_, _, Tryz.func7, rfl, by kernel_rfl⟩⟩
theorem CF_70 : CF Tryz.prog 70 := ⟨⟨_, _, Tryz.func70, rfl, by kernel_rfl⟩⟩
theorem CF_71 : CF Tryz.prog 71 := ⟨⟨_, _, Tryz.func71, rfl, by kernel_rfl⟩⟩
theorem CF_72 : CF Tryz.prog 72 := ⟨⟨_, _, Tryz.func72, rfl, by kernel_rfl⟩⟩
theorem CF_73 : CF Tryz.prog 73 := ⟨⟨_, _, Tryz.func73, rfl, by kernel_rfl⟩⟩
theorem CF_74 : CF Tryz.prog 74 := ⟨⟨_, _, Tryz.func74, rfl, by kernel_rfl⟩⟩
theorem CF_75 : CF Tryz.prog 75 := ⟨⟨_, _, Tryz.func75, rfl, by kernel_rfl⟩⟩
theorem CF_76 : CF Tryz.prog 76 := ⟨⟨_, _, Tryz.func76, rfl, by kernel_rfl⟩⟩
theorem CF_77 : CF Tryz.prog 77 := ⟨⟨_, _, Tryz.func77, rfl, by kernel_rfl⟩⟩
theorem CF_78 : CF Tryz.prog 78 := ⟨⟨_, _, Tryz.func78, rfl, by kernel_rfl⟩⟩
theorem CF_79 : CF Tryz.prog 79 := ⟨⟨_, _, Tryz.func79, rfl, by kernel_rfl⟩⟩
theorem CF_8 : CF Tryz.prog 8 := ⟨⟨_, _, Tryz.func8, rfl, by kernel_rfl⟩⟩
theorem CF_80 : CF Tryz.prog 80 := ⟨⟨_, _, Tryz.func80, rfl, by kernel_rfl⟩⟩
theorem CF_81 : CF Tryz.prog 81 := ⟨⟨_, _, Tryz.func81, rfl, by kernel_rfl⟩⟩
theorem CF_82 : CF Tryz.prog 82 := ⟨⟨_, _, Tryz.func82, rfl, by kernel_rfl⟩⟩
theorem CF_83 : CF Tryz.prog 83 := ⟨⟨_, _, Tryz.func83, rfl, by kernel_rfl⟩⟩
theorem CF_84 : CF Tryz.prog 84 := ⟨⟨_, _, Tryz.func84, rfl, by kernel_rfl⟩⟩
theorem CF_85 : CF Tryz.prog 85 := ⟨⟨_, _, Tryz.func85, rfl, by kernel_rfl⟩⟩
theorem CF_86 : CF Tryz.prog 86 := ⟨⟨_, _, Tryz.func86, rfl, by kernel_rfl⟩⟩
theorem CF_87 : CF Tryz.prog 87 := ⟨⟨_, _, Tryz.func87, rfl, by kernel_rfl⟩⟩
theorem CF_88 : CF Tryz.prog 88 := ⟨⟨_, _, Tryz.func88, rfl, by kernel_rfl⟩⟩
theorem CF_9 : CF Tryz.prog 9 := ⟨⟨_, _, Tryz.func9, rfl, by kernel_rfl⟩⟩
theorem CF_95 : CF Tryz.prog 95 := ⟨⟨_, _, Tryz.func95, rfl, by kernel_rfl⟩⟩
theorem CF_96 : CF Tryz.prog 96 := ⟨⟨_, _, Tryz.func96, rfl, by kernel_rfl⟩⟩
theorem CF_97 : CF Tryz.prog 97 := ⟨⟨_, _, Tryz.func97, rfl, by kernel_rfl⟩⟩
theorem CF_98 : CF Tryz.prog 98 := ⟨⟨_, _, Tryz.func98, rfl, by kernel_rfl⟩⟩
theorem CF_99 : CF Tryz.prog 99 := ⟨⟨_, _, Tryz.func99, rfl, by kernel_rfl⟩⟩
theorem ET_22 : ElemT Tryz.prog 22 5 (.int .u8 0) 1 1 encB := { ht := Tryz.underlying22, hT := { info := by kernel_rfl, zs := rfl, pos := by decide }, hk := fun _ => rfl, h1 := by intro x u hu; simp [encB] at hu; subst hu; rfl, by0 := by decide }
theorem ET_24 : ElemT Tryz.prog 24 73 (.agg #[.string ⟨#[]⟩, .string ⟨#[]⟩]) 2 32 encC := { ht := Tryz.underlying24, hT := { info := by kernel_rfl, zs := rfl, pos := by decide }, hk := fun _ => rfl, h1 := by intro x u hu; simp [encC] at hu; rcases hu with rfl | rfl <;> rfl, by0 := by decide }
theorem ET_25 : ElemT Tryz.prog 25 9 (.string ⟨#[]⟩) 1 16 encS := { ht := Tryz.underlying25, hT := { info := by kernel_rfl, zs := rfl, pos := by decide }, hk := fun _ => rfl, h1 := by intro x u hu; simp [encS] at hu; subst hu; rfl, by0 := by decide }
theorem ET_47 : ElemT Tryz.prog 47 3 (.int .i64 0) 1 8 encI := { ht := Tryz.underlying47, hT := { info := by kernel_rfl, zs := rfl, pos := by decide }, hk := fun _ => rfl, h1 := by intro x u hu; simp [encI] at hu; subst hu; rfl, by0 := by decide }
theorem FI_27_0 : FI Tryz.prog 27 0 0 := fi_mk Tryz.underlying27 rfl rfl (k := 0) (by kernel_rfl)
theorem FI_27_1 : FI Tryz.prog 27 1 1 := fi_mk Tryz.underlying27 rfl rfl (k := 0) (by kernel_rfl)
theorem FI_29_0 : FI Tryz.prog 29 0 0 := fi_mk Tryz.underlying29 rfl rfl (k := 0) (by kernel_rfl)
theorem FI_29_1 : FI Tryz.prog 29 1 1 := fi_mk Tryz.underlying29 rfl rfl (k := 1) (by kernel_rfl)
theorem FI_73_0 : FI Tryz.prog 73 0 0 := fi_mk Tryz.underlying73 rfl rfl (k := 0) (by kernel_rfl)
theorem FI_73_1 : FI Tryz.prog 73 1 1 := fi_mk Tryz.underlying73 rfl rfl (k := 0) (by kernel_rfl)
theorem FI_80_0 : FI Tryz.prog 80 0 0 := fi_mk Tryz.underlying80 rfl rfl (k := 0) (by kernel_rfl)
theorem FI_80_1 : FI Tryz.prog 80 1 1 := fi_mk Tryz.underlying80 rfl rfl (k := 0) (by kernel_rfl)
theorem FI_80_2 : FI Tryz.prog 80 2 2 := fi_mk Tryz.underlying80 rfl rfl (k := 0) (by kernel_rfl)
theorem mixed : Tryz.prog.follows .mixedOrders = true := by kernel_rfl
theorem TI_22 : TI Tryz.prog 22 false 1 := ti_mk Tryz.underlying22 rfl (by kernel_rfl)
theorem TI_24 : TI Tryz.prog 24 false 1 := ti_mk Tryz.underlying24 rfl (by kernel_rfl)
theorem TI_25 : TI Tryz.prog 25 false 1 := ti_mk Tryz.underlying25 rfl (by kernel_rfl)
theorem TI_27 : TI Tryz.prog 27 true 2 := ti_mk Tryz.underlying27 rfl (by kernel_rfl)
theorem TI_29 : TI Tryz.prog 29 true 3 := ti_mk Tryz.underlying29 rfl (by kernel_rfl)
theorem TI_3 : TI Tryz.prog 3 false 1 := ti_mk Tryz.underlying3 rfl (by kernel_rfl)
theorem TI_5 : TI Tryz.prog 5 false 1 := ti_mk Tryz.underlying5 rfl (by kernel_rfl)
theorem TI_73 : TI Tryz.prog 73 true 2 := ti_mk Tryz.underlying73 rfl (by kernel_rfl)
theorem TI_9 : TI Tryz.prog 9 false 1 := ti_mk Tryz.underlying9 rfl (by kernel_rfl)
theorem ZI_27 : ZI Tryz.prog 27 (.agg #[.slice none 0 0, .slice none 0 0]) := zi_mk (by kernel_rfl)
theorem ZI_29 : ZI Tryz.prog 29 (.agg #[.slice none 0 0, .slice none 0 0, .slice none 0 0]) := zi_mk (by kernel_rfl)
theorem ZI_73 : ZI Tryz.prog 73 (.agg #[.string (⟨#[]⟩ : ByteArray), .string (⟨#[]⟩ : ByteArray)]) := zi_mk (by kernel_rfl)
end Go.Proofs.YtibgmijfnbnfkaaGreatDoor
