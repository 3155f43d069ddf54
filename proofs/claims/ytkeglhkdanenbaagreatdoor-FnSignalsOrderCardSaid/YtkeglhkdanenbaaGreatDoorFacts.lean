/-
  What the walks ask of the program: its types' shapes, its functions' bodies.
-/
import Derived.Test.YtkeglhkdanenbaaGreatDoorEng8
namespace Go.Proofs.YtkeglhkdanenbaaGreatDoor
open Go.ChangeShapes Go.WideShapes Go.ChangeAt Go.RowKit
def encI (n : Int) : List Value := [.int .i64 n]
def okI (n : Int) : Prop := i64ok n
theorem BI_27 : BI Tryz.prog 27 [(0, 1), (1, 1)] [.slice none 0 0, .slice none 0 0] := bi_mk2 Tryz.underlying27 (zv := .agg #[.slice none 0 0, .slice none 0 0]) (by kernel_rfl) rfl (by kernel_rfl)
theorem BI_29 : BI Tryz.prog 29 [(0, 1), (1, 2)] [.slice none 0 0, .slice none 0 0, .slice none 0 0] := bi_mk2 Tryz.underlying29 (zv := .agg #[.slice none 0 0, .slice none 0 0, .slice none 0 0]) (by kernel_rfl) rfl (by kernel_rfl)
theorem BI_74 : BI Tryz.prog 74 [(0, 1), (1, 1)] [.string (⟨#[]⟩ : ByteArray), .string (⟨#[]⟩ : ByteArray)] := bi_mk2 Tryz.underlying74 (zv := .agg #[.string (⟨#[]⟩ : ByteArray), .string (⟨#[]⟩ : ByteArray)]) (by kernel_rfl) rfl (by kernel_rfl)
theorem BI_84 : BI Tryz.prog 84 [(0, 1), (1, 1), (2, 1)] [.slice none 0 0, .int .i64 0, .int .i64 0] := bi_mk2 Tryz.underlying84 (zv := .agg #[.slice none 0 0, .int .i64 0, .int .i64 0]) (by kernel_rfl) rfl (by kernel_rfl)
theorem CF_100 : CF Tryz.prog 100 := ⟨⟨_, _, Tryz.func100, rfl, by kernel_rfl⟩⟩
theorem CF_101 : CF Tryz.prog 101 := ⟨⟨_, _, Tryz.func101, rfl, by kernel_rfl⟩⟩
theorem CF_102 : CF Tryz.prog 102 := ⟨⟨_, _, Tryz.func102, rfl, by kernel_rfl⟩⟩
theorem CF_103 : CF Tryz.prog 103 := ⟨⟨_, _, Tryz.func103, rfl, by kernel_rfl⟩⟩
theorem CF_104 : CF Tryz.prog 104 := ⟨⟨_, _, Tryz.func104, rfl, by kernel_rfl⟩⟩
theorem CF_105 : CF Tryz.prog 105 := ⟨⟨_, _, Tryz.func105, rfl, by kernel_rfl⟩⟩
theorem CF_106 : CF Tryz.prog 106 := ⟨⟨_, _, Tryz.func106, rfl, by kernel_rfl⟩⟩
theorem CF_107 : CF Tryz.prog 107 := ⟨⟨_, _, Tryz.func107, rfl, by kernel_rfl⟩⟩
theorem CF_108 : CF Tryz.prog 108 := ⟨⟨_, _, Tryz.func108, rfl, by kernel_rfl⟩⟩
theorem CF_109 : CF Tryz.prog 109 := ⟨⟨_, _, Tryz.func109, rfl, by kernel_rfl⟩⟩
theorem CF_110 : CF Tryz.prog 110 := ⟨⟨_, _, Tryz.func110, rfl, by kernel_rfl⟩⟩
theorem CF_112 : CF Tryz.prog 112 := ⟨⟨_, _, Tryz.func112, rfl, by kernel_rfl⟩⟩
theorem CF_117 : CF Tryz.prog 117 := ⟨⟨_, _, Tryz.func117, rfl, by kernel_rfl⟩⟩
theorem CF_119 : CF Tryz.prog 119 := ⟨⟨_, _, Tryz.func119, rfl, by kernel_rfl⟩⟩
theorem CF_120 : CF Tryz.prog 120 := ⟨⟨_, _, Tryz.func120, rfl, by kernel_rfl⟩⟩
theorem CF_121 : CF Tryz.prog 121 := ⟨⟨_, _, Tryz.func121, rfl, by kernel_rfl⟩⟩
theorem CF_122 : CF Tryz.prog 122 := ⟨⟨_, _, Tryz.func122, rfl, by kernel_rfl⟩⟩
theorem CF_123 : CF Tryz.prog 123 := ⟨⟨_, _, Tryz.func123, rfl, by kernel_rfl⟩⟩
theorem CF_124 : CF Tryz.prog 124 := ⟨⟨_, _, Tryz.func124, rfl, by kernel_rfl⟩⟩
theorem CF_125 : CF Tryz.prog 125 := ⟨⟨_, _, Tryz.func125, rfl, by kernel_rfl⟩⟩
theorem CF_126 : CF Tryz.prog 126 := ⟨⟨_, _, Tryz.func126, rfl, by kernel_rfl⟩⟩
theorem CF_127 : CF Tryz.prog 127 := ⟨⟨_, _, Tryz.func127, rfl, by kernel_rfl⟩⟩
theorem CF_128 : CF Tryz.prog 128 := ⟨⟨_, _, Tryz.func128, rfl, by kernel_rfl⟩⟩
theorem CF_129 : CF Tryz.prog 129 := ⟨⟨_, _, Tryz.func129, rfl, by kernel_rfl⟩⟩
theorem CF_130 : CF Tryz.prog 130 := ⟨⟨_, _, Tryz.func130, rfl, by kernel_rfl⟩⟩
theorem CF_131 : CF Tryz.prog 131 := ⟨⟨_, _, Tryz.func131, rfl, by kernel_rfl⟩⟩
theorem CF_132 : CF Tryz.prog 132 := ⟨⟨_, _, Tryz.func132, rfl, by kernel_rfl⟩⟩
theorem CF_135 : CF Tryz.prog 135 := ⟨⟨_, _, Tryz.func135, rfl, by kernel_rfl⟩⟩
theorem CF_136 : CF Tryz.prog 136 := ⟨⟨_, _, Tryz.func136, rfl, by kernel_rfl⟩⟩
theorem CF_141 : CF Tryz.prog 141 := ⟨⟨_, _, Tryz.func141, rfl, by kernel_rfl⟩⟩
theorem CF_146 : CF Tryz.prog 146 := ⟨⟨_, _, Tryz.func146, rfl, by kernel_rfl⟩⟩
theorem CF_147 : CF Tryz.prog 147 := ⟨⟨_, _, Tryz.func147, rfl, by kernel_rfl⟩⟩
theorem CF_148 : CF Tryz.prog 148 := ⟨⟨_, _, Tryz.func148, rfl, by kernel_rfl⟩⟩
theorem CF_24 : CF Tryz.prog 24 := ⟨⟨_, _, Tryz.func24, rfl, by kernel_rfl⟩⟩
theorem CF_26 : CF Tryz.prog 26 := ⟨⟨_, _, Tryz.func26, rfl, by kernel_rfl⟩⟩
theorem CF_27 : CF Tryz.prog 27 := ⟨⟨_, _, Tryz.func27, rfl, by kernel_rfl⟩⟩
theorem CF_28 : CF Tryz.prog 28 := ⟨⟨_, _, Tryz.func28, rfl, by kernel_rfl⟩⟩
theorem CF_29 : CF Tryz.prog 29 := ⟨⟨_, _, Tryz.func29, rfl, by kernel_rfl⟩⟩
theorem CF_30 : CF Tryz.prog 30 := ⟨⟨_, _, Tryz.func30, rfl, by kernel_rfl⟩⟩
theorem CF_31 : CF Tryz.prog 31 := ⟨⟨_, _, Tryz.func31, rfl, by kernel_rfl⟩⟩
theorem CF_32 : CF Tryz.prog 32 := ⟨⟨_, _, Tryz.func32, rfl, by kernel_rfl⟩⟩
theorem CF_33 : CF Tryz.prog 33 := ⟨⟨_, _, Tryz.func33, rfl, by kernel_rfl⟩⟩
theorem CF_34 : CF Tryz.prog 34 := ⟨⟨_, _, Tryz.func34, rfl, by kernel_rfl⟩⟩
theorem CF_35 : CF Tryz.prog 35 := ⟨⟨_, _, Tryz.func35, rfl, by kernel_rfl⟩⟩
theorem CF_37 : CF Tryz.prog 37 := ⟨⟨_, _, Tryz.func37, rfl, by kernel_rfl⟩⟩
theorem CF_40 : CF Tryz.prog 40 := ⟨⟨_, _, Tryz.func40, rfl, by kernel_rfl⟩⟩
theorem CF_43 : CF Tryz.prog 43 := ⟨⟨_, _, Tryz.func43, rfl, by kernel_rfl⟩⟩
theorem CF_56 : CF Tryz.prog 56 := ⟨⟨_, _, Tryz.func56, rfl, by kernel_rfl⟩⟩
theorem CF_58 : CF Tryz.prog 58 := ⟨⟨_, _, Tryz.func58, rfl, by kernel_rfl⟩⟩
theorem CF_59 : CF Tryz.prog 59 := ⟨⟨_, _, Tryz.func59, rfl, by kernel_rfl⟩⟩
theorem CF_60 : CF Tryz.prog 60 := ⟨⟨_, _, Tryz.func60, rfl, by kernel_rfl⟩⟩
theorem CF_61 : CF Tryz.prog 61 := ⟨⟨_, _, Tryz.func61, rfl, by kernel_rfl⟩⟩
theorem CF_62 : CF Tryz.prog 62 := ⟨⟨_, _, Tryz.func62, rfl, by kernel_rfl⟩⟩
theorem CF_63 : CF Tryz.prog 63 := ⟨⟨_, _, Tryz.func63, rfl, by kernel_rfl⟩⟩
theorem CF_64 : CF Tryz.prog 64 := ⟨⟨_, _, Tryz.func64, rfl, by kernel_rfl⟩⟩
theorem CF_65 : CF Tryz.prog 65 := ⟨⟨_, _, Tryz.func65, rfl, by kernel_rfl⟩⟩
theorem CF_66 : CF Tryz.prog 66 := ⟨⟨_, _, Tryz.func66, rfl, by kernel_rfl⟩⟩
theorem CF_68 : CF Tryz.prog 68 := ⟨⟨_, _, Tryz.func68, rfl, by kernel_rfl⟩⟩
theorem CF_7 : CF Tryz.prog 7 := ⟨⟨_, _, Tryz.func7, rfl, by kernel_rfl⟩⟩
theorem CF_70 : CF Tryz.prog 70 := ⟨⟨_, _, Tryz.func70, rfl, by kernel_rfl⟩⟩
theorem CF_71 : CF Tryz.prog 71 := ⟨⟨_, _, Tryz.func71, rfl, by kernel_rfl⟩⟩
theorem CF_72 : CF Tryz.prog 72 := ⟨⟨_, _, Tryz.func72, rfl, by kernel_rfl⟩⟩
theorem CF_73 : CF Tryz.prog 73 := ⟨⟨_, _, Tryz.func73, rfl, by kernel_rfl⟩⟩
theorem CF_74 : CF Tryz.prog 74 := ⟨⟨_, _, Tryz.func74, rfl, by kernel_rfl⟩⟩
theorem CF_75 : CF Tryz.prog 75 := ⟨⟨_, _, Tryz.func75, rfl, by kernel_rfl⟩⟩
theorem CF_76 : CF Tryz.prog 76 := ⟨⟨_, _, Tryz.func76, rfl, by kernel_rfl⟩⟩
theorem CF_77 : CF Tryz.prog 77 := ⟨⟨_, _, Tryz.func77, rfl, by kernel_rfl⟩⟩
theorem CF_78 : CF Tryz.prog 78 := ⟨⟨_, _, Tryz.func78, rfl, by kernel_rfl⟩⟩
theorem CF_81 : CF Tryz.prog 81 := ⟨⟨_, _, Tryz.func81, rfl, by kernel_rfl⟩⟩
theorem CF_82 : CF Tryz.prog 82 := ⟨⟨_, _, Tryz.func82, rfl, by kernel_rfl⟩⟩
theorem CF_83 : CF Tryz.prog 83 := ⟨⟨_, _, Tryz.func83, rfl, by kernel_rfl⟩⟩
theorem CF_85 : CF Tryz.prog 85 := ⟨⟨_, _, Tryz.func85, rfl, by kernel_rfl⟩⟩
theorem CF_86 : CF Tryz.prog 86 := ⟨⟨_, _, Tryz.func86, rfl, by kernel_rfl⟩⟩
theorem CF_91 : CF Tryz.prog 91 := ⟨⟨_, _, Tryz.func91, rfl, by kernel_rfl⟩⟩
theorem CF_92 : CF Tryz.prog 92 := ⟨⟨_, _, Tryz.func92, rfl, by kernel_rfl⟩⟩
theorem CF_93 : CF Tryz.prog 93 := ⟨⟨_, _, Tryz.func93, rfl, by kernel_rfl⟩⟩
theorem CF_94 : CF Tryz.prog 94 := ⟨⟨_, _, Tryz.func94, rfl, by kernel_rfl⟩⟩
theorem CF_96 : CF Tryz.prog 96 := ⟨⟨_, _, Tryz.func96, rfl, by kernel_rfl⟩⟩
theorem CF_97 : CF Tryz.prog 97 := ⟨⟨_, _, Tryz.func97, rfl, by kernel_rfl⟩⟩
theorem CF_98 : CF Tryz.prog 98 := ⟨⟨_, _, Tryz.func98, rfl, by kernel_rfl⟩⟩
theorem CF_99 : CF Tryz.prog 99 := ⟨⟨_, _, Tryz.func99, rfl, by kernel_rfl⟩⟩
theorem ET_22 : ElemT Tryz.prog 22 5 (.int .u8 0) 1 1 encB := { ht := Tryz.underlying22, hT := { info := by kernel_rfl, zs := rfl, pos := by decide }, hk := fun _ => rfl, h1 := by intro x u hu; simp [encB] at hu; subst hu; rfl, by0 := by decide }
theorem ET_24 : ElemT Tryz.prog 24 74 (.agg #[.string ⟨#[]⟩, .string ⟨#[]⟩]) 2 32 encC := { ht := Tryz.underlying24, hT := { info := by kernel_rfl, zs := rfl, pos := by decide }, hk := fun _ => rfl, h1 := by intro x u hu; simp [encC] at hu; rcases hu with rfl | rfl <;> rfl, by0 := by decide }
theorem ET_25 : ElemT Tryz.prog 25 9 (.string ⟨#[]⟩) 1 16 encS := { ht := Tryz.underlying25, hT := { info := by kernel_rfl, zs := rfl, pos := by decide }, hk := fun _ => rfl, h1 := by intro x u hu; simp [encS] at hu; subst hu; rfl, by0 := by decide }
theorem ET_47 : ElemT Tryz.prog 47 3 (.int .i64 0) 1 8 encI := { ht := Tryz.underlying47, hT := { info := by kernel_rfl, zs := rfl, pos := by decide }, hk := fun _ => rfl, h1 := by intro x u hu; simp [encI] at hu; subst hu; rfl, by0 := by decide }
theorem FI_27_0 : FI Tryz.prog 27 0 0 := fi_mk Tryz.underlying27 rfl rfl (k := 0) (by kernel_rfl)
theorem FI_27_1 : FI Tryz.prog 27 1 1 := fi_mk Tryz.underlying27 rfl rfl (k := 0) (by kernel_rfl)
theorem FI_29_0 : FI Tryz.prog 29 0 0 := fi_mk Tryz.underlying29 rfl rfl (k := 0) (by kernel_rfl)
theorem FI_29_1 : FI Tryz.prog 29 1 1 := fi_mk Tryz.underlying29 rfl rfl (k := 1) (by kernel_rfl)
theorem FI_74_0 : FI Tryz.prog 74 0 0 := fi_mk Tryz.underlying74 rfl rfl (k := 0) (by kernel_rfl)
theorem FI_74_1 : FI Tryz.prog 74 1 1 := fi_mk Tryz.underlying74 rfl rfl (k := 0) (by kernel_rfl)
theorem FI_84_0 : FI Tryz.prog 84 0 0 := fi_mk Tryz.underlying84 rfl rfl (k := 0) (by kernel_rfl)
theorem FI_84_1 : FI Tryz.prog 84 1 1 := fi_mk Tryz.underlying84 rfl rfl (k := 0) (by kernel_rfl)
theorem FI_84_2 : FI Tryz.prog 84 2 2 := fi_mk Tryz.underlying84 rfl rfl (k := 0) (by kernel_rfl)
theorem mixed : Tryz.prog.follows .mixedOrders = true := by kernel_rfl
theorem TI_22 : TI Tryz.prog 22 false 1 := ti_mk Tryz.underlying22 rfl (by kernel_rfl)
theorem TI_24 : TI Tryz.prog 24 false 1 := ti_mk Tryz.underlying24 rfl (by kernel_rfl)
theorem TI_25 : TI Tryz.prog 25 false 1 := ti_mk Tryz.underlying25 rfl (by kernel_rfl)
theorem TI_27 : TI Tryz.prog 27 true 2 := ti_mk Tryz.underlying27 rfl (by kernel_rfl)
theorem TI_29 : TI Tryz.prog 29 true 3 := ti_mk Tryz.underlying29 rfl (by kernel_rfl)
theorem TI_3 : TI Tryz.prog 3 false 1 := ti_mk Tryz.underlying3 rfl (by kernel_rfl)
theorem TI_5 : TI Tryz.prog 5 false 1 := ti_mk Tryz.underlying5 rfl (by kernel_rfl)
theorem TI_74 : TI Tryz.prog 74 true 2 := ti_mk Tryz.underlying74 rfl (by kernel_rfl)
theorem TI_9 : TI Tryz.prog 9 false 1 := ti_mk Tryz.underlying9 rfl (by kernel_rfl)
theorem ZI_27 : ZI Tryz.prog 27 (.agg #[.slice none 0 0, .slice none 0 0]) := zi_mk (by kernel_rfl)
theorem ZI_29 : ZI Tryz.prog 29 (.agg #[.slice none 0 0, .slice none 0 0, .slice none 0 0]) := zi_mk (by kernel_rfl)
theorem ZI_74 : ZI Tryz.prog 74 (.agg #[.string (⟨#[]⟩ : ByteArray), .string (⟨#[]⟩ : ByteArray)]) := zi_mk (by kernel_rfl)
end Go.Proofs.YtkeglhkdanenbaaGreatDoor
