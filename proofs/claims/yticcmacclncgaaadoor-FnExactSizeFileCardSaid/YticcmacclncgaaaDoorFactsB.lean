/-
  More of what the walks ask of the program.
-/
import Derived.Test.YticcmacclncgaaaDoorFacts
namespace Go.Proofs.YticcmacclncgaaaDoor
open Go.ChangeShapes Go.WideShapes Go.ChangeAt Go.RowKit
theorem CF_101 : CF Tryd.prog 101 := ⟨⟨_, _, Tryd.func101, rfl, by kernel_rfl⟩⟩
theorem CF_102 : CF Tryd.prog 102 := ⟨⟨_, _, Tryd.func102, rfl, by kernel_rfl⟩⟩
theorem CF_109 : CF Tryd.prog 109 := ⟨⟨_, _, Tryd.func109, rfl, by kernel_rfl⟩⟩
theorem CF_110 : CF Tryd.prog 110 := ⟨⟨_, _, Tryd.func110, rfl, by kernel_rfl⟩⟩
theorem CF_111 : CF Tryd.prog 111 := ⟨⟨_, _, Tryd.func111, rfl, by kernel_rfl⟩⟩
theorem CF_113 : CF Tryd.prog 113 := ⟨⟨_, _, Tryd.func113, rfl, by kernel_rfl⟩⟩
theorem CF_114 : CF Tryd.prog 114 := ⟨⟨_, _, Tryd.func114, rfl, by kernel_rfl⟩⟩
theorem CF_115 : CF Tryd.prog 115 := ⟨⟨_, _, Tryd.func115, rfl, by kernel_rfl⟩⟩
theorem CF_116 : CF Tryd.prog 116 := ⟨⟨_, _, Tryd.func116, rfl, by kernel_rfl⟩⟩
theorem CF_117 : CF Tryd.prog 117 := ⟨⟨_, _, Tryd.func117, rfl, by kernel_rfl⟩⟩
theorem CF_118 : CF Tryd.prog 118 := ⟨⟨_, _, Tryd.func118, rfl, by kernel_rfl⟩⟩
theorem CF_125 : CF Tryd.prog 125 := ⟨⟨_, _, Tryd.func125, rfl, by kernel_rfl⟩⟩
theorem CF_132 : CF Tryd.prog 132 := ⟨⟨_, _, Tryd.func132, rfl, by kernel_rfl⟩⟩
theorem CF_133 : CF Tryd.prog 133 := ⟨⟨_, _, Tryd.func133, rfl, by kernel_rfl⟩⟩
theorem CF_134 : CF Tryd.prog 134 := ⟨⟨_, _, Tryd.func134, rfl, by kernel_rfl⟩⟩
theorem CF_136 : CF Tryd.prog 136 := ⟨⟨_, _, Tryd.func136, rfl, by kernel_rfl⟩⟩
theorem CF_137 : CF Tryd.prog 137 := ⟨⟨_, _, Tryd.func137, rfl, by kernel_rfl⟩⟩
theorem CF_138 : CF Tryd.prog 138 := ⟨⟨_, _, Tryd.func138, rfl, by kernel_rfl⟩⟩
theorem CF_157 : CF Tryd.prog 157 := ⟨⟨_, _, Tryd.func157, rfl, by kernel_rfl⟩⟩
theorem CF_158 : CF Tryd.prog 158 := ⟨⟨_, _, Tryd.func158, rfl, by kernel_rfl⟩⟩
theorem CF_164 : CF Tryd.prog 164 := ⟨⟨_, _, Tryd.func164, rfl, by kernel_rfl⟩⟩
theorem CF_24 : CF Tryd.prog 24 := ⟨⟨_, _, Tryd.func24, rfl, by kernel_rfl⟩⟩
theorem CF_25 : CF Tryd.prog 25 := ⟨⟨_, _, Tryd.func25, rfl, by kernel_rfl⟩⟩
theorem CF_33 : CF Tryd.prog 33 := ⟨⟨_, _, Tryd.func33, rfl, by kernel_rfl⟩⟩
theorem CF_34 : CF Tryd.prog 34 := ⟨⟨_, _, Tryd.func34, rfl, by kernel_rfl⟩⟩
theorem CF_35 : CF Tryd.prog 35 := ⟨⟨_, _, Tryd.func35, rfl, by kernel_rfl⟩⟩
theorem CF_36 : CF Tryd.prog 36 := ⟨⟨_, _, Tryd.func36, rfl, by kernel_rfl⟩⟩
theorem CF_39 : CF Tryd.prog 39 := ⟨⟨_, _, Tryd.func39, rfl, by kernel_rfl⟩⟩
theorem CF_40 : CF Tryd.prog 40 := ⟨⟨_, _, Tryd.func40, rfl, by kernel_rfl⟩⟩
theorem CF_41 : CF Tryd.prog 41 := ⟨⟨_, _, Tryd.func41, rfl, by kernel_rfl⟩⟩
theorem CF_42 : CF Tryd.prog 42 := ⟨⟨_, _, Tryd.func42, rfl, by kernel_rfl⟩⟩
theorem CF_43 : CF Tryd.prog 43 := ⟨⟨_, _, Tryd.func43, rfl, by kernel_rfl⟩⟩
theorem CF_44 : CF Tryd.prog 44 := ⟨⟨_, _, Tryd.func44, rfl, by kernel_rfl⟩⟩
theorem CF_45 : CF Tryd.prog 45 := ⟨⟨_, _, Tryd.func45, rfl, by kernel_rfl⟩⟩
theorem CF_46 : CF Tryd.prog 46 := ⟨⟨_, _, Tryd.func46, rfl, by kernel_rfl⟩⟩
theorem CF_63 : CF Tryd.prog 63 := ⟨⟨_, _, Tryd.func63, rfl, by kernel_rfl⟩⟩
theorem CF_64 : CF Tryd.prog 64 := ⟨⟨_, _, Tryd.func64, rfl, by kernel_rfl⟩⟩
theorem CF_71 : CF Tryd.prog 71 := ⟨⟨_, _, Tryd.func71, rfl, by kernel_rfl⟩⟩
theorem CF_72 : CF Tryd.prog 72 := ⟨⟨_, _, Tryd.func72, rfl, by kernel_rfl⟩⟩
theorem CF_73 : CF Tryd.prog 73 := ⟨⟨_, _, Tryd.func73, rfl, by kernel_rfl⟩⟩
theorem CF_74 : CF Tryd.prog 74 := ⟨⟨_, _, Tryd.func74, rfl, by kernel_rfl⟩⟩
theorem CF_77 : CF Tryd.prog 77 := ⟨⟨_, _, Tryd.func77, rfl, by kernel_rfl⟩⟩
theorem CF_78 : CF Tryd.prog 78 := ⟨⟨_, _, Tryd.func78, rfl, by kernel_rfl⟩⟩
theorem CF_79 : CF Tryd.prog 79 := ⟨⟨_, _, Tryd.func79, rfl, by kernel_rfl⟩⟩
theorem CF_80 : CF Tryd.prog 80 := ⟨⟨_, _, Tryd.func80, rfl, by kernel_rfl⟩⟩
theorem CF_81 : CF Tryd.prog 81 := ⟨⟨_, _, Tryd.func81, rfl, by kernel_rfl⟩⟩
theorem CF_82 : CF Tryd.prog 82 := ⟨⟨_, _, Tryd.func82, rfl, by kernel_rfl⟩⟩
theorem CF_83 : CF Tryd.prog 83 := ⟨⟨_, _, Tryd.func83, rfl, by kernel_rfl⟩⟩
end Go.Proofs.YticcmacclncgaaaDoor
