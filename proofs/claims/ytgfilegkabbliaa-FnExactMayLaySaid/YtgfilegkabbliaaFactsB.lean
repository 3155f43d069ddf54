/-
  More of what the walks ask of the program.
-/
import Derived.Test.YtgfilegkabbliaaFacts
namespace Go.Proofs.Ytgfilegkabbliaa
open Go.ChangeShapes Go.WideShapes Go.ChangeAt Go.RowKit
theorem CF_116 : CF Try.prog 116 := ⟨⟨_, _, Try.func116, rfl, by kernel_rfl⟩⟩
theorem CF_117 : CF Try.prog 117 := ⟨⟨_, _, Try.func117, rfl, by kernel_rfl⟩⟩
theorem CF_119 : CF Try.prog 119 := ⟨⟨_, _, Try.func119, rfl, by kernel_rfl⟩⟩
theorem CF_123 : CF Try.prog 123 := ⟨⟨_, _, Try.func123, rfl, by kernel_rfl⟩⟩
theorem CF_16 : CF Try.prog 16 := ⟨⟨_, _, Try.func16, rfl, by kernel_rfl⟩⟩
theorem CF_17 : CF Try.prog 17 := ⟨⟨_, _, Try.func17, rfl, by kernel_rfl⟩⟩
theorem CF_18 : CF Try.prog 18 := ⟨⟨_, _, Try.func18, rfl, by kernel_rfl⟩⟩
theorem CF_19 : CF Try.prog 19 := ⟨⟨_, _, Try.func19, rfl, by kernel_rfl⟩⟩
theorem CF_20 : CF Try.prog 20 := ⟨⟨_, _, Try.func20, rfl, by kernel_rfl⟩⟩
theorem CF_21 : CF Try.prog 21 := ⟨⟨_, _, Try.func21, rfl, by kernel_rfl⟩⟩
theorem CF_22 : CF Try.prog 22 := ⟨⟨_, _, Try.func22, rfl, by kernel_rfl⟩⟩
theorem CF_28 : CF Try.prog 28 := ⟨⟨_, _, Try.func28, rfl, by kernel_rfl⟩⟩
theorem CF_30 : CF Try.prog 30 := ⟨⟨_, _, Try.func30, rfl, by kernel_rfl⟩⟩
theorem CF_54 : CF Try.prog 54 := ⟨⟨_, _, Try.func54, rfl, by kernel_rfl⟩⟩
theorem CF_56 : CF Try.prog 56 := ⟨⟨_, _, Try.func56, rfl, by kernel_rfl⟩⟩
theorem CF_69 : CF Try.prog 69 := ⟨⟨_, _, Try.func69, rfl, by kernel_rfl⟩⟩
theorem CF_70 : CF Try.prog 70 := ⟨⟨_, _, Try.func70, rfl, by kernel_rfl⟩⟩
theorem CF_71 : CF Try.prog 71 := ⟨⟨_, _, Try.func71, rfl, by kernel_rfl⟩⟩
theorem CF_72 : CF Try.prog 72 := ⟨⟨_, _, Try.func72, rfl, by kernel_rfl⟩⟩
end Go.Proofs.Ytgfilegkabbliaa
