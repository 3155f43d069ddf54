/-
  More of what the walks ask of the program.
-/
import Derived.Test.YtibgmijfnbnfkaaDoorFacts
namespace Go.Proofs.YtibgmijfnbnfkaaDoor
open Go.ChangeShapes Go.WideShapes Go.ChangeAt Go.RowKit
theorem CF_10 : CF Tryd.prog 10 := ⟨⟨_, _, Tryd.func10, rfl, by kernel_rfl⟩⟩
theorem CF_11 : CF Tryd.prog 11 := ⟨⟨_, _, Tryd.func11, rfl, by kernel_rfl⟩⟩
theorem CF_12 : CF Tryd.prog 12 := ⟨⟨_, _, Tryd.func12, rfl, by kernel_rfl⟩⟩
theorem CF_13 : CF Tryd.prog 13 := ⟨⟨_, _, Tryd.func13, rfl, by kernel_rfl⟩⟩
theorem CF_14 : CF Tryd.prog 14 := ⟨⟨_, _, Tryd.func14, rfl, by kernel_rfl⟩⟩
theorem CF_15 : CF Tryd.prog 15 := ⟨⟨_, _, Tryd.func15, rfl, by kernel_rfl⟩⟩
theorem CF_17 : CF Tryd.prog 17 := ⟨⟨_, _, Tryd.func17, rfl, by kernel_rfl⟩⟩
theorem CF_18 : CF Tryd.prog 18 := ⟨⟨_, _, Tryd.func18, rfl, by kernel_rfl⟩⟩
theorem CF_22 : CF Tryd.prog 22 := ⟨⟨_, _, Tryd.func22, rfl, by kernel_rfl⟩⟩
theorem CF_28 : CF Tryd.prog 28 := ⟨⟨_, _, Tryd.func28, rfl, by kernel_rfl⟩⟩
theorem CF_30 : CF Tryd.prog 30 := ⟨⟨_, _, Tryd.func30, rfl, by kernel_rfl⟩⟩
theorem CF_37 : CF Tryd.prog 37 := ⟨⟨_, _, Tryd.func37, rfl, by kernel_rfl⟩⟩
theorem CF_38 : CF Tryd.prog 38 := ⟨⟨_, _, Tryd.func38, rfl, by kernel_rfl⟩⟩
theorem CF_7 : CF Tryd.prog 7 := ⟨⟨_, _, Tryd.func7, rfl, by kernel_rfl⟩⟩
theorem CF_8 : CF Tryd.prog 8 := ⟨⟨_, _, Tryd.func8, rfl, by kernel_rfl⟩⟩
theorem CF_9 : CF Tryd.prog 9 := ⟨⟨_, _, Tryd.func9, rfl, by kernel_rfl⟩⟩
end Go.Proofs.YtibgmijfnbnfkaaDoor
