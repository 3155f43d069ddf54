/-
  More of what the walks ask of the program.
-/
import Derived.Test.YtkeglhkdanenbaaFacts
namespace Go.Proofs.Ytkeglhkdanenbaa
open Go.ChangeShapes Go.WideShapes Go.ChangeAt Go.RowKit
theorem CF_10 : CF Try.prog 10 := ⟨⟨_, _, Try.func10, rfl, by kernel_rfl⟩⟩
theorem CF_11 : CF Try.prog 11 := ⟨⟨_, _, Try.func11, rfl, by kernel_rfl⟩⟩
theorem CF_14 : CF Try.prog 14 := ⟨⟨_, _, Try.func14, rfl, by kernel_rfl⟩⟩
theorem CF_15 : CF Try.prog 15 := ⟨⟨_, _, Try.func15, rfl, by kernel_rfl⟩⟩
theorem CF_16 : CF Try.prog 16 := ⟨⟨_, _, Try.func16, rfl, by kernel_rfl⟩⟩
theorem CF_17 : CF Try.prog 17 := ⟨⟨_, _, Try.func17, rfl, by kernel_rfl⟩⟩
theorem CF_18 : CF Try.prog 18 := ⟨⟨_, _, Try.func18, rfl, by kernel_rfl⟩⟩
theorem CF_19 : CF Try.prog 19 := ⟨⟨_, _, Try.func19, rfl, by kernel_rfl⟩⟩
theorem CF_20 : CF Try.prog 20 := ⟨⟨_, _, Try.func20, rfl, by kernel_rfl⟩⟩
theorem CF_21 : CF Try.prog 21 := ⟨⟨_, _, Try.func21, rfl, by kernel_rfl⟩⟩
theorem CF_22 : CF Try.prog 22 := ⟨⟨_, _, Try.func22, rfl, by kernel_rfl⟩⟩
theorem CF_23 : CF Try.prog 23 := ⟨⟨_, _, Try.func23, rfl, by kernel_rfl⟩⟩
theorem CF_24 : CF Try.prog 24 := ⟨⟨_, _, Try.func24, rfl, by kernel_rfl⟩⟩
theorem CF_25 : CF Try.prog 25 := ⟨⟨_, _, Try.func25, rfl, by kernel_rfl⟩⟩
theorem CF_26 : CF Try.prog 26 := ⟨⟨_, _, Try.func26, rfl, by kernel_rfl⟩⟩
theorem CF_27 : CF Try.prog 27 := ⟨⟨_, _, Try.func27, rfl, by kernel_rfl⟩⟩
theorem CF_28 : CF Try.prog 28 := ⟨⟨_, _, Try.func28, rfl, by kernel_rfl⟩⟩
theorem CF_29 : CF Try.prog 29 := ⟨⟨_, _, Try.func29, rfl, by kernel_rfl⟩⟩
theorem CF_30 : CF Try.prog 30 := ⟨⟨_, _, Try.func30, rfl, by kernel_rfl⟩⟩
theorem CF_31 : CF Try.prog 31 := ⟨⟨_, _, Try.func31, rfl, by kernel_rfl⟩⟩
theorem CF_32 : CF Try.prog 32 := ⟨⟨_, _, Try.func32, rfl, by kernel_rfl⟩⟩
theorem CF_33 : CF Try.prog 33 := ⟨⟨_, _, Try.func33, rfl, by kernel_rfl⟩⟩
theorem CF_34 : CF Try.prog 34 := ⟨⟨_, _, Try.func34, rfl, by kernel_rfl⟩⟩
theorem CF_35 : CF Try.prog 35 := ⟨⟨_, _, Try.func35, rfl, by kernel_rfl⟩⟩
theorem CF_49 : CF Try.prog 49 := ⟨⟨_, _, Try.func49, rfl, by kernel_rfl⟩⟩
theorem CF_5 : CF Try.prog 5 := ⟨⟨_, _, Try.func5, rfl, by kernel_rfl⟩⟩
theorem CF_50 : CF Try.prog 50 := ⟨⟨_, _, Try.func50, rfl, by kernel_rfl⟩⟩
theorem CF_51 : CF Try.prog 51 := ⟨⟨_, _, Try.func51, rfl, by kernel_rfl⟩⟩
theorem CF_52 : CF Try.prog 52 := ⟨⟨_, _, Try.func52, rfl, by kernel_rfl⟩⟩
theorem CF_6 : CF Try.prog 6 := ⟨⟨_, _, Try.func6, rfl, by kernel_rfl⟩⟩
theorem CF_7 : CF Try.prog 7 := ⟨⟨_, _, Try.func7, rfl, by kernel_rfl⟩⟩
theorem CF_8 : CF Try.prog 8 := ⟨⟨_, _, Try.func8, rfl, by kernel_rfl⟩⟩
theorem CF_9 : CF Try.prog 9 := ⟨⟨_, _, Try.func9, rfl, by kernel_rfl⟩⟩
theorem FI_29_0 : FI Try.prog 29 0 0 := fi_mk Try.underlying29 rfl rfl (k := 0) (by kernel_rfl)
theorem FI_29_1 : FI Try.prog 29 1 1 := fi_mk Try.underlying29 rfl rfl (k := 0) (by kernel_rfl)
theorem FI_29_2 : FI Try.prog 29 2 2 := fi_mk Try.underlying29 rfl rfl (k := 0) (by kernel_rfl)
theorem FI_29_3 : FI Try.prog 29 3 3 := fi_mk Try.underlying29 rfl rfl (k := 0) (by kernel_rfl)
theorem FI_29_4 : FI Try.prog 29 4 4 := fi_mk Try.underlying29 rfl rfl (k := 0) (by kernel_rfl)
theorem FI_29_5 : FI Try.prog 29 5 5 := fi_mk Try.underlying29 rfl rfl (k := 0) (by kernel_rfl)
theorem FI_29_6 : FI Try.prog 29 6 6 := fi_mk Try.underlying29 rfl rfl (k := 1) (by kernel_rfl)
theorem FI_29_7 : FI Try.prog 29 7 8 := fi_mk Try.underlying29 rfl rfl (k := 0) (by kernel_rfl)
theorem FI_29_8 : FI Try.prog 29 8 9 := fi_mk Try.underlying29 rfl rfl (k := 0) (by kernel_rfl)
theorem FI_35_0 : FI Try.prog 35 0 0 := fi_mk Try.underlying35 rfl rfl (k := 0) (by kernel_rfl)
theorem FI_35_1 : FI Try.prog 35 1 1 := fi_mk Try.underlying35 rfl rfl (k := 0) (by kernel_rfl)
theorem FI_35_2 : FI Try.prog 35 2 2 := fi_mk Try.underlying35 rfl rfl (k := 0) (by kernel_rfl)
theorem FI_35_3 : FI Try.prog 35 3 3 := fi_mk Try.underlying35 rfl rfl (k := 0) (by kernel_rfl)
theorem FI_35_4 : FI Try.prog 35 4 4 := fi_mk Try.underlying35 rfl rfl (k := 0) (by kernel_rfl)
theorem FI_35_5 : FI Try.prog 35 5 5 := fi_mk Try.underlying35 rfl rfl (k := 0) (by kernel_rfl)
theorem FI_35_6 : FI Try.prog 35 6 6 := fi_mk Try.underlying35 rfl rfl (k := 1) (by kernel_rfl)
theorem FI_35_7 : FI Try.prog 35 7 8 := fi_mk Try.underlying35 rfl rfl (k := 0) (by kernel_rfl)
theorem FI_35_8 : FI Try.prog 35 8 9 := fi_mk Try.underlying35 rfl rfl (k := 0) (by kernel_rfl)
theorem TI_22 : TI Try.prog 22 false 1 := ti_mk Try.underlying22 rfl (by kernel_rfl)
theorem TI_23 : TI Try.prog 23 false 1 := ti_mk Try.underlying23 rfl (by kernel_rfl)
theorem TI_26 : TI Try.prog 26 true 2 := ti_mk Try.underlying26 rfl (by kernel_rfl)
theorem TI_27 : TI Try.prog 27 false 1 := ti_mk Try.underlying27 rfl (by kernel_rfl)
theorem TI_29 : TI Try.prog 29 true 10 := ti_mk Try.underlying29 rfl (by kernel_rfl)
theorem TI_31 : TI Try.prog 31 false 1 := ti_mk Try.underlying31 rfl (by kernel_rfl)
theorem TI_32 : TI Try.prog 32 false 1 := ti_mk Try.underlying32 rfl (by kernel_rfl)
theorem TI_35 : TI Try.prog 35 true 10 := ti_mk Try.underlying35 rfl (by kernel_rfl)
theorem ZI_35 : ZI Try.prog 35 (.agg #[.int .i64 0, .int .i64 0, .int .i64 0, .int .i64 0, .slice none 0 0, .slice none 0 0, .slice none 0 0, .slice none 0 0, .slice none 0 0, .int .i64 0]) := zi_mk (by kernel_rfl)
end Go.Proofs.Ytkeglhkdanenbaa
