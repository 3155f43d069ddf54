/-
  More of what the walks ask of the program.
-/
import Derived.Test.YtjiplnaceiofmaaDoorFacts
namespace Go.Proofs.YtjiplnaceiofmaaDoor
open Go.ChangeShapes Go.WideShapes Go.ChangeAt Go.RowKit
def encI (n : Int) : List Value := [.int .i64 n]
def okI (n : Int) : Prop := i64ok n
theorem CF_104 : CF Tryd.prog 104 := ⟨⟨_, _, Tryd.func104, rfl, by kernel_rfl⟩⟩
theorem CF_105 : CF Tryd.prog 105 := ⟨⟨_, _, Tryd.func105, rfl, by kernel_rfl⟩⟩
theorem CF_106 : CF Tryd.prog 106 := ⟨⟨_, _, Tryd.func106, rfl, by kernel_rfl⟩⟩
theorem CF_116 : CF Tryd.prog 116 := ⟨⟨_, _, Tryd.func116, rfl, by kernel_rfl⟩⟩
theorem CF_117 : CF Tryd.prog 117 := ⟨⟨_, _, Tryd.func117, rfl, by kernel_rfl⟩⟩
theorem CF_126 : CF Tryd.prog 126 := ⟨⟨_, _, Tryd.func126, rfl, by kernel_rfl⟩⟩
theorem CF_133 : CF Tryd.prog 133 := ⟨⟨_, _, Tryd.func133, rfl, by kernel_rfl⟩⟩
theorem CF_142 : CF Tryd.prog 142 := ⟨⟨_, _, Tryd.func142, rfl, by kernel_rfl⟩⟩
theorem CF_144 : CF Tryd.prog 144 := ⟨⟨_, _, Tryd.func144, rfl, by kernel_rfl⟩⟩
theorem CF_15 : CF Tryd.prog 15 := ⟨⟨_, _, Tryd.func15, rfl, by kernel_rfl⟩⟩
theorem CF_16 : CF Tryd.prog 16 := ⟨⟨_, _, Tryd.func16, rfl, by kernel_rfl⟩⟩
theorem CF_17 : CF Tryd.prog 17 := ⟨⟨_, _, Tryd.func17, rfl, by kernel_rfl⟩⟩
theorem CF_18 : CF Tryd.prog 18 := ⟨⟨_, _, Tryd.func18, rfl, by kernel_rfl⟩⟩
theorem CF_20 : CF Tryd.prog 20 := ⟨⟨_, _, Tryd.func20, rfl, by kernel_rfl⟩⟩
theorem CF_21 : CF Tryd.prog 21 := ⟨⟨_, _, Tryd.func21, rfl, by kernel_rfl⟩⟩
theorem CF_23 : CF Tryd.prog 23 := ⟨⟨_, _, Tryd.func23, rfl, by kernel_rfl⟩⟩
theorem CF_24 : CF Tryd.prog 24 := ⟨⟨_, _, Tryd.func24, rfl, by kernel_rfl⟩⟩
theorem CF_25 : CF Tryd.prog 25 := ⟨⟨_, _, Tryd.func25, rfl, by kernel_rfl⟩⟩
theorem CF_26 : CF Tryd.prog 26 := ⟨⟨_, _, Tryd.func26, rfl, by kernel_rfl⟩⟩
theorem CF_27 : CF Tryd.prog 27 := ⟨⟨_, _, Tryd.func27, rfl, by kernel_rfl⟩⟩
theorem CF_28 : CF Tryd.prog 28 := ⟨⟨_, _, Tryd.func28, rfl, by kernel_rfl⟩⟩
theorem CF_29 : CF Tryd.prog 29 := ⟨⟨_, _, Tryd.func29, rfl, by kernel_rfl⟩⟩
theorem CF_30 : CF Tryd.prog 30 := ⟨⟨_, _, Tryd.func30, rfl, by kernel_rfl⟩⟩
theorem CF_31 : CF Tryd.prog 31 := ⟨⟨_, _, Tryd.func31, rfl, by kernel_rfl⟩⟩
theorem CF_32 : CF Tryd.prog 32 := ⟨⟨_, _, Tryd.func32, rfl, by kernel_rfl⟩⟩
theorem CF_33 : CF Tryd.prog 33 := ⟨⟨_, _, Tryd.func33, rfl, by kernel_rfl⟩⟩
theorem CF_34 : CF Tryd.prog 34 := ⟨⟨_, _, Tryd.func34, rfl, by kernel_rfl⟩⟩
theorem CF_35 : CF Tryd.prog 35 := ⟨⟨_, _, Tryd.func35, rfl, by kernel_rfl⟩⟩
theorem CF_36 : CF Tryd.prog 36 := ⟨⟨_, _, Tryd.func36, rfl, by kernel_rfl⟩⟩
theorem CF_40 : CF Tryd.prog 40 := ⟨⟨_, _, Tryd.func40, rfl, by kernel_rfl⟩⟩
theorem CF_41 : CF Tryd.prog 41 := ⟨⟨_, _, Tryd.func41, rfl, by kernel_rfl⟩⟩
theorem CF_42 : CF Tryd.prog 42 := ⟨⟨_, _, Tryd.func42, rfl, by kernel_rfl⟩⟩
theorem CF_43 : CF Tryd.prog 43 := ⟨⟨_, _, Tryd.func43, rfl, by kernel_rfl⟩⟩
theorem CF_44 : CF Tryd.prog 44 := ⟨⟨_, _, Tryd.func44, rfl, by kernel_rfl⟩⟩
theorem CF_45 : CF Tryd.prog 45 := ⟨⟨_, _, Tryd.func45, rfl, by kernel_rfl⟩⟩
theorem CF_46 : CF Tryd.prog 46 := ⟨⟨_, _, Tryd.func46, rfl, by kernel_rfl⟩⟩
theorem CF_47 : CF Tryd.prog 47 := ⟨⟨_, _, Tryd.func47, rfl, by kernel_rfl⟩⟩
theorem CF_48 : CF Tryd.prog 48 := ⟨⟨_, _, Tryd.func48, rfl, by kernel_rfl⟩⟩
theorem CF_49 : CF Tryd.prog 49 := ⟨⟨_, _, Tryd.func49, rfl, by kernel_rfl⟩⟩
theorem CF_50 : CF Tryd.prog 50 := ⟨⟨_, _, Tryd.func50, rfl, by kernel_rfl⟩⟩
theorem CF_61 : CF Tryd.prog 61 := ⟨⟨_, _, Tryd.func61, rfl, by kernel_rfl⟩⟩
theorem CF_62 : CF Tryd.prog 62 := ⟨⟨_, _, Tryd.func62, rfl, by kernel_rfl⟩⟩
theorem CF_63 : CF Tryd.prog 63 := ⟨⟨_, _, Tryd.func63, rfl, by kernel_rfl⟩⟩
theorem CF_68 : CF Tryd.prog 68 := ⟨⟨_, _, Tryd.func68, rfl, by kernel_rfl⟩⟩
theorem CF_73 : CF Tryd.prog 73 := ⟨⟨_, _, Tryd.func73, rfl, by kernel_rfl⟩⟩
theorem CF_78 : CF Tryd.prog 78 := ⟨⟨_, _, Tryd.func78, rfl, by kernel_rfl⟩⟩
theorem CF_79 : CF Tryd.prog 79 := ⟨⟨_, _, Tryd.func79, rfl, by kernel_rfl⟩⟩
theorem CF_89 : CF Tryd.prog 89 := ⟨⟨_, _, Tryd.func89, rfl, by kernel_rfl⟩⟩
theorem CF_90 : CF Tryd.prog 90 := ⟨⟨_, _, Tryd.func90, rfl, by kernel_rfl⟩⟩
theorem ET_24 : ElemT Tryd.prog 24 3 (.int .i64 0) 1 8 encI := { ht := Tryd.underlying24, hT := { info := by kernel_rfl, zs := rfl, pos := by decide }, hk := fun _ => rfl, h1 := by intro x u hu; simp [encI] at hu; subst hu; rfl, by0 := by decide }
theorem TI_59 : TI Tryd.prog 59 true 3 := ti_mk Tryd.underlying59 rfl (by kernel_rfl)
end Go.Proofs.YtjiplnaceiofmaaDoor
