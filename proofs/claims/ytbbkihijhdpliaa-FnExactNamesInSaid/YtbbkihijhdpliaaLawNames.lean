/-
  PROVED HERE: whatever the input, the statement laws.FnExactNamesIn returns true: the program's NamesIn and the reference's give equal results, alter nothing of their arguments, and the result stands by itself. No condition.
-/
import Derived.Test.YtbbkihijhdpliaaGenNames
import Derived.Test.YtbbkihijhdpliaaLaw
namespace Go.Proofs.Ytbbkihijhdpliaa
open Go.ChangeShapes Go.WideShapes Go.ChangeAt Go.RowKit
end Go.Proofs.Ytbbkihijhdpliaa
namespace Go.Proofs.Ytbbkihijhdpliaa.names
open Go.ChangeShapes Go.WideShapes Go.ChangeAt Go.RowKit
set_option maxRecDepth 100000
theorem cells_9 : Try.prog.cellsOf 9 = 1 := by kernel_rfl
theorem cells_22 : Try.prog.cellsOf 22 = 1 := by kernel_rfl
theorem cells_24 : Try.prog.cellsOf 24 = 2 := by kernel_rfl
theorem cells_42 : Try.prog.cellsOf 42 = 1 := by kernel_rfl
theorem cells_44 : Try.prog.cellsOf 44 = 3 := by kernel_rfl
theorem cells_117 : Try.prog.cellsOf 117 = 2 := by kernel_rfl
theorem called (W : World) (args : Array Value) (h : ArgsRead Try.prog W Try.f8.params.toList args.toList) : Calls Try.prog 8 args W fun e W' => e = .returned (.bool true) ∧ Bl W W' := by
  obtain ⟨hl, h⟩ := h
  rw [Try.params8] at hl h
  obtain ⟨v0, rfl⟩ : ∃ v0, args = #[v0] := by
    obtain ⟨l⟩ := args
    match l, hl with
    | [v0], _ => exact ⟨v0, rfl⟩
  obtain ⟨r0, o0⟩ := h 0 _ v0 rfl rfl
  obtain ⟨cs0, rfl, hcs0⟩ := agg_of_okWide Try.underlying44 o0
  rw [hcs0] at r0
  have hlen0 := (r0.struct Try.underlying44).1
  rw [cells_44] at hlen0
  obtain ⟨c0_0, c0_1, c0_2, rfl⟩ : ∃ c0_0 c0_1 c0_2, cs0 = [c0_0, c0_1, c0_2] := by
    match cs0, hlen0 with
    | [c0_0, c0_1, c0_2], _ => exact ⟨c0_0, c0_1, c0_2, rfl⟩
  obtain ⟨_, hf_0⟩ := r0.struct Try.underlying44
  have f_0_0 : Reads Try.prog W 42 [c0_0] := by simpa [cells_42] using hf_0 0 _ rfl
  obtain ⟨a_0_0, n_0_0, c_0_0, l_0_0, e_0_0, v_0_0⟩ := rdA_of Try.underlying42 cells_117 (by decide) (cell_row Try.underlying117 rfl rfl rfl rfl cells_9 cells_9 Try.underlying9 Try.underlying9) f_0_0
  cases e_0_0
  have f_0_1 : Reads Try.prog W 24 [c0_1, c0_2] := by simpa [cells_24] using hf_0 1 _ rfl
  obtain ⟨_, hf_0_1⟩ := f_0_1.struct Try.underlying24
  have f_0_1_0 : Reads Try.prog W 22 [c0_1] := by simpa [cells_22] using hf_0_1 0 _ rfl
  obtain ⟨a_0_1_0, n_0_1_0, c_0_1_0, l_0_1_0, e_0_1_0, v_0_1_0⟩ := rdA_of Try.underlying22 cells_9 (by decide) (str_row Try.underlying9) f_0_1_0
  cases e_0_1_0
  have f_0_1_1 : Reads Try.prog W 22 [c0_2] := by simpa [cells_22] using hf_0_1 1 _ rfl
  obtain ⟨a_0_1_1, n_0_1_1, c_0_1_1, l_0_1_1, e_0_1_1, v_0_1_1⟩ := rdA_of Try.underlying22 cells_9 (by decide) (str_row Try.underlying9) f_0_1_1
  cases e_0_1_1
  exact (laws_FnExactNamesIn_c (w := W) (H := fun _ => True) (aM := (⟨l_0_0, (⟨l_0_1_0, l_0_1_1⟩ : TouchD)⟩ : MachD)) v_0_0 v_0_1_0 v_0_1_1).mono fun e W' ⟨h1, h2⟩ => ⟨h1, h2.bl⟩
theorem own : ownKnob Try.prog.godebug = none := by kernel_rfl
theorem laidOut : laidOutB Try.prog = true := by kernel_rfl
theorem readable : ∀ t ∈ Try.f8.params.toList, Try.prog.readableRec t = true ∧ t < Try.prog.types.size := of_decide_eq_true (by kernel_rfl)
theorem lifted (os : Os) (started : os.Started) (H : Type) (enc : TypeId × Value → H) :
    ReturnsInHanded {} Try.checked os 8 .any (Rows.fnExactNamesInSpec.pre6 enc Try.prog Try.f8 Rows.fnExactNamesInRow.domain false) (Rows.fnExactNamesInSpec.post enc Try.prog Try.f8 false true false false) := by
  refine returnsInHanded_of_change (C := Try.checked) own started (by kernel_rfl) Try.func8
    (ChangeSpec.witness6 (enc := enc) (C := Try.checked) false ⟨#[], #[.agg #[.slice none 0 0, .slice none 0 0, .slice none 0 0]], []⟩ 8 (by kernel_rfl) (by kernel_rfl) (by kernel_rfl) (by kernel_rfl)) ?_
  intro W base args ds gs before hval hW _ _
  refine law_contract laidOut readable Try.underlying4 rfl rfl ?_ called H enc false true false false W args ds gs before hval hW
  intro H ds hd
  match ds, hd with
  | [a], _ => rfl
theorem proved : Rows.FnExactNamesInSaid :=
  OpenClaim.holds_of_wide 8 Try.f8 rfl rfl rfl rfl rfl rfl rfl ⟨rfl, rfl, rfl, rfl, rfl⟩ rfl rfl rfl rfl rfl (by kernel_rfl) Try.func8 (by kernel_rfl)
    (of_decide_eq_true (by kernel_rfl)) (by unfold Func.isWrapper; first | (rw [if_pos (by decide +kernel)]; kernel_rfl) | (rw [if_neg (by decide +kernel)]; exact ⟨rfl, rfl⟩))
    (fun os started H enc _ => lifted os started H enc)
end Go.Proofs.Ytbbkihijhdpliaa.names
