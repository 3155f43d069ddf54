/-
  PROVED HERE: for every journal and every number the statement laws.FnExactFitsIn returns true: the program's FitsIn and the reference's agree. No condition.
-/
import Derived.Test.YtleibkhlkpdhjaaJournal
namespace Go.Proofs.Ytleibkhlkpdhjaa.fits
open Go.ChangeShapes Go.WideShapes Go.ChangeAt Go.RowKit

set_option maxHeartbeats 1000000 in
theorem walk (s : ByteArray) (y n : Int) (w : World) (hs : s.size ≤ 9223372036854775807) :
    Calls Try.prog 3 #[.agg #[.string s, .int .i64 y], .int .i64 n] w fun e w' => e = .returned (.bool true) ∧ Bl w w' := by
  have hz := subOr_bd 1048576 s.size (by omega)
  generalize hq : subOr 1048576 s.size = q at hz
  have Hq := Lib.hid hq; clear hq
  have hB : Bl w (w.alloc (.cells #[.string s, .int .i64 y] 23)) := (Bl.refl _).alloc _
  have k0 : (w.alloc (.cells #[.string s, .int .i64 y] 23)).cell? ⟨w.heap.size, 0, none⟩ = some (.string s) := by simp
  have k1 : (w.alloc (.cells #[.string s, .int .i64 y] 23)).cell? ⟨w.heap.size, 1, none⟩ = some (.int .i64 y) := by simp
  go_enter Try.func3, Try.ntmps3
  go_wp2_with (go_at_call 6; refine (szJournal_c s y _ _ hs (by omega) (by omega)).mono ?_; rintro e w1 ⟨rfl, hb⟩; replace k0 := hb.cellOf k0; replace k1 := hb.cellOf k1; replace hB := hB.trans hb; clear hb; rw [Hq.out])
  · go_ret
    exact ⟨rfl, hB⟩
  · go_wp2_with (first | (go_at_call 8; refine (toJournal_c s y _).mono ?_; rintro e w2 ⟨rfl, hb⟩; replace k0 := hb.cellOf k0; replace k1 := hb.cellOf k1; replace hB := hB.trans hb; clear hb) | (go_at_call 7; refine (sFitsIn_c s y n _ hs).mono ?_; rintro e w2 ⟨rfl, hb⟩; replace k0 := hb.cellOf k0; replace k1 := hb.cellOf k1; replace hB := hB.trans hb; clear hb) | (go_at_call 9; refine (iFitsIn_c s y n _ hs).mono ?_; rintro e w2 ⟨rfl, hb⟩; replace k0 := hb.cellOf k0; replace k1 := hb.cellOf k1; replace hB := hB.trans hb; clear hb))
    go_ret
    exact ⟨rfl, hB⟩

/-! ### the statement -/
theorem own : ownKnob Try.prog.godebug = none := by kernel_rfl
theorem laidOut : laidOutB Try.prog = true := by kernel_rfl
theorem readable : ∀ t ∈ Try.f3.params.toList, Try.prog.readableRec t = true ∧ t < Try.prog.types.size :=
  of_decide_eq_true (by kernel_rfl)
theorem cellsJ : Try.prog.cellsOf 23 = 2 := by kernel_rfl
theorem cellsS : Try.prog.cellsOf 9 = 1 := by kernel_rfl
theorem cellsI : Try.prog.cellsOf 3 = 1 := by kernel_rfl

theorem called (W : World) (args : Array Value) (h : ArgsRead Try.prog W Try.f3.params.toList args.toList) :
    Calls Try.prog 3 args W fun e W' => e = .returned (.bool true) ∧ Bl W W' := by
  obtain ⟨hl, h⟩ := h
  rw [Try.params3] at hl h
  obtain ⟨v0, v1, rfl⟩ : ∃ v0 v1, args = #[v0, v1] := by
    obtain ⟨l⟩ := args
    match l, hl with
    | [a, b], _ => exact ⟨a, b, rfl⟩
  obtain ⟨r0, o0⟩ := h 0 _ v0 rfl rfl
  obtain ⟨r1, o1⟩ := h 1 _ v1 rfl rfl
  obtain ⟨cs, rfl, hcs⟩ := agg_of_okWide Try.underlying23 o0
  rw [hcs] at r0
  obtain ⟨hlen, hf⟩ := r0.struct Try.underlying23
  rw [cellsJ] at hlen
  match cs, hlen with
  | [c0, c1], _ =>
    have f0 : Reads Try.prog W 9 [c0] := by simpa [cellsS] using hf 0 _ rfl
    have f1 : Reads Try.prog W 3 [c1] := by simpa [cellsI] using hf 1 _ rfl
    obtain ⟨s, hs, hm⟩ := f0.string Try.underlying9
    obtain ⟨y, hy, -⟩ := f1.i64 Try.underlying3
    cases hs; cases hy
    obtain ⟨n, hn, -⟩ := (reads_one Try.underlying3 trivial o1 r1).i64 Try.underlying3
    cases hn
    exact walk s y n W (maxLen_le hm)

theorem lifted (os : Os) (started : os.Started) (H : Type) (enc : TypeId × Value → H) :
    ReturnsInHanded {} Try.checked os 3 .any (Rows.fnExactFitsInSpec.pre6 enc Try.prog Try.f3 Rows.fnExactFitsInRow.domain false) (Rows.fnExactFitsInSpec.post enc Try.prog Try.f3 false true false false) := by
  refine returnsInHanded_of_change (C := Try.checked) own started (by kernel_rfl) Try.func3
    (ChangeSpec.witness6 (enc := enc) (C := Try.checked) false ⟨#[], #[.agg #[.string .empty, .int .i64 0], .int .i64 0], []⟩ 8 (by kernel_rfl) (by kernel_rfl) (by kernel_rfl) (by kernel_rfl)) ?_
  intro W base args ds gs before hval hW _ _
  refine law_contract laidOut readable Try.underlying4 rfl rfl ?_ called H enc false true false false W args ds gs before hval hW
  intro H ds hd
  match ds, hd with
  | [a, b], _ => rfl
theorem proved : Rows.FnExactFitsInSaid :=
  OpenClaim.holds_of_wide 3 Try.f3 rfl rfl rfl rfl rfl rfl rfl ⟨rfl, rfl, rfl, rfl, rfl⟩ rfl rfl rfl rfl rfl (by kernel_rfl) Try.func3 (by kernel_rfl)
    (of_decide_eq_true (by kernel_rfl)) (by unfold Func.isWrapper; first | (rw [if_pos (by decide +kernel)]; kernel_rfl) | (rw [if_neg (by decide +kernel)]; exact ⟨rfl, rfl⟩))
    (fun os started H enc _ => lifted os started H enc)
end Go.Proofs.Ytleibkhlkpdhjaa.fits
