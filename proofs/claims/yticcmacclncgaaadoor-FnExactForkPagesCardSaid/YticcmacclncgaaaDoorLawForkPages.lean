/-
  PROVED HERE: whatever the input, the statement laws.FnExactForkPages returns true: the program's ForkPages and the reference's give equal results, alter nothing of their arguments, and the result stands by itself. Condition: the tables and errors of the library that the row lists stand as the program's text lays them (the card ties that).
-/
import Derived.Test.YticcmacclncgaaaDoorGenForkPages
import Derived.Test.YticcmacclncgaaaDoorLaw3
namespace Go.Proofs.YticcmacclncgaaaDoor
open Go.ChangeShapes Go.WideShapes Go.ChangeAt Go.RowKit
end Go.Proofs.YticcmacclncgaaaDoor
namespace Go.Proofs.YticcmacclncgaaaDoor.forkpages
open Go.ChangeShapes Go.WideShapes Go.ChangeAt Go.RowKit
set_option maxRecDepth 100000
theorem cells_9 : Tryd.prog.cellsOf 9 = 1 := by kernel_rfl
theorem cells_22 : Tryd.prog.cellsOf 22 = 1 := by kernel_rfl
theorem cells_23 : Tryd.prog.cellsOf 23 = 1 := by kernel_rfl
theorem cells_25 : Tryd.prog.cellsOf 25 = 2 := by kernel_rfl
theorem cells_27 : Tryd.prog.cellsOf 27 = 3 := by kernel_rfl
theorem cells_83 : Tryd.prog.cellsOf 83 = 2 := by kernel_rfl
theorem ground0 {W : World} (h : laidMet Tryd.prog [("math/bits.deBruijn32tab", Rows.laid_math_bits_deBruijn32tab), ("math/bits.deBruijn64tab", Rows.laid_math_bits_deBruijn64tab), ("internal/strconv.uint64pow10", Rows.laid_internal_strconv_uint64pow10)] W) : Tb 0 (fun _ => True) W := by
  have e : (Rows.laid_internal_strconv_uint64pow10 : DataW Unit) = Lib.tabData .u64 Lib.pow10Tab := by kernel_rfl
  have h2 : laidMet Tryd.prog (("internal/strconv.uint64pow10", Lib.tabData .u64 Lib.pow10Tab) :: []) W := by rw [← e]; exact h.tail.tail
  have h3 : Lib.TabIs Tryd.prog W "internal/strconv.uint64pow10" .u64 Lib.pow10Tab := Lib.tabIs_of_head laysItoa.m17 (t := 152) (e := 139) (n := 20) (by kernel_rfl) Tryd.underlying152 Tryd.underlying139 (by kernel_rfl) (by kernel_rfl) h2
  exact ⟨h3, fun g hg => by rw [List.mem_singleton.1 hg]; exact ⟨trivial, Lib.lt_of_cell (h3.cell laysItoa.m17 0 (by decide))⟩⟩
theorem called (W : World) (args : Array Value) (h : ArgsRead Tryd.prog W Tryd.f10.params.toList args.toList) (t0 : Tb 0 (fun _ => True) W) : Calls Tryd.prog 10 args W fun e W' => e = .returned (.bool true) ∧ Bl W W' := by
  obtain ⟨hl, h⟩ := h
  rw [Tryd.params10] at hl h
  obtain ⟨v0, v1, v2, rfl⟩ : ∃ v0 v1 v2, args = #[v0, v1, v2] := by
    obtain ⟨l⟩ := args
    match l, hl with
    | [v0, v1, v2], _ => exact ⟨v0, v1, v2, rfl⟩
  obtain ⟨r0, o0⟩ := h 0 _ v0 rfl rfl
  obtain ⟨cs0, rfl, hcs0⟩ := agg_of_okWide Tryd.underlying27 o0
  rw [hcs0] at r0
  have hlen0 := (r0.struct Tryd.underlying27).1
  rw [cells_27] at hlen0
  obtain ⟨c0_0, c0_1, c0_2, rfl⟩ : ∃ c0_0 c0_1 c0_2, cs0 = [c0_0, c0_1, c0_2] := by
    match cs0, hlen0 with
    | [c0_0, c0_1, c0_2], _ => exact ⟨c0_0, c0_1, c0_2, rfl⟩
  obtain ⟨_, hf_0⟩ := r0.struct Tryd.underlying27
  have f_0_0 : Reads Tryd.prog W 22 [c0_0] := by simpa [cells_22] using hf_0 0 _ rfl
  obtain ⟨a_0_0, n_0_0, c_0_0, l_0_0, e_0_0, v_0_0⟩ := rdA_of Tryd.underlying22 cells_83 (by decide) (cell_row Tryd.underlying83 rfl rfl rfl rfl cells_9 cells_9 Tryd.underlying9 Tryd.underlying9) f_0_0
  cases e_0_0
  have f_0_1 : Reads Tryd.prog W 25 [c0_1, c0_2] := by simpa [cells_25] using hf_0 1 _ rfl
  obtain ⟨_, hf_0_1⟩ := f_0_1.struct Tryd.underlying25
  have f_0_1_0 : Reads Tryd.prog W 23 [c0_1] := by simpa [cells_23] using hf_0_1 0 _ rfl
  obtain ⟨a_0_1_0, n_0_1_0, c_0_1_0, l_0_1_0, e_0_1_0, v_0_1_0⟩ := rdA_of Tryd.underlying23 cells_9 (by decide) (str_row Tryd.underlying9) f_0_1_0
  cases e_0_1_0
  have f_0_1_1 : Reads Tryd.prog W 23 [c0_2] := by simpa [cells_23] using hf_0_1 1 _ rfl
  obtain ⟨a_0_1_1, n_0_1_1, c_0_1_1, l_0_1_1, e_0_1_1, v_0_1_1⟩ := rdA_of Tryd.underlying23 cells_9 (by decide) (str_row Tryd.underlying9) f_0_1_1
  cases e_0_1_1
  obtain ⟨r1, o1⟩ := h 1 _ v1 rfl rfl
  have q1 := reads_one Tryd.underlying3 trivial o1 r1
  obtain ⟨i_1, e_1, h_1, g_1⟩ := q1.i64 Tryd.underlying3
  cases e_1
  obtain ⟨r2, o2⟩ := h 2 _ v2 rfl rfl
  have q2 := reads_one Tryd.underlying3 trivial o2 r2
  obtain ⟨i_2, e_2, h_2, g_2⟩ := q2.i64 Tryd.underlying3
  cases e_2
  exact (laws_FnExactForkPages_c (w := W) (H := fun _ => True) (aM := (⟨l_0_0, (⟨l_0_1_0, l_0_1_1⟩ : TouchD)⟩ : MachD)) (aFrom := i_1) (aTo := i_2) v_0_0 v_0_1_0 v_0_1_1 ⟨h_1, g_1⟩ ⟨h_2, g_2⟩ t0).mono fun e W' ⟨h1, h2⟩ => ⟨h1, h2.bl⟩
theorem own : ownKnob Tryd.prog.godebug = none := by kernel_rfl
theorem laidOut : laidOutB Tryd.prog = true := by kernel_rfl
theorem readable : ∀ t ∈ Tryd.f10.params.toList, Tryd.prog.readableRec t = true ∧ t < Tryd.prog.types.size := of_decide_eq_true (by kernel_rfl)
theorem door_met (os : Os) (args : Array Value) : laidMetH Tryd.prog [("math/bits.deBruijn32tab", Rows.laid_math_bits_deBruijn32tab), ("math/bits.deBruijn64tab", Rows.laid_math_bits_deBruijn64tab), ("internal/strconv.uint64pow10", Rows.laid_internal_strconv_uint64pow10)] ((World.doorLaid Tryd.prog 81 os).forCall (fun _ _ => 0) ⟨#[], args, []⟩).memory :=
  laidMetH_of_parts3 (fuel := 8) (laidMet_of_run' 8 (by kernel_rfl) (by kernel_rfl)) (by kernel_rfl) (by kernel_rfl)
theorem lifted (os : Os) (started : os.Started) (H : Type) (enc : TypeId × Value → H) :
    ReturnsInHanded {} Tryd.checked os 10 .any (fun w args => (Rows.fnExactForkPagesSpec.pre enc Tryd.prog Tryd.f10 [] false w args ∧ laidMetH Tryd.prog [("math/bits.deBruijn32tab", Rows.laid_math_bits_deBruijn32tab), ("math/bits.deBruijn64tab", Rows.laid_math_bits_deBruijn64tab), ("internal/strconv.uint64pow10", Rows.laid_internal_strconv_uint64pow10)] w) ∧ sizedMet enc Tryd.prog Tryd.f10 (OpenSpec.ofChange Rows.fnExactForkPagesSpec) false w args)
      (Rows.fnExactForkPagesSpec.post enc Tryd.prog Tryd.f10 false true false false) := by
  refine returnsInHanded_of_change_and (C := Tryd.checked) (X := fun w _ => laidMetH Tryd.prog [("math/bits.deBruijn32tab", Rows.laid_math_bits_deBruijn32tab), ("math/bits.deBruijn64tab", Rows.laid_math_bits_deBruijn64tab), ("internal/strconv.uint64pow10", Rows.laid_internal_strconv_uint64pow10)] w) (fun _ _ _ hh h => h.of_heap hh) own started (by kernel_rfl) Tryd.func10
    (ChangeSpec.witness_shaped (enc := enc) (C := Tryd.checked) (os := os) (X := fun w _ => laidMetH Tryd.prog [("math/bits.deBruijn32tab", Rows.laid_math_bits_deBruijn32tab), ("math/bits.deBruijn64tab", Rows.laid_math_bits_deBruijn64tab), ("internal/strconv.uint64pow10", Rows.laid_internal_strconv_uint64pow10)] w) false (World.doorLaid Tryd.prog 81 os) #[.agg #[.slice none 0 0, .slice none 0 0, .slice none 0 0], .int .i64 0, .int .i64 0] 8 rfl (World.shaped_of_RefB (by kernel_rfl) (by kernel_rfl)) (by kernel_rfl) (by kernel_rfl) (by kernel_rfl) (door_met os _)) ?_
  intro W base args ds gs before hval0 hW _ _ hL _
  have hval : ∀ (j : Nat) t v, Tryd.f10.params[j]? = some t → args[j]? = some v → Value.okWide Tryd.prog W .any 0 t v := hval0
  have hM : laidMet Tryd.prog [("math/bits.deBruijn32tab", Rows.laid_math_bits_deBruijn32tab), ("math/bits.deBruijn64tab", Rows.laid_math_bits_deBruijn64tab), ("internal/strconv.uint64pow10", Rows.laid_internal_strconv_uint64pow10)] W := by
    have h := hL
    rw [MakeChecks.laidMetH_plain _ _ _ (by kernel_rfl)] at h
    exact h
  refine law_contractW laidOut readable Tryd.underlying4 rfl rfl ?_ H enc false true false false W args ds gs before (fun h => called W args h (ground0 hM)) hval hW
  intro H ds hd
  match ds, hd with
  | [a, b, c], _ => rfl
theorem bare : Rows.FnExactForkPagesSaid :=
  OpenClaim.holds_of_wide 10 Tryd.f10 rfl rfl rfl rfl rfl rfl rfl ⟨rfl, rfl, rfl, rfl, rfl⟩ rfl rfl rfl rfl rfl (by kernel_rfl) Tryd.func10 (by kernel_rfl)
    (of_decide_eq_true (by kernel_rfl)) (by unfold Func.isWrapper; first | (rw [if_pos (by decide +kernel)]; kernel_rfl) | (rw [if_neg (by decide +kernel)]; exact ⟨rfl, rfl⟩))
    (fun os started H enc _ => lifted os started H enc)
theorem proved : Rows.FnExactForkPagesCardSaid :=
  Claim7.holds_tied_plain_at .later [] [.data, .data, .data] true (true, "810133de5489eb3af2d1b1cb3c473a012ca3d1ccfef11b4d765b99a6aa2e9fe3") true
    bare (fun _ h => by cases h) (by kernel_rfl) (fun _ h => by cases h) fnExactForkPages_row_tie rfl ⟨rfl, rfl⟩ (by kernel_rfl) rfl
    (fun f fn hf hfn => by
      obtain rfl : f = 10 := Option.some.inj ((show Tryd.prog.funcNamed "loop.example/g00974/laws.FnExactForkPages" = some 10 by kernel_rfl).symm.trans hf) |>.symm
      obtain rfl : fn = Tryd.f10 := (Option.some.inj (Tryd.func10.symm.trans hfn)).symm
      exact ⟨by kernel_rfl, fun j t ht => by
        rw [Tryd.params10] at ht
        have hm : t ∈ [27, 3, 3] := by simpa using Array.mem_of_getElem? ht
        have hall : ([27, 3, 3].all fun u => !Tryd.prog.wantsStandIn u) = true := by kernel_rfl
        exact (show Tryd.prog.wantsStandIn t = false by simpa using List.all_eq_true.1 hall t hm)⟩)
    (by kernel_rfl)
end Go.Proofs.YticcmacclncgaaaDoor.forkpages
