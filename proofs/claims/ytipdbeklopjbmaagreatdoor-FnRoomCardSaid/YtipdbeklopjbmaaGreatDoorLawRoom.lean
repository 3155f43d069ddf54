/-
  PROVED HERE: whatever the input, the statement laws.FnRoom returns true. Condition: the tables and errors of the library that the row lists stand as the program's.
-/
import Derived.Test.YtipdbeklopjbmaaGreatDoorLawRoomA
import Derived.Test.YtipdbeklopjbmaaGreatDoorLawRoomB
set_option linter.unusedVariables false
set_option linter.unusedSimpArgs false
namespace Go.Proofs.YtipdbeklopjbmaaGreatDoor.room
open Go.ChangeShapes Go.WideShapes Go.ChangeAt Go.RowKit Go.Proofs.Tryz
set_option maxRecDepth 100000
theorem bare:Rows.FnRoomSaid:=
 OpenClaim.holds_of_wide 5 f5 rfl rfl rfl rfl rfl rfl rfl ⟨rfl,rfl,rfl,rfl,rfl⟩ rfl rfl rfl rfl rfl zK func5 Jh7
  (of_decide_eq_true zK) (by unfold Func.isWrapper;first|(rw [if_pos (by decide +kernel)];kernel_rfl)|(rw [if_neg (by decide +kernel)];exact ⟨rfl,rfl⟩))
  (fun os started H enc _=>Jhm os started H enc)
set_option maxHeartbeats 40000000 in
theorem proved:Rows.FnRoomCardSaid:=
 Claim7.holds_tied_plain_at .later [] [.data,.data,.data,.sentinel,.sentinel,.sentinel] true (true, "d9229a95d9575cce75228869b8c73bc56408fb83a7832108ad55849d44d916ab") true
  bare (fun _ h=>by cases h) (by as_aux_lemma=>kernel_rfl) (fun _ h=>by cases h) fnRoom_row_tie rfl ⟨rfl,rfl⟩ (by as_aux_lemma=>kernel_rfl) rfl
  (fun f fn hf hfn=>by
   obtain rfl:f=5:=Option.some.inj ((show prog.funcNamed "loop.example/g00974/laws.FnRoom"=some 5 by as_aux_lemma=>kernel_rfl).symm.trans hf) |>.symm
   obtain rfl:fn=f5:=(Option.some.inj (func5.symm.trans hfn)).symm
   exact ⟨by as_aux_lemma=>kernel_rfl,fun j t ht=>by
    rw [params5] at ht
    have hm:t ∈ [62]:=by simpa using Array.mem_of_getElem? ht
    have hall:([62].all fun u=>!prog.wantsStandIn u)=true:=by as_aux_lemma=>kernel_rfl
    exact (show prog.wantsStandIn t=false by simpa using List.all_eq_true.1 hall t hm)⟩)
  (by as_aux_lemma=>kernel_rfl)
end Go.Proofs.YtipdbeklopjbmaaGreatDoor.room
