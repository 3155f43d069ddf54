/-
  Contracts of the library's slice functions, in the walks' form.
-/
import Derived.Test.YtibgmijfnbnfkaaGreatDoorDat
namespace Go.Proofs.YtibgmijfnbnfkaaGreatDoor
open Go.ChangeShapes Go.WideShapes Go.ChangeAt Go.RowKit
set_option maxRecDepth 100000
set_option maxHeartbeats 1000000
theorem impl_addSpan_c {w : World} {H : Nat → Prop} {list : List ByteArray} {Q0 : Option Addr} {list_n Q1 : Nat} {span : ByteArray} (Q2 : okS span) (p0 : list_n ≤ 549755813888) (hA : At w [ow 9 1 encS okS (.slice Q0 list_n Q1) list]) :
    Calls Tryz.prog 84 #[.slice Q0 list_n Q1, .string span] w fun e w' => ∃ (r0_a : Option Addr), ∃ (r0_n : Nat), ∃ (r0_c : Nat), e = .returned (.slice r0_a r0_n r0_c) ∧ Mv [ow 9 1 encS okS (.slice Q0 list_n Q1) list] w [ow 9 1 encS okS (.slice r0_a r0_n r0_c) (putL list span)] w' := by
  have uU : True := (fun _ _ => trivial) H p0
  clear uU
  have hO := hA.ok _ (List.mem_singleton.2 rfl)
  have hl : list.length = list_n := by obtain ⟨_, _, e, _⟩ := (Own.rd strT.hk hO).inv; cases e; rfl
  refine (addSpan_s _ span w list hO Q2 (by omega)).mono ?_
  rintro e w' ⟨a, n, c, rfl, h1, h2, h3⟩
  exact ⟨a, n, c, rfl, mv_of_own h1 h2 h3⟩
theorem slices_Clone_Sstring_string_c {w : World} {H : Nat → Prop} {s : List ByteArray} {s_a : Option Addr} {s_n s_c : Nat} (v_s : Rd 1 encS okS H w (.slice s_a s_n s_c) s) (p0 : s_n ≤ 1099511627776) :
    Calls Tryz.prog 98 #[.slice s_a s_n s_c] w fun e w' => ∃ (r0_a : Option Addr), ∃ (r0_n : Nat), ∃ (r0_c : Nat), e = .returned (.slice r0_a r0_n r0_c) ∧ Mv [] w [ow 9 1 encS okS (.slice r0_a r0_n r0_c) s] w' := by
  have uU : True := (fun _ => trivial) p0
  clear uU
  obtain ⟨hl, _⟩ := v_s.inv
  refine (cloneStrs_s _ w s v_s.1 (by omega)).mono ?_
  rintro e w' ⟨a, n, c, rfl, h1, h2, h3⟩
  exact ⟨a, n, c, rfl, mv_of_fresh h1 h2 h3⟩
theorem slices_Clone_Simpl_Cell_impl_Cell_c {w : World} {H : Nat → Prop} {s : List CellD} {s_a : Option Addr} {s_n s_c : Nat} (v_s : Rd 2 encC okC H w (.slice s_a s_n s_c) s) (p0 : s_n ≤ 1099511627776) :
    Calls Tryz.prog 70 #[.slice s_a s_n s_c] w fun e w' => ∃ (r0_a : Option Addr), ∃ (r0_n : Nat), ∃ (r0_c : Nat), e = .returned (.slice r0_a r0_n r0_c) ∧ Mv [] w [ow 73 2 encC okC (.slice r0_a r0_n r0_c) s] w' := by
  have uU : True := (fun _ => trivial) p0
  clear uU
  obtain ⟨hl, _⟩ := v_s.inv
  refine (cloneCells_s _ w s v_s.1 (by omega)).mono ?_
  rintro e w' ⟨a, n, c, rfl, h1, h2, h3⟩
  exact ⟨a, n, c, rfl, mv_of_fresh h1 h2 h3⟩
end Go.Proofs.YtibgmijfnbnfkaaGreatDoor
