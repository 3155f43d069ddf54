/-
  Contracts of the library's slice functions, in the walks' form.
-/
import Derived.Test.YtjiplnaceiofmaaDoorDat
namespace Go.Proofs.YtjiplnaceiofmaaDoor
open Go.ChangeShapes Go.WideShapes Go.ChangeAt Go.RowKit
set_option maxRecDepth 100000
set_option maxHeartbeats 1000000
theorem impl_addSpan_c {w : World} {H : Nat → Prop} {list : List ByteArray} {list_a : Option Addr} {list_n list_c : Nat} {span : ByteArray} (h_span : okS span) (p0 : list_n ≤ 549755813888) (hA : At w [ow 9 1 encS okS (.slice list_a list_n list_c) list]) :
    Calls Tryd.prog 128 #[.slice list_a list_n list_c, .string span] w fun e w' => ∃ (r0_a : Option Addr), ∃ (r0_n : Nat), ∃ (r0_c : Nat), e = .returned (.slice r0_a r0_n r0_c) ∧ Mv [ow 9 1 encS okS (.slice list_a list_n list_c) list] w [ow 9 1 encS okS (.slice r0_a r0_n r0_c) (putL list span)] w' := by
  have uU : True := (fun _ _ => trivial) H p0
  clear uU
  have hO := hA.ok _ (List.mem_singleton.2 rfl)
  have hl : list.length = list_n := by obtain ⟨_, _, e, _⟩ := (Own.rd strT.hk hO).inv; cases e; rfl
  refine (addSpan_s _ span w list hO h_span (by omega)).mono ?_
  rintro e w' ⟨a, n, c, rfl, h1, h2, h3⟩
  exact ⟨a, n, c, rfl, mv_of_own h1 h2 h3⟩
theorem slices_Clone_Sstring_string_c {w : World} {H : Nat → Prop} {s : List ByteArray} {s_a : Option Addr} {s_n s_c : Nat} (v_s : Rd 1 encS okS H w (.slice s_a s_n s_c) s) (p0 : s_n ≤ 1099511627776) :
    Calls Tryd.prog 72 #[.slice s_a s_n s_c] w fun e w' => ∃ (r0_a : Option Addr), ∃ (r0_n : Nat), ∃ (r0_c : Nat), e = .returned (.slice r0_a r0_n r0_c) ∧ Mv [] w [ow 9 1 encS okS (.slice r0_a r0_n r0_c) s] w' := by
  have uU : True := (fun _ => trivial) p0
  clear uU
  obtain ⟨hl, _⟩ := v_s.inv
  refine (cloneStrs_s _ w s v_s.1 (by omega)).mono ?_
  rintro e w' ⟨a, n, c, rfl, h1, h2, h3⟩
  exact ⟨a, n, c, rfl, mv_of_fresh h1 h2 h3⟩
theorem slices_Clone_Simpl_Cell_impl_Cell_c {w : World} {H : Nat → Prop} {s : List CellD} {s_a : Option Addr} {s_n s_c : Nat} (v_s : Rd 2 encC okC H w (.slice s_a s_n s_c) s) (p0 : s_n ≤ 1099511627776) :
    Calls Tryd.prog 92 #[.slice s_a s_n s_c] w fun e w' => ∃ (r0_a : Option Addr), ∃ (r0_n : Nat), ∃ (r0_c : Nat), e = .returned (.slice r0_a r0_n r0_c) ∧ Mv [] w [ow 81 2 encC okC (.slice r0_a r0_n r0_c) s] w' := by
  have uU : True := (fun _ => trivial) p0
  clear uU
  obtain ⟨hl, _⟩ := v_s.inv
  refine (cloneCells_s _ w s v_s.1 (by omega)).mono ?_
  rintro e w' ⟨a, n, c, rfl, h1, h2, h3⟩
  exact ⟨a, n, c, rfl, mv_of_fresh h1 h2 h3⟩
theorem laws_szStringS_c {w : World} {H : Nat → Prop} {a : List ByteArray} {a_a : Option Addr} {a_n a_c : Nat} {left : Int} (v_a : RdA 1 encS okS H w (.slice a_a a_n a_c) a) (h_left : i64ok left) (p0 : 0 ≤ left) (p1 : left ≤ 1048576) :
    Calls Tryd.prog 115 #[.slice a_a a_n a_c, .int .i64 left] w fun e w' => e = .returned (.int .i64 (subOr left (szStrs a))) ∧ Mv [] w [] w' ∧ i64ok (subOr left (szStrs a)) := by
  have uU : True := (fun _ => trivial) h_left
  clear uU
  refine (szStringS_c _ left w a v_a.1 p0 p1).mono ?_
  rintro e w' ⟨rfl, hb⟩
  exact ⟨rfl, Mv.of_bl hb, subOr_i64 p0 p1⟩
theorem laws_szCellS_c {w : World} {H : Nat → Prop} {a : List CellD} {a_a : Option Addr} {a_n a_c : Nat} {left : Int} (v_a : RdA 2 encC okC H w (.slice a_a a_n a_c) a) (h_left : i64ok left) (p0 : 0 ≤ left) (p1 : left ≤ 1048576) :
    Calls Tryd.prog 76 #[.slice a_a a_n a_c, .int .i64 left] w fun e w' => e = .returned (.int .i64 (subOr left (szCells a))) ∧ Mv [] w [] w' ∧ i64ok (subOr left (szCells a)) := by
  have uU : True := (fun _ => trivial) h_left
  clear uU
  refine (szCellS_c _ left w a v_a.1 p0 p1).mono ?_
  rintro e w' ⟨rfl, hb⟩
  exact ⟨rfl, Mv.of_bl hb, subOr_i64 p0 p1⟩
theorem laws_toStringS_c {w : World} {H : Nat → Prop} {a : List ByteArray} {a_a : Option Addr} {a_n a_c : Nat} (v_a : RdA 1 encS okS H w (.slice a_a a_n a_c) a) (p0 : a.length ≤ 1048576) :
    Calls Tryd.prog 120 #[.slice a_a a_n a_c] w fun e w' => ∃ (r0_a : Option Addr), ∃ (r0_n : Nat), ∃ (r0_c : Nat), e = .returned (.slice r0_a r0_n r0_c) ∧ Mv [] w [ow 9 1 encS okS (.slice r0_a r0_n r0_c) a] w' := by
  refine (toStringS_s _ w a v_a.1 p0).mono ?_
  rintro e w' ⟨x, n, c, rfl, h1, h2, h3⟩
  exact ⟨x, n, c, rfl, mv_of_fresh h1 h2 h3⟩
theorem laws_toCellS_c {w : World} {H : Nat → Prop} {a : List CellD} {a_a : Option Addr} {a_n a_c : Nat} (v_a : RdA 2 encC okC H w (.slice a_a a_n a_c) a) (p0 : a.length ≤ 1048576) :
    Calls Tryd.prog 80 #[.slice a_a a_n a_c] w fun e w' => ∃ (r0_a : Option Addr), ∃ (r0_n : Nat), ∃ (r0_c : Nat), e = .returned (.slice r0_a r0_n r0_c) ∧ Mv [] w [ow 81 2 encC okC (.slice r0_a r0_n r0_c) a] w' := by
  refine (toCellS_s _ w a v_a.1 p0).mono ?_
  rintro e w' ⟨x, n, c, rfl, h1, h2, h3⟩
  exact ⟨x, n, c, rfl, mv_of_fresh h1 h2 h3⟩
theorem laws_eqStringS_c {w : World} {H : Nat → Prop} {a : List ByteArray} {a_a : Option Addr} {a_n a_c : Nat} {b : List ByteArray} {b_a : Option Addr} {b_n b_c : Nat} (v_a : Rd 1 encS okS H w (.slice a_a a_n a_c) a) (v_b : Rd 1 encS okS H w (.slice b_a b_n b_c) b) (p0 : a = b) :
    Calls Tryd.prog 122 #[.slice a_a a_n a_c, .slice b_a b_n b_c] w fun e w' => e = .returned (.bool true) ∧ Mv [] w [] w' := by
  subst p0
  refine (eqStringS_c _ _ w a v_a.1 v_b.1).mono ?_
  rintro e w' ⟨rfl, hb⟩
  exact ⟨rfl, Mv.of_bl hb⟩
theorem laws_eqCellS_c {w : World} {H : Nat → Prop} {a : List CellD} {a_a : Option Addr} {a_n a_c : Nat} {b : List CellD} {b_a : Option Addr} {b_n b_c : Nat} (v_a : Rd 2 encC okC H w (.slice a_a a_n a_c) a) (v_b : Rd 2 encC okC H w (.slice b_a b_n b_c) b) (p0 : a = b) :
    Calls Tryd.prog 83 #[.slice a_a a_n a_c, .slice b_a b_n b_c] w fun e w' => e = .returned (.bool true) ∧ Mv [] w [] w' := by
  subst p0
  refine (eqCellS_c _ _ w a v_a.1 v_b.1).mono ?_
  rintro e w' ⟨rfl, hb⟩
  exact ⟨rfl, Mv.of_bl hb⟩
theorem laws_markStringS_c {w : World} {H : Nat → Prop} {a : List ByteArray} {a_a : Option Addr} {a_n a_c : Nat} {k : Nat} (h_k : i64ok (k : Int)) (p0 : k + a.length ≤ 4611686018427387904) (hA : At w [ow 9 1 encS okS (.slice a_a a_n a_c) a]) :
    Calls Tryd.prog 124 #[.slice a_a a_n a_c, .int .i64 ((k : Nat) : Int)] w fun e w' => e = .returned (.int .i64 ((k + a.length : Nat) : Int)) ∧ Mv [ow 9 1 encS okS (.slice a_a a_n a_c) a] w [ow 9 1 encS okS (.slice a_a a_n a_c) (marks k a.length)] w' := by
  have uU : True := (fun _ _ => trivial) H h_k
  clear uU
  have hO := hA.ok _ (List.mem_singleton.2 rfl)
  refine (markStringS_c _ k _ rfl w a hO p0).mono ?_
  rintro e w' ⟨rfl, h1, h2⟩
  exact ⟨rfl, mv_of_own h1 h2 (Moved.refl _ _)⟩
theorem laws_markCellS_c {w : World} {H : Nat → Prop} {a : List CellD} {a_a : Option Addr} {a_n a_c : Nat} {k : Nat} (h_k : i64ok (k : Int)) (p0 : k + 2 * a.length ≤ 4611686018427387904) (hA : At w [ow 81 2 encC okC (.slice a_a a_n a_c) a]) :
    Calls Tryd.prog 85 #[.slice a_a a_n a_c, .int .i64 ((k : Nat) : Int)] w fun e w' => e = .returned (.int .i64 ((k + 2 * a.length : Nat) : Int)) ∧ Mv [ow 81 2 encC okC (.slice a_a a_n a_c) a] w [ow 81 2 encC okC (.slice a_a a_n a_c) (marksC k a.length)] w' := by
  have uU : True := (fun _ _ => trivial) H h_k
  clear uU
  have hO := hA.ok _ (List.mem_singleton.2 rfl)
  refine (markCellS_c _ k _ rfl w a hO p0).mono ?_
  rintro e w' ⟨rfl, h1, h2⟩
  exact ⟨rfl, mv_of_own h1 h2 (Moved.refl _ _)⟩
theorem laws_heldStringS_c {w : World} {H : Nat → Prop} {a : List ByteArray} {a_a : Option Addr} {a_n a_c : Nat} {k : Nat} {n : Nat} (v_a : Rd 1 encS okS H w (.slice a_a a_n a_c) a) (h_k : i64ok (k : Int)) (p0 : a = marks k n) (p1 : k + n ≤ 4611686018427387904) :
    Calls Tryd.prog 125 #[.slice a_a a_n a_c, .int .i64 ((k : Nat) : Int)] w fun e w' => e = .returned (.int .i64 ((k + n : Nat) : Int)) ∧ Mv [] w [] w' := by
  have uU : True := (fun _ => trivial) h_k
  clear uU
  subst p0
  refine (heldStringS_c _ k n _ rfl w v_a.1 p1).mono ?_
  rintro e w' ⟨rfl, hb⟩
  exact ⟨rfl, Mv.of_bl hb⟩
theorem laws_heldCellS_c {w : World} {H : Nat → Prop} {a : List CellD} {a_a : Option Addr} {a_n a_c : Nat} {k : Nat} {n : Nat} (v_a : Rd 2 encC okC H w (.slice a_a a_n a_c) a) (h_k : i64ok (k : Int)) (p0 : a = marksC k n) (p1 : k + 2 * n ≤ 4611686018427387904) :
    Calls Tryd.prog 87 #[.slice a_a a_n a_c, .int .i64 ((k : Nat) : Int)] w fun e w' => e = .returned (.int .i64 ((k + 2 * n : Nat) : Int)) ∧ Mv [] w [] w' := by
  have uU : True := (fun _ => trivial) h_k
  clear uU
  subst p0
  refine (heldCellS_c _ k n _ rfl w v_a.1 p1).mono ?_
  rintro e w' ⟨rfl, hb⟩
  exact ⟨rfl, Mv.of_bl hb⟩
end Go.Proofs.YtjiplnaceiofmaaDoor
