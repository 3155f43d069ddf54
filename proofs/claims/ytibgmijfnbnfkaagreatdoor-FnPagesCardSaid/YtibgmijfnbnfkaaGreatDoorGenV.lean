/-
  Walks: drawn access sets and machines.
-/
import Derived.Test.YtibgmijfnbnfkaaGreatDoorGenU
import Derived.Test.YtibgmijfnbnfkaaGreatDoorGenR
namespace Go.Proofs.YtibgmijfnbnfkaaGreatDoor
open Go.ChangeShapes Go.WideShapes Go.ChangeAt Go.RowKit
set_option maxRecDepth 100000
set_option maxHeartbeats 1000000
theorem spec_MachOf_c {w : World} {H : Nat → Prop} {s : List CellD} {s_a : Option Addr} {s_n s_c : Nat} (v_s : Rd 2 encC okC H w (.slice s_a s_n s_c) s) (p0 : s_n ≤ 274877906944) :
    Calls Tryz.prog 55 #[.slice s_a s_n s_c] w fun e w' => ∃ (Q3 : Option Addr), ∃ (Q5 : Nat), ∃ (Q4 : Nat), ∃ (Q0 : Option Addr), ∃ (Q2 : Nat), ∃ (Q1 : Nat), ∃ (Q6 : Option Addr), ∃ (Q8 : Nat), ∃ (Q7 : Nat), e = .returned (.agg #[.slice Q3 Q5 Q4, .slice Q0 Q2 Q1, .slice Q6 Q8 Q7]) ∧ Mv [] w [] w' ∧ Rd 2 encC okC (Fsh H w) w' (.slice Q3 Q5 Q4) s ∧ Rd 1 encS okS (Fsh H w) w' (.slice Q0 Q2 Q1) ([]) ∧ Rd 1 encS okS (Fsh H w) w' (.slice Q6 Q8 Q7) ([]) := by
 have uU : True := (fun _ => trivial) p0
 clear uU
 have Q9 : Rd 2 encC okC (V H w []) w (.slice s_a s_n s_c) s := Rd.start v_s (fun _ _ => fps_nil _)
 obtain ⟨ln_s, le_s, mx_s, ni_s⟩ := Rd.inv v_s
 refine calls_enter 7 Tryz.func55 rfl Tryz.ntmps55 (Nat.le_of_ble_eq_true rfl) (fun _ F0i => ?_)
 have F0 : Fr 7 [(0, .slice s_a s_n s_c)] _ := F0i
 clear F0i
 refine wp_seq (wp_region_lit (l_op (f_alloc F0 (At.nil w) ZI_29 rfl rfl rfl rfl rfl fun b1 _ w1 F2 S1 => ?_)))
 refine s_end (x_normal (wp_seq (wp_region_lit (l_op (f_buildSl (ok := okC) (vs := []) F2 S1.at' (([] : List CellD)) ET_24 rfl rfl rfl rfl rfl rfl rfl rfl rfl (by simp) fun b3 _ w3 F4 S3 => ?_)))))
 refine l_op (f_mv F4 rfl rfl rfl rfl rfl fun _ F5 => ?_)
 refine l_op (f_app (news := s) F5 S3.at' 0 ET_24 rfl rfl rfl rfl rfl rfl (F5.ev 3 rfl) (F5.ev 4 rfl) ((Rd.mq Q9 (S1.trans S3))).1 (by ((repeat (first | rw [List.length_append] | rw [List.length_cons] | rw [List.length_nil] | rw [List.length_take] | rw [List.length_drop])) <;> omega)) fun A6 N6 C6 _ w6 F7 S6 l6 => ?_)
 refine l_op (f_val (v := .agg #[.slice A6 N6 C6, .slice none 0 0, .slice none 0 0]) F7 rfl rfl (r_build BI_29 rfl (lc (pr2 (F7.ev 5 rfl)) rfl) rfl) rfl fun _ F8 => ?_)
 refine l_op (s_store S6.at' 1 TI_29 rfl rfl rfl rfl rfl (F8.ev 2 rfl) (F8.ev 6 rfl) rfl rfl rfl rfl rfl fun w9 S9 => ?_)
 have T10 : Mv _ _ [bx b1 [.slice A6 N6 C6, .slice none 0 0, .slice none 0 0] 29, ow 73 2 encC okC (.slice A6 N6 C6) (([] : List CellD) ++ s)] _ := S9
 refine s_end (x_normal (wp_ret ?_))
 have Z11 : Rd 2 encC okC (V H w [bx b1 [.slice A6 N6 C6, .slice none 0 0, .slice none 0 0] 29]) w9 (.slice A6 N6 C6) (([] : List CellD) ++ s) := At.freeze (S1.trans (S3.trans (S6.trans T10))) ET_24.hk 1 rfl (fun b hb => ((S1.trans (S3.trans (S6.trans T10))).fresh b ⟨_, nth_mem (i := 1) rfl, hb⟩).resolve_left (fps_nil _))
 have S11 := At.drop T10.at' 1
 refine x_done (v := .agg #[.slice A6 N6 C6, .slice none 0 0, .slice none 0 0]) F8 (results_1 Tryz.results55 (.cell (F8.ev 2 rfl) (run_loadVar' TI_29 _ [.slice A6 N6 C6, .slice none 0 0, .slice none 0 0] rfl (fun h => nomatch h) (At.cells T10.at' 0 rfl 0 [.slice A6 N6 C6, .slice none 0 0, .slice none 0 0] rfl)))) ?_
 exact ⟨A6, N6, C6, none, 0, 0, none, 0, 0, rfl, (Mv.pick (S1.trans (S3.trans (S6.trans (T10.trans S11)))) [] rfl), (Rd.cast (Rd.give Z11) (show (([] : List CellD) ++ s) = s from by rfl)), Rd.nil, Rd.nil⟩
end Go.Proofs.YtibgmijfnbnfkaaGreatDoor
