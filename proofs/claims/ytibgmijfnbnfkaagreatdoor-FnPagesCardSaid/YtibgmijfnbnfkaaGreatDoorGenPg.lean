/-
  Walks: drawn machines with pages.
-/
import Derived.Test.YtibgmijfnbnfkaaGreatDoorDatV
import Derived.Test.YtibgmijfnbnfkaaGreatDoorGenHl
import Derived.Test.YtibgmijfnbnfkaaGreatDoorGenPb
import Derived.Test.YtibgmijfnbnfkaaGreatDoorGenW
import Derived.Test.YtibgmijfnbnfkaaGreatDoorCellEq
namespace Go.Proofs.YtibgmijfnbnfkaaGreatDoor
open Go.ChangeShapes Go.WideShapes Go.ChangeAt Go.RowKit
set_option maxRecDepth 100000
set_option maxHeartbeats 1000000

section
variable {P : Program} {a : Act} {w : World}
theorem results_4 {fn : Func} {r s t q : ResultVar} {v u x y : Value} (hr : fn.results = #[r, s, t, q]) (h : ResIs P a w r v) (k : ResIs P a w s u) (l : ResIs P a w t x) (l2 : ResIs P a w q y) : (results fn a.tmps).run P w = .ok (.tuple #[v, u, x, y]) w := by
  have h1 := h.run
  have h2 := k.run
  have h3 := l.run
  have h4 := l2.run
  rw [results_eq, hr]
  simp [h1, h2, h3, h4]
end
/-- How great a drawn machine grows. -/
def gB : Nat → Nat
  | 0 => 1
  | k + 1 => 4 * gB k + 2
theorem gB_le {k : Nat} (h : k ≤ 6) : gB k ≤ 100000 := by
  have : ∀ k, k < 7 → gB k ≤ 100000 := by decide
  exact this k (by omega)
theorem gB_fork {k : Nat} : 3 * gB k + 1 ≤ gB (k + 1) := by show _ ≤ 4 * gB k + 2; omega
theorem gB_store {k : Nat} : gB k + 1 ≤ gB (k + 1) := by show _ ≤ 4 * gB k + 2; omega
abbrev qA_ : List ByteArray := ([(⟨#[109, 47, 49, 47, 48]⟩ : ByteArray), (⟨#[109, 47, 49, 47, 120]⟩ : ByteArray), (⟨#[109, 47, 50, 47, 51]⟩ : ByteArray)])
abbrev qB_ : List ByteArray := ([(⟨#[120]⟩ : ByteArray), (⟨#[45, 122, 122]⟩ : ByteArray), (⟨#[54, 49, 54, 50]⟩ : ByteArray)])
theorem laws_big_c {w : World} {H : Nat → Prop} {code : List Nat} {Q1 : Option Addr} {Q0 Q2 : Nat} (Q3 : RdA 1 encB okB H w (.slice Q1 Q0 Q2) code) :
    Calls Tryz.prog 5 #[.slice Q1 Q0 Q2] w fun e w' => e = .returned (.bool (decide (code.length > 1048576))) ∧ Mv [] w [] w' := by
 have Q5 : RdA 1 encB okB (V H w []) w (.slice Q1 Q0 Q2) code := RdA.start Q3 (fun _ _ => fps_nil _)
 obtain ⟨Q4, Q6, Q7, Q8⟩ := RdA.inv Q3
 refine calls_enter 6 Tryz.func5 rfl Tryz.ntmps5 (Nat.le_of_ble_eq_true rfl) (fun _ F0i => ?_)
 have F0 : Fr 6 [(0, .slice Q1 Q0 Q2)] _ := F0i
 clear F0i
 refine wp_seq (wp_region_lit (l_op (f_val F0 rfl rfl (r_assign rfl rfl) rfl fun _ F1 => ?_)))
 refine s_end (x_normal (wp_seq (wp_region_lit (l_op (f_mv F1 rfl rfl rfl rfl rfl fun _ F2 => ?_)))))
 refine l_op (f_val F2 rfl rfl (r_len Tryz.underlying22 rfl (F2.ev 3 rfl)) rfl fun _ F3 => ?_)
 refine l_op (f_val F3 rfl rfl (r_cmp (b := decide (Q0 > 1048576)) (.inr (.inr (.inr (.inr (.inl rfl))))) rfl (F3.ev 4 rfl) rfl (dec_of (by omega))) rfl fun _ F4 => ?_)
 refine l_op (f_as F4 rfl rfl rfl rfl rfl fun _ F5 => ?_)
 refine s_end (x_normal (wp_ret ?_))
 refine x_done (v := .bool (decide (Q0 > 1048576))) F5 (results_1 Tryz.results5 (.tmp (F5.ev 2 rfl))) ?_
 exact ⟨(by rw [(show (decide (Q0 > 1048576)) = (decide (code.length > 1048576)) from by rw [Q4])]), (Mv.pick (Mv.refl (At.nil w)) [] rfl)⟩
theorem laws_base_c {w : World} {H : Nat → Prop}   :
    Calls Tryz.prog 22 #[] w fun e w' => ∃ (Q12 : Option Addr), ∃ (Q14 : Nat), ∃ (Q13 : Nat), ∃ (Q9 : Option Addr), ∃ (Q11 : Nat), ∃ (Q10 : Nat), ∃ (Q15 : Option Addr), ∃ (Q17 : Nat), ∃ (Q16 : Nat), e = .returned (.agg #[.slice Q12 Q14 Q13, .slice Q9 Q11 Q10, .slice Q15 Q17 Q16]) ∧ Mv [] w [] w' ∧ Rd 2 encC okC (Fsh H w) w' (.slice Q12 Q14 Q13) ([]) ∧ Rd 1 encS okS (Fsh H w) w' (.slice Q9 Q11 Q10) ([]) ∧ Rd 1 encS okS (Fsh H w) w' (.slice Q15 Q17 Q16) ([]) := by
 refine calls_enter 3 Tryz.func22 rfl Tryz.ntmps22 (Nat.le_of_ble_eq_true rfl) (fun _ F0i => ?_)
 have F0 : Fr 3 [] _ := F0i
 clear F0i
 refine wp_seq (wp_region_lit (l_op (f_alloc F0 (At.nil w) ZI_29 rfl rfl rfl rfl rfl fun b1 _ w1 F2 S1 => ?_)))
 refine s_end (x_normal (wp_seq (wp_region_lit (l_op (f_buildSl (ok := okC) (vs := []) F2 S1.at' (([] : List CellD)) ET_24 rfl rfl rfl rfl rfl rfl rfl rfl rfl (by simp) fun b3 _ w3 F4 S3 => ?_)))))
 have Z6 : Rd 2 encC okC (V H w [bx b1 [.slice none 0 0, .slice none 0 0, .slice none 0 0] 29]) w3 (.slice (some ⟨b3, 0, none⟩) 0 0) ([] : List CellD) := At.freeze (S1.trans S3) ET_24.hk 0 rfl (fun b hb => ((S1.trans S3).fresh b ⟨_, nth_mem (i := 0) rfl, hb⟩).resolve_left (fps_nil _))
 have S6 := At.drop S3.at' 0
 refine l_op (f_call F4 CF_55 rfl rfl rfl rfl (lc (F4.ev 1 rfl) rfl) (spec_MachOf_c (s := ([] : List CellD)) Z6 (by first | assumption | omega | (simp <;> omega))) ?_)
 rintro _ w5 ⟨Q3, Q5, Q4, Q0, Q2, Q1, Q6, Q8, Q7, rfl, m5, v5_0, v5_1, v5_2⟩
 refine ⟨_, rfl, fun _ F7 => ?_⟩
 have S5 := At.frame0 S6.at' m5
 have V5_0 := Rd.got0 S6.at' ((S1.trans (S3.trans S6)).kp.size) v5_0 S5
 obtain ⟨ln5_0, le5_0, mx5_0, ni5_0⟩ := Rd.inv V5_0
 have V5_1 := Rd.got0 S6.at' ((S1.trans (S3.trans S6)).kp.size) v5_1 S5
 obtain ⟨ln5_1, le5_1, mx5_1, ni5_1⟩ := Rd.inv V5_1
 have V5_2 := Rd.got0 S6.at' ((S1.trans (S3.trans S6)).kp.size) v5_2 S5
 obtain ⟨ln5_2, le5_2, mx5_2, ni5_2⟩ := Rd.inv V5_2
 clear m5 v5_0 v5_1 v5_2
 refine l_op (s_store S5.at' 0 TI_29 rfl rfl rfl rfl rfl (F7.ev 0 rfl) (F7.ev 2 rfl) rfl rfl rfl rfl rfl fun w8 S8 => ?_)
 refine s_end (x_normal (wp_ret ?_))
 refine x_done (v := .agg #[.slice Q3 Q5 Q4, .slice Q0 Q2 Q1, .slice Q6 Q8 Q7]) F7 (results_1 Tryz.results22 (.cell (F7.ev 0 rfl) (run_loadVar' TI_29 _ [.slice Q3 Q5 Q4, .slice Q0 Q2 Q1, .slice Q6 Q8 Q7] rfl (fun h => nomatch h) (At.cells S8.at' 0 rfl 0 [.slice Q3 Q5 Q4, .slice Q0 Q2 Q1, .slice Q6 Q8 Q7] rfl)))) ?_
 exact ⟨Q3, Q5, Q4, Q0, Q2, Q1, Q6, Q8, Q7, rfl, (Mv.pick (S1.trans (S3.trans (S6.trans (S5.trans S8)))) [] rfl), (Rd.cast (Rd.give (Rd.mq V5_0 S8)) (show ([] : List CellD) = ([]) from by rfl)), (Rd.give (Rd.mq V5_1 S8)), (Rd.give (Rd.mq V5_2 S8))⟩
theorem spec_l01PickInt_c {w : World} {H : Nat → Prop} {c : CurD} {Q1 : Option Addr} {Q0 Q2 : Nat} {c_b : Nat} {list : List Int} {Q4 : Option Addr} {Q3 Q5 : Nat} (Q6 : RdA 1 encB okB H w (.slice Q1 Q0 Q2) c.code) (Q11 : i64ok (c.pos : Int)) (Q10 : i64ok c.h) (Q7 : Rd 1 encI okI H w (.slice Q4 Q3 Q5) list) (p0 : c.pos ≤ Q0) (p1 : 0 < Q3) (hA : At w [bx c_b [.slice Q1 Q0 Q2, .int .i64 ((c.pos : Nat) : Int), .int .i64 c.h] 80]) (hD : ∀ b, H b → ¬ fps [bx c_b [.slice Q1 Q0 Q2, .int .i64 ((c.pos : Nat) : Int), .int .i64 c.h] 80] b) :
    Calls Tryz.prog 37 #[.pointer (some ⟨c_b, 0, none⟩), .slice Q4 Q3 Q5] w fun e w' => ∃ (i2 : Nat), ∃ (h2 : Int), ∃ (r : Int), e = .returned (.int .i64 r) ∧ Mv [bx c_b [.slice Q1 Q0 Q2, .int .i64 ((c.pos : Nat) : Int), .int .i64 c.h] 80] w [bx c_b [.slice Q1 Q0 Q2, .int .i64 ((i2 : Nat) : Int), .int .i64 h2] 80] w' ∧ i2 ≤ Q0 ∧ i64ok h2 ∧ i64ok r := by
 have uU : True := (fun _ _ _ _ => trivial) Q11 Q10 p0 p1
 clear uU
 have Q8 : RdA 1 encB okB (V H w [bx c_b [.slice Q1 Q0 Q2, .int .i64 ((c.pos : Nat) : Int), .int .i64 c.h] 80]) w (.slice Q1 Q0 Q2) c.code := RdA.start Q6 hD
 obtain ⟨Q14, Q12, Q16, Q18⟩ := RdA.inv Q6
 have Q9 : Rd 1 encI okI (V H w [bx c_b [.slice Q1 Q0 Q2, .int .i64 ((c.pos : Nat) : Int), .int .i64 c.h] 80]) w (.slice Q4 Q3 Q5) list := Rd.start Q7 hD
 obtain ⟨Q15, Q13, Q17, Q19⟩ := Rd.inv Q7
 refine calls_enter 12 Tryz.func37 rfl Tryz.ntmps37 (Nat.le_of_ble_eq_true rfl) (fun _ F0i => ?_)
 have F0 : Fr 12 [(0, .pointer (some ⟨c_b, 0, none⟩)), (1, .slice Q4 Q3 Q5)] _ := F0i
 clear F0i
 refine wp_seq (wp_region_lit (l_op (f_val F0 rfl rfl (r_assign rfl rfl) rfl fun _ F1 => ?_)))
 refine s_end (x_normal (wp_seq (wp_region_lit (l_op (f_mv F1 rfl rfl rfl rfl rfl fun _ F2 => ?_)))))
 refine l_op (f_mv F2 rfl rfl rfl rfl rfl fun _ F3 => ?_)
 refine l_op (f_mv F3 rfl rfl rfl rfl rfl fun _ F4 => ?_)
 refine l_op (f_val F4 rfl rfl (r_len Tryz.underlying47 rfl (F4.ev 7 rfl)) rfl fun _ F5 => ?_)
 refine l_op (f_call F5 CF_36 rfl rfl rfl rfl (lc (F5.ev 6 rfl) (lc (F5.ev 8 rfl) rfl)) (spec_l01Below_c (c := c) (n := ((Q3 : Nat) : Int)) Q8 (by unfold i64ok; (try dsimp only); omega) (by first | assumption | exact w64_ok _ | exact ⟨by omega, by omega⟩ | (unfold i64ok at *; omega)) (by first | assumption | exact ⟨by omega, by omega⟩ | (unfold i64ok at *; omega)) (by first | assumption | omega | (simp <;> omega)) (At.pick (is := [0]) hA rfl) (V_off (is := [0]))) ?_)
 rintro _ w6 ⟨i2_6, h2_6, r_6, rfl, m6, q6_0, q6_1, q6_2, q6_3⟩
 refine ⟨_, rfl, fun _ F7 => ?_⟩
 have S6 : Mv _ _ [bx c_b [.slice Q1 Q0 Q2, .int .i64 ((i2_6 : Nat) : Int), .int .i64 h2_6] 80] _ := At.frame hA [0] rfl m6
 clear m6
 obtain ⟨B8, O8, x1, ad8, hx1, okx1, ln8, cl8⟩ := Rd.at (Rd.mq Q9 S6) r_6 (by omega)
 clear ln8
 refine l_op (f_val F7 rfl rfl (r_indexAddr (i := r_6) ET_47 rfl ((F7.ev 5 rfl).trans (by rw [ad8])) (F7.ev 9 rfl) (by omega) (by omega)) rfl fun _ F9 => ?_)
 refine l_op (f_val (v := .int .i64 x1) F9 rfl rfl (r_load (cs := [.int .i64 x1]) TI_3 rfl (F9.ev 10 rfl) rfl (fun _ => rfl) (elem_sub (f := 0) cl8 [.int .i64 x1] rfl)) rfl fun _ F10 => ?_)
 refine l_op (f_as F10 rfl rfl rfl rfl rfl fun _ F11 => ?_)
 refine s_end (x_normal (wp_ret ?_))
 refine x_done (v := .int .i64 x1) F11 (results_1 Tryz.results37 (.tmp (F11.ev 4 rfl))) ?_
 exact ⟨i2_6, h2_6, x1, rfl, (Mv.pick S6 [0] rfl), by first | assumption | exact w64_ok _ | omega | (unfold i64ok; omega), by first | assumption | exact w64_ok _ | omega | (unfold i64ok; omega), okx1⟩
theorem spec_l11Mach_c {w : World} {H : Nat → Prop} {c : CurD} {Q1 : Option Addr} {Q0 Q2 : Nat} {c_b : Nat} (Q51 : RdA 1 encB okB H w (.slice Q1 Q0 Q2) c.code) (Q53 : i64ok (c.pos : Int)) (Q52 : i64ok c.h) (p0 : c.pos ≤ Q0) (hA : At w [bx c_b [.slice Q1 Q0 Q2, .int .i64 ((c.pos : Nat) : Int), .int .i64 c.h] 80]) (hD : ∀ b, H b → ¬ fps [bx c_b [.slice Q1 Q0 Q2, .int .i64 ((c.pos : Nat) : Int), .int .i64 c.h] 80] b) :
    Calls Tryz.prog 35 #[.pointer (some ⟨c_b, 0, none⟩)] w fun e w' => ∃ (i2 : Nat), ∃ (h2 : Int), ∃ (d : MachD), ∃ (Q39 : Option Addr), ∃ (Q43 : Nat), ∃ (Q41 : Nat), ∃ (Q33 : Option Addr), ∃ (Q37 : Nat), ∃ (Q35 : Nat), ∃ (Q45 : Option Addr), ∃ (Q49 : Nat), ∃ (Q47 : Nat), e = .returned (.agg #[.slice Q39 Q43 Q41, .slice Q33 Q37 Q35, .slice Q45 Q49 Q47]) ∧ Mv [bx c_b [.slice Q1 Q0 Q2, .int .i64 ((c.pos : Nat) : Int), .int .i64 c.h] 80] w [bx c_b [.slice Q1 Q0 Q2, .int .i64 ((i2 : Nat) : Int), .int .i64 h2] 80] w' ∧ Rd 2 encC okC (V (HP H [bx c_b [.slice Q1 Q0 Q2, .int .i64 ((c.pos : Nat) : Int), .int .i64 c.h] 80]) w [bx c_b [.slice Q1 Q0 Q2, .int .i64 ((i2 : Nat) : Int), .int .i64 h2] 80]) w' (.slice Q39 Q43 Q41) d.store ∧ Rd 1 encS okS (V (HP H [bx c_b [.slice Q1 Q0 Q2, .int .i64 ((c.pos : Nat) : Int), .int .i64 c.h] 80]) w [bx c_b [.slice Q1 Q0 Q2, .int .i64 ((i2 : Nat) : Int), .int .i64 h2] 80]) w' (.slice Q33 Q37 Q35) d.touch.reads ∧ Rd 1 encS okS (V (HP H [bx c_b [.slice Q1 Q0 Q2, .int .i64 ((c.pos : Nat) : Int), .int .i64 c.h] 80]) w [bx c_b [.slice Q1 Q0 Q2, .int .i64 ((i2 : Nat) : Int), .int .i64 h2] 80]) w' (.slice Q45 Q49 Q47) d.touch.writes ∧ i2 ≤ Q0 ∧ i64ok h2 ∧ bdC 200000 d := by
 have uU : True := (fun _ _ _ => trivial) Q53 Q52 p0
 clear uU
 have Q3 : RdA 1 encB okB (V (HP H [bx c_b [.slice Q1 Q0 Q2, .int .i64 ((c.pos : Nat) : Int), .int .i64 c.h] 80]) w [bx c_b [.slice Q1 Q0 Q2, .int .i64 ((c.pos : Nat) : Int), .int .i64 c.h] 80]) w (.slice Q1 Q0 Q2) c.code := RdA.startP Q51 hD
 obtain ⟨Q106, Q105, Q107, Q108⟩ := RdA.inv Q51
 refine calls_enter 42 Tryz.func35 rfl Tryz.ntmps35 (Nat.le_of_ble_eq_true rfl) (fun _ F0i => ?_)
 have F0 : Fr 42 [(0, .pointer (some ⟨c_b, 0, none⟩))] _ := F0i
 clear F0i
 refine wp_seq (wp_region_lit (l_op (f_alloc F0 hA ZI_29 rfl rfl rfl rfl rfl fun b1 _ w1 F2 S1 => ?_)))
 refine s_end (x_normal (wp_seq (wp_region_lit (l_op (f_buildSl (ok := okC) (vs := []) F2 S1.at' (([] : List CellD)) ET_24 rfl rfl rfl rfl rfl rfl rfl rfl rfl (by simp) fun b3 _ w3 F4 S3 => ?_)))))
 have Z6 : Rd 2 encC okC (V (HP H [bx c_b [.slice Q1 Q0 Q2, .int .i64 ((c.pos : Nat) : Int), .int .i64 c.h] 80]) w [bx b1 [.slice none 0 0, .slice none 0 0, .slice none 0 0] 29, bx c_b [.slice Q1 Q0 Q2, .int .i64 ((c.pos : Nat) : Int), .int .i64 c.h] 80]) w3 (.slice (some ⟨b3, 0, none⟩) 0 0) ([] : List CellD) := At.freezeP S3.at' ET_24.hk 0 rfl (fresh_hp (S1.trans S3))
 have S6 := At.drop S3.at' 0
 refine l_op (f_call F4 CF_55 rfl rfl rfl rfl (lc (F4.ev 5 rfl) rfl) (spec_MachOf_c (s := ([] : List CellD)) Z6 (by first | assumption | omega | (simp <;> omega))) ?_)
 rintro _ w5 ⟨Q27, Q29, Q28, Q24, Q26, Q25, Q30, Q32, Q31, rfl, m5, v5_0, v5_1, v5_2⟩
 refine ⟨_, rfl, fun _ F7 => ?_⟩
 have S5 := At.frame0 S6.at' m5
 have V5_0 := Rd.got0 S6.at' ((S1.trans (S3.trans S6)).kp.size) v5_0 S5
 obtain ⟨ln5_0, le5_0, mx5_0, ni5_0⟩ := Rd.inv V5_0
 have V5_1 := Rd.got0 S6.at' ((S1.trans (S3.trans S6)).kp.size) v5_1 S5
 obtain ⟨ln5_1, le5_1, mx5_1, ni5_1⟩ := Rd.inv V5_1
 have V5_2 := Rd.got0 S6.at' ((S1.trans (S3.trans S6)).kp.size) v5_2 S5
 obtain ⟨ln5_2, le5_2, mx5_2, ni5_2⟩ := Rd.inv V5_2
 clear m5 v5_0 v5_1 v5_2
 refine l_op (f_alloc F7 S5.at' ZI_29 rfl rfl rfl rfl rfl fun b8 _ w8 F9 S8 => ?_)
 refine l_op (s_store S8.at' 0 TI_29 rfl rfl rfl rfl rfl (F9.ev 3 rfl) (F9.ev 6 rfl) rfl rfl rfl rfl rfl fun w10 S10 => ?_)
 have T11 : Mv _ _ [bx b8 [.slice Q27 Q29 Q28, .slice Q24 Q26 Q25, .slice Q30 Q32 Q31] 29, bx b1 [.slice none 0 0, .slice none 0 0, .slice none 0 0] 29, bx c_b [.slice Q1 Q0 Q2, .int .i64 ((c.pos : Nat) : Int), .int .i64 c.h] 80] _ := S10
 refine s_end (x_normal (wp_seq (wp_seq (wp_region_lit (l_op (f_val F9 rfl rfl (r_assign rfl rfl) rfl fun _ F12 => ?_))))))
 refine s_end (x_normal (wp_block ?_))
 refine x_loop (fun (k : Nat) aZ wZ => ∃ (pp : Nat), ∃ (hh : Int), ∃ (M : MachD), ∃ (sa : Option Addr), ∃ (sn : Nat), ∃ (sc : Nat), ∃ (ra : Option Addr), ∃ (rn : Nat), ∃ (rc : Nat), ∃ (ua : Option Addr), ∃ (un : Nat), ∃ (uc : Nat), Fr 42 [(4, .int .i64 ((k : Nat) : Int)), (3, .pointer (some ⟨b8, 0, none⟩)), (2, .pointer (some ⟨b1, 0, none⟩)), (0, .pointer (some ⟨c_b, 0, none⟩))] aZ ∧ Mv [bx b8 [.slice Q27 Q29 Q28, .slice Q24 Q26 Q25, .slice Q30 Q32 Q31] 29, bx b1 [.slice none 0 0, .slice none 0 0, .slice none 0 0] 29, bx c_b [.slice Q1 Q0 Q2, .int .i64 ((c.pos : Nat) : Int), .int .i64 c.h] 80] w10 [bx b8 [.slice sa sn sc, .slice ra rn rc, .slice ua un uc] 29, bx b1 [.slice none 0 0, .slice none 0 0, .slice none 0 0] 29, bx c_b [.slice Q1 Q0 Q2, .int .i64 ((pp : Nat) : Int), .int .i64 hh] 80] wZ ∧ Rd 2 encC okC (V (HP H [bx c_b [.slice Q1 Q0 Q2, .int .i64 ((c.pos : Nat) : Int), .int .i64 c.h] 80]) w [bx b8 [.slice sa sn sc, .slice ra rn rc, .slice ua un uc] 29, bx b1 [.slice none 0 0, .slice none 0 0, .slice none 0 0] 29, bx c_b [.slice Q1 Q0 Q2, .int .i64 ((pp : Nat) : Int), .int .i64 hh] 80]) wZ (.slice sa sn sc) M.store ∧ Rd 1 encS okS (V (HP H [bx c_b [.slice Q1 Q0 Q2, .int .i64 ((c.pos : Nat) : Int), .int .i64 c.h] 80]) w [bx b8 [.slice sa sn sc, .slice ra rn rc, .slice ua un uc] 29, bx b1 [.slice none 0 0, .slice none 0 0, .slice none 0 0] 29, bx c_b [.slice Q1 Q0 Q2, .int .i64 ((pp : Nat) : Int), .int .i64 hh] 80]) wZ (.slice ra rn rc) M.touch.reads ∧ Rd 1 encS okS (V (HP H [bx c_b [.slice Q1 Q0 Q2, .int .i64 ((c.pos : Nat) : Int), .int .i64 c.h] 80]) w [bx b8 [.slice sa sn sc, .slice ra rn rc, .slice ua un uc] 29, bx b1 [.slice none 0 0, .slice none 0 0, .slice none 0 0] 29, bx c_b [.slice Q1 Q0 Q2, .int .i64 ((pp : Nat) : Int), .int .i64 hh] 80]) wZ (.slice ua un uc) M.touch.writes ∧ (pp ≤ Q0) ∧ (i64ok hh) ∧ (bdC (gB k) M) ∧ (k ≤ 6)) (fun (k : Nat) => 6 - k) (0) ?_ ?_
 · exact ⟨c.pos, c.h, (⟨([] : List CellD), (⟨[], []⟩ : TouchD)⟩ : MachD), Q27, Q29, Q28, Q24, Q26, Q25, Q30, Q32, Q31, F12.cut rfl, (Mv.refl T11.at'), (Rd.mq V5_0 (S8.trans T11)), (Rd.mq V5_1 (S8.trans T11)), (Rd.mq V5_2 (S8.trans T11)), by omega, by assumption, bdC.le bdC_base (by decide), by omega⟩
 · rintro k a13 w13 ⟨pp, hh, M, sa, sn, sc, ra, rn, rc, ua, un, uc, F13, S13, W13_0, W13_1, W13_2, hk_0, hk_1, hk_2, hk_3⟩
   obtain ⟨lv13_0, lw13_0, lx13_0, ly13_0⟩ := Rd.inv W13_0
   obtain ⟨lv13_1, lw13_1, lx13_1, ly13_1⟩ := Rd.inv W13_1
   obtain ⟨lv13_2, lw13_2, lx13_2, ly13_2⟩ := Rd.inv W13_2
   have hbm := bdC.le hk_2 (gB_le (by omega))
   refine wp_seq (wp_seq (wp_region_lit (l_op (f_mv F13 rfl rfl rfl rfl rfl fun _ F14 => ?_))))
   refine l_op (f_mv F14 rfl rfl rfl rfl rfl fun _ F15 => ?_)
   refine l_op (f_call F15 CF_36 rfl rfl rfl rfl (lc (F15.ev 8 rfl) (lc rfl rfl)) (spec_l01Below_c (c := (⟨c.code, pp, hh⟩ : CurD)) (n := 6) (RdA.mv (Nat.succ_pos _) Q3 (S1.trans (S3.trans (S6.trans (S5.trans (S8.trans (T11.trans S13))))))) (by unfold i64ok; (try dsimp only); omega) (by first | assumption | exact w64_ok _ | exact ⟨by omega, by omega⟩ | (unfold i64ok at *; omega)) (by first | assumption | exact ⟨by omega, by omega⟩ | (unfold i64ok at *; omega)) (by first | assumption | omega | (simp <;> omega)) (At.pick (is := [2]) S13.at' rfl) (V_off (is := [2]))) ?_)
   rintro _ w16 ⟨i2_16, h2_16, r_16, rfl, m16, q16_0, q16_1, q16_2, q16_3⟩
   refine ⟨_, rfl, fun _ F17 => ?_⟩
   have S16 : Mv _ _ [bx c_b [.slice Q1 Q0 Q2, .int .i64 ((i2_16 : Nat) : Int), .int .i64 h2_16] 80, bx b8 [.slice sa sn sc, .slice ra rn rc, .slice ua un uc] 29, bx b1 [.slice none 0 0, .slice none 0 0, .slice none 0 0] 29] _ := At.frame S13.at' [2] rfl m16
   clear m16
   refine l_op (f_val F17 rfl rfl (r_cmp (b := decide (k < r_16)) (.inr (.inr (.inl rfl))) rfl (F17.ev 7 rfl) (F17.ev 9 rfl) (dec_of (by omega))) rfl fun _ F18 => ?_)
   refine s_end (x_normal (x_cond (p := k < r_16) (F18.ev 10 rfl) (fun h19 => ?_) (fun h19 => ?_)))
   · skip
     refine wp_skip (x_normal (wp_seq (wp_block (wp_seq (wp_region_lit (l_op (f_mv F18 rfl rfl rfl rfl rfl fun _ F20 => ?_)))))))
     refine l_op (f_call F20 CF_66 rfl rfl rfl rfl (lc (F20.ev 13 rfl) (lc rfl rfl)) (spec_l01Once_c (c := (⟨c.code, i2_16, h2_16⟩ : CurD)) (n := 5) (RdA.mv (Nat.succ_pos _) Q3 (S1.trans (S3.trans (S6.trans (S5.trans (S8.trans (T11.trans (S13.trans S16)))))))) (by unfold i64ok; (try dsimp only); omega) (by first | assumption | exact w64_ok _ | exact ⟨by omega, by omega⟩ | (unfold i64ok at *; omega)) (by first | assumption | exact ⟨by omega, by omega⟩ | (unfold i64ok at *; omega)) (by first | assumption | omega | (simp <;> omega)) (At.pick (is := [0]) S16.at' rfl) (V_off (is := [0]))) ?_)
     rintro _ w21 ⟨i2_21, h2_21, r_21, rfl, m21, q21_0, q21_1⟩
     refine ⟨_, rfl, fun _ F22 => ?_⟩
     have S21 : Mv _ _ [bx c_b [.slice Q1 Q0 Q2, .int .i64 ((i2_21 : Nat) : Int), .int .i64 h2_21] 80, bx b8 [.slice sa sn sc, .slice ra rn rc, .slice ua un uc] 29, bx b1 [.slice none 0 0, .slice none 0 0, .slice none 0 0] 29] _ := At.frame S16.at' [0] rfl m21
     clear m21
     refine s_end (x_normal (x_condb (b := r_21) (F22.ev 14 rfl) (fun h23 => ?_) (fun h23 => ?_)))
     · skip
       refine wp_region_lit (l_op (f_val (v := .agg #[.slice sa sn sc, .slice ra rn rc, .slice ua un uc]) F22 rfl rfl (r_loadB S21.at' 1 TI_29 rfl rfl (F22.ev 3 rfl) rfl rfl (fun h => nomatch h) rfl) rfl fun _ F24 => ?_))
       refine l_op (f_call F24 CF_52 rfl rfl rfl rfl (lc (F24.ev 15 rfl) (lc rfl (lc rfl rfl))) (spec_l11ForkPages_c (m := M) (from_ := 1) (to := 2) (Rd.mq W13_0 (S16.trans S21)) (Rd.mq W13_1 (S16.trans S21)) (Rd.mq W13_2 (S16.trans S21)) (by first | assumption | exact ⟨by omega, by omega⟩ | (unfold i64ok at *; omega)) (by first | assumption | exact ⟨by omega, by omega⟩ | (unfold i64ok at *; omega)) (by exact bdC.le hbm (by decide))) ?_)
       rintro _ w25 ⟨Q73, Q77, Q75, Q67, Q71, Q69, Q79, Q83, Q81, rfl, m25, v25_0, v25_1, v25_2⟩
       refine ⟨_, rfl, fun _ F26 => ?_⟩
       have S25 := At.frame0 S21.at' m25
       have V25_0 := Rd.got0 S21.at' ((S1.trans (S3.trans (S6.trans (S5.trans (S8.trans (T11.trans (S13.trans (S16.trans S21)))))))).kp.size) v25_0 S25
       obtain ⟨ln25_0, le25_0, mx25_0, ni25_0⟩ := Rd.inv V25_0
       have V25_1 := Rd.got0 S21.at' ((S1.trans (S3.trans (S6.trans (S5.trans (S8.trans (T11.trans (S13.trans (S16.trans S21)))))))).kp.size) v25_1 S25
       obtain ⟨ln25_1, le25_1, mx25_1, ni25_1⟩ := Rd.inv V25_1
       have V25_2 := Rd.got0 S21.at' ((S1.trans (S3.trans (S6.trans (S5.trans (S8.trans (T11.trans (S13.trans (S16.trans S21)))))))).kp.size) v25_2 S25
       obtain ⟨ln25_2, le25_2, mx25_2, ni25_2⟩ := Rd.inv V25_2
       clear m25 v25_0 v25_1 v25_2
       refine l_op (s_store S25.at' 1 TI_29 rfl rfl rfl rfl rfl (F26.ev 3 rfl) (F26.ev 16 rfl) rfl rfl rfl rfl rfl fun w27 S27 => ?_)
       refine s_end (x_block_normal (x_normal (wp_region_lit (l_op (f_mv F26 rfl rfl rfl rfl rfl fun _ F28 => ?_)))))
       refine l_op (f_val F28 rfl rfl (r_add (z := ((k + 1 : Nat) : Int)) rfl (F28.ev 11 rfl) rfl (by first | rfl | omega) ⟨by first | omega | (unfold i64ok at *; omega), by first | omega | (unfold i64ok at *; omega)⟩) rfl fun _ F29 => ?_)
       refine l_op (f_as F29 rfl rfl rfl rfl rfl fun _ F30 => ?_)
       refine s_end ?_
       refine x_normal ⟨k + 1, by omega, i2_21, h2_21, (forkM (kP_ 1) (kP_ 2) M), Q73, Q77, Q75, Q67, Q71, Q69, Q79, Q83, Q81, F30.cut rfl, ((S13.trans (S16.trans (S21.trans (S25.trans S27)))).pick [0, 2, 1] rfl), (Rd.mq (Rd.mq V25_0 S27) (Mv.pick (Mv.refl S27.at') [0, 2, 1] rfl)), (Rd.mq (Rd.mq V25_1 S27) (Mv.pick (Mv.refl S27.at') [0, 2, 1] rfl)), (Rd.mq (Rd.mq V25_2 S27) (Mv.pick (Mv.refl S27.at') [0, 2, 1] rfl)), by omega, by assumption, by first | exact bdC.le (bdC.fork hk_2) gB_fork | exact bdC.le (bdC.store hk_2) gB_store, by omega⟩
     · skip
       refine x_draw (fun aZ wZ => ∃ (i2_38 : Nat), ∃ (h2_38 : Int), ∃ (r_38 : Nat), ∃ (i2_41 : Nat), ∃ (h2_41 : Int), ∃ (r_41 : Nat), ∃ (i2_43 : Nat), ∃ (h2_43 : Int), ∃ (r_43 : Nat), ∃ (i2_45 : Nat), ∃ (h2_45 : Int), ∃ (r_45 : ByteArray), ∃ (Q16 : Option Addr), ∃ (Q18 : Nat), ∃ (Q17 : Nat), ∃ (Q13 : Option Addr), ∃ (Q15 : Nat), ∃ (Q14 : Nat), ∃ (Q19 : Option Addr), ∃ (Q21 : Nat), ∃ (Q20 : Nat), Fr 42 [(0, .pointer (some ⟨c_b, 0, none⟩)), (2, .pointer (some ⟨b1, 0, none⟩)), (3, .pointer (some ⟨b8, 0, none⟩)), (4, .int .i64 ((k : Nat) : Int))] aZ ∧ Mv [bx c_b [.slice Q1 Q0 Q2, .int .i64 ((i2_21 : Nat) : Int), .int .i64 h2_21] 80, bx b8 [.slice sa sn sc, .slice ra rn rc, .slice ua un uc] 29, bx b1 [.slice none 0 0, .slice none 0 0, .slice none 0 0] 29] w21 [bx c_b [.slice Q1 Q0 Q2, .int .i64 ((i2_45 : Nat) : Int), .int .i64 h2_45] 80, bx b8 [.slice Q16 Q18 Q17, .slice Q13 Q15 Q14, .slice Q19 Q21 Q20] 29, bx b1 [.slice none 0 0, .slice none 0 0, .slice none 0 0] 29] wZ ∧ Rd 2 encC okC (V (HP H [bx c_b [.slice Q1 Q0 Q2, .int .i64 ((c.pos : Nat) : Int), .int .i64 c.h] 80]) w [bx c_b [.slice Q1 Q0 Q2, .int .i64 ((i2_45 : Nat) : Int), .int .i64 h2_45] 80, bx b8 [.slice Q16 Q18 Q17, .slice Q13 Q15 Q14, .slice Q19 Q21 Q20] 29, bx b1 [.slice none 0 0, .slice none 0 0, .slice none 0 0] 29]) wZ (.slice Q16 Q18 Q17) (storeM M (kQ_ ((1 + r_38 : Nat) : Int) ((r_41 : Nat) : Int)) ((r_41 : Nat) : Int) r_45).store ∧ Rd 1 encS okS (V (HP H [bx c_b [.slice Q1 Q0 Q2, .int .i64 ((c.pos : Nat) : Int), .int .i64 c.h] 80]) w [bx c_b [.slice Q1 Q0 Q2, .int .i64 ((i2_45 : Nat) : Int), .int .i64 h2_45] 80, bx b8 [.slice Q16 Q18 Q17, .slice Q13 Q15 Q14, .slice Q19 Q21 Q20] 29, bx b1 [.slice none 0 0, .slice none 0 0, .slice none 0 0] 29]) wZ (.slice Q13 Q15 Q14) (storeM M (kQ_ ((1 + r_38 : Nat) : Int) ((r_41 : Nat) : Int)) ((r_41 : Nat) : Int) r_45).touch.reads ∧ Rd 1 encS okS (V (HP H [bx c_b [.slice Q1 Q0 Q2, .int .i64 ((c.pos : Nat) : Int), .int .i64 c.h] 80]) w [bx c_b [.slice Q1 Q0 Q2, .int .i64 ((i2_45 : Nat) : Int), .int .i64 h2_45] 80, bx b8 [.slice Q16 Q18 Q17, .slice Q13 Q15 Q14, .slice Q19 Q21 Q20] 29, bx b1 [.slice none 0 0, .slice none 0 0, .slice none 0 0] 29]) wZ (.slice Q19 Q21 Q20) (storeM M (kQ_ ((1 + r_38 : Nat) : Int) ((r_41 : Nat) : Int)) ((r_41 : Nat) : Int) r_45).touch.writes ∧ (i2_38 ≤ Q0) ∧ (i64ok h2_38) ∧ (((0 : Int) < 2 → (r_38 : Int) < 2)) ∧ ((2 ≤ (0 : Int) → r_38 = 0)) ∧ (i2_41 ≤ Q0) ∧ (i64ok h2_41) ∧ (((0 : Int) < 4 → (r_41 : Int) < 4)) ∧ ((4 ≤ (0 : Int) → r_41 = 0)) ∧ (i2_43 ≤ Q0) ∧ (i64ok h2_43) ∧ (((0 : Int) < 4 → (r_43 : Int) < 4)) ∧ ((4 ≤ (0 : Int) → r_43 = 0)) ∧ (i2_45 ≤ Q0) ∧ (i64ok h2_45) ∧ (r_45.size ≤ 5000)) [] mixed S21.at' (listed := #[false, false, false, false, false, false, false, false, false, false, false, false, false, false, false]) rfl (fun w32 S32 => ?_) [] rfl ?_
       · skip
         refine x_lem (fun aZ wZ => ∃ (i2_38 : Nat), ∃ (h2_38 : Int), ∃ (r_38 : Nat), ∃ (i2_41 : Nat), ∃ (h2_41 : Int), ∃ (r_41 : Nat), ∃ (i2_43 : Nat), ∃ (h2_43 : Int), ∃ (r_43 : Nat), ∃ (i2_45 : Nat), ∃ (h2_45 : Int), ∃ (r_45 : ByteArray), ∃ (Q16 : Option Addr), ∃ (Q18 : Nat), ∃ (Q17 : Nat), ∃ (Q13 : Option Addr), ∃ (Q15 : Nat), ∃ (Q14 : Nat), ∃ (Q19 : Option Addr), ∃ (Q21 : Nat), ∃ (Q20 : Nat), Fr 42 [(29, .agg #[.slice Q16 Q18 Q17, .slice Q13 Q15 Q14, .slice Q19 Q21 Q20]), (4, .int .i64 ((k : Nat) : Int)), (3, .pointer (some ⟨b8, 0, none⟩)), (2, .pointer (some ⟨b1, 0, none⟩)), (0, .pointer (some ⟨c_b, 0, none⟩))] aZ ∧ Mv [bx c_b [.slice Q1 Q0 Q2, .int .i64 ((i2_21 : Nat) : Int), .int .i64 h2_21] 80, bx b8 [.slice sa sn sc, .slice ra rn rc, .slice ua un uc] 29, bx b1 [.slice none 0 0, .slice none 0 0, .slice none 0 0] 29] w32 [bx c_b [.slice Q1 Q0 Q2, .int .i64 ((i2_45 : Nat) : Int), .int .i64 h2_45] 80, bx b8 [.slice sa sn sc, .slice ra rn rc, .slice ua un uc] 29, bx b1 [.slice none 0 0, .slice none 0 0, .slice none 0 0] 29] wZ ∧ Rd 2 encC okC (V (HP H [bx c_b [.slice Q1 Q0 Q2, .int .i64 ((c.pos : Nat) : Int), .int .i64 c.h] 80]) w [bx c_b [.slice Q1 Q0 Q2, .int .i64 ((i2_45 : Nat) : Int), .int .i64 h2_45] 80, bx b8 [.slice sa sn sc, .slice ra rn rc, .slice ua un uc] 29, bx b1 [.slice none 0 0, .slice none 0 0, .slice none 0 0] 29]) wZ (.slice Q16 Q18 Q17) (storeM M (kQ_ ((1 + r_38 : Nat) : Int) ((r_41 : Nat) : Int)) ((r_41 : Nat) : Int) r_45).store ∧ Rd 1 encS okS (V (HP H [bx c_b [.slice Q1 Q0 Q2, .int .i64 ((c.pos : Nat) : Int), .int .i64 c.h] 80]) w [bx c_b [.slice Q1 Q0 Q2, .int .i64 ((i2_45 : Nat) : Int), .int .i64 h2_45] 80, bx b8 [.slice sa sn sc, .slice ra rn rc, .slice ua un uc] 29, bx b1 [.slice none 0 0, .slice none 0 0, .slice none 0 0] 29]) wZ (.slice Q13 Q15 Q14) (storeM M (kQ_ ((1 + r_38 : Nat) : Int) ((r_41 : Nat) : Int)) ((r_41 : Nat) : Int) r_45).touch.reads ∧ Rd 1 encS okS (V (HP H [bx c_b [.slice Q1 Q0 Q2, .int .i64 ((c.pos : Nat) : Int), .int .i64 c.h] 80]) w [bx c_b [.slice Q1 Q0 Q2, .int .i64 ((i2_45 : Nat) : Int), .int .i64 h2_45] 80, bx b8 [.slice sa sn sc, .slice ra rn rc, .slice ua un uc] 29, bx b1 [.slice none 0 0, .slice none 0 0, .slice none 0 0] 29]) wZ (.slice Q19 Q21 Q20) (storeM M (kQ_ ((1 + r_38 : Nat) : Int) ((r_41 : Nat) : Int)) ((r_41 : Nat) : Int) r_45).touch.writes ∧ (i2_38 ≤ Q0) ∧ (i64ok h2_38) ∧ (((0 : Int) < 2 → (r_38 : Int) < 2)) ∧ ((2 ≤ (0 : Int) → r_38 = 0)) ∧ (i2_41 ≤ Q0) ∧ (i64ok h2_41) ∧ (((0 : Int) < 4 → (r_41 : Int) < 4)) ∧ ((4 ≤ (0 : Int) → r_41 = 0)) ∧ (i2_43 ≤ Q0) ∧ (i64ok h2_43) ∧ (((0 : Int) < 4 → (r_43 : Int) < 4)) ∧ ((4 ≤ (0 : Int) → r_43 = 0)) ∧ (i2_45 ≤ Q0) ∧ (i64ok h2_45) ∧ (r_45.size ≤ 5000)) #[yT, yT, yT, yT, yT, yT, yT, yT, yT, yT, yT, yT, yT, yT, nF] 1 ?_ (fun G66 => ?_)
         · rintro a66 w66 ⟨i2_38, h2_38, r_38, i2_41, h2_41, r_41, i2_43, h2_43, r_43, i2_45, h2_45, r_45, Q16, Q18, Q17, Q13, Q15, Q14, Q19, Q21, Q20, F66, S66, W66_0, W66_1, W66_2, q38_0, q38_1, q38_2, q38_3, q41_0, q41_1, q41_2, q41_3, q43_0, q43_1, q43_2, q43_3, q45_0, q45_1, q45_2⟩
           refine d_one (i := 14) (listed' := #[yT, yT, yT, yT, yT, yT, yT, yT, yT, yT, yT, yT, yT, yT, yT]) rfl (by kernel_rfl) rfl rfl ?_
           refine s_store S66.at' 1 TI_29 rfl rfl rfl rfl rfl (F66.ev 3 rfl) (F66.ev 29 rfl) rfl rfl rfl rfl rfl fun w67 S67 => ?_
           refine ⟨Sd.of (S66.trans S67) [] rfl, ?_⟩
           refine wpAnyH_done (by kernel_rfl) (x_normal ?_) _
           exact ⟨i2_38, h2_38, r_38, i2_41, h2_41, r_41, i2_43, h2_43, r_43, i2_45, h2_45, r_45, Q16, Q18, Q17, Q13, Q15, Q14, Q19, Q21, Q20, F66.cut rfl, ((S32.trans (S66.trans S67)).pick [1, 0, 2] rfl), (Rd.mq (Rd.mq W66_0 S67) (Mv.pick (Mv.refl S67.at') [1, 0, 2] rfl)), (Rd.mq (Rd.mq W66_1 S67) (Mv.pick (Mv.refl S67.at') [1, 0, 2] rfl)), (Rd.mq (Rd.mq W66_2 S67) (Mv.pick (Mv.refl S67.at') [1, 0, 2] rfl)), q38_0, q38_1, q38_2, q38_3, q41_0, q41_1, q41_2, q41_3, q43_0, q43_1, q43_2, q43_3, q45_0, q45_1, q45_2⟩
         refine x_lem (fun aZ wZ => ∃ (i2_38 : Nat), ∃ (h2_38 : Int), ∃ (r_38 : Nat), ∃ (i2_41 : Nat), ∃ (h2_41 : Int), ∃ (r_41 : Nat), ∃ (i2_43 : Nat), ∃ (h2_43 : Int), ∃ (r_43 : Nat), ∃ (i2_45 : Nat), ∃ (h2_45 : Int), ∃ (r_45 : ByteArray), Fr 42 [(27, .string r_45), (23, .int .i64 ((r_41 : Nat) : Int)), (21, .int .i64 ((1 + r_38 : Nat) : Int)), (18, .agg #[.slice sa sn sc, .slice ra rn rc, .slice ua un uc]), (4, .int .i64 ((k : Nat) : Int)), (3, .pointer (some ⟨b8, 0, none⟩)), (2, .pointer (some ⟨b1, 0, none⟩)), (0, .pointer (some ⟨c_b, 0, none⟩))] aZ ∧ Mv [bx c_b [.slice Q1 Q0 Q2, .int .i64 ((i2_21 : Nat) : Int), .int .i64 h2_21] 80, bx b8 [.slice sa sn sc, .slice ra rn rc, .slice ua un uc] 29, bx b1 [.slice none 0 0, .slice none 0 0, .slice none 0 0] 29] w32 [bx c_b [.slice Q1 Q0 Q2, .int .i64 ((i2_45 : Nat) : Int), .int .i64 h2_45] 80, bx b8 [.slice sa sn sc, .slice ra rn rc, .slice ua un uc] 29, bx b1 [.slice none 0 0, .slice none 0 0, .slice none 0 0] 29] wZ ∧ okS r_45 ∧ (i2_38 ≤ Q0) ∧ (i64ok h2_38) ∧ (((0 : Int) < 2 → (r_38 : Int) < 2)) ∧ ((2 ≤ (0 : Int) → r_38 = 0)) ∧ (i2_41 ≤ Q0) ∧ (i64ok h2_41) ∧ (((0 : Int) < 4 → (r_41 : Int) < 4)) ∧ ((4 ≤ (0 : Int) → r_41 = 0)) ∧ (i2_43 ≤ Q0) ∧ (i64ok h2_43) ∧ (((0 : Int) < 4 → (r_43 : Int) < 4)) ∧ ((4 ≤ (0 : Int) → r_43 = 0)) ∧ (i2_45 ≤ Q0) ∧ (i64ok h2_45) ∧ (r_45.size ≤ 5000)) #[yT, yT, yT, yT, yT, yT, yT, yT, yT, yT, nF, nF, nF, nF, nF] 5 ?_ (fun G68 => ?_)
         · rintro a68 w68 ⟨i2_38, h2_38, r_38, i2_41, h2_41, r_41, i2_43, h2_43, r_43, i2_45, h2_45, r_45, F68, S68, Q62, q38_0, q38_1, q38_2, q38_3, q41_0, q41_1, q41_2, q41_3, q43_0, q43_1, q43_2, q43_3, q45_0, q45_1, q45_2⟩
           refine d_one (i := 10) (listed' := #[yT, yT, yT, yT, yT, yT, yT, yT, yT, yT, yT, nF, nF, nF, nF]) rfl (by kernel_rfl) rfl rfl ?_
           refine f_call F68 CF_41 rfl rfl rfl rfl (lc (F68.ev 18 rfl) (lc (F68.ev 21 rfl) (lc (F68.ev 23 rfl) (lc (F68.ev 27 rfl) rfl)))) (spec_l11StorePage_c (m := M) (id := ((1 + r_38 : Nat) : Int)) (page := ((r_41 : Nat) : Int)) (text := r_45) (Rd.mq W13_0 (S16.trans (S21.trans (S32.trans S68)))) (Rd.mq W13_1 (S16.trans (S21.trans (S32.trans S68)))) (Rd.mq W13_2 (S16.trans (S21.trans (S32.trans S68)))) (by first | assumption | exact ⟨by omega, by omega⟩ | (unfold i64ok at *; omega)) (by first | assumption | exact ⟨by omega, by omega⟩ | (unfold i64ok at *; omega)) Q62 (by exact bdC.le hbm (by decide))) ?_
           rintro _ w69 ⟨Q40, Q44, Q42, Q34, Q38, Q36, Q46, Q50, Q48, rfl, m69, v69_0, v69_1, v69_2⟩
           refine ⟨_, rfl, fun _ F70 => ?_⟩
           have S69 := At.frame0 S68.at' m69
           have V69_0 := Rd.got0 S68.at' ((S1.trans (S3.trans (S6.trans (S5.trans (S8.trans (T11.trans (S13.trans (S16.trans (S21.trans (S32.trans S68)))))))))).kp.size) v69_0 S69
           obtain ⟨ln69_0, le69_0, mx69_0, ni69_0⟩ := Rd.inv V69_0
           have V69_1 := Rd.got0 S68.at' ((S1.trans (S3.trans (S6.trans (S5.trans (S8.trans (T11.trans (S13.trans (S16.trans (S21.trans (S32.trans S68)))))))))).kp.size) v69_1 S69
           obtain ⟨ln69_1, le69_1, mx69_1, ni69_1⟩ := Rd.inv V69_1
           have V69_2 := Rd.got0 S68.at' ((S1.trans (S3.trans (S6.trans (S5.trans (S8.trans (T11.trans (S13.trans (S16.trans (S21.trans (S32.trans S68)))))))))).kp.size) v69_2 S69
           obtain ⟨ln69_2, le69_2, mx69_2, ni69_2⟩ := Rd.inv V69_2
           clear m69 v69_0 v69_1 v69_2
           refine ⟨Sd.of (S68.trans S69) [] rfl, ?_⟩
           refine g_take F70 rfl (i := 11) (listed' := #[yT, yT, yT, yT, yT, yT, yT, yT, yT, yT, yT, yT, nF, nF, nF]) rfl (by kernel_rfl) (by kernel_rfl) (by kernel_rfl) (fun _ _ _ h => h) (Sd.of (S68.trans S69) [] rfl) rfl rfl rfl rfl (fun _ hz => (r_move rfl (F70.ev 28 rfl))) fun _ F71 => ?_
           refine g_take (v := .agg #[.slice Q40 Q44 Q42, .slice Q34 Q38 Q36, .slice Q46 Q50 Q48]) F71 rfl (i := 12) (listed' := #[yT, yT, yT, yT, yT, yT, yT, yT, yT, yT, yT, yT, yT, nF, nF]) rfl (by kernel_rfl) (by kernel_rfl) (by kernel_rfl) (fun _ _ _ h => h) (Sd.of (S68.trans S69) [] rfl) rfl rfl rfl rfl (fun _ hz => (r_extract rfl (F71.ev 17 rfl) rfl)) fun _ F72 => ?_
           refine g_take (v := .int .i64 (storeC ((r_41 : Nat) : Int) r_45)) F72 rfl (i := 13) (listed' := #[yT, yT, yT, yT, yT, yT, yT, yT, yT, yT, yT, yT, yT, yT, nF]) rfl (by kernel_rfl) (by kernel_rfl) (by kernel_rfl) (fun _ _ _ h => h) (Sd.of (S68.trans S69) [] rfl) rfl rfl rfl rfl (fun _ hz => (r_extract rfl (F72.ev 17 rfl) rfl)) fun _ F73 => ?_
           exact G66 _ _ ⟨i2_38, h2_38, r_38, i2_41, h2_41, r_41, i2_43, h2_43, r_43, i2_45, h2_45, r_45, Q40, Q44, Q42, Q34, Q38, Q36, Q46, Q50, Q48, F73.cut rfl, (S68.trans S69).pick [0, 1, 2] rfl, V69_0, V69_1, V69_2, q38_0, q38_1, q38_2, q38_3, q41_0, q41_1, q41_2, q41_3, q43_0, q43_1, q43_2, q43_3, q45_0, q45_1, q45_2⟩
         refine x_lem (fun aZ wZ => ∃ (i2_38 : Nat), ∃ (h2_38 : Int), ∃ (r_38 : Nat), ∃ (i2_41 : Nat), ∃ (h2_41 : Int), ∃ (r_41 : Nat), ∃ (i2_43 : Nat), ∃ (h2_43 : Int), ∃ (r_43 : Nat), Fr 42 [(26, .int .i64 ((r_43 : Nat) : Int)), (23, .int .i64 ((r_41 : Nat) : Int)), (21, .int .i64 ((1 + r_38 : Nat) : Int)), (18, .agg #[.slice sa sn sc, .slice ra rn rc, .slice ua un uc]), (24, .pointer (some ⟨c_b, 0, none⟩)), (4, .int .i64 ((k : Nat) : Int)), (3, .pointer (some ⟨b8, 0, none⟩)), (2, .pointer (some ⟨b1, 0, none⟩)), (0, .pointer (some ⟨c_b, 0, none⟩))] aZ ∧ Mv [bx c_b [.slice Q1 Q0 Q2, .int .i64 ((i2_21 : Nat) : Int), .int .i64 h2_21] 80, bx b8 [.slice sa sn sc, .slice ra rn rc, .slice ua un uc] 29, bx b1 [.slice none 0 0, .slice none 0 0, .slice none 0 0] 29] w32 [bx c_b [.slice Q1 Q0 Q2, .int .i64 ((i2_43 : Nat) : Int), .int .i64 h2_43] 80, bx b8 [.slice sa sn sc, .slice ra rn rc, .slice ua un uc] 29, bx b1 [.slice none 0 0, .slice none 0 0, .slice none 0 0] 29] wZ ∧ (i2_38 ≤ Q0) ∧ (i64ok h2_38) ∧ (((0 : Int) < 2 → (r_38 : Int) < 2)) ∧ ((2 ≤ (0 : Int) → r_38 = 0)) ∧ (i2_41 ≤ Q0) ∧ (i64ok h2_41) ∧ (((0 : Int) < 4 → (r_41 : Int) < 4)) ∧ ((4 ≤ (0 : Int) → r_41 = 0)) ∧ (i2_43 ≤ Q0) ∧ (i64ok h2_43) ∧ (((0 : Int) < 4 → (r_43 : Int) < 4)) ∧ ((4 ≤ (0 : Int) → r_43 = 0))) #[yT, yT, yT, yT, yT, yT, yT, yT, yT, nF, nF, nF, nF, nF, nF] 6 ?_ (fun G74 => ?_)
         · rintro a74 w74 ⟨i2_38, h2_38, r_38, i2_41, h2_41, r_41, i2_43, h2_43, r_43, F74, S74, q38_0, q38_1, q38_2, q38_3, q41_0, q41_1, q41_2, q41_3, q43_0, q43_1, q43_2, q43_3⟩
           refine d_one (i := 9) (listed' := #[yT, yT, yT, yT, yT, yT, yT, yT, yT, yT, nF, nF, nF, nF, nF]) rfl (by kernel_rfl) rfl rfl ?_
           refine f_call F74 CF_38 rfl rfl rfl rfl (lc (F74.ev 24 rfl) (lc (F74.ev 26 rfl) rfl)) (spec_l01Text_c (c := (⟨c.code, i2_43, h2_43⟩ : CurD)) (n := ((r_43 : Nat) : Int)) (RdA.mv (Nat.succ_pos _) Q3 (S1.trans (S3.trans (S6.trans (S5.trans (S8.trans (T11.trans (S13.trans (S16.trans (S21.trans (S32.trans S74))))))))))) (by unfold i64ok; (try dsimp only); omega) (by first | assumption | exact w64_ok _ | exact ⟨by omega, by omega⟩ | (unfold i64ok at *; omega)) (by first | assumption | exact ⟨by omega, by omega⟩ | (unfold i64ok at *; omega)) (by first | assumption | omega | (simp <;> omega)) (At.pick (is := [0]) S74.at' rfl) (V_off (is := [0]))) ?_
           rintro _ w75 ⟨i2_75, h2_75, r_75, rfl, m75, Q64, q75_0, q75_1, q75_2⟩
           refine ⟨_, rfl, fun _ F76 => ?_⟩
           have S75 : Mv _ _ [bx c_b [.slice Q1 Q0 Q2, .int .i64 ((i2_75 : Nat) : Int), .int .i64 h2_75] 80, bx b8 [.slice sa sn sc, .slice ra rn rc, .slice ua un uc] 29, bx b1 [.slice none 0 0, .slice none 0 0, .slice none 0 0] 29] _ := At.frame S74.at' [0] rfl m75
           clear m75
           refine ⟨Sd.of (S74.trans S75) [] rfl, ?_⟩
           exact G68 _ _ ⟨i2_38, h2_38, r_38, i2_41, h2_41, r_41, i2_43, h2_43, r_43, i2_75, h2_75, r_75, F76.cut rfl, (S74.trans S75).pick [0, 1, 2] rfl, Q64, q38_0, q38_1, q38_2, q38_3, q41_0, q41_1, q41_2, q41_3, q43_0, q43_1, q43_2, q43_3, q75_0, q75_1, q75_2⟩
         refine x_lem (fun aZ wZ => ∃ (i2_53 : Nat), ∃ (h2_53 : Int), ∃ (r_53 : Nat), ∃ (i2_57 : Nat), ∃ (h2_57 : Int), ∃ (r_57 : Nat), ∃ (i2_60 : Nat), ∃ (h2_60 : Int), ∃ (r_60 : Nat), ∃ (i2_63 : Nat), ∃ (h2_63 : Int), ∃ (r_63 : ByteArray), Fr 42 [(27, .string r_63), (23, .int .i64 ((r_57 : Nat) : Int)), (21, .int .i64 ((1 + r_53 : Nat) : Int)), (4, .int .i64 ((k : Nat) : Int)), (3, .pointer (some ⟨b8, 0, none⟩)), (2, .pointer (some ⟨b1, 0, none⟩)), (0, .pointer (some ⟨c_b, 0, none⟩))] aZ ∧ Mv [bx c_b [.slice Q1 Q0 Q2, .int .i64 ((i2_21 : Nat) : Int), .int .i64 h2_21] 80, bx b8 [.slice sa sn sc, .slice ra rn rc, .slice ua un uc] 29, bx b1 [.slice none 0 0, .slice none 0 0, .slice none 0 0] 29] w32 [bx c_b [.slice Q1 Q0 Q2, .int .i64 ((i2_63 : Nat) : Int), .int .i64 h2_63] 80, bx b8 [.slice sa sn sc, .slice ra rn rc, .slice ua un uc] 29, bx b1 [.slice none 0 0, .slice none 0 0, .slice none 0 0] 29] wZ ∧ okS r_63 ∧ (i2_53 ≤ Q0) ∧ (i64ok h2_53) ∧ (((0 : Int) < 2 → (r_53 : Int) < 2)) ∧ ((2 ≤ (0 : Int) → r_53 = 0)) ∧ (i2_57 ≤ Q0) ∧ (i64ok h2_57) ∧ (((0 : Int) < 4 → (r_57 : Int) < 4)) ∧ ((4 ≤ (0 : Int) → r_57 = 0)) ∧ (i2_60 ≤ Q0) ∧ (i64ok h2_60) ∧ (((0 : Int) < 4 → (r_60 : Int) < 4)) ∧ ((4 ≤ (0 : Int) → r_60 = 0)) ∧ (i2_63 ≤ Q0) ∧ (i64ok h2_63) ∧ (r_63.size ≤ 5000)) #[nF, yT, yT, yT, yT, yT, yT, yT, yT, yT, nF, nF, nF, nF, nF] 6 ?_ (fun G77 => ?_)
         · rintro a77 w77 ⟨i2_53, h2_53, r_53, i2_57, h2_57, r_57, i2_60, h2_60, r_60, i2_63, h2_63, r_63, F77, S77, Q63, q53_0, q53_1, q53_2, q53_3, q57_0, q57_1, q57_2, q57_3, q60_0, q60_1, q60_2, q60_3, q63_0, q63_1, q63_2⟩
           refine d_one (i := 0) (listed' := #[yT, yT, yT, yT, yT, yT, yT, yT, yT, yT, nF, nF, nF, nF, nF]) rfl (by kernel_rfl) rfl rfl ?_
           refine f_val (v := .agg #[.slice sa sn sc, .slice ra rn rc, .slice ua un uc]) F77 rfl rfl (r_loadB S77.at' 1 TI_29 rfl rfl (F77.ev 3 rfl) rfl rfl (fun h => nomatch h) rfl) rfl fun _ F78 => ?_
           refine ⟨Sd.of S77 [] rfl, ?_⟩
           exact G68 _ _ ⟨i2_53, h2_53, r_53, i2_57, h2_57, r_57, i2_60, h2_60, r_60, i2_63, h2_63, r_63, F78.cut rfl, S77.pick [0, 1, 2] rfl, Q63, q53_0, q53_1, q53_2, q53_3, q57_0, q57_1, q57_2, q57_3, q60_0, q60_1, q60_2, q60_3, q63_0, q63_1, q63_2⟩
         refine x_lem (fun aZ wZ => ∃ (i2_38 : Nat), ∃ (h2_38 : Int), ∃ (r_38 : Nat), ∃ (i2_41 : Nat), ∃ (h2_41 : Int), ∃ (r_41 : Nat), Fr 42 [(23, .int .i64 ((r_41 : Nat) : Int)), (21, .int .i64 ((1 + r_38 : Nat) : Int)), (18, .agg #[.slice sa sn sc, .slice ra rn rc, .slice ua un uc]), (25, .pointer (some ⟨c_b, 0, none⟩)), (24, .pointer (some ⟨c_b, 0, none⟩)), (4, .int .i64 ((k : Nat) : Int)), (3, .pointer (some ⟨b8, 0, none⟩)), (2, .pointer (some ⟨b1, 0, none⟩)), (0, .pointer (some ⟨c_b, 0, none⟩))] aZ ∧ Mv [bx c_b [.slice Q1 Q0 Q2, .int .i64 ((i2_21 : Nat) : Int), .int .i64 h2_21] 80, bx b8 [.slice sa sn sc, .slice ra rn rc, .slice ua un uc] 29, bx b1 [.slice none 0 0, .slice none 0 0, .slice none 0 0] 29] w32 [bx c_b [.slice Q1 Q0 Q2, .int .i64 ((i2_41 : Nat) : Int), .int .i64 h2_41] 80, bx b8 [.slice sa sn sc, .slice ra rn rc, .slice ua un uc] 29, bx b1 [.slice none 0 0, .slice none 0 0, .slice none 0 0] 29] wZ ∧ (i2_38 ≤ Q0) ∧ (i64ok h2_38) ∧ (((0 : Int) < 2 → (r_38 : Int) < 2)) ∧ ((2 ≤ (0 : Int) → r_38 = 0)) ∧ (i2_41 ≤ Q0) ∧ (i64ok h2_41) ∧ (((0 : Int) < 4 → (r_41 : Int) < 4)) ∧ ((4 ≤ (0 : Int) → r_41 = 0))) #[yT, yT, yT, yT, yT, yT, yT, yT, nF, nF, nF, nF, nF, nF, nF] 7 ?_ (fun G79 => ?_)
         · rintro a79 w79 ⟨i2_38, h2_38, r_38, i2_41, h2_41, r_41, F79, S79, q38_0, q38_1, q38_2, q38_3, q41_0, q41_1, q41_2, q41_3⟩
           refine d_one (i := 8) (listed' := #[yT, yT, yT, yT, yT, yT, yT, yT, yT, nF, nF, nF, nF, nF, nF]) rfl (by kernel_rfl) rfl rfl ?_
           refine f_call F79 CF_36 rfl rfl rfl rfl (lc (F79.ev 25 rfl) (lc rfl rfl)) (spec_l01Below_c (c := (⟨c.code, i2_41, h2_41⟩ : CurD)) (n := 4) (RdA.mv (Nat.succ_pos _) Q3 (S1.trans (S3.trans (S6.trans (S5.trans (S8.trans (T11.trans (S13.trans (S16.trans (S21.trans (S32.trans S79))))))))))) (by unfold i64ok; (try dsimp only); omega) (by first | assumption | exact w64_ok _ | exact ⟨by omega, by omega⟩ | (unfold i64ok at *; omega)) (by first | assumption | exact ⟨by omega, by omega⟩ | (unfold i64ok at *; omega)) (by first | assumption | omega | (simp <;> omega)) (At.pick (is := [0]) S79.at' rfl) (V_off (is := [0]))) ?_
           rintro _ w80 ⟨i2_80, h2_80, r_80, rfl, m80, q80_0, q80_1, q80_2, q80_3⟩
           refine ⟨_, rfl, fun _ F81 => ?_⟩
           have S80 : Mv _ _ [bx c_b [.slice Q1 Q0 Q2, .int .i64 ((i2_80 : Nat) : Int), .int .i64 h2_80] 80, bx b8 [.slice sa sn sc, .slice ra rn rc, .slice ua un uc] 29, bx b1 [.slice none 0 0, .slice none 0 0, .slice none 0 0] 29] _ := At.frame S79.at' [0] rfl m80
           clear m80
           refine ⟨Sd.of (S79.trans S80) [] rfl, ?_⟩
           exact G74 _ _ ⟨i2_38, h2_38, r_38, i2_41, h2_41, r_41, i2_80, h2_80, r_80, F81.cut rfl, (S79.trans S80).pick [0, 1, 2] rfl, q38_0, q38_1, q38_2, q38_3, q41_0, q41_1, q41_2, q41_3, q80_0, q80_1, q80_2, q80_3⟩
         refine x_lem (fun aZ wZ => ∃ (i2_53 : Nat), ∃ (h2_53 : Int), ∃ (r_53 : Nat), ∃ (i2_57 : Nat), ∃ (h2_57 : Int), ∃ (r_57 : Nat), ∃ (i2_60 : Nat), ∃ (h2_60 : Int), ∃ (r_60 : Nat), Fr 42 [(26, .int .i64 ((r_60 : Nat) : Int)), (23, .int .i64 ((r_57 : Nat) : Int)), (21, .int .i64 ((1 + r_53 : Nat) : Int)), (24, .pointer (some ⟨c_b, 0, none⟩)), (4, .int .i64 ((k : Nat) : Int)), (3, .pointer (some ⟨b8, 0, none⟩)), (2, .pointer (some ⟨b1, 0, none⟩)), (0, .pointer (some ⟨c_b, 0, none⟩))] aZ ∧ Mv [bx c_b [.slice Q1 Q0 Q2, .int .i64 ((i2_21 : Nat) : Int), .int .i64 h2_21] 80, bx b8 [.slice sa sn sc, .slice ra rn rc, .slice ua un uc] 29, bx b1 [.slice none 0 0, .slice none 0 0, .slice none 0 0] 29] w32 [bx c_b [.slice Q1 Q0 Q2, .int .i64 ((i2_60 : Nat) : Int), .int .i64 h2_60] 80, bx b8 [.slice sa sn sc, .slice ra rn rc, .slice ua un uc] 29, bx b1 [.slice none 0 0, .slice none 0 0, .slice none 0 0] 29] wZ ∧ (i2_53 ≤ Q0) ∧ (i64ok h2_53) ∧ (((0 : Int) < 2 → (r_53 : Int) < 2)) ∧ ((2 ≤ (0 : Int) → r_53 = 0)) ∧ (i2_57 ≤ Q0) ∧ (i64ok h2_57) ∧ (((0 : Int) < 4 → (r_57 : Int) < 4)) ∧ ((4 ≤ (0 : Int) → r_57 = 0)) ∧ (i2_60 ≤ Q0) ∧ (i64ok h2_60) ∧ (((0 : Int) < 4 → (r_60 : Int) < 4)) ∧ ((4 ≤ (0 : Int) → r_60 = 0))) #[nF, yT, yT, yT, yT, yT, yT, yT, yT, nF, nF, nF, nF, nF, nF] 7 ?_ (fun G82 => ?_)
         · rintro a82 w82 ⟨i2_53, h2_53, r_53, i2_57, h2_57, r_57, i2_60, h2_60, r_60, F82, S82, q53_0, q53_1, q53_2, q53_3, q57_0, q57_1, q57_2, q57_3, q60_0, q60_1, q60_2, q60_3⟩
           refine d_all (rs := [0, 9]) rfl (by kernel_rfl) (by simp) (d_cons (i := 0) (listed' := #[yT, yT, yT, yT, yT, yT, yT, yT, yT, nF, nF, nF, nF, nF, nF]) rfl rfl ?_ (d_cons (i := 9) (listed' := #[nF, yT, yT, yT, yT, yT, yT, yT, yT, yT, nF, nF, nF, nF, nF]) rfl rfl ?_ d_nil))
           · skip
             refine f_val (v := .agg #[.slice sa sn sc, .slice ra rn rc, .slice ua un uc]) F82 rfl rfl (r_loadB S82.at' 1 TI_29 rfl rfl (F82.ev 3 rfl) rfl rfl (fun h => nomatch h) rfl) rfl fun _ F83 => ?_
             refine ⟨Sd.of S82 [] rfl, ?_⟩
             exact G74 _ _ ⟨i2_53, h2_53, r_53, i2_57, h2_57, r_57, i2_60, h2_60, r_60, F83.cut rfl, S82.pick [0, 1, 2] rfl, q53_0, q53_1, q53_2, q53_3, q57_0, q57_1, q57_2, q57_3, q60_0, q60_1, q60_2, q60_3⟩
           · skip
             refine f_call F82 CF_38 rfl rfl rfl rfl (lc (F82.ev 24 rfl) (lc (F82.ev 26 rfl) rfl)) (spec_l01Text_c (c := (⟨c.code, i2_60, h2_60⟩ : CurD)) (n := ((r_60 : Nat) : Int)) (RdA.mv (Nat.succ_pos _) Q3 (S1.trans (S3.trans (S6.trans (S5.trans (S8.trans (T11.trans (S13.trans (S16.trans (S21.trans (S32.trans S82))))))))))) (by unfold i64ok; (try dsimp only); omega) (by first | assumption | exact w64_ok _ | exact ⟨by omega, by omega⟩ | (unfold i64ok at *; omega)) (by first | assumption | exact ⟨by omega, by omega⟩ | (unfold i64ok at *; omega)) (by first | assumption | omega | (simp <;> omega)) (At.pick (is := [0]) S82.at' rfl) (V_off (is := [0]))) ?_
             rintro _ w84 ⟨i2_84, h2_84, r_84, rfl, m84, Q65, q84_0, q84_1, q84_2⟩
             refine ⟨_, rfl, fun _ F85 => ?_⟩
             have S84 : Mv _ _ [bx c_b [.slice Q1 Q0 Q2, .int .i64 ((i2_84 : Nat) : Int), .int .i64 h2_84] 80, bx b8 [.slice sa sn sc, .slice ra rn rc, .slice ua un uc] 29, bx b1 [.slice none 0 0, .slice none 0 0, .slice none 0 0] 29] _ := At.frame S82.at' [0] rfl m84
             clear m84
             refine ⟨Sd.of (S82.trans S84) [] rfl, ?_⟩
             exact G77 _ _ ⟨i2_53, h2_53, r_53, i2_57, h2_57, r_57, i2_60, h2_60, r_60, i2_84, h2_84, r_84, F85.cut rfl, (S82.trans S84).pick [0, 1, 2] rfl, Q65, q53_0, q53_1, q53_2, q53_3, q57_0, q57_1, q57_2, q57_3, q60_0, q60_1, q60_2, q60_3, q84_0, q84_1, q84_2⟩
         refine x_lem (fun aZ wZ => ∃ (i2_38 : Nat), ∃ (h2_38 : Int), ∃ (r_38 : Nat), Fr 42 [(21, .int .i64 ((1 + r_38 : Nat) : Int)), (18, .agg #[.slice sa sn sc, .slice ra rn rc, .slice ua un uc]), (25, .pointer (some ⟨c_b, 0, none⟩)), (24, .pointer (some ⟨c_b, 0, none⟩)), (22, .pointer (some ⟨c_b, 0, none⟩)), (4, .int .i64 ((k : Nat) : Int)), (3, .pointer (some ⟨b8, 0, none⟩)), (2, .pointer (some ⟨b1, 0, none⟩)), (0, .pointer (some ⟨c_b, 0, none⟩))] aZ ∧ Mv [bx c_b [.slice Q1 Q0 Q2, .int .i64 ((i2_21 : Nat) : Int), .int .i64 h2_21] 80, bx b8 [.slice sa sn sc, .slice ra rn rc, .slice ua un uc] 29, bx b1 [.slice none 0 0, .slice none 0 0, .slice none 0 0] 29] w32 [bx c_b [.slice Q1 Q0 Q2, .int .i64 ((i2_38 : Nat) : Int), .int .i64 h2_38] 80, bx b8 [.slice sa sn sc, .slice ra rn rc, .slice ua un uc] 29, bx b1 [.slice none 0 0, .slice none 0 0, .slice none 0 0] 29] wZ ∧ (i2_38 ≤ Q0) ∧ (i64ok h2_38) ∧ (((0 : Int) < 2 → (r_38 : Int) < 2)) ∧ ((2 ≤ (0 : Int) → r_38 = 0))) #[yT, yT, yT, yT, yT, nF, yT, yT, nF, nF, nF, nF, nF, nF, nF] 8 ?_ (fun G86 => ?_)
         · rintro a86 w86 ⟨i2_38, h2_38, r_38, F86, S86, q38_0, q38_1, q38_2, q38_3⟩
           refine d_one (i := 5) (listed' := #[yT, yT, yT, yT, yT, yT, yT, yT, nF, nF, nF, nF, nF, nF, nF]) rfl (by kernel_rfl) rfl rfl ?_
           refine f_call F86 CF_36 rfl rfl rfl rfl (lc (F86.ev 22 rfl) (lc rfl rfl)) (spec_l01Below_c (c := (⟨c.code, i2_38, h2_38⟩ : CurD)) (n := 4) (RdA.mv (Nat.succ_pos _) Q3 (S1.trans (S3.trans (S6.trans (S5.trans (S8.trans (T11.trans (S13.trans (S16.trans (S21.trans (S32.trans S86))))))))))) (by unfold i64ok; (try dsimp only); omega) (by first | assumption | exact w64_ok _ | exact ⟨by omega, by omega⟩ | (unfold i64ok at *; omega)) (by first | assumption | exact ⟨by omega, by omega⟩ | (unfold i64ok at *; omega)) (by first | assumption | omega | (simp <;> omega)) (At.pick (is := [0]) S86.at' rfl) (V_off (is := [0]))) ?_
           rintro _ w87 ⟨i2_87, h2_87, r_87, rfl, m87, q87_0, q87_1, q87_2, q87_3⟩
           refine ⟨_, rfl, fun _ F88 => ?_⟩
           have S87 : Mv _ _ [bx c_b [.slice Q1 Q0 Q2, .int .i64 ((i2_87 : Nat) : Int), .int .i64 h2_87] 80, bx b8 [.slice sa sn sc, .slice ra rn rc, .slice ua un uc] 29, bx b1 [.slice none 0 0, .slice none 0 0, .slice none 0 0] 29] _ := At.frame S86.at' [0] rfl m87
           clear m87
           refine ⟨Sd.of (S86.trans S87) [] rfl, ?_⟩
           exact G79 _ _ ⟨i2_38, h2_38, r_38, i2_87, h2_87, r_87, F88.cut rfl, (S86.trans S87).pick [0, 1, 2] rfl, q38_0, q38_1, q38_2, q38_3, q87_0, q87_1, q87_2, q87_3⟩
         refine x_lem (fun aZ wZ => ∃ (i2_53 : Nat), ∃ (h2_53 : Int), ∃ (r_53 : Nat), ∃ (i2_57 : Nat), ∃ (h2_57 : Int), ∃ (r_57 : Nat), Fr 42 [(23, .int .i64 ((r_57 : Nat) : Int)), (21, .int .i64 ((1 + r_53 : Nat) : Int)), (25, .pointer (some ⟨c_b, 0, none⟩)), (24, .pointer (some ⟨c_b, 0, none⟩)), (4, .int .i64 ((k : Nat) : Int)), (3, .pointer (some ⟨b8, 0, none⟩)), (2, .pointer (some ⟨b1, 0, none⟩)), (0, .pointer (some ⟨c_b, 0, none⟩))] aZ ∧ Mv [bx c_b [.slice Q1 Q0 Q2, .int .i64 ((i2_21 : Nat) : Int), .int .i64 h2_21] 80, bx b8 [.slice sa sn sc, .slice ra rn rc, .slice ua un uc] 29, bx b1 [.slice none 0 0, .slice none 0 0, .slice none 0 0] 29] w32 [bx c_b [.slice Q1 Q0 Q2, .int .i64 ((i2_57 : Nat) : Int), .int .i64 h2_57] 80, bx b8 [.slice sa sn sc, .slice ra rn rc, .slice ua un uc] 29, bx b1 [.slice none 0 0, .slice none 0 0, .slice none 0 0] 29] wZ ∧ (i2_53 ≤ Q0) ∧ (i64ok h2_53) ∧ (((0 : Int) < 2 → (r_53 : Int) < 2)) ∧ ((2 ≤ (0 : Int) → r_53 = 0)) ∧ (i2_57 ≤ Q0) ∧ (i64ok h2_57) ∧ (((0 : Int) < 4 → (r_57 : Int) < 4)) ∧ ((4 ≤ (0 : Int) → r_57 = 0))) #[nF, yT, yT, yT, yT, yT, yT, yT, nF, nF, nF, nF, nF, nF, nF] 8 ?_ (fun G89 => ?_)
         · rintro a89 w89 ⟨i2_53, h2_53, r_53, i2_57, h2_57, r_57, F89, S89, q53_0, q53_1, q53_2, q53_3, q57_0, q57_1, q57_2, q57_3⟩
           refine d_all (rs := [0, 8]) rfl (by kernel_rfl) (by simp) (d_cons (i := 0) (listed' := #[yT, yT, yT, yT, yT, yT, yT, yT, nF, nF, nF, nF, nF, nF, nF]) rfl rfl ?_ (d_cons (i := 8) (listed' := #[nF, yT, yT, yT, yT, yT, yT, yT, yT, nF, nF, nF, nF, nF, nF]) rfl rfl ?_ d_nil))
           · skip
             refine f_val (v := .agg #[.slice sa sn sc, .slice ra rn rc, .slice ua un uc]) F89 rfl rfl (r_loadB S89.at' 1 TI_29 rfl rfl (F89.ev 3 rfl) rfl rfl (fun h => nomatch h) rfl) rfl fun _ F90 => ?_
             refine ⟨Sd.of S89 [] rfl, ?_⟩
             exact G79 _ _ ⟨i2_53, h2_53, r_53, i2_57, h2_57, r_57, F90.cut rfl, S89.pick [0, 1, 2] rfl, q53_0, q53_1, q53_2, q53_3, q57_0, q57_1, q57_2, q57_3⟩
           · skip
             refine f_call F89 CF_36 rfl rfl rfl rfl (lc (F89.ev 25 rfl) (lc rfl rfl)) (spec_l01Below_c (c := (⟨c.code, i2_57, h2_57⟩ : CurD)) (n := 4) (RdA.mv (Nat.succ_pos _) Q3 (S1.trans (S3.trans (S6.trans (S5.trans (S8.trans (T11.trans (S13.trans (S16.trans (S21.trans (S32.trans S89))))))))))) (by unfold i64ok; (try dsimp only); omega) (by first | assumption | exact w64_ok _ | exact ⟨by omega, by omega⟩ | (unfold i64ok at *; omega)) (by first | assumption | exact ⟨by omega, by omega⟩ | (unfold i64ok at *; omega)) (by first | assumption | omega | (simp <;> omega)) (At.pick (is := [0]) S89.at' rfl) (V_off (is := [0]))) ?_
             rintro _ w91 ⟨i2_91, h2_91, r_91, rfl, m91, q91_0, q91_1, q91_2, q91_3⟩
             refine ⟨_, rfl, fun _ F92 => ?_⟩
             have S91 : Mv _ _ [bx c_b [.slice Q1 Q0 Q2, .int .i64 ((i2_91 : Nat) : Int), .int .i64 h2_91] 80, bx b8 [.slice sa sn sc, .slice ra rn rc, .slice ua un uc] 29, bx b1 [.slice none 0 0, .slice none 0 0, .slice none 0 0] 29] _ := At.frame S89.at' [0] rfl m91
             clear m91
             refine ⟨Sd.of (S89.trans S91) [] rfl, ?_⟩
             exact G82 _ _ ⟨i2_53, h2_53, r_53, i2_57, h2_57, r_57, i2_91, h2_91, r_91, F92.cut rfl, (S89.trans S91).pick [0, 1, 2] rfl, q53_0, q53_1, q53_2, q53_3, q57_0, q57_1, q57_2, q57_3, q91_0, q91_1, q91_2, q91_3⟩
         refine x_lem (fun aZ wZ => ∃ (i2_53 : Nat), ∃ (h2_53 : Int), ∃ (r_53 : Nat), Fr 42 [(21, .int .i64 ((1 + r_53 : Nat) : Int)), (25, .pointer (some ⟨c_b, 0, none⟩)), (24, .pointer (some ⟨c_b, 0, none⟩)), (22, .pointer (some ⟨c_b, 0, none⟩)), (4, .int .i64 ((k : Nat) : Int)), (3, .pointer (some ⟨b8, 0, none⟩)), (2, .pointer (some ⟨b1, 0, none⟩)), (0, .pointer (some ⟨c_b, 0, none⟩))] aZ ∧ Mv [bx c_b [.slice Q1 Q0 Q2, .int .i64 ((i2_21 : Nat) : Int), .int .i64 h2_21] 80, bx b8 [.slice sa sn sc, .slice ra rn rc, .slice ua un uc] 29, bx b1 [.slice none 0 0, .slice none 0 0, .slice none 0 0] 29] w32 [bx c_b [.slice Q1 Q0 Q2, .int .i64 ((i2_53 : Nat) : Int), .int .i64 h2_53] 80, bx b8 [.slice sa sn sc, .slice ra rn rc, .slice ua un uc] 29, bx b1 [.slice none 0 0, .slice none 0 0, .slice none 0 0] 29] wZ ∧ (i2_53 ≤ Q0) ∧ (i64ok h2_53) ∧ (((0 : Int) < 2 → (r_53 : Int) < 2)) ∧ ((2 ≤ (0 : Int) → r_53 = 0))) #[nF, yT, yT, yT, yT, nF, yT, yT, nF, nF, nF, nF, nF, nF, nF] 9 ?_ (fun G93 => ?_)
         · rintro a93 w93 ⟨i2_53, h2_53, r_53, F93, S93, q53_0, q53_1, q53_2, q53_3⟩
           refine d_all (rs := [0, 5]) rfl (by kernel_rfl) (by simp) (d_cons (i := 0) (listed' := #[yT, yT, yT, yT, yT, nF, yT, yT, nF, nF, nF, nF, nF, nF, nF]) rfl rfl ?_ (d_cons (i := 5) (listed' := #[nF, yT, yT, yT, yT, yT, yT, yT, nF, nF, nF, nF, nF, nF, nF]) rfl rfl ?_ d_nil))
           · skip
             refine f_val (v := .agg #[.slice sa sn sc, .slice ra rn rc, .slice ua un uc]) F93 rfl rfl (r_loadB S93.at' 1 TI_29 rfl rfl (F93.ev 3 rfl) rfl rfl (fun h => nomatch h) rfl) rfl fun _ F94 => ?_
             refine ⟨Sd.of S93 [] rfl, ?_⟩
             exact G86 _ _ ⟨i2_53, h2_53, r_53, F94.cut rfl, S93.pick [0, 1, 2] rfl, q53_0, q53_1, q53_2, q53_3⟩
           · skip
             refine f_call F93 CF_36 rfl rfl rfl rfl (lc (F93.ev 22 rfl) (lc rfl rfl)) (spec_l01Below_c (c := (⟨c.code, i2_53, h2_53⟩ : CurD)) (n := 4) (RdA.mv (Nat.succ_pos _) Q3 (S1.trans (S3.trans (S6.trans (S5.trans (S8.trans (T11.trans (S13.trans (S16.trans (S21.trans (S32.trans S93))))))))))) (by unfold i64ok; (try dsimp only); omega) (by first | assumption | exact w64_ok _ | exact ⟨by omega, by omega⟩ | (unfold i64ok at *; omega)) (by first | assumption | exact ⟨by omega, by omega⟩ | (unfold i64ok at *; omega)) (by first | assumption | omega | (simp <;> omega)) (At.pick (is := [0]) S93.at' rfl) (V_off (is := [0]))) ?_
             rintro _ w95 ⟨i2_95, h2_95, r_95, rfl, m95, q95_0, q95_1, q95_2, q95_3⟩
             refine ⟨_, rfl, fun _ F96 => ?_⟩
             have S95 : Mv _ _ [bx c_b [.slice Q1 Q0 Q2, .int .i64 ((i2_95 : Nat) : Int), .int .i64 h2_95] 80, bx b8 [.slice sa sn sc, .slice ra rn rc, .slice ua un uc] 29, bx b1 [.slice none 0 0, .slice none 0 0, .slice none 0 0] 29] _ := At.frame S93.at' [0] rfl m95
             clear m95
             refine ⟨Sd.of (S93.trans S95) [] rfl, ?_⟩
             exact G89 _ _ ⟨i2_53, h2_53, r_53, i2_95, h2_95, r_95, F96.cut rfl, (S93.trans S95).pick [0, 1, 2] rfl, q53_0, q53_1, q53_2, q53_3, q95_0, q95_1, q95_2, q95_3⟩
         refine x_lem (fun aZ wZ => Fr 42 [(18, .agg #[.slice sa sn sc, .slice ra rn rc, .slice ua un uc]), (25, .pointer (some ⟨c_b, 0, none⟩)), (24, .pointer (some ⟨c_b, 0, none⟩)), (22, .pointer (some ⟨c_b, 0, none⟩)), (19, .pointer (some ⟨c_b, 0, none⟩)), (4, .int .i64 ((k : Nat) : Int)), (3, .pointer (some ⟨b8, 0, none⟩)), (2, .pointer (some ⟨b1, 0, none⟩)), (0, .pointer (some ⟨c_b, 0, none⟩))] aZ ∧ Mv [bx c_b [.slice Q1 Q0 Q2, .int .i64 ((i2_21 : Nat) : Int), .int .i64 h2_21] 80, bx b8 [.slice sa sn sc, .slice ra rn rc, .slice ua un uc] 29, bx b1 [.slice none 0 0, .slice none 0 0, .slice none 0 0] 29] w32 [bx c_b [.slice Q1 Q0 Q2, .int .i64 ((i2_21 : Nat) : Int), .int .i64 h2_21] 80, bx b8 [.slice sa sn sc, .slice ra rn rc, .slice ua un uc] 29, bx b1 [.slice none 0 0, .slice none 0 0, .slice none 0 0] 29] wZ) #[yT, yT, nF, nF, yT, nF, yT, yT, nF, nF, nF, nF, nF, nF, nF] 10 ?_ (fun G97 => ?_)
         · rintro a97 w97 ⟨F97, S97⟩
           refine d_one (i := 2) (listed' := #[yT, yT, yT, nF, yT, nF, yT, yT, nF, nF, nF, nF, nF, nF, nF]) rfl (by kernel_rfl) rfl rfl ?_
           refine f_call F97 CF_36 rfl rfl rfl rfl (lc (F97.ev 19 rfl) (lc rfl rfl)) (spec_l01Below_c (c := (⟨c.code, i2_21, h2_21⟩ : CurD)) (n := 2) (RdA.mv (Nat.succ_pos _) Q3 (S1.trans (S3.trans (S6.trans (S5.trans (S8.trans (T11.trans (S13.trans (S16.trans (S21.trans (S32.trans S97))))))))))) (by unfold i64ok; (try dsimp only); omega) (by first | assumption | exact w64_ok _ | exact ⟨by omega, by omega⟩ | (unfold i64ok at *; omega)) (by first | assumption | exact ⟨by omega, by omega⟩ | (unfold i64ok at *; omega)) (by first | assumption | omega | (simp <;> omega)) (At.pick (is := [0]) S97.at' rfl) (V_off (is := [0]))) ?_
           rintro _ w98 ⟨i2_98, h2_98, r_98, rfl, m98, q98_0, q98_1, q98_2, q98_3⟩
           refine ⟨_, rfl, fun _ F99 => ?_⟩
           have S98 : Mv _ _ [bx c_b [.slice Q1 Q0 Q2, .int .i64 ((i2_98 : Nat) : Int), .int .i64 h2_98] 80, bx b8 [.slice sa sn sc, .slice ra rn rc, .slice ua un uc] 29, bx b1 [.slice none 0 0, .slice none 0 0, .slice none 0 0] 29] _ := At.frame S97.at' [0] rfl m98
           clear m98
           refine ⟨Sd.of (S97.trans S98) [] rfl, ?_⟩
           refine g_take F99 rfl (i := 3) (listed' := #[yT, yT, yT, yT, yT, nF, yT, yT, nF, nF, nF, nF, nF, nF, nF]) rfl (by kernel_rfl) (by kernel_rfl) (by kernel_rfl) (fun _ _ _ h => h) (Sd.of (S97.trans S98) [] rfl) rfl rfl rfl rfl (fun _ hz => (r_add (z := ((1 + r_98 : Nat) : Int)) rfl rfl (F99.ev 20 rfl) (by first | rfl | omega) ⟨by first | omega | (unfold i64ok at *; omega), by first | omega | (unfold i64ok at *; omega)⟩)) fun _ F100 => ?_
           exact G86 _ _ ⟨i2_98, h2_98, r_98, F100.cut rfl, (S97.trans S98).pick [0, 1, 2] rfl, q98_0, q98_1, q98_2, q98_3⟩
         refine x_lem (fun aZ wZ => Fr 42 [(25, .pointer (some ⟨c_b, 0, none⟩)), (24, .pointer (some ⟨c_b, 0, none⟩)), (22, .pointer (some ⟨c_b, 0, none⟩)), (19, .pointer (some ⟨c_b, 0, none⟩)), (4, .int .i64 ((k : Nat) : Int)), (3, .pointer (some ⟨b8, 0, none⟩)), (2, .pointer (some ⟨b1, 0, none⟩)), (0, .pointer (some ⟨c_b, 0, none⟩))] aZ ∧ Mv [bx c_b [.slice Q1 Q0 Q2, .int .i64 ((i2_21 : Nat) : Int), .int .i64 h2_21] 80, bx b8 [.slice sa sn sc, .slice ra rn rc, .slice ua un uc] 29, bx b1 [.slice none 0 0, .slice none 0 0, .slice none 0 0] 29] w32 [bx c_b [.slice Q1 Q0 Q2, .int .i64 ((i2_21 : Nat) : Int), .int .i64 h2_21] 80, bx b8 [.slice sa sn sc, .slice ra rn rc, .slice ua un uc] 29, bx b1 [.slice none 0 0, .slice none 0 0, .slice none 0 0] 29] wZ) #[nF, yT, nF, nF, yT, nF, yT, yT, nF, nF, nF, nF, nF, nF, nF] 11 ?_ (fun G101 => ?_)
         · rintro a101 w101 ⟨F101, S101⟩
           refine d_all (rs := [0, 2]) rfl (by kernel_rfl) (by simp) (d_cons (i := 0) (listed' := #[yT, yT, nF, nF, yT, nF, yT, yT, nF, nF, nF, nF, nF, nF, nF]) rfl rfl ?_ (d_cons (i := 2) (listed' := #[nF, yT, yT, nF, yT, nF, yT, yT, nF, nF, nF, nF, nF, nF, nF]) rfl rfl ?_ d_nil))
           · skip
             refine f_val (v := .agg #[.slice sa sn sc, .slice ra rn rc, .slice ua un uc]) F101 rfl rfl (r_loadB S101.at' 1 TI_29 rfl rfl (F101.ev 3 rfl) rfl rfl (fun h => nomatch h) rfl) rfl fun _ F102 => ?_
             refine ⟨Sd.of S101 [] rfl, ?_⟩
             exact G97 _ _ ⟨F102.cut rfl, S101.pick [0, 1, 2] rfl⟩
           · skip
             refine f_call F101 CF_36 rfl rfl rfl rfl (lc (F101.ev 19 rfl) (lc rfl rfl)) (spec_l01Below_c (c := (⟨c.code, i2_21, h2_21⟩ : CurD)) (n := 2) (RdA.mv (Nat.succ_pos _) Q3 (S1.trans (S3.trans (S6.trans (S5.trans (S8.trans (T11.trans (S13.trans (S16.trans (S21.trans (S32.trans S101))))))))))) (by unfold i64ok; (try dsimp only); omega) (by first | assumption | exact w64_ok _ | exact ⟨by omega, by omega⟩ | (unfold i64ok at *; omega)) (by first | assumption | exact ⟨by omega, by omega⟩ | (unfold i64ok at *; omega)) (by first | assumption | omega | (simp <;> omega)) (At.pick (is := [0]) S101.at' rfl) (V_off (is := [0]))) ?_
             rintro _ w103 ⟨i2_103, h2_103, r_103, rfl, m103, q103_0, q103_1, q103_2, q103_3⟩
             refine ⟨_, rfl, fun _ F104 => ?_⟩
             have S103 : Mv _ _ [bx c_b [.slice Q1 Q0 Q2, .int .i64 ((i2_103 : Nat) : Int), .int .i64 h2_103] 80, bx b8 [.slice sa sn sc, .slice ra rn rc, .slice ua un uc] 29, bx b1 [.slice none 0 0, .slice none 0 0, .slice none 0 0] 29] _ := At.frame S101.at' [0] rfl m103
             clear m103
             refine ⟨Sd.of (S101.trans S103) [] rfl, ?_⟩
             refine g_take F104 rfl (i := 3) (listed' := #[nF, yT, yT, yT, yT, nF, yT, yT, nF, nF, nF, nF, nF, nF, nF]) rfl (by kernel_rfl) (by kernel_rfl) (by kernel_rfl) (fun _ _ _ h => h) (Sd.of (S101.trans S103) [] rfl) rfl rfl rfl rfl (fun _ hz => (r_add (z := ((1 + r_103 : Nat) : Int)) rfl rfl (F104.ev 20 rfl) (by first | rfl | omega) ⟨by first | omega | (unfold i64ok at *; omega), by first | omega | (unfold i64ok at *; omega)⟩)) fun _ F105 => ?_
             exact G93 _ _ ⟨i2_103, h2_103, r_103, F105.cut rfl, (S101.trans S103).pick [0, 1, 2] rfl, q103_0, q103_1, q103_2, q103_3⟩
         refine g_take F22 rfl (i := 1) (listed' := #[nF, yT, nF, nF, nF, nF, nF, nF, nF, nF, nF, nF, nF, nF, nF]) rfl (by kernel_rfl) (by kernel_rfl) (by kernel_rfl) (fun _ _ _ h => h) (Sd.of (Mv.refl S32.at') [] rfl) rfl rfl rfl rfl (fun _ hz => (r_move rfl (F22.ev 0 rfl))) fun _ F106 => ?_
         refine g_take F106 rfl (i := 4) (listed' := #[nF, yT, nF, nF, yT, nF, nF, nF, nF, nF, nF, nF, nF, nF, nF]) rfl (by kernel_rfl) (by kernel_rfl) (by kernel_rfl) (fun _ _ _ h => h) (Sd.of (Mv.refl S32.at') [] rfl) rfl rfl rfl rfl (fun _ hz => (r_move rfl (F106.ev 0 rfl))) fun _ F107 => ?_
         refine g_take F107 rfl (i := 6) (listed' := #[nF, yT, nF, nF, yT, nF, yT, nF, nF, nF, nF, nF, nF, nF, nF]) rfl (by kernel_rfl) (by kernel_rfl) (by kernel_rfl) (fun _ _ _ h => h) (Sd.of (Mv.refl S32.at') [] rfl) rfl rfl rfl rfl (fun _ hz => (r_move rfl (F107.ev 0 rfl))) fun _ F108 => ?_
         refine g_take F108 rfl (i := 7) (listed' := #[nF, yT, nF, nF, yT, nF, yT, yT, nF, nF, nF, nF, nF, nF, nF]) rfl (by kernel_rfl) (by kernel_rfl) (by kernel_rfl) (fun _ _ _ h => h) (Sd.of (Mv.refl S32.at') [] rfl) rfl rfl rfl rfl (fun _ hz => (r_move rfl (F108.ev 0 rfl))) fun _ F109 => ?_
         exact G101 _ _ ⟨F109.cut rfl, (Mv.refl S32.at').pick [0, 1, 2] rfl⟩
       · rintro a110 w110 ⟨i2_38, h2_38, r_38, i2_41, h2_41, r_41, i2_43, h2_43, r_43, i2_45, h2_45, r_45, Q16, Q18, Q17, Q13, Q15, Q14, Q19, Q21, Q20, F110, S110, V110_0, V110_1, V110_2, Q84, Q85, Q91, Q92, Q93, Q94, Q95, Q96, Q97, Q98, Q86, Q87, Q88, Q89, Q90⟩
         obtain ⟨ln110_0, le110_0, mx110_0, ni110_0⟩ := Rd.inv V110_0
         obtain ⟨ln110_1, le110_1, mx110_1, ni110_1⟩ := Rd.inv V110_1
         obtain ⟨ln110_2, le110_2, mx110_2, ni110_2⟩ := Rd.inv V110_2
         refine x_block_normal (x_normal (wp_region_lit (l_op (f_mv F110 rfl rfl rfl rfl rfl fun _ F111 => ?_))))
         refine l_op (f_val F111 rfl rfl (r_add (z := ((k + 1 : Nat) : Int)) rfl (F111.ev 11 rfl) rfl (by first | rfl | omega) ⟨by first | omega | (unfold i64ok at *; omega), by first | omega | (unfold i64ok at *; omega)⟩) rfl fun _ F112 => ?_)
         refine l_op (f_as F112 rfl rfl rfl rfl rfl fun _ F113 => ?_)
         refine s_end ?_
         refine x_normal ⟨k + 1, by omega, i2_45, h2_45, (storeM M (kQ_ ((1 + r_38 : Nat) : Int) ((r_41 : Nat) : Int)) ((r_41 : Nat) : Int) r_45), Q16, Q18, Q17, Q13, Q15, Q14, Q19, Q21, Q20, F113.cut rfl, ((S13.trans (S16.trans (S21.trans S110))).pick [1, 2, 0] rfl), (Rd.mq V110_0 (Mv.pick (Mv.refl S110.at') [1, 2, 0] rfl)), (Rd.mq V110_1 (Mv.pick (Mv.refl S110.at') [1, 2, 0] rfl)), (Rd.mq V110_2 (Mv.pick (Mv.refl S110.at') [1, 2, 0] rfl)), by omega, by assumption, by first | exact bdC.le (bdC.fork hk_2) gB_fork | exact bdC.le (bdC.store hk_2) gB_store, by omega⟩
   · skip
     refine wp_exit (x_then_exit (x_then_exit (x_block_here (x_normal (wp_seq (wp_seq (wp_region_lit (l_op (f_mv F18 rfl rfl rfl rfl rfl fun _ F114 => ?_)))))))))
     refine l_op (f_call F114 CF_66 rfl rfl rfl rfl (lc (F114.ev 31 rfl) (lc rfl rfl)) (spec_l01Once_c (c := (⟨c.code, i2_16, h2_16⟩ : CurD)) (n := 10) (RdA.mv (Nat.succ_pos _) Q3 (S1.trans (S3.trans (S6.trans (S5.trans (S8.trans (T11.trans (S13.trans S16)))))))) (by unfold i64ok; (try dsimp only); omega) (by first | assumption | exact w64_ok _ | exact ⟨by omega, by omega⟩ | (unfold i64ok at *; omega)) (by first | assumption | exact ⟨by omega, by omega⟩ | (unfold i64ok at *; omega)) (by first | assumption | omega | (simp <;> omega)) (At.pick (is := [0]) S16.at' rfl) (V_off (is := [0]))) ?_)
     rintro _ w115 ⟨i2_115, h2_115, r_115, rfl, m115, q115_0, q115_1⟩
     refine ⟨_, rfl, fun _ F116 => ?_⟩
     have S115 : Mv _ _ [bx c_b [.slice Q1 Q0 Q2, .int .i64 ((i2_115 : Nat) : Int), .int .i64 h2_115] 80, bx b8 [.slice sa sn sc, .slice ra rn rc, .slice ua un uc] 29, bx b1 [.slice none 0 0, .slice none 0 0, .slice none 0 0] 29] _ := At.frame S16.at' [0] rfl m115
     clear m115
     refine s_end (x_normal (x_condb (b := r_115) (F116.ev 32 rfl) (fun h117 => ?_) (fun h117 => ?_)))
     · skip
       refine x_draw (fun aZ wZ => ∃ (b123 : Nat), ∃ (i2_125 : Nat), ∃ (h2_125 : Int), ∃ (r_125 : ByteArray), ∃ (b127 : Nat), ∃ (i2_129 : Nat), ∃ (h2_129 : Int), ∃ (r_129 : ByteArray), ∃ (Q7 : Option Addr), ∃ (Q9 : Nat), ∃ (Q8 : Nat), ∃ (Q4 : Option Addr), ∃ (Q6 : Nat), ∃ (Q5 : Nat), ∃ (Q10 : Option Addr), ∃ (Q12 : Nat), ∃ (Q11 : Nat), Fr 42 [(2, .pointer (some ⟨b1, 0, none⟩)), (3, .pointer (some ⟨b8, 0, none⟩))] aZ ∧ Mv [bx c_b [.slice Q1 Q0 Q2, .int .i64 ((i2_115 : Nat) : Int), .int .i64 h2_115] 80, bx b8 [.slice sa sn sc, .slice ra rn rc, .slice ua un uc] 29, bx b1 [.slice none 0 0, .slice none 0 0, .slice none 0 0] 29] w115 [bx c_b [.slice Q1 Q0 Q2, .int .i64 ((i2_129 : Nat) : Int), .int .i64 h2_129] 80, bx b8 [.slice Q7 Q9 Q8, .slice Q4 Q6 Q5, .slice Q10 Q12 Q11] 29, bx b1 [.slice none 0 0, .slice none 0 0, .slice none 0 0] 29, ow 9 1 encS okS (.slice (some ⟨b123, 0, none⟩) 3 3) qA_, ow 9 1 encS okS (.slice (some ⟨b127, 0, none⟩) 3 3) qB_] wZ ∧ Rd 2 encC okC (V (HP H [bx c_b [.slice Q1 Q0 Q2, .int .i64 ((c.pos : Nat) : Int), .int .i64 c.h] 80]) w [bx c_b [.slice Q1 Q0 Q2, .int .i64 ((i2_129 : Nat) : Int), .int .i64 h2_129] 80, bx b8 [.slice Q7 Q9 Q8, .slice Q4 Q6 Q5, .slice Q10 Q12 Q11] 29, bx b1 [.slice none 0 0, .slice none 0 0, .slice none 0 0] 29, ow 9 1 encS okS (.slice (some ⟨b123, 0, none⟩) 3 3) qA_, ow 9 1 encS okS (.slice (some ⟨b127, 0, none⟩) 3 3) qB_]) wZ (.slice Q7 Q9 Q8) (layM M r_125 r_129).store ∧ Rd 1 encS okS (V (HP H [bx c_b [.slice Q1 Q0 Q2, .int .i64 ((c.pos : Nat) : Int), .int .i64 c.h] 80]) w [bx c_b [.slice Q1 Q0 Q2, .int .i64 ((i2_129 : Nat) : Int), .int .i64 h2_129] 80, bx b8 [.slice Q7 Q9 Q8, .slice Q4 Q6 Q5, .slice Q10 Q12 Q11] 29, bx b1 [.slice none 0 0, .slice none 0 0, .slice none 0 0] 29, ow 9 1 encS okS (.slice (some ⟨b123, 0, none⟩) 3 3) qA_, ow 9 1 encS okS (.slice (some ⟨b127, 0, none⟩) 3 3) qB_]) wZ (.slice Q4 Q6 Q5) (layM M r_125 r_129).touch.reads ∧ Rd 1 encS okS (V (HP H [bx c_b [.slice Q1 Q0 Q2, .int .i64 ((c.pos : Nat) : Int), .int .i64 c.h] 80]) w [bx c_b [.slice Q1 Q0 Q2, .int .i64 ((i2_129 : Nat) : Int), .int .i64 h2_129] 80, bx b8 [.slice Q7 Q9 Q8, .slice Q4 Q6 Q5, .slice Q10 Q12 Q11] 29, bx b1 [.slice none 0 0, .slice none 0 0, .slice none 0 0] 29, ow 9 1 encS okS (.slice (some ⟨b123, 0, none⟩) 3 3) qA_, ow 9 1 encS okS (.slice (some ⟨b127, 0, none⟩) 3 3) qB_]) wZ (.slice Q10 Q12 Q11) (layM M r_125 r_129).touch.writes ∧ (i2_125 ≤ Q0) ∧ (i64ok h2_125) ∧ (r_125 ∈ qA_) ∧ (i2_129 ≤ Q0) ∧ (i64ok h2_129) ∧ (r_129 ∈ qB_)) [] mixed S115.at' (listed := #[false, false, false, false, false, false, false, false, false]) rfl (fun w119 S119 => ?_) [] rfl ?_
       · skip
         refine x_lem (fun aZ wZ => ∃ (b123 : Nat), ∃ (i2_125 : Nat), ∃ (h2_125 : Int), ∃ (r_125 : ByteArray), ∃ (b127 : Nat), ∃ (i2_129 : Nat), ∃ (h2_129 : Int), ∃ (r_129 : ByteArray), ∃ (Q7 : Option Addr), ∃ (Q9 : Nat), ∃ (Q8 : Nat), ∃ (Q4 : Option Addr), ∃ (Q6 : Nat), ∃ (Q5 : Nat), ∃ (Q10 : Option Addr), ∃ (Q12 : Nat), ∃ (Q11 : Nat), Fr 42 [(40, .agg #[.slice Q7 Q9 Q8, .slice Q4 Q6 Q5, .slice Q10 Q12 Q11]), (3, .pointer (some ⟨b8, 0, none⟩)), (2, .pointer (some ⟨b1, 0, none⟩))] aZ ∧ Mv [bx c_b [.slice Q1 Q0 Q2, .int .i64 ((i2_115 : Nat) : Int), .int .i64 h2_115] 80, bx b8 [.slice sa sn sc, .slice ra rn rc, .slice ua un uc] 29, bx b1 [.slice none 0 0, .slice none 0 0, .slice none 0 0] 29] w119 [bx c_b [.slice Q1 Q0 Q2, .int .i64 ((i2_129 : Nat) : Int), .int .i64 h2_129] 80, ow 9 1 encS okS (.slice (some ⟨b127, 0, none⟩) 3 3) qB_, ow 9 1 encS okS (.slice (some ⟨b123, 0, none⟩) 3 3) qA_, bx b8 [.slice sa sn sc, .slice ra rn rc, .slice ua un uc] 29, bx b1 [.slice none 0 0, .slice none 0 0, .slice none 0 0] 29] wZ ∧ Rd 2 encC okC (V (HP H [bx c_b [.slice Q1 Q0 Q2, .int .i64 ((c.pos : Nat) : Int), .int .i64 c.h] 80]) w [bx c_b [.slice Q1 Q0 Q2, .int .i64 ((i2_129 : Nat) : Int), .int .i64 h2_129] 80, ow 9 1 encS okS (.slice (some ⟨b127, 0, none⟩) 3 3) qB_, ow 9 1 encS okS (.slice (some ⟨b123, 0, none⟩) 3 3) qA_, bx b8 [.slice sa sn sc, .slice ra rn rc, .slice ua un uc] 29, bx b1 [.slice none 0 0, .slice none 0 0, .slice none 0 0] 29]) wZ (.slice Q7 Q9 Q8) (layM M r_125 r_129).store ∧ Rd 1 encS okS (V (HP H [bx c_b [.slice Q1 Q0 Q2, .int .i64 ((c.pos : Nat) : Int), .int .i64 c.h] 80]) w [bx c_b [.slice Q1 Q0 Q2, .int .i64 ((i2_129 : Nat) : Int), .int .i64 h2_129] 80, ow 9 1 encS okS (.slice (some ⟨b127, 0, none⟩) 3 3) qB_, ow 9 1 encS okS (.slice (some ⟨b123, 0, none⟩) 3 3) qA_, bx b8 [.slice sa sn sc, .slice ra rn rc, .slice ua un uc] 29, bx b1 [.slice none 0 0, .slice none 0 0, .slice none 0 0] 29]) wZ (.slice Q4 Q6 Q5) (layM M r_125 r_129).touch.reads ∧ Rd 1 encS okS (V (HP H [bx c_b [.slice Q1 Q0 Q2, .int .i64 ((c.pos : Nat) : Int), .int .i64 c.h] 80]) w [bx c_b [.slice Q1 Q0 Q2, .int .i64 ((i2_129 : Nat) : Int), .int .i64 h2_129] 80, ow 9 1 encS okS (.slice (some ⟨b127, 0, none⟩) 3 3) qB_, ow 9 1 encS okS (.slice (some ⟨b123, 0, none⟩) 3 3) qA_, bx b8 [.slice sa sn sc, .slice ra rn rc, .slice ua un uc] 29, bx b1 [.slice none 0 0, .slice none 0 0, .slice none 0 0] 29]) wZ (.slice Q10 Q12 Q11) (layM M r_125 r_129).touch.writes ∧ (i2_125 ≤ Q0) ∧ (i64ok h2_125) ∧ (r_125 ∈ qA_) ∧ (i2_129 ≤ Q0) ∧ (i64ok h2_129) ∧ (r_129 ∈ qB_)) #[yT, yT, yT, yT, yT, yT, yT, yT, nF] 1 ?_ (fun G164 => ?_)
         · rintro a164 w164 ⟨b123, i2_125, h2_125, r_125, b127, i2_129, h2_129, r_129, Q7, Q9, Q8, Q4, Q6, Q5, Q10, Q12, Q11, F164, S164, W164_0, W164_1, W164_2, q125_0, q125_1, q125_2, q129_0, q129_1, q129_2⟩
           refine d_one (i := 8) (listed' := #[yT, yT, yT, yT, yT, yT, yT, yT, yT]) rfl (by kernel_rfl) rfl rfl ?_
           refine s_store S164.at' 3 TI_29 rfl rfl rfl rfl rfl (F164.ev 3 rfl) (F164.ev 40 rfl) rfl rfl rfl rfl rfl fun w165 S165 => ?_
           refine ⟨Sd.of (S164.trans S165) [] rfl, ?_⟩
           refine wpAnyH_done (by kernel_rfl) (x_normal ?_) _
           exact ⟨b123, i2_125, h2_125, r_125, b127, i2_129, h2_129, r_129, Q7, Q9, Q8, Q4, Q6, Q5, Q10, Q12, Q11, F164.cut rfl, ((S119.trans (S164.trans S165)).pick [1, 0, 4, 3, 2] rfl), (Rd.mq (Rd.mq W164_0 S165) (Mv.pick (Mv.refl S165.at') [1, 0, 4, 3, 2] rfl)), (Rd.mq (Rd.mq W164_1 S165) (Mv.pick (Mv.refl S165.at') [1, 0, 4, 3, 2] rfl)), (Rd.mq (Rd.mq W164_2 S165) (Mv.pick (Mv.refl S165.at') [1, 0, 4, 3, 2] rfl)), q125_0, q125_1, q125_2, q129_0, q129_1, q129_2⟩
         refine x_lem (fun aZ wZ => ∃ (b123 : Nat), ∃ (i2_125 : Nat), ∃ (h2_125 : Int), ∃ (r_125 : ByteArray), ∃ (b127 : Nat), ∃ (i2_129 : Nat), ∃ (h2_129 : Int), ∃ (r_129 : ByteArray), Fr 42 [(39, .string r_129), (36, .string r_125), (33, .agg #[.slice sa sn sc, .slice ra rn rc, .slice ua un uc]), (3, .pointer (some ⟨b8, 0, none⟩)), (2, .pointer (some ⟨b1, 0, none⟩))] aZ ∧ Mv [bx c_b [.slice Q1 Q0 Q2, .int .i64 ((i2_115 : Nat) : Int), .int .i64 h2_115] 80, bx b8 [.slice sa sn sc, .slice ra rn rc, .slice ua un uc] 29, bx b1 [.slice none 0 0, .slice none 0 0, .slice none 0 0] 29] w119 [bx c_b [.slice Q1 Q0 Q2, .int .i64 ((i2_129 : Nat) : Int), .int .i64 h2_129] 80, ow 9 1 encS okS (.slice (some ⟨b127, 0, none⟩) 3 3) qB_, ow 9 1 encS okS (.slice (some ⟨b123, 0, none⟩) 3 3) qA_, bx b8 [.slice sa sn sc, .slice ra rn rc, .slice ua un uc] 29, bx b1 [.slice none 0 0, .slice none 0 0, .slice none 0 0] 29] wZ ∧ okS r_129 ∧ okS r_125 ∧ (i2_125 ≤ Q0) ∧ (i64ok h2_125) ∧ (r_125 ∈ qA_) ∧ (i2_129 ≤ Q0) ∧ (i64ok h2_129) ∧ (r_129 ∈ qB_)) #[yT, yT, yT, yT, yT, yT, yT, nF, nF] 2 ?_ (fun G166 => ?_)
         · rintro a166 w166 ⟨b123, i2_125, h2_125, r_125, b127, i2_129, h2_129, r_129, F166, S166, Q54, Q23, q125_0, q125_1, q125_2, q129_0, q129_1, q129_2⟩
           refine d_one (i := 7) (listed' := #[yT, yT, yT, yT, yT, yT, yT, yT, nF]) rfl (by kernel_rfl) rfl rfl ?_
           refine f_call F166 CF_67 rfl rfl rfl rfl (lc (F166.ev 33 rfl) (lc (F166.ev 36 rfl) (lc (F166.ev 39 rfl) rfl))) (spec_l04Lay_c (m := M) (key := r_125) (val := r_129) (Rd.mq W13_0 (S16.trans (S115.trans (S119.trans S166)))) (Rd.mq W13_1 (S16.trans (S115.trans (S119.trans S166)))) (Rd.mq W13_2 (S16.trans (S115.trans (S119.trans S166)))) Q23 Q54 (by first | assumption | omega | ((repeat first | apply b1_ | apply b2_ | apply b3_ | apply b4_ | apply b5_ | apply b6_); exact bdC.le ‹_› (by decide)) | decide | exact Nat.le_trans (keyNum_size _ _ ‹_›) (by decide)) (by first | assumption | omega | ((repeat first | apply b1_ | apply b2_ | apply b3_ | apply b4_ | apply b5_ | apply b6_); exact bdC.le ‹_› (by decide)) | decide | exact Nat.le_trans (keyNum_size _ _ ‹_›) (by decide))) ?_
           rintro _ w167 ⟨Q72, Q76, Q74, Q66, Q70, Q68, Q78, Q82, Q80, rfl, m167, v167_0, v167_1, v167_2⟩
           refine ⟨_, rfl, fun _ F168 => ?_⟩
           have S167 := At.frame0 S166.at' m167
           have V167_0 := Rd.got0 S166.at' ((S1.trans (S3.trans (S6.trans (S5.trans (S8.trans (T11.trans (S13.trans (S16.trans (S115.trans (S119.trans S166)))))))))).kp.size) v167_0 S167
           obtain ⟨ln167_0, le167_0, mx167_0, ni167_0⟩ := Rd.inv V167_0
           have V167_1 := Rd.got0 S166.at' ((S1.trans (S3.trans (S6.trans (S5.trans (S8.trans (T11.trans (S13.trans (S16.trans (S115.trans (S119.trans S166)))))))))).kp.size) v167_1 S167
           obtain ⟨ln167_1, le167_1, mx167_1, ni167_1⟩ := Rd.inv V167_1
           have V167_2 := Rd.got0 S166.at' ((S1.trans (S3.trans (S6.trans (S5.trans (S8.trans (T11.trans (S13.trans (S16.trans (S115.trans (S119.trans S166)))))))))).kp.size) v167_2 S167
           obtain ⟨ln167_2, le167_2, mx167_2, ni167_2⟩ := Rd.inv V167_2
           clear m167 v167_0 v167_1 v167_2
           refine ⟨Sd.of (S166.trans S167) [] rfl, ?_⟩
           exact G164 _ _ ⟨b123, i2_125, h2_125, r_125, b127, i2_129, h2_129, r_129, Q72, Q76, Q74, Q66, Q70, Q68, Q78, Q82, Q80, F168.cut rfl, (S166.trans S167).pick [0, 1, 2, 3, 4] rfl, V167_0, V167_1, V167_2, q125_0, q125_1, q125_2, q129_0, q129_1, q129_2⟩
         refine x_lem (fun aZ wZ => ∃ (b123 : Nat), ∃ (i2_125 : Nat), ∃ (h2_125 : Int), ∃ (r_125 : ByteArray), ∃ (b127 : Nat), Fr 42 [(38, .slice (some ⟨b127, 0, none⟩) 3 3), (36, .string r_125), (33, .agg #[.slice sa sn sc, .slice ra rn rc, .slice ua un uc]), (37, .pointer (some ⟨c_b, 0, none⟩)), (3, .pointer (some ⟨b8, 0, none⟩)), (2, .pointer (some ⟨b1, 0, none⟩))] aZ ∧ Mv [bx c_b [.slice Q1 Q0 Q2, .int .i64 ((i2_115 : Nat) : Int), .int .i64 h2_115] 80, bx b8 [.slice sa sn sc, .slice ra rn rc, .slice ua un uc] 29, bx b1 [.slice none 0 0, .slice none 0 0, .slice none 0 0] 29] w119 [ow 9 1 encS okS (.slice (some ⟨b127, 0, none⟩) 3 3) qB_, bx c_b [.slice Q1 Q0 Q2, .int .i64 ((i2_125 : Nat) : Int), .int .i64 h2_125] 80, ow 9 1 encS okS (.slice (some ⟨b123, 0, none⟩) 3 3) qA_, bx b8 [.slice sa sn sc, .slice ra rn rc, .slice ua un uc] 29, bx b1 [.slice none 0 0, .slice none 0 0, .slice none 0 0] 29] wZ ∧ okS r_125 ∧ (i2_125 ≤ Q0) ∧ (i64ok h2_125) ∧ (r_125 ∈ qA_)) #[yT, yT, yT, yT, yT, yT, nF, nF, nF] 3 ?_ (fun G169 => ?_)
         · rintro a169 w169 ⟨b123, i2_125, h2_125, r_125, b127, F169, S169, Q23, q125_0, q125_1, q125_2⟩
           refine d_one (i := 6) (listed' := #[yT, yT, yT, yT, yT, yT, yT, nF, nF]) rfl (by kernel_rfl) rfl rfl ?_
           refine f_call F169 CF_68 rfl rfl rfl rfl (lc (F169.ev 37 rfl) (lc (F169.ev 38 rfl) rfl)) (spec_l01Pick_c (H := fun b => ¬ fps (sel [ow 9 1 encS okS (.slice (some ⟨b127, 0, none⟩) 3 3) qB_, bx c_b [.slice Q1 Q0 Q2, .int .i64 ((i2_125 : Nat) : Int), .int .i64 h2_125] 80, ow 9 1 encS okS (.slice (some ⟨b123, 0, none⟩) 3 3) qA_, bx b8 [.slice sa sn sc, .slice ra rn rc, .slice ua un uc] 29, bx b1 [.slice none 0 0, .slice none 0 0, .slice none 0 0] 29] [1]) b) (c := (⟨c.code, i2_125, h2_125⟩ : CurD)) (list := [(⟨#[120]⟩ : ByteArray), (⟨#[45, 122, 122]⟩ : ByteArray), (⟨#[54, 49, 54, 50]⟩ : ByteArray)]) (RdA.mono (RdA.mv (Nat.succ_pos _) Q3 (S1.trans (S3.trans (S6.trans (S5.trans (S8.trans (T11.trans (S13.trans (S16.trans (S115.trans (S119.trans S169))))))))))) (V_off (is := [1]))) (by unfold i64ok; (try dsimp only); omega) (by first | assumption | exact w64_ok _ | exact ⟨by omega, by omega⟩ | (unfold i64ok at *; omega)) (At.rdOff S169.at' ET_25.hk 0 rfl [1] rfl) (by first | assumption | omega | (simp <;> omega)) (by first | assumption | omega | (simp <;> omega)) (At.pick (is := [1]) S169.at' rfl) (fun _ h => h)) ?_
           rintro _ w170 ⟨i2_170, h2_170, r_170, rfl, m170, Q56, q170_0, q170_1, q170_2⟩
           refine ⟨_, rfl, fun _ F171 => ?_⟩
           have S170 : Mv _ _ [bx c_b [.slice Q1 Q0 Q2, .int .i64 ((i2_170 : Nat) : Int), .int .i64 h2_170] 80, ow 9 1 encS okS (.slice (some ⟨b127, 0, none⟩) 3 3) qB_, ow 9 1 encS okS (.slice (some ⟨b123, 0, none⟩) 3 3) qA_, bx b8 [.slice sa sn sc, .slice ra rn rc, .slice ua un uc] 29, bx b1 [.slice none 0 0, .slice none 0 0, .slice none 0 0] 29] _ := At.frame S169.at' [1] rfl m170
           clear m170
           refine ⟨Sd.of (S169.trans S170) [] rfl, ?_⟩
           exact G166 _ _ ⟨b123, i2_125, h2_125, r_125, b127, i2_170, h2_170, r_170, F171.cut rfl, (S169.trans S170).pick [0, 1, 2, 3, 4] rfl, Q56, Q23, q125_0, q125_1, q125_2, q170_0, q170_1, q170_2⟩
         refine x_lem (fun aZ wZ => ∃ (b142 : Nat), ∃ (i2_145 : Nat), ∃ (h2_145 : Int), ∃ (r_145 : ByteArray), ∃ (b148 : Nat), ∃ (i2_151 : Nat), ∃ (h2_151 : Int), ∃ (r_151 : ByteArray), Fr 42 [(39, .string r_151), (36, .string r_145), (3, .pointer (some ⟨b8, 0, none⟩)), (2, .pointer (some ⟨b1, 0, none⟩))] aZ ∧ Mv [bx c_b [.slice Q1 Q0 Q2, .int .i64 ((i2_115 : Nat) : Int), .int .i64 h2_115] 80, bx b8 [.slice sa sn sc, .slice ra rn rc, .slice ua un uc] 29, bx b1 [.slice none 0 0, .slice none 0 0, .slice none 0 0] 29] w119 [bx c_b [.slice Q1 Q0 Q2, .int .i64 ((i2_151 : Nat) : Int), .int .i64 h2_151] 80, ow 9 1 encS okS (.slice (some ⟨b148, 0, none⟩) 3 3) qB_, ow 9 1 encS okS (.slice (some ⟨b142, 0, none⟩) 3 3) qA_, bx b8 [.slice sa sn sc, .slice ra rn rc, .slice ua un uc] 29, bx b1 [.slice none 0 0, .slice none 0 0, .slice none 0 0] 29] wZ ∧ okS r_151 ∧ okS r_145 ∧ (i2_145 ≤ Q0) ∧ (i64ok h2_145) ∧ (r_145 ∈ qA_) ∧ (i2_151 ≤ Q0) ∧ (i64ok h2_151) ∧ (r_151 ∈ qB_)) #[nF, yT, yT, yT, yT, yT, yT, nF, nF] 3 ?_ (fun G172 => ?_)
         · rintro a172 w172 ⟨b142, i2_145, h2_145, r_145, b148, i2_151, h2_151, r_151, F172, S172, Q55, Q22, q145_0, q145_1, q145_2, q151_0, q151_1, q151_2⟩
           refine d_one (i := 0) (listed' := #[yT, yT, yT, yT, yT, yT, yT, nF, nF]) rfl (by kernel_rfl) rfl rfl ?_
           refine f_val (v := .agg #[.slice sa sn sc, .slice ra rn rc, .slice ua un uc]) F172 rfl rfl (r_loadB S172.at' 3 TI_29 rfl rfl (F172.ev 3 rfl) rfl rfl (fun h => nomatch h) rfl) rfl fun _ F173 => ?_
           refine ⟨Sd.of S172 [] rfl, ?_⟩
           exact G166 _ _ ⟨b142, i2_145, h2_145, r_145, b148, i2_151, h2_151, r_151, F173.cut rfl, S172.pick [0, 1, 2, 3, 4] rfl, Q55, Q22, q145_0, q145_1, q145_2, q151_0, q151_1, q151_2⟩
         refine x_lem (fun aZ wZ => ∃ (b123 : Nat), ∃ (i2_125 : Nat), ∃ (h2_125 : Int), ∃ (r_125 : ByteArray), Fr 42 [(36, .string r_125), (33, .agg #[.slice sa sn sc, .slice ra rn rc, .slice ua un uc]), (37, .pointer (some ⟨c_b, 0, none⟩)), (3, .pointer (some ⟨b8, 0, none⟩)), (2, .pointer (some ⟨b1, 0, none⟩))] aZ ∧ Mv [bx c_b [.slice Q1 Q0 Q2, .int .i64 ((i2_115 : Nat) : Int), .int .i64 h2_115] 80, bx b8 [.slice sa sn sc, .slice ra rn rc, .slice ua un uc] 29, bx b1 [.slice none 0 0, .slice none 0 0, .slice none 0 0] 29] w119 [bx c_b [.slice Q1 Q0 Q2, .int .i64 ((i2_125 : Nat) : Int), .int .i64 h2_125] 80, ow 9 1 encS okS (.slice (some ⟨b123, 0, none⟩) 3 3) qA_, bx b8 [.slice sa sn sc, .slice ra rn rc, .slice ua un uc] 29, bx b1 [.slice none 0 0, .slice none 0 0, .slice none 0 0] 29] wZ ∧ okS r_125 ∧ (i2_125 ≤ Q0) ∧ (i64ok h2_125) ∧ (r_125 ∈ qA_)) #[yT, yT, yT, yT, yT, nF, nF, nF, nF] 4 ?_ (fun G174 => ?_)
         · rintro a174 w174 ⟨b123, i2_125, h2_125, r_125, F174, S174, Q23, q125_0, q125_1, q125_2⟩
           refine d_one (i := 5) (listed' := #[yT, yT, yT, yT, yT, yT, nF, nF, nF]) rfl (by kernel_rfl) rfl rfl ?_
           refine f_buildSl (ok := okS) (vs := [.string (⟨#[120]⟩ : ByteArray), .string (⟨#[45, 122, 122]⟩ : ByteArray), .string (⟨#[54, 49, 54, 50]⟩ : ByteArray)]) F174 S174.at' qB_ ET_25 rfl rfl rfl rfl rfl rfl (lc (pr2 rfl) (lc (pr2 rfl) (lc (pr2 rfl) rfl))) rfl rfl (fun x hx => by (repeat (first | (rcases List.mem_cons.1 hx with hx | hx; (subst hx; first | exact (by unfold okS; decide) | exact (by unfold okS; decide) | exact (by unfold okS; decide))) | exact (List.not_mem_nil hx).elim))) fun b175 _ w175 F176 S175 => ?_
           refine ⟨Sd.of (S174.trans S175) [] rfl, ?_⟩
           exact G169 _ _ ⟨b123, i2_125, h2_125, r_125, b175, F176.cut rfl, (S174.trans S175).pick [0, 1, 2, 3, 4] rfl, Q23, q125_0, q125_1, q125_2⟩
         refine x_lem (fun aZ wZ => ∃ (b123 : Nat), ∃ (b134 : Nat), Fr 42 [(38, .slice (some ⟨b134, 0, none⟩) 3 3), (35, .slice (some ⟨b123, 0, none⟩) 3 3), (33, .agg #[.slice sa sn sc, .slice ra rn rc, .slice ua un uc]), (37, .pointer (some ⟨c_b, 0, none⟩)), (34, .pointer (some ⟨c_b, 0, none⟩)), (3, .pointer (some ⟨b8, 0, none⟩)), (2, .pointer (some ⟨b1, 0, none⟩))] aZ ∧ Mv [bx c_b [.slice Q1 Q0 Q2, .int .i64 ((i2_115 : Nat) : Int), .int .i64 h2_115] 80, bx b8 [.slice sa sn sc, .slice ra rn rc, .slice ua un uc] 29, bx b1 [.slice none 0 0, .slice none 0 0, .slice none 0 0] 29] w119 [ow 9 1 encS okS (.slice (some ⟨b134, 0, none⟩) 3 3) qB_, ow 9 1 encS okS (.slice (some ⟨b123, 0, none⟩) 3 3) qA_, bx c_b [.slice Q1 Q0 Q2, .int .i64 ((i2_115 : Nat) : Int), .int .i64 h2_115] 80, bx b8 [.slice sa sn sc, .slice ra rn rc, .slice ua un uc] 29, bx b1 [.slice none 0 0, .slice none 0 0, .slice none 0 0] 29] wZ) #[yT, yT, yT, nF, yT, yT, nF, nF, nF] 4 ?_ (fun G177 => ?_)
         · rintro a177 w177 ⟨b123, b134, F177, S177⟩
           refine d_one (i := 3) (listed' := #[yT, yT, yT, yT, yT, yT, nF, nF, nF]) rfl (by kernel_rfl) rfl rfl ?_
           refine f_call F177 CF_68 rfl rfl rfl rfl (lc (F177.ev 34 rfl) (lc (F177.ev 35 rfl) rfl)) (spec_l01Pick_c (H := fun b => ¬ fps (sel [ow 9 1 encS okS (.slice (some ⟨b134, 0, none⟩) 3 3) qB_, ow 9 1 encS okS (.slice (some ⟨b123, 0, none⟩) 3 3) qA_, bx c_b [.slice Q1 Q0 Q2, .int .i64 ((i2_115 : Nat) : Int), .int .i64 h2_115] 80, bx b8 [.slice sa sn sc, .slice ra rn rc, .slice ua un uc] 29, bx b1 [.slice none 0 0, .slice none 0 0, .slice none 0 0] 29] [2]) b) (c := (⟨c.code, i2_115, h2_115⟩ : CurD)) (list := [(⟨#[109, 47, 49, 47, 48]⟩ : ByteArray), (⟨#[109, 47, 49, 47, 120]⟩ : ByteArray), (⟨#[109, 47, 50, 47, 51]⟩ : ByteArray)]) (RdA.mono (RdA.mv (Nat.succ_pos _) Q3 (S1.trans (S3.trans (S6.trans (S5.trans (S8.trans (T11.trans (S13.trans (S16.trans (S115.trans (S119.trans S177))))))))))) (V_off (is := [2]))) (by unfold i64ok; (try dsimp only); omega) (by first | assumption | exact w64_ok _ | exact ⟨by omega, by omega⟩ | (unfold i64ok at *; omega)) (At.rdOff S177.at' ET_25.hk 1 rfl [2] rfl) (by first | assumption | omega | (simp <;> omega)) (by first | assumption | omega | (simp <;> omega)) (At.pick (is := [2]) S177.at' rfl) (fun _ h => h)) ?_
           rintro _ w178 ⟨i2_178, h2_178, r_178, rfl, m178, Q57, q178_0, q178_1, q178_2⟩
           refine ⟨_, rfl, fun _ F179 => ?_⟩
           have S178 : Mv _ _ [bx c_b [.slice Q1 Q0 Q2, .int .i64 ((i2_178 : Nat) : Int), .int .i64 h2_178] 80, ow 9 1 encS okS (.slice (some ⟨b134, 0, none⟩) 3 3) qB_, ow 9 1 encS okS (.slice (some ⟨b123, 0, none⟩) 3 3) qA_, bx b8 [.slice sa sn sc, .slice ra rn rc, .slice ua un uc] 29, bx b1 [.slice none 0 0, .slice none 0 0, .slice none 0 0] 29] _ := At.frame S177.at' [2] rfl m178
           clear m178
           refine ⟨Sd.of (S177.trans S178) [] rfl, ?_⟩
           exact G169 _ _ ⟨b123, i2_178, h2_178, r_178, b134, F179.cut rfl, (S177.trans S178).pick [1, 0, 2, 3, 4] rfl, Q57, q178_0, q178_1, q178_2⟩
         refine x_lem (fun aZ wZ => ∃ (b142 : Nat), ∃ (i2_145 : Nat), ∃ (h2_145 : Int), ∃ (r_145 : ByteArray), ∃ (b148 : Nat), Fr 42 [(38, .slice (some ⟨b148, 0, none⟩) 3 3), (36, .string r_145), (37, .pointer (some ⟨c_b, 0, none⟩)), (3, .pointer (some ⟨b8, 0, none⟩)), (2, .pointer (some ⟨b1, 0, none⟩))] aZ ∧ Mv [bx c_b [.slice Q1 Q0 Q2, .int .i64 ((i2_115 : Nat) : Int), .int .i64 h2_115] 80, bx b8 [.slice sa sn sc, .slice ra rn rc, .slice ua un uc] 29, bx b1 [.slice none 0 0, .slice none 0 0, .slice none 0 0] 29] w119 [ow 9 1 encS okS (.slice (some ⟨b148, 0, none⟩) 3 3) qB_, bx c_b [.slice Q1 Q0 Q2, .int .i64 ((i2_145 : Nat) : Int), .int .i64 h2_145] 80, ow 9 1 encS okS (.slice (some ⟨b142, 0, none⟩) 3 3) qA_, bx b8 [.slice sa sn sc, .slice ra rn rc, .slice ua un uc] 29, bx b1 [.slice none 0 0, .slice none 0 0, .slice none 0 0] 29] wZ ∧ okS r_145 ∧ (i2_145 ≤ Q0) ∧ (i64ok h2_145) ∧ (r_145 ∈ qA_)) #[nF, yT, yT, yT, yT, yT, nF, nF, nF] 4 ?_ (fun G180 => ?_)
         · rintro a180 w180 ⟨b142, i2_145, h2_145, r_145, b148, F180, S180, Q22, q145_0, q145_1, q145_2⟩
           refine d_all (rs := [0, 6]) rfl (by kernel_rfl) (by simp) (d_cons (i := 0) (listed' := #[yT, yT, yT, yT, yT, yT, nF, nF, nF]) rfl rfl ?_ (d_cons (i := 6) (listed' := #[nF, yT, yT, yT, yT, yT, yT, nF, nF]) rfl rfl ?_ d_nil))
           · skip
             refine f_val (v := .agg #[.slice sa sn sc, .slice ra rn rc, .slice ua un uc]) F180 rfl rfl (r_loadB S180.at' 3 TI_29 rfl rfl (F180.ev 3 rfl) rfl rfl (fun h => nomatch h) rfl) rfl fun _ F181 => ?_
             refine ⟨Sd.of S180 [] rfl, ?_⟩
             exact G169 _ _ ⟨b142, i2_145, h2_145, r_145, b148, F181.cut rfl, S180.pick [0, 1, 2, 3, 4] rfl, Q22, q145_0, q145_1, q145_2⟩
           · skip
             refine f_call F180 CF_68 rfl rfl rfl rfl (lc (F180.ev 37 rfl) (lc (F180.ev 38 rfl) rfl)) (spec_l01Pick_c (H := fun b => ¬ fps (sel [ow 9 1 encS okS (.slice (some ⟨b148, 0, none⟩) 3 3) qB_, bx c_b [.slice Q1 Q0 Q2, .int .i64 ((i2_145 : Nat) : Int), .int .i64 h2_145] 80, ow 9 1 encS okS (.slice (some ⟨b142, 0, none⟩) 3 3) qA_, bx b8 [.slice sa sn sc, .slice ra rn rc, .slice ua un uc] 29, bx b1 [.slice none 0 0, .slice none 0 0, .slice none 0 0] 29] [1]) b) (c := (⟨c.code, i2_145, h2_145⟩ : CurD)) (list := [(⟨#[120]⟩ : ByteArray), (⟨#[45, 122, 122]⟩ : ByteArray), (⟨#[54, 49, 54, 50]⟩ : ByteArray)]) (RdA.mono (RdA.mv (Nat.succ_pos _) Q3 (S1.trans (S3.trans (S6.trans (S5.trans (S8.trans (T11.trans (S13.trans (S16.trans (S115.trans (S119.trans S180))))))))))) (V_off (is := [1]))) (by unfold i64ok; (try dsimp only); omega) (by first | assumption | exact w64_ok _ | exact ⟨by omega, by omega⟩ | (unfold i64ok at *; omega)) (At.rdOff S180.at' ET_25.hk 0 rfl [1] rfl) (by first | assumption | omega | (simp <;> omega)) (by first | assumption | omega | (simp <;> omega)) (At.pick (is := [1]) S180.at' rfl) (fun _ h => h)) ?_
             rintro _ w182 ⟨i2_182, h2_182, r_182, rfl, m182, Q58, q182_0, q182_1, q182_2⟩
             refine ⟨_, rfl, fun _ F183 => ?_⟩
             have S182 : Mv _ _ [bx c_b [.slice Q1 Q0 Q2, .int .i64 ((i2_182 : Nat) : Int), .int .i64 h2_182] 80, ow 9 1 encS okS (.slice (some ⟨b148, 0, none⟩) 3 3) qB_, ow 9 1 encS okS (.slice (some ⟨b142, 0, none⟩) 3 3) qA_, bx b8 [.slice sa sn sc, .slice ra rn rc, .slice ua un uc] 29, bx b1 [.slice none 0 0, .slice none 0 0, .slice none 0 0] 29] _ := At.frame S180.at' [1] rfl m182
             clear m182
             refine ⟨Sd.of (S180.trans S182) [] rfl, ?_⟩
             exact G172 _ _ ⟨b142, i2_145, h2_145, r_145, b148, i2_182, h2_182, r_182, F183.cut rfl, (S180.trans S182).pick [0, 1, 2, 3, 4] rfl, Q58, Q22, q145_0, q145_1, q145_2, q182_0, q182_1, q182_2⟩
         refine x_lem (fun aZ wZ => ∃ (b123 : Nat), Fr 42 [(35, .slice (some ⟨b123, 0, none⟩) 3 3), (33, .agg #[.slice sa sn sc, .slice ra rn rc, .slice ua un uc]), (37, .pointer (some ⟨c_b, 0, none⟩)), (34, .pointer (some ⟨c_b, 0, none⟩)), (3, .pointer (some ⟨b8, 0, none⟩)), (2, .pointer (some ⟨b1, 0, none⟩))] aZ ∧ Mv [bx c_b [.slice Q1 Q0 Q2, .int .i64 ((i2_115 : Nat) : Int), .int .i64 h2_115] 80, bx b8 [.slice sa sn sc, .slice ra rn rc, .slice ua un uc] 29, bx b1 [.slice none 0 0, .slice none 0 0, .slice none 0 0] 29] w119 [ow 9 1 encS okS (.slice (some ⟨b123, 0, none⟩) 3 3) qA_, bx c_b [.slice Q1 Q0 Q2, .int .i64 ((i2_115 : Nat) : Int), .int .i64 h2_115] 80, bx b8 [.slice sa sn sc, .slice ra rn rc, .slice ua un uc] 29, bx b1 [.slice none 0 0, .slice none 0 0, .slice none 0 0] 29] wZ) #[yT, yT, yT, nF, yT, nF, nF, nF, nF] 5 ?_ (fun G184 => ?_)
         · rintro a184 w184 ⟨b123, F184, S184⟩
           refine d_all (rs := [3, 5]) rfl (by kernel_rfl) (by simp) (d_cons (i := 3) (listed' := #[yT, yT, yT, yT, yT, nF, nF, nF, nF]) rfl rfl ?_ (d_cons (i := 5) (listed' := #[yT, yT, yT, nF, yT, yT, nF, nF, nF]) rfl rfl ?_ d_nil))
           · skip
             refine f_call F184 CF_68 rfl rfl rfl rfl (lc (F184.ev 34 rfl) (lc (F184.ev 35 rfl) rfl)) (spec_l01Pick_c (H := fun b => ¬ fps (sel [ow 9 1 encS okS (.slice (some ⟨b123, 0, none⟩) 3 3) qA_, bx c_b [.slice Q1 Q0 Q2, .int .i64 ((i2_115 : Nat) : Int), .int .i64 h2_115] 80, bx b8 [.slice sa sn sc, .slice ra rn rc, .slice ua un uc] 29, bx b1 [.slice none 0 0, .slice none 0 0, .slice none 0 0] 29] [1]) b) (c := (⟨c.code, i2_115, h2_115⟩ : CurD)) (list := [(⟨#[109, 47, 49, 47, 48]⟩ : ByteArray), (⟨#[109, 47, 49, 47, 120]⟩ : ByteArray), (⟨#[109, 47, 50, 47, 51]⟩ : ByteArray)]) (RdA.mono (RdA.mv (Nat.succ_pos _) Q3 (S1.trans (S3.trans (S6.trans (S5.trans (S8.trans (T11.trans (S13.trans (S16.trans (S115.trans (S119.trans S184))))))))))) (V_off (is := [1]))) (by unfold i64ok; (try dsimp only); omega) (by first | assumption | exact w64_ok _ | exact ⟨by omega, by omega⟩ | (unfold i64ok at *; omega)) (At.rdOff S184.at' ET_25.hk 0 rfl [1] rfl) (by first | assumption | omega | (simp <;> omega)) (by first | assumption | omega | (simp <;> omega)) (At.pick (is := [1]) S184.at' rfl) (fun _ h => h)) ?_
             rintro _ w185 ⟨i2_185, h2_185, r_185, rfl, m185, Q59, q185_0, q185_1, q185_2⟩
             refine ⟨_, rfl, fun _ F186 => ?_⟩
             have S185 : Mv _ _ [bx c_b [.slice Q1 Q0 Q2, .int .i64 ((i2_185 : Nat) : Int), .int .i64 h2_185] 80, ow 9 1 encS okS (.slice (some ⟨b123, 0, none⟩) 3 3) qA_, bx b8 [.slice sa sn sc, .slice ra rn rc, .slice ua un uc] 29, bx b1 [.slice none 0 0, .slice none 0 0, .slice none 0 0] 29] _ := At.frame S184.at' [1] rfl m185
             clear m185
             refine ⟨Sd.of (S184.trans S185) [] rfl, ?_⟩
             exact G174 _ _ ⟨b123, i2_185, h2_185, r_185, F186.cut rfl, (S184.trans S185).pick [0, 1, 2, 3] rfl, Q59, q185_0, q185_1, q185_2⟩
           · skip
             refine f_buildSl (ok := okS) (vs := [.string (⟨#[120]⟩ : ByteArray), .string (⟨#[45, 122, 122]⟩ : ByteArray), .string (⟨#[54, 49, 54, 50]⟩ : ByteArray)]) F184 S184.at' qB_ ET_25 rfl rfl rfl rfl rfl rfl (lc (pr2 rfl) (lc (pr2 rfl) (lc (pr2 rfl) rfl))) rfl rfl (fun x hx => by (repeat (first | (rcases List.mem_cons.1 hx with hx | hx; (subst hx; first | exact (by unfold okS; decide) | exact (by unfold okS; decide) | exact (by unfold okS; decide))) | exact (List.not_mem_nil hx).elim))) fun b187 _ w187 F188 S187 => ?_
             refine ⟨Sd.of (S184.trans S187) [] rfl, ?_⟩
             exact G177 _ _ ⟨b123, b187, F188.cut rfl, (S184.trans S187).pick [0, 1, 2, 3, 4] rfl⟩
         refine x_lem (fun aZ wZ => ∃ (b138 : Nat), Fr 42 [(38, .slice (some ⟨b138, 0, none⟩) 3 3), (33, .agg #[.slice sa sn sc, .slice ra rn rc, .slice ua un uc]), (37, .pointer (some ⟨c_b, 0, none⟩)), (34, .pointer (some ⟨c_b, 0, none⟩)), (3, .pointer (some ⟨b8, 0, none⟩)), (2, .pointer (some ⟨b1, 0, none⟩))] aZ ∧ Mv [bx c_b [.slice Q1 Q0 Q2, .int .i64 ((i2_115 : Nat) : Int), .int .i64 h2_115] 80, bx b8 [.slice sa sn sc, .slice ra rn rc, .slice ua un uc] 29, bx b1 [.slice none 0 0, .slice none 0 0, .slice none 0 0] 29] w119 [ow 9 1 encS okS (.slice (some ⟨b138, 0, none⟩) 3 3) qB_, bx c_b [.slice Q1 Q0 Q2, .int .i64 ((i2_115 : Nat) : Int), .int .i64 h2_115] 80, bx b8 [.slice sa sn sc, .slice ra rn rc, .slice ua un uc] 29, bx b1 [.slice none 0 0, .slice none 0 0, .slice none 0 0] 29] wZ) #[yT, yT, nF, nF, yT, yT, nF, nF, nF] 5 ?_ (fun G189 => ?_)
         · rintro a189 w189 ⟨b138, F189, S189⟩
           refine d_one (i := 2) (listed' := #[yT, yT, yT, nF, yT, yT, nF, nF, nF]) rfl (by kernel_rfl) rfl rfl ?_
           refine f_buildSl (ok := okS) (vs := [.string (⟨#[109, 47, 49, 47, 48]⟩ : ByteArray), .string (⟨#[109, 47, 49, 47, 120]⟩ : ByteArray), .string (⟨#[109, 47, 50, 47, 51]⟩ : ByteArray)]) F189 S189.at' qA_ ET_25 rfl rfl rfl rfl rfl rfl (lc (pr2 rfl) (lc (pr2 rfl) (lc (pr2 rfl) rfl))) rfl rfl (fun x hx => by (repeat (first | (rcases List.mem_cons.1 hx with hx | hx; (subst hx; first | exact (by unfold okS; decide) | exact (by unfold okS; decide) | exact (by unfold okS; decide))) | exact (List.not_mem_nil hx).elim))) fun b190 _ w190 F191 S190 => ?_
           refine ⟨Sd.of (S189.trans S190) [] rfl, ?_⟩
           exact G177 _ _ ⟨b190, b138, F191.cut rfl, (S189.trans S190).pick [1, 0, 2, 3, 4] rfl⟩
         refine x_lem (fun aZ wZ => ∃ (b142 : Nat), ∃ (i2_145 : Nat), ∃ (h2_145 : Int), ∃ (r_145 : ByteArray), Fr 42 [(36, .string r_145), (37, .pointer (some ⟨c_b, 0, none⟩)), (3, .pointer (some ⟨b8, 0, none⟩)), (2, .pointer (some ⟨b1, 0, none⟩))] aZ ∧ Mv [bx c_b [.slice Q1 Q0 Q2, .int .i64 ((i2_115 : Nat) : Int), .int .i64 h2_115] 80, bx b8 [.slice sa sn sc, .slice ra rn rc, .slice ua un uc] 29, bx b1 [.slice none 0 0, .slice none 0 0, .slice none 0 0] 29] w119 [bx c_b [.slice Q1 Q0 Q2, .int .i64 ((i2_145 : Nat) : Int), .int .i64 h2_145] 80, ow 9 1 encS okS (.slice (some ⟨b142, 0, none⟩) 3 3) qA_, bx b8 [.slice sa sn sc, .slice ra rn rc, .slice ua un uc] 29, bx b1 [.slice none 0 0, .slice none 0 0, .slice none 0 0] 29] wZ ∧ okS r_145 ∧ (i2_145 ≤ Q0) ∧ (i64ok h2_145) ∧ (r_145 ∈ qA_)) #[nF, yT, yT, yT, yT, nF, nF, nF, nF] 5 ?_ (fun G192 => ?_)
         · rintro a192 w192 ⟨b142, i2_145, h2_145, r_145, F192, S192, Q22, q145_0, q145_1, q145_2⟩
           refine d_all (rs := [0, 5]) rfl (by kernel_rfl) (by simp) (d_cons (i := 0) (listed' := #[yT, yT, yT, yT, yT, nF, nF, nF, nF]) rfl rfl ?_ (d_cons (i := 5) (listed' := #[nF, yT, yT, yT, yT, yT, nF, nF, nF]) rfl rfl ?_ d_nil))
           · skip
             refine f_val (v := .agg #[.slice sa sn sc, .slice ra rn rc, .slice ua un uc]) F192 rfl rfl (r_loadB S192.at' 2 TI_29 rfl rfl (F192.ev 3 rfl) rfl rfl (fun h => nomatch h) rfl) rfl fun _ F193 => ?_
             refine ⟨Sd.of S192 [] rfl, ?_⟩
             exact G174 _ _ ⟨b142, i2_145, h2_145, r_145, F193.cut rfl, S192.pick [0, 1, 2, 3] rfl, Q22, q145_0, q145_1, q145_2⟩
           · skip
             refine f_buildSl (ok := okS) (vs := [.string (⟨#[120]⟩ : ByteArray), .string (⟨#[45, 122, 122]⟩ : ByteArray), .string (⟨#[54, 49, 54, 50]⟩ : ByteArray)]) F192 S192.at' qB_ ET_25 rfl rfl rfl rfl rfl rfl (lc (pr2 rfl) (lc (pr2 rfl) (lc (pr2 rfl) rfl))) rfl rfl (fun x hx => by (repeat (first | (rcases List.mem_cons.1 hx with hx | hx; (subst hx; first | exact (by unfold okS; decide) | exact (by unfold okS; decide) | exact (by unfold okS; decide))) | exact (List.not_mem_nil hx).elim))) fun b194 _ w194 F195 S194 => ?_
             refine ⟨Sd.of (S192.trans S194) [] rfl, ?_⟩
             exact G180 _ _ ⟨b142, i2_145, h2_145, r_145, b194, F195.cut rfl, (S192.trans S194).pick [0, 1, 2, 3, 4] rfl, Q22, q145_0, q145_1, q145_2⟩
         refine x_lem (fun aZ wZ => ∃ (b142 : Nat), ∃ (b154 : Nat), Fr 42 [(38, .slice (some ⟨b154, 0, none⟩) 3 3), (35, .slice (some ⟨b142, 0, none⟩) 3 3), (37, .pointer (some ⟨c_b, 0, none⟩)), (34, .pointer (some ⟨c_b, 0, none⟩)), (3, .pointer (some ⟨b8, 0, none⟩)), (2, .pointer (some ⟨b1, 0, none⟩))] aZ ∧ Mv [bx c_b [.slice Q1 Q0 Q2, .int .i64 ((i2_115 : Nat) : Int), .int .i64 h2_115] 80, bx b8 [.slice sa sn sc, .slice ra rn rc, .slice ua un uc] 29, bx b1 [.slice none 0 0, .slice none 0 0, .slice none 0 0] 29] w119 [ow 9 1 encS okS (.slice (some ⟨b154, 0, none⟩) 3 3) qB_, ow 9 1 encS okS (.slice (some ⟨b142, 0, none⟩) 3 3) qA_, bx c_b [.slice Q1 Q0 Q2, .int .i64 ((i2_115 : Nat) : Int), .int .i64 h2_115] 80, bx b8 [.slice sa sn sc, .slice ra rn rc, .slice ua un uc] 29, bx b1 [.slice none 0 0, .slice none 0 0, .slice none 0 0] 29] wZ) #[nF, yT, yT, nF, yT, yT, nF, nF, nF] 5 ?_ (fun G196 => ?_)
         · rintro a196 w196 ⟨b142, b154, F196, S196⟩
           refine d_all (rs := [0, 3]) rfl (by kernel_rfl) (by simp) (d_cons (i := 0) (listed' := #[yT, yT, yT, nF, yT, yT, nF, nF, nF]) rfl rfl ?_ (d_cons (i := 3) (listed' := #[nF, yT, yT, yT, yT, yT, nF, nF, nF]) rfl rfl ?_ d_nil))
           · skip
             refine f_val (v := .agg #[.slice sa sn sc, .slice ra rn rc, .slice ua un uc]) F196 rfl rfl (r_loadB S196.at' 3 TI_29 rfl rfl (F196.ev 3 rfl) rfl rfl (fun h => nomatch h) rfl) rfl fun _ F197 => ?_
             refine ⟨Sd.of S196 [] rfl, ?_⟩
             exact G177 _ _ ⟨b142, b154, F197.cut rfl, S196.pick [0, 1, 2, 3, 4] rfl⟩
           · skip
             refine f_call F196 CF_68 rfl rfl rfl rfl (lc (F196.ev 34 rfl) (lc (F196.ev 35 rfl) rfl)) (spec_l01Pick_c (H := fun b => ¬ fps (sel [ow 9 1 encS okS (.slice (some ⟨b154, 0, none⟩) 3 3) qB_, ow 9 1 encS okS (.slice (some ⟨b142, 0, none⟩) 3 3) qA_, bx c_b [.slice Q1 Q0 Q2, .int .i64 ((i2_115 : Nat) : Int), .int .i64 h2_115] 80, bx b8 [.slice sa sn sc, .slice ra rn rc, .slice ua un uc] 29, bx b1 [.slice none 0 0, .slice none 0 0, .slice none 0 0] 29] [2]) b) (c := (⟨c.code, i2_115, h2_115⟩ : CurD)) (list := [(⟨#[109, 47, 49, 47, 48]⟩ : ByteArray), (⟨#[109, 47, 49, 47, 120]⟩ : ByteArray), (⟨#[109, 47, 50, 47, 51]⟩ : ByteArray)]) (RdA.mono (RdA.mv (Nat.succ_pos _) Q3 (S1.trans (S3.trans (S6.trans (S5.trans (S8.trans (T11.trans (S13.trans (S16.trans (S115.trans (S119.trans S196))))))))))) (V_off (is := [2]))) (by unfold i64ok; (try dsimp only); omega) (by first | assumption | exact w64_ok _ | exact ⟨by omega, by omega⟩ | (unfold i64ok at *; omega)) (At.rdOff S196.at' ET_25.hk 1 rfl [2] rfl) (by first | assumption | omega | (simp <;> omega)) (by first | assumption | omega | (simp <;> omega)) (At.pick (is := [2]) S196.at' rfl) (fun _ h => h)) ?_
             rintro _ w198 ⟨i2_198, h2_198, r_198, rfl, m198, Q60, q198_0, q198_1, q198_2⟩
             refine ⟨_, rfl, fun _ F199 => ?_⟩
             have S198 : Mv _ _ [bx c_b [.slice Q1 Q0 Q2, .int .i64 ((i2_198 : Nat) : Int), .int .i64 h2_198] 80, ow 9 1 encS okS (.slice (some ⟨b154, 0, none⟩) 3 3) qB_, ow 9 1 encS okS (.slice (some ⟨b142, 0, none⟩) 3 3) qA_, bx b8 [.slice sa sn sc, .slice ra rn rc, .slice ua un uc] 29, bx b1 [.slice none 0 0, .slice none 0 0, .slice none 0 0] 29] _ := At.frame S196.at' [2] rfl m198
             clear m198
             refine ⟨Sd.of (S196.trans S198) [] rfl, ?_⟩
             exact G180 _ _ ⟨b142, i2_198, h2_198, r_198, b154, F199.cut rfl, (S196.trans S198).pick [1, 0, 2, 3, 4] rfl, Q60, q198_0, q198_1, q198_2⟩
         refine x_lem (fun aZ wZ => Fr 42 [(33, .agg #[.slice sa sn sc, .slice ra rn rc, .slice ua un uc]), (37, .pointer (some ⟨c_b, 0, none⟩)), (34, .pointer (some ⟨c_b, 0, none⟩)), (3, .pointer (some ⟨b8, 0, none⟩)), (2, .pointer (some ⟨b1, 0, none⟩))] aZ ∧ Mv [bx c_b [.slice Q1 Q0 Q2, .int .i64 ((i2_115 : Nat) : Int), .int .i64 h2_115] 80, bx b8 [.slice sa sn sc, .slice ra rn rc, .slice ua un uc] 29, bx b1 [.slice none 0 0, .slice none 0 0, .slice none 0 0] 29] w119 [bx c_b [.slice Q1 Q0 Q2, .int .i64 ((i2_115 : Nat) : Int), .int .i64 h2_115] 80, bx b8 [.slice sa sn sc, .slice ra rn rc, .slice ua un uc] 29, bx b1 [.slice none 0 0, .slice none 0 0, .slice none 0 0] 29] wZ) #[yT, yT, nF, nF, yT, nF, nF, nF, nF] 6 ?_ (fun G200 => ?_)
         · rintro a200 w200 ⟨F200, S200⟩
           refine d_all (rs := [2, 5]) rfl (by kernel_rfl) (by simp) (d_cons (i := 2) (listed' := #[yT, yT, yT, nF, yT, nF, nF, nF, nF]) rfl rfl ?_ (d_cons (i := 5) (listed' := #[yT, yT, nF, nF, yT, yT, nF, nF, nF]) rfl rfl ?_ d_nil))
           · skip
             refine f_buildSl (ok := okS) (vs := [.string (⟨#[109, 47, 49, 47, 48]⟩ : ByteArray), .string (⟨#[109, 47, 49, 47, 120]⟩ : ByteArray), .string (⟨#[109, 47, 50, 47, 51]⟩ : ByteArray)]) F200 S200.at' qA_ ET_25 rfl rfl rfl rfl rfl rfl (lc (pr2 rfl) (lc (pr2 rfl) (lc (pr2 rfl) rfl))) rfl rfl (fun x hx => by (repeat (first | (rcases List.mem_cons.1 hx with hx | hx; (subst hx; first | exact (by unfold okS; decide) | exact (by unfold okS; decide) | exact (by unfold okS; decide))) | exact (List.not_mem_nil hx).elim))) fun b201 _ w201 F202 S201 => ?_
             refine ⟨Sd.of (S200.trans S201) [] rfl, ?_⟩
             exact G184 _ _ ⟨b201, F202.cut rfl, (S200.trans S201).pick [0, 1, 2, 3] rfl⟩
           · skip
             refine f_buildSl (ok := okS) (vs := [.string (⟨#[120]⟩ : ByteArray), .string (⟨#[45, 122, 122]⟩ : ByteArray), .string (⟨#[54, 49, 54, 50]⟩ : ByteArray)]) F200 S200.at' qB_ ET_25 rfl rfl rfl rfl rfl rfl (lc (pr2 rfl) (lc (pr2 rfl) (lc (pr2 rfl) rfl))) rfl rfl (fun x hx => by (repeat (first | (rcases List.mem_cons.1 hx with hx | hx; (subst hx; first | exact (by unfold okS; decide) | exact (by unfold okS; decide) | exact (by unfold okS; decide))) | exact (List.not_mem_nil hx).elim))) fun b203 _ w203 F204 S203 => ?_
             refine ⟨Sd.of (S200.trans S203) [] rfl, ?_⟩
             exact G189 _ _ ⟨b203, F204.cut rfl, (S200.trans S203).pick [0, 1, 2, 3] rfl⟩
         refine x_lem (fun aZ wZ => ∃ (b142 : Nat), Fr 42 [(35, .slice (some ⟨b142, 0, none⟩) 3 3), (37, .pointer (some ⟨c_b, 0, none⟩)), (34, .pointer (some ⟨c_b, 0, none⟩)), (3, .pointer (some ⟨b8, 0, none⟩)), (2, .pointer (some ⟨b1, 0, none⟩))] aZ ∧ Mv [bx c_b [.slice Q1 Q0 Q2, .int .i64 ((i2_115 : Nat) : Int), .int .i64 h2_115] 80, bx b8 [.slice sa sn sc, .slice ra rn rc, .slice ua un uc] 29, bx b1 [.slice none 0 0, .slice none 0 0, .slice none 0 0] 29] w119 [ow 9 1 encS okS (.slice (some ⟨b142, 0, none⟩) 3 3) qA_, bx c_b [.slice Q1 Q0 Q2, .int .i64 ((i2_115 : Nat) : Int), .int .i64 h2_115] 80, bx b8 [.slice sa sn sc, .slice ra rn rc, .slice ua un uc] 29, bx b1 [.slice none 0 0, .slice none 0 0, .slice none 0 0] 29] wZ) #[nF, yT, yT, nF, yT, nF, nF, nF, nF] 6 ?_ (fun G205 => ?_)
         · rintro a205 w205 ⟨b142, F205, S205⟩
           refine d_all (rs := [0, 3, 5]) rfl (by kernel_rfl) (by simp) (d_cons (i := 0) (listed' := #[yT, yT, yT, nF, yT, nF, nF, nF, nF]) rfl rfl ?_ (d_cons (i := 3) (listed' := #[nF, yT, yT, yT, yT, nF, nF, nF, nF]) rfl rfl ?_ (d_cons (i := 5) (listed' := #[nF, yT, yT, nF, yT, yT, nF, nF, nF]) rfl rfl ?_ d_nil)))
           · skip
             refine f_val (v := .agg #[.slice sa sn sc, .slice ra rn rc, .slice ua un uc]) F205 rfl rfl (r_loadB S205.at' 2 TI_29 rfl rfl (F205.ev 3 rfl) rfl rfl (fun h => nomatch h) rfl) rfl fun _ F206 => ?_
             refine ⟨Sd.of S205 [] rfl, ?_⟩
             exact G184 _ _ ⟨b142, F206.cut rfl, S205.pick [0, 1, 2, 3] rfl⟩
           · skip
             refine f_call F205 CF_68 rfl rfl rfl rfl (lc (F205.ev 34 rfl) (lc (F205.ev 35 rfl) rfl)) (spec_l01Pick_c (H := fun b => ¬ fps (sel [ow 9 1 encS okS (.slice (some ⟨b142, 0, none⟩) 3 3) qA_, bx c_b [.slice Q1 Q0 Q2, .int .i64 ((i2_115 : Nat) : Int), .int .i64 h2_115] 80, bx b8 [.slice sa sn sc, .slice ra rn rc, .slice ua un uc] 29, bx b1 [.slice none 0 0, .slice none 0 0, .slice none 0 0] 29] [1]) b) (c := (⟨c.code, i2_115, h2_115⟩ : CurD)) (list := [(⟨#[109, 47, 49, 47, 48]⟩ : ByteArray), (⟨#[109, 47, 49, 47, 120]⟩ : ByteArray), (⟨#[109, 47, 50, 47, 51]⟩ : ByteArray)]) (RdA.mono (RdA.mv (Nat.succ_pos _) Q3 (S1.trans (S3.trans (S6.trans (S5.trans (S8.trans (T11.trans (S13.trans (S16.trans (S115.trans (S119.trans S205))))))))))) (V_off (is := [1]))) (by unfold i64ok; (try dsimp only); omega) (by first | assumption | exact w64_ok _ | exact ⟨by omega, by omega⟩ | (unfold i64ok at *; omega)) (At.rdOff S205.at' ET_25.hk 0 rfl [1] rfl) (by first | assumption | omega | (simp <;> omega)) (by first | assumption | omega | (simp <;> omega)) (At.pick (is := [1]) S205.at' rfl) (fun _ h => h)) ?_
             rintro _ w207 ⟨i2_207, h2_207, r_207, rfl, m207, Q61, q207_0, q207_1, q207_2⟩
             refine ⟨_, rfl, fun _ F208 => ?_⟩
             have S207 : Mv _ _ [bx c_b [.slice Q1 Q0 Q2, .int .i64 ((i2_207 : Nat) : Int), .int .i64 h2_207] 80, ow 9 1 encS okS (.slice (some ⟨b142, 0, none⟩) 3 3) qA_, bx b8 [.slice sa sn sc, .slice ra rn rc, .slice ua un uc] 29, bx b1 [.slice none 0 0, .slice none 0 0, .slice none 0 0] 29] _ := At.frame S205.at' [1] rfl m207
             clear m207
             refine ⟨Sd.of (S205.trans S207) [] rfl, ?_⟩
             exact G192 _ _ ⟨b142, i2_207, h2_207, r_207, F208.cut rfl, (S205.trans S207).pick [0, 1, 2, 3] rfl, Q61, q207_0, q207_1, q207_2⟩
           · skip
             refine f_buildSl (ok := okS) (vs := [.string (⟨#[120]⟩ : ByteArray), .string (⟨#[45, 122, 122]⟩ : ByteArray), .string (⟨#[54, 49, 54, 50]⟩ : ByteArray)]) F205 S205.at' qB_ ET_25 rfl rfl rfl rfl rfl rfl (lc (pr2 rfl) (lc (pr2 rfl) (lc (pr2 rfl) rfl))) rfl rfl (fun x hx => by (repeat (first | (rcases List.mem_cons.1 hx with hx | hx; (subst hx; first | exact (by unfold okS; decide) | exact (by unfold okS; decide) | exact (by unfold okS; decide))) | exact (List.not_mem_nil hx).elim))) fun b209 _ w209 F210 S209 => ?_
             refine ⟨Sd.of (S205.trans S209) [] rfl, ?_⟩
             exact G196 _ _ ⟨b142, b209, F210.cut rfl, (S205.trans S209).pick [0, 1, 2, 3, 4] rfl⟩
         refine x_lem (fun aZ wZ => ∃ (b159 : Nat), Fr 42 [(38, .slice (some ⟨b159, 0, none⟩) 3 3), (37, .pointer (some ⟨c_b, 0, none⟩)), (34, .pointer (some ⟨c_b, 0, none⟩)), (3, .pointer (some ⟨b8, 0, none⟩)), (2, .pointer (some ⟨b1, 0, none⟩))] aZ ∧ Mv [bx c_b [.slice Q1 Q0 Q2, .int .i64 ((i2_115 : Nat) : Int), .int .i64 h2_115] 80, bx b8 [.slice sa sn sc, .slice ra rn rc, .slice ua un uc] 29, bx b1 [.slice none 0 0, .slice none 0 0, .slice none 0 0] 29] w119 [ow 9 1 encS okS (.slice (some ⟨b159, 0, none⟩) 3 3) qB_, bx c_b [.slice Q1 Q0 Q2, .int .i64 ((i2_115 : Nat) : Int), .int .i64 h2_115] 80, bx b8 [.slice sa sn sc, .slice ra rn rc, .slice ua un uc] 29, bx b1 [.slice none 0 0, .slice none 0 0, .slice none 0 0] 29] wZ) #[nF, yT, nF, nF, yT, yT, nF, nF, nF] 6 ?_ (fun G211 => ?_)
         · rintro a211 w211 ⟨b159, F211, S211⟩
           refine d_all (rs := [0, 2]) rfl (by kernel_rfl) (by simp) (d_cons (i := 0) (listed' := #[yT, yT, nF, nF, yT, yT, nF, nF, nF]) rfl rfl ?_ (d_cons (i := 2) (listed' := #[nF, yT, yT, nF, yT, yT, nF, nF, nF]) rfl rfl ?_ d_nil))
           · skip
             refine f_val (v := .agg #[.slice sa sn sc, .slice ra rn rc, .slice ua un uc]) F211 rfl rfl (r_loadB S211.at' 2 TI_29 rfl rfl (F211.ev 3 rfl) rfl rfl (fun h => nomatch h) rfl) rfl fun _ F212 => ?_
             refine ⟨Sd.of S211 [] rfl, ?_⟩
             exact G189 _ _ ⟨b159, F212.cut rfl, S211.pick [0, 1, 2, 3] rfl⟩
           · skip
             refine f_buildSl (ok := okS) (vs := [.string (⟨#[109, 47, 49, 47, 48]⟩ : ByteArray), .string (⟨#[109, 47, 49, 47, 120]⟩ : ByteArray), .string (⟨#[109, 47, 50, 47, 51]⟩ : ByteArray)]) F211 S211.at' qA_ ET_25 rfl rfl rfl rfl rfl rfl (lc (pr2 rfl) (lc (pr2 rfl) (lc (pr2 rfl) rfl))) rfl rfl (fun x hx => by (repeat (first | (rcases List.mem_cons.1 hx with hx | hx; (subst hx; first | exact (by unfold okS; decide) | exact (by unfold okS; decide) | exact (by unfold okS; decide))) | exact (List.not_mem_nil hx).elim))) fun b213 _ w213 F214 S213 => ?_
             refine ⟨Sd.of (S211.trans S213) [] rfl, ?_⟩
             exact G196 _ _ ⟨b213, b159, F214.cut rfl, (S211.trans S213).pick [1, 0, 2, 3, 4] rfl⟩
         refine x_lem (fun aZ wZ => Fr 42 [(37, .pointer (some ⟨c_b, 0, none⟩)), (34, .pointer (some ⟨c_b, 0, none⟩)), (3, .pointer (some ⟨b8, 0, none⟩)), (2, .pointer (some ⟨b1, 0, none⟩))] aZ ∧ Mv [bx c_b [.slice Q1 Q0 Q2, .int .i64 ((i2_115 : Nat) : Int), .int .i64 h2_115] 80, bx b8 [.slice sa sn sc, .slice ra rn rc, .slice ua un uc] 29, bx b1 [.slice none 0 0, .slice none 0 0, .slice none 0 0] 29] w119 [bx c_b [.slice Q1 Q0 Q2, .int .i64 ((i2_115 : Nat) : Int), .int .i64 h2_115] 80, bx b8 [.slice sa sn sc, .slice ra rn rc, .slice ua un uc] 29, bx b1 [.slice none 0 0, .slice none 0 0, .slice none 0 0] 29] wZ) #[nF, yT, nF, nF, yT, nF, nF, nF, nF] 7 ?_ (fun G215 => ?_)
         · rintro a215 w215 ⟨F215, S215⟩
           refine d_all (rs := [0, 2, 5]) rfl (by kernel_rfl) (by simp) (d_cons (i := 0) (listed' := #[yT, yT, nF, nF, yT, nF, nF, nF, nF]) rfl rfl ?_ (d_cons (i := 2) (listed' := #[nF, yT, yT, nF, yT, nF, nF, nF, nF]) rfl rfl ?_ (d_cons (i := 5) (listed' := #[nF, yT, nF, nF, yT, yT, nF, nF, nF]) rfl rfl ?_ d_nil)))
           · skip
             refine f_val (v := .agg #[.slice sa sn sc, .slice ra rn rc, .slice ua un uc]) F215 rfl rfl (r_loadB S215.at' 1 TI_29 rfl rfl (F215.ev 3 rfl) rfl rfl (fun h => nomatch h) rfl) rfl fun _ F216 => ?_
             refine ⟨Sd.of S215 [] rfl, ?_⟩
             exact G200 _ _ ⟨F216.cut rfl, S215.pick [0, 1, 2] rfl⟩
           · skip
             refine f_buildSl (ok := okS) (vs := [.string (⟨#[109, 47, 49, 47, 48]⟩ : ByteArray), .string (⟨#[109, 47, 49, 47, 120]⟩ : ByteArray), .string (⟨#[109, 47, 50, 47, 51]⟩ : ByteArray)]) F215 S215.at' qA_ ET_25 rfl rfl rfl rfl rfl rfl (lc (pr2 rfl) (lc (pr2 rfl) (lc (pr2 rfl) rfl))) rfl rfl (fun x hx => by (repeat (first | (rcases List.mem_cons.1 hx with hx | hx; (subst hx; first | exact (by unfold okS; decide) | exact (by unfold okS; decide) | exact (by unfold okS; decide))) | exact (List.not_mem_nil hx).elim))) fun b217 _ w217 F218 S217 => ?_
             refine ⟨Sd.of (S215.trans S217) [] rfl, ?_⟩
             exact G205 _ _ ⟨b217, F218.cut rfl, (S215.trans S217).pick [0, 1, 2, 3] rfl⟩
           · skip
             refine f_buildSl (ok := okS) (vs := [.string (⟨#[120]⟩ : ByteArray), .string (⟨#[45, 122, 122]⟩ : ByteArray), .string (⟨#[54, 49, 54, 50]⟩ : ByteArray)]) F215 S215.at' qB_ ET_25 rfl rfl rfl rfl rfl rfl (lc (pr2 rfl) (lc (pr2 rfl) (lc (pr2 rfl) rfl))) rfl rfl (fun x hx => by (repeat (first | (rcases List.mem_cons.1 hx with hx | hx; (subst hx; first | exact (by unfold okS; decide) | exact (by unfold okS; decide) | exact (by unfold okS; decide))) | exact (List.not_mem_nil hx).elim))) fun b219 _ w219 F220 S219 => ?_
             refine ⟨Sd.of (S215.trans S219) [] rfl, ?_⟩
             exact G211 _ _ ⟨b219, F220.cut rfl, (S215.trans S219).pick [0, 1, 2, 3] rfl⟩
         refine g_take F116 rfl (i := 1) (listed' := #[nF, yT, nF, nF, nF, nF, nF, nF, nF]) rfl (by kernel_rfl) (by kernel_rfl) (by kernel_rfl) (fun _ _ _ h => h) (Sd.of (Mv.refl S119.at') [] rfl) rfl rfl rfl rfl (fun _ hz => (r_move rfl (F116.ev 0 rfl))) fun _ F221 => ?_
         refine g_take F221 rfl (i := 4) (listed' := #[nF, yT, nF, nF, yT, nF, nF, nF, nF]) rfl (by kernel_rfl) (by kernel_rfl) (by kernel_rfl) (fun _ _ _ h => h) (Sd.of (Mv.refl S119.at') [] rfl) rfl rfl rfl rfl (fun _ hz => (r_move rfl (F221.ev 0 rfl))) fun _ F222 => ?_
         exact G215 _ _ ⟨F222.cut rfl, (Mv.refl S119.at').pick [0, 1, 2] rfl⟩
       · rintro a223 w223 ⟨b123, i2_125, h2_125, r_125, b127, i2_129, h2_129, r_129, Q7, Q9, Q8, Q4, Q6, Q5, Q10, Q12, Q11, F223, S223, V223_0, V223_1, V223_2, Q99, Q100, Q101, Q102, Q103, Q104⟩
         obtain ⟨ln223_0, le223_0, mx223_0, ni223_0⟩ := Rd.inv V223_0
         obtain ⟨ln223_1, le223_1, mx223_1, ni223_1⟩ := Rd.inv V223_1
         obtain ⟨ln223_2, le223_2, mx223_2, ni223_2⟩ := Rd.inv V223_2
         refine x_normal (wp_seq (wp_region_lit (l_op (f_val (v := .agg #[.slice Q7 Q9 Q8, .slice Q4 Q6 Q5, .slice Q10 Q12 Q11]) F223 rfl rfl (r_loadB S223.at' 1 TI_29 rfl rfl (F223.ev 3 rfl) rfl rfl (fun h => nomatch h) rfl) rfl fun _ F224 => ?_))))
         refine l_op (s_store S223.at' 2 TI_29 rfl rfl rfl rfl rfl (F224.ev 2 rfl) (F224.ev 41 rfl) rfl rfl rfl rfl rfl fun w225 S225 => ?_)
         refine s_end (x_normal (wp_ret ?_))
         refine x_done (v := .agg #[.slice Q7 Q9 Q8, .slice Q4 Q6 Q5, .slice Q10 Q12 Q11]) F224 (results_1 Tryz.results35 (.cell (F224.ev 2 rfl) (run_loadVar' TI_29 _ [.slice Q7 Q9 Q8, .slice Q4 Q6 Q5, .slice Q10 Q12 Q11] rfl (fun h => nomatch h) (At.cells S225.at' 0 rfl 0 [.slice Q7 Q9 Q8, .slice Q4 Q6 Q5, .slice Q10 Q12 Q11] rfl)))) ?_
         exact ⟨i2_129, h2_129, (layM M r_125 r_129), Q7, Q9, Q8, Q4, Q6, Q5, Q10, Q12, Q11, rfl, (Mv.pick (S1.trans (S3.trans (S6.trans (S5.trans (S8.trans (T11.trans (S13.trans (S16.trans (S115.trans (S223.trans S225)))))))))) [1] rfl), (Rd.mq (Rd.mq V223_0 S225) (Mv.pick (Mv.refl S225.at') [1] rfl)), (Rd.mq (Rd.mq V223_1 S225) (Mv.pick (Mv.refl S225.at') [1] rfl)), (Rd.mq (Rd.mq V223_2 S225) (Mv.pick (Mv.refl S225.at') [1] rfl)), by first | assumption | exact w64_ok _ | omega | (unfold i64ok; omega), by first | assumption | exact w64_ok _ | omega | (unfold i64ok; omega), by first | exact bdC.le hbm (by decide) | exact bdC.le (bdC.lay hbm) (by decide)⟩
     · skip
       refine wp_skip (x_normal (wp_seq (wp_region_lit (l_op (f_val (v := .agg #[.slice sa sn sc, .slice ra rn rc, .slice ua un uc]) F116 rfl rfl (r_loadB S115.at' 1 TI_29 rfl rfl (F116.ev 3 rfl) rfl rfl (fun h => nomatch h) rfl) rfl fun _ F226 => ?_)))))
       refine l_op (s_store S115.at' 2 TI_29 rfl rfl rfl rfl rfl (F226.ev 2 rfl) (F226.ev 41 rfl) rfl rfl rfl rfl rfl fun w227 S227 => ?_)
       refine s_end (x_normal (wp_ret ?_))
       refine x_done (v := .agg #[.slice sa sn sc, .slice ra rn rc, .slice ua un uc]) F226 (results_1 Tryz.results35 (.cell (F226.ev 2 rfl) (run_loadVar' TI_29 _ [.slice sa sn sc, .slice ra rn rc, .slice ua un uc] rfl (fun h => nomatch h) (At.cells S227.at' 0 rfl 0 [.slice sa sn sc, .slice ra rn rc, .slice ua un uc] rfl)))) ?_
       exact ⟨i2_115, h2_115, M, sa, sn, sc, ra, rn, rc, ua, un, uc, rfl, (Mv.pick (S1.trans (S3.trans (S6.trans (S5.trans (S8.trans (T11.trans (S13.trans (S16.trans (S115.trans S227))))))))) [1] rfl), (Rd.mq (Rd.mq W13_0 (S16.trans (S115.trans S227))) (Mv.pick (Mv.refl S227.at') [1] rfl)), (Rd.mq (Rd.mq W13_1 (S16.trans (S115.trans S227))) (Mv.pick (Mv.refl S227.at') [1] rfl)), (Rd.mq (Rd.mq W13_2 (S16.trans (S115.trans S227))) (Mv.pick (Mv.refl S227.at') [1] rfl)), by first | assumption | exact w64_ok _ | omega | (unfold i64ok; omega), by first | assumption | exact w64_ok _ | omega | (unfold i64ok; omega), by first | exact bdC.le hbm (by decide) | exact bdC.le (bdC.lay hbm) (by decide)⟩
theorem spec_DrawStorePage_c {w : World} {H : Nat → Prop} {code : List Nat} {Q1 : Option Addr} {Q0 Q2 : Nat} (Q22 : RdA 1 encB okB H w (.slice Q1 Q0 Q2) code) (p0 : Q0 ≤ 1048576) :
    Calls Tryz.prog 6 #[.slice Q1 Q0 Q2] w fun e w' => ∃ (d : MachD), ∃ (a : Nat), ∃ (p : Int), ∃ (t : ByteArray), ∃ (Q16 : Option Addr), ∃ (Q18 : Nat), ∃ (Q17 : Nat), ∃ (Q13 : Option Addr), ∃ (Q15 : Nat), ∃ (Q14 : Nat), ∃ (Q19 : Option Addr), ∃ (Q21 : Nat), ∃ (Q20 : Nat), e = .returned (.tuple #[.agg #[.slice Q16 Q18 Q17, .slice Q13 Q15 Q14, .slice Q19 Q21 Q20], .int .i64 ((a : Nat) : Int), .int .i64 p, .string t]) ∧ Mv [] w [] w' ∧ Rd 2 encC okC (Fsh H w) w' (.slice Q16 Q18 Q17) d.store ∧ Rd 1 encS okS (Fsh H w) w' (.slice Q13 Q15 Q14) d.touch.reads ∧ Rd 1 encS okS (Fsh H w) w' (.slice Q19 Q21 Q20) d.touch.writes ∧ okS t ∧ bdC 200000 d ∧ a ≤ 4 ∧ i64ok p ∧ t.size ≤ 5000 := by
 have uU : True := (fun _ => trivial) p0
 clear uU
 have Q3 : RdA 1 encB okB (V H w []) w (.slice Q1 Q0 Q2) code := RdA.start Q22 (fun _ _ => fps_nil _)
 obtain ⟨Q25, Q24, Q26, Q27⟩ := RdA.inv Q22
 refine calls_enter 21 Tryz.func6 rfl Tryz.ntmps6 (Nat.le_of_ble_eq_true rfl) (fun _ F0i => ?_)
 have F0 : Fr 21 [(0, .slice Q1 Q0 Q2)] _ := F0i
 clear F0i
 refine wp_seq (wp_region_lit (l_op (f_alloc F0 (At.nil w) ZI_29 rfl rfl rfl rfl rfl fun b1 _ w1 F2 S1 => ?_)))
 refine l_op (f_val F2 rfl rfl (r_assign rfl rfl) rfl fun _ F3 => ?_)
 refine l_op (f_val F3 rfl rfl (r_assign rfl rfl) rfl fun _ F4 => ?_)
 refine l_op (f_val F4 rfl rfl (r_assign rfl rfl) rfl fun _ F5 => ?_)
 refine s_end (x_normal (wp_seq (wp_region_lit (l_op (f_mv F5 rfl rfl rfl rfl rfl fun _ F6 => ?_)))))
 refine l_op (f_call F6 CF_34 rfl rfl rfl rfl (lc (F6.ev 7 rfl) rfl) (spec_l01New_c (code := code) (RdA.mv (Nat.succ_pos _) Q3 S1) (by first | assumption | omega | (simp <;> omega))) ?_)
 rintro _ w7 ⟨h2_7, r0_b_7, rfl, m7, q7_0⟩
 refine ⟨_, rfl, fun _ F8 => ?_⟩
 have S7 : Mv _ _ [bx r0_b_7 [.slice Q1 Q0 Q2, .int .i64 ((0 : Nat) : Int), .int .i64 h2_7] 80, bx b1 [.slice none 0 0, .slice none 0 0, .slice none 0 0] 29] _ := At.frame S1.at' [] rfl m7
 clear m7
 refine l_op (f_as F8 rfl rfl rfl rfl rfl fun _ F9 => ?_)
 refine s_end (x_normal (wp_seq (wp_region_lit (l_op (f_mv F9 rfl rfl rfl rfl rfl fun _ F10 => ?_)))))
 refine l_op (f_call F10 CF_35 rfl rfl rfl rfl (lc (F10.ev 9 rfl) rfl) (spec_l11Mach_c (c := (⟨code, 0, h2_7⟩ : CurD)) (RdA.mv (Nat.succ_pos _) Q3 (S1.trans S7)) (by unfold i64ok; (try dsimp only); omega) (by first | assumption | exact w64_ok _ | exact ⟨by omega, by omega⟩ | (unfold i64ok at *; omega)) (by first | assumption | omega | (simp <;> omega)) (At.pick (is := [0]) S7.at' rfl) (V_off (is := [0]))) ?_)
 rintro _ w11 ⟨i2_11, h2_11, d_11, Q7, Q9, Q8, Q4, Q6, Q5, Q10, Q12, Q11, rfl, m11, v11_0, v11_1, v11_2, q11_0, q11_1, q11_2⟩
 refine ⟨_, rfl, fun _ F12 => ?_⟩
 have S11 : Mv _ _ [bx r0_b_7 [.slice Q1 Q0 Q2, .int .i64 ((i2_11 : Nat) : Int), .int .i64 h2_11] 80, bx b1 [.slice none 0 0, .slice none 0 0, .slice none 0 0] 29] _ := At.frame S7.at' [0] rfl m11
 have V11_0 : Rd 2 encC okC (V H w [bx r0_b_7 [.slice Q1 Q0 Q2, .int .i64 ((i2_11 : Nat) : Int), .int .i64 h2_11] 80, bx b1 [.slice none 0 0, .slice none 0 0, .slice none 0 0] 29]) w11 (.slice Q7 Q9 Q8) d_11.store := Rd.gotP (New := [bx r0_b_7 [.slice Q1 Q0 Q2, .int .i64 ((i2_11 : Nat) : Int), .int .i64 h2_11] 80]) (is := [0]) S7.at' ((S1.trans S7).kp.size) (fresh_nil (S1.trans S7)) v11_0
 obtain ⟨ln11_0, le11_0, mx11_0, ni11_0⟩ := Rd.inv V11_0
 have V11_1 : Rd 1 encS okS (V H w [bx r0_b_7 [.slice Q1 Q0 Q2, .int .i64 ((i2_11 : Nat) : Int), .int .i64 h2_11] 80, bx b1 [.slice none 0 0, .slice none 0 0, .slice none 0 0] 29]) w11 (.slice Q4 Q6 Q5) d_11.touch.reads := Rd.gotP (New := [bx r0_b_7 [.slice Q1 Q0 Q2, .int .i64 ((i2_11 : Nat) : Int), .int .i64 h2_11] 80]) (is := [0]) S7.at' ((S1.trans S7).kp.size) (fresh_nil (S1.trans S7)) v11_1
 obtain ⟨ln11_1, le11_1, mx11_1, ni11_1⟩ := Rd.inv V11_1
 have V11_2 : Rd 1 encS okS (V H w [bx r0_b_7 [.slice Q1 Q0 Q2, .int .i64 ((i2_11 : Nat) : Int), .int .i64 h2_11] 80, bx b1 [.slice none 0 0, .slice none 0 0, .slice none 0 0] 29]) w11 (.slice Q10 Q12 Q11) d_11.touch.writes := Rd.gotP (New := [bx r0_b_7 [.slice Q1 Q0 Q2, .int .i64 ((i2_11 : Nat) : Int), .int .i64 h2_11] 80]) (is := [0]) S7.at' ((S1.trans S7).kp.size) (fresh_nil (S1.trans S7)) v11_2
 obtain ⟨ln11_2, le11_2, mx11_2, ni11_2⟩ := Rd.inv V11_2
 clear m11 v11_0 v11_1 v11_2
 refine l_op (f_mv F12 rfl rfl rfl rfl rfl fun _ F13 => ?_)
 refine l_op (f_call F13 CF_36 rfl rfl rfl rfl (lc (F13.ev 11 rfl) (lc rfl rfl)) (spec_l01Below_c (c := (⟨code, i2_11, h2_11⟩ : CurD)) (n := 4) (RdA.mv (Nat.succ_pos _) Q3 (S1.trans (S7.trans S11))) (by unfold i64ok; (try dsimp only); omega) (by first | assumption | exact w64_ok _ | exact ⟨by omega, by omega⟩ | (unfold i64ok at *; omega)) (by first | assumption | exact ⟨by omega, by omega⟩ | (unfold i64ok at *; omega)) (by first | assumption | omega | (simp <;> omega)) (At.pick (is := [0]) S11.at' rfl) (V_off (is := [0]))) ?_)
 rintro _ w14 ⟨i2_14, h2_14, r_14, rfl, m14, q14_0, q14_1, q14_2, q14_3⟩
 refine ⟨_, rfl, fun _ F15 => ?_⟩
 have S14 : Mv _ _ [bx r0_b_7 [.slice Q1 Q0 Q2, .int .i64 ((i2_14 : Nat) : Int), .int .i64 h2_14] 80, bx b1 [.slice none 0 0, .slice none 0 0, .slice none 0 0] 29] _ := At.frame S11.at' [0] rfl m14
 clear m14
 refine l_op (f_mv F15 rfl rfl rfl rfl rfl fun _ F16 => ?_)
 refine l_op (f_buildSl (ok := okI) (vs := [.int .i64 0, .int .i64 1, .int .i64 3, .int .i64 4, .int .i64 (-1)]) F16 S14.at' ([0, 1, 3, 4, (-1)]) ET_47 rfl rfl rfl rfl rfl rfl (lc (pr2 rfl) (lc (pr2 rfl) (lc (pr2 rfl) (lc (pr2 rfl) (lc (pr2 rfl) rfl))))) rfl rfl (fun x hx => by (repeat (first | (rcases List.mem_cons.1 hx with hx | hx; (subst hx; first | exact ⟨by omega, by omega⟩ | exact ⟨by omega, by omega⟩ | exact ⟨by omega, by omega⟩ | exact ⟨by omega, by omega⟩ | exact ⟨by omega, by omega⟩)) | exact (List.not_mem_nil hx).elim))) fun b17 _ w17 F18 S17 => ?_)
 refine l_op (f_call F18 CF_37 rfl rfl rfl rfl (lc (F18.ev 13 rfl) (lc (F18.ev 14 rfl) rfl)) (spec_l01PickInt_c (H := fun b => ¬ fps (sel [ow 3 1 encI okI (.slice (some ⟨b17, 0, none⟩) 5 5) ([0, 1, 3, 4, (-1)]), bx r0_b_7 [.slice Q1 Q0 Q2, .int .i64 ((i2_14 : Nat) : Int), .int .i64 h2_14] 80, bx b1 [.slice none 0 0, .slice none 0 0, .slice none 0 0] 29] [1]) b) (c := (⟨code, i2_14, h2_14⟩ : CurD)) (list := [0, 1, 3, 4, (-1)]) (RdA.mono (RdA.mv (Nat.succ_pos _) Q3 (S1.trans (S7.trans (S11.trans (S14.trans S17))))) (V_off (is := [1]))) (by unfold i64ok; (try dsimp only); omega) (by first | assumption | exact w64_ok _ | exact ⟨by omega, by omega⟩ | (unfold i64ok at *; omega)) (At.rdOff S17.at' ET_47.hk 0 rfl [1] rfl) (by first | assumption | omega | (simp <;> omega)) (by first | assumption | omega | (simp <;> omega)) (At.pick (is := [1]) S17.at' rfl) (fun _ h => h)) ?_)
 rintro _ w19 ⟨i2_19, h2_19, r_19, rfl, m19, q19_0, q19_1, q19_2⟩
 refine ⟨_, rfl, fun _ F20 => ?_⟩
 have S19 : Mv _ _ [bx r0_b_7 [.slice Q1 Q0 Q2, .int .i64 ((i2_19 : Nat) : Int), .int .i64 h2_19] 80, ow 3 1 encI okI (.slice (some ⟨b17, 0, none⟩) 5 5) ([0, 1, 3, 4, (-1)]), bx b1 [.slice none 0 0, .slice none 0 0, .slice none 0 0] 29] _ := At.frame S17.at' [1] rfl m19
 clear m19
 refine l_op (f_mv F20 rfl rfl rfl rfl rfl fun _ F21 => ?_)
 refine l_op (f_mv F21 rfl rfl rfl rfl rfl fun _ F22 => ?_)
 refine l_op (f_buildSl (ok := okI) (vs := [.int .i64 0, .int .i64 1, .int .i64 3, .int .i64 20, .int .i64 21]) F22 S19.at' ([0, 1, 3, 20, 21]) ET_47 rfl rfl rfl rfl rfl rfl (lc (pr2 rfl) (lc (pr2 rfl) (lc (pr2 rfl) (lc (pr2 rfl) (lc (pr2 rfl) rfl))))) rfl rfl (fun x hx => by (repeat (first | (rcases List.mem_cons.1 hx with hx | hx; (subst hx; first | exact ⟨by omega, by omega⟩ | exact ⟨by omega, by omega⟩ | exact ⟨by omega, by omega⟩ | exact ⟨by omega, by omega⟩ | exact ⟨by omega, by omega⟩)) | exact (List.not_mem_nil hx).elim))) fun b23 _ w23 F24 S23 => ?_)
 refine l_op (f_call F24 CF_37 rfl rfl rfl rfl (lc (F24.ev 17 rfl) (lc (F24.ev 18 rfl) rfl)) (spec_l01PickInt_c (H := fun b => ¬ fps (sel [ow 3 1 encI okI (.slice (some ⟨b23, 0, none⟩) 5 5) ([0, 1, 3, 20, 21]), bx r0_b_7 [.slice Q1 Q0 Q2, .int .i64 ((i2_19 : Nat) : Int), .int .i64 h2_19] 80, ow 3 1 encI okI (.slice (some ⟨b17, 0, none⟩) 5 5) ([0, 1, 3, 4, (-1)]), bx b1 [.slice none 0 0, .slice none 0 0, .slice none 0 0] 29] [1]) b) (c := (⟨code, i2_19, h2_19⟩ : CurD)) (list := [0, 1, 3, 20, 21]) (RdA.mono (RdA.mv (Nat.succ_pos _) Q3 (S1.trans (S7.trans (S11.trans (S14.trans (S17.trans (S19.trans S23))))))) (V_off (is := [1]))) (by unfold i64ok; (try dsimp only); omega) (by first | assumption | exact w64_ok _ | exact ⟨by omega, by omega⟩ | (unfold i64ok at *; omega)) (At.rdOff S23.at' ET_47.hk 0 rfl [1] rfl) (by first | assumption | omega | (simp <;> omega)) (by first | assumption | omega | (simp <;> omega)) (At.pick (is := [1]) S23.at' rfl) (fun _ h => h)) ?_)
 rintro _ w25 ⟨i2_25, h2_25, r_25, rfl, m25, q25_0, q25_1, q25_2⟩
 refine ⟨_, rfl, fun _ F26 => ?_⟩
 have S25 : Mv _ _ [bx r0_b_7 [.slice Q1 Q0 Q2, .int .i64 ((i2_25 : Nat) : Int), .int .i64 h2_25] 80, ow 3 1 encI okI (.slice (some ⟨b23, 0, none⟩) 5 5) ([0, 1, 3, 20, 21]), ow 3 1 encI okI (.slice (some ⟨b17, 0, none⟩) 5 5) ([0, 1, 3, 4, (-1)]), bx b1 [.slice none 0 0, .slice none 0 0, .slice none 0 0] 29] _ := At.frame S23.at' [1] rfl m25
 clear m25
 refine l_op (f_call F26 CF_38 rfl rfl rfl rfl (lc (F26.ev 16 rfl) (lc (F26.ev 19 rfl) rfl)) (spec_l01Text_c (c := (⟨code, i2_25, h2_25⟩ : CurD)) (n := r_25) (RdA.mv (Nat.succ_pos _) Q3 (S1.trans (S7.trans (S11.trans (S14.trans (S17.trans (S19.trans (S23.trans S25)))))))) (by unfold i64ok; (try dsimp only); omega) (by first | assumption | exact w64_ok _ | exact ⟨by omega, by omega⟩ | (unfold i64ok at *; omega)) (by first | assumption | exact ⟨by omega, by omega⟩ | (unfold i64ok at *; omega)) (by first | assumption | omega | (simp <;> omega)) (At.pick (is := [0]) S25.at' rfl) (V_off (is := [0]))) ?_)
 rintro _ w27 ⟨i2_27, h2_27, r_27, rfl, m27, Q23, q27_0, q27_1, q27_2⟩
 refine ⟨_, rfl, fun _ F28 => ?_⟩
 have S27 : Mv _ _ [bx r0_b_7 [.slice Q1 Q0 Q2, .int .i64 ((i2_27 : Nat) : Int), .int .i64 h2_27] 80, ow 3 1 encI okI (.slice (some ⟨b23, 0, none⟩) 5 5) ([0, 1, 3, 20, 21]), ow 3 1 encI okI (.slice (some ⟨b17, 0, none⟩) 5 5) ([0, 1, 3, 4, (-1)]), bx b1 [.slice none 0 0, .slice none 0 0, .slice none 0 0] 29] _ := At.frame S25.at' [0] rfl m27
 clear m27
 refine l_op (s_store S27.at' 3 TI_29 rfl rfl rfl rfl rfl (F28.ev 2 rfl) (F28.ev 10 rfl) rfl rfl rfl rfl rfl fun w29 S29 => ?_)
 refine l_op (f_as F28 rfl rfl rfl rfl rfl fun _ F30 => ?_)
 refine l_op (f_as F30 rfl rfl rfl rfl rfl fun _ F31 => ?_)
 refine l_op (f_as F31 rfl rfl rfl rfl rfl fun _ F32 => ?_)
 have T33 : Mv _ _ [bx b1 [.slice Q7 Q9 Q8, .slice Q4 Q6 Q5, .slice Q10 Q12 Q11] 29, bx r0_b_7 [.slice Q1 Q0 Q2, .int .i64 ((i2_27 : Nat) : Int), .int .i64 h2_27] 80, ow 3 1 encI okI (.slice (some ⟨b23, 0, none⟩) 5 5) ([0, 1, 3, 20, 21]), ow 3 1 encI okI (.slice (some ⟨b17, 0, none⟩) 5 5) ([0, 1, 3, 4, (-1)])] _ := S29
 refine s_end (x_normal (wp_ret ?_))
 refine x_done (v := .tuple #[.agg #[.slice Q7 Q9 Q8, .slice Q4 Q6 Q5, .slice Q10 Q12 Q11], .int .i64 ((r_14 : Nat) : Int), .int .i64 r_19, .string r_27]) F32 (results_4 Tryz.results6 (.cell (F32.ev 2 rfl) (run_loadVar' TI_29 _ [.slice Q7 Q9 Q8, .slice Q4 Q6 Q5, .slice Q10 Q12 Q11] rfl (fun h => nomatch h) (At.cells T33.at' 0 rfl 0 [.slice Q7 Q9 Q8, .slice Q4 Q6 Q5, .slice Q10 Q12 Q11] rfl))) (.tmp (F32.ev 3 rfl)) (.tmp (F32.ev 4 rfl)) (.tmp (F32.ev 5 rfl))) ?_
 exact ⟨d_11, r_14, r_19, r_27, Q7, Q9, Q8, Q4, Q6, Q5, Q10, Q12, Q11, rfl, (Mv.pick (S1.trans (S7.trans (S11.trans (S14.trans (S17.trans (S19.trans (S23.trans (S25.trans (S27.trans T33))))))))) [] rfl), (Rd.give (Rd.mq V11_0 (S14.trans (S17.trans (S19.trans (S23.trans (S25.trans (S27.trans T33)))))))), (Rd.give (Rd.mq V11_1 (S14.trans (S17.trans (S19.trans (S23.trans (S25.trans (S27.trans T33)))))))), (Rd.give (Rd.mq V11_2 (S14.trans (S17.trans (S19.trans (S23.trans (S25.trans (S27.trans T33)))))))), Q23, by first | assumption | exact w64_ok _ | omega | (unfold i64ok; omega), by first | assumption | exact w64_ok _ | omega | (unfold i64ok; omega), by first | assumption | exact w64_ok _ | omega | (unfold i64ok; omega), by first | assumption | exact w64_ok _ | omega | (unfold i64ok; omega)⟩
theorem spec_DrawLoadPage_c {w : World} {H : Nat → Prop} {code : List Nat} {Q1 : Option Addr} {Q0 Q2 : Nat} (Q22 : RdA 1 encB okB H w (.slice Q1 Q0 Q2) code) (p0 : Q0 ≤ 1048576) :
    Calls Tryz.prog 9 #[.slice Q1 Q0 Q2] w fun e w' => ∃ (d : MachD), ∃ (a : Nat), ∃ (p : Int), ∃ (Q16 : Option Addr), ∃ (Q18 : Nat), ∃ (Q17 : Nat), ∃ (Q13 : Option Addr), ∃ (Q15 : Nat), ∃ (Q14 : Nat), ∃ (Q19 : Option Addr), ∃ (Q21 : Nat), ∃ (Q20 : Nat), e = .returned (.tuple #[.agg #[.slice Q16 Q18 Q17, .slice Q13 Q15 Q14, .slice Q19 Q21 Q20], .int .i64 ((a : Nat) : Int), .int .i64 p]) ∧ Mv [] w [] w' ∧ Rd 2 encC okC (Fsh H w) w' (.slice Q16 Q18 Q17) d.store ∧ Rd 1 encS okS (Fsh H w) w' (.slice Q13 Q15 Q14) d.touch.reads ∧ Rd 1 encS okS (Fsh H w) w' (.slice Q19 Q21 Q20) d.touch.writes ∧ bdC 200000 d ∧ a ≤ 4 ∧ i64ok p := by
 have uU : True := (fun _ => trivial) p0
 clear uU
 have Q12 : RdA 1 encB okB (V H w []) w (.slice Q1 Q0 Q2) code := RdA.start Q22 (fun _ _ => fps_nil _)
 obtain ⟨Q24, Q23, Q25, Q26⟩ := RdA.inv Q22
 refine calls_enter 15 Tryz.func9 rfl Tryz.ntmps9 (Nat.le_of_ble_eq_true rfl) (fun _ F0i => ?_)
 have F0 : Fr 15 [(0, .slice Q1 Q0 Q2)] _ := F0i
 clear F0i
 refine wp_seq (wp_region_lit (l_op (f_alloc F0 (At.nil w) ZI_29 rfl rfl rfl rfl rfl fun b1 _ w1 F2 S1 => ?_)))
 refine l_op (f_val F2 rfl rfl (r_assign rfl rfl) rfl fun _ F3 => ?_)
 refine l_op (f_val F3 rfl rfl (r_assign rfl rfl) rfl fun _ F4 => ?_)
 refine s_end (x_normal (wp_seq (wp_region_lit (l_op (f_mv F4 rfl rfl rfl rfl rfl fun _ F5 => ?_)))))
 refine l_op (f_call F5 CF_34 rfl rfl rfl rfl (lc (F5.ev 6 rfl) rfl) (spec_l01New_c (code := code) (RdA.mv (Nat.succ_pos _) Q12 S1) (by first | assumption | omega | (simp <;> omega))) ?_)
 rintro _ w6 ⟨h2_6, r0_b_6, rfl, m6, q6_0⟩
 refine ⟨_, rfl, fun _ F7 => ?_⟩
 have S6 : Mv _ _ [bx r0_b_6 [.slice Q1 Q0 Q2, .int .i64 ((0 : Nat) : Int), .int .i64 h2_6] 80, bx b1 [.slice none 0 0, .slice none 0 0, .slice none 0 0] 29] _ := At.frame S1.at' [] rfl m6
 clear m6
 refine l_op (f_as F7 rfl rfl rfl rfl rfl fun _ F8 => ?_)
 refine s_end (x_normal (wp_seq (wp_region_lit (l_op (f_mv F8 rfl rfl rfl rfl rfl fun _ F9 => ?_)))))
 refine l_op (f_call F9 CF_35 rfl rfl rfl rfl (lc (F9.ev 8 rfl) rfl) (spec_l11Mach_c (c := (⟨code, 0, h2_6⟩ : CurD)) (RdA.mv (Nat.succ_pos _) Q12 (S1.trans S6)) (by unfold i64ok; (try dsimp only); omega) (by first | assumption | exact w64_ok _ | exact ⟨by omega, by omega⟩ | (unfold i64ok at *; omega)) (by first | assumption | omega | (simp <;> omega)) (At.pick (is := [0]) S6.at' rfl) (V_off (is := [0]))) ?_)
 rintro _ w10 ⟨i2_10, h2_10, d_10, Q6, Q8, Q7, Q3, Q5, Q4, Q9, Q11, Q10, rfl, m10, v10_0, v10_1, v10_2, q10_0, q10_1, q10_2⟩
 refine ⟨_, rfl, fun _ F11 => ?_⟩
 have S10 : Mv _ _ [bx r0_b_6 [.slice Q1 Q0 Q2, .int .i64 ((i2_10 : Nat) : Int), .int .i64 h2_10] 80, bx b1 [.slice none 0 0, .slice none 0 0, .slice none 0 0] 29] _ := At.frame S6.at' [0] rfl m10
 have V10_0 : Rd 2 encC okC (V H w [bx r0_b_6 [.slice Q1 Q0 Q2, .int .i64 ((i2_10 : Nat) : Int), .int .i64 h2_10] 80, bx b1 [.slice none 0 0, .slice none 0 0, .slice none 0 0] 29]) w10 (.slice Q6 Q8 Q7) d_10.store := Rd.gotP (New := [bx r0_b_6 [.slice Q1 Q0 Q2, .int .i64 ((i2_10 : Nat) : Int), .int .i64 h2_10] 80]) (is := [0]) S6.at' ((S1.trans S6).kp.size) (fresh_nil (S1.trans S6)) v10_0
 obtain ⟨ln10_0, le10_0, mx10_0, ni10_0⟩ := Rd.inv V10_0
 have V10_1 : Rd 1 encS okS (V H w [bx r0_b_6 [.slice Q1 Q0 Q2, .int .i64 ((i2_10 : Nat) : Int), .int .i64 h2_10] 80, bx b1 [.slice none 0 0, .slice none 0 0, .slice none 0 0] 29]) w10 (.slice Q3 Q5 Q4) d_10.touch.reads := Rd.gotP (New := [bx r0_b_6 [.slice Q1 Q0 Q2, .int .i64 ((i2_10 : Nat) : Int), .int .i64 h2_10] 80]) (is := [0]) S6.at' ((S1.trans S6).kp.size) (fresh_nil (S1.trans S6)) v10_1
 obtain ⟨ln10_1, le10_1, mx10_1, ni10_1⟩ := Rd.inv V10_1
 have V10_2 : Rd 1 encS okS (V H w [bx r0_b_6 [.slice Q1 Q0 Q2, .int .i64 ((i2_10 : Nat) : Int), .int .i64 h2_10] 80, bx b1 [.slice none 0 0, .slice none 0 0, .slice none 0 0] 29]) w10 (.slice Q9 Q11 Q10) d_10.touch.writes := Rd.gotP (New := [bx r0_b_6 [.slice Q1 Q0 Q2, .int .i64 ((i2_10 : Nat) : Int), .int .i64 h2_10] 80]) (is := [0]) S6.at' ((S1.trans S6).kp.size) (fresh_nil (S1.trans S6)) v10_2
 obtain ⟨ln10_2, le10_2, mx10_2, ni10_2⟩ := Rd.inv V10_2
 clear m10 v10_0 v10_1 v10_2
 refine l_op (f_mv F11 rfl rfl rfl rfl rfl fun _ F12 => ?_)
 refine l_op (f_call F12 CF_36 rfl rfl rfl rfl (lc (F12.ev 10 rfl) (lc rfl rfl)) (spec_l01Below_c (c := (⟨code, i2_10, h2_10⟩ : CurD)) (n := 4) (RdA.mv (Nat.succ_pos _) Q12 (S1.trans (S6.trans S10))) (by unfold i64ok; (try dsimp only); omega) (by first | assumption | exact w64_ok _ | exact ⟨by omega, by omega⟩ | (unfold i64ok at *; omega)) (by first | assumption | exact ⟨by omega, by omega⟩ | (unfold i64ok at *; omega)) (by first | assumption | omega | (simp <;> omega)) (At.pick (is := [0]) S10.at' rfl) (V_off (is := [0]))) ?_)
 rintro _ w13 ⟨i2_13, h2_13, r_13, rfl, m13, q13_0, q13_1, q13_2, q13_3⟩
 refine ⟨_, rfl, fun _ F14 => ?_⟩
 have S13 : Mv _ _ [bx r0_b_6 [.slice Q1 Q0 Q2, .int .i64 ((i2_13 : Nat) : Int), .int .i64 h2_13] 80, bx b1 [.slice none 0 0, .slice none 0 0, .slice none 0 0] 29] _ := At.frame S10.at' [0] rfl m13
 clear m13
 refine l_op (f_mv F14 rfl rfl rfl rfl rfl fun _ F15 => ?_)
 refine l_op (f_buildSl (ok := okI) (vs := [.int .i64 0, .int .i64 1, .int .i64 3, .int .i64 4, .int .i64 (-1)]) F15 S13.at' ([0, 1, 3, 4, (-1)]) ET_47 rfl rfl rfl rfl rfl rfl (lc (pr2 rfl) (lc (pr2 rfl) (lc (pr2 rfl) (lc (pr2 rfl) (lc (pr2 rfl) rfl))))) rfl rfl (fun x hx => by (repeat (first | (rcases List.mem_cons.1 hx with hx | hx; (subst hx; first | exact ⟨by omega, by omega⟩ | exact ⟨by omega, by omega⟩ | exact ⟨by omega, by omega⟩ | exact ⟨by omega, by omega⟩ | exact ⟨by omega, by omega⟩)) | exact (List.not_mem_nil hx).elim))) fun b16 _ w16 F17 S16 => ?_)
 refine l_op (f_call F17 CF_37 rfl rfl rfl rfl (lc (F17.ev 12 rfl) (lc (F17.ev 13 rfl) rfl)) (spec_l01PickInt_c (H := fun b => ¬ fps (sel [ow 3 1 encI okI (.slice (some ⟨b16, 0, none⟩) 5 5) ([0, 1, 3, 4, (-1)]), bx r0_b_6 [.slice Q1 Q0 Q2, .int .i64 ((i2_13 : Nat) : Int), .int .i64 h2_13] 80, bx b1 [.slice none 0 0, .slice none 0 0, .slice none 0 0] 29] [1]) b) (c := (⟨code, i2_13, h2_13⟩ : CurD)) (list := [0, 1, 3, 4, (-1)]) (RdA.mono (RdA.mv (Nat.succ_pos _) Q12 (S1.trans (S6.trans (S10.trans (S13.trans S16))))) (V_off (is := [1]))) (by unfold i64ok; (try dsimp only); omega) (by first | assumption | exact w64_ok _ | exact ⟨by omega, by omega⟩ | (unfold i64ok at *; omega)) (At.rdOff S16.at' ET_47.hk 0 rfl [1] rfl) (by first | assumption | omega | (simp <;> omega)) (by first | assumption | omega | (simp <;> omega)) (At.pick (is := [1]) S16.at' rfl) (fun _ h => h)) ?_)
 rintro _ w18 ⟨i2_18, h2_18, r_18, rfl, m18, q18_0, q18_1, q18_2⟩
 refine ⟨_, rfl, fun _ F19 => ?_⟩
 have S18 : Mv _ _ [bx r0_b_6 [.slice Q1 Q0 Q2, .int .i64 ((i2_18 : Nat) : Int), .int .i64 h2_18] 80, ow 3 1 encI okI (.slice (some ⟨b16, 0, none⟩) 5 5) ([0, 1, 3, 4, (-1)]), bx b1 [.slice none 0 0, .slice none 0 0, .slice none 0 0] 29] _ := At.frame S16.at' [1] rfl m18
 clear m18
 refine l_op (s_store S18.at' 2 TI_29 rfl rfl rfl rfl rfl (F19.ev 2 rfl) (F19.ev 9 rfl) rfl rfl rfl rfl rfl fun w20 S20 => ?_)
 refine l_op (f_as F19 rfl rfl rfl rfl rfl fun _ F21 => ?_)
 refine l_op (f_as F21 rfl rfl rfl rfl rfl fun _ F22 => ?_)
 have T23 : Mv _ _ [bx b1 [.slice Q6 Q8 Q7, .slice Q3 Q5 Q4, .slice Q9 Q11 Q10] 29, bx r0_b_6 [.slice Q1 Q0 Q2, .int .i64 ((i2_18 : Nat) : Int), .int .i64 h2_18] 80, ow 3 1 encI okI (.slice (some ⟨b16, 0, none⟩) 5 5) ([0, 1, 3, 4, (-1)])] _ := S20
 refine s_end (x_normal (wp_ret ?_))
 refine x_done (v := .tuple #[.agg #[.slice Q6 Q8 Q7, .slice Q3 Q5 Q4, .slice Q9 Q11 Q10], .int .i64 ((r_13 : Nat) : Int), .int .i64 r_18]) F22 (results_3 Tryz.results9 (.cell (F22.ev 2 rfl) (run_loadVar' TI_29 _ [.slice Q6 Q8 Q7, .slice Q3 Q5 Q4, .slice Q9 Q11 Q10] rfl (fun h => nomatch h) (At.cells T23.at' 0 rfl 0 [.slice Q6 Q8 Q7, .slice Q3 Q5 Q4, .slice Q9 Q11 Q10] rfl))) (.tmp (F22.ev 3 rfl)) (.tmp (F22.ev 4 rfl))) ?_
 exact ⟨d_10, r_13, r_18, Q6, Q8, Q7, Q3, Q5, Q4, Q9, Q11, Q10, rfl, (Mv.pick (S1.trans (S6.trans (S10.trans (S13.trans (S16.trans (S18.trans T23)))))) [] rfl), (Rd.give (Rd.mq V10_0 (S13.trans (S16.trans (S18.trans T23))))), (Rd.give (Rd.mq V10_1 (S13.trans (S16.trans (S18.trans T23))))), (Rd.give (Rd.mq V10_2 (S13.trans (S16.trans (S18.trans T23))))), by first | assumption | exact w64_ok _ | omega | (unfold i64ok; omega), by first | assumption | exact w64_ok _ | omega | (unfold i64ok; omega), by first | assumption | exact w64_ok _ | omega | (unfold i64ok; omega)⟩
theorem spec_DrawForkPages_c {w : World} {H : Nat → Prop} {code : List Nat} {Q1 : Option Addr} {Q0 Q2 : Nat} (Q22 : RdA 1 encB okB H w (.slice Q1 Q0 Q2) code) (p0 : Q0 ≤ 1048576) :
    Calls Tryz.prog 12 #[.slice Q1 Q0 Q2] w fun e w' => ∃ (d : MachD), ∃ (a : Nat), ∃ (b : Nat), ∃ (Q16 : Option Addr), ∃ (Q18 : Nat), ∃ (Q17 : Nat), ∃ (Q13 : Option Addr), ∃ (Q15 : Nat), ∃ (Q14 : Nat), ∃ (Q19 : Option Addr), ∃ (Q21 : Nat), ∃ (Q20 : Nat), e = .returned (.tuple #[.agg #[.slice Q16 Q18 Q17, .slice Q13 Q15 Q14, .slice Q19 Q21 Q20], .int .i64 ((a : Nat) : Int), .int .i64 ((b : Nat) : Int)]) ∧ Mv [] w [] w' ∧ Rd 2 encC okC (Fsh H w) w' (.slice Q16 Q18 Q17) d.store ∧ Rd 1 encS okS (Fsh H w) w' (.slice Q13 Q15 Q14) d.touch.reads ∧ Rd 1 encS okS (Fsh H w) w' (.slice Q19 Q21 Q20) d.touch.writes ∧ bdC 200000 d ∧ a ≤ 4 ∧ b ≤ 4 := by
 have uU : True := (fun _ => trivial) p0
 clear uU
 have Q12 : RdA 1 encB okB (V H w []) w (.slice Q1 Q0 Q2) code := RdA.start Q22 (fun _ _ => fps_nil _)
 obtain ⟨Q24, Q23, Q25, Q26⟩ := RdA.inv Q22
 refine calls_enter 14 Tryz.func12 rfl Tryz.ntmps12 (Nat.le_of_ble_eq_true rfl) (fun _ F0i => ?_)
 have F0 : Fr 14 [(0, .slice Q1 Q0 Q2)] _ := F0i
 clear F0i
 refine wp_seq (wp_region_lit (l_op (f_alloc F0 (At.nil w) ZI_29 rfl rfl rfl rfl rfl fun b1 _ w1 F2 S1 => ?_)))
 refine l_op (f_val F2 rfl rfl (r_assign rfl rfl) rfl fun _ F3 => ?_)
 refine l_op (f_val F3 rfl rfl (r_assign rfl rfl) rfl fun _ F4 => ?_)
 refine s_end (x_normal (wp_seq (wp_region_lit (l_op (f_mv F4 rfl rfl rfl rfl rfl fun _ F5 => ?_)))))
 refine l_op (f_call F5 CF_34 rfl rfl rfl rfl (lc (F5.ev 6 rfl) rfl) (spec_l01New_c (code := code) (RdA.mv (Nat.succ_pos _) Q12 S1) (by first | assumption | omega | (simp <;> omega))) ?_)
 rintro _ w6 ⟨h2_6, r0_b_6, rfl, m6, q6_0⟩
 refine ⟨_, rfl, fun _ F7 => ?_⟩
 have S6 : Mv _ _ [bx r0_b_6 [.slice Q1 Q0 Q2, .int .i64 ((0 : Nat) : Int), .int .i64 h2_6] 80, bx b1 [.slice none 0 0, .slice none 0 0, .slice none 0 0] 29] _ := At.frame S1.at' [] rfl m6
 clear m6
 refine l_op (f_as F7 rfl rfl rfl rfl rfl fun _ F8 => ?_)
 refine s_end (x_normal (wp_seq (wp_region_lit (l_op (f_mv F8 rfl rfl rfl rfl rfl fun _ F9 => ?_)))))
 refine l_op (f_call F9 CF_35 rfl rfl rfl rfl (lc (F9.ev 8 rfl) rfl) (spec_l11Mach_c (c := (⟨code, 0, h2_6⟩ : CurD)) (RdA.mv (Nat.succ_pos _) Q12 (S1.trans S6)) (by unfold i64ok; (try dsimp only); omega) (by first | assumption | exact w64_ok _ | exact ⟨by omega, by omega⟩ | (unfold i64ok at *; omega)) (by first | assumption | omega | (simp <;> omega)) (At.pick (is := [0]) S6.at' rfl) (V_off (is := [0]))) ?_)
 rintro _ w10 ⟨i2_10, h2_10, d_10, Q6, Q8, Q7, Q3, Q5, Q4, Q9, Q11, Q10, rfl, m10, v10_0, v10_1, v10_2, q10_0, q10_1, q10_2⟩
 refine ⟨_, rfl, fun _ F11 => ?_⟩
 have S10 : Mv _ _ [bx r0_b_6 [.slice Q1 Q0 Q2, .int .i64 ((i2_10 : Nat) : Int), .int .i64 h2_10] 80, bx b1 [.slice none 0 0, .slice none 0 0, .slice none 0 0] 29] _ := At.frame S6.at' [0] rfl m10
 have V10_0 : Rd 2 encC okC (V H w [bx r0_b_6 [.slice Q1 Q0 Q2, .int .i64 ((i2_10 : Nat) : Int), .int .i64 h2_10] 80, bx b1 [.slice none 0 0, .slice none 0 0, .slice none 0 0] 29]) w10 (.slice Q6 Q8 Q7) d_10.store := Rd.gotP (New := [bx r0_b_6 [.slice Q1 Q0 Q2, .int .i64 ((i2_10 : Nat) : Int), .int .i64 h2_10] 80]) (is := [0]) S6.at' ((S1.trans S6).kp.size) (fresh_nil (S1.trans S6)) v10_0
 obtain ⟨ln10_0, le10_0, mx10_0, ni10_0⟩ := Rd.inv V10_0
 have V10_1 : Rd 1 encS okS (V H w [bx r0_b_6 [.slice Q1 Q0 Q2, .int .i64 ((i2_10 : Nat) : Int), .int .i64 h2_10] 80, bx b1 [.slice none 0 0, .slice none 0 0, .slice none 0 0] 29]) w10 (.slice Q3 Q5 Q4) d_10.touch.reads := Rd.gotP (New := [bx r0_b_6 [.slice Q1 Q0 Q2, .int .i64 ((i2_10 : Nat) : Int), .int .i64 h2_10] 80]) (is := [0]) S6.at' ((S1.trans S6).kp.size) (fresh_nil (S1.trans S6)) v10_1
 obtain ⟨ln10_1, le10_1, mx10_1, ni10_1⟩ := Rd.inv V10_1
 have V10_2 : Rd 1 encS okS (V H w [bx r0_b_6 [.slice Q1 Q0 Q2, .int .i64 ((i2_10 : Nat) : Int), .int .i64 h2_10] 80, bx b1 [.slice none 0 0, .slice none 0 0, .slice none 0 0] 29]) w10 (.slice Q9 Q11 Q10) d_10.touch.writes := Rd.gotP (New := [bx r0_b_6 [.slice Q1 Q0 Q2, .int .i64 ((i2_10 : Nat) : Int), .int .i64 h2_10] 80]) (is := [0]) S6.at' ((S1.trans S6).kp.size) (fresh_nil (S1.trans S6)) v10_2
 obtain ⟨ln10_2, le10_2, mx10_2, ni10_2⟩ := Rd.inv V10_2
 clear m10 v10_0 v10_1 v10_2
 refine l_op (f_mv F11 rfl rfl rfl rfl rfl fun _ F12 => ?_)
 refine l_op (f_call F12 CF_36 rfl rfl rfl rfl (lc (F12.ev 10 rfl) (lc rfl rfl)) (spec_l01Below_c (c := (⟨code, i2_10, h2_10⟩ : CurD)) (n := 4) (RdA.mv (Nat.succ_pos _) Q12 (S1.trans (S6.trans S10))) (by unfold i64ok; (try dsimp only); omega) (by first | assumption | exact w64_ok _ | exact ⟨by omega, by omega⟩ | (unfold i64ok at *; omega)) (by first | assumption | exact ⟨by omega, by omega⟩ | (unfold i64ok at *; omega)) (by first | assumption | omega | (simp <;> omega)) (At.pick (is := [0]) S10.at' rfl) (V_off (is := [0]))) ?_)
 rintro _ w13 ⟨i2_13, h2_13, r_13, rfl, m13, q13_0, q13_1, q13_2, q13_3⟩
 refine ⟨_, rfl, fun _ F14 => ?_⟩
 have S13 : Mv _ _ [bx r0_b_6 [.slice Q1 Q0 Q2, .int .i64 ((i2_13 : Nat) : Int), .int .i64 h2_13] 80, bx b1 [.slice none 0 0, .slice none 0 0, .slice none 0 0] 29] _ := At.frame S10.at' [0] rfl m13
 clear m13
 refine l_op (f_mv F14 rfl rfl rfl rfl rfl fun _ F15 => ?_)
 refine l_op (f_call F15 CF_36 rfl rfl rfl rfl (lc (F15.ev 12 rfl) (lc rfl rfl)) (spec_l01Below_c (c := (⟨code, i2_13, h2_13⟩ : CurD)) (n := 4) (RdA.mv (Nat.succ_pos _) Q12 (S1.trans (S6.trans (S10.trans S13)))) (by unfold i64ok; (try dsimp only); omega) (by first | assumption | exact w64_ok _ | exact ⟨by omega, by omega⟩ | (unfold i64ok at *; omega)) (by first | assumption | exact ⟨by omega, by omega⟩ | (unfold i64ok at *; omega)) (by first | assumption | omega | (simp <;> omega)) (At.pick (is := [0]) S13.at' rfl) (V_off (is := [0]))) ?_)
 rintro _ w16 ⟨i2_16, h2_16, r_16, rfl, m16, q16_0, q16_1, q16_2, q16_3⟩
 refine ⟨_, rfl, fun _ F17 => ?_⟩
 have S16 : Mv _ _ [bx r0_b_6 [.slice Q1 Q0 Q2, .int .i64 ((i2_16 : Nat) : Int), .int .i64 h2_16] 80, bx b1 [.slice none 0 0, .slice none 0 0, .slice none 0 0] 29] _ := At.frame S13.at' [0] rfl m16
 clear m16
 refine l_op (s_store S16.at' 1 TI_29 rfl rfl rfl rfl rfl (F17.ev 2 rfl) (F17.ev 9 rfl) rfl rfl rfl rfl rfl fun w18 S18 => ?_)
 refine l_op (f_as F17 rfl rfl rfl rfl rfl fun _ F19 => ?_)
 refine l_op (f_as F19 rfl rfl rfl rfl rfl fun _ F20 => ?_)
 have T21 : Mv _ _ [bx b1 [.slice Q6 Q8 Q7, .slice Q3 Q5 Q4, .slice Q9 Q11 Q10] 29, bx r0_b_6 [.slice Q1 Q0 Q2, .int .i64 ((i2_16 : Nat) : Int), .int .i64 h2_16] 80] _ := S18
 refine s_end (x_normal (wp_ret ?_))
 refine x_done (v := .tuple #[.agg #[.slice Q6 Q8 Q7, .slice Q3 Q5 Q4, .slice Q9 Q11 Q10], .int .i64 ((r_13 : Nat) : Int), .int .i64 ((r_16 : Nat) : Int)]) F20 (results_3 Tryz.results12 (.cell (F20.ev 2 rfl) (run_loadVar' TI_29 _ [.slice Q6 Q8 Q7, .slice Q3 Q5 Q4, .slice Q9 Q11 Q10] rfl (fun h => nomatch h) (At.cells T21.at' 0 rfl 0 [.slice Q6 Q8 Q7, .slice Q3 Q5 Q4, .slice Q9 Q11 Q10] rfl))) (.tmp (F20.ev 3 rfl)) (.tmp (F20.ev 4 rfl))) ?_
 exact ⟨d_10, r_13, r_16, Q6, Q8, Q7, Q3, Q5, Q4, Q9, Q11, Q10, rfl, (Mv.pick (S1.trans (S6.trans (S10.trans (S13.trans (S16.trans T21))))) [] rfl), (Rd.give (Rd.mq V10_0 (S13.trans (S16.trans T21)))), (Rd.give (Rd.mq V10_1 (S13.trans (S16.trans T21)))), (Rd.give (Rd.mq V10_2 (S13.trans (S16.trans T21)))), by first | assumption | exact w64_ok _ | omega | (unfold i64ok; omega), by first | assumption | exact w64_ok _ | omega | (unfold i64ok; omega), by first | assumption | exact w64_ok _ | omega | (unfold i64ok; omega)⟩
theorem spec_l11One_c {w : World} {H : Nat → Prop} {code : List Nat} {Q1 : Option Addr} {Q0 Q2 : Nat} (Q22 : RdA 1 encB okB H w (.slice Q1 Q0 Q2) code) (p0 : Q0 ≤ 1048576) :
    Calls Tryz.prog 46 #[.slice Q1 Q0 Q2] w fun e w' => ∃ (d : MachD), ∃ (a : Nat), ∃ (Q16 : Option Addr), ∃ (Q18 : Nat), ∃ (Q17 : Nat), ∃ (Q13 : Option Addr), ∃ (Q15 : Nat), ∃ (Q14 : Nat), ∃ (Q19 : Option Addr), ∃ (Q21 : Nat), ∃ (Q20 : Nat), e = .returned (.tuple #[.agg #[.slice Q16 Q18 Q17, .slice Q13 Q15 Q14, .slice Q19 Q21 Q20], .int .i64 ((a : Nat) : Int)]) ∧ Mv [] w [] w' ∧ Rd 2 encC okC (Fsh H w) w' (.slice Q16 Q18 Q17) d.store ∧ Rd 1 encS okS (Fsh H w) w' (.slice Q13 Q15 Q14) d.touch.reads ∧ Rd 1 encS okS (Fsh H w) w' (.slice Q19 Q21 Q20) d.touch.writes ∧ bdC 200000 d ∧ a ≤ 4 := by
 have uU : True := (fun _ => trivial) p0
 clear uU
 have Q12 : RdA 1 encB okB (V H w []) w (.slice Q1 Q0 Q2) code := RdA.start Q22 (fun _ _ => fps_nil _)
 obtain ⟨Q24, Q23, Q25, Q26⟩ := RdA.inv Q22
 refine calls_enter 11 Tryz.func46 rfl Tryz.ntmps46 (Nat.le_of_ble_eq_true rfl) (fun _ F0i => ?_)
 have F0 : Fr 11 [(0, .slice Q1 Q0 Q2)] _ := F0i
 clear F0i
 refine wp_seq (wp_region_lit (l_op (f_alloc F0 (At.nil w) ZI_29 rfl rfl rfl rfl rfl fun b1 _ w1 F2 S1 => ?_)))
 refine l_op (f_val F2 rfl rfl (r_assign rfl rfl) rfl fun _ F3 => ?_)
 refine s_end (x_normal (wp_seq (wp_region_lit (l_op (f_mv F3 rfl rfl rfl rfl rfl fun _ F4 => ?_)))))
 refine l_op (f_call F4 CF_34 rfl rfl rfl rfl (lc (F4.ev 5 rfl) rfl) (spec_l01New_c (code := code) (RdA.mv (Nat.succ_pos _) Q12 S1) (by first | assumption | omega | (simp <;> omega))) ?_)
 rintro _ w5 ⟨h2_5, r0_b_5, rfl, m5, q5_0⟩
 refine ⟨_, rfl, fun _ F6 => ?_⟩
 have S5 : Mv _ _ [bx r0_b_5 [.slice Q1 Q0 Q2, .int .i64 ((0 : Nat) : Int), .int .i64 h2_5] 80, bx b1 [.slice none 0 0, .slice none 0 0, .slice none 0 0] 29] _ := At.frame S1.at' [] rfl m5
 clear m5
 refine l_op (f_as F6 rfl rfl rfl rfl rfl fun _ F7 => ?_)
 refine s_end (x_normal (wp_seq (wp_region_lit (l_op (f_mv F7 rfl rfl rfl rfl rfl fun _ F8 => ?_)))))
 refine l_op (f_call F8 CF_35 rfl rfl rfl rfl (lc (F8.ev 7 rfl) rfl) (spec_l11Mach_c (c := (⟨code, 0, h2_5⟩ : CurD)) (RdA.mv (Nat.succ_pos _) Q12 (S1.trans S5)) (by unfold i64ok; (try dsimp only); omega) (by first | assumption | exact w64_ok _ | exact ⟨by omega, by omega⟩ | (unfold i64ok at *; omega)) (by first | assumption | omega | (simp <;> omega)) (At.pick (is := [0]) S5.at' rfl) (V_off (is := [0]))) ?_)
 rintro _ w9 ⟨i2_9, h2_9, d_9, Q6, Q8, Q7, Q3, Q5, Q4, Q9, Q11, Q10, rfl, m9, v9_0, v9_1, v9_2, q9_0, q9_1, q9_2⟩
 refine ⟨_, rfl, fun _ F10 => ?_⟩
 have S9 : Mv _ _ [bx r0_b_5 [.slice Q1 Q0 Q2, .int .i64 ((i2_9 : Nat) : Int), .int .i64 h2_9] 80, bx b1 [.slice none 0 0, .slice none 0 0, .slice none 0 0] 29] _ := At.frame S5.at' [0] rfl m9
 have V9_0 : Rd 2 encC okC (V H w [bx r0_b_5 [.slice Q1 Q0 Q2, .int .i64 ((i2_9 : Nat) : Int), .int .i64 h2_9] 80, bx b1 [.slice none 0 0, .slice none 0 0, .slice none 0 0] 29]) w9 (.slice Q6 Q8 Q7) d_9.store := Rd.gotP (New := [bx r0_b_5 [.slice Q1 Q0 Q2, .int .i64 ((i2_9 : Nat) : Int), .int .i64 h2_9] 80]) (is := [0]) S5.at' ((S1.trans S5).kp.size) (fresh_nil (S1.trans S5)) v9_0
 obtain ⟨ln9_0, le9_0, mx9_0, ni9_0⟩ := Rd.inv V9_0
 have V9_1 : Rd 1 encS okS (V H w [bx r0_b_5 [.slice Q1 Q0 Q2, .int .i64 ((i2_9 : Nat) : Int), .int .i64 h2_9] 80, bx b1 [.slice none 0 0, .slice none 0 0, .slice none 0 0] 29]) w9 (.slice Q3 Q5 Q4) d_9.touch.reads := Rd.gotP (New := [bx r0_b_5 [.slice Q1 Q0 Q2, .int .i64 ((i2_9 : Nat) : Int), .int .i64 h2_9] 80]) (is := [0]) S5.at' ((S1.trans S5).kp.size) (fresh_nil (S1.trans S5)) v9_1
 obtain ⟨ln9_1, le9_1, mx9_1, ni9_1⟩ := Rd.inv V9_1
 have V9_2 : Rd 1 encS okS (V H w [bx r0_b_5 [.slice Q1 Q0 Q2, .int .i64 ((i2_9 : Nat) : Int), .int .i64 h2_9] 80, bx b1 [.slice none 0 0, .slice none 0 0, .slice none 0 0] 29]) w9 (.slice Q9 Q11 Q10) d_9.touch.writes := Rd.gotP (New := [bx r0_b_5 [.slice Q1 Q0 Q2, .int .i64 ((i2_9 : Nat) : Int), .int .i64 h2_9] 80]) (is := [0]) S5.at' ((S1.trans S5).kp.size) (fresh_nil (S1.trans S5)) v9_2
 obtain ⟨ln9_2, le9_2, mx9_2, ni9_2⟩ := Rd.inv V9_2
 clear m9 v9_0 v9_1 v9_2
 refine l_op (f_mv F10 rfl rfl rfl rfl rfl fun _ F11 => ?_)
 refine l_op (f_call F11 CF_36 rfl rfl rfl rfl (lc (F11.ev 9 rfl) (lc rfl rfl)) (spec_l01Below_c (c := (⟨code, i2_9, h2_9⟩ : CurD)) (n := 4) (RdA.mv (Nat.succ_pos _) Q12 (S1.trans (S5.trans S9))) (by unfold i64ok; (try dsimp only); omega) (by first | assumption | exact w64_ok _ | exact ⟨by omega, by omega⟩ | (unfold i64ok at *; omega)) (by first | assumption | exact ⟨by omega, by omega⟩ | (unfold i64ok at *; omega)) (by first | assumption | omega | (simp <;> omega)) (At.pick (is := [0]) S9.at' rfl) (V_off (is := [0]))) ?_)
 rintro _ w12 ⟨i2_12, h2_12, r_12, rfl, m12, q12_0, q12_1, q12_2, q12_3⟩
 refine ⟨_, rfl, fun _ F13 => ?_⟩
 have S12 : Mv _ _ [bx r0_b_5 [.slice Q1 Q0 Q2, .int .i64 ((i2_12 : Nat) : Int), .int .i64 h2_12] 80, bx b1 [.slice none 0 0, .slice none 0 0, .slice none 0 0] 29] _ := At.frame S9.at' [0] rfl m12
 clear m12
 refine l_op (s_store S12.at' 1 TI_29 rfl rfl rfl rfl rfl (F13.ev 2 rfl) (F13.ev 8 rfl) rfl rfl rfl rfl rfl fun w14 S14 => ?_)
 refine l_op (f_as F13 rfl rfl rfl rfl rfl fun _ F15 => ?_)
 refine s_end (x_normal (wp_ret ?_))
 refine x_done (v := .tuple #[.agg #[.slice Q6 Q8 Q7, .slice Q3 Q5 Q4, .slice Q9 Q11 Q10], .int .i64 ((r_12 : Nat) : Int)]) F15 (results_2 Tryz.results46 (.cell (F15.ev 2 rfl) (run_loadVar' TI_29 _ [.slice Q6 Q8 Q7, .slice Q3 Q5 Q4, .slice Q9 Q11 Q10] rfl (fun h => nomatch h) (At.cells S14.at' 0 rfl 0 [.slice Q6 Q8 Q7, .slice Q3 Q5 Q4, .slice Q9 Q11 Q10] rfl))) (.tmp (F15.ev 3 rfl))) ?_
 exact ⟨d_9, r_12, Q6, Q8, Q7, Q3, Q5, Q4, Q9, Q11, Q10, rfl, (Mv.pick (S1.trans (S5.trans (S9.trans (S12.trans S14)))) [] rfl), (Rd.give (Rd.mq V9_0 (S12.trans S14))), (Rd.give (Rd.mq V9_1 (S12.trans S14))), (Rd.give (Rd.mq V9_2 (S12.trans S14))), by first | assumption | exact w64_ok _ | omega | (unfold i64ok; omega), by first | assumption | exact w64_ok _ | omega | (unfold i64ok; omega)⟩
theorem spec_DrawPagesOf_c {w : World} {H : Nat → Prop} {code : List Nat} {Q10 : Option Addr} {Q0 Q11 : Nat} (Q21 : RdA 1 encB okB H w (.slice Q10 Q0 Q11) code) (p0 : Q0 ≤ 1048576) :
    Calls Tryz.prog 14 #[.slice Q10 Q0 Q11] w fun e w' => ∃ (d : MachD), ∃ (a : Nat), ∃ (Q15 : Option Addr), ∃ (Q17 : Nat), ∃ (Q16 : Nat), ∃ (Q12 : Option Addr), ∃ (Q14 : Nat), ∃ (Q13 : Nat), ∃ (Q18 : Option Addr), ∃ (Q20 : Nat), ∃ (Q19 : Nat), e = .returned (.tuple #[.agg #[.slice Q15 Q17 Q16, .slice Q12 Q14 Q13, .slice Q18 Q20 Q19], .int .i64 ((a : Nat) : Int)]) ∧ Mv [] w [] w' ∧ Rd 2 encC okC (Fsh H w) w' (.slice Q15 Q17 Q16) d.store ∧ Rd 1 encS okS (Fsh H w) w' (.slice Q12 Q14 Q13) d.touch.reads ∧ Rd 1 encS okS (Fsh H w) w' (.slice Q18 Q20 Q19) d.touch.writes ∧ bdC 200000 d ∧ a ≤ 4 := by
 have uU : True := (fun _ => trivial) p0
 clear uU
 have Q22 : RdA 1 encB okB (V H w []) w (.slice Q10 Q0 Q11) code := RdA.start Q21 (fun _ _ => fps_nil _)
 obtain ⟨Q24, Q23, Q25, Q26⟩ := RdA.inv Q21
 refine calls_enter 8 Tryz.func14 rfl Tryz.ntmps14 (Nat.le_of_ble_eq_true rfl) (fun _ F0i => ?_)
 have F0 : Fr 8 [(0, .slice Q10 Q0 Q11)] _ := F0i
 clear F0i
 refine wp_seq (wp_region_lit (l_op (f_alloc F0 (At.nil w) ZI_29 rfl rfl rfl rfl rfl fun b1 _ w1 F2 S1 => ?_)))
 refine l_op (f_val F2 rfl rfl (r_assign rfl rfl) rfl fun _ F3 => ?_)
 refine s_end (x_normal (wp_seq (wp_region_lit (l_op (f_mv F3 rfl rfl rfl rfl rfl fun _ F4 => ?_)))))
 refine l_op (f_call F4 CF_46 rfl rfl rfl rfl (lc (F4.ev 4 rfl) rfl) (spec_l11One_c (code := code) (RdA.mv (Nat.succ_pos _) Q22 S1) (by first | assumption | omega | (simp <;> omega))) ?_)
 rintro _ w5 ⟨d_5, a_5, Q4, Q6, Q5, Q1, Q3, Q2, Q7, Q9, Q8, rfl, m5, v5_0, v5_1, v5_2, q5_0, q5_1⟩
 refine ⟨_, rfl, fun _ F6 => ?_⟩
 have S5 := At.frame0 S1.at' m5
 have V5_0 := Rd.got0 S1.at' (S1.kp.size) v5_0 S5
 obtain ⟨ln5_0, le5_0, mx5_0, ni5_0⟩ := Rd.inv V5_0
 have V5_1 := Rd.got0 S1.at' (S1.kp.size) v5_1 S5
 obtain ⟨ln5_1, le5_1, mx5_1, ni5_1⟩ := Rd.inv V5_1
 have V5_2 := Rd.got0 S1.at' (S1.kp.size) v5_2 S5
 obtain ⟨ln5_2, le5_2, mx5_2, ni5_2⟩ := Rd.inv V5_2
 clear m5 v5_0 v5_1 v5_2
 refine l_op (f_val (v := .agg #[.slice Q4 Q6 Q5, .slice Q1 Q3 Q2, .slice Q7 Q9 Q8]) F6 rfl rfl (r_extract rfl (F6.ev 5 rfl) rfl) rfl fun _ F7 => ?_)
 refine l_op (f_val (v := .int .i64 ((a_5 : Nat) : Int)) F7 rfl rfl (r_extract rfl (F7.ev 5 rfl) rfl) rfl fun _ F8 => ?_)
 refine l_op (s_store S5.at' 0 TI_29 rfl rfl rfl rfl rfl (F8.ev 2 rfl) (F8.ev 6 rfl) rfl rfl rfl rfl rfl fun w9 S9 => ?_)
 refine l_op (f_as F8 rfl rfl rfl rfl rfl fun _ F10 => ?_)
 refine s_end (x_normal (wp_ret ?_))
 refine x_done (v := .tuple #[.agg #[.slice Q4 Q6 Q5, .slice Q1 Q3 Q2, .slice Q7 Q9 Q8], .int .i64 ((a_5 : Nat) : Int)]) F10 (results_2 Tryz.results14 (.cell (F10.ev 2 rfl) (run_loadVar' TI_29 _ [.slice Q4 Q6 Q5, .slice Q1 Q3 Q2, .slice Q7 Q9 Q8] rfl (fun h => nomatch h) (At.cells S9.at' 0 rfl 0 [.slice Q4 Q6 Q5, .slice Q1 Q3 Q2, .slice Q7 Q9 Q8] rfl))) (.tmp (F10.ev 3 rfl))) ?_
 exact ⟨d_5, a_5, Q4, Q6, Q5, Q1, Q3, Q2, Q7, Q9, Q8, rfl, (Mv.pick (S1.trans (S5.trans S9)) [] rfl), (Rd.give (Rd.mq V5_0 S9)), (Rd.give (Rd.mq V5_1 S9)), (Rd.give (Rd.mq V5_2 S9)), by first | assumption | exact w64_ok _ | omega | (unfold i64ok; omega), by first | assumption | exact w64_ok _ | omega | (unfold i64ok; omega)⟩
end Go.Proofs.YtibgmijfnbnfkaaGreatDoor
