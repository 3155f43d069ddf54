/-
  Walks: a key is laid, a beginning is wiped.
-/
import Derived.Test.YtibgmijfnbnfkaaGreatDoorDat
import Derived.Test.YtibgmijfnbnfkaaGreatDoorGenQ
namespace Go.Proofs.YtibgmijfnbnfkaaGreatDoor
open Go.ChangeShapes Go.WideShapes Go.ChangeAt Go.RowKit
set_option maxRecDepth 100000
set_option maxHeartbeats 1000000
theorem spec_l04Lay_c {w : World} {H : Nat → Prop} {m : MachD} {m_Sa : Option Addr} {m_Sn m_Sc : Nat} {m_Ra : Option Addr} {m_Rn m_Rc : Nat} {m_Wa : Option Addr} {m_Wn m_Wc : Nat} {key : ByteArray} {val : ByteArray} (Q16 : Rd 2 encC okC H w (.slice m_Sa m_Sn m_Sc) m.store) (Q17 : Rd 1 encS okS H w (.slice m_Ra m_Rn m_Rc) m.touch.reads) (Q18 : Rd 1 encS okS H w (.slice m_Wa m_Wn m_Wc) m.touch.writes) (Q6 : okS key) (Q22 : okS val) (p0 : m.store.length ≤ 274877906943) (p1 : m.touch.writes.length ≤ 274877906943) :
    Calls Tryz.prog 67 #[.agg #[.slice m_Sa m_Sn m_Sc, .slice m_Ra m_Rn m_Rc, .slice m_Wa m_Wn m_Wc], .string key, .string val] w fun e w' => ∃ (Q10 : Option Addr), ∃ (Q12 : Nat), ∃ (Q11 : Nat), ∃ (Q7 : Option Addr), ∃ (Q9 : Nat), ∃ (Q8 : Nat), ∃ (Q13 : Option Addr), ∃ (Q15 : Nat), ∃ (Q14 : Nat), e = .returned (.agg #[.slice Q10 Q12 Q11, .slice Q7 Q9 Q8, .slice Q13 Q15 Q14]) ∧ Mv [] w [] w' ∧ Rd 2 encC okC (Fsh H w) w' (.slice Q10 Q12 Q11) (layM m key val).store ∧ Rd 1 encS okS (Fsh H w) w' (.slice Q7 Q9 Q8) (layM m key val).touch.reads ∧ Rd 1 encS okS (Fsh H w) w' (.slice Q13 Q15 Q14) (layM m key val).touch.writes := by
 have uU : True := (fun _ _ => trivial) p0 p1
 clear uU
 have Q19 : Rd 2 encC okC (V H w []) w (.slice m_Sa m_Sn m_Sc) m.store := Rd.start Q16 (fun _ _ => fps_nil _)
 obtain ⟨Q26, Q23, Q32, Q35⟩ := Rd.inv Q16
 have Q20 : Rd 1 encS okS (V H w []) w (.slice m_Ra m_Rn m_Rc) m.touch.reads := Rd.start Q17 (fun _ _ => fps_nil _)
 obtain ⟨Q27, Q24, Q33, Q36⟩ := Rd.inv Q17
 have Q21 : Rd 1 encS okS (V H w []) w (.slice m_Wa m_Wn m_Wc) m.touch.writes := Rd.start Q18 (fun _ _ => fps_nil _)
 obtain ⟨Q28, Q25, Q34, Q37⟩ := Rd.inv Q18
 refine calls_enter 21 Tryz.func67 rfl Tryz.ntmps67 (Nat.le_of_ble_eq_true rfl) (fun _ F0i => ?_)
 have F0 : Fr 21 [(0, .agg #[.slice m_Sa m_Sn m_Sc, .slice m_Ra m_Rn m_Rc, .slice m_Wa m_Wn m_Wc]), (1, .string key), (2, .string val)] _ := F0i
 clear F0i
 refine wp_seq (wp_region_lit (l_op (f_box F0 (At.nil w) rfl rfl rfl (F0.ev 0 rfl) rfl rfl fun b1 _ w1 F2 S1 => ?_)))
 refine l_op (f_alloc F2 S1.at' ZI_29 rfl rfl rfl rfl rfl fun b3 _ w3 F4 S3 => ?_)
 refine s_end (x_normal (wp_seq (wp_region_lit (l_op (f_val F4 rfl rfl (r_field FI_29_1 rfl (F4.ev 3 rfl) rfl) rfl fun _ F5 => ?_)))))
 refine l_op (f_val F5 rfl rfl (r_field FI_27_1 rfl (F5.ev 7 rfl) rfl) rfl fun _ F6 => ?_)
 refine l_op (f_val (v := .slice m_Wa m_Wn m_Wc) F6 rfl rfl (r_loadB S3.at' 1 TI_25 rfl rfl (F6.ev 8 rfl) rfl rfl (fun _ => rfl) rfl) rfl fun _ F7 => ?_)
 refine l_op (f_mv F7 rfl rfl rfl rfl rfl fun _ F8 => ?_)
 refine l_op (f_call F8 CF_96 rfl rfl rfl rfl (lc (F8.ev 9 rfl) (lc (F8.ev 10 rfl) rfl)) (spec_AddSpan_c (list := m.touch.writes) (span := key) (Rd.mq Q21 (S1.trans S3)) Q6 (by first | assumption | omega | (simp <;> omega))) ?_)
 rintro _ w9 ⟨Q3, Q5, Q4, rfl, m9, v9_0⟩
 refine ⟨_, rfl, fun _ F10 => ?_⟩
 have S9 := At.frame0 S3.at' m9
 have V9_0 := Rd.got0 S3.at' ((S1.trans S3).kp.size) v9_0 S9
 obtain ⟨ln9_0, le9_0, mx9_0, ni9_0⟩ := Rd.inv V9_0
 clear m9 v9_0
 refine l_op (f_val F10 rfl rfl (r_field FI_29_1 rfl (F10.ev 3 rfl) rfl) rfl fun _ F11 => ?_)
 refine l_op (f_val F11 rfl rfl (r_field FI_27_1 rfl (F11.ev 12 rfl) rfl) rfl fun _ F12 => ?_)
 refine l_op (s_store S9.at' 1 TI_25 rfl rfl rfl rfl rfl (F12.ev 13 rfl) (F12.ev 11 rfl) rfl rfl rfl rfl rfl fun w13 S13 => ?_)
 refine s_end (x_normal (wp_seq (wp_region_lit (l_op (f_val F12 rfl rfl (r_field FI_29_0 rfl (F12.ev 3 rfl) rfl) rfl fun _ F14 => ?_)))))
 refine l_op (f_val (v := .slice m_Sa m_Sn m_Sc) F14 rfl rfl (r_loadB S13.at' 0 TI_24 rfl rfl (F14.ev 14 rfl) rfl rfl (fun _ => rfl) rfl) rfl fun _ F15 => ?_)
 refine l_op (f_mv F15 rfl rfl rfl rfl rfl fun _ F16 => ?_)
 refine l_op (f_mv F16 rfl rfl rfl rfl rfl fun _ F17 => ?_)
 refine l_op (f_call F17 CF_97 rfl rfl rfl rfl (lc (F17.ev 15 rfl) (lc (F17.ev 16 rfl) (lc (F17.ev 17 rfl) rfl))) (spec_PutKey_c (s := m.store) (key := key) (val := val) (Rd.mq Q19 (S1.trans (S3.trans (S9.trans S13)))) Q6 Q22 (by first | assumption | omega | (simp <;> omega))) ?_)
 rintro _ w18 ⟨Q0, Q2, Q1, rfl, m18⟩
 refine ⟨_, rfl, fun _ F19 => ?_⟩
 have S18 : Mv _ _ [ow 73 2 encC okC (.slice Q0 Q2 Q1) (putKey m.store key val), bx b1 [.slice m_Sa m_Sn m_Sc, .slice m_Ra m_Rn m_Rc, .slice Q3 Q5 Q4] 29, bx b3 [.slice none 0 0, .slice none 0 0, .slice none 0 0] 29] _ := At.frame S13.at' [] rfl m18
 obtain ⟨Q29, Q30, Q31⟩ := At.ownInv S18.at' ET_24.hk 0 rfl
 clear m18
 refine l_op (f_val F19 rfl rfl (r_field FI_29_0 rfl (F19.ev 3 rfl) rfl) rfl fun _ F20 => ?_)
 refine l_op (s_store S18.at' 1 TI_24 rfl rfl rfl rfl rfl (F20.ev 19 rfl) (F20.ev 18 rfl) rfl rfl rfl rfl rfl fun w21 S21 => ?_)
 have T22 : Mv _ _ [bx b1 [.slice Q0 Q2 Q1, .slice m_Ra m_Rn m_Rc, .slice Q3 Q5 Q4] 29, ow 73 2 encC okC (.slice Q0 Q2 Q1) (putKey m.store key val), bx b3 [.slice none 0 0, .slice none 0 0, .slice none 0 0] 29] _ := S21
 refine s_end (x_normal (wp_seq (wp_region_lit (l_op (f_val (v := .agg #[.slice Q0 Q2 Q1, .slice m_Ra m_Rn m_Rc, .slice Q3 Q5 Q4]) F20 rfl rfl (r_loadB T22.at' 0 TI_29 rfl rfl (F20.ev 3 rfl) rfl rfl (fun h => nomatch h) rfl) rfl fun _ F23 => ?_)))))
 refine l_op (s_store T22.at' 2 TI_29 rfl rfl rfl rfl rfl (F23.ev 6 rfl) (F23.ev 20 rfl) rfl rfl rfl rfl rfl fun w24 S24 => ?_)
 refine s_end (x_normal (wp_ret ?_))
 have Z25 : Rd 2 encC okC (V H w [bx b3 [.slice Q0 Q2 Q1, .slice m_Ra m_Rn m_Rc, .slice Q3 Q5 Q4] 29, bx b1 [.slice Q0 Q2 Q1, .slice m_Ra m_Rn m_Rc, .slice Q3 Q5 Q4] 29]) w24 (.slice Q0 Q2 Q1) (putKey m.store key val) := At.freeze (S1.trans (S3.trans (S9.trans (S13.trans (S18.trans (T22.trans S24)))))) ET_24.hk 2 rfl (fun b hb => ((S1.trans (S3.trans (S9.trans (S13.trans (S18.trans (T22.trans S24)))))).fresh b ⟨_, nth_mem (i := 2) rfl, hb⟩).resolve_left (fps_nil _))
 have S25 := At.drop S24.at' 2
 refine x_done (v := .agg #[.slice Q0 Q2 Q1, .slice m_Ra m_Rn m_Rc, .slice Q3 Q5 Q4]) F23 (results_1 Tryz.results67 (.cell (F23.ev 6 rfl) (run_loadVar' TI_29 _ [.slice Q0 Q2 Q1, .slice m_Ra m_Rn m_Rc, .slice Q3 Q5 Q4] rfl (fun h => nomatch h) (At.cells S24.at' 0 rfl 0 [.slice Q0 Q2 Q1, .slice m_Ra m_Rn m_Rc, .slice Q3 Q5 Q4] rfl)))) ?_
 exact ⟨Q0, Q2, Q1, m_Ra, m_Rn, m_Rc, Q3, Q5, Q4, rfl, (Mv.pick (S1.trans (S3.trans (S9.trans (S13.trans (S18.trans (T22.trans (S24.trans S25))))))) [] rfl), (Rd.cast (Rd.give Z25) (show (putKey m.store key val) = (layM m key val).store from by rfl)), (Rd.cast (Rd.give (Rd.mq Q20 (S1.trans (S3.trans (S9.trans (S13.trans (S18.trans (T22.trans (S24.trans S25))))))))) (show m.touch.reads = (layM m key val).touch.reads from by rfl)), (Rd.cast (Rd.give (Rd.mq V9_0 (S13.trans (S18.trans (T22.trans (S24.trans S25)))))) (show (putL m.touch.writes key) = (layM m key val).touch.writes from by rfl))⟩
theorem impl_Mach_lay_c {w : World} {H : Nat → Prop} {m : MachD} {m_Sa : Option Addr} {m_Sn m_Sc : Nat} {m_Ra : Option Addr} {m_Rn m_Rc : Nat} {m_Wa : Option Addr} {m_Wn m_Wc : Nat} {m_b : Nat} {key : ByteArray} {val : ByteArray} (Q3 : okS key) (Q16 : okS val) (p0 : m.store.length ≤ 274877906943) (p1 : m.touch.writes.length ≤ 274877906943) (hA : At w [bx m_b [.slice m_Sa m_Sn m_Sc, .slice m_Ra m_Rn m_Rc, .slice m_Wa m_Wn m_Wc] 29, ow 73 2 encC okC (.slice m_Sa m_Sn m_Sc) m.store, ow 9 1 encS okS (.slice m_Ra m_Rn m_Rc) m.touch.reads, ow 9 1 encS okS (.slice m_Wa m_Wn m_Wc) m.touch.writes]) :
    Calls Tryz.prog 74 #[.pointer (some ⟨m_b, 0, none⟩), .string key, .string val] w fun e w' => ∃ (Q7 : Option Addr), ∃ (Q9 : Nat), ∃ (Q8 : Nat), ∃ (Q4 : Option Addr), ∃ (Q6 : Nat), ∃ (Q5 : Nat), ∃ (Q10 : Option Addr), ∃ (Q12 : Nat), ∃ (Q11 : Nat), e = .returned (.tuple #[]) ∧ Mv [bx m_b [.slice m_Sa m_Sn m_Sc, .slice m_Ra m_Rn m_Rc, .slice m_Wa m_Wn m_Wc] 29, ow 73 2 encC okC (.slice m_Sa m_Sn m_Sc) m.store, ow 9 1 encS okS (.slice m_Ra m_Rn m_Rc) m.touch.reads, ow 9 1 encS okS (.slice m_Wa m_Wn m_Wc) m.touch.writes] w [bx m_b [.slice Q7 Q9 Q8, .slice Q4 Q6 Q5, .slice Q10 Q12 Q11] 29, ow 73 2 encC okC (.slice Q7 Q9 Q8) (layM m key val).store, ow 9 1 encS okS (.slice Q4 Q6 Q5) (layM m key val).touch.reads, ow 9 1 encS okS (.slice Q10 Q12 Q11) (layM m key val).touch.writes] w' := by
 have uU : True := (fun _ _ _ => trivial) H p0 p1
 clear uU
 obtain ⟨lo1, lp1, lq1⟩ := At.ownInv hA ET_24.hk 1 rfl
 obtain ⟨lo2, lp2, lq2⟩ := At.ownInv hA ET_25.hk 2 rfl
 obtain ⟨lo3, lp3, lq3⟩ := At.ownInv hA ET_25.hk 3 rfl
 refine calls_enter 27 Tryz.func74 rfl Tryz.ntmps74 (Nat.le_of_ble_eq_true rfl) (fun _ F0i => ?_)
 have F0 : Fr 27 [(0, .pointer (some ⟨m_b, 0, none⟩)), (1, .string key), (2, .string val)] _ := F0i
 clear F0i
 refine wp_seq (wp_region_lit (l_op (f_mv F0 rfl rfl rfl rfl rfl fun _ F1 => ?_)))
 refine l_op (f_mv F1 rfl rfl rfl rfl rfl fun _ F2 => ?_)
 refine l_op (f_val F2 rfl rfl (r_nilCheck rfl (F2.ev 7 rfl)) rfl fun _ F3 => ?_)
 refine l_op (f_val F3 rfl rfl (r_field FI_29_1 rfl (F3.ev 8 rfl) rfl) rfl fun _ F4 => ?_)
 refine l_op (f_val F4 rfl rfl (r_field FI_27_1 rfl (F4.ev 9 rfl) rfl) rfl fun _ F5 => ?_)
 refine l_op (f_val (v := .slice m_Wa m_Wn m_Wc) F5 rfl rfl (r_loadB hA 0 TI_25 rfl rfl (F5.ev 10 rfl) rfl rfl (fun _ => rfl) rfl) rfl fun _ F6 => ?_)
 refine l_op (f_mv F6 rfl rfl rfl rfl rfl fun _ F7 => ?_)
 refine l_op (f_call F7 CF_84 rfl rfl rfl rfl (lc (F7.ev 11 rfl) (lc (F7.ev 12 rfl) rfl)) (impl_addSpan_c (H := fun _ => True) (list := m.touch.writes) (span := key) Q3 (by first | assumption | omega | (simp <;> omega)) (At.pick (is := [3]) hA rfl)) ?_)
 rintro _ w8 ⟨Q0, Q2, Q1, rfl, m8⟩
 refine ⟨_, rfl, fun _ F9 => ?_⟩
 have S8 : Mv _ _ [ow 9 1 encS okS (.slice Q0 Q2 Q1) (putL m.touch.writes key), bx m_b [.slice m_Sa m_Sn m_Sc, .slice m_Ra m_Rn m_Rc, .slice m_Wa m_Wn m_Wc] 29, ow 73 2 encC okC (.slice m_Sa m_Sn m_Sc) m.store, ow 9 1 encS okS (.slice m_Ra m_Rn m_Rc) m.touch.reads] _ := At.frame hA [3] rfl m8
 obtain ⟨Q18, Q20, Q22⟩ := At.ownInv S8.at' ET_25.hk 0 rfl
 clear m8
 refine l_op (f_val F9 rfl rfl (r_nilCheck rfl (F9.ev 6 rfl)) rfl fun _ F10 => ?_)
 refine l_op (f_val F10 rfl rfl (r_field FI_29_1 rfl (F10.ev 14 rfl) rfl) rfl fun _ F11 => ?_)
 refine l_op (f_val F11 rfl rfl (r_field FI_27_1 rfl (F11.ev 15 rfl) rfl) rfl fun _ F12 => ?_)
 refine l_op (s_store S8.at' 1 TI_25 rfl rfl rfl rfl rfl (F12.ev 16 rfl) (F12.ev 13 rfl) rfl rfl rfl rfl rfl fun w13 S13 => ?_)
 refine s_end (x_normal (wp_region_lit (l_op (f_mv F12 rfl rfl rfl rfl rfl fun _ F14 => ?_))))
 refine l_op (f_mv F14 rfl rfl rfl rfl rfl fun _ F15 => ?_)
 refine l_op (f_val F15 rfl rfl (r_nilCheck rfl (F15.ev 18 rfl)) rfl fun _ F16 => ?_)
 refine l_op (f_val F16 rfl rfl (r_field FI_29_0 rfl (F16.ev 19 rfl) rfl) rfl fun _ F17 => ?_)
 refine l_op (f_val (v := .slice m_Sa m_Sn m_Sc) F17 rfl rfl (r_loadB S13.at' 0 TI_24 rfl rfl (F17.ev 20 rfl) rfl rfl (fun _ => rfl) rfl) rfl fun _ F18 => ?_)
 refine l_op (f_mv F18 rfl rfl rfl rfl rfl fun _ F19 => ?_)
 refine l_op (f_mv F19 rfl rfl rfl rfl rfl fun _ F20 => ?_)
 refine l_op (f_call F20 CF_100 rfl rfl rfl rfl (lc (F20.ev 21 rfl) (lc (F20.ev 22 rfl) (lc (F20.ev 23 rfl) rfl))) (impl_put_c (H := fun _ => True) (s := m.store) (key := key) (val := val) Q3 Q16 (by first | assumption | omega | (simp <;> omega)) (At.pick (is := [2]) S13.at' rfl)) ?_)
 rintro _ w21 ⟨Q13, Q15, Q14, rfl, m21⟩
 refine ⟨_, rfl, fun _ F22 => ?_⟩
 have S21 : Mv _ _ [ow 73 2 encC okC (.slice Q13 Q15 Q14) (putKey m.store key val), bx m_b [.slice m_Sa m_Sn m_Sc, .slice m_Ra m_Rn m_Rc, .slice Q0 Q2 Q1] 29, ow 9 1 encS okS (.slice Q0 Q2 Q1) (putL m.touch.writes key), ow 9 1 encS okS (.slice m_Ra m_Rn m_Rc) m.touch.reads] _ := At.frame S13.at' [2] rfl m21
 obtain ⟨Q17, Q19, Q21⟩ := At.ownInv S21.at' ET_24.hk 0 rfl
 clear m21
 refine l_op (f_val F22 rfl rfl (r_nilCheck rfl (F22.ev 17 rfl)) rfl fun _ F23 => ?_)
 refine l_op (f_val F23 rfl rfl (r_field FI_29_0 rfl (F23.ev 25 rfl) rfl) rfl fun _ F24 => ?_)
 refine l_op (s_store S21.at' 1 TI_24 rfl rfl rfl rfl rfl (F24.ev 26 rfl) (F24.ev 24 rfl) rfl rfl rfl rfl rfl fun w25 S25 => ?_)
 refine s_end ?_
 refine x_done_end (v := .tuple #[]) F24 (results_0 Tryz.results74) ?_
 exact ⟨Q13, Q15, Q14, m_Ra, m_Rn, m_Rc, Q0, Q2, Q1, rfl, (Mv.cast (Mv.pick (S8.trans (S13.trans (S21.trans S25))) [0, 1, 3, 2] rfl) rfl)⟩
theorem spec_l04Wipe_c {w : World} {H : Nat → Prop} {m : MachD} {m_Sa : Option Addr} {m_Sn m_Sc : Nat} {m_Ra : Option Addr} {m_Rn m_Rc : Nat} {m_Wa : Option Addr} {m_Wn m_Wc : Nat} {pfx : ByteArray} (Q30 : Rd 2 encC okC H w (.slice m_Sa m_Sn m_Sc) m.store) (Q31 : Rd 1 encS okS H w (.slice m_Ra m_Rn m_Rc) m.touch.reads) (Q32 : Rd 1 encS okS H w (.slice m_Wa m_Wn m_Wc) m.touch.writes) (Q36 : okS pfx) (p0 : m.store.length ≤ 68719476736) (p1 : m.touch.reads.length ≤ 68719476736) (p2 : m.touch.writes.length ≤ 68719476736) (p3 : pfx.size ≤ 4611686018427387904) :
    Calls Tryz.prog 88 #[.agg #[.slice m_Sa m_Sn m_Sc, .slice m_Ra m_Rn m_Rc, .slice m_Wa m_Wn m_Wc], .string pfx] w fun e w' => ∃ (Q24 : Option Addr), ∃ (Q26 : Nat), ∃ (Q25 : Nat), ∃ (Q21 : Option Addr), ∃ (Q23 : Nat), ∃ (Q22 : Nat), ∃ (Q27 : Option Addr), ∃ (Q29 : Nat), ∃ (Q28 : Nat), e = .returned (.agg #[.slice Q24 Q26 Q25, .slice Q21 Q23 Q22, .slice Q27 Q29 Q28]) ∧ Mv [] w [] w' ∧ Rd 2 encC okC (Fsh H w) w' (.slice Q24 Q26 Q25) (wipeM m pfx).store ∧ Rd 1 encS okS (Fsh H w) w' (.slice Q21 Q23 Q22) (wipeM m pfx).touch.reads ∧ Rd 1 encS okS (Fsh H w) w' (.slice Q27 Q29 Q28) (wipeM m pfx).touch.writes := by
 have uU : True := (fun _ _ _ _ => trivial) p0 p1 p2 p3
 clear uU
 have Q33 : Rd 2 encC okC (V H w []) w (.slice m_Sa m_Sn m_Sc) m.store := Rd.start Q30 (fun _ _ => fps_nil _)
 obtain ⟨Q40, Q37, Q43, Q46⟩ := Rd.inv Q30
 have Q34 : Rd 1 encS okS (V H w []) w (.slice m_Ra m_Rn m_Rc) m.touch.reads := Rd.start Q31 (fun _ _ => fps_nil _)
 obtain ⟨Q41, Q38, Q44, Q47⟩ := Rd.inv Q31
 have Q35 : Rd 1 encS okS (V H w []) w (.slice m_Wa m_Wn m_Wc) m.touch.writes := Rd.start Q32 (fun _ _ => fps_nil _)
 obtain ⟨Q42, Q39, Q45, Q48⟩ := Rd.inv Q32
 refine calls_enter 26 Tryz.func88 rfl Tryz.ntmps88 (Nat.le_of_ble_eq_true rfl) (fun _ F0i => ?_)
 have F0 : Fr 26 [(0, .agg #[.slice m_Sa m_Sn m_Sc, .slice m_Ra m_Rn m_Rc, .slice m_Wa m_Wn m_Wc]), (1, .string pfx)] _ := F0i
 clear F0i
 refine wp_seq (wp_region_lit (l_op (f_box F0 (At.nil w) rfl rfl rfl (F0.ev 0 rfl) rfl rfl fun b1 _ w1 F2 S1 => ?_)))
 refine l_op (f_alloc F2 S1.at' ZI_29 rfl rfl rfl rfl rfl fun b3 _ w3 F4 S3 => ?_)
 refine s_end (x_normal (wp_seq (wp_region_lit (l_op (f_val (v := .agg #[.slice m_Sa m_Sn m_Sc, .slice m_Ra m_Rn m_Rc, .slice m_Wa m_Wn m_Wc]) F4 rfl rfl (r_loadB S3.at' 1 TI_29 rfl rfl (F4.ev 2 rfl) rfl rfl (fun h => nomatch h) rfl) rfl fun _ F5 => ?_)))))
 refine l_op (f_mv F5 rfl rfl rfl rfl rfl fun _ F6 => ?_)
 refine l_op (f_call F6 CF_86 rfl rfl rfl rfl (lc (F6.ev 8 rfl) (lc (F6.ev 9 rfl) rfl)) (spec_l04Under_c (m := m) (pfx := pfx) (Rd.mq Q33 (S1.trans S3)) (Rd.mq Q34 (S1.trans S3)) (Rd.mq Q35 (S1.trans S3)) Q36 (by first | assumption | omega | (simp <;> omega)) (by first | assumption | omega | (simp <;> omega)) (by first | assumption | omega | (simp <;> omega))) ?_)
 rintro _ w7 ⟨Q13, Q15, Q14, Q10, Q12, Q11, Q16, Q18, Q17, Q19, Q9, Q20, rfl, m7, v7_0, v7_1, v7_2, v7_3⟩
 refine ⟨_, rfl, fun _ F8 => ?_⟩
 have S7 := At.frame0 S3.at' m7
 have V7_0 := Rd.got0 S3.at' ((S1.trans S3).kp.size) v7_0 S7
 obtain ⟨ln7_0, le7_0, mx7_0, ni7_0⟩ := Rd.inv V7_0
 have V7_1 := Rd.got0 S3.at' ((S1.trans S3).kp.size) v7_1 S7
 obtain ⟨ln7_1, le7_1, mx7_1, ni7_1⟩ := Rd.inv V7_1
 have V7_2 := Rd.got0 S3.at' ((S1.trans S3).kp.size) v7_2 S7
 obtain ⟨ln7_2, le7_2, mx7_2, ni7_2⟩ := Rd.inv V7_2
 have V7_3 := Rd.got0 S3.at' ((S1.trans S3).kp.size) v7_3 S7
 obtain ⟨ln7_3, le7_3, mx7_3, ni7_3⟩ := Rd.inv V7_3
 clear m7 v7_0 v7_1 v7_2 v7_3
 refine l_op (f_mv F8 rfl rfl rfl rfl rfl fun _ F9 => ?_)
 refine l_op (f_val (v := .agg #[.slice Q13 Q15 Q14, .slice Q10 Q12 Q11, .slice Q16 Q18 Q17]) F9 rfl rfl (r_extract rfl (F9.ev 7 rfl) rfl) rfl fun _ F10 => ?_)
 refine l_op (f_val (v := .slice Q19 Q9 Q20) F10 rfl rfl (r_extract rfl (F10.ev 7 rfl) rfl) rfl fun _ F11 => ?_)
 refine l_op (s_store S7.at' 1 TI_29 rfl rfl rfl rfl rfl (F11.ev 2 rfl) (F11.ev 11 rfl) rfl rfl rfl rfl rfl fun w12 S12 => ?_)
 refine l_op (f_as F11 rfl rfl rfl rfl rfl fun _ F13 => ?_)
 refine s_end (x_normal (wp_seq (wp_seq (wp_region_lit (l_op (f_val F13 rfl rfl (r_assign rfl rfl) rfl fun _ F14 => ?_))))))
 refine s_end (x_normal (wp_block ?_))
 refine x_loop (fun (k : Nat) aZ wZ => ∃ (M : MachD), ∃ (sa : Option Addr), ∃ (sn : Nat), ∃ (sc : Nat), ∃ (ra : Option Addr), ∃ (rn : Nat), ∃ (rc : Nat), ∃ (ua : Option Addr), ∃ (un : Nat), ∃ (uc : Nat), Fr 26 [(6, .int .i64 ((k : Nat) : Int)), (5, .slice Q19 Q9 Q20), (4, .pointer (some ⟨b3, 0, none⟩)), (2, .pointer (some ⟨b1, 0, none⟩))] aZ ∧ Mv [bx b1 [.slice Q13 Q15 Q14, .slice Q10 Q12 Q11, .slice Q16 Q18 Q17] 29, bx b3 [.slice none 0 0, .slice none 0 0, .slice none 0 0] 29] w12 [bx b1 [.slice sa sn sc, .slice ra rn rc, .slice ua un uc] 29, bx b3 [.slice none 0 0, .slice none 0 0, .slice none 0 0] 29] wZ ∧ Rd 2 encC okC (V H w [bx b1 [.slice sa sn sc, .slice ra rn rc, .slice ua un uc] 29, bx b3 [.slice none 0 0, .slice none 0 0, .slice none 0 0] 29]) wZ (.slice sa sn sc) M.store ∧ Rd 1 encS okS (V H w [bx b1 [.slice sa sn sc, .slice ra rn rc, .slice ua un uc] 29, bx b3 [.slice none 0 0, .slice none 0 0, .slice none 0 0] 29]) wZ (.slice ra rn rc) M.touch.reads ∧ Rd 1 encS okS (V H w [bx b1 [.slice sa sn sc, .slice ra rn rc, .slice ua un uc] 29, bx b3 [.slice none 0 0, .slice none 0 0, .slice none 0 0] 29]) wZ (.slice ua un uc) M.touch.writes ∧ (k ≤ (keysUnder m.store pfx).length) ∧ (M = (wipeL (lookM m (pfx ++ bT_)) ((keysUnder m.store pfx).take k)))) (fun (k : Nat) => (keysUnder m.store pfx).length - k) (0) ?_ ?_
 · exact ⟨lookM m (pfx ++ bT_), Q13, Q15, Q14, Q10, Q12, Q11, Q16, Q18, Q17, F14.cut rfl, (Mv.refl S12.at'), (Rd.mq V7_0 S12), (Rd.mq V7_1 S12), (Rd.mq V7_2 S12), by omega, rfl⟩
 · rintro k a15 w15 ⟨M, sa, sn, sc, ra, rn, rc, ua, un, uc, F15, S15, W15_0, W15_1, W15_2, hk_0, hk_1⟩
   obtain ⟨lv15_0, lw15_0, lx15_0, ly15_0⟩ := Rd.inv W15_0
   obtain ⟨lv15_1, lw15_1, lx15_1, ly15_1⟩ := Rd.inv W15_1
   obtain ⟨lv15_2, lw15_2, lx15_2, ly15_2⟩ := Rd.inv W15_2
   have wb := wipeL_bd (lookM m (pfx ++ bT_)) ((keysUnder m.store pfx).take k)
   have kl := keysUnder_length m.store pfx
   have pl := putL_length m.touch.reads (pfx ++ bT_)
   rw [List.length_take, ← hk_1] at wb
   simp only [lookM] at wb
   refine wp_seq (wp_seq (wp_region_lit (l_op (f_mv F15 rfl rfl rfl rfl rfl fun _ F16 => ?_))))
   refine l_op (f_mv F16 rfl rfl rfl rfl rfl fun _ F17 => ?_)
   refine l_op (f_val F17 rfl rfl (r_len Tryz.underlying25 rfl (F17.ev 14 rfl)) rfl fun _ F18 => ?_)
   refine l_op (f_val F18 rfl rfl (r_cmp (b := decide (k < Q9)) (.inr (.inr (.inl rfl))) rfl (F18.ev 13 rfl) (F18.ev 15 rfl) (dec_of (by omega))) rfl fun _ F19 => ?_)
   refine s_end (x_normal (x_cond (p := k < Q9) (F19.ev 16 rfl) (fun h20 => ?_) (fun h20 => ?_)))
   · skip
     refine wp_skip (x_normal (wp_seq (wp_block ?_)))
     obtain ⟨x1, hx1, okx1⟩ := Rd.elem (Rd.mq V7_3 (S12.trans S15)) k (by first | assumption | omega)
     refine x_draw (fun aZ wZ => ∃ (Q3 : Option Addr), ∃ (Q5 : Nat), ∃ (Q4 : Nat), ∃ (Q0 : Option Addr), ∃ (Q2 : Nat), ∃ (Q1 : Nat), ∃ (Q6 : Option Addr), ∃ (Q8 : Nat), ∃ (Q7 : Nat), Fr 26 [(2, .pointer (some ⟨b1, 0, none⟩)), (4, .pointer (some ⟨b3, 0, none⟩)), (5, .slice Q19 Q9 Q20), (6, .int .i64 ((k : Nat) : Int))] aZ ∧ Mv [bx b1 [.slice sa sn sc, .slice ra rn rc, .slice ua un uc] 29, bx b3 [.slice none 0 0, .slice none 0 0, .slice none 0 0] 29] w15 [bx b1 [.slice Q3 Q5 Q4, .slice Q0 Q2 Q1, .slice Q6 Q8 Q7] 29, bx b3 [.slice none 0 0, .slice none 0 0, .slice none 0 0] 29] wZ ∧ Rd 2 encC okC (V H w [bx b1 [.slice Q3 Q5 Q4, .slice Q0 Q2 Q1, .slice Q6 Q8 Q7] 29, bx b3 [.slice none 0 0, .slice none 0 0, .slice none 0 0] 29]) wZ (.slice Q3 Q5 Q4) (layM M x1 bE_).store ∧ Rd 1 encS okS (V H w [bx b1 [.slice Q3 Q5 Q4, .slice Q0 Q2 Q1, .slice Q6 Q8 Q7] 29, bx b3 [.slice none 0 0, .slice none 0 0, .slice none 0 0] 29]) wZ (.slice Q0 Q2 Q1) (layM M x1 bE_).touch.reads ∧ Rd 1 encS okS (V H w [bx b1 [.slice Q3 Q5 Q4, .slice Q0 Q2 Q1, .slice Q6 Q8 Q7] 29, bx b3 [.slice none 0 0, .slice none 0 0, .slice none 0 0] 29]) wZ (.slice Q6 Q8 Q7) (layM M x1 bE_).touch.writes) [] mixed S15.at' (listed := #[false, false, false, false, false, false, false]) rfl (fun w22 S22 => ?_) [] rfl ?_
     · skip
       refine g_take F19 rfl (i := 1) (listed' := #[false, true, false, false, false, false, false]) rfl (by kernel_rfl) (by kernel_rfl) (by kernel_rfl) (fun _ _ _ h => h) (Sd.of (Mv.refl S22.at') [] rfl) rfl rfl rfl rfl (fun _ hz => (r_move rfl (F19.ev 5 rfl))) fun _ F23 => ?_
       refine g_take F23 rfl (i := 2) (listed' := #[false, true, true, false, false, false, false]) rfl (by kernel_rfl) (by kernel_rfl) (by kernel_rfl) (fun _ _ _ h => h) (Sd.of (Mv.refl S22.at') [] rfl) rfl rfl rfl rfl (fun _ hz => (r_move rfl (F23.ev 6 rfl))) fun _ F24 => ?_
       obtain ⟨B25, O25, y25, ad25, hy25, oky25, ln25, cl25⟩ := Rd.atK (Nat.succ_pos _) (Rd.mq V7_3 (S12.trans (S15.trans S22))) k (by first | assumption | omega)
       clear ln25
       obtain rfl := Option.some.inj (hx1.symm.trans hy25)
       clear hy25 oky25
       refine g_take F24 rfl (i := 3) (listed' := #[false, true, true, true, false, false, false]) rfl (by kernel_rfl) (by kernel_rfl) (by kernel_rfl) (fun _ _ _ h => h) (Sd.of (Mv.refl S22.at') [] rfl) rfl rfl rfl rfl (fun _ hz => (r_indexAddr (i := k) ET_25 rfl ((F24.ev 20 rfl).trans (by rw [ad25])) (F24.ev 21 rfl) (by omega) (by first | assumption | omega))) fun _ F26 => ?_
       refine g_take (v := .string x1) F26 rfl (i := 4) (listed' := #[false, true, true, true, true, false, false]) rfl (by kernel_rfl) (by kernel_rfl) (by kernel_rfl) (fun _ _ _ h => h) (Sd.of (Mv.refl S22.at') [] rfl) rfl rfl rfl rfl (fun _ hz => (r_load (cs := [.string x1]) TI_9 rfl (F26.ev 22 rfl) rfl (fun _ => rfl) (elem_sub (f := 0) (cl25 _ hz.kp) [.string x1] rfl))) fun _ F27 => ?_
       refine d_one (i := 0) (listed' := #[true, true, true, true, true, false, false]) rfl (by kernel_rfl) rfl rfl ?_
       refine f_val (v := .agg #[.slice sa sn sc, .slice ra rn rc, .slice ua un uc]) F27 rfl rfl (r_loadB S22.at' 0 TI_29 rfl rfl (F27.ev 2 rfl) rfl rfl (fun h => nomatch h) rfl) rfl fun _ F28 => ?_
       refine ⟨Sd.of (Mv.refl S22.at') [] rfl, ?_⟩
       refine d_one (i := 5) (listed' := #[true, true, true, true, true, true, false]) rfl (by kernel_rfl) rfl rfl ?_
       refine f_call F28 CF_67 rfl rfl rfl rfl (lc (F28.ev 19 rfl) (lc (F28.ev 23 rfl) (lc rfl rfl))) (spec_l04Lay_c (m := M) (key := x1) (val := bE_) (Rd.mq W15_0 S22) (Rd.mq W15_1 S22) (Rd.mq W15_2 S22) okx1 (by unfold okS; decide) (by first | assumption | omega | (simp <;> omega)) (by first | assumption | omega | (simp <;> omega))) ?_
       rintro _ w29 ⟨Q3, Q5, Q4, Q0, Q2, Q1, Q6, Q8, Q7, rfl, m29, v29_0, v29_1, v29_2⟩
       refine ⟨_, rfl, fun _ F30 => ?_⟩
       have S29 := At.frame0 S22.at' m29
       have V29_0 := Rd.got0 S22.at' ((S1.trans (S3.trans (S7.trans (S12.trans (S15.trans S22))))).kp.size) v29_0 S29
       obtain ⟨ln29_0, le29_0, mx29_0, ni29_0⟩ := Rd.inv V29_0
       have V29_1 := Rd.got0 S22.at' ((S1.trans (S3.trans (S7.trans (S12.trans (S15.trans S22))))).kp.size) v29_1 S29
       obtain ⟨ln29_1, le29_1, mx29_1, ni29_1⟩ := Rd.inv V29_1
       have V29_2 := Rd.got0 S22.at' ((S1.trans (S3.trans (S7.trans (S12.trans (S15.trans S22))))).kp.size) v29_2 S29
       obtain ⟨ln29_2, le29_2, mx29_2, ni29_2⟩ := Rd.inv V29_2
       clear m29 v29_0 v29_1 v29_2
       refine ⟨Sd.of S29 [] rfl, ?_⟩
       refine d_one (i := 6) (listed' := #[true, true, true, true, true, true, true]) rfl (by kernel_rfl) rfl rfl ?_
       refine s_store S29.at' 0 TI_29 rfl rfl rfl rfl rfl (F30.ev 2 rfl) (F30.ev 24 rfl) rfl rfl rfl rfl rfl fun w31 S31 => ?_
       refine ⟨Sd.of (S29.trans S31) [] rfl, ?_⟩
       refine wpAnyH_done (by kernel_rfl) (x_normal ?_) _
       exact ⟨Q3, Q5, Q4, Q0, Q2, Q1, Q6, Q8, Q7, F30.cut rfl, ((S22.trans (S29.trans S31)).pick [0, 1] rfl), (Rd.mq V29_0 S31), (Rd.mq V29_1 S31), (Rd.mq V29_2 S31)⟩
     · rintro a32 w32 ⟨Q3, Q5, Q4, Q0, Q2, Q1, Q6, Q8, Q7, F32, S32, V32_0, V32_1, V32_2⟩
       obtain ⟨ln32_0, le32_0, mx32_0, ni32_0⟩ := Rd.inv V32_0
       obtain ⟨ln32_1, le32_1, mx32_1, ni32_1⟩ := Rd.inv V32_1
       obtain ⟨ln32_2, le32_2, mx32_2, ni32_2⟩ := Rd.inv V32_2
       refine x_block_normal (x_normal (wp_region_lit (l_op (f_mv F32 rfl rfl rfl rfl rfl fun _ F33 => ?_))))
       refine l_op (f_val F33 rfl rfl (r_add (z := ((k + 1 : Nat) : Int)) rfl (F33.ev 17 rfl) rfl (by first | rfl | omega) ⟨by first | omega | (unfold i64ok at *; omega), by first | omega | (unfold i64ok at *; omega)⟩) rfl fun _ F34 => ?_)
       refine l_op (f_as F34 rfl rfl rfl rfl rfl fun _ F35 => ?_)
       refine s_end ?_
       refine x_normal ⟨k + 1, by omega, (layM M x1 bE_), Q3, Q5, Q4, Q0, Q2, Q1, Q6, Q8, Q7, F35.cut rfl, ((S15.trans S32).pick [0, 1] rfl), V32_0, V32_1, V32_2, by omega, by rw [wipeL_step hx1, ← hk_1]⟩
   · skip
     refine wp_exit (x_then_exit (x_then_exit (x_block_here (x_normal (wp_seq (wp_region_lit (l_op (f_val (v := .agg #[.slice sa sn sc, .slice ra rn rc, .slice ua un uc]) F19 rfl rfl (r_loadB S15.at' 0 TI_29 rfl rfl (F19.ev 2 rfl) rfl rfl (fun h => nomatch h) rfl) rfl fun _ F36 => ?_))))))))
     refine l_op (s_store S15.at' 1 TI_29 rfl rfl rfl rfl rfl (F36.ev 4 rfl) (F36.ev 25 rfl) rfl rfl rfl rfl rfl fun w37 S37 => ?_)
     have T38 : Mv _ _ [bx b3 [.slice sa sn sc, .slice ra rn rc, .slice ua un uc] 29, bx b1 [.slice sa sn sc, .slice ra rn rc, .slice ua un uc] 29] _ := S37
     refine s_end (x_normal (wp_ret ?_))
     refine x_done (v := .agg #[.slice sa sn sc, .slice ra rn rc, .slice ua un uc]) F36 (results_1 Tryz.results88 (.cell (F36.ev 4 rfl) (run_loadVar' TI_29 _ [.slice sa sn sc, .slice ra rn rc, .slice ua un uc] rfl (fun h => nomatch h) (At.cells T38.at' 0 rfl 0 [.slice sa sn sc, .slice ra rn rc, .slice ua un uc] rfl)))) ?_
     exact ⟨sa, sn, sc, ra, rn, rc, ua, un, uc, rfl, (Mv.pick (S1.trans (S3.trans (S7.trans (S12.trans (S15.trans T38))))) [] rfl), (Rd.cast (Rd.give (Rd.mq W15_0 T38)) (show M.store = (wipeM m pfx).store from by subst hk_1; unfold wipeM; rw [List.take_of_length_le (by omega)])), (Rd.cast (Rd.give (Rd.mq W15_1 T38)) (show M.touch.reads = (wipeM m pfx).touch.reads from by subst hk_1; unfold wipeM; rw [List.take_of_length_le (by omega)])), (Rd.cast (Rd.give (Rd.mq W15_2 T38)) (show M.touch.writes = (wipeM m pfx).touch.writes from by subst hk_1; unfold wipeM; rw [List.take_of_length_le (by omega)]))⟩
theorem impl_Mach_wipe_c {w : World} {H : Nat → Prop} {m : MachD} {m_Sa : Option Addr} {m_Sn m_Sc : Nat} {m_Ra : Option Addr} {m_Rn m_Rc : Nat} {m_Wa : Option Addr} {m_Wn m_Wc : Nat} {m_b : Nat} {pfx : ByteArray} (Q30 : okS pfx) (p0 : m.store.length ≤ 68719476736) (p1 : m.touch.reads.length ≤ 68719476736) (p2 : m.touch.writes.length ≤ 68719476736) (p3 : pfx.size ≤ 4611686018427387904) (hA : At w [bx m_b [.slice m_Sa m_Sn m_Sc, .slice m_Ra m_Rn m_Rc, .slice m_Wa m_Wn m_Wc] 29, ow 73 2 encC okC (.slice m_Sa m_Sn m_Sc) m.store, ow 9 1 encS okS (.slice m_Ra m_Rn m_Rc) m.touch.reads, ow 9 1 encS okS (.slice m_Wa m_Wn m_Wc) m.touch.writes]) :
    Calls Tryz.prog 87 #[.pointer (some ⟨m_b, 0, none⟩), .string pfx] w fun e w' => ∃ (Q24 : Option Addr), ∃ (Q26 : Nat), ∃ (Q25 : Nat), ∃ (Q21 : Option Addr), ∃ (Q23 : Nat), ∃ (Q22 : Nat), ∃ (Q27 : Option Addr), ∃ (Q29 : Nat), ∃ (Q28 : Nat), e = .returned (.tuple #[]) ∧ Mv [bx m_b [.slice m_Sa m_Sn m_Sc, .slice m_Ra m_Rn m_Rc, .slice m_Wa m_Wn m_Wc] 29, ow 73 2 encC okC (.slice m_Sa m_Sn m_Sc) m.store, ow 9 1 encS okS (.slice m_Ra m_Rn m_Rc) m.touch.reads, ow 9 1 encS okS (.slice m_Wa m_Wn m_Wc) m.touch.writes] w [bx m_b [.slice Q24 Q26 Q25, .slice Q21 Q23 Q22, .slice Q27 Q29 Q28] 29, ow 73 2 encC okC (.slice Q24 Q26 Q25) (wipeM m pfx).store, ow 9 1 encS okS (.slice Q21 Q23 Q22) (wipeM m pfx).touch.reads, ow 9 1 encS okS (.slice Q27 Q29 Q28) (wipeM m pfx).touch.writes] w' := by
 have uU : True := (fun _ _ _ _ _ => trivial) H p0 p1 p2 p3
 clear uU
 obtain ⟨lo1, lp1, lq1⟩ := At.ownInv hA ET_24.hk 1 rfl
 obtain ⟨lo2, lp2, lq2⟩ := At.ownInv hA ET_25.hk 2 rfl
 obtain ⟨lo3, lp3, lq3⟩ := At.ownInv hA ET_25.hk 3 rfl
 refine calls_enter 18 Tryz.func87 rfl Tryz.ntmps87 (Nat.le_of_ble_eq_true rfl) (fun _ F0i => ?_)
 have F0 : Fr 18 [(0, .pointer (some ⟨m_b, 0, none⟩)), (1, .string pfx)] _ := F0i
 clear F0i
 refine wp_seq (wp_region_lit (l_op (f_mv F0 rfl rfl rfl rfl rfl fun _ F1 => ?_)))
 refine l_op (f_mv F1 rfl rfl rfl rfl rfl fun _ F2 => ?_)
 refine l_op (f_call F2 CF_47 rfl rfl rfl rfl (lc (F2.ev 6 rfl) (lc (F2.ev 7 rfl) rfl)) (impl_Mach_under_c (H := fun _ => True) (m := m) (pfx := pfx) Q30 (by first | assumption | omega | (simp <;> omega)) (by first | assumption | omega | (simp <;> omega)) (by first | assumption | omega | (simp <;> omega)) (At.pick (is := [0, 1, 2, 3]) hA rfl)) ?_)
 rintro _ w3 ⟨Q10, Q0, Q11, Q4, Q6, Q5, Q1, Q3, Q2, Q7, Q9, Q8, rfl, m3⟩
 refine ⟨_, rfl, fun _ F4 => ?_⟩
 have S3 : Mv _ _ [ow 9 1 encS okS (.slice Q10 Q0 Q11) (keysUnder m.store pfx), bx m_b [.slice Q4 Q6 Q5, .slice Q1 Q3 Q2, .slice Q7 Q9 Q8] 29, ow 73 2 encC okC (.slice Q4 Q6 Q5) (lookM m (pfx ++ bT_)).store, ow 9 1 encS okS (.slice Q1 Q3 Q2) (lookM m (pfx ++ bT_)).touch.reads, ow 9 1 encS okS (.slice Q7 Q9 Q8) (lookM m (pfx ++ bT_)).touch.writes] _ := At.frame hA [0, 1, 2, 3] rfl m3
 obtain ⟨Q34, Q41, Q48⟩ := At.ownInv S3.at' ET_25.hk 0 rfl
 obtain ⟨Q35, Q42, Q49⟩ := At.ownInv S3.at' ET_24.hk 2 rfl
 obtain ⟨Q36, Q43, Q50⟩ := At.ownInv S3.at' ET_25.hk 3 rfl
 obtain ⟨Q37, Q44, Q51⟩ := At.ownInv S3.at' ET_25.hk 4 rfl
 clear m3
 refine l_op (f_val F4 rfl rfl (r_len Tryz.underlying25 rfl (F4.ev 8 rfl)) rfl fun _ F5 => ?_)
 refine l_op (f_val F5 rfl rfl (r_move rfl rfl) rfl fun _ F6 => ?_)
 refine s_end (x_normal (wp_block ?_))
 refine x_loop (fun (k : Nat) aZ wZ => ∃ (M : MachD), ∃ (sa : Option Addr), ∃ (sn : Nat), ∃ (sc : Nat), ∃ (ra : Option Addr), ∃ (rn : Nat), ∃ (rc : Nat), ∃ (ua : Option Addr), ∃ (un : Nat), ∃ (uc : Nat), Fr 18 [(10, .int .i64 ((k : Nat) : Int)), (9, .int .i64 ((Q0 : Nat) : Int)), (8, .slice Q10 Q0 Q11), (0, .pointer (some ⟨m_b, 0, none⟩))] aZ ∧ Mv [ow 9 1 encS okS (.slice Q10 Q0 Q11) (keysUnder m.store pfx), bx m_b [.slice Q4 Q6 Q5, .slice Q1 Q3 Q2, .slice Q7 Q9 Q8] 29, ow 73 2 encC okC (.slice Q4 Q6 Q5) (lookM m (pfx ++ bT_)).store, ow 9 1 encS okS (.slice Q1 Q3 Q2) (lookM m (pfx ++ bT_)).touch.reads, ow 9 1 encS okS (.slice Q7 Q9 Q8) (lookM m (pfx ++ bT_)).touch.writes] w3 [ow 9 1 encS okS (.slice Q10 Q0 Q11) (keysUnder m.store pfx), bx m_b [.slice sa sn sc, .slice ra rn rc, .slice ua un uc] 29, ow 73 2 encC okC (.slice sa sn sc) M.store, ow 9 1 encS okS (.slice ra rn rc) M.touch.reads, ow 9 1 encS okS (.slice ua un uc) M.touch.writes] wZ ∧ (k ≤ (keysUnder m.store pfx).length) ∧ (M = (wipeL (lookM m (pfx ++ bT_)) ((keysUnder m.store pfx).take k)))) (fun (k : Nat) => (keysUnder m.store pfx).length - k) (0) ?_ ?_
 · exact ⟨lookM m (pfx ++ bT_), Q4, Q6, Q5, Q1, Q3, Q2, Q7, Q9, Q8, F6.cut rfl, (Mv.refl S3.at'), by omega, rfl⟩
 · rintro k a7 w7 ⟨M, sa, sn, sc, ra, rn, rc, ua, un, uc, F7, S7, hk_0, hk_1⟩
   have wb := wipeL_bd (lookM m (pfx ++ bT_)) ((keysUnder m.store pfx).take k)
   have kl := keysUnder_length m.store pfx
   have pl := putL_length m.touch.reads (pfx ++ bT_)
   rw [List.length_take, ← hk_1] at wb
   simp only [lookM] at wb
   refine wp_seq (wp_region_lit (l_op (f_val F7 rfl rfl (r_cmp (b := decide (k < Q0)) (.inr (.inr (.inl rfl))) rfl (F7.ev 10 rfl) (F7.ev 9 rfl) (dec_of (by omega))) rfl fun _ F8 => ?_)))
   refine s_end (x_normal (wp_seq (x_cond (p := k < Q0) (F8.ev 11 rfl) (fun h9 => ?_) (fun h9 => ?_))))
   · skip
     refine wp_skip (x_normal (wp_seq (wp_block (wp_seq (wp_region_lit ?_)))))
     obtain ⟨B10, O10, x1, ad10, hx1, okx1, ln10, cl10⟩ := Rd.at (At.rd S7.at' ET_25.hk 0 rfl) k (by first | assumption | omega)
     clear ln10
     refine l_op (f_val F8 rfl rfl (r_indexAddr (i := k) ET_25 rfl ((F8.ev 8 rfl).trans (by rw [ad10])) (F8.ev 10 rfl) (by omega) (by first | assumption | omega)) rfl fun _ F11 => ?_)
     refine l_op (f_val (v := .string x1) F11 rfl rfl (r_load (cs := [.string x1]) TI_9 rfl (F11.ev 12 rfl) rfl (fun _ => rfl) (elem_sub (f := 0) cl10 [.string x1] rfl)) rfl fun _ F12 => ?_)
     refine l_op (f_as F12 rfl rfl rfl rfl rfl fun _ F13 => ?_)
     refine s_end (x_normal (wp_region_lit (l_op (f_mv F13 rfl rfl rfl rfl rfl fun _ F14 => ?_))))
     refine l_op (f_mv F14 rfl rfl rfl rfl rfl fun _ F15 => ?_)
     refine l_op (f_call F15 CF_74 rfl rfl rfl rfl (lc (F15.ev 14 rfl) (lc (F15.ev 15 rfl) (lc rfl rfl))) (impl_Mach_lay_c (H := fun _ => True) (m := M) (key := x1) (val := bE_) okx1 (by unfold okS; decide) (by first | assumption | omega | (simp <;> omega)) (by first | assumption | omega | (simp <;> omega)) (At.pick (is := [1, 2, 3, 4]) S7.at' rfl)) ?_)
     rintro _ w16 ⟨Q15, Q17, Q16, Q12, Q14, Q13, Q18, Q20, Q19, rfl, m16⟩
     refine ⟨_, rfl, fun _ F17 => ?_⟩
     have S16 : Mv _ _ [bx m_b [.slice Q15 Q17 Q16, .slice Q12 Q14 Q13, .slice Q18 Q20 Q19] 29, ow 73 2 encC okC (.slice Q15 Q17 Q16) (layM M x1 bE_).store, ow 9 1 encS okS (.slice Q12 Q14 Q13) (layM M x1 bE_).touch.reads, ow 9 1 encS okS (.slice Q18 Q20 Q19) (layM M x1 bE_).touch.writes, ow 9 1 encS okS (.slice Q10 Q0 Q11) (keysUnder m.store pfx)] _ := At.frame S7.at' [1, 2, 3, 4] rfl m16
     obtain ⟨Q31, Q38, Q45⟩ := At.ownInv S16.at' ET_24.hk 1 rfl
     obtain ⟨Q32, Q39, Q46⟩ := At.ownInv S16.at' ET_25.hk 2 rfl
     obtain ⟨Q33, Q40, Q47⟩ := At.ownInv S16.at' ET_25.hk 3 rfl
     clear m16
     refine s_end (x_block_normal (x_normal (wp_region_lit (l_op (f_val F17 rfl rfl (r_add (z := ((k + 1 : Nat) : Int)) rfl (F17.ev 10 rfl) rfl (by first | rfl | omega) ⟨by first | omega | (unfold i64ok at *; omega), by first | omega | (unfold i64ok at *; omega)⟩) rfl fun _ F18 => ?_)))))
     refine l_op (f_mv F18 rfl rfl rfl rfl rfl fun _ F19 => ?_)
     refine s_end ?_
     refine x_normal ⟨k + 1, by omega, (layM M x1 bE_), Q15, Q17, Q16, Q12, Q14, Q13, Q18, Q20, Q19, F19.cut rfl, ((S7.trans S16).pick [4, 0, 1, 2, 3] rfl), by omega, by rw [wipeL_step hx1, ← hk_1]⟩
   · skip
     refine wp_exit (x_then_exit (x_then_exit (x_block_here ?_)))
     refine x_done_end (v := .tuple #[]) F8 (results_0 Tryz.results87) ?_
     exact ⟨sa, sn, sc, ra, rn, rc, ua, un, uc, rfl, (Mv.cast (Mv.pick (S3.trans S7) [1, 2, 3, 4] rfl) (by rw [(show M.store = (wipeM m pfx).store from by subst hk_1; unfold wipeM; rw [List.take_of_length_le (by omega)]), (show M.touch.reads = (wipeM m pfx).touch.reads from by subst hk_1; unfold wipeM; rw [List.take_of_length_le (by omega)]), (show M.touch.writes = (wipeM m pfx).touch.writes from by subst hk_1; unfold wipeM; rw [List.take_of_length_le (by omega)])]; all_goals rfl))⟩
end Go.Proofs.YtibgmijfnbnfkaaGreatDoor
