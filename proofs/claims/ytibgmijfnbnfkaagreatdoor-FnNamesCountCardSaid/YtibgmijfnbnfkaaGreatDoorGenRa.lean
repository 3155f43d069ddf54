/-
  Walks: numbers are read.
-/
import Derived.Test.YtibgmijfnbnfkaaGreatDoorFactsB
import Derived.Test.YtibgmijfnbnfkaaGreatDoorGenNb
import Derived.Test.YtibgmijfnbnfkaaGreatDoorDatV
namespace Go.Proofs.YtibgmijfnbnfkaaGreatDoor
open Go.ChangeShapes Go.WideShapes Go.ChangeAt Go.RowKit
set_option maxRecDepth 100000
set_option maxHeartbeats 1000000

theorem rz {s : ByteArray} (h : readN s = 0 ∧ readB s = false) : (0 : Int) = ((readN s : Nat) : Int) := by rw [h.1]; rfl
theorem rzB {s : ByteArray} (h : readN s = 0 ∧ readB s = false) : false = readB s := h.2.symm
theorem rd_a {s : ByteArray} {r : Int} {ev : Value} (q : atoiR s r ev) (h : isErr ev = true) : readN s = 0 ∧ readB s = false := by
  rcases q with ⟨_, rfl⟩ | ⟨h1, _⟩
  · exact absurd h (by decide)
  · exact read_bad h1
theorem atoiR.okR {s : ByteArray} {r : Int} {ev : Value} (q : atoiR s r ev) (h : isErr ev = false) : Lib.atoiAll s.data.toList = .ok r := by
  rcases q with ⟨h1, _⟩ | ⟨_, h2⟩
  · exact h1
  · rw [h] at h2; cases h2
theorem rd_b {s : ByteArray} {r : Int} {ev : Value} (q : atoiR s r ev) (h : isErr ev = false) (hr : (!inB r 0 1000000000) = true) : readN s = 0 ∧ readB s = false :=
  read_out (q.okR h) (.inl fun e => by
    have := nt hr
    unfold inB at this
    exact of_decide_eq_false this e)
theorem rd_c {s : ByteArray} {r : Int} {ev : Value} (q : atoiR s r ev) (h : isErr ev = false) (hd : decS r ≠ s) : readN s = 0 ∧ readB s = false := read_out (q.okR h) (.inr hd)
theorem rd_d {s : ByteArray} {r : Int} (hr : (!inB r 0 1000000000) = false) (hd : ¬ decS r ≠ s) : (readN s : Int) = r ∧ readB s = true :=
  read_in (by have := nf hr; unfold inB at this; exact of_decide_eq_true this) (Classical.not_not.1 hd)
theorem numZ {v : ByteArray} {n : Nat} (h : n = numOf v) : ((n : Nat) : Int) = ((numOf v : Nat) : Int) := by rw [h]
theorem numZ0 {v : ByteArray} (h : 0 = numOf v) : (0 : Int) = ((numOf v : Nat) : Int) := by rw [← h]; rfl
theorem strconv_Atoi_c {w : World} {H : Nat → Prop} {s : ByteArray} (h_s : okS s) (tab1 : Tb 1 H w) (p0 : s.size ≤ 281474976710656) :
    Calls Tryz.prog 128 #[.string s] w fun e w' => ∃ (r : Int), ∃ (ev : Value), e = .returned (.tuple #[.int .i64 r, ev]) ∧ Mv [] w [] w' ∧ i64ok r ∧ errV ev ∧ atoiR s r ev := by
  have uU : True := (fun _ => trivial) h_s
  clear uU
  obtain ⟨⟨es, hs, es2⟩, ⟨er, hr, er2⟩⟩ := tab1.1
  cases h : Lib.atoiAll s.data.toList
  · rename_i v
    refine (Any.strconv_Atoi_ok laysAtoi s (by omega) v h w).mono ?_
    rintro e w' ⟨rfl, hw⟩
    have hb := Lib.atoiAll_bounds h
    refine ⟨v, .nilIface, rfl, mv_below ?_, ⟨by omega, by omega⟩, .inl rfl, .inl ⟨h, rfl⟩⟩
    rcases hw with rfl | ⟨t, rfl⟩
    · exact Below.refl _ _
    · exact Lib.bytesWorld_below _ _ _
  · skip
    refine (Any.strconv_Atoi_syntax laysAtoi s p0 h es w hs es2).mono ?_
    rintro e w' ⟨n, rfl, h1, h2, h3⟩
    exact ⟨0, _, rfl, mv_below h3, ⟨by omega, by omega⟩, .inr ⟨_, _, rfl⟩, .inr ⟨(fun v e => by rw [h] at e; cases e), rfl⟩⟩
  · skip
    refine (Any.strconv_Atoi_range laysAtoi s p0 h er w hr er2).mono ?_
    rintro e w' ⟨n, rfl, h1, h2, h3⟩
    have hb := Lib.atoiSat_bounds s.data.toList
    exact ⟨_, _, rfl, mv_below h3, ⟨by omega, by omega⟩, .inr ⟨_, _, rfl⟩, .inr ⟨(fun v e => by rw [h] at e; cases e), rfl⟩⟩
theorem impl_ReadDecimal_c {w : World} {H : Nat → Prop} {text : ByteArray} (Q0 : okS text) (tab0 : Tb 0 H w) (tab1 : Tb 1 H w) (p0 : text.size ≤ 281474976710656) :
    Calls Tryz.prog 111 #[.string text] w fun e w' => e = .returned (.tuple #[.int .i64 ((readN text : Nat) : Int), .bool (readB text)]) ∧ Mv [] w [] w' := by
 have uU : True := (fun _ => trivial) p0
 clear uU
 have V_tab0 : Tb 0 (V H w []) w := Tb.start tab0 (fun _ _ => fps_nil _)
 have V_tab1 : Tb 1 (V H w []) w := Tb.start tab1 (fun _ _ => fps_nil _)
 refine calls_enter 25 Tryz.func111 rfl Tryz.ntmps111 (Nat.le_of_ble_eq_true rfl) (fun _ F0i => ?_)
 have F0 : Fr 25 [(0, .string text)] _ := F0i
 clear F0i
 refine wp_seq (wp_region_lit (l_op (f_val F0 rfl rfl (r_assign rfl rfl) rfl fun _ F1 => ?_)))
 refine l_op (f_val F1 rfl rfl (r_assign rfl rfl) rfl fun _ F2 => ?_)
 refine s_end (x_normal (wp_seq (wp_region_lit (l_op (f_mv F2 rfl rfl rfl rfl rfl fun _ F3 => ?_)))))
 refine l_op (f_call F3 CF_128 rfl rfl rfl rfl (lc (F3.ev 7 rfl) rfl) (strconv_Atoi_c (s := text) Q0 V_tab1 (by first | assumption | omega | (simp <;> omega))) ?_)
 rintro _ w4 ⟨r_4, ev_4, rfl, m4, q4_0, q4_1, q4_2⟩
 refine ⟨_, rfl, fun _ F5 => ?_⟩
 have S4 := At.frame0 (At.nil w) m4
 clear m4
 refine l_op (f_mv F5 rfl rfl rfl rfl rfl fun _ F6 => ?_)
 refine l_op (f_val (v := .int .i64 r_4) F6 rfl rfl (r_extract rfl (F6.ev 6 rfl) rfl) rfl fun _ F7 => ?_)
 refine l_op (f_val (v := ev_4) F7 rfl rfl (r_extract rfl (F7.ev 6 rfl) rfl) rfl fun _ F8 => ?_)
 refine l_op (f_as F8 rfl rfl rfl rfl rfl fun _ F9 => ?_)
 refine l_op (f_as F9 rfl rfl rfl rfl rfl fun _ F10 => ?_)
 refine s_end (x_normal (wp_seq (wp_seq (wp_region_lit (l_op (f_mv F10 rfl rfl rfl rfl rfl fun _ F11 => ?_))))))
 refine l_op (f_val F11 rfl rfl (r_errNe Tryz.underlying121 rfl (F11.ev 11 rfl) rfl ‹_›) rfl fun _ F12 => ?_)
 refine l_op (f_mv F12 rfl rfl rfl rfl rfl fun _ F13 => ?_)
 rcases Bool.eq_false_or_eq_true (isErr ev_4) with h14 | h14
 · rw [h14] at F13
   refine l_op (f_skip F13 (wanted_g F13 rfl rfl rfl rfl) rfl rfl fun _ F15 => ?_)
   refine l_op (f_skip F15 (wanted_g F15 rfl rfl rfl rfl) rfl rfl fun _ F16 => ?_)
   refine l_op (f_skip F16 (wanted_g F16 rfl rfl rfl rfl) rfl rfl fun _ F17 => ?_)
   refine l_op (f_val F17 rfl rfl (r_pick (b := true) rfl (F17.ev 13 rfl) rfl) rfl fun _ F18 => ?_)
   refine l_op (f_mv F18 rfl rfl rfl rfl rfl fun _ F19 => ?_)
   refine l_op (f_skip F19 (wanted_g F19 rfl rfl rfl rfl) rfl rfl fun _ F20 => ?_)
   refine l_op (f_skip F20 (wanted_g F20 rfl rfl rfl rfl) rfl rfl fun _ F21 => ?_)
   refine l_op (f_skip F21 (wanted_g F21 rfl rfl rfl rfl) rfl rfl fun _ F22 => ?_)
   refine l_op (f_skip F22 (wanted_g F22 rfl rfl rfl rfl) rfl rfl fun _ F23 => ?_)
   refine l_op (f_val F23 rfl rfl (r_pick (b := true) rfl (F23.ev 18 rfl) rfl) rfl fun _ F24 => ?_)
   refine s_end (x_normal (wp_cond_true (F24.ev 23 rfl) (wp_seq (wp_region_lit (l_op (f_val F24 rfl rfl (r_assign rfl rfl) rfl fun _ F25 => ?_))))))
   refine l_op (f_val F25 rfl rfl (r_assign rfl rfl) rfl fun _ F26 => ?_)
   refine s_end (x_normal (wp_ret (x_then_ret ?_)))
   refine x_done (v := .tuple #[.int .i64 0, .bool false]) F26 (results_2 Tryz.results111 (.tmp (F26.ev 2 rfl)) (.tmp (F26.ev 3 rfl))) ?_
   exact ⟨(by rw [(show 0 = ((readN text : Nat) : Int) from by first | exact rz (rd_a ‹_› ‹_›) | exact rzB (rd_a ‹_› ‹_›) | exact rz (rd_b ‹_› ‹_› ‹_›) | exact rzB (rd_b ‹_› ‹_› ‹_›) | exact rz (rd_c ‹_› ‹_› ‹_›) | exact rzB (rd_c ‹_› ‹_› ‹_›) | exact (rd_d ‹_› ‹_›).1.symm | exact (rd_d ‹_› ‹_›).2.symm), (show false = (readB text) from by first | exact rz (rd_a ‹_› ‹_›) | exact rzB (rd_a ‹_› ‹_›) | exact rz (rd_b ‹_› ‹_› ‹_›) | exact rzB (rd_b ‹_› ‹_› ‹_›) | exact rz (rd_c ‹_› ‹_› ‹_›) | exact rzB (rd_c ‹_› ‹_› ‹_›) | exact (rd_d ‹_› ‹_›).1.symm | exact (rd_d ‹_› ‹_›).2.symm)]), (Mv.pick S4 [] rfl)⟩
 · rw [h14] at F13
   refine l_op (f_mv F13 (wanted_g F13 rfl rfl rfl rfl) rfl rfl rfl rfl fun _ F27 => ?_)
   refine l_op (f_call F27 CF_72 (wanted_g F27 rfl rfl rfl rfl) rfl rfl rfl (lc (F27.ev 14 rfl) (lc rfl (lc rfl rfl))) (impl_within_c (H := fun _ => True) (n := r_4) (low := 0) (high := 1000000000) (by first | assumption | exact ⟨by omega, by omega⟩ | (unfold i64ok at *; omega)) (by first | assumption | exact ⟨by omega, by omega⟩ | (unfold i64ok at *; omega)) (by first | assumption | exact ⟨by omega, by omega⟩ | (unfold i64ok at *; omega))) ?_)
   rintro _ w28 ⟨rfl, m28⟩
   refine ⟨_, rfl, fun _ F29 => ?_⟩
   have S28 := At.frame0 S4.at' m28
   clear m28
   refine l_op (f_val F29 (wanted_g F29 rfl rfl rfl rfl) rfl (r_not rfl (F29.ev 15 rfl)) rfl fun _ F30 => ?_)
   refine l_op (f_val F30 rfl rfl (r_pick (b := false) rfl (F30.ev 13 rfl) (F30.ev 16 rfl)) rfl fun _ F31 => ?_)
   refine l_op (f_mv F31 rfl rfl rfl rfl rfl fun _ F32 => ?_)
   rcases Bool.eq_false_or_eq_true (!(inB r_4 0 1000000000)) with h33 | h33
   · rw [h33] at F32
     refine l_op (f_skip F32 (wanted_g F32 rfl rfl rfl rfl) rfl rfl fun _ F34 => ?_)
     refine l_op (f_skip F34 (wanted_g F34 rfl rfl rfl rfl) rfl rfl fun _ F35 => ?_)
     refine l_op (f_skip F35 (wanted_g F35 rfl rfl rfl rfl) rfl rfl fun _ F36 => ?_)
     refine l_op (f_skip F36 (wanted_g F36 rfl rfl rfl rfl) rfl rfl fun _ F37 => ?_)
     refine l_op (f_val F37 rfl rfl (r_pick (b := true) rfl (F37.ev 18 rfl) rfl) rfl fun _ F38 => ?_)
     refine s_end (x_normal (wp_cond_true (F38.ev 23 rfl) (wp_seq (wp_region_lit (l_op (f_val F38 rfl rfl (r_assign rfl rfl) rfl fun _ F39 => ?_))))))
     refine l_op (f_val F39 rfl rfl (r_assign rfl rfl) rfl fun _ F40 => ?_)
     refine s_end (x_normal (wp_ret (x_then_ret ?_)))
     refine x_done (v := .tuple #[.int .i64 0, .bool false]) F40 (results_2 Tryz.results111 (.tmp (F40.ev 2 rfl)) (.tmp (F40.ev 3 rfl))) ?_
     exact ⟨(by rw [(show 0 = ((readN text : Nat) : Int) from by first | exact rz (rd_a ‹_› ‹_›) | exact rzB (rd_a ‹_› ‹_›) | exact rz (rd_b ‹_› ‹_› ‹_›) | exact rzB (rd_b ‹_› ‹_› ‹_›) | exact rz (rd_c ‹_› ‹_› ‹_›) | exact rzB (rd_c ‹_› ‹_› ‹_›) | exact (rd_d ‹_› ‹_›).1.symm | exact (rd_d ‹_› ‹_›).2.symm), (show false = (readB text) from by first | exact rz (rd_a ‹_› ‹_›) | exact rzB (rd_a ‹_› ‹_›) | exact rz (rd_b ‹_› ‹_› ‹_›) | exact rzB (rd_b ‹_› ‹_› ‹_›) | exact rz (rd_c ‹_› ‹_› ‹_›) | exact rzB (rd_c ‹_› ‹_› ‹_›) | exact (rd_d ‹_› ‹_›).1.symm | exact (rd_d ‹_› ‹_›).2.symm)]), (Mv.pick (S4.trans S28) [] rfl)⟩
   · rw [h33] at F32
     refine l_op (f_mv F32 (wanted_g F32 rfl rfl rfl rfl) rfl rfl rfl rfl fun _ F41 => ?_)
     refine l_op (f_call F41 CF_63 (wanted_g F41 rfl rfl rfl rfl) rfl rfl rfl (lc (F41.ev 19 rfl) rfl) (impl_Decimal_c (n := r_4) (by first | assumption | exact ⟨by omega, by omega⟩ | (unfold i64ok at *; omega)) (Tb.mv V_tab0 (S4.trans S28))) ?_)
     rintro _ w42 ⟨rfl, m42, Q1⟩
     refine ⟨_, rfl, fun _ F43 => ?_⟩
     have S42 := At.frame0 S28.at' m42
     clear m42
     refine l_op (f_mv F43 (wanted_g F43 rfl rfl rfl rfl) rfl rfl rfl rfl fun _ F44 => ?_)
     refine l_op (f_val F44 (wanted_g F44 rfl rfl rfl rfl) rfl (r_cmps (b := (decide ((decS r_4) ≠ text))) (.inr (.inl rfl)) rfl (F44.ev 20 rfl) (F44.ev 21 rfl) rfl) rfl fun _ F45 => ?_)
     refine l_op (f_val F45 rfl rfl (r_pick (b := false) rfl (F45.ev 18 rfl) (F45.ev 22 rfl)) rfl fun _ F46 => ?_)
     refine s_end (x_normal (x_cond (p := (decS r_4) ≠ text) (F46.ev 23 rfl) (fun h47 => ?_) (fun h47 => ?_)))
     · skip
       refine wp_seq (wp_region_lit (l_op (f_val F46 rfl rfl (r_assign rfl rfl) rfl fun _ F48 => ?_)))
       refine l_op (f_val F48 rfl rfl (r_assign rfl rfl) rfl fun _ F49 => ?_)
       refine s_end (x_normal (wp_ret (x_then_ret ?_)))
       refine x_done (v := .tuple #[.int .i64 0, .bool false]) F49 (results_2 Tryz.results111 (.tmp (F49.ev 2 rfl)) (.tmp (F49.ev 3 rfl))) ?_
       exact ⟨(by rw [(show 0 = ((readN text : Nat) : Int) from by first | exact rz (rd_a ‹_› ‹_›) | exact rzB (rd_a ‹_› ‹_›) | exact rz (rd_b ‹_› ‹_› ‹_›) | exact rzB (rd_b ‹_› ‹_› ‹_›) | exact rz (rd_c ‹_› ‹_› ‹_›) | exact rzB (rd_c ‹_› ‹_› ‹_›) | exact (rd_d ‹_› ‹_›).1.symm | exact (rd_d ‹_› ‹_›).2.symm), (show false = (readB text) from by first | exact rz (rd_a ‹_› ‹_›) | exact rzB (rd_a ‹_› ‹_›) | exact rz (rd_b ‹_› ‹_› ‹_›) | exact rzB (rd_b ‹_› ‹_› ‹_›) | exact rz (rd_c ‹_› ‹_› ‹_›) | exact rzB (rd_c ‹_› ‹_› ‹_›) | exact (rd_d ‹_› ‹_›).1.symm | exact (rd_d ‹_› ‹_›).2.symm)]), (Mv.pick (S4.trans (S28.trans S42)) [] rfl)⟩
     · skip
       refine wp_skip (x_normal (wp_seq (wp_region_lit (l_op (f_mv F46 rfl rfl rfl rfl rfl fun _ F50 => ?_)))))
       refine l_op (f_as F50 rfl rfl rfl rfl rfl fun _ F51 => ?_)
       refine l_op (f_val F51 rfl rfl (r_assign rfl rfl) rfl fun _ F52 => ?_)
       refine s_end (x_normal (wp_ret ?_))
       refine x_done (v := .tuple #[.int .i64 r_4, .bool true]) F52 (results_2 Tryz.results111 (.tmp (F52.ev 2 rfl)) (.tmp (F52.ev 3 rfl))) ?_
       exact ⟨(by rw [(show r_4 = ((readN text : Nat) : Int) from by first | exact rz (rd_a ‹_› ‹_›) | exact rzB (rd_a ‹_› ‹_›) | exact rz (rd_b ‹_› ‹_› ‹_›) | exact rzB (rd_b ‹_› ‹_› ‹_›) | exact rz (rd_c ‹_› ‹_› ‹_›) | exact rzB (rd_c ‹_› ‹_› ‹_›) | exact (rd_d ‹_› ‹_›).1.symm | exact (rd_d ‹_› ‹_›).2.symm), (show true = (readB text) from by first | exact rz (rd_a ‹_› ‹_›) | exact rzB (rd_a ‹_› ‹_›) | exact rz (rd_b ‹_› ‹_› ‹_›) | exact rzB (rd_b ‹_› ‹_› ‹_›) | exact rz (rd_c ‹_› ‹_› ‹_›) | exact rzB (rd_c ‹_› ‹_› ‹_›) | exact (rd_d ‹_› ‹_›).1.symm | exact (rd_d ‹_› ‹_›).2.symm)]), (Mv.pick (S4.trans (S28.trans S42)) [] rfl)⟩
theorem impl_NumOf_c {w : World} {H : Nat → Prop} {val : ByteArray} (Q0 : okS val) (tab0 : Tb 0 H w) (tab1 : Tb 1 H w) (p0 : val.size ≤ 281474976710656) :
    Calls Tryz.prog 94 #[.string val] w fun e w' => e = .returned (.int .i64 ((numOf val : Nat) : Int)) ∧ Mv [] w [] w' := by
 have uU : True := (fun _ => trivial) p0
 clear uU
 have V_tab0 : Tb 0 (V H w []) w := Tb.start tab0 (fun _ _ => fps_nil _)
 have V_tab1 : Tb 1 (V H w []) w := Tb.start tab1 (fun _ _ => fps_nil _)
 refine calls_enter 13 Tryz.func94 rfl Tryz.ntmps94 (Nat.le_of_ble_eq_true rfl) (fun _ F0i => ?_)
 have F0 : Fr 13 [(0, .string val)] _ := F0i
 clear F0i
 refine wp_seq (wp_region_lit (l_op (f_val F0 rfl rfl (r_assign rfl rfl) rfl fun _ F1 => ?_)))
 refine s_end (x_normal (wp_seq (wp_region_lit (l_op (f_mv F1 rfl rfl rfl rfl rfl fun _ F2 => ?_)))))
 refine l_op (f_call F2 CF_111 rfl rfl rfl rfl (lc (F2.ev 6 rfl) rfl) (impl_ReadDecimal_c (text := val) Q0 V_tab0 V_tab1 (by first | assumption | omega | (simp <;> omega))) ?_)
 rintro _ w3 ⟨rfl, m3⟩
 refine ⟨_, rfl, fun _ F4 => ?_⟩
 have S3 := At.frame0 (At.nil w) m3
 clear m3
 refine l_op (f_mv F4 rfl rfl rfl rfl rfl fun _ F5 => ?_)
 refine l_op (f_val (v := .int .i64 ((readN val : Nat) : Int)) F5 rfl rfl (r_extract rfl (F5.ev 5 rfl) rfl) rfl fun _ F6 => ?_)
 refine l_op (f_val (v := .bool (readB val)) F6 rfl rfl (r_extract rfl (F6.ev 5 rfl) rfl) rfl fun _ F7 => ?_)
 refine l_op (f_as F7 rfl rfl rfl rfl rfl fun _ F8 => ?_)
 refine l_op (f_as F8 rfl rfl rfl rfl rfl fun _ F9 => ?_)
 refine s_end (x_normal (wp_seq (wp_seq (wp_region_lit (l_op (f_mv F9 rfl rfl rfl rfl rfl fun _ F10 => ?_))))))
 refine l_op (f_val F10 rfl rfl (r_cmp (b := decide (readN val > 999)) (.inr (.inr (.inr (.inr (.inl rfl))))) rfl (F10.ev 10 rfl) rfl (dec_of (by omega))) rfl fun _ F11 => ?_)
 refine s_end (x_normal (x_cond (p := readN val > 999) (F11.ev 11 rfl) (fun h12 => ?_) (fun h12 => ?_)))
 · skip
   refine wp_seq (wp_region_lit (l_op (f_val F11 rfl rfl (r_assign rfl rfl) rfl fun _ F13 => ?_)))
   refine s_end (x_normal (wp_ret (x_then_ret ?_)))
   refine x_done (v := .int .i64 0) F13 (results_1 Tryz.results94 (.tmp (F13.ev 2 rfl))) ?_
   exact ⟨(by rw [(show 0 = ((numOf val : Nat) : Int) from by first | exact numZ (numOf_t ‹_›) | exact numZ0 (numOf_f ‹_›) | exact numZ0 (numOf_no ‹_›))]), (Mv.pick S3 [] rfl)⟩
 · skip
   refine wp_skip (x_normal (wp_seq (wp_region_lit (l_op (f_mv F11 rfl rfl rfl rfl rfl fun _ F14 => ?_)))))
   refine l_op (f_as F14 rfl rfl rfl rfl rfl fun _ F15 => ?_)
   refine s_end (x_normal (wp_ret ?_))
   refine x_done (v := .int .i64 ((readN val : Nat) : Int)) F15 (results_1 Tryz.results94 (.tmp (F15.ev 2 rfl))) ?_
   exact ⟨(by rw [(show ((readN val : Nat) : Int) = ((numOf val : Nat) : Int) from by first | exact numZ (numOf_t ‹_›) | exact numZ0 (numOf_f ‹_›) | exact numZ0 (numOf_no ‹_›))]), (Mv.pick S3 [] rfl)⟩
theorem impl_Mach_num_c {w : World} {H : Nat → Prop} {m : MachD} {m_Sa : Option Addr} {m_Sn m_Sc : Nat} {m_Ra : Option Addr} {m_Rn m_Rc : Nat} {m_Wa : Option Addr} {m_Wn m_Wc : Nat} {m_b : Nat} {key : ByteArray} (Q18 : okS key) (tab0 : Tb 0 H w) (tab1 : Tb 1 H w) (p0 : bdC 137438953472 m) (hA : At w [bx m_b [.slice m_Sa m_Sn m_Sc, .slice m_Ra m_Rn m_Rc, .slice m_Wa m_Wn m_Wc] 29, ow 73 2 encC okC (.slice m_Sa m_Sn m_Sc) m.store, ow 9 1 encS okS (.slice m_Ra m_Rn m_Rc) m.touch.reads, ow 9 1 encS okS (.slice m_Wa m_Wn m_Wc) m.touch.writes]) (hD : ∀ b, H b → ¬ fps [bx m_b [.slice m_Sa m_Sn m_Sc, .slice m_Ra m_Rn m_Rc, .slice m_Wa m_Wn m_Wc] 29, ow 73 2 encC okC (.slice m_Sa m_Sn m_Sc) m.store, ow 9 1 encS okS (.slice m_Ra m_Rn m_Rc) m.touch.reads, ow 9 1 encS okS (.slice m_Wa m_Wn m_Wc) m.touch.writes] b) :
    Calls Tryz.prog 62 #[.pointer (some ⟨m_b, 0, none⟩), .string key] w fun e w' => ∃ (Q12 : Option Addr), ∃ (Q14 : Nat), ∃ (Q13 : Nat), ∃ (Q9 : Option Addr), ∃ (Q11 : Nat), ∃ (Q10 : Nat), ∃ (Q15 : Option Addr), ∃ (Q17 : Nat), ∃ (Q16 : Nat), e = .returned (.int .i64 ((numOf (getKey m.store key) : Nat) : Int)) ∧ Mv [bx m_b [.slice m_Sa m_Sn m_Sc, .slice m_Ra m_Rn m_Rc, .slice m_Wa m_Wn m_Wc] 29, ow 73 2 encC okC (.slice m_Sa m_Sn m_Sc) m.store, ow 9 1 encS okS (.slice m_Ra m_Rn m_Rc) m.touch.reads, ow 9 1 encS okS (.slice m_Wa m_Wn m_Wc) m.touch.writes] w [bx m_b [.slice Q12 Q14 Q13, .slice Q9 Q11 Q10, .slice Q15 Q17 Q16] 29, ow 73 2 encC okC (.slice Q12 Q14 Q13) (lookM m key).store, ow 9 1 encS okS (.slice Q9 Q11 Q10) (lookM m key).touch.reads, ow 9 1 encS okS (.slice Q15 Q17 Q16) (lookM m key).touch.writes] w' := by
 have uU : True := (fun _ => trivial) p0
 clear uU
 have V_tab0 : Tb 0 (V H w [bx m_b [.slice m_Sa m_Sn m_Sc, .slice m_Ra m_Rn m_Rc, .slice m_Wa m_Wn m_Wc] 29, ow 73 2 encC okC (.slice m_Sa m_Sn m_Sc) m.store, ow 9 1 encS okS (.slice m_Ra m_Rn m_Rc) m.touch.reads, ow 9 1 encS okS (.slice m_Wa m_Wn m_Wc) m.touch.writes]) w := Tb.start tab0 hD
 have V_tab1 : Tb 1 (V H w [bx m_b [.slice m_Sa m_Sn m_Sc, .slice m_Ra m_Rn m_Rc, .slice m_Wa m_Wn m_Wc] 29, ow 73 2 encC okC (.slice m_Sa m_Sn m_Sc) m.store, ow 9 1 encS okS (.slice m_Ra m_Rn m_Rc) m.touch.reads, ow 9 1 encS okS (.slice m_Wa m_Wn m_Wc) m.touch.writes]) w := Tb.start tab1 hD
 obtain ⟨lo1, lp1, lq1⟩ := At.ownInv hA ET_24.hk 1 rfl
 obtain ⟨lo2, lp2, lq2⟩ := At.ownInv hA ET_25.hk 2 rfl
 obtain ⟨lo3, lp3, lq3⟩ := At.ownInv hA ET_25.hk 3 rfl
 refine calls_enter 9 Tryz.func62 rfl Tryz.ntmps62 (Nat.le_of_ble_eq_true rfl) (fun _ F0i => ?_)
 have F0 : Fr 9 [(0, .pointer (some ⟨m_b, 0, none⟩)), (1, .string key)] _ := F0i
 clear F0i
 refine wp_seq (wp_region_lit (l_op (f_val F0 rfl rfl (r_assign rfl rfl) rfl fun _ F1 => ?_)))
 refine s_end (x_normal (wp_seq (wp_region_lit (l_op (f_mv F1 rfl rfl rfl rfl rfl fun _ F2 => ?_)))))
 refine l_op (f_mv F2 rfl rfl rfl rfl rfl fun _ F3 => ?_)
 refine l_op (f_call F3 CF_83 rfl rfl rfl rfl (lc (F3.ev 5 rfl) (lc (F3.ev 6 rfl) rfl)) (impl_Mach_look_c (H := fun _ => True) (m := m) (key := key) Q18 (by first | assumption | omega | ((repeat first | apply b1_ | apply b2_ | apply b3_ | apply b4_ | apply b5_ | apply b6_); exact bdC.le ‹_› (by decide)) | decide | exact Nat.le_trans (keyNum_size _ _ ‹_›) (by decide)) (At.pick (is := [0, 1, 2, 3]) hA rfl)) ?_)
 rintro _ w4 ⟨Q3, Q5, Q4, Q0, Q2, Q1, Q6, Q8, Q7, rfl, m4, Q19⟩
 refine ⟨_, rfl, fun _ F5 => ?_⟩
 have S4 : Mv _ _ [bx m_b [.slice Q3 Q5 Q4, .slice Q0 Q2 Q1, .slice Q6 Q8 Q7] 29, ow 73 2 encC okC (.slice Q3 Q5 Q4) (lookM m key).store, ow 9 1 encS okS (.slice Q0 Q2 Q1) (lookM m key).touch.reads, ow 9 1 encS okS (.slice Q6 Q8 Q7) (lookM m key).touch.writes] _ := At.frame hA [0, 1, 2, 3] rfl m4
 obtain ⟨Q20, Q23, Q26⟩ := At.ownInv S4.at' ET_24.hk 1 rfl
 obtain ⟨Q21, Q24, Q27⟩ := At.ownInv S4.at' ET_25.hk 2 rfl
 obtain ⟨Q22, Q25, Q28⟩ := At.ownInv S4.at' ET_25.hk 3 rfl
 clear m4
 refine l_op (f_call F5 CF_94 rfl rfl rfl rfl (lc (F5.ev 7 rfl) rfl) (impl_NumOf_c (val := getKey m.store key) Q19 (Tb.mv V_tab0 S4) (Tb.mv V_tab1 S4) (by first | exact Nat.le_trans (bdC.val (m := m) ‹_›) (by decide) | assumption | omega | ((repeat first | apply b1_ | apply b2_ | apply b3_ | apply b4_ | apply b5_ | apply b6_); exact bdC.le ‹_› (by decide)) | decide | exact Nat.le_trans (keyNum_size _ _ ‹_›) (by decide))) ?_)
 rintro _ w6 ⟨rfl, m6⟩
 refine ⟨_, rfl, fun _ F7 => ?_⟩
 have S6 := At.frame0 S4.at' m6
 clear m6
 refine l_op (f_as F7 rfl rfl rfl rfl rfl fun _ F8 => ?_)
 refine s_end (x_normal (wp_ret ?_))
 refine x_done (v := .int .i64 ((numOf (getKey m.store key) : Nat) : Int)) F8 (results_1 Tryz.results62 (.tmp (F8.ev 4 rfl))) ?_
 exact ⟨Q3, Q5, Q4, Q0, Q2, Q1, Q6, Q8, Q7, rfl, (Mv.pick (S4.trans S6) [0, 1, 2, 3] rfl)⟩
theorem impl_NumAt_c {w : World} {H : Nat → Prop} {m : MachD} {m_Sa : Option Addr} {m_Sn m_Sc : Nat} {m_Ra : Option Addr} {m_Rn m_Rc : Nat} {m_Wa : Option Addr} {m_Wn m_Wc : Nat} {key : ByteArray} (Q27 : Rd 2 encC okC H w (.slice m_Sa m_Sn m_Sc) m.store) (Q28 : Rd 1 encS okS H w (.slice m_Ra m_Rn m_Rc) m.touch.reads) (Q29 : Rd 1 encS okS H w (.slice m_Wa m_Wn m_Wc) m.touch.writes) (Q33 : okS key) (tab0 : Tb 0 H w) (tab1 : Tb 1 H w) (p0 : bdC 34359738368 m) :
    Calls Tryz.prog 30 #[.agg #[.slice m_Sa m_Sn m_Sc, .slice m_Ra m_Rn m_Rc, .slice m_Wa m_Wn m_Wc], .string key] w fun e w' => ∃ (Q21 : Option Addr), ∃ (Q23 : Nat), ∃ (Q22 : Nat), ∃ (Q18 : Option Addr), ∃ (Q20 : Nat), ∃ (Q19 : Nat), ∃ (Q24 : Option Addr), ∃ (Q26 : Nat), ∃ (Q25 : Nat), e = .returned (.tuple #[.agg #[.slice Q21 Q23 Q22, .slice Q18 Q20 Q19, .slice Q24 Q26 Q25], .int .i64 ((numOf (getKey m.store key) : Nat) : Int)]) ∧ Mv [] w [ow 73 2 encC okC (.slice Q21 Q23 Q22) (lookM m key).store, ow 9 1 encS okS (.slice Q18 Q20 Q19) (lookM m key).touch.reads, ow 9 1 encS okS (.slice Q24 Q26 Q25) (lookM m key).touch.writes] w' := by
 have uU : True := (fun _ => trivial) p0
 clear uU
 have Q30 : Rd 2 encC okC (V H w []) w (.slice m_Sa m_Sn m_Sc) m.store := Rd.start Q27 (fun _ _ => fps_nil _)
 obtain ⟨Q37, Q34, Q58, Q61⟩ := Rd.inv Q27
 have Q31 : Rd 1 encS okS (V H w []) w (.slice m_Ra m_Rn m_Rc) m.touch.reads := Rd.start Q28 (fun _ _ => fps_nil _)
 obtain ⟨Q38, Q35, Q59, Q62⟩ := Rd.inv Q28
 have Q32 : Rd 1 encS okS (V H w []) w (.slice m_Wa m_Wn m_Wc) m.touch.writes := Rd.start Q29 (fun _ _ => fps_nil _)
 obtain ⟨Q39, Q36, Q60, Q63⟩ := Rd.inv Q29
 have V_tab0 : Tb 0 (V H w []) w := Tb.start tab0 (fun _ _ => fps_nil _)
 have V_tab1 : Tb 1 (V H w []) w := Tb.start tab1 (fun _ _ => fps_nil _)
 refine calls_enter 13 Tryz.func30 rfl Tryz.ntmps30 (Nat.le_of_ble_eq_true rfl) (fun _ F0i => ?_)
 have F0 : Fr 13 [(0, .agg #[.slice m_Sa m_Sn m_Sc, .slice m_Ra m_Rn m_Rc, .slice m_Wa m_Wn m_Wc]), (1, .string key)] _ := F0i
 clear F0i
 refine wp_seq (wp_region_lit (l_op (f_box F0 (At.nil w) rfl rfl rfl (F0.ev 0 rfl) rfl rfl fun b1 _ w1 F2 S1 => ?_)))
 refine l_op (f_alloc F2 S1.at' ZI_29 rfl rfl rfl rfl rfl fun b3 _ w3 F4 S3 => ?_)
 refine l_op (f_val F4 rfl rfl (r_assign rfl rfl) rfl fun _ F5 => ?_)
 refine s_end (x_normal (wp_seq (wp_region_lit (l_op (f_val (v := .agg #[.slice m_Sa m_Sn m_Sc, .slice m_Ra m_Rn m_Rc, .slice m_Wa m_Wn m_Wc]) F5 rfl rfl (r_loadB S3.at' 1 TI_29 rfl rfl (F5.ev 2 rfl) rfl rfl (fun h => nomatch h) rfl) rfl fun _ F6 => ?_)))))
 refine l_op (f_call F6 CF_39 rfl rfl rfl rfl (lc (F6.ev 7 rfl) rfl) (impl_Mach_clone_c (m := m) (Rd.mq Q30 (S1.trans S3)) (Rd.mq Q31 (S1.trans S3)) (Rd.mq Q32 (S1.trans S3)) (by first | assumption | omega | ((repeat first | apply b1_ | apply b2_ | apply b3_ | apply b4_ | apply b5_ | apply b6_); exact bdC.le ‹_› (by decide)) | decide | exact Nat.le_trans (keyNum_size _ _ ‹_›) (by decide)) (by first | assumption | omega | ((repeat first | apply b1_ | apply b2_ | apply b3_ | apply b4_ | apply b5_ | apply b6_); exact bdC.le ‹_› (by decide)) | decide | exact Nat.le_trans (keyNum_size _ _ ‹_›) (by decide)) (by first | assumption | omega | ((repeat first | apply b1_ | apply b2_ | apply b3_ | apply b4_ | apply b5_ | apply b6_); exact bdC.le ‹_› (by decide)) | decide | exact Nat.le_trans (keyNum_size _ _ ‹_›) (by decide))) ?_)
 rintro _ w7 ⟨Q12, Q14, Q13, Q9, Q11, Q10, Q15, Q17, Q16, rfl, m7⟩
 refine ⟨_, rfl, fun _ F8 => ?_⟩
 have S7 : Mv _ _ [ow 73 2 encC okC (.slice Q12 Q14 Q13) m.store, ow 9 1 encS okS (.slice Q9 Q11 Q10) m.touch.reads, ow 9 1 encS okS (.slice Q15 Q17 Q16) m.touch.writes, bx b3 [.slice none 0 0, .slice none 0 0, .slice none 0 0] 29, bx b1 [.slice m_Sa m_Sn m_Sc, .slice m_Ra m_Rn m_Rc, .slice m_Wa m_Wn m_Wc] 29] _ := At.frame S3.at' [] rfl m7
 obtain ⟨Q43, Q49, Q55⟩ := At.ownInv S7.at' ET_24.hk 0 rfl
 obtain ⟨Q44, Q50, Q56⟩ := At.ownInv S7.at' ET_25.hk 1 rfl
 obtain ⟨Q45, Q51, Q57⟩ := At.ownInv S7.at' ET_25.hk 2 rfl
 clear m7
 refine l_op (s_store S7.at' 4 TI_29 rfl rfl rfl rfl rfl (F8.ev 2 rfl) (F8.ev 8 rfl) rfl rfl rfl rfl rfl fun w9 S9 => ?_)
 have T10 : Mv _ _ [bx b1 [.slice Q12 Q14 Q13, .slice Q9 Q11 Q10, .slice Q15 Q17 Q16] 29, ow 73 2 encC okC (.slice Q12 Q14 Q13) m.store, ow 9 1 encS okS (.slice Q9 Q11 Q10) m.touch.reads, ow 9 1 encS okS (.slice Q15 Q17 Q16) m.touch.writes, bx b3 [.slice none 0 0, .slice none 0 0, .slice none 0 0] 29] _ := S9
 refine s_end (x_normal (wp_seq (wp_region_lit (l_op (f_mv F8 rfl rfl rfl rfl rfl fun _ F11 => ?_)))))
 refine l_op (f_call F11 CF_62 rfl rfl rfl rfl (lc (F11.ev 2 rfl) (lc (F11.ev 9 rfl) rfl)) (impl_Mach_num_c (m := m) (key := key) Q33 (Tb.mv V_tab0 (S1.trans (S3.trans (S7.trans T10)))) (Tb.mv V_tab1 (S1.trans (S3.trans (S7.trans T10)))) (by first | assumption | omega | ((repeat first | apply b1_ | apply b2_ | apply b3_ | apply b4_ | apply b5_ | apply b6_); exact bdC.le ‹_› (by decide)) | decide | exact Nat.le_trans (keyNum_size _ _ ‹_›) (by decide)) (At.pick (is := [0, 1, 2, 3]) T10.at' rfl) (V_off (is := [0, 1, 2, 3]))) ?_)
 rintro _ w12 ⟨Q3, Q5, Q4, Q0, Q2, Q1, Q6, Q8, Q7, rfl, m12⟩
 refine ⟨_, rfl, fun _ F13 => ?_⟩
 have S12 : Mv _ _ [bx b1 [.slice Q3 Q5 Q4, .slice Q0 Q2 Q1, .slice Q6 Q8 Q7] 29, ow 73 2 encC okC (.slice Q3 Q5 Q4) (lookM m key).store, ow 9 1 encS okS (.slice Q0 Q2 Q1) (lookM m key).touch.reads, ow 9 1 encS okS (.slice Q6 Q8 Q7) (lookM m key).touch.writes, bx b3 [.slice none 0 0, .slice none 0 0, .slice none 0 0] 29] _ := At.frame T10.at' [0, 1, 2, 3] rfl m12
 obtain ⟨Q40, Q46, Q52⟩ := At.ownInv S12.at' ET_24.hk 1 rfl
 obtain ⟨Q41, Q47, Q53⟩ := At.ownInv S12.at' ET_25.hk 2 rfl
 obtain ⟨Q42, Q48, Q54⟩ := At.ownInv S12.at' ET_25.hk 3 rfl
 clear m12
 refine l_op (f_as F13 rfl rfl rfl rfl rfl fun _ F14 => ?_)
 refine s_end (x_normal (wp_seq (wp_region_lit (l_op (f_val (v := .agg #[.slice Q3 Q5 Q4, .slice Q0 Q2 Q1, .slice Q6 Q8 Q7]) F14 rfl rfl (r_loadB S12.at' 0 TI_29 rfl rfl (F14.ev 2 rfl) rfl rfl (fun h => nomatch h) rfl) rfl fun _ F15 => ?_)))))
 refine l_op (f_mv F15 rfl rfl rfl rfl rfl fun _ F16 => ?_)
 refine l_op (s_store S12.at' 4 TI_29 rfl rfl rfl rfl rfl (F16.ev 4 rfl) (F16.ev 11 rfl) rfl rfl rfl rfl rfl fun w17 S17 => ?_)
 refine l_op (f_as F16 rfl rfl rfl rfl rfl fun _ F18 => ?_)
 refine s_end (x_normal (wp_ret ?_))
 refine x_done (v := .tuple #[.agg #[.slice Q3 Q5 Q4, .slice Q0 Q2 Q1, .slice Q6 Q8 Q7], .int .i64 ((numOf (getKey m.store key) : Nat) : Int)]) F18 (results_2 Tryz.results30 (.cell (F18.ev 4 rfl) (run_loadVar' TI_29 _ [.slice Q3 Q5 Q4, .slice Q0 Q2 Q1, .slice Q6 Q8 Q7] rfl (fun h => nomatch h) (At.cells S17.at' 0 rfl 0 [.slice Q3 Q5 Q4, .slice Q0 Q2 Q1, .slice Q6 Q8 Q7] rfl))) (.tmp (F18.ev 5 rfl))) ?_
 exact ⟨Q3, Q5, Q4, Q0, Q2, Q1, Q6, Q8, Q7, rfl, (Mv.pick (S1.trans (S3.trans (S7.trans (T10.trans (S12.trans S17))))) [2, 3, 4] rfl)⟩
end Go.Proofs.YtibgmijfnbnfkaaGreatDoor
