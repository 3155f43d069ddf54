/-
  Walks: numbers are read.
-/
import Derived.Test.YtjiplnaceiofmaaDoorFactsB
import Derived.Test.YtjiplnaceiofmaaDoorGenNb
import Derived.Test.YtjiplnaceiofmaaDoorDatV
namespace Go.Proofs.YtjiplnaceiofmaaDoor
open Go.ChangeShapes Go.WideShapes Go.ChangeAt Go.RowKit
set_option maxRecDepth 100000
set_option maxHeartbeats 1000000

theorem rz {s : ByteArray} (h : readN s = 0 ∧ readB s = false) : (0 : Int) = ((readN s : Nat) : Int) := by rw [h.1]; rfl
theorem rzB {s : ByteArray} (h : readN s = 0 ∧ readB s = false) : false = readB s := h.2.symm
theorem rd_a {s : ByteArray} {r : Int} {ev : Value} (q : atoiR s r ev) (h : isErr ev = true) : readN s = 0 ∧ readB s = false := by
  rcases q with ⟨_, rfl⟩ | ⟨h1, _⟩
  · exact absurd h (by decide)
  · exact read_bad h1
theorem atoiR.okR {s : ByteArray} {r : Int} {ev : Value} (q : atoiR s r ev) (h : isErr ev = false) : Lib.atoiAll s.data.toList = .ok r := by
  rcases q with ⟨h1, _⟩ | ⟨_, h2⟩
  · exact h1
  · rw [h] at h2; cases h2
theorem rd_b {s : ByteArray} {r : Int} {ev : Value} (q : atoiR s r ev) (h : isErr ev = false) (hr : (!inB r 0 1000000000) = true) : readN s = 0 ∧ readB s = false :=
  read_out (q.okR h) (.inl fun e => by
    have := nt hr
    unfold inB at this
    exact of_decide_eq_false this e)
theorem rd_c {s : ByteArray} {r : Int} {ev : Value} (q : atoiR s r ev) (h : isErr ev = false) (hd : decS r ≠ s) : readN s = 0 ∧ readB s = false := read_out (q.okR h) (.inr hd)
theorem rd_d {s : ByteArray} {r : Int} (hr : (!inB r 0 1000000000) = false) (hd : ¬ decS r ≠ s) : (readN s : Int) = r ∧ readB s = true :=
  read_in (by have := nf hr; unfold inB at this; exact of_decide_eq_true this) (Classical.not_not.1 hd)
theorem valN_succ (s : ByteArray) (k : Nat) : valN s (k + 1) = 10 * valN s k + (byteAt s k - 48) := rfl
theorem end_eq {s : ByteArray} {k : Nat} (h : ¬ k < s.size) (hk : k ≤ s.size) : k = s.size := by omega
theorem rs_a {s : ByteArray} {k : Nat} (h : ¬ k < s.size) (hk : k ≤ s.size) (hv : valN s k > 1000000000) : readN s = 0 ∧ readB s = false := by
  have e := end_eq h hk
  subst e
  exact read_val (.inl (Nat.not_le_of_gt hv))
theorem rs_b {s : ByteArray} {k : Nat} (h : ¬ k < s.size) (hk : k ≤ s.size) (hv : decS ((valN s k : Nat) : Int) ≠ s) : readN s = 0 ∧ readB s = false := by
  have e := end_eq h hk
  subst e
  exact read_val (.inr hv)
theorem rs_c {s : ByteArray} {k : Nat} (h : ¬ k < s.size) (hk : k ≤ s.size) (hv : ¬ valN s k > 1000000000) (hd : ¬ decS ((valN s k : Nat) : Int) ≠ s) : readN s = valN s k ∧ readB s = true := by
  have e := end_eq h hk
  subst e
  exact read_yes (Nat.le_of_not_gt hv) (Classical.not_not.1 hd)
theorem numZ {v : ByteArray} {n : Nat} (h : n = numOf v) : ((n : Nat) : Int) = ((numOf v : Nat) : Int) := by rw [h]
theorem numZ0 {v : ByteArray} (h : 0 = numOf v) : (0 : Int) = ((numOf v : Nat) : Int) := by rw [← h]; rfl
theorem castN {a b : Nat} (h : a = b) : ((b : Nat) : Int) = ((a : Nat) : Int) := by rw [h]
theorem strconv_Atoi_c {w : World} {H : Nat → Prop} {s : ByteArray} (h_s : okS s) (tab1 : Tb 1 H w) (p0 : s.size ≤ 281474976710656) :
    Calls Tryd.prog 157 #[.string s] w fun e w' => ∃ (r : Int), ∃ (ev : Value), e = .returned (.tuple #[.int .i64 r, ev]) ∧ Mv [] w [] w' ∧ i64ok r ∧ errV ev ∧ atoiR s r ev := by
  have uU : True := (fun _ => trivial) h_s
  clear uU
  obtain ⟨⟨es, hs, es2⟩, ⟨er, hr, er2⟩⟩ := tab1.1
  cases h : Lib.atoiAll s.data.toList
  · rename_i v
    refine (Any.strconv_Atoi_ok laysAtoi s (by omega) v h w).mono ?_
    rintro e w' ⟨rfl, hw⟩
    have hb := Lib.atoiAll_bounds h
    refine ⟨v, .nilIface, rfl, mv_below ?_, ⟨by omega, by omega⟩, .inl rfl, .inl ⟨h, rfl⟩⟩
    rcases hw with rfl | ⟨t, rfl⟩
    · exact Below.refl _ _
    · exact Lib.bytesWorld_below _ _ _
  · skip
    refine (Any.strconv_Atoi_syntax laysAtoi s p0 h es w hs es2).mono ?_
    rintro e w' ⟨n, rfl, h1, h2, h3⟩
    exact ⟨0, _, rfl, mv_below h3, ⟨by omega, by omega⟩, .inr ⟨_, _, rfl⟩, .inr ⟨(fun v e => by rw [h] at e; cases e), rfl⟩⟩
  · skip
    refine (Any.strconv_Atoi_range laysAtoi s p0 h er w hr er2).mono ?_
    rintro e w' ⟨n, rfl, h1, h2, h3⟩
    have hb := Lib.atoiSat_bounds s.data.toList
    exact ⟨_, _, rfl, mv_below h3, ⟨by omega, by omega⟩, .inr ⟨_, _, rfl⟩, .inr ⟨(fun v e => by rw [h] at e; cases e), rfl⟩⟩
theorem impl_ReadDecimal_c {w : World} {H : Nat → Prop} {text : ByteArray} (h_text : okS text) (tab0 : Tb 0 H w) (tab1 : Tb 1 H w) (p0 : text.size ≤ 281474976710656) :
    Calls Tryd.prog 131 #[.string text] w fun e w' => e = .returned (.tuple #[.int .i64 ((readN text : Nat) : Int), .bool (readB text)]) ∧ Mv [] w [] w' := by
 have uU : True := (fun _ => trivial) p0
 clear uU
 have V_tab0 : Tb 0 (V H w []) w := Tb.start tab0 (fun _ _ => fps_nil _)
 have V_tab1 : Tb 1 (V H w []) w := Tb.start tab1 (fun _ _ => fps_nil _)
 refine calls_enter 25 Tryd.func131 rfl Tryd.ntmps131 (Nat.le_of_ble_eq_true rfl) (fun _ F0i => ?_)
 have F0 : Fr 25 [(0, .string text)] _ := F0i
 clear F0i
 refine wp_seq (wp_region_lit (l_op (f_val F0 rfl rfl (r_assign rfl rfl) rfl fun _ F1 => ?_)))
 refine l_op (f_val F1 rfl rfl (r_assign rfl rfl) rfl fun _ F2 => ?_)
 have F3 : Fr 25 [(3, .bool false), (0, .string text)] _ := F2.cut rfl
 clear F0 F1 F2
 refine s_end (x_normal (wp_seq (wp_region_lit (l_op (f_mv F3 rfl rfl rfl rfl rfl fun _ F4 => ?_)))))
 refine l_op (f_call F4 CF_157 rfl rfl rfl rfl (lc (F4.ev 7 rfl) rfl) (strconv_Atoi_c (s := text) h_text V_tab1 (by first | assumption | omega | (simp <;> omega))) ?_)
 rintro _ w5 ⟨r_5, ev_5, rfl, m5, q5_0, q5_1, q5_2⟩
 refine ⟨_, rfl, fun _ F6 => ?_⟩
 have S5 := At.frame0 (At.nil w) m5
 clear m5
 refine l_op (f_mv F6 rfl rfl rfl rfl rfl fun _ F7 => ?_)
 refine l_op (f_val (v := .int .i64 r_5) F7 rfl rfl (r_extract rfl (F7.ev 6 rfl) rfl) rfl fun _ F8 => ?_)
 refine l_op (f_val (v := ev_5) F8 rfl rfl (r_extract rfl (F8.ev 6 rfl) rfl) rfl fun _ F9 => ?_)
 refine l_op (f_as F9 rfl rfl rfl rfl rfl fun _ F10 => ?_)
 refine l_op (f_as F10 rfl rfl rfl rfl rfl fun _ F11 => ?_)
 have F12 : Fr 25 [(5, ev_5), (4, .int .i64 r_5), (0, .string text)] _ := F11.cut rfl
 clear F3 F4 F6 F7 F8 F9 F10 F11
 have T13 : Mv _ _ [] _ := S5
 refine s_end (x_normal (wp_seq (wp_seq (wp_region_lit (l_op (f_mv F12 rfl rfl rfl rfl rfl fun _ F14 => ?_))))))
 refine l_op (f_val F14 rfl rfl (r_errNe Tryd.underlying133 rfl (F14.ev 11 rfl) rfl (by assumption)) rfl fun _ F15 => ?_)
 refine l_op (f_mv F15 rfl rfl rfl rfl rfl fun _ F16 => ?_)
 rcases Bool.eq_false_or_eq_true (isErr ev_5) with h17 | h17
 · rw [h17] at F16
   refine l_op (f_skip F16 (wanted_g F16 rfl rfl rfl rfl) rfl rfl fun _ F18 => ?_)
   refine l_op (f_skip F18 (wanted_g F18 rfl rfl rfl rfl) rfl rfl fun _ F19 => ?_)
   refine l_op (f_skip F19 (wanted_g F19 rfl rfl rfl rfl) rfl rfl fun _ F20 => ?_)
   refine l_op (f_val F20 rfl rfl (r_pick (b := true) rfl (F20.ev 13 rfl) rfl) rfl fun _ F21 => ?_)
   refine l_op (f_mv F21 rfl rfl rfl rfl rfl fun _ F22 => ?_)
   refine l_op (f_skip F22 (wanted_g F22 rfl rfl rfl rfl) rfl rfl fun _ F23 => ?_)
   refine l_op (f_skip F23 (wanted_g F23 rfl rfl rfl rfl) rfl rfl fun _ F24 => ?_)
   refine l_op (f_skip F24 (wanted_g F24 rfl rfl rfl rfl) rfl rfl fun _ F25 => ?_)
   refine l_op (f_skip F25 (wanted_g F25 rfl rfl rfl rfl) rfl rfl fun _ F26 => ?_)
   refine l_op (f_val F26 rfl rfl (r_pick (b := true) rfl (F26.ev 18 rfl) rfl) rfl fun _ F27 => ?_)
   have F28 : Fr 25 [(23, .bool true), (4, .int .i64 r_5)] _ := F27.cut rfl
   clear F12 F14 F15 F16 F18 F19 F20 F21 F22 F23 F24 F25 F26 F27
   refine s_end (x_normal (wp_cond_true (F28.ev 23 rfl) (wp_seq (wp_region_lit (l_op (f_val F28 rfl rfl (r_assign rfl rfl) rfl fun _ F29 => ?_))))))
   refine l_op (f_val F29 rfl rfl (r_assign rfl rfl) rfl fun _ F30 => ?_)
   have F31 : Fr 25 [(3, .bool false), (2, .int .i64 0)] _ := F30.cut rfl
   clear F28 F29 F30
   refine s_end (x_normal (wp_ret (x_then_ret ?_)))
   refine x_done (v := .tuple #[.int .i64 0, .bool false]) F31 (results_2 Tryd.results131 (.tmp (F31.ev 2 rfl)) (.tmp (F31.ev 3 rfl))) ?_
   exact ⟨(by rw [(show 0 = ((readN text : Nat) : Int) from by first | exact rz (rd_a (by assumption) (by assumption)) | exact rzB (rd_a (by assumption) (by assumption)) | exact rz (rd_b (by assumption) (by assumption) (by assumption)) | exact rzB (rd_b (by assumption) (by assumption) (by assumption)) | exact rz (rd_c (by assumption) (by assumption) (by assumption)) | exact rzB (rd_c (by assumption) (by assumption) (by assumption)) | exact (rd_d (by assumption) (by assumption)).1.symm | exact (rd_d (by assumption) (by assumption)).2.symm), (show false = (readB text) from by first | exact rz (rd_a (by assumption) (by assumption)) | exact rzB (rd_a (by assumption) (by assumption)) | exact rz (rd_b (by assumption) (by assumption) (by assumption)) | exact rzB (rd_b (by assumption) (by assumption) (by assumption)) | exact rz (rd_c (by assumption) (by assumption) (by assumption)) | exact rzB (rd_c (by assumption) (by assumption) (by assumption)) | exact (rd_d (by assumption) (by assumption)).1.symm | exact (rd_d (by assumption) (by assumption)).2.symm)]), (Mv.pick T13 [] rfl)⟩
 · rw [h17] at F16
   refine l_op (f_mv F16 (wanted_g F16 rfl rfl rfl rfl) rfl rfl rfl rfl fun _ F32 => ?_)
   refine l_op (f_call F32 CF_94 (wanted_g F32 rfl rfl rfl rfl) rfl rfl rfl (lc (F32.ev 14 rfl) (lc rfl (lc rfl rfl))) (impl_within_c (H := fun _ => True) (n := r_5) (low := 0) (high := 1000000000) (by first | assumption | exact ⟨by omega, by omega⟩ | (unfold i64ok at *; omega)) (by first | assumption | exact ⟨by omega, by omega⟩ | (unfold i64ok at *; omega)) (by first | assumption | exact ⟨by omega, by omega⟩ | (unfold i64ok at *; omega))) ?_)
   rintro _ w33 ⟨rfl, m33⟩
   refine ⟨_, rfl, fun _ F34 => ?_⟩
   have S33 := At.frame0 T13.at' m33
   clear m33
   refine l_op (f_val F34 (wanted_g F34 rfl rfl rfl rfl) rfl (r_not rfl (F34.ev 15 rfl)) rfl fun _ F35 => ?_)
   refine l_op (f_val F35 rfl rfl (r_pick (b := false) rfl (F35.ev 13 rfl) (F35.ev 16 rfl)) rfl fun _ F36 => ?_)
   refine l_op (f_mv F36 rfl rfl rfl rfl rfl fun _ F37 => ?_)
   rcases Bool.eq_false_or_eq_true (!(inB r_5 0 1000000000)) with h38 | h38
   · rw [h38] at F37
     refine l_op (f_skip F37 (wanted_g F37 rfl rfl rfl rfl) rfl rfl fun _ F39 => ?_)
     refine l_op (f_skip F39 (wanted_g F39 rfl rfl rfl rfl) rfl rfl fun _ F40 => ?_)
     refine l_op (f_skip F40 (wanted_g F40 rfl rfl rfl rfl) rfl rfl fun _ F41 => ?_)
     refine l_op (f_skip F41 (wanted_g F41 rfl rfl rfl rfl) rfl rfl fun _ F42 => ?_)
     refine l_op (f_val F42 rfl rfl (r_pick (b := true) rfl (F42.ev 18 rfl) rfl) rfl fun _ F43 => ?_)
     have F44 : Fr 25 [(23, .bool true), (4, .int .i64 r_5)] _ := F43.cut rfl
     clear F12 F14 F15 F16 F32 F34 F35 F36 F37 F39 F40 F41 F42 F43
     have T45 : Mv _ _ [] _ := S33
     refine s_end (x_normal (wp_cond_true (F44.ev 23 rfl) (wp_seq (wp_region_lit (l_op (f_val F44 rfl rfl (r_assign rfl rfl) rfl fun _ F46 => ?_))))))
     refine l_op (f_val F46 rfl rfl (r_assign rfl rfl) rfl fun _ F47 => ?_)
     have F48 : Fr 25 [(3, .bool false), (2, .int .i64 0)] _ := F47.cut rfl
     clear F44 F46 F47
     refine s_end (x_normal (wp_ret (x_then_ret ?_)))
     refine x_done (v := .tuple #[.int .i64 0, .bool false]) F48 (results_2 Tryd.results131 (.tmp (F48.ev 2 rfl)) (.tmp (F48.ev 3 rfl))) ?_
     exact ⟨(by rw [(show 0 = ((readN text : Nat) : Int) from by first | exact rz (rd_a (by assumption) (by assumption)) | exact rzB (rd_a (by assumption) (by assumption)) | exact rz (rd_b (by assumption) (by assumption) (by assumption)) | exact rzB (rd_b (by assumption) (by assumption) (by assumption)) | exact rz (rd_c (by assumption) (by assumption) (by assumption)) | exact rzB (rd_c (by assumption) (by assumption) (by assumption)) | exact (rd_d (by assumption) (by assumption)).1.symm | exact (rd_d (by assumption) (by assumption)).2.symm), (show false = (readB text) from by first | exact rz (rd_a (by assumption) (by assumption)) | exact rzB (rd_a (by assumption) (by assumption)) | exact rz (rd_b (by assumption) (by assumption) (by assumption)) | exact rzB (rd_b (by assumption) (by assumption) (by assumption)) | exact rz (rd_c (by assumption) (by assumption) (by assumption)) | exact rzB (rd_c (by assumption) (by assumption) (by assumption)) | exact (rd_d (by assumption) (by assumption)).1.symm | exact (rd_d (by assumption) (by assumption)).2.symm)]), (Mv.pick (T13.trans T45) [] rfl)⟩
   · rw [h38] at F37
     refine l_op (f_mv F37 (wanted_g F37 rfl rfl rfl rfl) rfl rfl rfl rfl fun _ F49 => ?_)
     refine l_op (f_call F49 CF_19 (wanted_g F49 rfl rfl rfl rfl) rfl rfl rfl (lc (F49.ev 19 rfl) rfl) (impl_Decimal_c (n := r_5) (by first | assumption | exact ⟨by omega, by omega⟩ | (unfold i64ok at *; omega)) (Tb.mv V_tab0 (T13.trans S33))) ?_)
     rintro _ w50 ⟨rfl, m50, ok_r0_50⟩
     refine ⟨_, rfl, fun _ F51 => ?_⟩
     have S50 := At.frame0 S33.at' m50
     clear m50
     refine l_op (f_mv F51 (wanted_g F51 rfl rfl rfl rfl) rfl rfl rfl rfl fun _ F52 => ?_)
     refine l_op (f_val F52 (wanted_g F52 rfl rfl rfl rfl) rfl (r_cmps (b := (decide ((decS r_5) ≠ text))) (.inr (.inl rfl)) rfl (F52.ev 20 rfl) (F52.ev 21 rfl) rfl) rfl fun _ F53 => ?_)
     refine l_op (f_val F53 rfl rfl (r_pick (b := false) rfl (F53.ev 18 rfl) (F53.ev 22 rfl)) rfl fun _ F54 => ?_)
     have F55 : Fr 25 [(23, .bool (decide ((decS r_5) ≠ text))), (4, .int .i64 r_5)] _ := F54.cut rfl
     clear F12 F14 F15 F16 F32 F34 F35 F36 F37 F49 F51 F52 F53 F54
     have T56 : Mv _ _ [] _ := S50
     refine s_end (x_normal (x_cond (p := (decS r_5) ≠ text) (F55.ev 23 rfl) (fun h57 => ?_) (fun h57 => ?_)))
     · skip
       refine wp_seq (wp_region_lit (l_op (f_val F55 rfl rfl (r_assign rfl rfl) rfl fun _ F58 => ?_)))
       refine l_op (f_val F58 rfl rfl (r_assign rfl rfl) rfl fun _ F59 => ?_)
       have F60 : Fr 25 [(3, .bool false), (2, .int .i64 0)] _ := F59.cut rfl
       clear F55 F58 F59
       refine s_end (x_normal (wp_ret (x_then_ret ?_)))
       refine x_done (v := .tuple #[.int .i64 0, .bool false]) F60 (results_2 Tryd.results131 (.tmp (F60.ev 2 rfl)) (.tmp (F60.ev 3 rfl))) ?_
       exact ⟨(by rw [(show 0 = ((readN text : Nat) : Int) from by first | exact rz (rd_a (by assumption) (by assumption)) | exact rzB (rd_a (by assumption) (by assumption)) | exact rz (rd_b (by assumption) (by assumption) (by assumption)) | exact rzB (rd_b (by assumption) (by assumption) (by assumption)) | exact rz (rd_c (by assumption) (by assumption) (by assumption)) | exact rzB (rd_c (by assumption) (by assumption) (by assumption)) | exact (rd_d (by assumption) (by assumption)).1.symm | exact (rd_d (by assumption) (by assumption)).2.symm), (show false = (readB text) from by first | exact rz (rd_a (by assumption) (by assumption)) | exact rzB (rd_a (by assumption) (by assumption)) | exact rz (rd_b (by assumption) (by assumption) (by assumption)) | exact rzB (rd_b (by assumption) (by assumption) (by assumption)) | exact rz (rd_c (by assumption) (by assumption) (by assumption)) | exact rzB (rd_c (by assumption) (by assumption) (by assumption)) | exact (rd_d (by assumption) (by assumption)).1.symm | exact (rd_d (by assumption) (by assumption)).2.symm)]), (Mv.pick (T13.trans (S33.trans T56)) [] rfl)⟩
     · skip
       refine wp_skip (x_normal (wp_seq (wp_region_lit (l_op (f_mv F55 rfl rfl rfl rfl rfl fun _ F61 => ?_)))))
       refine l_op (f_as F61 rfl rfl rfl rfl rfl fun _ F62 => ?_)
       refine l_op (f_val F62 rfl rfl (r_assign rfl rfl) rfl fun _ F63 => ?_)
       have F64 : Fr 25 [(3, .bool true), (2, .int .i64 r_5)] _ := F63.cut rfl
       clear F55 F61 F62 F63
       refine s_end (x_normal (wp_ret ?_))
       refine x_done (v := .tuple #[.int .i64 r_5, .bool true]) F64 (results_2 Tryd.results131 (.tmp (F64.ev 2 rfl)) (.tmp (F64.ev 3 rfl))) ?_
       exact ⟨(by rw [(show r_5 = ((readN text : Nat) : Int) from by first | exact rz (rd_a (by assumption) (by assumption)) | exact rzB (rd_a (by assumption) (by assumption)) | exact rz (rd_b (by assumption) (by assumption) (by assumption)) | exact rzB (rd_b (by assumption) (by assumption) (by assumption)) | exact rz (rd_c (by assumption) (by assumption) (by assumption)) | exact rzB (rd_c (by assumption) (by assumption) (by assumption)) | exact (rd_d (by assumption) (by assumption)).1.symm | exact (rd_d (by assumption) (by assumption)).2.symm), (show true = (readB text) from by first | exact rz (rd_a (by assumption) (by assumption)) | exact rzB (rd_a (by assumption) (by assumption)) | exact rz (rd_b (by assumption) (by assumption) (by assumption)) | exact rzB (rd_b (by assumption) (by assumption) (by assumption)) | exact rz (rd_c (by assumption) (by assumption) (by assumption)) | exact rzB (rd_c (by assumption) (by assumption) (by assumption)) | exact (rd_d (by assumption) (by assumption)).1.symm | exact (rd_d (by assumption) (by assumption)).2.symm)]), (Mv.pick (T13.trans (S33.trans T56)) [] rfl)⟩
theorem spec_ReadDecimal_c {w : World} {H : Nat → Prop} {text : ByteArray} (h_text : okS text) :
    Calls Tryd.prog 166 #[.string text] w fun e w' => e = .returned (.tuple #[.int .i64 ((readN text : Nat) : Int), .bool (readB text)]) ∧ Mv [] w [] w' := by
 have uU : True := (fun _ _ => trivial) H h_text
 clear uU
 refine calls_enter 42 Tryd.func166 rfl Tryd.ntmps166 (Nat.le_of_ble_eq_true rfl) (fun _ F0i => ?_)
 have F0 : Fr 42 [(0, .string text)] _ := F0i
 clear F0i
 refine wp_seq (wp_region_lit (l_op (f_val F0 rfl rfl (r_assign rfl rfl) rfl fun _ F1 => ?_)))
 refine l_op (f_val F1 rfl rfl (r_assign rfl rfl) rfl fun _ F2 => ?_)
 have F3 : Fr 42 [(3, .bool false), (0, .string text)] _ := F2.cut rfl
 clear F0 F1 F2
 refine s_end (x_normal (wp_seq (wp_seq (wp_region_lit (l_op (f_mv F3 rfl rfl rfl rfl rfl fun _ F4 => ?_))))))
 refine l_op (f_val F4 rfl rfl (r_lenS (fun t ht => by cases ht; exact Tryd.underlying9) rfl rfl (F4.ev 6 rfl)) rfl fun _ F5 => ?_)
 refine l_op (f_val F5 rfl rfl (r_cmp (b := decide (text.size > 10)) (.inr (.inr (.inr (.inr (.inl rfl))))) rfl (F5.ev 7 rfl) rfl (dec_of (by omega))) rfl fun _ F6 => ?_)
 have F7 : Fr 42 [(8, .bool (decide (text.size > 10))), (0, .string text)] _ := F6.cut rfl
 clear F3 F4 F5 F6
 refine s_end (x_normal (x_cond (p := text.size > 10) (F7.ev 8 rfl) (fun h8 => ?_) (fun h8 => ?_)))
 · skip
   refine wp_seq (wp_region_lit (l_op (f_val F7 rfl rfl (r_assign rfl rfl) rfl fun _ F9 => ?_)))
   refine l_op (f_val F9 rfl rfl (r_assign rfl rfl) rfl fun _ F10 => ?_)
   have F11 : Fr 42 [(3, .bool false), (2, .int .i64 0)] _ := F10.cut rfl
   clear F7 F9 F10
   refine s_end (x_normal (wp_ret (x_then_ret ?_)))
   refine x_done (v := .tuple #[.int .i64 0, .bool false]) F11 (results_2 Tryd.results166 (.tmp (F11.ev 2 rfl)) (.tmp (F11.ev 3 rfl))) ?_
   exact ⟨(by rw [(show 0 = ((readN text : Nat) : Int) from by first | exact rz (read_long (by assumption)) | exact rzB (read_long (by assumption)) | exact rz (read_fig (k := k) (by omega) (by omega)) | exact rzB (read_fig (k := k) (by omega) (by omega)) | exact rz (rs_a (k := k) (by assumption) (by omega) (by assumption)) | exact rzB (rs_a (k := k) (by assumption) (by omega) (by assumption)) | exact rz (rs_b (k := k) (by assumption) (by omega) (by assumption)) | exact rzB (rs_b (k := k) (by assumption) (by omega) (by assumption)) | exact castN (rs_c (k := k) (by assumption) (by omega) (by assumption) (by assumption)).1 | exact (rs_c (k := k) (by assumption) (by omega) (by assumption) (by assumption)).2.symm), (show false = (readB text) from by first | exact rz (read_long (by assumption)) | exact rzB (read_long (by assumption)) | exact rz (read_fig (k := k) (by omega) (by omega)) | exact rzB (read_fig (k := k) (by omega) (by omega)) | exact rz (rs_a (k := k) (by assumption) (by omega) (by assumption)) | exact rzB (rs_a (k := k) (by assumption) (by omega) (by assumption)) | exact rz (rs_b (k := k) (by assumption) (by omega) (by assumption)) | exact rzB (rs_b (k := k) (by assumption) (by omega) (by assumption)) | exact castN (rs_c (k := k) (by assumption) (by omega) (by assumption) (by assumption)).1 | exact (rs_c (k := k) (by assumption) (by omega) (by assumption) (by assumption)).2.symm)]), (Mv.pick (Mv.refl (At.nil w)) [] rfl)⟩
 · skip
   refine wp_skip (x_normal (wp_seq (wp_region_lit (l_op (f_val F7 rfl rfl (r_assign rfl rfl) rfl fun _ F12 => ?_)))))
   have F13 : Fr 42 [(4, .int .i64 0), (0, .string text)] _ := F12.cut rfl
   clear F7 F12
   refine s_end (x_normal (wp_seq (wp_seq (wp_region_lit (l_op (f_val F13 rfl rfl (r_assign rfl rfl) rfl fun _ F14 => ?_))))))
   have F15 : Fr 42 [(5, .int .i64 0), (4, .int .i64 0), (0, .string text)] _ := F14.cut rfl
   clear F13 F14
   refine s_end (x_normal (wp_block ?_))
   refine x_loop (fun (k : Nat) aZ wZ => Fr 42 [(5, .int .i64 ((k : Nat) : Int)), (4, .int .i64 ((valN text k : Nat) : Int)), (0, .string text)] aZ ∧ Mv [] w [] wZ ∧ (k ≤ text.size) ∧ (∀ j, j < k → 48 ≤ byteAt text j ∧ byteAt text j ≤ 57)) (fun (k : Nat) => text.size - k) (0) ?_ ?_
   · exact ⟨F15.cut rfl, (Mv.refl (At.nil w)), by omega, all_none⟩
   · rintro k a16 w16 ⟨F16, S16, hk_0, hk_1⟩
     have hv10 := valN_le (s := text) (k := k) hk_1 (by omega)
     refine wp_seq (wp_seq (wp_region_lit (l_op (f_mv F16 rfl rfl rfl rfl rfl fun _ F17 => ?_))))
     refine l_op (f_mv F17 rfl rfl rfl rfl rfl fun _ F18 => ?_)
     refine l_op (f_val F18 rfl rfl (r_lenS (fun t ht => by cases ht; exact Tryd.underlying9) rfl rfl (F18.ev 10 rfl)) rfl fun _ F19 => ?_)
     refine l_op (f_val F19 rfl rfl (r_cmp (b := decide (k < text.size)) (.inr (.inr (.inl rfl))) rfl (F19.ev 9 rfl) (F19.ev 11 rfl) (dec_of (by omega))) rfl fun _ F20 => ?_)
     have F21 : Fr 42 [(12, .bool (decide (k < text.size))), (5, .int .i64 ((k : Nat) : Int)), (4, .int .i64 ((valN text k : Nat) : Int)), (0, .string text)] _ := F20.cut rfl
     clear F16 F17 F18 F19 F20
     refine s_end (x_normal (x_cond (p := k < text.size) (F21.ev 12 rfl) (fun h22 => ?_) (fun h22 => ?_)))
     · skip
       refine wp_skip (x_normal (wp_seq (wp_block (wp_seq (wp_seq (wp_region_lit (l_op (f_mv F21 rfl rfl rfl rfl rfl fun _ F23 => ?_))))))))
       refine l_op (f_mv F23 rfl rfl rfl rfl rfl fun _ F24 => ?_)
       refine l_op (f_val F24 rfl rfl (r_indexS (i := k) Tryd.underlying9 rfl (F24.ev 15 rfl) (F24.ev 16 rfl) (by omega) (by first | assumption | omega)) rfl fun _ F25 => ?_)
       refine l_op (f_val F25 rfl rfl (r_cmp (b := decide (byteAt text k < 48)) (.inr (.inr (.inl rfl))) rfl (F25.ev 17 rfl) rfl (dec_of (by omega))) rfl fun _ F26 => ?_)
       refine l_op (f_mv F26 rfl rfl rfl rfl rfl fun _ F27 => ?_)
       rcases Decidable.em (byteAt text k < 48) with h28 | h28
       · rw [decide_eq_true h28] at F27
         refine l_op (f_skip F27 (wanted_g F27 rfl rfl rfl rfl) rfl rfl fun _ F29 => ?_)
         refine l_op (f_skip F29 (wanted_g F29 rfl rfl rfl rfl) rfl rfl fun _ F30 => ?_)
         refine l_op (f_skip F30 (wanted_g F30 rfl rfl rfl rfl) rfl rfl fun _ F31 => ?_)
         refine l_op (f_skip F31 (wanted_g F31 rfl rfl rfl rfl) rfl rfl fun _ F32 => ?_)
         refine l_op (f_val F32 rfl rfl (r_pick (b := true) rfl (F32.ev 19 rfl) rfl) rfl fun _ F33 => ?_)
         have F34 : Fr 42 [(24, .bool true), (5, .int .i64 ((k : Nat) : Int)), (4, .int .i64 ((valN text k : Nat) : Int)), (0, .string text)] _ := F33.cut rfl
         clear F21 F23 F24 F25 F26 F27 F29 F30 F31 F32 F33
         refine s_end (x_normal (wp_cond_true (F34.ev 24 rfl) (wp_seq (wp_region_lit (l_op (f_val F34 rfl rfl (r_assign rfl rfl) rfl fun _ F35 => ?_))))))
         refine l_op (f_val F35 rfl rfl (r_assign rfl rfl) rfl fun _ F36 => ?_)
         have F37 : Fr 42 [(3, .bool false), (2, .int .i64 0)] _ := F36.cut rfl
         clear F34 F35 F36
         refine s_end (x_normal (wp_ret (x_then_ret (x_block_ret (x_then_ret (x_then_ret (x_block_ret (x_then_ret ?_))))))))
         refine x_done (v := .tuple #[.int .i64 0, .bool false]) F37 (results_2 Tryd.results166 (.tmp (F37.ev 2 rfl)) (.tmp (F37.ev 3 rfl))) ?_
         exact ⟨(by rw [(show 0 = ((readN text : Nat) : Int) from by first | exact rz (read_long (by assumption)) | exact rzB (read_long (by assumption)) | exact rz (read_fig (k := k) (by omega) (by omega)) | exact rzB (read_fig (k := k) (by omega) (by omega)) | exact rz (rs_a (k := k) (by assumption) (by omega) (by assumption)) | exact rzB (rs_a (k := k) (by assumption) (by omega) (by assumption)) | exact rz (rs_b (k := k) (by assumption) (by omega) (by assumption)) | exact rzB (rs_b (k := k) (by assumption) (by omega) (by assumption)) | exact castN (rs_c (k := k) (by assumption) (by omega) (by assumption) (by assumption)).1 | exact (rs_c (k := k) (by assumption) (by omega) (by assumption) (by assumption)).2.symm), (show false = (readB text) from by first | exact rz (read_long (by assumption)) | exact rzB (read_long (by assumption)) | exact rz (read_fig (k := k) (by omega) (by omega)) | exact rzB (read_fig (k := k) (by omega) (by omega)) | exact rz (rs_a (k := k) (by assumption) (by omega) (by assumption)) | exact rzB (rs_a (k := k) (by assumption) (by omega) (by assumption)) | exact rz (rs_b (k := k) (by assumption) (by omega) (by assumption)) | exact rzB (rs_b (k := k) (by assumption) (by omega) (by assumption)) | exact castN (rs_c (k := k) (by assumption) (by omega) (by assumption) (by assumption)).1 | exact (rs_c (k := k) (by assumption) (by omega) (by assumption) (by assumption)).2.symm)]), (Mv.pick S16 [] rfl)⟩
       · rw [decide_eq_false h28] at F27
         refine l_op (f_mv F27 (wanted_g F27 rfl rfl rfl rfl) rfl rfl rfl rfl fun _ F38 => ?_)
         refine l_op (f_mv F38 (wanted_g F38 rfl rfl rfl rfl) rfl rfl rfl rfl fun _ F39 => ?_)
         refine l_op (f_val F39 (wanted_g F39 rfl rfl rfl rfl) rfl (r_indexS (i := k) Tryd.underlying9 rfl (F39.ev 20 rfl) (F39.ev 21 rfl) (by omega) (by first | assumption | omega)) rfl fun _ F40 => ?_)
         refine l_op (f_val F40 (wanted_g F40 rfl rfl rfl rfl) rfl (r_cmp (b := decide (byteAt text k > 57)) (.inr (.inr (.inr (.inr (.inl rfl))))) rfl (F40.ev 22 rfl) rfl (dec_of (by omega))) rfl fun _ F41 => ?_)
         refine l_op (f_val F41 rfl rfl (r_pick (b := false) rfl (F41.ev 19 rfl) (F41.ev 23 rfl)) rfl fun _ F42 => ?_)
         have F43 : Fr 42 [(24, .bool (decide (byteAt text k > 57))), (5, .int .i64 ((k : Nat) : Int)), (4, .int .i64 ((valN text k : Nat) : Int)), (0, .string text)] _ := F42.cut rfl
         clear F21 F23 F24 F25 F26 F27 F38 F39 F40 F41 F42
         refine s_end (x_normal (x_cond (p := byteAt text k > 57) (F43.ev 24 rfl) (fun h44 => ?_) (fun h44 => ?_)))
         · skip
           refine wp_seq (wp_region_lit (l_op (f_val F43 rfl rfl (r_assign rfl rfl) rfl fun _ F45 => ?_)))
           refine l_op (f_val F45 rfl rfl (r_assign rfl rfl) rfl fun _ F46 => ?_)
           have F47 : Fr 42 [(3, .bool false), (2, .int .i64 0)] _ := F46.cut rfl
           clear F43 F45 F46
           refine s_end (x_normal (wp_ret (x_then_ret (x_block_ret (x_then_ret (x_then_ret (x_block_ret (x_then_ret ?_))))))))
           refine x_done (v := .tuple #[.int .i64 0, .bool false]) F47 (results_2 Tryd.results166 (.tmp (F47.ev 2 rfl)) (.tmp (F47.ev 3 rfl))) ?_
           exact ⟨(by rw [(show 0 = ((readN text : Nat) : Int) from by first | exact rz (read_long (by assumption)) | exact rzB (read_long (by assumption)) | exact rz (read_fig (k := k) (by omega) (by omega)) | exact rzB (read_fig (k := k) (by omega) (by omega)) | exact rz (rs_a (k := k) (by assumption) (by omega) (by assumption)) | exact rzB (rs_a (k := k) (by assumption) (by omega) (by assumption)) | exact rz (rs_b (k := k) (by assumption) (by omega) (by assumption)) | exact rzB (rs_b (k := k) (by assumption) (by omega) (by assumption)) | exact castN (rs_c (k := k) (by assumption) (by omega) (by assumption) (by assumption)).1 | exact (rs_c (k := k) (by assumption) (by omega) (by assumption) (by assumption)).2.symm), (show false = (readB text) from by first | exact rz (read_long (by assumption)) | exact rzB (read_long (by assumption)) | exact rz (read_fig (k := k) (by omega) (by omega)) | exact rzB (read_fig (k := k) (by omega) (by omega)) | exact rz (rs_a (k := k) (by assumption) (by omega) (by assumption)) | exact rzB (rs_a (k := k) (by assumption) (by omega) (by assumption)) | exact rz (rs_b (k := k) (by assumption) (by omega) (by assumption)) | exact rzB (rs_b (k := k) (by assumption) (by omega) (by assumption)) | exact castN (rs_c (k := k) (by assumption) (by omega) (by assumption) (by assumption)).1 | exact (rs_c (k := k) (by assumption) (by omega) (by assumption) (by assumption)).2.symm)]), (Mv.pick S16 [] rfl)⟩
         · skip
           refine wp_skip (x_normal ?_)
           have hvs := valN_succ text k
           have hv11 := byteAt_lt text k
           refine wp_region_lit (l_op (f_mv F43 rfl rfl rfl rfl rfl fun _ F48 => ?_))
           refine l_op (f_val F48 rfl rfl (r_mul (z := ((10 * (valN text k) : Nat) : Int)) rfl rfl (F48.ev 25 rfl) (by first | rfl | omega) ⟨by first | omega | (unfold i64ok at *; omega), by first | omega | (unfold i64ok at *; omega)⟩) rfl fun _ F49 => ?_)
           refine l_op (f_mv F49 rfl rfl rfl rfl rfl fun _ F50 => ?_)
           refine l_op (f_mv F50 rfl rfl rfl rfl rfl fun _ F51 => ?_)
           refine l_op (f_val F51 rfl rfl (r_indexS (i := k) Tryd.underlying9 rfl (F51.ev 27 rfl) (F51.ev 28 rfl) (by omega) (by first | assumption | omega)) rfl fun _ F52 => ?_)
           refine l_op (f_val F52 rfl rfl (r_convU8 Tryd.underlying3 Tryd.underlying5 rfl (F52.ev 29 rfl) ⟨by omega, by first | omega | (have := byteAt_lt text k; omega)⟩) rfl fun _ F53 => ?_)
           refine l_op (f_val F53 rfl rfl (r_add (z := (((10 * (valN text k)) + (byteAt text k) : Nat) : Int)) rfl (F53.ev 26 rfl) (F53.ev 30 rfl) (by first | rfl | omega) ⟨by first | omega | (unfold i64ok at *; omega), by first | omega | (unfold i64ok at *; omega)⟩) rfl fun _ F54 => ?_)
           refine l_op (f_val F54 rfl rfl (r_sub (z := ((valN text (k + 1) : Nat) : Int)) rfl (F54.ev 31 rfl) rfl (by first | rfl | omega) ⟨by first | omega | (unfold i64ok at *; omega), by first | omega | (unfold i64ok at *; omega)⟩) rfl fun _ F55 => ?_)
           refine l_op (f_as F55 rfl rfl rfl rfl rfl fun _ F56 => ?_)
           have F57 : Fr 42 [(4, .int .i64 ((valN text (k + 1) : Nat) : Int)), (5, .int .i64 ((k : Nat) : Int)), (0, .string text)] _ := F56.cut rfl
           clear F43 F48 F49 F50 F51 F52 F53 F54 F55 F56
           refine s_end (x_block_normal (x_normal (wp_region_lit (l_op (f_mv F57 rfl rfl rfl rfl rfl fun _ F58 => ?_)))))
           refine l_op (f_val F58 rfl rfl (r_add (z := ((k + 1 : Nat) : Int)) rfl (F58.ev 13 rfl) rfl (by first | rfl | omega) ⟨by first | omega | (unfold i64ok at *; omega), by first | omega | (unfold i64ok at *; omega)⟩) rfl fun _ F59 => ?_)
           refine l_op (f_as F59 rfl rfl rfl rfl rfl fun _ F60 => ?_)
           have F61 : Fr 42 [(5, .int .i64 ((k + 1 : Nat) : Int)), (4, .int .i64 ((valN text (k + 1) : Nat) : Int)), (0, .string text)] _ := F60.cut rfl
           clear F57 F58 F59 F60
           refine s_end ?_
           refine x_normal ⟨k + 1, by omega, F61.cut rfl, (S16.pick [] rfl), by omega, all_step hk_1 ⟨by omega, by omega⟩⟩
     · skip
       refine wp_exit (x_then_exit (x_then_exit (x_block_here (x_normal (wp_seq (wp_seq (wp_region_lit (l_op (f_mv F21 rfl rfl rfl rfl rfl fun _ F62 => ?_)))))))))
       refine l_op (f_val F62 rfl rfl (r_cmp (b := decide (valN text k > 1000000000)) (.inr (.inr (.inr (.inr (.inl rfl))))) rfl (F62.ev 33 rfl) rfl (dec_of (by omega))) rfl fun _ F63 => ?_)
       refine l_op (f_mv F63 rfl rfl rfl rfl rfl fun _ F64 => ?_)
       rcases Decidable.em (valN text k > 1000000000) with h65 | h65
       · rw [decide_eq_true h65] at F64
         refine l_op (f_skip F64 (wanted_g F64 rfl rfl rfl rfl) rfl rfl fun _ F66 => ?_)
         refine l_op (f_skip F66 (wanted_g F66 rfl rfl rfl rfl) rfl rfl fun _ F67 => ?_)
         refine l_op (f_skip F67 (wanted_g F67 rfl rfl rfl rfl) rfl rfl fun _ F68 => ?_)
         refine l_op (f_skip F68 (wanted_g F68 rfl rfl rfl rfl) rfl rfl fun _ F69 => ?_)
         refine l_op (f_val F69 rfl rfl (r_pick (b := true) rfl (F69.ev 35 rfl) rfl) rfl fun _ F70 => ?_)
         have F71 : Fr 42 [(40, .bool true), (4, .int .i64 ((valN text k : Nat) : Int))] _ := F70.cut rfl
         clear F21 F62 F63 F64 F66 F67 F68 F69 F70
         refine s_end (x_normal (wp_cond_true (F71.ev 40 rfl) (wp_seq (wp_region_lit (l_op (f_val F71 rfl rfl (r_assign rfl rfl) rfl fun _ F72 => ?_))))))
         refine l_op (f_val F72 rfl rfl (r_assign rfl rfl) rfl fun _ F73 => ?_)
         have F74 : Fr 42 [(3, .bool false), (2, .int .i64 0)] _ := F73.cut rfl
         clear F71 F72 F73
         refine s_end (x_normal (wp_ret (x_then_ret ?_)))
         refine x_done (v := .tuple #[.int .i64 0, .bool false]) F74 (results_2 Tryd.results166 (.tmp (F74.ev 2 rfl)) (.tmp (F74.ev 3 rfl))) ?_
         exact ⟨(by rw [(show 0 = ((readN text : Nat) : Int) from by first | exact rz (read_long (by assumption)) | exact rzB (read_long (by assumption)) | exact rz (read_fig (k := k) (by omega) (by omega)) | exact rzB (read_fig (k := k) (by omega) (by omega)) | exact rz (rs_a (k := k) (by assumption) (by omega) (by assumption)) | exact rzB (rs_a (k := k) (by assumption) (by omega) (by assumption)) | exact rz (rs_b (k := k) (by assumption) (by omega) (by assumption)) | exact rzB (rs_b (k := k) (by assumption) (by omega) (by assumption)) | exact castN (rs_c (k := k) (by assumption) (by omega) (by assumption) (by assumption)).1 | exact (rs_c (k := k) (by assumption) (by omega) (by assumption) (by assumption)).2.symm), (show false = (readB text) from by first | exact rz (read_long (by assumption)) | exact rzB (read_long (by assumption)) | exact rz (read_fig (k := k) (by omega) (by omega)) | exact rzB (read_fig (k := k) (by omega) (by omega)) | exact rz (rs_a (k := k) (by assumption) (by omega) (by assumption)) | exact rzB (rs_a (k := k) (by assumption) (by omega) (by assumption)) | exact rz (rs_b (k := k) (by assumption) (by omega) (by assumption)) | exact rzB (rs_b (k := k) (by assumption) (by omega) (by assumption)) | exact castN (rs_c (k := k) (by assumption) (by omega) (by assumption) (by assumption)).1 | exact (rs_c (k := k) (by assumption) (by omega) (by assumption) (by assumption)).2.symm)]), (Mv.pick S16 [] rfl)⟩
       · rw [decide_eq_false h65] at F64
         refine l_op (f_mv F64 (wanted_g F64 rfl rfl rfl rfl) rfl rfl rfl rfl fun _ F75 => ?_)
         refine l_op (f_call F75 CF_167 (wanted_g F75 rfl rfl rfl rfl) rfl rfl rfl (lc (F75.ev 36 rfl) rfl) (spec_Decimal_c (H := fun _ => True) (n := ((valN text k : Nat) : Int)) (by first | assumption | exact ⟨by omega, by omega⟩ | (unfold i64ok at *; omega))) ?_)
         rintro _ w76 ⟨rfl, m76, ok_r0_76⟩
         refine ⟨_, rfl, fun _ F77 => ?_⟩
         have S76 := At.frame0 S16.at' m76
         clear m76
         refine l_op (f_mv F77 (wanted_g F77 rfl rfl rfl rfl) rfl rfl rfl rfl fun _ F78 => ?_)
         refine l_op (f_val F78 (wanted_g F78 rfl rfl rfl rfl) rfl (r_cmps (b := (decide ((decS ((valN text k : Nat) : Int)) ≠ text))) (.inr (.inl rfl)) rfl (F78.ev 37 rfl) (F78.ev 38 rfl) rfl) rfl fun _ F79 => ?_)
         refine l_op (f_val F79 rfl rfl (r_pick (b := false) rfl (F79.ev 35 rfl) (F79.ev 39 rfl)) rfl fun _ F80 => ?_)
         have F81 : Fr 42 [(40, .bool (decide ((decS ((valN text k : Nat) : Int)) ≠ text))), (4, .int .i64 ((valN text k : Nat) : Int))] _ := F80.cut rfl
         clear F21 F62 F63 F64 F75 F77 F78 F79 F80
         have T82 : Mv _ _ [] _ := S76
         refine s_end (x_normal (x_cond (p := (decS ((valN text k : Nat) : Int)) ≠ text) (F81.ev 40 rfl) (fun h83 => ?_) (fun h83 => ?_)))
         · skip
           refine wp_seq (wp_region_lit (l_op (f_val F81 rfl rfl (r_assign rfl rfl) rfl fun _ F84 => ?_)))
           refine l_op (f_val F84 rfl rfl (r_assign rfl rfl) rfl fun _ F85 => ?_)
           have F86 : Fr 42 [(3, .bool false), (2, .int .i64 0)] _ := F85.cut rfl
           clear F81 F84 F85
           refine s_end (x_normal (wp_ret (x_then_ret ?_)))
           refine x_done (v := .tuple #[.int .i64 0, .bool false]) F86 (results_2 Tryd.results166 (.tmp (F86.ev 2 rfl)) (.tmp (F86.ev 3 rfl))) ?_
           exact ⟨(by rw [(show 0 = ((readN text : Nat) : Int) from by first | exact rz (read_long (by assumption)) | exact rzB (read_long (by assumption)) | exact rz (read_fig (k := k) (by omega) (by omega)) | exact rzB (read_fig (k := k) (by omega) (by omega)) | exact rz (rs_a (k := k) (by assumption) (by omega) (by assumption)) | exact rzB (rs_a (k := k) (by assumption) (by omega) (by assumption)) | exact rz (rs_b (k := k) (by assumption) (by omega) (by assumption)) | exact rzB (rs_b (k := k) (by assumption) (by omega) (by assumption)) | exact castN (rs_c (k := k) (by assumption) (by omega) (by assumption) (by assumption)).1 | exact (rs_c (k := k) (by assumption) (by omega) (by assumption) (by assumption)).2.symm), (show false = (readB text) from by first | exact rz (read_long (by assumption)) | exact rzB (read_long (by assumption)) | exact rz (read_fig (k := k) (by omega) (by omega)) | exact rzB (read_fig (k := k) (by omega) (by omega)) | exact rz (rs_a (k := k) (by assumption) (by omega) (by assumption)) | exact rzB (rs_a (k := k) (by assumption) (by omega) (by assumption)) | exact rz (rs_b (k := k) (by assumption) (by omega) (by assumption)) | exact rzB (rs_b (k := k) (by assumption) (by omega) (by assumption)) | exact castN (rs_c (k := k) (by assumption) (by omega) (by assumption) (by assumption)).1 | exact (rs_c (k := k) (by assumption) (by omega) (by assumption) (by assumption)).2.symm)]), (Mv.pick (S16.trans T82) [] rfl)⟩
         · skip
           refine wp_skip (x_normal (wp_seq (wp_region_lit (l_op (f_mv F81 rfl rfl rfl rfl rfl fun _ F87 => ?_)))))
           refine l_op (f_as F87 rfl rfl rfl rfl rfl fun _ F88 => ?_)
           refine l_op (f_val F88 rfl rfl (r_assign rfl rfl) rfl fun _ F89 => ?_)
           have F90 : Fr 42 [(3, .bool true), (2, .int .i64 ((valN text k : Nat) : Int))] _ := F89.cut rfl
           clear F81 F87 F88 F89
           refine s_end (x_normal (wp_ret ?_))
           refine x_done (v := .tuple #[.int .i64 ((valN text k : Nat) : Int), .bool true]) F90 (results_2 Tryd.results166 (.tmp (F90.ev 2 rfl)) (.tmp (F90.ev 3 rfl))) ?_
           exact ⟨(by rw [(show ((valN text k : Nat) : Int) = ((readN text : Nat) : Int) from by first | exact rz (read_long (by assumption)) | exact rzB (read_long (by assumption)) | exact rz (read_fig (k := k) (by omega) (by omega)) | exact rzB (read_fig (k := k) (by omega) (by omega)) | exact rz (rs_a (k := k) (by assumption) (by omega) (by assumption)) | exact rzB (rs_a (k := k) (by assumption) (by omega) (by assumption)) | exact rz (rs_b (k := k) (by assumption) (by omega) (by assumption)) | exact rzB (rs_b (k := k) (by assumption) (by omega) (by assumption)) | exact castN (rs_c (k := k) (by assumption) (by omega) (by assumption) (by assumption)).1 | exact (rs_c (k := k) (by assumption) (by omega) (by assumption) (by assumption)).2.symm), (show true = (readB text) from by first | exact rz (read_long (by assumption)) | exact rzB (read_long (by assumption)) | exact rz (read_fig (k := k) (by omega) (by omega)) | exact rzB (read_fig (k := k) (by omega) (by omega)) | exact rz (rs_a (k := k) (by assumption) (by omega) (by assumption)) | exact rzB (rs_a (k := k) (by assumption) (by omega) (by assumption)) | exact rz (rs_b (k := k) (by assumption) (by omega) (by assumption)) | exact rzB (rs_b (k := k) (by assumption) (by omega) (by assumption)) | exact castN (rs_c (k := k) (by assumption) (by omega) (by assumption) (by assumption)).1 | exact (rs_c (k := k) (by assumption) (by omega) (by assumption) (by assumption)).2.symm)]), (Mv.pick (S16.trans T82) [] rfl)⟩
theorem impl_NumOf_c {w : World} {H : Nat → Prop} {val : ByteArray} (h_val : okS val) (tab0 : Tb 0 H w) (tab1 : Tb 1 H w) (p0 : val.size ≤ 281474976710656) :
    Calls Tryd.prog 100 #[.string val] w fun e w' => e = .returned (.int .i64 ((numOf val : Nat) : Int)) ∧ Mv [] w [] w' := by
 have uU : True := (fun _ => trivial) p0
 clear uU
 have V_tab0 : Tb 0 (V H w []) w := Tb.start tab0 (fun _ _ => fps_nil _)
 have V_tab1 : Tb 1 (V H w []) w := Tb.start tab1 (fun _ _ => fps_nil _)
 refine calls_enter 13 Tryd.func100 rfl Tryd.ntmps100 (Nat.le_of_ble_eq_true rfl) (fun _ F0i => ?_)
 have F0 : Fr 13 [(0, .string val)] _ := F0i
 clear F0i
 refine wp_seq (wp_region_lit (l_op (f_val F0 rfl rfl (r_assign rfl rfl) rfl fun _ F1 => ?_)))
 have F2 : Fr 13 [(2, .int .i64 0), (0, .string val)] _ := F1.cut rfl
 clear F0 F1
 refine s_end (x_normal (wp_seq (wp_region_lit (l_op (f_mv F2 rfl rfl rfl rfl rfl fun _ F3 => ?_)))))
 refine l_op (f_call F3 CF_131 rfl rfl rfl rfl (lc (F3.ev 6 rfl) rfl) (impl_ReadDecimal_c (text := val) h_val V_tab0 V_tab1 (by first | assumption | omega | (simp <;> omega))) ?_)
 rintro _ w4 ⟨rfl, m4⟩
 refine ⟨_, rfl, fun _ F5 => ?_⟩
 have S4 := At.frame0 (At.nil w) m4
 clear m4
 refine l_op (f_mv F5 rfl rfl rfl rfl rfl fun _ F6 => ?_)
 refine l_op (f_val (v := .int .i64 ((readN val : Nat) : Int)) F6 rfl rfl (r_extract rfl (F6.ev 5 rfl) rfl) rfl fun _ F7 => ?_)
 refine l_op (f_val (v := .bool (readB val)) F7 rfl rfl (r_extract rfl (F7.ev 5 rfl) rfl) rfl fun _ F8 => ?_)
 refine l_op (f_as F8 rfl rfl rfl rfl rfl fun _ F9 => ?_)
 refine l_op (f_as F9 rfl rfl rfl rfl rfl fun _ F10 => ?_)
 have F11 : Fr 13 [(4, .bool (readB val)), (3, .int .i64 ((readN val : Nat) : Int))] _ := F10.cut rfl
 clear F2 F3 F5 F6 F7 F8 F9 F10
 have T12 : Mv _ _ [] _ := S4
 refine s_end (x_normal (wp_seq (wp_seq (wp_region_lit (l_op (f_mv F11 rfl rfl rfl rfl rfl fun _ F13 => ?_))))))
 refine l_op (f_val F13 rfl rfl (r_cmp (b := decide (readN val > 999)) (.inr (.inr (.inr (.inr (.inl rfl))))) rfl (F13.ev 10 rfl) rfl (dec_of (by omega))) rfl fun _ F14 => ?_)
 have F15 : Fr 13 [(11, .bool (decide (readN val > 999))), (3, .int .i64 ((readN val : Nat) : Int))] _ := F14.cut rfl
 clear F11 F13 F14
 refine s_end (x_normal (x_cond (p := readN val > 999) (F15.ev 11 rfl) (fun h16 => ?_) (fun h16 => ?_)))
 · skip
   refine wp_seq (wp_region_lit (l_op (f_val F15 rfl rfl (r_assign rfl rfl) rfl fun _ F17 => ?_)))
   have F18 : Fr 13 [(2, .int .i64 0)] _ := F17.cut rfl
   clear F15 F17
   refine s_end (x_normal (wp_ret (x_then_ret ?_)))
   refine x_done (v := .int .i64 0) F18 (results_1 Tryd.results100 (.tmp (F18.ev 2 rfl))) ?_
   exact ⟨(by rw [(show 0 = ((numOf val : Nat) : Int) from by first | exact numZ (numOf_t (by assumption)) | exact numZ0 (numOf_f (by assumption)) | exact numZ0 (numOf_no (by assumption)))]), (Mv.pick T12 [] rfl)⟩
 · skip
   refine wp_skip (x_normal (wp_seq (wp_region_lit (l_op (f_mv F15 rfl rfl rfl rfl rfl fun _ F19 => ?_)))))
   refine l_op (f_as F19 rfl rfl rfl rfl rfl fun _ F20 => ?_)
   have F21 : Fr 13 [(2, .int .i64 ((readN val : Nat) : Int))] _ := F20.cut rfl
   clear F15 F19 F20
   refine s_end (x_normal (wp_ret ?_))
   refine x_done (v := .int .i64 ((readN val : Nat) : Int)) F21 (results_1 Tryd.results100 (.tmp (F21.ev 2 rfl))) ?_
   exact ⟨(by rw [(show ((readN val : Nat) : Int) = ((numOf val : Nat) : Int) from by first | exact numZ (numOf_t (by assumption)) | exact numZ0 (numOf_f (by assumption)) | exact numZ0 (numOf_no (by assumption)))]), (Mv.pick T12 [] rfl)⟩
theorem spec_NumOf_c {w : World} {H : Nat → Prop} {val : ByteArray} (h_val : okS val) :
    Calls Tryd.prog 141 #[.string val] w fun e w' => e = .returned (.int .i64 ((numOf val : Nat) : Int)) ∧ Mv [] w [] w' := by
 have uU : True := (fun _ => trivial) H
 clear uU
 refine calls_enter 17 Tryd.func141 rfl Tryd.ntmps141 (Nat.le_of_ble_eq_true rfl) (fun _ F0i => ?_)
 have F0 : Fr 17 [(0, .string val)] _ := F0i
 clear F0i
 refine wp_seq (wp_region_lit (l_op (f_val F0 rfl rfl (r_assign rfl rfl) rfl fun _ F1 => ?_)))
 have F2 : Fr 17 [(2, .int .i64 0), (0, .string val)] _ := F1.cut rfl
 clear F0 F1
 refine s_end (x_normal (wp_seq (wp_region_lit (l_op (f_mv F2 rfl rfl rfl rfl rfl fun _ F3 => ?_)))))
 refine l_op (f_call F3 CF_166 rfl rfl rfl rfl (lc (F3.ev 6 rfl) rfl) (spec_ReadDecimal_c (H := fun _ => True) (text := val) h_val) ?_)
 rintro _ w4 ⟨rfl, m4⟩
 refine ⟨_, rfl, fun _ F5 => ?_⟩
 have S4 := At.frame0 (At.nil w) m4
 clear m4
 refine l_op (f_mv F5 rfl rfl rfl rfl rfl fun _ F6 => ?_)
 refine l_op (f_val (v := .int .i64 ((readN val : Nat) : Int)) F6 rfl rfl (r_extract rfl (F6.ev 5 rfl) rfl) rfl fun _ F7 => ?_)
 refine l_op (f_val (v := .bool (readB val)) F7 rfl rfl (r_extract rfl (F7.ev 5 rfl) rfl) rfl fun _ F8 => ?_)
 refine l_op (f_as F8 rfl rfl rfl rfl rfl fun _ F9 => ?_)
 refine l_op (f_as F9 rfl rfl rfl rfl rfl fun _ F10 => ?_)
 have F11 : Fr 17 [(4, .bool (readB val)), (3, .int .i64 ((readN val : Nat) : Int))] _ := F10.cut rfl
 clear F2 F3 F5 F6 F7 F8 F9 F10
 have T12 : Mv _ _ [] _ := S4
 refine s_end (x_normal (wp_seq (wp_seq (wp_region_lit (l_op (f_mv F11 rfl rfl rfl rfl rfl fun _ F13 => ?_))))))
 refine l_op (f_val F13 rfl rfl (r_not rfl (F13.ev 10 rfl)) rfl fun _ F14 => ?_)
 refine l_op (f_mv F14 rfl rfl rfl rfl rfl fun _ F15 => ?_)
 rcases Bool.eq_false_or_eq_true (!(readB val)) with h16 | h16
 · rw [h16] at F15
   refine l_op (f_skip F15 (wanted_g F15 rfl rfl rfl rfl) rfl rfl fun _ F17 => ?_)
   refine l_op (f_skip F17 (wanted_g F17 rfl rfl rfl rfl) rfl rfl fun _ F18 => ?_)
   refine l_op (f_val F18 rfl rfl (r_pick (b := true) rfl (F18.ev 12 rfl) rfl) rfl fun _ F19 => ?_)
   have F20 : Fr 17 [(15, .bool true), (3, .int .i64 ((readN val : Nat) : Int))] _ := F19.cut rfl
   clear F11 F13 F14 F15 F17 F18 F19
   refine s_end (x_normal (wp_cond_true (F20.ev 15 rfl) (wp_seq (wp_region_lit (l_op (f_val F20 rfl rfl (r_assign rfl rfl) rfl fun _ F21 => ?_))))))
   have F22 : Fr 17 [(2, .int .i64 0)] _ := F21.cut rfl
   clear F20 F21
   refine s_end (x_normal (wp_ret (x_then_ret ?_)))
   refine x_done (v := .int .i64 0) F22 (results_1 Tryd.results141 (.tmp (F22.ev 2 rfl))) ?_
   exact ⟨(by rw [(show 0 = ((numOf val : Nat) : Int) from by first | exact numZ (numOf_t (by assumption)) | exact numZ0 (numOf_f (by assumption)) | exact numZ0 (numOf_no (by assumption)))]), (Mv.pick T12 [] rfl)⟩
 · rw [h16] at F15
   refine l_op (f_mv F15 (wanted_g F15 rfl rfl rfl rfl) rfl rfl rfl rfl fun _ F23 => ?_)
   refine l_op (f_val F23 (wanted_g F23 rfl rfl rfl rfl) rfl (r_cmp (b := decide (readN val > 999)) (.inr (.inr (.inr (.inr (.inl rfl))))) rfl (F23.ev 13 rfl) rfl (dec_of (by omega))) rfl fun _ F24 => ?_)
   refine l_op (f_val F24 rfl rfl (r_pick (b := false) rfl (F24.ev 12 rfl) (F24.ev 14 rfl)) rfl fun _ F25 => ?_)
   have F26 : Fr 17 [(15, .bool (decide (readN val > 999))), (3, .int .i64 ((readN val : Nat) : Int))] _ := F25.cut rfl
   clear F11 F13 F14 F15 F23 F24 F25
   refine s_end (x_normal (x_cond (p := readN val > 999) (F26.ev 15 rfl) (fun h27 => ?_) (fun h27 => ?_)))
   · skip
     refine wp_seq (wp_region_lit (l_op (f_val F26 rfl rfl (r_assign rfl rfl) rfl fun _ F28 => ?_)))
     have F29 : Fr 17 [(2, .int .i64 0)] _ := F28.cut rfl
     clear F26 F28
     refine s_end (x_normal (wp_ret (x_then_ret ?_)))
     refine x_done (v := .int .i64 0) F29 (results_1 Tryd.results141 (.tmp (F29.ev 2 rfl))) ?_
     exact ⟨(by rw [(show 0 = ((numOf val : Nat) : Int) from by first | exact numZ (numOf_t (by assumption)) | exact numZ0 (numOf_f (by assumption)) | exact numZ0 (numOf_no (by assumption)))]), (Mv.pick T12 [] rfl)⟩
   · skip
     refine wp_skip (x_normal (wp_seq (wp_region_lit (l_op (f_mv F26 rfl rfl rfl rfl rfl fun _ F30 => ?_)))))
     refine l_op (f_as F30 rfl rfl rfl rfl rfl fun _ F31 => ?_)
     have F32 : Fr 17 [(2, .int .i64 ((readN val : Nat) : Int))] _ := F31.cut rfl
     clear F26 F30 F31
     refine s_end (x_normal (wp_ret ?_))
     refine x_done (v := .int .i64 ((readN val : Nat) : Int)) F32 (results_1 Tryd.results141 (.tmp (F32.ev 2 rfl))) ?_
     exact ⟨(by rw [(show ((readN val : Nat) : Int) = ((numOf val : Nat) : Int) from by first | exact numZ (numOf_t (by assumption)) | exact numZ0 (numOf_f (by assumption)) | exact numZ0 (numOf_no (by assumption)))]), (Mv.pick T12 [] rfl)⟩
theorem impl_Mach_num_c {w : World} {H : Nat → Prop} {m : MachD} {m_store_a : Option Addr} {m_store_n m_store_c : Nat} {m_touch_reads_a : Option Addr} {m_touch_reads_n m_touch_reads_c : Nat} {m_touch_writes_a : Option Addr} {m_touch_writes_n m_touch_writes_c : Nat} {m_b : Nat} {key : ByteArray} (h_key : okS key) (tab0 : Tb 0 H w) (tab1 : Tb 1 H w) (p0 : bdC 137438953472 m) (hA : At w [bx m_b [.slice m_store_a m_store_n m_store_c, .slice m_touch_reads_a m_touch_reads_n m_touch_reads_c, .slice m_touch_writes_a m_touch_writes_n m_touch_writes_c] 31, ow 81 2 encC okC (.slice m_store_a m_store_n m_store_c) m.store, ow 9 1 encS okS (.slice m_touch_reads_a m_touch_reads_n m_touch_reads_c) m.touch.reads, ow 9 1 encS okS (.slice m_touch_writes_a m_touch_writes_n m_touch_writes_c) m.touch.writes]) (hD : ∀ b, H b → ¬ fps [bx m_b [.slice m_store_a m_store_n m_store_c, .slice m_touch_reads_a m_touch_reads_n m_touch_reads_c, .slice m_touch_writes_a m_touch_writes_n m_touch_writes_c] 31, ow 81 2 encC okC (.slice m_store_a m_store_n m_store_c) m.store, ow 9 1 encS okS (.slice m_touch_reads_a m_touch_reads_n m_touch_reads_c) m.touch.reads, ow 9 1 encS okS (.slice m_touch_writes_a m_touch_writes_n m_touch_writes_c) m.touch.writes] b) :
    Calls Tryd.prog 57 #[.pointer (some ⟨m_b, 0, none⟩), .string key] w fun e w' => ∃ (q_m_store_a : Option Addr), ∃ (q_m_store_n : Nat), ∃ (q_m_store_c : Nat), ∃ (q_m_touch_reads_a : Option Addr), ∃ (q_m_touch_reads_n : Nat), ∃ (q_m_touch_reads_c : Nat), ∃ (q_m_touch_writes_a : Option Addr), ∃ (q_m_touch_writes_n : Nat), ∃ (q_m_touch_writes_c : Nat), e = .returned (.int .i64 ((numOf (getKey m.store key) : Nat) : Int)) ∧ Mv [bx m_b [.slice m_store_a m_store_n m_store_c, .slice m_touch_reads_a m_touch_reads_n m_touch_reads_c, .slice m_touch_writes_a m_touch_writes_n m_touch_writes_c] 31, ow 81 2 encC okC (.slice m_store_a m_store_n m_store_c) m.store, ow 9 1 encS okS (.slice m_touch_reads_a m_touch_reads_n m_touch_reads_c) m.touch.reads, ow 9 1 encS okS (.slice m_touch_writes_a m_touch_writes_n m_touch_writes_c) m.touch.writes] w [bx m_b [.slice q_m_store_a q_m_store_n q_m_store_c, .slice q_m_touch_reads_a q_m_touch_reads_n q_m_touch_reads_c, .slice q_m_touch_writes_a q_m_touch_writes_n q_m_touch_writes_c] 31, ow 81 2 encC okC (.slice q_m_store_a q_m_store_n q_m_store_c) (lookM m key).store, ow 9 1 encS okS (.slice q_m_touch_reads_a q_m_touch_reads_n q_m_touch_reads_c) (lookM m key).touch.reads, ow 9 1 encS okS (.slice q_m_touch_writes_a q_m_touch_writes_n q_m_touch_writes_c) (lookM m key).touch.writes] w' := by
 have uU : True := (fun _ => trivial) p0
 clear uU
 have V_tab0 : Tb 0 (V H w [bx m_b [.slice m_store_a m_store_n m_store_c, .slice m_touch_reads_a m_touch_reads_n m_touch_reads_c, .slice m_touch_writes_a m_touch_writes_n m_touch_writes_c] 31, ow 81 2 encC okC (.slice m_store_a m_store_n m_store_c) m.store, ow 9 1 encS okS (.slice m_touch_reads_a m_touch_reads_n m_touch_reads_c) m.touch.reads, ow 9 1 encS okS (.slice m_touch_writes_a m_touch_writes_n m_touch_writes_c) m.touch.writes]) w := Tb.start tab0 hD
 have V_tab1 : Tb 1 (V H w [bx m_b [.slice m_store_a m_store_n m_store_c, .slice m_touch_reads_a m_touch_reads_n m_touch_reads_c, .slice m_touch_writes_a m_touch_writes_n m_touch_writes_c] 31, ow 81 2 encC okC (.slice m_store_a m_store_n m_store_c) m.store, ow 9 1 encS okS (.slice m_touch_reads_a m_touch_reads_n m_touch_reads_c) m.touch.reads, ow 9 1 encS okS (.slice m_touch_writes_a m_touch_writes_n m_touch_writes_c) m.touch.writes]) w := Tb.start tab1 hD
 obtain ⟨lo1, lp1, lq1⟩ := At.ownInv hA ET_26.hk 1 rfl
 obtain ⟨lo2, lp2, lq2⟩ := At.ownInv hA ET_27.hk 2 rfl
 obtain ⟨lo3, lp3, lq3⟩ := At.ownInv hA ET_27.hk 3 rfl
 refine calls_enter 9 Tryd.func57 rfl Tryd.ntmps57 (Nat.le_of_ble_eq_true rfl) (fun _ F0i => ?_)
 have F0 : Fr 9 [(0, .pointer (some ⟨m_b, 0, none⟩)), (1, .string key)] _ := F0i
 clear F0i
 refine wp_seq (wp_region_lit (l_op (f_val F0 rfl rfl (r_assign rfl rfl) rfl fun _ F1 => ?_)))
 have F2 : Fr 9 [(4, .int .i64 0), (0, .pointer (some ⟨m_b, 0, none⟩)), (1, .string key)] _ := F1.cut rfl
 clear F0 F1
 refine s_end (x_normal (wp_seq (wp_region_lit (l_op (f_mv F2 rfl rfl rfl rfl rfl fun _ F3 => ?_)))))
 refine l_op (f_mv F3 rfl rfl rfl rfl rfl fun _ F4 => ?_)
 refine l_op (f_call F4 CF_101 rfl rfl rfl rfl (lc (F4.ev 5 rfl) (lc (F4.ev 6 rfl) rfl)) (impl_Mach_look_c (H := fun _ => True) (m := m) (key := key) h_key (by first | assumption | omega | (refine bdC.s ?_; (repeat (first | refine bdC.look ?_ | refine bdC.lay ?_ | refine bdC.set ?_)); exact bdC.le (by assumption) (by decide)) | (refine bdC.r ?_; (repeat (first | refine bdC.look ?_ | refine bdC.lay ?_ | refine bdC.set ?_)); exact bdC.le (by assumption) (by decide)) | (refine bdC.w ?_; (repeat (first | refine bdC.look ?_ | refine bdC.lay ?_ | refine bdC.set ?_)); exact bdC.le (by assumption) (by decide)) | ((repeat (first | refine bdC.look ?_ | refine bdC.lay ?_ | refine bdC.set ?_)); exact bdC.le (by assumption) (by decide)) | decide | exact Nat.le_trans (keyNum_size _ _ (by assumption)) (by decide)) (At.pick (is := [0, 1, 2, 3]) hA rfl)) ?_)
 rintro _ w5 ⟨qm_store_a_5, qm_store_n_5, qm_store_c_5, qm_touch_reads_a_5, qm_touch_reads_n_5, qm_touch_reads_c_5, qm_touch_writes_a_5, qm_touch_writes_n_5, qm_touch_writes_c_5, rfl, m5, ok_r0_5⟩
 refine ⟨_, rfl, fun _ F6 => ?_⟩
 have S5 : Mv _ _ [bx m_b [.slice qm_store_a_5 qm_store_n_5 qm_store_c_5, .slice qm_touch_reads_a_5 qm_touch_reads_n_5 qm_touch_reads_c_5, .slice qm_touch_writes_a_5 qm_touch_writes_n_5 qm_touch_writes_c_5] 31, ow 81 2 encC okC (.slice qm_store_a_5 qm_store_n_5 qm_store_c_5) (lookM m key).store, ow 9 1 encS okS (.slice qm_touch_reads_a_5 qm_touch_reads_n_5 qm_touch_reads_c_5) (lookM m key).touch.reads, ow 9 1 encS okS (.slice qm_touch_writes_a_5 qm_touch_writes_n_5 qm_touch_writes_c_5) (lookM m key).touch.writes] _ := At.frame hA [0, 1, 2, 3] rfl m5
 obtain ⟨lo5_1, lp5_1, lq5_1⟩ := At.ownInv S5.at' ET_26.hk 1 rfl
 obtain ⟨lo5_2, lp5_2, lq5_2⟩ := At.ownInv S5.at' ET_27.hk 2 rfl
 obtain ⟨lo5_3, lp5_3, lq5_3⟩ := At.ownInv S5.at' ET_27.hk 3 rfl
 clear m5
 refine l_op (f_call F6 CF_100 rfl rfl rfl rfl (lc (F6.ev 7 rfl) rfl) (impl_NumOf_c (val := getKey m.store key) ok_r0_5 (Tb.mv V_tab0 S5) (Tb.mv V_tab1 S5) (by first | exact Nat.le_trans (bdC.val (m := m) (by assumption)) (by decide) | assumption | omega | (refine bdC.s ?_; (repeat (first | refine bdC.look ?_ | refine bdC.lay ?_ | refine bdC.set ?_)); exact bdC.le (by assumption) (by decide)) | (refine bdC.r ?_; (repeat (first | refine bdC.look ?_ | refine bdC.lay ?_ | refine bdC.set ?_)); exact bdC.le (by assumption) (by decide)) | (refine bdC.w ?_; (repeat (first | refine bdC.look ?_ | refine bdC.lay ?_ | refine bdC.set ?_)); exact bdC.le (by assumption) (by decide)) | ((repeat (first | refine bdC.look ?_ | refine bdC.lay ?_ | refine bdC.set ?_)); exact bdC.le (by assumption) (by decide)) | decide | exact Nat.le_trans (keyNum_size _ _ (by assumption)) (by decide))) ?_)
 rintro _ w7 ⟨rfl, m7⟩
 refine ⟨_, rfl, fun _ F8 => ?_⟩
 have S7 := At.frame0 S5.at' m7
 clear m7
 refine l_op (f_as F8 rfl rfl rfl rfl rfl fun _ F9 => ?_)
 have F10 : Fr 9 [(4, .int .i64 ((numOf (getKey m.store key) : Nat) : Int))] _ := F9.cut rfl
 clear F2 F3 F4 F6 F8 F9
 have T11 : Mv _ _ [bx m_b [.slice qm_store_a_5 qm_store_n_5 qm_store_c_5, .slice qm_touch_reads_a_5 qm_touch_reads_n_5 qm_touch_reads_c_5, .slice qm_touch_writes_a_5 qm_touch_writes_n_5 qm_touch_writes_c_5] 31, ow 81 2 encC okC (.slice qm_store_a_5 qm_store_n_5 qm_store_c_5) (lookM m key).store, ow 9 1 encS okS (.slice qm_touch_reads_a_5 qm_touch_reads_n_5 qm_touch_reads_c_5) (lookM m key).touch.reads, ow 9 1 encS okS (.slice qm_touch_writes_a_5 qm_touch_writes_n_5 qm_touch_writes_c_5) (lookM m key).touch.writes] _ := S7
 refine s_end (x_normal (wp_ret ?_))
 refine x_done (v := .int .i64 ((numOf (getKey m.store key) : Nat) : Int)) F10 (results_1 Tryd.results57 (.tmp (F10.ev 4 rfl))) ?_
 exact ⟨qm_store_a_5, qm_store_n_5, qm_store_c_5, qm_touch_reads_a_5, qm_touch_reads_n_5, qm_touch_reads_c_5, qm_touch_writes_a_5, qm_touch_writes_n_5, qm_touch_writes_c_5, rfl, (Mv.pick (S5.trans T11) [0, 1, 2, 3] rfl)⟩
theorem spec_l05NumAt_c {w : World} {H : Nat → Prop} {m : MachD} {m_store_a : Option Addr} {m_store_n m_store_c : Nat} {m_touch_reads_a : Option Addr} {m_touch_reads_n m_touch_reads_c : Nat} {m_touch_writes_a : Option Addr} {m_touch_writes_n m_touch_writes_c : Nat} {key : ByteArray} (v_m_store : Rd 2 encC okC H w (.slice m_store_a m_store_n m_store_c) m.store) (v_m_touch_reads : Rd 1 encS okS H w (.slice m_touch_reads_a m_touch_reads_n m_touch_reads_c) m.touch.reads) (v_m_touch_writes : Rd 1 encS okS H w (.slice m_touch_writes_a m_touch_writes_n m_touch_writes_c) m.touch.writes) (h_key : okS key) (p0 : bdC 137438953472 m) :
    Calls Tryd.prog 116 #[.agg #[.slice m_store_a m_store_n m_store_c, .slice m_touch_reads_a m_touch_reads_n m_touch_reads_c, .slice m_touch_writes_a m_touch_writes_n m_touch_writes_c], .string key] w fun e w' => ∃ (r0_store_a : Option Addr), ∃ (r0_store_n : Nat), ∃ (r0_store_c : Nat), ∃ (r0_touch_reads_a : Option Addr), ∃ (r0_touch_reads_n : Nat), ∃ (r0_touch_reads_c : Nat), ∃ (r0_touch_writes_a : Option Addr), ∃ (r0_touch_writes_n : Nat), ∃ (r0_touch_writes_c : Nat), e = .returned (.tuple #[.agg #[.slice r0_store_a r0_store_n r0_store_c, .slice r0_touch_reads_a r0_touch_reads_n r0_touch_reads_c, .slice r0_touch_writes_a r0_touch_writes_n r0_touch_writes_c], .int .i64 ((numOf (getKey m.store key) : Nat) : Int)]) ∧ Mv [] w [] w' ∧ Rd 2 encC okC (Fsh H w) w' (.slice r0_store_a r0_store_n r0_store_c) (lookM m key).store ∧ Rd 1 encS okS (Fsh H w) w' (.slice r0_touch_reads_a r0_touch_reads_n r0_touch_reads_c) (lookM m key).touch.reads ∧ Rd 1 encS okS (Fsh H w) w' (.slice r0_touch_writes_a r0_touch_writes_n r0_touch_writes_c) (lookM m key).touch.writes := by
 have uU : True := (fun _ => trivial) p0
 clear uU
 have V_v_m_store : Rd 2 encC okC (V H w []) w (.slice m_store_a m_store_n m_store_c) m.store := Rd.start v_m_store (fun _ _ => fps_nil _)
 obtain ⟨ln_m_store, le_m_store, mx_m_store, ni_m_store⟩ := Rd.inv v_m_store
 have V_v_m_touch_reads : Rd 1 encS okS (V H w []) w (.slice m_touch_reads_a m_touch_reads_n m_touch_reads_c) m.touch.reads := Rd.start v_m_touch_reads (fun _ _ => fps_nil _)
 obtain ⟨ln_m_touch_reads, le_m_touch_reads, mx_m_touch_reads, ni_m_touch_reads⟩ := Rd.inv v_m_touch_reads
 have V_v_m_touch_writes : Rd 1 encS okS (V H w []) w (.slice m_touch_writes_a m_touch_writes_n m_touch_writes_c) m.touch.writes := Rd.start v_m_touch_writes (fun _ _ => fps_nil _)
 obtain ⟨ln_m_touch_writes, le_m_touch_writes, mx_m_touch_writes, ni_m_touch_writes⟩ := Rd.inv v_m_touch_writes
 refine calls_enter 16 Tryd.func116 rfl Tryd.ntmps116 (Nat.le_of_ble_eq_true rfl) (fun _ F0i => ?_)
 have F0 : Fr 16 [(0, .agg #[.slice m_store_a m_store_n m_store_c, .slice m_touch_reads_a m_touch_reads_n m_touch_reads_c, .slice m_touch_writes_a m_touch_writes_n m_touch_writes_c]), (1, .string key)] _ := F0i
 clear F0i
 refine wp_seq (wp_region_lit (l_op (f_box F0 (At.nil w) rfl rfl rfl (F0.ev 0 rfl) rfl rfl fun b1 _ w1 F2 S1 => ?_)))
 refine l_op (f_alloc F2 S1.at' ZI_31 rfl rfl rfl rfl rfl fun b3 _ w3 F4 S3 => ?_)
 refine l_op (f_val F4 rfl rfl (r_assign rfl rfl) rfl fun _ F5 => ?_)
 have F6 : Fr 16 [(5, .int .i64 0), (4, .pointer (some ⟨b3, 0, none⟩)), (2, .pointer (some ⟨b1, 0, none⟩)), (1, .string key)] _ := F5.cut rfl
 clear F0 F2 F4 F5
 have T7 : Mv _ _ [bx b3 [.slice none 0 0, .slice none 0 0, .slice none 0 0] 31, bx b1 [.slice m_store_a m_store_n m_store_c, .slice m_touch_reads_a m_touch_reads_n m_touch_reads_c, .slice m_touch_writes_a m_touch_writes_n m_touch_writes_c] 31] _ := S3
 refine s_end (x_normal (wp_seq (wp_region_lit (l_op (f_val (v := .agg #[.slice m_store_a m_store_n m_store_c, .slice m_touch_reads_a m_touch_reads_n m_touch_reads_c, .slice m_touch_writes_a m_touch_writes_n m_touch_writes_c]) F6 rfl rfl (r_loadB T7.at' 1 TI_31 rfl rfl (F6.ev 2 rfl) rfl rfl (fun h => nomatch h) rfl) rfl fun _ F8 => ?_)))))
 refine l_op (f_mv F8 rfl rfl rfl rfl rfl fun _ F9 => ?_)
 refine l_op (f_call F9 CF_140 rfl rfl rfl rfl (lc (F9.ev 8 rfl) (lc (F9.ev 9 rfl) rfl)) (spec_l04Look_c (m := m) (key := key) (Rd.mv (Nat.succ_pos _) V_v_m_store (S1.trans T7)) (Rd.mv (Nat.succ_pos _) V_v_m_touch_reads (S1.trans T7)) (Rd.mv (Nat.succ_pos _) V_v_m_touch_writes (S1.trans T7)) h_key (by first | assumption | omega | (refine bdC.s ?_; (repeat (first | refine bdC.look ?_ | refine bdC.lay ?_ | refine bdC.set ?_)); exact bdC.le (by assumption) (by decide)) | (refine bdC.r ?_; (repeat (first | refine bdC.look ?_ | refine bdC.lay ?_ | refine bdC.set ?_)); exact bdC.le (by assumption) (by decide)) | (refine bdC.w ?_; (repeat (first | refine bdC.look ?_ | refine bdC.lay ?_ | refine bdC.set ?_)); exact bdC.le (by assumption) (by decide)) | ((repeat (first | refine bdC.look ?_ | refine bdC.lay ?_ | refine bdC.set ?_)); exact bdC.le (by assumption) (by decide)) | decide | exact Nat.le_trans (keyNum_size _ _ (by assumption)) (by decide))) ?_)
 rintro _ w10 ⟨r0_store_a_10, r0_store_n_10, r0_store_c_10, r0_touch_reads_a_10, r0_touch_reads_n_10, r0_touch_reads_c_10, r0_touch_writes_a_10, r0_touch_writes_n_10, r0_touch_writes_c_10, rfl, m10, v10_0, v10_1, v10_2, ok_r1_10⟩
 refine ⟨_, rfl, fun _ F11 => ?_⟩
 have S10 := At.frame0 T7.at' m10
 have V10_0 := Rd.got0 T7.at' ((S1.trans T7).kp.size) v10_0 S10
 obtain ⟨ln10_0, le10_0, mx10_0, ni10_0⟩ := Rd.inv V10_0
 have V10_1 := Rd.got0 T7.at' ((S1.trans T7).kp.size) v10_1 S10
 obtain ⟨ln10_1, le10_1, mx10_1, ni10_1⟩ := Rd.inv V10_1
 have V10_2 := Rd.got0 T7.at' ((S1.trans T7).kp.size) v10_2 S10
 obtain ⟨ln10_2, le10_2, mx10_2, ni10_2⟩ := Rd.inv V10_2
 clear m10 v10_0 v10_1 v10_2
 refine l_op (f_mv F11 rfl rfl rfl rfl rfl fun _ F12 => ?_)
 refine l_op (f_val (v := .agg #[.slice r0_store_a_10 r0_store_n_10 r0_store_c_10, .slice r0_touch_reads_a_10 r0_touch_reads_n_10 r0_touch_reads_c_10, .slice r0_touch_writes_a_10 r0_touch_writes_n_10 r0_touch_writes_c_10]) F12 rfl rfl (r_extract rfl (F12.ev 7 rfl) rfl) rfl fun _ F13 => ?_)
 refine l_op (f_val (v := .string (getKey m.store key)) F13 rfl rfl (r_extract rfl (F13.ev 7 rfl) rfl) rfl fun _ F14 => ?_)
 refine l_op (s_store S10.at' 1 TI_31 rfl rfl rfl rfl rfl (F14.ev 2 rfl) (F14.ev 11 rfl) rfl rfl rfl rfl rfl fun w15 S15 => ?_)
 refine l_op (f_as F14 rfl rfl rfl rfl rfl fun _ F16 => ?_)
 have F17 : Fr 16 [(6, .string (getKey m.store key)), (4, .pointer (some ⟨b3, 0, none⟩)), (2, .pointer (some ⟨b1, 0, none⟩))] _ := F16.cut rfl
 clear F6 F8 F9 F11 F12 F13 F14 F16
 have T18 : Mv _ _ [bx b1 [.slice r0_store_a_10 r0_store_n_10 r0_store_c_10, .slice r0_touch_reads_a_10 r0_touch_reads_n_10 r0_touch_reads_c_10, .slice r0_touch_writes_a_10 r0_touch_writes_n_10 r0_touch_writes_c_10] 31, bx b3 [.slice none 0 0, .slice none 0 0, .slice none 0 0] 31] _ := S15
 refine s_end (x_normal (wp_seq ?_))
 refine x_draw (fun aZ wZ => Fr 16 [(4, .pointer (some ⟨b3, 0, none⟩)), (5, .int .i64 ((numOf (getKey m.store key) : Nat) : Int))] aZ ∧ Mv [bx b1 [.slice r0_store_a_10 r0_store_n_10 r0_store_c_10, .slice r0_touch_reads_a_10 r0_touch_reads_n_10 r0_touch_reads_c_10, .slice r0_touch_writes_a_10 r0_touch_writes_n_10 r0_touch_writes_c_10] 31, bx b3 [.slice none 0 0, .slice none 0 0, .slice none 0 0] 31] w15 [bx b1 [.slice r0_store_a_10 r0_store_n_10 r0_store_c_10, .slice r0_touch_reads_a_10 r0_touch_reads_n_10 r0_touch_reads_c_10, .slice r0_touch_writes_a_10 r0_touch_writes_n_10 r0_touch_writes_c_10] 31, bx b3 [.slice r0_store_a_10 r0_store_n_10 r0_store_c_10, .slice r0_touch_reads_a_10 r0_touch_reads_n_10 r0_touch_reads_c_10, .slice r0_touch_writes_a_10 r0_touch_writes_n_10 r0_touch_writes_c_10] 31] wZ) [bx b1 [.slice r0_store_a_10 r0_store_n_10 r0_store_c_10, .slice r0_touch_reads_a_10 r0_touch_reads_n_10 r0_touch_reads_c_10, .slice r0_touch_writes_a_10 r0_touch_writes_n_10 r0_touch_writes_c_10] 31] mixed T18.at' (listed := #[false, false, false, false, false]) rfl (fun w20 S20 => ?_) [0] rfl ?_
 · skip
   refine g_take (v := .agg #[.slice r0_store_a_10 r0_store_n_10 r0_store_c_10, .slice r0_touch_reads_a_10 r0_touch_reads_n_10 r0_touch_reads_c_10, .slice r0_touch_writes_a_10 r0_touch_writes_n_10 r0_touch_writes_c_10]) F17 rfl (i := 0) (listed' := #[true, false, false, false, false]) rfl (by kernel_rfl) (by kernel_rfl) (by kernel_rfl) (fun _ _ _ h => h) (Sd.of (Mv.refl S20.at') [0] rfl) rfl rfl rfl rfl (fun _ hz => (r_loadX (hz.bx 0 rfl) TI_31 rfl (F17.ev 2 rfl) rfl rfl (fun h => nomatch h) rfl)) fun _ F21 => ?_
   refine g_take F21 rfl (i := 1) (listed' := #[true, true, false, false, false]) rfl (by kernel_rfl) (by kernel_rfl) (by kernel_rfl) (fun _ _ _ h => h) (Sd.of (Mv.refl S20.at') [0] rfl) rfl rfl rfl rfl (fun _ hz => (r_move rfl (F21.ev 6 rfl))) fun _ F22 => ?_
   refine d_one (i := 2) (listed' := #[true, true, true, false, false]) rfl (by kernel_rfl) rfl rfl ?_
   refine f_call F22 CF_141 rfl rfl rfl rfl (lc (F22.ev 14 rfl) rfl) (spec_NumOf_c (H := fun _ => True) (val := getKey m.store key) ok_r1_10) ?_
   rintro _ w23 ⟨rfl, m23⟩
   refine ⟨_, rfl, fun _ F24 => ?_⟩
   have S23 := At.frame0 S20.at' m23
   clear m23
   refine ⟨Sd.of S23 [0] rfl, ?_⟩
   refine d_one (i := 3) (listed' := #[true, true, true, true, false]) rfl (by kernel_rfl) rfl rfl ?_
   refine s_store S23.at' 1 TI_31 rfl rfl rfl rfl rfl (F24.ev 4 rfl) (F24.ev 13 rfl) rfl rfl rfl rfl rfl fun w25 S25 => ?_
   refine ⟨Sd.of (S23.trans S25) [1] rfl, ?_⟩
   refine g_take F24 rfl (i := 4) (listed' := #[true, true, true, true, true]) rfl (by kernel_rfl) (by kernel_rfl) (by kernel_rfl) (fun _ _ _ h => h) (Sd.of (S23.trans S25) [1] rfl) rfl rfl rfl rfl (fun _ hz => (r_assign rfl (F24.ev 15 rfl))) fun _ F26 => ?_
   refine wpAnyH_done (by kernel_rfl) (x_normal ?_) _
   exact ⟨F26.cut rfl, ((S20.trans (S23.trans S25)).pick [1, 0] rfl)⟩
 · rintro a27 w27 ⟨F27, S27⟩
   refine x_normal (wp_ret ?_)
   refine x_done (v := .tuple #[.agg #[.slice r0_store_a_10 r0_store_n_10 r0_store_c_10, .slice r0_touch_reads_a_10 r0_touch_reads_n_10 r0_touch_reads_c_10, .slice r0_touch_writes_a_10 r0_touch_writes_n_10 r0_touch_writes_c_10], .int .i64 ((numOf (getKey m.store key) : Nat) : Int)]) F27 (results_2 Tryd.results116 (.cell (F27.ev 4 rfl) (run_loadVar' TI_31 _ [.slice r0_store_a_10 r0_store_n_10 r0_store_c_10, .slice r0_touch_reads_a_10 r0_touch_reads_n_10 r0_touch_reads_c_10, .slice r0_touch_writes_a_10 r0_touch_writes_n_10 r0_touch_writes_c_10] rfl (fun h => nomatch h) (At.cells S27.at' 1 rfl 0 [.slice r0_store_a_10 r0_store_n_10 r0_store_c_10, .slice r0_touch_reads_a_10 r0_touch_reads_n_10 r0_touch_reads_c_10, .slice r0_touch_writes_a_10 r0_touch_writes_n_10 r0_touch_writes_c_10] rfl))) (.tmp (F27.ev 5 rfl))) ?_
   exact ⟨r0_store_a_10, r0_store_n_10, r0_store_c_10, r0_touch_reads_a_10, r0_touch_reads_n_10, r0_touch_reads_c_10, r0_touch_writes_a_10, r0_touch_writes_n_10, r0_touch_writes_c_10, rfl, (Mv.pick (S1.trans (T7.trans (S10.trans (T18.trans S27)))) [] rfl), (Rd.give (Rd.mv (Nat.succ_pos _) V10_0 (T18.trans S27))), (Rd.give (Rd.mv (Nat.succ_pos _) V10_1 (T18.trans S27))), (Rd.give (Rd.mv (Nat.succ_pos _) V10_2 (T18.trans S27)))⟩
theorem impl_NumAt_c {w : World} {H : Nat → Prop} {m : MachD} {m_store_a : Option Addr} {m_store_n m_store_c : Nat} {m_touch_reads_a : Option Addr} {m_touch_reads_n m_touch_reads_c : Nat} {m_touch_writes_a : Option Addr} {m_touch_writes_n m_touch_writes_c : Nat} {key : ByteArray} (v_m_store : Rd 2 encC okC H w (.slice m_store_a m_store_n m_store_c) m.store) (v_m_touch_reads : Rd 1 encS okS H w (.slice m_touch_reads_a m_touch_reads_n m_touch_reads_c) m.touch.reads) (v_m_touch_writes : Rd 1 encS okS H w (.slice m_touch_writes_a m_touch_writes_n m_touch_writes_c) m.touch.writes) (h_key : okS key) (tab0 : Tb 0 H w) (tab1 : Tb 1 H w) (p0 : bdC 34359738368 m) :
    Calls Tryd.prog 22 #[.agg #[.slice m_store_a m_store_n m_store_c, .slice m_touch_reads_a m_touch_reads_n m_touch_reads_c, .slice m_touch_writes_a m_touch_writes_n m_touch_writes_c], .string key] w fun e w' => ∃ (r0_store_a : Option Addr), ∃ (r0_store_n : Nat), ∃ (r0_store_c : Nat), ∃ (r0_touch_reads_a : Option Addr), ∃ (r0_touch_reads_n : Nat), ∃ (r0_touch_reads_c : Nat), ∃ (r0_touch_writes_a : Option Addr), ∃ (r0_touch_writes_n : Nat), ∃ (r0_touch_writes_c : Nat), e = .returned (.tuple #[.agg #[.slice r0_store_a r0_store_n r0_store_c, .slice r0_touch_reads_a r0_touch_reads_n r0_touch_reads_c, .slice r0_touch_writes_a r0_touch_writes_n r0_touch_writes_c], .int .i64 ((numOf (getKey m.store key) : Nat) : Int)]) ∧ Mv [] w [ow 81 2 encC okC (.slice r0_store_a r0_store_n r0_store_c) (lookM m key).store, ow 9 1 encS okS (.slice r0_touch_reads_a r0_touch_reads_n r0_touch_reads_c) (lookM m key).touch.reads, ow 9 1 encS okS (.slice r0_touch_writes_a r0_touch_writes_n r0_touch_writes_c) (lookM m key).touch.writes] w' := by
 have uU : True := (fun _ => trivial) p0
 clear uU
 have V_v_m_store : Rd 2 encC okC (V H w []) w (.slice m_store_a m_store_n m_store_c) m.store := Rd.start v_m_store (fun _ _ => fps_nil _)
 obtain ⟨ln_m_store, le_m_store, mx_m_store, ni_m_store⟩ := Rd.inv v_m_store
 have V_v_m_touch_reads : Rd 1 encS okS (V H w []) w (.slice m_touch_reads_a m_touch_reads_n m_touch_reads_c) m.touch.reads := Rd.start v_m_touch_reads (fun _ _ => fps_nil _)
 obtain ⟨ln_m_touch_reads, le_m_touch_reads, mx_m_touch_reads, ni_m_touch_reads⟩ := Rd.inv v_m_touch_reads
 have V_v_m_touch_writes : Rd 1 encS okS (V H w []) w (.slice m_touch_writes_a m_touch_writes_n m_touch_writes_c) m.touch.writes := Rd.start v_m_touch_writes (fun _ _ => fps_nil _)
 obtain ⟨ln_m_touch_writes, le_m_touch_writes, mx_m_touch_writes, ni_m_touch_writes⟩ := Rd.inv v_m_touch_writes
 have V_tab0 : Tb 0 (V H w []) w := Tb.start tab0 (fun _ _ => fps_nil _)
 have V_tab1 : Tb 1 (V H w []) w := Tb.start tab1 (fun _ _ => fps_nil _)
 refine calls_enter 13 Tryd.func22 rfl Tryd.ntmps22 (Nat.le_of_ble_eq_true rfl) (fun _ F0i => ?_)
 have F0 : Fr 13 [(0, .agg #[.slice m_store_a m_store_n m_store_c, .slice m_touch_reads_a m_touch_reads_n m_touch_reads_c, .slice m_touch_writes_a m_touch_writes_n m_touch_writes_c]), (1, .string key)] _ := F0i
 clear F0i
 refine wp_seq (wp_region_lit (l_op (f_box F0 (At.nil w) rfl rfl rfl (F0.ev 0 rfl) rfl rfl fun b1 _ w1 F2 S1 => ?_)))
 refine l_op (f_alloc F2 S1.at' ZI_31 rfl rfl rfl rfl rfl fun b3 _ w3 F4 S3 => ?_)
 refine l_op (f_val F4 rfl rfl (r_assign rfl rfl) rfl fun _ F5 => ?_)
 have F6 : Fr 13 [(5, .int .i64 0), (4, .pointer (some ⟨b3, 0, none⟩)), (2, .pointer (some ⟨b1, 0, none⟩)), (1, .string key)] _ := F5.cut rfl
 clear F0 F2 F4 F5
 have T7 : Mv _ _ [bx b3 [.slice none 0 0, .slice none 0 0, .slice none 0 0] 31, bx b1 [.slice m_store_a m_store_n m_store_c, .slice m_touch_reads_a m_touch_reads_n m_touch_reads_c, .slice m_touch_writes_a m_touch_writes_n m_touch_writes_c] 31] _ := S3
 refine s_end (x_normal (wp_seq (wp_region_lit (l_op (f_val (v := .agg #[.slice m_store_a m_store_n m_store_c, .slice m_touch_reads_a m_touch_reads_n m_touch_reads_c, .slice m_touch_writes_a m_touch_writes_n m_touch_writes_c]) F6 rfl rfl (r_loadB T7.at' 1 TI_31 rfl rfl (F6.ev 2 rfl) rfl rfl (fun h => nomatch h) rfl) rfl fun _ F8 => ?_)))))
 refine l_op (f_call F8 CF_52 rfl rfl rfl rfl (lc (F8.ev 7 rfl) rfl) (impl_Mach_clone_c (m := m) (Rd.mv (Nat.succ_pos _) V_v_m_store (S1.trans T7)) (Rd.mv (Nat.succ_pos _) V_v_m_touch_reads (S1.trans T7)) (Rd.mv (Nat.succ_pos _) V_v_m_touch_writes (S1.trans T7)) (by first | assumption | omega | (refine bdC.s ?_; (repeat (first | refine bdC.look ?_ | refine bdC.lay ?_ | refine bdC.set ?_)); exact bdC.le (by assumption) (by decide)) | (refine bdC.r ?_; (repeat (first | refine bdC.look ?_ | refine bdC.lay ?_ | refine bdC.set ?_)); exact bdC.le (by assumption) (by decide)) | (refine bdC.w ?_; (repeat (first | refine bdC.look ?_ | refine bdC.lay ?_ | refine bdC.set ?_)); exact bdC.le (by assumption) (by decide)) | ((repeat (first | refine bdC.look ?_ | refine bdC.lay ?_ | refine bdC.set ?_)); exact bdC.le (by assumption) (by decide)) | decide | exact Nat.le_trans (keyNum_size _ _ (by assumption)) (by decide)) (by first | assumption | omega | (refine bdC.s ?_; (repeat (first | refine bdC.look ?_ | refine bdC.lay ?_ | refine bdC.set ?_)); exact bdC.le (by assumption) (by decide)) | (refine bdC.r ?_; (repeat (first | refine bdC.look ?_ | refine bdC.lay ?_ | refine bdC.set ?_)); exact bdC.le (by assumption) (by decide)) | (refine bdC.w ?_; (repeat (first | refine bdC.look ?_ | refine bdC.lay ?_ | refine bdC.set ?_)); exact bdC.le (by assumption) (by decide)) | ((repeat (first | refine bdC.look ?_ | refine bdC.lay ?_ | refine bdC.set ?_)); exact bdC.le (by assumption) (by decide)) | decide | exact Nat.le_trans (keyNum_size _ _ (by assumption)) (by decide)) (by first | assumption | omega | (refine bdC.s ?_; (repeat (first | refine bdC.look ?_ | refine bdC.lay ?_ | refine bdC.set ?_)); exact bdC.le (by assumption) (by decide)) | (refine bdC.r ?_; (repeat (first | refine bdC.look ?_ | refine bdC.lay ?_ | refine bdC.set ?_)); exact bdC.le (by assumption) (by decide)) | (refine bdC.w ?_; (repeat (first | refine bdC.look ?_ | refine bdC.lay ?_ | refine bdC.set ?_)); exact bdC.le (by assumption) (by decide)) | ((repeat (first | refine bdC.look ?_ | refine bdC.lay ?_ | refine bdC.set ?_)); exact bdC.le (by assumption) (by decide)) | decide | exact Nat.le_trans (keyNum_size _ _ (by assumption)) (by decide))) ?_)
 rintro _ w9 ⟨r0_store_a_9, r0_store_n_9, r0_store_c_9, r0_touch_reads_a_9, r0_touch_reads_n_9, r0_touch_reads_c_9, r0_touch_writes_a_9, r0_touch_writes_n_9, r0_touch_writes_c_9, rfl, m9⟩
 refine ⟨_, rfl, fun _ F10 => ?_⟩
 have S9 : Mv _ _ [ow 81 2 encC okC (.slice r0_store_a_9 r0_store_n_9 r0_store_c_9) m.store, ow 9 1 encS okS (.slice r0_touch_reads_a_9 r0_touch_reads_n_9 r0_touch_reads_c_9) m.touch.reads, ow 9 1 encS okS (.slice r0_touch_writes_a_9 r0_touch_writes_n_9 r0_touch_writes_c_9) m.touch.writes, bx b3 [.slice none 0 0, .slice none 0 0, .slice none 0 0] 31, bx b1 [.slice m_store_a m_store_n m_store_c, .slice m_touch_reads_a m_touch_reads_n m_touch_reads_c, .slice m_touch_writes_a m_touch_writes_n m_touch_writes_c] 31] _ := At.frame T7.at' [] rfl m9
 obtain ⟨lo9_0, lp9_0, lq9_0⟩ := At.ownInv S9.at' ET_26.hk 0 rfl
 obtain ⟨lo9_1, lp9_1, lq9_1⟩ := At.ownInv S9.at' ET_27.hk 1 rfl
 obtain ⟨lo9_2, lp9_2, lq9_2⟩ := At.ownInv S9.at' ET_27.hk 2 rfl
 clear m9
 refine l_op (s_store S9.at' 4 TI_31 rfl rfl rfl rfl rfl (F10.ev 2 rfl) (F10.ev 8 rfl) rfl rfl rfl rfl rfl fun w11 S11 => ?_)
 have F12 : Fr 13 [(8, .agg #[.slice r0_store_a_9 r0_store_n_9 r0_store_c_9, .slice r0_touch_reads_a_9 r0_touch_reads_n_9 r0_touch_reads_c_9, .slice r0_touch_writes_a_9 r0_touch_writes_n_9 r0_touch_writes_c_9]), (4, .pointer (some ⟨b3, 0, none⟩)), (2, .pointer (some ⟨b1, 0, none⟩)), (1, .string key)] _ := F10.cut rfl
 clear F6 F8 F10
 have T13 : Mv _ _ [bx b1 [.slice r0_store_a_9 r0_store_n_9 r0_store_c_9, .slice r0_touch_reads_a_9 r0_touch_reads_n_9 r0_touch_reads_c_9, .slice r0_touch_writes_a_9 r0_touch_writes_n_9 r0_touch_writes_c_9] 31, ow 81 2 encC okC (.slice r0_store_a_9 r0_store_n_9 r0_store_c_9) m.store, ow 9 1 encS okS (.slice r0_touch_reads_a_9 r0_touch_reads_n_9 r0_touch_reads_c_9) m.touch.reads, ow 9 1 encS okS (.slice r0_touch_writes_a_9 r0_touch_writes_n_9 r0_touch_writes_c_9) m.touch.writes, bx b3 [.slice none 0 0, .slice none 0 0, .slice none 0 0] 31] _ := S11
 refine s_end (x_normal (wp_seq (wp_region_lit (l_op (f_mv F12 rfl rfl rfl rfl rfl fun _ F14 => ?_)))))
 refine l_op (f_call F14 CF_57 rfl rfl rfl rfl (lc (F14.ev 2 rfl) (lc (F14.ev 9 rfl) rfl)) (impl_Mach_num_c (m := m) (key := key) h_key (Tb.mv V_tab0 (S1.trans (T7.trans (S9.trans T13)))) (Tb.mv V_tab1 (S1.trans (T7.trans (S9.trans T13)))) (by first | assumption | omega | (refine bdC.s ?_; (repeat (first | refine bdC.look ?_ | refine bdC.lay ?_ | refine bdC.set ?_)); exact bdC.le (by assumption) (by decide)) | (refine bdC.r ?_; (repeat (first | refine bdC.look ?_ | refine bdC.lay ?_ | refine bdC.set ?_)); exact bdC.le (by assumption) (by decide)) | (refine bdC.w ?_; (repeat (first | refine bdC.look ?_ | refine bdC.lay ?_ | refine bdC.set ?_)); exact bdC.le (by assumption) (by decide)) | ((repeat (first | refine bdC.look ?_ | refine bdC.lay ?_ | refine bdC.set ?_)); exact bdC.le (by assumption) (by decide)) | decide | exact Nat.le_trans (keyNum_size _ _ (by assumption)) (by decide)) (At.pick (is := [0, 1, 2, 3]) T13.at' rfl) (V_off (is := [0, 1, 2, 3]))) ?_)
 rintro _ w15 ⟨qm_store_a_15, qm_store_n_15, qm_store_c_15, qm_touch_reads_a_15, qm_touch_reads_n_15, qm_touch_reads_c_15, qm_touch_writes_a_15, qm_touch_writes_n_15, qm_touch_writes_c_15, rfl, m15⟩
 refine ⟨_, rfl, fun _ F16 => ?_⟩
 have S15 : Mv _ _ [bx b1 [.slice qm_store_a_15 qm_store_n_15 qm_store_c_15, .slice qm_touch_reads_a_15 qm_touch_reads_n_15 qm_touch_reads_c_15, .slice qm_touch_writes_a_15 qm_touch_writes_n_15 qm_touch_writes_c_15] 31, ow 81 2 encC okC (.slice qm_store_a_15 qm_store_n_15 qm_store_c_15) (lookM m key).store, ow 9 1 encS okS (.slice qm_touch_reads_a_15 qm_touch_reads_n_15 qm_touch_reads_c_15) (lookM m key).touch.reads, ow 9 1 encS okS (.slice qm_touch_writes_a_15 qm_touch_writes_n_15 qm_touch_writes_c_15) (lookM m key).touch.writes, bx b3 [.slice none 0 0, .slice none 0 0, .slice none 0 0] 31] _ := At.frame T13.at' [0, 1, 2, 3] rfl m15
 obtain ⟨lo15_1, lp15_1, lq15_1⟩ := At.ownInv S15.at' ET_26.hk 1 rfl
 obtain ⟨lo15_2, lp15_2, lq15_2⟩ := At.ownInv S15.at' ET_27.hk 2 rfl
 obtain ⟨lo15_3, lp15_3, lq15_3⟩ := At.ownInv S15.at' ET_27.hk 3 rfl
 clear m15
 refine l_op (f_as F16 rfl rfl rfl rfl rfl fun _ F17 => ?_)
 have F18 : Fr 13 [(6, .int .i64 ((numOf (getKey m.store key) : Nat) : Int)), (4, .pointer (some ⟨b3, 0, none⟩)), (2, .pointer (some ⟨b1, 0, none⟩))] _ := F17.cut rfl
 clear F12 F14 F16 F17
 refine s_end (x_normal (wp_seq (wp_region_lit (l_op (f_val (v := .agg #[.slice qm_store_a_15 qm_store_n_15 qm_store_c_15, .slice qm_touch_reads_a_15 qm_touch_reads_n_15 qm_touch_reads_c_15, .slice qm_touch_writes_a_15 qm_touch_writes_n_15 qm_touch_writes_c_15]) F18 rfl rfl (r_loadB S15.at' 0 TI_31 rfl rfl (F18.ev 2 rfl) rfl rfl (fun h => nomatch h) rfl) rfl fun _ F19 => ?_)))))
 refine l_op (f_mv F19 rfl rfl rfl rfl rfl fun _ F20 => ?_)
 refine l_op (s_store S15.at' 4 TI_31 rfl rfl rfl rfl rfl (F20.ev 4 rfl) (F20.ev 11 rfl) rfl rfl rfl rfl rfl fun w21 S21 => ?_)
 refine l_op (f_as F20 rfl rfl rfl rfl rfl fun _ F22 => ?_)
 have F23 : Fr 13 [(5, .int .i64 ((numOf (getKey m.store key) : Nat) : Int)), (4, .pointer (some ⟨b3, 0, none⟩))] _ := F22.cut rfl
 clear F18 F19 F20 F22
 have T24 : Mv _ _ [bx b3 [.slice qm_store_a_15 qm_store_n_15 qm_store_c_15, .slice qm_touch_reads_a_15 qm_touch_reads_n_15 qm_touch_reads_c_15, .slice qm_touch_writes_a_15 qm_touch_writes_n_15 qm_touch_writes_c_15] 31, bx b1 [.slice qm_store_a_15 qm_store_n_15 qm_store_c_15, .slice qm_touch_reads_a_15 qm_touch_reads_n_15 qm_touch_reads_c_15, .slice qm_touch_writes_a_15 qm_touch_writes_n_15 qm_touch_writes_c_15] 31, ow 81 2 encC okC (.slice qm_store_a_15 qm_store_n_15 qm_store_c_15) (lookM m key).store, ow 9 1 encS okS (.slice qm_touch_reads_a_15 qm_touch_reads_n_15 qm_touch_reads_c_15) (lookM m key).touch.reads, ow 9 1 encS okS (.slice qm_touch_writes_a_15 qm_touch_writes_n_15 qm_touch_writes_c_15) (lookM m key).touch.writes] _ := S21
 refine s_end (x_normal (wp_ret ?_))
 refine x_done (v := .tuple #[.agg #[.slice qm_store_a_15 qm_store_n_15 qm_store_c_15, .slice qm_touch_reads_a_15 qm_touch_reads_n_15 qm_touch_reads_c_15, .slice qm_touch_writes_a_15 qm_touch_writes_n_15 qm_touch_writes_c_15], .int .i64 ((numOf (getKey m.store key) : Nat) : Int)]) F23 (results_2 Tryd.results22 (.cell (F23.ev 4 rfl) (run_loadVar' TI_31 _ [.slice qm_store_a_15 qm_store_n_15 qm_store_c_15, .slice qm_touch_reads_a_15 qm_touch_reads_n_15 qm_touch_reads_c_15, .slice qm_touch_writes_a_15 qm_touch_writes_n_15 qm_touch_writes_c_15] rfl (fun h => nomatch h) (At.cells T24.at' 0 rfl 0 [.slice qm_store_a_15 qm_store_n_15 qm_store_c_15, .slice qm_touch_reads_a_15 qm_touch_reads_n_15 qm_touch_reads_c_15, .slice qm_touch_writes_a_15 qm_touch_writes_n_15 qm_touch_writes_c_15] rfl))) (.tmp (F23.ev 5 rfl))) ?_
 exact ⟨qm_store_a_15, qm_store_n_15, qm_store_c_15, qm_touch_reads_a_15, qm_touch_reads_n_15, qm_touch_reads_c_15, qm_touch_writes_a_15, qm_touch_writes_n_15, qm_touch_writes_c_15, rfl, (Mv.pick (S1.trans (T7.trans (S9.trans (T13.trans (S15.trans T24))))) [2, 3, 4] rfl)⟩
theorem impl_ClockOf_c {w : World} {H : Nat → Prop} {m : MachD} {m_store_a : Option Addr} {m_store_n m_store_c : Nat} {m_touch_reads_a : Option Addr} {m_touch_reads_n m_touch_reads_c : Nat} {m_touch_writes_a : Option Addr} {m_touch_writes_n m_touch_writes_c : Nat} (v_m_store : Rd 2 encC okC H w (.slice m_store_a m_store_n m_store_c) m.store) (v_m_touch_reads : Rd 1 encS okS H w (.slice m_touch_reads_a m_touch_reads_n m_touch_reads_c) m.touch.reads) (v_m_touch_writes : Rd 1 encS okS H w (.slice m_touch_writes_a m_touch_writes_n m_touch_writes_c) m.touch.writes) (tab0 : Tb 0 H w) (tab1 : Tb 1 H w) (p0 : bdC 17179869184 m) :
    Calls Tryd.prog 30 #[.agg #[.slice m_store_a m_store_n m_store_c, .slice m_touch_reads_a m_touch_reads_n m_touch_reads_c, .slice m_touch_writes_a m_touch_writes_n m_touch_writes_c]] w fun e w' => ∃ (r0_store_a : Option Addr), ∃ (r0_store_n : Nat), ∃ (r0_store_c : Nat), ∃ (r0_touch_reads_a : Option Addr), ∃ (r0_touch_reads_n : Nat), ∃ (r0_touch_reads_c : Nat), ∃ (r0_touch_writes_a : Option Addr), ∃ (r0_touch_writes_n : Nat), ∃ (r0_touch_writes_c : Nat), e = .returned (.tuple #[.agg #[.slice r0_store_a r0_store_n r0_store_c, .slice r0_touch_reads_a r0_touch_reads_n r0_touch_reads_c, .slice r0_touch_writes_a r0_touch_writes_n r0_touch_writes_c], .int .i64 ((numOf (getKey m.store (⟨#[99, 47, 99, 108, 111, 99, 107]⟩ : ByteArray)) : Nat) : Int)]) ∧ Mv [] w [ow 81 2 encC okC (.slice r0_store_a r0_store_n r0_store_c) (lookM m (⟨#[99, 47, 99, 108, 111, 99, 107]⟩ : ByteArray)).store, ow 9 1 encS okS (.slice r0_touch_reads_a r0_touch_reads_n r0_touch_reads_c) (lookM m (⟨#[99, 47, 99, 108, 111, 99, 107]⟩ : ByteArray)).touch.reads, ow 9 1 encS okS (.slice r0_touch_writes_a r0_touch_writes_n r0_touch_writes_c) (lookM m (⟨#[99, 47, 99, 108, 111, 99, 107]⟩ : ByteArray)).touch.writes] w' := by
 have uU : True := (fun _ => trivial) p0
 clear uU
 have V_v_m_store : Rd 2 encC okC (V H w []) w (.slice m_store_a m_store_n m_store_c) m.store := Rd.start v_m_store (fun _ _ => fps_nil _)
 obtain ⟨ln_m_store, le_m_store, mx_m_store, ni_m_store⟩ := Rd.inv v_m_store
 have V_v_m_touch_reads : Rd 1 encS okS (V H w []) w (.slice m_touch_reads_a m_touch_reads_n m_touch_reads_c) m.touch.reads := Rd.start v_m_touch_reads (fun _ _ => fps_nil _)
 obtain ⟨ln_m_touch_reads, le_m_touch_reads, mx_m_touch_reads, ni_m_touch_reads⟩ := Rd.inv v_m_touch_reads
 have V_v_m_touch_writes : Rd 1 encS okS (V H w []) w (.slice m_touch_writes_a m_touch_writes_n m_touch_writes_c) m.touch.writes := Rd.start v_m_touch_writes (fun _ _ => fps_nil _)
 obtain ⟨ln_m_touch_writes, le_m_touch_writes, mx_m_touch_writes, ni_m_touch_writes⟩ := Rd.inv v_m_touch_writes
 have V_tab0 : Tb 0 (V H w []) w := Tb.start tab0 (fun _ _ => fps_nil _)
 have V_tab1 : Tb 1 (V H w []) w := Tb.start tab1 (fun _ _ => fps_nil _)
 refine calls_enter 8 Tryd.func30 rfl Tryd.ntmps30 (Nat.le_of_ble_eq_true rfl) (fun _ F0i => ?_)
 have F0 : Fr 8 [(0, .agg #[.slice m_store_a m_store_n m_store_c, .slice m_touch_reads_a m_touch_reads_n m_touch_reads_c, .slice m_touch_writes_a m_touch_writes_n m_touch_writes_c])] _ := F0i
 clear F0i
 refine wp_seq (wp_region_lit (l_op (f_box F0 (At.nil w) rfl rfl rfl (F0.ev 0 rfl) rfl rfl fun b1 _ w1 F2 S1 => ?_)))
 refine l_op (f_alloc F2 S1.at' ZI_31 rfl rfl rfl rfl rfl fun b3 _ w3 F4 S3 => ?_)
 refine l_op (f_val F4 rfl rfl (r_assign rfl rfl) rfl fun _ F5 => ?_)
 have F6 : Fr 8 [(3, .int .i64 0), (2, .pointer (some ⟨b3, 0, none⟩)), (1, .pointer (some ⟨b1, 0, none⟩))] _ := F5.cut rfl
 clear F0 F2 F4 F5
 have T7 : Mv _ _ [bx b3 [.slice none 0 0, .slice none 0 0, .slice none 0 0] 31, bx b1 [.slice m_store_a m_store_n m_store_c, .slice m_touch_reads_a m_touch_reads_n m_touch_reads_c, .slice m_touch_writes_a m_touch_writes_n m_touch_writes_c] 31] _ := S3
 refine s_end (x_normal (wp_seq (wp_region_lit (l_op (f_val (v := .agg #[.slice m_store_a m_store_n m_store_c, .slice m_touch_reads_a m_touch_reads_n m_touch_reads_c, .slice m_touch_writes_a m_touch_writes_n m_touch_writes_c]) F6 rfl rfl (r_loadB T7.at' 1 TI_31 rfl rfl (F6.ev 1 rfl) rfl rfl (fun h => nomatch h) rfl) rfl fun _ F8 => ?_)))))
 refine l_op (f_call F8 CF_22 rfl rfl rfl rfl (lc (F8.ev 4 rfl) (lc rfl rfl)) (impl_NumAt_c (m := m) (key := (⟨#[99, 47, 99, 108, 111, 99, 107]⟩ : ByteArray)) (Rd.mv (Nat.succ_pos _) V_v_m_store (S1.trans T7)) (Rd.mv (Nat.succ_pos _) V_v_m_touch_reads (S1.trans T7)) (Rd.mv (Nat.succ_pos _) V_v_m_touch_writes (S1.trans T7)) (by unfold okS; decide) (Tb.mv V_tab0 (S1.trans T7)) (Tb.mv V_tab1 (S1.trans T7)) (by first | assumption | omega | (refine bdC.s ?_; (repeat (first | refine bdC.look ?_ | refine bdC.lay ?_ | refine bdC.set ?_)); exact bdC.le (by assumption) (by decide)) | (refine bdC.r ?_; (repeat (first | refine bdC.look ?_ | refine bdC.lay ?_ | refine bdC.set ?_)); exact bdC.le (by assumption) (by decide)) | (refine bdC.w ?_; (repeat (first | refine bdC.look ?_ | refine bdC.lay ?_ | refine bdC.set ?_)); exact bdC.le (by assumption) (by decide)) | ((repeat (first | refine bdC.look ?_ | refine bdC.lay ?_ | refine bdC.set ?_)); exact bdC.le (by assumption) (by decide)) | decide | exact Nat.le_trans (keyNum_size _ _ (by assumption)) (by decide))) ?_)
 rintro _ w9 ⟨r0_store_a_9, r0_store_n_9, r0_store_c_9, r0_touch_reads_a_9, r0_touch_reads_n_9, r0_touch_reads_c_9, r0_touch_writes_a_9, r0_touch_writes_n_9, r0_touch_writes_c_9, rfl, m9⟩
 refine ⟨_, rfl, fun _ F10 => ?_⟩
 have S9 : Mv _ _ [ow 81 2 encC okC (.slice r0_store_a_9 r0_store_n_9 r0_store_c_9) (lookM m (⟨#[99, 47, 99, 108, 111, 99, 107]⟩ : ByteArray)).store, ow 9 1 encS okS (.slice r0_touch_reads_a_9 r0_touch_reads_n_9 r0_touch_reads_c_9) (lookM m (⟨#[99, 47, 99, 108, 111, 99, 107]⟩ : ByteArray)).touch.reads, ow 9 1 encS okS (.slice r0_touch_writes_a_9 r0_touch_writes_n_9 r0_touch_writes_c_9) (lookM m (⟨#[99, 47, 99, 108, 111, 99, 107]⟩ : ByteArray)).touch.writes, bx b3 [.slice none 0 0, .slice none 0 0, .slice none 0 0] 31, bx b1 [.slice m_store_a m_store_n m_store_c, .slice m_touch_reads_a m_touch_reads_n m_touch_reads_c, .slice m_touch_writes_a m_touch_writes_n m_touch_writes_c] 31] _ := At.frame T7.at' [] rfl m9
 obtain ⟨lo9_0, lp9_0, lq9_0⟩ := At.ownInv S9.at' ET_26.hk 0 rfl
 obtain ⟨lo9_1, lp9_1, lq9_1⟩ := At.ownInv S9.at' ET_27.hk 1 rfl
 obtain ⟨lo9_2, lp9_2, lq9_2⟩ := At.ownInv S9.at' ET_27.hk 2 rfl
 clear m9
 refine l_op (f_val (v := .agg #[.slice r0_store_a_9 r0_store_n_9 r0_store_c_9, .slice r0_touch_reads_a_9 r0_touch_reads_n_9 r0_touch_reads_c_9, .slice r0_touch_writes_a_9 r0_touch_writes_n_9 r0_touch_writes_c_9]) F10 rfl rfl (r_extract rfl (F10.ev 5 rfl) rfl) rfl fun _ F11 => ?_)
 refine l_op (f_val (v := .int .i64 ((numOf (getKey m.store (⟨#[99, 47, 99, 108, 111, 99, 107]⟩ : ByteArray)) : Nat) : Int)) F11 rfl rfl (r_extract rfl (F11.ev 5 rfl) rfl) rfl fun _ F12 => ?_)
 refine l_op (s_store S9.at' 3 TI_31 rfl rfl rfl rfl rfl (F12.ev 2 rfl) (F12.ev 6 rfl) rfl rfl rfl rfl rfl fun w13 S13 => ?_)
 refine l_op (f_as F12 rfl rfl rfl rfl rfl fun _ F14 => ?_)
 have F15 : Fr 8 [(3, .int .i64 ((numOf (getKey m.store (⟨#[99, 47, 99, 108, 111, 99, 107]⟩ : ByteArray)) : Nat) : Int)), (2, .pointer (some ⟨b3, 0, none⟩))] _ := F14.cut rfl
 clear F6 F8 F10 F11 F12 F14
 have T16 : Mv _ _ [bx b3 [.slice r0_store_a_9 r0_store_n_9 r0_store_c_9, .slice r0_touch_reads_a_9 r0_touch_reads_n_9 r0_touch_reads_c_9, .slice r0_touch_writes_a_9 r0_touch_writes_n_9 r0_touch_writes_c_9] 31, ow 81 2 encC okC (.slice r0_store_a_9 r0_store_n_9 r0_store_c_9) (lookM m (⟨#[99, 47, 99, 108, 111, 99, 107]⟩ : ByteArray)).store, ow 9 1 encS okS (.slice r0_touch_reads_a_9 r0_touch_reads_n_9 r0_touch_reads_c_9) (lookM m (⟨#[99, 47, 99, 108, 111, 99, 107]⟩ : ByteArray)).touch.reads, ow 9 1 encS okS (.slice r0_touch_writes_a_9 r0_touch_writes_n_9 r0_touch_writes_c_9) (lookM m (⟨#[99, 47, 99, 108, 111, 99, 107]⟩ : ByteArray)).touch.writes, bx b1 [.slice m_store_a m_store_n m_store_c, .slice m_touch_reads_a m_touch_reads_n m_touch_reads_c, .slice m_touch_writes_a m_touch_writes_n m_touch_writes_c] 31] _ := S13
 refine s_end (x_normal (wp_ret ?_))
 refine x_done (v := .tuple #[.agg #[.slice r0_store_a_9 r0_store_n_9 r0_store_c_9, .slice r0_touch_reads_a_9 r0_touch_reads_n_9 r0_touch_reads_c_9, .slice r0_touch_writes_a_9 r0_touch_writes_n_9 r0_touch_writes_c_9], .int .i64 ((numOf (getKey m.store (⟨#[99, 47, 99, 108, 111, 99, 107]⟩ : ByteArray)) : Nat) : Int)]) F15 (results_2 Tryd.results30 (.cell (F15.ev 2 rfl) (run_loadVar' TI_31 _ [.slice r0_store_a_9 r0_store_n_9 r0_store_c_9, .slice r0_touch_reads_a_9 r0_touch_reads_n_9 r0_touch_reads_c_9, .slice r0_touch_writes_a_9 r0_touch_writes_n_9 r0_touch_writes_c_9] rfl (fun h => nomatch h) (At.cells T16.at' 0 rfl 0 [.slice r0_store_a_9 r0_store_n_9 r0_store_c_9, .slice r0_touch_reads_a_9 r0_touch_reads_n_9 r0_touch_reads_c_9, .slice r0_touch_writes_a_9 r0_touch_writes_n_9 r0_touch_writes_c_9] rfl))) (.tmp (F15.ev 3 rfl))) ?_
 exact ⟨r0_store_a_9, r0_store_n_9, r0_store_c_9, r0_touch_reads_a_9, r0_touch_reads_n_9, r0_touch_reads_c_9, r0_touch_writes_a_9, r0_touch_writes_n_9, r0_touch_writes_c_9, rfl, (Mv.pick (S1.trans (T7.trans (S9.trans T16))) [1, 2, 3] rfl)⟩
theorem impl_procKey_c {w : World} {H : Nat → Prop} {id : Int} {tail : ByteArray} (h_id : i64ok id) (h_tail : okS tail) (tab0 : Tb 0 H w) (p0 : tail.size ≤ 1000) :
    Calls Tryd.prog 102 #[.int .i64 id, .string tail] w fun e w' => e = .returned (.string (keyNum (⟨#[114, 47]⟩ : ByteArray) id tail)) ∧ Mv [] w [] w' ∧ okS (keyNum (⟨#[114, 47]⟩ : ByteArray) id tail) := by
 have uU : True := (fun _ => trivial) p0
 clear uU
 have V_tab0 : Tb 0 (V H w []) w := Tb.start tab0 (fun _ _ => fps_nil _)
 refine calls_enter 8 Tryd.func102 rfl Tryd.ntmps102 (Nat.le_of_ble_eq_true rfl) (fun _ F0i => ?_)
 have F0 : Fr 8 [(0, .int .i64 id), (1, .string tail)] _ := F0i
 clear F0i
 refine wp_seq (wp_region_lit (l_op (f_val F0 rfl rfl (r_assign rfl rfl) rfl fun _ F1 => ?_)))
 have F2 : Fr 8 [(4, .string (⟨#[]⟩ : ByteArray)), (0, .int .i64 id), (1, .string tail)] _ := F1.cut rfl
 clear F0 F1
 refine s_end (x_normal (wp_seq (wp_region_lit (l_op (f_mv F2 rfl rfl rfl rfl rfl fun _ F3 => ?_)))))
 refine l_op (f_mv F3 rfl rfl rfl rfl rfl fun _ F4 => ?_)
 refine l_op (f_call F4 CF_71 rfl rfl rfl rfl (lc rfl (lc (F4.ev 5 rfl) (lc (F4.ev 6 rfl) rfl))) (impl_KeyNum_c (head := (⟨#[114, 47]⟩ : ByteArray)) (n := id) (tail := tail) (by unfold okS; decide) h_id h_tail V_tab0 (by first | assumption | omega | (refine bdC.s ?_; (repeat (first | refine bdC.look ?_ | refine bdC.lay ?_ | refine bdC.set ?_)); exact bdC.le (by assumption) (by decide)) | (refine bdC.r ?_; (repeat (first | refine bdC.look ?_ | refine bdC.lay ?_ | refine bdC.set ?_)); exact bdC.le (by assumption) (by decide)) | (refine bdC.w ?_; (repeat (first | refine bdC.look ?_ | refine bdC.lay ?_ | refine bdC.set ?_)); exact bdC.le (by assumption) (by decide)) | ((repeat (first | refine bdC.look ?_ | refine bdC.lay ?_ | refine bdC.set ?_)); exact bdC.le (by assumption) (by decide)) | decide | exact Nat.le_trans (keyNum_size _ _ (by assumption)) (by decide)) (by first | assumption | omega | (refine bdC.s ?_; (repeat (first | refine bdC.look ?_ | refine bdC.lay ?_ | refine bdC.set ?_)); exact bdC.le (by assumption) (by decide)) | (refine bdC.r ?_; (repeat (first | refine bdC.look ?_ | refine bdC.lay ?_ | refine bdC.set ?_)); exact bdC.le (by assumption) (by decide)) | (refine bdC.w ?_; (repeat (first | refine bdC.look ?_ | refine bdC.lay ?_ | refine bdC.set ?_)); exact bdC.le (by assumption) (by decide)) | ((repeat (first | refine bdC.look ?_ | refine bdC.lay ?_ | refine bdC.set ?_)); exact bdC.le (by assumption) (by decide)) | decide | exact Nat.le_trans (keyNum_size _ _ (by assumption)) (by decide))) ?_)
 rintro _ w5 ⟨rfl, m5, ok_r0_5⟩
 refine ⟨_, rfl, fun _ F6 => ?_⟩
 have S5 := At.frame0 (At.nil w) m5
 clear m5
 refine l_op (f_as F6 rfl rfl rfl rfl rfl fun _ F7 => ?_)
 have F8 : Fr 8 [(4, .string (keyNum (⟨#[114, 47]⟩ : ByteArray) id tail))] _ := F7.cut rfl
 clear F2 F3 F4 F6 F7
 have T9 : Mv _ _ [] _ := S5
 refine s_end (x_normal (wp_ret ?_))
 refine x_done (v := .string (keyNum (⟨#[114, 47]⟩ : ByteArray) id tail)) F8 (results_1 Tryd.results102 (.tmp (F8.ev 4 rfl))) ?_
 exact ⟨rfl, (Mv.pick T9 [] rfl), ok_r0_5⟩
theorem impl_Mach_state_c {w : World} {H : Nat → Prop} {m : MachD} {m_store_a : Option Addr} {m_store_n m_store_c : Nat} {m_touch_reads_a : Option Addr} {m_touch_reads_n m_touch_reads_c : Nat} {m_touch_writes_a : Option Addr} {m_touch_writes_n m_touch_writes_c : Nat} {m_b : Nat} {id : Int} (h_id : i64ok id) (tab0 : Tb 0 H w) (tab1 : Tb 1 H w) (p0 : bdC 34359738368 m) (hA : At w [bx m_b [.slice m_store_a m_store_n m_store_c, .slice m_touch_reads_a m_touch_reads_n m_touch_reads_c, .slice m_touch_writes_a m_touch_writes_n m_touch_writes_c] 31, ow 81 2 encC okC (.slice m_store_a m_store_n m_store_c) m.store, ow 9 1 encS okS (.slice m_touch_reads_a m_touch_reads_n m_touch_reads_c) m.touch.reads, ow 9 1 encS okS (.slice m_touch_writes_a m_touch_writes_n m_touch_writes_c) m.touch.writes]) (hD : ∀ b, H b → ¬ fps [bx m_b [.slice m_store_a m_store_n m_store_c, .slice m_touch_reads_a m_touch_reads_n m_touch_reads_c, .slice m_touch_writes_a m_touch_writes_n m_touch_writes_c] 31, ow 81 2 encC okC (.slice m_store_a m_store_n m_store_c) m.store, ow 9 1 encS okS (.slice m_touch_reads_a m_touch_reads_n m_touch_reads_c) m.touch.reads, ow 9 1 encS okS (.slice m_touch_writes_a m_touch_writes_n m_touch_writes_c) m.touch.writes] b) :
    Calls Tryd.prog 103 #[.pointer (some ⟨m_b, 0, none⟩), .int .i64 id] w fun e w' => ∃ (q_m_store_a : Option Addr), ∃ (q_m_store_n : Nat), ∃ (q_m_store_c : Nat), ∃ (q_m_touch_reads_a : Option Addr), ∃ (q_m_touch_reads_n : Nat), ∃ (q_m_touch_reads_c : Nat), ∃ (q_m_touch_writes_a : Option Addr), ∃ (q_m_touch_writes_n : Nat), ∃ (q_m_touch_writes_c : Nat), e = .returned (.int .i64 ((numOf (getKey m.store (keyNum (⟨#[114, 47]⟩ : ByteArray) id (⟨#[47, 115]⟩ : ByteArray))) : Nat) : Int)) ∧ Mv [bx m_b [.slice m_store_a m_store_n m_store_c, .slice m_touch_reads_a m_touch_reads_n m_touch_reads_c, .slice m_touch_writes_a m_touch_writes_n m_touch_writes_c] 31, ow 81 2 encC okC (.slice m_store_a m_store_n m_store_c) m.store, ow 9 1 encS okS (.slice m_touch_reads_a m_touch_reads_n m_touch_reads_c) m.touch.reads, ow 9 1 encS okS (.slice m_touch_writes_a m_touch_writes_n m_touch_writes_c) m.touch.writes] w [bx m_b [.slice q_m_store_a q_m_store_n q_m_store_c, .slice q_m_touch_reads_a q_m_touch_reads_n q_m_touch_reads_c, .slice q_m_touch_writes_a q_m_touch_writes_n q_m_touch_writes_c] 31, ow 81 2 encC okC (.slice q_m_store_a q_m_store_n q_m_store_c) (lookM m (keyNum (⟨#[114, 47]⟩ : ByteArray) id (⟨#[47, 115]⟩ : ByteArray))).store, ow 9 1 encS okS (.slice q_m_touch_reads_a q_m_touch_reads_n q_m_touch_reads_c) (lookM m (keyNum (⟨#[114, 47]⟩ : ByteArray) id (⟨#[47, 115]⟩ : ByteArray))).touch.reads, ow 9 1 encS okS (.slice q_m_touch_writes_a q_m_touch_writes_n q_m_touch_writes_c) (lookM m (keyNum (⟨#[114, 47]⟩ : ByteArray) id (⟨#[47, 115]⟩ : ByteArray))).touch.writes] w' := by
 have uU : True := (fun _ => trivial) p0
 clear uU
 have V_tab0 : Tb 0 (V H w [bx m_b [.slice m_store_a m_store_n m_store_c, .slice m_touch_reads_a m_touch_reads_n m_touch_reads_c, .slice m_touch_writes_a m_touch_writes_n m_touch_writes_c] 31, ow 81 2 encC okC (.slice m_store_a m_store_n m_store_c) m.store, ow 9 1 encS okS (.slice m_touch_reads_a m_touch_reads_n m_touch_reads_c) m.touch.reads, ow 9 1 encS okS (.slice m_touch_writes_a m_touch_writes_n m_touch_writes_c) m.touch.writes]) w := Tb.start tab0 hD
 have V_tab1 : Tb 1 (V H w [bx m_b [.slice m_store_a m_store_n m_store_c, .slice m_touch_reads_a m_touch_reads_n m_touch_reads_c, .slice m_touch_writes_a m_touch_writes_n m_touch_writes_c] 31, ow 81 2 encC okC (.slice m_store_a m_store_n m_store_c) m.store, ow 9 1 encS okS (.slice m_touch_reads_a m_touch_reads_n m_touch_reads_c) m.touch.reads, ow 9 1 encS okS (.slice m_touch_writes_a m_touch_writes_n m_touch_writes_c) m.touch.writes]) w := Tb.start tab1 hD
 obtain ⟨lo1, lp1, lq1⟩ := At.ownInv hA ET_26.hk 1 rfl
 obtain ⟨lo2, lp2, lq2⟩ := At.ownInv hA ET_27.hk 2 rfl
 obtain ⟨lo3, lp3, lq3⟩ := At.ownInv hA ET_27.hk 3 rfl
 refine calls_enter 9 Tryd.func103 rfl Tryd.ntmps103 (Nat.le_of_ble_eq_true rfl) (fun _ F0i => ?_)
 have F0 : Fr 9 [(0, .pointer (some ⟨m_b, 0, none⟩)), (1, .int .i64 id)] _ := F0i
 clear F0i
 refine wp_seq (wp_region_lit (l_op (f_val F0 rfl rfl (r_assign rfl rfl) rfl fun _ F1 => ?_)))
 have F2 : Fr 9 [(4, .int .i64 0), (0, .pointer (some ⟨m_b, 0, none⟩)), (1, .int .i64 id)] _ := F1.cut rfl
 clear F0 F1
 refine s_end (x_normal (wp_seq (wp_region_lit (l_op (f_mv F2 rfl rfl rfl rfl rfl fun _ F3 => ?_)))))
 refine l_op (f_mv F3 rfl rfl rfl rfl rfl fun _ F4 => ?_)
 refine l_op (f_call F4 CF_102 rfl rfl rfl rfl (lc (F4.ev 6 rfl) (lc rfl rfl)) (impl_procKey_c (id := id) (tail := (⟨#[47, 115]⟩ : ByteArray)) h_id (by unfold okS; decide) V_tab0 (by first | assumption | omega | (refine bdC.s ?_; (repeat (first | refine bdC.look ?_ | refine bdC.lay ?_ | refine bdC.set ?_)); exact bdC.le (by assumption) (by decide)) | (refine bdC.r ?_; (repeat (first | refine bdC.look ?_ | refine bdC.lay ?_ | refine bdC.set ?_)); exact bdC.le (by assumption) (by decide)) | (refine bdC.w ?_; (repeat (first | refine bdC.look ?_ | refine bdC.lay ?_ | refine bdC.set ?_)); exact bdC.le (by assumption) (by decide)) | ((repeat (first | refine bdC.look ?_ | refine bdC.lay ?_ | refine bdC.set ?_)); exact bdC.le (by assumption) (by decide)) | decide | exact Nat.le_trans (keyNum_size _ _ (by assumption)) (by decide))) ?_)
 rintro _ w5 ⟨rfl, m5, ok_r0_5⟩
 refine ⟨_, rfl, fun _ F6 => ?_⟩
 have S5 := At.frame0 hA m5
 clear m5
 refine l_op (f_call F6 CF_57 rfl rfl rfl rfl (lc (F6.ev 5 rfl) (lc (F6.ev 7 rfl) rfl)) (impl_Mach_num_c (m := m) (key := keyNum (⟨#[114, 47]⟩ : ByteArray) id (⟨#[47, 115]⟩ : ByteArray)) ok_r0_5 (Tb.mv V_tab0 S5) (Tb.mv V_tab1 S5) (by first | assumption | omega | (refine bdC.s ?_; (repeat (first | refine bdC.look ?_ | refine bdC.lay ?_ | refine bdC.set ?_)); exact bdC.le (by assumption) (by decide)) | (refine bdC.r ?_; (repeat (first | refine bdC.look ?_ | refine bdC.lay ?_ | refine bdC.set ?_)); exact bdC.le (by assumption) (by decide)) | (refine bdC.w ?_; (repeat (first | refine bdC.look ?_ | refine bdC.lay ?_ | refine bdC.set ?_)); exact bdC.le (by assumption) (by decide)) | ((repeat (first | refine bdC.look ?_ | refine bdC.lay ?_ | refine bdC.set ?_)); exact bdC.le (by assumption) (by decide)) | decide | exact Nat.le_trans (keyNum_size _ _ (by assumption)) (by decide)) (At.pick (is := [0, 1, 2, 3]) S5.at' rfl) (V_off (is := [0, 1, 2, 3]))) ?_)
 rintro _ w7 ⟨qm_store_a_7, qm_store_n_7, qm_store_c_7, qm_touch_reads_a_7, qm_touch_reads_n_7, qm_touch_reads_c_7, qm_touch_writes_a_7, qm_touch_writes_n_7, qm_touch_writes_c_7, rfl, m7⟩
 refine ⟨_, rfl, fun _ F8 => ?_⟩
 have S7 : Mv _ _ [bx m_b [.slice qm_store_a_7 qm_store_n_7 qm_store_c_7, .slice qm_touch_reads_a_7 qm_touch_reads_n_7 qm_touch_reads_c_7, .slice qm_touch_writes_a_7 qm_touch_writes_n_7 qm_touch_writes_c_7] 31, ow 81 2 encC okC (.slice qm_store_a_7 qm_store_n_7 qm_store_c_7) (lookM m (keyNum (⟨#[114, 47]⟩ : ByteArray) id (⟨#[47, 115]⟩ : ByteArray))).store, ow 9 1 encS okS (.slice qm_touch_reads_a_7 qm_touch_reads_n_7 qm_touch_reads_c_7) (lookM m (keyNum (⟨#[114, 47]⟩ : ByteArray) id (⟨#[47, 115]⟩ : ByteArray))).touch.reads, ow 9 1 encS okS (.slice qm_touch_writes_a_7 qm_touch_writes_n_7 qm_touch_writes_c_7) (lookM m (keyNum (⟨#[114, 47]⟩ : ByteArray) id (⟨#[47, 115]⟩ : ByteArray))).touch.writes] _ := At.frame S5.at' [0, 1, 2, 3] rfl m7
 obtain ⟨lo7_1, lp7_1, lq7_1⟩ := At.ownInv S7.at' ET_26.hk 1 rfl
 obtain ⟨lo7_2, lp7_2, lq7_2⟩ := At.ownInv S7.at' ET_27.hk 2 rfl
 obtain ⟨lo7_3, lp7_3, lq7_3⟩ := At.ownInv S7.at' ET_27.hk 3 rfl
 clear m7
 refine l_op (f_as F8 rfl rfl rfl rfl rfl fun _ F9 => ?_)
 have F10 : Fr 9 [(4, .int .i64 ((numOf (getKey m.store (keyNum (⟨#[114, 47]⟩ : ByteArray) id (⟨#[47, 115]⟩ : ByteArray))) : Nat) : Int))] _ := F9.cut rfl
 clear F2 F3 F4 F6 F8 F9
 refine s_end (x_normal (wp_ret ?_))
 refine x_done (v := .int .i64 ((numOf (getKey m.store (keyNum (⟨#[114, 47]⟩ : ByteArray) id (⟨#[47, 115]⟩ : ByteArray))) : Nat) : Int)) F10 (results_1 Tryd.results103 (.tmp (F10.ev 4 rfl))) ?_
 exact ⟨qm_store_a_7, qm_store_n_7, qm_store_c_7, qm_touch_reads_a_7, qm_touch_reads_n_7, qm_touch_reads_c_7, qm_touch_writes_a_7, qm_touch_writes_n_7, qm_touch_writes_c_7, rfl, (Mv.pick (S5.trans S7) [0, 1, 2, 3] rfl)⟩
end Go.Proofs.YtjiplnaceiofmaaDoor
