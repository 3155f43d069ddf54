/-
  Walks: numbers are read.
-/
import Derived.Test.YtjiplnaceiofmaaDoorFactsB
import Derived.Test.YtjiplnaceiofmaaDoorGenNb
import Derived.Test.YtjiplnaceiofmaaDoorDatV
namespace Go.Proofs.YtjiplnaceiofmaaDoor
open Go.ChangeShapes Go.WideShapes Go.ChangeAt Go.RowKit
set_option maxRecDepth 100000
set_option maxHeartbeats 1000000

theorem rz {s : ByteArray} (h : readN s = 0 ∧ readB s = false) : (0 : Int) = ((readN s : Nat) : Int) := by rw [h.1]; rfl
theorem rzB {s : ByteArray} (h : readN s = 0 ∧ readB s = false) : false = readB s := h.2.symm
theorem rd_a {s : ByteArray} {r : Int} {ev : Value} (q : atoiR s r ev) (h : isErr ev = true) : readN s = 0 ∧ readB s = false := by
  rcases q with ⟨_, rfl⟩ | ⟨h1, _⟩
  · exact absurd h (by decide)
  · exact read_bad h1
theorem atoiR.okR {s : ByteArray} {r : Int} {ev : Value} (q : atoiR s r ev) (h : isErr ev = false) : Lib.atoiAll s.data.toList = .ok r := by
  rcases q with ⟨h1, _⟩ | ⟨_, h2⟩
  · exact h1
  · rw [h] at h2; cases h2
theorem rd_b {s : ByteArray} {r : Int} {ev : Value} (q : atoiR s r ev) (h : isErr ev = false) (hr : (!inB r 0 1000000000) = true) : readN s = 0 ∧ readB s = false :=
  read_out (q.okR h) (.inl fun e => by
    have := nt hr
    unfold inB at this
    exact of_decide_eq_false this e)
theorem rd_c {s : ByteArray} {r : Int} {ev : Value} (q : atoiR s r ev) (h : isErr ev = false) (hd : decS r ≠ s) : readN s = 0 ∧ readB s = false := read_out (q.okR h) (.inr hd)
theorem rd_d {s : ByteArray} {r : Int} (hr : (!inB r 0 1000000000) = false) (hd : ¬ decS r ≠ s) : (readN s : Int) = r ∧ readB s = true :=
  read_in (by have := nf hr; unfold inB at this; exact of_decide_eq_true this) (Classical.not_not.1 hd)
theorem valN_succ (s : ByteArray) (k : Nat) : valN s (k + 1) = 10 * valN s k + (byteAt s k - 48) := rfl
theorem end_eq {s : ByteArray} {k : Nat} (h : ¬ k < s.size) (hk : k ≤ s.size) : k = s.size := by omega
theorem rs_a {s : ByteArray} {k : Nat} (h : ¬ k < s.size) (hk : k ≤ s.size) (hv : valN s k > 1000000000) : readN s = 0 ∧ readB s = false := by
  have e := end_eq h hk
  subst e
  exact read_val (.inl (Nat.not_le_of_gt hv))
theorem rs_b {s : ByteArray} {k : Nat} (h : ¬ k < s.size) (hk : k ≤ s.size) (hv : decS ((valN s k : Nat) : Int) ≠ s) : readN s = 0 ∧ readB s = false := by
  have e := end_eq h hk
  subst e
  exact read_val (.inr hv)
theorem rs_c {s : ByteArray} {k : Nat} (h : ¬ k < s.size) (hk : k ≤ s.size) (hv : ¬ valN s k > 1000000000) (hd : ¬ decS ((valN s k : Nat) : Int) ≠ s) : readN s = valN s k ∧ readB s = true := by
  have e := end_eq h hk
  subst e
  exact read_yes (Nat.le_of_not_gt hv) (Classical.not_not.1 hd)
theorem numZ {v : ByteArray} {n : Nat} (h : n = numOf v) : ((n : Nat) : Int) = ((numOf v : Nat) : Int) := by rw [h]
theorem numZ0 {v : ByteArray} (h : 0 = numOf v) : (0 : Int) = ((numOf v : Nat) : Int) := by rw [← h]; rfl
theorem castN {a b : Nat} (h : a = b) : ((b : Nat) : Int) = ((a : Nat) : Int) := by rw [h]
theorem strconv_Atoi_c {w : World} {H : Nat → Prop} {s : ByteArray} (h_s : okS s) (tab1 : Tb 1 H w) (p0 : s.size ≤ 281474976710656) :
    Calls Tryd.prog 157 #[.string s] w fun e w' => ∃ (r : Int), ∃ (ev : Value), e = .returned (.tuple #[.int .i64 r, ev]) ∧ Mv [] w [] w' ∧ i64ok r ∧ errV ev ∧ atoiR s r ev := by
  have uU : True := (fun _ => trivial) h_s
  clear uU
  obtain ⟨⟨es, hs, es2⟩, ⟨er, hr, er2⟩⟩ := tab1.1
  cases h : Lib.atoiAll s.data.toList
  · rename_i v
    refine (Any.strconv_Atoi_ok laysAtoi s (by omega) v h w).mono ?_
    rintro e w' ⟨rfl, hw⟩
    have hb := Lib.atoiAll_bounds h
    refine ⟨v, .nilIface, rfl, mv_below ?_, ⟨by omega, by omega⟩, .inl rfl, .inl ⟨h, rfl⟩⟩
    rcases hw with rfl | ⟨t, rfl⟩
    · exact Below.refl _ _
    · exact Lib.bytesWorld_below _ _ _
  · skip
    refine (Any.strconv_Atoi_syntax laysAtoi s p0 h es w hs es2).mono ?_
    rintro e w' ⟨n, rfl, h1, h2, h3⟩
    exact ⟨0, _, rfl, mv_below h3, ⟨by omega, by omega⟩, .inr ⟨_, _, rfl⟩, .inr ⟨(fun v e => by rw [h] at e; cases e), rfl⟩⟩
  · skip
    refine (Any.strconv_Atoi_range laysAtoi s p0 h er w hr er2).mono ?_
    rintro e w' ⟨n, rfl, h1, h2, h3⟩
    have hb := Lib.atoiSat_bounds s.data.toList
    exact ⟨_, _, rfl, mv_below h3, ⟨by omega, by omega⟩, .inr ⟨_, _, rfl⟩, .inr ⟨(fun v e => by rw [h] at e; cases e), rfl⟩⟩
theorem impl_ReadDecimal_c {w : World} {H : Nat → Prop} {text : ByteArray} (h_text : okS text) (tab0 : Tb 0 H w) (tab1 : Tb 1 H w) (p0 : text.size ≤ 281474976710656) :
    Calls Tryd.prog 131 #[.string text] w fun e w' => e = .returned (.tuple #[.int .i64 ((readN text : Nat) : Int), .bool (readB text)]) ∧ Mv [] w [] w' := by
 have uU : True := (fun _ => trivial) p0
 clear uU
 have V_tab0 : Tb 0 (V H w []) w := Tb.start tab0 (fun _ _ => fps_nil _)
 have V_tab1 : Tb 1 (V H w []) w := Tb.start tab1 (fun _ _ => fps_nil _)
 refine calls_enter 25 Tryd.func131 rfl Tryd.ntmps131 (Nat.le_of_ble_eq_true rfl) (fun _ F0i => ?_)
 have F0 : Fr 25 [(0, .string text)] _ := F0i
 clear F0i
 refine wp_seq (wp_region_lit (l_op (f_val F0 rfl rfl (r_assign rfl rfl) rfl fun _ F1 => ?_)))
 refine l_op (f_val F1 rfl rfl (r_assign rfl rfl) rfl fun _ F2 => ?_)
 have F3 : Fr 25 [(3, .bool false), (0, .string text)] _ := F2.cut rfl
 clear F0 F1 F2
 refine s_end (x_normal (wp_seq (wp_region_lit (l_op (f_mv F3 rfl rfl rfl rfl rfl fun _ F4 => ?_)))))
 refine l_op (f_call F4 CF_157 rfl rfl rfl rfl (lc (F4.ev 7 rfl) rfl) (strconv_Atoi_c (s := text) h_text V_tab1 (by first | assumption | omega | (simp <;> omega))) ?_)
 rintro _ w5 ⟨r_5, ev_5, rfl, m5, q5_0, q5_1, q5_2⟩
 refine ⟨_, rfl, fun _ F6 => ?_⟩
 have S5 := At.frame0 (At.nil w) m5
 clear m5
 refine l_op (f_mv F6 rfl rfl rfl rfl rfl fun _ F7 => ?_)
 refine l_op (f_val (v := .int .i64 r_5) F7 rfl rfl (r_extract rfl (F7.ev 6 rfl) rfl) rfl fun _ F8 => ?_)
 refine l_op (f_val (v := ev_5) F8 rfl rfl (r_extract rfl (F8.ev 6 rfl) rfl) rfl fun _ F9 => ?_)
 refine l_op (f_as F9 rfl rfl rfl rfl rfl fun _ F10 => ?_)
 refine l_op (f_as F10 rfl rfl rfl rfl rfl fun _ F11 => ?_)
 have F12 : Fr 25 [(5, ev_5), (4, .int .i64 r_5), (0, .string text)] _ := F11.cut rfl
 clear F3 F4 F6 F7 F8 F9 F10 F11
 have T13 : Mv _ _ [] _ := S5
 refine s_end (x_normal (wp_seq (wp_seq (wp_region_lit (l_op (f_mv F12 rfl rfl rfl rfl rfl fun _ F14 => ?_))))))
 refine l_op (f_val F14 rfl rfl (r_errNe Tryd.underlying133 rfl (F14.ev 11 rfl) rfl (by assumption)) rfl fun _ F15 => ?_)
 refine l_op (f_mv F15 rfl rfl rfl rfl rfl fun _ F16 => ?_)
 rcases Bool.eq_false_or_eq_true (isErr ev_5) with h17 | h17
 · rw [h17] at F16
   refine l_op (f_skip F16 (wanted_g F16 rfl rfl rfl rfl) rfl rfl fun _ F18 => ?_)
   refine l_op (f_skip F18 (wanted_g F18 rfl rfl rfl rfl) rfl rfl fun _ F19 => ?_)
   refine l_op (f_skip F19 (wanted_g F19 rfl rfl rfl rfl) rfl rfl fun _ F20 => ?_)
   refine l_op (f_val F20 rfl rfl (r_pick (b := true) rfl (F20.ev 13 rfl) rfl) rfl fun _ F21 => ?_)
   refine l_op (f_mv F21 rfl rfl rfl rfl rfl fun _ F22 => ?_)
   refine l_op (f_skip F22 (wanted_g F22 rfl rfl rfl rfl) rfl rfl fun _ F23 => ?_)
   refine l_op (f_skip F23 (wanted_g F23 rfl rfl rfl rfl) rfl rfl fun _ F24 => ?_)
   refine l_op (f_skip F24 (wanted_g F24 rfl rfl rfl rfl) rfl rfl fun _ F25 => ?_)
   refine l_op (f_skip F25 (wanted_g F25 rfl rfl rfl rfl) rfl rfl fun _ F26 => ?_)
   refine l_op (f_val F26 rfl rfl (r_pick (b := true) rfl (F26.ev 18 rfl) rfl) rfl fun _ F27 => ?_)
   have F28 : Fr 25 [(23, .bool true), (4, .int .i64 r_5)] _ := F27.cut rfl
   clear F12 F14 F15 F16 F18 F19 F20 F21 F22 F23 F24 F25 F26 F27
   refine s_end (x_normal (wp_cond_true (F28.ev 23 rfl) (wp_seq (wp_region_lit (l_op (f_val F28 rfl rfl (r_assign rfl rfl) rfl fun _ F29 => ?_))))))
   refine l_op (f_val F29 rfl rfl (r_assign rfl rfl) rfl fun _ F30 => ?_)
   have F31 : Fr 25 [(3, .bool false), (2, .int .i64 0)] _ := F30.cut rfl
   clear F28 F29 F30
   refine s_end (x_normal (wp_ret (x_then_ret ?_)))
   refine x_done (v := .tuple #[.int .i64 0, .bool false]) F31 (results_2 Tryd.results131 (.tmp (F31.ev 2 rfl)) (.tmp (F31.ev 3 rfl))) ?_
   exact ⟨(by rw [(show 0 = ((readN text : Nat) : Int) from by first | exact rz (rd_a (by assumption) (by assumption)) | exact rzB (rd_a (by assumption) (by assumption)) | exact rz (rd_b (by assumption) (by assumption) (by assumption)) | exact rzB (rd_b (by assumption) (by assumption) (by assumption)) | exact rz (rd_c (by assumption) (by assumption) (by assumption)) | exact rzB (rd_c (by assumption) (by assumption) (by assumption)) | exact (rd_d (by assumption) (by assumption)).1.symm | exact (rd_d (by assumption) (by assumption)).2.symm), (show false = (readB text) from by first | exact rz (rd_a (by assumption) (by assumption)) | exact rzB (rd_a (by assumption) (by assumption)) | exact rz (rd_b (by assumption) (by assumption) (by assumption)) | exact rzB (rd_b (by assumption) (by assumption) (by assumption)) | exact rz (rd_c (by assumption) (by assumption) (by assumption)) | exact rzB (rd_c (by assumption) (by assumption) (by assumption)) | exact (rd_d (by assumption) (by assumption)).1.symm | exact (rd_d (by assumption) (by assumption)).2.symm)]), (Mv.pick T13 [] rfl)⟩
 · rw [h17] at F16
   refine l_op (f_mv F16 (wanted_g F16 rfl rfl rfl rfl) rfl rfl rfl rfl fun _ F32 => ?_)
   refine l_op (f_call F32 CF_94 (wanted_g F32 rfl rfl rfl rfl) rfl rfl rfl (lc (F32.ev 14 rfl) (lc rfl (lc rfl rfl))) (impl_within_c (H := fun _ => True) (n := r_5) (low := 0) (high := 1000000000) (by first | assumption | exact ⟨by omega, by omega⟩ | (unfold i64ok at *; omega)) (by first | assumption | exact ⟨by omega, by omega⟩ | (unfold i64ok at *; omega)) (by first | assumption | exact ⟨by omega, by omega⟩ | (unfold i64ok at *; omega))) ?_)
   rintro _ w33 ⟨rfl, m33⟩
   refine ⟨_, rfl, fun _ F34 => ?_⟩
   have S33 := At.frame0 T13.at' m33
   clear m33
   refine l_op (f_val F34 (wanted_g F34 rfl rfl rfl rfl) rfl (r_not rfl (F34.ev 15 rfl)) rfl fun _ F35 => ?_)
   refine l_op (f_val F35 rfl rfl (r_pick (b := false) rfl (F35.ev 13 rfl) (F35.ev 16 rfl)) rfl fun _ F36 => ?_)
   refine l_op (f_mv F36 rfl rfl rfl rfl rfl fun _ F37 => ?_)
   rcases Bool.eq_false_or_eq_true (!(inB r_5 0 1000000000)) with h38 | h38
   · rw [h38] at F37
     refine l_op (f_skip F37 (wanted_g F37 rfl rfl rfl rfl) rfl rfl fun _ F39 => ?_)
     refine l_op (f_skip F39 (wanted_g F39 rfl rfl rfl rfl) rfl rfl fun _ F40 => ?_)
     refine l_op (f_skip F40 (wanted_g F40 rfl rfl rfl rfl) rfl rfl fun _ F41 => ?_)
     refine l_op (f_skip F41 (wanted_g F41 rfl rfl rfl rfl) rfl rfl fun _ F42 => ?_)
     refine l_op (f_val F42 rfl rfl (r_pick (b := true) rfl (F42.ev 18 rfl) rfl) rfl fun _ F43 => ?_)
     have F44 : Fr 25 [(23, .bool true), (4, .int .i64 r_5)] _ := F43.cut rfl
     clear F12 F14 F15 F16 F32 F34 F35 F36 F37 F39 F40 F41 F42 F43
     have T45 : Mv _ _ [] _ := S33
     refine s_end (x_normal (wp_cond_true (F44.ev 23 rfl) (wp_seq (wp_region_lit (l_op (f_val F44 rfl rfl (r_assign rfl rfl) rfl fun _ F46 => ?_))))))
     refine l_op (f_val F46 rfl rfl (r_assign rfl rfl) rfl fun _ F47 => ?_)
     have F48 : Fr 25 [(3, .bool false), (2, .int .i64 0)] _ := F47.cut rfl
     clear F44 F46 F47
     refine s_end (x_normal (wp_ret (x_then_ret ?_)))
     refine x_done (v := .tuple #[.int .i64 0, .bool false]) F48 (results_2 Tryd.results131 (.tmp (F48.ev 2 rfl)) (.tmp (F48.ev 3 rfl))) ?_
     exact ⟨(by rw [(show 0 = ((readN text : Nat) : Int) from by first | exact rz (rd_a (by assumption) (by assumption)) | exact rzB (rd_a (by assumption) (by assumption)) | exact rz (rd_b (by assumption) (by assumption) (by assumption)) | exact rzB (rd_b (by assumption) (by assumption) (by assumption)) | exact rz (rd_c (by assumption) (by assumption) (by assumption)) | exact rzB (rd_c (by assumption) (by assumption) (by assumption)) | exact (rd_d (by assumption) (by assumption)).1.symm | exact (rd_d (by assumption) (by assumption)).2.symm), (show false = (readB text) from by first | exact rz (rd_a (by assumption) (by assumption)) | exact rzB (rd_a (by assumption) (by assumption)) | exact rz (rd_b (by assumption) (by assumption) (by assumption)) | exact rzB (rd_b (by assumption) (by assumption) (by assumption)) | exact rz (rd_c (by assumption) (by assumption) (by assumption)) | exact rzB (rd_c (by assumption) (by assumption) (by assumption)) | exact (rd_d (by assumption) (by assumption)).1.symm | exact (rd_d (by assumption) (by assumption)).2.symm)]), (Mv.pick (T13.trans T45) [] rfl)⟩
   · rw [h38] at F37
     refine l_op (f_mv F37 (wanted_g F37 rfl rfl rfl rfl) rfl rfl rfl rfl fun _ F49 => ?_)
     refine l_op (f_call F49 CF_19 (wanted_g F49 rfl rfl rfl rfl) rfl rfl rfl (lc (F49.ev 19 rfl) rfl) (impl_Decimal_c (n := r_5) (by first | assumption | exact ⟨by omega, by omega⟩ | (unfold i64ok at *; omega)) (Tb.mv V_tab0 (T13.trans S33))) ?_)
     rintro _ w50 ⟨rfl, m50, ok_r0_50⟩
     refine ⟨_, rfl, fun _ F51 => ?_⟩
     have S50 := At.frame0 S33.at' m50
     clear m50
     refine l_op (f_mv F51 (wanted_g F51 rfl rfl rfl rfl) rfl rfl rfl rfl fun _ F52 => ?_)
     refine l_op (f_val F52 (wanted_g F52 rfl rfl rfl rfl) rfl (r_cmps (b := (decide ((decS r_5) ≠ text))) (.inr (.inl rfl)) rfl (F52.ev 20 rfl) (F52.ev 21 rfl) rfl) rfl fun _ F53 => ?_)
     refine l_op (f_val F53 rfl rfl (r_pick (b := false) rfl (F53.ev 18 rfl) (F53.ev 22 rfl)) rfl fun _ F54 => ?_)
     have F55 : Fr 25 [(23, .bool (decide ((decS r_5) ≠ text))), (4, .int .i64 r_5)] _ := F54.cut rfl
     clear F12 F14 F15 F16 F32 F34 F35 F36 F37 F49 F51 F52 F53 F54
     have T56 : Mv _ _ [] _ := S50
     refine s_end (x_normal (x_cond (p := (decS r_5) ≠ text) (F55.ev 23 rfl) (fun h57 => ?_) (fun h57 => ?_)))
     · skip
       refine wp_seq (wp_region_lit (l_op (f_val F55 rfl rfl (r_assign rfl rfl) rfl fun _ F58 => ?_)))
       refine l_op (f_val F58 rfl rfl (r_assign rfl rfl) rfl fun _ F59 => ?_)
       have F60 : Fr 25 [(3, .bool false), (2, .int .i64 0)] _ := F59.cut rfl
       clear F55 F58 F59
       refine s_end (x_normal (wp_ret (x_then_ret ?_)))
       refine x_done (v := .tuple #[.int .i64 0, .bool false]) F60 (results_2 Tryd.results131 (.tmp (F60.ev 2 rfl)) (.tmp (F60.ev 3 rfl))) ?_
       exact ⟨(by rw [(show 0 = ((readN text : Nat) : Int) from by first | exact rz (rd_a (by assumption) (by assumption)) | exact rzB (rd_a (by assumption) (by assumption)) | exact rz (rd_b (by assumption) (by assumption) (by assumption)) | exact rzB (rd_b (by assumption) (by assumption) (by assumption)) | exact rz (rd_c (by assumption) (by assumption) (by assumption)) | exact rzB (rd_c (by assumption) (by assumption) (by assumption)) | exact (rd_d (by assumption) (by assumption)).1.symm | exact (rd_d (by assumption) (by assumption)).2.symm), (show false = (readB text) from by first | exact rz (rd_a (by assumption) (by assumption)) | exact rzB (rd_a (by assumption) (by assumption)) | exact rz (rd_b (by assumption) (by assumption) (by assumption)) | exact rzB (rd_b (by assumption) (by assumption) (by assumption)) | exact rz (rd_c (by assumption) (by assumption) (by assumption)) | exact rzB (rd_c (by assumption) (by assumption) (by assumption)) | exact (rd_d (by assumption) (by assumption)).1.symm | exact (rd_d (by assumption) (by assumption)).2.symm)]), (Mv.pick (T13.trans (S33.trans T56)) [] rfl)⟩
     · skip
       refine wp_skip (x_normal (wp_seq (wp_region_lit (l_op (f_mv F55 rfl rfl rfl rfl rfl fun _ F61 => ?_)))))
       refine l_op (f_as F61 rfl rfl rfl rfl rfl fun _ F62 => ?_)
       refine l_op (f_val F62 rfl rfl (r_assign rfl rfl) rfl fun _ F63 => ?_)
       have F64 : Fr 25 [(3, .bool true), (2, .int .i64 r_5)] _ := F63.cut rfl
       clear F55 F61 F62 F63
       refine s_end (x_normal (wp_ret ?_))
       refine x_done (v := .tuple #[.int .i64 r_5, .bool true]) F64 (results_2 Tryd.results131 (.tmp (F64.ev 2 rfl)) (.tmp (F64.ev 3 rfl))) ?_
       exact ⟨(by rw [(show r_5 = ((readN text : Nat) : Int) from by first | exact rz (rd_a (by assumption) (by assumption)) | exact rzB (rd_a (by assumption) (by assumption)) | exact rz (rd_b (by assumption) (by assumption) (by assumption)) | exact rzB (rd_b (by assumption) (by assumption) (by assumption)) | exact rz (rd_c (by assumption) (by assumption) (by assumption)) | exact rzB (rd_c (by assumption) (by assumption) (by assumption)) | exact (rd_d (by assumption) (by assumption)).1.symm | exact (rd_d (by assumption) (by assumption)).2.symm), (show true = (readB text) from by first | exact rz (rd_a (by assumption) (by assumption)) | exact rzB (rd_a (by assumption) (by assumption)) | exact rz (rd_b (by assumption) (by assumption) (by assumption)) | exact rzB (rd_b (by assumption) (by assumption) (by assumption)) | exact rz (rd_c (by assumption) (by assumption) (by assumption)) | exact rzB (rd_c (by assumption) (by assumption) (by assumption)) | exact (rd_d (by assumption) (by assumption)).1.symm | exact (rd_d (by assumption) (by assumption)).2.symm)]), (Mv.pick (T13.trans (S33.trans T56)) [] rfl)⟩
theorem impl_NumOf_c {w : World} {H : Nat → Prop} {val : ByteArray} (h_val : okS val) (tab0 : Tb 0 H w) (tab1 : Tb 1 H w) (p0 : val.size ≤ 281474976710656) :
    Calls Tryd.prog 100 #[.string val] w fun e w' => e = .returned (.int .i64 ((numOf val : Nat) : Int)) ∧ Mv [] w [] w' := by
 have uU : True := (fun _ => trivial) p0
 clear uU
 have V_tab0 : Tb 0 (V H w []) w := Tb.start tab0 (fun _ _ => fps_nil _)
 have V_tab1 : Tb 1 (V H w []) w := Tb.start tab1 (fun _ _ => fps_nil _)
 refine calls_enter 13 Tryd.func100 rfl Tryd.ntmps100 (Nat.le_of_ble_eq_true rfl) (fun _ F0i => ?_)
 have F0 : Fr 13 [(0, .string val)] _ := F0i
 clear F0i
 refine wp_seq (wp_region_lit (l_op (f_val F0 rfl rfl (r_assign rfl rfl) rfl fun _ F1 => ?_)))
 have F2 : Fr 13 [(2, .int .i64 0), (0, .string val)] _ := F1.cut rfl
 clear F0 F1
 refine s_end (x_normal (wp_seq (wp_region_lit (l_op (f_mv F2 rfl rfl rfl rfl rfl fun _ F3 => ?_)))))
 refine l_op (f_call F3 CF_131 rfl rfl rfl rfl (lc (F3.ev 6 rfl) rfl) (impl_ReadDecimal_c (text := val) h_val V_tab0 V_tab1 (by first | assumption | omega | (simp <;> omega))) ?_)
 rintro _ w4 ⟨rfl, m4⟩
 refine ⟨_, rfl, fun _ F5 => ?_⟩
 have S4 := At.frame0 (At.nil w) m4
 clear m4
 refine l_op (f_mv F5 rfl rfl rfl rfl rfl fun _ F6 => ?_)
 refine l_op (f_val (v := .int .i64 ((readN val : Nat) : Int)) F6 rfl rfl (r_extract rfl (F6.ev 5 rfl) rfl) rfl fun _ F7 => ?_)
 refine l_op (f_val (v := .bool (readB val)) F7 rfl rfl (r_extract rfl (F7.ev 5 rfl) rfl) rfl fun _ F8 => ?_)
 refine l_op (f_as F8 rfl rfl rfl rfl rfl fun _ F9 => ?_)
 refine l_op (f_as F9 rfl rfl rfl rfl rfl fun _ F10 => ?_)
 have F11 : Fr 13 [(4, .bool (readB val)), (3, .int .i64 ((readN val : Nat) : Int))] _ := F10.cut rfl
 clear F2 F3 F5 F6 F7 F8 F9 F10
 have T12 : Mv _ _ [] _ := S4
 refine s_end (x_normal (wp_seq (wp_seq (wp_region_lit (l_op (f_mv F11 rfl rfl rfl rfl rfl fun _ F13 => ?_))))))
 refine l_op (f_val F13 rfl rfl (r_cmp (b := decide (readN val > 999)) (.inr (.inr (.inr (.inr (.inl rfl))))) rfl (F13.ev 10 rfl) rfl (dec_of (by omega))) rfl fun _ F14 => ?_)
 have F15 : Fr 13 [(11, .bool (decide (readN val > 999))), (3, .int .i64 ((readN val : Nat) : Int))] _ := F14.cut rfl
 clear F11 F13 F14
 refine s_end (x_normal (x_cond (p := readN val > 999) (F15.ev 11 rfl) (fun h16 => ?_) (fun h16 => ?_)))
 · skip
   refine wp_seq (wp_region_lit (l_op (f_val F15 rfl rfl (r_assign rfl rfl) rfl fun _ F17 => ?_)))
   have F18 : Fr 13 [(2, .int .i64 0)] _ := F17.cut rfl
   clear F15 F17
   refine s_end (x_normal (wp_ret (x_then_ret ?_)))
   refine x_done (v := .int .i64 0) F18 (results_1 Tryd.results100 (.tmp (F18.ev 2 rfl))) ?_
   exact ⟨(by rw [(show 0 = ((numOf val : Nat) : Int) from by first | exact numZ (numOf_t (by assumption)) | exact numZ0 (numOf_f (by assumption)) | exact numZ0 (numOf_no (by assumption)))]), (Mv.pick T12 [] rfl)⟩
 · skip
   refine wp_skip (x_normal (wp_seq (wp_region_lit (l_op (f_mv F15 rfl rfl rfl rfl rfl fun _ F19 => ?_)))))
   refine l_op (f_as F19 rfl rfl rfl rfl rfl fun _ F20 => ?_)
   have F21 : Fr 13 [(2, .int .i64 ((readN val : Nat) : Int))] _ := F20.cut rfl
   clear F15 F19 F20
   refine s_end (x_normal (wp_ret ?_))
   refine x_done (v := .int .i64 ((readN val : Nat) : Int)) F21 (results_1 Tryd.results100 (.tmp (F21.ev 2 rfl))) ?_
   exact ⟨(by rw [(show ((readN val : Nat) : Int) = ((numOf val : Nat) : Int) from by first | exact numZ (numOf_t (by assumption)) | exact numZ0 (numOf_f (by assumption)) | exact numZ0 (numOf_no (by assumption)))]), (Mv.pick T12 [] rfl)⟩
theorem impl_Mach_num_c {w : World} {H : Nat → Prop} {m : MachD} {m_store_a : Option Addr} {m_store_n m_store_c : Nat} {m_touch_reads_a : Option Addr} {m_touch_reads_n m_touch_reads_c : Nat} {m_touch_writes_a : Option Addr} {m_touch_writes_n m_touch_writes_c : Nat} {m_b : Nat} {key : ByteArray} (h_key : okS key) (tab0 : Tb 0 H w) (tab1 : Tb 1 H w) (p0 : bdC 137438953472 m) (hA : At w [bx m_b [.slice m_store_a m_store_n m_store_c, .slice m_touch_reads_a m_touch_reads_n m_touch_reads_c, .slice m_touch_writes_a m_touch_writes_n m_touch_writes_c] 31, ow 81 2 encC okC (.slice m_store_a m_store_n m_store_c) m.store, ow 9 1 encS okS (.slice m_touch_reads_a m_touch_reads_n m_touch_reads_c) m.touch.reads, ow 9 1 encS okS (.slice m_touch_writes_a m_touch_writes_n m_touch_writes_c) m.touch.writes]) (hD : ∀ b, H b → ¬ fps [bx m_b [.slice m_store_a m_store_n m_store_c, .slice m_touch_reads_a m_touch_reads_n m_touch_reads_c, .slice m_touch_writes_a m_touch_writes_n m_touch_writes_c] 31, ow 81 2 encC okC (.slice m_store_a m_store_n m_store_c) m.store, ow 9 1 encS okS (.slice m_touch_reads_a m_touch_reads_n m_touch_reads_c) m.touch.reads, ow 9 1 encS okS (.slice m_touch_writes_a m_touch_writes_n m_touch_writes_c) m.touch.writes] b) :
    Calls Tryd.prog 57 #[.pointer (some ⟨m_b, 0, none⟩), .string key] w fun e w' => ∃ (q_m_store_a : Option Addr), ∃ (q_m_store_n : Nat), ∃ (q_m_store_c : Nat), ∃ (q_m_touch_reads_a : Option Addr), ∃ (q_m_touch_reads_n : Nat), ∃ (q_m_touch_reads_c : Nat), ∃ (q_m_touch_writes_a : Option Addr), ∃ (q_m_touch_writes_n : Nat), ∃ (q_m_touch_writes_c : Nat), e = .returned (.int .i64 ((numOf (getKey m.store key) : Nat) : Int)) ∧ Mv [bx m_b [.slice m_store_a m_store_n m_store_c, .slice m_touch_reads_a m_touch_reads_n m_touch_reads_c, .slice m_touch_writes_a m_touch_writes_n m_touch_writes_c] 31, ow 81 2 encC okC (.slice m_store_a m_store_n m_store_c) m.store, ow 9 1 encS okS (.slice m_touch_reads_a m_touch_reads_n m_touch_reads_c) m.touch.reads, ow 9 1 encS okS (.slice m_touch_writes_a m_touch_writes_n m_touch_writes_c) m.touch.writes] w [bx m_b [.slice q_m_store_a q_m_store_n q_m_store_c, .slice q_m_touch_reads_a q_m_touch_reads_n q_m_touch_reads_c, .slice q_m_touch_writes_a q_m_touch_writes_n q_m_touch_writes_c] 31, ow 81 2 encC okC (.slice q_m_store_a q_m_store_n q_m_store_c) (lookM m key).store, ow 9 1 encS okS (.slice q_m_touch_reads_a q_m_touch_reads_n q_m_touch_reads_c) (lookM m key).touch.reads, ow 9 1 encS okS (.slice q_m_touch_writes_a q_m_touch_writes_n q_m_touch_writes_c) (lookM m key).touch.writes] w' := by
 have uU : True := (fun _ => trivial) p0
 clear uU
 have V_tab0 : Tb 0 (V H w [bx m_b [.slice m_store_a m_store_n m_store_c, .slice m_touch_reads_a m_touch_reads_n m_touch_reads_c, .slice m_touch_writes_a m_touch_writes_n m_touch_writes_c] 31, ow 81 2 encC okC (.slice m_store_a m_store_n m_store_c) m.store, ow 9 1 encS okS (.slice m_touch_reads_a m_touch_reads_n m_touch_reads_c) m.touch.reads, ow 9 1 encS okS (.slice m_touch_writes_a m_touch_writes_n m_touch_writes_c) m.touch.writes]) w := Tb.start tab0 hD
 have V_tab1 : Tb 1 (V H w [bx m_b [.slice m_store_a m_store_n m_store_c, .slice m_touch_reads_a m_touch_reads_n m_touch_reads_c, .slice m_touch_writes_a m_touch_writes_n m_touch_writes_c] 31, ow 81 2 encC okC (.slice m_store_a m_store_n m_store_c) m.store, ow 9 1 encS okS (.slice m_touch_reads_a m_touch_reads_n m_touch_reads_c) m.touch.reads, ow 9 1 encS okS (.slice m_touch_writes_a m_touch_writes_n m_touch_writes_c) m.touch.writes]) w := Tb.start tab1 hD
 obtain ⟨lo1, lp1, lq1⟩ := At.ownInv hA ET_26.hk 1 rfl
 obtain ⟨lo2, lp2, lq2⟩ := At.ownInv hA ET_27.hk 2 rfl
 obtain ⟨lo3, lp3, lq3⟩ := At.ownInv hA ET_27.hk 3 rfl
 refine calls_enter 9 Tryd.func57 rfl Tryd.ntmps57 (Nat.le_of_ble_eq_true rfl) (fun _ F0i => ?_)
 have F0 : Fr 9 [(0, .pointer (some ⟨m_b, 0, none⟩)), (1, .string key)] _ := F0i
 clear F0i
 refine wp_seq (wp_region_lit (l_op (f_val F0 rfl rfl (r_assign rfl rfl) rfl fun _ F1 => ?_)))
 have F2 : Fr 9 [(4, .int .i64 0), (0, .pointer (some ⟨m_b, 0, none⟩)), (1, .string key)] _ := F1.cut rfl
 clear F0 F1
 refine s_end (x_normal (wp_seq (wp_region_lit (l_op (f_mv F2 rfl rfl rfl rfl rfl fun _ F3 => ?_)))))
 refine l_op (f_mv F3 rfl rfl rfl rfl rfl fun _ F4 => ?_)
 refine l_op (f_call F4 CF_101 rfl rfl rfl rfl (lc (F4.ev 5 rfl) (lc (F4.ev 6 rfl) rfl)) (impl_Mach_look_c (H := fun _ => True) (m := m) (key := key) h_key (by first | assumption | omega | (refine bdC.s ?_; (repeat (first | refine bdC.look ?_ | refine bdC.lay ?_ | refine bdC.set ?_)); exact bdC.le (by assumption) (by decide)) | (refine bdC.r ?_; (repeat (first | refine bdC.look ?_ | refine bdC.lay ?_ | refine bdC.set ?_)); exact bdC.le (by assumption) (by decide)) | (refine bdC.w ?_; (repeat (first | refine bdC.look ?_ | refine bdC.lay ?_ | refine bdC.set ?_)); exact bdC.le (by assumption) (by decide)) | ((repeat (first | refine bdC.look ?_ | refine bdC.lay ?_ | refine bdC.set ?_)); exact bdC.le (by assumption) (by decide)) | decide | exact Nat.le_trans (keyNum_size _ _ (by assumption)) (by decide)) (At.pick (is := [0, 1, 2, 3]) hA rfl)) ?_)
 rintro _ w5 ⟨qm_store_a_5, qm_store_n_5, qm_store_c_5, qm_touch_reads_a_5, qm_touch_reads_n_5, qm_touch_reads_c_5, qm_touch_writes_a_5, qm_touch_writes_n_5, qm_touch_writes_c_5, rfl, m5, ok_r0_5⟩
 refine ⟨_, rfl, fun _ F6 => ?_⟩
 have S5 : Mv _ _ [bx m_b [.slice qm_store_a_5 qm_store_n_5 qm_store_c_5, .slice qm_touch_reads_a_5 qm_touch_reads_n_5 qm_touch_reads_c_5, .slice qm_touch_writes_a_5 qm_touch_writes_n_5 qm_touch_writes_c_5] 31, ow 81 2 encC okC (.slice qm_store_a_5 qm_store_n_5 qm_store_c_5) (lookM m key).store, ow 9 1 encS okS (.slice qm_touch_reads_a_5 qm_touch_reads_n_5 qm_touch_reads_c_5) (lookM m key).touch.reads, ow 9 1 encS okS (.slice qm_touch_writes_a_5 qm_touch_writes_n_5 qm_touch_writes_c_5) (lookM m key).touch.writes] _ := At.frame hA [0, 1, 2, 3] rfl m5
 obtain ⟨lo5_1, lp5_1, lq5_1⟩ := At.ownInv S5.at' ET_26.hk 1 rfl
 obtain ⟨lo5_2, lp5_2, lq5_2⟩ := At.ownInv S5.at' ET_27.hk 2 rfl
 obtain ⟨lo5_3, lp5_3, lq5_3⟩ := At.ownInv S5.at' ET_27.hk 3 rfl
 clear m5
 refine l_op (f_call F6 CF_100 rfl rfl rfl rfl (lc (F6.ev 7 rfl) rfl) (impl_NumOf_c (val := getKey m.store key) ok_r0_5 (Tb.mv V_tab0 S5) (Tb.mv V_tab1 S5) (by first | exact Nat.le_trans (bdC.val (m := m) (by assumption)) (by decide) | assumption | omega | (refine bdC.s ?_; (repeat (first | refine bdC.look ?_ | refine bdC.lay ?_ | refine bdC.set ?_)); exact bdC.le (by assumption) (by decide)) | (refine bdC.r ?_; (repeat (first | refine bdC.look ?_ | refine bdC.lay ?_ | refine bdC.set ?_)); exact bdC.le (by assumption) (by decide)) | (refine bdC.w ?_; (repeat (first | refine bdC.look ?_ | refine bdC.lay ?_ | refine bdC.set ?_)); exact bdC.le (by assumption) (by decide)) | ((repeat (first | refine bdC.look ?_ | refine bdC.lay ?_ | refine bdC.set ?_)); exact bdC.le (by assumption) (by decide)) | decide | exact Nat.le_trans (keyNum_size _ _ (by assumption)) (by decide))) ?_)
 rintro _ w7 ⟨rfl, m7⟩
 refine ⟨_, rfl, fun _ F8 => ?_⟩
 have S7 := At.frame0 S5.at' m7
 clear m7
 refine l_op (f_as F8 rfl rfl rfl rfl rfl fun _ F9 => ?_)
 have F10 : Fr 9 [(4, .int .i64 ((numOf (getKey m.store key) : Nat) : Int))] _ := F9.cut rfl
 clear F2 F3 F4 F6 F8 F9
 have T11 : Mv _ _ [bx m_b [.slice qm_store_a_5 qm_store_n_5 qm_store_c_5, .slice qm_touch_reads_a_5 qm_touch_reads_n_5 qm_touch_reads_c_5, .slice qm_touch_writes_a_5 qm_touch_writes_n_5 qm_touch_writes_c_5] 31, ow 81 2 encC okC (.slice qm_store_a_5 qm_store_n_5 qm_store_c_5) (lookM m key).store, ow 9 1 encS okS (.slice qm_touch_reads_a_5 qm_touch_reads_n_5 qm_touch_reads_c_5) (lookM m key).touch.reads, ow 9 1 encS okS (.slice qm_touch_writes_a_5 qm_touch_writes_n_5 qm_touch_writes_c_5) (lookM m key).touch.writes] _ := S7
 refine s_end (x_normal (wp_ret ?_))
 refine x_done (v := .int .i64 ((numOf (getKey m.store key) : Nat) : Int)) F10 (results_1 Tryd.results57 (.tmp (F10.ev 4 rfl))) ?_
 exact ⟨qm_store_a_5, qm_store_n_5, qm_store_c_5, qm_touch_reads_a_5, qm_touch_reads_n_5, qm_touch_reads_c_5, qm_touch_writes_a_5, qm_touch_writes_n_5, qm_touch_writes_c_5, rfl, (Mv.pick (S5.trans T11) [0, 1, 2, 3] rfl)⟩
theorem impl_procKey_c {w : World} {H : Nat → Prop} {id : Int} {tail : ByteArray} (h_id : i64ok id) (h_tail : okS tail) (tab0 : Tb 0 H w) (p0 : tail.size ≤ 1000) :
    Calls Tryd.prog 102 #[.int .i64 id, .string tail] w fun e w' => e = .returned (.string (keyNum (⟨#[114, 47]⟩ : ByteArray) id tail)) ∧ Mv [] w [] w' ∧ okS (keyNum (⟨#[114, 47]⟩ : ByteArray) id tail) := by
 have uU : True := (fun _ => trivial) p0
 clear uU
 have V_tab0 : Tb 0 (V H w []) w := Tb.start tab0 (fun _ _ => fps_nil _)
 refine calls_enter 8 Tryd.func102 rfl Tryd.ntmps102 (Nat.le_of_ble_eq_true rfl) (fun _ F0i => ?_)
 have F0 : Fr 8 [(0, .int .i64 id), (1, .string tail)] _ := F0i
 clear F0i
 refine wp_seq (wp_region_lit (l_op (f_val F0 rfl rfl (r_assign rfl rfl) rfl fun _ F1 => ?_)))
 have F2 : Fr 8 [(4, .string (⟨#[]⟩ : ByteArray)), (0, .int .i64 id), (1, .string tail)] _ := F1.cut rfl
 clear F0 F1
 refine s_end (x_normal (wp_seq (wp_region_lit (l_op (f_mv F2 rfl rfl rfl rfl rfl fun _ F3 => ?_)))))
 refine l_op (f_mv F3 rfl rfl rfl rfl rfl fun _ F4 => ?_)
 refine l_op (f_call F4 CF_71 rfl rfl rfl rfl (lc rfl (lc (F4.ev 5 rfl) (lc (F4.ev 6 rfl) rfl))) (impl_KeyNum_c (head := (⟨#[114, 47]⟩ : ByteArray)) (n := id) (tail := tail) (by unfold okS; decide) h_id h_tail V_tab0 (by first | assumption | omega | (refine bdC.s ?_; (repeat (first | refine bdC.look ?_ | refine bdC.lay ?_ | refine bdC.set ?_)); exact bdC.le (by assumption) (by decide)) | (refine bdC.r ?_; (repeat (first | refine bdC.look ?_ | refine bdC.lay ?_ | refine bdC.set ?_)); exact bdC.le (by assumption) (by decide)) | (refine bdC.w ?_; (repeat (first | refine bdC.look ?_ | refine bdC.lay ?_ | refine bdC.set ?_)); exact bdC.le (by assumption) (by decide)) | ((repeat (first | refine bdC.look ?_ | refine bdC.lay ?_ | refine bdC.set ?_)); exact bdC.le (by assumption) (by decide)) | decide | exact Nat.le_trans (keyNum_size _ _ (by assumption)) (by decide)) (by first | assumption | omega | (refine bdC.s ?_; (repeat (first | refine bdC.look ?_ | refine bdC.lay ?_ | refine bdC.set ?_)); exact bdC.le (by assumption) (by decide)) | (refine bdC.r ?_; (repeat (first | refine bdC.look ?_ | refine bdC.lay ?_ | refine bdC.set ?_)); exact bdC.le (by assumption) (by decide)) | (refine bdC.w ?_; (repeat (first | refine bdC.look ?_ | refine bdC.lay ?_ | refine bdC.set ?_)); exact bdC.le (by assumption) (by decide)) | ((repeat (first | refine bdC.look ?_ | refine bdC.lay ?_ | refine bdC.set ?_)); exact bdC.le (by assumption) (by decide)) | decide | exact Nat.le_trans (keyNum_size _ _ (by assumption)) (by decide))) ?_)
 rintro _ w5 ⟨rfl, m5, ok_r0_5⟩
 refine ⟨_, rfl, fun _ F6 => ?_⟩
 have S5 := At.frame0 (At.nil w) m5
 clear m5
 refine l_op (f_as F6 rfl rfl rfl rfl rfl fun _ F7 => ?_)
 have F8 : Fr 8 [(4, .string (keyNum (⟨#[114, 47]⟩ : ByteArray) id tail))] _ := F7.cut rfl
 clear F2 F3 F4 F6 F7
 have T9 : Mv _ _ [] _ := S5
 refine s_end (x_normal (wp_ret ?_))
 refine x_done (v := .string (keyNum (⟨#[114, 47]⟩ : ByteArray) id tail)) F8 (results_1 Tryd.results102 (.tmp (F8.ev 4 rfl))) ?_
 exact ⟨rfl, (Mv.pick T9 [] rfl), ok_r0_5⟩
theorem impl_Mach_state_c {w : World} {H : Nat → Prop} {m : MachD} {m_store_a : Option Addr} {m_store_n m_store_c : Nat} {m_touch_reads_a : Option Addr} {m_touch_reads_n m_touch_reads_c : Nat} {m_touch_writes_a : Option Addr} {m_touch_writes_n m_touch_writes_c : Nat} {m_b : Nat} {id : Int} (h_id : i64ok id) (tab0 : Tb 0 H w) (tab1 : Tb 1 H w) (p0 : bdC 34359738368 m) (hA : At w [bx m_b [.slice m_store_a m_store_n m_store_c, .slice m_touch_reads_a m_touch_reads_n m_touch_reads_c, .slice m_touch_writes_a m_touch_writes_n m_touch_writes_c] 31, ow 81 2 encC okC (.slice m_store_a m_store_n m_store_c) m.store, ow 9 1 encS okS (.slice m_touch_reads_a m_touch_reads_n m_touch_reads_c) m.touch.reads, ow 9 1 encS okS (.slice m_touch_writes_a m_touch_writes_n m_touch_writes_c) m.touch.writes]) (hD : ∀ b, H b → ¬ fps [bx m_b [.slice m_store_a m_store_n m_store_c, .slice m_touch_reads_a m_touch_reads_n m_touch_reads_c, .slice m_touch_writes_a m_touch_writes_n m_touch_writes_c] 31, ow 81 2 encC okC (.slice m_store_a m_store_n m_store_c) m.store, ow 9 1 encS okS (.slice m_touch_reads_a m_touch_reads_n m_touch_reads_c) m.touch.reads, ow 9 1 encS okS (.slice m_touch_writes_a m_touch_writes_n m_touch_writes_c) m.touch.writes] b) :
    Calls Tryd.prog 103 #[.pointer (some ⟨m_b, 0, none⟩), .int .i64 id] w fun e w' => ∃ (q_m_store_a : Option Addr), ∃ (q_m_store_n : Nat), ∃ (q_m_store_c : Nat), ∃ (q_m_touch_reads_a : Option Addr), ∃ (q_m_touch_reads_n : Nat), ∃ (q_m_touch_reads_c : Nat), ∃ (q_m_touch_writes_a : Option Addr), ∃ (q_m_touch_writes_n : Nat), ∃ (q_m_touch_writes_c : Nat), e = .returned (.int .i64 ((numOf (getKey m.store (keyNum (⟨#[114, 47]⟩ : ByteArray) id (⟨#[47, 115]⟩ : ByteArray))) : Nat) : Int)) ∧ Mv [bx m_b [.slice m_store_a m_store_n m_store_c, .slice m_touch_reads_a m_touch_reads_n m_touch_reads_c, .slice m_touch_writes_a m_touch_writes_n m_touch_writes_c] 31, ow 81 2 encC okC (.slice m_store_a m_store_n m_store_c) m.store, ow 9 1 encS okS (.slice m_touch_reads_a m_touch_reads_n m_touch_reads_c) m.touch.reads, ow 9 1 encS okS (.slice m_touch_writes_a m_touch_writes_n m_touch_writes_c) m.touch.writes] w [bx m_b [.slice q_m_store_a q_m_store_n q_m_store_c, .slice q_m_touch_reads_a q_m_touch_reads_n q_m_touch_reads_c, .slice q_m_touch_writes_a q_m_touch_writes_n q_m_touch_writes_c] 31, ow 81 2 encC okC (.slice q_m_store_a q_m_store_n q_m_store_c) (lookM m (keyNum (⟨#[114, 47]⟩ : ByteArray) id (⟨#[47, 115]⟩ : ByteArray))).store, ow 9 1 encS okS (.slice q_m_touch_reads_a q_m_touch_reads_n q_m_touch_reads_c) (lookM m (keyNum (⟨#[114, 47]⟩ : ByteArray) id (⟨#[47, 115]⟩ : ByteArray))).touch.reads, ow 9 1 encS okS (.slice q_m_touch_writes_a q_m_touch_writes_n q_m_touch_writes_c) (lookM m (keyNum (⟨#[114, 47]⟩ : ByteArray) id (⟨#[47, 115]⟩ : ByteArray))).touch.writes] w' := by
 have uU : True := (fun _ => trivial) p0
 clear uU
 have V_tab0 : Tb 0 (V H w [bx m_b [.slice m_store_a m_store_n m_store_c, .slice m_touch_reads_a m_touch_reads_n m_touch_reads_c, .slice m_touch_writes_a m_touch_writes_n m_touch_writes_c] 31, ow 81 2 encC okC (.slice m_store_a m_store_n m_store_c) m.store, ow 9 1 encS okS (.slice m_touch_reads_a m_touch_reads_n m_touch_reads_c) m.touch.reads, ow 9 1 encS okS (.slice m_touch_writes_a m_touch_writes_n m_touch_writes_c) m.touch.writes]) w := Tb.start tab0 hD
 have V_tab1 : Tb 1 (V H w [bx m_b [.slice m_store_a m_store_n m_store_c, .slice m_touch_reads_a m_touch_reads_n m_touch_reads_c, .slice m_touch_writes_a m_touch_writes_n m_touch_writes_c] 31, ow 81 2 encC okC (.slice m_store_a m_store_n m_store_c) m.store, ow 9 1 encS okS (.slice m_touch_reads_a m_touch_reads_n m_touch_reads_c) m.touch.reads, ow 9 1 encS okS (.slice m_touch_writes_a m_touch_writes_n m_touch_writes_c) m.touch.writes]) w := Tb.start tab1 hD
 obtain ⟨lo1, lp1, lq1⟩ := At.ownInv hA ET_26.hk 1 rfl
 obtain ⟨lo2, lp2, lq2⟩ := At.ownInv hA ET_27.hk 2 rfl
 obtain ⟨lo3, lp3, lq3⟩ := At.ownInv hA ET_27.hk 3 rfl
 refine calls_enter 9 Tryd.func103 rfl Tryd.ntmps103 (Nat.le_of_ble_eq_true rfl) (fun _ F0i => ?_)
 have F0 : Fr 9 [(0, .pointer (some ⟨m_b, 0, none⟩)), (1, .int .i64 id)] _ := F0i
 clear F0i
 refine wp_seq (wp_region_lit (l_op (f_val F0 rfl rfl (r_assign rfl rfl) rfl fun _ F1 => ?_)))
 have F2 : Fr 9 [(4, .int .i64 0), (0, .pointer (some ⟨m_b, 0, none⟩)), (1, .int .i64 id)] _ := F1.cut rfl
 clear F0 F1
 refine s_end (x_normal (wp_seq (wp_region_lit (l_op (f_mv F2 rfl rfl rfl rfl rfl fun _ F3 => ?_)))))
 refine l_op (f_mv F3 rfl rfl rfl rfl rfl fun _ F4 => ?_)
 refine l_op (f_call F4 CF_102 rfl rfl rfl rfl (lc (F4.ev 6 rfl) (lc rfl rfl)) (impl_procKey_c (id := id) (tail := (⟨#[47, 115]⟩ : ByteArray)) h_id (by unfold okS; decide) V_tab0 (by first | assumption | omega | (refine bdC.s ?_; (repeat (first | refine bdC.look ?_ | refine bdC.lay ?_ | refine bdC.set ?_)); exact bdC.le (by assumption) (by decide)) | (refine bdC.r ?_; (repeat (first | refine bdC.look ?_ | refine bdC.lay ?_ | refine bdC.set ?_)); exact bdC.le (by assumption) (by decide)) | (refine bdC.w ?_; (repeat (first | refine bdC.look ?_ | refine bdC.lay ?_ | refine bdC.set ?_)); exact bdC.le (by assumption) (by decide)) | ((repeat (first | refine bdC.look ?_ | refine bdC.lay ?_ | refine bdC.set ?_)); exact bdC.le (by assumption) (by decide)) | decide | exact Nat.le_trans (keyNum_size _ _ (by assumption)) (by decide))) ?_)
 rintro _ w5 ⟨rfl, m5, ok_r0_5⟩
 refine ⟨_, rfl, fun _ F6 => ?_⟩
 have S5 := At.frame0 hA m5
 clear m5
 refine l_op (f_call F6 CF_57 rfl rfl rfl rfl (lc (F6.ev 5 rfl) (lc (F6.ev 7 rfl) rfl)) (impl_Mach_num_c (m := m) (key := keyNum (⟨#[114, 47]⟩ : ByteArray) id (⟨#[47, 115]⟩ : ByteArray)) ok_r0_5 (Tb.mv V_tab0 S5) (Tb.mv V_tab1 S5) (by first | assumption | omega | (refine bdC.s ?_; (repeat (first | refine bdC.look ?_ | refine bdC.lay ?_ | refine bdC.set ?_)); exact bdC.le (by assumption) (by decide)) | (refine bdC.r ?_; (repeat (first | refine bdC.look ?_ | refine bdC.lay ?_ | refine bdC.set ?_)); exact bdC.le (by assumption) (by decide)) | (refine bdC.w ?_; (repeat (first | refine bdC.look ?_ | refine bdC.lay ?_ | refine bdC.set ?_)); exact bdC.le (by assumption) (by decide)) | ((repeat (first | refine bdC.look ?_ | refine bdC.lay ?_ | refine bdC.set ?_)); exact bdC.le (by assumption) (by decide)) | decide | exact Nat.le_trans (keyNum_size _ _ (by assumption)) (by decide)) (At.pick (is := [0, 1, 2, 3]) S5.at' rfl) (V_off (is := [0, 1, 2, 3]))) ?_)
 rintro _ w7 ⟨qm_store_a_7, qm_store_n_7, qm_store_c_7, qm_touch_reads_a_7, qm_touch_reads_n_7, qm_touch_reads_c_7, qm_touch_writes_a_7, qm_touch_writes_n_7, qm_touch_writes_c_7, rfl, m7⟩
 refine ⟨_, rfl, fun _ F8 => ?_⟩
 have S7 : Mv _ _ [bx m_b [.slice qm_store_a_7 qm_store_n_7 qm_store_c_7, .slice qm_touch_reads_a_7 qm_touch_reads_n_7 qm_touch_reads_c_7, .slice qm_touch_writes_a_7 qm_touch_writes_n_7 qm_touch_writes_c_7] 31, ow 81 2 encC okC (.slice qm_store_a_7 qm_store_n_7 qm_store_c_7) (lookM m (keyNum (⟨#[114, 47]⟩ : ByteArray) id (⟨#[47, 115]⟩ : ByteArray))).store, ow 9 1 encS okS (.slice qm_touch_reads_a_7 qm_touch_reads_n_7 qm_touch_reads_c_7) (lookM m (keyNum (⟨#[114, 47]⟩ : ByteArray) id (⟨#[47, 115]⟩ : ByteArray))).touch.reads, ow 9 1 encS okS (.slice qm_touch_writes_a_7 qm_touch_writes_n_7 qm_touch_writes_c_7) (lookM m (keyNum (⟨#[114, 47]⟩ : ByteArray) id (⟨#[47, 115]⟩ : ByteArray))).touch.writes] _ := At.frame S5.at' [0, 1, 2, 3] rfl m7
 obtain ⟨lo7_1, lp7_1, lq7_1⟩ := At.ownInv S7.at' ET_26.hk 1 rfl
 obtain ⟨lo7_2, lp7_2, lq7_2⟩ := At.ownInv S7.at' ET_27.hk 2 rfl
 obtain ⟨lo7_3, lp7_3, lq7_3⟩ := At.ownInv S7.at' ET_27.hk 3 rfl
 clear m7
 refine l_op (f_as F8 rfl rfl rfl rfl rfl fun _ F9 => ?_)
 have F10 : Fr 9 [(4, .int .i64 ((numOf (getKey m.store (keyNum (⟨#[114, 47]⟩ : ByteArray) id (⟨#[47, 115]⟩ : ByteArray))) : Nat) : Int))] _ := F9.cut rfl
 clear F2 F3 F4 F6 F8 F9
 refine s_end (x_normal (wp_ret ?_))
 refine x_done (v := .int .i64 ((numOf (getKey m.store (keyNum (⟨#[114, 47]⟩ : ByteArray) id (⟨#[47, 115]⟩ : ByteArray))) : Nat) : Int)) F10 (results_1 Tryd.results103 (.tmp (F10.ev 4 rfl))) ?_
 exact ⟨qm_store_a_7, qm_store_n_7, qm_store_c_7, qm_touch_reads_a_7, qm_touch_reads_n_7, qm_touch_reads_c_7, qm_touch_writes_a_7, qm_touch_writes_n_7, qm_touch_writes_c_7, rfl, (Mv.pick (S5.trans S7) [0, 1, 2, 3] rfl)⟩
end Go.Proofs.YtjiplnaceiofmaaDoor
