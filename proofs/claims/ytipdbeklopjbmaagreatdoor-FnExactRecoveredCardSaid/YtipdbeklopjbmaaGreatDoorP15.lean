/-
  Texts laid together: DatKn, DatKo, GenRa, GenSa, DatVb, GenSd, GenSf, GenNsb.
-/
import Derived.Test.YtipdbeklopjbmaaGreatDoorP08
import Derived.Test.YtipdbeklopjbmaaGreatDoorP05
import Derived.Test.YtipdbeklopjbmaaGreatDoorP13
import Derived.Test.YtipdbeklopjbmaaGreatDoorP06
import Derived.Test.YtipdbeklopjbmaaGreatDoorGenH
/-
  Kernels: their data.
-/

namespace Go.Proofs.YtipdbeklopjbmaaGreatDoor
open Go.ChangeShapes Go.WideShapes Go.ChangeAt Go.RowKit
set_option maxRecDepth 100000
set_option maxHeartbeats 1000000

def entriesFit (n : Nat) (l : List EntryD) : Prop := l.length ≤ n ∧ ∀ x ∈ l, x.steps.length ≤ n ∧ x.answers.length ≤ n
theorem entriesFit.at {l : List EntryH} {n k : Nat} {x : EntryH} (h : entriesFit n (l.map EntryH.d)) (hx : nth l k = some x) : x.d.steps.length ≤ n ∧ x.d.answers.length ≤ n := h.2 _ (nth_mem (map_at hx))
theorem entriesFit.len {l : List EntryH} {n : Nat} (h : entriesFit n (l.map EntryH.d)) : l.length ≤ n := by
  have := h.1
  rwa [List.length_map] at this
def cntEn (x : EntryD) : Nat := 6 + (7 * x.steps.length + 3 * x.answers.length)
theorem cntEn_eq (x : EntryD) : cntEn x = 6 + (7 * x.steps.length + 3 * x.answers.length) := rfl
theorem entriesFit.cnt {l : List EntryD} (h : entriesFit 1048576 l) : sumOf cntEn l ≤ 1125899906842624 := by
  have h1 := sumOf_bound (f := cntEn) (l := l) (n := 16777216) fun x hx => by
    have := h.2 x hx
    rw [cntEn_eq]; omega
  have h2 := Nat.mul_le_mul_right 16777216 h.1
  omega
end Go.Proofs.YtipdbeklopjbmaaGreatDoor
/-
  Kernels that are as they should be: plain functions.
-/

namespace Go.Proofs.YtipdbeklopjbmaaGreatDoor
open Go.ChangeShapes Go.WideShapes Go.ChangeAt Go.RowKit
set_option maxRecDepth 100000
set_option maxHeartbeats 1000000

def badXY (x y : TxD) : Bool := decide (x.state = 1) && (decide (y.state = 1) && clashT x.touch y.touch)
def apartAt (L : List TxD) (i j : Nat) : Bool := match nth L i, nth L j with
  | some x, some y => !badXY x y
  | _, _ => true
end Go.Proofs.YtipdbeklopjbmaaGreatDoor
/-
  Walks: numbers are read.
-/

namespace Go.Proofs.YtipdbeklopjbmaaGreatDoor
open Go.ChangeShapes Go.WideShapes Go.ChangeAt Go.RowKit
set_option maxRecDepth 100000
set_option maxHeartbeats 1000000

theorem rz {s : ByteArray} (h : readN s = 0 ∧ readB s = false) : (0 : Int) = ((readN s : Nat) : Int) := by rw [h.1]; rfl
theorem rzB {s : ByteArray} (h : readN s = 0 ∧ readB s = false) : false = readB s := h.2.symm
theorem rd_a {s : ByteArray} {r : Int} {ev : Value} (q : atoiR s r ev) (h : isErr ev = true) : readN s = 0 ∧ readB s = false := by
  rcases q with ⟨_, rfl⟩ | ⟨h1, _⟩
  · exact absurd h (by decide)
  · exact read_bad h1
theorem atoiR.okR {s : ByteArray} {r : Int} {ev : Value} (q : atoiR s r ev) (h : isErr ev = false) : Lib.atoiAll s.data.toList = .ok r := by
  rcases q with ⟨h1, _⟩ | ⟨_, h2⟩
  · exact h1
  · rw [h] at h2; cases h2
theorem rd_b {s : ByteArray} {r : Int} {ev : Value} (q : atoiR s r ev) (h : isErr ev = false) (hr : (!inB r 0 1000000000) = true) : readN s = 0 ∧ readB s = false :=
  read_out (q.okR h) (.inl fun e => by
    have := nt hr
    unfold inB at this
    exact of_decide_eq_false this e)
theorem rd_c {s : ByteArray} {r : Int} {ev : Value} (q : atoiR s r ev) (h : isErr ev = false) (hd : decS r ≠ s) : readN s = 0 ∧ readB s = false := read_out (q.okR h) (.inr hd)
theorem rd_d {s : ByteArray} {r : Int} (hr : (!inB r 0 1000000000) = false) (hd : ¬ decS r ≠ s) : (readN s : Int) = r ∧ readB s = true :=
  read_in (by have := nf hr; unfold inB at this; exact of_decide_eq_true this) (Classical.not_not.1 hd)
theorem valN_succ (s : ByteArray) (k : Nat) : valN s (k + 1) = 10 * valN s k + (byteAt s k - 48) := rfl
theorem end_eq {s : ByteArray} {k : Nat} (h : ¬ k < s.size) (hk : k ≤ s.size) : k = s.size := by omega
theorem rs_a {s : ByteArray} {k : Nat} (h : ¬ k < s.size) (hk : k ≤ s.size) (hv : valN s k > 1000000000) : readN s = 0 ∧ readB s = false := by
  have e := end_eq h hk
  subst e
  exact read_val (.inl (Nat.not_le_of_gt hv))
theorem rs_b {s : ByteArray} {k : Nat} (h : ¬ k < s.size) (hk : k ≤ s.size) (hv : decS ((valN s k : Nat) : Int) ≠ s) : readN s = 0 ∧ readB s = false := by
  have e := end_eq h hk
  subst e
  exact read_val (.inr hv)
theorem rs_c {s : ByteArray} {k : Nat} (h : ¬ k < s.size) (hk : k ≤ s.size) (hv : ¬ valN s k > 1000000000) (hd : ¬ decS ((valN s k : Nat) : Int) ≠ s) : readN s = valN s k ∧ readB s = true := by
  have e := end_eq h hk
  subst e
  exact read_yes (Nat.le_of_not_gt hv) (Classical.not_not.1 hd)
theorem castN {a b : Nat} (h : a = b) : ((b : Nat) : Int) = ((a : Nat) : Int) := by rw [h]
theorem strconv_Atoi_c {w : World} {H : Nat → Prop} {s : ByteArray} (h_s : okS s) (tab1 : Tb 1 H w) (p0 : s.size ≤ 281474976710656) :
    Calls Tryz.prog 172 #[.string s] w fun e w' => ∃ (r : Int), ∃ (ev : Value), e = .returned (.tuple #[.int .i64 r, ev]) ∧ Mv [] w [] w' ∧ i64ok r ∧ errV ev ∧ atoiR s r ev := by
  have uU : True := (fun _ => trivial) h_s
  clear uU
  obtain ⟨⟨es, hs, es2⟩, ⟨er, hr, er2⟩⟩ := tab1.1
  cases h : Lib.atoiAll s.data.toList
  · rename_i v
    refine (Any.strconv_Atoi_ok laysAtoi s (by omega) v h w).mono ?_
    rintro e w' ⟨rfl, hw⟩
    have hb := Lib.atoiAll_bounds h
    refine ⟨v, .nilIface, rfl, mv_below ?_, ⟨by omega, by omega⟩, .inl rfl, .inl ⟨h, rfl⟩⟩
    rcases hw with rfl | ⟨t, rfl⟩
    · exact Below.refl _ _
    · exact Lib.bytesWorld_below _ _ _
  · skip
    refine (Any.strconv_Atoi_syntax laysAtoi s p0 h es w hs es2).mono ?_
    rintro e w' ⟨n, rfl, h1, h2, h3⟩
    exact ⟨0, _, rfl, mv_below h3, ⟨by omega, by omega⟩, .inr ⟨_, _, rfl⟩, .inr ⟨(fun v e => by rw [h] at e; cases e), rfl⟩⟩
  · skip
    refine (Any.strconv_Atoi_range laysAtoi s p0 h er w hr er2).mono ?_
    rintro e w' ⟨n, rfl, h1, h2, h3⟩
    have hb := Lib.atoiSat_bounds s.data.toList
    exact ⟨_, _, rfl, mv_below h3, ⟨by omega, by omega⟩, .inr ⟨_, _, rfl⟩, .inr ⟨(fun v e => by rw [h] at e; cases e), rfl⟩⟩
theorem impl_ReadDecimal_c {w : World} {H : Nat → Prop} {text : ByteArray} (Q0 : okS text) (tab0 : Tb 0 H w) (tab1 : Tb 1 H w) (p0 : text.size ≤ 281474976710656) :
    Calls Tryz.prog 139 #[.string text] w fun e w' => e = .returned (.tuple #[.int .i64 ((readN text : Nat) : Int), .bool (readB text)]) ∧ Mv [] w [] w' := by
 have uU : True := (fun _ => trivial) p0
 clear uU
 have V_tab0 : Tb 0 (V H w []) w := Tb.start tab0 (fun _ _ => fps_nil _)
 have V_tab1 : Tb 1 (V H w []) w := Tb.start tab1 (fun _ _ => fps_nil _)
 refine calls_enter 25 Tryz.func139 rfl Tryz.ntmps139 (Nat.le_of_ble_eq_true rfl) (fun _ F0i => ?_)
 have F0 : Fr 25 [(0, .string text)] _ := F0i
 clear F0i
 refine wp_seq (wp_region_lit (l_op (f_val F0 rfl rfl (r_assign rfl rfl) rfl fun _ F1 => ?_)))
 refine l_op (f_val F1 rfl rfl (r_assign rfl rfl) rfl fun _ F2 => ?_)
 refine s_end (x_normal (wp_seq (wp_region_lit (l_op (f_mv F2 rfl rfl rfl rfl rfl fun _ F3 => ?_)))))
 refine l_op (f_call F3 CF_172 rfl rfl rfl rfl (lc (F3.ev 7 rfl) rfl) (strconv_Atoi_c (s := text) Q0 V_tab1 (by first | assumption | omega | (simp <;> omega))) ?_)
 rintro _ w4 ⟨r_4, ev_4, rfl, m4, q4_0, q4_1, q4_2⟩
 refine ⟨_, rfl, fun _ F5 => ?_⟩
 have S4 := At.frame0 (At.nil w) m4
 clear m4
 refine l_op (f_mv F5 rfl rfl rfl rfl rfl fun _ F6 => ?_)
 refine l_op (f_val (v := .int .i64 r_4) F6 rfl rfl (r_extract rfl (F6.ev 6 rfl) rfl) rfl fun _ F7 => ?_)
 refine l_op (f_val (v := ev_4) F7 rfl rfl (r_extract rfl (F7.ev 6 rfl) rfl) rfl fun _ F8 => ?_)
 refine l_op (f_as F8 rfl rfl rfl rfl rfl fun _ F9 => ?_)
 refine l_op (f_as F9 rfl rfl rfl rfl rfl fun _ F10 => ?_)
 refine s_end (x_normal (wp_seq (wp_seq (wp_region_lit (l_op (f_mv F10 rfl rfl rfl rfl rfl fun _ F11 => ?_))))))
 refine l_op (f_val F11 rfl rfl (r_errNe Tryz.underlying197 rfl (F11.ev 11 rfl) rfl ‹_›) rfl fun _ F12 => ?_)
 refine l_op (f_mv F12 rfl rfl rfl rfl rfl fun _ F13 => ?_)
 rcases Bool.eq_false_or_eq_true (isErr ev_4) with h14 | h14
 · rw [h14] at F13
   refine l_op (f_skip F13 (wanted_g F13 rfl rfl rfl rfl) rfl rfl fun _ F15 => ?_)
   refine l_op (f_skip F15 (wanted_g F15 rfl rfl rfl rfl) rfl rfl fun _ F16 => ?_)
   refine l_op (f_skip F16 (wanted_g F16 rfl rfl rfl rfl) rfl rfl fun _ F17 => ?_)
   refine l_op (f_val F17 rfl rfl (r_pick (b := true) rfl (F17.ev 13 rfl) rfl) rfl fun _ F18 => ?_)
   refine l_op (f_mv F18 rfl rfl rfl rfl rfl fun _ F19 => ?_)
   refine l_op (f_skip F19 (wanted_g F19 rfl rfl rfl rfl) rfl rfl fun _ F20 => ?_)
   refine l_op (f_skip F20 (wanted_g F20 rfl rfl rfl rfl) rfl rfl fun _ F21 => ?_)
   refine l_op (f_skip F21 (wanted_g F21 rfl rfl rfl rfl) rfl rfl fun _ F22 => ?_)
   refine l_op (f_skip F22 (wanted_g F22 rfl rfl rfl rfl) rfl rfl fun _ F23 => ?_)
   refine l_op (f_val F23 rfl rfl (r_pick (b := true) rfl (F23.ev 18 rfl) rfl) rfl fun _ F24 => ?_)
   refine s_end (x_normal (wp_cond_true (F24.ev 23 rfl) (wp_seq (wp_region_lit (l_op (f_val F24 rfl rfl (r_assign rfl rfl) rfl fun _ F25 => ?_))))))
   refine l_op (f_val F25 rfl rfl (r_assign rfl rfl) rfl fun _ F26 => ?_)
   refine s_end (x_normal (wp_ret (x_then_ret ?_)))
   refine x_done (v := .tuple #[.int .i64 0, .bool false]) F26 (results_2 Tryz.results139 (.tmp (F26.ev 2 rfl)) (.tmp (F26.ev 3 rfl))) ?_
   exact ⟨(by rw [(show 0 = ((readN text : Nat) : Int) from by first | exact rz (rd_a ‹_› ‹_›) | exact rzB (rd_a ‹_› ‹_›) | exact rz (rd_b ‹_› ‹_› ‹_›) | exact rzB (rd_b ‹_› ‹_› ‹_›) | exact rz (rd_c ‹_› ‹_› ‹_›) | exact rzB (rd_c ‹_› ‹_› ‹_›) | exact (rd_d ‹_› ‹_›).1.symm | exact (rd_d ‹_› ‹_›).2.symm), (show false = (readB text) from by first | exact rz (rd_a ‹_› ‹_›) | exact rzB (rd_a ‹_› ‹_›) | exact rz (rd_b ‹_› ‹_› ‹_›) | exact rzB (rd_b ‹_› ‹_› ‹_›) | exact rz (rd_c ‹_› ‹_› ‹_›) | exact rzB (rd_c ‹_› ‹_› ‹_›) | exact (rd_d ‹_› ‹_›).1.symm | exact (rd_d ‹_› ‹_›).2.symm)]), (Mv.pick S4 [] rfl)⟩
 · rw [h14] at F13
   refine l_op (f_mv F13 (wanted_g F13 rfl rfl rfl rfl) rfl rfl rfl rfl fun _ F27 => ?_)
   refine l_op (f_call F27 CF_93 (wanted_g F27 rfl rfl rfl rfl) rfl rfl rfl (lc (F27.ev 14 rfl) (lc rfl (lc rfl rfl))) (impl_within_c (H := fun _ => True) (n := r_4) (low := 0) (high := 1000000000) (by first | assumption | exact ⟨by omega, by omega⟩ | (unfold i64ok at *; omega)) (by first | assumption | exact ⟨by omega, by omega⟩ | (unfold i64ok at *; omega)) (by first | assumption | exact ⟨by omega, by omega⟩ | (unfold i64ok at *; omega))) ?_)
   rintro _ w28 ⟨rfl, m28⟩
   refine ⟨_, rfl, fun _ F29 => ?_⟩
   have S28 := At.frame0 S4.at' m28
   clear m28
   refine l_op (f_val F29 (wanted_g F29 rfl rfl rfl rfl) rfl (r_not rfl (F29.ev 15 rfl)) rfl fun _ F30 => ?_)
   refine l_op (f_val F30 rfl rfl (r_pick (b := false) rfl (F30.ev 13 rfl) (F30.ev 16 rfl)) rfl fun _ F31 => ?_)
   refine l_op (f_mv F31 rfl rfl rfl rfl rfl fun _ F32 => ?_)
   rcases Bool.eq_false_or_eq_true (!(inB r_4 0 1000000000)) with h33 | h33
   · rw [h33] at F32
     refine l_op (f_skip F32 (wanted_g F32 rfl rfl rfl rfl) rfl rfl fun _ F34 => ?_)
     refine l_op (f_skip F34 (wanted_g F34 rfl rfl rfl rfl) rfl rfl fun _ F35 => ?_)
     refine l_op (f_skip F35 (wanted_g F35 rfl rfl rfl rfl) rfl rfl fun _ F36 => ?_)
     refine l_op (f_skip F36 (wanted_g F36 rfl rfl rfl rfl) rfl rfl fun _ F37 => ?_)
     refine l_op (f_val F37 rfl rfl (r_pick (b := true) rfl (F37.ev 18 rfl) rfl) rfl fun _ F38 => ?_)
     refine s_end (x_normal (wp_cond_true (F38.ev 23 rfl) (wp_seq (wp_region_lit (l_op (f_val F38 rfl rfl (r_assign rfl rfl) rfl fun _ F39 => ?_))))))
     refine l_op (f_val F39 rfl rfl (r_assign rfl rfl) rfl fun _ F40 => ?_)
     refine s_end (x_normal (wp_ret (x_then_ret ?_)))
     refine x_done (v := .tuple #[.int .i64 0, .bool false]) F40 (results_2 Tryz.results139 (.tmp (F40.ev 2 rfl)) (.tmp (F40.ev 3 rfl))) ?_
     exact ⟨(by rw [(show 0 = ((readN text : Nat) : Int) from by first | exact rz (rd_a ‹_› ‹_›) | exact rzB (rd_a ‹_› ‹_›) | exact rz (rd_b ‹_› ‹_› ‹_›) | exact rzB (rd_b ‹_› ‹_› ‹_›) | exact rz (rd_c ‹_› ‹_› ‹_›) | exact rzB (rd_c ‹_› ‹_› ‹_›) | exact (rd_d ‹_› ‹_›).1.symm | exact (rd_d ‹_› ‹_›).2.symm), (show false = (readB text) from by first | exact rz (rd_a ‹_› ‹_›) | exact rzB (rd_a ‹_› ‹_›) | exact rz (rd_b ‹_› ‹_› ‹_›) | exact rzB (rd_b ‹_› ‹_› ‹_›) | exact rz (rd_c ‹_› ‹_› ‹_›) | exact rzB (rd_c ‹_› ‹_› ‹_›) | exact (rd_d ‹_› ‹_›).1.symm | exact (rd_d ‹_› ‹_›).2.symm)]), (Mv.pick (S4.trans S28) [] rfl)⟩
   · rw [h33] at F32
     refine l_op (f_mv F32 (wanted_g F32 rfl rfl rfl rfl) rfl rfl rfl rfl fun _ F41 => ?_)
     refine l_op (f_call F41 CF_151 (wanted_g F41 rfl rfl rfl rfl) rfl rfl rfl (lc (F41.ev 19 rfl) rfl) (impl_Decimal_c (n := r_4) (by first | assumption | exact ⟨by omega, by omega⟩ | (unfold i64ok at *; omega)) (Tb.mv V_tab0 (S4.trans S28))) ?_)
     rintro _ w42 ⟨rfl, m42, Q1⟩
     refine ⟨_, rfl, fun _ F43 => ?_⟩
     have S42 := At.frame0 S28.at' m42
     clear m42
     refine l_op (f_mv F43 (wanted_g F43 rfl rfl rfl rfl) rfl rfl rfl rfl fun _ F44 => ?_)
     refine l_op (f_val F44 (wanted_g F44 rfl rfl rfl rfl) rfl (r_cmps (b := (decide ((decS r_4) ≠ text))) (.inr (.inl rfl)) rfl (F44.ev 20 rfl) (F44.ev 21 rfl) rfl) rfl fun _ F45 => ?_)
     refine l_op (f_val F45 rfl rfl (r_pick (b := false) rfl (F45.ev 18 rfl) (F45.ev 22 rfl)) rfl fun _ F46 => ?_)
     refine s_end (x_normal (x_cond (p := (decS r_4) ≠ text) (F46.ev 23 rfl) (fun h47 => ?_) (fun h47 => ?_)))
     · skip
       refine wp_seq (wp_region_lit (l_op (f_val F46 rfl rfl (r_assign rfl rfl) rfl fun _ F48 => ?_)))
       refine l_op (f_val F48 rfl rfl (r_assign rfl rfl) rfl fun _ F49 => ?_)
       refine s_end (x_normal (wp_ret (x_then_ret ?_)))
       refine x_done (v := .tuple #[.int .i64 0, .bool false]) F49 (results_2 Tryz.results139 (.tmp (F49.ev 2 rfl)) (.tmp (F49.ev 3 rfl))) ?_
       exact ⟨(by rw [(show 0 = ((readN text : Nat) : Int) from by first | exact rz (rd_a ‹_› ‹_›) | exact rzB (rd_a ‹_› ‹_›) | exact rz (rd_b ‹_› ‹_› ‹_›) | exact rzB (rd_b ‹_› ‹_› ‹_›) | exact rz (rd_c ‹_› ‹_› ‹_›) | exact rzB (rd_c ‹_› ‹_› ‹_›) | exact (rd_d ‹_› ‹_›).1.symm | exact (rd_d ‹_› ‹_›).2.symm), (show false = (readB text) from by first | exact rz (rd_a ‹_› ‹_›) | exact rzB (rd_a ‹_› ‹_›) | exact rz (rd_b ‹_› ‹_› ‹_›) | exact rzB (rd_b ‹_› ‹_› ‹_›) | exact rz (rd_c ‹_› ‹_› ‹_›) | exact rzB (rd_c ‹_› ‹_› ‹_›) | exact (rd_d ‹_› ‹_›).1.symm | exact (rd_d ‹_› ‹_›).2.symm)]), (Mv.pick (S4.trans (S28.trans S42)) [] rfl)⟩
     · skip
       refine wp_skip (x_normal (wp_seq (wp_region_lit (l_op (f_mv F46 rfl rfl rfl rfl rfl fun _ F50 => ?_)))))
       refine l_op (f_as F50 rfl rfl rfl rfl rfl fun _ F51 => ?_)
       refine l_op (f_val F51 rfl rfl (r_assign rfl rfl) rfl fun _ F52 => ?_)
       refine s_end (x_normal (wp_ret ?_))
       refine x_done (v := .tuple #[.int .i64 r_4, .bool true]) F52 (results_2 Tryz.results139 (.tmp (F52.ev 2 rfl)) (.tmp (F52.ev 3 rfl))) ?_
       exact ⟨(by rw [(show r_4 = ((readN text : Nat) : Int) from by first | exact rz (rd_a ‹_› ‹_›) | exact rzB (rd_a ‹_› ‹_›) | exact rz (rd_b ‹_› ‹_› ‹_›) | exact rzB (rd_b ‹_› ‹_› ‹_›) | exact rz (rd_c ‹_› ‹_› ‹_›) | exact rzB (rd_c ‹_› ‹_› ‹_›) | exact (rd_d ‹_› ‹_›).1.symm | exact (rd_d ‹_› ‹_›).2.symm), (show true = (readB text) from by first | exact rz (rd_a ‹_› ‹_›) | exact rzB (rd_a ‹_› ‹_›) | exact rz (rd_b ‹_› ‹_› ‹_›) | exact rzB (rd_b ‹_› ‹_› ‹_›) | exact rz (rd_c ‹_› ‹_› ‹_›) | exact rzB (rd_c ‹_› ‹_› ‹_›) | exact (rd_d ‹_› ‹_›).1.symm | exact (rd_d ‹_› ‹_›).2.symm)]), (Mv.pick (S4.trans (S28.trans S42)) [] rfl)⟩
theorem spec_ReadDecimal_c {w : World} {H : Nat → Prop} {text : ByteArray} (Q0 : okS text) :
    Calls Tryz.prog 134 #[.string text] w fun e w' => e = .returned (.tuple #[.int .i64 ((readN text : Nat) : Int), .bool (readB text)]) ∧ Mv [] w [] w' := by
 have uU : True := (fun _ _ => trivial) H Q0
 clear uU
 refine calls_enter 42 Tryz.func134 rfl Tryz.ntmps134 (Nat.le_of_ble_eq_true rfl) (fun _ F0i => ?_)
 have F0 : Fr 42 [(0, .string text)] _ := F0i
 clear F0i
 refine wp_seq (wp_region_lit (l_op (f_val F0 rfl rfl (r_assign rfl rfl) rfl fun _ F1 => ?_)))
 refine l_op (f_val F1 rfl rfl (r_assign rfl rfl) rfl fun _ F2 => ?_)
 refine s_end (x_normal (wp_seq (wp_seq (wp_region_lit (l_op (f_mv F2 rfl rfl rfl rfl rfl fun _ F3 => ?_))))))
 refine l_op (f_val F3 rfl rfl (r_lenS (fun t ht => by cases ht; exact Tryz.underlying9) rfl rfl (F3.ev 6 rfl)) rfl fun _ F4 => ?_)
 refine l_op (f_val F4 rfl rfl (r_cmp (b := decide (text.size > 10)) (.inr (.inr (.inr (.inr (.inl rfl))))) rfl (F4.ev 7 rfl) rfl (dec_of (by omega))) rfl fun _ F5 => ?_)
 refine s_end (x_normal (x_cond (p := text.size > 10) (F5.ev 8 rfl) (fun h6 => ?_) (fun h6 => ?_)))
 · skip
   refine wp_seq (wp_region_lit (l_op (f_val F5 rfl rfl (r_assign rfl rfl) rfl fun _ F7 => ?_)))
   refine l_op (f_val F7 rfl rfl (r_assign rfl rfl) rfl fun _ F8 => ?_)
   refine s_end (x_normal (wp_ret (x_then_ret ?_)))
   refine x_done (v := .tuple #[.int .i64 0, .bool false]) F8 (results_2 Tryz.results134 (.tmp (F8.ev 2 rfl)) (.tmp (F8.ev 3 rfl))) ?_
   exact ⟨(by rw [(show 0 = ((readN text : Nat) : Int) from by first | exact rz (read_long ‹_›) | exact rzB (read_long ‹_›) | exact rz (read_fig (k := k) (by omega) (by omega)) | exact rzB (read_fig (k := k) (by omega) (by omega)) | exact rz (rs_a (k := k) ‹_› (by omega) ‹_›) | exact rzB (rs_a (k := k) ‹_› (by omega) ‹_›) | exact rz (rs_b (k := k) ‹_› (by omega) ‹_›) | exact rzB (rs_b (k := k) ‹_› (by omega) ‹_›) | exact castN (rs_c (k := k) ‹_› (by omega) ‹_› ‹_›).1 | exact (rs_c (k := k) ‹_› (by omega) ‹_› ‹_›).2.symm), (show false = (readB text) from by first | exact rz (read_long ‹_›) | exact rzB (read_long ‹_›) | exact rz (read_fig (k := k) (by omega) (by omega)) | exact rzB (read_fig (k := k) (by omega) (by omega)) | exact rz (rs_a (k := k) ‹_› (by omega) ‹_›) | exact rzB (rs_a (k := k) ‹_› (by omega) ‹_›) | exact rz (rs_b (k := k) ‹_› (by omega) ‹_›) | exact rzB (rs_b (k := k) ‹_› (by omega) ‹_›) | exact castN (rs_c (k := k) ‹_› (by omega) ‹_› ‹_›).1 | exact (rs_c (k := k) ‹_› (by omega) ‹_› ‹_›).2.symm)]), (Mv.pick (Mv.refl (At.nil w)) [] rfl)⟩
 · skip
   refine wp_skip (x_normal (wp_seq (wp_region_lit (l_op (f_val F5 rfl rfl (r_assign rfl rfl) rfl fun _ F9 => ?_)))))
   refine s_end (x_normal (wp_seq (wp_seq (wp_region_lit (l_op (f_val F9 rfl rfl (r_assign rfl rfl) rfl fun _ F10 => ?_))))))
   refine s_end (x_normal (wp_block ?_))
   refine x_loop (fun (k : Nat) aZ wZ => Fr 42 [(5, .int .i64 ((k : Nat) : Int)), (4, .int .i64 ((valN text k : Nat) : Int)), (0, .string text)] aZ ∧ Mv [] w [] wZ ∧ (k ≤ text.size) ∧ (∀ j, j < k → 48 ≤ byteAt text j ∧ byteAt text j ≤ 57)) (fun (k : Nat) => text.size - k) (0) ?_ ?_
   · exact ⟨F10.cut rfl, (Mv.refl (At.nil w)), by omega, all_none⟩
   · rintro k a11 w11 ⟨F11, S11, hk_0, hk_1⟩
     have hv10 := valN_le (s := text) (k := k) hk_1 (by omega)
     refine wp_seq (wp_seq (wp_region_lit (l_op (f_mv F11 rfl rfl rfl rfl rfl fun _ F12 => ?_))))
     refine l_op (f_mv F12 rfl rfl rfl rfl rfl fun _ F13 => ?_)
     refine l_op (f_val F13 rfl rfl (r_lenS (fun t ht => by cases ht; exact Tryz.underlying9) rfl rfl (F13.ev 10 rfl)) rfl fun _ F14 => ?_)
     refine l_op (f_val F14 rfl rfl (r_cmp (b := decide (k < text.size)) (.inr (.inr (.inl rfl))) rfl (F14.ev 9 rfl) (F14.ev 11 rfl) (dec_of (by omega))) rfl fun _ F15 => ?_)
     refine s_end (x_normal (x_cond (p := k < text.size) (F15.ev 12 rfl) (fun h16 => ?_) (fun h16 => ?_)))
     · skip
       refine wp_skip (x_normal (wp_seq (wp_block (wp_seq (wp_seq (wp_region_lit (l_op (f_mv F15 rfl rfl rfl rfl rfl fun _ F17 => ?_))))))))
       refine l_op (f_mv F17 rfl rfl rfl rfl rfl fun _ F18 => ?_)
       refine l_op (f_val F18 rfl rfl (r_indexS (i := k) Tryz.underlying9 rfl (F18.ev 15 rfl) (F18.ev 16 rfl) (by omega) (by first | assumption | omega)) rfl fun _ F19 => ?_)
       refine l_op (f_val F19 rfl rfl (r_cmp (b := decide (byteAt text k < 48)) (.inr (.inr (.inl rfl))) rfl (F19.ev 17 rfl) rfl (dec_of (by omega))) rfl fun _ F20 => ?_)
       refine l_op (f_mv F20 rfl rfl rfl rfl rfl fun _ F21 => ?_)
       rcases Decidable.em (byteAt text k < 48) with h22 | h22
       · rw [decide_eq_true h22] at F21
         refine l_op (f_skip F21 (wanted_g F21 rfl rfl rfl rfl) rfl rfl fun _ F23 => ?_)
         refine l_op (f_skip F23 (wanted_g F23 rfl rfl rfl rfl) rfl rfl fun _ F24 => ?_)
         refine l_op (f_skip F24 (wanted_g F24 rfl rfl rfl rfl) rfl rfl fun _ F25 => ?_)
         refine l_op (f_skip F25 (wanted_g F25 rfl rfl rfl rfl) rfl rfl fun _ F26 => ?_)
         refine l_op (f_val F26 rfl rfl (r_pick (b := true) rfl (F26.ev 19 rfl) rfl) rfl fun _ F27 => ?_)
         refine s_end (x_normal (wp_cond_true (F27.ev 24 rfl) (wp_seq (wp_region_lit (l_op (f_val F27 rfl rfl (r_assign rfl rfl) rfl fun _ F28 => ?_))))))
         refine l_op (f_val F28 rfl rfl (r_assign rfl rfl) rfl fun _ F29 => ?_)
         refine s_end (x_normal (wp_ret (x_then_ret (x_block_ret (x_then_ret (x_then_ret (x_block_ret (x_then_ret ?_))))))))
         refine x_done (v := .tuple #[.int .i64 0, .bool false]) F29 (results_2 Tryz.results134 (.tmp (F29.ev 2 rfl)) (.tmp (F29.ev 3 rfl))) ?_
         exact ⟨(by rw [(show 0 = ((readN text : Nat) : Int) from by first | exact rz (read_long ‹_›) | exact rzB (read_long ‹_›) | exact rz (read_fig (k := k) (by omega) (by omega)) | exact rzB (read_fig (k := k) (by omega) (by omega)) | exact rz (rs_a (k := k) ‹_› (by omega) ‹_›) | exact rzB (rs_a (k := k) ‹_› (by omega) ‹_›) | exact rz (rs_b (k := k) ‹_› (by omega) ‹_›) | exact rzB (rs_b (k := k) ‹_› (by omega) ‹_›) | exact castN (rs_c (k := k) ‹_› (by omega) ‹_› ‹_›).1 | exact (rs_c (k := k) ‹_› (by omega) ‹_› ‹_›).2.symm), (show false = (readB text) from by first | exact rz (read_long ‹_›) | exact rzB (read_long ‹_›) | exact rz (read_fig (k := k) (by omega) (by omega)) | exact rzB (read_fig (k := k) (by omega) (by omega)) | exact rz (rs_a (k := k) ‹_› (by omega) ‹_›) | exact rzB (rs_a (k := k) ‹_› (by omega) ‹_›) | exact rz (rs_b (k := k) ‹_› (by omega) ‹_›) | exact rzB (rs_b (k := k) ‹_› (by omega) ‹_›) | exact castN (rs_c (k := k) ‹_› (by omega) ‹_› ‹_›).1 | exact (rs_c (k := k) ‹_› (by omega) ‹_› ‹_›).2.symm)]), (Mv.pick S11 [] rfl)⟩
       · rw [decide_eq_false h22] at F21
         refine l_op (f_mv F21 (wanted_g F21 rfl rfl rfl rfl) rfl rfl rfl rfl fun _ F30 => ?_)
         refine l_op (f_mv F30 (wanted_g F30 rfl rfl rfl rfl) rfl rfl rfl rfl fun _ F31 => ?_)
         refine l_op (f_val F31 (wanted_g F31 rfl rfl rfl rfl) rfl (r_indexS (i := k) Tryz.underlying9 rfl (F31.ev 20 rfl) (F31.ev 21 rfl) (by omega) (by first | assumption | omega)) rfl fun _ F32 => ?_)
         refine l_op (f_val F32 (wanted_g F32 rfl rfl rfl rfl) rfl (r_cmp (b := decide (byteAt text k > 57)) (.inr (.inr (.inr (.inr (.inl rfl))))) rfl (F32.ev 22 rfl) rfl (dec_of (by omega))) rfl fun _ F33 => ?_)
         refine l_op (f_val F33 rfl rfl (r_pick (b := false) rfl (F33.ev 19 rfl) (F33.ev 23 rfl)) rfl fun _ F34 => ?_)
         refine s_end (x_normal (x_cond (p := byteAt text k > 57) (F34.ev 24 rfl) (fun h35 => ?_) (fun h35 => ?_)))
         · skip
           refine wp_seq (wp_region_lit (l_op (f_val F34 rfl rfl (r_assign rfl rfl) rfl fun _ F36 => ?_)))
           refine l_op (f_val F36 rfl rfl (r_assign rfl rfl) rfl fun _ F37 => ?_)
           refine s_end (x_normal (wp_ret (x_then_ret (x_block_ret (x_then_ret (x_then_ret (x_block_ret (x_then_ret ?_))))))))
           refine x_done (v := .tuple #[.int .i64 0, .bool false]) F37 (results_2 Tryz.results134 (.tmp (F37.ev 2 rfl)) (.tmp (F37.ev 3 rfl))) ?_
           exact ⟨(by rw [(show 0 = ((readN text : Nat) : Int) from by first | exact rz (read_long ‹_›) | exact rzB (read_long ‹_›) | exact rz (read_fig (k := k) (by omega) (by omega)) | exact rzB (read_fig (k := k) (by omega) (by omega)) | exact rz (rs_a (k := k) ‹_› (by omega) ‹_›) | exact rzB (rs_a (k := k) ‹_› (by omega) ‹_›) | exact rz (rs_b (k := k) ‹_› (by omega) ‹_›) | exact rzB (rs_b (k := k) ‹_› (by omega) ‹_›) | exact castN (rs_c (k := k) ‹_› (by omega) ‹_› ‹_›).1 | exact (rs_c (k := k) ‹_› (by omega) ‹_› ‹_›).2.symm), (show false = (readB text) from by first | exact rz (read_long ‹_›) | exact rzB (read_long ‹_›) | exact rz (read_fig (k := k) (by omega) (by omega)) | exact rzB (read_fig (k := k) (by omega) (by omega)) | exact rz (rs_a (k := k) ‹_› (by omega) ‹_›) | exact rzB (rs_a (k := k) ‹_› (by omega) ‹_›) | exact rz (rs_b (k := k) ‹_› (by omega) ‹_›) | exact rzB (rs_b (k := k) ‹_› (by omega) ‹_›) | exact castN (rs_c (k := k) ‹_› (by omega) ‹_› ‹_›).1 | exact (rs_c (k := k) ‹_› (by omega) ‹_› ‹_›).2.symm)]), (Mv.pick S11 [] rfl)⟩
         · skip
           refine wp_skip (x_normal ?_)
           have hvs := valN_succ text k
           have hv11 := byteAt_lt text k
           refine wp_region_lit (l_op (f_mv F34 rfl rfl rfl rfl rfl fun _ F38 => ?_))
           refine l_op (f_val F38 rfl rfl (r_mul (z := ((10 * (valN text k) : Nat) : Int)) rfl rfl (F38.ev 25 rfl) (by first | rfl | omega) ⟨by first | omega | (unfold i64ok at *; omega), by first | omega | (unfold i64ok at *; omega)⟩) rfl fun _ F39 => ?_)
           refine l_op (f_mv F39 rfl rfl rfl rfl rfl fun _ F40 => ?_)
           refine l_op (f_mv F40 rfl rfl rfl rfl rfl fun _ F41 => ?_)
           refine l_op (f_val F41 rfl rfl (r_indexS (i := k) Tryz.underlying9 rfl (F41.ev 27 rfl) (F41.ev 28 rfl) (by omega) (by first | assumption | omega)) rfl fun _ F42 => ?_)
           refine l_op (f_val F42 rfl rfl (r_convU8 Tryz.underlying3 Tryz.underlying5 rfl (F42.ev 29 rfl) ⟨by omega, by first | omega | (have := byteAt_lt text k; omega)⟩) rfl fun _ F43 => ?_)
           refine l_op (f_val F43 rfl rfl (r_add (z := (((10 * (valN text k)) + (byteAt text k) : Nat) : Int)) rfl (F43.ev 26 rfl) (F43.ev 30 rfl) (by first | rfl | omega) ⟨by first | omega | (unfold i64ok at *; omega), by first | omega | (unfold i64ok at *; omega)⟩) rfl fun _ F44 => ?_)
           refine l_op (f_val F44 rfl rfl (r_sub (z := ((valN text (k + 1) : Nat) : Int)) rfl (F44.ev 31 rfl) rfl (by first | rfl | omega) ⟨by first | omega | (unfold i64ok at *; omega), by first | omega | (unfold i64ok at *; omega)⟩) rfl fun _ F45 => ?_)
           refine l_op (f_as F45 rfl rfl rfl rfl rfl fun _ F46 => ?_)
           refine s_end (x_block_normal (x_normal (wp_region_lit (l_op (f_mv F46 rfl rfl rfl rfl rfl fun _ F47 => ?_)))))
           refine l_op (f_val F47 rfl rfl (r_add (z := ((k + 1 : Nat) : Int)) rfl (F47.ev 13 rfl) rfl (by first | rfl | omega) ⟨by first | omega | (unfold i64ok at *; omega), by first | omega | (unfold i64ok at *; omega)⟩) rfl fun _ F48 => ?_)
           refine l_op (f_as F48 rfl rfl rfl rfl rfl fun _ F49 => ?_)
           refine s_end ?_
           refine x_normal ⟨k + 1, by omega, F49.cut rfl, (S11.pick [] rfl), by omega, all_step hk_1 ⟨by omega, by omega⟩⟩
     · skip
       refine wp_exit (x_then_exit (x_then_exit (x_block_here (x_normal (wp_seq (wp_seq (wp_region_lit (l_op (f_mv F15 rfl rfl rfl rfl rfl fun _ F50 => ?_)))))))))
       refine l_op (f_val F50 rfl rfl (r_cmp (b := decide (valN text k > 1000000000)) (.inr (.inr (.inr (.inr (.inl rfl))))) rfl (F50.ev 33 rfl) rfl (dec_of (by omega))) rfl fun _ F51 => ?_)
       refine l_op (f_mv F51 rfl rfl rfl rfl rfl fun _ F52 => ?_)
       rcases Decidable.em (valN text k > 1000000000) with h53 | h53
       · rw [decide_eq_true h53] at F52
         refine l_op (f_skip F52 (wanted_g F52 rfl rfl rfl rfl) rfl rfl fun _ F54 => ?_)
         refine l_op (f_skip F54 (wanted_g F54 rfl rfl rfl rfl) rfl rfl fun _ F55 => ?_)
         refine l_op (f_skip F55 (wanted_g F55 rfl rfl rfl rfl) rfl rfl fun _ F56 => ?_)
         refine l_op (f_skip F56 (wanted_g F56 rfl rfl rfl rfl) rfl rfl fun _ F57 => ?_)
         refine l_op (f_val F57 rfl rfl (r_pick (b := true) rfl (F57.ev 35 rfl) rfl) rfl fun _ F58 => ?_)
         refine s_end (x_normal (wp_cond_true (F58.ev 40 rfl) (wp_seq (wp_region_lit (l_op (f_val F58 rfl rfl (r_assign rfl rfl) rfl fun _ F59 => ?_))))))
         refine l_op (f_val F59 rfl rfl (r_assign rfl rfl) rfl fun _ F60 => ?_)
         refine s_end (x_normal (wp_ret (x_then_ret ?_)))
         refine x_done (v := .tuple #[.int .i64 0, .bool false]) F60 (results_2 Tryz.results134 (.tmp (F60.ev 2 rfl)) (.tmp (F60.ev 3 rfl))) ?_
         exact ⟨(by rw [(show 0 = ((readN text : Nat) : Int) from by first | exact rz (read_long ‹_›) | exact rzB (read_long ‹_›) | exact rz (read_fig (k := k) (by omega) (by omega)) | exact rzB (read_fig (k := k) (by omega) (by omega)) | exact rz (rs_a (k := k) ‹_› (by omega) ‹_›) | exact rzB (rs_a (k := k) ‹_› (by omega) ‹_›) | exact rz (rs_b (k := k) ‹_› (by omega) ‹_›) | exact rzB (rs_b (k := k) ‹_› (by omega) ‹_›) | exact castN (rs_c (k := k) ‹_› (by omega) ‹_› ‹_›).1 | exact (rs_c (k := k) ‹_› (by omega) ‹_› ‹_›).2.symm), (show false = (readB text) from by first | exact rz (read_long ‹_›) | exact rzB (read_long ‹_›) | exact rz (read_fig (k := k) (by omega) (by omega)) | exact rzB (read_fig (k := k) (by omega) (by omega)) | exact rz (rs_a (k := k) ‹_› (by omega) ‹_›) | exact rzB (rs_a (k := k) ‹_› (by omega) ‹_›) | exact rz (rs_b (k := k) ‹_› (by omega) ‹_›) | exact rzB (rs_b (k := k) ‹_› (by omega) ‹_›) | exact castN (rs_c (k := k) ‹_› (by omega) ‹_› ‹_›).1 | exact (rs_c (k := k) ‹_› (by omega) ‹_› ‹_›).2.symm)]), (Mv.pick S11 [] rfl)⟩
       · rw [decide_eq_false h53] at F52
         refine l_op (f_mv F52 (wanted_g F52 rfl rfl rfl rfl) rfl rfl rfl rfl fun _ F61 => ?_)
         refine l_op (f_call F61 CF_144 (wanted_g F61 rfl rfl rfl rfl) rfl rfl rfl (lc (F61.ev 36 rfl) rfl) (spec_Decimal_c (H := fun _ => True) (n := ((valN text k : Nat) : Int)) (by first | assumption | exact ⟨by omega, by omega⟩ | (unfold i64ok at *; omega))) ?_)
         rintro _ w62 ⟨rfl, m62, Q1⟩
         refine ⟨_, rfl, fun _ F63 => ?_⟩
         have S62 := At.frame0 S11.at' m62
         clear m62
         refine l_op (f_mv F63 (wanted_g F63 rfl rfl rfl rfl) rfl rfl rfl rfl fun _ F64 => ?_)
         refine l_op (f_val F64 (wanted_g F64 rfl rfl rfl rfl) rfl (r_cmps (b := (decide ((decS ((valN text k : Nat) : Int)) ≠ text))) (.inr (.inl rfl)) rfl (F64.ev 37 rfl) (F64.ev 38 rfl) rfl) rfl fun _ F65 => ?_)
         refine l_op (f_val F65 rfl rfl (r_pick (b := false) rfl (F65.ev 35 rfl) (F65.ev 39 rfl)) rfl fun _ F66 => ?_)
         refine s_end (x_normal (x_cond (p := (decS ((valN text k : Nat) : Int)) ≠ text) (F66.ev 40 rfl) (fun h67 => ?_) (fun h67 => ?_)))
         · skip
           refine wp_seq (wp_region_lit (l_op (f_val F66 rfl rfl (r_assign rfl rfl) rfl fun _ F68 => ?_)))
           refine l_op (f_val F68 rfl rfl (r_assign rfl rfl) rfl fun _ F69 => ?_)
           refine s_end (x_normal (wp_ret (x_then_ret ?_)))
           refine x_done (v := .tuple #[.int .i64 0, .bool false]) F69 (results_2 Tryz.results134 (.tmp (F69.ev 2 rfl)) (.tmp (F69.ev 3 rfl))) ?_
           exact ⟨(by rw [(show 0 = ((readN text : Nat) : Int) from by first | exact rz (read_long ‹_›) | exact rzB (read_long ‹_›) | exact rz (read_fig (k := k) (by omega) (by omega)) | exact rzB (read_fig (k := k) (by omega) (by omega)) | exact rz (rs_a (k := k) ‹_› (by omega) ‹_›) | exact rzB (rs_a (k := k) ‹_› (by omega) ‹_›) | exact rz (rs_b (k := k) ‹_› (by omega) ‹_›) | exact rzB (rs_b (k := k) ‹_› (by omega) ‹_›) | exact castN (rs_c (k := k) ‹_› (by omega) ‹_› ‹_›).1 | exact (rs_c (k := k) ‹_› (by omega) ‹_› ‹_›).2.symm), (show false = (readB text) from by first | exact rz (read_long ‹_›) | exact rzB (read_long ‹_›) | exact rz (read_fig (k := k) (by omega) (by omega)) | exact rzB (read_fig (k := k) (by omega) (by omega)) | exact rz (rs_a (k := k) ‹_› (by omega) ‹_›) | exact rzB (rs_a (k := k) ‹_› (by omega) ‹_›) | exact rz (rs_b (k := k) ‹_› (by omega) ‹_›) | exact rzB (rs_b (k := k) ‹_› (by omega) ‹_›) | exact castN (rs_c (k := k) ‹_› (by omega) ‹_› ‹_›).1 | exact (rs_c (k := k) ‹_› (by omega) ‹_› ‹_›).2.symm)]), (Mv.pick (S11.trans S62) [] rfl)⟩
         · skip
           refine wp_skip (x_normal (wp_seq (wp_region_lit (l_op (f_mv F66 rfl rfl rfl rfl rfl fun _ F70 => ?_)))))
           refine l_op (f_as F70 rfl rfl rfl rfl rfl fun _ F71 => ?_)
           refine l_op (f_val F71 rfl rfl (r_assign rfl rfl) rfl fun _ F72 => ?_)
           refine s_end (x_normal (wp_ret ?_))
           refine x_done (v := .tuple #[.int .i64 ((valN text k : Nat) : Int), .bool true]) F72 (results_2 Tryz.results134 (.tmp (F72.ev 2 rfl)) (.tmp (F72.ev 3 rfl))) ?_
           exact ⟨(by rw [(show ((valN text k : Nat) : Int) = ((readN text : Nat) : Int) from by first | exact rz (read_long ‹_›) | exact rzB (read_long ‹_›) | exact rz (read_fig (k := k) (by omega) (by omega)) | exact rzB (read_fig (k := k) (by omega) (by omega)) | exact rz (rs_a (k := k) ‹_› (by omega) ‹_›) | exact rzB (rs_a (k := k) ‹_› (by omega) ‹_›) | exact rz (rs_b (k := k) ‹_› (by omega) ‹_›) | exact rzB (rs_b (k := k) ‹_› (by omega) ‹_›) | exact castN (rs_c (k := k) ‹_› (by omega) ‹_› ‹_›).1 | exact (rs_c (k := k) ‹_› (by omega) ‹_› ‹_›).2.symm), (show true = (readB text) from by first | exact rz (read_long ‹_›) | exact rzB (read_long ‹_›) | exact rz (read_fig (k := k) (by omega) (by omega)) | exact rzB (read_fig (k := k) (by omega) (by omega)) | exact rz (rs_a (k := k) ‹_› (by omega) ‹_›) | exact rzB (rs_a (k := k) ‹_› (by omega) ‹_›) | exact rz (rs_b (k := k) ‹_› (by omega) ‹_›) | exact rzB (rs_b (k := k) ‹_› (by omega) ‹_›) | exact castN (rs_c (k := k) ‹_› (by omega) ‹_› ‹_›).1 | exact (rs_c (k := k) ‹_› (by omega) ‹_› ‹_›).2.symm)]), (Mv.pick (S11.trans S62) [] rfl)⟩
end Go.Proofs.YtipdbeklopjbmaaGreatDoor
/-
  Walks: counters.
-/

namespace Go.Proofs.YtipdbeklopjbmaaGreatDoor
open Go.ChangeShapes Go.WideShapes Go.ChangeAt Go.RowKit
set_option maxRecDepth 100000
set_option maxHeartbeats 1000000
end Go.Proofs.YtipdbeklopjbmaaGreatDoor
/-
  Pipes; texts put out.
-/

namespace Go.Proofs.YtipdbeklopjbmaaGreatDoor
open Go.ChangeShapes Go.WideShapes Go.ChangeAt Go.RowKit
set_option maxRecDepth 100000
set_option maxHeartbeats 1000000


theorem noD_o : noD (⟨#[47, 111]⟩ : ByteArray) := noD_lit [47, 111] (by decide)
def isP (m : MachD) (id : Int) : Bool := decide (numK m (keyNum (⟨#[112, 47]⟩ : ByteArray) id (⟨#[47, 111]⟩ : ByteArray)) = 1)
def mpI (m : MachD) : Nat := if 8 ≤ numK m (⟨#[99, 47, 112, 105, 112, 101]⟩ : ByteArray) then 0 else bumpN (lookM m (⟨#[99, 47, 112, 105, 112, 101]⟩ : ByteArray)) (⟨#[99, 47, 112, 105, 112, 101]⟩ : ByteArray)
def mpM (m : MachD) : MachD := if 8 ≤ numK m (⟨#[99, 47, 112, 105, 112, 101]⟩ : ByteArray) then lookM m (⟨#[99, 47, 112, 105, 112, 101]⟩ : ByteArray) else setM (bumpM (lookM m (⟨#[99, 47, 112, 105, 112, 101]⟩ : ByteArray)) (⟨#[99, 47, 112, 105, 112, 101]⟩ : ByteArray)) (keyNum (⟨#[112, 47]⟩ : ByteArray) (bumpN (lookM m (⟨#[99, 47, 112, 105, 112, 101]⟩ : ByteArray)) (⟨#[99, 47, 112, 105, 112, 101]⟩ : ByteArray)) (⟨#[47, 111]⟩ : ByteArray)) 1
theorem bdC.mp {b : Nat} {m : MachD} (h : bdC b m) : bdC (b + 5) (mpM m) := by
  unfold mpM
  split
  · exact h.look.le (by omega)
  · exact h.look.bump.set.le (by omega)
def ppC (m : MachD) (id : Int) (text : ByteArray) : Int := if isP m id = false then 2 else if text.size > 20 then 4 else if ((numK m (keyNum (⟨#[112, 47]⟩ : ByteArray) id (⟨#[47, 116]⟩ : ByteArray)) : Nat) : Int) - ((numK m (keyNum (⟨#[112, 47]⟩ : ByteArray) id (⟨#[47, 104]⟩ : ByteArray)) : Nat) : Int) ≥ 4 then 5 else if numK m (keyNum (⟨#[112, 47]⟩ : ByteArray) id (⟨#[47, 116]⟩ : ByteArray)) ≥ 999 then 3 else 0
def ppM (m : MachD) (id : Int) (text : ByteArray) : MachD :=
  if isP m id = false then lookM m (keyNum (⟨#[112, 47]⟩ : ByteArray) id (⟨#[47, 111]⟩ : ByteArray)) else if text.size > 20 then lookM m (keyNum (⟨#[112, 47]⟩ : ByteArray) id (⟨#[47, 111]⟩ : ByteArray)) else if ((numK m (keyNum (⟨#[112, 47]⟩ : ByteArray) id (⟨#[47, 116]⟩ : ByteArray)) : Nat) : Int) - ((numK m (keyNum (⟨#[112, 47]⟩ : ByteArray) id (⟨#[47, 104]⟩ : ByteArray)) : Nat) : Int) ≥ 4 then lookM (lookM (lookM m (keyNum (⟨#[112, 47]⟩ : ByteArray) id (⟨#[47, 111]⟩ : ByteArray))) (keyNum (⟨#[112, 47]⟩ : ByteArray) id (⟨#[47, 116]⟩ : ByteArray))) (keyNum (⟨#[112, 47]⟩ : ByteArray) id (⟨#[47, 104]⟩ : ByteArray)) else if numK m (keyNum (⟨#[112, 47]⟩ : ByteArray) id (⟨#[47, 116]⟩ : ByteArray)) ≥ 999 then lookM (lookM (lookM m (keyNum (⟨#[112, 47]⟩ : ByteArray) id (⟨#[47, 111]⟩ : ByteArray))) (keyNum (⟨#[112, 47]⟩ : ByteArray) id (⟨#[47, 116]⟩ : ByteArray))) (keyNum (⟨#[112, 47]⟩ : ByteArray) id (⟨#[47, 104]⟩ : ByteArray))
  else layM (setM (lookM (lookM (lookM m (keyNum (⟨#[112, 47]⟩ : ByteArray) id (⟨#[47, 111]⟩ : ByteArray))) (keyNum (⟨#[112, 47]⟩ : ByteArray) id (⟨#[47, 116]⟩ : ByteArray))) (keyNum (⟨#[112, 47]⟩ : ByteArray) id (⟨#[47, 104]⟩ : ByteArray))) (keyNum (⟨#[112, 47]⟩ : ByteArray) id (⟨#[47, 116]⟩ : ByteArray)) ((numK m (keyNum (⟨#[112, 47]⟩ : ByteArray) id (⟨#[47, 116]⟩ : ByteArray)) + 1 : Nat) : Int)) (keyNum (keyNum (⟨#[112, 47]⟩ : ByteArray) id (⟨#[47, 113, 47]⟩ : ByteArray)) ((numK m (keyNum (⟨#[112, 47]⟩ : ByteArray) id (⟨#[47, 116]⟩ : ByteArray)) + 1 : Nat) : Int) (⟨#[]⟩ : ByteArray)) ((⟨#[45]⟩ : ByteArray) ++ hexS text)
theorem pp_2 {m : MachD} {id : Int} {text : ByteArray} (h : isP m id = true) (h2 : text.size > 20) : 4 = ppC m id text ∧ ppM m id text = lookM m (keyNum (⟨#[112, 47]⟩ : ByteArray) id (⟨#[47, 111]⟩ : ByteArray)) := by
  unfold ppC ppM
  simp only [h, if_pos h2, Bool.true_eq_false, if_false, and_self]
def pipes (k : Nat) (m : MachD) : Prop := numK m (⟨#[99, 47, 112, 105, 112, 101]⟩ : ByteArray) = k ∧ (∀ j : Nat, 1 ≤ j → j ≤ k → numK m (keyNum (⟨#[112, 47]⟩ : ByteArray) j (⟨#[47, 111]⟩ : ByteArray)) = 1) ∧ numK m (keyNum (⟨#[112, 47]⟩ : ByteArray) 9 (⟨#[47, 111]⟩ : ByteArray)) = 0 ∧ bdC (10 * k) m
theorem cpi_ne {n : Int} {t : ByteArray} : (⟨#[99, 47, 112, 105, 112, 101]⟩ : ByteArray) ≠ keyNum (⟨#[112, 47]⟩ : ByteArray) n t := key_other (by rw [byte_num (by decide)]; decide)
theorem pipes.step {k : Nat} {m : MachD} (h : pipes k m) (hk : k < 8) : mpI m = k + 1 ∧ pipes (k + 1) (mpM m) := by
  obtain ⟨h1, h2, h9, h3⟩ := h
  have hl : numK (lookM m (⟨#[99, 47, 112, 105, 112, 101]⟩ : ByteArray)) (⟨#[99, 47, 112, 105, 112, 101]⟩ : ByteArray) = k := h1
  have hb : bumpN (lookM m (⟨#[99, 47, 112, 105, 112, 101]⟩ : ByteArray)) (⟨#[99, 47, 112, 105, 112, 101]⟩ : ByteArray) = k + 1 := by rw [bumpN_lt (by omega), hl]
  refine ⟨by unfold mpI; rw [if_neg (by omega), hb], ?_, ?_, ?_, h3.mp.le (by omega)⟩
  · unfold mpM
    rw [if_neg (by omega), numK_ne cpi_ne, numK_bump (by decide) (by omega), hl]
  · intro j h4 h5
    unfold mpM
    rw [if_neg (by omega), hb]
    rcases Decidable.em (j = k + 1) with e | e
    · subst e
      exact numK_set (n := 1) (key_ok (by omega) (by decide) (by decide) (by decide) (by decide)) (by decide)
    · rw [numK_ne (keyNum_ne (by omega) (by omega) noD_o noD_o (.inl e)), numK_bumpNe (Ne.symm cpi_ne)]
      exact h2 j h4 (by omega)
  · unfold mpM
    have hne : (keyNum (⟨#[112, 47]⟩ : ByteArray) 9 (⟨#[47, 111]⟩ : ByteArray)) ≠ (keyNum (⟨#[112, 47]⟩ : ByteArray) ((k + 1 : Nat) : Int) (⟨#[47, 111]⟩ : ByteArray)) := keyNum_ne (n := 9) (by omega) (by omega) noD_o noD_o (.inl (by omega))
    rw [if_neg (by omega), hb, numK_ne hne, numK_bumpNe (Ne.symm cpi_ne)]
    exact h9
theorem pipes.is {m : MachD} (h : pipes 8 m) {r : Nat} (hr : r < 8) : isP m ((1 + r : Nat) : Int) = true := decide_eq_true (h.2.1 (1 + r) (by omega) (by omega))
theorem pipes.bad {m : MachD} (h : pipes 8 m) {r : Nat} (hr : r < 8) {t : ByteArray} (ht : t.size = 21) : ppC m ((1 + r : Nat) : Int) t = 4 := (pp_2 (h.is hr) (by omega)).1.symm
def poC (m : MachD) (text : ByteArray) : Int := if inB (text.size : Int) 1 20 then (if numK m (⟨#[100, 47, 110]⟩ : ByteArray) ≥ 40 then 3 else 0) else 4
def poM (m : MachD) (text : ByteArray) : MachD := if inB (text.size : Int) 1 20 then (if numK m (⟨#[100, 47, 110]⟩ : ByteArray) ≥ 40 then lookM m (⟨#[100, 47, 110]⟩ : ByteArray) else layM (setM (lookM m (⟨#[100, 47, 110]⟩ : ByteArray)) (⟨#[100, 47, 110]⟩ : ByteArray) ((numK m (⟨#[100, 47, 110]⟩ : ByteArray) + 1 : Nat) : Int)) (keyNum (⟨#[100, 47]⟩ : ByteArray) ((numK m (⟨#[100, 47, 110]⟩ : ByteArray) + 1 : Nat) : Int) (⟨#[]⟩ : ByteArray)) ((⟨#[45]⟩ : ByteArray) ++ hexS text)) else m
theorem po_3 {m : MachD} {text : ByteArray} (h : inB (text.size : Int) 1 20 = true) (h2 : ¬ numOf (getKey m.store (⟨#[100, 47, 110]⟩ : ByteArray)) ≥ 40) : 0 = poC m text ∧ poM m text = layM (setM (lookM m (⟨#[100, 47, 110]⟩ : ByteArray)) (⟨#[100, 47, 110]⟩ : ByteArray) ((numOf (getKey m.store (⟨#[100, 47, 110]⟩ : ByteArray)) + 1 : Nat) : Int)) (keyNum (⟨#[100, 47]⟩ : ByteArray) ((numOf (getKey m.store (⟨#[100, 47, 110]⟩ : ByteArray)) + 1 : Nat) : Int) (⟨#[]⟩ : ByteArray)) ((⟨#[45]⟩ : ByteArray) ++ hexS text) := by
  unfold poC poM numK
  rw [if_pos h, if_neg h2, if_pos h, if_neg h2]
  exact ⟨rfl, rfl⟩
theorem bdC.po {b : Nat} {m : MachD} {text : ByteArray} (h : bdC b m) : bdC (b + 4) (poM m text) := by
  unfold poM
  split
  · split
    · exact h.look.le (by omega)
    · exact h.look.set.lay.le (by omega)
  · exact h.le (by omega)
def outT (j : Nat) : ByteArray := (⟨#[120]⟩ : ByteArray) ++ decS j
def outs (k : Nat) (m : MachD) : Prop := numK m (⟨#[100, 47, 110]⟩ : ByteArray) = k ∧ (∀ j : Nat, j < k → getKey m.store (keyNum (⟨#[100, 47]⟩ : ByteArray) ((j + 1 : Nat) : Int) (⟨#[]⟩ : ByteArray)) = (⟨#[45]⟩ : ByteArray) ++ hexS (outT j)) ∧ bdC (10 * k) m
theorem outT_size {j : Nat} (h : j ≤ 999) : 1 ≤ (outT j).size ∧ (outT j).size ≤ 4 := by
  have := decS_small h
  unfold outT
  rw [ByteArray.size_append]
  have e : (⟨#[120]⟩ : ByteArray).size = 1 := rfl
  omega
theorem dn_ne {n : Nat} (hn : n ≤ 999) : (⟨#[100, 47, 110]⟩ : ByteArray) ≠ keyNum (⟨#[100, 47]⟩ : ByteArray) n (⟨#[]⟩ : ByteArray) := fun e => by
  have h1 : (decS n).data.toList.head? = some 110 := by
    have h2 : (keyNum (⟨#[100, 47]⟩ : ByteArray) n (⟨#[]⟩ : ByteArray)).data.toList = 100 :: 47 :: (decS n).data.toList := by
      unfold keyNum
      rw [toList_append, toList_append]
      simp
    rw [← e] at h2
    have h3 : ((⟨#[100, 47, 110]⟩ : ByteArray)).data.toList = [100, 47, 110] := rfl
    rw [h3] at h2
    injection h2 with _ h2
    injection h2 with _ h2
    rw [← h2]; rfl
  rw [decS_toList] at h1
  have := dec_all n 110 (List.mem_of_mem_head? h1)
  unfold isD at this
  revert this; decide
theorem outs.step {k : Nat} {m : MachD} (h : outs k m) (hk : k < 40) : poC m (outT k) = 0 ∧ outs (k + 1) (poM m (outT k)) := by
  obtain ⟨h1, h2, h3⟩ := h
  have ht := outT_size (j := k) (by omega)
  have hb : inB ((outT k).size : Int) 1 20 = true := decide_eq_true (by omega)
  have h4 : ¬ numOf (getKey m.store (⟨#[100, 47, 110]⟩ : ByteArray)) ≥ 40 := by show ¬ numK m _ ≥ 40; omega
  have h5 := po_3 hb h4
  have h6 : numOf (getKey m.store (⟨#[100, 47, 110]⟩ : ByteArray)) = k := h1
  rw [h6] at h5
  refine ⟨h5.1.symm, ?_, ?_, h3.po.le (by omega)⟩
  · rw [h5.2, numK_lay (dn_ne (by omega)), numK_set (by decide) (by omega)]
  · intro j hj
    rw [h5.2]
    rcases Decidable.em (j = k) with e | e
    · subst e
      refine getKey_laySame (key_ok (by omega) (by decide) (by decide) (by decide) (by decide)) ?_
      rw [ByteArray.size_append, hexS_size]
      have e1 : (⟨#[45]⟩ : ByteArray).size = 1 := rfl
      omega
    · rw [getKey_lay (keyNum_ne (by omega) (by omega) noD_nil noD_nil (.inl (by omega))), getKey_set (Ne.symm (dn_ne (by omega)))]
      exact h2 j (by omega)
def outN (s : List CellD) : Nat := min (numOf (getKey s (⟨#[100, 47, 110]⟩ : ByteArray))) 40
def outL (s : List CellD) (n : Nat) : List ByteArray := (List.range n).map fun j : Nat => msgOf (getKey s (keyNum (⟨#[100, 47]⟩ : ByteArray) ((j + 1 : Nat) : Int) (⟨#[]⟩ : ByteArray)))
theorem outs.list {m : MachD} (h : outs 40 m) : outN m.store = 40 ∧ ∀ j, j < 40 → nth (outL m.store 40) j = some (outT j) := by
  have h1 : numOf (getKey m.store (⟨#[100, 47, 110]⟩ : ByteArray)) = 40 := h.1
  refine ⟨by unfold outN; rw [h1]; rfl, fun j hj => ?_⟩
  unfold outL
  rw [nth_eq, List.getElem?_map, List.getElem?_range hj]
  show some (msgOf (getKey m.store (keyNum (⟨#[100, 47]⟩ : ByteArray) ((j + 1 : Nat) : Int) (⟨#[]⟩ : ByteArray)))) = _
  rw [h.2.1 j hj, msgOf_hex (by have := outT_size (j := j) (by omega); omega)]
theorem outs.elem {m : MachD} (h : outs 40 m) {r : Nat} {x : ByteArray} (hx : nth (outL m.store (outN m.store)) r = some x) (hr : r < 40) : x = (⟨#[120]⟩ : ByteArray) ++ decS ((r : Nat) : Int) := by
  have h1 := h.list
  rw [h1.1, h1.2 r hr] at hx
  exact (Option.some.inj hx).symm
end Go.Proofs.YtipdbeklopjbmaaGreatDoor
/-
  Walks: texts are put out.
-/

namespace Go.Proofs.YtipdbeklopjbmaaGreatDoor
open Go.ChangeShapes Go.WideShapes Go.ChangeAt Go.RowKit
set_option maxRecDepth 100000
set_option maxHeartbeats 1000000
end Go.Proofs.YtipdbeklopjbmaaGreatDoor
/-
  Walks: the texts put out are told.
-/

namespace Go.Proofs.YtipdbeklopjbmaaGreatDoor
open Go.ChangeShapes Go.WideShapes Go.ChangeAt Go.RowKit
set_option maxRecDepth 100000
set_option maxHeartbeats 1000000
end Go.Proofs.YtipdbeklopjbmaaGreatDoor
/-
  Walks: room in a journal, live transactions.
-/

namespace Go.Proofs.YtipdbeklopjbmaaGreatDoor
open Go.ChangeShapes Go.WideShapes Go.ChangeAt Go.RowKit
set_option maxRecDepth 100000
set_option maxHeartbeats 1000000
theorem impl_JournalOk_c {w : World} {H : Nat → Prop} {j : JouD} (Q1 : okS j.text) (Q0 : i64ok j.sure) :
    Calls Tryz.prog 81 #[.agg #[.string j.text, .int .i64 j.sure]] w fun e w' => e = .returned (.bool (jouOk j)) ∧ Mv [] w [] w' := by
 have uU : True := (fun _ _ => trivial) H Q0
 clear uU
 have z1 := Q1
 unfold okS at z1
 refine calls_enter 15 Tryz.func81 rfl Tryz.ntmps81 (Nat.le_of_ble_eq_true rfl) (fun _ F0i => ?_)
 have F0 : Fr 15 [(0, .agg #[.string j.text, .int .i64 j.sure])] _ := F0i
 clear F0i
 refine wp_seq (wp_region_lit (l_op (f_box F0 (At.nil w) rfl rfl rfl (F0.ev 0 rfl) rfl rfl fun b1 _ w1 F2 S1 => ?_)))
 refine l_op (f_val F2 rfl rfl (r_assign rfl rfl) rfl fun _ F3 => ?_)
 refine s_end (x_normal (wp_seq (wp_region_lit (l_op (f_val F3 rfl rfl (r_field FI_32_0 rfl (F3.ev 1 rfl) rfl) rfl fun _ F4 => ?_)))))
 refine l_op (f_val (v := .string j.text) F4 rfl rfl (r_loadB S1.at' 0 TI_9 rfl rfl (F4.ev 3 rfl) rfl rfl (fun _ => rfl) rfl) rfl fun _ F5 => ?_)
 refine l_op (f_val F5 rfl rfl (r_lenS (fun t ht => by cases ht; exact Tryz.underlying9) rfl rfl (F5.ev 4 rfl)) rfl fun _ F6 => ?_)
 refine l_op (f_val F6 rfl rfl (r_cmp (b := decide (j.text.size ≤ 20000)) (.inr (.inr (.inr (.inl rfl)))) rfl (F6.ev 5 rfl) rfl (dec_of (by omega))) rfl fun _ F7 => ?_)
 refine l_op (f_mv F7 rfl rfl rfl rfl rfl fun _ F8 => ?_)
 rcases Decidable.em (j.text.size ≤ 20000) with h9 | h9
 · rw [decide_eq_true h9] at F8
   refine l_op (f_val F8 (wanted_g F8 rfl rfl rfl rfl) rfl (r_field FI_32_1 rfl (F8.ev 1 rfl) rfl) rfl fun _ F10 => ?_)
   refine l_op (f_val (v := .int .i64 j.sure) F10 (wanted_g F10 rfl rfl rfl rfl) rfl (r_loadB S1.at' 0 TI_3 rfl rfl (F10.ev 8 rfl) rfl rfl (fun _ => rfl) rfl) rfl fun _ F11 => ?_)
   refine l_op (f_val F11 (wanted_g F11 rfl rfl rfl rfl) rfl (r_field FI_32_0 rfl (F11.ev 1 rfl) rfl) rfl fun _ F12 => ?_)
   refine l_op (f_val (v := .string j.text) F12 (wanted_g F12 rfl rfl rfl rfl) rfl (r_loadB S1.at' 0 TI_9 rfl rfl (F12.ev 10 rfl) rfl rfl (fun _ => rfl) rfl) rfl fun _ F13 => ?_)
   refine l_op (f_val F13 (wanted_g F13 rfl rfl rfl rfl) rfl (r_lenS (fun t ht => by cases ht; exact Tryz.underlying9) rfl rfl (F13.ev 11 rfl)) rfl fun _ F14 => ?_)
   refine l_op (f_call F14 CF_93 (wanted_g F14 rfl rfl rfl rfl) rfl rfl rfl (lc (F14.ev 9 rfl) (lc rfl (lc (F14.ev 12 rfl) rfl))) (impl_within_c (H := fun _ => True) (n := j.sure) (low := 0) (high := ((j.text.size : Nat) : Int)) (by first | assumption | exact ⟨by omega, by omega⟩ | (unfold i64ok at *; omega)) (by first | assumption | exact ⟨by omega, by omega⟩ | (unfold i64ok at *; omega)) (by first | assumption | exact ⟨by omega, by omega⟩ | (unfold i64ok at *; omega))) ?_)
   rintro _ w15 ⟨rfl, m15⟩
   refine ⟨_, rfl, fun _ F16 => ?_⟩
   have S15 := At.frame0 S1.at' m15
   clear m15
   refine l_op (f_val F16 rfl rfl (r_pick (b := true) rfl (F16.ev 7 rfl) (F16.ev 13 rfl)) rfl fun _ F17 => ?_)
   refine l_op (f_as F17 rfl rfl rfl rfl rfl fun _ F18 => ?_)
   refine s_end (x_normal (wp_ret ?_))
   refine x_done (v := .bool (inB j.sure 0 ((j.text.size : Nat) : Int))) F18 (results_1 Tryz.results81 (.tmp (F18.ev 2 rfl))) ?_
   exact ⟨(by rw [(show (inB j.sure 0 ((j.text.size : Nat) : Int)) = (jouOk j) from by first | exact jo_t ‹_› | exact jo_f ‹_›)]), (Mv.pick (S1.trans S15) [] rfl)⟩
 · rw [decide_eq_false h9] at F8
   refine l_op (f_skip F8 (wanted_g F8 rfl rfl rfl rfl) rfl rfl fun _ F19 => ?_)
   refine l_op (f_skip F19 (wanted_g F19 rfl rfl rfl rfl) rfl rfl fun _ F20 => ?_)
   refine l_op (f_skip F20 (wanted_g F20 rfl rfl rfl rfl) rfl rfl fun _ F21 => ?_)
   refine l_op (f_skip F21 (wanted_g F21 rfl rfl rfl rfl) rfl rfl fun _ F22 => ?_)
   refine l_op (f_skip F22 (wanted_g F22 rfl rfl rfl rfl) rfl rfl fun _ F23 => ?_)
   refine l_op (f_skip F23 (wanted_g F23 rfl rfl rfl rfl) rfl rfl fun _ F24 => ?_)
   refine l_op (f_val F24 rfl rfl (r_pick (b := false) rfl (F24.ev 7 rfl) rfl) rfl fun _ F25 => ?_)
   refine l_op (f_as F25 rfl rfl rfl rfl rfl fun _ F26 => ?_)
   refine s_end (x_normal (wp_ret ?_))
   refine x_done (v := .bool false) F26 (results_1 Tryz.results81 (.tmp (F26.ev 2 rfl))) ?_
   exact ⟨(by rw [(show false = (jouOk j) from by first | exact jo_t ‹_› | exact jo_f ‹_›)]), (Mv.pick S1 [] rfl)⟩
theorem spec_JournalOk_c {w : World} {H : Nat → Prop} {j : JouD} (Q1 : okS j.text) (Q0 : i64ok j.sure) :
    Calls Tryz.prog 82 #[.agg #[.string j.text, .int .i64 j.sure]] w fun e w' => e = .returned (.bool (jouOk j)) ∧ Mv [] w [] w' := by
 have uU : True := (fun _ _ => trivial) H Q0
 clear uU
 have z1 := Q1
 unfold okS at z1
 refine calls_enter 15 Tryz.func82 rfl Tryz.ntmps82 (Nat.le_of_ble_eq_true rfl) (fun _ F0i => ?_)
 have F0 : Fr 15 [(0, .agg #[.string j.text, .int .i64 j.sure])] _ := F0i
 clear F0i
 refine wp_seq (wp_region_lit (l_op (f_box F0 (At.nil w) rfl rfl rfl (F0.ev 0 rfl) rfl rfl fun b1 _ w1 F2 S1 => ?_)))
 refine l_op (f_val F2 rfl rfl (r_assign rfl rfl) rfl fun _ F3 => ?_)
 refine s_end (x_normal (wp_seq (wp_region_lit (l_op (f_val F3 rfl rfl (r_field FI_32_0 rfl (F3.ev 1 rfl) rfl) rfl fun _ F4 => ?_)))))
 refine l_op (f_val (v := .string j.text) F4 rfl rfl (r_loadB S1.at' 0 TI_9 rfl rfl (F4.ev 3 rfl) rfl rfl (fun _ => rfl) rfl) rfl fun _ F5 => ?_)
 refine l_op (f_val F5 rfl rfl (r_lenS (fun t ht => by cases ht; exact Tryz.underlying9) rfl rfl (F5.ev 4 rfl)) rfl fun _ F6 => ?_)
 refine l_op (f_val F6 rfl rfl (r_cmp (b := decide (j.text.size ≤ 20000)) (.inr (.inr (.inr (.inl rfl)))) rfl (F6.ev 5 rfl) rfl (dec_of (by omega))) rfl fun _ F7 => ?_)
 refine l_op (f_mv F7 rfl rfl rfl rfl rfl fun _ F8 => ?_)
 rcases Decidable.em (j.text.size ≤ 20000) with h9 | h9
 · rw [decide_eq_true h9] at F8
   refine l_op (f_val F8 (wanted_g F8 rfl rfl rfl rfl) rfl (r_field FI_32_1 rfl (F8.ev 1 rfl) rfl) rfl fun _ F10 => ?_)
   refine l_op (f_val (v := .int .i64 j.sure) F10 (wanted_g F10 rfl rfl rfl rfl) rfl (r_loadB S1.at' 0 TI_3 rfl rfl (F10.ev 8 rfl) rfl rfl (fun _ => rfl) rfl) rfl fun _ F11 => ?_)
   refine l_op (f_val F11 (wanted_g F11 rfl rfl rfl rfl) rfl (r_field FI_32_0 rfl (F11.ev 1 rfl) rfl) rfl fun _ F12 => ?_)
   refine l_op (f_val (v := .string j.text) F12 (wanted_g F12 rfl rfl rfl rfl) rfl (r_loadB S1.at' 0 TI_9 rfl rfl (F12.ev 10 rfl) rfl rfl (fun _ => rfl) rfl) rfl fun _ F13 => ?_)
   refine l_op (f_val F13 (wanted_g F13 rfl rfl rfl rfl) rfl (r_lenS (fun t ht => by cases ht; exact Tryz.underlying9) rfl rfl (F13.ev 11 rfl)) rfl fun _ F14 => ?_)
   refine l_op (f_call F14 CF_87 (wanted_g F14 rfl rfl rfl rfl) rfl rfl rfl (lc (F14.ev 9 rfl) (lc rfl (lc (F14.ev 12 rfl) rfl))) (spec_l01In_c (H := fun _ => True) (x := j.sure) (least := 0) (most := ((j.text.size : Nat) : Int)) (by first | assumption | exact ⟨by omega, by omega⟩ | (unfold i64ok at *; omega)) (by first | assumption | exact ⟨by omega, by omega⟩ | (unfold i64ok at *; omega)) (by first | assumption | exact ⟨by omega, by omega⟩ | (unfold i64ok at *; omega))) ?_)
   rintro _ w15 ⟨rfl, m15⟩
   refine ⟨_, rfl, fun _ F16 => ?_⟩
   have S15 := At.frame0 S1.at' m15
   clear m15
   refine l_op (f_val F16 rfl rfl (r_pick (b := true) rfl (F16.ev 7 rfl) (F16.ev 13 rfl)) rfl fun _ F17 => ?_)
   refine l_op (f_as F17 rfl rfl rfl rfl rfl fun _ F18 => ?_)
   refine s_end (x_normal (wp_ret ?_))
   refine x_done (v := .bool (inB j.sure 0 ((j.text.size : Nat) : Int))) F18 (results_1 Tryz.results82 (.tmp (F18.ev 2 rfl))) ?_
   exact ⟨(by rw [(show (inB j.sure 0 ((j.text.size : Nat) : Int)) = (jouOk j) from by first | exact jo_t ‹_› | exact jo_f ‹_›)]), (Mv.pick (S1.trans S15) [] rfl)⟩
 · rw [decide_eq_false h9] at F8
   refine l_op (f_skip F8 (wanted_g F8 rfl rfl rfl rfl) rfl rfl fun _ F19 => ?_)
   refine l_op (f_skip F19 (wanted_g F19 rfl rfl rfl rfl) rfl rfl fun _ F20 => ?_)
   refine l_op (f_skip F20 (wanted_g F20 rfl rfl rfl rfl) rfl rfl fun _ F21 => ?_)
   refine l_op (f_skip F21 (wanted_g F21 rfl rfl rfl rfl) rfl rfl fun _ F22 => ?_)
   refine l_op (f_skip F22 (wanted_g F22 rfl rfl rfl rfl) rfl rfl fun _ F23 => ?_)
   refine l_op (f_skip F23 (wanted_g F23 rfl rfl rfl rfl) rfl rfl fun _ F24 => ?_)
   refine l_op (f_val F24 rfl rfl (r_pick (b := false) rfl (F24.ev 7 rfl) rfl) rfl fun _ F25 => ?_)
   refine l_op (f_as F25 rfl rfl rfl rfl rfl fun _ F26 => ?_)
   refine s_end (x_normal (wp_ret ?_))
   refine x_done (v := .bool false) F26 (results_1 Tryz.results82 (.tmp (F26.ev 2 rfl))) ?_
   exact ⟨(by rw [(show false = (jouOk j) from by first | exact jo_t ‹_› | exact jo_f ‹_›)]), (Mv.pick S1 [] rfl)⟩
end Go.Proofs.YtipdbeklopjbmaaGreatDoor
