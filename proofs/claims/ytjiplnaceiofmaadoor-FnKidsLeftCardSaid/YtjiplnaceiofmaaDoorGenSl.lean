/-
  Walks: children.
-/
import Derived.Test.YtjiplnaceiofmaaDoorGenSb
import Derived.Test.YtjiplnaceiofmaaDoorDatVg
import Derived.Test.YtjiplnaceiofmaaDoorGenH
namespace Go.Proofs.YtjiplnaceiofmaaDoor
open Go.ChangeShapes Go.WideShapes Go.ChangeAt Go.RowKit
set_option maxRecDepth 100000
set_option maxHeartbeats 1000000
theorem internal_stringslite_HasSuffix_c {w : World} {H : Nat → Prop} {s : ByteArray} {suffix : ByteArray} (h_s : okS s) (h_suffix : okS suffix) :
    Calls Tryd.prog 164 #[.string s, .string suffix] w fun e w' => e = .returned (.bool (hasSuf s suffix)) ∧ Mv [] w [] w' := by
 have uU : True := (fun _ _ => trivial) H h_suffix
 clear uU
 have kz := h_s
 unfold okS at kz
 refine calls_enter 21 Tryd.func164 rfl Tryd.ntmps164 (Nat.le_of_ble_eq_true rfl) (fun _ F0i => ?_)
 have F0 : Fr 21 [(0, .string s), (1, .string suffix)] _ := F0i
 clear F0i
 refine wp_seq (wp_region_lit (l_op (f_val F0 rfl rfl (r_assign rfl rfl) rfl fun _ F1 => ?_)))
 have F2 : Fr 21 [(4, .bool false), (0, .string s), (1, .string suffix)] _ := F1.cut rfl
 clear F0 F1
 refine s_end (x_normal (wp_seq (wp_region_lit (l_op (f_mv F2 rfl rfl rfl rfl rfl fun _ F3 => ?_)))))
 refine l_op (f_val F3 rfl rfl (r_lenS (fun t ht => by cases ht; exact Tryd.underlying9) rfl rfl (F3.ev 5 rfl)) rfl fun _ F4 => ?_)
 refine l_op (f_mv F4 rfl rfl rfl rfl rfl fun _ F5 => ?_)
 refine l_op (f_val F5 rfl rfl (r_lenS (fun t ht => by cases ht; exact Tryd.underlying9) rfl rfl (F5.ev 7 rfl)) rfl fun _ F6 => ?_)
 refine l_op (f_val F6 rfl rfl (r_cmp (b := decide (s.size ≥ suffix.size)) (.inr (.inr (.inr (.inr (.inr rfl))))) rfl (F6.ev 6 rfl) (F6.ev 8 rfl) (dec_of (by omega))) rfl fun _ F7 => ?_)
 refine l_op (f_mv F7 rfl rfl rfl rfl rfl fun _ F8 => ?_)
 rcases Decidable.em (s.size ≥ suffix.size) with h9 | h9
 · rw [decide_eq_true h9] at F8
   refine l_op (f_mv F8 (wanted_g F8 rfl rfl rfl rfl) rfl rfl rfl rfl fun _ F10 => ?_)
   refine l_op (f_mv F10 (wanted_g F10 rfl rfl rfl rfl) rfl rfl rfl rfl fun _ F11 => ?_)
   refine l_op (f_val F11 (wanted_g F11 rfl rfl rfl rfl) rfl (r_lenS (fun t ht => by cases ht; exact Tryd.underlying9) rfl rfl (F11.ev 12 rfl)) rfl fun _ F12 => ?_)
   refine l_op (f_mv F12 (wanted_g F12 rfl rfl rfl rfl) rfl rfl rfl rfl fun _ F13 => ?_)
   refine l_op (f_val F13 (wanted_g F13 rfl rfl rfl rfl) rfl (r_lenS (fun t ht => by cases ht; exact Tryd.underlying9) rfl rfl (F13.ev 14 rfl)) rfl fun _ F14 => ?_)
   refine l_op (f_val F14 (wanted_g F14 rfl rfl rfl rfl) rfl (r_sub (z := ((s.size - suffix.size : Nat) : Int)) rfl (F14.ev 13 rfl) (F14.ev 15 rfl) (by first | rfl | omega) ⟨by first | omega | (unfold i64ok at *; omega), by first | omega | (unfold i64ok at *; omega)⟩) rfl fun _ F15 => ?_)
   refine l_op (f_val F15 (wanted_g F15 rfl rfl rfl rfl) rfl (r_sliceS (l := s.size - suffix.size) (h := s.size) Tryd.underlying9 rfl (F15.ev 11 rfl) (F15.ev 16 rfl) rfl (by first | assumption | omega) (by first | assumption | omega) rfl) rfl fun _ F16 => ?_)
   refine l_op (f_mv F16 (wanted_g F16 rfl rfl rfl rfl) rfl rfl rfl rfl fun _ F17 => ?_)
   refine l_op (f_val F17 (wanted_g F17 rfl rfl rfl rfl) rfl (r_cmps (b := (decide ((s.extract (s.size - suffix.size) s.size) = suffix))) (.inl rfl) rfl (F17.ev 17 rfl) (F17.ev 18 rfl) rfl) rfl fun _ F18 => ?_)
   refine l_op (f_val F18 rfl rfl (r_pick (b := true) rfl (F18.ev 10 rfl) (F18.ev 19 rfl)) rfl fun _ F19 => ?_)
   refine l_op (f_as F19 rfl rfl rfl rfl rfl fun _ F20 => ?_)
   have F21 : Fr 21 [(4, .bool (decide ((s.extract (s.size - suffix.size) s.size) = suffix)))] _ := F20.cut rfl
   clear F2 F3 F4 F5 F6 F7 F8 F10 F11 F12 F13 F14 F15 F16 F17 F18 F19 F20
   refine s_end (x_normal (wp_ret ?_))
   refine x_done (v := .bool (decide ((s.extract (s.size - suffix.size) s.size) = suffix))) F21 (results_1 Tryd.results164 (.tmp (F21.ev 4 rfl))) ?_
   exact ⟨(by rw [(show (decide ((s.extract (s.size - suffix.size) s.size) = suffix)) = (hasSuf s suffix) from by unfold hasSuf; by_cases hb : suffix.size ≤ s.size <;> simp_all <;> omega)]), (Mv.pick (Mv.refl (At.nil w)) [] rfl)⟩
 · rw [decide_eq_false h9] at F8
   refine l_op (f_skip F8 (wanted_g F8 rfl rfl rfl rfl) rfl rfl fun _ F22 => ?_)
   refine l_op (f_skip F22 (wanted_g F22 rfl rfl rfl rfl) rfl rfl fun _ F23 => ?_)
   refine l_op (f_skip F23 (wanted_g F23 rfl rfl rfl rfl) rfl rfl fun _ F24 => ?_)
   refine l_op (f_skip F24 (wanted_g F24 rfl rfl rfl rfl) rfl rfl fun _ F25 => ?_)
   refine l_op (f_skip F25 (wanted_g F25 rfl rfl rfl rfl) rfl rfl fun _ F26 => ?_)
   refine l_op (f_skip F26 (wanted_g F26 rfl rfl rfl rfl) rfl rfl fun _ F27 => ?_)
   refine l_op (f_skip F27 (wanted_g F27 rfl rfl rfl rfl) rfl rfl fun _ F28 => ?_)
   refine l_op (f_skip F28 (wanted_g F28 rfl rfl rfl rfl) rfl rfl fun _ F29 => ?_)
   refine l_op (f_skip F29 (wanted_g F29 rfl rfl rfl rfl) rfl rfl fun _ F30 => ?_)
   refine l_op (f_val F30 rfl rfl (r_pick (b := false) rfl (F30.ev 10 rfl) rfl) rfl fun _ F31 => ?_)
   refine l_op (f_as F31 rfl rfl rfl rfl rfl fun _ F32 => ?_)
   have F33 : Fr 21 [(4, .bool false)] _ := F32.cut rfl
   clear F2 F3 F4 F5 F6 F7 F8 F22 F23 F24 F25 F26 F27 F28 F29 F30 F31 F32
   refine s_end (x_normal (wp_ret ?_))
   refine x_done (v := .bool false) F33 (results_1 Tryd.results164 (.tmp (F33.ev 4 rfl))) ?_
   exact ⟨(by rw [(show false = (hasSuf s suffix) from by unfold hasSuf; by_cases hb : suffix.size ≤ s.size <;> simp_all <;> omega)]), (Mv.pick (Mv.refl (At.nil w)) [] rfl)⟩
theorem internal_stringslite_CutSuffix_c {w : World} {H : Nat → Prop} {s : ByteArray} {suffix : ByteArray} (h_s : okS s) (h_suffix : okS suffix) :
    Calls Tryd.prog 139 #[.string s, .string suffix] w fun e w' => e = .returned (.tuple #[.string (cutSuf s suffix), .bool (hasSuf s suffix)]) ∧ Mv [] w [] w' ∧ okS (cutSuf s suffix) := by
 have uU : True := (fun _ => trivial) H
 clear uU
 have kz := h_s
 unfold okS at kz
 refine calls_enter 18 Tryd.func139 rfl Tryd.ntmps139 (Nat.le_of_ble_eq_true rfl) (fun _ F0i => ?_)
 have F0 : Fr 18 [(0, .string s), (1, .string suffix)] _ := F0i
 clear F0i
 refine wp_seq (wp_region_lit (l_op (f_val F0 rfl rfl (r_assign rfl rfl) rfl fun _ F1 => ?_)))
 refine l_op (f_val F1 rfl rfl (r_assign rfl rfl) rfl fun _ F2 => ?_)
 have F3 : Fr 18 [(5, .bool false), (0, .string s), (1, .string suffix)] _ := F2.cut rfl
 clear F0 F1 F2
 refine s_end (x_normal (wp_seq (wp_seq (wp_region_lit (l_op (f_mv F3 rfl rfl rfl rfl rfl fun _ F4 => ?_))))))
 refine l_op (f_mv F4 rfl rfl rfl rfl rfl fun _ F5 => ?_)
 refine l_op (f_call F5 CF_164 rfl rfl rfl rfl (lc (F5.ev 6 rfl) (lc (F5.ev 7 rfl) rfl)) (internal_stringslite_HasSuffix_c (H := fun _ => True) (s := s) (suffix := suffix) h_s h_suffix) ?_)
 rintro _ w6 ⟨rfl, m6⟩
 refine ⟨_, rfl, fun _ F7 => ?_⟩
 have S6 := At.frame0 (At.nil w) m6
 clear m6
 refine l_op (f_val F7 rfl rfl (r_not rfl (F7.ev 8 rfl)) rfl fun _ F8 => ?_)
 have F9 : Fr 18 [(9, .bool (!(hasSuf s suffix))), (0, .string s), (1, .string suffix)] _ := F8.cut rfl
 clear F3 F4 F5 F7 F8
 have T10 : Mv _ _ [] _ := S6
 refine s_end (x_normal (x_condb (b := (!(hasSuf s suffix))) (F9.ev 9 rfl) (fun h11 => ?_) (fun h11 => ?_)))
 · skip
   refine wp_seq (wp_region_lit (l_op (f_mv F9 rfl rfl rfl rfl rfl fun _ F12 => ?_)))
   refine l_op (f_as F12 rfl rfl rfl rfl rfl fun _ F13 => ?_)
   refine l_op (f_val F13 rfl rfl (r_assign rfl rfl) rfl fun _ F14 => ?_)
   have F15 : Fr 18 [(5, .bool false), (4, .string s)] _ := F14.cut rfl
   clear F9 F12 F13 F14
   refine s_end (x_normal (wp_ret (x_then_ret ?_)))
   refine x_done (v := .tuple #[.string s, .bool false]) F15 (results_2 Tryd.results139 (.tmp (F15.ev 4 rfl)) (.tmp (F15.ev 5 rfl))) ?_
   exact ⟨(by rw [← (show s = (cutSuf s suffix) from by first | exact (nt (by assumption)).symm | exact (nf (by assumption)).symm | exact (cutSuf_no (nt (by assumption))).symm | exact (cutSuf_yes (nf (by assumption))).symm), (show false = (hasSuf s suffix) from by first | exact (nt (by assumption)).symm | exact (nf (by assumption)).symm | exact (cutSuf_no (nt (by assumption))).symm | exact (cutSuf_yes (nf (by assumption))).symm)]), (Mv.pick T10 [] rfl), ((show s = (cutSuf s suffix) from by first | exact (nt (by assumption)).symm | exact (nf (by assumption)).symm | exact (cutSuf_no (nt (by assumption))).symm | exact (cutSuf_yes (nf (by assumption))).symm) ▸ h_s)⟩
 · skip
   refine wp_skip (x_normal (wp_seq ?_))
   have hle := hasSuf_le (nf (by assumption))
   refine wp_region_lit (l_op (f_mv F9 rfl rfl rfl rfl rfl fun _ F16 => ?_))
   refine l_op (f_mv F16 rfl rfl rfl rfl rfl fun _ F17 => ?_)
   refine l_op (f_val F17 rfl rfl (r_lenS (fun t ht => by cases ht; exact Tryd.underlying9) rfl rfl (F17.ev 12 rfl)) rfl fun _ F18 => ?_)
   refine l_op (f_mv F18 rfl rfl rfl rfl rfl fun _ F19 => ?_)
   refine l_op (f_val F19 rfl rfl (r_lenS (fun t ht => by cases ht; exact Tryd.underlying9) rfl rfl (F19.ev 14 rfl)) rfl fun _ F20 => ?_)
   refine l_op (f_val F20 rfl rfl (r_sub (z := ((s.size - suffix.size : Nat) : Int)) rfl (F20.ev 13 rfl) (F20.ev 15 rfl) (by first | rfl | omega) ⟨by first | omega | (unfold i64ok at *; omega), by first | omega | (unfold i64ok at *; omega)⟩) rfl fun _ F21 => ?_)
   refine l_op (f_val F21 rfl rfl (r_sliceS (l := 0) (h := s.size - suffix.size) Tryd.underlying9 rfl (F21.ev 11 rfl) rfl (F21.ev 16 rfl) (by first | assumption | omega) (by first | assumption | omega) rfl) rfl fun _ F22 => ?_)
   refine l_op (f_as F22 rfl rfl rfl rfl rfl fun _ F23 => ?_)
   refine l_op (f_val F23 rfl rfl (r_assign rfl rfl) rfl fun _ F24 => ?_)
   have F25 : Fr 18 [(5, .bool true), (4, .string (s.extract 0 (s.size - suffix.size)))] _ := F24.cut rfl
   clear F9 F16 F17 F18 F19 F20 F21 F22 F23 F24
   refine s_end (x_normal (wp_ret ?_))
   refine x_done (v := .tuple #[.string (s.extract 0 (s.size - suffix.size)), .bool true]) F25 (results_2 Tryd.results139 (.tmp (F25.ev 4 rfl)) (.tmp (F25.ev 5 rfl))) ?_
   exact ⟨(by rw [(show (s.extract 0 (s.size - suffix.size)) = (cutSuf s suffix) from by first | exact (nt (by assumption)).symm | exact (nf (by assumption)).symm | exact (cutSuf_no (nt (by assumption))).symm | exact (cutSuf_yes (nf (by assumption))).symm), (show true = (hasSuf s suffix) from by first | exact (nt (by assumption)).symm | exact (nf (by assumption)).symm | exact (cutSuf_no (nt (by assumption))).symm | exact (cutSuf_yes (nf (by assumption))).symm)]), (Mv.pick T10 [] rfl), ((show (s.extract 0 (s.size - suffix.size)) = (cutSuf s suffix) from by first | exact (nt (by assumption)).symm | exact (nf (by assumption)).symm | exact (cutSuf_no (nt (by assumption))).symm | exact (cutSuf_yes (nf (by assumption))).symm) ▸ (okS_ext h_s))⟩
theorem strings_CutSuffix_c {w : World} {H : Nat → Prop} {s : ByteArray} {suffix : ByteArray} (h_s : okS s) (h_suffix : okS suffix) :
    Calls Tryd.prog 113 #[.string s, .string suffix] w fun e w' => e = .returned (.tuple #[.string (cutSuf s suffix), .bool (hasSuf s suffix)]) ∧ Mv [] w [] w' ∧ okS (cutSuf s suffix) := by
 have uU : True := (fun _ => trivial) H
 clear uU
 refine calls_enter 11 Tryd.func113 rfl Tryd.ntmps113 (Nat.le_of_ble_eq_true rfl) (fun _ F0i => ?_)
 have F0 : Fr 11 [(0, .string s), (1, .string suffix)] _ := F0i
 clear F0i
 refine wp_seq (wp_region_lit (l_op (f_val F0 rfl rfl (r_assign rfl rfl) rfl fun _ F1 => ?_)))
 refine l_op (f_val F1 rfl rfl (r_assign rfl rfl) rfl fun _ F2 => ?_)
 have F3 : Fr 11 [(5, .bool false), (0, .string s), (1, .string suffix)] _ := F2.cut rfl
 clear F0 F1 F2
 refine s_end (x_normal (wp_seq (wp_region_lit (l_op (f_mv F3 rfl rfl rfl rfl rfl fun _ F4 => ?_)))))
 refine l_op (f_mv F4 rfl rfl rfl rfl rfl fun _ F5 => ?_)
 refine l_op (f_call F5 CF_139 rfl rfl rfl rfl (lc (F5.ev 6 rfl) (lc (F5.ev 7 rfl) rfl)) (internal_stringslite_CutSuffix_c (H := fun _ => True) (s := s) (suffix := suffix) h_s h_suffix) ?_)
 rintro _ w6 ⟨rfl, m6, ok_r0_6⟩
 refine ⟨_, rfl, fun _ F7 => ?_⟩
 have S6 := At.frame0 (At.nil w) m6
 clear m6
 refine l_op (f_val (v := .string (cutSuf s suffix)) F7 rfl rfl (r_extract rfl (F7.ev 8 rfl) rfl) rfl fun _ F8 => ?_)
 refine l_op (f_val (v := .bool (hasSuf s suffix)) F8 rfl rfl (r_extract rfl (F8.ev 8 rfl) rfl) rfl fun _ F9 => ?_)
 refine l_op (f_as F9 rfl rfl rfl rfl rfl fun _ F10 => ?_)
 refine l_op (f_as F10 rfl rfl rfl rfl rfl fun _ F11 => ?_)
 have F12 : Fr 11 [(5, .bool (hasSuf s suffix)), (4, .string (cutSuf s suffix))] _ := F11.cut rfl
 clear F3 F4 F5 F7 F8 F9 F10 F11
 have T13 : Mv _ _ [] _ := S6
 refine s_end (x_normal (wp_ret ?_))
 refine x_done (v := .tuple #[.string (cutSuf s suffix), .bool (hasSuf s suffix)]) F12 (results_2 Tryd.results113 (.tmp (F12.ev 4 rfl)) (.tmp (F12.ev 5 rfl))) ?_
 exact ⟨rfl, (Mv.pick T13 [] rfl), ok_r0_6⟩
theorem impl_Mach_reap_c {w : World} {H : Nat → Prop} {m : MachD} {m_store_a : Option Addr} {m_store_n m_store_c : Nat} {m_touch_reads_a : Option Addr} {m_touch_reads_n m_touch_reads_c : Nat} {m_touch_writes_a : Option Addr} {m_touch_writes_n m_touch_writes_c : Nat} {m_b : Nat} {parent : Int} {id : Int} (h_parent : i64ok parent) (h_id : i64ok id) (tab0 : Tb 0 H w) (tab1 : Tb 1 H w) (p0 : bdC 17179869184 m) (p1 : numK m (keyNum (⟨#[114, 47]⟩ : ByteArray) id (⟨#[47, 112]⟩ : ByteArray)) = 1) (p2 : parent = 1) (p3 : numK m (keyNum (⟨#[114, 47]⟩ : ByteArray) id (⟨#[47, 115]⟩ : ByteArray)) = 2) (hA : At w [bx m_b [.slice m_store_a m_store_n m_store_c, .slice m_touch_reads_a m_touch_reads_n m_touch_reads_c, .slice m_touch_writes_a m_touch_writes_n m_touch_writes_c] 31, ow 81 2 encC okC (.slice m_store_a m_store_n m_store_c) m.store, ow 9 1 encS okS (.slice m_touch_reads_a m_touch_reads_n m_touch_reads_c) m.touch.reads, ow 9 1 encS okS (.slice m_touch_writes_a m_touch_writes_n m_touch_writes_c) m.touch.writes]) (hD : ∀ b, H b → ¬ fps [bx m_b [.slice m_store_a m_store_n m_store_c, .slice m_touch_reads_a m_touch_reads_n m_touch_reads_c, .slice m_touch_writes_a m_touch_writes_n m_touch_writes_c] 31, ow 81 2 encC okC (.slice m_store_a m_store_n m_store_c) m.store, ow 9 1 encS okS (.slice m_touch_reads_a m_touch_reads_n m_touch_reads_c) m.touch.reads, ow 9 1 encS okS (.slice m_touch_writes_a m_touch_writes_n m_touch_writes_c) m.touch.writes] b) :
    Calls Tryd.prog 74 #[.pointer (some ⟨m_b, 0, none⟩), .int .i64 parent, .int .i64 id] w fun e w' => ∃ (q_m_store_a : Option Addr), ∃ (q_m_store_n : Nat), ∃ (q_m_store_c : Nat), ∃ (q_m_touch_reads_a : Option Addr), ∃ (q_m_touch_reads_n : Nat), ∃ (q_m_touch_reads_c : Nat), ∃ (q_m_touch_writes_a : Option Addr), ∃ (q_m_touch_writes_n : Nat), ∃ (q_m_touch_writes_c : Nat), e = .returned (.tuple #[.int .i64 (((numOf (getKey m.store (keyNum (⟨#[114, 47]⟩ : ByteArray) id (⟨#[47, 120]⟩ : ByteArray))) : Nat) : Int) - 1), .int .i64 0]) ∧ Mv [bx m_b [.slice m_store_a m_store_n m_store_c, .slice m_touch_reads_a m_touch_reads_n m_touch_reads_c, .slice m_touch_writes_a m_touch_writes_n m_touch_writes_c] 31, ow 81 2 encC okC (.slice m_store_a m_store_n m_store_c) m.store, ow 9 1 encS okS (.slice m_touch_reads_a m_touch_reads_n m_touch_reads_c) m.touch.reads, ow 9 1 encS okS (.slice m_touch_writes_a m_touch_writes_n m_touch_writes_c) m.touch.writes] w [bx m_b [.slice q_m_store_a q_m_store_n q_m_store_c, .slice q_m_touch_reads_a q_m_touch_reads_n q_m_touch_reads_c, .slice q_m_touch_writes_a q_m_touch_writes_n q_m_touch_writes_c] 31, ow 81 2 encC okC (.slice q_m_store_a q_m_store_n q_m_store_c) (rpM m id).store, ow 9 1 encS okS (.slice q_m_touch_reads_a q_m_touch_reads_n q_m_touch_reads_c) (rpM m id).touch.reads, ow 9 1 encS okS (.slice q_m_touch_writes_a q_m_touch_writes_n q_m_touch_writes_c) (rpM m id).touch.writes] w' := by
 have uU : True := (fun _ _ => trivial) h_parent p0
 clear uU
 have hnl := numOf_le (getKey m.store (keyNum (⟨#[114, 47]⟩ : ByteArray) id (⟨#[47, 120]⟩ : ByteArray)))
 have hnm := numOf_le (getKey (lookM (lookM m (keyNum (⟨#[114, 47]⟩ : ByteArray) id (⟨#[47, 112]⟩ : ByteArray))) (keyNum (⟨#[114, 47]⟩ : ByteArray) id (⟨#[47, 115]⟩ : ByteArray))).store (keyNum (⟨#[114, 47]⟩ : ByteArray) id (⟨#[47, 120]⟩ : ByteArray)))
 have V_tab0 : Tb 0 (V H w [bx m_b [.slice m_store_a m_store_n m_store_c, .slice m_touch_reads_a m_touch_reads_n m_touch_reads_c, .slice m_touch_writes_a m_touch_writes_n m_touch_writes_c] 31, ow 81 2 encC okC (.slice m_store_a m_store_n m_store_c) m.store, ow 9 1 encS okS (.slice m_touch_reads_a m_touch_reads_n m_touch_reads_c) m.touch.reads, ow 9 1 encS okS (.slice m_touch_writes_a m_touch_writes_n m_touch_writes_c) m.touch.writes]) w := Tb.start tab0 hD
 have V_tab1 : Tb 1 (V H w [bx m_b [.slice m_store_a m_store_n m_store_c, .slice m_touch_reads_a m_touch_reads_n m_touch_reads_c, .slice m_touch_writes_a m_touch_writes_n m_touch_writes_c] 31, ow 81 2 encC okC (.slice m_store_a m_store_n m_store_c) m.store, ow 9 1 encS okS (.slice m_touch_reads_a m_touch_reads_n m_touch_reads_c) m.touch.reads, ow 9 1 encS okS (.slice m_touch_writes_a m_touch_writes_n m_touch_writes_c) m.touch.writes]) w := Tb.start tab1 hD
 obtain ⟨lo1, lp1, lq1⟩ := At.ownInv hA ET_26.hk 1 rfl
 obtain ⟨lo2, lp2, lq2⟩ := At.ownInv hA ET_27.hk 2 rfl
 obtain ⟨lo3, lp3, lq3⟩ := At.ownInv hA ET_27.hk 3 rfl
 refine calls_enter 38 Tryd.func74 rfl Tryd.ntmps74 (Nat.le_of_ble_eq_true rfl) (fun _ F0i => ?_)
 have F0 : Fr 38 [(0, .pointer (some ⟨m_b, 0, none⟩)), (1, .int .i64 parent), (2, .int .i64 id)] _ := F0i
 clear F0i
 refine wp_seq (wp_region_lit (l_op (f_val F0 rfl rfl (r_assign rfl rfl) rfl fun _ F1 => ?_)))
 refine l_op (f_val F1 rfl rfl (r_assign rfl rfl) rfl fun _ F2 => ?_)
 have F3 : Fr 38 [(7, .int .i64 0), (0, .pointer (some ⟨m_b, 0, none⟩)), (1, .int .i64 parent), (2, .int .i64 id)] _ := F2.cut rfl
 clear F0 F1 F2
 refine s_end (x_normal (wp_seq (wp_region_lit (l_op (f_mv F3 rfl rfl rfl rfl rfl fun _ F4 => ?_)))))
 refine l_op (f_mv F4 rfl rfl rfl rfl rfl fun _ F5 => ?_)
 refine l_op (f_call F5 CF_102 rfl rfl rfl rfl (lc (F5.ev 11 rfl) (lc rfl rfl)) (impl_procKey_c (id := id) (tail := (⟨#[47, 112]⟩ : ByteArray)) h_id (by unfold okS; decide) V_tab0 (by first | assumption | omega | (refine bdC.s ?_; (repeat (first | with_reducible refine bdC.look ?_ | with_reducible refine bdC.lay ?_ | with_reducible refine bdC.set ?_)); exact bdC.le (by assumption) (by first | decide | omega)) | (refine bdC.r ?_; (repeat (first | with_reducible refine bdC.look ?_ | with_reducible refine bdC.lay ?_ | with_reducible refine bdC.set ?_)); exact bdC.le (by assumption) (by first | decide | omega)) | (refine bdC.w ?_; (repeat (first | with_reducible refine bdC.look ?_ | with_reducible refine bdC.lay ?_ | with_reducible refine bdC.set ?_)); exact bdC.le (by assumption) (by first | decide | omega)) | ((repeat (first | with_reducible refine bdC.look ?_ | with_reducible refine bdC.lay ?_ | with_reducible refine bdC.set ?_)); exact bdC.le (by assumption) (by first | decide | omega)) | decide | exact Nat.le_trans (keyNum_size _ _ (by assumption)) (by decide) | exact Nat.le_trans (keyNum_size _ _ ⟨by omega, by omega⟩) (by decide))) ?_)
 rintro _ w6 ⟨rfl, m6, ok_r0_6⟩
 refine ⟨_, rfl, fun _ F7 => ?_⟩
 have S6 := At.frame0 hA m6
 clear m6
 refine l_op (f_call F7 CF_57 rfl rfl rfl rfl (lc (F7.ev 10 rfl) (lc (F7.ev 12 rfl) rfl)) (impl_Mach_num_c (m := m) (key := keyNum (⟨#[114, 47]⟩ : ByteArray) id (⟨#[47, 112]⟩ : ByteArray)) ok_r0_6 (Tb.mv V_tab0 S6) (Tb.mv V_tab1 S6) (by first | assumption | omega | (refine bdC.s ?_; (repeat (first | with_reducible refine bdC.look ?_ | with_reducible refine bdC.lay ?_ | with_reducible refine bdC.set ?_)); exact bdC.le (by assumption) (by first | decide | omega)) | (refine bdC.r ?_; (repeat (first | with_reducible refine bdC.look ?_ | with_reducible refine bdC.lay ?_ | with_reducible refine bdC.set ?_)); exact bdC.le (by assumption) (by first | decide | omega)) | (refine bdC.w ?_; (repeat (first | with_reducible refine bdC.look ?_ | with_reducible refine bdC.lay ?_ | with_reducible refine bdC.set ?_)); exact bdC.le (by assumption) (by first | decide | omega)) | ((repeat (first | with_reducible refine bdC.look ?_ | with_reducible refine bdC.lay ?_ | with_reducible refine bdC.set ?_)); exact bdC.le (by assumption) (by first | decide | omega)) | decide | exact Nat.le_trans (keyNum_size _ _ (by assumption)) (by decide) | exact Nat.le_trans (keyNum_size _ _ ⟨by omega, by omega⟩) (by decide)) (At.pick (is := [0, 1, 2, 3]) S6.at' rfl) (V_off (is := [0, 1, 2, 3]))) ?_)
 rintro _ w8 ⟨qm_store_a_8, qm_store_n_8, qm_store_c_8, qm_touch_reads_a_8, qm_touch_reads_n_8, qm_touch_reads_c_8, qm_touch_writes_a_8, qm_touch_writes_n_8, qm_touch_writes_c_8, rfl, m8⟩
 refine ⟨_, rfl, fun _ F9 => ?_⟩
 have S8 : Mv _ _ [bx m_b [.slice qm_store_a_8 qm_store_n_8 qm_store_c_8, .slice qm_touch_reads_a_8 qm_touch_reads_n_8 qm_touch_reads_c_8, .slice qm_touch_writes_a_8 qm_touch_writes_n_8 qm_touch_writes_c_8] 31, ow 81 2 encC okC (.slice qm_store_a_8 qm_store_n_8 qm_store_c_8) (lookM m (keyNum (⟨#[114, 47]⟩ : ByteArray) id (⟨#[47, 112]⟩ : ByteArray))).store, ow 9 1 encS okS (.slice qm_touch_reads_a_8 qm_touch_reads_n_8 qm_touch_reads_c_8) (lookM m (keyNum (⟨#[114, 47]⟩ : ByteArray) id (⟨#[47, 112]⟩ : ByteArray))).touch.reads, ow 9 1 encS okS (.slice qm_touch_writes_a_8 qm_touch_writes_n_8 qm_touch_writes_c_8) (lookM m (keyNum (⟨#[114, 47]⟩ : ByteArray) id (⟨#[47, 112]⟩ : ByteArray))).touch.writes] _ := At.frame S6.at' [0, 1, 2, 3] rfl m8
 obtain ⟨lo8_1, lp8_1, lq8_1⟩ := At.ownInv S8.at' ET_26.hk 1 rfl
 obtain ⟨lo8_2, lp8_2, lq8_2⟩ := At.ownInv S8.at' ET_27.hk 2 rfl
 obtain ⟨lo8_3, lp8_3, lq8_3⟩ := At.ownInv S8.at' ET_27.hk 3 rfl
 clear m8
 refine l_op (f_as F9 rfl rfl rfl rfl rfl fun _ F10 => ?_)
 have F11 : Fr 38 [(8, .int .i64 ((numOf (getKey m.store (keyNum (⟨#[114, 47]⟩ : ByteArray) id (⟨#[47, 112]⟩ : ByteArray))) : Nat) : Int)), (0, .pointer (some ⟨m_b, 0, none⟩)), (1, .int .i64 parent), (2, .int .i64 id)] _ := F10.cut rfl
 clear F3 F4 F5 F7 F9 F10
 refine s_end (x_normal (wp_seq (wp_seq (wp_region_lit (l_op (f_mv F11 rfl rfl rfl rfl rfl fun _ F12 => ?_))))))
 refine l_op (f_val F12 rfl rfl (r_cmp (b := decide (numOf (getKey m.store (keyNum (⟨#[114, 47]⟩ : ByteArray) id (⟨#[47, 112]⟩ : ByteArray))) = 0)) (.inl rfl) rfl (F12.ev 14 rfl) rfl (dec_of (by omega))) rfl fun _ F13 => ?_)
 rw [show (decide (numOf (getKey m.store (keyNum (⟨#[114, 47]⟩ : ByteArray) id (⟨#[47, 112]⟩ : ByteArray))) = 0)) = false from decide_eq_false (fun e => by rw [show numOf (getKey m.store (keyNum (⟨#[114, 47]⟩ : ByteArray) id (⟨#[47, 112]⟩ : ByteArray))) = 1 from p1] at e; cases e)] at F13
 refine l_op (f_mv F13 rfl rfl rfl rfl rfl fun _ F14 => ?_)
 refine l_op (f_mv F14 (wanted_g F14 rfl rfl rfl rfl) rfl rfl rfl rfl fun _ F15 => ?_)
 refine l_op (f_mv F15 (wanted_g F15 rfl rfl rfl rfl) rfl rfl rfl rfl fun _ F16 => ?_)
 refine l_op (f_val F16 (wanted_g F16 rfl rfl rfl rfl) rfl (r_cmp (b := decide (((numOf (getKey m.store (keyNum (⟨#[114, 47]⟩ : ByteArray) id (⟨#[47, 112]⟩ : ByteArray))) : Nat) : Int) ≠ parent)) (.inr (.inl rfl)) rfl (F16.ev 17 rfl) (F16.ev 18 rfl) (dec_of (by omega))) rfl fun _ F17 => ?_)
 rw [show (decide (((numOf (getKey m.store (keyNum (⟨#[114, 47]⟩ : ByteArray) id (⟨#[47, 112]⟩ : ByteArray))) : Nat) : Int) ≠ parent)) = false from decide_eq_false (fun e => e (by rw [show numOf (getKey m.store (keyNum (⟨#[114, 47]⟩ : ByteArray) id (⟨#[47, 112]⟩ : ByteArray))) = 1 from p1, p2]; rfl))] at F17
 refine l_op (f_val F17 rfl rfl (r_pick (b := false) rfl (F17.ev 16 rfl) (F17.ev 19 rfl)) rfl fun _ F18 => ?_)
 have F19 : Fr 38 [(20, .bool false), (0, .pointer (some ⟨m_b, 0, none⟩)), (2, .int .i64 id)] _ := F18.cut rfl
 clear F11 F12 F13 F14 F15 F16 F17 F18
 refine s_end (x_normal (wp_cond_false (F19.ev 20 rfl) (wp_skip (x_normal (wp_seq (wp_seq (wp_region_lit (l_op (f_mv F19 rfl rfl rfl rfl rfl fun _ F20 => ?_)))))))))
 refine l_op (f_mv F20 rfl rfl rfl rfl rfl fun _ F21 => ?_)
 refine l_op (f_call F21 CF_103 rfl rfl rfl rfl (lc (F21.ev 21 rfl) (lc (F21.ev 22 rfl) rfl)) (impl_Mach_state_c (m := (lookM m (keyNum (⟨#[114, 47]⟩ : ByteArray) id (⟨#[47, 112]⟩ : ByteArray)))) (id := id) h_id (Tb.mv V_tab0 (S6.trans S8)) (Tb.mv V_tab1 (S6.trans S8)) (by first | assumption | omega | (refine bdC.s ?_; (repeat (first | with_reducible refine bdC.look ?_ | with_reducible refine bdC.lay ?_ | with_reducible refine bdC.set ?_)); exact bdC.le (by assumption) (by first | decide | omega)) | (refine bdC.r ?_; (repeat (first | with_reducible refine bdC.look ?_ | with_reducible refine bdC.lay ?_ | with_reducible refine bdC.set ?_)); exact bdC.le (by assumption) (by first | decide | omega)) | (refine bdC.w ?_; (repeat (first | with_reducible refine bdC.look ?_ | with_reducible refine bdC.lay ?_ | with_reducible refine bdC.set ?_)); exact bdC.le (by assumption) (by first | decide | omega)) | ((repeat (first | with_reducible refine bdC.look ?_ | with_reducible refine bdC.lay ?_ | with_reducible refine bdC.set ?_)); exact bdC.le (by assumption) (by first | decide | omega)) | decide | exact Nat.le_trans (keyNum_size _ _ (by assumption)) (by decide) | exact Nat.le_trans (keyNum_size _ _ ⟨by omega, by omega⟩) (by decide)) (At.pick (is := [0, 1, 2, 3]) S8.at' rfl) (V_off (is := [0, 1, 2, 3]))) ?_)
 rintro _ w22 ⟨qm_store_a_22, qm_store_n_22, qm_store_c_22, qm_touch_reads_a_22, qm_touch_reads_n_22, qm_touch_reads_c_22, qm_touch_writes_a_22, qm_touch_writes_n_22, qm_touch_writes_c_22, rfl, m22⟩
 refine ⟨_, rfl, fun _ F23 => ?_⟩
 have S22 : Mv _ _ [bx m_b [.slice qm_store_a_22 qm_store_n_22 qm_store_c_22, .slice qm_touch_reads_a_22 qm_touch_reads_n_22 qm_touch_reads_c_22, .slice qm_touch_writes_a_22 qm_touch_writes_n_22 qm_touch_writes_c_22] 31, ow 81 2 encC okC (.slice qm_store_a_22 qm_store_n_22 qm_store_c_22) (lookM (lookM m (keyNum (⟨#[114, 47]⟩ : ByteArray) id (⟨#[47, 112]⟩ : ByteArray))) (keyNum (⟨#[114, 47]⟩ : ByteArray) id (⟨#[47, 115]⟩ : ByteArray))).store, ow 9 1 encS okS (.slice qm_touch_reads_a_22 qm_touch_reads_n_22 qm_touch_reads_c_22) (lookM (lookM m (keyNum (⟨#[114, 47]⟩ : ByteArray) id (⟨#[47, 112]⟩ : ByteArray))) (keyNum (⟨#[114, 47]⟩ : ByteArray) id (⟨#[47, 115]⟩ : ByteArray))).touch.reads, ow 9 1 encS okS (.slice qm_touch_writes_a_22 qm_touch_writes_n_22 qm_touch_writes_c_22) (lookM (lookM m (keyNum (⟨#[114, 47]⟩ : ByteArray) id (⟨#[47, 112]⟩ : ByteArray))) (keyNum (⟨#[114, 47]⟩ : ByteArray) id (⟨#[47, 115]⟩ : ByteArray))).touch.writes] _ := At.frame S8.at' [0, 1, 2, 3] rfl m22
 obtain ⟨lo22_1, lp22_1, lq22_1⟩ := At.ownInv S22.at' ET_26.hk 1 rfl
 obtain ⟨lo22_2, lp22_2, lq22_2⟩ := At.ownInv S22.at' ET_27.hk 2 rfl
 obtain ⟨lo22_3, lp22_3, lq22_3⟩ := At.ownInv S22.at' ET_27.hk 3 rfl
 clear m22
 have F24 : Fr 38 [(23, .int .i64 ((numOf (getKey (lookM m (keyNum (⟨#[114, 47]⟩ : ByteArray) id (⟨#[47, 112]⟩ : ByteArray))).store (keyNum (⟨#[114, 47]⟩ : ByteArray) id (⟨#[47, 115]⟩ : ByteArray))) : Nat) : Int)), (0, .pointer (some ⟨m_b, 0, none⟩)), (2, .int .i64 id)] _ := F23.cut rfl
 clear F19 F20 F21 F23
 refine s_end (x_normal (wp_block (wp_seq (wp_region_lit (l_op (f_val F24 rfl rfl (r_cmp (b := decide (numOf (getKey (lookM m (keyNum (⟨#[114, 47]⟩ : ByteArray) id (⟨#[47, 112]⟩ : ByteArray))).store (keyNum (⟨#[114, 47]⟩ : ByteArray) id (⟨#[47, 115]⟩ : ByteArray))) = 1)) (.inl rfl) rfl (F24.ev 23 rfl) rfl (dec_of (by omega))) rfl fun _ F25 => ?_))))))
 rw [show (decide (numOf (getKey (lookM m (keyNum (⟨#[114, 47]⟩ : ByteArray) id (⟨#[47, 112]⟩ : ByteArray))).store (keyNum (⟨#[114, 47]⟩ : ByteArray) id (⟨#[47, 115]⟩ : ByteArray))) = 1)) = false from decide_eq_false (fun e => by rw [show numOf (getKey (lookM m (keyNum (⟨#[114, 47]⟩ : ByteArray) id (⟨#[47, 112]⟩ : ByteArray))).store (keyNum (⟨#[114, 47]⟩ : ByteArray) id (⟨#[47, 115]⟩ : ByteArray))) = 2 from p3] at e; cases e)] at F25
 refine l_op (f_as F25 rfl rfl rfl rfl rfl fun _ F26 => ?_)
 have F27 : Fr 38 [(24, .bool false), (23, .int .i64 ((numOf (getKey (lookM m (keyNum (⟨#[114, 47]⟩ : ByteArray) id (⟨#[47, 112]⟩ : ByteArray))).store (keyNum (⟨#[114, 47]⟩ : ByteArray) id (⟨#[47, 115]⟩ : ByteArray))) : Nat) : Int)), (0, .pointer (some ⟨m_b, 0, none⟩)), (2, .int .i64 id)] _ := F26.cut rfl
 clear F24 F25 F26
 refine s_end (x_normal (wp_cond_false (F27.ev 24 rfl) (wp_seq (wp_region_lit (l_op (f_val F27 rfl rfl (r_cmp (b := decide (numOf (getKey (lookM m (keyNum (⟨#[114, 47]⟩ : ByteArray) id (⟨#[47, 112]⟩ : ByteArray))).store (keyNum (⟨#[114, 47]⟩ : ByteArray) id (⟨#[47, 115]⟩ : ByteArray))) = 2)) (.inl rfl) rfl (F27.ev 23 rfl) rfl (dec_of (by omega))) rfl fun _ F28 => ?_))))))
 rw [show (decide (numOf (getKey (lookM m (keyNum (⟨#[114, 47]⟩ : ByteArray) id (⟨#[47, 112]⟩ : ByteArray))).store (keyNum (⟨#[114, 47]⟩ : ByteArray) id (⟨#[47, 115]⟩ : ByteArray))) = 2)) = true from decide_eq_true p3] at F28
 refine l_op (f_as F28 rfl rfl rfl rfl rfl fun _ F29 => ?_)
 have F30 : Fr 38 [(26, .bool true), (0, .pointer (some ⟨m_b, 0, none⟩)), (2, .int .i64 id)] _ := F29.cut rfl
 clear F27 F28 F29
 refine s_end (x_normal (wp_cond_true (F30.ev 26 rfl) (wp_seq (wp_region_lit (l_op (f_mv F30 rfl rfl rfl rfl rfl fun _ F31 => ?_))))))
 refine l_op (f_mv F31 rfl rfl rfl rfl rfl fun _ F32 => ?_)
 refine l_op (f_call F32 CF_102 rfl rfl rfl rfl (lc (F32.ev 29 rfl) (lc rfl rfl)) (impl_procKey_c (id := id) (tail := (⟨#[47, 120]⟩ : ByteArray)) h_id (by unfold okS; decide) (Tb.mv V_tab0 (S6.trans (S8.trans S22))) (by first | assumption | omega | (refine bdC.s ?_; (repeat (first | with_reducible refine bdC.look ?_ | with_reducible refine bdC.lay ?_ | with_reducible refine bdC.set ?_)); exact bdC.le (by assumption) (by first | decide | omega)) | (refine bdC.r ?_; (repeat (first | with_reducible refine bdC.look ?_ | with_reducible refine bdC.lay ?_ | with_reducible refine bdC.set ?_)); exact bdC.le (by assumption) (by first | decide | omega)) | (refine bdC.w ?_; (repeat (first | with_reducible refine bdC.look ?_ | with_reducible refine bdC.lay ?_ | with_reducible refine bdC.set ?_)); exact bdC.le (by assumption) (by first | decide | omega)) | ((repeat (first | with_reducible refine bdC.look ?_ | with_reducible refine bdC.lay ?_ | with_reducible refine bdC.set ?_)); exact bdC.le (by assumption) (by first | decide | omega)) | decide | exact Nat.le_trans (keyNum_size _ _ (by assumption)) (by decide) | exact Nat.le_trans (keyNum_size _ _ ⟨by omega, by omega⟩) (by decide))) ?_)
 rintro _ w33 ⟨rfl, m33, ok_r0_33⟩
 refine ⟨_, rfl, fun _ F34 => ?_⟩
 have S33 := At.frame0 S22.at' m33
 clear m33
 refine l_op (f_call F34 CF_57 rfl rfl rfl rfl (lc (F34.ev 28 rfl) (lc (F34.ev 30 rfl) rfl)) (impl_Mach_num_c (m := (lookM (lookM m (keyNum (⟨#[114, 47]⟩ : ByteArray) id (⟨#[47, 112]⟩ : ByteArray))) (keyNum (⟨#[114, 47]⟩ : ByteArray) id (⟨#[47, 115]⟩ : ByteArray)))) (key := keyNum (⟨#[114, 47]⟩ : ByteArray) id (⟨#[47, 120]⟩ : ByteArray)) ok_r0_33 (Tb.mv V_tab0 (S6.trans (S8.trans (S22.trans S33)))) (Tb.mv V_tab1 (S6.trans (S8.trans (S22.trans S33)))) (by first | assumption | omega | (refine bdC.s ?_; (repeat (first | with_reducible refine bdC.look ?_ | with_reducible refine bdC.lay ?_ | with_reducible refine bdC.set ?_)); exact bdC.le (by assumption) (by first | decide | omega)) | (refine bdC.r ?_; (repeat (first | with_reducible refine bdC.look ?_ | with_reducible refine bdC.lay ?_ | with_reducible refine bdC.set ?_)); exact bdC.le (by assumption) (by first | decide | omega)) | (refine bdC.w ?_; (repeat (first | with_reducible refine bdC.look ?_ | with_reducible refine bdC.lay ?_ | with_reducible refine bdC.set ?_)); exact bdC.le (by assumption) (by first | decide | omega)) | ((repeat (first | with_reducible refine bdC.look ?_ | with_reducible refine bdC.lay ?_ | with_reducible refine bdC.set ?_)); exact bdC.le (by assumption) (by first | decide | omega)) | decide | exact Nat.le_trans (keyNum_size _ _ (by assumption)) (by decide) | exact Nat.le_trans (keyNum_size _ _ ⟨by omega, by omega⟩) (by decide)) (At.pick (is := [0, 1, 2, 3]) S33.at' rfl) (V_off (is := [0, 1, 2, 3]))) ?_)
 rintro _ w35 ⟨qm_store_a_35, qm_store_n_35, qm_store_c_35, qm_touch_reads_a_35, qm_touch_reads_n_35, qm_touch_reads_c_35, qm_touch_writes_a_35, qm_touch_writes_n_35, qm_touch_writes_c_35, rfl, m35⟩
 refine ⟨_, rfl, fun _ F36 => ?_⟩
 have S35 : Mv _ _ [bx m_b [.slice qm_store_a_35 qm_store_n_35 qm_store_c_35, .slice qm_touch_reads_a_35 qm_touch_reads_n_35 qm_touch_reads_c_35, .slice qm_touch_writes_a_35 qm_touch_writes_n_35 qm_touch_writes_c_35] 31, ow 81 2 encC okC (.slice qm_store_a_35 qm_store_n_35 qm_store_c_35) (lookM (lookM (lookM m (keyNum (⟨#[114, 47]⟩ : ByteArray) id (⟨#[47, 112]⟩ : ByteArray))) (keyNum (⟨#[114, 47]⟩ : ByteArray) id (⟨#[47, 115]⟩ : ByteArray))) (keyNum (⟨#[114, 47]⟩ : ByteArray) id (⟨#[47, 120]⟩ : ByteArray))).store, ow 9 1 encS okS (.slice qm_touch_reads_a_35 qm_touch_reads_n_35 qm_touch_reads_c_35) (lookM (lookM (lookM m (keyNum (⟨#[114, 47]⟩ : ByteArray) id (⟨#[47, 112]⟩ : ByteArray))) (keyNum (⟨#[114, 47]⟩ : ByteArray) id (⟨#[47, 115]⟩ : ByteArray))) (keyNum (⟨#[114, 47]⟩ : ByteArray) id (⟨#[47, 120]⟩ : ByteArray))).touch.reads, ow 9 1 encS okS (.slice qm_touch_writes_a_35 qm_touch_writes_n_35 qm_touch_writes_c_35) (lookM (lookM (lookM m (keyNum (⟨#[114, 47]⟩ : ByteArray) id (⟨#[47, 112]⟩ : ByteArray))) (keyNum (⟨#[114, 47]⟩ : ByteArray) id (⟨#[47, 115]⟩ : ByteArray))) (keyNum (⟨#[114, 47]⟩ : ByteArray) id (⟨#[47, 120]⟩ : ByteArray))).touch.writes] _ := At.frame S33.at' [0, 1, 2, 3] rfl m35
 obtain ⟨lo35_1, lp35_1, lq35_1⟩ := At.ownInv S35.at' ET_26.hk 1 rfl
 obtain ⟨lo35_2, lp35_2, lq35_2⟩ := At.ownInv S35.at' ET_27.hk 2 rfl
 obtain ⟨lo35_3, lp35_3, lq35_3⟩ := At.ownInv S35.at' ET_27.hk 3 rfl
 clear m35
 refine l_op (f_val F36 rfl rfl (r_sub (z := (((numOf (getKey (lookM (lookM m (keyNum (⟨#[114, 47]⟩ : ByteArray) id (⟨#[47, 112]⟩ : ByteArray))) (keyNum (⟨#[114, 47]⟩ : ByteArray) id (⟨#[47, 115]⟩ : ByteArray))).store (keyNum (⟨#[114, 47]⟩ : ByteArray) id (⟨#[47, 120]⟩ : ByteArray))) : Nat) : Int) - 1)) rfl (F36.ev 31 rfl) rfl (by first | rfl | omega) ⟨by first | omega | (unfold i64ok at *; omega), by first | omega | (unfold i64ok at *; omega)⟩) rfl fun _ F37 => ?_)
 refine l_op (f_as F37 rfl rfl rfl rfl rfl fun _ F38 => ?_)
 have F39 : Fr 38 [(9, .int .i64 (((numOf (getKey (lookM (lookM m (keyNum (⟨#[114, 47]⟩ : ByteArray) id (⟨#[47, 112]⟩ : ByteArray))) (keyNum (⟨#[114, 47]⟩ : ByteArray) id (⟨#[47, 115]⟩ : ByteArray))).store (keyNum (⟨#[114, 47]⟩ : ByteArray) id (⟨#[47, 120]⟩ : ByteArray))) : Nat) : Int) - 1)), (0, .pointer (some ⟨m_b, 0, none⟩)), (2, .int .i64 id)] _ := F38.cut rfl
 clear F30 F31 F32 F34 F36 F37 F38
 refine s_end (x_normal (wp_seq (wp_region_lit (l_op (f_mv F39 rfl rfl rfl rfl rfl fun _ F40 => ?_)))))
 refine l_op (f_mv F40 rfl rfl rfl rfl rfl fun _ F41 => ?_)
 refine l_op (f_call F41 CF_102 rfl rfl rfl rfl (lc (F41.ev 34 rfl) (lc rfl rfl)) (impl_procKey_c (id := id) (tail := (⟨#[47]⟩ : ByteArray)) h_id (by unfold okS; decide) (Tb.mv V_tab0 (S6.trans (S8.trans (S22.trans (S33.trans S35))))) (by first | assumption | omega | (refine bdC.s ?_; (repeat (first | with_reducible refine bdC.look ?_ | with_reducible refine bdC.lay ?_ | with_reducible refine bdC.set ?_)); exact bdC.le (by assumption) (by first | decide | omega)) | (refine bdC.r ?_; (repeat (first | with_reducible refine bdC.look ?_ | with_reducible refine bdC.lay ?_ | with_reducible refine bdC.set ?_)); exact bdC.le (by assumption) (by first | decide | omega)) | (refine bdC.w ?_; (repeat (first | with_reducible refine bdC.look ?_ | with_reducible refine bdC.lay ?_ | with_reducible refine bdC.set ?_)); exact bdC.le (by assumption) (by first | decide | omega)) | ((repeat (first | with_reducible refine bdC.look ?_ | with_reducible refine bdC.lay ?_ | with_reducible refine bdC.set ?_)); exact bdC.le (by assumption) (by first | decide | omega)) | decide | exact Nat.le_trans (keyNum_size _ _ (by assumption)) (by decide) | exact Nat.le_trans (keyNum_size _ _ ⟨by omega, by omega⟩) (by decide))) ?_)
 rintro _ w42 ⟨rfl, m42, ok_r0_42⟩
 refine ⟨_, rfl, fun _ F43 => ?_⟩
 have S42 := At.frame0 S35.at' m42
 clear m42
 refine l_op (f_call F43 CF_112 rfl rfl rfl rfl (lc (F43.ev 33 rfl) (lc (F43.ev 35 rfl) rfl)) (impl_Mach_wipe_c (H := fun _ => True) (m := (lookM (lookM (lookM m (keyNum (⟨#[114, 47]⟩ : ByteArray) id (⟨#[47, 112]⟩ : ByteArray))) (keyNum (⟨#[114, 47]⟩ : ByteArray) id (⟨#[47, 115]⟩ : ByteArray))) (keyNum (⟨#[114, 47]⟩ : ByteArray) id (⟨#[47, 120]⟩ : ByteArray)))) (pfx := keyNum (⟨#[114, 47]⟩ : ByteArray) id (⟨#[47]⟩ : ByteArray)) ok_r0_42 (by first | assumption | omega | (refine bdC.s ?_; (repeat (first | with_reducible refine bdC.look ?_ | with_reducible refine bdC.lay ?_ | with_reducible refine bdC.set ?_)); exact bdC.le (by assumption) (by first | decide | omega)) | (refine bdC.r ?_; (repeat (first | with_reducible refine bdC.look ?_ | with_reducible refine bdC.lay ?_ | with_reducible refine bdC.set ?_)); exact bdC.le (by assumption) (by first | decide | omega)) | (refine bdC.w ?_; (repeat (first | with_reducible refine bdC.look ?_ | with_reducible refine bdC.lay ?_ | with_reducible refine bdC.set ?_)); exact bdC.le (by assumption) (by first | decide | omega)) | ((repeat (first | with_reducible refine bdC.look ?_ | with_reducible refine bdC.lay ?_ | with_reducible refine bdC.set ?_)); exact bdC.le (by assumption) (by first | decide | omega)) | decide | exact Nat.le_trans (keyNum_size _ _ (by assumption)) (by decide) | exact Nat.le_trans (keyNum_size _ _ ⟨by omega, by omega⟩) (by decide)) (by first | assumption | omega | (refine bdC.s ?_; (repeat (first | with_reducible refine bdC.look ?_ | with_reducible refine bdC.lay ?_ | with_reducible refine bdC.set ?_)); exact bdC.le (by assumption) (by first | decide | omega)) | (refine bdC.r ?_; (repeat (first | with_reducible refine bdC.look ?_ | with_reducible refine bdC.lay ?_ | with_reducible refine bdC.set ?_)); exact bdC.le (by assumption) (by first | decide | omega)) | (refine bdC.w ?_; (repeat (first | with_reducible refine bdC.look ?_ | with_reducible refine bdC.lay ?_ | with_reducible refine bdC.set ?_)); exact bdC.le (by assumption) (by first | decide | omega)) | ((repeat (first | with_reducible refine bdC.look ?_ | with_reducible refine bdC.lay ?_ | with_reducible refine bdC.set ?_)); exact bdC.le (by assumption) (by first | decide | omega)) | decide | exact Nat.le_trans (keyNum_size _ _ (by assumption)) (by decide) | exact Nat.le_trans (keyNum_size _ _ ⟨by omega, by omega⟩) (by decide)) (by first | assumption | omega | (refine bdC.s ?_; (repeat (first | with_reducible refine bdC.look ?_ | with_reducible refine bdC.lay ?_ | with_reducible refine bdC.set ?_)); exact bdC.le (by assumption) (by first | decide | omega)) | (refine bdC.r ?_; (repeat (first | with_reducible refine bdC.look ?_ | with_reducible refine bdC.lay ?_ | with_reducible refine bdC.set ?_)); exact bdC.le (by assumption) (by first | decide | omega)) | (refine bdC.w ?_; (repeat (first | with_reducible refine bdC.look ?_ | with_reducible refine bdC.lay ?_ | with_reducible refine bdC.set ?_)); exact bdC.le (by assumption) (by first | decide | omega)) | ((repeat (first | with_reducible refine bdC.look ?_ | with_reducible refine bdC.lay ?_ | with_reducible refine bdC.set ?_)); exact bdC.le (by assumption) (by first | decide | omega)) | decide | exact Nat.le_trans (keyNum_size _ _ (by assumption)) (by decide) | exact Nat.le_trans (keyNum_size _ _ ⟨by omega, by omega⟩) (by decide)) (by first | assumption | omega | (refine bdC.s ?_; (repeat (first | with_reducible refine bdC.look ?_ | with_reducible refine bdC.lay ?_ | with_reducible refine bdC.set ?_)); exact bdC.le (by assumption) (by first | decide | omega)) | (refine bdC.r ?_; (repeat (first | with_reducible refine bdC.look ?_ | with_reducible refine bdC.lay ?_ | with_reducible refine bdC.set ?_)); exact bdC.le (by assumption) (by first | decide | omega)) | (refine bdC.w ?_; (repeat (first | with_reducible refine bdC.look ?_ | with_reducible refine bdC.lay ?_ | with_reducible refine bdC.set ?_)); exact bdC.le (by assumption) (by first | decide | omega)) | ((repeat (first | with_reducible refine bdC.look ?_ | with_reducible refine bdC.lay ?_ | with_reducible refine bdC.set ?_)); exact bdC.le (by assumption) (by first | decide | omega)) | decide | exact Nat.le_trans (keyNum_size _ _ (by assumption)) (by decide) | exact Nat.le_trans (keyNum_size _ _ ⟨by omega, by omega⟩) (by decide)) (At.pick (is := [0, 1, 2, 3]) S42.at' rfl)) ?_)
 rintro _ w44 ⟨qm_store_a_44, qm_store_n_44, qm_store_c_44, qm_touch_reads_a_44, qm_touch_reads_n_44, qm_touch_reads_c_44, qm_touch_writes_a_44, qm_touch_writes_n_44, qm_touch_writes_c_44, rfl, m44⟩
 refine ⟨_, rfl, fun _ F45 => ?_⟩
 have S44 : Mv _ _ [bx m_b [.slice qm_store_a_44 qm_store_n_44 qm_store_c_44, .slice qm_touch_reads_a_44 qm_touch_reads_n_44 qm_touch_reads_c_44, .slice qm_touch_writes_a_44 qm_touch_writes_n_44 qm_touch_writes_c_44] 31, ow 81 2 encC okC (.slice qm_store_a_44 qm_store_n_44 qm_store_c_44) (wipeM (lookM (lookM (lookM m (keyNum (⟨#[114, 47]⟩ : ByteArray) id (⟨#[47, 112]⟩ : ByteArray))) (keyNum (⟨#[114, 47]⟩ : ByteArray) id (⟨#[47, 115]⟩ : ByteArray))) (keyNum (⟨#[114, 47]⟩ : ByteArray) id (⟨#[47, 120]⟩ : ByteArray))) (keyNum (⟨#[114, 47]⟩ : ByteArray) id (⟨#[47]⟩ : ByteArray))).store, ow 9 1 encS okS (.slice qm_touch_reads_a_44 qm_touch_reads_n_44 qm_touch_reads_c_44) (wipeM (lookM (lookM (lookM m (keyNum (⟨#[114, 47]⟩ : ByteArray) id (⟨#[47, 112]⟩ : ByteArray))) (keyNum (⟨#[114, 47]⟩ : ByteArray) id (⟨#[47, 115]⟩ : ByteArray))) (keyNum (⟨#[114, 47]⟩ : ByteArray) id (⟨#[47, 120]⟩ : ByteArray))) (keyNum (⟨#[114, 47]⟩ : ByteArray) id (⟨#[47]⟩ : ByteArray))).touch.reads, ow 9 1 encS okS (.slice qm_touch_writes_a_44 qm_touch_writes_n_44 qm_touch_writes_c_44) (wipeM (lookM (lookM (lookM m (keyNum (⟨#[114, 47]⟩ : ByteArray) id (⟨#[47, 112]⟩ : ByteArray))) (keyNum (⟨#[114, 47]⟩ : ByteArray) id (⟨#[47, 115]⟩ : ByteArray))) (keyNum (⟨#[114, 47]⟩ : ByteArray) id (⟨#[47, 120]⟩ : ByteArray))) (keyNum (⟨#[114, 47]⟩ : ByteArray) id (⟨#[47]⟩ : ByteArray))).touch.writes] _ := At.frame S42.at' [0, 1, 2, 3] rfl m44
 obtain ⟨lo44_1, lp44_1, lq44_1⟩ := At.ownInv S44.at' ET_26.hk 1 rfl
 obtain ⟨lo44_2, lp44_2, lq44_2⟩ := At.ownInv S44.at' ET_27.hk 2 rfl
 obtain ⟨lo44_3, lp44_3, lq44_3⟩ := At.ownInv S44.at' ET_27.hk 3 rfl
 clear m44
 have F46 : Fr 38 [(36, .tuple #[]), (9, .int .i64 (((numOf (getKey (lookM (lookM m (keyNum (⟨#[114, 47]⟩ : ByteArray) id (⟨#[47, 112]⟩ : ByteArray))) (keyNum (⟨#[114, 47]⟩ : ByteArray) id (⟨#[47, 115]⟩ : ByteArray))).store (keyNum (⟨#[114, 47]⟩ : ByteArray) id (⟨#[47, 120]⟩ : ByteArray))) : Nat) : Int) - 1))] _ := F45.cut rfl
 clear F39 F40 F41 F43 F45
 refine s_end (x_normal (wp_seq (wp_region_lit (l_op (f_mv F46 rfl rfl rfl rfl rfl fun _ F47 => ?_)))))
 refine l_op (f_as F47 rfl rfl rfl rfl rfl fun _ F48 => ?_)
 refine l_op (f_val F48 rfl rfl (r_assign rfl rfl) rfl fun _ F49 => ?_)
 have F50 : Fr 38 [(7, .int .i64 0), (6, .int .i64 (((numOf (getKey (lookM (lookM m (keyNum (⟨#[114, 47]⟩ : ByteArray) id (⟨#[47, 112]⟩ : ByteArray))) (keyNum (⟨#[114, 47]⟩ : ByteArray) id (⟨#[47, 115]⟩ : ByteArray))).store (keyNum (⟨#[114, 47]⟩ : ByteArray) id (⟨#[47, 120]⟩ : ByteArray))) : Nat) : Int) - 1))] _ := F49.cut rfl
 clear F46 F47 F48 F49
 refine s_end (x_normal (wp_ret (x_block_ret (x_then_ret ?_))))
 refine x_done (v := .tuple #[.int .i64 (((numOf (getKey (lookM (lookM m (keyNum (⟨#[114, 47]⟩ : ByteArray) id (⟨#[47, 112]⟩ : ByteArray))) (keyNum (⟨#[114, 47]⟩ : ByteArray) id (⟨#[47, 115]⟩ : ByteArray))).store (keyNum (⟨#[114, 47]⟩ : ByteArray) id (⟨#[47, 120]⟩ : ByteArray))) : Nat) : Int) - 1), .int .i64 0]) F50 (results_2 Tryd.results74 (.tmp (F50.ev 6 rfl)) (.tmp (F50.ev 7 rfl))) ?_
 exact ⟨qm_store_a_44, qm_store_n_44, qm_store_c_44, qm_touch_reads_a_44, qm_touch_reads_n_44, qm_touch_reads_c_44, qm_touch_writes_a_44, qm_touch_writes_n_44, qm_touch_writes_c_44, rfl, (Mv.cast (Mv.pick (S6.trans (S8.trans (S22.trans (S33.trans (S35.trans (S42.trans S44)))))) [0, 1, 2, 3] rfl) rfl)⟩
theorem impl_ReapProc_c {w : World} {H : Nat → Prop} {m : MachD} {m_store_a : Option Addr} {m_store_n m_store_c : Nat} {m_touch_reads_a : Option Addr} {m_touch_reads_n m_touch_reads_c : Nat} {m_touch_writes_a : Option Addr} {m_touch_writes_n m_touch_writes_c : Nat} {parent : Int} {id : Int} (v_m_store : Rd 2 encC okC H w (.slice m_store_a m_store_n m_store_c) m.store) (v_m_touch_reads : Rd 1 encS okS H w (.slice m_touch_reads_a m_touch_reads_n m_touch_reads_c) m.touch.reads) (v_m_touch_writes : Rd 1 encS okS H w (.slice m_touch_writes_a m_touch_writes_n m_touch_writes_c) m.touch.writes) (h_parent : i64ok parent) (h_id : i64ok id) (tab0 : Tb 0 H w) (tab1 : Tb 1 H w) (p0 : bdC 8589934592 m) (p1 : numK m (keyNum (⟨#[114, 47]⟩ : ByteArray) id (⟨#[47, 112]⟩ : ByteArray)) = 1) (p2 : parent = 1) (p3 : numK m (keyNum (⟨#[114, 47]⟩ : ByteArray) id (⟨#[47, 115]⟩ : ByteArray)) = 2) :
    Calls Tryd.prog 37 #[.agg #[.slice m_store_a m_store_n m_store_c, .slice m_touch_reads_a m_touch_reads_n m_touch_reads_c, .slice m_touch_writes_a m_touch_writes_n m_touch_writes_c], .int .i64 parent, .int .i64 id] w fun e w' => ∃ (r0_store_a : Option Addr), ∃ (r0_store_n : Nat), ∃ (r0_store_c : Nat), ∃ (r0_touch_reads_a : Option Addr), ∃ (r0_touch_reads_n : Nat), ∃ (r0_touch_reads_c : Nat), ∃ (r0_touch_writes_a : Option Addr), ∃ (r0_touch_writes_n : Nat), ∃ (r0_touch_writes_c : Nat), e = .returned (.tuple #[.agg #[.slice r0_store_a r0_store_n r0_store_c, .slice r0_touch_reads_a r0_touch_reads_n r0_touch_reads_c, .slice r0_touch_writes_a r0_touch_writes_n r0_touch_writes_c], .int .i64 (((numOf (getKey m.store (keyNum (⟨#[114, 47]⟩ : ByteArray) id (⟨#[47, 120]⟩ : ByteArray))) : Nat) : Int) - 1), .int .i64 0]) ∧ Mv [] w [ow 81 2 encC okC (.slice r0_store_a r0_store_n r0_store_c) (rpM m id).store, ow 9 1 encS okS (.slice r0_touch_reads_a r0_touch_reads_n r0_touch_reads_c) (rpM m id).touch.reads, ow 9 1 encS okS (.slice r0_touch_writes_a r0_touch_writes_n r0_touch_writes_c) (rpM m id).touch.writes] w' := by
 have uU : True := (fun _ _ _ _ => trivial) p0 p1 p2 p3
 clear uU
 have V_v_m_store : Rd 2 encC okC (V H w []) w (.slice m_store_a m_store_n m_store_c) m.store := Rd.start v_m_store (fun _ _ => fps_nil _)
 obtain ⟨ln_m_store, le_m_store, mx_m_store, ni_m_store⟩ := Rd.inv v_m_store
 have V_v_m_touch_reads : Rd 1 encS okS (V H w []) w (.slice m_touch_reads_a m_touch_reads_n m_touch_reads_c) m.touch.reads := Rd.start v_m_touch_reads (fun _ _ => fps_nil _)
 obtain ⟨ln_m_touch_reads, le_m_touch_reads, mx_m_touch_reads, ni_m_touch_reads⟩ := Rd.inv v_m_touch_reads
 have V_v_m_touch_writes : Rd 1 encS okS (V H w []) w (.slice m_touch_writes_a m_touch_writes_n m_touch_writes_c) m.touch.writes := Rd.start v_m_touch_writes (fun _ _ => fps_nil _)
 obtain ⟨ln_m_touch_writes, le_m_touch_writes, mx_m_touch_writes, ni_m_touch_writes⟩ := Rd.inv v_m_touch_writes
 have V_tab0 : Tb 0 (V H w []) w := Tb.start tab0 (fun _ _ => fps_nil _)
 have V_tab1 : Tb 1 (V H w []) w := Tb.start tab1 (fun _ _ => fps_nil _)
 refine calls_enter 22 Tryd.func37 rfl Tryd.ntmps37 (Nat.le_of_ble_eq_true rfl) (fun _ F0i => ?_)
 have F0 : Fr 22 [(0, .agg #[.slice m_store_a m_store_n m_store_c, .slice m_touch_reads_a m_touch_reads_n m_touch_reads_c, .slice m_touch_writes_a m_touch_writes_n m_touch_writes_c]), (1, .int .i64 parent), (2, .int .i64 id)] _ := F0i
 clear F0i
 refine wp_seq (wp_region_lit (l_op (f_box F0 (At.nil w) rfl rfl rfl (F0.ev 0 rfl) rfl rfl fun b1 _ w1 F2 S1 => ?_)))
 refine l_op (f_alloc F2 S1.at' ZI_31 rfl rfl rfl rfl rfl fun b3 _ w3 F4 S3 => ?_)
 refine l_op (f_val F4 rfl rfl (r_assign rfl rfl) rfl fun _ F5 => ?_)
 refine l_op (f_val F5 rfl rfl (r_assign rfl rfl) rfl fun _ F6 => ?_)
 have F7 : Fr 22 [(8, .int .i64 0), (6, .pointer (some ⟨b3, 0, none⟩)), (3, .pointer (some ⟨b1, 0, none⟩)), (1, .int .i64 parent), (2, .int .i64 id)] _ := F6.cut rfl
 clear F0 F2 F4 F5 F6
 have T8 : Mv _ _ [bx b3 [.slice none 0 0, .slice none 0 0, .slice none 0 0] 31, bx b1 [.slice m_store_a m_store_n m_store_c, .slice m_touch_reads_a m_touch_reads_n m_touch_reads_c, .slice m_touch_writes_a m_touch_writes_n m_touch_writes_c] 31] _ := S3
 refine s_end (x_normal (wp_seq (wp_region_lit (l_op (f_val (v := .agg #[.slice m_store_a m_store_n m_store_c, .slice m_touch_reads_a m_touch_reads_n m_touch_reads_c, .slice m_touch_writes_a m_touch_writes_n m_touch_writes_c]) F7 rfl rfl (r_loadB T8.at' 1 TI_31 rfl rfl (F7.ev 3 rfl) rfl rfl (fun h => nomatch h) rfl) rfl fun _ F9 => ?_)))))
 refine l_op (f_call F9 CF_52 rfl rfl rfl rfl (lc (F9.ev 11 rfl) rfl) (impl_Mach_clone_c (m := m) (Rd.mv (Nat.succ_pos _) V_v_m_store (S1.trans T8)) (Rd.mv (Nat.succ_pos _) V_v_m_touch_reads (S1.trans T8)) (Rd.mv (Nat.succ_pos _) V_v_m_touch_writes (S1.trans T8)) (by first | assumption | omega | (refine bdC.s ?_; (repeat (first | with_reducible refine bdC.look ?_ | with_reducible refine bdC.lay ?_ | with_reducible refine bdC.set ?_ | with_reducible refine bdC.rp ?_)); exact bdC.le (by assumption) (by first | decide | omega)) | (refine bdC.r ?_; (repeat (first | with_reducible refine bdC.look ?_ | with_reducible refine bdC.lay ?_ | with_reducible refine bdC.set ?_ | with_reducible refine bdC.rp ?_)); exact bdC.le (by assumption) (by first | decide | omega)) | (refine bdC.w ?_; (repeat (first | with_reducible refine bdC.look ?_ | with_reducible refine bdC.lay ?_ | with_reducible refine bdC.set ?_ | with_reducible refine bdC.rp ?_)); exact bdC.le (by assumption) (by first | decide | omega)) | ((repeat (first | with_reducible refine bdC.look ?_ | with_reducible refine bdC.lay ?_ | with_reducible refine bdC.set ?_ | with_reducible refine bdC.rp ?_)); exact bdC.le (by assumption) (by first | decide | omega)) | decide | exact Nat.le_trans (keyNum_size _ _ (by assumption)) (by decide) | exact Nat.le_trans (keyNum_size _ _ ⟨by omega, by omega⟩) (by decide)) (by first | assumption | omega | (refine bdC.s ?_; (repeat (first | with_reducible refine bdC.look ?_ | with_reducible refine bdC.lay ?_ | with_reducible refine bdC.set ?_ | with_reducible refine bdC.rp ?_)); exact bdC.le (by assumption) (by first | decide | omega)) | (refine bdC.r ?_; (repeat (first | with_reducible refine bdC.look ?_ | with_reducible refine bdC.lay ?_ | with_reducible refine bdC.set ?_ | with_reducible refine bdC.rp ?_)); exact bdC.le (by assumption) (by first | decide | omega)) | (refine bdC.w ?_; (repeat (first | with_reducible refine bdC.look ?_ | with_reducible refine bdC.lay ?_ | with_reducible refine bdC.set ?_ | with_reducible refine bdC.rp ?_)); exact bdC.le (by assumption) (by first | decide | omega)) | ((repeat (first | with_reducible refine bdC.look ?_ | with_reducible refine bdC.lay ?_ | with_reducible refine bdC.set ?_ | with_reducible refine bdC.rp ?_)); exact bdC.le (by assumption) (by first | decide | omega)) | decide | exact Nat.le_trans (keyNum_size _ _ (by assumption)) (by decide) | exact Nat.le_trans (keyNum_size _ _ ⟨by omega, by omega⟩) (by decide)) (by first | assumption | omega | (refine bdC.s ?_; (repeat (first | with_reducible refine bdC.look ?_ | with_reducible refine bdC.lay ?_ | with_reducible refine bdC.set ?_ | with_reducible refine bdC.rp ?_)); exact bdC.le (by assumption) (by first | decide | omega)) | (refine bdC.r ?_; (repeat (first | with_reducible refine bdC.look ?_ | with_reducible refine bdC.lay ?_ | with_reducible refine bdC.set ?_ | with_reducible refine bdC.rp ?_)); exact bdC.le (by assumption) (by first | decide | omega)) | (refine bdC.w ?_; (repeat (first | with_reducible refine bdC.look ?_ | with_reducible refine bdC.lay ?_ | with_reducible refine bdC.set ?_ | with_reducible refine bdC.rp ?_)); exact bdC.le (by assumption) (by first | decide | omega)) | ((repeat (first | with_reducible refine bdC.look ?_ | with_reducible refine bdC.lay ?_ | with_reducible refine bdC.set ?_ | with_reducible refine bdC.rp ?_)); exact bdC.le (by assumption) (by first | decide | omega)) | decide | exact Nat.le_trans (keyNum_size _ _ (by assumption)) (by decide) | exact Nat.le_trans (keyNum_size _ _ ⟨by omega, by omega⟩) (by decide))) ?_)
 rintro _ w10 ⟨r0_store_a_10, r0_store_n_10, r0_store_c_10, r0_touch_reads_a_10, r0_touch_reads_n_10, r0_touch_reads_c_10, r0_touch_writes_a_10, r0_touch_writes_n_10, r0_touch_writes_c_10, rfl, m10⟩
 refine ⟨_, rfl, fun _ F11 => ?_⟩
 have S10 : Mv _ _ [ow 81 2 encC okC (.slice r0_store_a_10 r0_store_n_10 r0_store_c_10) m.store, ow 9 1 encS okS (.slice r0_touch_reads_a_10 r0_touch_reads_n_10 r0_touch_reads_c_10) m.touch.reads, ow 9 1 encS okS (.slice r0_touch_writes_a_10 r0_touch_writes_n_10 r0_touch_writes_c_10) m.touch.writes, bx b3 [.slice none 0 0, .slice none 0 0, .slice none 0 0] 31, bx b1 [.slice m_store_a m_store_n m_store_c, .slice m_touch_reads_a m_touch_reads_n m_touch_reads_c, .slice m_touch_writes_a m_touch_writes_n m_touch_writes_c] 31] _ := At.frame T8.at' [] rfl m10
 obtain ⟨lo10_0, lp10_0, lq10_0⟩ := At.ownInv S10.at' ET_26.hk 0 rfl
 obtain ⟨lo10_1, lp10_1, lq10_1⟩ := At.ownInv S10.at' ET_27.hk 1 rfl
 obtain ⟨lo10_2, lp10_2, lq10_2⟩ := At.ownInv S10.at' ET_27.hk 2 rfl
 clear m10
 refine l_op (s_store S10.at' 4 TI_31 rfl rfl rfl rfl rfl (F11.ev 3 rfl) (F11.ev 12 rfl) rfl rfl rfl rfl rfl fun w12 S12 => ?_)
 have F13 : Fr 22 [(12, .agg #[.slice r0_store_a_10 r0_store_n_10 r0_store_c_10, .slice r0_touch_reads_a_10 r0_touch_reads_n_10 r0_touch_reads_c_10, .slice r0_touch_writes_a_10 r0_touch_writes_n_10 r0_touch_writes_c_10]), (6, .pointer (some ⟨b3, 0, none⟩)), (3, .pointer (some ⟨b1, 0, none⟩)), (1, .int .i64 parent), (2, .int .i64 id)] _ := F11.cut rfl
 clear F7 F9 F11
 have T14 : Mv _ _ [bx b1 [.slice r0_store_a_10 r0_store_n_10 r0_store_c_10, .slice r0_touch_reads_a_10 r0_touch_reads_n_10 r0_touch_reads_c_10, .slice r0_touch_writes_a_10 r0_touch_writes_n_10 r0_touch_writes_c_10] 31, ow 81 2 encC okC (.slice r0_store_a_10 r0_store_n_10 r0_store_c_10) m.store, ow 9 1 encS okS (.slice r0_touch_reads_a_10 r0_touch_reads_n_10 r0_touch_reads_c_10) m.touch.reads, ow 9 1 encS okS (.slice r0_touch_writes_a_10 r0_touch_writes_n_10 r0_touch_writes_c_10) m.touch.writes, bx b3 [.slice none 0 0, .slice none 0 0, .slice none 0 0] 31] _ := S12
 refine s_end (x_normal (wp_seq (wp_region_lit (l_op (f_mv F13 rfl rfl rfl rfl rfl fun _ F15 => ?_)))))
 refine l_op (f_mv F15 rfl rfl rfl rfl rfl fun _ F16 => ?_)
 refine l_op (f_call F16 CF_74 rfl rfl rfl rfl (lc (F16.ev 3 rfl) (lc (F16.ev 14 rfl) (lc (F16.ev 15 rfl) rfl))) (impl_Mach_reap_c (m := m) (parent := parent) (id := id) h_parent h_id (Tb.mv V_tab0 (S1.trans (T8.trans (S10.trans T14)))) (Tb.mv V_tab1 (S1.trans (T8.trans (S10.trans T14)))) (by first | assumption | omega | (refine bdC.s ?_; (repeat (first | with_reducible refine bdC.look ?_ | with_reducible refine bdC.lay ?_ | with_reducible refine bdC.set ?_ | with_reducible refine bdC.rp ?_)); exact bdC.le (by assumption) (by first | decide | omega)) | (refine bdC.r ?_; (repeat (first | with_reducible refine bdC.look ?_ | with_reducible refine bdC.lay ?_ | with_reducible refine bdC.set ?_ | with_reducible refine bdC.rp ?_)); exact bdC.le (by assumption) (by first | decide | omega)) | (refine bdC.w ?_; (repeat (first | with_reducible refine bdC.look ?_ | with_reducible refine bdC.lay ?_ | with_reducible refine bdC.set ?_ | with_reducible refine bdC.rp ?_)); exact bdC.le (by assumption) (by first | decide | omega)) | ((repeat (first | with_reducible refine bdC.look ?_ | with_reducible refine bdC.lay ?_ | with_reducible refine bdC.set ?_ | with_reducible refine bdC.rp ?_)); exact bdC.le (by assumption) (by first | decide | omega)) | decide | exact Nat.le_trans (keyNum_size _ _ (by assumption)) (by decide) | exact Nat.le_trans (keyNum_size _ _ ⟨by omega, by omega⟩) (by decide)) (by first | assumption | omega | (refine bdC.s ?_; (repeat (first | with_reducible refine bdC.look ?_ | with_reducible refine bdC.lay ?_ | with_reducible refine bdC.set ?_ | with_reducible refine bdC.rp ?_)); exact bdC.le (by assumption) (by first | decide | omega)) | (refine bdC.r ?_; (repeat (first | with_reducible refine bdC.look ?_ | with_reducible refine bdC.lay ?_ | with_reducible refine bdC.set ?_ | with_reducible refine bdC.rp ?_)); exact bdC.le (by assumption) (by first | decide | omega)) | (refine bdC.w ?_; (repeat (first | with_reducible refine bdC.look ?_ | with_reducible refine bdC.lay ?_ | with_reducible refine bdC.set ?_ | with_reducible refine bdC.rp ?_)); exact bdC.le (by assumption) (by first | decide | omega)) | ((repeat (first | with_reducible refine bdC.look ?_ | with_reducible refine bdC.lay ?_ | with_reducible refine bdC.set ?_ | with_reducible refine bdC.rp ?_)); exact bdC.le (by assumption) (by first | decide | omega)) | decide | exact Nat.le_trans (keyNum_size _ _ (by assumption)) (by decide) | exact Nat.le_trans (keyNum_size _ _ ⟨by omega, by omega⟩) (by decide)) (by first | assumption | omega | (refine bdC.s ?_; (repeat (first | with_reducible refine bdC.look ?_ | with_reducible refine bdC.lay ?_ | with_reducible refine bdC.set ?_ | with_reducible refine bdC.rp ?_)); exact bdC.le (by assumption) (by first | decide | omega)) | (refine bdC.r ?_; (repeat (first | with_reducible refine bdC.look ?_ | with_reducible refine bdC.lay ?_ | with_reducible refine bdC.set ?_ | with_reducible refine bdC.rp ?_)); exact bdC.le (by assumption) (by first | decide | omega)) | (refine bdC.w ?_; (repeat (first | with_reducible refine bdC.look ?_ | with_reducible refine bdC.lay ?_ | with_reducible refine bdC.set ?_ | with_reducible refine bdC.rp ?_)); exact bdC.le (by assumption) (by first | decide | omega)) | ((repeat (first | with_reducible refine bdC.look ?_ | with_reducible refine bdC.lay ?_ | with_reducible refine bdC.set ?_ | with_reducible refine bdC.rp ?_)); exact bdC.le (by assumption) (by first | decide | omega)) | decide | exact Nat.le_trans (keyNum_size _ _ (by assumption)) (by decide) | exact Nat.le_trans (keyNum_size _ _ ⟨by omega, by omega⟩) (by decide)) (by first | assumption | omega | (refine bdC.s ?_; (repeat (first | with_reducible refine bdC.look ?_ | with_reducible refine bdC.lay ?_ | with_reducible refine bdC.set ?_ | with_reducible refine bdC.rp ?_)); exact bdC.le (by assumption) (by first | decide | omega)) | (refine bdC.r ?_; (repeat (first | with_reducible refine bdC.look ?_ | with_reducible refine bdC.lay ?_ | with_reducible refine bdC.set ?_ | with_reducible refine bdC.rp ?_)); exact bdC.le (by assumption) (by first | decide | omega)) | (refine bdC.w ?_; (repeat (first | with_reducible refine bdC.look ?_ | with_reducible refine bdC.lay ?_ | with_reducible refine bdC.set ?_ | with_reducible refine bdC.rp ?_)); exact bdC.le (by assumption) (by first | decide | omega)) | ((repeat (first | with_reducible refine bdC.look ?_ | with_reducible refine bdC.lay ?_ | with_reducible refine bdC.set ?_ | with_reducible refine bdC.rp ?_)); exact bdC.le (by assumption) (by first | decide | omega)) | decide | exact Nat.le_trans (keyNum_size _ _ (by assumption)) (by decide) | exact Nat.le_trans (keyNum_size _ _ ⟨by omega, by omega⟩) (by decide)) (At.pick (is := [0, 1, 2, 3]) T14.at' rfl) (V_off (is := [0, 1, 2, 3]))) ?_)
 rintro _ w17 ⟨qm_store_a_17, qm_store_n_17, qm_store_c_17, qm_touch_reads_a_17, qm_touch_reads_n_17, qm_touch_reads_c_17, qm_touch_writes_a_17, qm_touch_writes_n_17, qm_touch_writes_c_17, rfl, m17⟩
 refine ⟨_, rfl, fun _ F18 => ?_⟩
 have S17 : Mv _ _ [bx b1 [.slice qm_store_a_17 qm_store_n_17 qm_store_c_17, .slice qm_touch_reads_a_17 qm_touch_reads_n_17 qm_touch_reads_c_17, .slice qm_touch_writes_a_17 qm_touch_writes_n_17 qm_touch_writes_c_17] 31, ow 81 2 encC okC (.slice qm_store_a_17 qm_store_n_17 qm_store_c_17) (rpM m id).store, ow 9 1 encS okS (.slice qm_touch_reads_a_17 qm_touch_reads_n_17 qm_touch_reads_c_17) (rpM m id).touch.reads, ow 9 1 encS okS (.slice qm_touch_writes_a_17 qm_touch_writes_n_17 qm_touch_writes_c_17) (rpM m id).touch.writes, bx b3 [.slice none 0 0, .slice none 0 0, .slice none 0 0] 31] _ := At.frame T14.at' [0, 1, 2, 3] rfl m17
 obtain ⟨lo17_1, lp17_1, lq17_1⟩ := At.ownInv S17.at' ET_26.hk 1 rfl
 obtain ⟨lo17_2, lp17_2, lq17_2⟩ := At.ownInv S17.at' ET_27.hk 2 rfl
 obtain ⟨lo17_3, lp17_3, lq17_3⟩ := At.ownInv S17.at' ET_27.hk 3 rfl
 clear m17
 refine l_op (f_mv F18 rfl rfl rfl rfl rfl fun _ F19 => ?_)
 refine l_op (f_val (v := .int .i64 (((numOf (getKey m.store (keyNum (⟨#[114, 47]⟩ : ByteArray) id (⟨#[47, 120]⟩ : ByteArray))) : Nat) : Int) - 1)) F19 rfl rfl (r_extract rfl (F19.ev 13 rfl) rfl) rfl fun _ F20 => ?_)
 refine l_op (f_val (v := .int .i64 0) F20 rfl rfl (r_extract rfl (F20.ev 13 rfl) rfl) rfl fun _ F21 => ?_)
 refine l_op (f_as F21 rfl rfl rfl rfl rfl fun _ F22 => ?_)
 refine l_op (f_as F22 rfl rfl rfl rfl rfl fun _ F23 => ?_)
 have F24 : Fr 22 [(10, .int .i64 0), (9, .int .i64 (((numOf (getKey m.store (keyNum (⟨#[114, 47]⟩ : ByteArray) id (⟨#[47, 120]⟩ : ByteArray))) : Nat) : Int) - 1)), (6, .pointer (some ⟨b3, 0, none⟩)), (3, .pointer (some ⟨b1, 0, none⟩))] _ := F23.cut rfl
 clear F13 F15 F16 F18 F19 F20 F21 F22 F23
 refine s_end (x_normal (wp_seq (wp_region_lit (l_op (f_val (v := .agg #[.slice qm_store_a_17 qm_store_n_17 qm_store_c_17, .slice qm_touch_reads_a_17 qm_touch_reads_n_17 qm_touch_reads_c_17, .slice qm_touch_writes_a_17 qm_touch_writes_n_17 qm_touch_writes_c_17]) F24 rfl rfl (r_loadB S17.at' 0 TI_31 rfl rfl (F24.ev 3 rfl) rfl rfl (fun h => nomatch h) rfl) rfl fun _ F25 => ?_)))))
 refine l_op (f_mv F25 rfl rfl rfl rfl rfl fun _ F26 => ?_)
 refine l_op (f_mv F26 rfl rfl rfl rfl rfl fun _ F27 => ?_)
 refine l_op (s_store S17.at' 4 TI_31 rfl rfl rfl rfl rfl (F27.ev 6 rfl) (F27.ev 19 rfl) rfl rfl rfl rfl rfl fun w28 S28 => ?_)
 refine l_op (f_as F27 rfl rfl rfl rfl rfl fun _ F29 => ?_)
 refine l_op (f_as F29 rfl rfl rfl rfl rfl fun _ F30 => ?_)
 have F31 : Fr 22 [(8, .int .i64 0), (7, .int .i64 (((numOf (getKey m.store (keyNum (⟨#[114, 47]⟩ : ByteArray) id (⟨#[47, 120]⟩ : ByteArray))) : Nat) : Int) - 1)), (6, .pointer (some ⟨b3, 0, none⟩))] _ := F30.cut rfl
 clear F24 F25 F26 F27 F29 F30
 have T32 : Mv _ _ [bx b3 [.slice qm_store_a_17 qm_store_n_17 qm_store_c_17, .slice qm_touch_reads_a_17 qm_touch_reads_n_17 qm_touch_reads_c_17, .slice qm_touch_writes_a_17 qm_touch_writes_n_17 qm_touch_writes_c_17] 31, bx b1 [.slice qm_store_a_17 qm_store_n_17 qm_store_c_17, .slice qm_touch_reads_a_17 qm_touch_reads_n_17 qm_touch_reads_c_17, .slice qm_touch_writes_a_17 qm_touch_writes_n_17 qm_touch_writes_c_17] 31, ow 81 2 encC okC (.slice qm_store_a_17 qm_store_n_17 qm_store_c_17) (rpM m id).store, ow 9 1 encS okS (.slice qm_touch_reads_a_17 qm_touch_reads_n_17 qm_touch_reads_c_17) (rpM m id).touch.reads, ow 9 1 encS okS (.slice qm_touch_writes_a_17 qm_touch_writes_n_17 qm_touch_writes_c_17) (rpM m id).touch.writes] _ := S28
 refine s_end (x_normal (wp_ret ?_))
 refine x_done (v := .tuple #[.agg #[.slice qm_store_a_17 qm_store_n_17 qm_store_c_17, .slice qm_touch_reads_a_17 qm_touch_reads_n_17 qm_touch_reads_c_17, .slice qm_touch_writes_a_17 qm_touch_writes_n_17 qm_touch_writes_c_17], .int .i64 (((numOf (getKey m.store (keyNum (⟨#[114, 47]⟩ : ByteArray) id (⟨#[47, 120]⟩ : ByteArray))) : Nat) : Int) - 1), .int .i64 0]) F31 (results_3 Tryd.results37 (.cell (F31.ev 6 rfl) (run_loadVar' TI_31 _ [.slice qm_store_a_17 qm_store_n_17 qm_store_c_17, .slice qm_touch_reads_a_17 qm_touch_reads_n_17 qm_touch_reads_c_17, .slice qm_touch_writes_a_17 qm_touch_writes_n_17 qm_touch_writes_c_17] rfl (fun h => nomatch h) (At.cells T32.at' 0 rfl 0 [.slice qm_store_a_17 qm_store_n_17 qm_store_c_17, .slice qm_touch_reads_a_17 qm_touch_reads_n_17 qm_touch_reads_c_17, .slice qm_touch_writes_a_17 qm_touch_writes_n_17 qm_touch_writes_c_17] rfl))) (.tmp (F31.ev 7 rfl)) (.tmp (F31.ev 8 rfl))) ?_
 exact ⟨qm_store_a_17, qm_store_n_17, qm_store_c_17, qm_touch_reads_a_17, qm_touch_reads_n_17, qm_touch_reads_c_17, qm_touch_writes_a_17, qm_touch_writes_n_17, qm_touch_writes_c_17, rfl, (Mv.pick (S1.trans (T8.trans (S10.trans (T14.trans (S17.trans T32))))) [2, 3, 4] rfl)⟩
theorem impl_Mach_kids_c {w : World} {H : Nat → Prop} {m : MachD} {m_store_a : Option Addr} {m_store_n m_store_c : Nat} {m_touch_reads_a : Option Addr} {m_touch_reads_n m_touch_reads_c : Nat} {m_touch_writes_a : Option Addr} {m_touch_writes_n m_touch_writes_c : Nat} {m_b : Nat} {parent : Int} (h_parent : i64ok parent) (tab0 : Tb 0 H w) (tab1 : Tb 1 H w) (p0 : bdC 8589934592 m) (hA : At w [bx m_b [.slice m_store_a m_store_n m_store_c, .slice m_touch_reads_a m_touch_reads_n m_touch_reads_c, .slice m_touch_writes_a m_touch_writes_n m_touch_writes_c] 31, ow 81 2 encC okC (.slice m_store_a m_store_n m_store_c) m.store, ow 9 1 encS okS (.slice m_touch_reads_a m_touch_reads_n m_touch_reads_c) m.touch.reads, ow 9 1 encS okS (.slice m_touch_writes_a m_touch_writes_n m_touch_writes_c) m.touch.writes]) (hD : ∀ b, H b → ¬ fps [bx m_b [.slice m_store_a m_store_n m_store_c, .slice m_touch_reads_a m_touch_reads_n m_touch_reads_c, .slice m_touch_writes_a m_touch_writes_n m_touch_writes_c] 31, ow 81 2 encC okC (.slice m_store_a m_store_n m_store_c) m.store, ow 9 1 encS okS (.slice m_touch_reads_a m_touch_reads_n m_touch_reads_c) m.touch.reads, ow 9 1 encS okS (.slice m_touch_writes_a m_touch_writes_n m_touch_writes_c) m.touch.writes] b) :
    Calls Tryd.prog 75 #[.pointer (some ⟨m_b, 0, none⟩), .int .i64 parent] w fun e w' => ∃ (r0_a : Option Addr), ∃ (r0_n : Nat), ∃ (r0_c : Nat), ∃ (q_m_store_a : Option Addr), ∃ (q_m_store_n : Nat), ∃ (q_m_store_c : Nat), ∃ (q_m_touch_reads_a : Option Addr), ∃ (q_m_touch_reads_n : Nat), ∃ (q_m_touch_reads_c : Nat), ∃ (q_m_touch_writes_a : Option Addr), ∃ (q_m_touch_writes_n : Nat), ∃ (q_m_touch_writes_c : Nat), e = .returned (.slice r0_a r0_n r0_c) ∧ Mv [bx m_b [.slice m_store_a m_store_n m_store_c, .slice m_touch_reads_a m_touch_reads_n m_touch_reads_c, .slice m_touch_writes_a m_touch_writes_n m_touch_writes_c] 31, ow 81 2 encC okC (.slice m_store_a m_store_n m_store_c) m.store, ow 9 1 encS okS (.slice m_touch_reads_a m_touch_reads_n m_touch_reads_c) m.touch.reads, ow 9 1 encS okS (.slice m_touch_writes_a m_touch_writes_n m_touch_writes_c) m.touch.writes] w [ow 3 1 encI okI (.slice r0_a r0_n r0_c) (kidsR parent m (keysUnder m.store (⟨#[114, 47]⟩ : ByteArray))).2, bx m_b [.slice q_m_store_a q_m_store_n q_m_store_c, .slice q_m_touch_reads_a q_m_touch_reads_n q_m_touch_reads_c, .slice q_m_touch_writes_a q_m_touch_writes_n q_m_touch_writes_c] 31, ow 81 2 encC okC (.slice q_m_store_a q_m_store_n q_m_store_c) (kidsR parent m (keysUnder m.store (⟨#[114, 47]⟩ : ByteArray))).1.store, ow 9 1 encS okS (.slice q_m_touch_reads_a q_m_touch_reads_n q_m_touch_reads_c) (kidsR parent m (keysUnder m.store (⟨#[114, 47]⟩ : ByteArray))).1.touch.reads, ow 9 1 encS okS (.slice q_m_touch_writes_a q_m_touch_writes_n q_m_touch_writes_c) (kidsR parent m (keysUnder m.store (⟨#[114, 47]⟩ : ByteArray))).1.touch.writes] w' := by
 have uU : True := (fun _ => trivial) h_parent
 clear uU
 have V_tab0 : Tb 0 (V H w [bx m_b [.slice m_store_a m_store_n m_store_c, .slice m_touch_reads_a m_touch_reads_n m_touch_reads_c, .slice m_touch_writes_a m_touch_writes_n m_touch_writes_c] 31, ow 81 2 encC okC (.slice m_store_a m_store_n m_store_c) m.store, ow 9 1 encS okS (.slice m_touch_reads_a m_touch_reads_n m_touch_reads_c) m.touch.reads, ow 9 1 encS okS (.slice m_touch_writes_a m_touch_writes_n m_touch_writes_c) m.touch.writes]) w := Tb.start tab0 hD
 have V_tab1 : Tb 1 (V H w [bx m_b [.slice m_store_a m_store_n m_store_c, .slice m_touch_reads_a m_touch_reads_n m_touch_reads_c, .slice m_touch_writes_a m_touch_writes_n m_touch_writes_c] 31, ow 81 2 encC okC (.slice m_store_a m_store_n m_store_c) m.store, ow 9 1 encS okS (.slice m_touch_reads_a m_touch_reads_n m_touch_reads_c) m.touch.reads, ow 9 1 encS okS (.slice m_touch_writes_a m_touch_writes_n m_touch_writes_c) m.touch.writes]) w := Tb.start tab1 hD
 obtain ⟨lo1, lp1, lq1⟩ := At.ownInv hA ET_26.hk 1 rfl
 obtain ⟨lo2, lp2, lq2⟩ := At.ownInv hA ET_27.hk 2 rfl
 obtain ⟨lo3, lp3, lq3⟩ := At.ownInv hA ET_27.hk 3 rfl
 refine calls_enter 43 Tryd.func75 rfl Tryd.ntmps75 (Nat.le_of_ble_eq_true rfl) (fun _ F0i => ?_)
 have F0 : Fr 43 [(0, .pointer (some ⟨m_b, 0, none⟩)), (1, .int .i64 parent)] _ := F0i
 clear F0i
 refine wp_seq (wp_region_lit (l_op (f_val F0 rfl rfl (r_assign rfl rfl) rfl fun _ F1 => ?_)))
 have F2 : Fr 43 [(4, .slice none 0 0), (0, .pointer (some ⟨m_b, 0, none⟩)), (1, .int .i64 parent)] _ := F1.cut rfl
 clear F0 F1
 refine s_end (x_normal (wp_seq (wp_region_lit (l_op (f_val F2 rfl rfl (r_assign rfl rfl) rfl fun _ F3 => ?_)))))
 have F4 : Fr 43 [(5, .slice none 0 0), (0, .pointer (some ⟨m_b, 0, none⟩)), (1, .int .i64 parent)] _ := F3.cut rfl
 clear F2 F3
 refine s_end (x_normal (wp_seq (wp_seq (wp_region_lit (l_op (f_mv F4 rfl rfl rfl rfl rfl fun _ F5 => ?_))))))
 refine l_op (f_call F5 CF_107 rfl rfl rfl rfl (lc (F5.ev 10 rfl) (lc rfl rfl)) (impl_Mach_under_c (H := fun _ => True) (m := m) (pfx := (⟨#[114, 47]⟩ : ByteArray)) (by unfold okS; decide) (by first | assumption | omega | (refine bdC.s ?_; (repeat (first | with_reducible refine bdC.look ?_ | with_reducible refine bdC.lay ?_ | with_reducible refine bdC.set ?_)); exact bdC.le (by assumption) (by first | decide | omega)) | (refine bdC.r ?_; (repeat (first | with_reducible refine bdC.look ?_ | with_reducible refine bdC.lay ?_ | with_reducible refine bdC.set ?_)); exact bdC.le (by assumption) (by first | decide | omega)) | (refine bdC.w ?_; (repeat (first | with_reducible refine bdC.look ?_ | with_reducible refine bdC.lay ?_ | with_reducible refine bdC.set ?_)); exact bdC.le (by assumption) (by first | decide | omega)) | ((repeat (first | with_reducible refine bdC.look ?_ | with_reducible refine bdC.lay ?_ | with_reducible refine bdC.set ?_)); exact bdC.le (by assumption) (by first | decide | omega)) | decide | exact Nat.le_trans (keyNum_size _ _ (by assumption)) (by decide) | exact Nat.le_trans (keyNum_size _ _ ⟨by omega, by omega⟩) (by decide)) (by first | assumption | omega | (refine bdC.s ?_; (repeat (first | with_reducible refine bdC.look ?_ | with_reducible refine bdC.lay ?_ | with_reducible refine bdC.set ?_)); exact bdC.le (by assumption) (by first | decide | omega)) | (refine bdC.r ?_; (repeat (first | with_reducible refine bdC.look ?_ | with_reducible refine bdC.lay ?_ | with_reducible refine bdC.set ?_)); exact bdC.le (by assumption) (by first | decide | omega)) | (refine bdC.w ?_; (repeat (first | with_reducible refine bdC.look ?_ | with_reducible refine bdC.lay ?_ | with_reducible refine bdC.set ?_)); exact bdC.le (by assumption) (by first | decide | omega)) | ((repeat (first | with_reducible refine bdC.look ?_ | with_reducible refine bdC.lay ?_ | with_reducible refine bdC.set ?_)); exact bdC.le (by assumption) (by first | decide | omega)) | decide | exact Nat.le_trans (keyNum_size _ _ (by assumption)) (by decide) | exact Nat.le_trans (keyNum_size _ _ ⟨by omega, by omega⟩) (by decide)) (by first | assumption | omega | (refine bdC.s ?_; (repeat (first | with_reducible refine bdC.look ?_ | with_reducible refine bdC.lay ?_ | with_reducible refine bdC.set ?_)); exact bdC.le (by assumption) (by first | decide | omega)) | (refine bdC.r ?_; (repeat (first | with_reducible refine bdC.look ?_ | with_reducible refine bdC.lay ?_ | with_reducible refine bdC.set ?_)); exact bdC.le (by assumption) (by first | decide | omega)) | (refine bdC.w ?_; (repeat (first | with_reducible refine bdC.look ?_ | with_reducible refine bdC.lay ?_ | with_reducible refine bdC.set ?_)); exact bdC.le (by assumption) (by first | decide | omega)) | ((repeat (first | with_reducible refine bdC.look ?_ | with_reducible refine bdC.lay ?_ | with_reducible refine bdC.set ?_)); exact bdC.le (by assumption) (by first | decide | omega)) | decide | exact Nat.le_trans (keyNum_size _ _ (by assumption)) (by decide) | exact Nat.le_trans (keyNum_size _ _ ⟨by omega, by omega⟩) (by decide)) (At.pick (is := [0, 1, 2, 3]) hA rfl)) ?_)
 rintro _ w6 ⟨r0_a_6, r0_n_6, r0_c_6, qm_store_a_6, qm_store_n_6, qm_store_c_6, qm_touch_reads_a_6, qm_touch_reads_n_6, qm_touch_reads_c_6, qm_touch_writes_a_6, qm_touch_writes_n_6, qm_touch_writes_c_6, rfl, m6⟩
 refine ⟨_, rfl, fun _ F7 => ?_⟩
 have S6 : Mv _ _ [ow 9 1 encS okS (.slice r0_a_6 r0_n_6 r0_c_6) (keysUnder m.store (⟨#[114, 47]⟩ : ByteArray)), bx m_b [.slice qm_store_a_6 qm_store_n_6 qm_store_c_6, .slice qm_touch_reads_a_6 qm_touch_reads_n_6 qm_touch_reads_c_6, .slice qm_touch_writes_a_6 qm_touch_writes_n_6 qm_touch_writes_c_6] 31, ow 81 2 encC okC (.slice qm_store_a_6 qm_store_n_6 qm_store_c_6) (lookM m ((⟨#[114, 47]⟩ : ByteArray) ++ (⟨#[42]⟩ : ByteArray))).store, ow 9 1 encS okS (.slice qm_touch_reads_a_6 qm_touch_reads_n_6 qm_touch_reads_c_6) (lookM m ((⟨#[114, 47]⟩ : ByteArray) ++ (⟨#[42]⟩ : ByteArray))).touch.reads, ow 9 1 encS okS (.slice qm_touch_writes_a_6 qm_touch_writes_n_6 qm_touch_writes_c_6) (lookM m ((⟨#[114, 47]⟩ : ByteArray) ++ (⟨#[42]⟩ : ByteArray))).touch.writes] _ := At.frame hA [0, 1, 2, 3] rfl m6
 obtain ⟨lo6_0, lp6_0, lq6_0⟩ := At.ownInv S6.at' ET_27.hk 0 rfl
 obtain ⟨lo6_2, lp6_2, lq6_2⟩ := At.ownInv S6.at' ET_26.hk 2 rfl
 obtain ⟨lo6_3, lp6_3, lq6_3⟩ := At.ownInv S6.at' ET_27.hk 3 rfl
 obtain ⟨lo6_4, lp6_4, lq6_4⟩ := At.ownInv S6.at' ET_27.hk 4 rfl
 clear m6
 refine l_op (f_val F7 rfl rfl (r_len Tryd.underlying27 rfl (F7.ev 11 rfl)) rfl fun _ F8 => ?_)
 refine l_op (f_val F8 rfl rfl (r_move rfl rfl) rfl fun _ F9 => ?_)
 have F10 : Fr 43 [(13, .int .i64 0), (12, .int .i64 ((r0_n_6 : Nat) : Int)), (11, .slice r0_a_6 r0_n_6 r0_c_6), (5, .slice none 0 0), (0, .pointer (some ⟨m_b, 0, none⟩)), (1, .int .i64 parent)] _ := F9.cut rfl
 clear F4 F5 F7 F8 F9
 refine s_end (x_normal (wp_block ?_))
 have S12 : Mv [ow 9 1 encS okS (.slice r0_a_6 r0_n_6 r0_c_6) (keysUnder m.store (⟨#[114, 47]⟩ : ByteArray)), bx m_b [.slice qm_store_a_6 qm_store_n_6 qm_store_c_6, .slice qm_touch_reads_a_6 qm_touch_reads_n_6 qm_touch_reads_c_6, .slice qm_touch_writes_a_6 qm_touch_writes_n_6 qm_touch_writes_c_6] 31, ow 81 2 encC okC (.slice qm_store_a_6 qm_store_n_6 qm_store_c_6) (lookM m ((⟨#[114, 47]⟩ : ByteArray) ++ (⟨#[42]⟩ : ByteArray))).store, ow 9 1 encS okS (.slice qm_touch_reads_a_6 qm_touch_reads_n_6 qm_touch_reads_c_6) (lookM m ((⟨#[114, 47]⟩ : ByteArray) ++ (⟨#[42]⟩ : ByteArray))).touch.reads, ow 9 1 encS okS (.slice qm_touch_writes_a_6 qm_touch_writes_n_6 qm_touch_writes_c_6) (lookM m ((⟨#[114, 47]⟩ : ByteArray) ++ (⟨#[42]⟩ : ByteArray))).touch.writes] w6 [ow 3 1 encI okI (.slice none 0 0) ([] : List Int), ow 9 1 encS okS (.slice r0_a_6 r0_n_6 r0_c_6) (keysUnder m.store (⟨#[114, 47]⟩ : ByteArray)), bx m_b [.slice qm_store_a_6 qm_store_n_6 qm_store_c_6, .slice qm_touch_reads_a_6 qm_touch_reads_n_6 qm_touch_reads_c_6, .slice qm_touch_writes_a_6 qm_touch_writes_n_6 qm_touch_writes_c_6] 31, ow 81 2 encC okC (.slice qm_store_a_6 qm_store_n_6 qm_store_c_6) (lookM m ((⟨#[114, 47]⟩ : ByteArray) ++ (⟨#[42]⟩ : ByteArray))).store, ow 9 1 encS okS (.slice qm_touch_reads_a_6 qm_touch_reads_n_6 qm_touch_reads_c_6) (lookM m ((⟨#[114, 47]⟩ : ByteArray) ++ (⟨#[42]⟩ : ByteArray))).touch.reads, ow 9 1 encS okS (.slice qm_touch_writes_a_6 qm_touch_writes_n_6 qm_touch_writes_c_6) (lookM m ((⟨#[114, 47]⟩ : ByteArray) ++ (⟨#[42]⟩ : ByteArray))).touch.writes] w6 := mv_nil S6.at'
 refine x_loop (fun (k : Nat) aZ wZ => ∃ (M : MachD), ∃ (D : List Int), ∃ (oa : Option Addr), ∃ (on : Nat), ∃ (oc : Nat), ∃ (sa : Option Addr), ∃ (sn : Nat), ∃ (sc : Nat), ∃ (ra : Option Addr), ∃ (rn : Nat), ∃ (rc : Nat), ∃ (ua : Option Addr), ∃ (un : Nat), ∃ (uc : Nat), Fr 43 [(13, .int .i64 ((k : Nat) : Int)), (12, .int .i64 ((r0_n_6 : Nat) : Int)), (11, .slice r0_a_6 r0_n_6 r0_c_6), (5, .slice oa on oc), (0, .pointer (some ⟨m_b, 0, none⟩)), (1, .int .i64 parent)] aZ ∧ Mv [ow 3 1 encI okI (.slice none 0 0) ([] : List Int), ow 9 1 encS okS (.slice r0_a_6 r0_n_6 r0_c_6) (keysUnder m.store (⟨#[114, 47]⟩ : ByteArray)), bx m_b [.slice qm_store_a_6 qm_store_n_6 qm_store_c_6, .slice qm_touch_reads_a_6 qm_touch_reads_n_6 qm_touch_reads_c_6, .slice qm_touch_writes_a_6 qm_touch_writes_n_6 qm_touch_writes_c_6] 31, ow 81 2 encC okC (.slice qm_store_a_6 qm_store_n_6 qm_store_c_6) (lookM m ((⟨#[114, 47]⟩ : ByteArray) ++ (⟨#[42]⟩ : ByteArray))).store, ow 9 1 encS okS (.slice qm_touch_reads_a_6 qm_touch_reads_n_6 qm_touch_reads_c_6) (lookM m ((⟨#[114, 47]⟩ : ByteArray) ++ (⟨#[42]⟩ : ByteArray))).touch.reads, ow 9 1 encS okS (.slice qm_touch_writes_a_6 qm_touch_writes_n_6 qm_touch_writes_c_6) (lookM m ((⟨#[114, 47]⟩ : ByteArray) ++ (⟨#[42]⟩ : ByteArray))).touch.writes] w6 [ow 3 1 encI okI (.slice oa on oc) D, ow 9 1 encS okS (.slice r0_a_6 r0_n_6 r0_c_6) (keysUnder m.store (⟨#[114, 47]⟩ : ByteArray)), bx m_b [.slice sa sn sc, .slice ra rn rc, .slice ua un uc] 31, ow 81 2 encC okC (.slice sa sn sc) M.store, ow 9 1 encS okS (.slice ra rn rc) M.touch.reads, ow 9 1 encS okS (.slice ua un uc) M.touch.writes] wZ ∧ (M = (kidsR parent m ((keysUnder m.store (⟨#[114, 47]⟩ : ByteArray)).take k)).1) ∧ (k ≤ (keysUnder m.store (⟨#[114, 47]⟩ : ByteArray)).length) ∧ (on = D.length) ∧ (D = (kidsR parent m ((keysUnder m.store (⟨#[114, 47]⟩ : ByteArray)).take k)).2)) (fun (k : Nat) => (keysUnder m.store (⟨#[114, 47]⟩ : ByteArray)).length - k) (0) ?_ ?_
 · exact ⟨lookM m ((⟨#[114, 47]⟩ : ByteArray) ++ (⟨#[42]⟩ : ByteArray)), ([] : List Int), none, 0, 0, qm_store_a_6, qm_store_n_6, qm_store_c_6, qm_touch_reads_a_6, qm_touch_reads_n_6, qm_touch_reads_c_6, qm_touch_writes_a_6, qm_touch_writes_n_6, qm_touch_writes_c_6, F10.cut rfl, (Mv.refl S12.at'), rfl, by omega, rfl, rfl⟩
 · rintro k a11 w11 ⟨M, D, oa, on, oc, sa, sn, sc, ra, rn, rc, ua, un, uc, F11, S11, hk_0, hk_1, hk_2, hk_3⟩
   have wb := kidsR_bd (parent := parent) (ks := (keysUnder m.store (⟨#[114, 47]⟩ : ByteArray)).take k) p0
   have wl : ((keysUnder m.store (⟨#[114, 47]⟩ : ByteArray)).take k).length ≤ 8589934592 := by have := keysUnder_length m.store (⟨#[114, 47]⟩ : ByteArray); have := bdC.s p0; rw [List.length_take]; omega
   have wc : bdC 17179869185 M := by rw [hk_0]; exact wb.1.le (by omega)
   have wd := wb.2
   rw [← hk_3] at wd
   refine wp_seq (wp_region_lit (l_op (f_val F11 rfl rfl (r_cmp (b := decide (k < r0_n_6)) (.inr (.inr (.inl rfl))) rfl (F11.ev 13 rfl) (F11.ev 12 rfl) (dec_of (by omega))) rfl fun _ F13 => ?_)))
   have F14 : Fr 43 [(14, .bool (decide (k < r0_n_6))), (13, .int .i64 ((k : Nat) : Int)), (12, .int .i64 ((r0_n_6 : Nat) : Int)), (11, .slice r0_a_6 r0_n_6 r0_c_6), (5, .slice oa on oc), (0, .pointer (some ⟨m_b, 0, none⟩)), (1, .int .i64 parent)] _ := F13.cut rfl
   clear F11 F13
   refine s_end (x_normal (wp_seq (x_cond (p := k < r0_n_6) (F14.ev 14 rfl) (fun h15 => ?_) (fun h15 => ?_))))
   · skip
     refine wp_skip (x_normal (wp_seq (wp_block (wp_seq (wp_region_lit ?_)))))
     obtain ⟨B16, O16, x1, ad16, hx1, okx1, ln16, cl16⟩ := Rd.at (At.rd S11.at' ET_27.hk 1 rfl) k (by first | assumption | omega)
     clear ln16
     refine l_op (f_val F14 rfl rfl (r_indexAddr (i := k) ET_27 rfl ((F14.ev 11 rfl).trans (by rw [ad16])) (F14.ev 13 rfl) (by omega) (by first | assumption | omega)) rfl fun _ F17 => ?_)
     refine l_op (f_val (v := .string x1) F17 rfl rfl (r_load (cs := [.string x1]) TI_9 rfl (F17.ev 15 rfl) rfl (fun _ => rfl) (elem_sub (f := 0) cl16 [.string x1] rfl)) rfl fun _ F18 => ?_)
     refine l_op (f_as F18 rfl rfl rfl rfl rfl fun _ F19 => ?_)
     have F20 : Fr 43 [(7, .string x1), (13, .int .i64 ((k : Nat) : Int)), (12, .int .i64 ((r0_n_6 : Nat) : Int)), (11, .slice r0_a_6 r0_n_6 r0_c_6), (5, .slice oa on oc), (0, .pointer (some ⟨m_b, 0, none⟩)), (1, .int .i64 parent)] _ := F19.cut rfl
     clear F14 F17 F18 F19
     refine s_end (x_normal (wp_seq (wp_region_lit (l_op (f_mv F20 rfl rfl rfl rfl rfl fun _ F21 => ?_)))))
     refine l_op (f_call F21 CF_113 rfl rfl rfl rfl (lc (F21.ev 18 rfl) (lc rfl rfl)) (strings_CutSuffix_c (H := fun _ => True) (s := x1) (suffix := (⟨#[47, 112]⟩ : ByteArray)) okx1 (by unfold okS; decide)) ?_)
     rintro _ w22 ⟨rfl, m22, ok_r0_22⟩
     refine ⟨_, rfl, fun _ F23 => ?_⟩
     have S22 := At.frame0 S11.at' m22
     clear m22
     refine l_op (f_mv F23 rfl rfl rfl rfl rfl fun _ F24 => ?_)
     refine l_op (f_val (v := .string (cutSuf x1 (⟨#[47, 112]⟩ : ByteArray))) F24 rfl rfl (r_extract rfl (F24.ev 17 rfl) rfl) rfl fun _ F25 => ?_)
     refine l_op (f_val (v := .bool (hasSuf x1 (⟨#[47, 112]⟩ : ByteArray))) F25 rfl rfl (r_extract rfl (F25.ev 17 rfl) rfl) rfl fun _ F26 => ?_)
     refine l_op (f_as F26 rfl rfl rfl rfl rfl fun _ F27 => ?_)
     refine l_op (f_as F27 rfl rfl rfl rfl rfl fun _ F28 => ?_)
     have F29 : Fr 43 [(9, .bool (hasSuf x1 (⟨#[47, 112]⟩ : ByteArray))), (8, .string (cutSuf x1 (⟨#[47, 112]⟩ : ByteArray))), (7, .string x1), (13, .int .i64 ((k : Nat) : Int)), (12, .int .i64 ((r0_n_6 : Nat) : Int)), (11, .slice r0_a_6 r0_n_6 r0_c_6), (5, .slice oa on oc), (0, .pointer (some ⟨m_b, 0, none⟩)), (1, .int .i64 parent)] _ := F28.cut rfl
     clear F20 F21 F23 F24 F25 F26 F27 F28
     have T30 : Mv _ _ [ow 3 1 encI okI (.slice oa on oc) D, ow 9 1 encS okS (.slice r0_a_6 r0_n_6 r0_c_6) (keysUnder m.store (⟨#[114, 47]⟩ : ByteArray)), bx m_b [.slice sa sn sc, .slice ra rn rc, .slice ua un uc] 31, ow 81 2 encC okC (.slice sa sn sc) M.store, ow 9 1 encS okS (.slice ra rn rc) M.touch.reads, ow 9 1 encS okS (.slice ua un uc) M.touch.writes] _ := S22
     refine s_end (x_normal (wp_seq (wp_region_lit (l_op (f_mv F29 rfl rfl rfl rfl rfl fun _ F31 => ?_)))))
     refine l_op (f_val F31 rfl rfl (r_lenS (fun t ht => by cases ht; exact Tryd.underlying9) rfl rfl (F31.ev 22 rfl)) rfl fun _ F32 => ?_)
     refine l_op (f_val F32 rfl rfl (r_cmp (b := decide (x1.size ≥ 5)) (.inr (.inr (.inr (.inr (.inr rfl))))) rfl (F32.ev 23 rfl) rfl (dec_of (by omega))) rfl fun _ F33 => ?_)
     refine l_op (f_mv F33 rfl rfl rfl rfl rfl fun _ F34 => ?_)
     rcases Decidable.em (x1.size ≥ 5) with h35 | h35
     · rw [decide_eq_true h35] at F34
       refine l_op (f_mv F34 (wanted_g F34 rfl rfl rfl rfl) rfl rfl rfl rfl fun _ F36 => ?_)
       refine l_op (f_val F36 rfl rfl (r_pick (b := true) rfl (F36.ev 25 rfl) (F36.ev 26 rfl)) rfl fun _ F37 => ?_)
       refine l_op (f_mv F37 rfl rfl rfl rfl rfl fun _ F38 => ?_)
       rcases Bool.eq_false_or_eq_true (hasSuf x1 (⟨#[47, 112]⟩ : ByteArray)) with h39 | h39
       · rw [h39] at F38
         refine l_op (f_mv F38 (wanted_g F38 rfl rfl rfl rfl) rfl rfl rfl rfl fun _ F40 => ?_)
         refine l_op (f_mv F40 (wanted_g F40 rfl rfl rfl rfl) rfl rfl rfl rfl fun _ F41 => ?_)
         refine l_op (f_call F41 CF_57 (wanted_g F41 rfl rfl rfl rfl) rfl rfl rfl (lc (F41.ev 29 rfl) (lc (F41.ev 30 rfl) rfl)) (impl_Mach_num_c (m := M) (key := x1) okx1 (Tb.mv V_tab0 (S6.trans (S12.trans (S11.trans T30)))) (Tb.mv V_tab1 (S6.trans (S12.trans (S11.trans T30)))) (by exact bdC.le wc (by decide)) (At.pick (is := [2, 3, 4, 5]) T30.at' rfl) (V_off (is := [2, 3, 4, 5]))) ?_)
         rintro _ w42 ⟨qm_store_a_42, qm_store_n_42, qm_store_c_42, qm_touch_reads_a_42, qm_touch_reads_n_42, qm_touch_reads_c_42, qm_touch_writes_a_42, qm_touch_writes_n_42, qm_touch_writes_c_42, rfl, m42⟩
         refine ⟨_, rfl, fun _ F43 => ?_⟩
         have S42 : Mv _ _ [bx m_b [.slice qm_store_a_42 qm_store_n_42 qm_store_c_42, .slice qm_touch_reads_a_42 qm_touch_reads_n_42 qm_touch_reads_c_42, .slice qm_touch_writes_a_42 qm_touch_writes_n_42 qm_touch_writes_c_42] 31, ow 81 2 encC okC (.slice qm_store_a_42 qm_store_n_42 qm_store_c_42) (lookM M x1).store, ow 9 1 encS okS (.slice qm_touch_reads_a_42 qm_touch_reads_n_42 qm_touch_reads_c_42) (lookM M x1).touch.reads, ow 9 1 encS okS (.slice qm_touch_writes_a_42 qm_touch_writes_n_42 qm_touch_writes_c_42) (lookM M x1).touch.writes, ow 3 1 encI okI (.slice oa on oc) D, ow 9 1 encS okS (.slice r0_a_6 r0_n_6 r0_c_6) (keysUnder m.store (⟨#[114, 47]⟩ : ByteArray))] _ := At.frame T30.at' [2, 3, 4, 5] rfl m42
         obtain ⟨lo42_1, lp42_1, lq42_1⟩ := At.ownInv S42.at' ET_26.hk 1 rfl
         obtain ⟨lo42_2, lp42_2, lq42_2⟩ := At.ownInv S42.at' ET_27.hk 2 rfl
         obtain ⟨lo42_3, lp42_3, lq42_3⟩ := At.ownInv S42.at' ET_27.hk 3 rfl
         clear m42
         refine l_op (f_mv F43 (wanted_g F43 rfl rfl rfl rfl) rfl rfl rfl rfl fun _ F44 => ?_)
         refine l_op (f_val F44 (wanted_g F44 rfl rfl rfl rfl) rfl (r_cmp (b := decide (((numOf (getKey M.store x1) : Nat) : Int) = parent)) (.inl rfl) rfl (F44.ev 31 rfl) (F44.ev 32 rfl) (dec_of (by omega))) rfl fun _ F45 => ?_)
         refine l_op (f_val F45 rfl rfl (r_pick (b := true) rfl (F45.ev 28 rfl) (F45.ev 33 rfl)) rfl fun _ F46 => ?_)
         have F47 : Fr 43 [(34, .bool (decide (((numOf (getKey M.store x1) : Nat) : Int) = parent))), (8, .string (cutSuf x1 (⟨#[47, 112]⟩ : ByteArray))), (13, .int .i64 ((k : Nat) : Int)), (12, .int .i64 ((r0_n_6 : Nat) : Int)), (11, .slice r0_a_6 r0_n_6 r0_c_6), (5, .slice oa on oc), (0, .pointer (some ⟨m_b, 0, none⟩)), (1, .int .i64 parent)] _ := F46.cut rfl
         clear F29 F31 F32 F33 F34 F36 F37 F38 F40 F41 F43 F44 F45 F46
         refine s_end (x_normal (x_cond (p := ((numOf (getKey M.store x1) : Nat) : Int) = parent) (F47.ev 34 rfl) (fun h48 => ?_) (fun h48 => ?_)))
         · skip
           have hnk := numOf_le ((cutSuf x1 (⟨#[47, 112]⟩ : ByteArray)).extract 2 (cutSuf x1 (⟨#[47, 112]⟩ : ByteArray)).size)
           refine wp_region_lit (l_op (f_mv F47 rfl rfl rfl rfl rfl fun _ F49 => ?_))
           refine l_op (f_mv F49 rfl rfl rfl rfl rfl fun _ F50 => ?_)
           refine l_op (f_val F50 rfl rfl (r_sliceS (l := 2) (h := (cutSuf x1 (⟨#[47, 112]⟩ : ByteArray)).size) Tryd.underlying9 rfl (F50.ev 36 rfl) rfl rfl (by have := cutSuf_size5 (by assumption) ; omega) (by have := cutSuf_size5 (by assumption) ; omega) rfl) rfl fun _ F51 => ?_)
           refine l_op (f_call F51 CF_100 rfl rfl rfl rfl (lc (F51.ev 37 rfl) rfl) (impl_NumOf_c (val := (cutSuf x1 (⟨#[47, 112]⟩ : ByteArray)).extract 2 (cutSuf x1 (⟨#[47, 112]⟩ : ByteArray)).size) (okS_ext ok_r0_22) (Tb.mv V_tab0 (S6.trans (S12.trans (S11.trans (T30.trans S42))))) (Tb.mv V_tab1 (S6.trans (S12.trans (S11.trans (T30.trans S42))))) (by have hs := bdC.key p0 hx1; have := cutSuf_le x1 (⟨#[47, 112]⟩ : ByteArray); rw [ByteArray.size_extract]; omega)) ?_)
           rintro _ w52 ⟨rfl, m52⟩
           refine ⟨_, rfl, fun _ F53 => ?_⟩
           have S52 := At.frame0 S42.at' m52
           clear m52
           refine l_op (f_buildSl (ok := okI) (vs := [.int .i64 ((numOf ((cutSuf x1 (⟨#[47, 112]⟩ : ByteArray)).extract 2 (cutSuf x1 (⟨#[47, 112]⟩ : ByteArray)).size) : Nat) : Int)]) F53 S52.at' ([((numOf ((cutSuf x1 (⟨#[47, 112]⟩ : ByteArray)).extract 2 (cutSuf x1 (⟨#[47, 112]⟩ : ByteArray)).size) : Nat) : Int)]) ET_24 rfl rfl rfl rfl rfl rfl (lc (pr2 (F53.ev 38 rfl)) rfl) rfl rfl (fun x hx => (List.mem_singleton.1 hx) ▸ ⟨by omega, by omega⟩) fun b54 _ w54 F55 S54 => ?_)
           refine l_op (f_app (news := [((numOf ((cutSuf x1 (⟨#[47, 112]⟩ : ByteArray)).extract 2 (cutSuf x1 (⟨#[47, 112]⟩ : ByteArray)).size) : Nat) : Int)]) F55 S54.at' 5 ET_24 rfl rfl rfl rfl rfl rfl (F55.ev 35 rfl) (F55.ev 39 rfl) ((At.rd S54.at' ET_24.hk 0 rfl)).1 (by ((repeat (first | rw [List.length_append] | rw [List.length_cons] | rw [List.length_nil] | rw [List.length_take] | rw [List.length_drop])) <;> omega)) fun A56 N56 C56 _ w56 F57 S56 l56 => ?_)
           have S58 := At.drop S56.at' 1
           refine l_op (f_as F57 rfl rfl rfl rfl rfl fun _ F59 => ?_)
           have F60 : Fr 43 [(5, .slice A56 N56 C56), (13, .int .i64 ((k : Nat) : Int)), (12, .int .i64 ((r0_n_6 : Nat) : Int)), (11, .slice r0_a_6 r0_n_6 r0_c_6), (0, .pointer (some ⟨m_b, 0, none⟩)), (1, .int .i64 parent)] _ := F59.cut rfl
           clear F47 F49 F50 F51 F53 F55 F57 F59
           have T61 : Mv _ _ [ow 3 1 encI okI (.slice A56 N56 C56) (D ++ ([((numOf ((cutSuf x1 (⟨#[47, 112]⟩ : ByteArray)).extract 2 (cutSuf x1 (⟨#[47, 112]⟩ : ByteArray)).size) : Nat) : Int)])), bx m_b [.slice qm_store_a_42 qm_store_n_42 qm_store_c_42, .slice qm_touch_reads_a_42 qm_touch_reads_n_42 qm_touch_reads_c_42, .slice qm_touch_writes_a_42 qm_touch_writes_n_42 qm_touch_writes_c_42] 31, ow 81 2 encC okC (.slice qm_store_a_42 qm_store_n_42 qm_store_c_42) (lookM M x1).store, ow 9 1 encS okS (.slice qm_touch_reads_a_42 qm_touch_reads_n_42 qm_touch_reads_c_42) (lookM M x1).touch.reads, ow 9 1 encS okS (.slice qm_touch_writes_a_42 qm_touch_writes_n_42 qm_touch_writes_c_42) (lookM M x1).touch.writes, ow 9 1 encS okS (.slice r0_a_6 r0_n_6 r0_c_6) (keysUnder m.store (⟨#[114, 47]⟩ : ByteArray))] _ := S58
           refine s_end (x_block_normal (x_normal (wp_region_lit (l_op (f_val F60 rfl rfl (r_add (z := ((k + 1 : Nat) : Int)) rfl (F60.ev 13 rfl) rfl (by first | rfl | omega) ⟨by first | omega | (unfold i64ok at *; omega), by first | omega | (unfold i64ok at *; omega)⟩) rfl fun _ F62 => ?_)))))
           refine l_op (f_mv F62 rfl rfl rfl rfl rfl fun _ F63 => ?_)
           have F64 : Fr 43 [(13, .int .i64 ((k + 1 : Nat) : Int)), (5, .slice A56 N56 C56), (12, .int .i64 ((r0_n_6 : Nat) : Int)), (11, .slice r0_a_6 r0_n_6 r0_c_6), (0, .pointer (some ⟨m_b, 0, none⟩)), (1, .int .i64 parent)] _ := F63.cut rfl
           clear F60 F62 F63
           refine s_end ?_
           refine x_normal ⟨k + 1, by omega, (lookM M x1), D ++ ([((numOf ((cutSuf x1 (⟨#[47, 112]⟩ : ByteArray)).extract 2 (cutSuf x1 (⟨#[47, 112]⟩ : ByteArray)).size) : Nat) : Int)]), A56, N56, C56, qm_store_a_42, qm_store_n_42, qm_store_c_42, qm_touch_reads_a_42, qm_touch_reads_n_42, qm_touch_reads_c_42, qm_touch_writes_a_42, qm_touch_writes_n_42, qm_touch_writes_c_42, F64.cut rfl, ((S11.trans (T30.trans (S42.trans (S52.trans (S54.trans (S56.trans T61)))))).pick [0, 5, 1, 2, 3, 4] rfl), by rw [kidsR_step hx1]; first | with_reducible exact (kids_a hk_0 hk_3 (by assumption) (by assumption) (by assumption)).1 | with_reducible exact (kids_b hk_0 hk_3 (by assumption) (by assumption) (by assumption)).1 | with_reducible exact (kids_c hk_0 hk_3 (by assumption)).1 | with_reducible exact (kids_d hk_0 hk_3 (by assumption)).1, by omega, by assumption, by rw [kidsR_step hx1]; first | with_reducible exact (kids_a hk_0 hk_3 (by assumption) (by assumption) (by assumption)).2 | with_reducible exact (kids_b hk_0 hk_3 (by assumption) (by assumption) (by assumption)).2 | with_reducible exact (kids_c hk_0 hk_3 (by assumption)).2 | with_reducible exact (kids_d hk_0 hk_3 (by assumption)).2⟩
         · skip
           refine wp_skip (x_block_normal (x_normal (wp_region_lit (l_op (f_val F47 rfl rfl (r_add (z := ((k + 1 : Nat) : Int)) rfl (F47.ev 13 rfl) rfl (by first | rfl | omega) ⟨by first | omega | (unfold i64ok at *; omega), by first | omega | (unfold i64ok at *; omega)⟩) rfl fun _ F65 => ?_)))))
           refine l_op (f_mv F65 rfl rfl rfl rfl rfl fun _ F66 => ?_)
           have F67 : Fr 43 [(13, .int .i64 ((k + 1 : Nat) : Int)), (12, .int .i64 ((r0_n_6 : Nat) : Int)), (11, .slice r0_a_6 r0_n_6 r0_c_6), (5, .slice oa on oc), (0, .pointer (some ⟨m_b, 0, none⟩)), (1, .int .i64 parent)] _ := F66.cut rfl
           clear F47 F65 F66
           refine s_end ?_
           refine x_normal ⟨k + 1, by omega, (lookM M x1), D, oa, on, oc, qm_store_a_42, qm_store_n_42, qm_store_c_42, qm_touch_reads_a_42, qm_touch_reads_n_42, qm_touch_reads_c_42, qm_touch_writes_a_42, qm_touch_writes_n_42, qm_touch_writes_c_42, F67.cut rfl, ((S11.trans (T30.trans S42)).pick [4, 5, 0, 1, 2, 3] rfl), by rw [kidsR_step hx1]; first | with_reducible exact (kids_a hk_0 hk_3 (by assumption) (by assumption) (by assumption)).1 | with_reducible exact (kids_b hk_0 hk_3 (by assumption) (by assumption) (by assumption)).1 | with_reducible exact (kids_c hk_0 hk_3 (by assumption)).1 | with_reducible exact (kids_d hk_0 hk_3 (by assumption)).1, by omega, by assumption, by rw [kidsR_step hx1]; first | with_reducible exact (kids_a hk_0 hk_3 (by assumption) (by assumption) (by assumption)).2 | with_reducible exact (kids_b hk_0 hk_3 (by assumption) (by assumption) (by assumption)).2 | with_reducible exact (kids_c hk_0 hk_3 (by assumption)).2 | with_reducible exact (kids_d hk_0 hk_3 (by assumption)).2⟩
       · rw [h39] at F38
         refine l_op (f_skip F38 (wanted_g F38 rfl rfl rfl rfl) rfl rfl fun _ F68 => ?_)
         refine l_op (f_skip F68 (wanted_g F68 rfl rfl rfl rfl) rfl rfl fun _ F69 => ?_)
         refine l_op (f_skip F69 (wanted_g F69 rfl rfl rfl rfl) rfl rfl fun _ F70 => ?_)
         refine l_op (f_skip F70 (wanted_g F70 rfl rfl rfl rfl) rfl rfl fun _ F71 => ?_)
         refine l_op (f_skip F71 (wanted_g F71 rfl rfl rfl rfl) rfl rfl fun _ F72 => ?_)
         refine l_op (f_val F72 rfl rfl (r_pick (b := false) rfl (F72.ev 28 rfl) rfl) rfl fun _ F73 => ?_)
         have F74 : Fr 43 [(34, .bool false), (8, .string (cutSuf x1 (⟨#[47, 112]⟩ : ByteArray))), (13, .int .i64 ((k : Nat) : Int)), (12, .int .i64 ((r0_n_6 : Nat) : Int)), (11, .slice r0_a_6 r0_n_6 r0_c_6), (5, .slice oa on oc), (0, .pointer (some ⟨m_b, 0, none⟩)), (1, .int .i64 parent)] _ := F73.cut rfl
         clear F29 F31 F32 F33 F34 F36 F37 F38 F68 F69 F70 F71 F72 F73
         refine s_end (x_normal (wp_cond_false (F74.ev 34 rfl) (wp_skip (x_block_normal (x_normal (wp_region_lit (l_op (f_val F74 rfl rfl (r_add (z := ((k + 1 : Nat) : Int)) rfl (F74.ev 13 rfl) rfl (by first | rfl | omega) ⟨by first | omega | (unfold i64ok at *; omega), by first | omega | (unfold i64ok at *; omega)⟩) rfl fun _ F75 => ?_))))))))
         refine l_op (f_mv F75 rfl rfl rfl rfl rfl fun _ F76 => ?_)
         have F77 : Fr 43 [(13, .int .i64 ((k + 1 : Nat) : Int)), (12, .int .i64 ((r0_n_6 : Nat) : Int)), (11, .slice r0_a_6 r0_n_6 r0_c_6), (5, .slice oa on oc), (0, .pointer (some ⟨m_b, 0, none⟩)), (1, .int .i64 parent)] _ := F76.cut rfl
         clear F74 F75 F76
         refine s_end ?_
         refine x_normal ⟨k + 1, by omega, M, D, oa, on, oc, sa, sn, sc, ra, rn, rc, ua, un, uc, F77.cut rfl, ((S11.trans T30).pick [0, 1, 2, 3, 4, 5] rfl), by rw [kidsR_step hx1]; first | with_reducible exact (kids_a hk_0 hk_3 (by assumption) (by assumption) (by assumption)).1 | with_reducible exact (kids_b hk_0 hk_3 (by assumption) (by assumption) (by assumption)).1 | with_reducible exact (kids_c hk_0 hk_3 (by assumption)).1 | with_reducible exact (kids_d hk_0 hk_3 (by assumption)).1, by omega, by assumption, by rw [kidsR_step hx1]; first | with_reducible exact (kids_a hk_0 hk_3 (by assumption) (by assumption) (by assumption)).2 | with_reducible exact (kids_b hk_0 hk_3 (by assumption) (by assumption) (by assumption)).2 | with_reducible exact (kids_c hk_0 hk_3 (by assumption)).2 | with_reducible exact (kids_d hk_0 hk_3 (by assumption)).2⟩
     · rw [decide_eq_false h35] at F34
       refine l_op (f_skip F34 (wanted_g F34 rfl rfl rfl rfl) rfl rfl fun _ F78 => ?_)
       refine l_op (f_val F78 rfl rfl (r_pick (b := false) rfl (F78.ev 25 rfl) rfl) rfl fun _ F79 => ?_)
       refine l_op (f_mv F79 rfl rfl rfl rfl rfl fun _ F80 => ?_)
       refine l_op (f_skip F80 (wanted_g F80 rfl rfl rfl rfl) rfl rfl fun _ F81 => ?_)
       refine l_op (f_skip F81 (wanted_g F81 rfl rfl rfl rfl) rfl rfl fun _ F82 => ?_)
       refine l_op (f_skip F82 (wanted_g F82 rfl rfl rfl rfl) rfl rfl fun _ F83 => ?_)
       refine l_op (f_skip F83 (wanted_g F83 rfl rfl rfl rfl) rfl rfl fun _ F84 => ?_)
       refine l_op (f_skip F84 (wanted_g F84 rfl rfl rfl rfl) rfl rfl fun _ F85 => ?_)
       refine l_op (f_val F85 rfl rfl (r_pick (b := false) rfl (F85.ev 28 rfl) rfl) rfl fun _ F86 => ?_)
       have F87 : Fr 43 [(34, .bool false), (8, .string (cutSuf x1 (⟨#[47, 112]⟩ : ByteArray))), (13, .int .i64 ((k : Nat) : Int)), (12, .int .i64 ((r0_n_6 : Nat) : Int)), (11, .slice r0_a_6 r0_n_6 r0_c_6), (5, .slice oa on oc), (0, .pointer (some ⟨m_b, 0, none⟩)), (1, .int .i64 parent)] _ := F86.cut rfl
       clear F29 F31 F32 F33 F34 F78 F79 F80 F81 F82 F83 F84 F85 F86
       refine s_end (x_normal (wp_cond_false (F87.ev 34 rfl) (wp_skip (x_block_normal (x_normal (wp_region_lit (l_op (f_val F87 rfl rfl (r_add (z := ((k + 1 : Nat) : Int)) rfl (F87.ev 13 rfl) rfl (by first | rfl | omega) ⟨by first | omega | (unfold i64ok at *; omega), by first | omega | (unfold i64ok at *; omega)⟩) rfl fun _ F88 => ?_))))))))
       refine l_op (f_mv F88 rfl rfl rfl rfl rfl fun _ F89 => ?_)
       have F90 : Fr 43 [(13, .int .i64 ((k + 1 : Nat) : Int)), (12, .int .i64 ((r0_n_6 : Nat) : Int)), (11, .slice r0_a_6 r0_n_6 r0_c_6), (5, .slice oa on oc), (0, .pointer (some ⟨m_b, 0, none⟩)), (1, .int .i64 parent)] _ := F89.cut rfl
       clear F87 F88 F89
       refine s_end ?_
       refine x_normal ⟨k + 1, by omega, M, D, oa, on, oc, sa, sn, sc, ra, rn, rc, ua, un, uc, F90.cut rfl, ((S11.trans T30).pick [0, 1, 2, 3, 4, 5] rfl), by rw [kidsR_step hx1]; first | with_reducible exact (kids_a hk_0 hk_3 (by assumption) (by assumption) (by assumption)).1 | with_reducible exact (kids_b hk_0 hk_3 (by assumption) (by assumption) (by assumption)).1 | with_reducible exact (kids_c hk_0 hk_3 (by assumption)).1 | with_reducible exact (kids_d hk_0 hk_3 (by assumption)).1, by omega, by assumption, by rw [kidsR_step hx1]; first | with_reducible exact (kids_a hk_0 hk_3 (by assumption) (by assumption) (by assumption)).2 | with_reducible exact (kids_b hk_0 hk_3 (by assumption) (by assumption) (by assumption)).2 | with_reducible exact (kids_c hk_0 hk_3 (by assumption)).2 | with_reducible exact (kids_d hk_0 hk_3 (by assumption)).2⟩
   · skip
     refine wp_exit (x_then_exit (x_then_exit (x_block_here (x_normal (wp_seq (wp_region_lit (l_op (f_mv F14 rfl rfl rfl rfl rfl fun _ F91 => ?_))))))))
     refine l_op (f_as F91 rfl rfl rfl rfl rfl fun _ F92 => ?_)
     have F93 : Fr 43 [(4, .slice oa on oc)] _ := F92.cut rfl
     clear F14 F91 F92
     refine s_end (x_normal (wp_ret ?_))
     refine x_done (v := .slice oa on oc) F93 (results_1 Tryd.results75 (.tmp (F93.ev 4 rfl))) ?_
     exact ⟨oa, on, oc, sa, sn, sc, ra, rn, rc, ua, un, uc, rfl, (Mv.cast (Mv.pick (S6.trans (S12.trans S11)) [0, 2, 3, 4, 5] rfl) (by rw [(show D = (kidsR parent m (keysUnder m.store (⟨#[114, 47]⟩ : ByteArray))).2 from by first | rw [hk_3, List.take_of_length_le (by omega)] | rw [hk_0, List.take_of_length_le (by omega)]), (show M.store = (kidsR parent m (keysUnder m.store (⟨#[114, 47]⟩ : ByteArray))).1.store from by first | rw [hk_3, List.take_of_length_le (by omega)] | rw [hk_0, List.take_of_length_le (by omega)]), (show M.touch.reads = (kidsR parent m (keysUnder m.store (⟨#[114, 47]⟩ : ByteArray))).1.touch.reads from by first | rw [hk_3, List.take_of_length_le (by omega)] | rw [hk_0, List.take_of_length_le (by omega)]), (show M.touch.writes = (kidsR parent m (keysUnder m.store (⟨#[114, 47]⟩ : ByteArray))).1.touch.writes from by first | rw [hk_3, List.take_of_length_le (by omega)] | rw [hk_0, List.take_of_length_le (by omega)])]; all_goals rfl))⟩
theorem impl_KidsOf_c {w : World} {H : Nat → Prop} {m : MachD} {m_store_a : Option Addr} {m_store_n m_store_c : Nat} {m_touch_reads_a : Option Addr} {m_touch_reads_n m_touch_reads_c : Nat} {m_touch_writes_a : Option Addr} {m_touch_writes_n m_touch_writes_c : Nat} {parent : Int} (v_m_store : Rd 2 encC okC H w (.slice m_store_a m_store_n m_store_c) m.store) (v_m_touch_reads : Rd 1 encS okS H w (.slice m_touch_reads_a m_touch_reads_n m_touch_reads_c) m.touch.reads) (v_m_touch_writes : Rd 1 encS okS H w (.slice m_touch_writes_a m_touch_writes_n m_touch_writes_c) m.touch.writes) (h_parent : i64ok parent) (tab0 : Tb 0 H w) (tab1 : Tb 1 H w) (p0 : bdC 4294967296 m) :
    Calls Tryd.prog 38 #[.agg #[.slice m_store_a m_store_n m_store_c, .slice m_touch_reads_a m_touch_reads_n m_touch_reads_c, .slice m_touch_writes_a m_touch_writes_n m_touch_writes_c], .int .i64 parent] w fun e w' => ∃ (r0_store_a : Option Addr), ∃ (r0_store_n : Nat), ∃ (r0_store_c : Nat), ∃ (r0_touch_reads_a : Option Addr), ∃ (r0_touch_reads_n : Nat), ∃ (r0_touch_reads_c : Nat), ∃ (r0_touch_writes_a : Option Addr), ∃ (r0_touch_writes_n : Nat), ∃ (r0_touch_writes_c : Nat), ∃ (r1_a : Option Addr), ∃ (r1_n : Nat), ∃ (r1_c : Nat), e = .returned (.tuple #[.agg #[.slice r0_store_a r0_store_n r0_store_c, .slice r0_touch_reads_a r0_touch_reads_n r0_touch_reads_c, .slice r0_touch_writes_a r0_touch_writes_n r0_touch_writes_c], .slice r1_a r1_n r1_c]) ∧ Mv [] w [ow 81 2 encC okC (.slice r0_store_a r0_store_n r0_store_c) (kidsR parent m (keysUnder m.store (⟨#[114, 47]⟩ : ByteArray))).1.store, ow 9 1 encS okS (.slice r0_touch_reads_a r0_touch_reads_n r0_touch_reads_c) (kidsR parent m (keysUnder m.store (⟨#[114, 47]⟩ : ByteArray))).1.touch.reads, ow 9 1 encS okS (.slice r0_touch_writes_a r0_touch_writes_n r0_touch_writes_c) (kidsR parent m (keysUnder m.store (⟨#[114, 47]⟩ : ByteArray))).1.touch.writes, ow 3 1 encI okI (.slice r1_a r1_n r1_c) (kidsR parent m (keysUnder m.store (⟨#[114, 47]⟩ : ByteArray))).2] w' := by
 have uU : True := (fun _ => trivial) p0
 clear uU
 have V_v_m_store : Rd 2 encC okC (V H w []) w (.slice m_store_a m_store_n m_store_c) m.store := Rd.start v_m_store (fun _ _ => fps_nil _)
 obtain ⟨ln_m_store, le_m_store, mx_m_store, ni_m_store⟩ := Rd.inv v_m_store
 have V_v_m_touch_reads : Rd 1 encS okS (V H w []) w (.slice m_touch_reads_a m_touch_reads_n m_touch_reads_c) m.touch.reads := Rd.start v_m_touch_reads (fun _ _ => fps_nil _)
 obtain ⟨ln_m_touch_reads, le_m_touch_reads, mx_m_touch_reads, ni_m_touch_reads⟩ := Rd.inv v_m_touch_reads
 have V_v_m_touch_writes : Rd 1 encS okS (V H w []) w (.slice m_touch_writes_a m_touch_writes_n m_touch_writes_c) m.touch.writes := Rd.start v_m_touch_writes (fun _ _ => fps_nil _)
 obtain ⟨ln_m_touch_writes, le_m_touch_writes, mx_m_touch_writes, ni_m_touch_writes⟩ := Rd.inv v_m_touch_writes
 have V_tab0 : Tb 0 (V H w []) w := Tb.start tab0 (fun _ _ => fps_nil _)
 have V_tab1 : Tb 1 (V H w []) w := Tb.start tab1 (fun _ _ => fps_nil _)
 refine calls_enter 13 Tryd.func38 rfl Tryd.ntmps38 (Nat.le_of_ble_eq_true rfl) (fun _ F0i => ?_)
 have F0 : Fr 13 [(0, .agg #[.slice m_store_a m_store_n m_store_c, .slice m_touch_reads_a m_touch_reads_n m_touch_reads_c, .slice m_touch_writes_a m_touch_writes_n m_touch_writes_c]), (1, .int .i64 parent)] _ := F0i
 clear F0i
 refine wp_seq (wp_region_lit (l_op (f_box F0 (At.nil w) rfl rfl rfl (F0.ev 0 rfl) rfl rfl fun b1 _ w1 F2 S1 => ?_)))
 refine l_op (f_alloc F2 S1.at' ZI_31 rfl rfl rfl rfl rfl fun b3 _ w3 F4 S3 => ?_)
 refine l_op (f_val F4 rfl rfl (r_assign rfl rfl) rfl fun _ F5 => ?_)
 have F6 : Fr 13 [(5, .slice none 0 0), (4, .pointer (some ⟨b3, 0, none⟩)), (2, .pointer (some ⟨b1, 0, none⟩)), (1, .int .i64 parent)] _ := F5.cut rfl
 clear F0 F2 F4 F5
 have T7 : Mv _ _ [bx b3 [.slice none 0 0, .slice none 0 0, .slice none 0 0] 31, bx b1 [.slice m_store_a m_store_n m_store_c, .slice m_touch_reads_a m_touch_reads_n m_touch_reads_c, .slice m_touch_writes_a m_touch_writes_n m_touch_writes_c] 31] _ := S3
 refine s_end (x_normal (wp_seq (wp_region_lit (l_op (f_val (v := .agg #[.slice m_store_a m_store_n m_store_c, .slice m_touch_reads_a m_touch_reads_n m_touch_reads_c, .slice m_touch_writes_a m_touch_writes_n m_touch_writes_c]) F6 rfl rfl (r_loadB T7.at' 1 TI_31 rfl rfl (F6.ev 2 rfl) rfl rfl (fun h => nomatch h) rfl) rfl fun _ F8 => ?_)))))
 refine l_op (f_call F8 CF_52 rfl rfl rfl rfl (lc (F8.ev 7 rfl) rfl) (impl_Mach_clone_c (m := m) (Rd.mv (Nat.succ_pos _) V_v_m_store (S1.trans T7)) (Rd.mv (Nat.succ_pos _) V_v_m_touch_reads (S1.trans T7)) (Rd.mv (Nat.succ_pos _) V_v_m_touch_writes (S1.trans T7)) (by first | assumption | omega | (refine bdC.s ?_; (repeat (first | with_reducible refine bdC.look ?_ | with_reducible refine bdC.lay ?_ | with_reducible refine bdC.set ?_)); exact bdC.le (by assumption) (by first | decide | omega)) | (refine bdC.r ?_; (repeat (first | with_reducible refine bdC.look ?_ | with_reducible refine bdC.lay ?_ | with_reducible refine bdC.set ?_)); exact bdC.le (by assumption) (by first | decide | omega)) | (refine bdC.w ?_; (repeat (first | with_reducible refine bdC.look ?_ | with_reducible refine bdC.lay ?_ | with_reducible refine bdC.set ?_)); exact bdC.le (by assumption) (by first | decide | omega)) | ((repeat (first | with_reducible refine bdC.look ?_ | with_reducible refine bdC.lay ?_ | with_reducible refine bdC.set ?_)); exact bdC.le (by assumption) (by first | decide | omega)) | decide | exact Nat.le_trans (keyNum_size _ _ (by assumption)) (by decide) | exact Nat.le_trans (keyNum_size _ _ ⟨by omega, by omega⟩) (by decide)) (by first | assumption | omega | (refine bdC.s ?_; (repeat (first | with_reducible refine bdC.look ?_ | with_reducible refine bdC.lay ?_ | with_reducible refine bdC.set ?_)); exact bdC.le (by assumption) (by first | decide | omega)) | (refine bdC.r ?_; (repeat (first | with_reducible refine bdC.look ?_ | with_reducible refine bdC.lay ?_ | with_reducible refine bdC.set ?_)); exact bdC.le (by assumption) (by first | decide | omega)) | (refine bdC.w ?_; (repeat (first | with_reducible refine bdC.look ?_ | with_reducible refine bdC.lay ?_ | with_reducible refine bdC.set ?_)); exact bdC.le (by assumption) (by first | decide | omega)) | ((repeat (first | with_reducible refine bdC.look ?_ | with_reducible refine bdC.lay ?_ | with_reducible refine bdC.set ?_)); exact bdC.le (by assumption) (by first | decide | omega)) | decide | exact Nat.le_trans (keyNum_size _ _ (by assumption)) (by decide) | exact Nat.le_trans (keyNum_size _ _ ⟨by omega, by omega⟩) (by decide)) (by first | assumption | omega | (refine bdC.s ?_; (repeat (first | with_reducible refine bdC.look ?_ | with_reducible refine bdC.lay ?_ | with_reducible refine bdC.set ?_)); exact bdC.le (by assumption) (by first | decide | omega)) | (refine bdC.r ?_; (repeat (first | with_reducible refine bdC.look ?_ | with_reducible refine bdC.lay ?_ | with_reducible refine bdC.set ?_)); exact bdC.le (by assumption) (by first | decide | omega)) | (refine bdC.w ?_; (repeat (first | with_reducible refine bdC.look ?_ | with_reducible refine bdC.lay ?_ | with_reducible refine bdC.set ?_)); exact bdC.le (by assumption) (by first | decide | omega)) | ((repeat (first | with_reducible refine bdC.look ?_ | with_reducible refine bdC.lay ?_ | with_reducible refine bdC.set ?_)); exact bdC.le (by assumption) (by first | decide | omega)) | decide | exact Nat.le_trans (keyNum_size _ _ (by assumption)) (by decide) | exact Nat.le_trans (keyNum_size _ _ ⟨by omega, by omega⟩) (by decide))) ?_)
 rintro _ w9 ⟨r0_store_a_9, r0_store_n_9, r0_store_c_9, r0_touch_reads_a_9, r0_touch_reads_n_9, r0_touch_reads_c_9, r0_touch_writes_a_9, r0_touch_writes_n_9, r0_touch_writes_c_9, rfl, m9⟩
 refine ⟨_, rfl, fun _ F10 => ?_⟩
 have S9 : Mv _ _ [ow 81 2 encC okC (.slice r0_store_a_9 r0_store_n_9 r0_store_c_9) m.store, ow 9 1 encS okS (.slice r0_touch_reads_a_9 r0_touch_reads_n_9 r0_touch_reads_c_9) m.touch.reads, ow 9 1 encS okS (.slice r0_touch_writes_a_9 r0_touch_writes_n_9 r0_touch_writes_c_9) m.touch.writes, bx b3 [.slice none 0 0, .slice none 0 0, .slice none 0 0] 31, bx b1 [.slice m_store_a m_store_n m_store_c, .slice m_touch_reads_a m_touch_reads_n m_touch_reads_c, .slice m_touch_writes_a m_touch_writes_n m_touch_writes_c] 31] _ := At.frame T7.at' [] rfl m9
 obtain ⟨lo9_0, lp9_0, lq9_0⟩ := At.ownInv S9.at' ET_26.hk 0 rfl
 obtain ⟨lo9_1, lp9_1, lq9_1⟩ := At.ownInv S9.at' ET_27.hk 1 rfl
 obtain ⟨lo9_2, lp9_2, lq9_2⟩ := At.ownInv S9.at' ET_27.hk 2 rfl
 clear m9
 refine l_op (s_store S9.at' 4 TI_31 rfl rfl rfl rfl rfl (F10.ev 2 rfl) (F10.ev 8 rfl) rfl rfl rfl rfl rfl fun w11 S11 => ?_)
 have F12 : Fr 13 [(8, .agg #[.slice r0_store_a_9 r0_store_n_9 r0_store_c_9, .slice r0_touch_reads_a_9 r0_touch_reads_n_9 r0_touch_reads_c_9, .slice r0_touch_writes_a_9 r0_touch_writes_n_9 r0_touch_writes_c_9]), (4, .pointer (some ⟨b3, 0, none⟩)), (2, .pointer (some ⟨b1, 0, none⟩)), (1, .int .i64 parent)] _ := F10.cut rfl
 clear F6 F8 F10
 have T13 : Mv _ _ [bx b1 [.slice r0_store_a_9 r0_store_n_9 r0_store_c_9, .slice r0_touch_reads_a_9 r0_touch_reads_n_9 r0_touch_reads_c_9, .slice r0_touch_writes_a_9 r0_touch_writes_n_9 r0_touch_writes_c_9] 31, ow 81 2 encC okC (.slice r0_store_a_9 r0_store_n_9 r0_store_c_9) m.store, ow 9 1 encS okS (.slice r0_touch_reads_a_9 r0_touch_reads_n_9 r0_touch_reads_c_9) m.touch.reads, ow 9 1 encS okS (.slice r0_touch_writes_a_9 r0_touch_writes_n_9 r0_touch_writes_c_9) m.touch.writes, bx b3 [.slice none 0 0, .slice none 0 0, .slice none 0 0] 31] _ := S11
 refine s_end (x_normal (wp_seq (wp_region_lit (l_op (f_mv F12 rfl rfl rfl rfl rfl fun _ F14 => ?_)))))
 refine l_op (f_call F14 CF_75 rfl rfl rfl rfl (lc (F14.ev 2 rfl) (lc (F14.ev 9 rfl) rfl)) (impl_Mach_kids_c (m := m) (parent := parent) h_parent (Tb.mv V_tab0 (S1.trans (T7.trans (S9.trans T13)))) (Tb.mv V_tab1 (S1.trans (T7.trans (S9.trans T13)))) (by first | assumption | omega | (refine bdC.s ?_; (repeat (first | with_reducible refine bdC.look ?_ | with_reducible refine bdC.lay ?_ | with_reducible refine bdC.set ?_)); exact bdC.le (by assumption) (by first | decide | omega)) | (refine bdC.r ?_; (repeat (first | with_reducible refine bdC.look ?_ | with_reducible refine bdC.lay ?_ | with_reducible refine bdC.set ?_)); exact bdC.le (by assumption) (by first | decide | omega)) | (refine bdC.w ?_; (repeat (first | with_reducible refine bdC.look ?_ | with_reducible refine bdC.lay ?_ | with_reducible refine bdC.set ?_)); exact bdC.le (by assumption) (by first | decide | omega)) | ((repeat (first | with_reducible refine bdC.look ?_ | with_reducible refine bdC.lay ?_ | with_reducible refine bdC.set ?_)); exact bdC.le (by assumption) (by first | decide | omega)) | decide | exact Nat.le_trans (keyNum_size _ _ (by assumption)) (by decide) | exact Nat.le_trans (keyNum_size _ _ ⟨by omega, by omega⟩) (by decide)) (At.pick (is := [0, 1, 2, 3]) T13.at' rfl) (V_off (is := [0, 1, 2, 3]))) ?_)
 rintro _ w15 ⟨r0_a_15, r0_n_15, r0_c_15, qm_store_a_15, qm_store_n_15, qm_store_c_15, qm_touch_reads_a_15, qm_touch_reads_n_15, qm_touch_reads_c_15, qm_touch_writes_a_15, qm_touch_writes_n_15, qm_touch_writes_c_15, rfl, m15⟩
 refine ⟨_, rfl, fun _ F16 => ?_⟩
 have S15 : Mv _ _ [ow 3 1 encI okI (.slice r0_a_15 r0_n_15 r0_c_15) (kidsR parent m (keysUnder m.store (⟨#[114, 47]⟩ : ByteArray))).2, bx b1 [.slice qm_store_a_15 qm_store_n_15 qm_store_c_15, .slice qm_touch_reads_a_15 qm_touch_reads_n_15 qm_touch_reads_c_15, .slice qm_touch_writes_a_15 qm_touch_writes_n_15 qm_touch_writes_c_15] 31, ow 81 2 encC okC (.slice qm_store_a_15 qm_store_n_15 qm_store_c_15) (kidsR parent m (keysUnder m.store (⟨#[114, 47]⟩ : ByteArray))).1.store, ow 9 1 encS okS (.slice qm_touch_reads_a_15 qm_touch_reads_n_15 qm_touch_reads_c_15) (kidsR parent m (keysUnder m.store (⟨#[114, 47]⟩ : ByteArray))).1.touch.reads, ow 9 1 encS okS (.slice qm_touch_writes_a_15 qm_touch_writes_n_15 qm_touch_writes_c_15) (kidsR parent m (keysUnder m.store (⟨#[114, 47]⟩ : ByteArray))).1.touch.writes, bx b3 [.slice none 0 0, .slice none 0 0, .slice none 0 0] 31] _ := At.frame T13.at' [0, 1, 2, 3] rfl m15
 obtain ⟨lo15_0, lp15_0, lq15_0⟩ := At.ownInv S15.at' ET_24.hk 0 rfl
 obtain ⟨lo15_2, lp15_2, lq15_2⟩ := At.ownInv S15.at' ET_26.hk 2 rfl
 obtain ⟨lo15_3, lp15_3, lq15_3⟩ := At.ownInv S15.at' ET_27.hk 3 rfl
 obtain ⟨lo15_4, lp15_4, lq15_4⟩ := At.ownInv S15.at' ET_27.hk 4 rfl
 clear m15
 refine l_op (f_as F16 rfl rfl rfl rfl rfl fun _ F17 => ?_)
 have F18 : Fr 13 [(6, .slice r0_a_15 r0_n_15 r0_c_15), (4, .pointer (some ⟨b3, 0, none⟩)), (2, .pointer (some ⟨b1, 0, none⟩))] _ := F17.cut rfl
 clear F12 F14 F16 F17
 refine s_end (x_normal (wp_seq (wp_region_lit (l_op (f_val (v := .agg #[.slice qm_store_a_15 qm_store_n_15 qm_store_c_15, .slice qm_touch_reads_a_15 qm_touch_reads_n_15 qm_touch_reads_c_15, .slice qm_touch_writes_a_15 qm_touch_writes_n_15 qm_touch_writes_c_15]) F18 rfl rfl (r_loadB S15.at' 1 TI_31 rfl rfl (F18.ev 2 rfl) rfl rfl (fun h => nomatch h) rfl) rfl fun _ F19 => ?_)))))
 refine l_op (f_mv F19 rfl rfl rfl rfl rfl fun _ F20 => ?_)
 refine l_op (s_store S15.at' 5 TI_31 rfl rfl rfl rfl rfl (F20.ev 4 rfl) (F20.ev 11 rfl) rfl rfl rfl rfl rfl fun w21 S21 => ?_)
 refine l_op (f_as F20 rfl rfl rfl rfl rfl fun _ F22 => ?_)
 have F23 : Fr 13 [(5, .slice r0_a_15 r0_n_15 r0_c_15), (4, .pointer (some ⟨b3, 0, none⟩))] _ := F22.cut rfl
 clear F18 F19 F20 F22
 have T24 : Mv _ _ [bx b3 [.slice qm_store_a_15 qm_store_n_15 qm_store_c_15, .slice qm_touch_reads_a_15 qm_touch_reads_n_15 qm_touch_reads_c_15, .slice qm_touch_writes_a_15 qm_touch_writes_n_15 qm_touch_writes_c_15] 31, ow 3 1 encI okI (.slice r0_a_15 r0_n_15 r0_c_15) (kidsR parent m (keysUnder m.store (⟨#[114, 47]⟩ : ByteArray))).2, bx b1 [.slice qm_store_a_15 qm_store_n_15 qm_store_c_15, .slice qm_touch_reads_a_15 qm_touch_reads_n_15 qm_touch_reads_c_15, .slice qm_touch_writes_a_15 qm_touch_writes_n_15 qm_touch_writes_c_15] 31, ow 81 2 encC okC (.slice qm_store_a_15 qm_store_n_15 qm_store_c_15) (kidsR parent m (keysUnder m.store (⟨#[114, 47]⟩ : ByteArray))).1.store, ow 9 1 encS okS (.slice qm_touch_reads_a_15 qm_touch_reads_n_15 qm_touch_reads_c_15) (kidsR parent m (keysUnder m.store (⟨#[114, 47]⟩ : ByteArray))).1.touch.reads, ow 9 1 encS okS (.slice qm_touch_writes_a_15 qm_touch_writes_n_15 qm_touch_writes_c_15) (kidsR parent m (keysUnder m.store (⟨#[114, 47]⟩ : ByteArray))).1.touch.writes] _ := S21
 refine s_end (x_normal (wp_ret ?_))
 refine x_done (v := .tuple #[.agg #[.slice qm_store_a_15 qm_store_n_15 qm_store_c_15, .slice qm_touch_reads_a_15 qm_touch_reads_n_15 qm_touch_reads_c_15, .slice qm_touch_writes_a_15 qm_touch_writes_n_15 qm_touch_writes_c_15], .slice r0_a_15 r0_n_15 r0_c_15]) F23 (results_2 Tryd.results38 (.cell (F23.ev 4 rfl) (run_loadVar' TI_31 _ [.slice qm_store_a_15 qm_store_n_15 qm_store_c_15, .slice qm_touch_reads_a_15 qm_touch_reads_n_15 qm_touch_reads_c_15, .slice qm_touch_writes_a_15 qm_touch_writes_n_15 qm_touch_writes_c_15] rfl (fun h => nomatch h) (At.cells T24.at' 0 rfl 0 [.slice qm_store_a_15 qm_store_n_15 qm_store_c_15, .slice qm_touch_reads_a_15 qm_touch_reads_n_15 qm_touch_reads_c_15, .slice qm_touch_writes_a_15 qm_touch_writes_n_15 qm_touch_writes_c_15] rfl))) (.tmp (F23.ev 5 rfl))) ?_
 exact ⟨qm_store_a_15, qm_store_n_15, qm_store_c_15, qm_touch_reads_a_15, qm_touch_reads_n_15, qm_touch_reads_c_15, qm_touch_writes_a_15, qm_touch_writes_n_15, qm_touch_writes_c_15, r0_a_15, r0_n_15, r0_c_15, rfl, (Mv.pick (S1.trans (T7.trans (S9.trans (T13.trans (S15.trans T24))))) [3, 4, 5, 1] rfl)⟩
theorem laws_sameInts_c {w : World} {H : Nat → Prop} {a : List Int} {a_a : Option Addr} {a_n a_c : Nat} {b : List Int} {b_a : Option Addr} {b_n b_c : Nat} (v_a : Rd 1 encI okI H w (.slice a_a a_n a_c) a) (v_b : Rd 1 encI okI H w (.slice b_a b_n b_c) b) :
    Calls Tryd.prog 39 #[.slice a_a a_n a_c, .slice b_a b_n b_c] w fun e w' => e = .returned (.bool (decide (a = b))) ∧ Mv [] w [] w' := by
 have V_v_a : Rd 1 encI okI (V H w []) w (.slice a_a a_n a_c) a := Rd.start v_a (fun _ _ => fps_nil _)
 obtain ⟨ln_a, le_a, mx_a, ni_a⟩ := Rd.inv v_a
 have V_v_b : Rd 1 encI okI (V H w []) w (.slice b_a b_n b_c) b := Rd.start v_b (fun _ _ => fps_nil _)
 obtain ⟨ln_b, le_b, mx_b, ni_b⟩ := Rd.inv v_b
 refine calls_enter 26 Tryd.func39 rfl Tryd.ntmps39 (Nat.le_of_ble_eq_true rfl) (fun _ F0i => ?_)
 have F0 : Fr 26 [(0, .slice a_a a_n a_c), (1, .slice b_a b_n b_c)] _ := F0i
 clear F0i
 refine wp_seq (wp_region_lit (l_op (f_val F0 rfl rfl (r_assign rfl rfl) rfl fun _ F1 => ?_)))
 have F2 : Fr 26 [(4, .bool false), (0, .slice a_a a_n a_c), (1, .slice b_a b_n b_c)] _ := F1.cut rfl
 clear F0 F1
 refine s_end (x_normal (wp_seq (wp_seq (wp_region_lit (l_op (f_mv F2 rfl rfl rfl rfl rfl fun _ F3 => ?_))))))
 refine l_op (f_val F3 rfl rfl (r_len Tryd.underlying24 rfl (F3.ev 6 rfl)) rfl fun _ F4 => ?_)
 refine l_op (f_mv F4 rfl rfl rfl rfl rfl fun _ F5 => ?_)
 refine l_op (f_val F5 rfl rfl (r_len Tryd.underlying24 rfl (F5.ev 8 rfl)) rfl fun _ F6 => ?_)
 refine l_op (f_val F6 rfl rfl (r_cmp (b := decide (a_n ≠ b_n)) (.inr (.inl rfl)) rfl (F6.ev 7 rfl) (F6.ev 9 rfl) (dec_of (by omega))) rfl fun _ F7 => ?_)
 have F8 : Fr 26 [(10, .bool (decide (a_n ≠ b_n))), (0, .slice a_a a_n a_c), (1, .slice b_a b_n b_c)] _ := F7.cut rfl
 clear F2 F3 F4 F5 F6 F7
 refine s_end (x_normal (x_cond (p := a_n ≠ b_n) (F8.ev 10 rfl) (fun h9 => ?_) (fun h9 => ?_)))
 · skip
   refine wp_seq (wp_region_lit (l_op (f_val F8 rfl rfl (r_assign rfl rfl) rfl fun _ F10 => ?_)))
   have F11 : Fr 26 [(4, .bool false)] _ := F10.cut rfl
   clear F8 F10
   refine s_end (x_normal (wp_ret (x_then_ret ?_)))
   refine x_done (v := .bool false) F11 (results_1 Tryd.results39 (.tmp (F11.ev 4 rfl))) ?_
   exact ⟨(by rw [(show false = (decide (a = b)) from by first | exact (eqL_len ln_a ln_b (by assumption)).symm | exact (eqL_at hx1 hx2 (by assumption)).symm | exact (eqL_end hk_1 (by omega) (by omega)).symm)]), (Mv.pick (Mv.refl (At.nil w)) [] rfl)⟩
 · skip
   refine wp_skip (x_normal (wp_seq (wp_seq (wp_region_lit (l_op (f_val F8 rfl rfl (r_assign rfl rfl) rfl fun _ F12 => ?_))))))
   have F13 : Fr 26 [(5, .int .i64 0), (0, .slice a_a a_n a_c), (1, .slice b_a b_n b_c)] _ := F12.cut rfl
   clear F8 F12
   refine s_end (x_normal (wp_block ?_))
   refine x_loop (fun (k : Nat) aZ wZ => Fr 26 [(5, .int .i64 ((k : Nat) : Int)), (0, .slice a_a a_n a_c), (1, .slice b_a b_n b_c)] aZ ∧ Mv [] w [] wZ ∧ (k ≤ a_n) ∧ (a.take k = b.take k)) (fun (k : Nat) => a_n - k) (0) ?_ ?_
   · exact ⟨F13.cut rfl, (Mv.refl (At.nil w)), by omega, rfl⟩
   · rintro k a14 w14 ⟨F14, S14, hk_0, hk_1⟩
     refine wp_seq (wp_seq (wp_region_lit (l_op (f_mv F14 rfl rfl rfl rfl rfl fun _ F15 => ?_))))
     refine l_op (f_mv F15 rfl rfl rfl rfl rfl fun _ F16 => ?_)
     refine l_op (f_val F16 rfl rfl (r_len Tryd.underlying24 rfl (F16.ev 12 rfl)) rfl fun _ F17 => ?_)
     refine l_op (f_val F17 rfl rfl (r_cmp (b := decide (k < a_n)) (.inr (.inr (.inl rfl))) rfl (F17.ev 11 rfl) (F17.ev 13 rfl) (dec_of (by omega))) rfl fun _ F18 => ?_)
     have F19 : Fr 26 [(14, .bool (decide (k < a_n))), (5, .int .i64 ((k : Nat) : Int)), (0, .slice a_a a_n a_c), (1, .slice b_a b_n b_c)] _ := F18.cut rfl
     clear F14 F15 F16 F17 F18
     refine s_end (x_normal (x_cond (p := k < a_n) (F19.ev 14 rfl) (fun h20 => ?_) (fun h20 => ?_)))
     · skip
       refine wp_skip (x_normal (wp_seq (wp_block (wp_seq ?_))))
       obtain ⟨x1, hx1, okx1⟩ := Rd.elem (Rd.mv (Nat.succ_pos _) V_v_a S14) k (by first | assumption | omega)
       obtain ⟨x2, hx2, okx2⟩ := Rd.elem (Rd.mv (Nat.succ_pos _) V_v_b S14) k (by first | assumption | omega)
       refine x_draw (fun aZ wZ => Fr 26 [(0, .slice a_a a_n a_c), (1, .slice b_a b_n b_c), (5, .int .i64 ((k : Nat) : Int)), (25, .bool (decide (x1 ≠ x2)))] aZ ∧ Mv [] w14 [] wZ) [] mixed S14.at' (listed := #[false, false, false, false, false, false, false, false, false]) rfl (fun w22 S22 => ?_) [] rfl ?_
       · skip
         refine g_take F19 rfl (i := 0) (listed' := #[true, false, false, false, false, false, false, false, false]) rfl (by kernel_rfl) (by kernel_rfl) (by kernel_rfl) (fun _ _ _ h => h) (Sd.of (Mv.refl S22.at') [] rfl) rfl rfl rfl rfl (fun _ hz => (r_move rfl (F19.ev 0 rfl))) fun _ F23 => ?_
         refine g_take F23 rfl (i := 1) (listed' := #[true, true, false, false, false, false, false, false, false]) rfl (by kernel_rfl) (by kernel_rfl) (by kernel_rfl) (fun _ _ _ h => h) (Sd.of (Mv.refl S22.at') [] rfl) rfl rfl rfl rfl (fun _ hz => (r_move rfl (F23.ev 5 rfl))) fun _ F24 => ?_
         obtain ⟨B25, O25, y25, ad25, hy25, oky25, ln25, cl25⟩ := Rd.atK (Nat.succ_pos _) (Rd.mv (Nat.succ_pos _) V_v_a (S14.trans S22)) k (by first | assumption | omega)
         clear ln25
         obtain rfl := Option.some.inj (hx1.symm.trans hy25)
         clear hy25 oky25
         refine g_take F24 rfl (i := 2) (listed' := #[true, true, true, false, false, false, false, false, false]) rfl (by kernel_rfl) (by kernel_rfl) (by kernel_rfl) (fun _ _ _ h => h) (Sd.of (Mv.refl S22.at') [] rfl) rfl rfl rfl rfl (fun _ hz => (r_indexAddr (i := k) ET_24 rfl ((F24.ev 17 rfl).trans (by rw [ad25])) (F24.ev 18 rfl) (by omega) (by first | assumption | omega))) fun _ F26 => ?_
         refine g_take (v := .int .i64 x1) F26 rfl (i := 3) (listed' := #[true, true, true, true, false, false, false, false, false]) rfl (by kernel_rfl) (by kernel_rfl) (by kernel_rfl) (fun _ _ _ h => h) (Sd.of (Mv.refl S22.at') [] rfl) rfl rfl rfl rfl (fun _ hz => (r_load (cs := [.int .i64 x1]) TI_3 rfl (F26.ev 19 rfl) rfl (fun _ => rfl) (elem_sub (f := 0) (cl25 _ hz.kp) [.int .i64 x1] rfl))) fun _ F27 => ?_
         refine g_take F27 rfl (i := 4) (listed' := #[true, true, true, true, true, false, false, false, false]) rfl (by kernel_rfl) (by kernel_rfl) (by kernel_rfl) (fun _ _ _ h => h) (Sd.of (Mv.refl S22.at') [] rfl) rfl rfl rfl rfl (fun _ hz => (r_move rfl (F27.ev 1 rfl))) fun _ F28 => ?_
         refine g_take F28 rfl (i := 5) (listed' := #[true, true, true, true, true, true, false, false, false]) rfl (by kernel_rfl) (by kernel_rfl) (by kernel_rfl) (fun _ _ _ h => h) (Sd.of (Mv.refl S22.at') [] rfl) rfl rfl rfl rfl (fun _ hz => (r_move rfl (F28.ev 5 rfl))) fun _ F29 => ?_
         obtain ⟨B30, O30, y30, ad30, hy30, oky30, ln30, cl30⟩ := Rd.atK (Nat.succ_pos _) (Rd.mv (Nat.succ_pos _) V_v_b (S14.trans S22)) k (by first | assumption | omega)
         clear ln30
         obtain rfl := Option.some.inj (hx2.symm.trans hy30)
         clear hy30 oky30
         refine g_take F29 rfl (i := 6) (listed' := #[true, true, true, true, true, true, true, false, false]) rfl (by kernel_rfl) (by kernel_rfl) (by kernel_rfl) (fun _ _ _ h => h) (Sd.of (Mv.refl S22.at') [] rfl) rfl rfl rfl rfl (fun _ hz => (r_indexAddr (i := k) ET_24 rfl ((F29.ev 21 rfl).trans (by rw [ad30])) (F29.ev 22 rfl) (by omega) (by first | assumption | omega))) fun _ F31 => ?_
         refine g_take (v := .int .i64 x2) F31 rfl (i := 7) (listed' := #[true, true, true, true, true, true, true, true, false]) rfl (by kernel_rfl) (by kernel_rfl) (by kernel_rfl) (fun _ _ _ h => h) (Sd.of (Mv.refl S22.at') [] rfl) rfl rfl rfl rfl (fun _ hz => (r_load (cs := [.int .i64 x2]) TI_3 rfl (F31.ev 23 rfl) rfl (fun _ => rfl) (elem_sub (f := 0) (cl30 _ hz.kp) [.int .i64 x2] rfl))) fun _ F32 => ?_
         refine g_take F32 rfl (i := 8) (listed' := #[true, true, true, true, true, true, true, true, true]) rfl (by kernel_rfl) (by kernel_rfl) (by kernel_rfl) (fun _ _ _ h => h) (Sd.of (Mv.refl S22.at') [] rfl) rfl rfl rfl rfl (fun _ hz => (r_cmp (b := decide (x1 ≠ x2)) (.inr (.inl rfl)) rfl (F32.ev 20 rfl) (F32.ev 24 rfl) (dec_of (by omega)))) fun _ F33 => ?_
         refine wpAnyH_done (by kernel_rfl) (x_normal ?_) _
         exact ⟨F33.cut rfl, (S22.pick [] rfl)⟩
       · rintro a34 w34 ⟨F34, S34⟩
         refine x_normal (x_cond (p := x1 ≠ x2) (F34.ev 25 rfl) (fun h35 => ?_) (fun h35 => ?_))
         · skip
           refine wp_seq (wp_region_lit (l_op (f_val F34 rfl rfl (r_assign rfl rfl) rfl fun _ F36 => ?_)))
           have F37 : Fr 26 [(4, .bool false)] _ := F36.cut rfl
           clear F34 F36
           refine s_end (x_normal (wp_ret (x_block_ret (x_then_ret (x_then_ret (x_block_ret (x_then_ret ?_)))))))
           refine x_done (v := .bool false) F37 (results_1 Tryd.results39 (.tmp (F37.ev 4 rfl))) ?_
           exact ⟨(by rw [(show false = (decide (a = b)) from by first | exact (eqL_len ln_a ln_b (by assumption)).symm | exact (eqL_at hx1 hx2 (by assumption)).symm | exact (eqL_end hk_1 (by omega) (by omega)).symm)]), (Mv.pick (S14.trans S34) [] rfl)⟩
         · skip
           refine wp_skip (x_block_normal (x_normal (wp_region_lit (l_op (f_mv F34 rfl rfl rfl rfl rfl fun _ F38 => ?_)))))
           refine l_op (f_val F38 rfl rfl (r_add (z := ((k + 1 : Nat) : Int)) rfl (F38.ev 15 rfl) rfl (by first | rfl | omega) ⟨by first | omega | (unfold i64ok at *; omega), by first | omega | (unfold i64ok at *; omega)⟩) rfl fun _ F39 => ?_)
           refine l_op (f_as F39 rfl rfl rfl rfl rfl fun _ F40 => ?_)
           have F41 : Fr 26 [(5, .int .i64 ((k + 1 : Nat) : Int)), (0, .slice a_a a_n a_c), (1, .slice b_a b_n b_c)] _ := F40.cut rfl
           clear F34 F38 F39 F40
           refine s_end ?_
           refine x_normal ⟨k + 1, by omega, F41.cut rfl, ((S14.trans S34).pick [] rfl), by omega, eqL_step hk_1 hx1 hx2 (by assumption)⟩
     · skip
       refine wp_exit (x_then_exit (x_then_exit (x_block_here (x_normal (wp_seq (wp_region_lit (l_op (f_val F19 rfl rfl (r_assign rfl rfl) rfl fun _ F42 => ?_))))))))
       have F43 : Fr 26 [(4, .bool true)] _ := F42.cut rfl
       clear F19 F42
       refine s_end (x_normal (wp_ret ?_))
       refine x_done (v := .bool true) F43 (results_1 Tryd.results39 (.tmp (F43.ev 4 rfl))) ?_
       exact ⟨(by rw [(show true = (decide (a = b)) from by first | exact (eqL_len ln_a ln_b (by assumption)).symm | exact (eqL_at hx1 hx2 (by assumption)).symm | exact (eqL_end hk_1 (by omega) (by omega)).symm)]), (Mv.pick S14 [] rfl)⟩
end Go.Proofs.YtjiplnaceiofmaaDoor
