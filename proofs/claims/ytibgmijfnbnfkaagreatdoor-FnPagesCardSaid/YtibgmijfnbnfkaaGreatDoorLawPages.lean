/-
  PROVED HERE: whatever the input, the statement laws.FnPages returns true: a page contains what was stored; a new process has copies of the pages, which are independent from then on. Condition: the tables and errors of the library that the row lists stand as the program's text lays them (the card ties that).
-/
import Derived.Test.YtibgmijfnbnfkaaGreatDoorGenPg
import Derived.Test.YtibgmijfnbnfkaaGreatDoorDatB
import Derived.Test.YtibgmijfnbnfkaaGreatDoorLaw2
import Derived.Test.YtibgmijfnbnfkaaGreatDoorLaw3
namespace Go.Proofs.YtibgmijfnbnfkaaGreatDoor
open Go.ChangeShapes Go.WideShapes Go.ChangeAt Go.RowKit
set_option maxRecDepth 100000
set_option maxHeartbeats 1000000

theorem key_pg {a r : Nat} (ha : a ≤ 9) (hr : r < 4) : keyOk (keyNum (keyNum (⟨#[109, 47]⟩ : ByteArray) a (⟨#[47]⟩ : ByteArray)) r (⟨#[]⟩ : ByteArray)) = true := by
  have hs := size_num (h := (⟨#[109, 47]⟩ : ByteArray)) (t := (⟨#[47]⟩ : ByteArray)) (n := a) (by omega)
  refine key_ok (by omega) (kbs_num (n := a) (by decide) (by decide)) (by decide) ?_ ?_
  · have := ByteArray.size_append (a := (⟨#[109, 47]⟩ : ByteArray) ++ decS ((a : Nat) : Int)) (b := (⟨#[47]⟩ : ByteArray))
    unfold keyNum
    have e1 : (⟨#[47]⟩ : ByteArray).size = 1 := rfl
    rw [ByteArray.size_append]; omega
  · have e1 : (⟨#[47]⟩ : ByteArray).size = 1 := rfl
    have e2 : (⟨#[109, 47]⟩ : ByteArray).size = 2 := rfl
    have e3 : (⟨#[]⟩ : ByteArray).size = 0 := rfl
    have hs' : (keyNum (⟨#[109, 47]⟩ : ByteArray) a (⟨#[47]⟩ : ByteArray)).size ≤ (⟨#[109, 47]⟩ : ByteArray).size + 3 + (⟨#[47]⟩ : ByteArray).size := hs
    omega
theorem pageV_size' {t : ByteArray} (h : t.size ≤ 20) : (pageV t).size ≤ 60 := by
  unfold pageV
  split
  · exact Nat.zero_le _
  · rw [ByteArray.size_append, hexS_size]
    have e1 : (⟨#[45]⟩ : ByteArray).size = 1 := rfl
    omega
theorem pg_keys {m : MachD} {a : Nat} {p : Int} {t : ByteArray} (ha : a ≤ 4) (h : ¬ storeC p t ≠ 0) (ht : ¬ t = ⟨#[]⟩) : 0 < (keysUnder (storeM m (keyNum (keyNum (⟨#[109, 47]⟩ : ByteArray) a (⟨#[47]⟩ : ByteArray)) p (⟨#[]⟩ : ByteArray)) p t).store (⟨#[109, 47]⟩ : ByteArray)).length := by
  have hp : pageB p t = true := by
    cases e : pageB p t
    · exact absurd (by unfold storeC; rw [if_neg (by rw [e]; decide)]; decide) h
    · rfl
  have hp2 := hp
  unfold pageB at hp2
  simp only [Bool.and_eq_true, decide_eq_true_eq] at hp2
  have hr : (0 : Int) ≤ p ∧ p ≤ 3 := by have := hp2.1; unfold inB at this; exact of_decide_eq_true this
  obtain ⟨r, rfl⟩ : ∃ r : Nat, p = (r : Int) := ⟨p.toNat, by omega⟩
  rw [storeM_t hp]
  have hk := key_pg (a := a) (r := r) (by omega) (by omega)
  have hv := getKey_laySame (m := m) hk (pageV_size' (t := t) hp2.2)
  generalize hK : keyNum (keyNum (⟨#[109, 47]⟩ : ByteArray) a (⟨#[47]⟩ : ByteArray)) r (⟨#[]⟩ : ByteArray) = K at *
  have hc : ∃ c ∈ (layM m K (pageV t)).store, c.key = K := by
    apply Decidable.byContradiction
    intro hn
    have h0 := getKey_no (l := (layM m K (pageV t)).store) (key := K) fun c hc e => hn ⟨c, hc, e⟩
    rw [hv, ← pageV_n ht] at h0
    have := congrArg ByteArray.size h0
    rw [ByteArray.size_append] at this
    have e1 : (⟨#[45]⟩ : ByteArray).size = 1 := rfl
    have e2 : (⟨#[]⟩ : ByteArray).size = 0 := rfl
    omega
  refine List.length_pos_of_mem (keysUnder_mem.2 ⟨hc, ?_⟩)
  rw [← hK]
  unfold keyNum
  rw [ByteArray.append_assoc, ByteArray.append_assoc, ByteArray.append_assoc]
  exact (begins_app _ _).1
abbrev mZ_ : MachD := (⟨[], (⟨[], []⟩ : TouchD)⟩ : MachD)
abbrev tA_ : ByteArray := ⟨#[97, 98, 99]⟩
abbrev mA_ : MachD := storeM mZ_ (kQ_ 1 2) 2 tA_
abbrev mB_ : MachD := forkM (kP_ 1) (kP_ 7) mA_
abbrev mC_ : MachD := storeM mB_ (kQ_ 1 2) 2 (⟨#[120, 121, 122]⟩ : ByteArray)
attribute [local irreducible] storeM forkM loadM loadT wipeM lookM keyNum keysUnder cutL storeC loadC
theorem laws_sameTexts_c {w : World} {H : Nat → Prop} {a : List ByteArray} {a_a : Option Addr} {a_n a_c : Nat} {b : List ByteArray} {b_a : Option Addr} {b_n b_c : Nat} (v_a : Rd 1 encS okS H w (.slice a_a a_n a_c) a) (v_b : Rd 1 encS okS H w (.slice b_a b_n b_c) b) :
    Calls Tryz.prog 19 #[.slice a_a a_n a_c, .slice b_a b_n b_c] w fun e w' => e = .returned (.bool (decide (a = b))) ∧ Mv [] w [] w' := by
 have V_v_a : Rd 1 encS okS (V H w []) w (.slice a_a a_n a_c) a := Rd.start v_a (fun _ _ => fps_nil _)
 obtain ⟨ln_a, le_a, mx_a, ni_a⟩ := Rd.inv v_a
 have Q0 : Rd 1 encS okS (V H w []) w (.slice b_a b_n b_c) b := Rd.start v_b (fun _ _ => fps_nil _)
 obtain ⟨ln_b, le_b, mx_b, ni_b⟩ := Rd.inv v_b
 refine calls_enter 26 Tryz.func19 rfl Tryz.ntmps19 (Nat.le_of_ble_eq_true rfl) (fun _ F0i => ?_)
 have F0 : Fr 26 [(0, .slice a_a a_n a_c), (1, .slice b_a b_n b_c)] _ := F0i
 clear F0i
 refine wp_seq (wp_region_lit (l_op (f_val F0 rfl rfl (r_assign rfl rfl) rfl fun _ F1 => ?_)))
 refine s_end (x_normal (wp_seq (wp_seq (wp_region_lit (l_op (f_mv F1 rfl rfl rfl rfl rfl fun _ F2 => ?_))))))
 refine l_op (f_val F2 rfl rfl (r_len Tryz.underlying25 rfl (F2.ev 6 rfl)) rfl fun _ F3 => ?_)
 refine l_op (f_mv F3 rfl rfl rfl rfl rfl fun _ F4 => ?_)
 refine l_op (f_val F4 rfl rfl (r_len Tryz.underlying25 rfl (F4.ev 8 rfl)) rfl fun _ F5 => ?_)
 refine l_op (f_val F5 rfl rfl (r_cmp (b := decide (a_n ≠ b_n)) (.inr (.inl rfl)) rfl (F5.ev 7 rfl) (F5.ev 9 rfl) (dec_of (by omega))) rfl fun _ F6 => ?_)
 refine s_end (x_normal (x_cond (p := a_n ≠ b_n) (F6.ev 10 rfl) (fun h7 => ?_) (fun h7 => ?_)))
 · skip
   refine wp_seq (wp_region_lit (l_op (f_val F6 rfl rfl (r_assign rfl rfl) rfl fun _ F8 => ?_)))
   refine s_end (x_normal (wp_ret (x_then_ret ?_)))
   refine x_done (v := .bool false) F8 (results_1 Tryz.results19 (.tmp (F8.ev 4 rfl))) ?_
   exact ⟨(by rw [(show false = (decide (a = b)) from by first | exact (eqL_len ln_a ln_b ‹_›).symm | exact (eqL_at hx1 hx2 ‹_›).symm | exact (eqL_end hk_1 (by omega) (by omega)).symm)]), (Mv.pick (Mv.refl (At.nil w)) [] rfl)⟩
 · skip
   refine wp_skip (x_normal (wp_seq (wp_seq (wp_region_lit (l_op (f_val F6 rfl rfl (r_assign rfl rfl) rfl fun _ F9 => ?_))))))
   refine s_end (x_normal (wp_block ?_))
   refine x_loop (fun (k : Nat) aZ wZ => Fr 26 [(5, .int .i64 ((k : Nat) : Int)), (0, .slice a_a a_n a_c), (1, .slice b_a b_n b_c)] aZ ∧ Mv [] w [] wZ ∧ (k ≤ a_n) ∧ (a.take k = b.take k)) (fun (k : Nat) => a_n - k) (0) ?_ ?_
   · exact ⟨F9.cut rfl, (Mv.refl (At.nil w)), by omega, rfl⟩
   · rintro k a10 w10 ⟨F10, S10, hk_0, hk_1⟩
     refine wp_seq (wp_seq (wp_region_lit (l_op (f_mv F10 rfl rfl rfl rfl rfl fun _ F11 => ?_))))
     refine l_op (f_mv F11 rfl rfl rfl rfl rfl fun _ F12 => ?_)
     refine l_op (f_val F12 rfl rfl (r_len Tryz.underlying25 rfl (F12.ev 12 rfl)) rfl fun _ F13 => ?_)
     refine l_op (f_val F13 rfl rfl (r_cmp (b := decide (k < a_n)) (.inr (.inr (.inl rfl))) rfl (F13.ev 11 rfl) (F13.ev 13 rfl) (dec_of (by omega))) rfl fun _ F14 => ?_)
     refine s_end (x_normal (x_cond (p := k < a_n) (F14.ev 14 rfl) (fun h15 => ?_) (fun h15 => ?_)))
     · skip
       refine wp_skip (x_normal (wp_seq (wp_block (wp_seq ?_))))
       obtain ⟨x1, hx1, okx1⟩ := Rd.elem (Rd.mq V_v_a S10) k (by first | assumption | omega)
       obtain ⟨x2, hx2, okx2⟩ := Rd.elem (Rd.mq Q0 S10) k (by first | assumption | omega)
       refine x_draw (fun aZ wZ => Fr 26 [(0, .slice a_a a_n a_c), (1, .slice b_a b_n b_c), (5, .int .i64 ((k : Nat) : Int)), (25, .bool (decide (x1 ≠ x2)))] aZ ∧ Mv [] w10 [] wZ) [] mixed S10.at' (listed := #[false, false, false, false, false, false, false, false, false]) rfl (fun w17 S17 => ?_) [] rfl ?_
       · skip
         refine g_take F14 rfl (i := 0) (listed' := #[true, false, false, false, false, false, false, false, false]) rfl (by kernel_rfl) (by kernel_rfl) (by kernel_rfl) (fun _ _ _ h => h) (Sd.of (Mv.refl S17.at') [] rfl) rfl rfl rfl rfl (fun _ hz => (r_move rfl (F14.ev 0 rfl))) fun _ F18 => ?_
         refine g_take F18 rfl (i := 1) (listed' := #[true, true, false, false, false, false, false, false, false]) rfl (by kernel_rfl) (by kernel_rfl) (by kernel_rfl) (fun _ _ _ h => h) (Sd.of (Mv.refl S17.at') [] rfl) rfl rfl rfl rfl (fun _ hz => (r_move rfl (F18.ev 5 rfl))) fun _ F19 => ?_
         obtain ⟨B20, O20, y20, ad20, hy20, oky20, ln20, cl20⟩ := Rd.atK (Nat.succ_pos _) (Rd.mq V_v_a (S10.trans S17)) k (by first | assumption | omega)
         clear ln20
         obtain rfl := Option.some.inj (hx1.symm.trans hy20)
         clear hy20 oky20
         refine g_take F19 rfl (i := 2) (listed' := #[true, true, true, false, false, false, false, false, false]) rfl (by kernel_rfl) (by kernel_rfl) (by kernel_rfl) (fun _ _ _ h => h) (Sd.of (Mv.refl S17.at') [] rfl) rfl rfl rfl rfl (fun _ hz => (r_indexAddr (i := k) ET_25 rfl ((F19.ev 17 rfl).trans (by rw [ad20])) (F19.ev 18 rfl) (by omega) (by first | assumption | omega))) fun _ F21 => ?_
         refine g_take (v := .string x1) F21 rfl (i := 3) (listed' := #[true, true, true, true, false, false, false, false, false]) rfl (by kernel_rfl) (by kernel_rfl) (by kernel_rfl) (fun _ _ _ h => h) (Sd.of (Mv.refl S17.at') [] rfl) rfl rfl rfl rfl (fun _ hz => (r_load (cs := [.string x1]) TI_9 rfl (F21.ev 19 rfl) rfl (fun _ => rfl) (elem_sub (f := 0) (cl20 _ hz.kp) [.string x1] rfl))) fun _ F22 => ?_
         refine g_take F22 rfl (i := 4) (listed' := #[true, true, true, true, true, false, false, false, false]) rfl (by kernel_rfl) (by kernel_rfl) (by kernel_rfl) (fun _ _ _ h => h) (Sd.of (Mv.refl S17.at') [] rfl) rfl rfl rfl rfl (fun _ hz => (r_move rfl (F22.ev 1 rfl))) fun _ F23 => ?_
         refine g_take F23 rfl (i := 5) (listed' := #[true, true, true, true, true, true, false, false, false]) rfl (by kernel_rfl) (by kernel_rfl) (by kernel_rfl) (fun _ _ _ h => h) (Sd.of (Mv.refl S17.at') [] rfl) rfl rfl rfl rfl (fun _ hz => (r_move rfl (F23.ev 5 rfl))) fun _ F24 => ?_
         obtain ⟨B25, O25, y25, ad25, hy25, oky25, ln25, cl25⟩ := Rd.atK (Nat.succ_pos _) (Rd.mq Q0 (S10.trans S17)) k (by first | assumption | omega)
         clear ln25
         obtain rfl := Option.some.inj (hx2.symm.trans hy25)
         clear hy25 oky25
         refine g_take F24 rfl (i := 6) (listed' := #[true, true, true, true, true, true, true, false, false]) rfl (by kernel_rfl) (by kernel_rfl) (by kernel_rfl) (fun _ _ _ h => h) (Sd.of (Mv.refl S17.at') [] rfl) rfl rfl rfl rfl (fun _ hz => (r_indexAddr (i := k) ET_25 rfl ((F24.ev 21 rfl).trans (by rw [ad25])) (F24.ev 22 rfl) (by omega) (by first | assumption | omega))) fun _ F26 => ?_
         refine g_take (v := .string x2) F26 rfl (i := 7) (listed' := #[true, true, true, true, true, true, true, true, false]) rfl (by kernel_rfl) (by kernel_rfl) (by kernel_rfl) (fun _ _ _ h => h) (Sd.of (Mv.refl S17.at') [] rfl) rfl rfl rfl rfl (fun _ hz => (r_load (cs := [.string x2]) TI_9 rfl (F26.ev 23 rfl) rfl (fun _ => rfl) (elem_sub (f := 0) (cl25 _ hz.kp) [.string x2] rfl))) fun _ F27 => ?_
         refine g_take F27 rfl (i := 8) (listed' := #[true, true, true, true, true, true, true, true, true]) rfl (by kernel_rfl) (by kernel_rfl) (by kernel_rfl) (fun _ _ _ h => h) (Sd.of (Mv.refl S17.at') [] rfl) rfl rfl rfl rfl (fun _ hz => (r_cmps (b := (decide (x1 ≠ x2))) (.inr (.inl rfl)) rfl (F27.ev 20 rfl) (F27.ev 24 rfl) rfl)) fun _ F28 => ?_
         refine wpAnyH_done (by kernel_rfl) (x_normal ?_) _
         exact ⟨F28.cut rfl, (S17.pick [] rfl)⟩
       · rintro a29 w29 ⟨F29, S29⟩
         refine x_normal (x_cond (p := x1 ≠ x2) (F29.ev 25 rfl) (fun h30 => ?_) (fun h30 => ?_))
         · skip
           refine wp_seq (wp_region_lit (l_op (f_val F29 rfl rfl (r_assign rfl rfl) rfl fun _ F31 => ?_)))
           refine s_end (x_normal (wp_ret (x_block_ret (x_then_ret (x_then_ret (x_block_ret (x_then_ret ?_)))))))
           refine x_done (v := .bool false) F31 (results_1 Tryz.results19 (.tmp (F31.ev 4 rfl))) ?_
           exact ⟨(by rw [(show false = (decide (a = b)) from by first | exact (eqL_len ln_a ln_b ‹_›).symm | exact (eqL_at hx1 hx2 ‹_›).symm | exact (eqL_end hk_1 (by omega) (by omega)).symm)]), (Mv.pick (S10.trans S29) [] rfl)⟩
         · skip
           refine wp_skip (x_block_normal (x_normal (wp_region_lit (l_op (f_mv F29 rfl rfl rfl rfl rfl fun _ F32 => ?_)))))
           refine l_op (f_val F32 rfl rfl (r_add (z := ((k + 1 : Nat) : Int)) rfl (F32.ev 15 rfl) rfl (by first | rfl | omega) ⟨by first | omega | (unfold i64ok at *; omega), by first | omega | (unfold i64ok at *; omega)⟩) rfl fun _ F33 => ?_)
           refine l_op (f_as F33 rfl rfl rfl rfl rfl fun _ F34 => ?_)
           refine s_end ?_
           refine x_normal ⟨k + 1, by omega, F34.cut rfl, ((S10.trans S29).pick [] rfl), by omega, eqL_step hk_1 hx1 hx2 ‹_›⟩
     · skip
       refine wp_exit (x_then_exit (x_then_exit (x_block_here (x_normal (wp_seq (wp_region_lit (l_op (f_val F14 rfl rfl (r_assign rfl rfl) rfl fun _ F35 => ?_))))))))
       refine s_end (x_normal (wp_ret ?_))
       refine x_done (v := .bool true) F35 (results_1 Tryz.results19 (.tmp (F35.ev 4 rfl))) ?_
       exact ⟨(by rw [(show true = (decide (a = b)) from by first | exact (eqL_len ln_a ln_b ‹_›).symm | exact (eqL_at hx1 hx2 ‹_›).symm | exact (eqL_end hk_1 (by omega) (by omega)).symm)]), (Mv.pick S10 [] rfl)⟩
theorem laws_sameCells_c {w : World} {H : Nat → Prop} {a : List CellD} {a_a : Option Addr} {a_n a_c : Nat} {b : List CellD} {b_a : Option Addr} {b_n b_c : Nat} (v_a : Rd 2 encC okC H w (.slice a_a a_n a_c) a) (v_b : Rd 2 encC okC H w (.slice b_a b_n b_c) b) :
    Calls Tryz.prog 50 #[.slice a_a a_n a_c, .slice b_a b_n b_c] w fun e w' => e = .returned (.bool (decide (a = b))) ∧ Mv [] w [] w' := by
 have V_v_a : Rd 2 encC okC (V H w []) w (.slice a_a a_n a_c) a := Rd.start v_a (fun _ _ => fps_nil _)
 obtain ⟨ln_a, le_a, mx_a, ni_a⟩ := Rd.inv v_a
 have Q0 : Rd 2 encC okC (V H w []) w (.slice b_a b_n b_c) b := Rd.start v_b (fun _ _ => fps_nil _)
 obtain ⟨ln_b, le_b, mx_b, ni_b⟩ := Rd.inv v_b
 refine calls_enter 26 Tryz.func50 rfl Tryz.ntmps50 (Nat.le_of_ble_eq_true rfl) (fun _ F0i => ?_)
 have F0 : Fr 26 [(0, .slice a_a a_n a_c), (1, .slice b_a b_n b_c)] _ := F0i
 clear F0i
 refine wp_seq (wp_region_lit (l_op (f_val F0 rfl rfl (r_assign rfl rfl) rfl fun _ F1 => ?_)))
 refine s_end (x_normal (wp_seq (wp_seq (wp_region_lit (l_op (f_mv F1 rfl rfl rfl rfl rfl fun _ F2 => ?_))))))
 refine l_op (f_val F2 rfl rfl (r_len Tryz.underlying24 rfl (F2.ev 6 rfl)) rfl fun _ F3 => ?_)
 refine l_op (f_mv F3 rfl rfl rfl rfl rfl fun _ F4 => ?_)
 refine l_op (f_val F4 rfl rfl (r_len Tryz.underlying24 rfl (F4.ev 8 rfl)) rfl fun _ F5 => ?_)
 refine l_op (f_val F5 rfl rfl (r_cmp (b := decide (a_n ≠ b_n)) (.inr (.inl rfl)) rfl (F5.ev 7 rfl) (F5.ev 9 rfl) (dec_of (by omega))) rfl fun _ F6 => ?_)
 refine s_end (x_normal (x_cond (p := a_n ≠ b_n) (F6.ev 10 rfl) (fun h7 => ?_) (fun h7 => ?_)))
 · skip
   refine wp_seq (wp_region_lit (l_op (f_val F6 rfl rfl (r_assign rfl rfl) rfl fun _ F8 => ?_)))
   refine s_end (x_normal (wp_ret (x_then_ret ?_)))
   refine x_done (v := .bool false) F8 (results_1 Tryz.results50 (.tmp (F8.ev 4 rfl))) ?_
   exact ⟨(by rw [(show false = (decide (a = b)) from by first | exact (eqL_len ln_a ln_b ‹_›).symm | exact (eqL_at hx1 hx2 ‹_›).symm | exact (eqL_end hk_1 (by omega) (by omega)).symm)]), (Mv.pick (Mv.refl (At.nil w)) [] rfl)⟩
 · skip
   refine wp_skip (x_normal (wp_seq (wp_seq (wp_region_lit (l_op (f_val F6 rfl rfl (r_assign rfl rfl) rfl fun _ F9 => ?_))))))
   refine s_end (x_normal (wp_block ?_))
   refine x_loop (fun (k : Nat) aZ wZ => Fr 26 [(5, .int .i64 ((k : Nat) : Int)), (0, .slice a_a a_n a_c), (1, .slice b_a b_n b_c)] aZ ∧ Mv [] w [] wZ ∧ (k ≤ a_n) ∧ (a.take k = b.take k)) (fun (k : Nat) => a_n - k) (0) ?_ ?_
   · exact ⟨F9.cut rfl, (Mv.refl (At.nil w)), by omega, rfl⟩
   · rintro k a10 w10 ⟨F10, S10, hk_0, hk_1⟩
     refine wp_seq (wp_seq (wp_region_lit (l_op (f_mv F10 rfl rfl rfl rfl rfl fun _ F11 => ?_))))
     refine l_op (f_mv F11 rfl rfl rfl rfl rfl fun _ F12 => ?_)
     refine l_op (f_val F12 rfl rfl (r_len Tryz.underlying24 rfl (F12.ev 12 rfl)) rfl fun _ F13 => ?_)
     refine l_op (f_val F13 rfl rfl (r_cmp (b := decide (k < a_n)) (.inr (.inr (.inl rfl))) rfl (F13.ev 11 rfl) (F13.ev 13 rfl) (dec_of (by omega))) rfl fun _ F14 => ?_)
     refine s_end (x_normal (x_cond (p := k < a_n) (F14.ev 14 rfl) (fun h15 => ?_) (fun h15 => ?_)))
     · skip
       refine wp_skip (x_normal (wp_seq (wp_block (wp_seq ?_))))
       obtain ⟨x1, hx1, okx1⟩ := Rd.elem (Rd.mq V_v_a S10) k (by first | assumption | omega)
       obtain ⟨x2, hx2, okx2⟩ := Rd.elem (Rd.mq Q0 S10) k (by first | assumption | omega)
       refine x_draw (fun aZ wZ => Fr 26 [(0, .slice a_a a_n a_c), (1, .slice b_a b_n b_c), (5, .int .i64 ((k : Nat) : Int)), (25, .bool (decide (x1 ≠ x2)))] aZ ∧ Mv [] w10 [] wZ) [] mixed S10.at' (listed := #[false, false, false, false, false, false, false, false, false]) rfl (fun w17 S17 => ?_) [] rfl ?_
       · skip
         refine g_take F14 rfl (i := 0) (listed' := #[true, false, false, false, false, false, false, false, false]) rfl (by kernel_rfl) (by kernel_rfl) (by kernel_rfl) (fun _ _ _ h => h) (Sd.of (Mv.refl S17.at') [] rfl) rfl rfl rfl rfl (fun _ hz => (r_move rfl (F14.ev 0 rfl))) fun _ F18 => ?_
         refine g_take F18 rfl (i := 1) (listed' := #[true, true, false, false, false, false, false, false, false]) rfl (by kernel_rfl) (by kernel_rfl) (by kernel_rfl) (fun _ _ _ h => h) (Sd.of (Mv.refl S17.at') [] rfl) rfl rfl rfl rfl (fun _ hz => (r_move rfl (F18.ev 5 rfl))) fun _ F19 => ?_
         obtain ⟨B20, O20, y20, ad20, hy20, oky20, ln20, cl20⟩ := Rd.atK (Nat.succ_pos _) (Rd.mq V_v_a (S10.trans S17)) k (by first | assumption | omega)
         clear ln20
         obtain rfl := Option.some.inj (hx1.symm.trans hy20)
         clear hy20 oky20
         refine g_take F19 rfl (i := 2) (listed' := #[true, true, true, false, false, false, false, false, false]) rfl (by kernel_rfl) (by kernel_rfl) (by kernel_rfl) (fun _ _ _ h => h) (Sd.of (Mv.refl S17.at') [] rfl) rfl rfl rfl rfl (fun _ hz => (r_indexAddr (i := k) ET_24 rfl ((F19.ev 17 rfl).trans (by rw [ad20])) (F19.ev 18 rfl) (by omega) (by first | assumption | omega))) fun _ F21 => ?_
         refine g_take (v := .agg #[.string x1.key, .string x1.val]) F21 rfl (i := 3) (listed' := #[true, true, true, true, false, false, false, false, false]) rfl (by kernel_rfl) (by kernel_rfl) (by kernel_rfl) (fun _ _ _ h => h) (Sd.of (Mv.refl S17.at') [] rfl) rfl rfl rfl rfl (fun _ hz => (r_load (cs := [.string x1.key, .string x1.val]) TI_73 rfl (F21.ev 19 rfl) rfl (fun h => nomatch h) (elem_sub (f := 0) (cl20 _ hz.kp) [.string x1.key, .string x1.val] rfl))) fun _ F22 => ?_
         refine g_take F22 rfl (i := 4) (listed' := #[true, true, true, true, true, false, false, false, false]) rfl (by kernel_rfl) (by kernel_rfl) (by kernel_rfl) (fun _ _ _ h => h) (Sd.of (Mv.refl S17.at') [] rfl) rfl rfl rfl rfl (fun _ hz => (r_move rfl (F22.ev 1 rfl))) fun _ F23 => ?_
         refine g_take F23 rfl (i := 5) (listed' := #[true, true, true, true, true, true, false, false, false]) rfl (by kernel_rfl) (by kernel_rfl) (by kernel_rfl) (fun _ _ _ h => h) (Sd.of (Mv.refl S17.at') [] rfl) rfl rfl rfl rfl (fun _ hz => (r_move rfl (F23.ev 5 rfl))) fun _ F24 => ?_
         obtain ⟨B25, O25, y25, ad25, hy25, oky25, ln25, cl25⟩ := Rd.atK (Nat.succ_pos _) (Rd.mq Q0 (S10.trans S17)) k (by first | assumption | omega)
         clear ln25
         obtain rfl := Option.some.inj (hx2.symm.trans hy25)
         clear hy25 oky25
         refine g_take F24 rfl (i := 6) (listed' := #[true, true, true, true, true, true, true, false, false]) rfl (by kernel_rfl) (by kernel_rfl) (by kernel_rfl) (fun _ _ _ h => h) (Sd.of (Mv.refl S17.at') [] rfl) rfl rfl rfl rfl (fun _ hz => (r_indexAddr (i := k) ET_24 rfl ((F24.ev 21 rfl).trans (by rw [ad25])) (F24.ev 22 rfl) (by omega) (by first | assumption | omega))) fun _ F26 => ?_
         refine g_take (v := .agg #[.string x2.key, .string x2.val]) F26 rfl (i := 7) (listed' := #[true, true, true, true, true, true, true, true, false]) rfl (by kernel_rfl) (by kernel_rfl) (by kernel_rfl) (fun _ _ _ h => h) (Sd.of (Mv.refl S17.at') [] rfl) rfl rfl rfl rfl (fun _ hz => (r_load (cs := [.string x2.key, .string x2.val]) TI_73 rfl (F26.ev 23 rfl) rfl (fun h => nomatch h) (elem_sub (f := 0) (cl25 _ hz.kp) [.string x2.key, .string x2.val] rfl))) fun _ F27 => ?_
         refine g_take F27 rfl (i := 8) (listed' := #[true, true, true, true, true, true, true, true, true]) rfl (by kernel_rfl) (by kernel_rfl) (by kernel_rfl) (fun _ _ _ h => h) (Sd.of (Mv.refl S17.at') [] rfl) rfl rfl rfl rfl (fun _ hz => (r_neqC rfl (F27.ev 20 rfl) (F27.ev 24 rfl))) fun _ F28 => ?_
         refine wpAnyH_done (by kernel_rfl) (x_normal ?_) _
         exact ⟨F28.cut rfl, (S17.pick [] rfl)⟩
       · rintro a29 w29 ⟨F29, S29⟩
         refine x_normal (x_cond (p := x1 ≠ x2) (F29.ev 25 rfl) (fun h30 => ?_) (fun h30 => ?_))
         · skip
           refine wp_seq (wp_region_lit (l_op (f_val F29 rfl rfl (r_assign rfl rfl) rfl fun _ F31 => ?_)))
           refine s_end (x_normal (wp_ret (x_block_ret (x_then_ret (x_then_ret (x_block_ret (x_then_ret ?_)))))))
           refine x_done (v := .bool false) F31 (results_1 Tryz.results50 (.tmp (F31.ev 4 rfl))) ?_
           exact ⟨(by rw [(show false = (decide (a = b)) from by first | exact (eqL_len ln_a ln_b ‹_›).symm | exact (eqL_at hx1 hx2 ‹_›).symm | exact (eqL_end hk_1 (by omega) (by omega)).symm)]), (Mv.pick (S10.trans S29) [] rfl)⟩
         · skip
           refine wp_skip (x_block_normal (x_normal (wp_region_lit (l_op (f_mv F29 rfl rfl rfl rfl rfl fun _ F32 => ?_)))))
           refine l_op (f_val F32 rfl rfl (r_add (z := ((k + 1 : Nat) : Int)) rfl (F32.ev 15 rfl) rfl (by first | rfl | omega) ⟨by first | omega | (unfold i64ok at *; omega), by first | omega | (unfold i64ok at *; omega)⟩) rfl fun _ F33 => ?_)
           refine l_op (f_as F33 rfl rfl rfl rfl rfl fun _ F34 => ?_)
           refine s_end ?_
           refine x_normal ⟨k + 1, by omega, F34.cut rfl, ((S10.trans S29).pick [] rfl), by omega, eqL_step hk_1 hx1 hx2 ‹_›⟩
     · skip
       refine wp_exit (x_then_exit (x_then_exit (x_block_here (x_normal (wp_seq (wp_region_lit (l_op (f_val F14 rfl rfl (r_assign rfl rfl) rfl fun _ F35 => ?_))))))))
       refine s_end (x_normal (wp_ret ?_))
       refine x_done (v := .bool true) F35 (results_1 Tryz.results50 (.tmp (F35.ev 4 rfl))) ?_
       exact ⟨(by rw [(show true = (decide (a = b)) from by first | exact (eqL_len ln_a ln_b ‹_›).symm | exact (eqL_at hx1 hx2 ‹_›).symm | exact (eqL_end hk_1 (by omega) (by omega)).symm)]), (Mv.pick S10 [] rfl)⟩
theorem laws_sameTouch_c {w : World} {H : Nat → Prop} {a : TouchD} {a_Ra : Option Addr} {a_Rn a_Rc : Nat} {a_Wa : Option Addr} {a_Wn a_Wc : Nat} {b : TouchD} {b_Ra : Option Addr} {b_Rn b_Rc : Nat} {b_Wa : Option Addr} {b_Wn b_Wc : Nat} (Q0 : Rd 1 encS okS H w (.slice a_Ra a_Rn a_Rc) a.reads) (Q1 : Rd 1 encS okS H w (.slice a_Wa a_Wn a_Wc) a.writes) (Q2 : Rd 1 encS okS H w (.slice b_Ra b_Rn b_Rc) b.reads) (Q3 : Rd 1 encS okS H w (.slice b_Wa b_Wn b_Wc) b.writes) :
    Calls Tryz.prog 51 #[.agg #[.slice a_Ra a_Rn a_Rc, .slice a_Wa a_Wn a_Wc], .agg #[.slice b_Ra b_Rn b_Rc, .slice b_Wa b_Wn b_Wc]] w fun e w' => e = .returned (.bool (decide (a = b))) ∧ Mv [] w [] w' := by
 have Q4 : Rd 1 encS okS (V H w []) w (.slice a_Ra a_Rn a_Rc) a.reads := Rd.start Q0 (fun _ _ => fps_nil _)
 obtain ⟨Q12, Q8, Q16, Q20⟩ := Rd.inv Q0
 have Q5 : Rd 1 encS okS (V H w []) w (.slice a_Wa a_Wn a_Wc) a.writes := Rd.start Q1 (fun _ _ => fps_nil _)
 obtain ⟨Q13, Q9, Q17, Q21⟩ := Rd.inv Q1
 have Q6 : Rd 1 encS okS (V H w []) w (.slice b_Ra b_Rn b_Rc) b.reads := Rd.start Q2 (fun _ _ => fps_nil _)
 obtain ⟨Q14, Q10, Q18, Q22⟩ := Rd.inv Q2
 have Q7 : Rd 1 encS okS (V H w []) w (.slice b_Wa b_Wn b_Wc) b.writes := Rd.start Q3 (fun _ _ => fps_nil _)
 obtain ⟨Q15, Q11, Q19, Q23⟩ := Rd.inv Q3
 refine calls_enter 17 Tryz.func51 rfl Tryz.ntmps51 (Nat.le_of_ble_eq_true rfl) (fun _ F0i => ?_)
 have F0 : Fr 17 [(0, .agg #[.slice a_Ra a_Rn a_Rc, .slice a_Wa a_Wn a_Wc]), (1, .agg #[.slice b_Ra b_Rn b_Rc, .slice b_Wa b_Wn b_Wc])] _ := F0i
 clear F0i
 refine wp_seq (wp_region_lit (l_op (f_box F0 (At.nil w) rfl rfl rfl (F0.ev 0 rfl) rfl rfl fun b1 _ w1 F2 S1 => ?_)))
 refine l_op (f_box F2 S1.at' rfl rfl rfl (F2.ev 1 rfl) rfl rfl fun b3 _ w3 F4 S3 => ?_)
 refine l_op (f_val F4 rfl rfl (r_assign rfl rfl) rfl fun _ F5 => ?_)
 refine s_end (x_normal (wp_seq (wp_region_lit (l_op (f_val F5 rfl rfl (r_field FI_27_0 rfl (F5.ev 2 rfl) rfl) rfl fun _ F6 => ?_)))))
 refine l_op (f_val (v := .slice a_Ra a_Rn a_Rc) F6 rfl rfl (r_loadB S3.at' 1 TI_25 rfl rfl (F6.ev 5 rfl) rfl rfl (fun _ => rfl) rfl) rfl fun _ F7 => ?_)
 refine l_op (f_val F7 rfl rfl (r_field FI_27_0 rfl (F7.ev 3 rfl) rfl) rfl fun _ F8 => ?_)
 refine l_op (f_val (v := .slice b_Ra b_Rn b_Rc) F8 rfl rfl (r_loadB S3.at' 0 TI_25 rfl rfl (F8.ev 7 rfl) rfl rfl (fun _ => rfl) rfl) rfl fun _ F9 => ?_)
 refine l_op (f_call F9 CF_19 rfl rfl rfl rfl (lc (F9.ev 6 rfl) (lc (F9.ev 8 rfl) rfl)) (laws_sameTexts_c (a := a.reads) (b := b.reads) (Rd.mq Q4 (S1.trans S3)) (Rd.mq Q6 (S1.trans S3))) ?_)
 rintro _ w10 ⟨rfl, m10⟩
 refine ⟨_, rfl, fun _ F11 => ?_⟩
 have S10 := At.frame0 S3.at' m10
 clear m10
 refine l_op (f_mv F11 rfl rfl rfl rfl rfl fun _ F12 => ?_)
 rcases Bool.eq_false_or_eq_true (decide (a.reads = b.reads)) with h13 | h13
 · rw [h13] at F12
   refine l_op (f_val F12 (wanted_g F12 rfl rfl rfl rfl) rfl (r_field FI_27_1 rfl (F12.ev 2 rfl) rfl) rfl fun _ F14 => ?_)
   refine l_op (f_val (v := .slice a_Wa a_Wn a_Wc) F14 (wanted_g F14 rfl rfl rfl rfl) rfl (r_loadB S10.at' 1 TI_25 rfl rfl (F14.ev 11 rfl) rfl rfl (fun _ => rfl) rfl) rfl fun _ F15 => ?_)
   refine l_op (f_val F15 (wanted_g F15 rfl rfl rfl rfl) rfl (r_field FI_27_1 rfl (F15.ev 3 rfl) rfl) rfl fun _ F16 => ?_)
   refine l_op (f_val (v := .slice b_Wa b_Wn b_Wc) F16 (wanted_g F16 rfl rfl rfl rfl) rfl (r_loadB S10.at' 0 TI_25 rfl rfl (F16.ev 13 rfl) rfl rfl (fun _ => rfl) rfl) rfl fun _ F17 => ?_)
   refine l_op (f_call F17 CF_19 (wanted_g F17 rfl rfl rfl rfl) rfl rfl rfl (lc (F17.ev 12 rfl) (lc (F17.ev 14 rfl) rfl)) (laws_sameTexts_c (a := a.writes) (b := b.writes) (Rd.mq Q5 (S1.trans (S3.trans S10))) (Rd.mq Q7 (S1.trans (S3.trans S10)))) ?_)
   rintro _ w18 ⟨rfl, m18⟩
   refine ⟨_, rfl, fun _ F19 => ?_⟩
   have S18 := At.frame0 S10.at' m18
   clear m18
   refine l_op (f_val F19 rfl rfl (r_pick (b := true) rfl (F19.ev 10 rfl) (F19.ev 15 rfl)) rfl fun _ F20 => ?_)
   refine l_op (f_as F20 rfl rfl rfl rfl rfl fun _ F21 => ?_)
   have T22 : Mv _ _ [bx b3 [.slice b_Ra b_Rn b_Rc, .slice b_Wa b_Wn b_Wc] 27, bx b1 [.slice a_Ra a_Rn a_Rc, .slice a_Wa a_Wn a_Wc] 27] _ := S18
   refine s_end (x_normal (wp_ret ?_))
   refine x_done (v := .bool (decide (a.writes = b.writes))) F21 (results_1 Tryz.results51 (.tmp (F21.ev 4 rfl))) ?_
   exact ⟨(by rw [(show (decide (a.writes = b.writes)) = (decide (a = b)) from by first | exact (touch_ne ‹_›).symm | exact (touch_eq ‹_›).symm)]), (Mv.pick (S1.trans (S3.trans (S10.trans T22))) [] rfl)⟩
 · rw [h13] at F12
   refine l_op (f_skip F12 (wanted_g F12 rfl rfl rfl rfl) rfl rfl fun _ F23 => ?_)
   refine l_op (f_skip F23 (wanted_g F23 rfl rfl rfl rfl) rfl rfl fun _ F24 => ?_)
   refine l_op (f_skip F24 (wanted_g F24 rfl rfl rfl rfl) rfl rfl fun _ F25 => ?_)
   refine l_op (f_skip F25 (wanted_g F25 rfl rfl rfl rfl) rfl rfl fun _ F26 => ?_)
   refine l_op (f_skip F26 (wanted_g F26 rfl rfl rfl rfl) rfl rfl fun _ F27 => ?_)
   refine l_op (f_val F27 rfl rfl (r_pick (b := false) rfl (F27.ev 10 rfl) rfl) rfl fun _ F28 => ?_)
   refine l_op (f_as F28 rfl rfl rfl rfl rfl fun _ F29 => ?_)
   refine s_end (x_normal (wp_ret ?_))
   refine x_done (v := .bool false) F29 (results_1 Tryz.results51 (.tmp (F29.ev 4 rfl))) ?_
   exact ⟨(by rw [(show false = (decide (a = b)) from by first | exact (touch_ne ‹_›).symm | exact (touch_eq ‹_›).symm)]), (Mv.pick (S1.trans (S3.trans S10)) [] rfl)⟩
theorem laws_sameMach_c {w : World} {H : Nat → Prop} {a : MachD} {a_Sa : Option Addr} {a_Sn a_Sc : Nat} {a_Ra : Option Addr} {a_Rn a_Rc : Nat} {a_Wa : Option Addr} {a_Wn a_Wc : Nat} {b : MachD} {b_Sa : Option Addr} {b_Sn b_Sc : Nat} {b_Ra : Option Addr} {b_Rn b_Rc : Nat} {b_Wa : Option Addr} {b_Wn b_Wc : Nat} (Q0 : Rd 2 encC okC H w (.slice a_Sa a_Sn a_Sc) a.store) (Q1 : Rd 1 encS okS H w (.slice a_Ra a_Rn a_Rc) a.touch.reads) (Q2 : Rd 1 encS okS H w (.slice a_Wa a_Wn a_Wc) a.touch.writes) (Q3 : Rd 2 encC okC H w (.slice b_Sa b_Sn b_Sc) b.store) (Q4 : Rd 1 encS okS H w (.slice b_Ra b_Rn b_Rc) b.touch.reads) (Q5 : Rd 1 encS okS H w (.slice b_Wa b_Wn b_Wc) b.touch.writes) :
    Calls Tryz.prog 17 #[.agg #[.slice a_Sa a_Sn a_Sc, .slice a_Ra a_Rn a_Rc, .slice a_Wa a_Wn a_Wc], .agg #[.slice b_Sa b_Sn b_Sc, .slice b_Ra b_Rn b_Rc, .slice b_Wa b_Wn b_Wc]] w fun e w' => e = .returned (.bool (decide (a = b))) ∧ Mv [] w [] w' := by
 have Q6 : Rd 2 encC okC (V H w []) w (.slice a_Sa a_Sn a_Sc) a.store := Rd.start Q0 (fun _ _ => fps_nil _)
 obtain ⟨Q18, Q12, Q24, Q30⟩ := Rd.inv Q0
 have Q7 : Rd 1 encS okS (V H w []) w (.slice a_Ra a_Rn a_Rc) a.touch.reads := Rd.start Q1 (fun _ _ => fps_nil _)
 obtain ⟨Q19, Q13, Q25, Q31⟩ := Rd.inv Q1
 have Q8 : Rd 1 encS okS (V H w []) w (.slice a_Wa a_Wn a_Wc) a.touch.writes := Rd.start Q2 (fun _ _ => fps_nil _)
 obtain ⟨Q20, Q14, Q26, Q32⟩ := Rd.inv Q2
 have Q9 : Rd 2 encC okC (V H w []) w (.slice b_Sa b_Sn b_Sc) b.store := Rd.start Q3 (fun _ _ => fps_nil _)
 obtain ⟨Q21, Q15, Q27, Q33⟩ := Rd.inv Q3
 have Q10 : Rd 1 encS okS (V H w []) w (.slice b_Ra b_Rn b_Rc) b.touch.reads := Rd.start Q4 (fun _ _ => fps_nil _)
 obtain ⟨Q22, Q16, Q28, Q34⟩ := Rd.inv Q4
 have Q11 : Rd 1 encS okS (V H w []) w (.slice b_Wa b_Wn b_Wc) b.touch.writes := Rd.start Q5 (fun _ _ => fps_nil _)
 obtain ⟨Q23, Q17, Q29, Q35⟩ := Rd.inv Q5
 refine calls_enter 17 Tryz.func17 rfl Tryz.ntmps17 (Nat.le_of_ble_eq_true rfl) (fun _ F0i => ?_)
 have F0 : Fr 17 [(0, .agg #[.slice a_Sa a_Sn a_Sc, .slice a_Ra a_Rn a_Rc, .slice a_Wa a_Wn a_Wc]), (1, .agg #[.slice b_Sa b_Sn b_Sc, .slice b_Ra b_Rn b_Rc, .slice b_Wa b_Wn b_Wc])] _ := F0i
 clear F0i
 refine wp_seq (wp_region_lit (l_op (f_box F0 (At.nil w) rfl rfl rfl (F0.ev 0 rfl) rfl rfl fun b1 _ w1 F2 S1 => ?_)))
 refine l_op (f_box F2 S1.at' rfl rfl rfl (F2.ev 1 rfl) rfl rfl fun b3 _ w3 F4 S3 => ?_)
 refine l_op (f_val F4 rfl rfl (r_assign rfl rfl) rfl fun _ F5 => ?_)
 refine s_end (x_normal (wp_seq (wp_region_lit (l_op (f_val F5 rfl rfl (r_field FI_29_0 rfl (F5.ev 2 rfl) rfl) rfl fun _ F6 => ?_)))))
 refine l_op (f_val (v := .slice a_Sa a_Sn a_Sc) F6 rfl rfl (r_loadB S3.at' 1 TI_24 rfl rfl (F6.ev 5 rfl) rfl rfl (fun _ => rfl) rfl) rfl fun _ F7 => ?_)
 refine l_op (f_val F7 rfl rfl (r_field FI_29_0 rfl (F7.ev 3 rfl) rfl) rfl fun _ F8 => ?_)
 refine l_op (f_val (v := .slice b_Sa b_Sn b_Sc) F8 rfl rfl (r_loadB S3.at' 0 TI_24 rfl rfl (F8.ev 7 rfl) rfl rfl (fun _ => rfl) rfl) rfl fun _ F9 => ?_)
 refine l_op (f_call F9 CF_50 rfl rfl rfl rfl (lc (F9.ev 6 rfl) (lc (F9.ev 8 rfl) rfl)) (laws_sameCells_c (a := a.store) (b := b.store) (Rd.mq Q6 (S1.trans S3)) (Rd.mq Q9 (S1.trans S3))) ?_)
 rintro _ w10 ⟨rfl, m10⟩
 refine ⟨_, rfl, fun _ F11 => ?_⟩
 have S10 := At.frame0 S3.at' m10
 clear m10
 refine l_op (f_mv F11 rfl rfl rfl rfl rfl fun _ F12 => ?_)
 rcases Bool.eq_false_or_eq_true (decide (a.store = b.store)) with h13 | h13
 · rw [h13] at F12
   refine l_op (f_val F12 (wanted_g F12 rfl rfl rfl rfl) rfl (r_field FI_29_1 rfl (F12.ev 2 rfl) rfl) rfl fun _ F14 => ?_)
   refine l_op (f_val (v := .agg #[.slice a_Ra a_Rn a_Rc, .slice a_Wa a_Wn a_Wc]) F14 (wanted_g F14 rfl rfl rfl rfl) rfl (r_loadB S10.at' 1 TI_27 rfl rfl (F14.ev 11 rfl) rfl rfl (fun h => nomatch h) rfl) rfl fun _ F15 => ?_)
   refine l_op (f_val F15 (wanted_g F15 rfl rfl rfl rfl) rfl (r_field FI_29_1 rfl (F15.ev 3 rfl) rfl) rfl fun _ F16 => ?_)
   refine l_op (f_val (v := .agg #[.slice b_Ra b_Rn b_Rc, .slice b_Wa b_Wn b_Wc]) F16 (wanted_g F16 rfl rfl rfl rfl) rfl (r_loadB S10.at' 0 TI_27 rfl rfl (F16.ev 13 rfl) rfl rfl (fun h => nomatch h) rfl) rfl fun _ F17 => ?_)
   refine l_op (f_call F17 CF_51 (wanted_g F17 rfl rfl rfl rfl) rfl rfl rfl (lc (F17.ev 12 rfl) (lc (F17.ev 14 rfl) rfl)) (laws_sameTouch_c (a := a.touch) (b := b.touch) (Rd.mq Q7 (S1.trans (S3.trans S10))) (Rd.mq Q8 (S1.trans (S3.trans S10))) (Rd.mq Q10 (S1.trans (S3.trans S10))) (Rd.mq Q11 (S1.trans (S3.trans S10)))) ?_)
   rintro _ w18 ⟨rfl, m18⟩
   refine ⟨_, rfl, fun _ F19 => ?_⟩
   have S18 := At.frame0 S10.at' m18
   clear m18
   refine l_op (f_val F19 rfl rfl (r_pick (b := true) rfl (F19.ev 10 rfl) (F19.ev 15 rfl)) rfl fun _ F20 => ?_)
   refine l_op (f_as F20 rfl rfl rfl rfl rfl fun _ F21 => ?_)
   have T22 : Mv _ _ [bx b3 [.slice b_Sa b_Sn b_Sc, .slice b_Ra b_Rn b_Rc, .slice b_Wa b_Wn b_Wc] 29, bx b1 [.slice a_Sa a_Sn a_Sc, .slice a_Ra a_Rn a_Rc, .slice a_Wa a_Wn a_Wc] 29] _ := S18
   refine s_end (x_normal (wp_ret ?_))
   refine x_done (v := .bool (decide (a.touch = b.touch))) F21 (results_1 Tryz.results17 (.tmp (F21.ev 4 rfl))) ?_
   exact ⟨(by rw [(show (decide (a.touch = b.touch)) = (decide (a = b)) from by first | exact (mach_ne ‹_›).symm | exact (mach_eq ‹_›).symm)]), (Mv.pick (S1.trans (S3.trans (S10.trans T22))) [] rfl)⟩
 · rw [h13] at F12
   refine l_op (f_skip F12 (wanted_g F12 rfl rfl rfl rfl) rfl rfl fun _ F23 => ?_)
   refine l_op (f_skip F23 (wanted_g F23 rfl rfl rfl rfl) rfl rfl fun _ F24 => ?_)
   refine l_op (f_skip F24 (wanted_g F24 rfl rfl rfl rfl) rfl rfl fun _ F25 => ?_)
   refine l_op (f_skip F25 (wanted_g F25 rfl rfl rfl rfl) rfl rfl fun _ F26 => ?_)
   refine l_op (f_skip F26 (wanted_g F26 rfl rfl rfl rfl) rfl rfl fun _ F27 => ?_)
   refine l_op (f_val F27 rfl rfl (r_pick (b := false) rfl (F27.ev 10 rfl) rfl) rfl fun _ F28 => ?_)
   refine l_op (f_as F28 rfl rfl rfl rfl rfl fun _ F29 => ?_)
   refine s_end (x_normal (wp_ret ?_))
   refine x_done (v := .bool false) F29 (results_1 Tryz.results17 (.tmp (F29.ev 4 rfl))) ?_
   exact ⟨(by rw [(show false = (decide (a = b)) from by first | exact (mach_ne ‹_›).symm | exact (mach_eq ‹_›).symm)]), (Mv.pick (S1.trans (S3.trans S10)) [] rfl)⟩
theorem laws_FnPages_c {w : World} {H : Nat → Prop} {code : List Nat} {Q148 : Option Addr} {Q150 Q149 : Nat} (Q180 : RdA 1 encB okB H w (.slice Q148 Q150 Q149) code) (tab0 : Tb 0 H w) (tab2 : Tb 2 H w) :
    Calls Tryz.prog 3 #[.slice Q148 Q150 Q149] w fun e w' => e = .returned (.bool true) ∧ Mv [] w [] w' := by
 have Q147 : RdA 1 encB okB (V H w []) w (.slice Q148 Q150 Q149) code := RdA.start Q180 (fun _ _ => fps_nil _)
 obtain ⟨Q186, Q185, Q289, Q290⟩ := RdA.inv Q180
 have V_tab0 : Tb 0 (V H w []) w := Tb.start tab0 (fun _ _ => fps_nil _)
 have V_tab2 : Tb 2 (V H w []) w := Tb.start tab2 (fun _ _ => fps_nil _)
 refine calls_enter 216 Tryz.func3 rfl Tryz.ntmps3 (Nat.le_of_ble_eq_true rfl) (fun _ F0i => ?_)
 have F0 : Fr 216 [(0, .slice Q148 Q150 Q149)] _ := F0i
 clear F0i
 refine wp_seq (wp_region_lit (l_op (f_val F0 rfl rfl (r_assign rfl rfl) rfl fun _ F1 => ?_)))
 refine s_end (x_normal (wp_seq (wp_seq (wp_region_lit (l_op (f_mv F1 rfl rfl rfl rfl rfl fun _ F2 => ?_))))))
 refine l_op (f_call F2 CF_5 rfl rfl rfl rfl (lc (F2.ev 41 rfl) rfl) (laws_big_c (code := code) Q147) ?_)
 rintro _ w3 ⟨rfl, m3⟩
 refine ⟨_, rfl, fun _ F4 => ?_⟩
 have S3 := At.frame0 (At.nil w) m3
 clear m3
 refine s_end (x_normal (x_cond (p := code.length > 1048576) (F4.ev 42 rfl) (fun h5 => ?_) (fun h5 => ?_)))
 · skip
   refine wp_seq (wp_region_lit (l_op (f_val F4 rfl rfl (r_assign rfl rfl) rfl fun _ F6 => ?_)))
   refine s_end (x_normal (wp_ret (x_then_ret ?_)))
   refine x_done (v := .bool true) F6 (results_1 Tryz.results3 (.tmp (F6.ev 2 rfl))) ?_
   exact ⟨rfl, (Mv.pick S3 [] rfl)⟩
 · skip
   refine wp_skip (x_normal (wp_seq (wp_region_lit (l_op (f_mv F4 rfl rfl rfl rfl rfl fun _ F7 => ?_)))))
   refine l_op (f_call F7 CF_6 rfl rfl rfl rfl (lc (F7.ev 44 rfl) rfl) (spec_DrawStorePage_c (code := code) (RdA.mv (Nat.succ_pos _) Q147 S3) (by first | assumption | omega | (simp <;> omega))) ?_)
   rintro _ w8 ⟨d_8, a_8, p_8, t_8, Q39, Q41, Q40, Q36, Q38, Q37, Q42, Q44, Q43, rfl, m8, v8_0, v8_1, v8_2, Q160, q8_0, q8_1, q8_2, q8_3⟩
   refine ⟨_, rfl, fun _ F9 => ?_⟩
   have S8 := At.frame0 S3.at' m8
   have V8_0 := Rd.got0 S3.at' (S3.kp.size) v8_0 S8
   obtain ⟨ln8_0, le8_0, mx8_0, ni8_0⟩ := Rd.inv V8_0
   have V8_1 := Rd.got0 S3.at' (S3.kp.size) v8_1 S8
   obtain ⟨ln8_1, le8_1, mx8_1, ni8_1⟩ := Rd.inv V8_1
   have V8_2 := Rd.got0 S3.at' (S3.kp.size) v8_2 S8
   obtain ⟨ln8_2, le8_2, mx8_2, ni8_2⟩ := Rd.inv V8_2
   clear m8 v8_0 v8_1 v8_2
   refine l_op (f_mv F9 rfl rfl rfl rfl rfl fun _ F10 => ?_)
   refine l_op (f_val (v := .agg #[.slice Q39 Q41 Q40, .slice Q36 Q38 Q37, .slice Q42 Q44 Q43]) F10 rfl rfl (r_extract rfl (F10.ev 43 rfl) rfl) rfl fun _ F11 => ?_)
   refine l_op (f_val (v := .int .i64 ((a_8 : Nat) : Int)) F11 rfl rfl (r_extract rfl (F11.ev 43 rfl) rfl) rfl fun _ F12 => ?_)
   refine l_op (f_val (v := .int .i64 p_8) F12 rfl rfl (r_extract rfl (F12.ev 43 rfl) rfl) rfl fun _ F13 => ?_)
   refine l_op (f_val (v := .string t_8) F13 rfl rfl (r_extract rfl (F13.ev 43 rfl) rfl) rfl fun _ F14 => ?_)
   refine l_op (f_alloc F14 S8.at' ZI_29 rfl rfl rfl rfl rfl fun b15 _ w15 F16 S15 => ?_)
   refine l_op (s_store S15.at' 0 TI_29 rfl rfl rfl rfl rfl (F16.ev 3 rfl) (F16.ev 46 rfl) rfl rfl rfl rfl rfl fun w17 S17 => ?_)
   refine l_op (f_as F16 rfl rfl rfl rfl rfl fun _ F18 => ?_)
   refine l_op (f_as F18 rfl rfl rfl rfl rfl fun _ F19 => ?_)
   refine l_op (f_as F19 rfl rfl rfl rfl rfl fun _ F20 => ?_)
   refine s_end (x_normal (wp_seq (wp_region_lit (l_op (f_val (v := .agg #[.slice Q39 Q41 Q40, .slice Q36 Q38 Q37, .slice Q42 Q44 Q43]) F20 rfl rfl (r_loadB S17.at' 0 TI_29 rfl rfl (F20.ev 3 rfl) rfl rfl (fun h => nomatch h) rfl) rfl fun _ F21 => ?_)))))
   refine l_op (f_mv F21 rfl rfl rfl rfl rfl fun _ F22 => ?_)
   refine l_op (f_mv F22 rfl rfl rfl rfl rfl fun _ F23 => ?_)
   refine l_op (f_mv F23 rfl rfl rfl rfl rfl fun _ F24 => ?_)
   refine l_op (f_call F24 CF_7 rfl rfl rfl rfl (lc (F24.ev 51 rfl) (lc (F24.ev 52 rfl) (lc (F24.ev 53 rfl) (lc (F24.ev 54 rfl) rfl)))) (impl_StorePage_c (m := d_8) (id := ((a_8 : Nat) : Int)) (page := p_8) (text := t_8) (Rd.mq V8_0 (S15.trans S17)) (Rd.mq V8_1 (S15.trans S17)) (Rd.mq V8_2 (S15.trans S17)) (by first | assumption | exact ⟨by omega, by omega⟩ | (unfold i64ok at *; omega)) (by first | assumption | exact ⟨by omega, by omega⟩ | (unfold i64ok at *; omega)) Q160 (Tb.mv V_tab0 (S3.trans (S8.trans (S15.trans S17)))) (by first | decide | omega | exact bdC.le ‹_› (by decide) | exact bdC.le bdC_base (by decide) | exact bdC.le (bdC.store bdC_base) (by decide) | exact bdC.le (bdC.fork (bdC.store bdC_base)) (by decide) | exact bdC.le (bdC.store (bdC.fork (bdC.store bdC_base))) (by decide) | exact bdC.le (bdC.load (bdC.store (bdC.fork (bdC.store bdC_base)))) (by decide))) ?_)
   rintro _ w25 ⟨Q0, Q2, Q1, Q3, Q5, Q4, Q6, Q8, Q7, rfl, m25⟩
   refine ⟨_, rfl, fun _ F26 => ?_⟩
   have S25 : Mv _ _ [ow 73 2 encC okC (.slice Q0 Q2 Q1) (storeM d_8 (kQ_ ((a_8 : Nat) : Int) p_8) p_8 t_8).store, ow 9 1 encS okS (.slice Q3 Q5 Q4) (storeM d_8 (kQ_ ((a_8 : Nat) : Int) p_8) p_8 t_8).touch.reads, ow 9 1 encS okS (.slice Q6 Q8 Q7) (storeM d_8 (kQ_ ((a_8 : Nat) : Int) p_8) p_8 t_8).touch.writes, bx b15 [.slice Q39 Q41 Q40, .slice Q36 Q38 Q37, .slice Q42 Q44 Q43] 29] _ := At.frame S17.at' [] rfl m25
   obtain ⟨Q215, Q249, Q283⟩ := At.ownInv S25.at' ET_24.hk 0 rfl
   obtain ⟨Q216, Q250, Q284⟩ := At.ownInv S25.at' ET_25.hk 1 rfl
   obtain ⟨Q217, Q251, Q285⟩ := At.ownInv S25.at' ET_25.hk 2 rfl
   clear m25
   refine l_op (f_mv F26 rfl rfl rfl rfl rfl fun _ F27 => ?_)
   refine l_op (f_val (v := .agg #[.slice Q0 Q2 Q1, .slice Q3 Q5 Q4, .slice Q6 Q8 Q7]) F27 rfl rfl (r_extract rfl (F27.ev 50 rfl) rfl) rfl fun _ F28 => ?_)
   refine l_op (f_val (v := .int .i64 (storeC p_8 t_8)) F28 rfl rfl (r_extract rfl (F28.ev 50 rfl) rfl) rfl fun _ F29 => ?_)
   refine l_op (f_alloc F29 S25.at' ZI_29 rfl rfl rfl rfl rfl fun b30 _ w30 F31 S30 => ?_)
   refine l_op (s_store S30.at' 0 TI_29 rfl rfl rfl rfl rfl (F31.ev 7 rfl) (F31.ev 56 rfl) rfl rfl rfl rfl rfl fun w32 S32 => ?_)
   refine l_op (f_as F31 rfl rfl rfl rfl rfl fun _ F33 => ?_)
   refine s_end (x_normal (wp_seq (wp_region_lit (l_op (f_val (v := .agg #[.slice Q39 Q41 Q40, .slice Q36 Q38 Q37, .slice Q42 Q44 Q43]) F33 rfl rfl (r_loadB S32.at' 4 TI_29 rfl rfl (F33.ev 3 rfl) rfl rfl (fun h => nomatch h) rfl) rfl fun _ F34 => ?_)))))
   refine l_op (f_mv F34 rfl rfl rfl rfl rfl fun _ F35 => ?_)
   refine l_op (f_mv F35 rfl rfl rfl rfl rfl fun _ F36 => ?_)
   refine l_op (f_mv F36 rfl rfl rfl rfl rfl fun _ F37 => ?_)
   refine l_op (f_call F37 CF_8 rfl rfl rfl rfl (lc (F37.ev 59 rfl) (lc (F37.ev 60 rfl) (lc (F37.ev 61 rfl) (lc (F37.ev 62 rfl) rfl)))) (spec_StorePage_c (m := d_8) (id := ((a_8 : Nat) : Int)) (page := p_8) (text := t_8) (Rd.mq V8_0 (S15.trans (S17.trans (S25.trans (S30.trans S32))))) (Rd.mq V8_1 (S15.trans (S17.trans (S25.trans (S30.trans S32))))) (Rd.mq V8_2 (S15.trans (S17.trans (S25.trans (S30.trans S32))))) (by first | assumption | exact ⟨by omega, by omega⟩ | (unfold i64ok at *; omega)) (by first | assumption | exact ⟨by omega, by omega⟩ | (unfold i64ok at *; omega)) Q160 (by first | decide | omega | exact bdC.le ‹_› (by decide) | exact bdC.le bdC_base (by decide) | exact bdC.le (bdC.store bdC_base) (by decide) | exact bdC.le (bdC.fork (bdC.store bdC_base)) (by decide) | exact bdC.le (bdC.store (bdC.fork (bdC.store bdC_base))) (by decide) | exact bdC.le (bdC.load (bdC.store (bdC.fork (bdC.store bdC_base)))) (by decide))) ?_)
   rintro _ w38 ⟨Q55, Q61, Q58, Q46, Q52, Q49, Q64, Q70, Q67, rfl, m38, v38_0, v38_1, v38_2⟩
   refine ⟨_, rfl, fun _ F39 => ?_⟩
   have S38 := At.frame0 S32.at' m38
   have V38_0 := Rd.got0 S32.at' ((S3.trans (S8.trans (S15.trans (S17.trans (S25.trans (S30.trans S32)))))).kp.size) v38_0 S38
   obtain ⟨ln38_0, le38_0, mx38_0, ni38_0⟩ := Rd.inv V38_0
   have V38_1 := Rd.got0 S32.at' ((S3.trans (S8.trans (S15.trans (S17.trans (S25.trans (S30.trans S32)))))).kp.size) v38_1 S38
   obtain ⟨ln38_1, le38_1, mx38_1, ni38_1⟩ := Rd.inv V38_1
   have V38_2 := Rd.got0 S32.at' ((S3.trans (S8.trans (S15.trans (S17.trans (S25.trans (S30.trans S32)))))).kp.size) v38_2 S38
   obtain ⟨ln38_2, le38_2, mx38_2, ni38_2⟩ := Rd.inv V38_2
   clear m38 v38_0 v38_1 v38_2
   refine l_op (f_mv F39 rfl rfl rfl rfl rfl fun _ F40 => ?_)
   refine l_op (f_val (v := .agg #[.slice Q55 Q61 Q58, .slice Q46 Q52 Q49, .slice Q64 Q70 Q67]) F40 rfl rfl (r_extract rfl (F40.ev 58 rfl) rfl) rfl fun _ F41 => ?_)
   refine l_op (f_val (v := .int .i64 (storeC p_8 t_8)) F41 rfl rfl (r_extract rfl (F41.ev 58 rfl) rfl) rfl fun _ F42 => ?_)
   refine l_op (f_alloc F42 S38.at' ZI_29 rfl rfl rfl rfl rfl fun b43 _ w43 F44 S43 => ?_)
   refine l_op (s_store S43.at' 0 TI_29 rfl rfl rfl rfl rfl (F44.ev 9 rfl) (F44.ev 64 rfl) rfl rfl rfl rfl rfl fun w45 S45 => ?_)
   refine l_op (f_as F44 rfl rfl rfl rfl rfl fun _ F46 => ?_)
   refine s_end (x_normal (wp_seq (wp_region_lit (l_op (f_mv F46 rfl rfl rfl rfl rfl fun _ F47 => ?_)))))
   refine l_op (f_call F47 CF_9 rfl rfl rfl rfl (lc (F47.ev 67 rfl) rfl) (spec_DrawLoadPage_c (code := code) (RdA.mv (Nat.succ_pos _) Q147 (S3.trans (S8.trans (S15.trans (S17.trans (S25.trans (S30.trans (S32.trans (S38.trans (S43.trans S45)))))))))) (by first | assumption | omega | (simp <;> omega))) ?_)
   rintro _ w48 ⟨d_48, a_48, p_48, Q56, Q62, Q59, Q47, Q53, Q50, Q65, Q71, Q68, rfl, m48, v48_0, v48_1, v48_2, q48_0, q48_1, q48_2⟩
   refine ⟨_, rfl, fun _ F49 => ?_⟩
   have S48 := At.frame0 S45.at' m48
   have V48_0 := Rd.got0 S45.at' ((S3.trans (S8.trans (S15.trans (S17.trans (S25.trans (S30.trans (S32.trans (S38.trans (S43.trans S45))))))))).kp.size) v48_0 S48
   obtain ⟨ln48_0, le48_0, mx48_0, ni48_0⟩ := Rd.inv V48_0
   have V48_1 := Rd.got0 S45.at' ((S3.trans (S8.trans (S15.trans (S17.trans (S25.trans (S30.trans (S32.trans (S38.trans (S43.trans S45))))))))).kp.size) v48_1 S48
   obtain ⟨ln48_1, le48_1, mx48_1, ni48_1⟩ := Rd.inv V48_1
   have V48_2 := Rd.got0 S45.at' ((S3.trans (S8.trans (S15.trans (S17.trans (S25.trans (S30.trans (S32.trans (S38.trans (S43.trans S45))))))))).kp.size) v48_2 S48
   obtain ⟨ln48_2, le48_2, mx48_2, ni48_2⟩ := Rd.inv V48_2
   clear m48 v48_0 v48_1 v48_2
   refine l_op (f_mv F49 rfl rfl rfl rfl rfl fun _ F50 => ?_)
   refine l_op (f_val (v := .agg #[.slice Q56 Q62 Q59, .slice Q47 Q53 Q50, .slice Q65 Q71 Q68]) F50 rfl rfl (r_extract rfl (F50.ev 66 rfl) rfl) rfl fun _ F51 => ?_)
   refine l_op (f_val (v := .int .i64 ((a_48 : Nat) : Int)) F51 rfl rfl (r_extract rfl (F51.ev 66 rfl) rfl) rfl fun _ F52 => ?_)
   refine l_op (f_val (v := .int .i64 p_48) F52 rfl rfl (r_extract rfl (F52.ev 66 rfl) rfl) rfl fun _ F53 => ?_)
   refine l_op (f_alloc F53 S48.at' ZI_29 rfl rfl rfl rfl rfl fun b54 _ w54 F55 S54 => ?_)
   refine l_op (s_store S54.at' 0 TI_29 rfl rfl rfl rfl rfl (F55.ev 11 rfl) (F55.ev 69 rfl) rfl rfl rfl rfl rfl fun w56 S56 => ?_)
   refine l_op (f_as F55 rfl rfl rfl rfl rfl fun _ F57 => ?_)
   refine l_op (f_as F57 rfl rfl rfl rfl rfl fun _ F58 => ?_)
   have F59 : Fr 216 [(13, .int .i64 p_48), (12, .int .i64 ((a_48 : Nat) : Int)), (11, .pointer (some ⟨b54, 0, none⟩)), (10, .int .i64 (storeC p_8 t_8)), (9, .pointer (some ⟨b43, 0, none⟩)), (8, .int .i64 (storeC p_8 t_8)), (7, .pointer (some ⟨b30, 0, none⟩)), (6, .string t_8), (0, .slice Q148 Q150 Q149)] _ := F58.cut rfl
   clear F0 F1 F2 F4 F7 F9 F10 F11 F12 F13 F14 F16 F18 F19 F20 F21 F22 F23 F24 F26 F27 F28 F29 F31 F33 F34 F35 F36 F37 F39 F40 F41 F42 F44 F46 F47 F49 F50 F51 F52 F53 F55 F57 F58
   have T60 : Mv _ _ [bx b54 [.slice Q56 Q62 Q59, .slice Q47 Q53 Q50, .slice Q65 Q71 Q68] 29, bx b43 [.slice Q55 Q61 Q58, .slice Q46 Q52 Q49, .slice Q64 Q70 Q67] 29, bx b30 [.slice Q0 Q2 Q1, .slice Q3 Q5 Q4, .slice Q6 Q8 Q7] 29, ow 73 2 encC okC (.slice Q0 Q2 Q1) (storeM d_8 (kQ_ ((a_8 : Nat) : Int) p_8) p_8 t_8).store, ow 9 1 encS okS (.slice Q3 Q5 Q4) (storeM d_8 (kQ_ ((a_8 : Nat) : Int) p_8) p_8 t_8).touch.reads, ow 9 1 encS okS (.slice Q6 Q8 Q7) (storeM d_8 (kQ_ ((a_8 : Nat) : Int) p_8) p_8 t_8).touch.writes, bx b15 [.slice Q39 Q41 Q40, .slice Q36 Q38 Q37, .slice Q42 Q44 Q43] 29] _ := S56
   refine s_end (x_normal (wp_seq (wp_region_lit (l_op (f_val (v := .agg #[.slice Q56 Q62 Q59, .slice Q47 Q53 Q50, .slice Q65 Q71 Q68]) F59 rfl rfl (r_loadB T60.at' 0 TI_29 rfl rfl (F59.ev 11 rfl) rfl rfl (fun h => nomatch h) rfl) rfl fun _ F61 => ?_)))))
   refine l_op (f_mv F61 rfl rfl rfl rfl rfl fun _ F62 => ?_)
   refine l_op (f_mv F62 rfl rfl rfl rfl rfl fun _ F63 => ?_)
   refine l_op (f_call F63 CF_10 rfl rfl rfl rfl (lc (F63.ev 73 rfl) (lc (F63.ev 74 rfl) (lc (F63.ev 75 rfl) rfl))) (impl_LoadPage_c (m := d_48) (id := ((a_48 : Nat) : Int)) (page := p_48) (Rd.mq V48_0 (S54.trans T60)) (Rd.mq V48_1 (S54.trans T60)) (Rd.mq V48_2 (S54.trans T60)) (by first | assumption | exact ⟨by omega, by omega⟩ | (unfold i64ok at *; omega)) (by first | assumption | exact ⟨by omega, by omega⟩ | (unfold i64ok at *; omega)) (Tb.mv V_tab0 (S3.trans (S8.trans (S15.trans (S17.trans (S25.trans (S30.trans (S32.trans (S38.trans (S43.trans (S45.trans (S48.trans (S54.trans T60))))))))))))) (Tb.mv V_tab2 (S3.trans (S8.trans (S15.trans (S17.trans (S25.trans (S30.trans (S32.trans (S38.trans (S43.trans (S45.trans (S48.trans (S54.trans T60))))))))))))) (by first | decide | omega | exact bdC.le ‹_› (by decide) | exact bdC.le bdC_base (by decide) | exact bdC.le (bdC.store bdC_base) (by decide) | exact bdC.le (bdC.fork (bdC.store bdC_base)) (by decide) | exact bdC.le (bdC.store (bdC.fork (bdC.store bdC_base))) (by decide) | exact bdC.le (bdC.load (bdC.store (bdC.fork (bdC.store bdC_base)))) (by decide))) ?_)
   rintro _ w64 ⟨Q16, Q20, Q18, Q10, Q14, Q12, Q22, Q26, Q24, rfl, m64, Q293⟩
   refine ⟨_, rfl, fun _ F65 => ?_⟩
   have S64 : Mv _ _ [ow 73 2 encC okC (.slice Q16 Q20 Q18) (loadM d_48 (kQ_ ((a_48 : Nat) : Int) p_48) p_48).store, ow 9 1 encS okS (.slice Q10 Q14 Q12) (loadM d_48 (kQ_ ((a_48 : Nat) : Int) p_48) p_48).touch.reads, ow 9 1 encS okS (.slice Q22 Q26 Q24) (loadM d_48 (kQ_ ((a_48 : Nat) : Int) p_48) p_48).touch.writes, bx b54 [.slice Q56 Q62 Q59, .slice Q47 Q53 Q50, .slice Q65 Q71 Q68] 29, bx b43 [.slice Q55 Q61 Q58, .slice Q46 Q52 Q49, .slice Q64 Q70 Q67] 29, bx b30 [.slice Q0 Q2 Q1, .slice Q3 Q5 Q4, .slice Q6 Q8 Q7] 29, ow 73 2 encC okC (.slice Q0 Q2 Q1) (storeM d_8 (kQ_ ((a_8 : Nat) : Int) p_8) p_8 t_8).store, ow 9 1 encS okS (.slice Q3 Q5 Q4) (storeM d_8 (kQ_ ((a_8 : Nat) : Int) p_8) p_8 t_8).touch.reads, ow 9 1 encS okS (.slice Q6 Q8 Q7) (storeM d_8 (kQ_ ((a_8 : Nat) : Int) p_8) p_8 t_8).touch.writes, bx b15 [.slice Q39 Q41 Q40, .slice Q36 Q38 Q37, .slice Q42 Q44 Q43] 29] _ := At.frame T60.at' [] rfl m64
   obtain ⟨Q218, Q252, Q286⟩ := At.ownInv S64.at' ET_24.hk 0 rfl
   obtain ⟨Q219, Q253, Q287⟩ := At.ownInv S64.at' ET_25.hk 1 rfl
   obtain ⟨Q220, Q254, Q288⟩ := At.ownInv S64.at' ET_25.hk 2 rfl
   clear m64
   refine l_op (f_mv F65 rfl rfl rfl rfl rfl fun _ F66 => ?_)
   refine l_op (f_val (v := .agg #[.slice Q16 Q20 Q18, .slice Q10 Q14 Q12, .slice Q22 Q26 Q24]) F66 rfl rfl (r_extract rfl (F66.ev 72 rfl) rfl) rfl fun _ F67 => ?_)
   refine l_op (f_val (v := .string (loadT d_48 (kQ_ ((a_48 : Nat) : Int) p_48) p_48)) F67 rfl rfl (r_extract rfl (F67.ev 72 rfl) rfl) rfl fun _ F68 => ?_)
   refine l_op (f_val (v := .int .i64 (loadC p_48)) F68 rfl rfl (r_extract rfl (F68.ev 72 rfl) rfl) rfl fun _ F69 => ?_)
   refine l_op (f_alloc F69 S64.at' ZI_29 rfl rfl rfl rfl rfl fun b70 _ w70 F71 S70 => ?_)
   refine l_op (s_store S70.at' 0 TI_29 rfl rfl rfl rfl rfl (F71.ev 14 rfl) (F71.ev 77 rfl) rfl rfl rfl rfl rfl fun w72 S72 => ?_)
   refine l_op (f_as F71 rfl rfl rfl rfl rfl fun _ F73 => ?_)
   refine l_op (f_as F73 rfl rfl rfl rfl rfl fun _ F74 => ?_)
   refine s_end (x_normal (wp_seq (wp_region_lit (l_op (f_val (v := .agg #[.slice Q56 Q62 Q59, .slice Q47 Q53 Q50, .slice Q65 Q71 Q68]) F74 rfl rfl (r_loadB S72.at' 4 TI_29 rfl rfl (F74.ev 11 rfl) rfl rfl (fun h => nomatch h) rfl) rfl fun _ F75 => ?_)))))
   refine l_op (f_mv F75 rfl rfl rfl rfl rfl fun _ F76 => ?_)
   refine l_op (f_mv F76 rfl rfl rfl rfl rfl fun _ F77 => ?_)
   refine l_op (f_call F77 CF_11 rfl rfl rfl rfl (lc (F77.ev 81 rfl) (lc (F77.ev 82 rfl) (lc (F77.ev 83 rfl) rfl))) (spec_LoadPage_c (m := d_48) (id := ((a_48 : Nat) : Int)) (page := p_48) (Rd.mq V48_0 (S54.trans (T60.trans (S64.trans (S70.trans S72))))) (Rd.mq V48_1 (S54.trans (T60.trans (S64.trans (S70.trans S72))))) (Rd.mq V48_2 (S54.trans (T60.trans (S64.trans (S70.trans S72))))) (by first | assumption | exact ⟨by omega, by omega⟩ | (unfold i64ok at *; omega)) (by first | assumption | exact ⟨by omega, by omega⟩ | (unfold i64ok at *; omega)) (by first | decide | omega | exact bdC.le ‹_› (by decide) | exact bdC.le bdC_base (by decide) | exact bdC.le (bdC.store bdC_base) (by decide) | exact bdC.le (bdC.fork (bdC.store bdC_base)) (by decide) | exact bdC.le (bdC.store (bdC.fork (bdC.store bdC_base))) (by decide) | exact bdC.le (bdC.load (bdC.store (bdC.fork (bdC.store bdC_base)))) (by decide))) ?_)
   rintro _ w78 ⟨Q93, Q95, Q94, Q90, Q92, Q91, Q96, Q98, Q97, rfl, m78, v78_0, v78_1, v78_2, Q294⟩
   refine ⟨_, rfl, fun _ F79 => ?_⟩
   have S78 := At.frame0 S72.at' m78
   have V78_0 := Rd.got0 S72.at' ((S3.trans (S8.trans (S15.trans (S17.trans (S25.trans (S30.trans (S32.trans (S38.trans (S43.trans (S45.trans (S48.trans (S54.trans (T60.trans (S64.trans (S70.trans S72))))))))))))))).kp.size) v78_0 S78
   obtain ⟨ln78_0, le78_0, mx78_0, ni78_0⟩ := Rd.inv V78_0
   have V78_1 := Rd.got0 S72.at' ((S3.trans (S8.trans (S15.trans (S17.trans (S25.trans (S30.trans (S32.trans (S38.trans (S43.trans (S45.trans (S48.trans (S54.trans (T60.trans (S64.trans (S70.trans S72))))))))))))))).kp.size) v78_1 S78
   obtain ⟨ln78_1, le78_1, mx78_1, ni78_1⟩ := Rd.inv V78_1
   have V78_2 := Rd.got0 S72.at' ((S3.trans (S8.trans (S15.trans (S17.trans (S25.trans (S30.trans (S32.trans (S38.trans (S43.trans (S45.trans (S48.trans (S54.trans (T60.trans (S64.trans (S70.trans S72))))))))))))))).kp.size) v78_2 S78
   obtain ⟨ln78_2, le78_2, mx78_2, ni78_2⟩ := Rd.inv V78_2
   clear m78 v78_0 v78_1 v78_2
   refine l_op (f_mv F79 rfl rfl rfl rfl rfl fun _ F80 => ?_)
   refine l_op (f_val (v := .agg #[.slice Q93 Q95 Q94, .slice Q90 Q92 Q91, .slice Q96 Q98 Q97]) F80 rfl rfl (r_extract rfl (F80.ev 80 rfl) rfl) rfl fun _ F81 => ?_)
   refine l_op (f_val (v := .string (loadT d_48 (kQ_ ((a_48 : Nat) : Int) p_48) p_48)) F81 rfl rfl (r_extract rfl (F81.ev 80 rfl) rfl) rfl fun _ F82 => ?_)
   refine l_op (f_val (v := .int .i64 (loadC p_48)) F82 rfl rfl (r_extract rfl (F82.ev 80 rfl) rfl) rfl fun _ F83 => ?_)
   refine l_op (f_alloc F83 S78.at' ZI_29 rfl rfl rfl rfl rfl fun b84 _ w84 F85 S84 => ?_)
   refine l_op (s_store S84.at' 0 TI_29 rfl rfl rfl rfl rfl (F85.ev 17 rfl) (F85.ev 85 rfl) rfl rfl rfl rfl rfl fun w86 S86 => ?_)
   refine l_op (f_as F85 rfl rfl rfl rfl rfl fun _ F87 => ?_)
   refine l_op (f_as F87 rfl rfl rfl rfl rfl fun _ F88 => ?_)
   refine s_end (x_normal (wp_seq (wp_region_lit (l_op (f_mv F88 rfl rfl rfl rfl rfl fun _ F89 => ?_)))))
   refine l_op (f_call F89 CF_12 rfl rfl rfl rfl (lc (F89.ev 89 rfl) rfl) (spec_DrawForkPages_c (code := code) (RdA.mv (Nat.succ_pos _) Q147 (S3.trans (S8.trans (S15.trans (S17.trans (S25.trans (S30.trans (S32.trans (S38.trans (S43.trans (S45.trans (S48.trans (S54.trans (T60.trans (S64.trans (S70.trans (S72.trans (S78.trans (S84.trans S86))))))))))))))))))) (by first | assumption | omega | (simp <;> omega))) ?_)
   rintro _ w90 ⟨d_90, a_90, b_90, Q79, Q83, Q81, Q73, Q77, Q75, Q85, Q89, Q87, rfl, m90, v90_0, v90_1, v90_2, q90_0, q90_1, q90_2⟩
   refine ⟨_, rfl, fun _ F91 => ?_⟩
   have S90 := At.frame0 S86.at' m90
   have V90_0 := Rd.got0 S86.at' ((S3.trans (S8.trans (S15.trans (S17.trans (S25.trans (S30.trans (S32.trans (S38.trans (S43.trans (S45.trans (S48.trans (S54.trans (T60.trans (S64.trans (S70.trans (S72.trans (S78.trans (S84.trans S86)))))))))))))))))).kp.size) v90_0 S90
   obtain ⟨ln90_0, le90_0, mx90_0, ni90_0⟩ := Rd.inv V90_0
   have V90_1 := Rd.got0 S86.at' ((S3.trans (S8.trans (S15.trans (S17.trans (S25.trans (S30.trans (S32.trans (S38.trans (S43.trans (S45.trans (S48.trans (S54.trans (T60.trans (S64.trans (S70.trans (S72.trans (S78.trans (S84.trans S86)))))))))))))))))).kp.size) v90_1 S90
   obtain ⟨ln90_1, le90_1, mx90_1, ni90_1⟩ := Rd.inv V90_1
   have V90_2 := Rd.got0 S86.at' ((S3.trans (S8.trans (S15.trans (S17.trans (S25.trans (S30.trans (S32.trans (S38.trans (S43.trans (S45.trans (S48.trans (S54.trans (T60.trans (S64.trans (S70.trans (S72.trans (S78.trans (S84.trans S86)))))))))))))))))).kp.size) v90_2 S90
   obtain ⟨ln90_2, le90_2, mx90_2, ni90_2⟩ := Rd.inv V90_2
   clear m90 v90_0 v90_1 v90_2
   refine l_op (f_mv F91 rfl rfl rfl rfl rfl fun _ F92 => ?_)
   refine l_op (f_val (v := .agg #[.slice Q79 Q83 Q81, .slice Q73 Q77 Q75, .slice Q85 Q89 Q87]) F92 rfl rfl (r_extract rfl (F92.ev 88 rfl) rfl) rfl fun _ F93 => ?_)
   refine l_op (f_val (v := .int .i64 ((a_90 : Nat) : Int)) F93 rfl rfl (r_extract rfl (F93.ev 88 rfl) rfl) rfl fun _ F94 => ?_)
   refine l_op (f_val (v := .int .i64 ((b_90 : Nat) : Int)) F94 rfl rfl (r_extract rfl (F94.ev 88 rfl) rfl) rfl fun _ F95 => ?_)
   refine l_op (f_alloc F95 S90.at' ZI_29 rfl rfl rfl rfl rfl fun b96 _ w96 F97 S96 => ?_)
   refine l_op (s_store S96.at' 0 TI_29 rfl rfl rfl rfl rfl (F97.ev 20 rfl) (F97.ev 91 rfl) rfl rfl rfl rfl rfl fun w98 S98 => ?_)
   refine l_op (f_as F97 rfl rfl rfl rfl rfl fun _ F99 => ?_)
   refine l_op (f_as F99 rfl rfl rfl rfl rfl fun _ F100 => ?_)
   refine s_end (x_normal (wp_seq (wp_region_lit (l_op (f_val (v := .agg #[.slice Q79 Q83 Q81, .slice Q73 Q77 Q75, .slice Q85 Q89 Q87]) F100 rfl rfl (r_loadB S98.at' 0 TI_29 rfl rfl (F100.ev 20 rfl) rfl rfl (fun h => nomatch h) rfl) rfl fun _ F101 => ?_)))))
   refine l_op (f_mv F101 rfl rfl rfl rfl rfl fun _ F102 => ?_)
   refine l_op (f_mv F102 rfl rfl rfl rfl rfl fun _ F103 => ?_)
   refine l_op (f_call F103 CF_13 rfl rfl rfl rfl (lc (F103.ev 94 rfl) (lc (F103.ev 95 rfl) (lc (F103.ev 96 rfl) rfl))) (impl_ForkPages_c (m := d_90) (from_ := ((a_90 : Nat) : Int)) (to := ((b_90 : Nat) : Int)) (Rd.mq V90_0 (S96.trans S98)) (Rd.mq V90_1 (S96.trans S98)) (Rd.mq V90_2 (S96.trans S98)) (by first | assumption | exact ⟨by omega, by omega⟩ | (unfold i64ok at *; omega)) (by first | assumption | exact ⟨by omega, by omega⟩ | (unfold i64ok at *; omega)) (Tb.mv V_tab0 (S3.trans (S8.trans (S15.trans (S17.trans (S25.trans (S30.trans (S32.trans (S38.trans (S43.trans (S45.trans (S48.trans (S54.trans (T60.trans (S64.trans (S70.trans (S72.trans (S78.trans (S84.trans (S86.trans (S90.trans (S96.trans S98)))))))))))))))))))))) (by first | decide | omega | exact bdC.le ‹_› (by decide) | exact bdC.le bdC_base (by decide) | exact bdC.le (bdC.store bdC_base) (by decide) | exact bdC.le (bdC.fork (bdC.store bdC_base)) (by decide) | exact bdC.le (bdC.store (bdC.fork (bdC.store bdC_base))) (by decide) | exact bdC.le (bdC.load (bdC.store (bdC.fork (bdC.store bdC_base)))) (by decide))) ?_)
   rintro _ w104 ⟨Q30, Q32, Q31, Q27, Q29, Q28, Q33, Q35, Q34, rfl, m104⟩
   refine ⟨_, rfl, fun _ F105 => ?_⟩
   have S104 : Mv _ _ [ow 73 2 encC okC (.slice Q30 Q32 Q31) (forkM (kP_ ((a_90 : Nat) : Int)) (kP_ ((b_90 : Nat) : Int)) d_90).store, ow 9 1 encS okS (.slice Q27 Q29 Q28) (forkM (kP_ ((a_90 : Nat) : Int)) (kP_ ((b_90 : Nat) : Int)) d_90).touch.reads, ow 9 1 encS okS (.slice Q33 Q35 Q34) (forkM (kP_ ((a_90 : Nat) : Int)) (kP_ ((b_90 : Nat) : Int)) d_90).touch.writes, bx b96 [.slice Q79 Q83 Q81, .slice Q73 Q77 Q75, .slice Q85 Q89 Q87] 29, bx b84 [.slice Q93 Q95 Q94, .slice Q90 Q92 Q91, .slice Q96 Q98 Q97] 29, bx b70 [.slice Q16 Q20 Q18, .slice Q10 Q14 Q12, .slice Q22 Q26 Q24] 29, ow 73 2 encC okC (.slice Q16 Q20 Q18) (loadM d_48 (kQ_ ((a_48 : Nat) : Int) p_48) p_48).store, ow 9 1 encS okS (.slice Q10 Q14 Q12) (loadM d_48 (kQ_ ((a_48 : Nat) : Int) p_48) p_48).touch.reads, ow 9 1 encS okS (.slice Q22 Q26 Q24) (loadM d_48 (kQ_ ((a_48 : Nat) : Int) p_48) p_48).touch.writes, bx b54 [.slice Q56 Q62 Q59, .slice Q47 Q53 Q50, .slice Q65 Q71 Q68] 29, bx b43 [.slice Q55 Q61 Q58, .slice Q46 Q52 Q49, .slice Q64 Q70 Q67] 29, bx b30 [.slice Q0 Q2 Q1, .slice Q3 Q5 Q4, .slice Q6 Q8 Q7] 29, ow 73 2 encC okC (.slice Q0 Q2 Q1) (storeM d_8 (kQ_ ((a_8 : Nat) : Int) p_8) p_8 t_8).store, ow 9 1 encS okS (.slice Q3 Q5 Q4) (storeM d_8 (kQ_ ((a_8 : Nat) : Int) p_8) p_8 t_8).touch.reads, ow 9 1 encS okS (.slice Q6 Q8 Q7) (storeM d_8 (kQ_ ((a_8 : Nat) : Int) p_8) p_8 t_8).touch.writes, bx b15 [.slice Q39 Q41 Q40, .slice Q36 Q38 Q37, .slice Q42 Q44 Q43] 29] _ := At.frame S98.at' [] rfl m104
   obtain ⟨Q187, Q221, Q255⟩ := At.ownInv S104.at' ET_24.hk 0 rfl
   obtain ⟨Q188, Q222, Q256⟩ := At.ownInv S104.at' ET_25.hk 1 rfl
   obtain ⟨Q189, Q223, Q257⟩ := At.ownInv S104.at' ET_25.hk 2 rfl
   clear m104
   refine l_op (f_alloc F105 S104.at' ZI_29 rfl rfl rfl rfl rfl fun b106 _ w106 F107 S106 => ?_)
   refine l_op (s_store S106.at' 0 TI_29 rfl rfl rfl rfl rfl (F107.ev 23 rfl) (F107.ev 97 rfl) rfl rfl rfl rfl rfl fun w108 S108 => ?_)
   have T109 : Mv _ _ [bx b106 [.slice Q30 Q32 Q31, .slice Q27 Q29 Q28, .slice Q33 Q35 Q34] 29, ow 73 2 encC okC (.slice Q30 Q32 Q31) (forkM (kP_ ((a_90 : Nat) : Int)) (kP_ ((b_90 : Nat) : Int)) d_90).store, ow 9 1 encS okS (.slice Q27 Q29 Q28) (forkM (kP_ ((a_90 : Nat) : Int)) (kP_ ((b_90 : Nat) : Int)) d_90).touch.reads, ow 9 1 encS okS (.slice Q33 Q35 Q34) (forkM (kP_ ((a_90 : Nat) : Int)) (kP_ ((b_90 : Nat) : Int)) d_90).touch.writes, bx b96 [.slice Q79 Q83 Q81, .slice Q73 Q77 Q75, .slice Q85 Q89 Q87] 29, bx b84 [.slice Q93 Q95 Q94, .slice Q90 Q92 Q91, .slice Q96 Q98 Q97] 29, bx b70 [.slice Q16 Q20 Q18, .slice Q10 Q14 Q12, .slice Q22 Q26 Q24] 29, ow 73 2 encC okC (.slice Q16 Q20 Q18) (loadM d_48 (kQ_ ((a_48 : Nat) : Int) p_48) p_48).store, ow 9 1 encS okS (.slice Q10 Q14 Q12) (loadM d_48 (kQ_ ((a_48 : Nat) : Int) p_48) p_48).touch.reads, ow 9 1 encS okS (.slice Q22 Q26 Q24) (loadM d_48 (kQ_ ((a_48 : Nat) : Int) p_48) p_48).touch.writes, bx b54 [.slice Q56 Q62 Q59, .slice Q47 Q53 Q50, .slice Q65 Q71 Q68] 29, bx b43 [.slice Q55 Q61 Q58, .slice Q46 Q52 Q49, .slice Q64 Q70 Q67] 29, bx b30 [.slice Q0 Q2 Q1, .slice Q3 Q5 Q4, .slice Q6 Q8 Q7] 29, ow 73 2 encC okC (.slice Q0 Q2 Q1) (storeM d_8 (kQ_ ((a_8 : Nat) : Int) p_8) p_8 t_8).store, ow 9 1 encS okS (.slice Q3 Q5 Q4) (storeM d_8 (kQ_ ((a_8 : Nat) : Int) p_8) p_8 t_8).touch.reads, ow 9 1 encS okS (.slice Q6 Q8 Q7) (storeM d_8 (kQ_ ((a_8 : Nat) : Int) p_8) p_8 t_8).touch.writes, bx b15 [.slice Q39 Q41 Q40, .slice Q36 Q38 Q37, .slice Q42 Q44 Q43] 29] _ := S108
   refine s_end (x_normal (wp_seq (wp_region_lit (l_op (f_mv F107 rfl rfl rfl rfl rfl fun _ F110 => ?_)))))
   refine l_op (f_call F110 CF_14 rfl rfl rfl rfl (lc (F110.ev 99 rfl) rfl) (spec_DrawPagesOf_c (code := code) (RdA.mv (Nat.succ_pos _) Q147 (S3.trans (S8.trans (S15.trans (S17.trans (S25.trans (S30.trans (S32.trans (S38.trans (S43.trans (S45.trans (S48.trans (S54.trans (T60.trans (S64.trans (S70.trans (S72.trans (S78.trans (S84.trans (S86.trans (S90.trans (S96.trans (S98.trans (S104.trans (S106.trans T109))))))))))))))))))))))))) (by first | assumption | omega | (simp <;> omega))) ?_)
   rintro _ w111 ⟨d_111, a_111, Q78, Q82, Q80, Q72, Q76, Q74, Q84, Q88, Q86, rfl, m111, v111_0, v111_1, v111_2, q111_0, q111_1⟩
   refine ⟨_, rfl, fun _ F112 => ?_⟩
   have S111 := At.frame0 T109.at' m111
   have V111_0 := Rd.got0 T109.at' ((S3.trans (S8.trans (S15.trans (S17.trans (S25.trans (S30.trans (S32.trans (S38.trans (S43.trans (S45.trans (S48.trans (S54.trans (T60.trans (S64.trans (S70.trans (S72.trans (S78.trans (S84.trans (S86.trans (S90.trans (S96.trans (S98.trans (S104.trans (S106.trans T109)))))))))))))))))))))))).kp.size) v111_0 S111
   obtain ⟨ln111_0, le111_0, mx111_0, ni111_0⟩ := Rd.inv V111_0
   have V111_1 := Rd.got0 T109.at' ((S3.trans (S8.trans (S15.trans (S17.trans (S25.trans (S30.trans (S32.trans (S38.trans (S43.trans (S45.trans (S48.trans (S54.trans (T60.trans (S64.trans (S70.trans (S72.trans (S78.trans (S84.trans (S86.trans (S90.trans (S96.trans (S98.trans (S104.trans (S106.trans T109)))))))))))))))))))))))).kp.size) v111_1 S111
   obtain ⟨ln111_1, le111_1, mx111_1, ni111_1⟩ := Rd.inv V111_1
   have V111_2 := Rd.got0 T109.at' ((S3.trans (S8.trans (S15.trans (S17.trans (S25.trans (S30.trans (S32.trans (S38.trans (S43.trans (S45.trans (S48.trans (S54.trans (T60.trans (S64.trans (S70.trans (S72.trans (S78.trans (S84.trans (S86.trans (S90.trans (S96.trans (S98.trans (S104.trans (S106.trans T109)))))))))))))))))))))))).kp.size) v111_2 S111
   obtain ⟨ln111_2, le111_2, mx111_2, ni111_2⟩ := Rd.inv V111_2
   clear m111 v111_0 v111_1 v111_2
   refine l_op (f_mv F112 rfl rfl rfl rfl rfl fun _ F113 => ?_)
   refine l_op (f_val (v := .agg #[.slice Q78 Q82 Q80, .slice Q72 Q76 Q74, .slice Q84 Q88 Q86]) F113 rfl rfl (r_extract rfl (F113.ev 98 rfl) rfl) rfl fun _ F114 => ?_)
   refine l_op (f_val (v := .int .i64 ((a_111 : Nat) : Int)) F114 rfl rfl (r_extract rfl (F114.ev 98 rfl) rfl) rfl fun _ F115 => ?_)
   refine l_op (f_alloc F115 S111.at' ZI_29 rfl rfl rfl rfl rfl fun b116 _ w116 F117 S116 => ?_)
   refine l_op (s_store S116.at' 0 TI_29 rfl rfl rfl rfl rfl (F117.ev 24 rfl) (F117.ev 101 rfl) rfl rfl rfl rfl rfl fun w118 S118 => ?_)
   refine l_op (f_as F117 rfl rfl rfl rfl rfl fun _ F119 => ?_)
   have F120 : Fr 216 [(25, .int .i64 ((a_111 : Nat) : Int)), (24, .pointer (some ⟨b116, 0, none⟩)), (23, .pointer (some ⟨b106, 0, none⟩)), (22, .int .i64 ((b_90 : Nat) : Int)), (21, .int .i64 ((a_90 : Nat) : Int)), (20, .pointer (some ⟨b96, 0, none⟩)), (19, .int .i64 (loadC p_48)), (18, .string (loadT d_48 (kQ_ ((a_48 : Nat) : Int) p_48) p_48)), (17, .pointer (some ⟨b84, 0, none⟩)), (16, .int .i64 (loadC p_48)), (15, .string (loadT d_48 (kQ_ ((a_48 : Nat) : Int) p_48) p_48)), (14, .pointer (some ⟨b70, 0, none⟩)), (10, .int .i64 (storeC p_8 t_8)), (9, .pointer (some ⟨b43, 0, none⟩)), (8, .int .i64 (storeC p_8 t_8)), (7, .pointer (some ⟨b30, 0, none⟩)), (6, .string t_8)] _ := F119.cut rfl
   clear F59 F61 F62 F63 F65 F66 F67 F68 F69 F71 F73 F74 F75 F76 F77 F79 F80 F81 F82 F83 F85 F87 F88 F89 F91 F92 F93 F94 F95 F97 F99 F100 F101 F102 F103 F105 F107 F110 F112 F113 F114 F115 F117 F119
   refine s_end (x_normal (wp_seq (wp_region_lit (l_op (f_val (v := .agg #[.slice Q78 Q82 Q80, .slice Q72 Q76 Q74, .slice Q84 Q88 Q86]) F120 rfl rfl (r_loadB S118.at' 0 TI_29 rfl rfl (F120.ev 24 rfl) rfl rfl (fun h => nomatch h) rfl) rfl fun _ F121 => ?_)))))
   refine l_op (f_mv F121 rfl rfl rfl rfl rfl fun _ F122 => ?_)
   refine l_op (f_call F122 CF_15 rfl rfl rfl rfl (lc (F122.ev 104 rfl) (lc (F122.ev 105 rfl) rfl)) (impl_PagesOf_c (m := d_111) (id := ((a_111 : Nat) : Int)) (Rd.mq V111_0 (S116.trans S118)) (Rd.mq V111_1 (S116.trans S118)) (Rd.mq V111_2 (S116.trans S118)) (by first | assumption | exact ⟨by omega, by omega⟩ | (unfold i64ok at *; omega)) (Tb.mv V_tab0 (S3.trans (S8.trans (S15.trans (S17.trans (S25.trans (S30.trans (S32.trans (S38.trans (S43.trans (S45.trans (S48.trans (S54.trans (T60.trans (S64.trans (S70.trans (S72.trans (S78.trans (S84.trans (S86.trans (S90.trans (S96.trans (S98.trans (S104.trans (S106.trans (T109.trans (S111.trans (S116.trans S118)))))))))))))))))))))))))))) (by first | decide | omega | exact bdC.le ‹_› (by decide) | exact bdC.le bdC_base (by decide) | exact bdC.le (bdC.store bdC_base) (by decide) | exact bdC.le (bdC.fork (bdC.store bdC_base)) (by decide) | exact bdC.le (bdC.store (bdC.fork (bdC.store bdC_base))) (by decide) | exact bdC.le (bdC.load (bdC.store (bdC.fork (bdC.store bdC_base)))) (by decide))) ?_)
   rintro _ w123 ⟨Q54, Q60, Q57, Q45, Q51, Q48, Q63, Q69, Q66, Q144, Q146, Q145, rfl, m123⟩
   refine ⟨_, rfl, fun _ F124 => ?_⟩
   have S123 : Mv _ _ [ow 73 2 encC okC (.slice Q54 Q60 Q57) (lookM d_111 (kP_ ((a_111 : Nat) : Int) ++ bT_)).store, ow 9 1 encS okS (.slice Q45 Q51 Q48) (lookM d_111 (kP_ ((a_111 : Nat) : Int) ++ bT_)).touch.reads, ow 9 1 encS okS (.slice Q63 Q69 Q66) (lookM d_111 (kP_ ((a_111 : Nat) : Int) ++ bT_)).touch.writes, ow 9 1 encS okS (.slice Q144 Q146 Q145) (cutL (kP_ ((a_111 : Nat) : Int)).size (keysUnder d_111.store (kP_ ((a_111 : Nat) : Int)))), bx b116 [.slice Q78 Q82 Q80, .slice Q72 Q76 Q74, .slice Q84 Q88 Q86] 29, bx b106 [.slice Q30 Q32 Q31, .slice Q27 Q29 Q28, .slice Q33 Q35 Q34] 29, ow 73 2 encC okC (.slice Q30 Q32 Q31) (forkM (kP_ ((a_90 : Nat) : Int)) (kP_ ((b_90 : Nat) : Int)) d_90).store, ow 9 1 encS okS (.slice Q27 Q29 Q28) (forkM (kP_ ((a_90 : Nat) : Int)) (kP_ ((b_90 : Nat) : Int)) d_90).touch.reads, ow 9 1 encS okS (.slice Q33 Q35 Q34) (forkM (kP_ ((a_90 : Nat) : Int)) (kP_ ((b_90 : Nat) : Int)) d_90).touch.writes, bx b96 [.slice Q79 Q83 Q81, .slice Q73 Q77 Q75, .slice Q85 Q89 Q87] 29, bx b84 [.slice Q93 Q95 Q94, .slice Q90 Q92 Q91, .slice Q96 Q98 Q97] 29, bx b70 [.slice Q16 Q20 Q18, .slice Q10 Q14 Q12, .slice Q22 Q26 Q24] 29, ow 73 2 encC okC (.slice Q16 Q20 Q18) (loadM d_48 (kQ_ ((a_48 : Nat) : Int) p_48) p_48).store, ow 9 1 encS okS (.slice Q10 Q14 Q12) (loadM d_48 (kQ_ ((a_48 : Nat) : Int) p_48) p_48).touch.reads, ow 9 1 encS okS (.slice Q22 Q26 Q24) (loadM d_48 (kQ_ ((a_48 : Nat) : Int) p_48) p_48).touch.writes, bx b54 [.slice Q56 Q62 Q59, .slice Q47 Q53 Q50, .slice Q65 Q71 Q68] 29, bx b43 [.slice Q55 Q61 Q58, .slice Q46 Q52 Q49, .slice Q64 Q70 Q67] 29, bx b30 [.slice Q0 Q2 Q1, .slice Q3 Q5 Q4, .slice Q6 Q8 Q7] 29, ow 73 2 encC okC (.slice Q0 Q2 Q1) (storeM d_8 (kQ_ ((a_8 : Nat) : Int) p_8) p_8 t_8).store, ow 9 1 encS okS (.slice Q3 Q5 Q4) (storeM d_8 (kQ_ ((a_8 : Nat) : Int) p_8) p_8 t_8).touch.reads, ow 9 1 encS okS (.slice Q6 Q8 Q7) (storeM d_8 (kQ_ ((a_8 : Nat) : Int) p_8) p_8 t_8).touch.writes, bx b15 [.slice Q39 Q41 Q40, .slice Q36 Q38 Q37, .slice Q42 Q44 Q43] 29] _ := At.frame S118.at' [] rfl m123
   obtain ⟨Q190, Q224, Q258⟩ := At.ownInv S123.at' ET_24.hk 0 rfl
   obtain ⟨Q191, Q225, Q259⟩ := At.ownInv S123.at' ET_25.hk 1 rfl
   obtain ⟨Q192, Q226, Q260⟩ := At.ownInv S123.at' ET_25.hk 2 rfl
   obtain ⟨Q193, Q227, Q261⟩ := At.ownInv S123.at' ET_25.hk 3 rfl
   clear m123
   refine l_op (f_mv F124 rfl rfl rfl rfl rfl fun _ F125 => ?_)
   refine l_op (f_val (v := .agg #[.slice Q54 Q60 Q57, .slice Q45 Q51 Q48, .slice Q63 Q69 Q66]) F125 rfl rfl (r_extract rfl (F125.ev 103 rfl) rfl) rfl fun _ F126 => ?_)
   refine l_op (f_val (v := .slice Q144 Q146 Q145) F126 rfl rfl (r_extract rfl (F126.ev 103 rfl) rfl) rfl fun _ F127 => ?_)
   refine l_op (f_alloc F127 S123.at' ZI_29 rfl rfl rfl rfl rfl fun b128 _ w128 F129 S128 => ?_)
   refine l_op (s_store S128.at' 0 TI_29 rfl rfl rfl rfl rfl (F129.ev 26 rfl) (F129.ev 107 rfl) rfl rfl rfl rfl rfl fun w130 S130 => ?_)
   refine l_op (f_as F129 rfl rfl rfl rfl rfl fun _ F131 => ?_)
   refine s_end (x_normal (wp_seq (wp_region_lit (l_op (f_val (v := .agg #[.slice Q78 Q82 Q80, .slice Q72 Q76 Q74, .slice Q84 Q88 Q86]) F131 rfl rfl (r_loadB S130.at' 5 TI_29 rfl rfl (F131.ev 24 rfl) rfl rfl (fun h => nomatch h) rfl) rfl fun _ F132 => ?_)))))
   refine l_op (f_mv F132 rfl rfl rfl rfl rfl fun _ F133 => ?_)
   refine l_op (f_call F133 CF_16 rfl rfl rfl rfl (lc (F133.ev 110 rfl) (lc (F133.ev 111 rfl) rfl)) (spec_PagesOf_c (m := d_111) (id := ((a_111 : Nat) : Int)) (Rd.mq V111_0 (S116.trans (S118.trans (S123.trans (S128.trans S130))))) (Rd.mq V111_1 (S116.trans (S118.trans (S123.trans (S128.trans S130))))) (Rd.mq V111_2 (S116.trans (S118.trans (S123.trans (S128.trans S130))))) (by first | assumption | exact ⟨by omega, by omega⟩ | (unfold i64ok at *; omega)) (by first | decide | omega | exact bdC.le ‹_› (by decide) | exact bdC.le bdC_base (by decide) | exact bdC.le (bdC.store bdC_base) (by decide) | exact bdC.le (bdC.fork (bdC.store bdC_base)) (by decide) | exact bdC.le (bdC.store (bdC.fork (bdC.store bdC_base))) (by decide) | exact bdC.le (bdC.load (bdC.store (bdC.fork (bdC.store bdC_base)))) (by decide))) ?_)
   rintro _ w134 ⟨Q120, Q122, Q121, Q117, Q119, Q118, Q123, Q125, Q124, Q181, Q183, Q182, rfl, m134, v134_0, v134_1, v134_2, v134_3⟩
   refine ⟨_, rfl, fun _ F135 => ?_⟩
   have S134 := At.frame0 S130.at' m134
   have V134_0 := Rd.got0 S130.at' ((S3.trans (S8.trans (S15.trans (S17.trans (S25.trans (S30.trans (S32.trans (S38.trans (S43.trans (S45.trans (S48.trans (S54.trans (T60.trans (S64.trans (S70.trans (S72.trans (S78.trans (S84.trans (S86.trans (S90.trans (S96.trans (S98.trans (S104.trans (S106.trans (T109.trans (S111.trans (S116.trans (S118.trans (S123.trans (S128.trans S130)))))))))))))))))))))))))))))).kp.size) v134_0 S134
   obtain ⟨ln134_0, le134_0, mx134_0, ni134_0⟩ := Rd.inv V134_0
   have V134_1 := Rd.got0 S130.at' ((S3.trans (S8.trans (S15.trans (S17.trans (S25.trans (S30.trans (S32.trans (S38.trans (S43.trans (S45.trans (S48.trans (S54.trans (T60.trans (S64.trans (S70.trans (S72.trans (S78.trans (S84.trans (S86.trans (S90.trans (S96.trans (S98.trans (S104.trans (S106.trans (T109.trans (S111.trans (S116.trans (S118.trans (S123.trans (S128.trans S130)))))))))))))))))))))))))))))).kp.size) v134_1 S134
   obtain ⟨ln134_1, le134_1, mx134_1, ni134_1⟩ := Rd.inv V134_1
   have V134_2 := Rd.got0 S130.at' ((S3.trans (S8.trans (S15.trans (S17.trans (S25.trans (S30.trans (S32.trans (S38.trans (S43.trans (S45.trans (S48.trans (S54.trans (T60.trans (S64.trans (S70.trans (S72.trans (S78.trans (S84.trans (S86.trans (S90.trans (S96.trans (S98.trans (S104.trans (S106.trans (T109.trans (S111.trans (S116.trans (S118.trans (S123.trans (S128.trans S130)))))))))))))))))))))))))))))).kp.size) v134_2 S134
   obtain ⟨ln134_2, le134_2, mx134_2, ni134_2⟩ := Rd.inv V134_2
   have V134_3 := Rd.got0 S130.at' ((S3.trans (S8.trans (S15.trans (S17.trans (S25.trans (S30.trans (S32.trans (S38.trans (S43.trans (S45.trans (S48.trans (S54.trans (T60.trans (S64.trans (S70.trans (S72.trans (S78.trans (S84.trans (S86.trans (S90.trans (S96.trans (S98.trans (S104.trans (S106.trans (T109.trans (S111.trans (S116.trans (S118.trans (S123.trans (S128.trans S130)))))))))))))))))))))))))))))).kp.size) v134_3 S134
   obtain ⟨ln134_3, le134_3, mx134_3, ni134_3⟩ := Rd.inv V134_3
   clear m134 v134_0 v134_1 v134_2 v134_3
   refine l_op (f_mv F135 rfl rfl rfl rfl rfl fun _ F136 => ?_)
   refine l_op (f_val (v := .agg #[.slice Q120 Q122 Q121, .slice Q117 Q119 Q118, .slice Q123 Q125 Q124]) F136 rfl rfl (r_extract rfl (F136.ev 109 rfl) rfl) rfl fun _ F137 => ?_)
   refine l_op (f_val (v := .slice Q181 Q183 Q182) F137 rfl rfl (r_extract rfl (F137.ev 109 rfl) rfl) rfl fun _ F138 => ?_)
   refine l_op (f_alloc F138 S134.at' ZI_29 rfl rfl rfl rfl rfl fun b139 _ w139 F140 S139 => ?_)
   refine l_op (s_store S139.at' 0 TI_29 rfl rfl rfl rfl rfl (F140.ev 28 rfl) (F140.ev 113 rfl) rfl rfl rfl rfl rfl fun w141 S141 => ?_)
   refine l_op (f_as F140 rfl rfl rfl rfl rfl fun _ F142 => ?_)
   refine s_end (x_normal (wp_seq (wp_seq ?_)))
   refine x_draw (fun aZ wZ => ∃ (Q167 : Option Addr), ∃ (Q171 : Nat), ∃ (Q169 : Nat), ∃ (Q161 : Option Addr), ∃ (Q165 : Nat), ∃ (Q163 : Nat), ∃ (Q173 : Option Addr), ∃ (Q177 : Nat), ∃ (Q175 : Nat), ∃ (Q132 : Option Addr), ∃ (Q136 : Nat), ∃ (Q134 : Nat), ∃ (Q126 : Option Addr), ∃ (Q130 : Nat), ∃ (Q128 : Nat), ∃ (Q138 : Option Addr), ∃ (Q142 : Nat), ∃ (Q140 : Nat), ∃ (Q168 : Option Addr), ∃ (Q172 : Nat), ∃ (Q170 : Nat), ∃ (Q162 : Option Addr), ∃ (Q166 : Nat), ∃ (Q164 : Nat), ∃ (Q174 : Option Addr), ∃ (Q178 : Nat), ∃ (Q176 : Nat), Fr 216 [(6, .string t_8), (7, .pointer (some ⟨b30, 0, none⟩)), (8, .int .i64 (storeC p_8 t_8)), (170, .bool false)] aZ ∧ Mv [bx b139 [.slice Q120 Q122 Q121, .slice Q117 Q119 Q118, .slice Q123 Q125 Q124] 29, bx b128 [.slice Q54 Q60 Q57, .slice Q45 Q51 Q48, .slice Q63 Q69 Q66] 29, ow 73 2 encC okC (.slice Q54 Q60 Q57) (lookM d_111 (kP_ ((a_111 : Nat) : Int) ++ bT_)).store, ow 9 1 encS okS (.slice Q45 Q51 Q48) (lookM d_111 (kP_ ((a_111 : Nat) : Int) ++ bT_)).touch.reads, ow 9 1 encS okS (.slice Q63 Q69 Q66) (lookM d_111 (kP_ ((a_111 : Nat) : Int) ++ bT_)).touch.writes, ow 9 1 encS okS (.slice Q144 Q146 Q145) (cutL (kP_ ((a_111 : Nat) : Int)).size (keysUnder d_111.store (kP_ ((a_111 : Nat) : Int)))), bx b116 [.slice Q78 Q82 Q80, .slice Q72 Q76 Q74, .slice Q84 Q88 Q86] 29, bx b106 [.slice Q30 Q32 Q31, .slice Q27 Q29 Q28, .slice Q33 Q35 Q34] 29, ow 73 2 encC okC (.slice Q30 Q32 Q31) (forkM (kP_ ((a_90 : Nat) : Int)) (kP_ ((b_90 : Nat) : Int)) d_90).store, ow 9 1 encS okS (.slice Q27 Q29 Q28) (forkM (kP_ ((a_90 : Nat) : Int)) (kP_ ((b_90 : Nat) : Int)) d_90).touch.reads, ow 9 1 encS okS (.slice Q33 Q35 Q34) (forkM (kP_ ((a_90 : Nat) : Int)) (kP_ ((b_90 : Nat) : Int)) d_90).touch.writes, bx b96 [.slice Q79 Q83 Q81, .slice Q73 Q77 Q75, .slice Q85 Q89 Q87] 29, bx b84 [.slice Q93 Q95 Q94, .slice Q90 Q92 Q91, .slice Q96 Q98 Q97] 29, bx b70 [.slice Q16 Q20 Q18, .slice Q10 Q14 Q12, .slice Q22 Q26 Q24] 29, ow 73 2 encC okC (.slice Q16 Q20 Q18) (loadM d_48 (kQ_ ((a_48 : Nat) : Int) p_48) p_48).store, ow 9 1 encS okS (.slice Q10 Q14 Q12) (loadM d_48 (kQ_ ((a_48 : Nat) : Int) p_48) p_48).touch.reads, ow 9 1 encS okS (.slice Q22 Q26 Q24) (loadM d_48 (kQ_ ((a_48 : Nat) : Int) p_48) p_48).touch.writes, bx b54 [.slice Q56 Q62 Q59, .slice Q47 Q53 Q50, .slice Q65 Q71 Q68] 29, bx b43 [.slice Q55 Q61 Q58, .slice Q46 Q52 Q49, .slice Q64 Q70 Q67] 29, bx b30 [.slice Q0 Q2 Q1, .slice Q3 Q5 Q4, .slice Q6 Q8 Q7] 29, ow 73 2 encC okC (.slice Q0 Q2 Q1) (storeM d_8 (kQ_ ((a_8 : Nat) : Int) p_8) p_8 t_8).store, ow 9 1 encS okS (.slice Q3 Q5 Q4) (storeM d_8 (kQ_ ((a_8 : Nat) : Int) p_8) p_8 t_8).touch.reads, ow 9 1 encS okS (.slice Q6 Q8 Q7) (storeM d_8 (kQ_ ((a_8 : Nat) : Int) p_8) p_8 t_8).touch.writes, bx b15 [.slice Q39 Q41 Q40, .slice Q36 Q38 Q37, .slice Q42 Q44 Q43] 29] w141 [bx b139 [.slice Q120 Q122 Q121, .slice Q117 Q119 Q118, .slice Q123 Q125 Q124] 29, bx b128 [.slice Q54 Q60 Q57, .slice Q45 Q51 Q48, .slice Q63 Q69 Q66] 29, ow 73 2 encC okC (.slice Q54 Q60 Q57) (lookM d_111 (kP_ ((a_111 : Nat) : Int) ++ bT_)).store, ow 9 1 encS okS (.slice Q45 Q51 Q48) (lookM d_111 (kP_ ((a_111 : Nat) : Int) ++ bT_)).touch.reads, ow 9 1 encS okS (.slice Q63 Q69 Q66) (lookM d_111 (kP_ ((a_111 : Nat) : Int) ++ bT_)).touch.writes, ow 9 1 encS okS (.slice Q144 Q146 Q145) (cutL (kP_ ((a_111 : Nat) : Int)).size (keysUnder d_111.store (kP_ ((a_111 : Nat) : Int)))), bx b116 [.slice Q78 Q82 Q80, .slice Q72 Q76 Q74, .slice Q84 Q88 Q86] 29, bx b106 [.slice Q30 Q32 Q31, .slice Q27 Q29 Q28, .slice Q33 Q35 Q34] 29, ow 73 2 encC okC (.slice Q30 Q32 Q31) (forkM (kP_ ((a_90 : Nat) : Int)) (kP_ ((b_90 : Nat) : Int)) d_90).store, ow 9 1 encS okS (.slice Q27 Q29 Q28) (forkM (kP_ ((a_90 : Nat) : Int)) (kP_ ((b_90 : Nat) : Int)) d_90).touch.reads, ow 9 1 encS okS (.slice Q33 Q35 Q34) (forkM (kP_ ((a_90 : Nat) : Int)) (kP_ ((b_90 : Nat) : Int)) d_90).touch.writes, bx b96 [.slice Q79 Q83 Q81, .slice Q73 Q77 Q75, .slice Q85 Q89 Q87] 29, bx b84 [.slice Q93 Q95 Q94, .slice Q90 Q92 Q91, .slice Q96 Q98 Q97] 29, bx b70 [.slice Q16 Q20 Q18, .slice Q10 Q14 Q12, .slice Q22 Q26 Q24] 29, ow 73 2 encC okC (.slice Q16 Q20 Q18) (loadM d_48 (kQ_ ((a_48 : Nat) : Int) p_48) p_48).store, ow 9 1 encS okS (.slice Q10 Q14 Q12) (loadM d_48 (kQ_ ((a_48 : Nat) : Int) p_48) p_48).touch.reads, ow 9 1 encS okS (.slice Q22 Q26 Q24) (loadM d_48 (kQ_ ((a_48 : Nat) : Int) p_48) p_48).touch.writes, bx b54 [.slice Q56 Q62 Q59, .slice Q47 Q53 Q50, .slice Q65 Q71 Q68] 29, bx b43 [.slice Q55 Q61 Q58, .slice Q46 Q52 Q49, .slice Q64 Q70 Q67] 29, bx b30 [.slice Q0 Q2 Q1, .slice Q3 Q5 Q4, .slice Q6 Q8 Q7] 29, ow 73 2 encC okC (.slice Q0 Q2 Q1) (storeM d_8 (kQ_ ((a_8 : Nat) : Int) p_8) p_8 t_8).store, ow 9 1 encS okS (.slice Q3 Q5 Q4) (storeM d_8 (kQ_ ((a_8 : Nat) : Int) p_8) p_8 t_8).touch.reads, ow 9 1 encS okS (.slice Q6 Q8 Q7) (storeM d_8 (kQ_ ((a_8 : Nat) : Int) p_8) p_8 t_8).touch.writes, bx b15 [.slice Q39 Q41 Q40, .slice Q36 Q38 Q37, .slice Q42 Q44 Q43] 29, ow 73 2 encC okC (.slice Q132 Q136 Q134) (wipeM d_111 (kP_ ((a_111 : Nat) : Int))).store, ow 9 1 encS okS (.slice Q126 Q130 Q128) (wipeM d_111 (kP_ ((a_111 : Nat) : Int))).touch.reads, ow 9 1 encS okS (.slice Q138 Q142 Q140) (wipeM d_111 (kP_ ((a_111 : Nat) : Int))).touch.writes] wZ ∧ okS t_8) [bx b30 [.slice Q0 Q2 Q1, .slice Q3 Q5 Q4, .slice Q6 Q8 Q7] 29, bx b43 [.slice Q55 Q61 Q58, .slice Q46 Q52 Q49, .slice Q64 Q70 Q67] 29, bx b70 [.slice Q16 Q20 Q18, .slice Q10 Q14 Q12, .slice Q22 Q26 Q24] 29, bx b84 [.slice Q93 Q95 Q94, .slice Q90 Q92 Q91, .slice Q96 Q98 Q97] 29, bx b106 [.slice Q30 Q32 Q31, .slice Q27 Q29 Q28, .slice Q33 Q35 Q34] 29, bx b96 [.slice Q79 Q83 Q81, .slice Q73 Q77 Q75, .slice Q85 Q89 Q87] 29, bx b128 [.slice Q54 Q60 Q57, .slice Q45 Q51 Q48, .slice Q63 Q69 Q66] 29, bx b139 [.slice Q120 Q122 Q121, .slice Q117 Q119 Q118, .slice Q123 Q125 Q124] 29, bx b116 [.slice Q78 Q82 Q80, .slice Q72 Q76 Q74, .slice Q84 Q88 Q86] 29] mixed S141.at' (listed := #[false, false, false, false, false, false, false, false, false, false, false, false, false, false, false, false, false, false, false, false, false, false, false, false, false, false, false, false, false, false, false, false, false, false, false, false, false, false, false, false, false, false, false, false, false, false, false, false, false, false, false, false, false, false, false, false]) rfl (fun w144 S144 => ?_) [19, 18, 13, 12, 7, 11, 1, 0, 6] rfl ?_
   · skip
     refine g_take F142 rfl (i := 0) (listed' := #[yT, nF, nF, nF, nF, nF, nF, nF, nF, nF, nF, nF, nF, nF, nF, nF, nF, nF, nF, nF, nF, nF, nF, nF, nF, nF, nF, nF, nF, nF, nF, nF, nF, nF, nF, nF, nF, nF, nF, nF, nF, nF, nF, nF, nF, nF, nF, nF, nF, nF, nF, nF, nF, nF, nF, nF]) rfl (by kernel_rfl) (by kernel_rfl) (by kernel_rfl) (fun _ _ _ h => h) (Sd.of (Mv.refl S144.at') [19, 18, 13, 12, 7, 11, 1, 0, 6] rfl) rfl rfl rfl rfl (fun _ hz => (r_move rfl (F142.ev 8 rfl))) fun _ F145 => ?_
     refine g_take F145 rfl (i := 1) (listed' := #[yT, yT, nF, nF, nF, nF, nF, nF, nF, nF, nF, nF, nF, nF, nF, nF, nF, nF, nF, nF, nF, nF, nF, nF, nF, nF, nF, nF, nF, nF, nF, nF, nF, nF, nF, nF, nF, nF, nF, nF, nF, nF, nF, nF, nF, nF, nF, nF, nF, nF, nF, nF, nF, nF, nF, nF]) rfl (by kernel_rfl) (by kernel_rfl) (by kernel_rfl) (fun _ _ _ h => h) (Sd.of (Mv.refl S144.at') [19, 18, 13, 12, 7, 11, 1, 0, 6] rfl) rfl rfl rfl rfl (fun _ hz => (r_move rfl (F145.ev 10 rfl))) fun _ F146 => ?_
     refine g_take F146 rfl (i := 2) (listed' := #[yT, yT, yT, nF, nF, nF, nF, nF, nF, nF, nF, nF, nF, nF, nF, nF, nF, nF, nF, nF, nF, nF, nF, nF, nF, nF, nF, nF, nF, nF, nF, nF, nF, nF, nF, nF, nF, nF, nF, nF, nF, nF, nF, nF, nF, nF, nF, nF, nF, nF, nF, nF, nF, nF, nF, nF]) rfl (by kernel_rfl) (by kernel_rfl) (by kernel_rfl) (fun _ _ _ h => h) (Sd.of (Mv.refl S144.at') [19, 18, 13, 12, 7, 11, 1, 0, 6] rfl) rfl rfl rfl rfl (fun _ hz => (r_cmp (b := false) (.inr (.inl rfl)) rfl (F146.ev 115 rfl) (F146.ev 116 rfl) (cmp_nes _))) fun _ F147 => ?_
     refine g_take F147 rfl (i := 3) (listed' := #[yT, yT, yT, yT, nF, nF, nF, nF, nF, nF, nF, nF, nF, nF, nF, nF, nF, nF, nF, nF, nF, nF, nF, nF, nF, nF, nF, nF, nF, nF, nF, nF, nF, nF, nF, nF, nF, nF, nF, nF, nF, nF, nF, nF, nF, nF, nF, nF, nF, nF, nF, nF, nF, nF, nF, nF]) rfl (by kernel_rfl) (by kernel_rfl) (by kernel_rfl) (fun _ _ _ h => h) (Sd.of (Mv.refl S144.at') [19, 18, 13, 12, 7, 11, 1, 0, 6] rfl) rfl rfl rfl rfl (fun _ hz => (r_move rfl (F147.ev 117 rfl))) fun _ F148 => ?_
     refine g_take (v := .agg #[.slice Q0 Q2 Q1, .slice Q3 Q5 Q4, .slice Q6 Q8 Q7]) F148 rfl (i := 4) (listed' := #[yT, yT, yT, yT, yT, nF, nF, nF, nF, nF, nF, nF, nF, nF, nF, nF, nF, nF, nF, nF, nF, nF, nF, nF, nF, nF, nF, nF, nF, nF, nF, nF, nF, nF, nF, nF, nF, nF, nF, nF, nF, nF, nF, nF, nF, nF, nF, nF, nF, nF, nF, nF, nF, nF, nF, nF]) rfl (by kernel_rfl) (by kernel_rfl) (by kernel_rfl) (fun _ _ _ h => h) (Sd.of (Mv.refl S144.at') [19, 18, 13, 12, 7, 11, 1, 0, 6] rfl) rfl (wanted_g F148 rfl rfl rfl rfl) rfl rfl (fun _ hz => (r_loadX (hz.bx 0 rfl) TI_29 rfl (F148.ev 7 rfl) rfl rfl (fun h => nomatch h) rfl)) fun _ F149 => ?_
     refine g_take (v := .agg #[.slice Q55 Q61 Q58, .slice Q46 Q52 Q49, .slice Q64 Q70 Q67]) F149 rfl (i := 5) (listed' := #[yT, yT, yT, yT, yT, yT, nF, nF, nF, nF, nF, nF, nF, nF, nF, nF, nF, nF, nF, nF, nF, nF, nF, nF, nF, nF, nF, nF, nF, nF, nF, nF, nF, nF, nF, nF, nF, nF, nF, nF, nF, nF, nF, nF, nF, nF, nF, nF, nF, nF, nF, nF, nF, nF, nF, nF]) rfl (by kernel_rfl) (by kernel_rfl) (by kernel_rfl) (fun _ _ _ h => h) (Sd.of (Mv.refl S144.at') [19, 18, 13, 12, 7, 11, 1, 0, 6] rfl) rfl (wanted_g F149 rfl rfl rfl rfl) rfl rfl (fun _ hz => (r_loadX (hz.bx 1 rfl) TI_29 rfl (F149.ev 9 rfl) rfl rfl (fun h => nomatch h) rfl)) fun _ F150 => ?_
     refine d_one (i := 6) (listed' := #[yT, yT, yT, yT, yT, yT, yT, nF, nF, nF, nF, nF, nF, nF, nF, nF, nF, nF, nF, nF, nF, nF, nF, nF, nF, nF, nF, nF, nF, nF, nF, nF, nF, nF, nF, nF, nF, nF, nF, nF, nF, nF, nF, nF, nF, nF, nF, nF, nF, nF, nF, nF, nF, nF, nF, nF]) rfl (by kernel_rfl) rfl rfl ?_
     refine f_call F150 CF_17 (wanted_g F150 rfl rfl rfl rfl) rfl rfl rfl (lc (F150.ev 119 rfl) (lc (F150.ev 120 rfl) rfl)) (laws_sameMach_c (H := fun _ => True) (a := (storeM d_8 (kQ_ ((a_8 : Nat) : Int) p_8) p_8 t_8)) (b := (storeM d_8 (kQ_ ((a_8 : Nat) : Int) p_8) p_8 t_8)) (At.rd S144.at' ET_24.hk 20 rfl) (At.rd S144.at' ET_25.hk 21 rfl) (At.rd S144.at' ET_25.hk 22 rfl) (Rd.top (Rd.mq V38_0 (S43.trans (S45.trans (S48.trans (S54.trans (T60.trans (S64.trans (S70.trans (S72.trans (S78.trans (S84.trans (S86.trans (S90.trans (S96.trans (S98.trans (S104.trans (S106.trans (T109.trans (S111.trans (S116.trans (S118.trans (S123.trans (S128.trans (S130.trans (S134.trans (S139.trans (S141.trans S144)))))))))))))))))))))))))))) (Rd.top (Rd.mq V38_1 (S43.trans (S45.trans (S48.trans (S54.trans (T60.trans (S64.trans (S70.trans (S72.trans (S78.trans (S84.trans (S86.trans (S90.trans (S96.trans (S98.trans (S104.trans (S106.trans (T109.trans (S111.trans (S116.trans (S118.trans (S123.trans (S128.trans (S130.trans (S134.trans (S139.trans (S141.trans S144)))))))))))))))))))))))))))) (Rd.top (Rd.mq V38_2 (S43.trans (S45.trans (S48.trans (S54.trans (T60.trans (S64.trans (S70.trans (S72.trans (S78.trans (S84.trans (S86.trans (S90.trans (S96.trans (S98.trans (S104.trans (S106.trans (T109.trans (S111.trans (S116.trans (S118.trans (S123.trans (S128.trans (S130.trans (S134.trans (S139.trans (S141.trans S144))))))))))))))))))))))))))))) ?_
     rintro _ w151 ⟨rfl, m151⟩
     refine ⟨_, rfl, fun _ F152 => ?_⟩
     have S151 := At.frame0 S144.at' m151
     rw [show (decide ((storeM d_8 (kQ_ ((a_8 : Nat) : Int) p_8) p_8 t_8) = (storeM d_8 (kQ_ ((a_8 : Nat) : Int) p_8) p_8 t_8))) = true from decide_eq_true rfl] at F152
     clear m151
     refine ⟨Sd.of S151 [19, 18, 13, 12, 7, 11, 1, 0, 6] rfl, ?_⟩
     refine g_take F152 rfl (i := 7) (listed' := #[yT, yT, yT, yT, yT, yT, yT, yT, nF, nF, nF, nF, nF, nF, nF, nF, nF, nF, nF, nF, nF, nF, nF, nF, nF, nF, nF, nF, nF, nF, nF, nF, nF, nF, nF, nF, nF, nF, nF, nF, nF, nF, nF, nF, nF, nF, nF, nF, nF, nF, nF, nF, nF, nF, nF, nF]) rfl (by kernel_rfl) (by kernel_rfl) (by kernel_rfl) (fun _ _ _ h => h) (Sd.of S151 [19, 18, 13, 12, 7, 11, 1, 0, 6] rfl) rfl (wanted_g F152 rfl rfl rfl rfl) rfl rfl (fun _ hz => (r_not rfl (F152.ev 121 rfl))) fun _ F153 => ?_
     refine g_take F153 rfl (i := 8) (listed' := #[yT, yT, yT, yT, yT, yT, yT, yT, yT, nF, nF, nF, nF, nF, nF, nF, nF, nF, nF, nF, nF, nF, nF, nF, nF, nF, nF, nF, nF, nF, nF, nF, nF, nF, nF, nF, nF, nF, nF, nF, nF, nF, nF, nF, nF, nF, nF, nF, nF, nF, nF, nF, nF, nF, nF, nF]) rfl (by kernel_rfl) (by kernel_rfl) (by kernel_rfl) (fun _ _ _ h => h) (Sd.of S151 [19, 18, 13, 12, 7, 11, 1, 0, 6] rfl) rfl rfl rfl rfl (fun _ hz => (r_pick (b := false) rfl (F153.ev 118 rfl) (F153.ev 122 rfl))) fun _ F154 => ?_
     refine g_take F154 rfl (i := 9) (listed' := #[yT, yT, yT, yT, yT, yT, yT, yT, yT, yT, nF, nF, nF, nF, nF, nF, nF, nF, nF, nF, nF, nF, nF, nF, nF, nF, nF, nF, nF, nF, nF, nF, nF, nF, nF, nF, nF, nF, nF, nF, nF, nF, nF, nF, nF, nF, nF, nF, nF, nF, nF, nF, nF, nF, nF, nF]) rfl (by kernel_rfl) (by kernel_rfl) (by kernel_rfl) (fun _ _ _ h => h) (Sd.of S151 [19, 18, 13, 12, 7, 11, 1, 0, 6] rfl) rfl rfl rfl rfl (fun _ hz => (r_move rfl (F154.ev 123 rfl))) fun _ F155 => ?_
     refine g_take F155 rfl (i := 10) (listed' := #[yT, yT, yT, yT, yT, yT, yT, yT, yT, yT, yT, nF, nF, nF, nF, nF, nF, nF, nF, nF, nF, nF, nF, nF, nF, nF, nF, nF, nF, nF, nF, nF, nF, nF, nF, nF, nF, nF, nF, nF, nF, nF, nF, nF, nF, nF, nF, nF, nF, nF, nF, nF, nF, nF, nF, nF]) rfl (by kernel_rfl) (by kernel_rfl) (by kernel_rfl) (fun _ _ _ h => h) (Sd.of S151 [19, 18, 13, 12, 7, 11, 1, 0, 6] rfl) rfl (wanted_g F155 rfl rfl rfl rfl) rfl rfl (fun _ hz => (r_move rfl (F155.ev 15 rfl))) fun _ F156 => ?_
     refine g_take F156 rfl (i := 11) (listed' := #[yT, yT, yT, yT, yT, yT, yT, yT, yT, yT, yT, yT, nF, nF, nF, nF, nF, nF, nF, nF, nF, nF, nF, nF, nF, nF, nF, nF, nF, nF, nF, nF, nF, nF, nF, nF, nF, nF, nF, nF, nF, nF, nF, nF, nF, nF, nF, nF, nF, nF, nF, nF, nF, nF, nF, nF]) rfl (by kernel_rfl) (by kernel_rfl) (by kernel_rfl) (fun _ _ _ h => h) (Sd.of S151 [19, 18, 13, 12, 7, 11, 1, 0, 6] rfl) rfl (wanted_g F156 rfl rfl rfl rfl) rfl rfl (fun _ hz => (r_move rfl (F156.ev 18 rfl))) fun _ F157 => ?_
     refine g_take F157 rfl (i := 12) (listed' := #[yT, yT, yT, yT, yT, yT, yT, yT, yT, yT, yT, yT, yT, nF, nF, nF, nF, nF, nF, nF, nF, nF, nF, nF, nF, nF, nF, nF, nF, nF, nF, nF, nF, nF, nF, nF, nF, nF, nF, nF, nF, nF, nF, nF, nF, nF, nF, nF, nF, nF, nF, nF, nF, nF, nF, nF]) rfl (by kernel_rfl) (by kernel_rfl) (by kernel_rfl) (fun _ _ _ h => h) (Sd.of S151 [19, 18, 13, 12, 7, 11, 1, 0, 6] rfl) rfl (wanted_g F157 rfl rfl rfl rfl) rfl rfl (fun _ hz => (r_cmps (b := false) (.inr (.inl rfl)) rfl (F157.ev 125 rfl) (F157.ev 126 rfl) (cmps_nes _))) fun _ F158 => ?_
     refine g_take F158 rfl (i := 13) (listed' := #[yT, yT, yT, yT, yT, yT, yT, yT, yT, yT, yT, yT, yT, yT, nF, nF, nF, nF, nF, nF, nF, nF, nF, nF, nF, nF, nF, nF, nF, nF, nF, nF, nF, nF, nF, nF, nF, nF, nF, nF, nF, nF, nF, nF, nF, nF, nF, nF, nF, nF, nF, nF, nF, nF, nF, nF]) rfl (by kernel_rfl) (by kernel_rfl) (by kernel_rfl) (fun _ _ _ h => h) (Sd.of S151 [19, 18, 13, 12, 7, 11, 1, 0, 6] rfl) rfl rfl rfl rfl (fun _ hz => (r_pick (b := false) rfl (F158.ev 124 rfl) (F158.ev 127 rfl))) fun _ F159 => ?_
     refine g_take F159 rfl (i := 14) (listed' := #[yT, yT, yT, yT, yT, yT, yT, yT, yT, yT, yT, yT, yT, yT, yT, nF, nF, nF, nF, nF, nF, nF, nF, nF, nF, nF, nF, nF, nF, nF, nF, nF, nF, nF, nF, nF, nF, nF, nF, nF, nF, nF, nF, nF, nF, nF, nF, nF, nF, nF, nF, nF, nF, nF, nF, nF]) rfl (by kernel_rfl) (by kernel_rfl) (by kernel_rfl) (fun _ _ _ h => h) (Sd.of S151 [19, 18, 13, 12, 7, 11, 1, 0, 6] rfl) rfl rfl rfl rfl (fun _ hz => (r_move rfl (F159.ev 128 rfl))) fun _ F160 => ?_
     refine g_take F160 rfl (i := 15) (listed' := #[yT, yT, yT, yT, yT, yT, yT, yT, yT, yT, yT, yT, yT, yT, yT, yT, nF, nF, nF, nF, nF, nF, nF, nF, nF, nF, nF, nF, nF, nF, nF, nF, nF, nF, nF, nF, nF, nF, nF, nF, nF, nF, nF, nF, nF, nF, nF, nF, nF, nF, nF, nF, nF, nF, nF, nF]) rfl (by kernel_rfl) (by kernel_rfl) (by kernel_rfl) (fun _ _ _ h => h) (Sd.of S151 [19, 18, 13, 12, 7, 11, 1, 0, 6] rfl) rfl (wanted_g F160 rfl rfl rfl rfl) rfl rfl (fun _ hz => (r_move rfl (F160.ev 16 rfl))) fun _ F161 => ?_
     refine g_take F161 rfl (i := 16) (listed' := #[yT, yT, yT, yT, yT, yT, yT, yT, yT, yT, yT, yT, yT, yT, yT, yT, yT, nF, nF, nF, nF, nF, nF, nF, nF, nF, nF, nF, nF, nF, nF, nF, nF, nF, nF, nF, nF, nF, nF, nF, nF, nF, nF, nF, nF, nF, nF, nF, nF, nF, nF, nF, nF, nF, nF, nF]) rfl (by kernel_rfl) (by kernel_rfl) (by kernel_rfl) (fun _ _ _ h => h) (Sd.of S151 [19, 18, 13, 12, 7, 11, 1, 0, 6] rfl) rfl (wanted_g F161 rfl rfl rfl rfl) rfl rfl (fun _ hz => (r_move rfl (F161.ev 19 rfl))) fun _ F162 => ?_
     refine g_take F162 rfl (i := 17) (listed' := #[yT, yT, yT, yT, yT, yT, yT, yT, yT, yT, yT, yT, yT, yT, yT, yT, yT, yT, nF, nF, nF, nF, nF, nF, nF, nF, nF, nF, nF, nF, nF, nF, nF, nF, nF, nF, nF, nF, nF, nF, nF, nF, nF, nF, nF, nF, nF, nF, nF, nF, nF, nF, nF, nF, nF, nF]) rfl (by kernel_rfl) (by kernel_rfl) (by kernel_rfl) (fun _ _ _ h => h) (Sd.of S151 [19, 18, 13, 12, 7, 11, 1, 0, 6] rfl) rfl (wanted_g F162 rfl rfl rfl rfl) rfl rfl (fun _ hz => (r_cmp (b := false) (.inr (.inl rfl)) rfl (F162.ev 130 rfl) (F162.ev 131 rfl) (cmp_nes _))) fun _ F163 => ?_
     refine g_take F163 rfl (i := 18) (listed' := #[yT, yT, yT, yT, yT, yT, yT, yT, yT, yT, yT, yT, yT, yT, yT, yT, yT, yT, yT, nF, nF, nF, nF, nF, nF, nF, nF, nF, nF, nF, nF, nF, nF, nF, nF, nF, nF, nF, nF, nF, nF, nF, nF, nF, nF, nF, nF, nF, nF, nF, nF, nF, nF, nF, nF, nF]) rfl (by kernel_rfl) (by kernel_rfl) (by kernel_rfl) (fun _ _ _ h => h) (Sd.of S151 [19, 18, 13, 12, 7, 11, 1, 0, 6] rfl) rfl rfl rfl rfl (fun _ hz => (r_pick (b := false) rfl (F163.ev 129 rfl) (F163.ev 132 rfl))) fun _ F164 => ?_
     refine g_take F164 rfl (i := 19) (listed' := #[yT, yT, yT, yT, yT, yT, yT, yT, yT, yT, yT, yT, yT, yT, yT, yT, yT, yT, yT, yT, nF, nF, nF, nF, nF, nF, nF, nF, nF, nF, nF, nF, nF, nF, nF, nF, nF, nF, nF, nF, nF, nF, nF, nF, nF, nF, nF, nF, nF, nF, nF, nF, nF, nF, nF, nF]) rfl (by kernel_rfl) (by kernel_rfl) (by kernel_rfl) (fun _ _ _ h => h) (Sd.of S151 [19, 18, 13, 12, 7, 11, 1, 0, 6] rfl) rfl rfl rfl rfl (fun _ hz => (r_move rfl (F164.ev 133 rfl))) fun _ F165 => ?_
     refine g_take (v := .agg #[.slice Q16 Q20 Q18, .slice Q10 Q14 Q12, .slice Q22 Q26 Q24]) F165 rfl (i := 20) (listed' := #[yT, yT, yT, yT, yT, yT, yT, yT, yT, yT, yT, yT, yT, yT, yT, yT, yT, yT, yT, yT, yT, nF, nF, nF, nF, nF, nF, nF, nF, nF, nF, nF, nF, nF, nF, nF, nF, nF, nF, nF, nF, nF, nF, nF, nF, nF, nF, nF, nF, nF, nF, nF, nF, nF, nF, nF]) rfl (by kernel_rfl) (by kernel_rfl) (by kernel_rfl) (fun _ _ _ h => h) (Sd.of S151 [19, 18, 13, 12, 7, 11, 1, 0, 6] rfl) rfl (wanted_g F165 rfl rfl rfl rfl) rfl rfl (fun _ hz => (r_loadX (hz.bx 2 rfl) TI_29 rfl (F165.ev 14 rfl) rfl rfl (fun h => nomatch h) rfl)) fun _ F166 => ?_
     refine g_take (v := .agg #[.slice Q93 Q95 Q94, .slice Q90 Q92 Q91, .slice Q96 Q98 Q97]) F166 rfl (i := 21) (listed' := #[yT, yT, yT, yT, yT, yT, yT, yT, yT, yT, yT, yT, yT, yT, yT, yT, yT, yT, yT, yT, yT, yT, nF, nF, nF, nF, nF, nF, nF, nF, nF, nF, nF, nF, nF, nF, nF, nF, nF, nF, nF, nF, nF, nF, nF, nF, nF, nF, nF, nF, nF, nF, nF, nF, nF, nF]) rfl (by kernel_rfl) (by kernel_rfl) (by kernel_rfl) (fun _ _ _ h => h) (Sd.of S151 [19, 18, 13, 12, 7, 11, 1, 0, 6] rfl) rfl (wanted_g F166 rfl rfl rfl rfl) rfl rfl (fun _ hz => (r_loadX (hz.bx 3 rfl) TI_29 rfl (F166.ev 17 rfl) rfl rfl (fun h => nomatch h) rfl)) fun _ F167 => ?_
     refine d_one (i := 22) (listed' := #[yT, yT, yT, yT, yT, yT, yT, yT, yT, yT, yT, yT, yT, yT, yT, yT, yT, yT, yT, yT, yT, yT, yT, nF, nF, nF, nF, nF, nF, nF, nF, nF, nF, nF, nF, nF, nF, nF, nF, nF, nF, nF, nF, nF, nF, nF, nF, nF, nF, nF, nF, nF, nF, nF, nF, nF]) rfl (by kernel_rfl) rfl rfl ?_
     refine f_call F167 CF_17 (wanted_g F167 rfl rfl rfl rfl) rfl rfl rfl (lc (F167.ev 135 rfl) (lc (F167.ev 136 rfl) rfl)) (laws_sameMach_c (H := fun _ => True) (a := (loadM d_48 (kQ_ ((a_48 : Nat) : Int) p_48) p_48)) (b := (loadM d_48 (kQ_ ((a_48 : Nat) : Int) p_48) p_48)) (At.rd S151.at' ET_24.hk 14 rfl) (At.rd S151.at' ET_25.hk 15 rfl) (At.rd S151.at' ET_25.hk 16 rfl) (Rd.top (Rd.mq V78_0 (S84.trans (S86.trans (S90.trans (S96.trans (S98.trans (S104.trans (S106.trans (T109.trans (S111.trans (S116.trans (S118.trans (S123.trans (S128.trans (S130.trans (S134.trans (S139.trans (S141.trans (S144.trans S151)))))))))))))))))))) (Rd.top (Rd.mq V78_1 (S84.trans (S86.trans (S90.trans (S96.trans (S98.trans (S104.trans (S106.trans (T109.trans (S111.trans (S116.trans (S118.trans (S123.trans (S128.trans (S130.trans (S134.trans (S139.trans (S141.trans (S144.trans S151)))))))))))))))))))) (Rd.top (Rd.mq V78_2 (S84.trans (S86.trans (S90.trans (S96.trans (S98.trans (S104.trans (S106.trans (T109.trans (S111.trans (S116.trans (S118.trans (S123.trans (S128.trans (S130.trans (S134.trans (S139.trans (S141.trans (S144.trans S151))))))))))))))))))))) ?_
     rintro _ w168 ⟨rfl, m168⟩
     refine ⟨_, rfl, fun _ F169 => ?_⟩
     have S168 := At.frame0 S151.at' m168
     rw [show (decide ((loadM d_48 (kQ_ ((a_48 : Nat) : Int) p_48) p_48) = (loadM d_48 (kQ_ ((a_48 : Nat) : Int) p_48) p_48))) = true from decide_eq_true rfl] at F169
     clear m168
     refine ⟨Sd.of (S151.trans S168) [19, 18, 13, 12, 7, 11, 1, 0, 6] rfl, ?_⟩
     refine g_take F169 rfl (i := 23) (listed' := #[yT, yT, yT, yT, yT, yT, yT, yT, yT, yT, yT, yT, yT, yT, yT, yT, yT, yT, yT, yT, yT, yT, yT, yT, nF, nF, nF, nF, nF, nF, nF, nF, nF, nF, nF, nF, nF, nF, nF, nF, nF, nF, nF, nF, nF, nF, nF, nF, nF, nF, nF, nF, nF, nF, nF, nF]) rfl (by kernel_rfl) (by kernel_rfl) (by kernel_rfl) (fun _ _ _ h => h) (Sd.of (S151.trans S168) [19, 18, 13, 12, 7, 11, 1, 0, 6] rfl) rfl (wanted_g F169 rfl rfl rfl rfl) rfl rfl (fun _ hz => (r_not rfl (F169.ev 137 rfl))) fun _ F170 => ?_
     refine g_take F170 rfl (i := 24) (listed' := #[yT, yT, yT, yT, yT, yT, yT, yT, yT, yT, yT, yT, yT, yT, yT, yT, yT, yT, yT, yT, yT, yT, yT, yT, yT, nF, nF, nF, nF, nF, nF, nF, nF, nF, nF, nF, nF, nF, nF, nF, nF, nF, nF, nF, nF, nF, nF, nF, nF, nF, nF, nF, nF, nF, nF, nF]) rfl (by kernel_rfl) (by kernel_rfl) (by kernel_rfl) (fun _ _ _ h => h) (Sd.of (S151.trans S168) [19, 18, 13, 12, 7, 11, 1, 0, 6] rfl) rfl rfl rfl rfl (fun _ hz => (r_pick (b := false) rfl (F170.ev 134 rfl) (F170.ev 138 rfl))) fun _ F171 => ?_
     refine g_take F171 rfl (i := 25) (listed' := #[yT, yT, yT, yT, yT, yT, yT, yT, yT, yT, yT, yT, yT, yT, yT, yT, yT, yT, yT, yT, yT, yT, yT, yT, yT, yT, nF, nF, nF, nF, nF, nF, nF, nF, nF, nF, nF, nF, nF, nF, nF, nF, nF, nF, nF, nF, nF, nF, nF, nF, nF, nF, nF, nF, nF, nF]) rfl (by kernel_rfl) (by kernel_rfl) (by kernel_rfl) (fun _ _ _ h => h) (Sd.of (S151.trans S168) [19, 18, 13, 12, 7, 11, 1, 0, 6] rfl) rfl rfl rfl rfl (fun _ hz => (r_move rfl (F171.ev 139 rfl))) fun _ F172 => ?_
     refine g_take (v := .agg #[.slice Q30 Q32 Q31, .slice Q27 Q29 Q28, .slice Q33 Q35 Q34]) F172 rfl (i := 26) (listed' := #[yT, yT, yT, yT, yT, yT, yT, yT, yT, yT, yT, yT, yT, yT, yT, yT, yT, yT, yT, yT, yT, yT, yT, yT, yT, yT, yT, nF, nF, nF, nF, nF, nF, nF, nF, nF, nF, nF, nF, nF, nF, nF, nF, nF, nF, nF, nF, nF, nF, nF, nF, nF, nF, nF, nF, nF]) rfl (by kernel_rfl) (by kernel_rfl) (by kernel_rfl) (fun _ _ _ h => h) (Sd.of (S151.trans S168) [19, 18, 13, 12, 7, 11, 1, 0, 6] rfl) rfl (wanted_g F172 rfl rfl rfl rfl) rfl rfl (fun _ hz => (r_loadX (hz.bx 4 rfl) TI_29 rfl (F172.ev 23 rfl) rfl rfl (fun h => nomatch h) rfl)) fun _ F173 => ?_
     refine g_take (v := .agg #[.slice Q79 Q83 Q81, .slice Q73 Q77 Q75, .slice Q85 Q89 Q87]) F173 rfl (i := 27) (listed' := #[yT, yT, yT, yT, yT, yT, yT, yT, yT, yT, yT, yT, yT, yT, yT, yT, yT, yT, yT, yT, yT, yT, yT, yT, yT, yT, yT, yT, nF, nF, nF, nF, nF, nF, nF, nF, nF, nF, nF, nF, nF, nF, nF, nF, nF, nF, nF, nF, nF, nF, nF, nF, nF, nF, nF, nF]) rfl (by kernel_rfl) (by kernel_rfl) (by kernel_rfl) (fun _ _ _ h => h) (Sd.of (S151.trans S168) [19, 18, 13, 12, 7, 11, 1, 0, 6] rfl) rfl (wanted_g F173 rfl rfl rfl rfl) rfl rfl (fun _ hz => (r_loadX (hz.bx 5 rfl) TI_29 rfl (F173.ev 20 rfl) rfl rfl (fun h => nomatch h) rfl)) fun _ F174 => ?_
     refine g_take F174 rfl (i := 28) (listed' := #[yT, yT, yT, yT, yT, yT, yT, yT, yT, yT, yT, yT, yT, yT, yT, yT, yT, yT, yT, yT, yT, yT, yT, yT, yT, yT, yT, yT, yT, nF, nF, nF, nF, nF, nF, nF, nF, nF, nF, nF, nF, nF, nF, nF, nF, nF, nF, nF, nF, nF, nF, nF, nF, nF, nF, nF]) rfl (by kernel_rfl) (by kernel_rfl) (by kernel_rfl) (fun _ _ _ h => h) (Sd.of (S151.trans S168) [19, 18, 13, 12, 7, 11, 1, 0, 6] rfl) rfl (wanted_g F174 rfl rfl rfl rfl) rfl rfl (fun _ hz => (r_move rfl (F174.ev 21 rfl))) fun _ F175 => ?_
     refine g_take F175 rfl (i := 29) (listed' := #[yT, yT, yT, yT, yT, yT, yT, yT, yT, yT, yT, yT, yT, yT, yT, yT, yT, yT, yT, yT, yT, yT, yT, yT, yT, yT, yT, yT, yT, yT, nF, nF, nF, nF, nF, nF, nF, nF, nF, nF, nF, nF, nF, nF, nF, nF, nF, nF, nF, nF, nF, nF, nF, nF, nF, nF]) rfl (by kernel_rfl) (by kernel_rfl) (by kernel_rfl) (fun _ _ _ h => h) (Sd.of (S151.trans S168) [19, 18, 13, 12, 7, 11, 1, 0, 6] rfl) rfl (wanted_g F175 rfl rfl rfl rfl) rfl rfl (fun _ hz => (r_move rfl (F175.ev 22 rfl))) fun _ F176 => ?_
     refine d_one (i := 30) (listed' := #[yT, yT, yT, yT, yT, yT, yT, yT, yT, yT, yT, yT, yT, yT, yT, yT, yT, yT, yT, yT, yT, yT, yT, yT, yT, yT, yT, yT, yT, yT, yT, nF, nF, nF, nF, nF, nF, nF, nF, nF, nF, nF, nF, nF, nF, nF, nF, nF, nF, nF, nF, nF, nF, nF, nF, nF]) rfl (by kernel_rfl) rfl rfl ?_
     refine f_call F176 CF_18 (wanted_g F176 rfl rfl rfl rfl) rfl rfl rfl (lc (F176.ev 142 rfl) (lc (F176.ev 143 rfl) (lc (F176.ev 144 rfl) rfl))) (spec_ForkPages_c (m := d_90) (from_ := ((a_90 : Nat) : Int)) (to := ((b_90 : Nat) : Int)) (Rd.mq V90_0 (S96.trans (S98.trans (S104.trans (S106.trans (T109.trans (S111.trans (S116.trans (S118.trans (S123.trans (S128.trans (S130.trans (S134.trans (S139.trans (S141.trans (S144.trans (S151.trans S168))))))))))))))))) (Rd.mq V90_1 (S96.trans (S98.trans (S104.trans (S106.trans (T109.trans (S111.trans (S116.trans (S118.trans (S123.trans (S128.trans (S130.trans (S134.trans (S139.trans (S141.trans (S144.trans (S151.trans S168))))))))))))))))) (Rd.mq V90_2 (S96.trans (S98.trans (S104.trans (S106.trans (T109.trans (S111.trans (S116.trans (S118.trans (S123.trans (S128.trans (S130.trans (S134.trans (S139.trans (S141.trans (S144.trans (S151.trans S168))))))))))))))))) (by first | assumption | exact ⟨by omega, by omega⟩ | (unfold i64ok at *; omega)) (by first | assumption | exact ⟨by omega, by omega⟩ | (unfold i64ok at *; omega)) (by first | decide | omega | exact bdC.le ‹_› (by decide) | exact bdC.le bdC_base (by decide) | exact bdC.le (bdC.store bdC_base) (by decide) | exact bdC.le (bdC.fork (bdC.store bdC_base)) (by decide) | exact bdC.le (bdC.store (bdC.fork (bdC.store bdC_base))) (by decide) | exact bdC.le (bdC.load (bdC.store (bdC.fork (bdC.store bdC_base)))) (by decide))) ?_
     rintro _ w177 ⟨Q167, Q171, Q169, Q161, Q165, Q163, Q173, Q177, Q175, rfl, m177, v177_0, v177_1, v177_2⟩
     refine ⟨_, rfl, fun _ F178 => ?_⟩
     have S177 := At.frame0 S168.at' m177
     have V177_0 := Rd.got0 S168.at' ((S3.trans (S8.trans (S15.trans (S17.trans (S25.trans (S30.trans (S32.trans (S38.trans (S43.trans (S45.trans (S48.trans (S54.trans (T60.trans (S64.trans (S70.trans (S72.trans (S78.trans (S84.trans (S86.trans (S90.trans (S96.trans (S98.trans (S104.trans (S106.trans (T109.trans (S111.trans (S116.trans (S118.trans (S123.trans (S128.trans (S130.trans (S134.trans (S139.trans (S141.trans (S144.trans (S151.trans S168)))))))))))))))))))))))))))))))))))).kp.size) v177_0 S177
     obtain ⟨ln177_0, le177_0, mx177_0, ni177_0⟩ := Rd.inv V177_0
     have V177_1 := Rd.got0 S168.at' ((S3.trans (S8.trans (S15.trans (S17.trans (S25.trans (S30.trans (S32.trans (S38.trans (S43.trans (S45.trans (S48.trans (S54.trans (T60.trans (S64.trans (S70.trans (S72.trans (S78.trans (S84.trans (S86.trans (S90.trans (S96.trans (S98.trans (S104.trans (S106.trans (T109.trans (S111.trans (S116.trans (S118.trans (S123.trans (S128.trans (S130.trans (S134.trans (S139.trans (S141.trans (S144.trans (S151.trans S168)))))))))))))))))))))))))))))))))))).kp.size) v177_1 S177
     obtain ⟨ln177_1, le177_1, mx177_1, ni177_1⟩ := Rd.inv V177_1
     have V177_2 := Rd.got0 S168.at' ((S3.trans (S8.trans (S15.trans (S17.trans (S25.trans (S30.trans (S32.trans (S38.trans (S43.trans (S45.trans (S48.trans (S54.trans (T60.trans (S64.trans (S70.trans (S72.trans (S78.trans (S84.trans (S86.trans (S90.trans (S96.trans (S98.trans (S104.trans (S106.trans (T109.trans (S111.trans (S116.trans (S118.trans (S123.trans (S128.trans (S130.trans (S134.trans (S139.trans (S141.trans (S144.trans (S151.trans S168)))))))))))))))))))))))))))))))))))).kp.size) v177_2 S177
     obtain ⟨ln177_2, le177_2, mx177_2, ni177_2⟩ := Rd.inv V177_2
     clear m177 v177_0 v177_1 v177_2
     refine ⟨Sd.of (S151.trans (S168.trans S177)) [19, 18, 13, 12, 7, 11, 1, 0, 6] rfl, ?_⟩
     refine d_one (i := 31) (listed' := #[yT, yT, yT, yT, yT, yT, yT, yT, yT, yT, yT, yT, yT, yT, yT, yT, yT, yT, yT, yT, yT, yT, yT, yT, yT, yT, yT, yT, yT, yT, yT, yT, nF, nF, nF, nF, nF, nF, nF, nF, nF, nF, nF, nF, nF, nF, nF, nF, nF, nF, nF, nF, nF, nF, nF, nF]) rfl (by kernel_rfl) rfl rfl ?_
     refine f_call F178 CF_17 (wanted_g F178 rfl rfl rfl rfl) rfl rfl rfl (lc (F178.ev 141 rfl) (lc (F178.ev 145 rfl) rfl)) (laws_sameMach_c (H := fun _ => True) (a := (forkM (kP_ ((a_90 : Nat) : Int)) (kP_ ((b_90 : Nat) : Int)) d_90)) (b := (forkM (kP_ ((a_90 : Nat) : Int)) (kP_ ((b_90 : Nat) : Int)) d_90)) (At.rd S177.at' ET_24.hk 8 rfl) (At.rd S177.at' ET_25.hk 9 rfl) (At.rd S177.at' ET_25.hk 10 rfl) (Rd.top V177_0) (Rd.top V177_1) (Rd.top V177_2)) ?_
     rintro _ w179 ⟨rfl, m179⟩
     refine ⟨_, rfl, fun _ F180 => ?_⟩
     have S179 := At.frame0 S177.at' m179
     rw [show (decide ((forkM (kP_ ((a_90 : Nat) : Int)) (kP_ ((b_90 : Nat) : Int)) d_90) = (forkM (kP_ ((a_90 : Nat) : Int)) (kP_ ((b_90 : Nat) : Int)) d_90))) = true from decide_eq_true rfl] at F180
     clear m179
     refine ⟨Sd.of (S151.trans (S168.trans (S177.trans S179))) [19, 18, 13, 12, 7, 11, 1, 0, 6] rfl, ?_⟩
     refine g_take F180 rfl (i := 32) (listed' := #[yT, yT, yT, yT, yT, yT, yT, yT, yT, yT, yT, yT, yT, yT, yT, yT, yT, yT, yT, yT, yT, yT, yT, yT, yT, yT, yT, yT, yT, yT, yT, yT, yT, nF, nF, nF, nF, nF, nF, nF, nF, nF, nF, nF, nF, nF, nF, nF, nF, nF, nF, nF, nF, nF, nF, nF]) rfl (by kernel_rfl) (by kernel_rfl) (by kernel_rfl) (fun _ _ _ h => h) (Sd.of (S151.trans (S168.trans (S177.trans S179))) [19, 18, 13, 12, 7, 11, 1, 0, 6] rfl) rfl (wanted_g F180 rfl rfl rfl rfl) rfl rfl (fun _ hz => (r_not rfl (F180.ev 146 rfl))) fun _ F181 => ?_
     refine g_take F181 rfl (i := 33) (listed' := #[yT, yT, yT, yT, yT, yT, yT, yT, yT, yT, yT, yT, yT, yT, yT, yT, yT, yT, yT, yT, yT, yT, yT, yT, yT, yT, yT, yT, yT, yT, yT, yT, yT, yT, nF, nF, nF, nF, nF, nF, nF, nF, nF, nF, nF, nF, nF, nF, nF, nF, nF, nF, nF, nF, nF, nF]) rfl (by kernel_rfl) (by kernel_rfl) (by kernel_rfl) (fun _ _ _ h => h) (Sd.of (S151.trans (S168.trans (S177.trans S179))) [19, 18, 13, 12, 7, 11, 1, 0, 6] rfl) rfl rfl rfl rfl (fun _ hz => (r_pick (b := false) rfl (F181.ev 140 rfl) (F181.ev 147 rfl))) fun _ F182 => ?_
     refine g_take F182 rfl (i := 34) (listed' := #[yT, yT, yT, yT, yT, yT, yT, yT, yT, yT, yT, yT, yT, yT, yT, yT, yT, yT, yT, yT, yT, yT, yT, yT, yT, yT, yT, yT, yT, yT, yT, yT, yT, yT, yT, nF, nF, nF, nF, nF, nF, nF, nF, nF, nF, nF, nF, nF, nF, nF, nF, nF, nF, nF, nF, nF]) rfl (by kernel_rfl) (by kernel_rfl) (by kernel_rfl) (fun _ _ _ h => h) (Sd.of (S151.trans (S168.trans (S177.trans S179))) [19, 18, 13, 12, 7, 11, 1, 0, 6] rfl) rfl rfl rfl rfl (fun _ hz => (r_move rfl (F182.ev 148 rfl))) fun _ F183 => ?_
     refine g_take F183 rfl (i := 35) (listed' := #[yT, yT, yT, yT, yT, yT, yT, yT, yT, yT, yT, yT, yT, yT, yT, yT, yT, yT, yT, yT, yT, yT, yT, yT, yT, yT, yT, yT, yT, yT, yT, yT, yT, yT, yT, yT, nF, nF, nF, nF, nF, nF, nF, nF, nF, nF, nF, nF, nF, nF, nF, nF, nF, nF, nF, nF]) rfl (by kernel_rfl) (by kernel_rfl) (by kernel_rfl) (fun _ _ _ h => h) (Sd.of (S151.trans (S168.trans (S177.trans S179))) [19, 18, 13, 12, 7, 11, 1, 0, 6] rfl) rfl (wanted_g F183 rfl rfl rfl rfl) rfl rfl (fun _ hz => (r_move rfl (F183.ev 27 rfl))) fun _ F184 => ?_
     refine g_take F184 rfl (i := 36) (listed' := #[yT, yT, yT, yT, yT, yT, yT, yT, yT, yT, yT, yT, yT, yT, yT, yT, yT, yT, yT, yT, yT, yT, yT, yT, yT, yT, yT, yT, yT, yT, yT, yT, yT, yT, yT, yT, yT, nF, nF, nF, nF, nF, nF, nF, nF, nF, nF, nF, nF, nF, nF, nF, nF, nF, nF, nF]) rfl (by kernel_rfl) (by kernel_rfl) (by kernel_rfl) (fun _ _ _ h => h) (Sd.of (S151.trans (S168.trans (S177.trans S179))) [19, 18, 13, 12, 7, 11, 1, 0, 6] rfl) rfl (wanted_g F184 rfl rfl rfl rfl) rfl rfl (fun _ hz => (r_move rfl (F184.ev 29 rfl))) fun _ F185 => ?_
     refine d_one (i := 37) (listed' := #[yT, yT, yT, yT, yT, yT, yT, yT, yT, yT, yT, yT, yT, yT, yT, yT, yT, yT, yT, yT, yT, yT, yT, yT, yT, yT, yT, yT, yT, yT, yT, yT, yT, yT, yT, yT, yT, yT, nF, nF, nF, nF, nF, nF, nF, nF, nF, nF, nF, nF, nF, nF, nF, nF, nF, nF]) rfl (by kernel_rfl) rfl rfl ?_
     refine f_call F185 CF_19 (wanted_g F185 rfl rfl rfl rfl) rfl rfl rfl (lc (F185.ev 150 rfl) (lc (F185.ev 151 rfl) rfl)) (laws_sameTexts_c (H := fun _ => True) (a := cutL (kP_ ((a_111 : Nat) : Int)).size (keysUnder d_111.store (kP_ ((a_111 : Nat) : Int)))) (b := cutL (kP_ ((a_111 : Nat) : Int)).size (keysUnder d_111.store (kP_ ((a_111 : Nat) : Int)))) (At.rd S179.at' ET_25.hk 5 rfl) (Rd.top (Rd.mq V134_3 (S139.trans (S141.trans (S144.trans (S151.trans (S168.trans (S177.trans S179))))))))) ?_
     rintro _ w186 ⟨rfl, m186⟩
     refine ⟨_, rfl, fun _ F187 => ?_⟩
     have S186 := At.frame0 S179.at' m186
     rw [show (decide ((cutL (kP_ ((a_111 : Nat) : Int)).size (keysUnder d_111.store (kP_ ((a_111 : Nat) : Int)))) = (cutL (kP_ ((a_111 : Nat) : Int)).size (keysUnder d_111.store (kP_ ((a_111 : Nat) : Int)))))) = true from decide_eq_true rfl] at F187
     clear m186
     refine ⟨Sd.of (S151.trans (S168.trans (S177.trans (S179.trans S186)))) [19, 18, 13, 12, 7, 11, 1, 0, 6] rfl, ?_⟩
     refine g_take F187 rfl (i := 38) (listed' := #[yT, yT, yT, yT, yT, yT, yT, yT, yT, yT, yT, yT, yT, yT, yT, yT, yT, yT, yT, yT, yT, yT, yT, yT, yT, yT, yT, yT, yT, yT, yT, yT, yT, yT, yT, yT, yT, yT, yT, nF, nF, nF, nF, nF, nF, nF, nF, nF, nF, nF, nF, nF, nF, nF, nF, nF]) rfl (by kernel_rfl) (by kernel_rfl) (by kernel_rfl) (fun _ _ _ h => h) (Sd.of (S151.trans (S168.trans (S177.trans (S179.trans S186)))) [19, 18, 13, 12, 7, 11, 1, 0, 6] rfl) rfl (wanted_g F187 rfl rfl rfl rfl) rfl rfl (fun _ hz => (r_not rfl (F187.ev 152 rfl))) fun _ F188 => ?_
     refine g_take F188 rfl (i := 39) (listed' := #[yT, yT, yT, yT, yT, yT, yT, yT, yT, yT, yT, yT, yT, yT, yT, yT, yT, yT, yT, yT, yT, yT, yT, yT, yT, yT, yT, yT, yT, yT, yT, yT, yT, yT, yT, yT, yT, yT, yT, yT, nF, nF, nF, nF, nF, nF, nF, nF, nF, nF, nF, nF, nF, nF, nF, nF]) rfl (by kernel_rfl) (by kernel_rfl) (by kernel_rfl) (fun _ _ _ h => h) (Sd.of (S151.trans (S168.trans (S177.trans (S179.trans S186)))) [19, 18, 13, 12, 7, 11, 1, 0, 6] rfl) rfl rfl rfl rfl (fun _ hz => (r_pick (b := false) rfl (F188.ev 149 rfl) (F188.ev 153 rfl))) fun _ F189 => ?_
     refine g_take F189 rfl (i := 40) (listed' := #[yT, yT, yT, yT, yT, yT, yT, yT, yT, yT, yT, yT, yT, yT, yT, yT, yT, yT, yT, yT, yT, yT, yT, yT, yT, yT, yT, yT, yT, yT, yT, yT, yT, yT, yT, yT, yT, yT, yT, yT, yT, nF, nF, nF, nF, nF, nF, nF, nF, nF, nF, nF, nF, nF, nF, nF]) rfl (by kernel_rfl) (by kernel_rfl) (by kernel_rfl) (fun _ _ _ h => h) (Sd.of (S151.trans (S168.trans (S177.trans (S179.trans S186)))) [19, 18, 13, 12, 7, 11, 1, 0, 6] rfl) rfl rfl rfl rfl (fun _ hz => (r_move rfl (F189.ev 154 rfl))) fun _ F190 => ?_
     refine g_take (v := .agg #[.slice Q54 Q60 Q57, .slice Q45 Q51 Q48, .slice Q63 Q69 Q66]) F190 rfl (i := 41) (listed' := #[yT, yT, yT, yT, yT, yT, yT, yT, yT, yT, yT, yT, yT, yT, yT, yT, yT, yT, yT, yT, yT, yT, yT, yT, yT, yT, yT, yT, yT, yT, yT, yT, yT, yT, yT, yT, yT, yT, yT, yT, yT, yT, nF, nF, nF, nF, nF, nF, nF, nF, nF, nF, nF, nF, nF, nF]) rfl (by kernel_rfl) (by kernel_rfl) (by kernel_rfl) (fun _ _ _ h => h) (Sd.of (S151.trans (S168.trans (S177.trans (S179.trans S186)))) [19, 18, 13, 12, 7, 11, 1, 0, 6] rfl) rfl (wanted_g F190 rfl rfl rfl rfl) rfl rfl (fun _ hz => (r_loadX (hz.bx 6 rfl) TI_29 rfl (F190.ev 26 rfl) rfl rfl (fun h => nomatch h) rfl)) fun _ F191 => ?_
     refine g_take (v := .agg #[.slice Q120 Q122 Q121, .slice Q117 Q119 Q118, .slice Q123 Q125 Q124]) F191 rfl (i := 42) (listed' := #[yT, yT, yT, yT, yT, yT, yT, yT, yT, yT, yT, yT, yT, yT, yT, yT, yT, yT, yT, yT, yT, yT, yT, yT, yT, yT, yT, yT, yT, yT, yT, yT, yT, yT, yT, yT, yT, yT, yT, yT, yT, yT, yT, nF, nF, nF, nF, nF, nF, nF, nF, nF, nF, nF, nF, nF]) rfl (by kernel_rfl) (by kernel_rfl) (by kernel_rfl) (fun _ _ _ h => h) (Sd.of (S151.trans (S168.trans (S177.trans (S179.trans S186)))) [19, 18, 13, 12, 7, 11, 1, 0, 6] rfl) rfl (wanted_g F191 rfl rfl rfl rfl) rfl rfl (fun _ hz => (r_loadX (hz.bx 7 rfl) TI_29 rfl (F191.ev 28 rfl) rfl rfl (fun h => nomatch h) rfl)) fun _ F192 => ?_
     refine d_one (i := 43) (listed' := #[yT, yT, yT, yT, yT, yT, yT, yT, yT, yT, yT, yT, yT, yT, yT, yT, yT, yT, yT, yT, yT, yT, yT, yT, yT, yT, yT, yT, yT, yT, yT, yT, yT, yT, yT, yT, yT, yT, yT, yT, yT, yT, yT, yT, nF, nF, nF, nF, nF, nF, nF, nF, nF, nF, nF, nF]) rfl (by kernel_rfl) rfl rfl ?_
     refine f_call F192 CF_17 (wanted_g F192 rfl rfl rfl rfl) rfl rfl rfl (lc (F192.ev 156 rfl) (lc (F192.ev 157 rfl) rfl)) (laws_sameMach_c (H := fun _ => True) (a := (lookM d_111 (kP_ ((a_111 : Nat) : Int) ++ bT_))) (b := (lookM d_111 (kP_ ((a_111 : Nat) : Int) ++ bT_))) (At.rd S186.at' ET_24.hk 2 rfl) (At.rd S186.at' ET_25.hk 3 rfl) (At.rd S186.at' ET_25.hk 4 rfl) (Rd.top (Rd.mq V134_0 (S139.trans (S141.trans (S144.trans (S151.trans (S168.trans (S177.trans (S179.trans S186))))))))) (Rd.top (Rd.mq V134_1 (S139.trans (S141.trans (S144.trans (S151.trans (S168.trans (S177.trans (S179.trans S186))))))))) (Rd.top (Rd.mq V134_2 (S139.trans (S141.trans (S144.trans (S151.trans (S168.trans (S177.trans (S179.trans S186)))))))))) ?_
     rintro _ w193 ⟨rfl, m193⟩
     refine ⟨_, rfl, fun _ F194 => ?_⟩
     have S193 := At.frame0 S186.at' m193
     rw [show (decide ((lookM d_111 (kP_ ((a_111 : Nat) : Int) ++ bT_)) = (lookM d_111 (kP_ ((a_111 : Nat) : Int) ++ bT_)))) = true from decide_eq_true rfl] at F194
     clear m193
     refine ⟨Sd.of (S151.trans (S168.trans (S177.trans (S179.trans (S186.trans S193))))) [19, 18, 13, 12, 7, 11, 1, 0, 6] rfl, ?_⟩
     refine g_take F194 rfl (i := 44) (listed' := #[yT, yT, yT, yT, yT, yT, yT, yT, yT, yT, yT, yT, yT, yT, yT, yT, yT, yT, yT, yT, yT, yT, yT, yT, yT, yT, yT, yT, yT, yT, yT, yT, yT, yT, yT, yT, yT, yT, yT, yT, yT, yT, yT, yT, yT, nF, nF, nF, nF, nF, nF, nF, nF, nF, nF, nF]) rfl (by kernel_rfl) (by kernel_rfl) (by kernel_rfl) (fun _ _ _ h => h) (Sd.of (S151.trans (S168.trans (S177.trans (S179.trans (S186.trans S193))))) [19, 18, 13, 12, 7, 11, 1, 0, 6] rfl) rfl (wanted_g F194 rfl rfl rfl rfl) rfl rfl (fun _ hz => (r_not rfl (F194.ev 158 rfl))) fun _ F195 => ?_
     refine g_take F195 rfl (i := 45) (listed' := #[yT, yT, yT, yT, yT, yT, yT, yT, yT, yT, yT, yT, yT, yT, yT, yT, yT, yT, yT, yT, yT, yT, yT, yT, yT, yT, yT, yT, yT, yT, yT, yT, yT, yT, yT, yT, yT, yT, yT, yT, yT, yT, yT, yT, yT, yT, nF, nF, nF, nF, nF, nF, nF, nF, nF, nF]) rfl (by kernel_rfl) (by kernel_rfl) (by kernel_rfl) (fun _ _ _ h => h) (Sd.of (S151.trans (S168.trans (S177.trans (S179.trans (S186.trans S193))))) [19, 18, 13, 12, 7, 11, 1, 0, 6] rfl) rfl rfl rfl rfl (fun _ hz => (r_pick (b := false) rfl (F195.ev 155 rfl) (F195.ev 159 rfl))) fun _ F196 => ?_
     refine g_take F196 rfl (i := 46) (listed' := #[yT, yT, yT, yT, yT, yT, yT, yT, yT, yT, yT, yT, yT, yT, yT, yT, yT, yT, yT, yT, yT, yT, yT, yT, yT, yT, yT, yT, yT, yT, yT, yT, yT, yT, yT, yT, yT, yT, yT, yT, yT, yT, yT, yT, yT, yT, yT, nF, nF, nF, nF, nF, nF, nF, nF, nF]) rfl (by kernel_rfl) (by kernel_rfl) (by kernel_rfl) (fun _ _ _ h => h) (Sd.of (S151.trans (S168.trans (S177.trans (S179.trans (S186.trans S193))))) [19, 18, 13, 12, 7, 11, 1, 0, 6] rfl) rfl rfl rfl rfl (fun _ hz => (r_move rfl (F196.ev 160 rfl))) fun _ F197 => ?_
     refine g_take (v := .agg #[.slice Q78 Q82 Q80, .slice Q72 Q76 Q74, .slice Q84 Q88 Q86]) F197 rfl (i := 47) (listed' := #[yT, yT, yT, yT, yT, yT, yT, yT, yT, yT, yT, yT, yT, yT, yT, yT, yT, yT, yT, yT, yT, yT, yT, yT, yT, yT, yT, yT, yT, yT, yT, yT, yT, yT, yT, yT, yT, yT, yT, yT, yT, yT, yT, yT, yT, yT, yT, yT, nF, nF, nF, nF, nF, nF, nF, nF]) rfl (by kernel_rfl) (by kernel_rfl) (by kernel_rfl) (fun _ _ _ h => h) (Sd.of (S151.trans (S168.trans (S177.trans (S179.trans (S186.trans S193))))) [19, 18, 13, 12, 7, 11, 1, 0, 6] rfl) rfl (wanted_g F197 rfl rfl rfl rfl) rfl rfl (fun _ hz => (r_loadX (hz.bx 8 rfl) TI_29 rfl (F197.ev 24 rfl) rfl rfl (fun h => nomatch h) rfl)) fun _ F198 => ?_
     refine g_take F198 rfl (i := 48) (listed' := #[yT, yT, yT, yT, yT, yT, yT, yT, yT, yT, yT, yT, yT, yT, yT, yT, yT, yT, yT, yT, yT, yT, yT, yT, yT, yT, yT, yT, yT, yT, yT, yT, yT, yT, yT, yT, yT, yT, yT, yT, yT, yT, yT, yT, yT, yT, yT, yT, yT, nF, nF, nF, nF, nF, nF, nF]) rfl (by kernel_rfl) (by kernel_rfl) (by kernel_rfl) (fun _ _ _ h => h) (Sd.of (S151.trans (S168.trans (S177.trans (S179.trans (S186.trans S193))))) [19, 18, 13, 12, 7, 11, 1, 0, 6] rfl) rfl (wanted_g F198 rfl rfl rfl rfl) rfl rfl (fun _ hz => (r_move rfl (F198.ev 25 rfl))) fun _ F199 => ?_
     refine g_take (v := .agg #[.slice Q78 Q82 Q80, .slice Q72 Q76 Q74, .slice Q84 Q88 Q86]) F199 rfl (i := 50) (listed' := #[yT, yT, yT, yT, yT, yT, yT, yT, yT, yT, yT, yT, yT, yT, yT, yT, yT, yT, yT, yT, yT, yT, yT, yT, yT, yT, yT, yT, yT, yT, yT, yT, yT, yT, yT, yT, yT, yT, yT, yT, yT, yT, yT, yT, yT, yT, yT, yT, yT, nF, yT, nF, nF, nF, nF, nF]) rfl (by kernel_rfl) (by kernel_rfl) (by kernel_rfl) (fun _ _ _ h => h) (Sd.of (S151.trans (S168.trans (S177.trans (S179.trans (S186.trans S193))))) [19, 18, 13, 12, 7, 11, 1, 0, 6] rfl) rfl (wanted_g F199 rfl rfl rfl rfl) rfl rfl (fun _ hz => (r_loadX (hz.bx 8 rfl) TI_29 rfl (F199.ev 24 rfl) rfl rfl (fun h => nomatch h) rfl)) fun _ F200 => ?_
     refine g_take F200 rfl (i := 51) (listed' := #[yT, yT, yT, yT, yT, yT, yT, yT, yT, yT, yT, yT, yT, yT, yT, yT, yT, yT, yT, yT, yT, yT, yT, yT, yT, yT, yT, yT, yT, yT, yT, yT, yT, yT, yT, yT, yT, yT, yT, yT, yT, yT, yT, yT, yT, yT, yT, yT, yT, nF, yT, yT, nF, nF, nF, nF]) rfl (by kernel_rfl) (by kernel_rfl) (by kernel_rfl) (fun _ _ _ h => h) (Sd.of (S151.trans (S168.trans (S177.trans (S179.trans (S186.trans S193))))) [19, 18, 13, 12, 7, 11, 1, 0, 6] rfl) rfl (wanted_g F200 rfl rfl rfl rfl) rfl rfl (fun _ hz => (r_move rfl (F200.ev 25 rfl))) fun _ F201 => ?_
     refine d_one (i := 49) (listed' := #[yT, yT, yT, yT, yT, yT, yT, yT, yT, yT, yT, yT, yT, yT, yT, yT, yT, yT, yT, yT, yT, yT, yT, yT, yT, yT, yT, yT, yT, yT, yT, yT, yT, yT, yT, yT, yT, yT, yT, yT, yT, yT, yT, yT, yT, yT, yT, yT, yT, yT, yT, yT, nF, nF, nF, nF]) rfl (by kernel_rfl) rfl rfl ?_
     refine f_call F201 CF_20 (wanted_g F201 rfl rfl rfl rfl) rfl rfl rfl (lc (F201.ev 162 rfl) (lc (F201.ev 163 rfl) rfl)) (impl_DropPages_c (m := d_111) (id := ((a_111 : Nat) : Int)) (Rd.mq V111_0 (S116.trans (S118.trans (S123.trans (S128.trans (S130.trans (S134.trans (S139.trans (S141.trans (S144.trans (S151.trans (S168.trans (S177.trans (S179.trans (S186.trans S193))))))))))))))) (Rd.mq V111_1 (S116.trans (S118.trans (S123.trans (S128.trans (S130.trans (S134.trans (S139.trans (S141.trans (S144.trans (S151.trans (S168.trans (S177.trans (S179.trans (S186.trans S193))))))))))))))) (Rd.mq V111_2 (S116.trans (S118.trans (S123.trans (S128.trans (S130.trans (S134.trans (S139.trans (S141.trans (S144.trans (S151.trans (S168.trans (S177.trans (S179.trans (S186.trans S193))))))))))))))) (by first | assumption | exact ⟨by omega, by omega⟩ | (unfold i64ok at *; omega)) (Tb.mv V_tab0 (S3.trans (S8.trans (S15.trans (S17.trans (S25.trans (S30.trans (S32.trans (S38.trans (S43.trans (S45.trans (S48.trans (S54.trans (T60.trans (S64.trans (S70.trans (S72.trans (S78.trans (S84.trans (S86.trans (S90.trans (S96.trans (S98.trans (S104.trans (S106.trans (T109.trans (S111.trans (S116.trans (S118.trans (S123.trans (S128.trans (S130.trans (S134.trans (S139.trans (S141.trans (S144.trans (S151.trans (S168.trans (S177.trans (S179.trans (S186.trans S193))))))))))))))))))))))))))))))))))))))))) (by first | decide | omega | exact bdC.le ‹_› (by decide) | exact bdC.le bdC_base (by decide) | exact bdC.le (bdC.store bdC_base) (by decide) | exact bdC.le (bdC.fork (bdC.store bdC_base)) (by decide) | exact bdC.le (bdC.store (bdC.fork (bdC.store bdC_base))) (by decide) | exact bdC.le (bdC.load (bdC.store (bdC.fork (bdC.store bdC_base)))) (by decide))) ?_
     rintro _ w202 ⟨Q132, Q136, Q134, Q126, Q130, Q128, Q138, Q142, Q140, rfl, m202⟩
     refine ⟨_, rfl, fun _ F203 => ?_⟩
     have S202 : Mv _ _ [ow 73 2 encC okC (.slice Q132 Q136 Q134) (wipeM d_111 (kP_ ((a_111 : Nat) : Int))).store, ow 9 1 encS okS (.slice Q126 Q130 Q128) (wipeM d_111 (kP_ ((a_111 : Nat) : Int))).touch.reads, ow 9 1 encS okS (.slice Q138 Q142 Q140) (wipeM d_111 (kP_ ((a_111 : Nat) : Int))).touch.writes, bx b139 [.slice Q120 Q122 Q121, .slice Q117 Q119 Q118, .slice Q123 Q125 Q124] 29, bx b128 [.slice Q54 Q60 Q57, .slice Q45 Q51 Q48, .slice Q63 Q69 Q66] 29, ow 73 2 encC okC (.slice Q54 Q60 Q57) (lookM d_111 (kP_ ((a_111 : Nat) : Int) ++ bT_)).store, ow 9 1 encS okS (.slice Q45 Q51 Q48) (lookM d_111 (kP_ ((a_111 : Nat) : Int) ++ bT_)).touch.reads, ow 9 1 encS okS (.slice Q63 Q69 Q66) (lookM d_111 (kP_ ((a_111 : Nat) : Int) ++ bT_)).touch.writes, ow 9 1 encS okS (.slice Q144 Q146 Q145) (cutL (kP_ ((a_111 : Nat) : Int)).size (keysUnder d_111.store (kP_ ((a_111 : Nat) : Int)))), bx b116 [.slice Q78 Q82 Q80, .slice Q72 Q76 Q74, .slice Q84 Q88 Q86] 29, bx b106 [.slice Q30 Q32 Q31, .slice Q27 Q29 Q28, .slice Q33 Q35 Q34] 29, ow 73 2 encC okC (.slice Q30 Q32 Q31) (forkM (kP_ ((a_90 : Nat) : Int)) (kP_ ((b_90 : Nat) : Int)) d_90).store, ow 9 1 encS okS (.slice Q27 Q29 Q28) (forkM (kP_ ((a_90 : Nat) : Int)) (kP_ ((b_90 : Nat) : Int)) d_90).touch.reads, ow 9 1 encS okS (.slice Q33 Q35 Q34) (forkM (kP_ ((a_90 : Nat) : Int)) (kP_ ((b_90 : Nat) : Int)) d_90).touch.writes, bx b96 [.slice Q79 Q83 Q81, .slice Q73 Q77 Q75, .slice Q85 Q89 Q87] 29, bx b84 [.slice Q93 Q95 Q94, .slice Q90 Q92 Q91, .slice Q96 Q98 Q97] 29, bx b70 [.slice Q16 Q20 Q18, .slice Q10 Q14 Q12, .slice Q22 Q26 Q24] 29, ow 73 2 encC okC (.slice Q16 Q20 Q18) (loadM d_48 (kQ_ ((a_48 : Nat) : Int) p_48) p_48).store, ow 9 1 encS okS (.slice Q10 Q14 Q12) (loadM d_48 (kQ_ ((a_48 : Nat) : Int) p_48) p_48).touch.reads, ow 9 1 encS okS (.slice Q22 Q26 Q24) (loadM d_48 (kQ_ ((a_48 : Nat) : Int) p_48) p_48).touch.writes, bx b54 [.slice Q56 Q62 Q59, .slice Q47 Q53 Q50, .slice Q65 Q71 Q68] 29, bx b43 [.slice Q55 Q61 Q58, .slice Q46 Q52 Q49, .slice Q64 Q70 Q67] 29, bx b30 [.slice Q0 Q2 Q1, .slice Q3 Q5 Q4, .slice Q6 Q8 Q7] 29, ow 73 2 encC okC (.slice Q0 Q2 Q1) (storeM d_8 (kQ_ ((a_8 : Nat) : Int) p_8) p_8 t_8).store, ow 9 1 encS okS (.slice Q3 Q5 Q4) (storeM d_8 (kQ_ ((a_8 : Nat) : Int) p_8) p_8 t_8).touch.reads, ow 9 1 encS okS (.slice Q6 Q8 Q7) (storeM d_8 (kQ_ ((a_8 : Nat) : Int) p_8) p_8 t_8).touch.writes, bx b15 [.slice Q39 Q41 Q40, .slice Q36 Q38 Q37, .slice Q42 Q44 Q43] 29] _ := At.frame S193.at' [] rfl m202
     obtain ⟨Q194, Q228, Q262⟩ := At.ownInv S202.at' ET_24.hk 0 rfl
     obtain ⟨Q195, Q229, Q263⟩ := At.ownInv S202.at' ET_25.hk 1 rfl
     obtain ⟨Q196, Q230, Q264⟩ := At.ownInv S202.at' ET_25.hk 2 rfl
     clear m202
     refine ⟨Sd.of (S151.trans (S168.trans (S177.trans (S179.trans (S186.trans (S193.trans S202)))))) [22, 21, 16, 15, 10, 14, 4, 3, 9] rfl, ?_⟩
     refine d_one (i := 52) (listed' := #[yT, yT, yT, yT, yT, yT, yT, yT, yT, yT, yT, yT, yT, yT, yT, yT, yT, yT, yT, yT, yT, yT, yT, yT, yT, yT, yT, yT, yT, yT, yT, yT, yT, yT, yT, yT, yT, yT, yT, yT, yT, yT, yT, yT, yT, yT, yT, yT, yT, yT, yT, yT, yT, nF, nF, nF]) rfl (by kernel_rfl) rfl rfl ?_
     refine f_call F203 CF_21 (wanted_g F203 rfl rfl rfl rfl) rfl rfl rfl (lc (F203.ev 165 rfl) (lc (F203.ev 166 rfl) rfl)) (spec_DropPages_c (m := d_111) (id := ((a_111 : Nat) : Int)) (Rd.mq V111_0 (S116.trans (S118.trans (S123.trans (S128.trans (S130.trans (S134.trans (S139.trans (S141.trans (S144.trans (S151.trans (S168.trans (S177.trans (S179.trans (S186.trans (S193.trans S202)))))))))))))))) (Rd.mq V111_1 (S116.trans (S118.trans (S123.trans (S128.trans (S130.trans (S134.trans (S139.trans (S141.trans (S144.trans (S151.trans (S168.trans (S177.trans (S179.trans (S186.trans (S193.trans S202)))))))))))))))) (Rd.mq V111_2 (S116.trans (S118.trans (S123.trans (S128.trans (S130.trans (S134.trans (S139.trans (S141.trans (S144.trans (S151.trans (S168.trans (S177.trans (S179.trans (S186.trans (S193.trans S202)))))))))))))))) (by first | assumption | exact ⟨by omega, by omega⟩ | (unfold i64ok at *; omega)) (by first | decide | omega | exact bdC.le ‹_› (by decide) | exact bdC.le bdC_base (by decide) | exact bdC.le (bdC.store bdC_base) (by decide) | exact bdC.le (bdC.fork (bdC.store bdC_base)) (by decide) | exact bdC.le (bdC.store (bdC.fork (bdC.store bdC_base))) (by decide) | exact bdC.le (bdC.load (bdC.store (bdC.fork (bdC.store bdC_base)))) (by decide))) ?_
     rintro _ w204 ⟨Q168, Q172, Q170, Q162, Q166, Q164, Q174, Q178, Q176, rfl, m204, v204_0, v204_1, v204_2⟩
     refine ⟨_, rfl, fun _ F205 => ?_⟩
     have S204 := At.frame0 S202.at' m204
     have V204_0 := Rd.got0 S202.at' ((S3.trans (S8.trans (S15.trans (S17.trans (S25.trans (S30.trans (S32.trans (S38.trans (S43.trans (S45.trans (S48.trans (S54.trans (T60.trans (S64.trans (S70.trans (S72.trans (S78.trans (S84.trans (S86.trans (S90.trans (S96.trans (S98.trans (S104.trans (S106.trans (T109.trans (S111.trans (S116.trans (S118.trans (S123.trans (S128.trans (S130.trans (S134.trans (S139.trans (S141.trans (S144.trans (S151.trans (S168.trans (S177.trans (S179.trans (S186.trans (S193.trans S202))))))))))))))))))))))))))))))))))))))))).kp.size) v204_0 S204
     obtain ⟨ln204_0, le204_0, mx204_0, ni204_0⟩ := Rd.inv V204_0
     have V204_1 := Rd.got0 S202.at' ((S3.trans (S8.trans (S15.trans (S17.trans (S25.trans (S30.trans (S32.trans (S38.trans (S43.trans (S45.trans (S48.trans (S54.trans (T60.trans (S64.trans (S70.trans (S72.trans (S78.trans (S84.trans (S86.trans (S90.trans (S96.trans (S98.trans (S104.trans (S106.trans (T109.trans (S111.trans (S116.trans (S118.trans (S123.trans (S128.trans (S130.trans (S134.trans (S139.trans (S141.trans (S144.trans (S151.trans (S168.trans (S177.trans (S179.trans (S186.trans (S193.trans S202))))))))))))))))))))))))))))))))))))))))).kp.size) v204_1 S204
     obtain ⟨ln204_1, le204_1, mx204_1, ni204_1⟩ := Rd.inv V204_1
     have V204_2 := Rd.got0 S202.at' ((S3.trans (S8.trans (S15.trans (S17.trans (S25.trans (S30.trans (S32.trans (S38.trans (S43.trans (S45.trans (S48.trans (S54.trans (T60.trans (S64.trans (S70.trans (S72.trans (S78.trans (S84.trans (S86.trans (S90.trans (S96.trans (S98.trans (S104.trans (S106.trans (T109.trans (S111.trans (S116.trans (S118.trans (S123.trans (S128.trans (S130.trans (S134.trans (S139.trans (S141.trans (S144.trans (S151.trans (S168.trans (S177.trans (S179.trans (S186.trans (S193.trans S202))))))))))))))))))))))))))))))))))))))))).kp.size) v204_2 S204
     obtain ⟨ln204_2, le204_2, mx204_2, ni204_2⟩ := Rd.inv V204_2
     clear m204 v204_0 v204_1 v204_2
     refine ⟨Sd.of (S151.trans (S168.trans (S177.trans (S179.trans (S186.trans (S193.trans (S202.trans S204))))))) [22, 21, 16, 15, 10, 14, 4, 3, 9] rfl, ?_⟩
     refine d_one (i := 53) (listed' := #[yT, yT, yT, yT, yT, yT, yT, yT, yT, yT, yT, yT, yT, yT, yT, yT, yT, yT, yT, yT, yT, yT, yT, yT, yT, yT, yT, yT, yT, yT, yT, yT, yT, yT, yT, yT, yT, yT, yT, yT, yT, yT, yT, yT, yT, yT, yT, yT, yT, yT, yT, yT, yT, yT, nF, nF]) rfl (by kernel_rfl) rfl rfl ?_
     refine f_call F205 CF_17 (wanted_g F205 rfl rfl rfl rfl) rfl rfl rfl (lc (F205.ev 164 rfl) (lc (F205.ev 167 rfl) rfl)) (laws_sameMach_c (H := fun _ => True) (a := (wipeM d_111 (kP_ ((a_111 : Nat) : Int)))) (b := (wipeM d_111 (kP_ ((a_111 : Nat) : Int)))) (At.rd S204.at' ET_24.hk 0 rfl) (At.rd S204.at' ET_25.hk 1 rfl) (At.rd S204.at' ET_25.hk 2 rfl) (Rd.top V204_0) (Rd.top V204_1) (Rd.top V204_2)) ?_
     rintro _ w206 ⟨rfl, m206⟩
     refine ⟨_, rfl, fun _ F207 => ?_⟩
     have S206 := At.frame0 S204.at' m206
     rw [show (decide ((wipeM d_111 (kP_ ((a_111 : Nat) : Int))) = (wipeM d_111 (kP_ ((a_111 : Nat) : Int))))) = true from decide_eq_true rfl] at F207
     clear m206
     refine ⟨Sd.of (S151.trans (S168.trans (S177.trans (S179.trans (S186.trans (S193.trans (S202.trans (S204.trans S206)))))))) [22, 21, 16, 15, 10, 14, 4, 3, 9] rfl, ?_⟩
     refine g_take F207 rfl (i := 54) (listed' := #[yT, yT, yT, yT, yT, yT, yT, yT, yT, yT, yT, yT, yT, yT, yT, yT, yT, yT, yT, yT, yT, yT, yT, yT, yT, yT, yT, yT, yT, yT, yT, yT, yT, yT, yT, yT, yT, yT, yT, yT, yT, yT, yT, yT, yT, yT, yT, yT, yT, yT, yT, yT, yT, yT, yT, nF]) rfl (by kernel_rfl) (by kernel_rfl) (by kernel_rfl) (fun _ _ _ h => h) (Sd.of (S151.trans (S168.trans (S177.trans (S179.trans (S186.trans (S193.trans (S202.trans (S204.trans S206)))))))) [22, 21, 16, 15, 10, 14, 4, 3, 9] rfl) rfl (wanted_g F207 rfl rfl rfl rfl) rfl rfl (fun _ hz => (r_not rfl (F207.ev 168 rfl))) fun _ F208 => ?_
     refine g_take F208 rfl (i := 55) (listed' := #[yT, yT, yT, yT, yT, yT, yT, yT, yT, yT, yT, yT, yT, yT, yT, yT, yT, yT, yT, yT, yT, yT, yT, yT, yT, yT, yT, yT, yT, yT, yT, yT, yT, yT, yT, yT, yT, yT, yT, yT, yT, yT, yT, yT, yT, yT, yT, yT, yT, yT, yT, yT, yT, yT, yT, yT]) rfl (by kernel_rfl) (by kernel_rfl) (by kernel_rfl) (fun _ _ _ h => h) (Sd.of (S151.trans (S168.trans (S177.trans (S179.trans (S186.trans (S193.trans (S202.trans (S204.trans S206)))))))) [22, 21, 16, 15, 10, 14, 4, 3, 9] rfl) rfl rfl rfl rfl (fun _ hz => (r_pick (b := false) rfl (F208.ev 161 rfl) (F208.ev 169 rfl))) fun _ F209 => ?_
     refine wpAnyH_done (by kernel_rfl) (x_normal ?_) _
     exact ⟨Q167, Q171, Q169, Q161, Q165, Q163, Q173, Q177, Q175, Q132, Q136, Q134, Q126, Q130, Q128, Q138, Q142, Q140, Q168, Q172, Q170, Q162, Q166, Q164, Q174, Q178, Q176, F209.cut rfl, ((S144.trans (S151.trans (S168.trans (S177.trans (S179.trans (S186.trans (S193.trans (S202.trans (S204.trans S206))))))))).pick [3, 4, 5, 6, 7, 8, 9, 10, 11, 12, 13, 14, 15, 16, 17, 18, 19, 20, 21, 22, 23, 24, 25, 26, 0, 1, 2] rfl), Q160⟩
   · rintro a210 w210 ⟨Q167, Q171, Q169, Q161, Q165, Q163, Q173, Q177, Q175, Q132, Q136, Q134, Q126, Q130, Q128, Q138, Q142, Q140, Q168, Q172, Q170, Q162, Q166, Q164, Q174, Q178, Q176, F210, S210, Q184⟩
     obtain ⟨Q197, Q231, Q265⟩ := At.ownInv S210.at' ET_24.hk 24 rfl
     obtain ⟨Q198, Q232, Q266⟩ := At.ownInv S210.at' ET_25.hk 25 rfl
     obtain ⟨Q199, Q233, Q267⟩ := At.ownInv S210.at' ET_25.hk 26 rfl
     refine x_normal (wp_cond_false (F210.ev 170 rfl) (wp_skip (x_normal (wp_seq (wp_region_lit ?_)))))
     have S211 : Mv [bx b139 [.slice Q120 Q122 Q121, .slice Q117 Q119 Q118, .slice Q123 Q125 Q124] 29, bx b128 [.slice Q54 Q60 Q57, .slice Q45 Q51 Q48, .slice Q63 Q69 Q66] 29, ow 73 2 encC okC (.slice Q54 Q60 Q57) (lookM d_111 (kP_ ((a_111 : Nat) : Int) ++ bT_)).store, ow 9 1 encS okS (.slice Q45 Q51 Q48) (lookM d_111 (kP_ ((a_111 : Nat) : Int) ++ bT_)).touch.reads, ow 9 1 encS okS (.slice Q63 Q69 Q66) (lookM d_111 (kP_ ((a_111 : Nat) : Int) ++ bT_)).touch.writes, ow 9 1 encS okS (.slice Q144 Q146 Q145) (cutL (kP_ ((a_111 : Nat) : Int)).size (keysUnder d_111.store (kP_ ((a_111 : Nat) : Int)))), bx b116 [.slice Q78 Q82 Q80, .slice Q72 Q76 Q74, .slice Q84 Q88 Q86] 29, bx b106 [.slice Q30 Q32 Q31, .slice Q27 Q29 Q28, .slice Q33 Q35 Q34] 29, ow 73 2 encC okC (.slice Q30 Q32 Q31) (forkM (kP_ ((a_90 : Nat) : Int)) (kP_ ((b_90 : Nat) : Int)) d_90).store, ow 9 1 encS okS (.slice Q27 Q29 Q28) (forkM (kP_ ((a_90 : Nat) : Int)) (kP_ ((b_90 : Nat) : Int)) d_90).touch.reads, ow 9 1 encS okS (.slice Q33 Q35 Q34) (forkM (kP_ ((a_90 : Nat) : Int)) (kP_ ((b_90 : Nat) : Int)) d_90).touch.writes, bx b96 [.slice Q79 Q83 Q81, .slice Q73 Q77 Q75, .slice Q85 Q89 Q87] 29, bx b84 [.slice Q93 Q95 Q94, .slice Q90 Q92 Q91, .slice Q96 Q98 Q97] 29, bx b70 [.slice Q16 Q20 Q18, .slice Q10 Q14 Q12, .slice Q22 Q26 Q24] 29, ow 73 2 encC okC (.slice Q16 Q20 Q18) (loadM d_48 (kQ_ ((a_48 : Nat) : Int) p_48) p_48).store, ow 9 1 encS okS (.slice Q10 Q14 Q12) (loadM d_48 (kQ_ ((a_48 : Nat) : Int) p_48) p_48).touch.reads, ow 9 1 encS okS (.slice Q22 Q26 Q24) (loadM d_48 (kQ_ ((a_48 : Nat) : Int) p_48) p_48).touch.writes, bx b54 [.slice Q56 Q62 Q59, .slice Q47 Q53 Q50, .slice Q65 Q71 Q68] 29, bx b43 [.slice Q55 Q61 Q58, .slice Q46 Q52 Q49, .slice Q64 Q70 Q67] 29, bx b30 [.slice Q0 Q2 Q1, .slice Q3 Q5 Q4, .slice Q6 Q8 Q7] 29, ow 73 2 encC okC (.slice Q0 Q2 Q1) (storeM d_8 (kQ_ ((a_8 : Nat) : Int) p_8) p_8 t_8).store, ow 9 1 encS okS (.slice Q3 Q5 Q4) (storeM d_8 (kQ_ ((a_8 : Nat) : Int) p_8) p_8 t_8).touch.reads, ow 9 1 encS okS (.slice Q6 Q8 Q7) (storeM d_8 (kQ_ ((a_8 : Nat) : Int) p_8) p_8 t_8).touch.writes, bx b15 [.slice Q39 Q41 Q40, .slice Q36 Q38 Q37, .slice Q42 Q44 Q43] 29, ow 73 2 encC okC (.slice Q132 Q136 Q134) (wipeM d_111 (kP_ ((a_111 : Nat) : Int))).store, ow 9 1 encS okS (.slice Q126 Q130 Q128) (wipeM d_111 (kP_ ((a_111 : Nat) : Int))).touch.reads, ow 9 1 encS okS (.slice Q138 Q142 Q140) (wipeM d_111 (kP_ ((a_111 : Nat) : Int))).touch.writes] w210 [bx b30 [.slice Q0 Q2 Q1, .slice Q3 Q5 Q4, .slice Q6 Q8 Q7] 29, ow 73 2 encC okC (.slice Q0 Q2 Q1) (storeM d_8 (kQ_ ((a_8 : Nat) : Int) p_8) p_8 t_8).store, ow 9 1 encS okS (.slice Q3 Q5 Q4) (storeM d_8 (kQ_ ((a_8 : Nat) : Int) p_8) p_8 t_8).touch.reads, ow 9 1 encS okS (.slice Q6 Q8 Q7) (storeM d_8 (kQ_ ((a_8 : Nat) : Int) p_8) p_8 t_8).touch.writes] w210 := Mv.pick (Mv.refl S210.at') [19, 20, 21, 22] rfl
     refine l_op (f_call F210 CF_22 rfl rfl rfl rfl rfl (laws_base_c (H := V H w [bx b30 [.slice Q0 Q2 Q1, .slice Q3 Q5 Q4, .slice Q6 Q8 Q7] 29, ow 73 2 encC okC (.slice Q0 Q2 Q1) (storeM d_8 (kQ_ ((a_8 : Nat) : Int) p_8) p_8 t_8).store, ow 9 1 encS okS (.slice Q3 Q5 Q4) (storeM d_8 (kQ_ ((a_8 : Nat) : Int) p_8) p_8 t_8).touch.reads, ow 9 1 encS okS (.slice Q6 Q8 Q7) (storeM d_8 (kQ_ ((a_8 : Nat) : Int) p_8) p_8 t_8).touch.writes])  ) ?_)
     rintro _ w212 ⟨Q298, Q300, Q299, Q295, Q297, Q296, Q301, Q303, Q302, rfl, m212, v212_0, v212_1, v212_2⟩
     refine ⟨_, rfl, fun _ F213 => ?_⟩
     have S212 := At.frame0 S211.at' m212
     have V212_0 := Rd.got0 S211.at' ((S3.trans (S8.trans (S15.trans (S17.trans (S25.trans (S30.trans (S32.trans (S38.trans (S43.trans (S45.trans (S48.trans (S54.trans (T60.trans (S64.trans (S70.trans (S72.trans (S78.trans (S84.trans (S86.trans (S90.trans (S96.trans (S98.trans (S104.trans (S106.trans (T109.trans (S111.trans (S116.trans (S118.trans (S123.trans (S128.trans (S130.trans (S134.trans (S139.trans (S141.trans (S210.trans S211))))))))))))))))))))))))))))))))))).kp.size) v212_0 S212
     obtain ⟨ln212_0, le212_0, mx212_0, ni212_0⟩ := Rd.inv V212_0
     have V212_1 := Rd.got0 S211.at' ((S3.trans (S8.trans (S15.trans (S17.trans (S25.trans (S30.trans (S32.trans (S38.trans (S43.trans (S45.trans (S48.trans (S54.trans (T60.trans (S64.trans (S70.trans (S72.trans (S78.trans (S84.trans (S86.trans (S90.trans (S96.trans (S98.trans (S104.trans (S106.trans (T109.trans (S111.trans (S116.trans (S118.trans (S123.trans (S128.trans (S130.trans (S134.trans (S139.trans (S141.trans (S210.trans S211))))))))))))))))))))))))))))))))))).kp.size) v212_1 S212
     obtain ⟨ln212_1, le212_1, mx212_1, ni212_1⟩ := Rd.inv V212_1
     have V212_2 := Rd.got0 S211.at' ((S3.trans (S8.trans (S15.trans (S17.trans (S25.trans (S30.trans (S32.trans (S38.trans (S43.trans (S45.trans (S48.trans (S54.trans (T60.trans (S64.trans (S70.trans (S72.trans (S78.trans (S84.trans (S86.trans (S90.trans (S96.trans (S98.trans (S104.trans (S106.trans (T109.trans (S111.trans (S116.trans (S118.trans (S123.trans (S128.trans (S130.trans (S134.trans (S139.trans (S141.trans (S210.trans S211))))))))))))))))))))))))))))))))))).kp.size) v212_2 S212
     obtain ⟨ln212_2, le212_2, mx212_2, ni212_2⟩ := Rd.inv V212_2
     clear m212 v212_0 v212_1 v212_2
     refine l_op (f_call F213 CF_7 rfl rfl rfl rfl (lc (F213.ev 172 rfl) (lc rfl (lc rfl (lc rfl rfl)))) (impl_StorePage_c (m := mZ_) (id := 1) (page := 2) (text := tA_) V212_0 V212_1 V212_2 (by first | assumption | exact ⟨by omega, by omega⟩ | (unfold i64ok at *; omega)) (by first | assumption | exact ⟨by omega, by omega⟩ | (unfold i64ok at *; omega)) (by unfold okS; decide) (Tb.mv V_tab0 (S3.trans (S8.trans (S15.trans (S17.trans (S25.trans (S30.trans (S32.trans (S38.trans (S43.trans (S45.trans (S48.trans (S54.trans (T60.trans (S64.trans (S70.trans (S72.trans (S78.trans (S84.trans (S86.trans (S90.trans (S96.trans (S98.trans (S104.trans (S106.trans (T109.trans (S111.trans (S116.trans (S118.trans (S123.trans (S128.trans (S130.trans (S134.trans (S139.trans (S141.trans (S210.trans (S211.trans S212))))))))))))))))))))))))))))))))))))) (by first | decide | omega | exact bdC.le ‹_› (by decide) | exact bdC.le bdC_base (by decide) | exact bdC.le (bdC.store bdC_base) (by decide) | exact bdC.le (bdC.fork (bdC.store bdC_base)) (by decide) | exact bdC.le (bdC.store (bdC.fork (bdC.store bdC_base))) (by decide) | exact bdC.le (bdC.load (bdC.store (bdC.fork (bdC.store bdC_base)))) (by decide))) ?_)
     rintro _ w214 ⟨Q102, Q104, Q103, Q99, Q101, Q100, Q105, Q107, Q106, rfl, m214⟩
     refine ⟨_, rfl, fun _ F215 => ?_⟩
     have S214 : Mv _ _ [ow 73 2 encC okC (.slice Q102 Q104 Q103) mA_.store, ow 9 1 encS okS (.slice Q99 Q101 Q100) mA_.touch.reads, ow 9 1 encS okS (.slice Q105 Q107 Q106) mA_.touch.writes, bx b30 [.slice Q0 Q2 Q1, .slice Q3 Q5 Q4, .slice Q6 Q8 Q7] 29, ow 73 2 encC okC (.slice Q0 Q2 Q1) (storeM d_8 (kQ_ ((a_8 : Nat) : Int) p_8) p_8 t_8).store, ow 9 1 encS okS (.slice Q3 Q5 Q4) (storeM d_8 (kQ_ ((a_8 : Nat) : Int) p_8) p_8 t_8).touch.reads, ow 9 1 encS okS (.slice Q6 Q8 Q7) (storeM d_8 (kQ_ ((a_8 : Nat) : Int) p_8) p_8 t_8).touch.writes] _ := At.frame S212.at' [] rfl m214
     obtain ⟨Q200, Q234, Q268⟩ := At.ownInv S214.at' ET_24.hk 0 rfl
     obtain ⟨Q201, Q235, Q269⟩ := At.ownInv S214.at' ET_25.hk 1 rfl
     obtain ⟨Q202, Q236, Q270⟩ := At.ownInv S214.at' ET_25.hk 2 rfl
     clear m214
     refine l_op (f_mv F215 rfl rfl rfl rfl rfl fun _ F216 => ?_)
     refine l_op (f_val (v := .agg #[.slice Q102 Q104 Q103, .slice Q99 Q101 Q100, .slice Q105 Q107 Q106]) F216 rfl rfl (r_extract rfl (F216.ev 171 rfl) rfl) rfl fun _ F217 => ?_)
     refine l_op (f_val (v := .int .i64 (storeC 2 tA_)) F217 rfl rfl (r_extract rfl (F217.ev 171 rfl) rfl) rfl fun _ F218 => ?_)
     refine l_op (f_alloc F218 S214.at' ZI_29 rfl rfl rfl rfl rfl fun b219 _ w219 F220 S219 => ?_)
     refine l_op (s_store S219.at' 0 TI_29 rfl rfl rfl rfl rfl (F220.ev 30 rfl) (F220.ev 174 rfl) rfl rfl rfl rfl rfl fun w221 S221 => ?_)
     refine l_op (f_as F220 rfl rfl rfl rfl rfl fun _ F222 => ?_)
     have T223 : Mv _ _ [bx b219 [.slice Q102 Q104 Q103, .slice Q99 Q101 Q100, .slice Q105 Q107 Q106] 29, ow 73 2 encC okC (.slice Q102 Q104 Q103) mA_.store, ow 9 1 encS okS (.slice Q99 Q101 Q100) mA_.touch.reads, ow 9 1 encS okS (.slice Q105 Q107 Q106) mA_.touch.writes, bx b30 [.slice Q0 Q2 Q1, .slice Q3 Q5 Q4, .slice Q6 Q8 Q7] 29, ow 73 2 encC okC (.slice Q0 Q2 Q1) (storeM d_8 (kQ_ ((a_8 : Nat) : Int) p_8) p_8 t_8).store, ow 9 1 encS okS (.slice Q3 Q5 Q4) (storeM d_8 (kQ_ ((a_8 : Nat) : Int) p_8) p_8 t_8).touch.reads, ow 9 1 encS okS (.slice Q6 Q8 Q7) (storeM d_8 (kQ_ ((a_8 : Nat) : Int) p_8) p_8 t_8).touch.writes] _ := S221
     refine s_end (x_normal (wp_seq (wp_region_lit (l_op (f_val (v := .agg #[.slice Q102 Q104 Q103, .slice Q99 Q101 Q100, .slice Q105 Q107 Q106]) F222 rfl rfl (r_loadB T223.at' 0 TI_29 rfl rfl (F222.ev 30 rfl) rfl rfl (fun h => nomatch h) rfl) rfl fun _ F224 => ?_)))))
     refine l_op (f_call F224 CF_13 rfl rfl rfl rfl (lc (F224.ev 176 rfl) (lc rfl (lc rfl rfl))) (impl_ForkPages_c (H := fun _ => True) (m := mA_) (from_ := 1) (to := 7) (At.rd T223.at' ET_24.hk 1 rfl) (At.rd T223.at' ET_25.hk 2 rfl) (At.rd T223.at' ET_25.hk 3 rfl) (by first | assumption | exact ⟨by omega, by omega⟩ | (unfold i64ok at *; omega)) (by first | assumption | exact ⟨by omega, by omega⟩ | (unfold i64ok at *; omega)) (Tb.top (Tb.mv V_tab0 (S3.trans (S8.trans (S15.trans (S17.trans (S25.trans (S30.trans (S32.trans (S38.trans (S43.trans (S45.trans (S48.trans (S54.trans (T60.trans (S64.trans (S70.trans (S72.trans (S78.trans (S84.trans (S86.trans (S90.trans (S96.trans (S98.trans (S104.trans (S106.trans (T109.trans (S111.trans (S116.trans (S118.trans (S123.trans (S128.trans (S130.trans (S134.trans (S139.trans (S141.trans (S210.trans (S211.trans (S212.trans (S214.trans (S219.trans T223))))))))))))))))))))))))))))))))))))))))) (by first | decide | omega | exact bdC.le ‹_› (by decide) | exact bdC.le bdC_base (by decide) | exact bdC.le (bdC.store bdC_base) (by decide) | exact bdC.le (bdC.fork (bdC.store bdC_base)) (by decide) | exact bdC.le (bdC.store (bdC.fork (bdC.store bdC_base))) (by decide) | exact bdC.le (bdC.load (bdC.store (bdC.fork (bdC.store bdC_base)))) (by decide))) ?_)
     rintro _ w225 ⟨Q111, Q113, Q112, Q108, Q110, Q109, Q114, Q116, Q115, rfl, m225⟩
     refine ⟨_, rfl, fun _ F226 => ?_⟩
     have S225 : Mv _ _ [ow 73 2 encC okC (.slice Q111 Q113 Q112) mB_.store, ow 9 1 encS okS (.slice Q108 Q110 Q109) mB_.touch.reads, ow 9 1 encS okS (.slice Q114 Q116 Q115) mB_.touch.writes, bx b219 [.slice Q102 Q104 Q103, .slice Q99 Q101 Q100, .slice Q105 Q107 Q106] 29, ow 73 2 encC okC (.slice Q102 Q104 Q103) mA_.store, ow 9 1 encS okS (.slice Q99 Q101 Q100) mA_.touch.reads, ow 9 1 encS okS (.slice Q105 Q107 Q106) mA_.touch.writes, bx b30 [.slice Q0 Q2 Q1, .slice Q3 Q5 Q4, .slice Q6 Q8 Q7] 29, ow 73 2 encC okC (.slice Q0 Q2 Q1) (storeM d_8 (kQ_ ((a_8 : Nat) : Int) p_8) p_8 t_8).store, ow 9 1 encS okS (.slice Q3 Q5 Q4) (storeM d_8 (kQ_ ((a_8 : Nat) : Int) p_8) p_8 t_8).touch.reads, ow 9 1 encS okS (.slice Q6 Q8 Q7) (storeM d_8 (kQ_ ((a_8 : Nat) : Int) p_8) p_8 t_8).touch.writes] _ := At.frame T223.at' [] rfl m225
     obtain ⟨Q203, Q237, Q271⟩ := At.ownInv S225.at' ET_24.hk 0 rfl
     obtain ⟨Q204, Q238, Q272⟩ := At.ownInv S225.at' ET_25.hk 1 rfl
     obtain ⟨Q205, Q239, Q273⟩ := At.ownInv S225.at' ET_25.hk 2 rfl
     clear m225
     have S227 : Mv [ow 73 2 encC okC (.slice Q111 Q113 Q112) mB_.store, ow 9 1 encS okS (.slice Q108 Q110 Q109) mB_.touch.reads, ow 9 1 encS okS (.slice Q114 Q116 Q115) mB_.touch.writes, bx b219 [.slice Q102 Q104 Q103, .slice Q99 Q101 Q100, .slice Q105 Q107 Q106] 29, ow 73 2 encC okC (.slice Q102 Q104 Q103) mA_.store, ow 9 1 encS okS (.slice Q99 Q101 Q100) mA_.touch.reads, ow 9 1 encS okS (.slice Q105 Q107 Q106) mA_.touch.writes, bx b30 [.slice Q0 Q2 Q1, .slice Q3 Q5 Q4, .slice Q6 Q8 Q7] 29, ow 73 2 encC okC (.slice Q0 Q2 Q1) (storeM d_8 (kQ_ ((a_8 : Nat) : Int) p_8) p_8 t_8).store, ow 9 1 encS okS (.slice Q3 Q5 Q4) (storeM d_8 (kQ_ ((a_8 : Nat) : Int) p_8) p_8 t_8).touch.reads, ow 9 1 encS okS (.slice Q6 Q8 Q7) (storeM d_8 (kQ_ ((a_8 : Nat) : Int) p_8) p_8 t_8).touch.writes] w225 [ow 73 2 encC okC (.slice Q111 Q113 Q112) mB_.store, ow 9 1 encS okS (.slice Q108 Q110 Q109) mB_.touch.reads, ow 9 1 encS okS (.slice Q114 Q116 Q115) mB_.touch.writes, bx b30 [.slice Q0 Q2 Q1, .slice Q3 Q5 Q4, .slice Q6 Q8 Q7] 29, ow 73 2 encC okC (.slice Q0 Q2 Q1) (storeM d_8 (kQ_ ((a_8 : Nat) : Int) p_8) p_8 t_8).store, ow 9 1 encS okS (.slice Q3 Q5 Q4) (storeM d_8 (kQ_ ((a_8 : Nat) : Int) p_8) p_8 t_8).touch.reads, ow 9 1 encS okS (.slice Q6 Q8 Q7) (storeM d_8 (kQ_ ((a_8 : Nat) : Int) p_8) p_8 t_8).touch.writes] w225 := Mv.pick (Mv.refl S225.at') [0, 1, 2, 7, 8, 9, 10] rfl
     refine l_op (f_alloc F226 S227.at' ZI_29 rfl rfl rfl rfl rfl fun b228 _ w228 F229 S228 => ?_)
     refine l_op (s_store S228.at' 0 TI_29 rfl rfl rfl rfl rfl (F229.ev 32 rfl) (F229.ev 177 rfl) rfl rfl rfl rfl rfl fun w230 S230 => ?_)
     refine s_end (x_normal (wp_seq (wp_region_lit (l_op (f_val (v := .agg #[.slice Q111 Q113 Q112, .slice Q108 Q110 Q109, .slice Q114 Q116 Q115]) F229 rfl rfl (r_loadB S230.at' 0 TI_29 rfl rfl (F229.ev 32 rfl) rfl rfl (fun h => nomatch h) rfl) rfl fun _ F231 => ?_)))))
     refine l_op (f_call F231 CF_7 rfl rfl rfl rfl (lc (F231.ev 179 rfl) (lc rfl (lc rfl (lc rfl rfl)))) (impl_StorePage_c (H := fun _ => True) (m := mB_) (id := 1) (page := 2) (text := (⟨#[120, 121, 122]⟩ : ByteArray)) (At.rd S230.at' ET_24.hk 1 rfl) (At.rd S230.at' ET_25.hk 2 rfl) (At.rd S230.at' ET_25.hk 3 rfl) (by first | assumption | exact ⟨by omega, by omega⟩ | (unfold i64ok at *; omega)) (by first | assumption | exact ⟨by omega, by omega⟩ | (unfold i64ok at *; omega)) (by unfold okS; decide) (Tb.top (Tb.mv V_tab0 (S3.trans (S8.trans (S15.trans (S17.trans (S25.trans (S30.trans (S32.trans (S38.trans (S43.trans (S45.trans (S48.trans (S54.trans (T60.trans (S64.trans (S70.trans (S72.trans (S78.trans (S84.trans (S86.trans (S90.trans (S96.trans (S98.trans (S104.trans (S106.trans (T109.trans (S111.trans (S116.trans (S118.trans (S123.trans (S128.trans (S130.trans (S134.trans (S139.trans (S141.trans (S210.trans (S211.trans (S212.trans (S214.trans (S219.trans (T223.trans (S225.trans (S227.trans (S228.trans S230))))))))))))))))))))))))))))))))))))))))))))) (by first | decide | omega | exact bdC.le ‹_› (by decide) | exact bdC.le bdC_base (by decide) | exact bdC.le (bdC.store bdC_base) (by decide) | exact bdC.le (bdC.fork (bdC.store bdC_base)) (by decide) | exact bdC.le (bdC.store (bdC.fork (bdC.store bdC_base))) (by decide) | exact bdC.le (bdC.load (bdC.store (bdC.fork (bdC.store bdC_base)))) (by decide))) ?_)
     rintro _ w232 ⟨Q15, Q19, Q17, Q9, Q13, Q11, Q21, Q25, Q23, rfl, m232⟩
     refine ⟨_, rfl, fun _ F233 => ?_⟩
     have S232 : Mv _ _ [ow 73 2 encC okC (.slice Q15 Q19 Q17) mC_.store, ow 9 1 encS okS (.slice Q9 Q13 Q11) mC_.touch.reads, ow 9 1 encS okS (.slice Q21 Q25 Q23) mC_.touch.writes, bx b228 [.slice Q111 Q113 Q112, .slice Q108 Q110 Q109, .slice Q114 Q116 Q115] 29, ow 73 2 encC okC (.slice Q111 Q113 Q112) mB_.store, ow 9 1 encS okS (.slice Q108 Q110 Q109) mB_.touch.reads, ow 9 1 encS okS (.slice Q114 Q116 Q115) mB_.touch.writes, bx b30 [.slice Q0 Q2 Q1, .slice Q3 Q5 Q4, .slice Q6 Q8 Q7] 29, ow 73 2 encC okC (.slice Q0 Q2 Q1) (storeM d_8 (kQ_ ((a_8 : Nat) : Int) p_8) p_8 t_8).store, ow 9 1 encS okS (.slice Q3 Q5 Q4) (storeM d_8 (kQ_ ((a_8 : Nat) : Int) p_8) p_8 t_8).touch.reads, ow 9 1 encS okS (.slice Q6 Q8 Q7) (storeM d_8 (kQ_ ((a_8 : Nat) : Int) p_8) p_8 t_8).touch.writes] _ := At.frame S230.at' [] rfl m232
     obtain ⟨Q206, Q240, Q274⟩ := At.ownInv S232.at' ET_24.hk 0 rfl
     obtain ⟨Q207, Q241, Q275⟩ := At.ownInv S232.at' ET_25.hk 1 rfl
     obtain ⟨Q208, Q242, Q276⟩ := At.ownInv S232.at' ET_25.hk 2 rfl
     clear m232
     have S234 : Mv [ow 73 2 encC okC (.slice Q15 Q19 Q17) mC_.store, ow 9 1 encS okS (.slice Q9 Q13 Q11) mC_.touch.reads, ow 9 1 encS okS (.slice Q21 Q25 Q23) mC_.touch.writes, bx b228 [.slice Q111 Q113 Q112, .slice Q108 Q110 Q109, .slice Q114 Q116 Q115] 29, ow 73 2 encC okC (.slice Q111 Q113 Q112) mB_.store, ow 9 1 encS okS (.slice Q108 Q110 Q109) mB_.touch.reads, ow 9 1 encS okS (.slice Q114 Q116 Q115) mB_.touch.writes, bx b30 [.slice Q0 Q2 Q1, .slice Q3 Q5 Q4, .slice Q6 Q8 Q7] 29, ow 73 2 encC okC (.slice Q0 Q2 Q1) (storeM d_8 (kQ_ ((a_8 : Nat) : Int) p_8) p_8 t_8).store, ow 9 1 encS okS (.slice Q3 Q5 Q4) (storeM d_8 (kQ_ ((a_8 : Nat) : Int) p_8) p_8 t_8).touch.reads, ow 9 1 encS okS (.slice Q6 Q8 Q7) (storeM d_8 (kQ_ ((a_8 : Nat) : Int) p_8) p_8 t_8).touch.writes] w232 [ow 73 2 encC okC (.slice Q15 Q19 Q17) mC_.store, ow 9 1 encS okS (.slice Q9 Q13 Q11) mC_.touch.reads, ow 9 1 encS okS (.slice Q21 Q25 Q23) mC_.touch.writes, bx b30 [.slice Q0 Q2 Q1, .slice Q3 Q5 Q4, .slice Q6 Q8 Q7] 29, ow 73 2 encC okC (.slice Q0 Q2 Q1) (storeM d_8 (kQ_ ((a_8 : Nat) : Int) p_8) p_8 t_8).store, ow 9 1 encS okS (.slice Q3 Q5 Q4) (storeM d_8 (kQ_ ((a_8 : Nat) : Int) p_8) p_8 t_8).touch.reads, ow 9 1 encS okS (.slice Q6 Q8 Q7) (storeM d_8 (kQ_ ((a_8 : Nat) : Int) p_8) p_8 t_8).touch.writes] w232 := Mv.pick (Mv.refl S232.at') [0, 1, 2, 7, 8, 9, 10] rfl
     refine l_op (f_mv F233 rfl rfl rfl rfl rfl fun _ F235 => ?_)
     refine l_op (f_val (v := .agg #[.slice Q15 Q19 Q17, .slice Q9 Q13 Q11, .slice Q21 Q25 Q23]) F235 rfl rfl (r_extract rfl (F235.ev 178 rfl) rfl) rfl fun _ F236 => ?_)
     refine l_op (f_val (v := .int .i64 (storeC 2 (⟨#[120, 121, 122]⟩ : ByteArray))) F236 rfl rfl (r_extract rfl (F236.ev 178 rfl) rfl) rfl fun _ F237 => ?_)
     refine l_op (f_alloc F237 S234.at' ZI_29 rfl rfl rfl rfl rfl fun b238 _ w238 F239 S238 => ?_)
     refine l_op (s_store S238.at' 0 TI_29 rfl rfl rfl rfl rfl (F239.ev 33 rfl) (F239.ev 181 rfl) rfl rfl rfl rfl rfl fun w240 S240 => ?_)
     refine l_op (f_as F239 rfl rfl rfl rfl rfl fun _ F241 => ?_)
     refine s_end (x_normal (wp_seq (wp_region_lit (l_op (f_val (v := .agg #[.slice Q15 Q19 Q17, .slice Q9 Q13 Q11, .slice Q21 Q25 Q23]) F241 rfl rfl (r_loadB S240.at' 0 TI_29 rfl rfl (F241.ev 33 rfl) rfl rfl (fun h => nomatch h) rfl) rfl fun _ F242 => ?_)))))
     refine l_op (f_call F242 CF_10 rfl rfl rfl rfl (lc (F242.ev 184 rfl) (lc rfl (lc rfl rfl))) (impl_LoadPage_c (H := fun _ => True) (m := mC_) (id := 7) (page := 2) (At.rd S240.at' ET_24.hk 1 rfl) (At.rd S240.at' ET_25.hk 2 rfl) (At.rd S240.at' ET_25.hk 3 rfl) (by first | assumption | exact ⟨by omega, by omega⟩ | (unfold i64ok at *; omega)) (by first | assumption | exact ⟨by omega, by omega⟩ | (unfold i64ok at *; omega)) (Tb.top (Tb.mv V_tab0 (S3.trans (S8.trans (S15.trans (S17.trans (S25.trans (S30.trans (S32.trans (S38.trans (S43.trans (S45.trans (S48.trans (S54.trans (T60.trans (S64.trans (S70.trans (S72.trans (S78.trans (S84.trans (S86.trans (S90.trans (S96.trans (S98.trans (S104.trans (S106.trans (T109.trans (S111.trans (S116.trans (S118.trans (S123.trans (S128.trans (S130.trans (S134.trans (S139.trans (S141.trans (S210.trans (S211.trans (S212.trans (S214.trans (S219.trans (T223.trans (S225.trans (S227.trans (S228.trans (S230.trans (S232.trans (S234.trans (S238.trans S240))))))))))))))))))))))))))))))))))))))))))))))))) (Tb.top (Tb.mv V_tab2 (S3.trans (S8.trans (S15.trans (S17.trans (S25.trans (S30.trans (S32.trans (S38.trans (S43.trans (S45.trans (S48.trans (S54.trans (T60.trans (S64.trans (S70.trans (S72.trans (S78.trans (S84.trans (S86.trans (S90.trans (S96.trans (S98.trans (S104.trans (S106.trans (T109.trans (S111.trans (S116.trans (S118.trans (S123.trans (S128.trans (S130.trans (S134.trans (S139.trans (S141.trans (S210.trans (S211.trans (S212.trans (S214.trans (S219.trans (T223.trans (S225.trans (S227.trans (S228.trans (S230.trans (S232.trans (S234.trans (S238.trans S240))))))))))))))))))))))))))))))))))))))))))))))))) (by first | decide | omega | exact bdC.le ‹_› (by decide) | exact bdC.le bdC_base (by decide) | exact bdC.le (bdC.store bdC_base) (by decide) | exact bdC.le (bdC.fork (bdC.store bdC_base)) (by decide) | exact bdC.le (bdC.store (bdC.fork (bdC.store bdC_base))) (by decide) | exact bdC.le (bdC.load (bdC.store (bdC.fork (bdC.store bdC_base)))) (by decide))) ?_)
     rintro _ w243 ⟨Q154, Q156, Q155, Q151, Q153, Q152, Q157, Q159, Q158, rfl, m243, Q291⟩
     refine ⟨_, rfl, fun _ F244 => ?_⟩
     have S243 : Mv _ _ [ow 73 2 encC okC (.slice Q154 Q156 Q155) (loadM mC_ (kQ_ 7 2) 2).store, ow 9 1 encS okS (.slice Q151 Q153 Q152) (loadM mC_ (kQ_ 7 2) 2).touch.reads, ow 9 1 encS okS (.slice Q157 Q159 Q158) (loadM mC_ (kQ_ 7 2) 2).touch.writes, bx b238 [.slice Q15 Q19 Q17, .slice Q9 Q13 Q11, .slice Q21 Q25 Q23] 29, ow 73 2 encC okC (.slice Q15 Q19 Q17) mC_.store, ow 9 1 encS okS (.slice Q9 Q13 Q11) mC_.touch.reads, ow 9 1 encS okS (.slice Q21 Q25 Q23) mC_.touch.writes, bx b30 [.slice Q0 Q2 Q1, .slice Q3 Q5 Q4, .slice Q6 Q8 Q7] 29, ow 73 2 encC okC (.slice Q0 Q2 Q1) (storeM d_8 (kQ_ ((a_8 : Nat) : Int) p_8) p_8 t_8).store, ow 9 1 encS okS (.slice Q3 Q5 Q4) (storeM d_8 (kQ_ ((a_8 : Nat) : Int) p_8) p_8 t_8).touch.reads, ow 9 1 encS okS (.slice Q6 Q8 Q7) (storeM d_8 (kQ_ ((a_8 : Nat) : Int) p_8) p_8 t_8).touch.writes] _ := At.frame S240.at' [] rfl m243
     obtain ⟨Q209, Q243, Q277⟩ := At.ownInv S243.at' ET_24.hk 0 rfl
     obtain ⟨Q210, Q244, Q278⟩ := At.ownInv S243.at' ET_25.hk 1 rfl
     obtain ⟨Q211, Q245, Q279⟩ := At.ownInv S243.at' ET_25.hk 2 rfl
     clear m243
     refine l_op (f_mv F244 rfl rfl rfl rfl rfl fun _ F245 => ?_)
     refine l_op (f_val (v := .agg #[.slice Q154 Q156 Q155, .slice Q151 Q153 Q152, .slice Q157 Q159 Q158]) F245 rfl rfl (r_extract rfl (F245.ev 183 rfl) rfl) rfl fun _ F246 => ?_)
     refine l_op (f_val (v := .string (loadT mC_ (kQ_ 7 2) 2)) F246 rfl rfl (r_extract rfl (F246.ev 183 rfl) rfl) rfl fun _ F247 => ?_)
     refine l_op (f_val (v := .int .i64 (loadC 2)) F247 rfl rfl (r_extract rfl (F247.ev 183 rfl) rfl) rfl fun _ F248 => ?_)
     refine l_op (f_alloc F248 S243.at' ZI_29 rfl rfl rfl rfl rfl fun b249 _ w249 F250 S249 => ?_)
     refine l_op (s_store S249.at' 0 TI_29 rfl rfl rfl rfl rfl (F250.ev 35 rfl) (F250.ev 186 rfl) rfl rfl rfl rfl rfl fun w251 S251 => ?_)
     have S252 : Mv [bx b249 [.slice Q154 Q156 Q155, .slice Q151 Q153 Q152, .slice Q157 Q159 Q158] 29, ow 73 2 encC okC (.slice Q154 Q156 Q155) (loadM mC_ (kQ_ 7 2) 2).store, ow 9 1 encS okS (.slice Q151 Q153 Q152) (loadM mC_ (kQ_ 7 2) 2).touch.reads, ow 9 1 encS okS (.slice Q157 Q159 Q158) (loadM mC_ (kQ_ 7 2) 2).touch.writes, bx b238 [.slice Q15 Q19 Q17, .slice Q9 Q13 Q11, .slice Q21 Q25 Q23] 29, ow 73 2 encC okC (.slice Q15 Q19 Q17) mC_.store, ow 9 1 encS okS (.slice Q9 Q13 Q11) mC_.touch.reads, ow 9 1 encS okS (.slice Q21 Q25 Q23) mC_.touch.writes, bx b30 [.slice Q0 Q2 Q1, .slice Q3 Q5 Q4, .slice Q6 Q8 Q7] 29, ow 73 2 encC okC (.slice Q0 Q2 Q1) (storeM d_8 (kQ_ ((a_8 : Nat) : Int) p_8) p_8 t_8).store, ow 9 1 encS okS (.slice Q3 Q5 Q4) (storeM d_8 (kQ_ ((a_8 : Nat) : Int) p_8) p_8 t_8).touch.reads, ow 9 1 encS okS (.slice Q6 Q8 Q7) (storeM d_8 (kQ_ ((a_8 : Nat) : Int) p_8) p_8 t_8).touch.writes] w251 [bx b238 [.slice Q15 Q19 Q17, .slice Q9 Q13 Q11, .slice Q21 Q25 Q23] 29, ow 73 2 encC okC (.slice Q15 Q19 Q17) mC_.store, ow 9 1 encS okS (.slice Q9 Q13 Q11) mC_.touch.reads, ow 9 1 encS okS (.slice Q21 Q25 Q23) mC_.touch.writes, bx b30 [.slice Q0 Q2 Q1, .slice Q3 Q5 Q4, .slice Q6 Q8 Q7] 29, ow 73 2 encC okC (.slice Q0 Q2 Q1) (storeM d_8 (kQ_ ((a_8 : Nat) : Int) p_8) p_8 t_8).store, ow 9 1 encS okS (.slice Q3 Q5 Q4) (storeM d_8 (kQ_ ((a_8 : Nat) : Int) p_8) p_8 t_8).touch.reads, ow 9 1 encS okS (.slice Q6 Q8 Q7) (storeM d_8 (kQ_ ((a_8 : Nat) : Int) p_8) p_8 t_8).touch.writes] w251 := Mv.pick (Mv.refl S251.at') [4, 5, 6, 7, 8, 9, 10, 11] rfl
     refine l_op (f_as F250 rfl rfl rfl rfl rfl fun _ F253 => ?_)
     refine l_op (f_as F253 rfl rfl rfl rfl rfl fun _ F254 => ?_)
     have T255 : Mv _ _ [bx b238 [.slice Q15 Q19 Q17, .slice Q9 Q13 Q11, .slice Q21 Q25 Q23] 29, ow 73 2 encC okC (.slice Q15 Q19 Q17) mC_.store, ow 9 1 encS okS (.slice Q9 Q13 Q11) mC_.touch.reads, ow 9 1 encS okS (.slice Q21 Q25 Q23) mC_.touch.writes, bx b30 [.slice Q0 Q2 Q1, .slice Q3 Q5 Q4, .slice Q6 Q8 Q7] 29, ow 73 2 encC okC (.slice Q0 Q2 Q1) (storeM d_8 (kQ_ ((a_8 : Nat) : Int) p_8) p_8 t_8).store, ow 9 1 encS okS (.slice Q3 Q5 Q4) (storeM d_8 (kQ_ ((a_8 : Nat) : Int) p_8) p_8 t_8).touch.reads, ow 9 1 encS okS (.slice Q6 Q8 Q7) (storeM d_8 (kQ_ ((a_8 : Nat) : Int) p_8) p_8 t_8).touch.writes] _ := S252
     refine s_end (x_normal (wp_seq (wp_region_lit (l_op (f_val (v := .agg #[.slice Q15 Q19 Q17, .slice Q9 Q13 Q11, .slice Q21 Q25 Q23]) F254 rfl rfl (r_loadB T255.at' 0 TI_29 rfl rfl (F254.ev 33 rfl) rfl rfl (fun h => nomatch h) rfl) rfl fun _ F256 => ?_)))))
     refine l_op (f_call F256 CF_10 rfl rfl rfl rfl (lc (F256.ev 190 rfl) (lc rfl (lc rfl rfl))) (impl_LoadPage_c (H := fun _ => True) (m := mC_) (id := 1) (page := 2) (At.rd T255.at' ET_24.hk 1 rfl) (At.rd T255.at' ET_25.hk 2 rfl) (At.rd T255.at' ET_25.hk 3 rfl) (by first | assumption | exact ⟨by omega, by omega⟩ | (unfold i64ok at *; omega)) (by first | assumption | exact ⟨by omega, by omega⟩ | (unfold i64ok at *; omega)) (Tb.top (Tb.mv V_tab0 (S3.trans (S8.trans (S15.trans (S17.trans (S25.trans (S30.trans (S32.trans (S38.trans (S43.trans (S45.trans (S48.trans (S54.trans (T60.trans (S64.trans (S70.trans (S72.trans (S78.trans (S84.trans (S86.trans (S90.trans (S96.trans (S98.trans (S104.trans (S106.trans (T109.trans (S111.trans (S116.trans (S118.trans (S123.trans (S128.trans (S130.trans (S134.trans (S139.trans (S141.trans (S210.trans (S211.trans (S212.trans (S214.trans (S219.trans (T223.trans (S225.trans (S227.trans (S228.trans (S230.trans (S232.trans (S234.trans (S238.trans (S240.trans (S243.trans (S249.trans (S251.trans T255))))))))))))))))))))))))))))))))))))))))))))))))))))) (Tb.top (Tb.mv V_tab2 (S3.trans (S8.trans (S15.trans (S17.trans (S25.trans (S30.trans (S32.trans (S38.trans (S43.trans (S45.trans (S48.trans (S54.trans (T60.trans (S64.trans (S70.trans (S72.trans (S78.trans (S84.trans (S86.trans (S90.trans (S96.trans (S98.trans (S104.trans (S106.trans (T109.trans (S111.trans (S116.trans (S118.trans (S123.trans (S128.trans (S130.trans (S134.trans (S139.trans (S141.trans (S210.trans (S211.trans (S212.trans (S214.trans (S219.trans (T223.trans (S225.trans (S227.trans (S228.trans (S230.trans (S232.trans (S234.trans (S238.trans (S240.trans (S243.trans (S249.trans (S251.trans T255))))))))))))))))))))))))))))))))))))))))))))))))))))) (by first | decide | omega | exact bdC.le ‹_› (by decide) | exact bdC.le bdC_base (by decide) | exact bdC.le (bdC.store bdC_base) (by decide) | exact bdC.le (bdC.fork (bdC.store bdC_base)) (by decide) | exact bdC.le (bdC.store (bdC.fork (bdC.store bdC_base))) (by decide) | exact bdC.le (bdC.load (bdC.store (bdC.fork (bdC.store bdC_base)))) (by decide))) ?_)
     rintro _ w257 ⟨Q133, Q137, Q135, Q127, Q131, Q129, Q139, Q143, Q141, rfl, m257, Q292⟩
     refine ⟨_, rfl, fun _ F258 => ?_⟩
     have S257 : Mv _ _ [ow 73 2 encC okC (.slice Q133 Q137 Q135) (loadM mC_ (kQ_ 1 2) 2).store, ow 9 1 encS okS (.slice Q127 Q131 Q129) (loadM mC_ (kQ_ 1 2) 2).touch.reads, ow 9 1 encS okS (.slice Q139 Q143 Q141) (loadM mC_ (kQ_ 1 2) 2).touch.writes, bx b238 [.slice Q15 Q19 Q17, .slice Q9 Q13 Q11, .slice Q21 Q25 Q23] 29, ow 73 2 encC okC (.slice Q15 Q19 Q17) mC_.store, ow 9 1 encS okS (.slice Q9 Q13 Q11) mC_.touch.reads, ow 9 1 encS okS (.slice Q21 Q25 Q23) mC_.touch.writes, bx b30 [.slice Q0 Q2 Q1, .slice Q3 Q5 Q4, .slice Q6 Q8 Q7] 29, ow 73 2 encC okC (.slice Q0 Q2 Q1) (storeM d_8 (kQ_ ((a_8 : Nat) : Int) p_8) p_8 t_8).store, ow 9 1 encS okS (.slice Q3 Q5 Q4) (storeM d_8 (kQ_ ((a_8 : Nat) : Int) p_8) p_8 t_8).touch.reads, ow 9 1 encS okS (.slice Q6 Q8 Q7) (storeM d_8 (kQ_ ((a_8 : Nat) : Int) p_8) p_8 t_8).touch.writes] _ := At.frame T255.at' [] rfl m257
     obtain ⟨Q212, Q246, Q280⟩ := At.ownInv S257.at' ET_24.hk 0 rfl
     obtain ⟨Q213, Q247, Q281⟩ := At.ownInv S257.at' ET_25.hk 1 rfl
     obtain ⟨Q214, Q248, Q282⟩ := At.ownInv S257.at' ET_25.hk 2 rfl
     clear m257
     have S259 : Mv [ow 73 2 encC okC (.slice Q133 Q137 Q135) (loadM mC_ (kQ_ 1 2) 2).store, ow 9 1 encS okS (.slice Q127 Q131 Q129) (loadM mC_ (kQ_ 1 2) 2).touch.reads, ow 9 1 encS okS (.slice Q139 Q143 Q141) (loadM mC_ (kQ_ 1 2) 2).touch.writes, bx b238 [.slice Q15 Q19 Q17, .slice Q9 Q13 Q11, .slice Q21 Q25 Q23] 29, ow 73 2 encC okC (.slice Q15 Q19 Q17) mC_.store, ow 9 1 encS okS (.slice Q9 Q13 Q11) mC_.touch.reads, ow 9 1 encS okS (.slice Q21 Q25 Q23) mC_.touch.writes, bx b30 [.slice Q0 Q2 Q1, .slice Q3 Q5 Q4, .slice Q6 Q8 Q7] 29, ow 73 2 encC okC (.slice Q0 Q2 Q1) (storeM d_8 (kQ_ ((a_8 : Nat) : Int) p_8) p_8 t_8).store, ow 9 1 encS okS (.slice Q3 Q5 Q4) (storeM d_8 (kQ_ ((a_8 : Nat) : Int) p_8) p_8 t_8).touch.reads, ow 9 1 encS okS (.slice Q6 Q8 Q7) (storeM d_8 (kQ_ ((a_8 : Nat) : Int) p_8) p_8 t_8).touch.writes] w257 [ow 73 2 encC okC (.slice Q133 Q137 Q135) (loadM mC_ (kQ_ 1 2) 2).store, ow 9 1 encS okS (.slice Q127 Q131 Q129) (loadM mC_ (kQ_ 1 2) 2).touch.reads, ow 9 1 encS okS (.slice Q139 Q143 Q141) (loadM mC_ (kQ_ 1 2) 2).touch.writes, bx b30 [.slice Q0 Q2 Q1, .slice Q3 Q5 Q4, .slice Q6 Q8 Q7] 29, ow 73 2 encC okC (.slice Q0 Q2 Q1) (storeM d_8 (kQ_ ((a_8 : Nat) : Int) p_8) p_8 t_8).store, ow 9 1 encS okS (.slice Q3 Q5 Q4) (storeM d_8 (kQ_ ((a_8 : Nat) : Int) p_8) p_8 t_8).touch.reads, ow 9 1 encS okS (.slice Q6 Q8 Q7) (storeM d_8 (kQ_ ((a_8 : Nat) : Int) p_8) p_8 t_8).touch.writes] w257 := Mv.pick (Mv.refl S257.at') [0, 1, 2, 7, 8, 9, 10] rfl
     refine l_op (f_mv F258 rfl rfl rfl rfl rfl fun _ F260 => ?_)
     refine l_op (f_val (v := .agg #[.slice Q133 Q137 Q135, .slice Q127 Q131 Q129, .slice Q139 Q143 Q141]) F260 rfl rfl (r_extract rfl (F260.ev 189 rfl) rfl) rfl fun _ F261 => ?_)
     refine l_op (f_val (v := .string (loadT mC_ (kQ_ 1 2) 2)) F261 rfl rfl (r_extract rfl (F261.ev 189 rfl) rfl) rfl fun _ F262 => ?_)
     refine l_op (f_val (v := .int .i64 (loadC 2)) F262 rfl rfl (r_extract rfl (F262.ev 189 rfl) rfl) rfl fun _ F263 => ?_)
     refine l_op (f_alloc F263 S259.at' ZI_29 rfl rfl rfl rfl rfl fun b264 _ w264 F265 S264 => ?_)
     refine l_op (s_store S264.at' 0 TI_29 rfl rfl rfl rfl rfl (F265.ev 38 rfl) (F265.ev 192 rfl) rfl rfl rfl rfl rfl fun w266 S266 => ?_)
     have S267 : Mv [bx b264 [.slice Q133 Q137 Q135, .slice Q127 Q131 Q129, .slice Q139 Q143 Q141] 29, ow 73 2 encC okC (.slice Q133 Q137 Q135) (loadM mC_ (kQ_ 1 2) 2).store, ow 9 1 encS okS (.slice Q127 Q131 Q129) (loadM mC_ (kQ_ 1 2) 2).touch.reads, ow 9 1 encS okS (.slice Q139 Q143 Q141) (loadM mC_ (kQ_ 1 2) 2).touch.writes, bx b30 [.slice Q0 Q2 Q1, .slice Q3 Q5 Q4, .slice Q6 Q8 Q7] 29, ow 73 2 encC okC (.slice Q0 Q2 Q1) (storeM d_8 (kQ_ ((a_8 : Nat) : Int) p_8) p_8 t_8).store, ow 9 1 encS okS (.slice Q3 Q5 Q4) (storeM d_8 (kQ_ ((a_8 : Nat) : Int) p_8) p_8 t_8).touch.reads, ow 9 1 encS okS (.slice Q6 Q8 Q7) (storeM d_8 (kQ_ ((a_8 : Nat) : Int) p_8) p_8 t_8).touch.writes] w266 [bx b30 [.slice Q0 Q2 Q1, .slice Q3 Q5 Q4, .slice Q6 Q8 Q7] 29, ow 73 2 encC okC (.slice Q0 Q2 Q1) (storeM d_8 (kQ_ ((a_8 : Nat) : Int) p_8) p_8 t_8).store, ow 9 1 encS okS (.slice Q3 Q5 Q4) (storeM d_8 (kQ_ ((a_8 : Nat) : Int) p_8) p_8 t_8).touch.reads, ow 9 1 encS okS (.slice Q6 Q8 Q7) (storeM d_8 (kQ_ ((a_8 : Nat) : Int) p_8) p_8 t_8).touch.writes] w266 := Mv.pick (Mv.refl S266.at') [4, 5, 6, 7] rfl
     refine l_op (f_as F265 rfl rfl rfl rfl rfl fun _ F268 => ?_)
     refine l_op (f_as F268 rfl rfl rfl rfl rfl fun _ F269 => ?_)
     refine s_end (x_normal (wp_seq (wp_region_lit (l_op (f_mv F269 rfl rfl rfl rfl rfl fun _ F270 => ?_)))))
     refine l_op (f_val F270 rfl rfl (r_cmps (b := (decide ((loadT mC_ (kQ_ 7 2) 2) = tA_))) (.inl rfl) rfl (F270.ev 195 rfl) rfl rfl) rfl fun _ F271 => ?_)
     rw [show (decide ((loadT mC_ (kQ_ 7 2) 2) = tA_)) = true from decide_eq_true (by kernel_rfl)] at F271
     refine l_op (f_mv F271 rfl rfl rfl rfl rfl fun _ F272 => ?_)
     refine l_op (f_mv F272 (wanted_g F272 rfl rfl rfl rfl) rfl rfl rfl rfl fun _ F273 => ?_)
     refine l_op (f_val F273 (wanted_g F273 rfl rfl rfl rfl) rfl (r_cmps (b := (decide ((loadT mC_ (kQ_ 1 2) 2) = (⟨#[120, 121, 122]⟩ : ByteArray)))) (.inl rfl) rfl (F273.ev 198 rfl) rfl rfl) rfl fun _ F274 => ?_)
     rw [show (decide ((loadT mC_ (kQ_ 1 2) 2) = (⟨#[120, 121, 122]⟩ : ByteArray))) = true from decide_eq_true (by kernel_rfl)] at F274
     refine l_op (f_val F274 rfl rfl (r_pick (b := true) rfl (F274.ev 197 rfl) (F274.ev 199 rfl)) rfl fun _ F275 => ?_)
     refine l_op (f_mv F275 rfl rfl rfl rfl rfl fun _ F276 => ?_)
     refine l_op (f_mv F276 (wanted_g F276 rfl rfl rfl rfl) rfl rfl rfl rfl fun _ F277 => ?_)
     refine l_op (f_val F277 (wanted_g F277 rfl rfl rfl rfl) rfl (r_cmp (b := decide ((storeC p_8 t_8) ≠ 0)) (.inr (.inl rfl)) rfl (F277.ev 202 rfl) rfl (dec_of (by omega))) rfl fun _ F278 => ?_)
     refine l_op (f_mv F278 (wanted_g F278 rfl rfl rfl rfl) rfl rfl rfl rfl fun _ F279 => ?_)
     rcases Decidable.em ((storeC p_8 t_8) ≠ 0) with h280 | h280
     · rw [decide_eq_true h280] at F279
       refine l_op (f_skip F279 (wanted_g F279 rfl rfl rfl rfl) rfl rfl fun _ F281 => ?_)
       refine l_op (f_skip F281 (wanted_g F281 rfl rfl rfl rfl) rfl rfl fun _ F282 => ?_)
       refine l_op (f_val F282 (wanted_g F282 rfl rfl rfl rfl) rfl (r_pick (b := true) rfl (F282.ev 204 rfl) rfl) rfl fun _ F283 => ?_)
       refine l_op (f_mv F283 (wanted_g F283 rfl rfl rfl rfl) rfl rfl rfl rfl fun _ F284 => ?_)
       refine l_op (f_skip F284 (wanted_g F284 rfl rfl rfl rfl) rfl rfl fun _ F285 => ?_)
       have S286 : Mv [bx b30 [.slice Q0 Q2 Q1, .slice Q3 Q5 Q4, .slice Q6 Q8 Q7] 29, ow 73 2 encC okC (.slice Q0 Q2 Q1) (storeM d_8 (kQ_ ((a_8 : Nat) : Int) p_8) p_8 t_8).store, ow 9 1 encS okS (.slice Q3 Q5 Q4) (storeM d_8 (kQ_ ((a_8 : Nat) : Int) p_8) p_8 t_8).touch.reads, ow 9 1 encS okS (.slice Q6 Q8 Q7) (storeM d_8 (kQ_ ((a_8 : Nat) : Int) p_8) p_8 t_8).touch.writes] w266 [] w266 := Mv.pick (Mv.refl S267.at') [] rfl
       refine l_op (f_skip F285 (wanted_g F285 rfl rfl rfl rfl) rfl rfl fun _ F287 => ?_)
       refine l_op (f_skip F287 (wanted_g F287 rfl rfl rfl rfl) rfl rfl fun _ F288 => ?_)
       refine l_op (f_skip F288 (wanted_g F288 rfl rfl rfl rfl) rfl rfl fun _ F289 => ?_)
       refine l_op (f_skip F289 (wanted_g F289 rfl rfl rfl rfl) rfl rfl fun _ F290 => ?_)
       refine l_op (f_val F290 (wanted_g F290 rfl rfl rfl rfl) rfl (r_pick (b := true) rfl (F290.ev 208 rfl) rfl) rfl fun _ F291 => ?_)
       refine l_op (f_val F291 rfl rfl (r_pick (b := true) rfl (F291.ev 201 rfl) (F291.ev 214 rfl)) rfl fun _ F292 => ?_)
       refine l_op (f_as F292 rfl rfl rfl rfl rfl fun _ F293 => ?_)
       have F294 : Fr 216 [(2, .bool true)] _ := F293.cut rfl
       clear F210 F213 F215 F216 F217 F218 F220 F222 F224 F226 F229 F231 F233 F235 F236 F237 F239 F241 F242 F244 F245 F246 F247 F248 F250 F253 F254 F256 F258 F260 F261 F262 F263 F265 F268 F269 F270 F271 F272 F273 F274 F275 F276 F277 F278 F279 F281 F282 F283 F284 F285 F287 F288 F289 F290 F291 F292 F293
       refine s_end (x_normal (wp_ret ?_))
       refine x_done (v := .bool true) F294 (results_1 Tryz.results3 (.tmp (F294.ev 2 rfl))) ?_
       exact ⟨rfl, (Mv.pick (S3.trans (S8.trans (S15.trans (S17.trans (S25.trans (S30.trans (S32.trans (S38.trans (S43.trans (S45.trans (S48.trans (S54.trans (T60.trans (S64.trans (S70.trans (S72.trans (S78.trans (S84.trans (S86.trans (S90.trans (S96.trans (S98.trans (S104.trans (S106.trans (T109.trans (S111.trans (S116.trans (S118.trans (S123.trans (S128.trans (S130.trans (S134.trans (S139.trans (S141.trans (S210.trans (S211.trans (S212.trans (S214.trans (S219.trans (T223.trans (S225.trans (S227.trans (S228.trans (S230.trans (S232.trans (S234.trans (S238.trans (S240.trans (S243.trans (S249.trans (S251.trans (T255.trans (S257.trans (S259.trans (S264.trans (S266.trans (S267.trans S286))))))))))))))))))))))))))))))))))))))))))))))))))))))))) [] rfl)⟩
     · rw [decide_eq_false h280] at F279
       refine l_op (f_mv F279 (wanted_g F279 rfl rfl rfl rfl) rfl rfl rfl rfl fun _ F295 => ?_)
       refine l_op (f_val F295 (wanted_g F295 rfl rfl rfl rfl) rfl (r_cmps (b := (decide (t_8 = bE_))) (.inl rfl) rfl (F295.ev 205 rfl) rfl rfl) rfl fun _ F296 => ?_)
       refine l_op (f_val F296 (wanted_g F296 rfl rfl rfl rfl) rfl (r_pick (b := false) rfl (F296.ev 204 rfl) (F296.ev 206 rfl)) rfl fun _ F297 => ?_)
       refine l_op (f_mv F297 (wanted_g F297 rfl rfl rfl rfl) rfl rfl rfl rfl fun _ F298 => ?_)
       rcases Decidable.em (t_8 = bE_) with h299 | h299
       · rw [decide_eq_true h299] at F298
         refine l_op (f_skip F298 (wanted_g F298 rfl rfl rfl rfl) rfl rfl fun _ F300 => ?_)
         have S301 : Mv [bx b30 [.slice Q0 Q2 Q1, .slice Q3 Q5 Q4, .slice Q6 Q8 Q7] 29, ow 73 2 encC okC (.slice Q0 Q2 Q1) (storeM d_8 (kQ_ ((a_8 : Nat) : Int) p_8) p_8 t_8).store, ow 9 1 encS okS (.slice Q3 Q5 Q4) (storeM d_8 (kQ_ ((a_8 : Nat) : Int) p_8) p_8 t_8).touch.reads, ow 9 1 encS okS (.slice Q6 Q8 Q7) (storeM d_8 (kQ_ ((a_8 : Nat) : Int) p_8) p_8 t_8).touch.writes] w266 [] w266 := Mv.pick (Mv.refl S267.at') [] rfl
         refine l_op (f_skip F300 (wanted_g F300 rfl rfl rfl rfl) rfl rfl fun _ F302 => ?_)
         refine l_op (f_skip F302 (wanted_g F302 rfl rfl rfl rfl) rfl rfl fun _ F303 => ?_)
         refine l_op (f_skip F303 (wanted_g F303 rfl rfl rfl rfl) rfl rfl fun _ F304 => ?_)
         refine l_op (f_skip F304 (wanted_g F304 rfl rfl rfl rfl) rfl rfl fun _ F305 => ?_)
         refine l_op (f_val F305 (wanted_g F305 rfl rfl rfl rfl) rfl (r_pick (b := true) rfl (F305.ev 208 rfl) rfl) rfl fun _ F306 => ?_)
         refine l_op (f_val F306 rfl rfl (r_pick (b := true) rfl (F306.ev 201 rfl) (F306.ev 214 rfl)) rfl fun _ F307 => ?_)
         refine l_op (f_as F307 rfl rfl rfl rfl rfl fun _ F308 => ?_)
         have F309 : Fr 216 [(2, .bool true)] _ := F308.cut rfl
         clear F210 F213 F215 F216 F217 F218 F220 F222 F224 F226 F229 F231 F233 F235 F236 F237 F239 F241 F242 F244 F245 F246 F247 F248 F250 F253 F254 F256 F258 F260 F261 F262 F263 F265 F268 F269 F270 F271 F272 F273 F274 F275 F276 F277 F278 F279 F295 F296 F297 F298 F300 F302 F303 F304 F305 F306 F307 F308
         refine s_end (x_normal (wp_ret ?_))
         refine x_done (v := .bool true) F309 (results_1 Tryz.results3 (.tmp (F309.ev 2 rfl))) ?_
         exact ⟨rfl, (Mv.pick (S3.trans (S8.trans (S15.trans (S17.trans (S25.trans (S30.trans (S32.trans (S38.trans (S43.trans (S45.trans (S48.trans (S54.trans (T60.trans (S64.trans (S70.trans (S72.trans (S78.trans (S84.trans (S86.trans (S90.trans (S96.trans (S98.trans (S104.trans (S106.trans (T109.trans (S111.trans (S116.trans (S118.trans (S123.trans (S128.trans (S130.trans (S134.trans (S139.trans (S141.trans (S210.trans (S211.trans (S212.trans (S214.trans (S219.trans (T223.trans (S225.trans (S227.trans (S228.trans (S230.trans (S232.trans (S234.trans (S238.trans (S240.trans (S243.trans (S249.trans (S251.trans (T255.trans (S257.trans (S259.trans (S264.trans (S266.trans (S267.trans S301))))))))))))))))))))))))))))))))))))))))))))))))))))))))) [] rfl)⟩
       · rw [decide_eq_false h299] at F298
         refine l_op (f_val F298 (wanted_g F298 rfl rfl rfl rfl) rfl (r_field FI_29_0 rfl (F298.ev 7 rfl) rfl) rfl fun _ F310 => ?_)
         refine l_op (f_val (v := .slice Q0 Q2 Q1) F310 (wanted_g F310 rfl rfl rfl rfl) rfl (r_loadB S267.at' 0 TI_24 rfl rfl (F310.ev 209 rfl) rfl rfl (fun _ => rfl) rfl) rfl fun _ F311 => ?_)
         have S312 : Mv [bx b30 [.slice Q0 Q2 Q1, .slice Q3 Q5 Q4, .slice Q6 Q8 Q7] 29, ow 73 2 encC okC (.slice Q0 Q2 Q1) (storeM d_8 (kQ_ ((a_8 : Nat) : Int) p_8) p_8 t_8).store, ow 9 1 encS okS (.slice Q3 Q5 Q4) (storeM d_8 (kQ_ ((a_8 : Nat) : Int) p_8) p_8 t_8).touch.reads, ow 9 1 encS okS (.slice Q6 Q8 Q7) (storeM d_8 (kQ_ ((a_8 : Nat) : Int) p_8) p_8 t_8).touch.writes] w266 [ow 73 2 encC okC (.slice Q0 Q2 Q1) (storeM d_8 (kQ_ ((a_8 : Nat) : Int) p_8) p_8 t_8).store] w266 := Mv.pick (Mv.refl S267.at') [1] rfl
         have Z314 : Rd 2 encC okC (V H w []) w266 (.slice Q0 Q2 Q1) (storeM d_8 (kQ_ ((a_8 : Nat) : Int) p_8) p_8 t_8).store := At.freeze (S3.trans (S8.trans (S15.trans (S17.trans (S25.trans (S30.trans (S32.trans (S38.trans (S43.trans (S45.trans (S48.trans (S54.trans (T60.trans (S64.trans (S70.trans (S72.trans (S78.trans (S84.trans (S86.trans (S90.trans (S96.trans (S98.trans (S104.trans (S106.trans (T109.trans (S111.trans (S116.trans (S118.trans (S123.trans (S128.trans (S130.trans (S134.trans (S139.trans (S141.trans (S210.trans (S211.trans (S212.trans (S214.trans (S219.trans (T223.trans (S225.trans (S227.trans (S228.trans (S230.trans (S232.trans (S234.trans (S238.trans (S240.trans (S243.trans (S249.trans (S251.trans (T255.trans (S257.trans (S259.trans (S264.trans (S266.trans (S267.trans S312))))))))))))))))))))))))))))))))))))))))))))))))))))))))) ET_24.hk 0 rfl (fun b hb => ((S3.trans (S8.trans (S15.trans (S17.trans (S25.trans (S30.trans (S32.trans (S38.trans (S43.trans (S45.trans (S48.trans (S54.trans (T60.trans (S64.trans (S70.trans (S72.trans (S78.trans (S84.trans (S86.trans (S90.trans (S96.trans (S98.trans (S104.trans (S106.trans (T109.trans (S111.trans (S116.trans (S118.trans (S123.trans (S128.trans (S130.trans (S134.trans (S139.trans (S141.trans (S210.trans (S211.trans (S212.trans (S214.trans (S219.trans (T223.trans (S225.trans (S227.trans (S228.trans (S230.trans (S232.trans (S234.trans (S238.trans (S240.trans (S243.trans (S249.trans (S251.trans (T255.trans (S257.trans (S259.trans (S264.trans (S266.trans (S267.trans S312))))))))))))))))))))))))))))))))))))))))))))))))))))))))).fresh b ⟨_, nth_mem (i := 0) rfl, hb⟩).resolve_left (fps_nil _))
         have S314 := At.drop S312.at' 0
         refine l_op (f_call F311 CF_23 (wanted_g F311 rfl rfl rfl rfl) rfl rfl rfl (lc (F311.ev 210 rfl) (lc rfl rfl)) (spec_KeysUnder_c (s := (storeM d_8 (kQ_ ((a_8 : Nat) : Int) p_8) p_8 t_8).store) (pfx := bM_) Z314 (by unfold okS; decide) (by exact Nat.le_trans (Nat.le_of_eq ‹_›) (Nat.le_trans (bdC.s (bdC.store ‹_›)) (by decide)))) ?_)
         rintro _ w313 ⟨Q304, Q179, Q305, rfl, m313, v313_0⟩
         refine ⟨_, rfl, fun _ F315 => ?_⟩
         have S313 := At.frame0 S314.at' m313
         have V313_0 := Rd.got0 S314.at' ((S3.trans (S8.trans (S15.trans (S17.trans (S25.trans (S30.trans (S32.trans (S38.trans (S43.trans (S45.trans (S48.trans (S54.trans (T60.trans (S64.trans (S70.trans (S72.trans (S78.trans (S84.trans (S86.trans (S90.trans (S96.trans (S98.trans (S104.trans (S106.trans (T109.trans (S111.trans (S116.trans (S118.trans (S123.trans (S128.trans (S130.trans (S134.trans (S139.trans (S141.trans (S210.trans (S211.trans (S212.trans (S214.trans (S219.trans (T223.trans (S225.trans (S227.trans (S228.trans (S230.trans (S232.trans (S234.trans (S238.trans (S240.trans (S243.trans (S249.trans (S251.trans (T255.trans (S257.trans (S259.trans (S264.trans (S266.trans (S267.trans (S312.trans S314)))))))))))))))))))))))))))))))))))))))))))))))))))))))))).kp.size) v313_0 S313
         obtain ⟨ln313_0, le313_0, mx313_0, ni313_0⟩ := Rd.inv V313_0
         clear m313 v313_0
         refine l_op (f_val F315 (wanted_g F315 rfl rfl rfl rfl) rfl (r_len Tryz.underlying25 rfl (F315.ev 211 rfl)) rfl fun _ F316 => ?_)
         refine l_op (f_val F316 (wanted_g F316 rfl rfl rfl rfl) rfl (r_cmp (b := decide (Q179 > 0)) (.inr (.inr (.inr (.inr (.inl rfl))))) rfl (F316.ev 212 rfl) rfl (dec_of (by omega))) rfl fun _ F317 => ?_)
         rw [show (decide (Q179 > 0)) = true from decide_eq_true (Nat.lt_of_lt_of_eq (pg_keys (m := d_8) (a := a_8) (p := p_8) (t := t_8) ‹_› ‹_› ‹_›) (Eq.symm ‹_›))] at F317
         refine l_op (f_val F317 (wanted_g F317 rfl rfl rfl rfl) rfl (r_pick (b := false) rfl (F317.ev 208 rfl) (F317.ev 213 rfl)) rfl fun _ F318 => ?_)
         refine l_op (f_val F318 rfl rfl (r_pick (b := true) rfl (F318.ev 201 rfl) (F318.ev 214 rfl)) rfl fun _ F319 => ?_)
         refine l_op (f_as F319 rfl rfl rfl rfl rfl fun _ F320 => ?_)
         have F321 : Fr 216 [(2, .bool true)] _ := F320.cut rfl
         clear F210 F213 F215 F216 F217 F218 F220 F222 F224 F226 F229 F231 F233 F235 F236 F237 F239 F241 F242 F244 F245 F246 F247 F248 F250 F253 F254 F256 F258 F260 F261 F262 F263 F265 F268 F269 F270 F271 F272 F273 F274 F275 F276 F277 F278 F279 F295 F296 F297 F298 F310 F311 F315 F316 F317 F318 F319 F320
         refine s_end (x_normal (wp_ret ?_))
         refine x_done (v := .bool true) F321 (results_1 Tryz.results3 (.tmp (F321.ev 2 rfl))) ?_
         exact ⟨rfl, (Mv.pick (S3.trans (S8.trans (S15.trans (S17.trans (S25.trans (S30.trans (S32.trans (S38.trans (S43.trans (S45.trans (S48.trans (S54.trans (T60.trans (S64.trans (S70.trans (S72.trans (S78.trans (S84.trans (S86.trans (S90.trans (S96.trans (S98.trans (S104.trans (S106.trans (T109.trans (S111.trans (S116.trans (S118.trans (S123.trans (S128.trans (S130.trans (S134.trans (S139.trans (S141.trans (S210.trans (S211.trans (S212.trans (S214.trans (S219.trans (T223.trans (S225.trans (S227.trans (S228.trans (S230.trans (S232.trans (S234.trans (S238.trans (S240.trans (S243.trans (S249.trans (S251.trans (T255.trans (S257.trans (S259.trans (S264.trans (S266.trans (S267.trans (S312.trans (S314.trans S313))))))))))))))))))))))))))))))))))))))))))))))))))))))))))) [] rfl)⟩
end Go.Proofs.YtibgmijfnbnfkaaGreatDoor
namespace Go.Proofs.YtibgmijfnbnfkaaGreatDoor.pages
open Go.ChangeShapes Go.WideShapes Go.ChangeAt Go.RowKit
set_option maxRecDepth 100000
theorem cells_5 : Tryz.prog.cellsOf 5 = 1 := by kernel_rfl
theorem starE : "*" ++ "errors.errorString" = "*errors.errorString" := by decide
theorem rowE (u : TypeId) (h : Tryz.prog.typeName? 3 u = some "*errors.errorString") : u = 161 :=
  typeName_ptr_named (nm := "errors.errorString") (by rw [starE]; kernel_rfl) (by kernel_rfl) (by decide) u (by rw [starE]; exact h)
theorem cellsE : Tryz.prog.cellsOf 163 = 1 := by kernel_rfl
theorem cells_9 : Tryz.prog.cellsOf 9 = 1 := by kernel_rfl
theorem ground0 {W : World} (h : laidMet Tryz.prog [("math/bits.deBruijn32tab", Rows.laid_math_bits_deBruijn32tab), ("math/bits.deBruijn64tab", Rows.laid_math_bits_deBruijn64tab), ("internal/strconv.uint64pow10", Rows.laid_internal_strconv_uint64pow10), ("encoding/hex.ErrLength", Rows.laid_encoding_hex_ErrLength)] W) : Tb 0 (fun _ => True) W := by
  have e : (Rows.laid_internal_strconv_uint64pow10 : DataW Unit) = Lib.tabData .u64 Lib.pow10Tab := by kernel_rfl
  have h2 : laidMet Tryz.prog (("internal/strconv.uint64pow10", Lib.tabData .u64 Lib.pow10Tab) :: [("encoding/hex.ErrLength", Rows.laid_encoding_hex_ErrLength)]) W := by rw [← e]; exact h.tail.tail
  have h3 : Lib.TabIs Tryz.prog W "internal/strconv.uint64pow10" .u64 Lib.pow10Tab := Lib.tabIs_of_head laysItoa.m17 (t := 146) (e := 132) (n := 20) (by kernel_rfl) Tryz.underlying146 Tryz.underlying132 (by kernel_rfl) (by kernel_rfl) h2
  exact ⟨h3, fun g hg => by rw [List.mem_singleton.1 hg]; exact ⟨trivial, Lib.lt_of_cell (h3.cell laysItoa.m17 0 (by decide))⟩⟩
theorem ground2 {W : World} (h : laidMet Tryz.prog [("math/bits.deBruijn32tab", Rows.laid_math_bits_deBruijn32tab), ("math/bits.deBruijn64tab", Rows.laid_math_bits_deBruijn64tab), ("internal/strconv.uint64pow10", Rows.laid_internal_strconv_uint64pow10), ("encoding/hex.ErrLength", Rows.laid_encoding_hex_ErrLength)] W) : Tb 2 (fun _ => True) W := by
  have gH : Tryz.prog.globalNamed "encoding/hex.ErrLength" = some (laysUnhex_ren.g 0) := by kernel_rfl
  obtain ⟨aH, sH, vH, -, -, -⟩ := laid_sentinel (h.tail.tail.tail) gH (ti := 121) (by kernel_rfl) Tryz.underlying121 rowE Tryz.underlying161 Tryz.underlying163 rfl rfl Tryz.underlying9 cellsE cells_9
  have cH := var_cell gH vH
  exact ⟨⟨_, cH, .inr ⟨_, _, rfl⟩⟩, fun g hg => by rw [List.mem_singleton.1 hg]; exact ⟨trivial, Lib.lt_of_cell cH⟩⟩
theorem called (W : World) (args : Array Value) (h : ArgsRead Tryz.prog W Tryz.f3.params.toList args.toList) (t0 : Tb 0 (fun _ => True) W) (t2 : Tb 2 (fun _ => True) W) : Calls Tryz.prog 3 args W fun e W' => e = .returned (.bool true) ∧ Bl W W' := by
  obtain ⟨hl, h⟩ := h
  rw [Tryz.params3] at hl h
  obtain ⟨v0, rfl⟩ : ∃ v0, args = #[v0] := by
    obtain ⟨l⟩ := args
    match l, hl with
    | [v0], _ => exact ⟨v0, rfl⟩
  obtain ⟨r0, o0⟩ := h 0 _ v0 rfl rfl
  have q0 := reads_one Tryz.underlying22 trivial o0 r0
  obtain ⟨a_0, n_0, c_0, l_0, e_0, v_0⟩ := rdA_of Tryz.underlying22 cells_5 (by decide) (u8_row Tryz.underlying5) q0
  cases e_0
  exact (laws_FnPages_c (w := W) (H := fun _ => True) (code := l_0) v_0 t0 t2).mono fun e W' ⟨h1, h2⟩ => ⟨h1, h2.bl⟩
theorem own : ownKnob Tryz.prog.godebug = none := by kernel_rfl
theorem laidOut : laidOutB Tryz.prog = true := by kernel_rfl
theorem readable : ∀ t ∈ Tryz.f3.params.toList, Tryz.prog.readableRec t = true ∧ t < Tryz.prog.types.size := of_decide_eq_true (by kernel_rfl)
theorem door_met (os : Os) (args : Array Value) : laidMetH Tryz.prog [("math/bits.deBruijn32tab", Rows.laid_math_bits_deBruijn32tab), ("math/bits.deBruijn64tab", Rows.laid_math_bits_deBruijn64tab), ("internal/strconv.uint64pow10", Rows.laid_internal_strconv_uint64pow10), ("encoding/hex.ErrLength", Rows.laid_encoding_hex_ErrLength)] ((World.doorLaid Tryz.prog 81 os).forCall (fun _ _ => 0) ⟨#[], args, []⟩).memory :=
  laidMetH_of_parts3 (fuel := 8) (laidMet_of_run' 8 (by kernel_rfl) (by kernel_rfl)) (by kernel_rfl) (by kernel_rfl)
theorem lifted (os : Os) (started : os.Started) (H : Type) (enc : TypeId × Value → H) :
    ReturnsInHanded {} Tryz.checked os 3 .any (fun w args => (Rows.fnPagesSpec.pre enc Tryz.prog Tryz.f3 [] false w args ∧ laidMetH Tryz.prog [("math/bits.deBruijn32tab", Rows.laid_math_bits_deBruijn32tab), ("math/bits.deBruijn64tab", Rows.laid_math_bits_deBruijn64tab), ("internal/strconv.uint64pow10", Rows.laid_internal_strconv_uint64pow10), ("encoding/hex.ErrLength", Rows.laid_encoding_hex_ErrLength)] w) ∧ sizedMet enc Tryz.prog Tryz.f3 (OpenSpec.ofChange Rows.fnPagesSpec) false w args)
      (Rows.fnPagesSpec.post enc Tryz.prog Tryz.f3 false true false false) := by
  refine returnsInHanded_of_change_and (C := Tryz.checked) (X := fun w _ => laidMetH Tryz.prog [("math/bits.deBruijn32tab", Rows.laid_math_bits_deBruijn32tab), ("math/bits.deBruijn64tab", Rows.laid_math_bits_deBruijn64tab), ("internal/strconv.uint64pow10", Rows.laid_internal_strconv_uint64pow10), ("encoding/hex.ErrLength", Rows.laid_encoding_hex_ErrLength)] w) (fun _ _ _ hh h => h.of_heap hh) own started (by kernel_rfl) Tryz.func3
    (ChangeSpec.witness_shaped (enc := enc) (C := Tryz.checked) (os := os) (X := fun w _ => laidMetH Tryz.prog [("math/bits.deBruijn32tab", Rows.laid_math_bits_deBruijn32tab), ("math/bits.deBruijn64tab", Rows.laid_math_bits_deBruijn64tab), ("internal/strconv.uint64pow10", Rows.laid_internal_strconv_uint64pow10), ("encoding/hex.ErrLength", Rows.laid_encoding_hex_ErrLength)] w) false (World.doorLaid Tryz.prog 81 os) #[.slice none 0 0] 8 rfl (World.shaped_of_RefB (by kernel_rfl) (by kernel_rfl)) (by kernel_rfl) (by kernel_rfl) (by kernel_rfl) (door_met os _)) ?_
  intro W base args ds gs before hval0 hW _ _ hL _
  have hval : ∀ (j : Nat) t v, Tryz.f3.params[j]? = some t → args[j]? = some v → Value.okWide Tryz.prog W .any 0 t v := hval0
  have hM : laidMet Tryz.prog [("math/bits.deBruijn32tab", Rows.laid_math_bits_deBruijn32tab), ("math/bits.deBruijn64tab", Rows.laid_math_bits_deBruijn64tab), ("internal/strconv.uint64pow10", Rows.laid_internal_strconv_uint64pow10), ("encoding/hex.ErrLength", Rows.laid_encoding_hex_ErrLength)] W := by
    have h := hL
    rw [MakeChecks.laidMetH_plain _ _ _ (by kernel_rfl)] at h
    exact h
  refine law_contractW laidOut readable Tryz.underlying4 rfl rfl ?_ H enc false true false false W args ds gs before (fun h => called W args h (ground0 hM) (ground2 hM)) hval hW
  intro H ds hd
  match ds, hd with
  | [a], _ => rfl
theorem bare : Rows.FnPagesSaid :=
  OpenClaim.holds_of_wide 3 Tryz.f3 rfl rfl rfl rfl rfl rfl rfl ⟨rfl, rfl, rfl, rfl, rfl⟩ rfl rfl rfl rfl rfl (by kernel_rfl) Tryz.func3 (by kernel_rfl)
    (of_decide_eq_true (by kernel_rfl)) (by unfold Func.isWrapper; first | (rw [if_pos (by decide +kernel)]; kernel_rfl) | (rw [if_neg (by decide +kernel)]; exact ⟨rfl, rfl⟩))
    (fun os started H enc _ => lifted os started H enc)
theorem proved : Rows.FnPagesCardSaid :=
  Claim7.holds_tied_plain_at .later [] [.data, .data, .data, .sentinel] true (true, "3ddab414948381acf71225029c6f1add9f2a62ccb30058f43c7bdd90a71ffb05") true
    bare (fun _ h => by cases h) (by kernel_rfl) (fun _ h => by cases h) fnPages_row_tie rfl ⟨rfl, rfl⟩ (by kernel_rfl) rfl
    (fun f fn hf hfn => by
      obtain rfl : f = 3 := Option.some.inj ((show Tryz.prog.funcNamed "loop.example/g00974/laws.FnPages" = some 3 by kernel_rfl).symm.trans hf) |>.symm
      obtain rfl : fn = Tryz.f3 := (Option.some.inj (Tryz.func3.symm.trans hfn)).symm
      exact ⟨by kernel_rfl, fun j t ht => by
        rw [Tryz.params3] at ht
        have hm : t ∈ [22] := by simpa using Array.mem_of_getElem? ht
        have hall : ([22].all fun u => !Tryz.prog.wantsStandIn u) = true := by kernel_rfl
        exact (show Tryz.prog.wantsStandIn t = false by simpa using List.all_eq_true.1 hall t hm)⟩)
    (by kernel_rfl)
end Go.Proofs.YtibgmijfnbnfkaaGreatDoor.pages
