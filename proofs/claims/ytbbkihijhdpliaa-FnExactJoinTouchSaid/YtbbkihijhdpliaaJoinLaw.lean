/-
  PROVED HERE: whatever the input, the statement laws.FnExactJoinTouch returns true: the program's JoinTouch and the reference's give equal lists, alter nothing of their arguments, and the program's result stands by itself. No condition.
-/
import Derived.Test.YtbbkihijhdpliaaJoin
namespace Go.Proofs.Ytbbkihijhdpliaa.join
open Go.ChangeShapes Go.WideShapes Go.ChangeAt Go.RowKit
set_option maxRecDepth 100000

theorem keep5 {wb w' : World} {p q s z : Addr} {x y x' y' : Value} (h1 : wb.cell? p = some x) (h2 : wb.cell? q = some y) (h3 : wb.cell? s = some x') (h4 : wb.cell? z = some y') (h : Bl wb w') :
    w'.cell? p = some x ∧ w'.cell? q = some y ∧ w'.cell? s = some x' ∧ w'.cell? z = some y' ∧ Bl wb w' := ⟨h.cellOf h1, h.cellOf h2, h.cellOf h3, h.cellOf h4, h⟩

theorem smT_of (n : Int) (t : TouchD) (q : Int) (h0 : n ≤ 1048576) (hq : subOr n (szTouchD t) = q) (h : ¬ q < 0) : smT t := by
  unfold subOr at hq
  unfold szTouchD szStrs at hq
  unfold smT
  constructor <;> (split at hq <;> omega)


theorem smJ_of (t o : TouchD) (q q2 : Int) (hq : subOr 1048576 (szTouchD t) = q) (hq2 : subOr q (szTouchD o) = q2) (h0 : ¬ q < 0) (h : ¬ q2 < 0) : smT (joinT t o) := by
  unfold subOr szTouchD szStrs at hq hq2
  have h1 := joinL_length t.reads o.reads
  have h2 := joinL_length t.writes o.writes
  unfold smT joinT
  constructor <;> (dsimp only; split at hq <;> split at hq2 <;> omega)

theorem iJoinTouch_g (r u r' u' : Value) (w : World) (t o : TouchD) (hr : RTouch w r u t) (ho : RTouch w r' u' o) (hst : smT t) (hso : smT o) :
    Calls Try.prog 15 #[.agg #[r, u], .agg #[r', u']] w fun e w' => GivesT w w' e (joinT t o) :=
  (iJoinTouch_c r u r' u' w t o hr ho hst hso).mono fun _ _ ⟨a1, n1, c1, a2, n2, c2, _, h1, h2, _, h4⟩ => ⟨a1, n1, c1, a2, n2, c2, h1, h2.rd, h4⟩
theorem cntT_le (t : TouchD) (h : smT t) : cntT t ≤ 2097152 := by obtain ⟨h1, h2⟩ := h; unfold cntT; omega
set_option maxHeartbeats 16000000 in
theorem walk (r u r' u' : Value) (w : World) (t o : TouchD) (ha : ATouch w r u t) (hb : ATouch w r' u' o) :
    Calls Try.prog 3 #[.agg #[r, u], .agg #[r', u']] w fun e w' => e = .returned (.bool true) ∧ Bl w w' := by
  have hz := subOr_bd 1048576 (szTouchD t) (by omega)
  obtain ⟨q, hq⟩ : ∃ q, subOr 1048576 (szTouchD t) = q := ⟨_, rfl⟩
  rw [hq] at hz
  have hsm := fun (h : ¬ q < 0) => smT_of 1048576 t q (by omega) hq h
  obtain ⟨q2, hq2⟩ : ∃ q2, subOr q (szTouchD o) = q2 := ⟨_, rfl⟩
  have hsm2 := fun (h0 : q ≤ 1048576) (h : ¬ q2 < 0) => smT_of q o q2 h0 hq2 h
  have hz2 := fun (h : 0 ≤ q) => subOr_bd q (szTouchD o) h
  rw [hq2] at hz2
  have HB0 := Lib.hid (((Bl.refl w).alloc (.cells #[r, u] 24)).alloc (.cells #[r', u'] 24))
  have Ha := Lib.hid ha; have Hb := Lib.hid hb; have Hq := Lib.hid hq; have Hsm := Lib.hid hsm; have Hsm2 := Lib.hid hsm2; have Hq2 := Lib.hid hq2; have Hz2 := Lib.hid hz2
  clear ha hb hq hq2 hsm hsm2 hz2
  go_enter Try.func3, Try.ntmps3
  go_wp2_with (first | (go_at_call 12; ((with_reducible refine (szTouch_c r u _ _ t (ATouch.below Ha.out HB0.out) (by omega) (by omega)).mono ?_); rintro e w1 ⟨rfl, hb⟩; rw [Hq.out]; have x0 : w1.cell? ⟨w.heap.size, 0, none⟩ = some r := hb.cellOf (by go_simp); have x1 : w1.cell? ⟨w.heap.size, 1, none⟩ = some u := hb.cellOf (by go_simp); have x2 : w1.cell? ⟨w.heap.size + 1, 0, none⟩ = some r' := hb.cellOf (by go_simp); have x3 : w1.cell? ⟨w.heap.size + 1, 1, none⟩ = some u' := hb.cellOf (by go_simp); have HB1 := Lib.hid (HB0.out.trans hb); clear hb)))
  · go_ret
    exact ⟨rfl, HB1.out⟩
  have hst : smT t := Hsm.out (by omega)
  have hz2 := Hz2.out (by omega)
  obtain ⟨e1, e2⟩ : t.reads.length ≤ 1048576 ∧ t.writes.length ≤ 1048576 := hst
  have hst : smT t := ⟨e1, e2⟩
  go_upto_region 8 with (first | (go_at_call 12; ((with_reducible refine (szTouch_c r' u' q _ o (ATouch.below Hb.out HB1.out) (by omega) (by omega)).mono ?_); rintro e w2 ⟨rfl, hb⟩; rw [Hq2.out]; replace x0 := hb.cellOf x0; replace x1 := hb.cellOf x1; replace x2 := hb.cellOf x2; replace x3 := hb.cellOf x3; have HB2 := Lib.hid (HB1.out.trans hb); have hs2 : w.heap.size + 1 < w2.heap.size := World.block_lt_of_cell? w2 _ x2; clear hb)))
  · go_wp2
    go_ret
    exact ⟨rfl, HB2.out⟩
  have hso : smT o := Hsm2.out (by omega) (by omega)
  have hsj : smT (joinT t o) := smJ_of t o q q2 Hq.out Hq2.out (by omega) (by omega)
  obtain ⟨e3, e4⟩ : o.reads.length ≤ 1048576 ∧ o.writes.length ≤ 1048576 := hso
  have hso : smT o := ⟨e3, e4⟩
  clear Hsm Hsm2 Hz2 hz hz2 Hq Hq2
  go_cut [6] (fun v wx => ∃ bt, v = .pointer (some ⟨bt, 0, none⟩) ∧ RPair wx bt (joinT t o) ∧ w2.heap.size ≤ bt ∧ Bl w2 wx)
  case first =>
    go_region_held3 (fun w' => w'.cell? ⟨w.heap.size, 0, none⟩ = some r ∧ w'.cell? ⟨w.heap.size, 1, none⟩ = some u ∧ w'.cell? ⟨w.heap.size + 1, 0, none⟩ = some r' ∧ w'.cell? ⟨w.heap.size + 1, 1, none⟩ = some u' ∧ Bl w2 w') ((go_split_ands; refine keep5 x0 x1 x2 x3 ?_; first | exact Bl.trans (by assumption) hb | exact (Bl.refl _).drew | exact Bl.alloc (by assumption) _ | exact Bl.alloc (Bl.trans (by assumption) hb) _ | exact Bl.setCell (Bl.setCell (by assumption) (Below.size (by assumption)) _) (Below.size (by assumption)) _ | exact Bl.setCell (Bl.setCell (Bl.trans (by assumption) hb) (by dsimp only; omega) _) (by dsimp only; omega) _ | fail)) (first | (go_split_ands; go_at_call 14; (with_reducible refine (toTouch_c r u _ t (ATouch.below Ha.out (HB2.out.trans (by assumption))) e1 e2).mono ?_); rintro e w7 ⟨a1, n1, c1, a2, n2, c2, S1, rfl, hO, -, hb⟩; have R1 := hO.rd; clear hO; have hb7 := hb; have hbk7 := hb.block; obtain ⟨bc1, bc2⟩ := bcell hb; have hs7 : w2.heap.size ≤ w7.heap.size := Below.size (Bl.trans (by assumption) hb); (try have sz7 : w2.heap.size < w7.heap.size := (by have := Below.size hb; (try simp at this); omega))) | (go_split_ands; go_at_call 14; (with_reducible refine (toTouch_c r' u' _ o (ATouch.below Hb.out (HB2.out.trans (by assumption))) e3 e4).mono ?_); rintro e w8 ⟨a3, n3, c3, a4, n4, c4, S2, rfl, hO, -, hb⟩; have R2 := hO.rd; clear hO; have hb8 := hb; have R1' := (by first | exact RTouch.below R1 hb | exact RTouch.below R1 (Bl.trans ((Bl.refl _).alloc _) hb)); have hbk8 := hb.block; obtain ⟨bc3, bc4⟩ := bcell hb; have hs8 : w2.heap.size ≤ w8.heap.size := Below.size (Bl.trans (by assumption) hb); (try have sz78 : w7.heap.size < w8.heap.size := (by have := Below.size hb; (try simp at this); omega)); (try have sz8 : w2.heap.size < w8.heap.size := (by have := Below.size hb; (try simp at this); omega))) | (go_split_ands; go_at_call 13; (with_reducible refine (sJoinTouch_c _ _ _ _ _ t o (by first | exact R1' | exact RTouch.below R1' ((Bl.refl _).alloc _)) (by first | exact R2 | exact RTouch.below R2 ((Bl.refl _).alloc _)) hst hso).mono ?_); rintro e w9 ⟨a5, n5, c5, a6, n6, c6, rfl, H9, hb⟩; have hbk9 := hb.block; obtain ⟨bc5, bc6⟩ := bcell hb; have Hbl9 := Lib.hid (show Bl w2 w9 from Bl.trans (by assumption) hb); have hs9 := Below.size Hbl9.out; (try have sz79 : w7.heap.size < w9.heap.size := (by have := Below.size hb; (try simp at this); omega)); (try have sz89 : w8.heap.size < w9.heap.size := (by have := Below.size hb; (try simp at this); omega)); (try have sz9 : w2.heap.size < w9.heap.size := (by have := Below.size hb; (try simp at this); omega))))
    all_goals (go_wp2_with fail; go_meet; go_light)
    all_goals first | exact ⟨_, rfl, ⟨_, _, _, _, _, _, heap_alloc_new _ _, RTouch.below H9 ((Bl.refl _).alloc _)⟩, hs9, Bl.alloc Hbl9.out _⟩ | (refine ⟨_, rfl, RPair.store2 ?_ H9.1 H9.2, ?_, ?_⟩; (iterate 8 (try (first | (with_reducible refine heap_alloc_is _ ?_; focus (simp; done)) | with_reducible refine heap_alloc_at _ ?_ | with_reducible refine heap_drew_at ?_ | (refine (hbk9 _ ?_).trans ?_; focus (first | omega | (simp; done) | (simp; omega))) | (refine (hbk8 _ ?_).trans ?_; focus (first | omega | (simp; done) | (simp; omega))) | (refine (hbk7 _ ?_).trans ?_; focus (first | omega | (simp; done) | (simp; omega)))))); (focus (first | omega | (simp <;> omega))); (refine Bl.setCell (Bl.setCell Hbl9.out ?_ _) ?_ _); (dsimp only; omega); (dsimp only; omega)) | fail
  case rest =>
    obtain ⟨b6, rfl, hP6, hb6, hB8⟩ := hcut
    rename World => v8
    obtain ⟨aw1, nw1, cw1, aw2, nw2, cw2, hh6, hRw⟩ := hP6
    have z0 : v8.cell? ⟨b6, 0, none⟩ = some (.slice aw1 nw1 cw1) := by simp [World.cell?, hh6]
    have z1 : v8.cell? ⟨b6, 1, none⟩ = some (.slice aw2 nw2 cw2) := by simp [World.cell?, hh6]
    have hb6v : b6 < v8.heap.size := (Array.getElem?_eq_some_iff.1 hh6).1
    replace x0 := hB8.cellOf x0; replace x1 := hB8.cellOf x1; replace x2 := hB8.cellOf x2; replace x3 := hB8.cellOf x3
    have hs8 : w.heap.size + 1 < v8.heap.size := World.block_lt_of_cell? v8 _ x2
    have HRw := Lib.hid hRw; have HV := Lib.hid (HB2.out.trans hB8)
    have X0 := Lib.hid x0; have X1 := Lib.hid x1; have X2 := Lib.hid x2; have X3 := Lib.hid x3; have Z0 := Lib.hid z0; have Z1 := Lib.hid z1
    clear hh6 hRw hB8 hb6
    go_upto_region 14 with (first | (go_at_call 14; ((with_reducible refine (toTouch_c r u _ t (ATouch.below Ha.out HV.out) e1 e2).mono ?_); rintro e w9 ⟨a1, n1, c1, a2, n2, c2, S0, rfl, hO, hf, hb⟩; have HO0 := Lib.hid hO; have HF0 := Lib.hid hf; have HL0 := Lib.hid hO.lt; have HV9 := Lib.hid hb; have hs9 : v8.heap.size ≤ w9.heap.size := Below.size hb; have hx9 : w.heap.size + 1 < w9.heap.size := (by omega); replace x2 := hb.cellOf x2; replace x3 := hb.cellOf x3; clear hO hf hb x0 x1 z0 z1)) | (go_at_call 14; ((with_reducible refine (toTouch_c r' u' _ o (ATouch.below Hb.out ((HV.out.trans HV9.out).alloc _)) e3 e4).mono ?_); rintro e w10 ⟨a3, n3, c3, a4, n4, c4, S1, rfl, hO, hf, hb⟩; have HO1 := Lib.hid hO; have HF1 := Lib.hid hf; have HL1 := Lib.hid hO.lt; have HV10 := Lib.hid hb; have hs10 : w9.heap.size < w10.heap.size := (by have := Below.size hb; (try simp at this); omega); have y0 : w10.cell? ⟨w9.heap.size, 0, none⟩ = some (.slice a1 n1 c1) := hb.cellOf (by go_simp); have y1 : w10.cell? ⟨w9.heap.size, 1, none⟩ = some (.slice a2 n2 c2) := hb.cellOf (by go_simp); clear hO hf hb x2 x3)) | (go_at_call 15; ((with_reducible refine (iJoinTouch_c _ _ _ _ _ t o ((HO0.out.rd.below ((Bl.refl w9).alloc _)).below (HV10.out.alloc _)) (HO1.out.rd.below ((Bl.refl w10).alloc _)) hst hso).mono ?_); rintro e w11 ⟨a5, n5, c5, a6, n6, c6, S2, rfl, hO, hf, hb⟩; have HO2 := Lib.hid hO; have HF2 := Lib.hid hf; have HL2 := Lib.hid hO.lt; have HV11 := Lib.hid hb; have hs11 : w10.heap.size < w11.heap.size := (by have := Below.size hb; (try simp at this); omega); replace y0 := ((Bl.refl w10).alloc (.cells #[.slice a3 n3 c3, .slice a4 n4 c4] 26)).cellOf y0; replace y0 := hb.cellOf y0; replace y1 := ((Bl.refl w10).alloc (.cells #[.slice a3 n3 c3, .slice a4 n4 c4] 26)).cellOf y1; replace y1 := hb.cellOf y1; have y2 : w11.cell? ⟨w10.heap.size, 0, none⟩ = some (.slice a3 n3 c3) := hb.cellOf (by go_simp); have y3 : w11.cell? ⟨w10.heap.size, 1, none⟩ = some (.slice a4 n4 c4) := hb.cellOf (by go_simp); have HVa := Lib.hid ((((((HV9.out.alloc (.cells #[.slice a1 n1 c1, .slice a2 n2 c2] 26)).trans HV10.out).alloc (.cells #[.slice a3 n3 c3, .slice a4 n4 c4] 26)).trans HV11.out).alloc (.cells #[.slice a5 n5 c5, .slice a6 n6 c6] 26))); have z0 := (((((HV9.out.alloc (.cells #[.slice a1 n1 c1, .slice a2 n2 c2] 26)).trans HV10.out).alloc (.cells #[.slice a3 n3 c3, .slice a4 n4 c4] 26)).trans HV11.out)).cellOf Z0.out; have z1 := (((((HV9.out.alloc (.cells #[.slice a1 n1 c1, .slice a2 n2 c2] 26)).trans HV10.out).alloc (.cells #[.slice a3 n3 c3, .slice a4 n4 c4] 26)).trans HV11.out)).cellOf Z1.out; have hz11 : b6 < w11.heap.size := (by omega); clear hO hf hb)) | (go_at_call 16; ((with_reducible refine (eqTouch_c _ _ _ _ _ (joinT t o) (HO2.out.rd.below ((Bl.refl w11).alloc _)) (HRw.out.below HVa.out)).mono ?_); rintro e w12 ⟨rfl, hb⟩; have HV12 := Lib.hid hb; have HVb := Lib.hid (HVa.out.trans hb); replace y0 := ((Bl.refl w11).alloc (.cells #[.slice a5 n5 c5, .slice a6 n6 c6] 26)).cellOf y0; replace y0 := hb.cellOf y0; replace y1 := ((Bl.refl w11).alloc (.cells #[.slice a5 n5 c5, .slice a6 n6 c6] 26)).cellOf y1; replace y1 := hb.cellOf y1; replace y2 := ((Bl.refl w11).alloc (.cells #[.slice a5 n5 c5, .slice a6 n6 c6] 26)).cellOf y2; replace y2 := hb.cellOf y2; replace y3 := ((Bl.refl w11).alloc (.cells #[.slice a5 n5 c5, .slice a6 n6 c6] 26)).cellOf y3; replace y3 := hb.cellOf y3; have y4 : w12.cell? ⟨w11.heap.size, 0, none⟩ = some (.slice a5 n5 c5) := hb.cellOf (by go_simp); have y5 : w12.cell? ⟨w11.heap.size, 1, none⟩ = some (.slice a6 n6 c6) := hb.cellOf (by go_simp); clear hb)))
    have hs12 : w11.heap.size < w12.heap.size := World.block_lt_of_cell? w12 _ y4
    have HO0c := Lib.hid (OTouch.below HO0.out ((((((Bl.refl w9).alloc (.cells #[.slice a1 n1 c1, .slice a2 n2 c2] 26)).trans HV10.out).alloc (.cells #[.slice a3 n3 c3, .slice a4 n4 c4] 26)).trans HV11.out).alloc (.cells #[.slice a5 n5 c5, .slice a6 n6 c6] 26) |>.trans HV12.out))
    have HO1c := Lib.hid (OTouch.below HO1.out ((((Bl.refl w10).alloc (.cells #[.slice a3 n3 c3, .slice a4 n4 c4] 26)).trans HV11.out).alloc (.cells #[.slice a5 n5 c5, .slice a6 n6 c6] 26) |>.trans HV12.out))
    have HO2c := Lib.hid (OTouch.below HO2.out (((Bl.refl w11).alloc (.cells #[.slice a5 n5 c5, .slice a6 n6 c6] 26)).trans HV12.out))
    clear HO0 HO1 HO2 HV9 HV10 HV11 HV12 HVa z0 z1
    have hf0 : ∀ b ∈ S0, v8.heap.size ≤ b ∧ b < w9.heap.size := fun b hb => ⟨HF0.out b hb, HL0.out b hb⟩
    have hf1 : ∀ b ∈ S1, w9.heap.size + 1 ≤ b ∧ b < w10.heap.size := fun b hb => ⟨by have := HF1.out b hb; simpa using this, HL1.out b hb⟩
    have hf2 : ∀ b ∈ S2, w10.heap.size + 1 ≤ b ∧ b < w11.heap.size := fun b hb => ⟨by have := HF2.out b hb; simpa using this, HL2.out b hb⟩
    have Hf0 := Lib.hid hf0; have Hf1 := Lib.hid hf1; have Hf2 := Lib.hid hf2
    clear HF0 HF1 HF2 HL0 HL1 HL2 hf0 hf1 hf2
    replace x0 := HVb.out.cellOf X0.out; replace x1 := HVb.out.cellOf X1.out
    go_region_held3 (fun w' => w'.cell? ⟨w9.heap.size, 0, none⟩ = some (.slice a1 n1 c1) ∧ w'.cell? ⟨w9.heap.size, 1, none⟩ = some (.slice a2 n2 c2) ∧ w'.cell? ⟨w.heap.size, 0, none⟩ = some r ∧ w'.cell? ⟨w.heap.size, 1, none⟩ = some u ∧ Bl w12 w') ((go_split_ands; refine keep5 y0 y1 x0 x1 ?_; first | exact Bl.trans (by assumption) hb | exact (Bl.refl _).drew | fail)) (first | (go_split_ands; go_at_call 14; (with_reducible refine (toTouch_c r u _ t (ATouch.below Ha.out ((HV.out.trans HVb.out).trans (by assumption))) e1 e2).mono ?_); rintro e w13 ⟨p1, l1, g1, p2, l2, g2, S3, rfl, hO, -, hb⟩; have R3 := hO.rd; clear hO) | (go_split_ands; go_at_call 16; (with_reducible refine (eqTouch_c _ _ _ _ _ t (HO0c.out.rd.below (by assumption)) R3).mono ?_); rintro e w14 ⟨rfl, hb⟩; have HB14 := Lib.hid (show Bl w12 w14 from Bl.trans (by assumption) hb)))
    replace y2 := HB14.out.cellOf y2; replace y3 := HB14.out.cellOf y3; replace y4 := HB14.out.cellOf y4; replace y5 := HB14.out.cellOf y5; replace y0 := HB14.out.cellOf y0; replace y1 := HB14.out.cellOf y1
    have HV14 := Lib.hid (HVb.out.trans HB14.out)
    have HO1d := Lib.hid (HO1c.out.below HB14.out)
    replace x2 := HV14.out.cellOf X2.out; replace x3 := HV14.out.cellOf X3.out
    clear x0 x1
    go_upto_region 16 with fail
    go_region_held3 (fun w' => w'.cell? ⟨w10.heap.size, 0, none⟩ = some (.slice a3 n3 c3) ∧ w'.cell? ⟨w10.heap.size, 1, none⟩ = some (.slice a4 n4 c4) ∧ w'.cell? ⟨w.heap.size + 1, 0, none⟩ = some r' ∧ w'.cell? ⟨w.heap.size + 1, 1, none⟩ = some u' ∧ Bl w14 w') ((go_split_ands; refine keep5 y2 y3 x2 x3 ?_; first | exact Bl.trans (by assumption) hb | exact (Bl.refl _).drew | fail)) (first | (go_split_ands; go_at_call 14; (with_reducible refine (toTouch_c r' u' _ o (ATouch.below Hb.out ((HV.out.trans HV14.out).trans (by assumption))) e3 e4).mono ?_); rintro e w15 ⟨p1, l1, g1, p2, l2, g2, S3, rfl, hO, -, hb⟩; have R3 := hO.rd; clear hO) | (go_split_ands; go_at_call 16; (with_reducible refine (eqTouch_c _ _ _ _ _ o (HO1d.out.rd.below (by assumption)) R3).mono ?_); rintro e w16 ⟨rfl, hb⟩; have HB16 := Lib.hid (show Bl w14 w16 from Bl.trans (by assumption) hb)))
    have HB16b := Lib.hid (HB14.out.trans HB16.out)
    have HV16 := Lib.hid (HV14.out.trans HB16.out)
    replace y2 := HB16.out.cellOf y2; replace y3 := HB16.out.cellOf y3; replace y4 := HB16.out.cellOf y4; replace y5 := HB16.out.cellOf y5; replace y0 := HB16.out.cellOf y0; replace y1 := HB16.out.cellOf y1
    have HP0 := Lib.hid (HO0c.out.below HB16b.out); have HP1 := Lib.hid (HO1c.out.below HB16b.out); have HP2 := Lib.hid (HO2c.out.below HB16b.out)
    clear HO0c HO1c HO2c HO1d x2 x3
    go_upto_region 31 with (first | (go_at_call 17; ((with_reducible refine (markTouch_c (.slice a1 n1 c1) (.slice a2 n2 c2) 1 _ (by omega) _ t S0 HP0.out hst (by omega)).mono ?_); rintro e w17 ⟨rfl, -, hk⟩; have n8 : w10.heap.size ∉ S0 := (fun h => by have := Hf0.out _ h; omega); have n9 : w11.heap.size ∉ S0 := (fun h => by have := Hf0.out _ h; omega); replace y2 := hk.cellOf y2 n8; replace y3 := hk.cellOf y3 n8; replace y4 := hk.cellOf y4 n9; replace y5 := hk.cellOf y5 n9; have HQ1 := Lib.hid (HP1.out.keep hk (fun b h1 h2 => by have := Hf0.out b h2; have := Hf1.out b h1; omega)); have HQ2 := Lib.hid (HP2.out.keep hk (fun b h1 h2 => by have := Hf0.out b h2; have := Hf2.out b h1; omega)); have HV17 := Lib.hid (hk.under HV16.out (fun b h => (Hf0.out b h).1)); clear hk y0 y1 n8 n9)) | (go_at_call 17; ((with_reducible refine (markTouch_c (.slice a3 n3 c3) (.slice a4 n4 c4) (1 + cntT t) _ (by omega) _ o S1 HQ1.out hso (by have := cntT_le t hst; omega)).mono ?_); rintro e w18 ⟨rfl, -, hk⟩; have n9 : w11.heap.size ∉ S1 := (fun h => by have := Hf1.out _ h; omega); replace y4 := hk.cellOf y4 n9; replace y5 := hk.cellOf y5 n9; have HR2 := Lib.hid (HQ2.out.keep hk (fun b h1 h2 => by have := Hf1.out b h2; have := Hf2.out b h1; omega)); have HV18 := Lib.hid (hk.under HV17.out (fun b h => by have := Hf1.out b h; omega)); have z0 := HV18.out.cellOf Z0.out; have z1 := HV18.out.cellOf Z1.out; clear hk y2 y3 n9)) | (go_at_call 16; ((with_reducible refine (eqTouch_c (.slice a5 n5 c5) (.slice a6 n6 c6) (.slice aw1 nw1 cw1) (.slice aw2 nw2 cw2) _ (joinT t o) HR2.out.rd (HRw.out.below HV18.out)).mono ?_); rintro e w19 ⟨rfl, hb⟩; replace y4 := hb.cellOf y4; replace y5 := hb.cellOf y5; have HT2 := Lib.hid (HR2.out.below hb); have HV19 := Lib.hid (HV18.out.trans hb); clear hb)) | (go_at_call 17; ((with_reducible refine (markTouch_c (.slice a5 n5 c5) (.slice a6 n6 c6) 1 _ (by omega) _ (joinT t o) S2 HT2.out hsj (by omega)).mono ?_); rintro e w20 ⟨rfl, hO, hk⟩; have n9 : w11.heap.size ∉ S2 := (fun h => by have := Hf2.out _ h; omega); replace y4 := hk.cellOf y4 n9; replace y5 := hk.cellOf y5 n9; have HM := Lib.hid hO.rd; have HV20 := Lib.hid (hk.under HV19.out (fun b h => by have := Hf2.out b h; omega)); clear hk hO n9 z0 z1)) | (go_at_call 18; ((with_reducible refine (heldTouch_c (.slice a5 n5 c5) (.slice a6 n6 c6) 1 _ (by omega) _ (joinT t o) HM.out hsj (by omega)).mono ?_); rintro e w21 ⟨rfl, hb⟩; replace y4 := hb.cellOf y4; replace y5 := hb.cellOf y5; have HM1 := Lib.hid (HM.out.below hb); have HV21 := Lib.hid (HV20.out.trans hb); clear hb)))
    have x0 := HV21.out.cellOf X0.out; have x1 := HV21.out.cellOf X1.out; have x2 := HV21.out.cellOf X2.out; have x3 := HV21.out.cellOf X3.out
    clear HP0 HP1 HP2 HQ1 HQ2 HR2 HT2 HM HV16 HV17 HV18 HV19 HV20 HV14 HB14 HB16 HB16b HVb
    go_cut [13] (fun v wx => ∃ bt, v = .pointer (some ⟨bt, 0, none⟩) ∧ RPair wx bt (joinT t o) ∧ w21.heap.size ≤ bt ∧ Bl w21 wx)
    case first =>
      go_region_held3 (fun w' => w'.cell? ⟨w.heap.size, 0, none⟩ = some r ∧ w'.cell? ⟨w.heap.size, 1, none⟩ = some u ∧ w'.cell? ⟨w.heap.size + 1, 0, none⟩ = some r' ∧ w'.cell? ⟨w.heap.size + 1, 1, none⟩ = some u' ∧ Bl w21 w') ((go_split_ands; refine keep5 x0 x1 x2 x3 ?_; first | exact Bl.trans (by assumption) hb | exact (Bl.refl _).drew | exact Bl.alloc (by assumption) _ | exact Bl.alloc (Bl.trans (by assumption) hb) _ | exact Bl.setCell (Bl.setCell (by assumption) (Below.size (by assumption)) _) (Below.size (by assumption)) _ | exact Bl.setCell (Bl.setCell (Bl.trans (by assumption) hb) (by dsimp only; omega) _) (by dsimp only; omega) _ | fail)) (first | (go_split_ands; go_at_call 14; (with_reducible refine (toTouch_c r u _ t (ATouch.below Ha.out ((HV.out.trans HV21.out).trans (by assumption))) e1 e2).mono ?_); rintro e w7 ⟨a1, n1, c1, a2, n2, c2, S1, rfl, hO, -, hb⟩; have R1 := hO.rd; clear hO; have hb7 := hb; have hbk7 := hb.block; obtain ⟨bc1, bc2⟩ := bcell hb; have hs7 : w21.heap.size ≤ w7.heap.size := Below.size (Bl.trans (by assumption) hb); (try have sz7 : w21.heap.size < w7.heap.size := (by have := Below.size hb; (try simp at this); omega))) | (go_split_ands; go_at_call 14; (with_reducible refine (toTouch_c r' u' _ o (ATouch.below Hb.out ((HV.out.trans HV21.out).trans (by assumption))) e3 e4).mono ?_); rintro e w8 ⟨a3, n3, c3, a4, n4, c4, S2, rfl, hO, -, hb⟩; have R2 := hO.rd; clear hO; have hb8 := hb; have R1' := (by first | exact RTouch.below R1 hb | exact RTouch.below R1 (Bl.trans ((Bl.refl _).alloc _) hb)); have hbk8 := hb.block; obtain ⟨bc3, bc4⟩ := bcell hb; have hs8 : w21.heap.size ≤ w8.heap.size := Below.size (Bl.trans (by assumption) hb); (try have sz78 : w7.heap.size < w8.heap.size := (by have := Below.size hb; (try simp at this); omega)); (try have sz8 : w21.heap.size < w8.heap.size := (by have := Below.size hb; (try simp at this); omega))) | (go_split_ands; go_at_call 15; (with_reducible refine (iJoinTouch_g _ _ _ _ _ t o (by first | exact R1' | exact RTouch.below R1' ((Bl.refl _).alloc _)) (by first | exact R2 | exact RTouch.below R2 ((Bl.refl _).alloc _)) hst hso).mono ?_); rintro e w9 ⟨a5, n5, c5, a6, n6, c6, rfl, H9, hb⟩; have hbk9 := hb.block; obtain ⟨bc5, bc6⟩ := bcell hb; have Hbl9 := Lib.hid (show Bl w21 w9 from Bl.trans (by assumption) hb); have hs9 := Below.size Hbl9.out; (try have sz79 : w7.heap.size < w9.heap.size := (by have := Below.size hb; (try simp at this); omega)); (try have sz89 : w8.heap.size < w9.heap.size := (by have := Below.size hb; (try simp at this); omega)); (try have sz9 : w21.heap.size < w9.heap.size := (by have := Below.size hb; (try simp at this); omega))))
      all_goals (go_wp2_with fail; go_meet; go_light)
      all_goals first | exact ⟨_, rfl, ⟨_, _, _, _, _, _, heap_alloc_new _ _, RTouch.below H9 ((Bl.refl _).alloc _)⟩, hs9, Bl.alloc Hbl9.out _⟩ | (refine ⟨_, rfl, RPair.store2 ?_ H9.1 H9.2, ?_, ?_⟩; (iterate 8 (try (first | (with_reducible refine heap_alloc_is _ ?_; focus (simp; done)) | with_reducible refine heap_alloc_at _ ?_ | with_reducible refine heap_drew_at ?_ | (refine (hbk9 _ ?_).trans ?_; focus (first | omega | (simp; done) | (simp; omega))) | (refine (hbk8 _ ?_).trans ?_; focus (first | omega | (simp; done) | (simp; omega))) | (refine (hbk7 _ ?_).trans ?_; focus (first | omega | (simp; done) | (simp; omega)))))); (focus (first | omega | (simp <;> omega))); (refine Bl.setCell (Bl.setCell Hbl9.out ?_ _) ?_ _); (dsimp only; omega); (dsimp only; omega)) | fail
    case rest =>
      obtain ⟨b13, rfl, hP13, hb13, hB22⟩ := hcut
      rename World => w22
      obtain ⟨ah1, nh1, ch1, ah2, nh2, ch2, hh13, hR13⟩ := hP13
      have v0 : w22.cell? ⟨b13, 0, none⟩ = some (.slice ah1 nh1 ch1) := by simp [World.cell?, hh13]
      have v1 : w22.cell? ⟨b13, 1, none⟩ = some (.slice ah2 nh2 ch2) := by simp [World.cell?, hh13]
      have HR13 := Lib.hid hR13; have HV22 := Lib.hid (HV21.out.trans hB22); have HM1b := Lib.hid (HM1.out.below hB22)
      replace y4 := hB22.cellOf y4; replace y5 := hB22.cellOf y5
      have z0 := HV22.out.cellOf Z0.out; have z1 := HV22.out.cellOf Z1.out
      clear hh13 hR13 hB22 hb13 x0 x1 x2 x3
      go_wp2_with (first | (go_at_call 16; ((with_reducible refine (eqTouch_c _ _ (.slice aw1 nw1 cw1) (.slice aw2 nw2 cw2) _ (joinT t o) HR13.out (HRw.out.below HV22.out)).mono ?_); rintro e w23 ⟨rfl, hb⟩; replace y4 := hb.cellOf y4; replace y5 := hb.cellOf y5; have HM2 := Lib.hid (HM1b.out.below hb); have HV23 := Lib.hid (HV22.out.trans hb); clear hb)) | (go_at_call 18; ((with_reducible refine (heldTouch_c (.slice a5 n5 c5) (.slice a6 n6 c6) 1 _ (by omega) _ (joinT t o) HM2.out hsj (by omega)).mono ?_); rintro e w24 ⟨rfl, hb⟩; have HV24 := Lib.hid (HV23.out.trans hb); clear hb)))
      go_ret
      exact ⟨rfl, HV.out.trans HV24.out⟩

/-! ### the statement -/
theorem own : ownKnob Try.prog.godebug = none := by kernel_rfl
theorem laidOut : laidOutB Try.prog = true := by kernel_rfl
theorem readable : ∀ t ∈ Try.f3.params.toList, Try.prog.readableRec t = true ∧ t < Try.prog.types.size :=
  of_decide_eq_true (by kernel_rfl)
theorem cellsT : Try.prog.cellsOf 24 = 2 := by kernel_rfl
theorem cellsL : Try.prog.cellsOf 22 = 1 := by kernel_rfl
theorem cellsS : Try.prog.cellsOf 9 = 1 := by kernel_rfl
theorem aStrs_of {W : World} {cs : List Value} (h : Reads Try.prog W 22 cs) : ∃ v l, cs = [v] ∧ AStrs W v l :=
  Reads.slice Try.underlying22 cellsS (by omega) (fun row _ hr => by
    obtain ⟨s, rfl, hm⟩ := hr.string Try.underlying9
    exact ⟨s, rfl, maxLen_le hm⟩) h
theorem aTouch_of {W : World} {v : Value} (o : Value.okWide Try.prog W .any 0 24 v) (r : Reads Try.prog W 24 v.cells.toList) : ∃ x y t, v = .agg #[x, y] ∧ ATouch W x y t := by
  obtain ⟨cs, rfl, hcs⟩ := agg_of_okWide Try.underlying24 o
  rw [hcs] at r
  obtain ⟨hlen, hf⟩ := r.struct Try.underlying24
  rw [cellsT] at hlen
  match cs, hlen with
  | [c0, c1], _ =>
    have f0 : Reads Try.prog W 22 [c0] := by simpa [cellsL] using hf 0 _ rfl
    have f1 : Reads Try.prog W 22 [c1] := by simpa [cellsL] using hf 1 _ rfl
    obtain ⟨v0, l0, e0, h0⟩ := aStrs_of f0
    obtain ⟨v1, l1, e1, h1⟩ := aStrs_of f1
    cases e0; cases e1
    exact ⟨_, _, ⟨l0, l1⟩, rfl, h0, h1⟩

theorem called (W : World) (args : Array Value) (h : ArgsRead Try.prog W Try.f3.params.toList args.toList) :
    Calls Try.prog 3 args W fun e W' => e = .returned (.bool true) ∧ Bl W W' := by
  obtain ⟨hl, h⟩ := h
  rw [Try.params3] at hl h
  obtain ⟨v0, v1, rfl⟩ : ∃ v0 v1, args = #[v0, v1] := by
    obtain ⟨l⟩ := args
    match l, hl with
    | [a, b], _ => exact ⟨a, b, rfl⟩
  obtain ⟨r0, o0⟩ := h 0 _ v0 rfl rfl
  obtain ⟨r1, o1⟩ := h 1 _ v1 rfl rfl
  obtain ⟨x, y, t, rfl, ht⟩ := aTouch_of o0 r0
  obtain ⟨x', y', o, rfl, ho⟩ := aTouch_of o1 r1
  exact walk x y x' y' W t o ht ho

theorem lifted (os : Os) (started : os.Started) (H : Type) (enc : TypeId × Value → H) :
    ReturnsInHanded {} Try.checked os 3 .any (Rows.fnExactJoinTouchSpec.pre6 enc Try.prog Try.f3 Rows.fnExactJoinTouchRow.domain false) (Rows.fnExactJoinTouchSpec.post enc Try.prog Try.f3 false true false false) := by
  refine returnsInHanded_of_change (C := Try.checked) own started (by kernel_rfl) Try.func3
    (ChangeSpec.witness6 (enc := enc) (C := Try.checked) false ⟨#[], #[.agg #[.slice none 0 0, .slice none 0 0], .agg #[.slice none 0 0, .slice none 0 0]], []⟩ 8 (by kernel_rfl) (by kernel_rfl) (by kernel_rfl) (by kernel_rfl)) ?_
  intro W base args ds gs before hval hW _ _
  refine law_contract laidOut readable Try.underlying4 rfl rfl ?_ called H enc false true false false W args ds gs before hval hW
  intro H ds hd
  match ds, hd with
  | [a, b], _ => rfl
theorem proved : Rows.FnExactJoinTouchSaid :=
  OpenClaim.holds_of_wide 3 Try.f3 rfl rfl rfl rfl rfl rfl rfl ⟨rfl, rfl, rfl, rfl, rfl⟩ rfl rfl rfl rfl rfl (by kernel_rfl) Try.func3 (by kernel_rfl)
    (of_decide_eq_true (by kernel_rfl)) (by unfold Func.isWrapper; first | (rw [if_pos (by decide +kernel)]; kernel_rfl) | (rw [if_neg (by decide +kernel)]; exact ⟨rfl, rfl⟩))
    (fun os started H enc _ => lifted os started H enc)
end Go.Proofs.Ytbbkihijhdpliaa.join
