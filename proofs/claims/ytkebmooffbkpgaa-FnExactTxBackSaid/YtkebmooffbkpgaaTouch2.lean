/-
  Contracts: access sets (Touch) as values: clone, join, the laws' helpers, both JoinTouch.
-/
import Derived.Test.YtkebmooffbkpgaaTouch
namespace Go.Proofs.Ytkebmooffbkpgaa
open Go.ChangeShapes Go.WideShapes Go.ChangeAt Go.RowKit
set_option maxHeartbeats 1000000
set_option maxRecDepth 100000

structure TouchD where
  reads : List ByteArray
  writes : List ByteArray
deriving DecidableEq
def joinL (l : List ByteArray) (m : List ByteArray) : List ByteArray := m.foldl putL l
def joinT (a b : TouchD) : TouchD := ⟨joinL a.reads b.reads, joinL a.writes b.writes⟩
def szTouchD (t : TouchD) : Nat := szStrs t.reads + szStrs t.writes
def marksT (k : Nat) (t : TouchD) : TouchD := ⟨marks k t.reads.length, marks (k + t.reads.length) t.writes.length⟩
def cntT (t : TouchD) : Nat := t.reads.length + t.writes.length
/-- Access sets of at most a million texts in all. -/
def smT (t : TouchD) : Prop := t.reads.length ≤ 1048576 ∧ t.writes.length ≤ 1048576
/-- A slice's value, by its address, length and capacity. -/
structure Sl where
  a : Option Addr
  n : Nat
  c : Nat
abbrev Sl.v (s : Sl) : Value := .slice s.a s.n s.c
def Sl.blk (s : Sl) : List Nat := s.v.ownBlock.toList

def RTouch (w : World) (r u : Value) (t : TouchD) : Prop := RStrs w r t.reads ∧ RStrs w u t.writes
def ATouch (w : World) (r u : Value) (t : TouchD) : Prop := AStrs w r t.reads ∧ AStrs w u t.writes
/-- Owned: the blocks S, which differ. -/
def OTouch (w : World) (r u : Value) (t : TouchD) (S : List Nat) : Prop := OStrs w r t.reads ∧ OStrs w u t.writes ∧ S = r.ownBlock.toList ++ u.ownBlock.toList ∧ S.Nodup
theorem OTouch.rd {w : World} {r u : Value} {t : TouchD} {S : List Nat} (h : OTouch w r u t S) : RTouch w r u t := ⟨OStrs.rd h.1, OStrs.rd h.2.1⟩
theorem RTouch.below {w w' : World} {r u : Value} {t : TouchD} (h : RTouch w r u t) (hb : Bl w w') : RTouch w' r u t := ⟨RStrs.below h.1 hb, RStrs.below h.2 hb⟩
theorem ATouch.below {w w' : World} {r u : Value} {t : TouchD} (h : ATouch w r u t) (hb : Bl w w') : ATouch w' r u t := ⟨AStrs.below h.1 hb, AStrs.below h.2 hb⟩
theorem OTouch.keep {w w' : World} {r u : Value} {t : TouchD} {S T : List Nat} (h : OTouch w r u t S) (hb : KeepBut T w w') (hS : ∀ b ∈ S, b ∉ T) : OTouch w' r u t S := by
  obtain ⟨h1, h2, rfl, h4⟩ := h
  exact ⟨h1.keep hb fun b hb => hS b (by simp [hb]), h2.keep hb fun b hb => hS b (by simp [hb]), rfl, h4⟩
theorem OTouch.below {w w' : World} {r u : Value} {t : TouchD} {S : List Nat} (h : OTouch w r u t S) (hb : Bl w w') : OTouch w' r u t S := h.keep (hb.keep []) (by simp)
theorem OTouch.lt {w : World} {r u : Value} {t : TouchD} {S : List Nat} (h : OTouch w r u t S) : ∀ b ∈ S, b < w.heap.size := by
  obtain ⟨h1, h2, rfl, h4⟩ := h
  intro b hb
  rcases List.mem_append.1 hb with hb | hb
  · exact h1.lt b hb
  · exact h2.lt b hb

theorem cloneTouch_c (r u : Value) (w : World) (t : TouchD) (hr : RTouch w r u t) (h1 : t.reads.length ≤ 549755813888) (h2 : t.writes.length ≤ 549755813888) :
    Calls Try.prog 49 #[.agg #[r, u]] w fun e w' => ∃ a1 n1 c1 a2 n2 c2 S, e = .returned (.agg #[.slice a1 n1 c1, .slice a2 n2 c2]) ∧ OTouch w' (.slice a1 n1 c1) (.slice a2 n2 c2) t S ∧ (∀ b ∈ S, w.heap.size ≤ b) ∧ Bl w w' := by
  obtain ⟨hr1, hr2⟩ := hr
  have Hr1 := Lib.hid hr1; have Hr2 := Lib.hid hr2
  clear hr1 hr2
  go_enter Try.func49, Try.ntmps49
  go_wp2
  go_region_held3 (fun w' => w'.cell? ⟨w.heap.size, 0, none⟩ = some r ∧ w'.cell? ⟨w.heap.size, 1, none⟩ = some u) (first | (go_split_ands; exact ⟨hb.cellOf (by assumption), hb.cellOf (by assumption)⟩) | go_keep) (first | (go_at_call 56; ((with_reducible refine (cloneStrs_s r _ t.reads (RStrs.below Hr1.out (by repeat (first | exact Bl.refl _ | refine Bl.alloc ?_ _ | refine Bl.drew ?_))) (by omega)).mono ?_); rintro e w1 ⟨a1, n1, c1, rfl, hO1, hf1, hb⟩; have HO1 := Lib.hid hO1; have HF1 := Lib.hid hf1; have HB1 := Lib.hid hb)) | (go_at_call 56; ((with_reducible refine (cloneStrs_s u _ t.writes (RStrs.below Hr2.out (Bl.trans (by repeat (first | exact Bl.refl _ | refine Bl.alloc ?_ _ | refine Bl.drew ?_)) HB1.out)) (by omega)).mono ?_); rintro e w2 ⟨a2, n2, c2, rfl, hO2, hf2, hb⟩; have HO2 := Lib.hid hO2; have HF2 := Lib.hid hf2; have HB2 := Lib.hid hb; have k0 : w2.cell? ⟨w.heap.size + 1, 0, none⟩ = some (.slice none 0 0) := hb.cellOf (HB1.out.cellOf (by simp)); have k1 : w2.cell? ⟨w.heap.size + 1, 1, none⟩ = some (.slice none 0 0) := hb.cellOf (HB1.out.cellOf (by simp)); have k2 : ∀ o, w2.frozen? ⟨w.heap.size + 1, o, none⟩ = false := fun o => hb.frozenOf (Nat.lt_of_lt_of_le (by simp) HB1.out.size) (HB1.out.frozenOf (by simp) (by simp)))))
  have hN : Bl w w2 := ((((Bl.refl w).alloc _).alloc _).drew.trans HB1.out).trans HB2.out
  have hk3 : KeepBut [w.heap.size + 1] w2 ((w2.setCell ⟨w.heap.size + 1, 0, none⟩ (.slice a1 n1 c1)).setCell ⟨w.heap.size + 1, 1, none⟩ (.slice a2 n2 c2)) := ((KeepBut.refl _ _).setCell (.inl (by simp)) _).setCell (.inl (by simp)) _
  have hz1 := HB1.out.size
  have hlt1 := HO1.out.lt
  have Hk3 := Lib.hid hk3; have HN := Lib.hid hN; have Hz1 := Lib.hid hz1; have Hlt1 := Lib.hid hlt1
  clear hO1 hf1 hO2 hf2 hb hk3 hN hz1 hlt1
  go_wp2
  refine bodyPost_ret (v := .agg #[.slice a1 n1 c1, .slice a2 n2 c2]) (by simp [results, Try.results49, go_sem, k0, k1]) rfl ⟨_, _, _, _, _, _, _, rfl, ⟨?_, ?_, rfl, ?_⟩, ?_, ?_⟩
  · exact (HO1.out.below HB2.out).keep Hk3.out (fun b hb => by have := HF1.out b hb; simp at this; simp; omega)
  · exact HO2.out.keep Hk3.out (fun b hb => by have := HF2.out b hb; have h2 := Hz1.out; simp at this h2; simp; omega)
  · exact own_nodup2 fun b hb c hc => by have h1 := Hlt1.out b hb; have h2 := HF2.out c hc; omega
  · intro b hb
    rcases List.mem_append.1 hb with hb | hb
    · have := HF1.out b hb; simp at this; omega
    · have h1 := HF2.out b hb; have h2 := Hz1.out; simp at h2; omega
  · exact Hk3.out.under HN.out (by simp)

/-! ### the laws' helpers -/
theorem szTouch_c (r u : Value) (n : Int) (w : World) (t : TouchD) (hr : ATouch w r u t) (h0 : 0 ≤ n) (h1 : n ≤ 1048576) :
    Calls Try.prog 13 #[.agg #[r, u], .int .i64 n] w fun e w' => e = .returned (.int .i64 (subOr n (szTouchD t))) ∧ Bl w w' := by
  obtain ⟨hr1, hr2⟩ := hr
  have hbd := subOr_bd n (szStrs t.reads) h0
  have hadd := subOr_add n (szStrs t.reads) (szStrs t.writes)
  have hneg := subOr_neg n (szStrs t.reads) (szStrs t.writes)
  have hB : Bl w (w.alloc (.cells #[r, u] 26)) := (Bl.refl w).alloc _
  have k0 : (w.alloc (.cells #[r, u] 26)).cell? ⟨w.heap.size, 0, none⟩ = some r := by simp
  have k1 : (w.alloc (.cells #[r, u] 26)).cell? ⟨w.heap.size, 1, none⟩ = some u := by simp
  obtain ⟨q, hq⟩ : ∃ q, subOr n (szStrs t.reads) = q := ⟨_, rfl⟩
  rw [hq] at hbd hadd hneg
  have Hr1 := Lib.hid hr1; have Hr2 := Lib.hid hr2; have Hq := Lib.hid hq; have Hadd := Lib.hid hadd; have Hneg := Lib.hid hneg; have HB := Lib.hid hB
  clear hr1 hr2 hq hadd hneg hB
  go_enter Try.func13, Try.ntmps13
  go_wp2_with (first | (go_at_call 42; ((with_reducible refine (szStringS_c r n _ t.reads (AStrs.below Hr1.out HB.out) h0 h1).mono ?_); rintro e w1 ⟨rfl, hb⟩; rw [Hq.out]; replace k0 := hb.cellOf k0; replace k1 := hb.cellOf k1; have HB1 := Lib.hid (HB.out.trans hb); clear hb)) | (go_at_call 42; ((with_reducible refine (szStringS_c u q _ t.writes (AStrs.below Hr2.out HB1.out) (by omega) (by omega)).mono ?_); rintro e w2 ⟨rfl, hb⟩; have HB2 := Lib.hid (HB1.out.trans hb); clear hb)))
  all_goals go_ret
  · exact ⟨ret_int (Hneg.out (by assumption)).symm, HB1.out⟩
  · refine ⟨ret_int ?_, HB2.out⟩
    have := Hadd.out (by assumption)
    unfold szTouchD; unfold subOr at *
    split at this <;> omega
  · refine ⟨ret_int ?_, HB2.out⟩
    exact Hadd.out (by assumption)

theorem toTouch_c (r u : Value) (w : World) (t : TouchD) (hr : ATouch w r u t) (h1 : t.reads.length ≤ 1048576) (h2 : t.writes.length ≤ 1048576) :
    Calls Try.prog 20 #[.agg #[r, u]] w fun e w' => ∃ a1 n1 c1 a2 n2 c2 S, e = .returned (.agg #[.slice a1 n1 c1, .slice a2 n2 c2]) ∧ OTouch w' (.slice a1 n1 c1) (.slice a2 n2 c2) t S ∧ (∀ b ∈ S, w.heap.size ≤ b) ∧ Bl w w' := by
  obtain ⟨hr1, hr2⟩ := hr
  have Hr1 := Lib.hid hr1; have Hr2 := Lib.hid hr2
  clear hr1 hr2
  go_enter Try.func20, Try.ntmps20
  go_wp2_with (first | (go_at_call 45; ((with_reducible refine (toStringS_s r _ t.reads (AStrs.below Hr1.out (by repeat (first | exact Bl.refl _ | refine Bl.alloc ?_ _ | refine Bl.drew ?_))) h1).mono ?_); rintro e w1 ⟨a1, n1, c1, rfl, hO1, hf1, hb⟩; have HO1 := Lib.hid hO1; have HF1 := Lib.hid hf1; have HB1 := Lib.hid hb; have k0 : w1.cell? ⟨w.heap.size, 0, none⟩ = some r := hb.cellOf (by go_simp); have k1 : w1.cell? ⟨w.heap.size, 1, none⟩ = some u := hb.cellOf (by go_simp); have k2 : ∀ o, w1.frozen? ⟨w.heap.size + 1 + 1, o, none⟩ = false := fun o => hb.frozenOf (by simp) (by go_simp); have k3 : ∀ o, w1.frozen? ⟨w.heap.size + 1, o, none⟩ = false := fun o => hb.frozenOf (by simp) (by go_simp); have k4 : w1.cell? ⟨w.heap.size + 1, 0, none⟩ = some (.slice none 0 0) := hb.cellOf (by go_simp); have k5 : w1.cell? ⟨w.heap.size + 1, 1, none⟩ = some (.slice none 0 0) := hb.cellOf (by go_simp); have k6 : w1.cell? ⟨w.heap.size + 1 + 1, 0, none⟩ = some (.slice none 0 0) := hb.cellOf (by go_simp); have k7 : w1.cell? ⟨w.heap.size + 1 + 1, 1, none⟩ = some (.slice none 0 0) := hb.cellOf (by go_simp); have BW := Lib.hid ((((Bl.refl w).alloc (.cells #[r, u] 26)).alloc (.cells #[.slice none 0 0, .slice none 0 0] 33)).alloc (.cells #[.slice none 0 0, .slice none 0 0] 33) |>.trans hb); clear hb hO1 hf1)) | (go_at_call 45; ((with_reducible refine (toStringS_s u _ t.writes (AStrs.below Hr2.out (Bl.setCell BW.out (by simp; omega) _)) h2).mono ?_); rintro e w2 ⟨a2, n2, c2, rfl, hO2, hf2, hb⟩; have HO2 := Lib.hid hO2; have HF2 := Lib.hid hf2; have HB2 := Lib.hid hb; have m2 : ∀ o, w2.frozen? ⟨w.heap.size + 1 + 1, o, none⟩ = false := fun o => hb.frozenOf (by have := HB1.out.size; simp at this; simp; omega) (by go_simp); have m3 : ∀ o, w2.frozen? ⟨w.heap.size + 1, o, none⟩ = false := fun o => hb.frozenOf (by have := HB1.out.size; simp at this; simp; omega) (by go_simp); have m4 : w2.cell? ⟨w.heap.size + 1, 0, none⟩ = some (.slice none 0 0) := hb.cellOf (by go_simp); have m5 : w2.cell? ⟨w.heap.size + 1, 1, none⟩ = some (.slice none 0 0) := hb.cellOf (by go_simp); have m6 : w2.cell? ⟨w.heap.size + 1 + 1, 0, none⟩ = some (.slice a1 n1 c1) := hb.cellOf (by go_simp); have m7 : w2.cell? ⟨w.heap.size + 1 + 1, 1, none⟩ = some (.slice none 0 0) := hb.cellOf (by go_simp); clear hb hO2 hf2 k0 k1 k2 k3 k4 k5 k6 k7)))
  have hkA : KeepBut [w.heap.size + 1, w.heap.size + 1 + 1] w1 w2 := (((KeepBut.refl _ w1).setCell (p := ⟨w.heap.size + 1 + 1, 0, none⟩) (.inl (by simp)) (.slice a1 n1 c1))).before HB2.out
  have hkB : KeepBut [w.heap.size + 1, w.heap.size + 1 + 1] w2 (((w2.setCell ⟨w.heap.size + 1 + 1, 1, none⟩ (.slice a2 n2 c2)).setCell ⟨w.heap.size + 1, 0, none⟩ (.slice a1 n1 c1)).setCell ⟨w.heap.size + 1, 1, none⟩ (.slice a2 n2 c2)) := (((KeepBut.refl _ w2).setCell (.inl (by simp)) _).setCell (.inl (by simp)) _).setCell (.inl (by simp)) _
  have f1 : ∀ b ∈ (Value.slice a1 n1 c1).ownBlock.toList, w.heap.size + 1 + 1 + 1 ≤ b := fun b hb => by have := HF1.out b hb; simpa using this
  have f2 : ∀ b ∈ (Value.slice a2 n2 c2).ownBlock.toList, w1.heap.size ≤ b := fun b hb => by have := HF2.out b hb; simpa using this
  have hz1 : w.heap.size + 1 + 1 + 1 ≤ w1.heap.size := by have := HB1.out.size; simpa using this
  have hlt1 := HO1.out.lt
  have HkA := Lib.hid hkA; have HkB := Lib.hid hkB; have F1 := Lib.hid f1; have F2 := Lib.hid f2; have Hlt1 := Lib.hid hlt1
  clear hkA hkB f1 f2 hlt1
  refine bodyPost_ret (v := .agg #[.slice a1 n1 c1, .slice a2 n2 c2]) (by simp [results, Try.results20, go_sem, m4, m5]) rfl ⟨_, _, _, _, _, _, _, rfl, ⟨?_, ?_, rfl, ?_⟩, ?_, ?_⟩
  · exact (HO1.out.keep HkA.out (fun b hb => by have := F1.out b hb; simp; omega)).keep HkB.out (fun b hb => by have := F1.out b hb; simp; omega)
  · exact HO2.out.keep HkB.out (fun b hb => by have := F2.out b hb; simp; omega)
  · exact own_nodup2 fun b hb c hc => by have h1 := Hlt1.out b hb; have h2 := F2.out c hc; omega
  · intro b hb
    rcases List.mem_append.1 hb with hb | hb
    · have := F1.out b hb; omega
    · have := F2.out b hb; omega
  · exact (HkA.out.trans HkB.out (fun x hx => .inl hx)).under BW.out (by simp; omega)

theorem eqTouch_c (r u r' u' : Value) (w : World) (t : TouchD) (h : RTouch w r u t) (h' : RTouch w r' u' t) :
    Calls Try.prog 30 #[.agg #[r, u], .agg #[r', u']] w fun e w' => e = .returned (.bool true) ∧ Bl w w' := by
  obtain ⟨hr1, hr2⟩ := h
  obtain ⟨hr1', hr2'⟩ := h'
  have Hr1 := Lib.hid hr1; have Hr2 := Lib.hid hr2; have Hr1' := Lib.hid hr1'; have Hr2' := Lib.hid hr2'
  have HB := Lib.hid (((Bl.refl w).alloc (.cells #[r, u] 33)).alloc (.cells #[r', u'] 33))
  clear hr1 hr2 hr1' hr2'
  go_enter Try.func30, Try.ntmps30
  go_wp2_with (first | (go_at_call 52; ((with_reducible refine (eqStringS_c r r' _ t.reads (RStrs.below Hr1.out HB.out) (RStrs.below Hr1'.out HB.out)).mono ?_); rintro e w1 ⟨rfl, hb⟩; have k1 : w1.cell? ⟨w.heap.size, 1, none⟩ = some u := hb.cellOf (by go_simp); have k2 : w1.cell? ⟨w.heap.size + 1, 1, none⟩ = some u' := hb.cellOf (by go_simp); have HB1 := Lib.hid (HB.out.trans hb); clear hb)) | (go_at_call 52; ((with_reducible refine (eqStringS_c u u' _ t.writes (RStrs.below Hr2.out HB1.out) (RStrs.below Hr2'.out HB1.out)).mono ?_); rintro e w2 ⟨rfl, hb⟩; have HB2 := Lib.hid (HB1.out.trans hb); clear hb)))
  go_ret
  exact ⟨rfl, HB2.out⟩

theorem markTouch_c (r u : Value) (k : Nat) (q : Int) (hq : q = k) (w : World) (t : TouchD) (S : List Nat) (h : OTouch w r u t S) (hs : smT t) (hk : k ≤ 1099511627776) :
    Calls Try.prog 34 #[.agg #[r, u], .int .i64 q] w fun e w' => e = .returned (.int .i64 ((k + cntT t : Nat) : Int)) ∧ OTouch w' r u (marksT k t) S ∧ KeepBut S w w' := by
  subst hq
  have hlt := h.lt
  obtain ⟨hO1, hO2, rfl, hnd⟩ := h
  obtain ⟨hs1, hs2⟩ := hs
  have hdis : ∀ b ∈ r.ownBlock.toList, ∀ c ∈ u.ownBlock.toList, b ≠ c := (List.nodup_append.1 hnd).2.2
  have hN1 : w.heap.size ∉ r.ownBlock.toList := fun hb => by have := hlt _ (List.mem_append_left _ hb); omega
  have hB : Bl w (w.alloc (.cells #[r, u] 33)) := (Bl.refl w).alloc _
  have hO1' := hO1.below hB
  have Hnd := Lib.hid hnd; have Hdis := Lib.hid hdis; have HO1 := Lib.hid hO1'; have HO2 := Lib.hid (hO2.below hB); have HN1 := Lib.hid hN1; have HB := Lib.hid hB
  clear hnd hdis hO1 hO2 hO1' hlt hN1 hB
  go_enter Try.func34, Try.ntmps34
  go_wp2_with (first | (go_at_call 54; ((with_reducible refine (markStringS_c r k _ (by omega) _ t.reads HO1.out (by omega)).mono ?_); rintro e w1 ⟨rfl, hO1, hk1⟩; have k1 : w1.cell? ⟨w.heap.size, 1, none⟩ = some u := hk1.cellOf (by go_simp) HN1.out; have HO1b := Lib.hid hO1; have HO2b := Lib.hid (HO2.out.keep hk1 (fun b hb hc => Hdis.out b hc b hb rfl)); have HK1 := Lib.hid hk1; clear hO1 hk1)) | (go_at_call 54; ((with_reducible refine (markStringS_c u (k + t.reads.length) _ (by omega) _ t.writes HO2b.out (by omega)).mono ?_); rintro e w2 ⟨rfl, hO2, hk2⟩; have HO2c := Lib.hid hO2; have HO1c := Lib.hid (HO1b.out.keep hk2 (fun b hb hc => Hdis.out b hb b hc rfl)); have HK2 := Lib.hid hk2; clear hO2 hk2)))
  go_ret
  refine ⟨ret_int (by unfold cntT; omega), ⟨?_, ?_, rfl, Hnd.out⟩, ?_⟩
  · exact HO1c.out
  · exact HO2c.out
  · exact ((HK1.out.after HB.out).mono (fun x hx => .inl (List.mem_append_left _ hx))).trans HK2.out (fun x hx => .inl (List.mem_append_right _ hx))

theorem heldTouch_c (r u : Value) (k : Nat) (q : Int) (hq : q = k) (w : World) (t : TouchD) (h : RTouch w r u (marksT k t)) (hs : smT t) (hk : k ≤ 1099511627776) :
    Calls Try.prog 38 #[.agg #[r, u], .int .i64 q] w fun e w' => e = .returned (.int .i64 ((k + cntT t : Nat) : Int)) ∧ Bl w w' := by
  subst hq
  obtain ⟨hr1, hr2⟩ := h
  obtain ⟨hs1, hs2⟩ := hs
  have HB := Lib.hid ((Bl.refl w).alloc (.cells #[r, u] 33))
  have Hr1 := Lib.hid hr1; have Hr2 := Lib.hid hr2
  clear hr1 hr2
  go_enter Try.func38, Try.ntmps38
  go_wp2_with (first | (go_at_call 55; ((with_reducible refine (heldStringS_c r k t.reads.length _ (by omega) _ (RStrs.below Hr1.out HB.out) (by omega)).mono ?_); rintro e w1 ⟨rfl, hb⟩; have k1 : w1.cell? ⟨w.heap.size, 1, none⟩ = some u := hb.cellOf (by go_simp); have HB1 := Lib.hid (HB.out.trans hb); clear hb)) | (go_at_call 55; ((with_reducible refine (heldStringS_c u (k + t.reads.length) t.writes.length _ (by omega) _ (RStrs.below Hr2.out HB1.out) (by omega)).mono ?_); rintro e w2 ⟨rfl, hb⟩; have HB2 := Lib.hid (HB1.out.trans hb); clear hb)))
  go_ret
  exact ⟨ret_int (by unfold cntT; omega), HB2.out⟩
end Go.Proofs.Ytkebmooffbkpgaa
