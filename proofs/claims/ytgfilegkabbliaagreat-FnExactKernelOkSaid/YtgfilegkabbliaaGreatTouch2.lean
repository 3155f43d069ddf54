/-
  Contracts: access sets (Touch) as values: clone, join, the laws' helpers, both JoinTouch.
-/
import Derived.Test.YtgfilegkabbliaaGreatTouch
namespace Go.Proofs.YtgfilegkabbliaaGreat
open Go.ChangeShapes Go.WideShapes Go.ChangeAt Go.RowKit
set_option maxHeartbeats 1000000
set_option maxRecDepth 100000

structure TouchD where
  reads : List ByteArray
  writes : List ByteArray
deriving DecidableEq
def joinL (l : List ByteArray) (m : List ByteArray) : List ByteArray := m.foldl putL l
def joinT (a b : TouchD) : TouchD := ⟨joinL a.reads b.reads, joinL a.writes b.writes⟩
def szTouchD (t : TouchD) : Nat := szStrs t.reads + szStrs t.writes
def marksT (k : Nat) (t : TouchD) : TouchD := ⟨marks k t.reads.length, marks (k + t.reads.length) t.writes.length⟩
def cntT (t : TouchD) : Nat := t.reads.length + t.writes.length
/-- Access sets of at most a million texts in all. -/
def smT (t : TouchD) : Prop := t.reads.length ≤ 1048576 ∧ t.writes.length ≤ 1048576
/-- A slice's value, by its address, length and capacity. -/
structure Sl where
  a : Option Addr
  n : Nat
  c : Nat
abbrev Sl.v (s : Sl) : Value := .slice s.a s.n s.c
def Sl.blk (s : Sl) : List Nat := s.v.ownBlock.toList

def RTouch (w : World) (r u : Value) (t : TouchD) : Prop := RStrs w r t.reads ∧ RStrs w u t.writes
def ATouch (w : World) (r u : Value) (t : TouchD) : Prop := AStrs w r t.reads ∧ AStrs w u t.writes
/-- Owned: the blocks S, which differ. -/
def OTouch (w : World) (r u : Value) (t : TouchD) (S : List Nat) : Prop := OStrs w r t.reads ∧ OStrs w u t.writes ∧ S = r.ownBlock.toList ++ u.ownBlock.toList ∧ S.Nodup
theorem OTouch.rd {w : World} {r u : Value} {t : TouchD} {S : List Nat} (h : OTouch w r u t S) : RTouch w r u t := ⟨OStrs.rd h.1, OStrs.rd h.2.1⟩
theorem RTouch.below {w w' : World} {r u : Value} {t : TouchD} (h : RTouch w r u t) (hb : Bl w w') : RTouch w' r u t := ⟨RStrs.below h.1 hb, RStrs.below h.2 hb⟩
theorem ATouch.below {w w' : World} {r u : Value} {t : TouchD} (h : ATouch w r u t) (hb : Bl w w') : ATouch w' r u t := ⟨AStrs.below h.1 hb, AStrs.below h.2 hb⟩
theorem OTouch.keep {w w' : World} {r u : Value} {t : TouchD} {S T : List Nat} (h : OTouch w r u t S) (hb : KeepBut T w w') (hS : ∀ b ∈ S, b ∉ T) : OTouch w' r u t S := by
  obtain ⟨h1, h2, rfl, h4⟩ := h
  exact ⟨h1.keep hb fun b hb => hS b (by simp [hb]), h2.keep hb fun b hb => hS b (by simp [hb]), rfl, h4⟩
theorem OTouch.below {w w' : World} {r u : Value} {t : TouchD} {S : List Nat} (h : OTouch w r u t S) (hb : Bl w w') : OTouch w' r u t S := h.keep (hb.keep []) (by simp)
theorem OTouch.lt {w : World} {r u : Value} {t : TouchD} {S : List Nat} (h : OTouch w r u t S) : ∀ b ∈ S, b < w.heap.size := by
  obtain ⟨h1, h2, rfl, h4⟩ := h
  intro b hb
  rcases List.mem_append.1 hb with hb | hb
  · exact h1.lt b hb
  · exact h2.lt b hb

theorem szTouch_c (r u : Value) (n : Int) (w : World) (t : TouchD) (hr : ATouch w r u t) (h0 : 0 ≤ n) (h1 : n ≤ 1048576) :
    Calls Tryz.prog 60 #[.agg #[r, u], .int .i64 n] w fun e w' => e = .returned (.int .i64 (subOr n (szTouchD t))) ∧ Bl w w' := by
  obtain ⟨hr1, hr2⟩ := hr
  have hbd := subOr_bd n (szStrs t.reads) h0
  have hadd := subOr_add n (szStrs t.reads) (szStrs t.writes)
  have hneg := subOr_neg n (szStrs t.reads) (szStrs t.writes)
  have hB : Bl w (w.alloc (.cells #[r, u] 80)) := (Bl.refl w).alloc _
  have k0 : (w.alloc (.cells #[r, u] 80)).cell? ⟨w.heap.size, 0, none⟩ = some r := by simp
  have k1 : (w.alloc (.cells #[r, u] 80)).cell? ⟨w.heap.size, 1, none⟩ = some u := by simp
  obtain ⟨q, hq⟩ : ∃ q, subOr n (szStrs t.reads) = q := ⟨_, rfl⟩
  rw [hq] at hbd hadd hneg
  have Hr1 := Lib.hid hr1; have Hr2 := Lib.hid hr2; have Hq := Lib.hid hq; have Hadd := Lib.hid hadd; have Hneg := Lib.hid hneg; have HB := Lib.hid hB
  clear hr1 hr2 hq hadd hneg hB
  go_enter Tryz.func60, Tryz.ntmps60
  go_wp2_with (first | (go_at_call 13; ((with_reducible refine (szStringS_c r n _ t.reads (AStrs.below Hr1.out HB.out) h0 h1).mono ?_); rintro e w1 ⟨rfl, hb⟩; rw [Hq.out]; replace k0 := hb.cellOf k0; replace k1 := hb.cellOf k1; have HB1 := Lib.hid (HB.out.trans hb); clear hb)) | (go_at_call 13; ((with_reducible refine (szStringS_c u q _ t.writes (AStrs.below Hr2.out HB1.out) (by omega) (by omega)).mono ?_); rintro e w2 ⟨rfl, hb⟩; have HB2 := Lib.hid (HB1.out.trans hb); clear hb)))
  all_goals go_ret
  · exact ⟨ret_int (Hneg.out (by assumption)).symm, HB1.out⟩
  · refine ⟨ret_int ?_, HB2.out⟩
    have := Hadd.out (by assumption)
    unfold szTouchD; unfold subOr at *
    split at this <;> omega
  · refine ⟨ret_int ?_, HB2.out⟩
    exact Hadd.out (by assumption)

theorem toTouch_c (r u : Value) (w : World) (t : TouchD) (hr : ATouch w r u t) (h1 : t.reads.length ≤ 1048576) (h2 : t.writes.length ≤ 1048576) :
    Calls Tryz.prog 67 #[.agg #[r, u]] w fun e w' => ∃ a1 n1 c1 a2 n2 c2 S, e = .returned (.agg #[.slice a1 n1 c1, .slice a2 n2 c2]) ∧ OTouch w' (.slice a1 n1 c1) (.slice a2 n2 c2) t S ∧ (∀ b ∈ S, w.heap.size ≤ b) ∧ Bl w w' := by
  obtain ⟨hr1, hr2⟩ := hr
  have Hr1 := Lib.hid hr1; have Hr2 := Lib.hid hr2
  clear hr1 hr2
  go_enter Tryz.func67, Tryz.ntmps67
  go_wp2_with (first | (go_at_call 23; ((with_reducible refine (toStringS_s r _ t.reads (AStrs.below Hr1.out (by repeat (first | exact Bl.refl _ | refine Bl.alloc ?_ _ | refine Bl.drew ?_))) h1).mono ?_); rintro e w1 ⟨a1, n1, c1, rfl, hO1, hf1, hb⟩; have HO1 := Lib.hid hO1; have HF1 := Lib.hid hf1; have HB1 := Lib.hid hb; have k0 : w1.cell? ⟨w.heap.size, 0, none⟩ = some r := hb.cellOf (by go_simp); have k1 : w1.cell? ⟨w.heap.size, 1, none⟩ = some u := hb.cellOf (by go_simp); have k2 : ∀ o, w1.frozen? ⟨w.heap.size + 1 + 1, o, none⟩ = false := fun o => hb.frozenOf (by simp) (by go_simp); have k3 : ∀ o, w1.frozen? ⟨w.heap.size + 1, o, none⟩ = false := fun o => hb.frozenOf (by simp) (by go_simp); have k4 : w1.cell? ⟨w.heap.size + 1, 0, none⟩ = some (.slice none 0 0) := hb.cellOf (by go_simp); have k5 : w1.cell? ⟨w.heap.size + 1, 1, none⟩ = some (.slice none 0 0) := hb.cellOf (by go_simp); have k6 : w1.cell? ⟨w.heap.size + 1 + 1, 0, none⟩ = some (.slice none 0 0) := hb.cellOf (by go_simp); have k7 : w1.cell? ⟨w.heap.size + 1 + 1, 1, none⟩ = some (.slice none 0 0) := hb.cellOf (by go_simp); have BW := Lib.hid ((((Bl.refl w).alloc (.cells #[r, u] 80)).alloc (.cells #[.slice none 0 0, .slice none 0 0] 55)).alloc (.cells #[.slice none 0 0, .slice none 0 0] 55) |>.trans hb); clear hb hO1 hf1)) | (go_at_call 23; ((with_reducible refine (toStringS_s u _ t.writes (AStrs.below Hr2.out (Bl.setCell BW.out (by simp; omega) _)) h2).mono ?_); rintro e w2 ⟨a2, n2, c2, rfl, hO2, hf2, hb⟩; have HO2 := Lib.hid hO2; have HF2 := Lib.hid hf2; have HB2 := Lib.hid hb; have m2 : ∀ o, w2.frozen? ⟨w.heap.size + 1 + 1, o, none⟩ = false := fun o => hb.frozenOf (by have := HB1.out.size; simp at this; simp; omega) (by go_simp); have m3 : ∀ o, w2.frozen? ⟨w.heap.size + 1, o, none⟩ = false := fun o => hb.frozenOf (by have := HB1.out.size; simp at this; simp; omega) (by go_simp); have m4 : w2.cell? ⟨w.heap.size + 1, 0, none⟩ = some (.slice none 0 0) := hb.cellOf (by go_simp); have m5 : w2.cell? ⟨w.heap.size + 1, 1, none⟩ = some (.slice none 0 0) := hb.cellOf (by go_simp); have m6 : w2.cell? ⟨w.heap.size + 1 + 1, 0, none⟩ = some (.slice a1 n1 c1) := hb.cellOf (by go_simp); have m7 : w2.cell? ⟨w.heap.size + 1 + 1, 1, none⟩ = some (.slice none 0 0) := hb.cellOf (by go_simp); clear hb hO2 hf2 k0 k1 k2 k3 k4 k5 k6 k7)))
  have hkA : KeepBut [w.heap.size + 1, w.heap.size + 1 + 1] w1 w2 := (((KeepBut.refl _ w1).setCell (p := ⟨w.heap.size + 1 + 1, 0, none⟩) (.inl (by simp)) (.slice a1 n1 c1))).before HB2.out
  have hkB : KeepBut [w.heap.size + 1, w.heap.size + 1 + 1] w2 (((w2.setCell ⟨w.heap.size + 1 + 1, 1, none⟩ (.slice a2 n2 c2)).setCell ⟨w.heap.size + 1, 0, none⟩ (.slice a1 n1 c1)).setCell ⟨w.heap.size + 1, 1, none⟩ (.slice a2 n2 c2)) := (((KeepBut.refl _ w2).setCell (.inl (by simp)) _).setCell (.inl (by simp)) _).setCell (.inl (by simp)) _
  have f1 : ∀ b ∈ (Value.slice a1 n1 c1).ownBlock.toList, w.heap.size + 1 + 1 + 1 ≤ b := fun b hb => by have := HF1.out b hb; simpa using this
  have f2 : ∀ b ∈ (Value.slice a2 n2 c2).ownBlock.toList, w1.heap.size ≤ b := fun b hb => by have := HF2.out b hb; simpa using this
  have hz1 : w.heap.size + 1 + 1 + 1 ≤ w1.heap.size := by have := HB1.out.size; simpa using this
  have hlt1 := HO1.out.lt
  have HkA := Lib.hid hkA; have HkB := Lib.hid hkB; have F1 := Lib.hid f1; have F2 := Lib.hid f2; have Hlt1 := Lib.hid hlt1
  clear hkA hkB f1 f2 hlt1
  refine bodyPost_ret (v := .agg #[.slice a1 n1 c1, .slice a2 n2 c2]) (by simp [results, Tryz.results67, go_sem, m4, m5]) rfl ⟨_, _, _, _, _, _, _, rfl, ⟨?_, ?_, rfl, ?_⟩, ?_, ?_⟩
  · exact (HO1.out.keep HkA.out (fun b hb => by have := F1.out b hb; simp; omega)).keep HkB.out (fun b hb => by have := F1.out b hb; simp; omega)
  · exact HO2.out.keep HkB.out (fun b hb => by have := F2.out b hb; simp; omega)
  · exact own_nodup2 fun b hb c hc => by have h1 := Hlt1.out b hb; have h2 := F2.out c hc; omega
  · intro b hb
    rcases List.mem_append.1 hb with hb | hb
    · have := F1.out b hb; omega
    · have := F2.out b hb; omega
  · exact (HkA.out.trans HkB.out (fun x hx => .inl hx)).under BW.out (by simp; omega)

theorem eqTouch_c (r u r' u' : Value) (w : World) (t : TouchD) (h : RTouch w r u t) (h' : RTouch w r' u' t) :
    Calls Tryz.prog 74 #[.agg #[r, u], .agg #[r', u']] w fun e w' => e = .returned (.bool true) ∧ Bl w w' := by
  obtain ⟨hr1, hr2⟩ := h
  obtain ⟨hr1', hr2'⟩ := h'
  have Hr1 := Lib.hid hr1; have Hr2 := Lib.hid hr2; have Hr1' := Lib.hid hr1'; have Hr2' := Lib.hid hr2'
  have HB := Lib.hid (((Bl.refl w).alloc (.cells #[r, u] 55)).alloc (.cells #[r', u'] 55))
  clear hr1 hr2 hr1' hr2'
  go_enter Tryz.func74, Tryz.ntmps74
  go_wp2_with (first | (go_at_call 33; ((with_reducible refine (eqStringS_c r r' _ t.reads (RStrs.below Hr1.out HB.out) (RStrs.below Hr1'.out HB.out)).mono ?_); rintro e w1 ⟨rfl, hb⟩; have k1 : w1.cell? ⟨w.heap.size, 1, none⟩ = some u := hb.cellOf (by go_simp); have k2 : w1.cell? ⟨w.heap.size + 1, 1, none⟩ = some u' := hb.cellOf (by go_simp); have HB1 := Lib.hid (HB.out.trans hb); clear hb)) | (go_at_call 33; ((with_reducible refine (eqStringS_c u u' _ t.writes (RStrs.below Hr2.out HB1.out) (RStrs.below Hr2'.out HB1.out)).mono ?_); rintro e w2 ⟨rfl, hb⟩; have HB2 := Lib.hid (HB1.out.trans hb); clear hb)))
  go_ret
  exact ⟨rfl, HB2.out⟩

end Go.Proofs.YtgfilegkabbliaaGreat
