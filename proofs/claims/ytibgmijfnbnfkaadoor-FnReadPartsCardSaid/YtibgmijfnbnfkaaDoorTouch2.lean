/-
  Contracts: access sets (Touch) as values: clone, join, the laws' helpers, both JoinTouch.
-/
import Derived.Test.YtibgmijfnbnfkaaDoorTouch
namespace Go.Proofs.YtibgmijfnbnfkaaDoor
open Go.ChangeShapes Go.WideShapes Go.ChangeAt Go.RowKit
set_option maxHeartbeats 1000000
set_option maxRecDepth 100000

structure TouchD where
  reads : List ByteArray
  writes : List ByteArray
deriving DecidableEq
def joinL (l : List ByteArray) (m : List ByteArray) : List ByteArray := m.foldl putL l
def joinT (a b : TouchD) : TouchD := ⟨joinL a.reads b.reads, joinL a.writes b.writes⟩
def szTouchD (t : TouchD) : Nat := szStrs t.reads + szStrs t.writes
def marksT (k : Nat) (t : TouchD) : TouchD := ⟨marks k t.reads.length, marks (k + t.reads.length) t.writes.length⟩
def cntT (t : TouchD) : Nat := t.reads.length + t.writes.length
/-- Access sets of at most a million texts in all. -/
def smT (t : TouchD) : Prop := t.reads.length ≤ 1048576 ∧ t.writes.length ≤ 1048576
/-- A slice's value, by its address, length and capacity. -/
structure Sl where
  a : Option Addr
  n : Nat
  c : Nat
abbrev Sl.v (s : Sl) : Value := .slice s.a s.n s.c
def Sl.blk (s : Sl) : List Nat := s.v.ownBlock.toList

def RTouch (w : World) (r u : Value) (t : TouchD) : Prop := RStrs w r t.reads ∧ RStrs w u t.writes
def ATouch (w : World) (r u : Value) (t : TouchD) : Prop := AStrs w r t.reads ∧ AStrs w u t.writes
/-- Owned: the blocks S, which differ. -/
def OTouch (w : World) (r u : Value) (t : TouchD) (S : List Nat) : Prop := OStrs w r t.reads ∧ OStrs w u t.writes ∧ S = r.ownBlock.toList ++ u.ownBlock.toList ∧ S.Nodup
theorem OTouch.rd {w : World} {r u : Value} {t : TouchD} {S : List Nat} (h : OTouch w r u t S) : RTouch w r u t := ⟨OStrs.rd h.1, OStrs.rd h.2.1⟩
theorem RTouch.below {w w' : World} {r u : Value} {t : TouchD} (h : RTouch w r u t) (hb : Bl w w') : RTouch w' r u t := ⟨RStrs.below h.1 hb, RStrs.below h.2 hb⟩
theorem ATouch.below {w w' : World} {r u : Value} {t : TouchD} (h : ATouch w r u t) (hb : Bl w w') : ATouch w' r u t := ⟨AStrs.below h.1 hb, AStrs.below h.2 hb⟩
theorem OTouch.keep {w w' : World} {r u : Value} {t : TouchD} {S T : List Nat} (h : OTouch w r u t S) (hb : KeepBut T w w') (hS : ∀ b ∈ S, b ∉ T) : OTouch w' r u t S := by
  obtain ⟨h1, h2, rfl, h4⟩ := h
  exact ⟨h1.keep hb fun b hb => hS b (by simp [hb]), h2.keep hb fun b hb => hS b (by simp [hb]), rfl, h4⟩
theorem OTouch.below {w w' : World} {r u : Value} {t : TouchD} {S : List Nat} (h : OTouch w r u t S) (hb : Bl w w') : OTouch w' r u t S := h.keep (hb.keep []) (by simp)
theorem OTouch.lt {w : World} {r u : Value} {t : TouchD} {S : List Nat} (h : OTouch w r u t S) : ∀ b ∈ S, b < w.heap.size := by
  obtain ⟨h1, h2, rfl, h4⟩ := h
  intro b hb
  rcases List.mem_append.1 hb with hb | hb
  · exact h1.lt b hb
  · exact h2.lt b hb

theorem cloneTouch_c (r u : Value) (w : World) (t : TouchD) (hr : RTouch w r u t) (h1 : t.reads.length ≤ 549755813888) (h2 : t.writes.length ≤ 549755813888) :
    Calls Tryd.prog 33 #[.agg #[r, u]] w fun e w' => ∃ a1 n1 c1 a2 n2 c2 S, e = .returned (.agg #[.slice a1 n1 c1, .slice a2 n2 c2]) ∧ OTouch w' (.slice a1 n1 c1) (.slice a2 n2 c2) t S ∧ (∀ b ∈ S, w.heap.size ≤ b) ∧ Bl w w' := by
  obtain ⟨hr1, hr2⟩ := hr
  have Hr1 := Lib.hid hr1; have Hr2 := Lib.hid hr2
  clear hr1 hr2
  go_enter Tryd.func33, Tryd.ntmps33
  go_wp2
  go_region_held3 (fun w' => w'.cell? ⟨w.heap.size, 0, none⟩ = some r ∧ w'.cell? ⟨w.heap.size, 1, none⟩ = some u) (first | (go_split_ands; exact ⟨hb.cellOf (by assumption), hb.cellOf (by assumption)⟩) | go_keep) (first | (go_at_call 44; ((with_reducible refine (cloneStrs_s r _ t.reads (RStrs.below Hr1.out (by repeat (first | exact Bl.refl _ | refine Bl.alloc ?_ _ | refine Bl.drew ?_))) (by omega)).mono ?_); rintro e w1 ⟨a1, n1, c1, rfl, hO1, hf1, hb⟩; have HO1 := Lib.hid hO1; have HF1 := Lib.hid hf1; have HB1 := Lib.hid hb)) | (go_at_call 44; ((with_reducible refine (cloneStrs_s u _ t.writes (RStrs.below Hr2.out (Bl.trans (by repeat (first | exact Bl.refl _ | refine Bl.alloc ?_ _ | refine Bl.drew ?_)) HB1.out)) (by omega)).mono ?_); rintro e w2 ⟨a2, n2, c2, rfl, hO2, hf2, hb⟩; have HO2 := Lib.hid hO2; have HF2 := Lib.hid hf2; have HB2 := Lib.hid hb; have k0 : w2.cell? ⟨w.heap.size + 1, 0, none⟩ = some (.slice none 0 0) := hb.cellOf (HB1.out.cellOf (by simp)); have k1 : w2.cell? ⟨w.heap.size + 1, 1, none⟩ = some (.slice none 0 0) := hb.cellOf (HB1.out.cellOf (by simp)); have k2 : ∀ o, w2.frozen? ⟨w.heap.size + 1, o, none⟩ = false := fun o => hb.frozenOf (Nat.lt_of_lt_of_le (by simp) HB1.out.size) (HB1.out.frozenOf (by simp) (by simp)))))
  have hN : Bl w w2 := ((((Bl.refl w).alloc _).alloc _).drew.trans HB1.out).trans HB2.out
  have hk3 : KeepBut [w.heap.size + 1] w2 ((w2.setCell ⟨w.heap.size + 1, 0, none⟩ (.slice a1 n1 c1)).setCell ⟨w.heap.size + 1, 1, none⟩ (.slice a2 n2 c2)) := ((KeepBut.refl _ _).setCell (.inl (by simp)) _).setCell (.inl (by simp)) _
  have hz1 := HB1.out.size
  have hlt1 := HO1.out.lt
  have Hk3 := Lib.hid hk3; have HN := Lib.hid hN; have Hz1 := Lib.hid hz1; have Hlt1 := Lib.hid hlt1
  clear hO1 hf1 hO2 hf2 hb hk3 hN hz1 hlt1
  go_wp2
  refine bodyPost_ret (v := .agg #[.slice a1 n1 c1, .slice a2 n2 c2]) (by simp [results, Tryd.results33, go_sem, k0, k1]) rfl ⟨_, _, _, _, _, _, _, rfl, ⟨?_, ?_, rfl, ?_⟩, ?_, ?_⟩
  · exact (HO1.out.below HB2.out).keep Hk3.out (fun b hb => by have := HF1.out b hb; simp at this; simp; omega)
  · exact HO2.out.keep Hk3.out (fun b hb => by have := HF2.out b hb; have h2 := Hz1.out; simp at this h2; simp; omega)
  · exact own_nodup2 fun b hb c hc => by have h1 := Hlt1.out b hb; have h2 := HF2.out c hc; omega
  · intro b hb
    rcases List.mem_append.1 hb with hb | hb
    · have := HF1.out b hb; simp at this; omega
    · have h1 := HF2.out b hb; have h2 := Hz1.out; simp at h2; omega
  · exact Hk3.out.under HN.out (by simp)

/-! ### the laws' helpers -/
end Go.Proofs.YtibgmijfnbnfkaaDoor
