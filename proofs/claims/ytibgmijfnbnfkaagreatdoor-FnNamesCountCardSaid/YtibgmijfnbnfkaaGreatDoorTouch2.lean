/-
  Contracts: access sets (Touch) as values: clone, join, the laws' helpers, both JoinTouch.
-/
import Derived.Test.YtibgmijfnbnfkaaGreatDoorTouch
namespace Go.Proofs.YtibgmijfnbnfkaaGreatDoor
open Go.ChangeShapes Go.WideShapes Go.ChangeAt Go.RowKit
set_option maxHeartbeats 1000000
set_option maxRecDepth 100000

structure TouchD where
  reads : List ByteArray
  writes : List ByteArray
deriving DecidableEq
def joinL (l : List ByteArray) (m : List ByteArray) : List ByteArray := m.foldl putL l
def joinT (a b : TouchD) : TouchD := ⟨joinL a.reads b.reads, joinL a.writes b.writes⟩
/-- A slice's value, by its address, length and capacity. -/
structure Sl where
  a : Option Addr
  n : Nat
  c : Nat
abbrev Sl.v (s : Sl) : Value := .slice s.a s.n s.c
def Sl.blk (s : Sl) : List Nat := s.v.ownBlock.toList

def RTouch (w : World) (r u : Value) (t : TouchD) : Prop := RStrs w r t.reads ∧ RStrs w u t.writes
def ATouch (w : World) (r u : Value) (t : TouchD) : Prop := AStrs w r t.reads ∧ AStrs w u t.writes
/-- Owned: the blocks S, which differ. -/
def OTouch (w : World) (r u : Value) (t : TouchD) (S : List Nat) : Prop := OStrs w r t.reads ∧ OStrs w u t.writes ∧ S = r.ownBlock.toList ++ u.ownBlock.toList ∧ S.Nodup
theorem OTouch.rd {w : World} {r u : Value} {t : TouchD} {S : List Nat} (h : OTouch w r u t S) : RTouch w r u t := ⟨OStrs.rd h.1, OStrs.rd h.2.1⟩
theorem RTouch.below {w w' : World} {r u : Value} {t : TouchD} (h : RTouch w r u t) (hb : Bl w w') : RTouch w' r u t := ⟨RStrs.below h.1 hb, RStrs.below h.2 hb⟩
theorem ATouch.below {w w' : World} {r u : Value} {t : TouchD} (h : ATouch w r u t) (hb : Bl w w') : ATouch w' r u t := ⟨AStrs.below h.1 hb, AStrs.below h.2 hb⟩
theorem OTouch.keep {w w' : World} {r u : Value} {t : TouchD} {S T : List Nat} (h : OTouch w r u t S) (hb : KeepBut T w w') (hS : ∀ b ∈ S, b ∉ T) : OTouch w' r u t S := by
  obtain ⟨h1, h2, rfl, h4⟩ := h
  exact ⟨h1.keep hb fun b hb => hS b (by simp [hb]), h2.keep hb fun b hb => hS b (by simp [hb]), rfl, h4⟩
theorem OTouch.below {w w' : World} {r u : Value} {t : TouchD} {S : List Nat} (h : OTouch w r u t S) (hb : Bl w w') : OTouch w' r u t S := h.keep (hb.keep []) (by simp)
theorem OTouch.lt {w : World} {r u : Value} {t : TouchD} {S : List Nat} (h : OTouch w r u t S) : ∀ b ∈ S, b < w.heap.size := by
  obtain ⟨h1, h2, rfl, h4⟩ := h
  intro b hb
  rcases List.mem_append.1 hb with hb | hb
  · exact h1.lt b hb
  · exact h2.lt b hb

/-! ### the laws' helpers -/
end Go.Proofs.YtibgmijfnbnfkaaGreatDoor
