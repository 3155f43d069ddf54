/-
  Contracts: slices of strings in the laws' helpers (szStringS, toStringS, eqStringS, markText, markStringS, heldStringS).
-/
import Derived.Test.YtibgmijfnbnfkaaGreatDoorMem
namespace Go.Proofs.YtibgmijfnbnfkaaGreatDoor
open Go.ChangeShapes Go.WideShapes Go.ChangeAt Go.RowKit

def encS (s : ByteArray) : List Value := [.string s]
def okS (s : ByteArray) : Prop := s.size ≤ 9223372036854775807
set_option maxHeartbeats 1000000

/-! ### the program's type -/
theorem strT : ElemT Tryz.prog 25 9 (.string ⟨#[]⟩) 1 16 encS where
  ht := Tryz.underlying25
  hT := ⟨by kernel_rfl, rfl, by omega⟩
  hk := fun _ => rfl
  h1 := fun x u hu => by simp [encS] at hu; subst hu; rfl
  by0 := by omega
abbrev RStrs (w : World) (v : Value) (l : List ByteArray) : Prop := RSl 1 (Enc encS okS) w v l
abbrev OStrs (w : World) (v : Value) (l : List ByteArray) : Prop := Own 9 1 encS okS w v l
theorem OStrs.rd {w : World} {v : Value} {l : List ByteArray} (h : OStrs w v l) : RStrs w v l := Own.rd strT.hk h
theorem RStrs.at {w : World} {a : Option Addr} {n cap : Nat} {l : List ByteArray} (h : RStrs w (.slice a n cap) l) (i : Nat) (hi : i < n) :
    ∃ b off s, a = some ⟨b, off, none⟩ ∧ l[i]? = some s ∧ s.size ≤ 9223372036854775807 ∧ w.cell? ⟨b, off + i, none⟩ = some (.string s) := by
  obtain ⟨b, off, s, row, h1, h2, h3, ⟨rfl, h4⟩, h5⟩ := RSl.at h i hi
  exact ⟨b, off, s, h1, h2, h4, by simpa using h5 0 (.string s) rfl⟩
abbrev AStrs (w : World) (v : Value) (l : List ByteArray) : Prop := RArg 1 (Enc encS okS) w v l
theorem AStrs.at {w : World} {a : Option Addr} {n cap : Nat} {l : List ByteArray} (h : AStrs w (.slice a n cap) l) (i : Nat) (hi : i < n) :
    ∃ b off s, a = some ⟨b, off, none⟩ ∧ l[i]? = some s ∧ s.size ≤ 9223372036854775807 ∧ w.cell? ⟨b, off + i, none⟩ = some (.string s) := by
  obtain ⟨b, off, s, row, h1, h2, h3, ⟨rfl, h4⟩, h5⟩ := RArg.at h i hi
  exact ⟨b, off, s, h1, h2, h4, by simpa using h5 0 (.string s) rfl⟩
theorem AStrs.below {w w' : World} {v : Value} {l : List ByteArray} (h : AStrs w v l) (hb : Bl w w') : AStrs w' v l := RArg.below (Enc.stable _ _) h hb
theorem RStrs.below {w w' : World} {v : Value} {l : List ByteArray} (h : RStrs w v l) (hb : Bl w w') : RStrs w' v l := RSl.below (Enc.stable _ _) h hb

/-! ### markStringS, heldStringS -/
end Go.Proofs.YtibgmijfnbnfkaaGreatDoor
