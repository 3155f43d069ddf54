/-
  Tables and variables of the library that the walks lean on: they stand as they were laid, in blocks that no piece holds.
-/
import Derived.Lib.LaidTab
import Derived.Test.YtibgmijfnbnfkaaGreatDoorShelf
import Derived.Test.YtibgmijfnbnfkaaGreatDoorEng9
namespace Go.Proofs.YtibgmijfnbnfkaaGreatDoor
open Go.ChangeShapes Go.WideShapes Go.ChangeAt Go.RowKit
/-- What the worlds hold: 0: the table of the powers of ten; 1: strconv's two errors; 2: hex's error. -/
def Ground : Nat → World → Prop
  | 0, w => Lib.TabIs Tryz.prog w "internal/strconv.uint64pow10" .u64 Lib.pow10Tab
  | 1, w => (∃ ev, w.cell? ⟨laysAtoi_ren.g 15, 0, none⟩ = some ev ∧ errV ev) ∧ ∃ ev, w.cell? ⟨laysAtoi_ren.g 16, 0, none⟩ = some ev ∧ errV ev
  | _, w => ∃ ev, w.cell? ⟨laysUnhex_ren.g 0, 0, none⟩ = some ev ∧ errV ev
/-- The blocks in which that lies. -/
def GS : Nat → List Nat
  | 0 => [laysItoa_ren.g 17]
  | 1 => [laysAtoi_ren.g 15, laysAtoi_ren.g 16]
  | _ => [laysUnhex_ren.g 0]
theorem cell_same {w w' : World} {g : Nat} (e : w'.heap[g]? = w.heap[g]?) : w'.cell? ⟨g, 0, none⟩ = w.cell? ⟨g, 0, none⟩ := by
  unfold World.cell?
  simp only [e]
theorem Ground.same : ∀ {K : Nat} {w w' : World}, Ground K w → (∀ g ∈ GS K, w'.heap[g]? = w.heap[g]?) → Ground K w'
  | 0, w, w', h, e => by
    have hg : Tryz.prog.globalNamed "internal/strconv.uint64pow10" = some (laysItoa_ren.g 17) := laysItoa.m17
    have e := e _ (List.mem_singleton.2 rfl)
    generalize laysItoa_ren.g 17 = g at hg e
    have h2 : ∀ v : World, v.var? Tryz.prog "internal/strconv.uint64pow10" = match v.heap[g]? with
        | some (.cells cs _ _) => some cs
        | _ => none := fun v => by unfold World.var?; rw [hg]; rfl
    show w'.var? _ _ = _
    have h3 : w.var? Tryz.prog "internal/strconv.uint64pow10" = _ := h
    rw [h2, e, ← h2]; exact h3
  | 1, w, w', ⟨h1, h2⟩, e => by
    have e1 := cell_same (e _ (List.mem_cons_self ..))
    have e2 := cell_same (e _ (List.mem_cons_of_mem _ (List.mem_singleton.2 rfl)))
    show (∃ ev, w'.cell? ⟨laysAtoi_ren.g 15, 0, none⟩ = some ev ∧ errV ev) ∧ ∃ ev, w'.cell? ⟨laysAtoi_ren.g 16, 0, none⟩ = some ev ∧ errV ev
    rw [e1, e2]; exact ⟨h1, h2⟩
  | _ + 2, w, w', h, e => by
    have e1 := cell_same (e _ (List.mem_singleton.2 rfl))
    show ∃ ev, w'.cell? ⟨laysUnhex_ren.g 0, 0, none⟩ = some ev ∧ errV ev
    rw [e1]; exact h
def Tb (K : Nat) (H : Nat → Prop) (w : World) : Prop := Ground K w ∧ ∀ g ∈ GS K, H g ∧ g < w.heap.size
section
variable {K : Nat} {H : Nat → Prop} {w : World}
theorem Tb.mono {H' : Nat → Prop} (h : Tb K H w) (hH : ∀ b, H b → H' b) : Tb K H' w := ⟨h.1, fun g hg => ⟨hH _ (h.2 g hg).1, (h.2 g hg).2⟩⟩
theorem Tb.top (h : Tb K H w) : Tb K (fun _ => True) w := h.mono fun _ _ => trivial
theorem Tb.start {L : List Atom} (h : Tb K H w) (hL : ∀ b, H b → ¬ fps L b) : Tb K (V H w L) w := h.1 |> fun h1 => ⟨h1, fun g hg => ⟨⟨.inl (h.2 g hg).1, hL _ (h.2 g hg).1⟩, (h.2 g hg).2⟩⟩
theorem Tb.mv {G : Nat → Prop} {w0 w' : World} {L L' : List Atom} (h : Tb K (V G w0 L) w) (m : Mv L w L' w') : Tb K (V G w0 L') w' :=
  ⟨h.1.same fun g hg => m.kp.block g (h.2 g hg).2 (h.2 g hg).1.2, fun g hg => by
    have h1 := h.2 g hg
    refine ⟨⟨h1.1.1, fun hf => ?_⟩, Nat.lt_of_lt_of_le h1.2 m.kp.size⟩
    rcases m.fresh g hf with h2 | h2
    · exact h1.1.2 h2
    · omega⟩
end
theorem mv_below {w w' : World} (h : Below w.heap.size w w') : Mv [] w [] w' := ⟨At.nil _, fun _ h => .inl h, ⟨h.os, h.tape, h.output, h.size, fun k hk _ => h.block k hk⟩⟩
theorem below_grow (w : World) (k : Nat) (os : Array Obj) : Below w.heap.size w (Sort.grow (w.drewN k) os) := ⟨rfl, rfl, rfl, by simp [Sort.grow], fun i hi => by simp [Sort.grow, Array.getElem?_append_left hi]⟩
/-- How strconv.Atoi ends. -/
def atoiR (s : ByteArray) (r : Int) (ev : Value) : Prop := (Lib.atoiAll s.data.toList = .ok r ∧ ev = .nilIface) ∨ ((∀ v, Lib.atoiAll s.data.toList ≠ .ok v) ∧ isErr ev = true)
end Go.Proofs.YtibgmijfnbnfkaaGreatDoor
