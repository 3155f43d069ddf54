/-
  Small things that the printed walks ask for.
-/
import Derived.Test.YtibgmijfnbnfkaaGreatDoorEng3
namespace Go.Proofs.YtibgmijfnbnfkaaGreatDoor
open Go.ChangeShapes Go.WideShapes Go.ChangeAt Go.RowKit

section
variable {P : Program}
theorem ti_mk {t : TypeId} {d : TypeDesc} {g : Bool} {k : Nat} (h1 : P.underlying t = some d) (h2 : isAggD d = g) (h3 : (P.info? t).map (·.size) = some k) : TI P t g k := by
  refine ⟨⟨d, h1, h2⟩, ?_⟩
  cases hi : P.info? t with
  | none => rw [hi] at h3; cases h3
  | some i => rw [hi] at h3; exact ⟨i, rfl, by simpa using h3⟩
theorem fi_mk {s : TypeId} {fs : Array Field} {i off : Nat} {f : Field} {k : Nat} (h1 : P.underlying s = some (.struct fs)) (h2 : fs[i]? = some f) (h3 : f.offset = off) (h4 : (P.info? f.type).map (·.size) = some (k + 1)) : FI P s i off := by
  cases hi : P.info? f.type with
  | none => rw [hi] at h4; cases h4
  | some inf => rw [hi] at h4; exact ⟨⟨fs, f, h1, h2, h3, inf, hi, by simp at h4; omega⟩⟩
theorem zi_mk {t : TypeId} {z : Value} (h : (P.info? t).map (·.zero) = some (some z)) : ZI P t z := by
  cases hi : P.info? t with
  | none => rw [hi] at h; cases h
  | some inf => rw [hi] at h; exact ⟨⟨inf, hi, by simpa using h⟩⟩
theorem bi_mk2 {t : TypeId} {places : List (Nat × Nat)} {z : List Value} {fs : Array Field} {zv : Value} (h2 : P.underlying t = some (.struct fs)) (h1 : (P.info? t).map (·.zero) = some (some zv)) (h4 : zv.cells = z.toArray)
    (h5 : fs.toList.mapM (fun f => (P.info? f.type).map fun i => (f.offset, i.size)) = some places) : BI P t places z := by
  cases hi : P.info? t with
  | none => rw [hi] at h1; cases h1
  | some it => rw [hi] at h1; exact bi_mk hi h2 (by simpa using h1) h4 h5
variable {o : Oper} {ρ : Operand → Value} {w : World}
theorem r_makeFuncL {f : Fn} {cs : Array Operand} {us : List Value} (ho : o.op = .makeFunc f #[] cs) (h2 : cs.toList.map ρ = us) : (execOp ρ o).run P w = .ok (.value (.func f #[] us.toArray)) w := by
  have : cs.map ρ = us.toArray := by rw [← h2]; apply Array.ext'; simp
  simp [execOp, ho, this, Instr.makeFunc]
end
theorem pr2 {i : Nat} {a b : Value} (h : a = b) : (i, a) = (i, b) := by rw [h]
theorem rowsOk {α : Type} {enc : α → List Value} {l : List α} {vs : List Value} (h : vs.map (fun v => v.cells.toList) = l.map enc) : ∀ (i : Nat) (x : α) (v : Value), l[i]? = some x → vs[i]? = some v → v.cells.toList = enc x := by
  intro i x v h1 h2
  have := congrArg (·[i]?) h
  simp [h1, h2] at this
  exact this
theorem okS_cat {a b : ByteArray} (h : a.size + b.size ≤ 9223372036854775807) : okS (a ++ b) := by
  unfold okS; rw [ByteArray.size_append]; exact h
theorem okS_ext {a : ByteArray} {i j : Nat} (h : okS a) : okS (a.extract i j) := by
  unfold okS at *
  rw [ByteArray.size_extract]; omega
theorem mv_nil {α : Type} {e k : Nat} {enc : α → List Value} {ok : α → Prop} {w : World} {L : List Atom} (A : At w L) : Mv L w (ow e k enc ok (.slice none 0 0) ([] : List α) :: L) w :=
  ⟨⟨fun B hB => by
      rcases List.mem_cons.1 hB with rfl | hB
      · exact own_nil _ _ _ _ _
      · exact A.ok B hB,
    fun b hb => by
      rcases fps_cons.1 hb with hb | hb
      · cases hb
      · exact A.lt b hb,
    .cons (fun B _ b hb => by cases hb) A.apart⟩,
   fun b hb => by
      rcases fps_cons.1 hb with hb | hb
      · cases hb
      · exact .inl hb, Kp.refl _ _⟩
theorem Fr.cast {n : Nat} {m m' : List (Nat × Value)} {a : Act} (h : Fr n m a) (e : m = m') : Fr n m' a := e ▸ h
end Go.Proofs.YtibgmijfnbnfkaaGreatDoor
