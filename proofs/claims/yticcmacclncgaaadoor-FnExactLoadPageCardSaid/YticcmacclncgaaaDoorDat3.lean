/-
  Plain functions on machines: lay, wipe.
-/
import Derived.Test.YticcmacclncgaaaDoorDat2
namespace Go.Proofs.YticcmacclncgaaaDoor
open Go.ChangeShapes Go.WideShapes Go.ChangeAt Go.RowKit
set_option maxRecDepth 100000
set_option maxHeartbeats 1000000

def layM (m : MachD) (key val : ByteArray) : MachD := ⟨putKey m.store key val, ⟨m.touch.reads, putL m.touch.writes key⟩⟩
def wipeL (m : MachD) (ks : List ByteArray) : MachD := ks.foldl (fun m k => layM m k ⟨#[]⟩) m
def wipeM (m : MachD) (pfx : ByteArray) : MachD := wipeL (lookM m (pfx ++ ⟨#[42]⟩)) (keysUnder m.store pfx)
theorem wipeL_step {m : MachD} {ks : List ByteArray} {k : Nat} {x : ByteArray} (hx : nth ks k = some x) : wipeL m (ks.take (k + 1)) = layM (wipeL m (ks.take k)) x ⟨#[]⟩ := by
  rw [nth_take_snoc hx]; unfold wipeL; rw [List.foldl_append]; rfl
theorem wipeL_bd (m : MachD) (ks : List ByteArray) : (wipeL m ks).store.length ≤ m.store.length + ks.length ∧ (wipeL m ks).touch.reads.length = m.touch.reads.length ∧ (wipeL m ks).touch.writes.length ≤ m.touch.writes.length + ks.length := by
  induction ks generalizing m with
  | nil => simp [wipeL]
  | cons x ks ih =>
    have h1 := ih (layM m x ⟨#[]⟩)
    have h2 := putKey_length m.store x ⟨#[]⟩
    have h3 := putL_length m.touch.writes x
    simp only [wipeL, List.foldl_cons, List.length_cons] at h1 ⊢
    simp only [layM] at h1
    simp only [layM]
    omega
theorem wipeM_bd (m : MachD) (pfx : ByteArray) : (wipeM m pfx).store.length ≤ 2 * m.store.length ∧ (wipeM m pfx).touch.reads.length ≤ m.touch.reads.length + 1 ∧ (wipeM m pfx).touch.writes.length ≤ m.touch.writes.length + m.store.length := by
  have h1 := wipeL_bd (lookM m (pfx ++ ⟨#[42]⟩)) (keysUnder m.store pfx)
  have h2 := keysUnder_length m.store pfx
  have h3 := putL_length m.touch.reads (pfx ++ ⟨#[42]⟩)
  unfold wipeM
  simp only [lookM] at h1 ⊢
  omega
end Go.Proofs.YticcmacclncgaaaDoor
