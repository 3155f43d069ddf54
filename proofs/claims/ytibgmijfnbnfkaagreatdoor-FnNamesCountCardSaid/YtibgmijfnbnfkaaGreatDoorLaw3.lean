/-
  A law's contract at one world; what the laid variables give.
-/
import Derived.Test.YtibgmijfnbnfkaaGreatDoorLaw
import Derived.Test.YtibgmijfnbnfkaaGreatDoorTab
import Derived.Stop.LaidErr
import Derived.LaidMore
import Derived.LaidHandle
import Derived.MakeChecks
import Derived.OpenShut
import Derived.Test.YtibgmijfnbnfkaaGreatDoorTie
import Derived.Test.YtibgmijfnbnfkaaGreatDoorCards
namespace Go.Proofs.YtibgmijfnbnfkaaGreatDoor
open Go.ChangeShapes Go.WideShapes Go.ChangeAt Go.RowKit
theorem law_contractW {P : Program} {f : FuncId} {fn : Func} {s : ChangeSpec} {tb : TypeId}
    (hl : laidOutB P = true) (hr : ∀ t ∈ fn.params.toList, P.readableRec t = true ∧ t < P.types.size) (htb : P.underlying tb = some .bool) (hres : fn.resultTypes = #[tb]) (hv : s.vars = [])
    (hs : ∀ (H : Type) (ds : List (DataW H)), ds.length = fn.params.size → s.fn H ds = { results := [.lit (.bool true)], args := ds })
    (H : Type) (enc : TypeId × Value → H) (apart fresh handsOn again : Bool) (W : World) (args : Array Value) (ds gs : List (DataW H)) (before : List MemPlace)
    (walk : ArgsRead P W fn.params.toList args.toList → Calls P f args W fun e W' => e = .returned (.bool true) ∧ Bl W W')
    (hval : ∀ (j : Nat) t v, fn.params[j]? = some t → args[j]? = some v → Value.okWide P W .any 0 t v)
    (hW : DataW.Whole enc P fn.params.toList s.vars apart W args.toList ds gs before) :
    Calls P f args W fun e W' => ∃ v, e = .returned v ∧ s.post enc P fn apart fresh handsOn again W args v W' := by
  have hW0 := hW
  obtain ⟨p, q, hA, hV, rfl, hz, hn⟩ := hW
  obtain ⟨g1, g2, g3⟩ := argsRead_of hA
  refine (walk ⟨g1, fun j t v ht hv => ⟨g3 j t v ht hv, hval j t v (by simpa using ht) (by simpa using hv)⟩⟩).mono ?_
  rintro e W' ⟨rfl, hb⟩
  exact ⟨_, rfl, law_post hl hr htb hres hv hW0 (hs H ds (by simpa using g2)) hb⟩
theorem var_cell {P : Program} {W : World} {n : String} {g tp : Nat} {a : Addr} (hg : P.globalNamed n = some g) (h : W.var? P n = some #[.iface tp (.pointer (some a))]) : W.cell? ⟨g, 0, none⟩ = some (.iface tp (.pointer (some a))) := by
  have := World.var?_cell hg h 0
  simpa using this
end Go.Proofs.YtibgmijfnbnfkaaGreatDoor
