/-
  The reference's machine of a store.
-/
import Derived.Test.YtipdbeklopjbmaaGreatDoorKaHs
import Derived.Test.YtipdbeklopjbmaaGreatDoorP18
set_option linter.unusedVariables false
set_option linter.unusedSimpArgs false
namespace Go.Proofs.YtipdbeklopjbmaaGreatDoor
open Go.ChangeShapes Go.WideShapes Go.ChangeAt Go.RowKit
theorem machOf_s {X:Uni} {H:Nat→Prop} {w:World} {v:MV} {D:List CellD} {u:Nat} (_:TbO w []) (hm:RM X H w v D u) (hu:u≤68719476736:=by omega) :
 Calls Tryz.prog 179 #[v.S] w (PS X H w (fun v (_:Unit) (_:Unit)=>v.val) () D u noq):=by
 obtain ⟨R,W,g1,g2,g3,h4⟩:=hm
 have hn:=g1.inv.1
 have hb:=h4.bd.1
 refine (spec_MachOf_c g1 (by omega)).mono ?_
 rintro e w' ⟨sa,sn,sc,ra,rn,rc,wa,wn,wc,rfl,m,k1,k2,k3⟩
 exact ⟨⟨sa,ra,wa,sn,sc,rn,rc,wn,wc⟩,(),rfl,m,⟨[],[],k1,k2,k3,h4.fresh⟩,trivial⟩
end Go.Proofs.YtipdbeklopjbmaaGreatDoor
