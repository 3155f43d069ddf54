/-
  Texts laid together: GenXc, MO.
-/
import Derived.Test.YtipdbeklopjbmaaGreatDoorP26
set_option linter.unusedVariables false
set_option linter.unusedSimpArgs false
namespace Go.Proofs.YtipdbeklopjbmaaGreatDoor
open Go.ChangeShapes Go.WideShapes Go.ChangeAt Go.RowKit Go.Proofs.Tryz
set_option maxRecDepth 100000
set_option maxHeartbeats 1000000
instance iMO1:RTc prog 118 f118 15:=rtc func118 ntmps118
theorem CFmo:CF prog 160:=⟨⟨_,_,func160,rfl,by kernel_rfl⟩⟩
instance iMO2:CFc prog 160:=⟨CFmo⟩
theorem CFru:CF prog 161:=⟨⟨_,_,func161,rfl,by kernel_rfl⟩⟩
instance iMO3:CFc prog 161:=⟨CFru⟩
theorem At.frame0K {w w':World} {L N:List Atom} (h:At w L) (hm:Mv [] w N w'):Mv L w (N++L) w':=by
 have:=At.frame (New:=N) h [] rfl hm
 rw [J19] at this
 exact this
section
variable {X:Uni} {w:World} {b u:Nat} {v:MV} {D:List CellD} {R W:List ByteArray}
theorem Jgs (h:At w (mL b v D R W)) (hU:Un X u D R W):Mv (mL b v D R W) w [mB X b v D u] w:=Mv.same (Jbl h hU) fun z hz=>J2c.2 (J4Q.1 hz)
theorem JeY (h:At w [mB X b v D u]):∃ R W,Mv [mB X b v D u] w (mL b v D R W) w∧Un X u D R W:=by
 obtain ⟨R,W,h1,h2⟩:=J46 h
 exact ⟨R,W,Mv.same h1 fun z hz=>J4Q.2 (J2c.1 hz),h2⟩
end
def PSer (w:World) (D:List CellD) (u:Nat) (e:Ending) (w':World):Prop:=∃ (sa:Option Addr) (sn sc:Nat) (s:GL AnsD),e=.returned (.tuple #[.slice sa sn sc,s.val])∧Mv [] w [qC sa sn sc D,owG 155 3 J0x okR s] w'∧D.length≤1048576+u
set_option maxRecDepth 100000 in
set_option maxHeartbeats 8000000 in
theorem JdY {X:Uni} {w:World} {u:Nat} {D:List CellD} {H:Nat→Prop} {cs:List CallD} {sa:Option Addr} {sn sc:Nat} {ad:Option Addr} {q c:Nat} (hT:TbO w []) (hD:Rd 2 J6 okC H w (.slice sa sn sc) D) (hs:Rd 7 J1p J1f H w (.slice ad q c) (cs.map (J1J X.P))) (hU:Un X u D [] []) (hn:sn≤1099511627776) (hq:q≤1048576) (hu:u+330 * q≤68718428160) (hi64:J1 X.P) :
 Calls prog 118 #[.slice sa sn sc,.slice ad q c] w (PSer w (J0m D X.P cs) (u+330 * q)):=by
 have M:St [] w [] w:=⟨Mv.refl (At.nil _),hT⟩
 refine zE (f:=118) fun _ F=>?_
 refine J0 (J0D F (Jd7 hD hn) rfl rfl rfl rfl rfl rfl fun e w1 h=>?_)
 obtain ⟨a1,n1,c1,a2,n2,c2,a3,n3,c3,rfl,m⟩:=h
 refine ⟨_,rfl,fun _ F=>?_⟩
 have M:=M.then (At.frame0K M.at' m)
 refine zr2 fun _ F=>?_
 refine J0 (J2T F M JA [_,_,_] (k:=fun b w M=>zk fun _ F=>?_))
 refine J0 (kWI F M 0 [_,_,_] [_,_,_,_] (k:=fun w M=>zk fun _ F=>?_))
 have M:=M.then (Jgs (X:=X) (u:=u) (b:=b) (v:=⟨a1,a2,a3,n1,c1,n2,c2,n3,c3⟩) (D:=D) (R:=[]) (W:=[]) M.at' hU)
 have hs1:=(Rd.start (L:=[]) hs fun _ _=>JF _).mq M.mv
 refine J0 (kLI F M (hc:=JiG M.hd hs1 (fun z hz hf=>hz.2 (J4Q.2 hf)) hq hu hi64) (kk:=fun v s w q M=>zk fun _ F=>?_))
 obtain ⟨R,W,m2,hU2⟩:=JeY M.tail.at'
 have M:=M.then (At.frame M.at' [1] rfl m2)
 refine zr2 fun _ F=>?_
 refine zd2 F ?_
 exact ⟨_,_,_,s,rfl,(M.pick [1,4] [_,_]).mv,hU2.bd.1⟩
end Go.Proofs.YtipdbeklopjbmaaGreatDoor
