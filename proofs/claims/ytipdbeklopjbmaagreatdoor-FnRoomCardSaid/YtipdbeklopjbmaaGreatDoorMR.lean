/-
  A call as it is told, the first store: walks.
-/
import Derived.Test.YtipdbeklopjbmaaGreatDoorMQ
import Derived.Test.YtipdbeklopjbmaaGreatDoorP24
import Derived.Test.YtipdbeklopjbmaaGreatDoorP15
set_option linter.unusedVariables false
set_option linter.unusedSimpArgs false
namespace Go.Proofs.YtipdbeklopjbmaaGreatDoor
open Go.ChangeShapes Go.WideShapes Go.ChangeAt Go.RowKit Go.Proofs.Tryz
instance iMR1:RTc prog 193 f193 64:=rtc func193 ntmps193
instance iMR2:RTc prog 163 f163 13:=rtc func163 ntmps163
def Md {β:Type} (n:Nat) (w0:World) (p:β→Prop) (f:β→List (Nat × Value)) (g:β→List Atom) (a:Act) (w:World):Prop:=∃ x,p x∧Fr n (f x) a∧St [] w0 (g x) w
theorem Jd {p:Prop} (h:p:=by first|assumption|exact J5I|exact J7G):p:=h
theorem J1g {w0 w:World} {L:List Atom} {x0 x1 x2 x3 x4 x5:Value} {k a b:Int} {s t u:ByteArray} (M:St [] w0 L w) (e0:x0=iV k) (e1:x1=.string s) (e2:x2=.string t) (e3:x3=iV a) (e4:x4=iV b) (e5:x5=.string u) (h:okK ⟨k,s,t,a,b,u⟩) :
 PO w0 (fun (d:CallD)=>.agg #[iV d.kind,.string d.name,.string d.to_,iV d.a,iV d.b,.string d.text]) okK (.returned (.agg #[x0,x1,x2,x3,x4,x5])) w:=by
 subst e0 e1 e2 e3 e4 e5
 exact ⟨_,rfl,M.mv.pick [] rfl,h⟩
set_option maxRecDepth 100000 in
set_option maxHeartbeats 16000000 in
theorem JhZ {w0:World} {c:CallD} (hT:TbO w0 []) (hc:okK c):Calls prog 193 #[.agg #[iV c.kind,.string c.name,.string c.to_,iV c.a,iV c.b,.string c.text]] w0 (PO w0 (fun (d:CallD)=>.agg #[iV d.kind,.string d.name,.string d.to_,iV d.a,iV d.b,.string d.text]) okK):=by
 have hk1:=hc.1;have hk2:=hc.2.1;have hk3:=hc.2.2.1;have hk4:=hc.2.2.2.1;have hk5:=hc.2.2.2.2.1;have hk6:=hc.2.2.2.2.2
 have M:St [] w0 [] w0:=⟨Mv.refl (At.nil _),hT⟩
 refine zE (f:=193) fun _ F=>?_
 refine J0 (J4h F M [_,_,_,_,_,_] (k:=fun b1 w M=>zk fun _ F=>?_))
 refine J0 (J2T F M J4D [_,_,_,_,_,_] (k:=fun b2 w M=>zk fun _ F=>?_))
 refine J0 (kBd F J7c (k:=zk fun _ F=>?_))
 refine J0 (J2T F M J4D [_,_,_,_,_,_] (k:=fun b3 w M=>zk fun _ F=>?_))
 refine J0 (kWI F M 0 [_,_,_,_,_,_] [_,_,_] (k:=fun w M=>zk fun _ F=>?_))
 refine J3J (Md 64 w0 (fun (_:Bool)=>True) (fun b=>[(9,.bool b),(3,pT b3),(2,pT b2),(1,pT b1)]) (fun _=>[bx b3 [iV c.kind,.string (⟨#[]⟩:ByteArray),.string (⟨#[]⟩:ByteArray),iV 0,iV 0,.string (⟨#[]⟩:ByteArray)] 153,bx b2 [iV 0,.string (⟨#[]⟩:ByteArray),.string (⟨#[]⟩:ByteArray),iV 0,iV 0,.string (⟨#[]⟩:ByteArray)] 153,bx b1 [iV c.kind,.string c.name,.string c.to_,iV c.a,iV c.b,.string c.text] 153])) ?_ ?_
 ·repeat' (first|exact ⟨_,trivial,F.cut rfl,M⟩|refine zi F (fun _=>?_) fun _=>?_|refine zr2 fun _ F=>?_)
 clear F M
 rintro _ w ⟨b,_,F,M⟩
 refine J3J (Md 64 w0 okS (fun _=>[(3,pT b3),(2,pT b2),(1,pT b1)]) (fun s=>[bx b3 [iV c.kind,.string s,.string (⟨#[]⟩:ByteArray),iV 0,iV 0,.string (⟨#[]⟩:ByteArray)] 153,bx b2 [iV 0,.string (⟨#[]⟩:ByteArray),.string (⟨#[]⟩:ByteArray),iV 0,iV 0,.string (⟨#[]⟩:ByteArray)] 153,bx b1 [iV c.kind,.string c.name,.string c.to_,iV c.a,iV c.b,.string c.text] 153])) ?_ ?_
 ·refine zib F (fun _=>?_) fun _=>?_
  ·refine zr2 fun _ F=>?_
   refine J0 (kWI F M 0 [_,_,_,_,_,_] [_,_,_] (k:=fun w M=>zk fun _ F=>?_))
   exact ⟨_,hk2,F.cut rfl,M⟩
  refine zr2 fun _ F=>?_
  exact ⟨_,J5I,F.cut rfl,M⟩
 clear F M
 rintro _ w ⟨s,hs,F,M⟩
 refine zr2 fun _ F=>?_
 refine zi F (fun h1=>?_) fun h1=>?_
 ·refine zr2 fun _ F=>?_
  refine zi F (fun _=>?_) fun hz=>absurd h1 hz
  refine zr2 fun _ F=>?_
  refine J0 (kWI F M 0 [_,_,_,_,_,_] [_,_,_] (k:=fun w M=>zk fun _ F=>?_))
  refine J0 (kWI F M 1 [_,_,_,_,_,_] [_,_,_] (k:=fun w M=>zk fun _ F=>?_))
  refine zdc F M.at' 0 ?_
  exact J1g M rfl rfl rfl rfl rfl rfl ⟨Jd,Jd,Jd,Jd,Jd,Jd⟩
 refine zr2 fun _ F=>?_
 refine zi F (fun h2=>?_) fun h2=>?_
 ·refine zr2 fun _ F=>?_
  refine J0 (kWI F M 0 [_,_,_,_,_,_] [_,_,_] (k:=fun w M=>zk fun _ F=>?_))
  refine J0 (kWI F M 1 [_,_,_,_,_,_] [_,_,_] (k:=fun w M=>zk fun _ F=>?_))
  refine zdc F M.at' 0 ?_
  exact J1g M rfl rfl rfl rfl rfl rfl ⟨Jd,Jd,Jd,Jd,Jd,Jd⟩
 refine zr2 fun _ F=>?_
 refine zi F (fun h3=>?_) fun h3=>?_
 ·refine zr2 fun _ F=>?_
  refine zi F (fun _=>?_) fun hz=>absurd h3 hz
  refine zr2 fun _ F=>?_
  refine J0 (kWI F M 0 [_,_,_,_,_,_] [_,_,_] (k:=fun w M=>zk fun _ F=>?_))
  refine J0 (kWI F M 0 [_,_,_,_,_,_] [_,_,_] (k:=fun w M=>zk fun _ F=>?_))
  refine J0 (kWI F M 1 [_,_,_,_,_,_] [_,_,_] (k:=fun w M=>zk fun _ F=>?_))
  refine zdc F M.at' 0 ?_
  exact J1g M rfl rfl rfl rfl rfl rfl ⟨Jd,Jd,Jd,Jd,Jd,Jd⟩
 refine zr2 fun _ F=>?_
 refine zi F (fun h4=>?_) fun h4=>?_
 ·refine zr2 fun _ F=>?_
  refine J0 (kWI F M 0 [_,_,_,_,_,_] [_,_,_] (k:=fun w M=>zk fun _ F=>?_))
  refine J0 (kWI F M 0 [_,_,_,_,_,_] [_,_,_] (k:=fun w M=>zk fun _ F=>?_))
  refine J0 (kWI F M 1 [_,_,_,_,_,_] [_,_,_] (k:=fun w M=>zk fun _ F=>?_))
  refine zdc F M.at' 0 ?_
  exact J1g M rfl rfl rfl rfl rfl rfl ⟨Jd,Jd,Jd,Jd,Jd,Jd⟩
 refine zr2 fun _ F=>?_
 refine zi F (fun h5=>?_) fun h5=>?_
 ·refine zr2 fun _ F=>?_
  refine zi F (fun _=>?_) fun hz=>absurd h5 hz
  refine zr2 fun _ F=>?_
  refine J0 (kWI F M 0 [_,_,_,_,_,_] [_,_,_] (k:=fun w M=>zk fun _ F=>?_))
  refine J0 (kWI F M 1 [_,_,_,_,_,_] [_,_,_] (k:=fun w M=>zk fun _ F=>?_))
  refine zdc F M.at' 0 ?_
  exact J1g M rfl rfl rfl rfl rfl rfl ⟨Jd,Jd,Jd,Jd,Jd,Jd⟩
 refine zr2 fun _ F=>?_
 refine zi F (fun h6=>?_) fun h6=>?_
 ·refine zr2 fun _ F=>?_
  refine zi F (fun _=>?_) fun hz=>absurd h6 hz
  refine zr2 fun _ F=>?_
  refine J0 (kWI F M 0 [_,_,_,_,_,_] [_,_,_] (k:=fun w M=>zk fun _ F=>?_))
  refine J0 (kWI F M 1 [_,_,_,_,_,_] [_,_,_] (k:=fun w M=>zk fun _ F=>?_))
  refine zdc F M.at' 0 ?_
  exact J1g M rfl rfl rfl rfl rfl rfl ⟨Jd,Jd,Jd,Jd,Jd,Jd⟩
 refine zr2 fun _ F=>?_
 refine zi F (fun h7=>?_) fun h7=>?_
 ·refine zr2 fun _ F=>?_
  refine zi F (fun _=>?_) fun hz=>absurd h7 hz
  refine zr2 fun _ F=>?_
  refine J0 (kWI F M 0 [_,_,_,_,_,_] [_,_,_] (k:=fun w M=>zk fun _ F=>?_))
  refine J0 (kWI F M 1 [_,_,_,_,_,_] [_,_,_] (k:=fun w M=>zk fun _ F=>?_))
  refine zdc F M.at' 0 ?_
  exact J1g M rfl rfl rfl rfl rfl rfl ⟨Jd,Jd,Jd,Jd,Jd,Jd⟩
 refine zr2 fun _ F=>?_
 refine zi F (fun h8=>?_) fun h8=>?_
 ·refine zr2 fun _ F=>?_
  refine zi F (fun _=>?_) fun hz=>absurd h8 hz
  refine zr2 fun _ F=>?_
  refine J0 (kWI F M 0 [_,_,_,_,_,_] [_,_,_] (k:=fun w M=>zk fun _ F=>?_))
  refine J0 (kWI F M 1 [_,_,_,_,_,_] [_,_,_] (k:=fun w M=>zk fun _ F=>?_))
  refine zdc F M.at' 0 ?_
  exact J1g M rfl rfl rfl rfl rfl rfl ⟨Jd,Jd,Jd,Jd,Jd,Jd⟩
 refine zr2 fun _ F=>?_
 refine zi F (fun h9=>?_) fun h9=>?_
 ·refine zr2 fun _ F=>?_
  refine zi F (fun _=>?_) fun hz=>absurd h9 hz
  refine zr2 fun _ F=>?_
  refine J0 (kWI F M 0 [_,_,_,_,_,_] [_,_,_] (k:=fun w M=>zk fun _ F=>?_))
  refine J0 (kWI F M 1 [_,_,_,_,_,_] [_,_,_] (k:=fun w M=>zk fun _ F=>?_))
  refine zdc F M.at' 0 ?_
  exact J1g M rfl rfl rfl rfl rfl rfl ⟨Jd,Jd,Jd,Jd,Jd,Jd⟩
 refine zr2 fun _ F=>?_
 refine zi F (fun h10=>?_) fun h10=>?_
 ·refine zr2 fun _ F=>?_
  refine zi F (fun _=>?_) fun hz=>absurd h10 hz
  refine zr2 fun _ F=>?_
  refine J0 (kWI F M 0 [_,_,_,_,_,_] [_,_,_] (k:=fun w M=>zk fun _ F=>?_))
  refine J0 (kWI F M 1 [_,_,_,_,_,_] [_,_,_] (k:=fun w M=>zk fun _ F=>?_))
  refine zdc F M.at' 0 ?_
  exact J1g M rfl rfl rfl rfl rfl rfl ⟨Jd,Jd,Jd,Jd,Jd,Jd⟩
 refine zr2 fun _ F=>?_
 refine zi F (fun h11=>?_) fun h11=>?_
 ·refine zr2 fun _ F=>?_
  refine J0 (kWI F M 0 [_,_,_,_,_,_] [_,_,_] (k:=fun w M=>zk fun _ F=>?_))
  refine J0 (kWI F M 1 [_,_,_,_,_,_] [_,_,_] (k:=fun w M=>zk fun _ F=>?_))
  refine zdc F M.at' 0 ?_
  exact J1g M rfl rfl rfl rfl rfl rfl ⟨Jd,Jd,Jd,Jd,Jd,Jd⟩
 refine zr2 fun _ F=>?_
 refine zi F (fun h12=>?_) fun h12=>?_
 ·refine zr2 fun _ F=>?_
  refine zi F (fun _=>?_) fun hz=>absurd h12 hz
  refine zr2 fun _ F=>?_
  refine J0 (kWI F M 0 [_,_,_,_,_,_] [_,_,_] (k:=fun w M=>zk fun _ F=>?_))
  refine J0 (kWI F M 0 [_,_,_,_,_,_] [_,_,_] (k:=fun w M=>zk fun _ F=>?_))
  refine J0 (kWI F M 1 [_,_,_,_,_,_] [_,_,_] (k:=fun w M=>zk fun _ F=>?_))
  refine zdc F M.at' 0 ?_
  exact J1g M rfl rfl rfl rfl rfl rfl ⟨Jd,Jd,Jd,Jd,Jd,Jd⟩
 refine zr2 fun _ F=>?_
 refine zi F (fun h13=>?_) fun h13=>?_
 ·refine zr2 fun _ F=>?_
  refine zi F (fun _=>?_) fun hz=>absurd h13 hz
  refine zr2 fun _ F=>?_
  refine J0 (kWI F M 0 [_,_,_,_,_,_] [_,_,_] (k:=fun w M=>zk fun _ F=>?_))
  refine J0 (kWI F M 0 [_,_,_,_,_,_] [_,_,_] (k:=fun w M=>zk fun _ F=>?_))
  refine J0 (kWI F M 1 [_,_,_,_,_,_] [_,_,_] (k:=fun w M=>zk fun _ F=>?_))
  refine zdc F M.at' 0 ?_
  exact J1g M rfl rfl rfl rfl rfl rfl ⟨Jd,Jd,Jd,Jd,Jd,Jd⟩
 refine zr2 fun _ F=>?_
 refine zi F (fun h14=>?_) fun h14=>?_
 ·refine zr2 fun _ F=>?_
  refine J0 (kWI F M 0 [_,_,_,_,_,_] [_,_,_] (k:=fun w M=>zk fun _ F=>?_))
  refine J0 (kWI F M 0 [_,_,_,_,_,_] [_,_,_] (k:=fun w M=>zk fun _ F=>?_))
  refine J0 (kWI F M 1 [_,_,_,_,_,_] [_,_,_] (k:=fun w M=>zk fun _ F=>?_))
  refine zdc F M.at' 0 ?_
  exact J1g M rfl rfl rfl rfl rfl rfl ⟨Jd,Jd,Jd,Jd,Jd,Jd⟩
 refine zr2 fun _ F=>?_
 refine zi F (fun h15=>?_) fun h15=>?_
 ·refine zr2 fun _ F=>?_
  refine J0 (kWI F M 0 [_,_,_,_,_,_] [_,_,_] (k:=fun w M=>zk fun _ F=>?_))
  refine J0 (kWI F M 1 [_,_,_,_,_,_] [_,_,_] (k:=fun w M=>zk fun _ F=>?_))
  refine zdc F M.at' 0 ?_
  exact J1g M rfl rfl rfl rfl rfl rfl ⟨Jd,Jd,Jd,Jd,Jd,Jd⟩
 refine zr2 fun _ F=>?_
 refine J0 (kWI F M 1 [_,_,_,_,_,_] [_,_,_] (k:=fun w M=>zk fun _ F=>?_))
 refine zdc F M.at' 0 ?_
 exact J1g M rfl rfl rfl rfl rfl rfl ⟨Jd,Jd,Jd,Jd,Jd,Jd⟩
set_option maxRecDepth 100000 in
set_option maxHeartbeats 8000000 in
theorem Jh4 {w0:World} {H:Nat→Prop} (hT:TbO w0 []):Calls prog 163 #[] w0 fun e w'=>∃ (v:MV) (D:List CellD),e=.returned v.S∧Mv [] w0 [] w'∧RM (J2f [] 0) (Fsh H w0) w' v D 15900000∧D.length≤10:=by
 have hU:=J48 (D:=[]) (P:=0) (fun _ h=>by cases h) (by decide)
 have M:=Sp.start (H:=H) (v:=⟨none,none,none,0,0,0,0,0,0⟩) hT ⟨[],[],Rd.nil,Rd.nil,Rd.nil,hU⟩
 refine zE (f:=163) fun _ F=>?_
 refine J0 (J4b (enc:=J6) (ok:=okC) (k:=2) F M.at' ET_28 (kk:=fun b0 w m _ F=>?_))
 have M:=(M.then m).freeze rfl
 refine zr2 fun _ F=>?_
 refine J0 (kS F M (hc:=J3Y M.tb M.v) (k:=fun v s w q M=>zk fun _ F=>?_))
 refine J0 (kS F M (hc:=JaC (p:=0) M.tb M.v) (k:=fun v s w q M=>zk fun _ F=>?_))
 refine J0 (kAl F M JA [_,_,_] (k:=fun b w M=>zk fun _ F=>?_))
 refine J0 (kW F M 0 [_,_,_] [_] (k:=fun w M=>zk fun _ F=>?_))
 refine zd1 F ?_
 exact ⟨v,_,rfl,M.st.mv.pick [] rfl,(M.v.le zO).mono fun _ hb=>hb.1,Nat.le_trans J7x (by decide)⟩
end Go.Proofs.YtipdbeklopjbmaaGreatDoor
