/-
  Texts laid together: KaH, DatCd, MN, DatCf.
-/
import Derived.Test.YtipdbeklopjbmaaGreatDoorP23
set_option linter.unusedVariables false
set_option linter.unusedSimpArgs false
namespace Go.Proofs.YtipdbeklopjbmaaGreatDoor
open Go.ChangeShapes Go.WideShapes Go.ChangeAt Go.RowKit Go.Proofs.Tryz
set_option maxRecDepth 100000
set_option maxHeartbeats 1000000
section
set_option maxHeartbeats 8000000
variable {X:Uni} {w:World} {b u:Nat} {v:MV} {D:List CellD} {H:Nat→Prop}
theorem Jgd {c:CallD} (hA:AT w [mB X b v D u]) (hu:u+330≤68718428160:=by omega) (hi64:J1 X.P:=by assumption) (h_c:okK c:=by assumption) :
 Calls prog 188 #[pT b,iV X.P,.agg #[iV c.kind,.string c.name,.string c.to_,iV c.a,iV c.b,.string c.text]] w (PI X b v D u w (fun (r:Unit) (s:Int × Int × ByteArray)=>.agg #[iV s.1,iV s.2.1,.string s.2.2]) () (doS D X.P c) (u+330) (fun (_:Unit) (s:Int × Int × ByteArray)=>J1 s.1∧J1 s.2.1∧okS s.2.2)):=by
 have hk1:=h_c.1;have hk2:=h_c.2.1;have hk3:=h_c.2.2.1;have hk4:=h_c.2.2.2.1;have hk5:=h_c.2.2.2.2.1;have hk6:=h_c.2.2.2.2.2
 have M:=St.start hA
 refine zE (f:=188) fun _ F=>?_
 refine J0 (J4h F M [_,_,_,_,_,_] (k:=fun b1 w M=>zk fun _ F=>?_))
 refine J0 (J2T F M J00 [_,_,_] (k:=fun b2 w M=>zk fun _ F=>?_))
 refine J0 (J2T F M J00 [_,_,_] (k:=fun b3 w M=>zk fun _ F=>?_))
 have M:=M.pick [3,0,1,2] [_,_,_,_]
 refine J0 (kI F M (hc:=J5r M.hd) (k:=fun v s4 w q4 M=>zk fun _ F=>?_))
 have q4a:=q4.1;have q4b:=q4.2
 refine zi F (fun h5=>?_) fun h5=>?_
 ·refine zr2 fun _ F=>?_
  refine J0 (kBd F J1q (k:=zk fun _ F=>?_))
  refine J0 (kWI F M 2 [_,_,_] [_,_,_,_] (k:=fun w M=>zk fun _ F=>?_))
  refine zdc F M.at' 0 ?_
  have M:=M.pick [1] [_]
  exact zfI M () (_,_,_) (⟨yc,yc,ye⟩) (congrArg (Prod.mk ()) (JbB h5).symm)
 refine zr2 fun _ F=>?_
 refine Jn F M.at' 3 rfl rfl rfl rfl rfl rfl rfl rfl rfl fun _ F=>?_
 refine zr2 fun _ F=>?_
 refine J0 (kO F M (hc:=Jfm M.nil.tb) (k:=fun s6 w q6 M=>zk fun _ F=>?_))
 refine zib F (fun h7=>?_) fun h7=>?_
 ·refine zr2 fun _ F=>?_
  refine J0 (kBd F J1q (k:=zk fun _ F=>?_))
  refine J0 (kWI F M 2 [_,_,_] [_,_,_,_] (k:=fun w M=>zk fun _ F=>?_))
  refine zdc F M.at' 0 ?_
  have M:=M.pick [1] [_]
  exact zfI M () (_,_,_) (⟨yc,yc,ye⟩) (congrArg (Prod.mk ()) (JbA (nt h7)).symm)
 refine zr2 fun _ F=>?_
 have hbd:=J4s (nf (by assumption))
 refine Jn F M.at' 3 rfl rfl rfl rfl rfl rfl rfl rfl rfl fun _ F=>?_
 refine zr2 fun _ F=>?_
 refine zi F (fun h8=>?_) fun h8=>?_
 ·refine zr2 fun _ F=>?_
  refine Jn F M.at' 3 rfl rfl rfl rfl rfl rfl rfl rfl rfl fun _ F=>?_
  refine zr2 fun _ F=>?_
  refine J0 (kI F M (hc:=Jek M.hd) (k:=fun v s9 w q9 M=>zk fun _ F=>?_))
  have q9a:=q9.1;have q9b:=q9.2
  refine J0 (kWI F M 1 [_,_,_] [_,_,_,_] (k:=fun w M=>zk fun _ F=>?_))
  refine J0 (kWI F M 0 [_,_,_] [_,_,_,_] (k:=fun w M=>zk fun _ F=>?_))
  refine J0 (kWI F M 2 [_,_,_] [_,_,_,_] (k:=fun w M=>zk fun _ F=>?_))
  refine zdc F M.at' 0 ?_
  have M:=M.pick [2] [_]
  exact zfI M () (_,_,_) (⟨yc,yc,ye⟩) (congrArg (Prod.mk ()) (JJ h5 (nf h7) h8 rfl).symm)
 refine zr2 fun _ F=>?_
 refine zi F (fun h10=>?_) fun h10=>?_
 ·refine zr2 fun _ F=>?_
  refine Jn F M.at' 3 rfl rfl rfl rfl rfl rfl rfl rfl rfl fun _ F=>?_
  refine zr2 fun _ F=>?_
  refine Jn F M.at' 3 rfl rfl rfl rfl rfl rfl rfl rfl rfl fun _ F=>?_
  refine zr2 fun _ F=>?_
  refine J0 (kI F M (hc:=Jeg M.hd) (k:=fun v s11 w q11 M=>zk fun _ F=>?_))
  refine J0 (kWI F M 1 [_,_,_] [_,_,_,_] (k:=fun w M=>zk fun _ F=>?_))
  refine J0 (kWI F M 2 [_,_,_] [_,_,_,_] (k:=fun w M=>zk fun _ F=>?_))
  refine zdc F M.at' 0 ?_
  have M:=M.pick [2] [_]
  exact zfI M () (_,_,_) (⟨yc,yc,ye⟩) (congrArg (Prod.mk ()) (JJ h5 (nf h7) h10 rfl).symm)
 refine zr2 fun _ F=>?_
 refine zi F (fun h12=>?_) fun h12=>?_
 ·refine zr2 fun _ F=>?_
  refine Jn F M.at' 3 rfl rfl rfl rfl rfl rfl rfl rfl rfl fun _ F=>?_
  refine zr2 fun _ F=>?_
  refine J0 (kI F M (hc:=J8x M.hd) (k:=fun v s13 w q13 M=>zk fun _ F=>?_))
  refine J0 (kWI F M 1 [_,_,_] [_,_,_,_] (k:=fun w M=>zk fun _ F=>?_))
  refine J0 (kWI F M 2 [_,_,_] [_,_,_,_] (k:=fun w M=>zk fun _ F=>?_))
  refine zdc F M.at' 0 ?_
  have M:=M.pick [2] [_]
  exact zfI M () (_,_,_) (⟨yc,yc,ye⟩) (congrArg (Prod.mk ()) (JJ h5 (nf h7) h12 rfl).symm)
 refine zr2 fun _ F=>?_
 refine zi F (fun h14=>?_) fun h14=>?_
 ·refine zr2 fun _ F=>?_
  refine Jn F M.at' 3 rfl rfl rfl rfl rfl rfl rfl rfl rfl fun _ F=>?_
  refine zr2 fun _ F=>?_
  refine Jn F M.at' 3 rfl rfl rfl rfl rfl rfl rfl rfl rfl fun _ F=>?_
  refine zr2 fun _ F=>?_
  refine J0 (kI F M (hc:=JdD M.hd) (k:=fun v s15 w q15 M=>zk fun _ F=>?_))
  refine J0 (kWI F M 1 [_,_,_] [_,_,_,_] (k:=fun w M=>zk fun _ F=>?_))
  refine J0 (kWI F M 2 [_,_,_] [_,_,_,_] (k:=fun w M=>zk fun _ F=>?_))
  refine zdc F M.at' 0 ?_
  have M:=M.pick [2] [_]
  exact zfI M () (_,_,_) (⟨yc,yc,ye⟩) (congrArg (Prod.mk ()) (JJ h5 (nf h7) h14 rfl).symm)
 refine zr2 fun _ F=>?_
 refine zi F (fun h16=>?_) fun h16=>?_
 ·refine zr2 fun _ F=>?_
  refine J0 (kLI F M (hc:=Jgw M.hd) (kk:=fun v s17 w q17 M=>zk fun _ F=>?_))
  have hn17:=GL.inv M.at' 0 rfl (by intro _;rfl)
  have F:=F.cut (m':=[(66,_),(0,_),(1,_),(5,_),(6,_),(7,_),(12,_),(18,_),(24,_),(25,_),(36,_),(45,_),(52,_),(61,_),(64,_),(65,_)]) rfl
  refine J1i (γ:=(Nat × ByteArray) × MV) (slots:=fun g=>[(66,nV g.1.1)]) (LL:=fun g=>[owG 9 1 J3 okS s17,mB X b g.2 (D) (u+2),bx b3 [iV 0,iV 0,.string g.1.2] 155,bx b2 [iV 0,iV 0,.string (⟨#[]⟩:ByteArray)] 155,bx b1 [iV c.kind,.string c.name,.string c.to_,iV c.a,iV c.b,.string c.text] 153]) (pr:=fun g=>g.1.1≤s17.n∧g.1.2.size≤g.1.1 * 1048577) (g0:=((0,⟨#[]⟩),v)) (fun g=>s17.n - g.1.1) F M (⟨Nat.zero_le _,Nat.zero_le _⟩) fun g a w F M hp=>?_
  have hgq:=q17
  refine zr2 fun _ F=>?_
  refine zi F (fun h19=>?_) fun h19=>?_
  ·refine zr2 fun _ F=>?_
   refine J5R J0j F (At.rd M.at' ET_44.hk 0 rfl).1 ET_44 (g.1.1) (Value.string) zO (kk:=fun x20 _ hx20 ok20=>have hb20:=hgq.2 _ (Jm hx20);have hc20:(x20++(⟨#[32]⟩:ByteArray)).size=x20.size+1:=ByteArray.size_append;zk fun _ F=>?_)
   refine J0 (kWI F M 2 [_,_,_] [_,_,_,_,_] (k:=fun w M=>zk fun _ F=>?_))
   have M:=M.pick [1,2,0,3,4] [_,_,_,_,_]
   exact Jw ((g.1.1+1,_),g.2) (by dsimp only;omega) ⟨F.cut rfl,M,⟨by dsimp only;omega,by simp only [ByteArray.size_append,sz1];omega⟩⟩
  refine zr2 fun _ F=>?_
  refine J0 (kWI F M 3 [_,_,_] [_,_,_,_,_] (k:=fun w M=>zk fun _ F=>?_))
  refine zdc F M.at' 0 ?_
  have M:=M.pick [2] [_]
  exact zfI M () (_,_,_) (⟨yc,yc,ye⟩) (congrArg (Prod.mk ()) (JJ h5 (nf h7) h16 rfl).symm)
 refine zr2 fun _ F=>?_
 refine zi F (fun h21=>?_) fun h21=>?_
 ·refine zr2 fun _ F=>?_
  refine zi F (fun _=>?_) fun hz=>absurd h21 hz
  refine zr2 fun _ F=>?_
  refine Jn F M.at' 3 rfl rfl rfl rfl rfl rfl rfl rfl rfl fun _ F=>?_
  refine zr2 fun _ F=>?_
  refine J0 (kI F M (hc:=J6L M.hd) (k:=fun v s22 w q22 M=>zk fun _ F=>?_))
  have q22a:=q22.1;have q22b:=q22.2;have q22c:=q22.2.1;have q22d:=q22.2.2
  refine J0 (kWI F M 2 [_,_,_] [_,_,_,_] (k:=fun w M=>zk fun _ F=>?_))
  refine zdc F M.at' 0 ?_
  have M:=M.pick [1] [_]
  exact zfI M () (_,_,_) (⟨yc,yc,ye⟩) (congrArg (Prod.mk ()) (JJ h5 (nf h7) h21 (JbC h21)).symm)
 refine zr2 fun _ F=>?_
 refine zi F (fun h23=>?_) fun h23=>?_
 ·refine zr2 fun _ F=>?_
  refine zi F (fun _=>?_) fun hz=>absurd h23 hz
  refine zr2 fun _ F=>?_
  refine Jn F M.at' 3 rfl rfl rfl rfl rfl rfl rfl rfl rfl fun _ F=>?_
  refine zr2 fun _ F=>?_
  refine J0 (kI F M (hc:=J6L M.hd) (k:=fun v s24 w q24 M=>zk fun _ F=>?_))
  have q24a:=q24.1;have q24b:=q24.2;have q24c:=q24.2.1;have q24d:=q24.2.2
  refine J0 (kWI F M 2 [_,_,_] [_,_,_,_] (k:=fun w M=>zk fun _ F=>?_))
  refine zdc F M.at' 0 ?_
  have M:=M.pick [1] [_]
  exact zfI M () (_,_,_) (⟨yc,yc,ye⟩) (congrArg (Prod.mk ()) (JJ h5 (nf h7) h23 (JbD h23)).symm)
 refine zr2 fun _ F=>?_
 refine zi F (fun h25=>?_) fun h25=>?_
 ·refine zr2 fun _ F=>?_
  refine Jn F M.at' 3 rfl rfl rfl rfl rfl rfl rfl rfl rfl fun _ F=>?_
  refine zr2 fun _ F=>?_
  refine J0 (kI F M (hc:=J6L M.hd) (k:=fun v s26 w q26 M=>zk fun _ F=>?_))
  have q26a:=q26.1;have q26b:=q26.2;have q26c:=q26.2.1;have q26d:=q26.2.2
  refine J0 (kWI F M 2 [_,_,_] [_,_,_,_] (k:=fun w M=>zk fun _ F=>?_))
  refine zdc F M.at' 0 ?_
  have M:=M.pick [1] [_]
  exact zfI M () (_,_,_) (⟨yc,yc,ye⟩) (congrArg (Prod.mk ()) (JJ h5 (nf h7) h25 (JbE h25)).symm)
 refine zr2 fun _ F=>?_
 refine zi F (fun h27=>?_) fun h27=>?_
 ·refine zr2 fun _ F=>?_
  refine J0 (kI F M (hc:=Jem M.hd) (k:=fun v s28 w q28 M=>zk fun _ F=>?_))
  have q28a:=q28.1;have q28b:=q28.2
  refine J0 (kWI F M 1 [_,_,_] [_,_,_,_] (k:=fun w M=>zk fun _ F=>?_))
  refine J0 (kWI F M 0 [_,_,_] [_,_,_,_] (k:=fun w M=>zk fun _ F=>?_))
  refine J0 (kWI F M 2 [_,_,_] [_,_,_,_] (k:=fun w M=>zk fun _ F=>?_))
  refine zdc F M.at' 0 ?_
  have M:=M.pick [2] [_]
  exact zfI M () (_,_,_) (⟨yc,yc,ye⟩) (congrArg (Prod.mk ()) (JJ h5 (nf h7) h27 rfl).symm)
 refine zr2 fun _ F=>?_
 refine zi F (fun h29=>?_) fun h29=>?_
 ·refine zr2 fun _ F=>?_
  refine Jn F M.at' 3 rfl rfl rfl rfl rfl rfl rfl rfl rfl fun _ F=>?_
  refine zr2 fun _ F=>?_
  refine Jn F M.at' 3 rfl rfl rfl rfl rfl rfl rfl rfl rfl fun _ F=>?_
  refine zr2 fun _ F=>?_
  refine J0 (kI F M (hc:=Jf5 M.hd) (k:=fun v s30 w q30 M=>zk fun _ F=>?_))
  refine J0 (kWI F M 1 [_,_,_] [_,_,_,_] (k:=fun w M=>zk fun _ F=>?_))
  refine J0 (kWI F M 2 [_,_,_] [_,_,_,_] (k:=fun w M=>zk fun _ F=>?_))
  refine zdc F M.at' 0 ?_
  have M:=M.pick [2] [_]
  exact zfI M () (_,_,_) (⟨yc,yc,ye⟩) (congrArg (Prod.mk ()) (JJ h5 (nf h7) h29 rfl).symm)
 refine zr2 fun _ F=>?_
 refine zi F (fun h31=>?_) fun h31=>?_
 ·refine zr2 fun _ F=>?_
  refine Jn F M.at' 3 rfl rfl rfl rfl rfl rfl rfl rfl rfl fun _ F=>?_
  refine zr2 fun _ F=>?_
  refine J0 (kI F M (hc:=Jey M.hd) (k:=fun v s32 w q32 M=>zk fun _ F=>?_))
  have q32a:=q32.1;have q32b:=q32.2
  refine J0 (kWI F M 1 [_,_,_] [_,_,_,_] (k:=fun w M=>zk fun _ F=>?_))
  refine J0 (kWI F M 0 [_,_,_] [_,_,_,_] (k:=fun w M=>zk fun _ F=>?_))
  refine J0 (kWI F M 2 [_,_,_] [_,_,_,_] (k:=fun w M=>zk fun _ F=>?_))
  refine zdc F M.at' 0 ?_
  have M:=M.pick [2] [_]
  exact zfI M () (_,_,_) (⟨yc,yc,ye⟩) (congrArg (Prod.mk ()) (JJ h5 (nf h7) h31 rfl).symm)
 refine zr2 fun _ F=>?_
 refine zi F (fun h33=>?_) fun h33=>?_
 ·refine zr2 fun _ F=>?_
  refine J0 (kI F M (hc:=JgQ M.hd) (k:=fun v s34 w q34 M=>zk fun _ F=>?_))
  have q34a:=q34.1;have q34b:=q34.2
  refine J0 (kWI F M 1 [_,_,_] [_,_,_,_] (k:=fun w M=>zk fun _ F=>?_))
  refine J0 (kWI F M 0 [_,_,_] [_,_,_,_] (k:=fun w M=>zk fun _ F=>?_))
  refine zi F (fun h35=>?_) fun h35=>?_
  ·refine zr2 fun _ F=>?_
   refine J0 (kI2 F M (hc:=Jhi M.hd2 (p0:=Jb6 (by assumption))) (k:=fun v s36 w q36 M=>zk fun _ F=>?_))
   refine J0 (kWI F M 2 [_,_,_] [_,_,_,_] (k:=fun w M=>zk fun _ F=>?_))
   refine zdc F M.at' 0 ?_
   have M:=M.pick [2] [_]
   exact zfI M () (_,_,_) (⟨yc,yc,ye⟩) (congrArg (Prod.mk ()) (JJ h5 (nf h7) h33 (show (if (spF D X.P).1.2=0 then _ else _)=_ from if_pos h35)).symm)
  refine zr2 fun _ F=>?_
  refine J0 (kWI F M 2 [_,_,_] [_,_,_,_] (k:=fun w M=>zk fun _ F=>?_))
  refine zdc F M.at' 0 ?_
  have M:=M.pick [2] [_]
  exact zfI M () (_,_,_) (⟨yc,yc,ye⟩) (congrArg (Prod.mk ()) (JJ h5 (nf h7) h33 (show (if (spF D X.P).1.2=0 then _ else _)=_ from if_neg h35)).symm)
 refine zr2 fun _ F=>?_
 refine zi F (fun h37=>?_) fun h37=>?_
 ·refine zr2 fun _ F=>?_
  refine Jn F M.at' 3 rfl rfl rfl rfl rfl rfl rfl rfl rfl fun _ F=>?_
  refine zr2 fun _ F=>?_
  refine J0 (kI F M (hc:=Jis M.hd) (k:=fun v s38 w q38 M=>zk fun _ F=>?_))
  refine J0 (kWI F M 1 [_,_,_] [_,_,_,_] (k:=fun w M=>zk fun _ F=>?_))
  refine zi F (fun h39=>?_) fun h39=>?_
  ·refine zr2 fun _ F=>?_
   refine J0 (kI2 F M (hc:=JdP M.hd2) (k:=fun v s40 w q40 M=>zk fun _ F=>?_))
   refine J0 (kWI F M 2 [_,_,_] [_,_,_,_] (k:=fun w M=>zk fun _ F=>?_))
   refine zdc F M.at' 0 ?_
   have M:=M.pick [2] [_]
   exact zfI M () (_,_,_) (⟨yc,yc,ye⟩) (congrArg (Prod.mk ()) (JJ h5 (nf h7) h37 (show (if (enF D X.P c.a).1=0 then _ else _)=_ from if_pos h39)).symm)
  refine zr2 fun _ F=>?_
  refine J0 (kWI F M 2 [_,_,_] [_,_,_,_] (k:=fun w M=>zk fun _ F=>?_))
  refine zdc F M.at' 0 ?_
  have M:=M.pick [2] [_]
  exact zfI M () (_,_,_) (⟨yc,yc,ye⟩) (congrArg (Prod.mk ()) (JJ h5 (nf h7) h37 (show (if (enF D X.P c.a).1=0 then _ else _)=_ from if_neg h39)).symm)
 refine zr2 fun _ F=>?_
 refine zi F (fun h41=>?_) fun h41=>?_
 ·refine zr2 fun _ F=>?_
  refine Jn F M.at' 3 rfl rfl rfl rfl rfl rfl rfl rfl rfl fun _ F=>?_
  refine zr2 fun _ F=>?_
  refine J0 (kI F M (hc:=JhM M.hd) (k:=fun v s42 w q42 M=>zk fun _ F=>?_))
  have q42a:=q42.1;have q42b:=q42.2
  refine J0 (kWI F M 1 [_,_,_] [_,_,_,_] (k:=fun w M=>zk fun _ F=>?_))
  refine J0 (kWI F M 0 [_,_,_] [_,_,_,_] (k:=fun w M=>zk fun _ F=>?_))
  refine J0 (kWI F M 2 [_,_,_] [_,_,_,_] (k:=fun w M=>zk fun _ F=>?_))
  refine zdc F M.at' 0 ?_
  have M:=M.pick [2] [_]
  exact zfI M () (_,_,_) (⟨yc,yc,ye⟩) (congrArg (Prod.mk ()) (JJ h5 (nf h7) h41 rfl).symm)
 refine zr2 fun _ F=>?_
 refine zi F (fun h43=>?_) fun h43=>?_
 ·refine zr2 fun _ F=>?_
  refine J0 (kLI F M (hc:=Jhk M.hd) (kk:=fun v s44 w q44 M=>zk fun _ F=>?_))
  have hn44:=GL.inv M.at' 0 rfl (by intro _;rfl)
  have F:=F.cut (m':=[(163,_),(0,_),(1,_),(5,_),(6,_),(7,_),(12,_),(18,_),(24,_),(25,_),(36,_),(45,_),(52,_),(61,_),(77,_),(84,_),(93,_),(102,_),(113,_),(131,_),(145,_),(157,_),(161,_),(162,_)]) rfl
  refine J1i (γ:=(Nat × ByteArray) × MV) (slots:=fun g1=>[(163,nV g1.1.1)]) (LL:=fun g1=>[owG 3 1 J0w okI s44,mB X b g1.2 (D) (u+3),bx b3 [iV 0,iV 0,.string g1.1.2] 155,bx b2 [iV 0,iV 0,.string (⟨#[]⟩:ByteArray)] 155,bx b1 [iV c.kind,.string c.name,.string c.to_,iV c.a,iV c.b,.string c.text] 153]) (pr:=fun g1=>g1.1.1≤s44.n∧g1.1.2.size≤g1.1.1 * 22) (g0:=((0,⟨#[]⟩),v)) (fun g1=>s44.n - g1.1.1) F M (⟨Nat.zero_le _,Nat.zero_le _⟩) fun g1 a w F M hp=>?_
  have hgq:=q44
  refine zr2 fun _ F=>?_
  refine zi F (fun h46=>?_) fun h46=>?_
  ·refine zr2 fun _ F=>?_
   refine J5R J3b F (At.rd M.at' ET_47.hk 0 rfl).1 ET_47 (g1.1.1) (Value.int .i64) zO (kk:=fun x47 _ hx47 ok47=>have hd47:=J2i _ ok47;have hc47:(Jj x47++(⟨#[32]⟩:ByteArray)).size=(Jj x47).size+1:=ByteArray.size_append;zk fun _ F=>?_)
   refine J5K [(_,[_,_,_],_)] [] [] [0,1,2,3,4,5,6,7] M (hd1 M.at' 2) mixed zK fun w M hS=>?_
   refine zr2 fun _ F=>?_
   refine J0c F rfl rfl rfl rfl rfl rfl rfl rfl fun _ F=>?_
   refine zr2 fun _ F=>?_
   refine J2 rfl rfl (kOm F M (hc:=J7D M.nil.tb) (k:=fun s48 w q48 m M=>kB m (zkN fun _ F=>?_)))
   refine J0c F rfl rfl rfl rfl rfl rfl rfl rfl fun _ F=>?_
   refine zr2 fun _ F=>?_
   refine J2 rfl rfl (kWI F M 2 [_,_,_] [_,_,_,_,_] (k:=fun w M=>kF (zkN fun _ F=>?_)))
   have M:=M.pick [1,2,0,3,4] [_,_,_,_,_]
   exact Jw ((g1.1.1+1,_),g1.2) (by dsimp only;omega) ⟨F.cut rfl,M,⟨by dsimp only;omega,by simp only [ByteArray.size_append,sz1];omega⟩⟩
  refine zr2 fun _ F=>?_
  refine J0 (kWI F M 3 [_,_,_] [_,_,_,_,_] (k:=fun w M=>zk fun _ F=>?_))
  refine zdc F M.at' 0 ?_
  have M:=M.pick [2] [_]
  exact zfI M () (_,_,_) (⟨yc,yc,ye⟩) (congrArg (Prod.mk ()) (JJ h5 (nf h7) h43 rfl).symm)
 refine zr2 fun _ F=>?_
 refine zi F (fun h49=>?_) fun h49=>?_
 ·refine zr2 fun _ F=>?_
  refine Jn F M.at' 3 rfl rfl rfl rfl rfl rfl rfl rfl rfl fun _ F=>?_
  refine zr2 fun _ F=>?_
  refine Jn F M.at' 3 rfl rfl rfl rfl rfl rfl rfl rfl rfl fun _ F=>?_
  refine zr2 fun _ F=>?_
  refine J0 (kI F M (hc:=JhT M.hd) (k:=fun v s50 w q50 M=>zk fun _ F=>?_))
  refine J0 (kWI F M 1 [_,_,_] [_,_,_,_] (k:=fun w M=>zk fun _ F=>?_))
  refine J0 (kWI F M 2 [_,_,_] [_,_,_,_] (k:=fun w M=>zk fun _ F=>?_))
  refine zdc F M.at' 0 ?_
  have M:=M.pick [2] [_]
  exact zfI M () (_,_,_) (⟨yc,yc,ye⟩) (congrArg (Prod.mk ()) (JJ h5 (nf h7) h49 rfl).symm)
 refine zr2 fun _ F=>?_
 refine zi F (fun h51=>?_) fun h51=>?_
 ·refine zr2 fun _ F=>?_
  refine J0 (kI F M (hc:=JdK M.hd) (k:=fun v s52 w q52 M=>zk fun _ F=>?_))
  have q52a:=q52.1;have q52b:=q52.2
  refine J0 (kWI F M 1 [_,_,_] [_,_,_,_] (k:=fun w M=>zk fun _ F=>?_))
  refine J0 (kWI F M 0 [_,_,_] [_,_,_,_] (k:=fun w M=>zk fun _ F=>?_))
  refine J0 (kWI F M 2 [_,_,_] [_,_,_,_] (k:=fun w M=>zk fun _ F=>?_))
  refine zdc F M.at' 0 ?_
  have M:=M.pick [2] [_]
  exact zfI M () (_,_,_) (⟨yc,yc,ye⟩) (congrArg (Prod.mk ()) (JJ h5 (nf h7) h51 rfl).symm)
 refine zr2 fun _ F=>?_
 refine zi F (fun h53=>?_) fun h53=>?_
 ·refine zr2 fun _ F=>?_
  refine Jn F M.at' 3 rfl rfl rfl rfl rfl rfl rfl rfl rfl fun _ F=>?_
  refine zr2 fun _ F=>?_
  refine J0 (kI F M (hc:=Jex M.hd) (k:=fun v s54 w q54 M=>zk fun _ F=>?_))
  refine J0 (kWI F M 1 [_,_,_] [_,_,_,_] (k:=fun w M=>zk fun _ F=>?_))
  refine J0 (kWI F M 2 [_,_,_] [_,_,_,_] (k:=fun w M=>zk fun _ F=>?_))
  refine zdc F M.at' 0 ?_
  have M:=M.pick [2] [_]
  exact zfI M () (_,_,_) (⟨yc,yc,ye⟩) (congrArg (Prod.mk ()) (JJ h5 (nf h7) h53 rfl).symm)
 refine zr2 fun _ F=>?_
 refine zi F (fun h55=>?_) fun h55=>?_
 ·refine zr2 fun _ F=>?_
  refine Jn F M.at' 3 rfl rfl rfl rfl rfl rfl rfl rfl rfl fun _ F=>?_
  refine zr2 fun _ F=>?_
  refine J0 (kI F M (hc:=JhW M.hd) (k:=fun v s56 w q56 M=>zk fun _ F=>?_))
  have q56a:=q56.1;have q56b:=q56.2
  refine J0 (kWI F M 1 [_,_,_] [_,_,_,_] (k:=fun w M=>zk fun _ F=>?_))
  refine J0 (kWI F M 0 [_,_,_] [_,_,_,_] (k:=fun w M=>zk fun _ F=>?_))
  refine J0 (kWI F M 2 [_,_,_] [_,_,_,_] (k:=fun w M=>zk fun _ F=>?_))
  refine zdc F M.at' 0 ?_
  have M:=M.pick [2] [_]
  exact zfI M () (_,_,_) (⟨yc,yc,ye⟩) (congrArg (Prod.mk ()) (JJ h5 (nf h7) h55 rfl).symm)
 refine zr2 fun _ F=>?_
 refine zi F (fun h57=>?_) fun h57=>?_
 ·refine zr2 fun _ F=>?_
  refine Jn F M.at' 3 rfl rfl rfl rfl rfl rfl rfl rfl rfl fun _ F=>?_
  refine zr2 fun _ F=>?_
  refine Jn F M.at' 3 rfl rfl rfl rfl rfl rfl rfl rfl rfl fun _ F=>?_
  refine zr2 fun _ F=>?_
  refine J0 (kI F M (hc:=Je0 M.hd) (k:=fun v s58 w q58 M=>zk fun _ F=>?_))
  refine J0 (kWI F M 1 [_,_,_] [_,_,_,_] (k:=fun w M=>zk fun _ F=>?_))
  refine J0 (kWI F M 2 [_,_,_] [_,_,_,_] (k:=fun w M=>zk fun _ F=>?_))
  refine zdc F M.at' 0 ?_
  have M:=M.pick [2] [_]
  exact zfI M () (_,_,_) (⟨yc,yc,ye⟩) (congrArg (Prod.mk ()) (JJ h5 (nf h7) h57 rfl).symm)
 refine zr2 fun _ F=>?_
 refine zi F (fun h59=>?_) fun h59=>?_
 ·refine zr2 fun _ F=>?_
  refine Jn F M.at' 3 rfl rfl rfl rfl rfl rfl rfl rfl rfl fun _ F=>?_
  refine zr2 fun _ F=>?_
  refine J0 (kI F M (hc:=Jei M.hd) (k:=fun v s60 w q60 M=>zk fun _ F=>?_))
  have q60a:=q60.1;have q60b:=q60.2
  refine J0 (kWI F M 1 [_,_,_] [_,_,_,_] (k:=fun w M=>zk fun _ F=>?_))
  refine J0 (kWI F M 0 [_,_,_] [_,_,_,_] (k:=fun w M=>zk fun _ F=>?_))
  refine J0 (kWI F M 2 [_,_,_] [_,_,_,_] (k:=fun w M=>zk fun _ F=>?_))
  refine zdc F M.at' 0 ?_
  have M:=M.pick [2] [_]
  exact zfI M () (_,_,_) (⟨yc,yc,ye⟩) (congrArg (Prod.mk ()) (JJ h5 (nf h7) h59 rfl).symm)
 refine zr2 fun _ F=>?_
 refine zi F (fun h61=>?_) fun h61=>?_
 ·refine zr2 fun _ F=>?_
  refine Jn F M.at' 3 rfl rfl rfl rfl rfl rfl rfl rfl rfl fun _ F=>?_
  refine zr2 fun _ F=>?_
  refine J0 (kI F M (hc:=JfM M.hd) (k:=fun v s62 w q62 M=>zk fun _ F=>?_))
  refine J0 (kWI F M 1 [_,_,_] [_,_,_,_] (k:=fun w M=>zk fun _ F=>?_))
  refine J0 (kWI F M 2 [_,_,_] [_,_,_,_] (k:=fun w M=>zk fun _ F=>?_))
  refine zdc F M.at' 0 ?_
  have M:=M.pick [2] [_]
  exact zfI M () (_,_,_) (⟨yc,yc,ye⟩) (congrArg (Prod.mk ()) (JJ h5 (nf h7) h61 rfl).symm)
 refine zr2 fun _ F=>?_
 refine J0 (kWI F M 2 [_,_,_] [_,_,_,_] (k:=fun w M=>zk fun _ F=>?_))
 refine zdc F M.at' 0 ?_
 have M:=M.pick [1] [_]
 exact zfI M () (_,_,_) (⟨yc,yc,ye⟩) (congrArg (Prod.mk ()) (show D=doS D X.P c by exfalso;have:=J4s (nf h7);omega).symm)
end
def J1J (P:Int) (c:CallD):StepD:=⟨P,c⟩
def J3E (x:TxD):List StepD:=x.calls.map (J1J x.proc)
def J5P (b:List CellD) (k:ByteArray):CellD:=⟨k,Jl b k⟩
theorem J5U {α β:Type} {f:α→β} {l:List α} {D:List β} {k:Nat} {x:α} (h:D=(l.take k).map f) (hx:nth l k=some x):D++[f x]=(l.take (k+1)).map f:=by
 rw [h,J1l hx,List.map_append];rfl
theorem J5T {α β:Type} {f:α→β} {l:List α} {D:List β} {k:Nat} (h:D=(l.take k).map f) (hk:l.length≤k):D=l.map f:=by
 rw [h,List.take_of_length_le hk]
theorem J5d (a b:List CellD):(J0Z a b).length≤a.length+b.length:=by
 have:=J8p a b (a.length+b.length)
 rwa [J94 (m:=a.length) (n:=b.length) rfl rfl zO] at this
def JaL (D:List CellD) (x:TxD):Nat:=(J0z 100000 (J3t D (J0m D x.proc x.calls))).size
theorem Jad:TI prog 191 true 7:=J07 underlying191 rfl zK
instance iMN1:TIc prog 191 true 7:=⟨Jad⟩
theorem Jg8:ZI prog 191 (.agg #[iV 0,iV 0,.string (⟨#[]⟩:ByteArray),.string (⟨#[]⟩:ByteArray),iV 0,iV 0,.string (⟨#[]⟩:ByteArray)]):=J2R zK
theorem J9A:FI prog 191 0 0:=Jo underlying191 rfl rfl (k:=0) zK
instance iMN2:FIc prog 191 0 0:=⟨J9A⟩
theorem J9B:FI prog 191 1 1:=Jo underlying191 rfl rfl (k:=5) zK
instance iMN3:FIc prog 191 1 1:=⟨J9B⟩
instance iMN4:RTc prog 161 f161 25:=rtc func161 ntmps161
instance iMN5:UTc prog 151 (.slice 191):=⟨underlying151⟩
theorem J6P {α β:Type} {f:α→β} {l:List α} {k:Nat} {y:β} (h:nth (l.map f) k=some y):∃ x,nth l k=some x∧y=f x:=by
 rw [JO,List.getElem?_map] at h
 rw [JO]
 cases e:l[k]? with
 | none=>rw [e] at h;cases h
 | some x=>rw [e] at h;cases h;exact ⟨x,rfl,rfl⟩
set_option maxRecDepth 100000 in
set_option maxHeartbeats 8000000 in
theorem JiG {X:Uni} {w:World} {b u:Nat} {v:MV} {D:List CellD} {H:Nat→Prop} {cs:List CallD} {ad:Option Addr} {q c:Nat} (hA:AT w [mB X b v D u]) (hs:Rd 7 J1p J1f H w (.slice ad q c) (cs.map (J1J X.P))) (hH:∀ z,H z→¬ mfp b v z) (hq:q≤1048576) (hu:u+330 * q≤68718428160) (hi64:J1 X.P) :
 Calls prog 161 #[pT b,.slice ad q c] w (PIL X b v D u w 155 3 J0x okR (fun _=>True) (J0m D X.P cs) (u+330 * q)):=by
 have hn:q=cs.length:=by have:=hs.inv.1;rwa [List.length_map] at this
 have M:=St.start hA
 refine zE (f:=161) fun _ F=>?_
 have M:=M.then (J72 (e:=155) (k:=3) (enc:=J0x) (ok:=okR) M.at')
 have F:=F.cut (m':=[(10,_),(5,_),(0,_),(8,_),(9,_)]) rfl
 refine J1i (γ:=(Nat × GL AnsD) × MV) (slots:=fun g=>[(10,nV g.1.1),(5,g.1.2.val)]) (LL:=fun g=>[owG 155 3 J0x okR g.1.2,mB X b g.2 (J0m D X.P (cs.take g.1.1)) (u+330 * g.1.1)]) (pr:=fun g=>g.1.1≤q∧g.1.2.l.length≤g.1.1) (g0:=((0,⟨_,_,_,_⟩),v)) (fun g=>q - g.1.1) F M ⟨Nat.zero_le _,Nat.zero_le _⟩ fun g a w F M hp=>?_
 refine zr2 fun _ F=>?_
 refine zi F (fun h1=>?_) fun h1=>?_
 ·refine zr2 fun _ F=>?_
  have hl':=(Rd.start (L:=[mB X b v D u]) hs fun z hz=>by rw [J1b];exact hH z hz).mq M.mv
  refine J5R Jad F hl'.1 ET_151 g.1.1 (fun x=>.agg #[iV x.proc,iV x.call.kind,.string x.call.name,.string x.call.to_,iV x.call.a,iV x.call.b,.string x.call.text]) zO (kk:=fun x _ hx ok=>?_)
  obtain ⟨c,hc,rfl⟩:=J6P hx
  have hok:okK c:=ok.2
  refine zk fun _ F=>?_
  refine J0 (J2T F M Jg8 [_,_,_,_,_,_,_] (k:=fun b2 w M=>zk fun _ F=>?_))
  refine J0 (kWI F M 0 [_,_,_,_,_,_,_] [_,_,_] (k:=fun w M=>zk fun _ F=>?_))
  have M:=M.pick [2,0,1] [_,_,_]
  refine J0 (kI F M (hc:=Jgd (c:=c) M.hd) (k:=fun v s w q M=>zk fun _ F=>?_))
  refine J1P (ok:=okR) F M.at' 2 (⟨s.1,s.2.1,s.2.2⟩:AnsD) ET_55 (hx:=⟨q.1,q.2.1,q.2.2⟩) (kk:=fun B N C _ w l m _ F=>?_)
  have M:=M.then m
  refine zr2 fun _ F=>?_
  have M:=M.pick [0,1] [_,_]
  exact Jw ((g.1.1+1,⟨B,N,C,g.1.2.l++[⟨s.1,s.2.1,s.2.2⟩]⟩),v) (by dsimp only;omega) ⟨F.cut rfl,M.cast (by rw [J3s hc,show u+330 * g.1.1+330=u+330 * (g.1.1+1) by omega]),⟨by dsimp only;omega,by simp only [List.length_append,List.length_singleton];omega⟩⟩
 refine zr2 fun _ F=>?_
 refine zd1 F ?_
 have e:cs.take g.1.1=cs:=List.take_of_length_le zO
 exact J7X (s:=g.1.2) M trivial (by rw [e]) zO
def Gr (n:Nat) (D E:List CellD):Prop:=E.length≤D.length+n
section
variable {D E:List CellD} {n:Nat}
theorem Gr.rf:Gr n D D:=Nat.le_add_right ..
theorem Gr.le {m:Nat} (h:Gr n D E) (hm:n≤m):Gr m D E:=Nat.le_trans h (Nat.add_le_add_left hm _)
theorem Gr.put {k v:ByteArray} (h:Gr n D E):Gr (n+1) D (Jp E k v):=by have:=J4m E k v;unfold Gr at *;omega
theorem Gr.set {k:ByteArray} {z:Int} (h:Gr n D E):Gr (n+1) D (JG E k z):=h.put
theorem Gr.del {k:ByteArray} (h:Gr n D E):Gr n D (Jp E k ⟨#[]⟩):=by
 by_cases hk:J0L k=true
 ·rw [J5b hk rfl];exact Nat.le_trans (J2X ..) h
 have:Jp E k ⟨#[]⟩=E:=if_neg fun q=>hk q.1
 rw [this];exact h
theorem Gr.delA {ks:List ByteArray} (h:Gr n D E):Gr n D (delA ks E):=by
 unfold Go.Proofs.YtipdbeklopjbmaaGreatDoor.delA
 induction ks generalizing E with
 | nil=>exact h
 | cons k ks ih=>exact ih h.del
theorem Gr.wipe {p:ByteArray} (h:Gr n D E):Gr n D (J1Y E p):=h.delA
theorem Gr.bump {k:ByteArray} (h:Gr n D E):Gr (n+1) D (J0R E k).2:=by
 unfold J0R
 split
 ·exact Nat.le_trans h zO
 exact h.set
theorem Gr.sg {i z:Int} (h:Gr n D E):Gr (n+2) D (sgS E i z):=by
 unfold sgS
 repeat' split
 all_goals first|exact Nat.le_trans h zO|exact h.set.set
theorem Gr.ul {f:ByteArray} (h:Gr n D E):Gr (n+1) D (ulS E f):=by
 unfold ulS
 repeat' split
 all_goals first|exact Nat.le_trans h zO|exact h.del.set|exact Nat.le_trans h.del.wipe zO
theorem Gr.fkA {p q:ByteArray} {ks:List ByteArray} (h:Gr n D E):Gr (n+ks.length) D (fkA p q ks E):=by
 unfold Go.Proofs.YtipdbeklopjbmaaGreatDoor.fkA
 induction ks generalizing E n with
 | nil=>exact h
 | cons k ks ih=>exact Nat.le_trans (ih h.put) (by rw [List.length_cons];omega)
theorem Gr.tkA {c:Int} {ks:List ByteArray} (h:Gr n D E):Gr (n+2 * ks.length) D (tkA c ks E):=by
 unfold Go.Proofs.YtipdbeklopjbmaaGreatDoor.tkA
 induction ks generalizing E n with
 | nil=>exact h
 | cons k ks ih=>
  rw [List.foldl_cons]
  split
  ·exact Nat.le_trans (ih h) (by rw [List.length_cons];omega)
  exact Nat.le_trans (ih h.del.sg) (by rw [List.length_cons];omega)
theorem J7A {id:Int} {a:Nat} {t:ByteArray} : ∀ k,Gr k D (wrA D id a t k)
 | 0=>Gr.rf
 | k+1=>(J7A k).put
theorem JaN {id:Int} {p:Nat} (h:Gr n D E):∀ k,Gr n D (ctA E id p k)
 | 0=>h
 | k+1=>(JaN h k).del
theorem Jh9 {id:Int} {k:Nat} (h:Gr n D E):Gr (n+1) D (ctH E id k):=by
 unfold ctH
 split
 ·exact Nat.le_trans h zO
 exact h.put
theorem Ji6 {id at_:Int} {t:ByteArray} (ht:t.size≤64):Gr 12 D (wfF D id at_ t):=by
 unfold wfF
 split
 ·exact Gr.rf
 rename_i h1
 split
 ·exact Gr.rf
 split
 ·exact Gr.rf
 have h2:inB at_ 0 (Ja D (kIs id))=true:=by cases e:inB at_ 0 (Ja D (kIs id)) <;> simp_all
 have h3:0≤at_:=(of_decide_eq_true h2).1
 have hb:nBl at_.toNat t.size≤10:=by unfold nBl;omega
 split
 ·exact Nat.le_trans (J7A _).set zO
 exact Nat.le_trans (J7A _) zO
theorem Jh8 {id z:Int} : Gr 12 D (ctF D id z):=by
 unfold ctF
 split
 ·exact Gr.rf
 exact Nat.le_trans (JaN (Jh9 (Gr.rf (n:=0))) _).set zO
theorem J0n {p:Prop} [Decidable p] {x y:List CellD} {N:Nat} (h1:p→x.length≤N) (h2:¬ p→y.length≤N):(if p then x else y).length≤N:=by
 by_cases h:p
 ·rw [if_pos h];exact h1 h
 rw [if_neg h];exact h2 h
theorem J7x {p:Int} : Gr 3 D (spF D p).2:=by
 unfold spF
 split
 ·exact Gr.rf
 exact (Gr.rf (n:=0)).bump.set.set
theorem enF_gr {i z:Int} : Gr 2 D (enF D i z).2:=by
 unfold enF
 repeat' split
 all_goals first|with_reducible exact Gr.rf|with_reducible exact (Gr.rf (n:=0)).set.set
theorem Jhp {x:ByteArray} : Gr 8 D (mkS D x):=by
 unfold mkS
 repeat' split
 all_goals first|with_reducible exact Gr.rf|with_reducible exact (Gr.rf (n:=0)).bump.set.set.le (by decide)
theorem Jhn {f t:ByteArray} : Gr 8 D (lkS D f t):=by
 unfold lkS
 repeat' split
 all_goals first|with_reducible exact Gr.rf|with_reducible exact (Gr.rf (n:=0)).set.set.le (by decide)
theorem JhO {f t:ByteArray} : Gr 8 D (rnS D f t):=by
 unfold rnS
 repeat' split
 all_goals first|with_reducible exact Gr.rf|with_reducible exact (Gr.rf (n:=0)).ul.set.del.le (by decide)|with_reducible exact (Gr.rf (n:=0)).set.del.le (by decide)
theorem Jhr  : Gr 8 D (mpS D):=by
 unfold mpS
 repeat' split
 all_goals first|with_reducible exact Gr.rf|with_reducible exact (Gr.rf (n:=0)).bump.set.le (by decide)
theorem Jhy {i:Int} {x:ByteArray} : Gr 8 D (ppS D i x):=by
 unfold ppS
 repeat' split
 all_goals first|with_reducible exact Gr.rf|with_reducible exact (Gr.rf (n:=0)).set.put.le (by decide)
theorem Ji0 {i:Int} : Gr 8 D (tpS D i):=by
 unfold tpS
 repeat' split
 all_goals first|with_reducible exact Gr.rf|with_reducible exact (Gr.rf (n:=0)).del.set.le (by decide)
theorem JhQ {p i:Int} : Gr 8 D (rpS D p i):=by
 unfold rpS
 repeat' split
 all_goals first|with_reducible exact Gr.rf|with_reducible exact (Gr.rf (n:=0)).wipe.le (by decide)
theorem Ji1 {i:Int} : Gr 8 D (tsS D i):=by
 unfold tsS
 repeat' split
 all_goals first|with_reducible exact Gr.rf|with_reducible exact (Gr.rf (n:=0)).del.set.le (by decide)
theorem JhY {i z:Int} : Gr 8 D (tmS D i z):=by
 unfold tmS
 repeat' split
 all_goals first|with_reducible exact Gr.rf|with_reducible exact (Gr.rf (n:=0)).set.le (by decide)
theorem Jhj {i p:Int} {x:ByteArray} : Gr 8 D (gpS D i p x):=by
 unfold gpS
 repeat' split
 all_goals first|with_reducible exact Gr.rf|with_reducible exact (Gr.rf (n:=0)).put.le (by decide)
theorem Jhx {x:ByteArray} : Gr 8 D (poS D x):=by
 unfold poS
 repeat' split
 all_goals first|with_reducible exact Gr.rf|with_reducible exact (Gr.rf (n:=0)).set.put.le (by decide)
theorem JgT (D:List CellD) (z:Int):(tkS D z).length≤3 * D.length+100:=by
 unfold tkS
 refine J0n (fun _=>by omega) fun _=>J0n (fun _=>by omega) fun _=>?_
 generalize hE:JG D _ _=E
 have h0:Gr 1 D E:=hE ▸ (Gr.rf (n:=0)).set
 generalize hk:Jt E _=ks
 have h2:ks.length≤E.length:=hk ▸ J4i ..
 have h3:=Gr.tkA (c:=Ja D (⟨#[99,47,99,108,111,99,107]⟩:ByteArray)+z) (ks:=ks) h0
 unfold Gr at *;omega
theorem Jgf {P t:Int} (h:Gr 3 D E):(fkS E P t).length≤3 * D.length+100:=by
 have h1:=Gr.fkA (p:=kPg P) (q:=kPg t) (ks:=Jt E (kPg P)) h
 have h2:=J4i E (kPg P)
 unfold fkS;unfold Gr at *;omega
theorem Jge (D:List CellD) (P:Int) (c:CallD):(doS D P c).length≤3 * D.length+100:=by
 have up:∀ {k:Nat} {E:List CellD},Gr k D E→k≤100→E.length≤3 * D.length+100:=fun h hk=>Nat.le_trans h zO
 have z:D.length≤3 * D.length+100:=by omega
 unfold doS
 refine J0n (fun _=>z) fun _=>J0n (fun _=>z) fun hc=>?_
 have hb:=J4s (c:=c) (by cases e:J2q c;exact absurd e hc;rfl)
 refine J0n (fun _=>up Jhp (by decide)) fun _=>J0n (fun _=>up Jhn (by decide)) fun _=>J0n (fun _=>up (Gr.rf (n:=0)).ul (by decide)) fun _=>J0n (fun _=>up JhO (by decide)) fun _=>?_
 refine J0n (fun _=>J0n (fun _=>z) fun _=>up (Ji6 hb.2.2.2.2) (by decide)) fun _=>J0n (fun _=>J0n (fun _=>z) fun _=>up Jh8 (by decide)) fun _=>?_
 refine J0n (fun _=>up Jhr (by decide)) fun _=>J0n (fun _=>up Jhy (by decide)) fun _=>J0n (fun _=>up Ji0 (by decide)) fun _=>?_
 refine J0n (fun _=>J0n (fun _=>Jgf J7x) fun _=>up J7x (by decide)) fun _=>J0n (fun _=>J0n (fun _=>up enF_gr.wipe (by decide)) fun _=>up enF_gr (by decide)) fun _=>?_
 refine J0n (fun _=>up JhQ (by decide)) fun _=>J0n (fun _=>up (Gr.rf (n:=0)).sg (by decide)) fun _=>J0n (fun _=>up Ji1 (by decide)) fun _=>J0n (fun _=>up JhY (by decide)) fun _=>?_
 exact J0n (fun _=>JgT ..) fun _=>J0n (fun _=>up Jhj (by decide)) fun _=>J0n (fun _=>up Jhx (by decide)) fun _=>z
end
end Go.Proofs.YtipdbeklopjbmaaGreatDoor
