/-
  Walks: the program's calls, all.
-/
import Derived.Test.YtipdbeklopjbmaaGreatDoorKaG
import Derived.Test.YtipdbeklopjbmaaGreatDoorP16
import Derived.Test.YtipdbeklopjbmaaGreatDoorP17
set_option linter.unusedVariables false
set_option linter.unusedSimpArgs false
namespace Go.Proofs.YtipdbeklopjbmaaGreatDoor
open Go.ChangeShapes Go.WideShapes Go.ChangeAt Go.RowKit
set_option maxRecDepth 100000
set_option maxHeartbeats 1000000
section
set_option maxHeartbeats 8000000
variable {X:Uni} {w:World} {b u:Nat} {v:MV} {D:List CellD} {H:Nat→Prop}
theorem doAll_k {c:CallD} (hA:AT w [mB X b v D u]) (hu:u+330≤68718428160:=by omega) (hi64:i64ok X.P:=by assumption) (h_c:okK c:=by assumption) :
 Calls Tryz.prog 188 #[.pointer (some ⟨b,0,none⟩),.int .i64 X.P,.agg #[.int .i64 c.kind,.string c.name,.string c.to_,.int .i64 c.a,.int .i64 c.b,.string c.text]] w (PI X b v D u w (fun (r:Unit) (s:Int × Int × ByteArray)=>.agg #[.int .i64 s.1,.int .i64 s.2.1,.string s.2.2]) () (doS D X.P c) (u+330) (fun (_:Unit) (s:Int × Int × ByteArray)=>i64ok s.1∧i64ok s.2.1∧okS s.2.2)):=by
 have hk1:=h_c.1;have hk2:=h_c.2.1;have hk3:=h_c.2.2.1;have hk4:=h_c.2.2.2.1;have hk5:=h_c.2.2.2.2.1;have hk6:=h_c.2.2.2.2.2
 have M:=St.start hA
 refine zE (f:=188) fun _ F=>?_
 refine l_op (kBxI F M [_,_,_,_,_,_] (k:=fun b1 w M=>zk fun _ F=>?_))
 refine l_op (kAlI F M ZI_155 [_,_,_] (k:=fun b2 w M=>zk fun _ F=>?_))
 refine l_op (kAlI F M ZI_155 [_,_,_] (k:=fun b3 w M=>zk fun _ F=>?_))
 have M:=M.pick [3,0,1,2] [_,_,_,_]
 refine l_op (kI F M (hc:=state_k M.hd) (k:=fun v s4 w q4 M=>zk fun _ F=>?_))
 have q4a:=q4.1;have q4b:=q4.2
 refine zi F (fun h5=>?_) fun h5=>?_
 ·refine zr2 fun _ F=>?_
  refine l_op (kBd F BI_155 (k:=zk fun _ F=>?_))
  refine l_op (kWI F M 2 [_,_,_] [_,_,_,_] (k:=fun w M=>zk fun _ F=>?_))
  refine x_done F (results_1 rfl (zca F M.at' 0)) ?_
  have M:=M.pick [1] [_]
  exact zfI M () (_,_,_) (⟨zI2,zI2,zI3⟩) (congrArg (Prod.mk ()) (do_n h5).symm)
 ·refine zr2 fun _ F=>?_
  refine m_ld F M.at' 3 rfl rfl rfl rfl rfl rfl rfl rfl rfl fun _ F=>?_
  refine zr2 fun _ F=>?_
  refine l_op (kO F M (hc:=callOk_k M.nil.tb) (k:=fun s6 w q6 M=>zk fun _ F=>?_))
  refine zib F (fun h7=>?_) fun h7=>?_
  ·refine zr2 fun _ F=>?_
   refine l_op (kBd F BI_155 (k:=zk fun _ F=>?_))
   refine l_op (kWI F M 2 [_,_,_] [_,_,_,_] (k:=fun w M=>zk fun _ F=>?_))
   refine x_done F (results_1 rfl (zca F M.at' 0)) ?_
   have M:=M.pick [1] [_]
   exact zfI M () (_,_,_) (⟨zI2,zI2,zI3⟩) (congrArg (Prod.mk ()) (do_k (nt h7)).symm)
  ·refine zr2 fun _ F=>?_
   have hbd:=callOk_bd (nf (by assumption))
   refine m_ld F M.at' 3 rfl rfl rfl rfl rfl rfl rfl rfl rfl fun _ F=>?_
   refine zr2 fun _ F=>?_
   refine zi F (fun h8=>?_) fun h8=>?_
   ·refine zr2 fun _ F=>?_
    refine m_ld F M.at' 3 rfl rfl rfl rfl rfl rfl rfl rfl rfl fun _ F=>?_
    refine zr2 fun _ F=>?_
    refine l_op (kI F M (hc:=makeName_k M.hd) (k:=fun v s9 w q9 M=>zk fun _ F=>?_))
    have q9a:=q9.1;have q9b:=q9.2
    refine l_op (kWI F M 1 [_,_,_] [_,_,_,_] (k:=fun w M=>zk fun _ F=>?_))
    refine l_op (kWI F M 0 [_,_,_] [_,_,_,_] (k:=fun w M=>zk fun _ F=>?_))
    refine l_op (kWI F M 2 [_,_,_] [_,_,_,_] (k:=fun w M=>zk fun _ F=>?_))
    refine x_done F (results_1 rfl (zca F M.at' 0)) ?_
    have M:=M.pick [2] [_]
    exact zfI M () (_,_,_) (⟨zI2,zI2,zI3⟩) (congrArg (Prod.mk ()) (do_y h5 (nf h7) h8 rfl).symm)
   ·refine zr2 fun _ F=>?_
    refine zi F (fun h10=>?_) fun h10=>?_
    ·refine zr2 fun _ F=>?_
     refine m_ld F M.at' 3 rfl rfl rfl rfl rfl rfl rfl rfl rfl fun _ F=>?_
     refine zr2 fun _ F=>?_
     refine m_ld F M.at' 3 rfl rfl rfl rfl rfl rfl rfl rfl rfl fun _ F=>?_
     refine zr2 fun _ F=>?_
     refine l_op (kI F M (hc:=linkName_k M.hd) (k:=fun v s11 w q11 M=>zk fun _ F=>?_))
     refine l_op (kWI F M 1 [_,_,_] [_,_,_,_] (k:=fun w M=>zk fun _ F=>?_))
     refine l_op (kWI F M 2 [_,_,_] [_,_,_,_] (k:=fun w M=>zk fun _ F=>?_))
     refine x_done F (results_1 rfl (zca F M.at' 0)) ?_
     have M:=M.pick [2] [_]
     exact zfI M () (_,_,_) (⟨zI2,zI2,zI3⟩) (congrArg (Prod.mk ()) (do_y h5 (nf h7) h10 rfl).symm)
    ·refine zr2 fun _ F=>?_
     refine zi F (fun h12=>?_) fun h12=>?_
     ·refine zr2 fun _ F=>?_
      refine m_ld F M.at' 3 rfl rfl rfl rfl rfl rfl rfl rfl rfl fun _ F=>?_
      refine zr2 fun _ F=>?_
      refine l_op (kI F M (hc:=unlinkName_k M.hd) (k:=fun v s13 w q13 M=>zk fun _ F=>?_))
      refine l_op (kWI F M 1 [_,_,_] [_,_,_,_] (k:=fun w M=>zk fun _ F=>?_))
      refine l_op (kWI F M 2 [_,_,_] [_,_,_,_] (k:=fun w M=>zk fun _ F=>?_))
      refine x_done F (results_1 rfl (zca F M.at' 0)) ?_
      have M:=M.pick [2] [_]
      exact zfI M () (_,_,_) (⟨zI2,zI2,zI3⟩) (congrArg (Prod.mk ()) (do_y h5 (nf h7) h12 rfl).symm)
     ·refine zr2 fun _ F=>?_
      refine zi F (fun h14=>?_) fun h14=>?_
      ·refine zr2 fun _ F=>?_
       refine m_ld F M.at' 3 rfl rfl rfl rfl rfl rfl rfl rfl rfl fun _ F=>?_
       refine zr2 fun _ F=>?_
       refine m_ld F M.at' 3 rfl rfl rfl rfl rfl rfl rfl rfl rfl fun _ F=>?_
       refine zr2 fun _ F=>?_
       refine l_op (kI F M (hc:=renameName_k M.hd) (k:=fun v s15 w q15 M=>zk fun _ F=>?_))
       refine l_op (kWI F M 1 [_,_,_] [_,_,_,_] (k:=fun w M=>zk fun _ F=>?_))
       refine l_op (kWI F M 2 [_,_,_] [_,_,_,_] (k:=fun w M=>zk fun _ F=>?_))
       refine x_done F (results_1 rfl (zca F M.at' 0)) ?_
       have M:=M.pick [2] [_]
       exact zfI M () (_,_,_) (⟨zI2,zI2,zI3⟩) (congrArg (Prod.mk ()) (do_y h5 (nf h7) h14 rfl).symm)
      ·refine zr2 fun _ F=>?_
       refine zi F (fun h16=>?_) fun h16=>?_
       ·refine zr2 fun _ F=>?_
        refine l_op (kLI F M (hc:=names_k M.hd) (kk:=fun v s17 w q17 M=>zk fun _ F=>?_))
        have hn17:=GL.inv M.at' 0 rfl (by intro _;rfl)
        have F:=F.cut (m':=[(66,_),(0,_),(1,_),(5,_),(6,_),(7,_),(12,_),(18,_),(24,_),(25,_),(36,_),(45,_),(52,_),(61,_),(64,_),(65,_)]) rfl
        refine kLoop (γ:=(Nat × ByteArray) × MV) (slots:=fun g=>[(66,.int .i64 ((g.1.1:Nat):Int))]) (LL:=fun g=>[owG 9 1 encS okS s17,mB X b g.2 (D) (u+2),bx b3 [.int .i64 0,.int .i64 0,.string g.1.2] 155,bx b2 [.int .i64 0,.int .i64 0,.string (⟨#[]⟩:ByteArray)] 155,bx b1 [.int .i64 c.kind,.string c.name,.string c.to_,.int .i64 c.a,.int .i64 c.b,.string c.text] 153]) (pr:=fun g=>g.1.1≤s17.n∧g.1.2.size≤g.1.1 * 1048577) (g0:=((0,⟨#[]⟩),v)) (fun g=>s17.n - g.1.1) F M (⟨Nat.zero_le _,Nat.zero_le _⟩) fun g a w F M hp=>?_
        have hgq:=q17
        refine zr2 fun _ F=>?_
        refine zi F (fun h19=>?_) fun h19=>?_
        ·refine zr2 fun _ F=>?_
         refine kElG TI_9 F (At.rd M.at' ET_44.hk 0 rfl).1 ET_44 (g.1.1) (Value.string) (by omega) (kk:=fun x20 _ hx20 ok20=>have hb20:=hgq.2 _ (nth_mem hx20);have hc20:(x20++(⟨#[32]⟩:ByteArray)).size=x20.size+1:=ByteArray.size_append;zk fun _ F=>?_)
         refine l_op (kWI F M 2 [_,_,_] [_,_,_,_,_] (k:=fun w M=>zk fun _ F=>?_))
         have M:=M.pick [1,2,0,3,4] [_,_,_,_,_]
         exact lend ((g.1.1+1,_),g.2) (by dsimp only;omega) ⟨F.cut rfl,M,⟨by dsimp only;omega,by simp only [ByteArray.size_append,sz1];omega⟩⟩
        ·refine zr2 fun _ F=>?_
         refine l_op (kWI F M 3 [_,_,_] [_,_,_,_,_] (k:=fun w M=>zk fun _ F=>?_))
         refine x_done F (results_1 rfl (zca F M.at' 0)) ?_
         have M:=M.pick [2] [_]
         exact zfI M () (_,_,_) (⟨zI2,zI2,zI3⟩) (congrArg (Prod.mk ()) (do_y h5 (nf h7) h16 rfl).symm)
       ·refine zr2 fun _ F=>?_
        refine zi F (fun h21=>?_) fun h21=>?_
        ·refine zr2 fun _ F=>?_
         refine zi F (fun _=>?_) fun hz=>absurd h21 hz
         refine zr2 fun _ F=>?_
         refine m_ld F M.at' 3 rfl rfl rfl rfl rfl rfl rfl rfl rfl fun _ F=>?_
         refine zr2 fun _ F=>?_
         refine l_op (kI F M (hc:=doFile_k M.hd) (k:=fun v s22 w q22 M=>zk fun _ F=>?_))
         have q22a:=q22.1;have q22b:=q22.2;have q22c:=q22.2.1;have q22d:=q22.2.2
         refine l_op (kWI F M 2 [_,_,_] [_,_,_,_] (k:=fun w M=>zk fun _ F=>?_))
         refine x_done F (results_1 rfl (zca F M.at' 0)) ?_
         have M:=M.pick [1] [_]
         exact zfI M () (_,_,_) (⟨zI2,zI2,zI3⟩) (congrArg (Prod.mk ()) (do_y h5 (nf h7) h21 (fl_6 h21)).symm)
        ·refine zr2 fun _ F=>?_
         refine zi F (fun h23=>?_) fun h23=>?_
         ·refine zr2 fun _ F=>?_
          refine zi F (fun _=>?_) fun hz=>absurd h23 hz
          refine zr2 fun _ F=>?_
          refine m_ld F M.at' 3 rfl rfl rfl rfl rfl rfl rfl rfl rfl fun _ F=>?_
          refine zr2 fun _ F=>?_
          refine l_op (kI F M (hc:=doFile_k M.hd) (k:=fun v s24 w q24 M=>zk fun _ F=>?_))
          have q24a:=q24.1;have q24b:=q24.2;have q24c:=q24.2.1;have q24d:=q24.2.2
          refine l_op (kWI F M 2 [_,_,_] [_,_,_,_] (k:=fun w M=>zk fun _ F=>?_))
          refine x_done F (results_1 rfl (zca F M.at' 0)) ?_
          have M:=M.pick [1] [_]
          exact zfI M () (_,_,_) (⟨zI2,zI2,zI3⟩) (congrArg (Prod.mk ()) (do_y h5 (nf h7) h23 (fl_7 h23)).symm)
         ·refine zr2 fun _ F=>?_
          refine zi F (fun h25=>?_) fun h25=>?_
          ·refine zr2 fun _ F=>?_
           refine m_ld F M.at' 3 rfl rfl rfl rfl rfl rfl rfl rfl rfl fun _ F=>?_
           refine zr2 fun _ F=>?_
           refine l_op (kI F M (hc:=doFile_k M.hd) (k:=fun v s26 w q26 M=>zk fun _ F=>?_))
           have q26a:=q26.1;have q26b:=q26.2;have q26c:=q26.2.1;have q26d:=q26.2.2
           refine l_op (kWI F M 2 [_,_,_] [_,_,_,_] (k:=fun w M=>zk fun _ F=>?_))
           refine x_done F (results_1 rfl (zca F M.at' 0)) ?_
           have M:=M.pick [1] [_]
           exact zfI M () (_,_,_) (⟨zI2,zI2,zI3⟩) (congrArg (Prod.mk ()) (do_y h5 (nf h7) h25 (fl_8 h25)).symm)
          ·refine zr2 fun _ F=>?_
           refine zi F (fun h27=>?_) fun h27=>?_
           ·refine zr2 fun _ F=>?_
            refine l_op (kI F M (hc:=makePipe_k M.hd) (k:=fun v s28 w q28 M=>zk fun _ F=>?_))
            have q28a:=q28.1;have q28b:=q28.2
            refine l_op (kWI F M 1 [_,_,_] [_,_,_,_] (k:=fun w M=>zk fun _ F=>?_))
            refine l_op (kWI F M 0 [_,_,_] [_,_,_,_] (k:=fun w M=>zk fun _ F=>?_))
            refine l_op (kWI F M 2 [_,_,_] [_,_,_,_] (k:=fun w M=>zk fun _ F=>?_))
            refine x_done F (results_1 rfl (zca F M.at' 0)) ?_
            have M:=M.pick [2] [_]
            exact zfI M () (_,_,_) (⟨zI2,zI2,zI3⟩) (congrArg (Prod.mk ()) (do_y h5 (nf h7) h27 rfl).symm)
           ·refine zr2 fun _ F=>?_
            refine zi F (fun h29=>?_) fun h29=>?_
            ·refine zr2 fun _ F=>?_
             refine m_ld F M.at' 3 rfl rfl rfl rfl rfl rfl rfl rfl rfl fun _ F=>?_
             refine zr2 fun _ F=>?_
             refine m_ld F M.at' 3 rfl rfl rfl rfl rfl rfl rfl rfl rfl fun _ F=>?_
             refine zr2 fun _ F=>?_
             refine l_op (kI F M (hc:=putPipe_k M.hd) (k:=fun v s30 w q30 M=>zk fun _ F=>?_))
             refine l_op (kWI F M 1 [_,_,_] [_,_,_,_] (k:=fun w M=>zk fun _ F=>?_))
             refine l_op (kWI F M 2 [_,_,_] [_,_,_,_] (k:=fun w M=>zk fun _ F=>?_))
             refine x_done F (results_1 rfl (zca F M.at' 0)) ?_
             have M:=M.pick [2] [_]
             exact zfI M () (_,_,_) (⟨zI2,zI2,zI3⟩) (congrArg (Prod.mk ()) (do_y h5 (nf h7) h29 rfl).symm)
            ·refine zr2 fun _ F=>?_
             refine zi F (fun h31=>?_) fun h31=>?_
             ·refine zr2 fun _ F=>?_
              refine m_ld F M.at' 3 rfl rfl rfl rfl rfl rfl rfl rfl rfl fun _ F=>?_
              refine zr2 fun _ F=>?_
              refine l_op (kI F M (hc:=takePipe_k M.hd) (k:=fun v s32 w q32 M=>zk fun _ F=>?_))
              have q32a:=q32.1;have q32b:=q32.2
              refine l_op (kWI F M 1 [_,_,_] [_,_,_,_] (k:=fun w M=>zk fun _ F=>?_))
              refine l_op (kWI F M 0 [_,_,_] [_,_,_,_] (k:=fun w M=>zk fun _ F=>?_))
              refine l_op (kWI F M 2 [_,_,_] [_,_,_,_] (k:=fun w M=>zk fun _ F=>?_))
              refine x_done F (results_1 rfl (zca F M.at' 0)) ?_
              have M:=M.pick [2] [_]
              exact zfI M () (_,_,_) (⟨zI2,zI2,zI3⟩) (congrArg (Prod.mk ()) (do_y h5 (nf h7) h31 rfl).symm)
             ·refine zr2 fun _ F=>?_
              refine zi F (fun h33=>?_) fun h33=>?_
              ·refine zr2 fun _ F=>?_
               refine l_op (kI F M (hc:=spawn_k M.hd) (k:=fun v s34 w q34 M=>zk fun _ F=>?_))
               have q34a:=q34.1;have q34b:=q34.2
               refine l_op (kWI F M 1 [_,_,_] [_,_,_,_] (k:=fun w M=>zk fun _ F=>?_))
               refine l_op (kWI F M 0 [_,_,_] [_,_,_,_] (k:=fun w M=>zk fun _ F=>?_))
               refine zi F (fun h35=>?_) fun h35=>?_
               ·refine zr2 fun _ F=>?_
                refine l_op (kI2 F M (hc:=fork_k M.hd2 (p0:=spF_ok (by assumption))) (k:=fun v s36 w q36 M=>zk fun _ F=>?_))
                refine l_op (kWI F M 2 [_,_,_] [_,_,_,_] (k:=fun w M=>zk fun _ F=>?_))
                refine x_done F (results_1 rfl (zca F M.at' 0)) ?_
                have M:=M.pick [2] [_]
                exact zfI M () (_,_,_) (⟨zI2,zI2,zI3⟩) (congrArg (Prod.mk ()) (do_y h5 (nf h7) h33 (show (if (spF D X.P).1.2=0 then _ else _)=_ from if_pos h35)).symm)
               ·refine zr2 fun _ F=>?_
                refine l_op (kWI F M 2 [_,_,_] [_,_,_,_] (k:=fun w M=>zk fun _ F=>?_))
                refine x_done F (results_1 rfl (zca F M.at' 0)) ?_
                have M:=M.pick [2] [_]
                exact zfI M () (_,_,_) (⟨zI2,zI2,zI3⟩) (congrArg (Prod.mk ()) (do_y h5 (nf h7) h33 (show (if (spF D X.P).1.2=0 then _ else _)=_ from if_neg h35)).symm)
              ·refine zr2 fun _ F=>?_
               refine zi F (fun h37=>?_) fun h37=>?_
               ·refine zr2 fun _ F=>?_
                refine m_ld F M.at' 3 rfl rfl rfl rfl rfl rfl rfl rfl rfl fun _ F=>?_
                refine zr2 fun _ F=>?_
                refine l_op (kI F M (hc:=end_k M.hd) (k:=fun v s38 w q38 M=>zk fun _ F=>?_))
                refine l_op (kWI F M 1 [_,_,_] [_,_,_,_] (k:=fun w M=>zk fun _ F=>?_))
                refine zi F (fun h39=>?_) fun h39=>?_
                ·refine zr2 fun _ F=>?_
                 refine l_op (kI2 F M (hc:=dropPages_k M.hd2) (k:=fun v s40 w q40 M=>zk fun _ F=>?_))
                 refine l_op (kWI F M 2 [_,_,_] [_,_,_,_] (k:=fun w M=>zk fun _ F=>?_))
                 refine x_done F (results_1 rfl (zca F M.at' 0)) ?_
                 have M:=M.pick [2] [_]
                 exact zfI M () (_,_,_) (⟨zI2,zI2,zI3⟩) (congrArg (Prod.mk ()) (do_y h5 (nf h7) h37 (show (if (enF D X.P c.a).1=0 then _ else _)=_ from if_pos h39)).symm)
                ·refine zr2 fun _ F=>?_
                 refine l_op (kWI F M 2 [_,_,_] [_,_,_,_] (k:=fun w M=>zk fun _ F=>?_))
                 refine x_done F (results_1 rfl (zca F M.at' 0)) ?_
                 have M:=M.pick [2] [_]
                 exact zfI M () (_,_,_) (⟨zI2,zI2,zI3⟩) (congrArg (Prod.mk ()) (do_y h5 (nf h7) h37 (show (if (enF D X.P c.a).1=0 then _ else _)=_ from if_neg h39)).symm)
               ·refine zr2 fun _ F=>?_
                refine zi F (fun h41=>?_) fun h41=>?_
                ·refine zr2 fun _ F=>?_
                 refine m_ld F M.at' 3 rfl rfl rfl rfl rfl rfl rfl rfl rfl fun _ F=>?_
                 refine zr2 fun _ F=>?_
                 refine l_op (kI F M (hc:=reap_k M.hd) (k:=fun v s42 w q42 M=>zk fun _ F=>?_))
                 have q42a:=q42.1;have q42b:=q42.2
                 refine l_op (kWI F M 1 [_,_,_] [_,_,_,_] (k:=fun w M=>zk fun _ F=>?_))
                 refine l_op (kWI F M 0 [_,_,_] [_,_,_,_] (k:=fun w M=>zk fun _ F=>?_))
                 refine l_op (kWI F M 2 [_,_,_] [_,_,_,_] (k:=fun w M=>zk fun _ F=>?_))
                 refine x_done F (results_1 rfl (zca F M.at' 0)) ?_
                 have M:=M.pick [2] [_]
                 exact zfI M () (_,_,_) (⟨zI2,zI2,zI3⟩) (congrArg (Prod.mk ()) (do_y h5 (nf h7) h41 rfl).symm)
                ·refine zr2 fun _ F=>?_
                 refine zi F (fun h43=>?_) fun h43=>?_
                 ·refine zr2 fun _ F=>?_
                  refine l_op (kLI F M (hc:=kids_k M.hd) (kk:=fun v s44 w q44 M=>zk fun _ F=>?_))
                  have hn44:=GL.inv M.at' 0 rfl (by intro _;rfl)
                  have F:=F.cut (m':=[(163,_),(0,_),(1,_),(5,_),(6,_),(7,_),(12,_),(18,_),(24,_),(25,_),(36,_),(45,_),(52,_),(61,_),(77,_),(84,_),(93,_),(102,_),(113,_),(131,_),(145,_),(157,_),(161,_),(162,_)]) rfl
                  refine kLoop (γ:=(Nat × ByteArray) × MV) (slots:=fun g1=>[(163,.int .i64 ((g1.1.1:Nat):Int))]) (LL:=fun g1=>[owG 3 1 encI okI s44,mB X b g1.2 (D) (u+3),bx b3 [.int .i64 0,.int .i64 0,.string g1.1.2] 155,bx b2 [.int .i64 0,.int .i64 0,.string (⟨#[]⟩:ByteArray)] 155,bx b1 [.int .i64 c.kind,.string c.name,.string c.to_,.int .i64 c.a,.int .i64 c.b,.string c.text] 153]) (pr:=fun g1=>g1.1.1≤s44.n∧g1.1.2.size≤g1.1.1 * 22) (g0:=((0,⟨#[]⟩),v)) (fun g1=>s44.n - g1.1.1) F M (⟨Nat.zero_le _,Nat.zero_le _⟩) fun g1 a w F M hp=>?_
                  have hgq:=q44
                  refine zr2 fun _ F=>?_
                  refine zi F (fun h46=>?_) fun h46=>?_
                  ·refine zr2 fun _ F=>?_
                   refine kElG TI_3 F (At.rd M.at' ET_47.hk 0 rfl).1 ET_47 (g1.1.1) (Value.int .i64) (by omega) (kk:=fun x47 _ hx47 ok47=>have hd47:=decS_size _ ok47;have hc47:(decS x47++(⟨#[32]⟩:ByteArray)).size=(decS x47).size+1:=ByteArray.size_append;zk fun _ F=>?_)
                   refine x_rdM [(_,[_,_,_],_)] [] [] [0,1,2,3,4,5,6,7] M (HdK.none (HdS.cons M.at' 2 rfl HdS.nil)) mixed (by kernel_rfl) fun w M hS=>?_
                   refine zr2 fun _ F=>?_
                   refine n_fa F rfl rfl rfl rfl rfl rfl rfl rfl fun _ F=>?_
                   refine zr2 fun _ F=>?_
                   refine n_op rfl rfl (kOm F M (hc:=dec_k M.nil.tb) (k:=fun s48 w q48 m M=>kB m (zkN fun _ F=>?_)))
                   refine n_fa F rfl rfl rfl rfl rfl rfl rfl rfl fun _ F=>?_
                   refine zr2 fun _ F=>?_
                   refine n_op rfl rfl (kWI F M 2 [_,_,_] [_,_,_,_,_] (k:=fun w M=>kF (zkN fun _ F=>?_)))
                   have M:=M.pick [1,2,0,3,4] [_,_,_,_,_]
                   exact lend ((g1.1.1+1,_),g1.2) (by dsimp only;omega) ⟨F.cut rfl,M,⟨by dsimp only;omega,by simp only [ByteArray.size_append,sz1];omega⟩⟩
                  ·refine zr2 fun _ F=>?_
                   refine l_op (kWI F M 3 [_,_,_] [_,_,_,_,_] (k:=fun w M=>zk fun _ F=>?_))
                   refine x_done F (results_1 rfl (zca F M.at' 0)) ?_
                   have M:=M.pick [2] [_]
                   exact zfI M () (_,_,_) (⟨zI2,zI2,zI3⟩) (congrArg (Prod.mk ()) (do_y h5 (nf h7) h43 rfl).symm)
                 ·refine zr2 fun _ F=>?_
                  refine zi F (fun h49=>?_) fun h49=>?_
                  ·refine zr2 fun _ F=>?_
                   refine m_ld F M.at' 3 rfl rfl rfl rfl rfl rfl rfl rfl rfl fun _ F=>?_
                   refine zr2 fun _ F=>?_
                   refine m_ld F M.at' 3 rfl rfl rfl rfl rfl rfl rfl rfl rfl fun _ F=>?_
                   refine zr2 fun _ F=>?_
                   refine l_op (kI F M (hc:=send_k M.hd) (k:=fun v s50 w q50 M=>zk fun _ F=>?_))
                   refine l_op (kWI F M 1 [_,_,_] [_,_,_,_] (k:=fun w M=>zk fun _ F=>?_))
                   refine l_op (kWI F M 2 [_,_,_] [_,_,_,_] (k:=fun w M=>zk fun _ F=>?_))
                   refine x_done F (results_1 rfl (zca F M.at' 0)) ?_
                   have M:=M.pick [2] [_]
                   exact zfI M () (_,_,_) (⟨zI2,zI2,zI3⟩) (congrArg (Prod.mk ()) (do_y h5 (nf h7) h49 rfl).symm)
                  ·refine zr2 fun _ F=>?_
                   refine zi F (fun h51=>?_) fun h51=>?_
                   ·refine zr2 fun _ F=>?_
                    refine l_op (kI F M (hc:=takeSignal_k M.hd) (k:=fun v s52 w q52 M=>zk fun _ F=>?_))
                    have q52a:=q52.1;have q52b:=q52.2
                    refine l_op (kWI F M 1 [_,_,_] [_,_,_,_] (k:=fun w M=>zk fun _ F=>?_))
                    refine l_op (kWI F M 0 [_,_,_] [_,_,_,_] (k:=fun w M=>zk fun _ F=>?_))
                    refine l_op (kWI F M 2 [_,_,_] [_,_,_,_] (k:=fun w M=>zk fun _ F=>?_))
                    refine x_done F (results_1 rfl (zca F M.at' 0)) ?_
                    have M:=M.pick [2] [_]
                    exact zfI M () (_,_,_) (⟨zI2,zI2,zI3⟩) (congrArg (Prod.mk ()) (do_y h5 (nf h7) h51 rfl).symm)
                   ·refine zr2 fun _ F=>?_
                    refine zi F (fun h53=>?_) fun h53=>?_
                    ·refine zr2 fun _ F=>?_
                     refine m_ld F M.at' 3 rfl rfl rfl rfl rfl rfl rfl rfl rfl fun _ F=>?_
                     refine zr2 fun _ F=>?_
                     refine l_op (kI F M (hc:=setTimer_k M.hd) (k:=fun v s54 w q54 M=>zk fun _ F=>?_))
                     refine l_op (kWI F M 1 [_,_,_] [_,_,_,_] (k:=fun w M=>zk fun _ F=>?_))
                     refine l_op (kWI F M 2 [_,_,_] [_,_,_,_] (k:=fun w M=>zk fun _ F=>?_))
                     refine x_done F (results_1 rfl (zca F M.at' 0)) ?_
                     have M:=M.pick [2] [_]
                     exact zfI M () (_,_,_) (⟨zI2,zI2,zI3⟩) (congrArg (Prod.mk ()) (do_y h5 (nf h7) h53 rfl).symm)
                    ·refine zr2 fun _ F=>?_
                     refine zi F (fun h55=>?_) fun h55=>?_
                     ·refine zr2 fun _ F=>?_
                      refine m_ld F M.at' 3 rfl rfl rfl rfl rfl rfl rfl rfl rfl fun _ F=>?_
                      refine zr2 fun _ F=>?_
                      refine l_op (kI F M (hc:=tick_k M.hd) (k:=fun v s56 w q56 M=>zk fun _ F=>?_))
                      have q56a:=q56.1;have q56b:=q56.2
                      refine l_op (kWI F M 1 [_,_,_] [_,_,_,_] (k:=fun w M=>zk fun _ F=>?_))
                      refine l_op (kWI F M 0 [_,_,_] [_,_,_,_] (k:=fun w M=>zk fun _ F=>?_))
                      refine l_op (kWI F M 2 [_,_,_] [_,_,_,_] (k:=fun w M=>zk fun _ F=>?_))
                      refine x_done F (results_1 rfl (zca F M.at' 0)) ?_
                      have M:=M.pick [2] [_]
                      exact zfI M () (_,_,_) (⟨zI2,zI2,zI3⟩) (congrArg (Prod.mk ()) (do_y h5 (nf h7) h55 rfl).symm)
                     ·refine zr2 fun _ F=>?_
                      refine zi F (fun h57=>?_) fun h57=>?_
                      ·refine zr2 fun _ F=>?_
                       refine m_ld F M.at' 3 rfl rfl rfl rfl rfl rfl rfl rfl rfl fun _ F=>?_
                       refine zr2 fun _ F=>?_
                       refine m_ld F M.at' 3 rfl rfl rfl rfl rfl rfl rfl rfl rfl fun _ F=>?_
                       refine zr2 fun _ F=>?_
                       refine l_op (kI F M (hc:=storePage_k M.hd) (k:=fun v s58 w q58 M=>zk fun _ F=>?_))
                       refine l_op (kWI F M 1 [_,_,_] [_,_,_,_] (k:=fun w M=>zk fun _ F=>?_))
                       refine l_op (kWI F M 2 [_,_,_] [_,_,_,_] (k:=fun w M=>zk fun _ F=>?_))
                       refine x_done F (results_1 rfl (zca F M.at' 0)) ?_
                       have M:=M.pick [2] [_]
                       exact zfI M () (_,_,_) (⟨zI2,zI2,zI3⟩) (congrArg (Prod.mk ()) (do_y h5 (nf h7) h57 rfl).symm)
                      ·refine zr2 fun _ F=>?_
                       refine zi F (fun h59=>?_) fun h59=>?_
                       ·refine zr2 fun _ F=>?_
                        refine m_ld F M.at' 3 rfl rfl rfl rfl rfl rfl rfl rfl rfl fun _ F=>?_
                        refine zr2 fun _ F=>?_
                        refine l_op (kI F M (hc:=loadPage_k M.hd) (k:=fun v s60 w q60 M=>zk fun _ F=>?_))
                        have q60a:=q60.1;have q60b:=q60.2
                        refine l_op (kWI F M 1 [_,_,_] [_,_,_,_] (k:=fun w M=>zk fun _ F=>?_))
                        refine l_op (kWI F M 0 [_,_,_] [_,_,_,_] (k:=fun w M=>zk fun _ F=>?_))
                        refine l_op (kWI F M 2 [_,_,_] [_,_,_,_] (k:=fun w M=>zk fun _ F=>?_))
                        refine x_done F (results_1 rfl (zca F M.at' 0)) ?_
                        have M:=M.pick [2] [_]
                        exact zfI M () (_,_,_) (⟨zI2,zI2,zI3⟩) (congrArg (Prod.mk ()) (do_y h5 (nf h7) h59 rfl).symm)
                       ·refine zr2 fun _ F=>?_
                        refine zi F (fun h61=>?_) fun h61=>?_
                        ·refine zr2 fun _ F=>?_
                         refine m_ld F M.at' 3 rfl rfl rfl rfl rfl rfl rfl rfl rfl fun _ F=>?_
                         refine zr2 fun _ F=>?_
                         refine l_op (kI F M (hc:=putOut_k M.hd) (k:=fun v s62 w q62 M=>zk fun _ F=>?_))
                         refine l_op (kWI F M 1 [_,_,_] [_,_,_,_] (k:=fun w M=>zk fun _ F=>?_))
                         refine l_op (kWI F M 2 [_,_,_] [_,_,_,_] (k:=fun w M=>zk fun _ F=>?_))
                         refine x_done F (results_1 rfl (zca F M.at' 0)) ?_
                         have M:=M.pick [2] [_]
                         exact zfI M () (_,_,_) (⟨zI2,zI2,zI3⟩) (congrArg (Prod.mk ()) (do_y h5 (nf h7) h61 rfl).symm)
                        ·refine zr2 fun _ F=>?_
                         refine l_op (kWI F M 2 [_,_,_] [_,_,_,_] (k:=fun w M=>zk fun _ F=>?_))
                         refine x_done F (results_1 rfl (zca F M.at' 0)) ?_
                         have M:=M.pick [1] [_]
                         exact zfI M () (_,_,_) (⟨zI2,zI2,zI3⟩) (congrArg (Prod.mk ()) (show D=doS D X.P c by exfalso;have:=callOk_bd (nf h7);omega).symm)
end
end Go.Proofs.YtipdbeklopjbmaaGreatDoor
