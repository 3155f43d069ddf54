/-
  Walks: the reference's files.
-/
import Derived.Test.YtipdbeklopjbmaaGreatDoorP19
import Derived.Test.YtipdbeklopjbmaaGreatDoorP14
set_option linter.unusedVariables false
set_option linter.unusedSimpArgs false
namespace Go.Proofs.YtipdbeklopjbmaaGreatDoor
open Go.ChangeShapes Go.WideShapes Go.ChangeAt Go.RowKit Go.Proofs.Tryz
set_option maxRecDepth 100000
set_option maxHeartbeats 1000000
section
set_option maxHeartbeats 8000000
variable {X:Uni} {w:World} {b u:Nat} {v:MV} {D:List CellD} {H:Nat→Prop}
theorem JeH {n:Int} {lo:Int} {hi:Int} (hT:TbO w []) (h_n:J1 n:=by exact ym) (h_lo:J1 lo:=by exact ym) (h_hi:J1 hi:=by exact ym) :
 Calls prog 84 #[iV n,iV lo,iV hi] w (PO w (fun (s:Unit)=>iV (max lo (min n hi))) (fun _=>True)):=by
 have M:St [] w [] w:=⟨Mv.refl (At.nil _),hT⟩
 refine zE (f:=84) fun _ F=>?_
 refine zG F (fun h1 F=>?_) fun h1 F=>?_
 ·refine zr2 fun _ F=>?_
  refine zd1 F ?_
  exact ⟨(),congrArg Ending.returned yCd,M.mv,trivial⟩
 refine zr2 fun _ F=>?_
 refine zi F (fun h2=>?_) fun h2=>?_
 ·refine zr2 fun _ F=>?_
  refine zd1 F ?_
  exact ⟨(),congrArg Ending.returned yCd,M.mv,trivial⟩
 refine zr2 fun _ F=>?_
 refine zi F (fun h3=>?_) fun h3=>?_
 ·refine zr2 fun _ F=>?_
  refine zd1 F ?_
  exact ⟨(),congrArg Ending.returned yCd,M.mv,trivial⟩
 refine zr2 fun _ F=>?_
 refine zd1 F ?_
 exact ⟨(),congrArg Ending.returned yCd,M.mv,trivial⟩
theorem JeJ {id:Int} {n:Int} (hT:TbO w []) (hm:RM X H w v D u) (hu:u+300≤68718428160:=by omega) (h_id:J1 id:=by exact ym) (h_n:J1 n:=by exact ym) :
 Calls prog 289 #[v.val,iV id,iV n] w (PS X H w (fun v (r:Unit) (s:Int)=>.tuple #[v.val,iV s]) () (ctF D id n) (u+300) (fun (_:Unit) (s:Int)=>J1 s)):=by
 have hnI:Ja D (kIs id)=((JS (Jl D (kIs id)):Nat):Int):=rfl
 have M:=Sp.start hT hm
 refine zE (f:=289) fun _ F=>?_
 refine J0 (kBx F M [_,_,_] (k:=fun b1 w M=>zk fun _ F=>?_))
 refine J0 (kAl F M JA [_,_,_] (k:=fun b2 w M=>zk fun _ F=>?_))
 refine J0 (kS F M (hc:=J7w M.tb M.v) (k:=fun v s3 w q3 M=>zk fun _ F=>?_))
 refine J0 (kW F M 1 [_,_,_] [_,_] (k:=fun w M=>zk fun _ F=>?_))
 refine J0 (kQ F M (hc:=J33 M.st.nil.tb) (k:=fun s4 w q4 m M=>zk fun _ F=>?_))
 refine zib F (fun h5=>?_) fun h5=>?_
 ·refine zr2 fun _ F=>?_
  refine J0 (kW F M 1 [_,_,_] [_,_] (k:=fun w M=>zk fun _ F=>?_))
  refine zde F M.at' 0 ?_
  exact zfS M () _ ya (by rw [ctF,if_pos h5])
 have hi5:=J0K (nf h5);refine zr2 fun _ F=>?_
 obtain ⟨A,rfl⟩:=Int.eq_ofNat_of_zero_le (show 0≤n by omega)
 refine J0 (kQu F (A) 8 (by decide) yBp rfl zO (k:=zk fun _ F=>?_))
 refine J0 (kRe F (A) 8 (by decide) yBp rfl (k:=zk fun _ F=>?_))
 refine zi F (fun h6=>?_) fun h6=>?_
 ·refine zr2 fun _ F=>?_
  refine J0 (kS F M (hc:=J5p M.tb M.v) (k:=fun v s7 w q7 M=>zk fun _ F=>?_))
  refine J0 (kW F M 0 [_,_,_] [_,_] (k:=fun w M=>zk fun _ F=>?_))
  have hbz:=J3T D id ((A / 8:Nat):Int)
  refine Jc [(_,[_,_,_],_)] [] [] [0,1,2,3,4,5,6,7,8,9,10,11] M (hd1 M.at' 0) mixed zK fun w M hS=>?_
  refine zr2 fun _ F=>?_
  refine nRe F (A) 8 (by decide) yBp rfl (k:=zkN fun _ F=>?_)
  refine J2 rfl rfl (kQ F M (hc:=JeH M.st.nil.tb) (k:=fun s8 w q8 m M=>kB m (zkN fun _ F=>?_)))
  refine nSh F (h:=min (A % 8) (J0S D id ((A / 8:Nat):Int)).size) (hz:=by omega) (k:=fun he9=>zkN fun _ F=>?_)
  refine J2 rfl rfl (kS F M (hc:=Jap M.tb M.v) (k:=fun v s10 w q10 M=>kF (zkN fun _ F=>?_)))
  refine J2 rfl rfl (kW F M 0 [_,_,_] [_,_] (k:=fun w M=>kF (zkN fun _ F=>?_)))
  rw [show ((A / 8:Nat):Int)+1=(((A+7) / 8+0:Nat):Int) by omega] at F
  have M:=M.toD (Jbc zO)
  have F:=F.cut (m':=[(9,_),(1,_),(2,_),(3,_),(6,_),(7,_),(8,_),(20,_),(26,_)]) rfl
  refine J1e (γ:=Nat × MV) (slots:=fun g=>[(9,.int .i64 ((((A+7) / 8+g.1:Nat)):Int))]) (LL:=fun g=>[bx b1 [g.2.S,g.2.R,g.2.W] 210,bx b2 [sN,sN,sN] 210]) (vv:=fun g=>g.2) (DD:=fun g=>ctA (ctH D id A) id ((A+7) / 8) g.1) (uu:=fun g=>(u+3+g.1)) (pr:=fun g=>g.1≤((JS (Jl D (kIs id))+7) / 8 - (A+7) / 8)) (g0:=(0,v)) (fun g=>((JS (Jl D (kIs id))+7) / 8 - (A+7) / 8) - g.1) F M (Nat.zero_le _) fun g a w F M hp=>?_
  refine zr2 fun _ F=>?_
  refine zi F (fun h12=>?_) fun h12=>?_
  ·refine zr2 fun _ F=>?_
   refine Jc [(_,[_,_,_],_)] [] [] [0,1,2,3,4,5] M (hd1 M.at' 0) mixed zK fun w M hS=>?_
   refine zr2 fun _ F=>?_
   refine J2 rfl rfl (kQ F M (hc:=J5a M.st.nil.tb) (k:=fun s13 w q13 m M=>kB m (zkN fun _ F=>?_)))
   refine J2 rfl rfl (kS F M (hc:=J1I nmp M.tb M.v) (k:=fun v s14 w q14 M=>kF (zkN fun _ F=>?_)))
   refine J2 rfl rfl (kW F M 0 [_,_,_] [_,_] (k:=fun w M=>kF (zkN fun _ F=>?_)))
   exact Jw (g.1+1,v) (by dsimp only;omega) ⟨F.cut rfl,M,by dsimp only;omega⟩
  refine zr2 fun _ F=>?_
  refine Jc [(_,[_,_,_],_)] [] [] [0,1,3,2,4,5,6] M (hd1 M.at' 0) mixed zK fun w M hS=>?_
  refine zr2 fun _ F=>?_
  refine J2 rfl rfl (kQ F M (hc:=J12 M.st.nil.tb) (k:=fun s15 w q15 m M=>kB m (zkN fun _ F=>?_)))
  refine J2 rfl rfl (kS F M (hc:=J0N M.tb M.v) (k:=fun v s16 w q16 M=>kF (zkN fun _ F=>?_)))
  refine J2 rfl rfl (kW F M 1 [_,_,_] [_,_] (k:=fun w M=>kF (zkN fun _ F=>?_)))
  refine zde F M.at' 0 ?_
  exact zfS M () _ ya (by rw [ctF,iFb h5,Int.toNat_natCast,show ((JS (Jl D (kIs id))+7) / 8 - (A+7) / 8)=g.1 from by omega])
 refine zr2 fun _ F=>?_
 rw [show ((A / 8:Nat):Int)=(((A+7) / 8+0:Nat):Int) by omega] at F
 have M:=M.toD (Jbd (id:=id) (n:=A) zO)
 have F:=F.cut (m':=[(9,_),(1,_),(2,_),(3,_),(6,_),(7,_),(8,_),(20,_),(26,_)]) rfl
 refine J1e (γ:=Nat × MV) (slots:=fun g1=>[(9,.int .i64 ((((A+7) / 8+g1.1:Nat)):Int))]) (LL:=fun g1=>[bx b1 [g1.2.S,g1.2.R,g1.2.W] 210,bx b2 [sN,sN,sN] 210]) (vv:=fun g1=>g1.2) (DD:=fun g1=>ctA (ctH D id A) id ((A+7) / 8) g1.1) (uu:=fun g1=>(u+1+g1.1)) (pr:=fun g1=>g1.1≤((JS (Jl D (kIs id))+7) / 8 - (A+7) / 8)) (g0:=(0,v)) (fun g1=>((JS (Jl D (kIs id))+7) / 8 - (A+7) / 8) - g1.1) F M (Nat.zero_le _) fun g1 a w F M hp=>?_
 refine zr2 fun _ F=>?_
 refine zi F (fun h18=>?_) fun h18=>?_
 ·refine zr2 fun _ F=>?_
  refine Jc [(_,[_,_,_],_)] [] [] [0,1,2,3,4,5] M (hd1 M.at' 0) mixed zK fun w M hS=>?_
  refine zr2 fun _ F=>?_
  refine J2 rfl rfl (kQ F M (hc:=J5a M.st.nil.tb) (k:=fun s19 w q19 m M=>kB m (zkN fun _ F=>?_)))
  refine J2 rfl rfl (kS F M (hc:=J1I nmp M.tb M.v) (k:=fun v s20 w q20 M=>kF (zkN fun _ F=>?_)))
  refine J2 rfl rfl (kW F M 0 [_,_,_] [_,_] (k:=fun w M=>kF (zkN fun _ F=>?_)))
  exact Jw (g1.1+1,v) (by dsimp only;omega) ⟨F.cut rfl,M,by dsimp only;omega⟩
 refine zr2 fun _ F=>?_
 refine Jc [(_,[_,_,_],_)] [] [] [0,1,3,2,4,5,6] M (hd1 M.at' 0) mixed zK fun w M hS=>?_
 refine zr2 fun _ F=>?_
 refine J2 rfl rfl (kQ F M (hc:=J12 M.st.nil.tb) (k:=fun s21 w q21 m M=>kB m (zkN fun _ F=>?_)))
 refine J2 rfl rfl (kS F M (hc:=J0N M.tb M.v) (k:=fun v s22 w q22 M=>kF (zkN fun _ F=>?_)))
 refine J2 rfl rfl (kW F M 1 [_,_,_] [_,_] (k:=fun w M=>kF (zkN fun _ F=>?_)))
 refine zde F M.at' 0 ?_
 exact zfS M () _ ya (by rw [ctF,iFb h5,Int.toNat_natCast,show ((JS (Jl D (kIs id))+7) / 8 - (A+7) / 8)=g1.1 from by omega])
theorem Jer {id:Int} {at_:Int} {n:Int} (hT:TbO w []) (hm:RM X H w v D u) (hu:u+200≤68718428160:=by omega) (h_id:J1 id:=by exact ym) (h_at_:J1 at_:=by exact ym) (h_n:J1 n:=by exact ym) :
 Calls prog 287 #[v.val,iV id,iV at_,iV n] w (PS X H w (fun v (r:Unit) (s:ByteArray)=>.tuple #[v.val,.string s]) () D (u+200) (fun (_:Unit) (s:ByteArray)=>okS s)):=by
 have hnI:Ja D (kIs id)=((JS (Jl D (kIs id)):Nat):Int):=rfl
 have M:=Sp.start hT hm
 refine zE (f:=287) fun _ F=>?_
 refine J0 (kBx F M [_,_,_] (k:=fun b1 w M=>zk fun _ F=>?_))
 refine J0 (kAl F M JA [_,_,_] (k:=fun b2 w M=>zk fun _ F=>?_))
 refine J0 (kS F M (hc:=J7w M.tb M.v) (k:=fun v s3 w q3 M=>zk fun _ F=>?_))
 refine J0 (kW F M 1 [_,_,_] [_,_] (k:=fun w M=>zk fun _ F=>?_))
 refine zG F (fun h4 F=>?_) fun h4 F=>?_
 ·refine zr2 fun _ F=>?_
  refine J0 (kW F M 1 [_,_,_] [_,_] (k:=fun w M=>zk fun _ F=>?_))
  refine zde F M.at' 0 ?_
  exact zfS M () _ yBs (rfl)
 refine zr2 fun _ F=>?_
 refine zG F (fun h5 F=>?_) fun h5 F=>?_
 ·refine zr2 fun _ F=>?_
  refine J0 (kW F M 1 [_,_,_] [_,_] (k:=fun w M=>zk fun _ F=>?_))
  refine zde F M.at' 0 ?_
  exact zfS M () _ yBs (rfl)
 refine zr2 fun _ F=>?_
 refine zi F (fun h6=>?_) fun h6=>?_
 ·refine zr2 fun _ F=>?_
  refine J0 (kW F M 1 [_,_,_] [_,_] (k:=fun w M=>zk fun _ F=>?_))
  refine zde F M.at' 0 ?_
  exact zfS M () _ yBs (rfl)
 refine zr2 fun _ F=>?_
 obtain ⟨A,rfl⟩:=Int.eq_ofNat_of_zero_le (show 0≤at_ by omega)
 refine zi F (fun h7=>?_) fun h7=>?_
 ·refine zr2 fun _ F=>?_
  obtain ⟨E,hE,hE1,hE2⟩:∃ E:Nat,(if n < Ja D (kIs id) - (A:Int) then (A:Int)+n else Ja D (kIs id))=((E:Nat):Int)∧A < E∧E≤999:=⟨(if n < Ja D (kIs id) - (A:Int) then (A:Int)+n else Ja D (kIs id)).toNat,(Int.toNat_of_nonneg (by split <;> omega)).symm,by split <;> omega,by split <;> omega⟩
  first|rw [if_pos (by assumption)] at hE|rw [if_neg (by assumption)] at hE
  rw [hE] at F
  refine J0 (JbF F M.at' ET_62 (k:=fun b8 w m _ F=>?_))
  have M:=M.then m
  refine zr2 fun _ F=>?_
  refine J0 (kQu F (A) 8 (by decide) yBp rfl zO (k:=zk fun _ F=>?_))
  have F:=F.cut (m':=[(13,_),(12,_),(1,_),(2,_),(4,_),(8,_),(9,_),(33,_),(11,_),(40,_)]) rfl
  refine J1e (γ:=(Nat × BL) × MV) (slots:=fun g=>[(13,iV (((A / 8+g.1.1:Nat)):Int)),(12,g.1.2.val)]) (LL:=fun g=>[J5X g.1.2,bx b1 [g.2.S,g.2.R,g.2.W] 210,bx b2 [sN,sN,sN] 210]) (vv:=fun g=>g.2) (DD:=fun g=>D) (uu:=fun g=>(u+1+g.1.1)) (pr:=fun g=>8 * (A / 8+g.1.1)≤E+7∧g.1.2.l.length≤8 * g.1.1) (g0:=((0,⟨_,_,_,_⟩),v)) (fun g=>E+8 - 8 * (A / 8+g.1.1)) F M (⟨by dsimp only;omega,Nat.zero_le _⟩) fun g a w F M hp=>?_
  have hp0:=hp
  have hbz:=J3T D id ((A / 8+g.1.1:Nat):Int)
  refine zr2 fun _ F=>?_
  refine zi F (fun h10=>?_) fun h10=>?_
  ·refine zr2 fun _ F=>?_
   refine J0 (kS F M (hc:=J5p M.tb M.v) (k:=fun v s11 w q11 M=>zk fun _ F=>?_))
   refine J0 (kW F M 1 [_,_,_] [_,_,_] (k:=fun w M=>zk fun _ F=>?_))
   have F:=F.cut (m':=[(15,_),(12,_),(13,_),(1,_),(2,_),(4,_),(8,_),(9,_),(33,_),(11,_),(40,_),(47,_),(48,_),(49,_),(50,_),(14,_),(54,_),(55,_),(56,_),(57,_),(53,_),(58,_),(59,_)]) rfl
   refine J1e (γ:=(Nat × BL) × MV) (slots:=fun g1=>[(15,nV g1.1.1),(12,g1.1.2.val)]) (LL:=fun g1=>[bx b1 [g1.2.S,g1.2.R,g1.2.W] 210,J5X g1.1.2,bx b2 [sN,sN,sN] 210]) (vv:=fun g1=>g1.2) (DD:=fun g1=>D) (uu:=fun _=>(u+1+g.1.1+1)) (pr:=fun g1=>g1.1.1≤8∧g1.1.2.l.length≤8 * g.1.1+g1.1.1) (g0:=((0,g.1.2),v)) (fun g1=>8 - g1.1.1) F M (⟨Nat.zero_le _,hp.2⟩) fun g1 a w F M hp=>?_
   refine zr2 fun _ F=>?_
   refine zG F (fun h13 F=>?_) fun h13 F=>?_
   ·refine zr2 fun _ F=>?_
    refine zi F (fun h14=>?_) fun h14=>?_
    ·refine zr2 fun _ F=>?_
     refine zG F (fun h15 F=>?_) fun h15 F=>?_
     ·refine zr2 fun _ F=>?_
      refine zi F (fun h16=>?_) fun h16=>?_
      ·refine zr2 fun _ F=>?_
       refine J0 (J5S F (g1.1.1) (k:=zk fun _ F=>?_))
       refine JaU F M.at' 1 (J5 (J0S D id ((A / 8+g.1.1:Nat):Int)) g1.1.1) ET_62 yBy (k:=fun B17 N17 C17 _ w l17 m _ F=>?_)
       have M:=M.then m
       refine zr2 fun _ F=>?_
       have M:=M.pick [1,0,2] [_,_,_]
       exact Jw ((g1.1.1+1,⟨_,_,_,_⟩),g1.2) (by dsimp only;omega) ⟨F.cut rfl,M,yw⟩
      refine zr2 fun _ F=>?_
      exact Jw ((g1.1.1+1,g1.1.2),g1.2) (by dsimp only;omega) ⟨F.cut rfl,M,yw⟩
     refine zr2 fun _ F=>?_
     exact Jw ((g1.1.1+1,g1.1.2),g1.2) (by dsimp only;omega) ⟨F.cut rfl,M,yw⟩
    refine zr2 fun _ F=>?_
    have M:=M.pick [1,0,2] [_,_,_]
    exact Jw ((g.1.1+1,g1.1.2),g1.2) (by dsimp only;omega) ⟨F.cut rfl,M,by dsimp only;omega⟩
   refine zr2 fun _ F=>?_
   have M:=M.pick [1,0,2] [_,_,_]
   exact Jw ((g.1.1+1,g1.1.2),g1.2) (by dsimp only;omega) ⟨F.cut rfl,M,by dsimp only;omega⟩
  refine zr2 fun _ F=>?_
  refine J5L [(_,[_,_,_],_)] [] [] (.b2 [0,1] 2 (.l [3,4]) 3 (.l [2,4])) M (hd1 M.at' 1) mixed zK fun w M hS=>?_
  refine en2 ?_
  refine zr2 fun _ F=>?_
  refine J03 ?_ ?_
  ·skip
   refine Jh rfl (kBS F (At.rd (enc:=J7) (k:=1) M.at' ET_62.hk 0 rfl).1 (k:=kE0 (oL (zkN fun _ F=>?_))))
   refine J2 rfl rfl (kW F M 2 [_,_,_] [_,_,_] (k:=fun w M=>kF (zkN fun _ F=>?_)))
   refine zde F M.at' 0 ?_
   exact zfS M () _ yBs (rfl)
  skip
  refine Jh rfl (kW F M 2 [_,_,_] [_,_,_] (k:=fun w M=>oF (oL (zkN fun _ F=>?_))))
  refine J2 rfl rfl (kBS F (At.rd (enc:=J7) (k:=1) M.at' ET_62.hk 1 rfl).1 (k:=kE0 (zkN fun _ F=>?_)))
  refine zde F M.at' 0 ?_
  exact zfS M () _ yBs (rfl)
 refine zr2 fun _ F=>?_
 obtain ⟨E,hE,hE1,hE2⟩:∃ E:Nat,(if n < Ja D (kIs id) - (A:Int) then (A:Int)+n else Ja D (kIs id))=((E:Nat):Int)∧A < E∧E≤999:=⟨(if n < Ja D (kIs id) - (A:Int) then (A:Int)+n else Ja D (kIs id)).toNat,(Int.toNat_of_nonneg (by split <;> omega)).symm,by split <;> omega,by split <;> omega⟩
 first|rw [if_pos (by assumption)] at hE|rw [if_neg (by assumption)] at hE
 rw [hE] at F
 refine J0 (JbF F M.at' ET_62 (k:=fun b20 w m _ F=>?_))
 have M:=M.then m
 refine zr2 fun _ F=>?_
 refine J0 (kQu F (A) 8 (by decide) yBp rfl zO (k:=zk fun _ F=>?_))
 have F:=F.cut (m':=[(13,_),(12,_),(1,_),(2,_),(4,_),(8,_),(9,_),(33,_),(11,_),(40,_)]) rfl
 refine J1e (γ:=(Nat × BL) × MV) (slots:=fun g2=>[(13,iV (((A / 8+g2.1.1:Nat)):Int)),(12,g2.1.2.val)]) (LL:=fun g2=>[J5X g2.1.2,bx b1 [g2.2.S,g2.2.R,g2.2.W] 210,bx b2 [sN,sN,sN] 210]) (vv:=fun g2=>g2.2) (DD:=fun g2=>D) (uu:=fun g2=>(u+1+g2.1.1)) (pr:=fun g2=>8 * (A / 8+g2.1.1)≤E+7∧g2.1.2.l.length≤8 * g2.1.1) (g0:=((0,⟨_,_,_,_⟩),v)) (fun g2=>E+8 - 8 * (A / 8+g2.1.1)) F M (⟨by dsimp only;omega,Nat.zero_le _⟩) fun g2 a w F M hp=>?_
 have hp0:=hp
 have hbz:=J3T D id ((A / 8+g2.1.1:Nat):Int)
 refine zr2 fun _ F=>?_
 refine zi F (fun h22=>?_) fun h22=>?_
 ·refine zr2 fun _ F=>?_
  refine J0 (kS F M (hc:=J5p M.tb M.v) (k:=fun v s23 w q23 M=>zk fun _ F=>?_))
  refine J0 (kW F M 1 [_,_,_] [_,_,_] (k:=fun w M=>zk fun _ F=>?_))
  have F:=F.cut (m':=[(15,_),(12,_),(13,_),(1,_),(2,_),(4,_),(8,_),(9,_),(33,_),(11,_),(40,_),(47,_),(48,_),(49,_),(50,_),(14,_),(54,_),(55,_),(56,_),(57,_),(53,_),(58,_),(59,_)]) rfl
  refine J1e (γ:=(Nat × BL) × MV) (slots:=fun g3=>[(15,nV g3.1.1),(12,g3.1.2.val)]) (LL:=fun g3=>[bx b1 [g3.2.S,g3.2.R,g3.2.W] 210,J5X g3.1.2,bx b2 [sN,sN,sN] 210]) (vv:=fun g3=>g3.2) (DD:=fun g3=>D) (uu:=fun _=>(u+1+g2.1.1+1)) (pr:=fun g3=>g3.1.1≤8∧g3.1.2.l.length≤8 * g2.1.1+g3.1.1) (g0:=((0,g2.1.2),v)) (fun g3=>8 - g3.1.1) F M (⟨Nat.zero_le _,hp.2⟩) fun g3 a w F M hp=>?_
  refine zr2 fun _ F=>?_
  refine zG F (fun h25 F=>?_) fun h25 F=>?_
  ·refine zr2 fun _ F=>?_
   refine zi F (fun h26=>?_) fun h26=>?_
   ·refine zr2 fun _ F=>?_
    refine zG F (fun h27 F=>?_) fun h27 F=>?_
    ·refine zr2 fun _ F=>?_
     refine zi F (fun h28=>?_) fun h28=>?_
     ·refine zr2 fun _ F=>?_
      refine J0 (J5S F (g3.1.1) (k:=zk fun _ F=>?_))
      refine JaU F M.at' 1 (J5 (J0S D id ((A / 8+g2.1.1:Nat):Int)) g3.1.1) ET_62 yBy (k:=fun B29 N29 C29 _ w l29 m _ F=>?_)
      have M:=M.then m
      refine zr2 fun _ F=>?_
      have M:=M.pick [1,0,2] [_,_,_]
      exact Jw ((g3.1.1+1,⟨_,_,_,_⟩),g3.2) (by dsimp only;omega) ⟨F.cut rfl,M,yw⟩
     refine zr2 fun _ F=>?_
     exact Jw ((g3.1.1+1,g3.1.2),g3.2) (by dsimp only;omega) ⟨F.cut rfl,M,yw⟩
    refine zr2 fun _ F=>?_
    exact Jw ((g3.1.1+1,g3.1.2),g3.2) (by dsimp only;omega) ⟨F.cut rfl,M,yw⟩
   refine zr2 fun _ F=>?_
   have M:=M.pick [1,0,2] [_,_,_]
   exact Jw ((g2.1.1+1,g3.1.2),g3.2) (by dsimp only;omega) ⟨F.cut rfl,M,by dsimp only;omega⟩
  refine zr2 fun _ F=>?_
  have M:=M.pick [1,0,2] [_,_,_]
  exact Jw ((g2.1.1+1,g3.1.2),g3.2) (by dsimp only;omega) ⟨F.cut rfl,M,by dsimp only;omega⟩
 refine zr2 fun _ F=>?_
 refine J5L [(_,[_,_,_],_)] [] [] (.b2 [0,1] 2 (.l [3,4]) 3 (.l [2,4])) M (hd1 M.at' 1) mixed zK fun w M hS=>?_
 refine en2 ?_
 refine zr2 fun _ F=>?_
 refine J03 ?_ ?_
 ·skip
  refine Jh rfl (kBS F (At.rd (enc:=J7) (k:=1) M.at' ET_62.hk 0 rfl).1 (k:=kE0 (oL (zkN fun _ F=>?_))))
  refine J2 rfl rfl (kW F M 2 [_,_,_] [_,_,_] (k:=fun w M=>kF (zkN fun _ F=>?_)))
  refine zde F M.at' 0 ?_
  exact zfS M () _ yBs (rfl)
 skip
 refine Jh rfl (kW F M 2 [_,_,_] [_,_,_] (k:=fun w M=>oF (oL (zkN fun _ F=>?_))))
 refine J2 rfl rfl (kBS F (At.rd (enc:=J7) (k:=1) M.at' ET_62.hk 1 rfl).1 (k:=kE0 (zkN fun _ F=>?_)))
 refine zde F M.at' 0 ?_
 exact zfS M () _ yBs (rfl)
theorem Je3 {id:Int} {at_:Int} {x:ByteArray} (hT:TbO w []) (hm:RM X H w v D u) (hu:u+300≤68718428160:=by omega) (h_id:J1 id:=by exact ym) (h_at_:J1 at_:=by exact ym) (h_x:okS x:=by exact yi) (p0:x.size≤64:=by omega) :
 Calls prog 288 #[v.val,iV id,iV at_,.string x] w (PS X H w (fun v (r:Unit) (s:Int)=>.tuple #[v.val,iV s]) () (wfF D id at_ x) (u+300) (fun (_:Unit) (s:Int)=>J1 s)):=by
 have hnI:Ja D (kIs id)=((JS (Jl D (kIs id)):Nat):Int):=rfl
 have M:=Sp.start hT hm
 refine zE (f:=288) fun _ F=>?_
 refine J0 (kBx F M [_,_,_] (k:=fun b1 w M=>zk fun _ F=>?_))
 refine J0 (kAl F M JA [_,_,_] (k:=fun b2 w M=>zk fun _ F=>?_))
 refine J0 (kS F M (hc:=J7w M.tb M.v) (k:=fun v s3 w q3 M=>zk fun _ F=>?_))
 refine J0 (kW F M 1 [_,_,_] [_,_] (k:=fun w M=>zk fun _ F=>?_))
 refine J0 (kQ F M (hc:=J33 M.st.nil.tb) (k:=fun s4 w q4 m M=>zk fun _ F=>?_))
 refine zGb F (fun h5 F=>?_) fun h5 F=>?_
 ·refine zr2 fun _ F=>?_
  refine J0 (kW F M 1 [_,_,_] [_,_] (k:=fun w M=>zk fun _ F=>?_))
  refine zde F M.at' 0 ?_
  exact zfS M () _ ya (by rw [wfF,if_pos h5])
 have hi5:=J0K (nf h5);refine zr2 fun _ F=>?_
 refine zi F (fun h6=>?_) fun h6=>?_
 ·refine zr2 fun _ F=>?_
  refine J0 (kW F M 1 [_,_,_] [_,_] (k:=fun w M=>zk fun _ F=>?_))
  refine zde F M.at' 0 ?_
  exact zfS M () _ ya (by rw [wfF,iFb h5,if_pos h6])
 refine zr2 fun _ F=>?_
 obtain ⟨A,rfl⟩:=Int.eq_ofNat_of_zero_le (show 0≤at_ by omega)
 refine zi F (fun h7=>?_) fun h7=>?_
 ·refine zr2 fun _ F=>?_
  refine J0 (kW F M 1 [_,_,_] [_,_] (k:=fun w M=>zk fun _ F=>?_))
  refine zde F M.at' 0 ?_
  exact zfS M () _ ya (by rw [wfF,iFb h5,if_neg h6,if_pos h7])
 refine zr2 fun _ F=>?_
 refine J0 (kQu F (A) 8 (by decide) yBp rfl zO (k:=zk fun _ F=>?_))
 have F:=F.cut (m':=[(12,_),(1,_),(2,_),(3,_),(4,_),(8,_),(9,_),(10,_),(30,_),(11,_),(37,_)]) rfl
 refine J1e (γ:=Nat × MV) (slots:=fun g=>[(12,iV (((A / 8+g.1:Nat)):Int))]) (LL:=fun g=>[bx b1 [g.2.S,g.2.R,g.2.W] 210,bx b2 [sN,sN,sN] 210]) (vv:=fun g=>g.2) (DD:=fun g=>wrA D id A x g.1) (uu:=fun g=>(u+1+2 * g.1)) (pr:=fun g=>g.1≤((A+x.size+7) / 8 - A / 8)) (g0:=(0,v)) (fun g=>((A+x.size+7) / 8 - A / 8) - g.1) F M (Nat.zero_le _) fun g a w F M hp=>?_
 refine zr2 fun _ F=>?_
 refine zi F (fun h9=>?_) fun h9=>?_
 ·refine zr2 fun _ F=>?_
  refine J0 (kS F M (hc:=J5p M.tb M.v) (k:=fun v s10 w q10 M=>zk fun _ F=>?_))
  refine J0 (kW F M 0 [_,_,_] [_,_] (k:=fun w M=>zk fun _ F=>?_))
  refine J0 (kSB F M.at' (k:=fun b11 N11 C11 w l11 m _ F=>?_))
  have M:=M.then m
  refine zr2 fun _ F=>?_
  have F:=F.cut (m':=[(15,_),(14,_),(12,_),(1,_),(2,_),(3,_),(4,_),(8,_),(9,_),(10,_),(30,_),(11,_),(37,_),(41,_),(42,_),(43,_),(44,_),(13,_),(48,_),(49,_),(50,_),(51,_),(47,_),(52,_),(53,_),(54,_),(55,_)]) rfl
  refine J1e (γ:=(Nat × BL) × MV) (slots:=fun g1=>[(15,nV g1.1.1),(14,g1.1.2.val)]) (LL:=fun g1=>[J5Y g1.1.2,bx b1 [g1.2.S,g1.2.R,g1.2.W] 210,bx b2 [sN,sN,sN] 210]) (vv:=fun g1=>g1.2) (DD:=fun g1=>wrA D id A x g.1) (uu:=fun _=>(u+1+2 * g.1+1)) (pr:=fun g1=>g1.1.1≤8∧g1.1.2.n=g1.1.2.l.length∧g1.1.2.l=wrB x A ((A / 8+g.1) * 8) (max A ((A / 8+g.1) * 8)) (Jb (J0S (wrA D id A x g.1) id ((A / 8+g.1:Nat):Int))) (min (A+x.size) (((A / 8+g.1) * 8)+g1.1.1) - (max A ((A / 8+g.1) * 8)))) (g0:=((0,⟨_,_,_,Jb (J0S (wrA D id A x g.1) id ((A / 8+g.1:Nat):Int))⟩),v)) (fun g1=>8 - g1.1.1) F M (⟨Nat.zero_le _,by show _=(Jb _).length;rw [J0A];assumption,by dsimp only;rw [show (min (A+x.size) (((A / 8+g.1) * 8)+0) - (max A ((A / 8+g.1) * 8)))=0 by omega];rfl⟩) fun g1 a w F M hp=>?_
  have hp1:=hp
  refine zr2 fun _ F=>?_
  refine zi F (fun h13=>?_) fun h13=>?_
  ·refine zr2 fun _ F=>?_
   refine zG F (fun h14 F=>?_) fun h14 F=>?_
   ·refine zr2 fun _ F=>?_
    exact Jw ((g1.1.1+1,g1.1.2),g1.2) (by dsimp only;omega) ⟨F.cut rfl,M,⟨by dsimp only;omega,hp.2.1,by dsimp only;rw [hp.2.2];exact congrArg _ zO⟩⟩
   refine zr2 fun _ F=>?_
   refine zi F (fun h15=>?_) fun h15=>?_
   ·refine zr2 fun _ F=>?_
    exact Jw ((g1.1.1+1,g1.1.2),g1.2) (by dsimp only;omega) ⟨F.cut rfl,M,⟨by dsimp only;omega,hp.2.1,by dsimp only;rw [hp.2.2];exact congrArg _ zO⟩⟩
   refine zr2 fun _ F=>?_
   have F:=F.cut (m':=[(14,_),(15,_),(12,_),(1,_),(2,_),(3,_),(4,_),(8,_),(9,_),(10,_),(30,_),(11,_),(37,_),(41,_),(42,_),(43,_),(44,_),(13,_),(48,_),(49,_),(50,_),(51,_),(47,_),(52,_),(53,_),(54,_),(55,_),(56,_),(57,_),(60,_),(61,_),(62,_),(63,_),(16,_),(64,_),(65,_),(66,_),(67,_),(68,_),(69,_),(70,_),(71,_)]) rfl
   refine J1e (γ:=(BL × Nat) × MV) (slots:=fun g2=>[(14,g2.1.1.val)]) (LL:=fun g2=>[J5Y g2.1.1,bx b1 [g2.2.S,g2.2.R,g2.2.W] 210,bx b2 [sN,sN,sN] 210]) (vv:=fun g2=>g2.2) (DD:=fun g2=>wrA D id A x g.1) (uu:=fun _=>(u+1+2 * g.1+1)) (pr:=fun g2=>g2.1.1.n=g2.1.1.l.length∧g2.1.1.l=g1.1.2.l++List.replicate g2.1.2 0∧(g2.1.2=0∨g1.1.2.l.length+g2.1.2≤g1.1.1+1)) (g0:=((g1.1.2,0),g1.2)) (fun g2=>g1.1.1+1 - g2.1.1.l.length) F M (⟨hp1.2.1,by simp,.inl rfl⟩) fun g2 a w F M hp=>?_
   have hpl:=congrArg List.length hp.2.1
   rw [List.length_append,List.length_replicate] at hpl
   refine zr2 fun _ F=>?_
   refine zi F (fun h17=>?_) fun h17=>?_
   ·refine zr2 fun _ F=>?_
    refine Jbh F M.at' 0 (0) ET_62 yBy (k:=fun B18 N18 C18 _ w l18 m _ F=>?_)
    have M:=M.then m
    refine zr2 fun _ F=>?_
    exact Jw ((⟨_,_,_,_⟩,g2.1.2+1),g2.2) (by simp only [List.length_append,List.length_singleton];omega) ⟨F.cut rfl,M,⟨by simp only [List.length_append,List.length_singleton];assumption,J9V hp.2.1,.inr (by dsimp only;omega)⟩⟩
   refine zr2 fun _ F=>?_
   refine J0 (J5S F (((A / 8+g.1) * 8)+g1.1.1 - A) (k:=zk fun _ F=>?_))
   refine JbG F M.at' 0 (g1.1.1) (J5 x (((A / 8+g.1) * 8)+g1.1.1 - A)) ET_62 yBy (k:=fun _ w m _ F=>?_)
   have M:=M.then m
   refine zr2 fun _ F=>?_
   exact Jw ((g1.1.1+1,⟨_,_,_,g2.1.1.l.set g1.1.1 (J5 x (((A / 8+g.1) * 8)+g1.1.1 - A))⟩),g2.2) (by dsimp only;omega) ⟨F.cut rfl,M,⟨by dsimp only;omega,by rw [List.length_set];exact hp.1,(Jbw hp1.2.2 hp.2.1 hp.2.2 zO zO zO).trans (congrArg _ (by dsimp only;omega))⟩⟩
  refine zr2 fun _ F=>?_
  have hbs:(Je g1.1.2.l).size≤20000:=by rw [J1n,hp.2.2];have h1:=J7b x A ((A / 8+g.1) * 8) (max A ((A / 8+g.1) * 8)) (Jb (J0S (wrA D id A x g.1) id ((A / 8+g.1:Nat):Int))) zO (min (A+x.size) (((A / 8+g.1) * 8)+g1.1.1) - (max A ((A / 8+g.1) * 8))) zO;rw [J0A] at h1;have h2:=J3T (wrA D id A x g.1) id ((A / 8+g.1:Nat):Int);omega
  refine J0 (kBS F (M.at'.rdX 0 rfl).1 (k:=zk fun _ F=>?_))
  refine J0 (kS F M (hc:=Jap M.tb M.v) (k:=fun v s21 w q21 M=>zk fun _ F=>?_))
  refine J0 (kW F M 1 [_,_,_] [_,_,_] (k:=fun w M=>zk fun _ F=>?_))
  have M:=M.pick [0,2] [_,_]
  have M:=M.toD (show _=wrA D id A x (g.1+1) from by show Jp _ _ _=wrP _ id A x _;unfold wrP;rw [hp.2.2,show g1.1.1=8 by omega])
  exact Jw (g.1+1,v) (by dsimp only;omega) ⟨F.cut rfl,M,by dsimp only;omega⟩
 refine zr2 fun _ F=>?_
 refine zi F (fun h22=>?_) fun h22=>?_
 ·refine zr2 fun _ F=>?_
  refine Jc [(_,[_,_,_],_)] [] [] [0,1,3,2,4,5] M (hd1 M.at' 0) mixed zK fun w M hS=>?_
  refine zr2 fun _ F=>?_
  refine J2 rfl rfl (kQ F M (hc:=J12 M.st.nil.tb) (k:=fun s23 w q23 m M=>kB m (zkN fun _ F=>?_)))
  refine J2 rfl rfl (kS F M (hc:=J0N M.tb M.v) (k:=fun v s24 w q24 M=>kF (zkN fun _ F=>?_)))
  refine J2 rfl rfl (kW F M 0 [_,_,_] [_,_] (k:=fun w M=>kF (zkN fun _ F=>?_)))
  refine J0 (kW F M 1 [_,_,_] [_,_] (k:=fun w M=>zk fun _ F=>?_))
  refine zde F M.at' 0 ?_
  exact zfS M () _ ya (by rw [wfF,iFb h5,if_neg h6,if_neg h7,if_pos (show Ja D (kIs id) < (A:Int)+((x.size:Nat):Int) from by omega),Int.toNat_natCast,show nBl A x.size=g.1 from by unfold nBl;omega])
 refine zr2 fun _ F=>?_
 refine J0 (kW F M 1 [_,_,_] [_,_] (k:=fun w M=>zk fun _ F=>?_))
 refine zde F M.at' 0 ?_
 exact zfS M () _ ya (by rw [wfF,iFb h5,if_neg h6,if_neg h7,if_neg (show ¬ Ja D (kIs id) < (A:Int)+((x.size:Nat):Int) from by omega),Int.toNat_natCast,show nBl A x.size=g.1 from by unfold nBl;omega])
end
end Go.Proofs.YtipdbeklopjbmaaGreatDoor
