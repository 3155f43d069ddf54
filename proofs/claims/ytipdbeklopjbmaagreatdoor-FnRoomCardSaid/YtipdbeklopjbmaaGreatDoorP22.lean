/-
  Texts laid together: MP, KaI2, KaF, GenX, KaG, KaJ0.
-/
import Derived.Test.YtipdbeklopjbmaaGreatDoorKaHs
import Derived.Test.YtipdbeklopjbmaaGreatDoorP16
import Derived.Test.YtipdbeklopjbmaaGreatDoorP20
set_option linter.unusedVariables false
set_option linter.unusedSimpArgs false
namespace Go.Proofs.YtipdbeklopjbmaaGreatDoor
open Go.ChangeShapes Go.WideShapes Go.ChangeAt Go.RowKit Go.Proofs.Tryz
theorem J3Y {X:Uni} {H:Nat→Prop} {w:World} {v:MV} {D:List CellD} {u:Nat} (_:TbO w []) (hm:RM X H w v D u) (hu:u≤68719476736:=by omega) :
 Calls prog 179 #[v.S] w (PS X H w (fun v (_:Unit) (_:Unit)=>v.val) () D u noq):=by
 obtain ⟨R,W,g1,g2,g3,h4⟩:=hm
 have hn:=g1.inv.1
 have hb:=h4.bd.1
 refine (Jdj g1 zO).mono ?_
 rintro e w' ⟨sa,sn,sc,ra,rn,rc,wa,wn,wc,rfl,m,k1,k2,k3⟩
 exact ⟨⟨sa,ra,wa,sn,sc,rn,rc,wn,wc⟩,(),rfl,m,⟨[],[],k1,k2,k3,h4.fresh⟩,trivial⟩
set_option maxRecDepth 100000
set_option maxHeartbeats 1000000
section
set_option maxHeartbeats 8000000
variable {X:Uni} {w:World} {b u:Nat} {v:MV} {D:List CellD} {H:Nat→Prop}
theorem JhS {id:Int} {n:Int} (hA:AT w [mB X b v D u]) (hu:u+0≤68718428160:=by omega) (h_id:J1 id:=by exact ym) (h_n:J1 n:=by exact ym) (p0:sgK X id:=by assumption) :
 Calls prog 254 #[pT b,iV id,iV n] w (PI X b v D u w (fun (r:Unit) (s:Int)=>iV s) () (sgS D id n) u (fun (_:Unit) (s:Int)=>J1 s)):=by
 have M:=St.start hA
 refine zE (f:=254) fun _ F=>?_
 refine J0 (kI F M (hc:=JgS M.hd (p0:=p0)) (k:=fun v s1 w q1 M=>zk fun _ F=>?_))
 refine zi F (fun h2=>?_) fun h2=>?_
 ·refine zr2 fun _ F=>?_
  refine zd1 F ?_
  exact zfI M () _ ya (by rw [sgS,if_pos h2])
 refine zr2 fun _ F=>?_
 refine J0 (kO F M (hc:=J1T M.nil.tb) (k:=fun s3 w q3 M=>zk fun _ F=>?_))
 refine zib F (fun h4=>?_) fun h4=>?_
 ·refine zr2 fun _ F=>?_
  refine zd1 F ?_
  exact zfI M () _ ya (by rw [sgS,if_neg h2,if_pos h4])
 have hi4:=J0K (nf h4);refine zr2 fun _ F=>?_
 refine J0 (kO F M (hc:=J1S M.nil.tb) (k:=fun s5 w q5 M=>zk fun _ F=>?_))
 refine J0 (kI F M (hc:=J4P M.hd (p0:=.inl p0.2.1)) (k:=fun v s6 w q6 M=>zk fun _ F=>?_))
 refine J0 (kO F M (hc:=J1S M.nil.tb) (k:=fun s7 w q7 M=>zk fun _ F=>?_))
 refine J0 (kI F M (hc:=J4P M.hd (p0:=.inl p0.2.2.1)) (k:=fun v s8 w q8 M=>zk fun _ F=>?_))
 refine zi F (fun h9=>?_) fun h9=>?_
 ·refine zr2 fun _ F=>?_
  refine zd1 F ?_
  exact zfI M () _ ya (by rw [sgS,if_neg h2,iFb h4,if_pos h9])
 refine zr2 fun _ F=>?_
 refine zi F (fun h10=>?_) fun h10=>?_
 ·refine zr2 fun _ F=>?_
  refine zd1 F ?_
  exact zfI M () _ ya (by rw [sgS,if_neg h2,iFb h4,if_neg h9,if_pos h10])
 refine zr2 fun _ F=>?_
 refine J0 (kO F M (hc:=J1S M.nil.tb) (k:=fun s11 w q11 M=>zk fun _ F=>?_))
 refine J0 (kI F M (hc:=Ja3 M.hd (p0:=.inl p0.2.1)) (k:=fun v s12 w q12 M=>zk fun _ F=>?_))
 refine J0 (kO F M (hc:=J1S M.nil.tb) (k:=fun s13 w q13 M=>zk fun _ F=>?_))
 refine J0 (kO F M (hc:=J0U M.nil.tb) (k:=fun s14 w q14 M=>zk fun _ F=>?_))
 refine J0 (kI F M (hc:=Ja3 M.hd (p0:=.inl (p0.2.2.2 _ zO zO))) (k:=fun v s15 w q15 M=>zk fun _ F=>?_))
 refine zd1 F ?_
 exact zfI M () _ ya (by rw [sgS,if_neg h2,iFb h4,if_neg h9,if_neg h10])
theorem J6T {id:Int} {p:Int} (hA:AT w [mB X b v D u]) (hu:u+1≤68718428160:=by omega) (h_id:J1 id:=by exact ym) (h_p:J1 p:=by exact ym) :
 Calls prog 362 #[pT b,iV id,iV p] w (PI X b v D u w (fun (r:ByteArray) (s:Unit)=>.string r) (J0S D id p) D (u+1) (fun (r:ByteArray) (_:Unit)=>okS r)):=by
 have M:=St.start hA
 refine zE (f:=362) fun _ F=>?_
 refine J0 (kO F M (hc:=J3P M.nil.tb) (k:=fun s1 w q1 M=>zk fun _ F=>?_))
 refine J0 (kI F M (hc:=J7p M.hd) (k:=fun v s2 w q2 M=>zk fun _ F=>?_))
 refine J0 (kO F M (hc:=JgV M.nil.tb) (k:=fun s3 w q3 M=>zk fun _ F=>?_))
 refine zd1 F ?_
 exact zfI M _ () ((by assumption)) (rfl)
end
set_option maxRecDepth 100000
set_option maxHeartbeats 1000000
section
set_option maxHeartbeats 8000000
variable {X:Uni} {w:World} {b u:Nat} {v:MV} {D:List CellD} {H:Nat→Prop}
theorem JeI {id:Int} {n:Int} (hA:AT w [mB X b v D u]) (hu:u+300≤68718428160:=by omega) (h_id:J1 id:=by exact ym) (h_n:J1 n:=by exact ym) :
 Calls prog 330 #[pT b,iV id,iV n] w (PI X b v D u w (fun (r:Unit) (s:Int)=>iV s) () (ctF D id n) (u+300) (fun (_:Unit) (s:Int)=>J1 s)):=by
 have hnI:Ja D (kIs id)=((JS (Jl D (kIs id)):Nat):Int):=rfl
 have M:=St.start hA
 refine zE (f:=330) fun _ F=>?_
 refine J0 (kO F M (hc:=J3U M.nil.tb) (k:=fun s1 w q1 M=>zk fun _ F=>?_))
 refine J0 (kI F M (hc:=J0u M.hd) (k:=fun v s2 w q2 M=>zk fun _ F=>?_))
 refine J0 (kO F M (hc:=J1T M.nil.tb) (k:=fun s3 w q3 M=>zk fun _ F=>?_))
 refine zib F (fun h4=>?_) fun h4=>?_
 ·refine zr2 fun _ F=>?_
  refine zd1 F ?_
  exact zfI M () _ ya (by rw [ctF,if_pos h4])
 have hi4:=J0K (nf h4);refine zr2 fun _ F=>?_
 obtain ⟨A,rfl⟩:=Int.eq_ofNat_of_zero_le (show 0≤n by omega)
 refine J0 (kQu F (A) 8 (by decide) yBp rfl zO (k:=zk fun _ F=>?_))
 refine J0 (kRe F (A) 8 (by decide) yBp rfl (k:=zk fun _ F=>?_))
 refine zi F (fun h5=>?_) fun h5=>?_
 ·refine zr2 fun _ F=>?_
  refine J0 (kI F M (hc:=J6T M.hd) (k:=fun v s6 w q6 M=>zk fun _ F=>?_))
  refine J5K [] [] [] [0,1,2,4,5,6,7,8,9,10,3,11,12] M (HdK.none HdS.nil) mixed zK fun w M hS=>?_
  refine zr2 fun _ F=>?_
  refine nRe F (A) 8 (by decide) yBp rfl (k:=zkN fun _ F=>?_)
  refine nMnN F (k:=zkN fun _ F=>?_)
  refine nSh F (k:=fun he7=>zkN fun _ F=>?_)
  refine J2 rfl rfl (kOm F M (hc:=J3P M.nil.tb) (k:=fun s8 w q8 m M=>kB m (zkN fun _ F=>?_)))
  refine J2 rfl rfl (kOm F M (hc:=J44 M.nil.tb) (k:=fun s9 w q9 m M=>kB m (zkN fun _ F=>?_)))
  refine J2 rfl rfl (kI F M (hc:=J1j nmp M.hd) (k:=fun v s10 w q10 M=>kF (zkN fun _ F=>?_)))
  rw [show ((A / 8:Nat):Int)+1=(((A+7) / 8+0:Nat):Int) by omega] at F
  have M:=M.toD (Jbc zO)
  have F:=F.cut (m':=[(8,_),(0,_),(1,_),(2,_),(6,_),(7,_),(17,_),(22,_)]) rfl
  refine J1i (γ:=Nat × MV) (slots:=fun g=>[(8,.int .i64 ((((A+7) / 8+g.1:Nat)):Int))]) (LL:=fun g=>[mB X b g.2 (ctA (ctH D id A) id ((A+7) / 8) g.1) (u+3+g.1)]) (pr:=fun g=>g.1≤((JS (Jl D (kIs id))+7) / 8 - (A+7) / 8)) (g0:=(0,v)) (fun g=>((JS (Jl D (kIs id))+7) / 8 - (A+7) / 8) - g.1) F M (Nat.zero_le _) fun g a w F M hp=>?_
  refine zr2 fun _ F=>?_
  refine zi F (fun h12=>?_) fun h12=>?_
  ·refine zr2 fun _ F=>?_
   refine J0 (kO F M (hc:=J3P M.nil.tb) (k:=fun s13 w q13 M=>zk fun _ F=>?_))
   refine J0 (kI F M (hc:=J1j nmp M.hd) (k:=fun v s14 w q14 M=>zk fun _ F=>?_))
   exact Jw (g.1+1,v) (by dsimp only;omega) ⟨F.cut rfl,M,by dsimp only;omega⟩
  refine zr2 fun _ F=>?_
  refine J0 (kO F M (hc:=J3U M.nil.tb) (k:=fun s15 w q15 M=>zk fun _ F=>?_))
  refine J0 (kI F M (hc:=J0B M.hd) (k:=fun v s16 w q16 M=>zk fun _ F=>?_))
  refine zd1 F ?_
  exact zfI M () _ ya (by rw [ctF,iFb h4,Int.toNat_natCast,show ((JS (Jl D (kIs id))+7) / 8 - (A+7) / 8)=g.1 from by omega])
 refine zr2 fun _ F=>?_
 rw [show ((A / 8:Nat):Int)=(((A+7) / 8+0:Nat):Int) by omega] at F
 have M:=M.toD (Jbd (id:=id) (n:=A) zO)
 have F:=F.cut (m':=[(8,_),(0,_),(1,_),(2,_),(6,_),(7,_),(17,_),(22,_)]) rfl
 refine J1i (γ:=Nat × MV) (slots:=fun g1=>[(8,.int .i64 ((((A+7) / 8+g1.1:Nat)):Int))]) (LL:=fun g1=>[mB X b g1.2 (ctA (ctH D id A) id ((A+7) / 8) g1.1) (u+1+g1.1)]) (pr:=fun g1=>g1.1≤((JS (Jl D (kIs id))+7) / 8 - (A+7) / 8)) (g0:=(0,v)) (fun g1=>((JS (Jl D (kIs id))+7) / 8 - (A+7) / 8) - g1.1) F M (Nat.zero_le _) fun g1 a w F M hp=>?_
 refine zr2 fun _ F=>?_
 refine zi F (fun h18=>?_) fun h18=>?_
 ·refine zr2 fun _ F=>?_
  refine J0 (kO F M (hc:=J3P M.nil.tb) (k:=fun s19 w q19 M=>zk fun _ F=>?_))
  refine J0 (kI F M (hc:=J1j nmp M.hd) (k:=fun v s20 w q20 M=>zk fun _ F=>?_))
  exact Jw (g1.1+1,v) (by dsimp only;omega) ⟨F.cut rfl,M,by dsimp only;omega⟩
 refine zr2 fun _ F=>?_
 refine J0 (kO F M (hc:=J3U M.nil.tb) (k:=fun s21 w q21 M=>zk fun _ F=>?_))
 refine J0 (kI F M (hc:=J0B M.hd) (k:=fun v s22 w q22 M=>zk fun _ F=>?_))
 refine zd1 F ?_
 exact zfI M () _ ya (by rw [ctF,iFb h4,Int.toNat_natCast,show ((JS (Jl D (kIs id))+7) / 8 - (A+7) / 8)=g1.1 from by omega])
theorem Jeq {id:Int} {at_:Int} {n:Int} (hA:AT w [mB X b v D u]) (hu:u+200≤68718428160:=by omega) (h_id:J1 id:=by exact ym) (h_at_:J1 at_:=by exact ym) (h_n:J1 n:=by exact ym) :
 Calls prog 328 #[pT b,iV id,iV at_,iV n] w (PI X b v D u w (fun (r:Unit) (s:ByteArray)=>.string s) () D (u+200) (fun (_:Unit) (s:ByteArray)=>okS s)):=by
 have hnI:Ja D (kIs id)=((JS (Jl D (kIs id)):Nat):Int):=rfl
 have M:=St.start hA
 refine zE (f:=328) fun _ F=>?_
 refine J0 (kO F M (hc:=J3U M.nil.tb) (k:=fun s1 w q1 M=>zk fun _ F=>?_))
 refine J0 (kI F M (hc:=J0u M.hd) (k:=fun v s2 w q2 M=>zk fun _ F=>?_))
 refine zG F (fun h3 F=>?_) fun h3 F=>?_
 ·refine zr2 fun _ F=>?_
  refine zd1 F ?_
  exact zfI M () _ yCf (rfl)
 refine zr2 fun _ F=>?_
 refine zG F (fun h4 F=>?_) fun h4 F=>?_
 ·refine zr2 fun _ F=>?_
  refine zd1 F ?_
  exact zfI M () _ yCf (rfl)
 refine zr2 fun _ F=>?_
 refine zi F (fun h5=>?_) fun h5=>?_
 ·refine zr2 fun _ F=>?_
  refine zd1 F ?_
  exact zfI M () _ yCf (rfl)
 refine zr2 fun _ F=>?_
 obtain ⟨A,rfl⟩:=Int.eq_ofNat_of_zero_le (show 0≤at_ by omega)
 refine J0 (kMn F (min n (Ja D (kIs id) - (A:Int))) (k:=zk fun _ F=>?_))
 obtain ⟨E,hE⟩:∃ E:Nat,(A:Int)+min n (Ja D (kIs id) - (A:Int))=((E:Nat):Int):=⟨((A:Int)+min n (Ja D (kIs id) - (A:Int))).toNat,zO⟩
 rw [hE] at F
 refine J0 (kQu F (A) 8 (by decide) yBp rfl zO (k:=zk fun _ F=>?_))
 have F:=F.cut (m':=[(12,_),(11,_),(0,_),(1,_),(2,_),(8,_),(30,_),(10,_)]) rfl
 refine J1i (γ:=(Nat × ByteArray) × MV) (slots:=fun g=>[(12,iV (((A / 8+g.1.1:Nat)):Int)),(11,.string g.1.2)]) (LL:=fun g=>[mB X b g.2 (D) (u+1+g.1.1)]) (pr:=fun g=>8 * (A / 8+g.1.1)≤E+7∧g.1.2.size≤8 * g.1.1) (g0:=((0,⟨#[]⟩),v)) (fun g=>E+8 - 8 * (A / 8+g.1.1)) F M (⟨by dsimp only;omega,Nat.zero_le _⟩) fun g a w F M hp=>?_
 refine zr2 fun _ F=>?_
 refine zi F (fun h7=>?_) fun h7=>?_
 ·refine zr2 fun _ F=>?_
  refine J0 (kI F M (hc:=J6T M.hd) (k:=fun v s8 w q8 M=>zk fun _ F=>?_))
  refine J0 (kMx F (max ((A:Int) - ((A / 8+g.1.1:Nat):Int) * 8) 0) (k:=zk fun _ F=>?_))
  obtain ⟨fr,hfr⟩:∃ fr:Nat,max ((A:Int) - ((A / 8+g.1.1:Nat):Int) * 8) 0=((fr:Nat):Int):=⟨_,(Int.toNat_of_nonneg zO).symm⟩
  rw [hfr] at F
  have hbz:=J3T D id ((A / 8+g.1.1:Nat):Int)
  refine J0 (kMn3 F (min (min ((E:Int) - ((A / 8+g.1.1:Nat):Int) * 8) 8) (((J0S D id ((A / 8+g.1.1:Nat):Int)).size:Nat):Int)) (kk:=zk fun _ F=>?_))
  obtain ⟨to_,hto⟩:∃ to_:Nat,min (min ((E:Int) - ((A / 8+g.1.1:Nat):Int) * 8) 8) (((J0S D id ((A / 8+g.1.1:Nat):Int)).size:Nat):Int)=((to_:Nat):Int):=⟨_,(Int.toNat_of_nonneg zO).symm⟩
  rw [hto] at F
  refine zi F (fun h9=>?_) fun h9=>?_
  ·refine zr2 fun _ F=>?_
   refine J0 (JbH F (fr) (to_) (kk:=fun he10=>zk fun _ F=>?_))
   exact Jw ((g.1.1+1,_),v) (by dsimp only;omega) ⟨F.cut rfl,M,by first|(simp only [ByteArray.size_append];omega)|(dsimp only;omega)⟩
  refine zr2 fun _ F=>?_
  exact Jw ((g.1.1+1,g.1.2),v) (by dsimp only;omega) ⟨F.cut rfl,M,by first|(simp only [ByteArray.size_append];omega)|(dsimp only;omega)⟩
 refine zr2 fun _ F=>?_
 refine zd1 F ?_
 exact zfI M () _ yCf (rfl)
theorem Je2 {id:Int} {at_:Int} {x:ByteArray} (hA:AT w [mB X b v D u]) (hu:u+300≤68718428160:=by omega) (h_id:J1 id:=by exact ym) (h_at_:J1 at_:=by exact ym) (h_x:okS x:=by exact yi) (p0:x.size≤64:=by omega) :
 Calls prog 329 #[pT b,iV id,iV at_,.string x] w (PI X b v D u w (fun (r:Unit) (s:Int)=>iV s) () (wfF D id at_ x) (u+300) (fun (_:Unit) (s:Int)=>J1 s)):=by
 have hnI:Ja D (kIs id)=((JS (Jl D (kIs id)):Nat):Int):=rfl
 have M:=St.start hA
 refine zE (f:=329) fun _ F=>?_
 refine J0 (kO F M (hc:=J3U M.nil.tb) (k:=fun s1 w q1 M=>zk fun _ F=>?_))
 refine J0 (kI F M (hc:=J0u M.hd) (k:=fun v s2 w q2 M=>zk fun _ F=>?_))
 refine J0 (kO F M (hc:=J1T M.nil.tb) (k:=fun s3 w q3 M=>zk fun _ F=>?_))
 refine zGb F (fun h4 F=>?_) fun h4 F=>?_
 ·refine zr2 fun _ F=>?_
  refine zd1 F ?_
  exact zfI M () _ ya (by rw [wfF,if_pos h4])
 have hi4:=J0K (nf h4);refine zr2 fun _ F=>?_
 refine zi F (fun h5=>?_) fun h5=>?_
 ·refine zr2 fun _ F=>?_
  refine zd1 F ?_
  exact zfI M () _ ya (by rw [wfF,iFb h4,if_pos h5])
 refine zr2 fun _ F=>?_
 obtain ⟨A,rfl⟩:=Int.eq_ofNat_of_zero_le (show 0≤at_ by omega)
 refine zi F (fun h6=>?_) fun h6=>?_
 ·refine zr2 fun _ F=>?_
  refine zd1 F ?_
  exact zfI M () _ ya (by rw [wfF,iFb h4,if_neg h5,if_pos h6])
 refine zr2 fun _ F=>?_
 refine J0 (kQu F (A) 8 (by decide) yBp rfl zO (k:=zk fun _ F=>?_))
 have F:=F.cut (m':=[(11,_),(0,_),(1,_),(2,_),(3,_),(8,_),(9,_),(26,_),(10,_),(32,_)]) rfl
 refine J1i (γ:=Nat × MV) (slots:=fun g=>[(11,iV (((A / 8+g.1:Nat)):Int))]) (LL:=fun g=>[mB X b g.2 (wrA D id A x g.1) (u+1+2 * g.1)]) (pr:=fun g=>g.1≤((A+x.size+7) / 8 - A / 8)) (g0:=(0,v)) (fun g=>((A+x.size+7) / 8 - A / 8) - g.1) F M (Nat.zero_le _) fun g a w F M hp=>?_
 refine zr2 fun _ F=>?_
 refine zi F (fun h8=>?_) fun h8=>?_
 ·refine zr2 fun _ F=>?_
  refine J0 (kI F M (hc:=J6T M.hd) (k:=fun v s9 w q9 M=>zk fun _ F=>?_))
  refine J0 (kSB F M.at' (k:=fun b10 N10 C10 w l10 m _ F=>?_))
  have M:=M.then m
  refine zr2 fun _ F=>?_
  refine J0 (kMx F ((((max A ((A / 8+g.1) * 8)):Nat):Int)) (k:=zk fun _ F=>?_))
  have F:=F.cut (m':=[(14,_),(12,_),(11,_),(0,_),(1,_),(2,_),(3,_),(8,_),(9,_),(26,_),(10,_),(32,_),(35,_),(36,_),(37,_),(38,_),(41,_),(42,_),(43,_),(44,_),(45,_),(46,_),(47,_),(13,_),(48,_),(49,_),(50,_)]) rfl
  refine J1i (γ:=(Nat × BL) × MV) (slots:=fun g1=>[(14,.int .i64 ((((max A ((A / 8+g.1) * 8))+g1.1.1:Nat)):Int)),(12,g1.1.2.val)]) (LL:=fun g1=>[J5Y g1.1.2,mB X b g1.2 (wrA D id A x g.1) (u+1+2 * g.1+1)]) (pr:=fun g1=>g1.1.1≤(min (A+x.size) (((A / 8+g.1) * 8)+8)) - (max A ((A / 8+g.1) * 8))∧g1.1.2.n=g1.1.2.l.length∧g1.1.2.l=wrB x A ((A / 8+g.1) * 8) (max A ((A / 8+g.1) * 8)) (Jb (J0S (wrA D id A x g.1) id ((A / 8+g.1:Nat):Int))) g1.1.1) (g0:=((0,⟨_,_,_,_⟩),v)) (fun g1=>(min (A+x.size) (((A / 8+g.1) * 8)+8)) - (max A ((A / 8+g.1) * 8)) - g1.1.1) F M (⟨Nat.zero_le _,by show _=(Jb _).length;rw [J0A];assumption,rfl⟩) fun g1 a w F M hp=>?_
  have hp1:=hp
  refine zr2 fun _ F=>?_
  refine J0 (kMn F ((((min (A+x.size) (((A / 8+g.1) * 8)+8)):Nat):Int)) (k:=zk fun _ F=>?_))
  refine zi F (fun h12=>?_) fun h12=>?_
  ·refine zr2 fun _ F=>?_
   have F:=F.cut (m':=[(12,_),(14,_),(11,_),(0,_),(1,_),(2,_),(3,_),(8,_),(9,_),(26,_),(10,_),(32,_),(35,_),(36,_),(37,_),(38,_),(41,_),(42,_),(43,_),(44,_),(45,_),(46,_),(47,_),(13,_),(48,_),(49,_),(50,_),(51,_),(52,_),(53,_),(54,_),(55,_),(56,_)]) rfl
   refine J1i (γ:=(BL × Nat) × MV) (slots:=fun g2=>[(12,g2.1.1.val)]) (LL:=fun g2=>[J5Y g2.1.1,mB X b g2.2 (wrA D id A x g.1) (u+1+2 * g.1+1)]) (pr:=fun g2=>g2.1.1.n=g2.1.1.l.length∧g2.1.1.l=g1.1.2.l++List.replicate g2.1.2 0∧(g2.1.2=0∨g1.1.2.l.length+g2.1.2≤((max A ((A / 8+g.1) * 8))+g1.1.1 - ((A / 8+g.1) * 8))+1)) (g0:=((g1.1.2,0),g1.2)) (fun g2=>((max A ((A / 8+g.1) * 8))+g1.1.1 - ((A / 8+g.1) * 8))+1 - g2.1.1.l.length) F M (⟨hp1.2.1,by simp,.inl rfl⟩) fun g2 a w F M hp=>?_
   have hpl:=congrArg List.length hp.2.1
   rw [List.length_append,List.length_replicate] at hpl
   refine zr2 fun _ F=>?_
   refine zi F (fun h14=>?_) fun h14=>?_
   ·refine zr2 fun _ F=>?_
    refine Jbh F M.at' 0 (0) ET_62 yBy (k:=fun B15 N15 C15 _ w l15 m _ F=>?_)
    have M:=M.then m
    refine zr2 fun _ F=>?_
    exact Jw ((⟨_,_,_,_⟩,g2.1.2+1),g2.2) (by simp only [List.length_append,List.length_singleton];omega) ⟨F.cut rfl,M,⟨by simp only [List.length_append,List.length_singleton];assumption,J9V hp.2.1,.inr (by dsimp only;omega)⟩⟩
   refine zr2 fun _ F=>?_
   refine J0 (J5S F ((max A ((A / 8+g.1) * 8))+g1.1.1 - A) (k:=zk fun _ F=>?_))
   refine JbG F M.at' 0 ((max A ((A / 8+g.1) * 8))+g1.1.1 - ((A / 8+g.1) * 8)) (J5 x ((max A ((A / 8+g.1) * 8))+g1.1.1 - A)) ET_62 yBy (k:=fun _ w m _ F=>?_)
   have M:=M.then m
   refine zr2 fun _ F=>?_
   exact Jw ((g1.1.1+1,⟨_,_,_,g2.1.1.l.set ((max A ((A / 8+g.1) * 8))+g1.1.1 - ((A / 8+g.1) * 8)) (J5 x ((max A ((A / 8+g.1) * 8))+g1.1.1 - A))⟩),g2.2) (by dsimp only;omega) ⟨F.cut rfl,M,⟨by dsimp only;omega,by rw [List.length_set];exact hp.1,Jbw hp1.2.2 hp.2.1 hp.2.2 zO rfl rfl⟩⟩
  refine zr2 fun _ F=>?_
  have hbs:(Je g1.1.2.l).size≤20000:=by rw [J1n,hp.2.2];have h1:=J7b x A ((A / 8+g.1) * 8) (max A ((A / 8+g.1) * 8)) (Jb (J0S (wrA D id A x g.1) id ((A / 8+g.1:Nat):Int))) zO g1.1.1 zO;rw [J0A] at h1;have h2:=J3T (wrA D id A x g.1) id ((A / 8+g.1:Nat):Int);omega
  refine JiJ [] [] [] (.b2 [0,1,2,4] 3 (.l [5,6,7]) 5 (.l [3,6,7])) M (HdK.none HdS.nil) mixed zK fun w M hS=>?_
  refine en2 ?_
  refine zr2 fun _ F=>?_
  refine J03 ?_ ?_
  ·skip
   refine Jh rfl (kOm F M (hc:=J3P M.nil.tb) (k:=fun s17 w q17 m M=>oB m (oL (zkN fun _ F=>?_))))
   refine J2 rfl rfl (kBS F (M.at'.rdX 0 rfl).1 (k:=kE0 (zkN fun _ F=>?_)))
   refine J2 rfl rfl (kOm F M (hc:=J44 M.nil.tb) (k:=fun s19 w q19 m M=>kB m (zkN fun _ F=>?_)))
   refine J2 rfl rfl (kI2 F M (hc:=J1j nmp M.hd2) (k:=fun v s20 w q20 M=>kF (zkN fun _ F=>?_)))
   have M:=M.pick [1] [_]
   have M:=M.toD (show _=wrA D id A x (g.1+1) from by show Jp _ _ _=wrP _ id A x _;unfold wrP;rw [hp.2.2,show g1.1.1=(min (A+x.size) (((A / 8+g.1) * 8)+8)) - (max A ((A / 8+g.1) * 8)) by omega])
   exact Jw (g.1+1,v) (by dsimp only;omega) ⟨F.cut rfl,M,by dsimp only;omega⟩
  skip
  refine Jh rfl (kBS F (M.at'.rdX 0 rfl).1 (k:=kE0 (oL (zkN fun _ F=>?_))))
  refine J2 rfl rfl (kOm F M (hc:=J3P M.nil.tb) (k:=fun s22 w q22 m M=>kB m (zkN fun _ F=>?_)))
  refine J2 rfl rfl (kOm F M (hc:=J44 M.nil.tb) (k:=fun s23 w q23 m M=>kB m (zkN fun _ F=>?_)))
  refine J2 rfl rfl (kI2 F M (hc:=J1j nmp M.hd2) (k:=fun v s24 w q24 M=>kF (zkN fun _ F=>?_)))
  have M:=M.pick [1] [_]
  have M:=M.toD (show _=wrA D id A x (g.1+1) from by show Jp _ _ _=wrP _ id A x _;unfold wrP;rw [hp.2.2,show g1.1.1=(min (A+x.size) (((A / 8+g.1) * 8)+8)) - (max A ((A / 8+g.1) * 8)) by omega])
  exact Jw (g.1+1,v) (by dsimp only;omega) ⟨F.cut rfl,M,by dsimp only;omega⟩
 refine zr2 fun _ F=>?_
 refine zi F (fun h25=>?_) fun h25=>?_
 ·refine zr2 fun _ F=>?_
  refine J0 (kO F M (hc:=J3U M.nil.tb) (k:=fun s26 w q26 M=>zk fun _ F=>?_))
  refine J0 (kI F M (hc:=J0B M.hd) (k:=fun v s27 w q27 M=>zk fun _ F=>?_))
  refine zd1 F ?_
  exact zfI M () _ ya (by rw [wfF,iFb h4,if_neg h5,if_neg h6,if_pos (show Ja D (kIs id) < (A:Int)+((x.size:Nat):Int) from by omega),Int.toNat_natCast,show nBl A x.size=g.1 from by unfold nBl;omega])
 refine zr2 fun _ F=>?_
 refine zd1 F ?_
 exact zfI M () _ ya (by rw [wfF,iFb h4,if_neg h5,if_neg h6,if_neg (show ¬ Ja D (kIs id) < (A:Int)+((x.size:Nat):Int) from by omega),Int.toNat_natCast,show nBl A x.size=g.1 from by unfold nBl;omega])
end
section
variable {w:World} {H:Nat→Prop}
set_option maxRecDepth 100000
set_option maxHeartbeats 1000000
theorem Jc7 {H:Nat→Prop} {s:ByteArray} {suffix:ByteArray} (h_s:okS s) (Q0:okS suffix) :
 Calls prog 170 #[.string s,.string suffix] w fun e w'=>e=.returned (.bool (J2s s suffix))∧Mv [] w [] w':=by
 have kz:=h_s
 unfold okS at kz
 refine ze fun _ F=>?_
 refine zc F (s.size ≥ suffix.size) fun _ F=>?_
 rcases Decidable.em (s.size ≥ suffix.size) with h8|h8
 ·rw [decide_eq_true h8] at F
  refine zr fun _ F=>?_
  refine zq F ((s.size - suffix.size:Nat):Int) fun _ F=>?_
  refine zv F (J2p (l:=s.size - suffix.size) (h:=s.size) underlying9 rfl (F.g rfl) (F.g rfl) rfl yq yq rfl) fun _ F=>?_
  refine zv F (J0O (b:=(decide ((s.extract (s.size - suffix.size) s.size)=suffix))) (.inl rfl) rfl (F.g rfl) (F.g rfl) rfl) fun _ F=>?_
  refine zd1 F ?_
  exact ⟨(zV1 (zVb (by unfold J2s;by_cases hb:suffix.size≤s.size <;> simp_all <;> omega))),(Mv.pick (Mv.refl (At.nil w)) [] rfl)⟩
 rw [decide_eq_false h8] at F
 refine zr fun _ F=>?_
 refine zd1 F ?_
 exact ⟨(zV1 (zVb (by unfold J2s;by_cases hb:suffix.size≤s.size <;> simp_all <;> omega))),(Mv.pick (Mv.refl (At.nil w)) [] rfl)⟩
theorem Jc6 {H:Nat→Prop} {s:ByteArray} {suffix:ByteArray} (h_s:okS s) (Q0:okS suffix) :
 Calls prog 365 #[.string s,.string suffix] w fun e w'=>e=.returned (.tuple #[.string (J1C s suffix),.bool (J2s s suffix)])∧Mv [] w [] w'∧okS (J1C s suffix):=by
 have kz:=h_s
 unfold okS at kz
 refine ze fun _ F=>?_
 refine zzp F (At.nil w) (Jc7 (H:=fun _=>True) (s:=s) (suffix:=suffix) h_s Q0) fun w5 S5 _ F=>?_
 refine zv F (J0q rfl (F.g rfl)) fun _ F=>?_
 refine zib F (fun h8=>?_) fun h8=>?_
 ·refine zr fun _ F=>?_
  refine zd2 F ?_
  exact ⟨(zV1 (zVt (lc (zVs yBf) (lc (zVb yBf) rfl)))),(Mv.pick S5 [] rfl),(zOk yBf h_s)⟩
 refine zr fun _ F=>?_
 have hle:=JeU (nf zA)
 refine zq F ((s.size - suffix.size:Nat):Int) fun _ F=>?_
 refine zv F (J2p (l:=0) (h:=s.size - suffix.size) underlying9 rfl (F.g rfl) rfl (F.g rfl) yq yq rfl) fun _ F=>?_
 refine zd2 F ?_
 exact ⟨(zV1 (zVt (lc (zVs yBf) (lc (zVb yBf) rfl)))),(Mv.pick S5 [] rfl),(zOk yBf (Jav h_s))⟩
theorem Jck {H:Nat→Prop} {s:ByteArray} {suffix:ByteArray} (h_s:okS s) (Q0:okS suffix) :
 Calls prog 336 #[.string s,.string suffix] w fun e w'=>e=.returned (.tuple #[.string (J1C s suffix),.bool (J2s s suffix)])∧Mv [] w [] w'∧okS (J1C s suffix):=by
 refine ze fun _ F=>?_
 refine zzq F (At.nil w) (Jc6 (H:=fun _=>True) (s:=s) (suffix:=suffix) h_s Q0) ?_
 rintro w5 S5 Q1 _ F
 refine zd2 F ?_
 exact ⟨rfl,(Mv.pick S5 [] rfl),Q1⟩
end
set_option maxRecDepth 100000
set_option maxHeartbeats 1000000
section
set_option maxHeartbeats 8000000
variable {X:Uni} {w:World} {b u:Nat} {v:MV} {D:List CellD} {H:Nat→Prop}
theorem Jfp {x:ByteArray} {t:ByteArray} (hT:TbO w []) (h_x:okS x:=by exact yi) (h_t:okS t:=by exact yi) :
 Calls prog 336 #[.string x,.string t] w (PO w (fun (s:Unit)=>.tuple #[.string (J1C x t),.bool (J2s x t)]) (fun _=>(J1C x t).size≤x.size)):=by
 refine (Jck (H:=fun _=>True) h_x h_t).mono ?_
 rintro e w' ⟨rfl,m,ok⟩
 exact ⟨(),rfl,m,Je6 _ _⟩
theorem Jfm {c:CallD} (hT:TbO w []) (h_c:okK c:=by assumption) :
 Calls prog 238 #[.agg #[iV c.kind,.string c.name,.string c.to_,iV c.a,iV c.b,.string c.text]] w (PO w (fun (s:Unit)=>.bool (J2q c)) (fun _=>True)):=by
 have hk1:=h_c.1;have hk2:=h_c.2.1;have hk3:=h_c.2.2.1;have hk4:=h_c.2.2.2.1;have hk5:=h_c.2.2.2.2.1;have hk6:=h_c.2.2.2.2.2
 have M:St [] w [] w:=⟨Mv.refl (At.nil _),hT⟩
 refine zE (f:=238) fun _ F=>?_
 refine J0 (J4h F M [_,_,_,_,_,_] (k:=fun b1 w M=>zk fun _ F=>?_))
 refine J0 (kO F M (hc:=J1T M.nil.tb) (k:=fun s2 w q2 M=>zk fun _ F=>?_))
 refine zGb F (fun h3 F=>?_) fun h3 F=>?_
 ·have hi3:=J0K h3;refine zr2 fun _ F=>?_
  refine zG F (fun h4 F=>?_) fun h4 F=>?_
  ·refine zr2 fun _ F=>?_
   refine zG F (fun h5 F=>?_) fun h5 F=>?_
   ·refine zr2 fun _ F=>?_
    refine zd1 F ?_
    have M:=M.pick [] []
    exact ⟨(),congrArg Ending.returned yv,M.mv,trivial⟩
   refine zr2 fun _ F=>?_
   refine zd1 F ?_
   have M:=M.pick [] []
   exact ⟨(),congrArg Ending.returned yv,M.mv,trivial⟩
  refine zr2 fun _ F=>?_
  refine zd1 F ?_
  have M:=M.pick [] []
  exact ⟨(),congrArg Ending.returned yv,M.mv,trivial⟩
 refine zr2 fun _ F=>?_
 refine zd1 F ?_
 have M:=M.pick [] []
 exact ⟨(),congrArg Ending.returned yv,M.mv,trivial⟩
theorem Jgw (hA:AT w [mB X b v D u]) (hu:u+1≤68718428160:=by omega) :
 Calls prog 243 #[pT b] w (PIL X b v D u w 9 1 J3 okS (fun (s:GL ByteArray)=>s.l.length≤68719476736∧∀ x ∈ s.l,x.size≤1048576) D (u+1)):=by
 have M:=St.start hA
 refine zE (f:=243) fun _ F=>?_
 refine J0 (kU F M (hc:=J5t M.hd) (k:=fun v s1 w q1 M=>zk fun _ F=>?_))
 have hq2:=q1.le
 have M:=M.then (J72 (e:=9) (k:=1) (enc:=J3) (ok:=okS) M.at')
 have M:=M.pick [1,2,0] [_,_,_]
 have F:=F.cut (m':=[(9,_),(3,_),(2,_),(7,_),(8,_)]) rfl
 refine J1i (γ:=(Nat × GL ByteArray) × MV) (slots:=fun g=>[(9,nV g.1.1),(3,g.1.2.val)]) (LL:=fun g=>[owK s1 (Jt D (⟨#[110,47]⟩:ByteArray)),mB X b g.2 (D) (u+1),owG 9 1 J3 okS g.1.2]) (pr:=fun g=>g.1.1≤s1.n∧g.1.2.l.length=g.1.1∧∀ x ∈ g.1.2.l,x.size≤1048576) (g0:=((0,⟨_,_,_,_⟩),v)) (fun g=>s1.n - g.1.1) F M (⟨Nat.zero_le _,rfl,fun _ h=>by cases h⟩) fun g a w F M hp=>?_
 refine zr2 fun _ F=>?_
 refine zi F (fun h4=>?_) fun h4=>?_
 ·refine zr2 fun _ F=>?_
  refine kEl (s:=s1) F M.at' ET_44 0 g.1.1 zO (kk:=fun x5 _ hx5 ok5=>zk fun _ F=>?_)
  have hz5:=q1.sz _ (Jm hx5)
  have hg5:=J2E (q1.bg _ (Jm hx5))
  refine kSl F (2) yBj (k:=fun he6=>zk fun _ F=>?_)
  refine J1P F M.at' 2 (x5.extract 2 x5.size) ET_44 (hx:=by unfold okS;omega) (kk:=fun B7 N7 C7 _ w l7 m _ F=>?_)
  have M:=M.then m
  refine zr2 fun _ F=>?_
  have M:=M.pick [1,2,0] [_,_,_]
  exact Jw ((g.1.1+1,⟨_,_,_,_⟩),g.2) (by dsimp only;omega) ⟨F.cut rfl,M,⟨by dsimp only;omega,by simp only [List.length_append,List.length_singleton];omega,fun y hy=>(List.mem_append.1 hy).elim (hp.2.2 y) fun h=>by rw [List.mem_singleton.1 h];omega⟩⟩
 refine zr2 fun _ F=>?_
 have M:=M.tail
 refine zd1 F ?_
 have M:=M.pick [1,0] [_,_]
 exact J7X (s:=g.1.2) M (⟨by have h1:=hp.1;have h2:=hp.2.1;omega,hp.2.2⟩) rfl
theorem Jhk {p:Int} (hA:AT w [mB X b v D u]) (hu:u+2≤68718428160:=by omega) (h_p:J1 p:=by exact ym) :
 Calls prog 253 #[pT b,iV p] w (PIL X b v D u w 3 1 J0w okI (fun (s:GL Int)=>s.l.length≤68719476736) D (u+2)):=by
 have M:=St.start hA
 refine zE (f:=253) fun _ F=>?_
 refine J0 (kU F M (hc:=J5t M.hd) (k:=fun v s1 w q1 M=>zk fun _ F=>?_))
 have hq2:=q1.le
 have M:=M.then (J72 (e:=3) (k:=1) (enc:=J0w) (ok:=okI) M.at')
 have M:=M.pick [1,2,0] [_,_,_]
 have M:=M.ext (ks:=Jt D (⟨#[114,47]⟩:ByteArray)) J3V
 have F:=F.cut (m':=[(13,_),(5,_),(0,_),(1,_),(4,_),(11,_),(12,_)]) rfl
 refine J1i (γ:=(Nat × GL Int) × MV) (slots:=fun g=>[(13,nV g.1.1),(5,g.1.2.val)]) (LL:=fun g=>[owK s1 (Jt D (⟨#[114,47]⟩:ByteArray)),mB (X.ext (Jt D (⟨#[114,47]⟩:ByteArray))) b g.2 (D) (u+1),owG 3 1 J0w okI g.1.2]) (pr:=fun g=>g.1.1≤s1.n∧g.1.2.l.length≤g.1.1) (g0:=((0,⟨_,_,_,_⟩),v)) (fun g=>s1.n - g.1.1) F M (⟨Nat.zero_le _,Nat.zero_le _⟩) fun g a w F M hp=>?_
 refine zr2 fun _ F=>?_
 refine zi F (fun h4=>?_) fun h4=>?_
 ·refine zr2 fun _ F=>?_
  refine kEl (s:=s1) F M.at' ET_44 0 g.1.1 zO (kk:=fun x5 _ hx5 ok5=>zk fun _ F=>?_)
  have hz5:=q1.sz _ (Jm hx5)
  have hg5:=J2E (q1.bg _ (Jm hx5))
  refine J0 (kO F M (hc:=Jfp M.nil.tb) (k:=fun s6 w q6 M=>zk fun _ F=>?_))
  refine zG F (fun h7 F=>?_) fun h7 F=>?_
  ·refine zr2 fun _ F=>?_
   refine zGb F (fun h8 F=>?_) fun h8 F=>?_
   ·refine zr2 fun _ F=>?_
    refine J0 (kI2 F M (hc:=J4P M.hd2 (p0:=J35 hx5)) (k:=fun v s9 w q9 M=>zk fun _ F=>?_))
    refine zi F (fun h10=>?_) fun h10=>?_
    ·refine zr2 fun _ F=>?_
     refine J0 (JbI F (2) (hl:=by have h5:=JeK (x:=x5) zO;omega) (kk:=fun he11=>zk fun _ F=>?_))
     refine J0 (kO F M (hc:=J5q M.nil.tb) (k:=fun s12 w q12 M=>zk fun _ F=>?_))
     refine J1P F M.at' 2 (((JS ((J1C x5 (⟨#[47,112]⟩:ByteArray)).extract 2 (J1C x5 (⟨#[47,112]⟩:ByteArray)).size):Nat):Int)) ET_47 (hx:=by exact J7m zO) (kk:=fun B13 N13 C13 _ w l13 m _ F=>?_)
     have M:=M.then m
     refine zr2 fun _ F=>?_
     have M:=M.pick [1,2,0] [_,_,_]
     exact Jw ((g.1.1+1,⟨_,_,_,_⟩),v) (by dsimp only;omega) ⟨F.cut rfl,M,⟨by dsimp only;omega,yw⟩⟩
    refine zr2 fun _ F=>?_
    exact Jw ((g.1.1+1,g.1.2),v) (by dsimp only;omega) ⟨F.cut rfl,M,⟨by dsimp only;omega,yw⟩⟩
   refine zr2 fun _ F=>?_
   exact Jw ((g.1.1+1,g.1.2),g.2) (by dsimp only;omega) ⟨F.cut rfl,M,⟨by dsimp only;omega,yw⟩⟩
  refine zr2 fun _ F=>?_
  exact Jw ((g.1.1+1,g.1.2),g.2) (by dsimp only;omega) ⟨F.cut rfl,M,⟨by dsimp only;omega,yw⟩⟩
 refine zr2 fun _ F=>?_
 have M:=M.unext
 have M:=M.tail
 refine zd1 F ?_
 have M:=M.pick [1,0] [_,_]
 exact J7X (s:=g.1.2) M (by have h1:=hp.1;have h2:=hp.2;omega) rfl
theorem J6L {c:CallD} (hA:AT w [mB X b v D u]) (hu:u+310≤68718428160:=by omega) (h_c:okK c:=by assumption) (p0:c.text.size≤64:=by omega) :
 Calls prog 244 #[pT b,.agg #[iV c.kind,.string c.name,.string c.to_,iV c.a,iV c.b,.string c.text]] w (PI X b v D u w (fun (r:Unit) (s:Int × Int × ByteArray)=>.agg #[iV s.1,iV s.2.1,.string s.2.2]) () (flS D c) (u+310) (fun (_:Unit) (s:Int × Int × ByteArray)=>J1 s.1∧J1 s.2.1∧okS s.2.2)):=by
 have hk1:=h_c.1;have hk2:=h_c.2.1;have hk3:=h_c.2.2.1;have hk4:=h_c.2.2.2.1;have hk5:=h_c.2.2.2.2.1;have hk6:=h_c.2.2.2.2.2
 have M:=St.start hA
 refine zE (f:=244) fun _ F=>?_
 refine J0 (J4h F M [_,_,_,_,_,_] (k:=fun b1 w M=>zk fun _ F=>?_))
 refine J0 (J2T F M J00 [_,_,_] (k:=fun b2 w M=>zk fun _ F=>?_))
 have M:=M.pick [2,0,1] [_,_,_]
 refine J0 (kI F M (hc:=J3u M.hd) (k:=fun v s3 w q3 M=>zk fun _ F=>?_))
 have q3a:=q3.1;have q3b:=q3.2
 refine zi F (fun h4=>?_) fun h4=>?_
 ·refine zr2 fun _ F=>?_
  refine J0 (kBd F J1q (k:=zk fun _ F=>?_))
  refine J0 (kWI F M 1 [_,_,_] [_,_,_] (k:=fun w M=>zk fun _ F=>?_))
  refine zdc F M.at' 0 ?_
  have M:=M.pick [1] [_]
  exact zfI M () (_,_,_) (⟨yc,yc,ye⟩) (by rw [flS,if_pos h4])
 refine zr2 fun _ F=>?_
 refine zi F (fun h5=>?_) fun h5=>?_
 ·refine zr2 fun _ F=>?_
  refine J0 (kI F M (hc:=Jeq M.hd) (k:=fun v s6 w q6 M=>zk fun _ F=>?_))
  refine J0 (kBd F J1q (k:=zk fun _ F=>?_))
  refine J0 (kWI F M 1 [_,_,_] [_,_,_] (k:=fun w M=>zk fun _ F=>?_))
  refine zdc F M.at' 0 ?_
  have M:=M.pick [1] [_]
  exact zfI M () (_,_,_) (⟨yc,yc,ye⟩) (by rw [flS,if_neg h4,if_pos h5])
 refine zr2 fun _ F=>?_
 refine zi F (fun h7=>?_) fun h7=>?_
 ·refine zr2 fun _ F=>?_
  refine J0 (kI F M (hc:=Je2 M.hd) (k:=fun v s8 w q8 M=>zk fun _ F=>?_))
  refine J0 (kBd F J1q (k:=zk fun _ F=>?_))
  refine J0 (kWI F M 1 [_,_,_] [_,_,_] (k:=fun w M=>zk fun _ F=>?_))
  refine zdc F M.at' 0 ?_
  have M:=M.pick [1] [_]
  exact zfI M () (_,_,_) (⟨yc,yc,ye⟩) (by rw [flS,if_neg h4,if_neg h5,if_pos h7])
 refine zr2 fun _ F=>?_
 refine J0 (kI F M (hc:=JeI M.hd) (k:=fun v s9 w q9 M=>zk fun _ F=>?_))
 refine J0 (kBd F J1q (k:=zk fun _ F=>?_))
 refine J0 (kWI F M 1 [_,_,_] [_,_,_] (k:=fun w M=>zk fun _ F=>?_))
 refine zdc F M.at' 0 ?_
 have M:=M.pick [1] [_]
 exact zfI M () (_,_,_) (⟨yc,yc,ye⟩) (by rw [flS,if_neg h4,if_neg h5,if_neg h7])
end
set_option maxRecDepth 100000
set_option maxHeartbeats 1000000
section
set_option maxHeartbeats 8000000
variable {X:Uni} {w:World} {b u:Nat} {v:MV} {D:List CellD} {H:Nat→Prop}
theorem Jek {x:ByteArray} (hA:AT w [mB X b v D u]) (hu:u+8≤68718428160:=by omega) (h_x:okS x:=by exact yi) :
 Calls prog 239 #[pT b,.string x] w (PI X b v D u w (fun (r:Unit) (s:Int × Int)=>.tuple #[iV s.1,iV s.2]) () (mkS D x) (u+8) (fun (_:Unit) (s:Int × Int)=>J1 s.1∧J1 s.2)):=by
 have M:=St.start hA
 refine zE (f:=239) fun _ F=>?_
 refine J0 (kO F M (hc:=J3x M.nil.tb) (k:=fun s1 w q1 M=>zk fun _ F=>?_))
 refine zib F (fun h2=>?_) fun h2=>?_
 ·refine zr2 fun _ F=>?_
  refine zd2 F ?_
  exact zfI M () (_,_) (⟨ya,ya⟩) (by rw [mkS,if_pos h2])
 have hi2:=J1m (nf h2);refine zr2 fun _ F=>?_
 refine J0 (kI F M (hc:=J3u M.hd) (k:=fun v s3 w q3 M=>zk fun _ F=>?_))
 refine zi F (fun h4=>?_) fun h4=>?_
 ·refine zr2 fun _ F=>?_
  refine zd2 F ?_
  exact zfI M () (_,_) (⟨ya,ya⟩) (by rw [mkS,iFb h2,if_pos h4])
 refine zr2 fun _ F=>?_
 refine J0 (kI F M (hc:=J0u M.hd) (k:=fun v s5 w q5 M=>zk fun _ F=>?_))
 refine zi F (fun h6=>?_) fun h6=>?_
 ·refine zr2 fun _ F=>?_
  refine zd2 F ?_
  exact zfI M () (_,_) (⟨ya,ya⟩) (by rw [mkS,iFb h2,if_neg h4,if_pos h6])
 refine zr2 fun _ F=>?_
 refine J0 (kI F M (hc:=J7f M.hd) (k:=fun v s7 w q7 M=>zk fun _ F=>?_))
 refine J0 (kO F M (hc:=J30 M.nil.tb) (k:=fun s8 w q8 M=>zk fun _ F=>?_))
 refine J0 (kI F M (hc:=J0B M.hd) (k:=fun v s9 w q9 M=>zk fun _ F=>?_))
 refine J0 (kO F M (hc:=J4r M.nil.tb) (k:=fun s10 w q10 M=>zk fun _ F=>?_))
 refine J0 (kI F M (hc:=J0B M.hd) (k:=fun v s11 w q11 M=>zk fun _ F=>?_))
 refine zd2 F ?_
 exact zfI M () (_,_) (⟨ya,ya⟩) (by rw [mkS,iFb h2,if_neg h4,if_neg h6])
theorem Jem (hA:AT w [mB X b v D u]) (hu:u+8≤68718428160:=by omega) :
 Calls prog 245 #[pT b] w (PI X b v D u w (fun (r:Unit) (s:Int × Int)=>.tuple #[iV s.1,iV s.2]) () (mpS D) (u+8) (fun (_:Unit) (s:Int × Int)=>J1 s.1∧J1 s.2)):=by
 have M:=St.start hA
 refine zE (f:=245) fun _ F=>?_
 refine J0 (kI F M (hc:=J0u M.hd) (k:=fun v s1 w q1 M=>zk fun _ F=>?_))
 refine zi F (fun h2=>?_) fun h2=>?_
 ·refine zr2 fun _ F=>?_
  refine zd2 F ?_
  exact zfI M () (_,_) (⟨ya,ya⟩) (by rw [mpS,if_pos h2])
 refine zr2 fun _ F=>?_
 refine J0 (kI F M (hc:=J7f M.hd) (k:=fun v s3 w q3 M=>zk fun _ F=>?_))
 refine J0 (kO F M (hc:=J2j M.nil.tb) (k:=fun s4 w q4 M=>zk fun _ F=>?_))
 refine J0 (kI F M (hc:=J0B M.hd) (k:=fun v s5 w q5 M=>zk fun _ F=>?_))
 refine zd2 F ?_
 exact zfI M () (_,_) (⟨ya,ya⟩) (by rw [mpS,if_neg h2])
theorem Jis {id:Int} {n:Int} (hA:AT w [mB X b v D u]) (hu:u+8≤68718428160:=by omega) (h_id:J1 id:=by exact ym) (h_n:J1 n:=by exact ym) :
 Calls prog 250 #[pT b,iV id,iV n] w (PI X b v D u w (fun (r:Int) (s:Unit)=>iV r) (enF D id n).1 (enF D id n).2 (u+8) (fun (r:Int) (_:Unit)=>J1 r)):=by
 have M:=St.start hA
 refine zE (f:=250) fun _ F=>?_
 refine J0 (kI F M (hc:=J5r M.hd) (k:=fun v s1 w q1 M=>zk fun _ F=>?_))
 refine zi F (fun h2=>?_) fun h2=>?_
 ·refine zr2 fun _ F=>?_
  refine zd1 F ?_
  exact zfI M _ () ya (by rw [enF,if_pos h2])
 refine zr2 fun _ F=>?_
 refine J0 (kO F M (hc:=J1T M.nil.tb) (k:=fun s3 w q3 M=>zk fun _ F=>?_))
 refine zib F (fun h4=>?_) fun h4=>?_
 ·refine zr2 fun _ F=>?_
  refine zd1 F ?_
  exact zfI M _ () ya (by rw [enF,if_neg h2,if_pos h4])
 have hi4:=J0K (nf h4);refine zr2 fun _ F=>?_
 refine J0 (kO F M (hc:=J2I M.nil.tb) (k:=fun s5 w q5 M=>zk fun _ F=>?_))
 refine J0 (kI F M (hc:=J0B M.hd) (k:=fun v s6 w q6 M=>zk fun _ F=>?_))
 refine J0 (kO F M (hc:=J2I M.nil.tb) (k:=fun s7 w q7 M=>zk fun _ F=>?_))
 refine J0 (kI F M (hc:=J0B M.hd) (k:=fun v s8 w q8 M=>zk fun _ F=>?_))
 refine zd1 F ?_
 exact zfI M _ () ya (by rw [enF,if_neg h2,iFb h4])
theorem Jex {id:Int} {n:Int} (hA:AT w [mB X b v D u]) (hu:u+2≤68718428160:=by omega) (h_id:J1 id:=by exact ym) (h_n:J1 n:=by exact ym) :
 Calls prog 256 #[pT b,iV id,iV n] w (PI X b v D u w (fun (r:Unit) (s:Int)=>iV s) () (tmS D id n) (u+2) (fun (_:Unit) (s:Int)=>J1 s)):=by
 have M:=St.start hA
 refine zE (f:=256) fun _ F=>?_
 refine J0 (kO F M (hc:=J1T M.nil.tb) (k:=fun s1 w q1 M=>zk fun _ F=>?_))
 refine zib F (fun h2=>?_) fun h2=>?_
 ·refine zr2 fun _ F=>?_
  refine zd1 F ?_
  exact zfI M () _ ya (by rw [tmS,if_pos h2])
 have hi2:=J0K (nf h2);refine zr2 fun _ F=>?_
 refine J0 (kO F M (hc:=J0U M.nil.tb) (k:=fun s3 w q3 M=>zk fun _ F=>?_))
 refine J0 (kI F M (hc:=J0B M.hd) (k:=fun v s4 w q4 M=>zk fun _ F=>?_))
 refine zd1 F ?_
 exact zfI M () _ ya (by rw [tmS,iFb h2])
theorem JhW {n:Int} (hA:AT w [mB X b v D u]) (hu:u+4≤68718428160:=by omega) (h_n:J1 n:=by exact ym) :
 Calls prog 257 #[pT b,iV n] w (PI X b v D u w (fun (r:Unit) (s:Int × Int)=>.tuple #[iV s.1,iV s.2]) () (tkS D n) (u+4) (fun (_:Unit) (s:Int × Int)=>J1 s.1∧J1 s.2)):=by
 have M:=St.start hA
 refine zE (f:=257) fun _ F=>?_
 refine zi F (fun h1=>?_) fun h1=>?_
 ·refine zr2 fun _ F=>?_
  refine zd2 F ?_
  exact zfI M () (_,_) (⟨ya,ya⟩) (by rw [tkS,if_pos h1])
 refine zr2 fun _ F=>?_
 refine J0 (kI F M (hc:=J0u M.hd) (k:=fun v s2 w q2 M=>zk fun _ F=>?_))
 refine zi F (fun h3=>?_) fun h3=>?_
 ·refine zr2 fun _ F=>?_
  refine zd2 F ?_
  exact zfI M () (_,_) (⟨ya,ya⟩) (by rw [tkS,if_neg h1,if_pos h3])
 refine zr2 fun _ F=>?_
 refine J0 (kI F M (hc:=J0B M.hd) (k:=fun v s4 w q4 M=>zk fun _ F=>?_))
 refine J0 (kU F M (hc:=J5t M.hd) (k:=fun v s5 w q5 M=>zk fun _ F=>?_))
 have hq6:=q5.le
 have M:=M.ext (ks:=Jt (JG D (⟨#[99,47,99,108,111,99,107]⟩:ByteArray) (Ja D (⟨#[99,47,99,108,111,99,107]⟩:ByteArray)+n)) (⟨#[116,47]⟩:ByteArray)) J3V
 have F:=F.cut (m':=[(27,_),(7,_),(0,_),(4,_),(5,_),(11,_),(6,_),(17,_),(25,_),(26,_)]) rfl
 refine J1i (γ:=(Nat × Nat) × MV) (slots:=fun g=>[(27,nV g.1.1),(7,nV g.1.2)]) (LL:=fun g=>[owK s5 (Jt (JG D (⟨#[99,47,99,108,111,99,107]⟩:ByteArray) (Ja D (⟨#[99,47,99,108,111,99,107]⟩:ByteArray)+n)) (⟨#[116,47]⟩:ByteArray)),mB (X.ext (Jt (JG D (⟨#[99,47,99,108,111,99,107]⟩:ByteArray) (Ja D (⟨#[99,47,99,108,111,99,107]⟩:ByteArray)+n)) (⟨#[116,47]⟩:ByteArray))) b g.2 (tkA (Ja D (⟨#[99,47,99,108,111,99,107]⟩:ByteArray)+n) ((Jt (JG D (⟨#[99,47,99,108,111,99,107]⟩:ByteArray) (Ja D (⟨#[99,47,99,108,111,99,107]⟩:ByteArray)+n)) (⟨#[116,47]⟩:ByteArray)).take g.1.1) (JG D (⟨#[99,47,99,108,111,99,107]⟩:ByteArray) (Ja D (⟨#[99,47,99,108,111,99,107]⟩:ByteArray)+n))) (u+3)]) (pr:=fun g=>g.1.1≤s5.n∧g.1.2≤g.1.1) (g0:=((0,0),v)) (fun g=>s5.n - g.1.1) F M (⟨Nat.zero_le _,Nat.le_refl _⟩) fun g a w F M hp=>?_
 refine zr2 fun _ F=>?_
 refine zi F (fun h7=>?_) fun h7=>?_
 ·refine zr2 fun _ F=>?_
  refine kEl (s:=s5) F M.at' ET_44 0 g.1.1 zO (kk:=fun x8 _ hx8 ok8=>zk fun _ F=>?_)
  have hz8:=q5.sz _ (Jm hx8)
  have hg8:=J2E (q5.bg _ (Jm hx8))
  refine J0 (kI2 F M (hc:=J4P M.hd2 (p0:=J35 hx8)) (k:=fun v s9 w q9 M=>zk fun _ F=>?_))
  refine zi F (fun h10=>?_) fun h10=>?_
  ·refine zr2 fun _ F=>?_
   exact Jw ((g.1.1+1,g.1.2),v) (by dsimp only;omega) ⟨F.cut rfl,M.cast (by rw [← Jb9 hx8 h10]),by dsimp only;omega⟩
  refine zr2 fun _ F=>?_
  refine J0 (kI2 F M (hc:=J5G (J35 hx8) (.inl rfl) M.hd2) (k:=fun v s11 w q11 M=>zk fun _ F=>?_))
  refine kSl F (2) yBj (k:=fun he12=>zk fun _ F=>?_)
  refine J0 (kO F M (hc:=J5q M.nil.tb) (k:=fun s13 w q13 M=>zk fun _ F=>?_))
  refine J0 (kI2 F M (hc:=JhS M.hd2 (p0:=Jb5 (by assumption))) (k:=fun v s14 w q14 M=>zk fun _ F=>?_))
  exact Jw ((g.1.1+1,g.1.2+1),v) (by dsimp only;omega) ⟨F.cut rfl,M.cast (by rw [← Jb8 hx8 h10]),by dsimp only;omega⟩
 refine zr2 fun _ F=>?_
 have M:=M.unext
 have M:=M.tail
 refine zd2 F ?_
 exact zfI M () (_,_) (⟨ya,ya⟩) (by rw [tkS,if_neg h1,if_neg h3,J5n q5.n h7])
end
end Go.Proofs.YtipdbeklopjbmaaGreatDoor
