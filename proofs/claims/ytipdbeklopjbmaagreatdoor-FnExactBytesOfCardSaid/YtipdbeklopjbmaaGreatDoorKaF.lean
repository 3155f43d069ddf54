/-
  Walks: the program's files.
-/
import Derived.Test.YtipdbeklopjbmaaGreatDoorP15
import Derived.Test.YtipdbeklopjbmaaGreatDoorP16
import Derived.Test.YtipdbeklopjbmaaGreatDoorP09
set_option linter.unusedVariables false
set_option linter.unusedSimpArgs false
namespace Go.Proofs.YtipdbeklopjbmaaGreatDoor
open Go.ChangeShapes Go.WideShapes Go.ChangeAt Go.RowKit
set_option maxRecDepth 100000
set_option maxHeartbeats 1000000
section
set_option maxHeartbeats 8000000
variable {X:Uni} {w:World} {b u:Nat} {v:MV} {D:List CellD} {H:Nat→Prop}
theorem cutFile_k {id:Int} {n:Int} (hA:AT w [mB X b v D u]) (hu:u+300≤68718428160:=by omega) (h_id:i64ok id:=by exact zI6) (h_n:i64ok n:=by exact zI6) :
 Calls Tryz.prog 330 #[.pointer (some ⟨b,0,none⟩),.int .i64 id,.int .i64 n] w (PI X b v D u w (fun (r:Unit) (s:Int)=>.int .i64 s) () (ctF D id n) (u+300) (fun (_:Unit) (s:Int)=>i64ok s)):=by
 have hnI:numI D (kIs id)=((numOf (getKey D (kIs id)):Nat):Int):=rfl
 have M:=St.start hA
 refine zE (f:=330) fun _ F=>?_
 refine l_op (kO F M (hc:=sizeKey_k M.nil.tb) (k:=fun s1 w q1 M=>zk fun _ F=>?_))
 refine l_op (kI F M (hc:=num_k M.hd) (k:=fun v s2 w q2 M=>zk fun _ F=>?_))
 refine l_op (kO F M (hc:=within_k M.nil.tb) (k:=fun s3 w q3 M=>zk fun _ F=>?_))
 refine zib F (fun h4=>?_) fun h4=>?_
 ·refine zr2 fun _ F=>?_
  refine x_done F (results_1 rfl (zta F)) ?_
  exact zfI M () _ zI1 (by rw [ctF,if_pos h4])
 ·have hi4:=inB_bd (nf h4);refine zr2 fun _ F=>?_
  obtain ⟨A,rfl⟩:=Int.eq_ofNat_of_zero_le (show 0≤n by omega)
  refine l_op (kQu F (A) 8 (by decide) (by first|rfl|omega) rfl (by omega) (k:=zk fun _ F=>?_))
  refine l_op (kRe F (A) 8 (by decide) (by first|rfl|omega) rfl (k:=zk fun _ F=>?_))
  refine zi F (fun h5=>?_) fun h5=>?_
  ·refine zr2 fun _ F=>?_
   refine l_op (kI F M (hc:=block_k M.hd) (k:=fun v s6 w q6 M=>zk fun _ F=>?_))
   refine x_rdM [] [] [] [0,1,2,4,5,6,7,8,9,10,3,11,12] M (HdK.none HdS.nil) mixed (by kernel_rfl) fun w M hS=>?_
   refine zr2 fun _ F=>?_
   refine nRe F (A) 8 (by decide) (by first|rfl|omega) rfl (k:=zkN fun _ F=>?_)
   refine nMnN F (k:=zkN fun _ F=>?_)
   refine nSh F (k:=fun he7=>zkN fun _ F=>?_)
   refine n_op rfl rfl (kOm F M (hc:=blockKey_k M.nil.tb) (k:=fun s8 w q8 m M=>kB m (zkN fun _ F=>?_)))
   refine n_op rfl rfl (kOm F M (hc:=hexOf_k M.nil.tb) (k:=fun s9 w q9 m M=>kB m (zkN fun _ F=>?_)))
   refine n_op rfl rfl (kI F M (hc:=lay_k nmp M.hd) (k:=fun v s10 w q10 M=>kF (zkN fun _ F=>?_)))
   rw [show ((A / 8:Nat):Int)+1=(((A+7) / 8+0:Nat):Int) by omega] at F
   have M:=M.toD (ctH_f (by omega))
   have F:=F.cut (m':=[(8,_),(0,_),(1,_),(2,_),(6,_),(7,_),(17,_),(22,_)]) rfl
   refine kLoop (γ:=Nat × MV) (slots:=fun g=>[(8,.int .i64 ((((A+7) / 8+g.1:Nat)):Int))]) (LL:=fun g=>[mB X b g.2 (ctA (ctH D id A) id ((A+7) / 8) g.1) (u+3+g.1)]) (pr:=fun g=>g.1≤((numOf (getKey D (kIs id))+7) / 8 - (A+7) / 8)) (g0:=(0,v)) (fun g=>((numOf (getKey D (kIs id))+7) / 8 - (A+7) / 8) - g.1) F M (Nat.zero_le _) fun g a w F M hp=>?_
   refine zr2 fun _ F=>?_
   refine zi F (fun h12=>?_) fun h12=>?_
   ·refine zr2 fun _ F=>?_
    refine l_op (kO F M (hc:=blockKey_k M.nil.tb) (k:=fun s13 w q13 M=>zk fun _ F=>?_))
    refine l_op (kI F M (hc:=lay_k nmp M.hd) (k:=fun v s14 w q14 M=>zk fun _ F=>?_))
    exact lend (g.1+1,v) (by dsimp only;omega) ⟨F.cut rfl,M,by dsimp only;omega⟩
   ·refine zr2 fun _ F=>?_
    refine l_op (kO F M (hc:=sizeKey_k M.nil.tb) (k:=fun s15 w q15 M=>zk fun _ F=>?_))
    refine l_op (kI F M (hc:=setNum_k M.hd) (k:=fun v s16 w q16 M=>zk fun _ F=>?_))
    refine x_done F (results_1 rfl (zta F)) ?_
    exact zfI M () _ zI1 (by rw [ctF,iFb h4,Int.toNat_natCast,show ((numOf (getKey D (kIs id))+7) / 8 - (A+7) / 8)=g.1 from by omega])
  ·refine zr2 fun _ F=>?_
   rw [show ((A / 8:Nat):Int)=(((A+7) / 8+0:Nat):Int) by omega] at F
   have M:=M.toD (ctH_t (id:=id) (n:=A) (by omega))
   have F:=F.cut (m':=[(8,_),(0,_),(1,_),(2,_),(6,_),(7,_),(17,_),(22,_)]) rfl
   refine kLoop (γ:=Nat × MV) (slots:=fun g1=>[(8,.int .i64 ((((A+7) / 8+g1.1:Nat)):Int))]) (LL:=fun g1=>[mB X b g1.2 (ctA (ctH D id A) id ((A+7) / 8) g1.1) (u+1+g1.1)]) (pr:=fun g1=>g1.1≤((numOf (getKey D (kIs id))+7) / 8 - (A+7) / 8)) (g0:=(0,v)) (fun g1=>((numOf (getKey D (kIs id))+7) / 8 - (A+7) / 8) - g1.1) F M (Nat.zero_le _) fun g1 a w F M hp=>?_
   refine zr2 fun _ F=>?_
   refine zi F (fun h18=>?_) fun h18=>?_
   ·refine zr2 fun _ F=>?_
    refine l_op (kO F M (hc:=blockKey_k M.nil.tb) (k:=fun s19 w q19 M=>zk fun _ F=>?_))
    refine l_op (kI F M (hc:=lay_k nmp M.hd) (k:=fun v s20 w q20 M=>zk fun _ F=>?_))
    exact lend (g1.1+1,v) (by dsimp only;omega) ⟨F.cut rfl,M,by dsimp only;omega⟩
   ·refine zr2 fun _ F=>?_
    refine l_op (kO F M (hc:=sizeKey_k M.nil.tb) (k:=fun s21 w q21 M=>zk fun _ F=>?_))
    refine l_op (kI F M (hc:=setNum_k M.hd) (k:=fun v s22 w q22 M=>zk fun _ F=>?_))
    refine x_done F (results_1 rfl (zta F)) ?_
    exact zfI M () _ zI1 (by rw [ctF,iFb h4,Int.toNat_natCast,show ((numOf (getKey D (kIs id))+7) / 8 - (A+7) / 8)=g1.1 from by omega])
theorem readFile_k {id:Int} {at_:Int} {n:Int} (hA:AT w [mB X b v D u]) (hu:u+200≤68718428160:=by omega) (h_id:i64ok id:=by exact zI6) (h_at_:i64ok at_:=by exact zI6) (h_n:i64ok n:=by exact zI6) :
 Calls Tryz.prog 328 #[.pointer (some ⟨b,0,none⟩),.int .i64 id,.int .i64 at_,.int .i64 n] w (PI X b v D u w (fun (r:Unit) (s:ByteArray)=>.string s) () D (u+200) (fun (_:Unit) (s:ByteArray)=>okS s)):=by
 have hnI:numI D (kIs id)=((numOf (getKey D (kIs id)):Nat):Int):=rfl
 have M:=St.start hA
 refine zE (f:=328) fun _ F=>?_
 refine l_op (kO F M (hc:=sizeKey_k M.nil.tb) (k:=fun s1 w q1 M=>zk fun _ F=>?_))
 refine l_op (kI F M (hc:=num_k M.hd) (k:=fun v s2 w q2 M=>zk fun _ F=>?_))
 refine zG F (fun h3 F=>?_) fun h3 F=>?_
 ·refine zr2 fun _ F=>?_
  refine x_done F (results_1 rfl (zta F)) ?_
  exact zfI M () _ (by first|exact zU|(unfold okS;omega)) (rfl)
 ·refine zr2 fun _ F=>?_
  refine zG F (fun h4 F=>?_) fun h4 F=>?_
  ·refine zr2 fun _ F=>?_
   refine x_done F (results_1 rfl (zta F)) ?_
   exact zfI M () _ (by first|exact zU|(unfold okS;omega)) (rfl)
  ·refine zr2 fun _ F=>?_
   refine zi F (fun h5=>?_) fun h5=>?_
   ·refine zr2 fun _ F=>?_
    refine x_done F (results_1 rfl (zta F)) ?_
    exact zfI M () _ (by first|exact zU|(unfold okS;omega)) (rfl)
   ·refine zr2 fun _ F=>?_
    obtain ⟨A,rfl⟩:=Int.eq_ofNat_of_zero_le (show 0≤at_ by omega)
    refine l_op (kMn F (min n (numI D (kIs id) - (A:Int))) (k:=zk fun _ F=>?_))
    obtain ⟨E,hE⟩:∃ E:Nat,(A:Int)+min n (numI D (kIs id) - (A:Int))=((E:Nat):Int):=⟨((A:Int)+min n (numI D (kIs id) - (A:Int))).toNat,by omega⟩
    rw [hE] at F
    refine l_op (kQu F (A) 8 (by decide) (by first|rfl|omega) rfl (by omega) (k:=zk fun _ F=>?_))
    have F:=F.cut (m':=[(12,_),(11,_),(0,_),(1,_),(2,_),(8,_),(30,_),(10,_)]) rfl
    refine kLoop (γ:=(Nat × ByteArray) × MV) (slots:=fun g=>[(12,.int .i64 (((A / 8+g.1.1:Nat)):Int)),(11,.string g.1.2)]) (LL:=fun g=>[mB X b g.2 (D) (u+1+g.1.1)]) (pr:=fun g=>8 * (A / 8+g.1.1)≤E+7∧g.1.2.size≤8 * g.1.1) (g0:=((0,⟨#[]⟩),v)) (fun g=>E+8 - 8 * (A / 8+g.1.1)) F M (⟨by dsimp only;omega,Nat.zero_le _⟩) fun g a w F M hp=>?_
    refine zr2 fun _ F=>?_
    refine zi F (fun h7=>?_) fun h7=>?_
    ·refine zr2 fun _ F=>?_
     refine l_op (kI F M (hc:=block_k M.hd) (k:=fun v s8 w q8 M=>zk fun _ F=>?_))
     refine l_op (kMx F (max ((A:Int) - ((A / 8+g.1.1:Nat):Int) * 8) 0) (k:=zk fun _ F=>?_))
     obtain ⟨fr,hfr⟩:∃ fr:Nat,max ((A:Int) - ((A / 8+g.1.1:Nat):Int) * 8) 0=((fr:Nat):Int):=⟨_,(Int.toNat_of_nonneg (by omega)).symm⟩
     rw [hfr] at F
     have hbz:=blkT_size D id ((A / 8+g.1.1:Nat):Int)
     refine l_op (kMn3 F (min (min ((E:Int) - ((A / 8+g.1.1:Nat):Int) * 8) 8) (((blkT D id ((A / 8+g.1.1:Nat):Int)).size:Nat):Int)) (kk:=zk fun _ F=>?_))
     obtain ⟨to_,hto⟩:∃ to_:Nat,min (min ((E:Int) - ((A / 8+g.1.1:Nat):Int) * 8) 8) (((blkT D id ((A / 8+g.1.1:Nat):Int)).size:Nat):Int)=((to_:Nat):Int):=⟨_,(Int.toNat_of_nonneg (by omega)).symm⟩
     rw [hto] at F
     refine zi F (fun h9=>?_) fun h9=>?_
     ·refine zr2 fun _ F=>?_
      refine l_op (kSl2 F (fr) (to_) (kk:=fun he10=>zk fun _ F=>?_))
      exact lend ((g.1.1+1,_),v) (by dsimp only;omega) ⟨F.cut rfl,M,by first|(simp only [ByteArray.size_append];omega)|(dsimp only;omega)⟩
     ·refine zr2 fun _ F=>?_
      exact lend ((g.1.1+1,g.1.2),v) (by dsimp only;omega) ⟨F.cut rfl,M,by first|(simp only [ByteArray.size_append];omega)|(dsimp only;omega)⟩
    ·refine zr2 fun _ F=>?_
     refine x_done F (results_1 rfl (zta F)) ?_
     exact zfI M () _ (by first|exact zU|(unfold okS;omega)) (rfl)
theorem writeFile_k {id:Int} {at_:Int} {x:ByteArray} (hA:AT w [mB X b v D u]) (hu:u+300≤68718428160:=by omega) (h_id:i64ok id:=by exact zI6) (h_at_:i64ok at_:=by exact zI6) (h_x:okS x:=by exact zI4) (p0:x.size≤64:=by omega) :
 Calls Tryz.prog 329 #[.pointer (some ⟨b,0,none⟩),.int .i64 id,.int .i64 at_,.string x] w (PI X b v D u w (fun (r:Unit) (s:Int)=>.int .i64 s) () (wfF D id at_ x) (u+300) (fun (_:Unit) (s:Int)=>i64ok s)):=by
 have hnI:numI D (kIs id)=((numOf (getKey D (kIs id)):Nat):Int):=rfl
 have M:=St.start hA
 refine zE (f:=329) fun _ F=>?_
 refine l_op (kO F M (hc:=sizeKey_k M.nil.tb) (k:=fun s1 w q1 M=>zk fun _ F=>?_))
 refine l_op (kI F M (hc:=num_k M.hd) (k:=fun v s2 w q2 M=>zk fun _ F=>?_))
 refine l_op (kO F M (hc:=within_k M.nil.tb) (k:=fun s3 w q3 M=>zk fun _ F=>?_))
 refine zGb F (fun h4 F=>?_) fun h4 F=>?_
 ·refine zr2 fun _ F=>?_
  refine x_done F (results_1 rfl (zta F)) ?_
  exact zfI M () _ zI1 (by rw [wfF,if_pos h4])
 ·have hi4:=inB_bd (nf h4);refine zr2 fun _ F=>?_
  refine zi F (fun h5=>?_) fun h5=>?_
  ·refine zr2 fun _ F=>?_
   refine x_done F (results_1 rfl (zta F)) ?_
   exact zfI M () _ zI1 (by rw [wfF,iFb h4,if_pos h5])
  ·refine zr2 fun _ F=>?_
   obtain ⟨A,rfl⟩:=Int.eq_ofNat_of_zero_le (show 0≤at_ by omega)
   refine zi F (fun h6=>?_) fun h6=>?_
   ·refine zr2 fun _ F=>?_
    refine x_done F (results_1 rfl (zta F)) ?_
    exact zfI M () _ zI1 (by rw [wfF,iFb h4,if_neg h5,if_pos h6])
   ·refine zr2 fun _ F=>?_
    refine l_op (kQu F (A) 8 (by decide) (by first|rfl|omega) rfl (by omega) (k:=zk fun _ F=>?_))
    have F:=F.cut (m':=[(11,_),(0,_),(1,_),(2,_),(3,_),(8,_),(9,_),(26,_),(10,_),(32,_)]) rfl
    refine kLoop (γ:=Nat × MV) (slots:=fun g=>[(11,.int .i64 (((A / 8+g.1:Nat)):Int))]) (LL:=fun g=>[mB X b g.2 (wrA D id A x g.1) (u+1+2 * g.1)]) (pr:=fun g=>g.1≤((A+x.size+7) / 8 - A / 8)) (g0:=(0,v)) (fun g=>((A+x.size+7) / 8 - A / 8) - g.1) F M (Nat.zero_le _) fun g a w F M hp=>?_
    refine zr2 fun _ F=>?_
    refine zi F (fun h8=>?_) fun h8=>?_
    ·refine zr2 fun _ F=>?_
     refine l_op (kI F M (hc:=block_k M.hd) (k:=fun v s9 w q9 M=>zk fun _ F=>?_))
     refine l_op (kSB F M.at' (k:=fun b10 N10 C10 w l10 m _ F=>?_))
     have M:=M.then m
     refine zr2 fun _ F=>?_
     refine l_op (kMx F ((((max A ((A / 8+g.1) * 8)):Nat):Int)) (k:=zk fun _ F=>?_))
     have F:=F.cut (m':=[(14,_),(12,_),(11,_),(0,_),(1,_),(2,_),(3,_),(8,_),(9,_),(26,_),(10,_),(32,_),(35,_),(36,_),(37,_),(38,_),(41,_),(42,_),(43,_),(44,_),(45,_),(46,_),(47,_),(13,_),(48,_),(49,_),(50,_)]) rfl
     refine kLoop (γ:=(Nat × BL) × MV) (slots:=fun g1=>[(14,.int .i64 ((((max A ((A / 8+g.1) * 8))+g1.1.1:Nat)):Int)),(12,g1.1.2.val)]) (LL:=fun g1=>[owBX g1.1.2,mB X b g1.2 (wrA D id A x g.1) (u+1+2 * g.1+1)]) (pr:=fun g1=>g1.1.1≤(min (A+x.size) (((A / 8+g.1) * 8)+8)) - (max A ((A / 8+g.1) * 8))∧g1.1.2.n=g1.1.2.l.length∧g1.1.2.l=wrB x A ((A / 8+g.1) * 8) (max A ((A / 8+g.1) * 8)) (bytesN (blkT (wrA D id A x g.1) id ((A / 8+g.1:Nat):Int))) g1.1.1) (g0:=((0,⟨_,_,_,_⟩),v)) (fun g1=>(min (A+x.size) (((A / 8+g.1) * 8)+8)) - (max A ((A / 8+g.1) * 8)) - g1.1.1) F M (⟨Nat.zero_le _,by show _=(bytesN _).length;rw [bytesN_length];assumption,rfl⟩) fun g1 a w F M hp=>?_
     have hp1:=hp
     refine zr2 fun _ F=>?_
     refine l_op (kMn F ((((min (A+x.size) (((A / 8+g.1) * 8)+8)):Nat):Int)) (k:=zk fun _ F=>?_))
     refine zi F (fun h12=>?_) fun h12=>?_
     ·refine zr2 fun _ F=>?_
      have F:=F.cut (m':=[(12,_),(14,_),(11,_),(0,_),(1,_),(2,_),(3,_),(8,_),(9,_),(26,_),(10,_),(32,_),(35,_),(36,_),(37,_),(38,_),(41,_),(42,_),(43,_),(44,_),(45,_),(46,_),(47,_),(13,_),(48,_),(49,_),(50,_),(51,_),(52,_),(53,_),(54,_),(55,_),(56,_)]) rfl
      refine kLoop (γ:=(BL × Nat) × MV) (slots:=fun g2=>[(12,g2.1.1.val)]) (LL:=fun g2=>[owBX g2.1.1,mB X b g2.2 (wrA D id A x g.1) (u+1+2 * g.1+1)]) (pr:=fun g2=>g2.1.1.n=g2.1.1.l.length∧g2.1.1.l=g1.1.2.l++List.replicate g2.1.2 0∧(g2.1.2=0∨g1.1.2.l.length+g2.1.2≤((max A ((A / 8+g.1) * 8))+g1.1.1 - ((A / 8+g.1) * 8))+1)) (g0:=((g1.1.2,0),g1.2)) (fun g2=>((max A ((A / 8+g.1) * 8))+g1.1.1 - ((A / 8+g.1) * 8))+1 - g2.1.1.l.length) F M (⟨hp1.2.1,by simp,.inl rfl⟩) fun g2 a w F M hp=>?_
      have hpl:=congrArg List.length hp.2.1
      rw [List.length_append,List.length_replicate] at hpl
      refine zr2 fun _ F=>?_
      refine zi F (fun h14=>?_) fun h14=>?_
      ·refine zr2 fun _ F=>?_
       refine kPush F M.at' 0 (0) ET_62 (by first|decide|exact byteAt_lt _ _) (k:=fun B15 N15 C15 _ w l15 m _ F=>?_)
       have M:=M.then m
       refine zr2 fun _ F=>?_
       exact lend ((⟨_,_,_,_⟩,g2.1.2+1),g2.2) (by simp only [List.length_append,List.length_singleton];omega) ⟨F.cut rfl,M,⟨by simp only [List.length_append,List.length_singleton];assumption,pad_step hp.2.1,.inr (by dsimp only;omega)⟩⟩
      ·refine zr2 fun _ F=>?_
       refine l_op (kIx2 F ((max A ((A / 8+g.1) * 8))+g1.1.1 - A) (k:=zk fun _ F=>?_))
       refine kPut F M.at' 0 ((max A ((A / 8+g.1) * 8))+g1.1.1 - ((A / 8+g.1) * 8)) (byteAt x ((max A ((A / 8+g.1) * 8))+g1.1.1 - A)) ET_62 (by first|decide|exact byteAt_lt _ _) (k:=fun _ w m _ F=>?_)
       have M:=M.then m
       refine zr2 fun _ F=>?_
       exact lend ((g1.1.1+1,⟨_,_,_,g2.1.1.l.set ((max A ((A / 8+g.1) * 8))+g1.1.1 - ((A / 8+g.1) * 8)) (byteAt x ((max A ((A / 8+g.1) * 8))+g1.1.1 - A))⟩),g2.2) (by dsimp only;omega) ⟨F.cut rfl,M,⟨by dsimp only;omega,by rw [List.length_set];exact hp.1,wr_in hp1.2.2 hp.2.1 hp.2.2 (by omega) rfl rfl⟩⟩
     ·refine zr2 fun _ F=>?_
      have hbs:(bstr g1.1.2.l).size≤20000:=by rw [bstr_size,hp.2.2];have h1:=wrB_len x A ((A / 8+g.1) * 8) (max A ((A / 8+g.1) * 8)) (bytesN (blkT (wrA D id A x g.1) id ((A / 8+g.1:Nat):Int))) (by omega) g1.1.1 (by omega);rw [bytesN_length] at h1;have h2:=blkT_size (wrA D id A x g.1) id ((A / 8+g.1:Nat):Int);omega
      refine x_roM [] [] [] (.b2 [0,1,2,4] 3 (.l [5,6,7]) 5 (.l [3,6,7])) M (HdK.none HdS.nil) mixed (by kernel_rfl) fun w M hS=>?_
      refine en2 ?_
      refine zr2 fun _ F=>?_
      refine n_b2 ?_ ?_
      ·skip
       refine n_st rfl (kOm F M (hc:=blockKey_k M.nil.tb) (k:=fun s17 w q17 m M=>oB m (oL (zkN fun _ F=>?_))))
       refine n_op rfl rfl (kBS F (M.at'.rdX 0 rfl).1 (k:=kE0 (zkN fun _ F=>?_)))
       refine n_op rfl rfl (kOm F M (hc:=hexOf_k M.nil.tb) (k:=fun s19 w q19 m M=>kB m (zkN fun _ F=>?_)))
       refine n_op rfl rfl (kI2 F M (hc:=lay_k nmp M.hd2) (k:=fun v s20 w q20 M=>kF (zkN fun _ F=>?_)))
       have M:=M.pick [1] [_]
       have M:=M.toD (show _=wrA D id A x (g.1+1) from by show putKey _ _ _=wrP _ id A x _;unfold wrP;rw [hp.2.2,show g1.1.1=(min (A+x.size) (((A / 8+g.1) * 8)+8)) - (max A ((A / 8+g.1) * 8)) by omega])
       exact lend (g.1+1,v) (by dsimp only;omega) ⟨F.cut rfl,M,by dsimp only;omega⟩
      ·skip
       refine n_st rfl (kBS F (M.at'.rdX 0 rfl).1 (k:=kE0 (oL (zkN fun _ F=>?_))))
       refine n_op rfl rfl (kOm F M (hc:=blockKey_k M.nil.tb) (k:=fun s22 w q22 m M=>kB m (zkN fun _ F=>?_)))
       refine n_op rfl rfl (kOm F M (hc:=hexOf_k M.nil.tb) (k:=fun s23 w q23 m M=>kB m (zkN fun _ F=>?_)))
       refine n_op rfl rfl (kI2 F M (hc:=lay_k nmp M.hd2) (k:=fun v s24 w q24 M=>kF (zkN fun _ F=>?_)))
       have M:=M.pick [1] [_]
       have M:=M.toD (show _=wrA D id A x (g.1+1) from by show putKey _ _ _=wrP _ id A x _;unfold wrP;rw [hp.2.2,show g1.1.1=(min (A+x.size) (((A / 8+g.1) * 8)+8)) - (max A ((A / 8+g.1) * 8)) by omega])
       exact lend (g.1+1,v) (by dsimp only;omega) ⟨F.cut rfl,M,by dsimp only;omega⟩
    ·refine zr2 fun _ F=>?_
     refine zi F (fun h25=>?_) fun h25=>?_
     ·refine zr2 fun _ F=>?_
      refine l_op (kO F M (hc:=sizeKey_k M.nil.tb) (k:=fun s26 w q26 M=>zk fun _ F=>?_))
      refine l_op (kI F M (hc:=setNum_k M.hd) (k:=fun v s27 w q27 M=>zk fun _ F=>?_))
      refine x_done F (results_1 rfl (zta F)) ?_
      exact zfI M () _ zI1 (by rw [wfF,iFb h4,if_neg h5,if_neg h6,if_pos (show numI D (kIs id) < (A:Int)+((x.size:Nat):Int) from by omega),Int.toNat_natCast,show nBl A x.size=g.1 from by unfold nBl;omega])
     ·refine zr2 fun _ F=>?_
      refine x_done F (results_1 rfl (zta F)) ?_
      exact zfI M () _ zI1 (by rw [wfF,iFb h4,if_neg h5,if_neg h6,if_neg (show ¬ numI D (kIs id) < (A:Int)+((x.size:Nat):Int) from by omega),Int.toNat_natCast,show nBl A x.size=g.1 from by unfold nBl;omega])
end
end Go.Proofs.YtipdbeklopjbmaaGreatDoor
