/-
  Texts laid together: GenT, Adapt, GenA, GenB, GenC.
-/
import Derived.Test.YtipdbeklopjbmaaGreatDoorP05
set_option linter.unusedVariables false
set_option linter.unusedSimpArgs false
namespace Go.Proofs.YtipdbeklopjbmaaGreatDoor
open Go.ChangeShapes Go.WideShapes Go.ChangeAt Go.RowKit Go.Proofs.Tryz
section
variable {w:World} {H:Nat→Prop}
set_option maxRecDepth 100000
set_option maxHeartbeats 1000000
theorem J4X {code:List Nat} {Q1:Option Addr} {Q0 Q2:Nat} (Q3:RdA 1 J7 okB H w (.slice Q1 Q0 Q2) code) (p0:Q0≤1048576) :
 Calls prog 73 #[.slice Q1 Q0 Q2] w fun e w'=>∃ (h2:Int)(r0_b:Nat),e=.returned (pT r0_b)∧Mv [] w [bC r0_b Q1 Q0 Q2 0 h2] w'∧J1 h2:=by
 have V_v_code:=RdA.start Q3 zN
 obtain ⟨Q5,Q4,Q6,Q7⟩:=RdA.inv Q3
 refine ze fun _ F=>?_
 refine zq F ((94701+Q0:Nat):Int) fun _ F=>?_
 refine JH (At.nil w) (fun lZ (k:Nat) aZ wZ=>∃ (hh:Nat),Fr 32 [(4,nV k),(3,nV hh),(0,.slice Q1 Q0 Q2)] aZ∧Mv lZ w [] wZ∧(k≤Q0)∧(hh≤1073741823)) (fun (k:Nat)=>Q0 - k) (0) ?_ ?_
 ·exact ⟨94701+Q0,F.cut rfl,(Mv.refl (At.nil w)),zO,zO⟩
 rintro k a7 w7 ⟨hh,F,S7,hk_0,hk_1⟩
 refine zr fun _ F=>?_
 refine zc F (k < Q0) fun _ F=>?_
 rcases Decidable.em (k < Q0) with h13|h13
 ·rw [decide_eq_true h13] at F
  refine zr fun _ F=>?_
  refine zc F (k < 4000) fun _ F=>?_
  refine zi F (fun h17=>?_) fun h17=>?_
  ·refine zr fun _ F=>?_
   refine zq F ((hh * 131:Nat):Int) fun _ F=>?_
   obtain ⟨B22,O22,x1,ad22,hx1,okx1,ln22,cl22⟩:=RdA.at (RdA.mv (Nat.succ_pos _) V_v_code S7) k yq
   clear ln22
   refine zv F (JB (i:=k) ET_62 rfl ((F.ev 20 rfl).trans (by rw [ad22])) (F.g rfl) zO yq) fun _ F=>?_
   refine zv (v:=.int .u8 ((x1:Nat):Int)) F (JD (cs:=[.int .u8 ((x1:Nat):Int)]) J5M rfl (F.g rfl) rfl (fun _=>rfl) (JN (f:=0) cl22 [.int .u8 ((x1:Nat):Int)] rfl)) fun _ F=>?_
   have ob25:x1 < 256:=okx1
   refine zv F (J1a underlying3 underlying5 rfl (F.g rfl) ⟨zO,zO⟩) fun _ F=>?_
   refine zq F (((hh * 131)+x1:Nat):Int) fun _ F=>?_
   refine zq F ((((hh * 131)+x1)+7:Nat):Int) fun _ F=>?_
   have an29:=J2J ((((hh * 131)+x1)+7:Nat):Int) 1073741823 (by decide)
   refine zv F (J7q (c:=1073741823) rfl (by decide) rfl (F.g rfl) rfl) fun _ F=>?_
   refine zq F ((k+1:Nat):Int) fun _ F=>?_
   exact ⟨k+1,zD,J1L ((((hh * 131)+x1)+7:Nat):Int) 1073741823,F.cut rfl,(S7.pick [] rfl),zO,zO⟩
  refine zr fun _ F=>?_
  refine zv (v:=.agg #[.slice Q1 Q0 Q2,iV 0,nV hh]) F (J06 JaI rfl (lc (pr2 (F.g rfl)) (lc (pr2 (F.g rfl)) rfl)) rfl) fun _ F=>?_
  refine zbx F S7.at' fun b38 w38 S38 _ F=>?_
  refine zd1 F ?_
  exact ⟨((hh:Nat):Int),b38,rfl,(Mv.cast (Mv.pick (S7.trans S38) [0] rfl) rfl),yk⟩
 rw [decide_eq_false h13] at F
 refine zr fun _ F=>?_
 refine zv (v:=.agg #[.slice Q1 Q0 Q2,iV 0,nV hh]) F (J06 JaI rfl (lc (pr2 (F.g rfl)) (lc (pr2 (F.g rfl)) rfl)) rfl) fun _ F=>?_
 refine zbx F S7.at' fun b47 w47 S47 _ F=>?_
 refine zd1 F ?_
 exact ⟨((hh:Nat):Int),b47,rfl,(Mv.cast (Mv.pick (S7.trans S47) [0] rfl) rfl),yk⟩
theorem J3m {c:CurD} {Q1:Option Addr} {Q0 Q2:Nat} {c_b:Nat} (Q3:RdA 1 J7 okB H w (.slice Q1 Q0 Q2) c.code) (Q5:J1 (c.pos:Int)) (Q4:J1 c.h) (p0:c.pos≤Q0) (hA:At w [bC c_b Q1 Q0 Q2 c.pos c.h]) (hD:∀ b,H b→¬ fps [bC c_b Q1 Q0 Q2 c.pos c.h] b) :
 Calls prog 124 #[pT c_b] w fun e w'=>∃ (i2:Nat)(h2:Int)(r:Nat),e=.returned (nV r)∧Mv [bC c_b Q1 Q0 Q2 c.pos c.h] w [bC c_b Q1 Q0 Q2 i2 h2] w'∧i2≤Q0∧J1 h2∧r < 256:=by
 have V_v_c_code:=RdA.start Q3 hD
 obtain ⟨Q7,Q6,Q8,Q9⟩:=RdA.inv Q3
 refine ze fun _ F=>?_
 refine zv F (J0s rfl (F.g rfl)) fun _ F=>?_
 refine zl F hA 0 fun _ F=>?_
 refine zv F (JhH rfl (F.g rfl) rfl) fun _ F=>?_
 refine zv F (JhC rfl (F.g rfl) rfl) fun _ F=>?_
 refine zv F (J0s rfl (F.g rfl)) fun _ F=>?_
 refine zst F hA 0 fun w11 S11 _ F=>?_
 refine J1K [] [0,1,2,3,4,5,6,7,8,9,10,11,12] S11.at' [0] zK fun w13 S13 hS=>?_
 refine zg fun _ F=>?_
 refine Jr F rfl rfl (fun _=>(J0s rfl (F.g rfl))) fun _ F=>?_
 refine zg fun _ F=>?_
 refine Jr F rfl rfl (fun _=>(Jbs (c:=33) rfl (by decide) rfl (F.g rfl) rfl)) fun _ F=>?_
 refine zg fun _ F=>?_
 refine Jr F rfl rfl (fun _=>(J0s rfl (F.g rfl))) fun _ F=>?_
 refine zg fun _ F=>?_
 refine Jr F rfl rfl (fun _=>(Jbs (c:=45) rfl (by decide) rfl (F.g rfl) rfl)) fun _ F=>?_
 refine Jr F rfl rfl (fun _=>(JiE rfl (F.g rfl) (F.g rfl))) fun _ F=>?_
 have an25:=J2J (J20 (J0M (w64 ((w64 (c.h * 6364136223846793005))+1442695040888963407)) 33) (J0M (w64 ((w64 (c.h * 6364136223846793005))+1442695040888963407)) 45)) 255 (by decide)
 refine Jr F rfl rfl (fun _=>(J7q (c:=255) rfl (by decide) rfl (F.g rfl) rfl)) fun _ F=>?_
 have an28:=J2J (J20 (J0M (w64 ((w64 (c.h * 6364136223846793005))+1442695040888963407)) 33) (J0M (w64 ((w64 (c.h * 6364136223846793005))+1442695040888963407)) 45)) 255 (by decide)
 have an29:=J2J (J20 (J0M (w64 ((w64 (c.h * 6364136223846793005))+1442695040888963407)) 33) (J0M (w64 ((w64 (c.h * 6364136223846793005))+1442695040888963407)) 45)) 255 (by decide)
 refine zg fun _ F=>?_
 refine J1K [] [0,1,2,3,4,5,6,7,8,9] S13.at' [0] zK fun w31 S31 hS=>?_
 refine zg fun _ F=>?_
 refine Jr F rfl rfl (fun _=>(J0s rfl (F.g rfl))) fun _ F=>?_
 refine zg fun _ F=>?_
 refine Jr F rfl rfl (fun _=>(J0s rfl (F.g rfl))) fun _ F=>?_
 refine zg fun _ F=>?_
 refine Jr F rfl rfl (fun _=>(J4f underlying62 rfl (F.g rfl))) fun _ F=>?_
 refine Jr F rfl rfl (fun _=>(J3H (b:=decide (c.pos < Q0)) (.inr (.inr (.inl rfl))) rfl (F.g rfl) (F.g rfl) (J1V zO))) fun _ F=>?_
 refine zg fun _ F=>?_
 refine zi F (fun h42=>?_) fun h42=>?_
 ·refine zr fun _ F=>?_
  obtain ⟨x1,hx1,okx1⟩:=RdA.elem (RdA.mv (Nat.succ_pos _) V_v_c_code (tc3 S11 S13 S31)) c.pos yq
  refine J1K [] [0,1,2,3,4,5,6,7,8,9,10,11,12,13,14] S31.at' [0] zK fun w44 S44 hS=>?_
  refine zg fun _ F=>?_
  refine Jr F rfl rfl (fun _=>(J0s rfl (F.g rfl))) fun _ F=>?_
  refine zg fun _ F=>?_
  refine Jr F rfl rfl (fun _=>(J0s rfl (F.g rfl))) fun _ F=>?_
  obtain ⟨B54,O54,y54,ad54,hy54,oky54,ln54,cl54⟩:=RdA.atK (Nat.succ_pos _) (RdA.mv (Nat.succ_pos _) V_v_c_code (tc4 S11 S13 S31 S44)) c.pos yq
  clear ln54
  obtain rfl:=Option.some.inj (hx1.symm.trans hy54)
  clear hy54 oky54
  refine zg fun _ F=>?_
  refine Jr F rfl rfl (fun _=>(JB (i:=c.pos) ET_62 rfl ((F.ev 39 rfl).trans (by rw [ad54])) (F.g rfl) zO yq)) fun _ F=>?_
  refine J3e (v:=.int .u8 ((x1:Nat):Int)) F hS rfl rfl (fun _ hz=>(JD (cs:=[.int .u8 ((x1:Nat):Int)]) J5M rfl (F.g rfl) rfl (fun _=>rfl) (JN (f:=0) (cl54 _ hz.kp) [.int .u8 ((x1:Nat):Int)] rfl))) fun _ F=>?_
  have ob57:x1 < 256:=okx1
  refine J2 rfl rfl (Jf F rfl rfl (J1a underlying3 underlying5 rfl (F.g rfl) ⟨zO,zO⟩) rfl fun _ F=>?_)
  refine nS0 ?_
  refine Jr F rfl rfl (fun _=>(J4e (z:=(((J1L (J20 (J0M (w64 ((w64 (c.h * 6364136223846793005))+1442695040888963407)) 33) (J0M (w64 ((w64 (c.h * 6364136223846793005))+1442695040888963407)) 45)) 255)+x1:Nat):Int)) rfl (F.g rfl) (F.g rfl) yBp ⟨yBb,yBb⟩)) fun _ F=>?_
  have an60:=J2J (((J1L (J20 (J0M (w64 ((w64 (c.h * 6364136223846793005))+1442695040888963407)) 33) (J0M (w64 ((w64 (c.h * 6364136223846793005))+1442695040888963407)) 45)) 255)+x1:Nat):Int) 255 (by decide)
  refine Jr F rfl rfl (fun _=>(J7q (c:=255) rfl (by decide) rfl (F.g rfl) rfl)) fun _ F=>?_
  have an63:=J2J (((J1L (J20 (J0M (w64 ((w64 (c.h * 6364136223846793005))+1442695040888963407)) 33) (J0M (w64 ((w64 (c.h * 6364136223846793005))+1442695040888963407)) 45)) 255)+x1:Nat):Int) 255 (by decide)
  have an64:=J2J (((J1L (J20 (J0M (w64 ((w64 (c.h * 6364136223846793005))+1442695040888963407)) 33) (J0M (w64 ((w64 (c.h * 6364136223846793005))+1442695040888963407)) 45)) 255)+x1:Nat):Int) 255 (by decide)
  have an65:=J2J (J20 (J0M (w64 ((w64 (c.h * 6364136223846793005))+1442695040888963407)) 33) (J0M (w64 ((w64 (c.h * 6364136223846793005))+1442695040888963407)) 45)) 255 (by decide)
  refine zg fun _ F=>?_
  refine zv F (J0s rfl (F.g rfl)) fun _ F=>?_
  refine zl F S44.at' 0 fun _ F=>?_
  refine zq F ((c.pos+1:Nat):Int) fun _ F=>?_
  refine zv F (J0s rfl (F.g rfl)) fun _ F=>?_
  refine zst F S44.at' 0 fun w74 S74 _ F=>?_
  have T75:Mv _ _ [bx _ [_,_,_] _] _:=S74
  refine zd1 F ?_
  exact ⟨c.pos+1,(w64 ((w64 (c.h * 6364136223846793005))+1442695040888963407)),J1L (((J1L (J20 (J0M (w64 ((w64 (c.h * 6364136223846793005))+1442695040888963407)) 33) (J0M (w64 ((w64 (c.h * 6364136223846793005))+1442695040888963407)) 45)) 255)+x1:Nat):Int) 255,rfl,(Mv.pick (tc5 S11 S13 S31 S44 T75) [0] rfl),yk,yk,yk⟩
 refine zr fun _ F=>?_
 refine zd1 F ?_
 exact ⟨c.pos,(w64 ((w64 (c.h * 6364136223846793005))+1442695040888963407)),J1L (J20 (J0M (w64 ((w64 (c.h * 6364136223846793005))+1442695040888963407)) 33) (J0M (w64 ((w64 (c.h * 6364136223846793005))+1442695040888963407)) 45)) 255,rfl,(Mv.pick (tc3 S11 S13 S31) [0] rfl),yk,yk,yk⟩
theorem JY {c:CurD} {Q1:Option Addr} {Q0 Q2:Nat} {c_b:Nat} {n:Int} (Q3:RdA 1 J7 okB H w (.slice Q1 Q0 Q2) c.code) (Q5:J1 (c.pos:Int)) (Q4:J1 c.h) (h_n:J1 n) (p0:c.pos≤Q0) (hA:At w [bC c_b Q1 Q0 Q2 c.pos c.h]) (hD:∀ b,H b→¬ fps [bC c_b Q1 Q0 Q2 c.pos c.h] b) :
 Calls prog 76 #[pT c_b,iV n] w fun e w'=>∃ (i2:Nat)(h2:Int)(r:Nat),e=.returned (nV r)∧Mv [bC c_b Q1 Q0 Q2 c.pos c.h] w [bC c_b Q1 Q0 Q2 i2 h2] w'∧i2≤Q0∧J1 h2∧((0:Int) < n→(r:Int) < n)∧(n≤(0:Int)→r=0):=by
 have V_v_c_code:=RdA.start Q3 hD
 obtain ⟨Q7,Q6,Q8,Q9⟩:=RdA.inv Q3
 refine ze fun _ F=>?_
 refine zc F (n≤0) fun _ F=>?_
 refine zi F (fun h4=>?_) fun h4=>?_
 ·refine zr fun _ F=>?_
  refine zd1 F ?_
  exact ⟨c.pos,c.h,0,rfl,(Mv.pick (Mv.refl hA) [0] rfl),yk,yk,zO,zO⟩
 refine zr fun _ F=>?_
 refine zc F (n≤256) fun _ F=>?_
 refine zi F (fun h8=>?_) fun h8=>?_
 ·refine zr fun _ F=>?_
  refine zz F (J3m (c:=c) V_v_c_code (by unfold J1;(try dsimp only);omega) yd yb (At.pick (is:=[0]) hA rfl) (J9 (is:=[0]))) ?_
  rintro _ w10 ⟨i2_10,h2_10,r_10,rfl,m10,q10_0,q10_1,q10_2⟩
  refine zt fun _ F=>?_
  have S10:Mv _ _ [bx _ [_,_,_] _] _:=At.frame hA [0] rfl m10
  have rm13:=Nat.mod_lt r_10 (show 0 < (n).toNat by omega)
  refine zv F (J7v zO rfl (F.g rfl) (F.g rfl)) fun _ F=>?_
  refine zd1 F ?_
  exact ⟨i2_10,h2_10,r_10 % (n).toNat,rfl,(Mv.pick S10 [0] rfl),yk,yk,zO,zO⟩
 refine zr fun _ F=>?_
 refine zz F (J3m (c:=c) V_v_c_code (by unfold J1;(try dsimp only);omega) yd yb (At.pick (is:=[0]) hA rfl) (J9 (is:=[0]))) ?_
 rintro _ w17 ⟨i2_17,h2_17,r_17,rfl,m17,q17_0,q17_1,q17_2⟩
 refine zt fun _ F=>?_
 have S17:Mv _ _ [bx _ [_,_,_] _] _:=At.frame hA [0] rfl m17
 refine zz F (J3m (c:=(⟨c.code,i2_17,h2_17⟩:CurD)) (RdA.mv (Nat.succ_pos _) V_v_c_code S17) (by unfold J1;(try dsimp only);omega) yd yb (At.pick (is:=[0]) S17.at' rfl) (J9 (is:=[0]))) ?_
 rintro _ w21 ⟨i2_21,h2_21,r_21,rfl,m21,q21_0,q21_1,q21_2⟩
 refine zt fun _ F=>?_
 have S21:Mv _ _ [bx _ [_,_,_] _] _:=At.frame S17.at' [0] rfl m21
 refine zz F (J3m (c:=(⟨c.code,i2_21,h2_21⟩:CurD)) (RdA.mv (Nat.succ_pos _) V_v_c_code (S17.trans S21)) (by unfold J1;(try dsimp only);omega) yd yb (At.pick (is:=[0]) S21.at' rfl) (J9 (is:=[0]))) ?_
 rintro _ w25 ⟨i2_25,h2_25,r_25,rfl,m25,q25_0,q25_1,q25_2⟩
 refine zt fun _ F=>?_
 have S25:Mv _ _ [bx _ [_,_,_] _] _:=At.frame S21.at' [0] rfl m25
 refine zz F (J3m (c:=(⟨c.code,i2_25,h2_25⟩:CurD)) (RdA.mv (Nat.succ_pos _) V_v_c_code (tc3 S17 S21 S25)) (by unfold J1;(try dsimp only);omega) yd yb (At.pick (is:=[0]) S25.at' rfl) (J9 (is:=[0]))) ?_
 rintro _ w29 ⟨i2_29,h2_29,r_29,rfl,m29,q29_0,q29_1,q29_2⟩
 refine zt fun _ F=>?_
 have S29:Mv _ _ [bx _ [_,_,_] _] _:=At.frame S25.at' [0] rfl m29
 refine zq F ((r_17 * 16777216:Nat):Int) fun _ F=>?_
 refine zq F ((r_21 * 65536:Nat):Int) fun _ F=>?_
 refine zq F (((r_17 * 16777216)+(r_21 * 65536):Nat):Int) fun _ F=>?_
 refine zq F ((r_25 * 256:Nat):Int) fun _ F=>?_
 refine zq F ((((r_17 * 16777216)+(r_21 * 65536))+(r_25 * 256):Nat):Int) fun _ F=>?_
 refine zq F (((((r_17 * 16777216)+(r_21 * 65536))+(r_25 * 256))+r_29:Nat):Int) fun _ F=>?_
 have rm43:=Nat.mod_lt ((((r_17 * 16777216)+(r_21 * 65536))+(r_25 * 256))+r_29) (show 0 < (n).toNat by omega)
 refine zv F (J7v zO rfl (F.g rfl) (F.g rfl)) fun _ F=>?_
 refine zd1 F ?_
 exact ⟨i2_29,h2_29,((((r_17 * 16777216)+(r_21 * 65536))+(r_25 * 256))+r_29) % (n).toNat,rfl,(Mv.pick (tc4 S17 S21 S25 S29) [0] rfl),yk,yk,zO,zO⟩
theorem J1y {c:CurD} {Q1:Option Addr} {Q0 Q2:Nat} {c_b:Nat} {n:Int} (Q3:RdA 1 J7 okB H w (.slice Q1 Q0 Q2) c.code) (Q5:J1 (c.pos:Int)) (Q4:J1 c.h) (h_n:J1 n) (p0:c.pos≤Q0) (hA:At w [bC c_b Q1 Q0 Q2 c.pos c.h]) (hD:∀ b,H b→¬ fps [bC c_b Q1 Q0 Q2 c.pos c.h] b) :
 Calls prog 75 #[pT c_b,iV n] w fun e w'=>∃ (i2:Nat)(h2:Int)(r:Bool),e=.returned (.bool r)∧Mv [bC c_b Q1 Q0 Q2 c.pos c.h] w [bC c_b Q1 Q0 Q2 i2 h2] w'∧i2≤Q0∧J1 h2:=by
 have V_v_c_code:=RdA.start Q3 hD
 obtain ⟨Q7,Q6,Q8,Q9⟩:=RdA.inv Q3
 refine ze fun _ F=>?_
 refine zz F (JY (c:=c) (n:=n) V_v_c_code (by unfold J1;(try dsimp only);omega) yd h_n yb (At.pick (is:=[0]) hA rfl) (J9 (is:=[0]))) ?_
 rintro _ w4 ⟨i2_4,h2_4,r_4,rfl,m4,q4_0,q4_1,q4_2,q4_3⟩
 refine zt fun _ F=>?_
 have S4:Mv _ _ [bx _ [_,_,_] _] _:=At.frame hA [0] rfl m4
 refine zc F (r_4=0) fun _ F=>?_
 refine zd1 F ?_
 exact ⟨i2_4,h2_4,(decide (r_4=0)),rfl,(Mv.pick S4 [0] rfl),yk,yk⟩
theorem J1z {c:CurD} {Q1:Option Addr} {Q0 Q2:Nat} {c_b:Nat} {list:List ByteArray} {Q4:Option Addr} {Q3 Q5:Nat} (Q6:RdA 1 J7 okB H w (.slice Q1 Q0 Q2) c.code) (Q9:J1 (c.pos:Int)) (Q8:J1 c.h) (Q7:Rd 1 J3 okS H w (.slice Q4 Q3 Q5) list) (p0:c.pos≤Q0) (p1:0 < Q3) (hA:At w [bC c_b Q1 Q0 Q2 c.pos c.h]) (hD:∀ b,H b→¬ fps [bC c_b Q1 Q0 Q2 c.pos c.h] b) :
 Calls prog 166 #[pT c_b,.slice Q4 Q3 Q5] w fun e w'=>∃ (i2:Nat)(h2:Int)(r:ByteArray),e=.returned (.string r)∧Mv [bC c_b Q1 Q0 Q2 c.pos c.h] w [bC c_b Q1 Q0 Q2 i2 h2] w'∧okS r∧i2≤Q0∧J1 h2∧r ∈ list:=by
 have V_v_c_code:=RdA.start Q6 hD
 obtain ⟨Q12,Q10,Q14,Q16⟩:=RdA.inv Q6
 have V_v_list:=Rd.start Q7 hD
 obtain ⟨Q13,Q11,Q15,Q17⟩:=Rd.inv Q7
 refine ze fun _ F=>?_
 refine zz F (JY (c:=c) (n:=((Q3:Nat):Int)) V_v_c_code (by unfold J1;(try dsimp only);omega) yd yg yb (At.pick (is:=[0]) hA rfl) (J9 (is:=[0]))) ?_
 rintro _ w6 ⟨i2_6,h2_6,r_6,rfl,m6,q6_0,q6_1,q6_2,q6_3⟩
 refine zt fun _ F=>?_
 have S6:Mv _ _ [bx _ [_,_,_] _] _:=At.frame hA [0] rfl m6
 obtain ⟨B8,O8,x1,ad8,hx1,okx1,ln8,cl8⟩:=Rd.at (Rd.mq V_v_list S6) r_6 zO
 clear ln8
 refine zv F (JB (i:=r_6) ET_44 rfl ((F.ev 5 rfl).trans (by rw [ad8])) (F.g rfl) zO zO) fun _ F=>?_
 refine zv (v:=.string x1) F (JD (cs:=[.string x1]) J0j rfl (F.g rfl) rfl (fun _=>rfl) (JN (f:=0) cl8 [.string x1] rfl)) fun _ F=>?_
 refine zd1 F ?_
 exact ⟨i2_6,h2_6,x1,rfl,(Mv.pick S6 [0] rfl),okx1,yk,yk,JaY hx1⟩
end
set_option maxRecDepth 100000
set_option maxHeartbeats 1000000
theorem J63 {w:World} {H:Nat→Prop} {list:List ByteArray} {Q0:Option Addr} {list_n Q1:Nat} {span:ByteArray} (Q2:okS span) (p0:list_n≤549755813888) (hA:At w [ow 9 1 J3 okS (.slice Q0 list_n Q1) list]) :
 Calls prog 359 #[.slice Q0 list_n Q1,.string span] w fun e w'=>∃ (r0_a:Option Addr),∃ (r0_n:Nat),∃ (r0_c:Nat),e=.returned (.slice r0_a r0_n r0_c)∧Mv [ow 9 1 J3 okS (.slice Q0 list_n Q1) list] w [ow 9 1 J3 okS (.slice r0_a r0_n r0_c) (JI list span)] w':=by
 have hO:=hA.ok _ (List.mem_singleton.2 rfl)
 have hl:list.length=list_n:=by obtain ⟨_,_,e,_⟩:=(Own.rd strT.hk hO).inv;cases e;rfl
 refine (JeF _ span w list hO Q2 (by omega)).mono ?_
 rintro e w' ⟨a,n,c,rfl,h1,h2,h3⟩
 exact ⟨a,n,c,rfl,J6I h1 h2 h3⟩
theorem Jc3 {w:World} {H:Nat→Prop} {s:List CellD} {s_a:Option Addr} {s_n s_c:Nat} (v_s:Rd 2 J6 okC H w (.slice s_a s_n s_c) s) (p0:s_n≤1099511627776) :
 Calls prog 46 #[.slice s_a s_n s_c] w fun e w'=>∃ (r0_a:Option Addr),∃ (r0_n:Nat),∃ (r0_c:Nat),e=.returned (.slice r0_a r0_n r0_c)∧Mv [] w [ow 91 2 J6 okC (.slice r0_a r0_n r0_c) s] w':=by
 obtain ⟨hl,_⟩:=v_s.inv
 refine (Jdv _ w s v_s.1 (by omega)).mono ?_
 rintro e w' ⟨a,n,c,rfl,h1,h2,h3⟩
 exact ⟨a,n,c,rfl,J6o h1 h2 h3⟩
section
variable {w:World} {H:Nat→Prop}
set_option maxRecDepth 100000
set_option maxHeartbeats 1000000
theorem J2Y {H:Nat→Prop} {x:Int} {least:Int} {most:Int} (h_x:J1 x) (Q0:J1 least) (Q1:J1 most) :
 Calls prog 87 #[iV x,iV least,iV most] w fun e w'=>e=.returned (.bool (inB x least most))∧Mv [] w [] w':=by
 refine ze fun _ F=>?_
 refine zc F (x ≥ least) fun _ F=>?_
 rcases Decidable.em (x ≥ least) with h6|h6
 ·rw [decide_eq_true h6] at F
  refine zr fun _ F=>?_
  refine zc F (x≤most) fun _ F=>?_
  refine zd1 F ?_
  exact ⟨(zV1 (zVb (by unfold inB;first|rfl|exact J1V zO|exact (decide_eq_false zO).symm|exact (decide_eq_true zO).symm))),(Mv.pick (Mv.refl (At.nil w)) [] rfl)⟩
 rw [decide_eq_false h6] at F
 refine zr fun _ F=>?_
 refine zd1 F ?_
 exact ⟨(zV1 (zVb (by unfold inB;first|rfl|exact J1V zO|exact (decide_eq_false zO).symm|exact (decide_eq_true zO).symm))),(Mv.pick (Mv.refl (At.nil w)) [] rfl)⟩
theorem J3M {H:Nat→Prop} {n:Int} {low:Int} {high:Int} (h_n:J1 n) (Q1:J1 low) (Q0:J1 high) :
 Calls prog 93 #[iV n,iV low,iV high] w fun e w'=>e=.returned (.bool (inB n low high))∧Mv [] w [] w':=by
 refine ze fun _ F=>?_
 refine zc F (n ≥ low) fun _ F=>?_
 rcases Decidable.em (n ≥ low) with h6|h6
 ·rw [decide_eq_true h6] at F
  refine zr fun _ F=>?_
  refine zc F (n≤high) fun _ F=>?_
  refine zd1 F ?_
  exact ⟨(zV1 (zVb (by unfold inB;first|rfl|exact J1V zO|exact (decide_eq_false zO).symm|exact (decide_eq_true zO).symm))),(Mv.pick (Mv.refl (At.nil w)) [] rfl)⟩
 rw [decide_eq_false h6] at F
 refine zr fun _ F=>?_
 refine zd1 F ?_
 exact ⟨(zV1 (zVb (by unfold inB;first|rfl|exact J1V zO|exact (decide_eq_false zO).symm|exact (decide_eq_true zO).symm))),(Mv.pick (Mv.refl (At.nil w)) [] rfl)⟩
theorem JcF {H:Nat→Prop} {s:ByteArray} {pfx:ByteArray} (h_s:okS s) (Q0:okS pfx) :
 Calls prog 368 #[.string s,.string pfx] w fun e w'=>e=.returned (.bool (J0h s pfx))∧Mv [] w [] w':=by
 refine ze fun _ F=>?_
 refine zc F (s.size ≥ pfx.size) fun _ F=>?_
 rcases Decidable.em (s.size ≥ pfx.size) with h8|h8
 ·rw [decide_eq_true h8] at F
  refine zr fun _ F=>?_
  refine zv F (J2p (l:=0) (h:=pfx.size) underlying9 rfl (F.g rfl) rfl (F.g rfl) yq yq rfl) fun _ F=>?_
  refine zv F (J0O (b:=(decide ((s.extract 0 pfx.size)=pfx))) (.inl rfl) rfl (F.g rfl) (F.g rfl) rfl) fun _ F=>?_
  refine zd1 F ?_
  exact ⟨(zV1 (zVb (by unfold J0h;by_cases hb:pfx.size≤s.size <;> simp_all <;> omega))),(Mv.pick (Mv.refl (At.nil w)) [] rfl)⟩
 rw [decide_eq_false h8] at F
 refine zr fun _ F=>?_
 refine zd1 F ?_
 exact ⟨(zV1 (zVb (by unfold J0h;by_cases hb:pfx.size≤s.size <;> simp_all <;> omega))),(Mv.pick (Mv.refl (At.nil w)) [] rfl)⟩
theorem J3N {s:List CellD} {s_a:Option Addr} {s_n s_c:Nat} {key:ByteArray} (v_s:Rd 2 J6 okC H w (.slice s_a s_n s_c) s) (Q0:okS key) :
 Calls prog 109 #[.slice s_a s_n s_c,.string key] w fun e w'=>e=.returned (.string (Jl s key))∧Mv [] w [] w'∧okS (Jl s key):=by
 have V_v_s:=Rd.start v_s zN
 obtain ⟨ln_s,le_s,mx_s,ni_s⟩:=Rd.inv v_s
 refine ze fun _ F=>?_
 refine JH (At.nil w) (fun lZ (k:Nat) aZ wZ=>Fr 24 [(5,nV k),(0,.slice s_a s_n s_c),(1,.string key)] aZ∧Mv lZ w [] wZ∧(k≤s_n)∧(∀ j,j < k→∀ y,nth s j=some y→y.key≠key)) (fun (k:Nat)=>s_n - k) (0) ?_ ?_
 ·exact ⟨F.cut rfl,(Mv.refl (At.nil w)),zO,J2m⟩
 rintro k a3 w3 ⟨F,S3,hk_0,hk_1⟩
 refine zr fun _ F=>?_
 refine zc F (k < s_n) fun _ F=>?_
 refine zi F (fun h8=>?_) fun h8=>?_
 ·refine zr fun _ F=>?_
  obtain ⟨B11,O11,x1,ad11,hx1,okx1,ln11,cl11⟩:=Rd.at (Rd.mq V_v_s S3) k yq
  clear ln11
  refine zv F (JB (i:=k) ET_28 rfl ((F.ev 12 rfl).trans (by rw [ad11])) (F.g rfl) zO yq) fun _ F=>?_
  refine zv (v:=.string x1.key) F (JD (cs:=[.string x1.key]) J0j rfl (F.g rfl) rfl (fun _=>rfl) (JN (f:=0) cl11 [.string x1.key] rfl)) fun _ F=>?_
  refine zv F (J0O (b:=(decide (x1.key=key))) (.inl rfl) rfl (F.g rfl) (F.g rfl) rfl) fun _ F=>?_
  refine zi F (fun h17=>?_) fun h17=>?_
  ·refine zr fun _ F=>?_
   obtain ⟨B20,O20,y20,ad20,hy20,oky20,ln20,cl20⟩:=Rd.at (Rd.mq V_v_s S3) k yq
   clear ln20
   obtain rfl:=Option.some.inj (hx1.symm.trans hy20)
   clear hy20 oky20
   refine zv F (JB (i:=k) ET_28 rfl ((F.ev 19 rfl).trans (by rw [ad20])) (F.g rfl) zO yq) fun _ F=>?_
   refine zv (v:=.string x1.val) F (JD (cs:=[.string x1.val]) J0j rfl (F.g rfl) rfl (fun _=>rfl) (JN (f:=1) cl20 [.string x1.val] rfl)) fun _ F=>?_
   refine zd1 F ?_
   exact ⟨(zV1 (zVs (by exact (J50 hx1 zA hk_1).symm))),(Mv.pick S3 [] rfl),(zOk (by exact (J50 hx1 zA hk_1).symm) okx1.2)⟩
  refine zr fun _ F=>?_
  refine zq F ((k+1:Nat):Int) fun _ F=>?_
  exact ⟨k+1,zD,F.cut rfl,(S3.pick [] rfl),zO,J0F hk_1 (fun y hy=>by obtain rfl:=Option.some.inj (hx1.symm.trans hy);assumption)⟩
 refine zr fun _ F=>?_
 refine zd1 F ?_
 exact ⟨(zV1 (zVs (by exact (J55 zO hk_1).symm))),(Mv.pick S3 [] rfl),((show bE_=(Jl s key) from by exact (J55 zO hk_1).symm) ▸ (by unfold okS;decide))⟩
theorem JcD {s:List CellD} {s_a:Option Addr} {s_n s_c:Nat} {pfx:ByteArray} (v_s:Rd 2 J6 okC H w (.slice s_a s_n s_c) s) (Q0:okS pfx) (p0:s_n≤1099511627776) :
 Calls prog 348 #[.slice s_a s_n s_c,.string pfx] w fun e w'=>∃ (r0_a:Option Addr)(r0_n r0_c:Nat),e=.returned (.slice r0_a r0_n r0_c)∧Mv [] w [qS r0_a r0_n r0_c (Jt s pfx)] w':=by
 have V_v_s:=Rd.start v_s zN
 obtain ⟨ln_s,le_s,mx_s,ni_s⟩:=Rd.inv v_s
 refine ze fun _ F=>?_
 refine zbs (ok:=okS) F (At.nil w) (([]:List ByteArray)) ET_44 (by simp) fun b2 w2 S2 _ F=>?_
 refine JH S2.at' (fun lZ (k:Nat) aZ wZ=>∃ (oa:Option Addr)(on oc:Nat),Fr 30 [(6,nV k),(5,.slice oa on oc),(0,.slice s_a s_n s_c),(1,.string pfx)] aZ∧Mv lZ w2 [qS oa on oc (Jt (s.take k) pfx)] wZ∧(k≤s_n)) (fun (k:Nat)=>s_n - k) (0) ?_ ?_
 ·exact ⟨(aO b2),0,0,F.cut rfl,(Mv.refl S2.at'),zO⟩
 rintro k a6 w6 ⟨oa,on,oc,F,S6,hk_0⟩
 refine zr fun _ F=>?_
 refine zc F (k < s_n) fun _ F=>?_
 refine zi F (fun h11=>?_) fun h11=>?_
 ·refine zr fun _ F=>?_
  obtain ⟨B14,O14,x1,ad14,hx1,okx1,ln14,cl14⟩:=Rd.at (Rd.mq V_v_s (S2.trans S6)) k yq
  clear ln14
  refine zv F (JB (i:=k) ET_28 rfl ((F.ev 14 rfl).trans (by rw [ad14])) (F.g rfl) zO yq) fun _ F=>?_
  refine zv (v:=.string x1.key) F (JD (cs:=[.string x1.key]) J0j rfl (F.g rfl) rfl (fun _=>rfl) (JN (f:=0) cl14 [.string x1.key] rfl)) fun _ F=>?_
  refine zzp F S6.at' (JcF (H:=fun _=>True) (s:=x1.key) (pfx:=pfx) okx1.1 Q0) fun w19 S19 _ F=>?_
  refine zib F (fun h21=>?_) fun h21=>?_
  ·refine zr fun _ F=>?_
   obtain ⟨B25,O25,y25,ad25,hy25,oky25,ln25,cl25⟩:=Rd.at (Rd.mq V_v_s (tc3 S2 S6 S19)) k yq
   clear ln25
   obtain rfl:=Option.some.inj (hx1.symm.trans hy25)
   clear hy25 oky25
   refine zv F (JB (i:=k) ET_28 rfl ((F.ev 22 rfl).trans (by rw [ad25])) (F.g rfl) zO yq) fun _ F=>?_
   refine zv (v:=.string x1.key) F (JD (cs:=[.string x1.key]) J0j rfl (F.g rfl) rfl (fun _=>rfl) (JN (f:=0) cl25 [.string x1.key] rfl)) fun _ F=>?_
   refine zbs (ok:=okS) F S19.at' ([x1.key]) ET_44 (fun x hx=>(List.mem_singleton.1 hx) ▸ okx1.1) fun b29 w29 S29 _ F=>?_
   refine J0 (Jv (news:=[x1.key]) F S29.at' 1 ET_44 rfl rfl rfl rfl rfl rfl (F.g rfl) (F.g rfl) ((At.rd S29.at' ET_44.hk 0 rfl)).1 (by have:=J8a s pfx k;((repeat (first|rw [List.length_append]|rw [List.length_cons]|rw [List.length_nil]|rw [List.length_take]|rw [List.length_drop])) <;> omega)) fun A31 N31 C31 _ w31 F S31 l31=>?_)
   have S33:=At.drop S31.at' 1
   refine zr fun _ F=>?_
   have T35:Mv _ _ [_] _:=S33
   refine zq F ((k+1:Nat):Int) fun _ F=>?_
   exact ⟨k+1,zD,A31,N31,C31,F.cut rfl,(Mv.cast ((tc5 S6 S19 S29 S31 T35).pick [0] rfl) (by (rw [J4U hx1];first|rw [if_pos zA]|rw [if_neg (ne_true_of_eq_false zA),List.append_nil]);all_goals rfl)),zO⟩
  refine zr fun _ F=>?_
  refine zq F ((k+1:Nat):Int) fun _ F=>?_
  exact ⟨k+1,zD,oa,on,oc,F.cut rfl,(Mv.cast ((S6.trans S19).pick [0] rfl) (by (rw [J4U hx1];first|rw [if_pos zA]|rw [if_neg (ne_true_of_eq_false zA),List.append_nil]);all_goals rfl)),zO⟩
 refine zr fun _ F=>?_
 refine zd1 F ?_
 exact ⟨oa,on,oc,rfl,(Mv.cast (Mv.pick (S2.trans S6) [0] rfl) (lc (zOw (by rw [List.take_of_length_le zO])) rfl))⟩
end
section
variable {w:World} {H:Nat→Prop}
set_option maxRecDepth 100000
set_option maxHeartbeats 1000000
theorem J6c {list:List ByteArray} {Q1:Option Addr} {Q0 Q2:Nat} {x:ByteArray} (Q3:Rd 1 J3 okS H w (.slice Q1 Q0 Q2) list) (h_x:okS x) (p0:Q0≤549755813888) :
 Calls prog 147 #[.slice Q1 Q0 Q2,.string x] w fun e w'=>∃ (r0_a:Option Addr)(r0_n r0_c:Nat),e=.returned (.slice r0_a r0_n r0_c)∧Mv [] w [] w'∧Rd 1 J3 okS (Fsh H w) w' (.slice r0_a r0_n r0_c) (JI list x):=by
 have V_v_list:=Rd.start Q3 zN
 obtain ⟨Q5,Q4,Q6,Q7⟩:=Rd.inv Q3
 refine ze fun _ F=>?_
 refine JH (At.nil w) (fun lZ (k:Nat) aZ wZ=>Fr 47 [(5,nV k),(0,.slice Q1 Q0 Q2),(1,.string x)] aZ∧Mv lZ w [] wZ∧(k≤Q0)∧(∀ j,j < k→∀ y,nth list j=some y→ltS y x=true)) (fun (k:Nat)=>Q0 - k) (0) ?_ ?_
 ·exact ⟨F.cut rfl,(Mv.refl (At.nil w)),zO,J2m⟩
 rintro k a3 w3 ⟨F,S3,hk_0,hk_1⟩
 refine zr fun _ F=>?_
 refine zc F (k < Q0) fun _ F=>?_
 rcases Decidable.em (k < Q0) with h9|h9
 ·rw [decide_eq_true h9] at F
  refine zr fun _ F=>?_
  obtain ⟨B12,O12,x1,ad12,hx1,okx1,ln12,cl12⟩:=Rd.at (Rd.mq V_v_list S3) k yq
  clear ln12
  refine zv F (JB (i:=k) ET_44 rfl ((F.ev 12 rfl).trans (by rw [ad12])) (F.g rfl) zO yq) fun _ F=>?_
  refine zv (v:=.string x1) F (JD (cs:=[.string x1]) J0j rfl (F.g rfl) rfl (fun _=>rfl) (JN (f:=0) cl12 [.string x1] rfl)) fun _ F=>?_
  refine zv F (J0O (b:=(ltS x1 x)) (.inr (.inr (.inl rfl))) rfl (F.g rfl) (F.g rfl) rfl) fun _ F=>?_
  refine zib F (fun h18=>?_) fun h18=>?_
  ·refine zr fun _ F=>?_
   refine zq F ((k+1:Nat):Int) fun _ F=>?_
   exact ⟨k+1,zD,F.cut rfl,(S3.pick [] rfl),zO,J0F hk_1 (fun y hy=>by obtain rfl:=Option.some.inj (hx1.symm.trans hy);assumption)⟩
  refine zr fun _ F=>?_
  refine zc F (k < Q0) fun _ F=>?_
  rw [decide_eq_true h9] at F
  refine zr fun _ F=>?_
  obtain ⟨B29,O29,y29,ad29,hy29,oky29,ln29,cl29⟩:=Rd.at (Rd.mq V_v_list S3) k yq
  clear ln29
  obtain rfl:=Option.some.inj (hx1.symm.trans hy29)
  clear hy29 oky29
  refine zv F (JB (i:=k) ET_44 rfl ((F.ev 26 rfl).trans (by rw [ad29])) (F.g rfl) zO yq) fun _ F=>?_
  refine zv (v:=.string x1) F (JD (cs:=[.string x1]) J0j rfl (F.g rfl) rfl (fun _=>rfl) (JN (f:=0) cl29 [.string x1] rfl)) fun _ F=>?_
  refine zv F (J0O (b:=(decide (x1=x))) (.inl rfl) rfl (F.g rfl) (F.g rfl) rfl) fun _ F=>?_
  refine zi F (fun h35=>?_) fun h35=>?_
  ·refine zr fun _ F=>?_
   refine zd1 F ?_
   exact ⟨Q1,Q0,Q2,rfl,(Mv.pick S3 [] rfl),(Rd.cast (Rd.give (Rd.mq V_v_list S3)) (by exact (Jf4 (k:=k) (by rw [hx1];exact congrArg some zA) hk_1 (by simp_all)).symm))⟩
  refine zr fun _ F=>?_
  refine zbs (ok:=okS) F S3.at' (([]:List ByteArray)) ET_44 (by simp) fun b38 w38 S38 _ F=>?_
  refine J0 (J5j F 0 k (Rd.mq V_v_list (S3.trans S38)) ET_44 rfl rfl rfl rfl (F.g rfl) rfl (F.g rfl) yq yq fun A42 C42 _ F V42i=>?_)
  have V42:Rd 1 J3 okS (V H w [qS (aO b38) 0 0 ([]:List ByteArray)]) w38 (.slice A42 (k - 0) C42) (list.take k):=V42i
  clear V42i
  refine J0 (Jv (news:=list.take k) F S38.at' 0 ET_44 rfl rfl rfl rfl rfl rfl (F.g rfl) (F.g rfl) (V42).1 (by ((repeat (first|rw [List.length_append]|rw [List.length_cons]|rw [List.length_nil]|rw [List.length_take]|rw [List.length_drop])) <;> omega)) fun A44 N44 C44 _ w44 F S44 l44=>?_)
  refine zr fun _ F=>?_
  refine zbs (ok:=okS) F S44.at' ([x]) ET_44 (fun x hx=>(List.mem_singleton.1 hx) ▸ h_x) fun b47 w47 S47 _ F=>?_
  refine J0 (Jv (news:=[x]) F S47.at' 1 ET_44 rfl rfl rfl rfl rfl rfl (F.g rfl) (F.g rfl) ((At.rd S47.at' ET_44.hk 0 rfl)).1 (by ((repeat (first|rw [List.length_append]|rw [List.length_cons]|rw [List.length_nil]|rw [List.length_take]|rw [List.length_drop])) <;> omega)) fun A49 N49 C49 _ w49 F S49 l49=>?_)
  have S51:=At.drop S49.at' 1
  refine zr fun _ F=>?_
  have T53:Mv _ _ [_] _:=S51
  refine J0 (J5j F k Q0 (Rd.mq V_v_list (tc6 S3 S38 S44 S47 S49 T53)) ET_44 rfl rfl rfl rfl (F.g rfl) (F.g rfl) rfl yq yq fun A57 C57 _ F V57i=>?_)
  have V57:Rd 1 J3 okS (V H w [qS A49 N49 C49 ((([]:List ByteArray)++(list.take k))++([x]))]) w49 (.slice A57 (Q0 - k) C57) (list.drop k):=Rd.cast V57i (show (list.take Q0).drop k=list.drop k from by rw [List.take_of_length_le zO])
  clear V57i
  refine J0 (Jv (news:=list.drop k) F T53.at' 0 ET_44 rfl rfl rfl rfl rfl rfl (F.g rfl) (F.g rfl) (V57).1 (by ((repeat (first|rw [List.length_append]|rw [List.length_cons]|rw [List.length_nil]|rw [List.length_take]|rw [List.length_drop])) <;> omega)) fun A59 N59 C59 _ w59 F S59 l59=>?_)
  refine zr fun _ F=>?_
  have Z62:Rd 1 J3 okS (V H w []) w59 (.slice A59 N59 C59) (((([]:List ByteArray)++(list.take k))++([x]))++(list.drop k)):=At.freeze (tc7 S3 S38 S44 S47 S49 T53 S59) ET_44.hk 0 rfl (fun b hb=>((tc7 S3 S38 S44 S47 S49 T53 S59).fresh b ⟨_,Jm (i:=0) rfl,hb⟩).resolve_left (JF _))
  have S62:=At.drop S59.at' 0
  refine zd1 F ?_
  exact ⟨A59,N59,C59,rfl,(Mv.pick (tc8 S3 S38 S44 S47 S49 T53 S59 S62) [] rfl),(Rd.cast (Rd.give Z62) (by rw [J9W (k:=k) zO hk_1 (fun y hy=>by obtain rfl:=Option.some.inj (hx1.symm.trans hy);exact ⟨by assumption,by assumption⟩)];simp))⟩
 rw [decide_eq_false h9] at F
 refine zr fun _ F=>?_
 refine zc F (k < Q0) fun _ F=>?_
 rw [decide_eq_false h9] at F
 refine zr fun _ F=>?_
 refine zbs (ok:=okS) F S3.at' (([]:List ByteArray)) ET_44 (by simp) fun b82 w82 S82 _ F=>?_
 refine J0 (J5j F 0 k (Rd.mq V_v_list (S3.trans S82)) ET_44 rfl rfl rfl rfl (F.g rfl) rfl (F.g rfl) yq yq fun A86 C86 _ F V86i=>?_)
 have V86:Rd 1 J3 okS (V H w [qS (aO b82) 0 0 ([]:List ByteArray)]) w82 (.slice A86 (k - 0) C86) (list.take k):=V86i
 clear V86i
 refine J0 (Jv (news:=list.take k) F S82.at' 0 ET_44 rfl rfl rfl rfl rfl rfl (F.g rfl) (F.g rfl) (V86).1 (by ((repeat (first|rw [List.length_append]|rw [List.length_cons]|rw [List.length_nil]|rw [List.length_take]|rw [List.length_drop])) <;> omega)) fun A88 N88 C88 _ w88 F S88 l88=>?_)
 refine zr fun _ F=>?_
 refine zbs (ok:=okS) F S88.at' ([x]) ET_44 (fun x hx=>(List.mem_singleton.1 hx) ▸ h_x) fun b91 w91 S91 _ F=>?_
 refine J0 (Jv (news:=[x]) F S91.at' 1 ET_44 rfl rfl rfl rfl rfl rfl (F.g rfl) (F.g rfl) ((At.rd S91.at' ET_44.hk 0 rfl)).1 (by ((repeat (first|rw [List.length_append]|rw [List.length_cons]|rw [List.length_nil]|rw [List.length_take]|rw [List.length_drop])) <;> omega)) fun A93 N93 C93 _ w93 F S93 l93=>?_)
 have S95:=At.drop S93.at' 1
 refine zr fun _ F=>?_
 have T97:Mv _ _ [_] _:=S95
 refine J0 (J5j F k Q0 (Rd.mq V_v_list (tc6 S3 S82 S88 S91 S93 T97)) ET_44 rfl rfl rfl rfl (F.g rfl) (F.g rfl) rfl yq yq fun A101 C101 _ F V101i=>?_)
 have V101:Rd 1 J3 okS (V H w [qS A93 N93 C93 ((([]:List ByteArray)++(list.take k))++([x]))]) w93 (.slice A101 (Q0 - k) C101) (list.drop k):=Rd.cast V101i (show (list.take Q0).drop k=list.drop k from by rw [List.take_of_length_le zO])
 clear V101i
 refine J0 (Jv (news:=list.drop k) F T97.at' 0 ET_44 rfl rfl rfl rfl rfl rfl (F.g rfl) (F.g rfl) (V101).1 (by ((repeat (first|rw [List.length_append]|rw [List.length_cons]|rw [List.length_nil]|rw [List.length_take]|rw [List.length_drop])) <;> omega)) fun A103 N103 C103 _ w103 F S103 l103=>?_)
 refine zr fun _ F=>?_
 have Z106:Rd 1 J3 okS (V H w []) w103 (.slice A103 N103 C103) (((([]:List ByteArray)++(list.take k))++([x]))++(list.drop k)):=At.freeze (tc7 S3 S82 S88 S91 S93 T97 S103) ET_44.hk 0 rfl (fun b hb=>((tc7 S3 S82 S88 S91 S93 T97 S103).fresh b ⟨_,Jm (i:=0) rfl,hb⟩).resolve_left (JF _))
 have S106:=At.drop S103.at' 0
 refine zd1 F ?_
 exact ⟨A103,N103,C103,rfl,(Mv.pick (tc8 S3 S82 S88 S91 S93 T97 S103 S106) [] rfl),(Rd.cast (Rd.give Z106) (by rw [J9W (k:=k) zO hk_1 (fun y hy=>absurd (J4H hy) zO)];simp))⟩
theorem J2V {list:List ByteArray} {Q1:Option Addr} {Q0 Q2:Nat} {span:ByteArray} (Q3:Rd 1 J3 okS H w (.slice Q1 Q0 Q2) list) (Q4:okS span) (p0:Q0≤549755813888) :
 Calls prog 180 #[.slice Q1 Q0 Q2,.string span] w fun e w'=>∃ (r0_a:Option Addr)(r0_n r0_c:Nat),e=.returned (.slice r0_a r0_n r0_c)∧Mv [] w [] w'∧Rd 1 J3 okS (Fsh H w) w' (.slice r0_a r0_n r0_c) (JI list span):=by
 have V_v_list:=Rd.start Q3 zN
 obtain ⟨Q6,Q5,Q7,Q8⟩:=Rd.inv Q3
 refine ze fun _ F=>?_
 refine zbs (ok:=okS) F (At.nil w) (([]:List ByteArray)) ET_44 (by simp) fun b2 w2 S2 _ F=>?_
 refine zz F (J6c (list:=list) (x:=span) (Rd.mq V_v_list S2) Q4 yb) ?_
 rintro _ w6 ⟨Q9,Q11,Q10,rfl,m6,v6_0⟩
 refine zt fun _ F=>?_
 have S6:=At.frame0 S2.at' m6
 have V6_0:=Rd.got0 S2.at' (S2.kp.size) v6_0 S6
 obtain ⟨ln6_0,le6_0,mx6_0,ni6_0⟩:=Rd.inv V6_0
 refine J0 (Jv (news:=JI list span) F S6.at' 0 ET_44 rfl rfl rfl rfl rfl rfl (F.g rfl) (F.g rfl) (V6_0).1 (by have:=J3q list span;((repeat (first|rw [List.length_append]|rw [List.length_cons]|rw [List.length_nil]|rw [List.length_take]|rw [List.length_drop])) <;> omega)) fun A8 N8 C8 _ w8 F S8 l8=>?_)
 refine zr fun _ F=>?_
 have Z11:Rd 1 J3 okS (V H w []) w8 (.slice A8 N8 C8) (([]:List ByteArray)++(JI list span)):=At.freeze (tc3 S2 S6 S8) ET_44.hk 0 rfl (fun b hb=>((tc3 S2 S6 S8).fresh b ⟨_,Jm (i:=0) rfl,hb⟩).resolve_left (JF _))
 have S11:=At.drop S8.at' 0
 refine zd1 F ?_
 exact ⟨A8,N8,C8,rfl,(Mv.pick (tc4 S2 S6 S8 S11) [] rfl),(Rd.cast (Rd.give Z11) (by simp))⟩
end
set_option maxRecDepth 100000
set_option maxHeartbeats 1000000
end Go.Proofs.YtipdbeklopjbmaaGreatDoor
