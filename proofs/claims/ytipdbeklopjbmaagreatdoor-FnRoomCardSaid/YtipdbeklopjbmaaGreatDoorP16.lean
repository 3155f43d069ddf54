/-
  Texts laid together: GenV, GenRp.
-/
import Derived.Test.YtipdbeklopjbmaaGreatDoorGenRo
set_option linter.unusedVariables false
set_option linter.unusedSimpArgs false
namespace Go.Proofs.YtipdbeklopjbmaaGreatDoor
open Go.ChangeShapes Go.WideShapes Go.ChangeAt Go.RowKit Go.Proofs.Tryz
section
variable {w:World} {H:Nat→Prop}
set_option maxRecDepth 100000
set_option maxHeartbeats 1000000
theorem JcZ {c:CurD} {Q1:Option Addr} {Q0 Q2:Nat} {c_b:Nat} (Q4:RdA 1 J7 okB H w (.slice Q1 Q0 Q2) c.code) (Q10:J1 (c.pos:Int)) (Q9:J1 c.h) (p0:c.pos≤Q0) (hA:At w [bC c_b Q1 Q0 Q2 c.pos c.h]) (hD:∀ b,H b→¬ fps [bC c_b Q1 Q0 Q2 c.pos c.h] b) :
 Calls prog 189 #[pT c_b] w fun e w'=>∃ (i2:Nat)(h2:Int)(l:List ByteArray)(r0_a:Option Addr)(r0_n r0_c:Nat),e=.returned (.slice r0_a r0_n r0_c)∧Mv [bC c_b Q1 Q0 Q2 c.pos c.h] w [bC c_b Q1 Q0 Q2 i2 h2] w'∧Rd 1 J3 okS (V (HP H [bC c_b Q1 Q0 Q2 c.pos c.h]) w [bC c_b Q1 Q0 Q2 i2 h2]) w' (.slice r0_a r0_n r0_c) l∧i2≤Q0∧J1 h2∧l.length≤4:=by
 have Q3:RdA 1 J7 okB (V (HP H [bC c_b Q1 Q0 Q2 c.pos c.h]) w [bC c_b Q1 Q0 Q2 c.pos c.h]) w (.slice Q1 Q0 Q2) c.code:=RdA.startP Q4 hD
 obtain ⟨Q12,Q11,Q13,Q14⟩:=RdA.inv Q4
 refine ze fun _ F=>?_
 refine zbs (ok:=okS) F hA (([]:List ByteArray)) ET_44 (by simp) fun b2 w2 S2 _ F=>?_
 have Z7:Rd 1 J3 okS (V (HP H [bC c_b Q1 Q0 Q2 c.pos c.h]) w [bC c_b Q1 Q0 Q2 c.pos c.h]) w2 (.slice (aO b2) 0 0) ([]:List ByteArray):=At.freezeP S2.at' ET_44.hk 0 rfl (J23 S2)
 have S7:=At.drop S2.at' 0
 refine JH S7.at' (fun lZ (k:Nat) aZ wZ=>∃ (pp:Nat)(hh:Int)(O:List ByteArray)(oa:Option Addr)(on oc:Nat),(fun l2=>Fr 17 [(4,nV k),(3,.slice oa on oc),(0,pT c_b)] aZ∧Mv lZ w2 l2 wZ∧Rd 1 J3 okS (V (HP H [bC c_b Q1 Q0 Q2 c.pos c.h]) w l2) wZ (.slice oa on oc) O∧(pp≤Q0)∧(J1 hh)∧(O.length≤k)∧(k≤4)) [bC c_b Q1 Q0 Q2 pp hh]) (fun (k:Nat)=>4 - k) (0) ?_ ?_
 ·exact ⟨c.pos,c.h,([]:List ByteArray),(aO b2),0,0,F.cut rfl,(Mv.refl S7.at'),Z7,zO,by assumption,Nat.le_refl _,zO⟩
 rintro k a6 w6 ⟨pp,hh,O,oa,on,oc,F,S6,W6_0,hk_0,hk_1,hk_2,hk_3⟩
 obtain ⟨lv6_0,lw6_0,lx6_0,ly6_0⟩:=Rd.inv W6_0
 refine zr fun _ F=>?_
 refine zz F (JY (c:=(⟨c.code,pp,hh⟩:CurD)) (n:=4) (RdA.mv (Nat.succ_pos _) Q3 (tc3 S2 S7 S6)) (by unfold J1;(try dsimp only);omega) yd yg yb (At.pick (is:=[0]) S6.at' rfl) (J9 (is:=[0]))) ?_
 rintro _ w10 ⟨i2_10,h2_10,r_10,rfl,m10,q10_0,q10_1,q10_2,q10_3⟩
 refine zt fun _ F=>?_
 have S10:Mv _ _ [bx _ [_,_,_] _] _:=At.frame S6.at' [0] rfl m10
 refine zc F (k < r_10) fun _ F=>?_
 refine zi F (fun h13=>?_) fun h13=>?_
 ·refine zr fun _ F=>?_
  refine zz F (Jd0 (c:=(⟨c.code,i2_10,h2_10⟩:CurD)) (RdA.mv (Nat.succ_pos _) Q3 (tc4 S2 S7 S6 S10)) (by unfold J1;(try dsimp only);omega) yd yb (At.pick (is:=[0]) S10.at' rfl) (J9 (is:=[0]))) ?_
  rintro _ w16 ⟨i2_16,h2_16,r_16,rfl,m16,Q5,q16_0,q16_1,q16_2⟩
  refine zt fun _ F=>?_
  have S16:Mv _ _ [bx _ [_,_,_] _] _:=At.frame S10.at' [0] rfl m16
  refine zz F (J2V (list:=O) (span:=r_16) (Rd.mq W6_0 (S10.trans S16)) Q5 yb) ?_
  rintro _ w18 ⟨Q6,Q8,Q7,rfl,m18,v18_0⟩
  refine zt fun _ F=>?_
  have S18:=At.frame0 S16.at' m18
  have V18_0:=Rd.got0 S16.at' ((tc5 S2 S7 S6 S10 S16).kp.size) v18_0 S18
  obtain ⟨ln18_0,le18_0,mx18_0,ni18_0⟩:=Rd.inv V18_0
  have T21:Mv _ _ [bx _ [_,_,_] _] _:=S18
  refine zq F ((k+1:Nat):Int) fun _ F=>?_
  exact ⟨k+1,zD,i2_16,h2_16,JI O r_16,Q6,Q8,Q7,F.cut rfl,((tc4 S6 S10 S16 T21).pick [0] rfl),V18_0,zO,by assumption,Nat.le_trans (J3q ..) zO,zO⟩
 refine zr fun _ F=>?_
 refine zd1 F ?_
 exact ⟨i2_10,h2_10,O,oa,on,oc,rfl,(Mv.pick (tc4 S2 S7 S6 S10) [0] rfl),(Rd.mq W6_0 S10),yk,yk,zO⟩
theorem J88 {c:CurD} {Q1:Option Addr} {Q0 Q2:Nat} {c_b:Nat} (Q16:RdA 1 J7 okB H w (.slice Q1 Q0 Q2) c.code) (Q23:J1 (c.pos:Int)) (Q22:J1 c.h) (p0:c.pos≤Q0) (hA:At w [bC c_b Q1 Q0 Q2 c.pos c.h]) (hD:∀ b,H b→¬ fps [bC c_b Q1 Q0 Q2 c.pos c.h] b) :
 Calls prog 162 #[pT c_b] w fun e w'=>∃ (i2:Nat)(h2:Int)(d:TouchD)(Q10:Option Addr)(Q12 Q11:Nat)(Q13:Option Addr)(Q15 Q14:Nat),e=.returned (.agg #[.slice Q10 Q12 Q11,.slice Q13 Q15 Q14])∧Mv [bC c_b Q1 Q0 Q2 c.pos c.h] w [bC c_b Q1 Q0 Q2 i2 h2] w'∧Rd 1 J3 okS (V (HP H [bC c_b Q1 Q0 Q2 c.pos c.h]) w [bC c_b Q1 Q0 Q2 i2 h2]) w' (.slice Q10 Q12 Q11) d.reads∧Rd 1 J3 okS (V (HP H [bC c_b Q1 Q0 Q2 c.pos c.h]) w [bC c_b Q1 Q0 Q2 i2 h2]) w' (.slice Q13 Q15 Q14) d.writes∧i2≤Q0∧J1 h2∧(d.reads.length≤100∧d.writes.length≤100):=by
 have Q6:RdA 1 J7 okB (V (HP H [bC c_b Q1 Q0 Q2 c.pos c.h]) w [bC c_b Q1 Q0 Q2 c.pos c.h]) w (.slice Q1 Q0 Q2) c.code:=RdA.startP Q16 hD
 obtain ⟨Q28,Q27,Q29,Q30⟩:=RdA.inv Q16
 refine ze fun _ F=>?_
 refine zal F hA J0i fun b1 w1 S1 _ F=>?_
 refine zz F (JcZ (c:=c) (RdA.mv (Nat.succ_pos _) Q6 S1) (by unfold J1;(try dsimp only);omega) yd yb (At.pick (is:=[1]) S1.at' rfl) (J9 (is:=[1]))) ?_
 rintro _ w4 ⟨i2_4,h2_4,l_4,Q7,Q9,Q8,rfl,m4,v4_0,q4_0,q4_1,q4_2⟩
 refine zt fun _ F=>?_
 have S4:Mv _ _ [bx _ [_,_,_] _,bx _ [_,_] _] _:=At.frame S1.at' [1] rfl m4
 have V4_0:=Rd.gotR S1.at' S4 [1] S1 v4_0
 obtain ⟨ln4_0,le4_0,mx4_0,ni4_0⟩:=Rd.inv V4_0
 refine zv (v:=.agg #[.slice Q7 Q9 Q8,sN]) F (J06 J4L rfl (lc (pr2 (F.g rfl)) rfl) rfl) fun _ F=>?_
 refine zal F S4.at' J0i fun b7 w7 S7 _ F=>?_
 refine zst F S7.at' 0 fun w9 S9 _ F=>?_
 have T10:Mv _ _ [bx _ [_,_] _,bx _ [_,_,_] _,bx _ [_,_] _] _:=S9
 refine JH T10.at' (fun lZ (k:Nat) aZ wZ=>∃ (pp:Nat)(hh:Int)(W:List ByteArray)(ua:Option Addr)(un uc:Nat),(fun l2=>Fr 21 [(4,nV k),(3,pT b7),(2,pT b1),(0,pT c_b)] aZ∧Mv lZ w9 l2 wZ∧Rd 1 J3 okS (V (HP H [bC c_b Q1 Q0 Q2 c.pos c.h]) w l2) wZ (.slice ua un uc) W∧(pp≤Q0)∧(J1 hh)∧(W.length≤k)∧(k≤3)) ((lZ.set 0 (bx b7 [.slice Q7 Q9 Q8,.slice ua un uc] 56)).set 1 (bC c_b Q1 Q0 Q2 pp hh))) (fun (k:Nat)=>3 - k) (0) ?_ ?_
 ·exact ⟨i2_4,h2_4,[],none,0,0,F.cut rfl,(Mv.refl T10.at'),Rd.nil,zO,by assumption,Nat.le_refl _,zO⟩
 rintro k a12 w12 ⟨pp,hh,W,ua,un,uc,F,S12,W12_0,hk_0,hk_1,hk_2,hk_3⟩
 have S12:Mv _ _ [bx _ [_,_] _,bx _ [_,_,_] _,bx _ [_,_] _] _:=S12
 obtain ⟨lv12_0,lw12_0,lx12_0,ly12_0⟩:=Rd.inv W12_0
 refine zr fun _ F=>?_
 refine zz F (JY (c:=(⟨c.code,pp,hh⟩:CurD)) (n:=3) (RdA.mv (Nat.succ_pos _) Q6 (tc5 S1 S4 S7 T10 S12)) (by unfold J1;(try dsimp only);omega) yd yg yb (At.pick (is:=[1]) S12.at' rfl) (J9 (is:=[1]))) ?_
 rintro _ w15 ⟨i2_15,h2_15,r_15,rfl,m15,q15_0,q15_1,q15_2,q15_3⟩
 refine zt fun _ F=>?_
 have S15:Mv _ _ [bx _ [_,_,_] _,bx _ [_,_] _,bx _ [_,_] _] _:=At.frame S12.at' [1] rfl m15
 refine zc F (k < r_15) fun _ F=>?_
 refine zi F (fun h18=>?_) fun h18=>?_
 ·refine zr fun _ F=>?_
  refine J2Q (fun lZ aZ wZ=>∃ (i2_24:Nat)(h2_24:Int)(r_24:ByteArray)(Q3:Option Addr)(Q5 Q4:Nat),(fun l2=>Fr 21 [(0,pT c_b),(2,pT b1),(3,pT b7),(4,nV k)] aZ∧Mv lZ w15 l2 wZ∧Rd 1 J3 okS (V (HP H [bC c_b Q1 Q0 Q2 c.pos c.h]) w l2) wZ (.slice Q3 Q5 Q4) (JI W r_24)∧(i2_24≤Q0)∧(J1 h2_24)∧(r_24.size≤100)) ((lZ.set 0 (bC c_b Q1 Q0 Q2 i2_24 h2_24)).set 1 (bx b7 [.slice Q7 Q9 Q8,.slice Q3 Q5 Q4] 56))) [1] (.b2 [0,2] 1 (.l [3,4,5,6]) 3 (.l [1,4,5,6])) S15.at' [] zK (fun w20 S20 hS=>en2 ?_) ?_
  ·refine zg fun _ F=>?_
   refine J03 ?_ ?_
   ·refine Jh rfl (Jf (v:=.slice ua un uc) F rfl rfl (JZ S20.at' 1 J0b rfl rfl (F.g rfl) rfl rfl (fun _=>rfl) rfl) rfl fun _ F=>?_)
    refine nS0 (enL ?_)
    refine J2 rfl rfl (zz1 F (J4Y (c:=(⟨c.code,i2_15,h2_15⟩:CurD)) (RdA.mv (Nat.succ_pos _) Q6 (tc7 S1 S4 S7 T10 S12 S15 S20)) (by unfold J1;(try dsimp only);omega) yd yb (At.pick (is:=[0]) S20.at' rfl) (J9 (is:=[0]))) ?_)
    rintro _ w24 ⟨i2_24,h2_24,r_24,rfl,m24,Q17,q24_0,q24_1,q24_2⟩
    refine ⟨_,rfl,fun _ F=>?_⟩
    have S24:Mv _ _ [bx _ [_,_,_] _,bx _ [_,_] _,bx _ [_,_] _] _:=At.frame S20.at' [0] rfl m24
    refine nS (Sd.of S24 [] rfl) fun hS=>?_
    refine J2 rfl rfl (zz1 F (J2V (list:=W) (span:=r_24) (Rd.mq W12_0 (tc3 S15 S20 S24)) Q17 yb) ?_)
    rintro _ w26 ⟨Q3,Q5,Q4,rfl,m26,v26_0⟩
    refine ⟨_,rfl,fun _ F=>?_⟩
    have S26:=At.frame0 S24.at' m26
    have V26_0:=Rd.got0 S24.at' ((tc8 S1 S4 S7 T10 S12 S15 S20 S24).kp.size) v26_0 S26
    obtain ⟨ln26_0,le26_0,mx26_0,ni26_0⟩:=Rd.inv V26_0
    refine nS (Sd.of (S24.trans S26) [] rfl) fun hS=>?_
    refine zg fun _ F=>?_
    refine J2 rfl rfl (J0C S26.at' 1 J0b rfl rfl rfl rfl rfl (F.g rfl) (F.g rfl) rfl rfl rfl rfl rfl fun w29 S29=>?_)
    refine nS (Sd.of (tc3 S24 S26 S29) [] rfl) fun hS=>?_
    refine zg fun _ F=>?_
    exact ⟨i2_24,h2_24,r_24,Q3,Q5,Q4,F.cut rfl,((tc4 S20 S24 S26 S29).pick [1,0,2] rfl),(Rd.mq (Rd.mq V26_0 S29) (Mv.pick (Mv.refl S29.at') [1,0,2] rfl)),q24_0,q24_1,q24_2⟩
   refine Jh rfl (zz1 F (J4Y (c:=(⟨c.code,i2_15,h2_15⟩:CurD)) (RdA.mv (Nat.succ_pos _) Q6 (tc7 S1 S4 S7 T10 S12 S15 S20)) (by unfold J1;(try dsimp only);omega) yd yb (At.pick (is:=[0]) S20.at' rfl) (J9 (is:=[0]))) ?_)
   rintro _ w30 ⟨i2_30,h2_30,r_30,rfl,m30,Q18,q30_0,q30_1,q30_2⟩
   refine ⟨_,rfl,fun _ F=>?_⟩
   have S30:Mv _ _ [bx _ [_,_,_] _,bx _ [_,_] _,bx _ [_,_] _] _:=At.frame S20.at' [0] rfl m30
   refine nS (Sd.of S30 [] rfl) fun hS=>enL ?_
   refine J2 rfl rfl (Jf (v:=.slice ua un uc) F rfl rfl (JZ S30.at' 1 J0b rfl rfl (F.g rfl) rfl rfl (fun _=>rfl) rfl) rfl fun _ F=>?_)
   refine nS0 ?_
   refine J2 rfl rfl (zz1 F (J2V (list:=W) (span:=r_30) (Rd.mq W12_0 (tc3 S15 S20 S30)) Q18 yb) ?_)
   rintro _ w33 ⟨Q19,Q21,Q20,rfl,m33,v33_0⟩
   refine ⟨_,rfl,fun _ F=>?_⟩
   have S33:=At.frame0 S30.at' m33
   have V33_0:=Rd.got0 S30.at' ((tc8 S1 S4 S7 T10 S12 S15 S20 S30).kp.size) v33_0 S33
   obtain ⟨ln33_0,le33_0,mx33_0,ni33_0⟩:=Rd.inv V33_0
   refine nS (Sd.of (S30.trans S33) [] rfl) fun hS=>?_
   refine zg fun _ F=>?_
   refine J2 rfl rfl (J0C S33.at' 1 J0b rfl rfl rfl rfl rfl (F.g rfl) (F.g rfl) rfl rfl rfl rfl rfl fun w36 S36=>?_)
   refine nS (Sd.of (tc3 S30 S33 S36) [] rfl) fun hS=>?_
   refine zg fun _ F=>?_
   exact ⟨i2_30,h2_30,r_30,Q19,Q21,Q20,F.cut rfl,((tc4 S20 S30 S33 S36).pick [1,0,2] rfl),(Rd.mq (Rd.mq V33_0 S36) (Mv.pick (Mv.refl S36.at') [1,0,2] rfl)),q30_0,q30_1,q30_2⟩
  rintro a37 w37 ⟨i2_24,h2_24,r_24,Q3,Q5,Q4,F,S37,V37_0,Q24,Q25,Q26⟩
  have S37:Mv _ _ [bx _ [_,_,_] _,bx _ [_,_] _,bx _ [_,_] _] _:=S37
  obtain ⟨ln37_0,le37_0,mx37_0,ni37_0⟩:=Rd.inv V37_0
  refine zr fun _ F=>?_
  refine zq F ((k+1:Nat):Int) fun _ F=>?_
  exact ⟨k+1,zD,i2_24,h2_24,JI W r_24,Q3,Q5,Q4,F.cut rfl,((tc3 S12 S15 S37).pick [1,0,2] rfl),(Rd.mq V37_0 (Mv.pick (Mv.refl S37.at') [1,0,2] rfl)),zO,by assumption,Nat.le_trans (J3q ..) zO,zO⟩
 refine zr fun _ F=>?_
 refine zw F S15.at' 1 fun _ F=>?_
 refine zst F S15.at' 2 fun w42 S42 _ F=>?_
 refine zdc F S42.at' 0 ?_
 exact ⟨i2_15,h2_15,(⟨l_4,W⟩:TouchD),Q7,Q9,Q8,ua,un,uc,rfl,(Mv.pick (tc7 S1 S4 S7 T10 S12 S15 S42) [1] rfl),(Rd.mq (Rd.mq V4_0 (tc5 S7 T10 S12 S15 S42)) (Mv.pick (Mv.refl S42.at') [1] rfl)),(Rd.mq (Rd.mq W12_0 (S15.trans S42)) (Mv.pick (Mv.refl S42.at') [1] rfl)),yk,yk,⟨by dsimp only;omega,by dsimp only;omega⟩⟩
theorem Jdj {s:List CellD} {s_a:Option Addr} {s_n s_c:Nat} (v_s:Rd 2 J6 okC H w (.slice s_a s_n s_c) s) (p0:s_n≤274877906944) :
 Calls prog 179 #[.slice s_a s_n s_c] w fun e w'=>∃ (Q3:Option Addr)(Q5 Q4:Nat)(Q0:Option Addr)(Q2 Q1:Nat)(Q6:Option Addr)(Q8 Q7:Nat),e=.returned (.agg #[.slice Q3 Q5 Q4,.slice Q0 Q2 Q1,.slice Q6 Q8 Q7])∧Mv [] w [] w'∧Rd 2 J6 okC (Fsh H w) w' (.slice Q3 Q5 Q4) s∧Rd 1 J3 okS (Fsh H w) w' (.slice Q0 Q2 Q1) ([])∧Rd 1 J3 okS (Fsh H w) w' (.slice Q6 Q8 Q7) ([]):=by
 have V_v_s:=Rd.start v_s zN
 obtain ⟨ln_s,le_s,mx_s,ni_s⟩:=Rd.inv v_s
 refine ze fun _ F=>?_
 refine zal F (At.nil w) JA fun b1 w1 S1 _ F=>?_
 refine zbs (ok:=okC) F S1.at' (([]:List CellD)) ET_28 (by simp) fun b3 w3 S3 _ F=>?_
 refine J0 (Jv (news:=s) F S3.at' 0 ET_28 rfl rfl rfl rfl rfl rfl (F.g rfl) (F.g rfl) ((Rd.mq V_v_s (S1.trans S3))).1 (by ((repeat (first|rw [List.length_append]|rw [List.length_cons]|rw [List.length_nil]|rw [List.length_take]|rw [List.length_drop])) <;> omega)) fun A6 N6 C6 _ w6 F S6 l6=>?_)
 refine zv (v:=.agg #[.slice A6 N6 C6,sN,sN]) F (J06 JaK rfl (lc (pr2 (F.g rfl)) rfl) rfl) fun _ F=>?_
 refine zst F S6.at' 1 fun w9 S9 _ F=>?_
 have T10:Mv _ _ [bx _ [_,_,_] _,_] _:=S9
 have Z11:Rd 2 J6 okC (V H w [bx b1 [.slice A6 N6 C6,sN,sN] 210]) w9 (.slice A6 N6 C6) (([]:List CellD)++s):=At.freeze (tc4 S1 S3 S6 T10) ET_28.hk 1 rfl (fun b hb=>((tc4 S1 S3 S6 T10).fresh b ⟨_,Jm (i:=1) rfl,hb⟩).resolve_left (JF _))
 have S11:=At.drop T10.at' 1
 refine zdc F T10.at' 0 ?_
 exact ⟨A6,N6,C6,none,0,0,none,0,0,rfl,(Mv.pick (tc5 S1 S3 S6 T10 S11) [] rfl),(Rd.cast (Rd.give Z11) (by rfl)),Rd.nil,Rd.nil⟩
end
section
variable {w:World} {H:Nat→Prop}
set_option maxRecDepth 100000
set_option maxHeartbeats 1000000
theorem JcN {c:CurD} {Q1:Option Addr} {Q0 Q2:Nat} {c_b:Nat} (Q10:RdA 1 J7 okB H w (.slice Q1 Q0 Q2) c.code) (Q27:J1 (c.pos:Int)) (Q26:J1 c.h) (p0:c.pos≤Q0) (hA:At w [bC c_b Q1 Q0 Q2 c.pos c.h]) (hD:∀ b,H b→¬ fps [bC c_b Q1 Q0 Q2 c.pos c.h] b) :
 Calls prog 123 #[pT c_b] w fun e w'=>∃ (i2:Nat)(h2:Int)(d:TxD)(Q20:Option Addr)(Q22 Q21:Nat)(Q17:Option Addr)(Q19 Q18:Nat)(Q11:Option Addr)(Q13 Q12:Nat)(Q14:Option Addr)(Q16 Q15:Nat)(Q23:Option Addr)(Q25 Q24:Nat),e=.returned (.agg #[iV d.id,iV d.age,iV d.proc,iV d.began,.slice Q20 Q22 Q21,.slice Q17 Q19 Q18,.slice Q11 Q13 Q12,.slice Q14 Q16 Q15,.slice Q23 Q25 Q24,iV d.state])∧Mv [bC c_b Q1 Q0 Q2 c.pos c.h] w [bC c_b Q1 Q0 Q2 i2 h2] w'∧i2≤Q0∧J1 h2∧J1 d.id∧J1 d.age∧J1 d.proc∧J1 d.began∧J1 d.state:=by
 have Q3:RdA 1 J7 okB (V (HP H [bC c_b Q1 Q0 Q2 c.pos c.h]) w [bC c_b Q1 Q0 Q2 c.pos c.h]) w (.slice Q1 Q0 Q2) c.code:=RdA.startP Q10 hD
 obtain ⟨Q29,Q28,Q30,Q31⟩:=RdA.inv Q10
 refine ze fun _ F=>?_
 refine zal F hA J1t fun b1 w1 S1 _ F=>?_
 refine zz F (JY (c:=c) (n:=4) (RdA.mv (Nat.succ_pos _) Q3 S1) (by unfold J1;(try dsimp only);omega) yd yg yb (At.pick (is:=[1]) S1.at' rfl) (J9 (is:=[1]))) ?_
 rintro _ w4 ⟨i2_4,h2_4,r_4,rfl,m4,q4_0,q4_1,q4_2,q4_3⟩
 refine zt fun _ F=>?_
 have S4:Mv _ _ [bx _ [_,_,_] _,bx _ [_,_,_,_,_,_,_,_,_,_] _] _:=At.frame S1.at' [1] rfl m4
 refine zq F ((1+r_4:Nat):Int) fun _ F=>?_
 refine zz F (JY (c:=(⟨c.code,i2_4,h2_4⟩:CurD)) (n:=5) (RdA.mv (Nat.succ_pos _) Q3 (S1.trans S4)) (by unfold J1;(try dsimp only);omega) yd yg yb (At.pick (is:=[0]) S4.at' rfl) (J9 (is:=[0]))) ?_
 rintro _ w8 ⟨i2_8,h2_8,r_8,rfl,m8,q8_0,q8_1,q8_2,q8_3⟩
 refine zt fun _ F=>?_
 have S8:Mv _ _ [bx _ [_,_,_] _,bx _ [_,_,_,_,_,_,_,_,_,_] _] _:=At.frame S4.at' [0] rfl m8
 refine zbs (ok:=okI) F S8.at' ([1,1,1,2,3]) ET_47 zlI fun b11 w11 S11 _ F=>?_
 refine zz F (J3K (H:=fun b=>¬ fps (sel _ [1]) b) (c:=(⟨c.code,i2_8,h2_8⟩:CurD)) (list:=[1,1,1,2,3]) (RdA.mono (RdA.mv (Nat.succ_pos _) Q3 (tc4 S1 S4 S8 S11)) (J9 (is:=[1]))) (by unfold J1;(try dsimp only);omega) yd (At.rdOff S11.at' ET_47.hk 0 rfl [1] rfl) yb yb (At.pick (is:=[1]) S11.at' rfl) (fun _ h=>h)) ?_
 rintro _ w13 ⟨i2_13,h2_13,r_13,rfl,m13,q13_0,q13_1,q13_2,q13_3⟩
 refine zt fun _ F=>?_
 have S13:Mv _ _ [bx _ [_,_,_] _,_,bx _ [_,_,_,_,_,_,_,_,_,_] _] _:=At.frame S11.at' [1] rfl m13
 refine zz F (J88 (c:=(⟨c.code,i2_13,h2_13⟩:CurD)) (RdA.mv (Nat.succ_pos _) Q3 (tc5 S1 S4 S8 S11 S13)) (by unfold J1;(try dsimp only);omega) yd yb (At.pick (is:=[0]) S13.at' rfl) (J9 (is:=[0]))) ?_
 rintro _ w16 ⟨i2_16,h2_16,d_16,Q4,Q6,Q5,Q7,Q9,Q8,rfl,m16,v16_0,v16_1,q16_0,q16_1,q16_2⟩
 refine zt fun _ F=>?_
 have S16:Mv _ _ [bx _ [_,_,_] _,_,bx _ [_,_,_,_,_,_,_,_,_,_] _] _:=At.frame S13.at' [0] rfl m16
 have V16_0:=Rd.gotR S13.at' S16 [0] (tc5 S1 S4 S8 S11 S13) v16_0
 obtain ⟨ln16_0,le16_0,mx16_0,ni16_0⟩:=Rd.inv V16_0
 have V16_1:=Rd.gotR S13.at' S16 [0] (tc5 S1 S4 S8 S11 S13) v16_1
 obtain ⟨ln16_1,le16_1,mx16_1,ni16_1⟩:=Rd.inv V16_1
 refine zv (v:=.agg #[iV ((1+r_4:Nat):Int),nV r_8,iV 0,iV 0,sN,sN,.slice Q4 Q6 Q5,.slice Q7 Q9 Q8,sN,iV r_13]) F (J06 J7B rfl (lc (pr2 (F.g rfl)) (lc (pr2 (F.g rfl)) (lc (pr2 (F.g rfl)) (lc (pr2 (F.g rfl)) rfl)))) rfl) fun _ F=>?_
 refine zst F S16.at' 2 fun w19 S19 _ F=>?_
 have T20:Mv _ _ [bx _ [_,_,_,_,_,_,_,_,_,_] _,bx _ [_,_,_] _,_] _:=S19
 refine zdc F T20.at' 0 ?_
 exact ⟨i2_16,h2_16,(⟨((1+r_4:Nat):Int),((r_8:Nat):Int),0,0,[],[],d_16,[],r_13⟩:TxD),none,0,0,none,0,0,Q4,Q6,Q5,Q7,Q9,Q8,none,0,0,rfl,(Mv.pick (tc7 S1 S4 S8 S11 S13 S16 T20) [1] rfl),yk,yk,yn,yn,yn,yn,yn⟩
theorem J8d {c:CurD} {Q1:Option Addr} {Q0 Q2:Nat} {c_b:Nat} (Q18:RdA 1 J7 okB H w (.slice Q1 Q0 Q2) c.code) (Q20:J1 (c.pos:Int)) (Q19:J1 c.h) (p0:c.pos≤Q0) (hA:At w [bC c_b Q1 Q0 Q2 c.pos c.h]) (hD:∀ b,H b→¬ fps [bC c_b Q1 Q0 Q2 c.pos c.h] b) :
 Calls prog 74 #[pT c_b] w fun e w'=>∃ (i2:Nat)(h2:Int)(l:List TxH)(r0_a:Option Addr)(r0_n r0_c:Nat),e=.returned (.slice r0_a r0_n r0_c)∧Mv [bC c_b Q1 Q0 Q2 c.pos c.h] w [ow 58 10 J1h J17 (.slice r0_a r0_n r0_c) l,bC c_b Q1 Q0 Q2 i2 h2] w'∧i2≤Q0∧J1 h2∧l.length≤4:=by
 have V_v_c_code:=RdA.start Q18 hD
 obtain ⟨Q22,Q21,Q23,Q24⟩:=RdA.inv Q18
 refine ze fun _ F=>?_
 refine zbs (ok:=J17) F hA (([]:List TxH)) ET_64 (by simp) fun b2 w2 S2 _ F=>?_
 refine JH S2.at' (fun lZ (k:Nat) aZ wZ=>∃ (pp:Nat)(hh:Int)(O:List TxH)(oa:Option Addr)(on oc:Nat),Fr 23 [(4,nV k),(3,.slice oa on oc),(0,pT c_b)] aZ∧Mv lZ w2 [ow 58 10 J1h J17 (.slice oa on oc) O,bC c_b Q1 Q0 Q2 pp hh] wZ∧(pp≤Q0)∧(J1 hh)∧(O.length=k)∧(k≤4)∧(on=O.length)) (fun (k:Nat)=>4 - k) (0) ?_ ?_
 ·exact ⟨c.pos,c.h,([]:List TxH),(aO b2),0,0,F.cut rfl,(Mv.refl S2.at'),zO,by assumption,rfl,zO,rfl⟩
 rintro k a6 w6 ⟨pp,hh,O,oa,on,oc,F,S6,hk_0,hk_1,hk_2,hk_3,hk_4⟩
 refine zr fun _ F=>?_
 refine zz F (JY (c:=(⟨c.code,pp,hh⟩:CurD)) (n:=4) (RdA.mv (Nat.succ_pos _) V_v_c_code (S2.trans S6)) (by unfold J1;(try dsimp only);omega) yd yg yb (At.pick (is:=[1]) S6.at' rfl) (J9 (is:=[1]))) ?_
 rintro _ w9 ⟨i2_9,h2_9,r_9,rfl,m9,q9_0,q9_1,q9_2,q9_3⟩
 refine zt fun _ F=>?_
 have S9:Mv _ _ [bx _ [_,_,_] _,_] _:=At.frame S6.at' [1] rfl m9
 refine zc F (k < r_9) fun _ F=>?_
 refine zi F (fun h12=>?_) fun h12=>?_
 ·refine zr fun _ F=>?_
  refine zz F (JcN (c:=(⟨c.code,i2_9,h2_9⟩:CurD)) (RdA.mv (Nat.succ_pos _) V_v_c_code (tc3 S2 S6 S9)) (by unfold J1;(try dsimp only);omega) yd yb (At.pick (is:=[0]) S9.at' rfl) (J9 (is:=[0]))) ?_
  rintro _ w14 ⟨i2_14,h2_14,d_14,Q12,Q14,Q13,Q9,Q11,Q10,Q3,Q5,Q4,Q6,Q8,Q7,Q15,Q17,Q16,rfl,m14,q14_0,q14_1,q14_2,q14_3,q14_4,q14_5,q14_6⟩
  refine zt fun _ F=>?_
  have S14:Mv _ _ [bx _ [_,_,_] _,_] _:=At.frame S9.at' [0] rfl m14
  refine zal F S14.at' J1t fun b16 w16 S16 _ F=>?_
  refine zst F S16.at' 0 fun w18 S18 _ F=>?_
  have T19:Mv _ _ [bx _ [_,_,_,_,_,_,_,_,_,_] _,bx _ [_,_,_] _,_] _:=S18
  refine zq F ((k+1:Nat):Int) fun _ F=>?_
  refine zst F T19.at' 0 fun w23 S23 _ F=>?_
  refine zw F S23.at' 0 fun _ F=>?_
  refine zbs (ok:=J17) F S23.at' ([(⟨(⟨((k+1:Nat):Int),d_14.age,d_14.proc,d_14.began,d_14.calls,d_14.answers,d_14.touch,d_14.marks,d_14.state⟩:TxD),Q12,Q14,Q13,Q9,Q11,Q10,Q3,Q5,Q4,Q6,Q8,Q7,Q15,Q17,Q16⟩:TxH)]) ET_64 (fun x hx=>(List.mem_singleton.1 hx) ▸ ⟨(show J1 ((k+1:Nat):Int) from by first|assumption|exact ⟨zO,zO⟩),(show J1 d_14.age from by first|assumption|exact ⟨zO,zO⟩),(show J1 d_14.proc from by first|assumption|exact ⟨zO,zO⟩),(show J1 d_14.began from by first|assumption|exact ⟨zO,zO⟩),(show J1 d_14.state from by first|assumption|exact ⟨zO,zO⟩)⟩) fun b26 w26 S26 _ F=>?_
  refine J0 (Jv (news:=[(⟨(⟨((k+1:Nat):Int),d_14.age,d_14.proc,d_14.began,d_14.calls,d_14.answers,d_14.touch,d_14.marks,d_14.state⟩:TxD),Q12,Q14,Q13,Q9,Q11,Q10,Q3,Q5,Q4,Q6,Q8,Q7,Q15,Q17,Q16⟩:TxH)]) F S26.at' 3 ET_64 rfl rfl rfl rfl rfl rfl (F.g rfl) (F.g rfl) ((At.rd S26.at' ET_64.hk 0 rfl)).1 yp fun A28 N28 C28 _ w28 F S28 l28=>?_)
  have S30:=At.drop S28.at' 1
  refine zr fun _ F=>?_
  have T32:Mv _ _ [_,bx _ [_,_,_,_,_,_,_,_,_,_] _,bx _ [_,_,_] _] _:=S30
  refine zq F ((k+1:Nat):Int) fun _ F=>?_
  exact ⟨k+1,zD,i2_14,h2_14,O++([(⟨(⟨((k+1:Nat):Int),d_14.age,d_14.proc,d_14.began,d_14.calls,d_14.answers,d_14.touch,d_14.marks,d_14.state⟩:TxD),Q12,Q14,Q13,Q9,Q11,Q10,Q3,Q5,Q4,Q6,Q8,Q7,Q15,Q17,Q16⟩:TxH)]),A28,N28,C28,F.cut rfl,((tc9 S6 S9 S14 S16 T19 S23 S26 S28 T32).pick [0,2] rfl),zO,by assumption,by simp;omega,zO,by assumption⟩
 refine zr fun _ F=>?_
 refine zd1 F ?_
 exact ⟨i2_9,h2_9,O,oa,on,oc,rfl,(Mv.pick (tc3 S2 S6 S9) [1,0] rfl),yk,yk,zO⟩
theorem Jcr {code:List Nat} {Q1:Option Addr} {Q0 Q2:Nat} (Q6:RdA 1 J7 okB H w (.slice Q1 Q0 Q2) code) (p0:Q0≤1048576) :
 Calls prog 23 #[.slice Q1 Q0 Q2] w fun e w'=>∃ (l:List TxH)(r0_a:Option Addr)(r0_n r0_c:Nat),e=.returned (.slice r0_a r0_n r0_c)∧Mv [] w [ow 58 10 J1h J17 (.slice r0_a r0_n r0_c) l] w'∧l.length≤10:=by
 have V_v_code:=RdA.start Q6 zN
 obtain ⟨Q8,Q7,Q12,Q13⟩:=RdA.inv Q6
 refine ze fun _ F=>?_
 refine zz F (J4X (code:=code) V_v_code yb) ?_
 rintro _ w3 ⟨h2_3,r0_b_3,rfl,m3,q3_0⟩
 refine zt fun _ F=>?_
 have S3:Mv _ _ [bx _ [_,_,_] _] _:=At.frame (At.nil w) [] rfl m3
 refine zz F (J8d (c:=(⟨code,0,h2_3⟩:CurD)) (RdA.mv (Nat.succ_pos _) V_v_code S3) (by unfold J1;(try dsimp only);omega) yd yb (At.pick (is:=[0]) S3.at' rfl) (J9 (is:=[0]))) ?_
 rintro _ w7 ⟨i2_7,h2_7,l_7,Q3,Q5,Q4,rfl,m7,q7_0,q7_1,q7_2⟩
 refine zt fun _ F=>?_
 have S7:Mv _ _ [_,bx _ [_,_,_] _] _:=At.frame S3.at' [0] rfl m7
 obtain ⟨Q9,Q10,Q11⟩:=At.ownInv S7.at' ET_64.hk 0 rfl
 refine zz F (J1y (c:=(⟨code,i2_7,h2_7⟩:CurD)) (n:=3) (RdA.mv (Nat.succ_pos _) V_v_code (S3.trans S7)) (by unfold J1;(try dsimp only);omega) yd yg yb (At.pick (is:=[1]) S7.at' rfl) (J9 (is:=[1]))) ?_
 rintro _ w11 ⟨i2_11,h2_11,r_11,rfl,m11,q11_0,q11_1⟩
 refine zt fun _ F=>?_
 have S11:Mv _ _ [bx _ [_,_,_] _,_] _:=At.frame S7.at' [1] rfl m11
 refine zib F (fun h13=>?_) fun h13=>?_
 ·refine zr fun _ F=>?_
  refine JH S11.at' (fun lZ (k:Nat) aZ wZ=>∃ (pp:Nat)(hh:Int)(O:List TxH)(oa:Option Addr)(on oc:Nat),Fr 22 [(4,.slice oa on oc),(3,pT r0_b_3)] aZ∧Mv lZ w11 [bC r0_b_3 Q1 Q0 Q2 pp hh,ow 58 10 J1h J17 (.slice oa on oc) O] wZ∧(pp≤Q0)∧(J1 hh)∧(O.length≤10)∧(k≤O.length)∧(on=O.length)) (fun (k:Nat)=>10 - k) (0) ?_ ?_
  ·exact ⟨i2_11,h2_11,l_7,Q3,Q5,Q4,F.cut rfl,(Mv.refl S11.at'),zO,by assumption,zO,zO,by assumption⟩
  rintro k a14 w14 ⟨pp,hh,O,oa,on,oc,F,S14,hk_0,hk_1,hk_2,hk_3,hk_4⟩
  refine zr fun _ F=>?_
  refine zz F (JY (c:=(⟨code,pp,hh⟩:CurD)) (n:=3) (RdA.mv (Nat.succ_pos _) V_v_code (tc4 S3 S7 S11 S14)) (by unfold J1;(try dsimp only);omega) yd yg yb (At.pick (is:=[0]) S14.at' rfl) (J9 (is:=[0]))) ?_
  rintro _ w18 ⟨i2_18,h2_18,r_18,rfl,m18,q18_0,q18_1,q18_2,q18_3⟩
  refine zt fun _ F=>?_
  have S18:Mv _ _ [bx _ [_,_,_] _,_] _:=At.frame S14.at' [0] rfl m18
  refine zq F ((3+r_18:Nat):Int) fun _ F=>?_
  refine zc F (on < 3+r_18) fun _ F=>?_
  refine zi F (fun h22=>?_) fun h22=>?_
  ·refine zr fun _ F=>?_
   refine zv (v:=.agg #[iV 0,iV 0,iV 0,iV 0,sN,sN,sN,sN,sN,iV 1]) F (J06 J7B rfl (lc (pr2 rfl) rfl) rfl) fun _ F=>?_
   refine zbs (ok:=J17) F S18.at' ([(⟨(⟨0,0,0,0,[],[],(⟨[],[]⟩:TouchD),[],1⟩:TxD),none,0,0,none,0,0,none,0,0,none,0,0,none,0,0⟩:TxH)]) ET_64 (fun x hx=>(List.mem_singleton.1 hx) ▸ ⟨(show J1 0 from by first|assumption|exact ⟨zO,zO⟩),(show J1 0 from by first|assumption|exact ⟨zO,zO⟩),(show J1 0 from by first|assumption|exact ⟨zO,zO⟩),(show J1 0 from by first|assumption|exact ⟨zO,zO⟩),(show J1 1 from by first|assumption|exact ⟨zO,zO⟩)⟩) fun b25 w25 S25 _ F=>?_
   refine J0 (Jv (news:=[(⟨(⟨0,0,0,0,[],[],(⟨[],[]⟩:TouchD),[],1⟩:TxD),none,0,0,none,0,0,none,0,0,none,0,0,none,0,0⟩:TxH)]) F S25.at' 2 ET_64 rfl rfl rfl rfl rfl rfl (F.g rfl) (F.g rfl) ((At.rd S25.at' ET_64.hk 0 rfl)).1 yp fun A27 N27 C27 _ w27 F S27 l27=>?_)
   have S29:=At.drop S27.at' 1
   refine zr fun _ F=>?_
   have T31:Mv _ _ [_,bx _ [_,_,_] _] _:=S29
   exact ⟨k+1,zD,i2_18,h2_18,O++([(⟨(⟨0,0,0,0,[],[],(⟨[],[]⟩:TouchD),[],1⟩:TxD),none,0,0,none,0,0,none,0,0,none,0,0,none,0,0⟩:TxH)]),A27,N27,C27,F.cut rfl,((tc5 S14 S18 S25 S27 T31).pick [1,0] rfl),zO,by assumption,by simp;omega,by simp;omega,by assumption⟩
  refine zr fun _ F=>?_
  refine zd1 F ?_
  exact ⟨O,oa,on,oc,rfl,(Mv.pick (tc5 S3 S7 S11 S14 S18) [1] rfl),zO⟩
 refine zr fun _ F=>?_
 refine zd1 F ?_
 exact ⟨l_7,Q3,Q5,Q4,rfl,(Mv.pick (tc3 S3 S7 S11) [1] rfl),zO⟩
theorem Jcs {code:List Nat} {Q1:Option Addr} {Q0 Q2:Nat} (Q3:RdA 1 J7 okB H w (.slice Q1 Q0 Q2) code) (tab0:Tb 0 H w) (p0:Q0≤1048576) :
 Calls prog 25 #[.slice Q1 Q0 Q2] w fun e w'=>∃ (d:JouD)(n:Int),e=.returned (.tuple #[.agg #[.string d.text,iV d.sure],iV n])∧Mv [] w [] w'∧okS d.text∧J1 d.sure∧J1 n:=by
 have V_v_code:=RdA.start Q3 zN
 obtain ⟨Q6,Q5,Q7,Q8⟩:=RdA.inv Q3
 have V_tab0:=Tb.start tab0 zN
 refine ze fun _ F=>?_
 refine zal F (At.nil w) J2d fun b1 w1 S1 _ F=>?_
 refine zz F (J4X (code:=code) (RdA.mv (Nat.succ_pos _) V_v_code S1) yb) ?_
 rintro _ w5 ⟨h2_5,r0_b_5,rfl,m5,q5_0⟩
 refine zt fun _ F=>?_
 have S5:Mv _ _ [bx _ [_,_,_] _,bx _ [_,_] _] _:=At.frame S1.at' [] rfl m5
 refine zz F (J83 (c:=(⟨code,0,h2_5⟩:CurD)) (RdA.mv (Nat.succ_pos _) V_v_code (S1.trans S5)) (by unfold J1;(try dsimp only);omega) yd (Tb.mv V_tab0 (S1.trans S5)) yb (At.pick (is:=[0]) S5.at' rfl) (J9 (is:=[0]))) ?_
 rintro _ w9 ⟨i2_9,h2_9,d_9,rfl,m9,Q4,q9_0,q9_1,q9_2⟩
 refine zt fun _ F=>?_
 have S9:Mv _ _ [bx _ [_,_,_] _,bx _ [_,_] _] _:=At.frame S5.at' [0] rfl m9
 refine zbs (ok:=okI) F S9.at' ([0,1,10,4000,20000,(-1),9223372036854775807]) ET_47 zlI fun b12 w12 S12 _ F=>?_
 refine zz F (J3K (H:=fun b=>¬ fps (sel _ [1]) b) (c:=(⟨code,i2_9,h2_9⟩:CurD)) (list:=[0,1,10,4000,20000,(-1),9223372036854775807]) (RdA.mono (RdA.mv (Nat.succ_pos _) V_v_code (tc4 S1 S5 S9 S12)) (J9 (is:=[1]))) (by unfold J1;(try dsimp only);omega) yd (At.rdOff S12.at' ET_47.hk 0 rfl [1] rfl) yb yb (At.pick (is:=[1]) S12.at' rfl) (fun _ h=>h)) ?_
 rintro _ w14 ⟨i2_14,h2_14,r_14,rfl,m14,q14_0,q14_1,q14_2,q14_3⟩
 refine zt fun _ F=>?_
 have S14:Mv _ _ [bx _ [_,_,_] _,_,bx _ [_,_] _] _:=At.frame S12.at' [1] rfl m14
 refine zst F S14.at' 2 fun w16 S16 _ F=>?_
 have T18:Mv _ _ [bx _ [_,_] _,bx _ [_,_,_] _,_] _:=S16
 refine zde F T18.at' 0 ?_
 exact ⟨d_9,r_14,rfl,(Mv.pick (tc6 S1 S5 S9 S12 S14 T18) [] rfl),Q4,yBa,yk⟩
theorem Jct {code:List Nat} {Q1:Option Addr} {Q0 Q2:Nat} (Q3:RdA 1 J7 okB H w (.slice Q1 Q0 Q2) code) (tab0:Tb 0 H w) (p0:Q0≤1048576) :
 Calls prog 26 #[.slice Q1 Q0 Q2] w fun e w'=>∃ (d:JouD)(l:List TxH)(n:Int)(r1_a:Option Addr)(r1_n r1_c:Nat),e=.returned (.tuple #[.agg #[.string d.text,iV d.sure],.slice r1_a r1_n r1_c,iV n])∧Mv [] w [ow 58 10 J1h J17 (.slice r1_a r1_n r1_c) l] w'∧okS d.text∧J1 d.sure∧l.length≤10∧J1 n:=by
 have V_v_code:=RdA.start Q3 zN
 obtain ⟨Q9,Q8,Q13,Q14⟩:=RdA.inv Q3
 have V_tab0:=Tb.start tab0 zN
 refine ze fun _ F=>?_
 refine zal F (At.nil w) J2d fun b1 w1 S1 _ F=>?_
 refine zz F (J4X (code:=code) (RdA.mv (Nat.succ_pos _) V_v_code S1) yb) ?_
 rintro _ w6 ⟨h2_6,r0_b_6,rfl,m6,q6_0⟩
 refine zt fun _ F=>?_
 have S6:Mv _ _ [bx _ [_,_,_] _,bx _ [_,_] _] _:=At.frame S1.at' [] rfl m6
 refine zz F (J83 (c:=(⟨code,0,h2_6⟩:CurD)) (RdA.mv (Nat.succ_pos _) V_v_code (S1.trans S6)) (by unfold J1;(try dsimp only);omega) yd (Tb.mv V_tab0 (S1.trans S6)) yb (At.pick (is:=[0]) S6.at' rfl) (J9 (is:=[0]))) ?_
 rintro _ w10 ⟨i2_10,h2_10,d_10,rfl,m10,Q4,q10_0,q10_1,q10_2⟩
 refine zt fun _ F=>?_
 have S10:Mv _ _ [bx _ [_,_,_] _,bx _ [_,_] _] _:=At.frame S6.at' [0] rfl m10
 refine zz F (J8d (c:=(⟨code,i2_10,h2_10⟩:CurD)) (RdA.mv (Nat.succ_pos _) V_v_code (tc3 S1 S6 S10)) (by unfold J1;(try dsimp only);omega) yd yb (At.pick (is:=[0]) S10.at' rfl) (J9 (is:=[0]))) ?_
 rintro _ w13 ⟨i2_13,h2_13,l_13,Q5,Q7,Q6,rfl,m13,q13_0,q13_1,q13_2⟩
 refine zt fun _ F=>?_
 have S13:Mv _ _ [_,bx _ [_,_,_] _,bx _ [_,_] _] _:=At.frame S10.at' [0] rfl m13
 obtain ⟨Q10,Q11,Q12⟩:=At.ownInv S13.at' ET_64.hk 0 rfl
 refine zbs (ok:=okI) F S13.at' ([0,1,10,4000,(-1),9223372036854775807]) ET_47 zlI fun b16 w16 S16 _ F=>?_
 refine zz F (J3K (H:=fun b=>¬ fps (sel _ [2]) b) (c:=(⟨code,i2_13,h2_13⟩:CurD)) (list:=[0,1,10,4000,(-1),9223372036854775807]) (RdA.mono (RdA.mv (Nat.succ_pos _) V_v_code (tc5 S1 S6 S10 S13 S16)) (J9 (is:=[2]))) (by unfold J1;(try dsimp only);omega) yd (At.rdOff S16.at' ET_47.hk 0 rfl [2] rfl) yb yb (At.pick (is:=[2]) S16.at' rfl) (fun _ h=>h)) ?_
 rintro _ w18 ⟨i2_18,h2_18,r_18,rfl,m18,q18_0,q18_1,q18_2,q18_3⟩
 refine zt fun _ F=>?_
 have S18:Mv _ _ [bx _ [_,_,_] _,_,_,bx _ [_,_] _] _:=At.frame S16.at' [2] rfl m18
 refine zst F S18.at' 3 fun w20 S20 _ F=>?_
 have T23:Mv _ _ [bx _ [_,_] _,bx _ [_,_,_] _,_,_] _:=S20
 refine Jg F (JQ rfl (zca F T23.at' 0) (zta F) (zta F)) ?_
 exact ⟨d_10,l_13,r_18,Q5,Q7,Q6,rfl,(Mv.pick (tc7 S1 S6 S10 S13 S16 S18 T23) [3] rfl),Q4,yBa,zO,yk⟩
end
end Go.Proofs.YtipdbeklopjbmaaGreatDoor
