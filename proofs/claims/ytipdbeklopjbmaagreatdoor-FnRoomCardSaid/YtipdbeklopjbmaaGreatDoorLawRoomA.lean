/-
  PROVED HERE: whatever the input, the statement laws.FnRoom returns true. Condition: the tables and errors of the library that the row lists stand as the program's.
-/
import Derived.Test.YtipdbeklopjbmaaGreatDoorP30
import Derived.Test.YtipdbeklopjbmaaGreatDoorP27
set_option linter.unusedVariables false
set_option linter.unusedSimpArgs false
namespace Go.Proofs.YtipdbeklopjbmaaGreatDoor
open Go.ChangeShapes Go.WideShapes Go.ChangeAt Go.RowKit Go.Proofs.Tryz
variable {w:World} {H:Nat→Prop}
set_option maxRecDepth 100000
set_option maxHeartbeats 1000000
theorem n_sl {P:Program} {ops:Array Oper} {S:World→Prop} {ex r:List Nat} {o:Oper} {a:Act} {w:World} {Q:Exit→Act→World→Prop} {n i d:Nat} {m:List (Nat × Value)} (F:Fr n m a) (hS:S w) (hi:ops[i]? = some o) (ht:((JT o && !ex.contains i) && JM o)=true) (hw:J8 ops m o=some false) (hd:o.dst=some d) (hp:Nat.blt d n=true) (k:∀ a',Fr n ((d,undef)::m) a'→Ji P ops ex Q S r a' w):Ji P ops ex Q S (i::r) a w:=by
 rw [Bool.and_eq_true] at ht
 refine ⟨o,hi,?_⟩
 rw [if_pos ht.1]
 refine ⟨undef,by rw [if_pos ht.2];exact ⟨hS,.inr ⟨Jk F hw,rfl⟩⟩,?_⟩
 rw [hd]
 exact k _ (F.put rfl hp)
theorem JfC {j:JouD} {l:List TxD} {n:Int} (h:(!(J3d j l n))=false):J10 j ((J0V l:Nat):Int)=true:=by
 have h:J3d j l n=true:=by simpa using h
 unfold J3d at h
 unfold J10 J9E at *
 simp only [Bool.and_eq_true,decide_eq_true_eq] at *
 exact ⟨⟨h.1.1,zO⟩,by have:=h.2;omega⟩
theorem Jdd {code:List Nat} {Q6:Option Addr} {Q8 Q7:Nat} (Q9:RdA 1 J7 okB H w (.slice Q6 Q8 Q7) code) (tab0:Tb 0 H w) (tab1:Tb 1 H w) (tab2:Tb 2 H w) :
 Calls prog 5 #[.slice Q6 Q8 Q7] w fun e w'=>e=.returned (.bool true)∧Mv [] w [] w':=by
 have Q2:RdA 1 J7 okB (V (HP H []) w []) w (.slice Q6 Q8 Q7) code:=RdA.startP Q9 (fun _ _=>JF _)
 obtain ⟨Q13,Q12,Q35,Q36⟩:=RdA.inv Q9
 have V_tab0:Tb 0 (V (HP H []) w []) w:=Tb.startP tab0 (fun _ _=>JF _)
 have V_tab1:Tb 1 (V (HP H []) w []) w:=Tb.startP tab1 (fun _ _=>JF _)
 have V_tab2:Tb 2 (V (HP H []) w []) w:=Tb.startP tab2 (fun _ _=>JF _)
 refine ze fun _ F=>?_
 refine zzp F (At.nil w) (Jef (code:=code) Q2) fun w3 S3 _ F=>?_
 refine zi F (fun h5=>?_) fun h5=>?_
 ·refine zr fun _ F=>?_
  refine zd1 F ?_
  exact ⟨rfl,(Mv.pick S3 [] rfl)⟩
 refine zr fun _ F=>?_
 refine zz F (Jcr (code:=code) (RdA.mv (Nat.succ_pos _) Q2 S3) yb) ?_
 rintro _ w8 ⟨l_8,Q38,Q42,Q40,rfl,m8,q8_0⟩
 refine zt fun _ F=>?_
 have S8:Mv _ _ [_] _:=At.frame S3.at' [] rfl m8
 obtain ⟨Q20,Q27,Q34⟩:=At.ownInv S8.at' ET_64.hk 0 rfl
 refine zz F (Jcn (code:=code) (RdA.mv (Nat.succ_pos _) Q2 (S3.trans S8)) (Tb.mv V_tab0 (S3.trans S8)) (Tb.mv V_tab1 (S3.trans S8)) (Tb.mv V_tab2 (S3.trans S8)) yb) ?_
 rintro _ w12 ⟨s_12,d_12,Q37,Q41,Q39,Q54,Q56,Q55,Q50,Q52,Q51,Q43,Q45,Q44,Q46,Q48,Q47,Q57,Q59,Q58,rfl,m12,v12_0,v12_1,v12_2,q12_0,q12_1,q12_2,q12_3,q12_4,q12_5,q12_6,q12_7⟩
 refine zt fun _ F=>?_
 have S12:Mv _ _ [_,_,_,_] _:=At.frame S8.at' [] rfl m12
 obtain ⟨Q14,Q21,Q28⟩:=At.ownInv S12.at' ET_54.hk 0 rfl
 obtain ⟨Q15,Q22,Q29⟩:=At.ownInv S12.at' ET_55.hk 1 rfl
 obtain ⟨Q16,Q23,Q30⟩:=At.ownInv S12.at' ET_47.hk 2 rfl
 have V12_0:=Rd.gotR S8.at' S12 [] (S3.trans S8) v12_0
 obtain ⟨ln12_0,le12_0,mx12_0,ni12_0⟩:=Rd.inv V12_0
 have V12_1:=Rd.gotR S8.at' S12 [] (S3.trans S8) v12_1
 obtain ⟨ln12_1,le12_1,mx12_1,ni12_1⟩:=Rd.inv V12_1
 have V12_2:=Rd.gotR S8.at' S12 [] (S3.trans S8) v12_2
 obtain ⟨ln12_2,le12_2,mx12_2,ni12_2⟩:=Rd.inv V12_2
 refine zal F S12.at' J1t fun b17 w17 S17 _ F=>?_
 refine zst F S17.at' 0 fun w20 S20 _ F=>?_
 have T21:Mv _ _ [bx _ [_,_,_,_,_,_,_,_,_,_] _,_,_,_,_] _:=S20
 refine zz F (Jcs (code:=code) (RdA.mv (Nat.succ_pos _) Q2 (tc5 S3 S8 S12 S17 T21)) (Tb.mv V_tab0 (tc5 S3 S8 S12 S17 T21)) yb) ?_
 rintro _ w23 ⟨d_23,n_23,rfl,m23,Q5,q23_0,q23_1⟩
 refine zt fun _ F=>?_
 have S23:=At.frame0 T21.at' m23
 refine zal F S23.at' J2d fun b28 w28 S28 _ F=>?_
 refine zst F S28.at' 0 fun w30 S30 _ F=>?_
 refine zz F (Jct (code:=code) (RdA.mv (Nat.succ_pos _) Q2 (tc8 S3 S8 S12 S17 T21 S23 S28 S30)) (Tb.mv V_tab0 (tc8 S3 S8 S12 S17 T21 S23 S28 S30)) yb) ?_
 rintro _ w33 ⟨d_33,l_33,n_33,Q49,Q60,Q53,rfl,m33,Q1,q33_0,q33_1,q33_2⟩
 refine zt fun _ F=>?_
 have S33:Mv _ _ [_,bx _ [_,_] _,bx _ [_,_,_,_,_,_,_,_,_,_] _,_,_,_,_] _:=At.frame S30.at' [] rfl m33
 obtain ⟨Q18,Q25,Q32⟩:=At.ownInv S33.at' ET_64.hk 0 rfl
 refine zal F S33.at' J2d fun b39 w39 S39 _ F=>?_
 refine zst F S39.at' 0 fun w41 S41 _ F=>?_
 have T44:Mv _ _ [bx _ [_,_] _,_,bx _ [_,_] _,bx _ [_,_,_,_,_,_,_,_,_,_] _,_,_,_,_] _:=S41
 have hll:=J52 (l_8.map TxH.d)
 rw [List.length_map] at hll
 have hbk:=Jfl (l:=l_33.map TxH.d) (List.length_map ..).symm zO
 refine J2Q (fun lZ aZ wZ=>∃ (Q3:Option Addr)(Q0 Q4:Nat),Fr 99 [(2,.bool true)] aZ∧Mv lZ w41 (lZ++[qI Q3 Q0 Q4 (J0I (l_8.map TxH.d))]) wZ∧okS d_33.text∧okS d_23.text) [] (.l [0,2,1,3,4,5,6,8,7,9,10,11,12,13,14,15,16,18,19,17,20,21,22,23,24,25,27,28,26,29,30,31,32,33,34,35,37,38,39,36,40,41,42,43,44,45,46,47,48,49,50,51,52,53,54,55,56,57,58,59,60,61,62,63,64,65,66,67,68]) T44.at' [3,2,0] zK (fun w46 S46 hS=>enL ?_) ?_
 ·refine zg fun _ F=>?_
  refine J2 rfl rfl (zzr F S46.at' (J6a (H:=fun _=>True) (list:=l_8) (At.rd S46.at' ET_64.hk 7 rfl) yb) fun w49 S49 _ F=>?_)
  refine nS (Sd.of S49 [3,2,0] rfl) fun hS=>?_
  refine J2 rfl rfl (zzr F S49.at' (Jdg (H:=fun _=>True) (list:=l_8) (At.rd S49.at' ET_64.hk 7 rfl) yb) fun w51 S51 _ F=>?_)
  refine nS (Sd.of (S49.trans S51) [3,2,0] rfl) fun hS=>?_
  refine Jr F rfl rfl (fun _=>(J7r (b:=true) underlying4 (.inl rfl) rfl (F.g rfl) (F.g rfl) (J6V (show (decide ((J0I (l_8.map TxH.d)).length < 4))=(decide ((J0I (l_8.map TxH.d)).length < 4)) from rfl)))) fun _ F=>?_
  refine zg fun _ F=>?_
  refine J2 rfl rfl (zzr F S51.at' (J62 (H:=fun _=>True) (list:=l_8) (At.rd S51.at' ET_64.hk 7 rfl) yb) fun w57 S57 _ F=>?_)
  refine nS (Sd.of (tc3 S49 S51 S57) [3,2,0] rfl) fun hS=>?_
  refine J2 rfl rfl (zz1 F (J6b (H:=fun _=>True) (list:=l_8) (At.rd S57.at' ET_64.hk 7 rfl) yb) ?_)
  rintro _ w59 ⟨Q3,Q0,Q4,rfl,m59⟩
  refine ⟨_,rfl,fun _ F=>?_⟩
  have S59:Mv _ _ [_,bx _ [_,_] _,_,bx _ [_,_] _,bx _ [_,_,_,_,_,_,_,_,_,_] _,_,_,_,_] _:=At.frame S57.at' [] rfl m59
  obtain ⟨Q19,Q26,Q33⟩:=At.ownInv S59.at' ET_47.hk 0 rfl
  refine nS (Sd.of (tc4 S49 S51 S57 S59) [4,3,1] rfl) fun hS=>?_
  refine Jr F rfl rfl (fun _=>(J4f underlying47 rfl (F.g rfl))) fun _ F=>?_
  refine Jr F rfl rfl (fun _=>(Jbr (z:=((4000 * Q0:Nat):Int)) rfl rfl (F.g rfl) yBp ⟨yBb,yBb⟩)) fun _ F=>?_
  refine Jr F rfl rfl (fun _=>(J3H (b:=decide (J0V (l_8.map TxH.d)=4000 * Q0)) (.inl rfl) rfl (F.g rfl) (F.g rfl) (J1V zO))) fun _ F=>?_
  rw [show (decide (J0V (l_8.map TxH.d)=4000 * Q0))=true from decide_eq_true (by unfold J0V;omega)] at F
  refine zg fun _ F=>?_
  refine J2 rfl rfl (zzr F S59.at' (JcQ (H:=fun _=>True) (s:=s_12) (x:=d_12) (Rd.top (Rd.mq V12_0 (JE S17 T21 S23 S28 S30 S33 S39 T44 S46 S49 S51 (S57.trans S59)))) yf yf yf yf (At.rd S59.at' ET_54.hk 5 rfl) (At.rd S59.at' ET_55.hk 6 rfl) (Rd.top (Rd.mq V12_1 (JE S17 T21 S23 S28 S30 S33 S39 T44 S46 S49 S51 (S57.trans S59)))) (Rd.top (Rd.mq V12_2 (JE S17 T21 S23 S28 S30 S33 S39 T44 S46 S49 S51 (S57.trans S59)))) (At.rd S59.at' ET_47.hk 7 rfl) yf (Tb.top (Tb.mv V_tab0 (JE S3 S8 S12 S17 T21 S23 S28 S30 S33 S39 T44 (tc5 S46 S49 S51 S57 S59)))) (Tb.top (Tb.mv V_tab1 (JE S3 S8 S12 S17 T21 S23 S28 S30 S33 S39 T44 (tc5 S46 S49 S51 S57 S59)))) (Tb.top (Tb.mv V_tab2 (JE S3 S8 S12 S17 T21 S23 S28 S30 S33 S39 T44 (tc5 S46 S49 S51 S57 S59)))) yb yb yb yb) fun w70 S70 _ F=>?_)
  refine nS (Sd.of (tc5 S49 S51 S57 S59 S70) [4,3,1] rfl) fun hS=>?_
  refine J2 rfl rfl (zzr F S70.at' (JcX (H:=fun _=>True) (s:=s_12) (x:=d_12) (Rd.top (Rd.mq V12_0 (JE S17 T21 S23 S28 S30 S33 S39 T44 S46 S49 S51 (tc3 S57 S59 S70)))) yf yf yf yf (At.rd S70.at' ET_54.hk 5 rfl) (At.rd S70.at' ET_55.hk 6 rfl) (Rd.top (Rd.mq V12_1 (JE S17 T21 S23 S28 S30 S33 S39 T44 S46 S49 S51 (tc3 S57 S59 S70)))) (Rd.top (Rd.mq V12_2 (JE S17 T21 S23 S28 S30 S33 S39 T44 S46 S49 S51 (tc3 S57 S59 S70)))) (At.rd S70.at' ET_47.hk 7 rfl) yf (Tb.top (Tb.mv V_tab0 (JE S3 S8 S12 S17 T21 S23 S28 S30 S33 S39 T44 (tc6 S46 S49 S51 S57 S59 S70)))) (Tb.top (Tb.mv V_tab1 (JE S3 S8 S12 S17 T21 S23 S28 S30 S33 S39 T44 (tc6 S46 S49 S51 S57 S59 S70)))) (Tb.top (Tb.mv V_tab2 (JE S3 S8 S12 S17 T21 S23 S28 S30 S33 S39 T44 (tc6 S46 S49 S51 S57 S59 S70)))) yb yb yb yb) fun w72 S72 _ F=>?_)
  refine nS (Sd.of (tc6 S49 S51 S57 S59 S70 S72) [4,3,1] rfl) fun hS=>?_
  refine Jr F rfl rfl (fun _=>(J3H (b:=true) (.inl rfl) rfl (F.g rfl) (F.g rfl) (Jgc _))) fun _ F=>?_
  refine zg fun _ F=>?_
  refine J2 rfl rfl (zzr F S72.at' (J3o (H:=fun _=>True) (j:=d_23) (n:=n_23) Q5 yf yg) fun w81 S81 _ F=>?_)
  refine nS (Sd.of (tc7 S49 S51 S57 S59 S70 S72 S81) [4,3,1] rfl) fun hS=>?_
  refine J2 rfl rfl (zzr F S81.at' (J8m (H:=fun _=>True) (j:=d_23) (n:=n_23) Q5 yf yg) fun w83 S83 _ F=>?_)
  refine nS (Sd.of (tc8 S49 S51 S57 S59 S70 S72 S81 S83) [4,3,1] rfl) fun hS=>?_
  refine Jr F rfl rfl (fun _=>(J7r (b:=true) underlying4 (.inl rfl) rfl (F.g rfl) (F.g rfl) (J6V (show (J10 d_23 n_23)=(J10 d_23 n_23) from rfl)))) fun _ F=>?_
  refine zg fun _ F=>?_
  refine J2 rfl rfl (zzr F S83.at' (J8k (H:=fun _=>True) (j:=d_33) (list:=l_33) (n:=n_33) Q1 yf (At.rd S83.at' ET_64.hk 2 rfl) yg yb) fun w94 S94 _ F=>?_)
  refine nS (Sd.of (tc9 S49 S51 S57 S59 S70 S72 S81 S83 S94) [4,3,1] rfl) fun hS=>?_
  refine J2 rfl rfl (zzr F S94.at' (Jdk (H:=fun _=>True) (j:=d_33) (list:=l_33) (n:=n_33) Q1 yf (At.rd S94.at' ET_64.hk 2 rfl) yg yb) fun w96 S96 _ F=>?_)
  refine nS (Sd.of (J0X S49 S51 S57 S59 S70 S72 S81 S83 S94 S96) [4,3,1] rfl) fun hS=>?_
  refine Jr F rfl rfl (fun _=>(J7r (b:=true) underlying4 (.inl rfl) rfl (F.g rfl) (F.g rfl) (J6V (show (J3d d_33 (l_33.map TxH.d) n_33)=(J3d d_33 (l_33.map TxH.d) n_33) from rfl)))) fun _ F=>?_
  refine zg fun _ F=>?_
  refine J2 rfl rfl (zzr F S96.at' (J8k (H:=fun _=>True) (j:=d_33) (list:=l_33) (n:=n_33) Q1 yf (At.rd S96.at' ET_64.hk 2 rfl) yg yb) fun w104 S104 _ F=>?_)
  refine nS (Sd.of (J2C S49 S51 S57 S59 S70 S72 S81 S83 S94 S96 S104) [4,3,1] rfl) fun hS=>?_
  refine Jr F rfl rfl (fun _=>(J0q rfl (F.g rfl))) fun _ F=>?_
  refine zg fun _ F=>?_
  rcases Bool.eq_false_or_eq_true (!(J3d d_33 (l_33.map TxH.d) n_33)) with h108|h108
  ·rw [h108] at F
   refine n_sl F hS rfl rfl rfl rfl rfl fun _ F=>?_
   refine zg fun _ F=>?_
   refine J2 rfl rfl (J7k F (J3z F rfl rfl rfl rfl) rfl rfl fun _ F=>?_)
   refine nS0 ?_
   refine J2 rfl rfl (J7k F (J3z F rfl rfl rfl rfl) rfl rfl fun _ F=>?_)
   refine nS0 ?_
   refine zg fun _ F=>?_
   refine J2 rfl rfl (zzr F S104.at' (J6a (H:=fun _=>True) (list:=[]) Rd.nil yb) fun w116 S116 _ F=>?_)
   rw [show (decide ((J0I (([]).map TxH.d)).length < 4))=true from rfl] at F
   refine nS (Sd.of (JE S49 S51 S57 S59 S70 S72 S81 S83 S94 S96 S104 S116) [4,3,1] rfl) fun hS=>?_
   refine zg fun _ F=>?_
   refine J2 rfl rfl (Jf (v:=.agg #[.string bE_,iV 0]) F (J3z F rfl rfl rfl rfl) rfl (J06 J49 rfl rfl rfl) rfl fun _ F=>?_)
   refine nS0 ?_
   refine J2 rfl rfl (zzr F S116.at' (J3o (H:=fun _=>True) (j:=(⟨bE_,0⟩:JouD)) (n:=20000) (by unfold okS;decide) yf yg) fun w121 S121 _ F=>?_)
   rw [show (J10 (⟨bE_,0⟩:JouD) 20000)=true from by decide] at F
   refine nS (Sd.of (JE S49 S51 S57 S59 S70 S72 S81 S83 S94 S96 S104 (S116.trans S121)) [4,3,1] rfl) fun hS=>?_
   refine zg fun _ F=>?_
   refine J2 rfl rfl (Jf (v:=.agg #[.string bE_,iV 0]) F (J3z F rfl rfl rfl rfl) rfl (J06 J49 rfl rfl rfl) rfl fun _ F=>?_)
   refine nS0 ?_
   refine J2 rfl rfl (zzr F S121.at' (J3o (H:=fun _=>True) (j:=(⟨bE_,0⟩:JouD)) (n:=20001) (by unfold okS;decide) yf yg) fun w126 S126 _ F=>?_)
   rw [show (J10 (⟨bE_,0⟩:JouD) 20001)=false from by decide] at F
   refine nS (Sd.of (JE S49 S51 S57 S59 S70 S72 S81 S83 S94 S96 S104 (tc3 S116 S121 S126)) [4,3,1] rfl) fun hS=>?_
   refine Jr F rfl rfl (fun _=>(J0q rfl (F.g rfl))) fun _ F=>?_
   refine zg fun _ F=>?_
   exact ⟨Q3,Q0,Q4,F.cut rfl,((JE S46 S49 S51 S57 S59 S70 S72 S81 S83 S94 S96 (tc4 S104 S116 S121 S126)).pick [1,2,3,4,5,6,7,8,0] rfl),Q1,Q5⟩
  rw [h108] at F
  refine zg fun _ F=>?_
  refine J2 rfl rfl (zzr F S104.at' (J62 (H:=fun _=>True) (list:=l_33) (At.rd S104.at' ET_64.hk 2 rfl) yb) fun w133 S133 _ F=>?_)
  refine nS (Sd.of (JE S49 S51 S57 S59 S70 S72 S81 S83 S94 S96 S104 S133) [4,3,1] rfl) fun hS=>?_
  refine J2 rfl rfl (zzr F S133.at' (J3o (H:=fun _=>True) (j:=d_33) (n:=((J0V (l_33.map TxH.d):Nat):Int)) Q1 yf yg) fun w135 S135 _ F=>?_)
  rw [show (J10 d_33 ((J0V (l_33.map TxH.d):Nat):Int))=true from JfC zA] at F
  refine nS (Sd.of (JE S49 S51 S57 S59 S70 S72 S81 S83 S94 S96 S104 (S133.trans S135)) [4,3,1] rfl) fun hS=>?_
  refine zg fun _ F=>?_
  refine J2 rfl rfl (zzr F S135.at' (J6a (H:=fun _=>True) (list:=[]) Rd.nil yb) fun w140 S140 _ F=>?_)
  rw [show (decide ((J0I (([]).map TxH.d)).length < 4))=true from rfl] at F
  refine nS (Sd.of (JE S49 S51 S57 S59 S70 S72 S81 S83 S94 S96 S104 (tc3 S133 S135 S140)) [4,3,1] rfl) fun hS=>?_
  refine zg fun _ F=>?_
  refine J2 rfl rfl (Jf (v:=.agg #[.string bE_,iV 0]) F (J3z F rfl rfl rfl rfl) rfl (J06 J49 rfl rfl rfl) rfl fun _ F=>?_)
  refine nS0 ?_
  refine J2 rfl rfl (zzr F S140.at' (J3o (H:=fun _=>True) (j:=(⟨bE_,0⟩:JouD)) (n:=20000) (by unfold okS;decide) yf yg) fun w145 S145 _ F=>?_)
  rw [show (J10 (⟨bE_,0⟩:JouD) 20000)=true from by decide] at F
  refine nS (Sd.of (JE S49 S51 S57 S59 S70 S72 S81 S83 S94 S96 S104 (tc4 S133 S135 S140 S145)) [4,3,1] rfl) fun hS=>?_
  refine zg fun _ F=>?_
  refine J2 rfl rfl (Jf (v:=.agg #[.string bE_,iV 0]) F (J3z F rfl rfl rfl rfl) rfl (J06 J49 rfl rfl rfl) rfl fun _ F=>?_)
  refine nS0 ?_
  refine J2 rfl rfl (zzr F S145.at' (J3o (H:=fun _=>True) (j:=(⟨bE_,0⟩:JouD)) (n:=20001) (by unfold okS;decide) yf yg) fun w150 S150 _ F=>?_)
  rw [show (J10 (⟨bE_,0⟩:JouD) 20001)=false from by decide] at F
  refine nS (Sd.of (JE S49 S51 S57 S59 S70 S72 S81 S83 S94 S96 S104 (tc5 S133 S135 S140 S145 S150)) [4,3,1] rfl) fun hS=>?_
  refine Jr F rfl rfl (fun _=>(J0q rfl (F.g rfl))) fun _ F=>?_
  refine zg fun _ F=>?_
  exact ⟨Q3,Q0,Q4,F.cut rfl,((JE S46 S49 S51 S57 S59 S70 S72 S81 S83 S94 S96 (tc6 S104 S133 S135 S140 S145 S150)).pick [1,2,3,4,5,6,7,8,0] rfl),Q1,Q5⟩
 rintro a155 w155 ⟨Q3,Q0,Q4,F,S155,Q10,Q11⟩
 have S155:Mv _ _ [bx _ [_,_] _,_,bx _ [_,_] _,bx _ [_,_,_,_,_,_,_,_,_,_] _,_,_,_,_,_] _:=S155
 obtain ⟨Q17,Q24,Q31⟩:=At.ownInv S155.at' ET_47.hk 8 rfl
 refine zr fun _ F=>?_
 refine zd1 F ?_
 exact ⟨rfl,(Mv.pick (JE S3 S8 S12 S17 T21 S23 S28 S30 S33 S39 T44 S155) [] rfl)⟩
end Go.Proofs.YtipdbeklopjbmaaGreatDoor
namespace Go.Proofs.YtipdbeklopjbmaaGreatDoor.room
open Go.ChangeShapes Go.WideShapes Go.ChangeAt Go.RowKit Go.Proofs.Tryz
set_option maxRecDepth 100000
theorem Jgb:prog.cellsOf 5=1:=by kernel_rfl
theorem Jbt : "*" ++ "errors.errorString"= "*errors.errorString" := by decide
theorem J7V (u:TypeId) (h:prog.typeName? 3 u=some "*errors.errorString"):u=363:=
 typeName_ptr_named (nm:= "errors.errorString") (by rw [Jbt];kernel_rfl) zK (by decide) u (by rw [Jbt];exact h)
theorem J7h:prog.cellsOf 365=1:=by kernel_rfl
theorem J6U:prog.cellsOf 9=1:=by kernel_rfl
theorem Jgi {W:World} (h:laidMet prog [("math/bits.deBruijn32tab",Rows.laid_math_bits_deBruijn32tab),("math/bits.deBruijn64tab",Rows.laid_math_bits_deBruijn64tab),("internal/strconv.uint64pow10",Rows.laid_internal_strconv_uint64pow10),("strconv.ErrRange",Rows.laid_strconv_ErrRange),("strconv.ErrSyntax",Rows.laid_strconv_ErrSyntax),("encoding/hex.ErrLength",Rows.laid_encoding_hex_ErrLength)] W):Tb 0 (fun _=>True) W:=by
 have e:(Rows.laid_internal_strconv_uint64pow10:DataW Unit)=Lib.tabData .u64 Lib.pow10Tab:=by kernel_rfl
 have h2:laidMet prog (("internal/strconv.uint64pow10",Lib.tabData .u64 Lib.pow10Tab)::[("strconv.ErrRange",Rows.laid_strconv_ErrRange),("strconv.ErrSyntax",Rows.laid_strconv_ErrSyntax),("encoding/hex.ErrLength",Rows.laid_encoding_hex_ErrLength)]) W:=by rw [← e];exact h.tail.tail
 have h3:Lib.TabIs prog W "internal/strconv.uint64pow10" .u64 Lib.pow10Tab:=Lib.tabIs_of_head laysItoa.m17 (t:=367) (e:=331) (n:=20) zK underlying367 underlying331 zK zK h2
 exact ⟨h3,fun g hg=>by rw [List.mem_singleton.1 hg];exact ⟨trivial,Lib.lt_of_cell (h3.cell laysItoa.m17 0 (by decide))⟩⟩
theorem Jgj {W:World} (h:laidMet prog [("math/bits.deBruijn32tab",Rows.laid_math_bits_deBruijn32tab),("math/bits.deBruijn64tab",Rows.laid_math_bits_deBruijn64tab),("internal/strconv.uint64pow10",Rows.laid_internal_strconv_uint64pow10),("strconv.ErrRange",Rows.laid_strconv_ErrRange),("strconv.ErrSyntax",Rows.laid_strconv_ErrSyntax),("encoding/hex.ErrLength",Rows.laid_encoding_hex_ErrLength)] W):Tb 1 (fun _=>True) W:=by
 have gS:prog.globalNamed "strconv.ErrSyntax"=some (laysAtoi_ren.g 15):=by kernel_rfl
 obtain ⟨aS,sS,vS,-,-,-⟩:=laid_sentinel (h.tail.tail.tail.tail) gS (ti:=197) zK underlying197 J7V underlying363 underlying365 rfl rfl underlying9 J7h J6U
 have cS:=J6S gS vS
 have gR:prog.globalNamed "strconv.ErrRange"=some (laysAtoi_ren.g 16):=by kernel_rfl
 obtain ⟨aR,sR,vR,-,-,-⟩:=laid_sentinel (h.tail.tail.tail) gR (ti:=197) zK underlying197 J7V underlying363 underlying365 rfl rfl underlying9 J7h J6U
 have cR:=J6S gR vR
 exact ⟨⟨⟨_,cS,.inr ⟨_,_,rfl⟩⟩,⟨_,cR,.inr ⟨_,_,rfl⟩⟩⟩,fun g hg=>by
  rcases List.mem_cons.1 hg with e|hg
  ·rw [e];exact ⟨trivial,Lib.lt_of_cell cS⟩
  rw [List.mem_singleton.1 hg];exact ⟨trivial,Lib.lt_of_cell cR⟩⟩
theorem Jgk {W:World} (h:laidMet prog [("math/bits.deBruijn32tab",Rows.laid_math_bits_deBruijn32tab),("math/bits.deBruijn64tab",Rows.laid_math_bits_deBruijn64tab),("internal/strconv.uint64pow10",Rows.laid_internal_strconv_uint64pow10),("strconv.ErrRange",Rows.laid_strconv_ErrRange),("strconv.ErrSyntax",Rows.laid_strconv_ErrSyntax),("encoding/hex.ErrLength",Rows.laid_encoding_hex_ErrLength)] W):Tb 2 (fun _=>True) W:=by
 have gH:prog.globalNamed "encoding/hex.ErrLength"=some (laysUnhex_ren.g 0):=by kernel_rfl
 obtain ⟨aH,sH,vH,-,-,-⟩:=laid_sentinel (h.tail.tail.tail.tail.tail) gH (ti:=197) zK underlying197 J7V underlying363 underlying365 rfl rfl underlying9 J7h J6U
 have cH:=J6S gH vH
 exact ⟨⟨_,cH,.inr ⟨_,_,rfl⟩⟩,fun g hg=>by rw [List.mem_singleton.1 hg];exact ⟨trivial,Lib.lt_of_cell cH⟩⟩
theorem Jh6 (W:World) (args:Array Value) (h:J9z prog W f5.params.toList args.toList) (t0:Tb 0 (fun _=>True) W) (t1:Tb 1 (fun _=>True) W) (t2:Tb 2 (fun _=>True) W):Calls prog 5 args W fun e W'=>e=.returned (.bool true)∧Bl W W':=by
 obtain ⟨hl,h⟩:=h
 rw [params5] at hl h
 obtain ⟨v0,rfl⟩:∃ v0,args=#[v0]:=by
  obtain ⟨l⟩:=args
  match l,hl with
  | [v0],_=>exact ⟨v0,rfl⟩
 obtain ⟨r0,o0⟩:=h 0 _ v0 rfl rfl
 have q0:=Jf8 underlying62 trivial o0 r0
 obtain ⟨a_0,n_0,c_0,l_0,e_0,v_0⟩:=JhL underlying62 Jgb (by decide) (Ji2 underlying5) q0
 cases e_0
 exact (Jdd (w:=W) (H:=fun _=>True) (code:=l_0) v_0 t0 t1 t2).mono fun e W' ⟨h1,h2⟩=>⟨h1,h2.bl⟩
theorem own:ownKnob prog.godebug=none:=by kernel_rfl
theorem Jgq:laidOutB prog=true:=by kernel_rfl
theorem JfT:∀ t ∈ f5.params.toList,prog.readableRec t=true∧t < prog.types.size:=of_decide_eq_true zK
theorem Jfs (os:Os) (args:Array Value):laidMetH prog [("math/bits.deBruijn32tab",Rows.laid_math_bits_deBruijn32tab),("math/bits.deBruijn64tab",Rows.laid_math_bits_deBruijn64tab),("internal/strconv.uint64pow10",Rows.laid_internal_strconv_uint64pow10),("strconv.ErrRange",Rows.laid_strconv_ErrRange),("strconv.ErrSyntax",Rows.laid_strconv_ErrSyntax),("encoding/hex.ErrLength",Rows.laid_encoding_hex_ErrLength)] ((World.doorLaid prog 91 os).forCall (fun _ _=>0) ⟨#[],args,[]⟩).memory:=
 laidMetH_of_parts3 (fuel:=8) (laidMet_of_run' 8 zK zK) zK zK
theorem Jhm (os:Os) (started:os.Started) (H:Type) (enc:TypeId × Value→H) :
 ReturnsInHanded {} Tryz.checked os 5 .any (fun w args=>(Rows.fnRoomSpec.pre enc prog f5 [] false w args∧laidMetH prog [("math/bits.deBruijn32tab",Rows.laid_math_bits_deBruijn32tab),("math/bits.deBruijn64tab",Rows.laid_math_bits_deBruijn64tab),("internal/strconv.uint64pow10",Rows.laid_internal_strconv_uint64pow10),("strconv.ErrRange",Rows.laid_strconv_ErrRange),("strconv.ErrSyntax",Rows.laid_strconv_ErrSyntax),("encoding/hex.ErrLength",Rows.laid_encoding_hex_ErrLength)] w)∧sizedMet enc prog f5 (OpenSpec.ofChange Rows.fnRoomSpec) false w args)
  (Rows.fnRoomSpec.post enc prog f5 false true false false):=by
 refine returnsInHanded_of_change_and (C:=Tryz.checked) (X:=fun w _=>laidMetH prog [("math/bits.deBruijn32tab",Rows.laid_math_bits_deBruijn32tab),("math/bits.deBruijn64tab",Rows.laid_math_bits_deBruijn64tab),("internal/strconv.uint64pow10",Rows.laid_internal_strconv_uint64pow10),("strconv.ErrRange",Rows.laid_strconv_ErrRange),("strconv.ErrSyntax",Rows.laid_strconv_ErrSyntax),("encoding/hex.ErrLength",Rows.laid_encoding_hex_ErrLength)] w) (fun _ _ _ hh h=>h.of_heap hh) own started zK func5
  (ChangeSpec.witness_shaped (enc:=enc) (C:=Tryz.checked) (os:=os) (X:=fun w _=>laidMetH prog [("math/bits.deBruijn32tab",Rows.laid_math_bits_deBruijn32tab),("math/bits.deBruijn64tab",Rows.laid_math_bits_deBruijn64tab),("internal/strconv.uint64pow10",Rows.laid_internal_strconv_uint64pow10),("strconv.ErrRange",Rows.laid_strconv_ErrRange),("strconv.ErrSyntax",Rows.laid_strconv_ErrSyntax),("encoding/hex.ErrLength",Rows.laid_encoding_hex_ErrLength)] w) false (World.doorLaid prog 91 os) #[sN] 8 rfl (World.shaped_of_RefB zK zK) zK zK zK (Jfs os _)) ?_
 intro W base args ds gs before hval0 hW _ _ hL _
 have hval:∀ (j:Nat) t v,f5.params[j]? = some t→args[j]? = some v→Value.okWide prog W .any 0 t v:=hval0
 have hM:laidMet prog [("math/bits.deBruijn32tab",Rows.laid_math_bits_deBruijn32tab),("math/bits.deBruijn64tab",Rows.laid_math_bits_deBruijn64tab),("internal/strconv.uint64pow10",Rows.laid_internal_strconv_uint64pow10),("strconv.ErrRange",Rows.laid_strconv_ErrRange),("strconv.ErrSyntax",Rows.laid_strconv_ErrSyntax),("encoding/hex.ErrLength",Rows.laid_encoding_hex_ErrLength)] W:=by
  have h:=hL
  rw [MakeChecks.laidMetH_plain _ _ _ zK] at h
  exact h
 refine Jdc Jgq JfT underlying4 rfl rfl ?_ H enc false true false false W args ds gs before (fun h=>Jh6 W args h (Jgi hM) (Jgj hM) (Jgk hM)) hval hW
 intro H ds hd
 match ds,hd with
 | [a],_=>rfl
end Go.Proofs.YtipdbeklopjbmaaGreatDoor.room
