/-
  Walks: the texts of records.
-/
import Derived.Test.YtipdbeklopjbmaaGreatDoorP14
set_option linter.unusedVariables false
set_option linter.unusedSimpArgs false
namespace Go.Proofs.YtipdbeklopjbmaaGreatDoor
open Go.ChangeShapes Go.WideShapes Go.ChangeAt Go.RowKit Go.Proofs.Tryz
variable {w:World} {H:Nat→Prop}
set_option maxRecDepth 100000
set_option maxHeartbeats 1000000
theorem JcP {H:Nat→Prop} {text:ByteArray} (Q0:okS text) :
 Calls prog 155 #[.string text] w fun e w'=>e=.returned (iV ((J04 (Jb text):Nat):Int))∧Mv [] w [] w':=by
 have hT:=Q0
 unfold okS at hT
 refine ze fun _ F=>?_
 refine JH (At.nil w) (fun lZ (k:Nat) aZ wZ=>∃ (n:Nat),Fr 20 [(7,nV k),(6,nV text.size),(3,nV n),(0,.string text)] aZ∧Mv lZ w [] wZ∧(k≤text.size)∧(n=J04 ((Jb text).take k))) (fun (k:Nat)=>text.size - k) (0) ?_ ?_
 ·exact ⟨7,F.cut rfl,(Mv.refl (At.nil w)),zO,rfl⟩
 rintro k a6 w6 ⟨n,F,S6,hk_0,hk_1⟩
 have hb:=J1B text k
 have hs:=J5s (l:=(Jb text).take k)
 refine zr fun _ F=>?_
 refine zc F (k < text.size) (hb:=by exact yBl) fun _ F=>?_
 refine zi F (fun h8=>?_) fun h8=>?_
 ·refine zr fun _ F=>?_
  refine zq F ((31 * n:Nat):Int) fun _ F=>?_
  refine zv F (J0Y (i:=k) underlying9 rfl (F.g rfl) (F.g rfl) zO yq) fun _ F=>?_
  refine zv F (J1a underlying3 underlying5 rfl (F.g rfl) ⟨zO,yBr⟩) fun _ F=>?_
  refine zq F (((31 * n)+(J5 text k):Nat):Int) fun _ F=>?_
  have rm18:=Nat.mod_lt ((31 * n)+(J5 text k)) (show 0 < 9973 by decide)
  refine zv F (J3D (c:=9973) rfl (by decide) rfl (F.g rfl) rfl) fun _ F=>?_
  refine zq F ((k+1:Nat):Int) fun _ F=>?_
  exact ⟨k+1,zD,((31 * n)+(J5 text k)) % 9973,F.cut rfl,(S6.pick [] rfl),zO,by rw [hk_1];exact Ja6 zO⟩
 refine zr fun _ F=>?_
 refine zd1 F ?_
 exact ⟨(zV1 (zVi (by rw [hk_1,JaE hk_0 zA]))),(Mv.pick S6 [] rfl)⟩
theorem J64 {H:Nat→Prop} {text:ByteArray} (Q0:okS text) :
 Calls prog 146 #[.string text] w fun e w'=>e=.returned (iV ((J04 (Jb text):Nat):Int))∧Mv [] w [] w':=by
 have hT:=Q0
 unfold okS at hT
 refine ze fun _ F=>?_
 refine JH (At.nil w) (fun lZ (k:Nat) aZ wZ=>∃ (n:Nat),Fr 20 [(4,nV k),(3,nV n),(0,.string text)] aZ∧Mv lZ w [] wZ∧(k≤text.size)∧(n=J04 ((Jb text).take k))) (fun (k:Nat)=>text.size - k) (0) ?_ ?_
 ·exact ⟨7,F.cut rfl,(Mv.refl (At.nil w)),zO,rfl⟩
 rintro k a4 w4 ⟨n,F,S4,hk_0,hk_1⟩
 have hb:=J1B text k
 have hs:=J5s (l:=(Jb text).take k)
 refine zr fun _ F=>?_
 refine zc F (k < text.size) (hb:=by exact yBl) fun _ F=>?_
 refine zi F (fun h9=>?_) fun h9=>?_
 ·refine zr fun _ F=>?_
  refine zq F ((31 * n:Nat):Int) fun _ F=>?_
  refine zv F (J0Y (i:=k) underlying9 rfl (F.g rfl) (F.g rfl) zO yq) fun _ F=>?_
  refine zv F (J1a underlying3 underlying5 rfl (F.g rfl) ⟨zO,yBr⟩) fun _ F=>?_
  refine zq F (((31 * n)+(J5 text k):Nat):Int) fun _ F=>?_
  have rm17:=Nat.mod_lt ((31 * n)+(J5 text k)) (show 0 < 9973 by decide)
  refine zv F (J3D (c:=9973) rfl (by decide) rfl (F.g rfl) rfl) fun _ F=>?_
  refine zq F ((k+1:Nat):Int) fun _ F=>?_
  exact ⟨k+1,zD,((31 * n)+(J5 text k)) % 9973,F.cut rfl,(S4.pick [] rfl),zO,by rw [hk_1];exact Ja6 zO⟩
 refine zr fun _ F=>?_
 refine zd1 F ?_
 exact ⟨(zV1 (zVi (by rw [hk_1,JaE hk_0 zA]))),(Mv.pick S4 [] rfl)⟩
theorem J4T {seq:Int} {list:List CellD} {Q2:Option Addr} {Q0 Q3:Nat} (Q1:J1 seq) (Q4:Rd 2 J6 okC H w (.slice Q2 Q0 Q3) list) (p0:list.length≤4294967280) :
 Calls prog 107 #[iV seq,.slice Q2 Q0 Q3] w fun e w'=>e=.returned (.string (J0z seq list))∧Mv [] w [] w'∧okS (J0z seq list):=by
 have hds:=J2i seq Q1
 have V_v_list:=Rd.start Q4 zN
 obtain ⟨Q7,Q6,Q11,Q12⟩:=Rd.inv Q4
 refine ze fun _ F=>?_
 refine zzp F (At.nil w) (J2Y (H:=fun _=>True) (x:=seq) (least:=1) (most:=100000) Q1 yg yg) fun w3 S3 _ F=>?_
 refine zv F (J0q rfl (F.g rfl)) fun _ F=>?_
 refine zib F (fun h6=>?_) fun h6=>?_
 ·refine zr fun _ F=>?_
  refine zd1 F ?_
  exact ⟨(zV1 (zVs yj)),(Mv.pick S3 [] rfl),((show bE_=(J0z seq list) from by first|exact J2b (nt zA)|exact J0J hx1 (J27 zA)|exact J0J hx1 (J28 zA)|exact J22 (congrArg List.length hk_1) zO|exact J25 (by rw [← J05 hk_1 zO];assumption)|(rw [J05 hk_1 zO];exact J26 (nf zA) (fun j hj=>hk_2 j zO) (by rw [← J05 hk_1 zO];assumption))) ▸ (by unfold okS;decide))⟩
 refine zr fun _ F=>?_
 refine zzq F S3.at' (J2W (H:=fun _=>True) (n:=seq) Q1) ?_
 rintro w9 S9 Q18 _ F
 refine J0 (JeS F S9.at' underlying9 underlying62 underlying5 rfl rfl rfl rfl (F.g rfl) yq fun b11 N11 C11 _ w11 F S11 l11=>?_)
 refine zr fun _ F=>?_
 refine JH S11.at' (fun lZ (k:Nat) aZ wZ=>∃ (D:List Nat)(oa:Option Addr)(on oc:Nat),Fr 85 [(6,nV k),(5,.slice oa on oc),(1,.slice Q2 Q0 Q3)] aZ∧Mv lZ w11 [owX 5 (.slice oa on oc) D] wZ∧(k≤Q0)∧(D=J0y seq (list.take k))∧(∀ j,j < k→∀ c,nth list j=some c→J1F c=true)∧(D.length≤4300)) (fun (k:Nat)=>Q0 - k) (0) ?_ ?_
 ·exact ⟨Jb (Jj seq),(aO b11),N11,C11,F.cut rfl,(Mv.refl S11.at'),zO,by unfold J0y;rw [List.take_zero,List.flatMap_nil,List.append_nil],fun j hj=>by omega,by rw [J0A];omega⟩
 rintro k a15 w15 ⟨D,oa,on,oc,F,S15,hk_0,hk_1,hk_2,hk_3⟩
 obtain ⟨Q8,Q9,Q10⟩:=At.ownInvX S15.at' 0 rfl
 refine zr fun _ F=>?_
 refine zc F (k < Q0) (hb:=by exact yBl) fun _ F=>?_
 refine zi F (fun h20=>?_) fun h20=>?_
 ·refine zr fun _ F=>?_
  obtain ⟨B23,O23,x1,ad23,hx1,okx1,ln23,cl23⟩:=Rd.at (Rd.mq V_v_list (tc4 S3 S9 S11 S15)) k yq
  clear ln23
  refine zv F (JB (i:=k) ET_28 rfl ((F.ev 24 rfl).trans (by rw [ad23])) (F.g rfl) zO yq) fun _ F=>?_
  refine zv (v:=.string x1.key) F (JD (cs:=[.string x1.key]) J0j rfl (F.g rfl) rfl (fun _=>rfl) (JN (f:=0) cl23 [.string x1.key] rfl)) fun _ F=>?_
  refine zzp F S15.at' (J8v (H:=fun _=>True) (key:=x1.key) okx1.1) fun w27 S27 _ F=>?_
  refine zv F (J0q rfl (F.g rfl)) fun _ F=>?_
  rcases Bool.eq_false_or_eq_true (!(J0L x1.key)) with h31|h31
  ·rw [h31] at F
   refine zr fun _ F=>?_
   have T45:Mv _ _ [_] _:=S27
   refine zd1 F ?_
   exact ⟨(zV1 (zVs yj)),(Mv.pick (tc5 S3 S9 S11 S15 T45) [] rfl),((show bE_=(J0z seq list) from by first|exact J2b (nt zA)|exact J0J hx1 (J27 zA)|exact J0J hx1 (J28 zA)|exact J22 (congrArg List.length hk_1) zO|exact J25 (by rw [← J05 hk_1 zO];assumption)|(rw [J05 hk_1 zO];exact J26 (nf zA) (fun j hj=>hk_2 j zO) (by rw [← J05 hk_1 zO];assumption))) ▸ (by unfold okS;decide))⟩
  rw [h31] at F
  refine zr fun _ F=>?_
  obtain ⟨B49,O49,y49,ad49,hy49,oky49,ln49,cl49⟩:=Rd.at (Rd.mq V_v_list (tc5 S3 S9 S11 S15 S27)) k yq
  clear ln49
  obtain rfl:=Option.some.inj (hx1.symm.trans hy49)
  clear hy49 oky49
  refine zv F (JB (i:=k) ET_28 rfl ((F.ev 32 rfl).trans (by rw [ad49])) (F.g rfl) zO yq) fun _ F=>?_
  refine zv (v:=.string x1.val) F (JD (cs:=[.string x1.val]) J0j rfl (F.g rfl) rfl (fun _=>rfl) (JN (f:=1) cl49 [.string x1.val] rfl)) fun _ F=>?_
  refine zc F (x1.val.size > 60) (hb:=by exact yBl) fun _ F=>?_
  rcases Decidable.em (x1.val.size > 60) with h57|h57
  ·rw [decide_eq_true h57] at F
   refine zr fun _ F=>?_
   have T62:Mv _ _ [_] _:=S27
   refine zd1 F ?_
   exact ⟨(zV1 (zVs yj)),(Mv.pick (tc5 S3 S9 S11 S15 T62) [] rfl),((show bE_=(J0z seq list) from by first|exact J2b (nt zA)|exact J0J hx1 (J27 zA)|exact J0J hx1 (J28 zA)|exact J22 (congrArg List.length hk_1) zO|exact J25 (by rw [← J05 hk_1 zO];assumption)|(rw [J05 hk_1 zO];exact J26 (nf zA) (fun j hj=>hk_2 j zO) (by rw [← J05 hk_1 zO];assumption))) ▸ (by unfold okS;decide))⟩
  rw [decide_eq_false h57] at F
  refine zr fun _ F=>?_
  refine zc F (on > 4000) (hb:=by exact yBl) fun _ F=>?_
  have T68:Mv _ _ [_] _:=S27
  refine zi F (fun h69=>?_) fun h69=>?_
  ·refine zr fun _ F=>?_
   refine zd1 F ?_
   exact ⟨(zV1 (zVs yj)),(Mv.pick (tc5 S3 S9 S11 S15 T68) [] rfl),((show bE_=(J0z seq list) from by first|exact J2b (nt zA)|exact J0J hx1 (J27 zA)|exact J0J hx1 (J28 zA)|exact J22 (congrArg List.length hk_1) zO|exact J25 (by rw [← J05 hk_1 zO];assumption)|(rw [J05 hk_1 zO];exact J26 (nf zA) (fun j hj=>hk_2 j zO) (by rw [← J05 hk_1 zO];assumption))) ▸ (by unfold okS;decide))⟩
  refine zr fun _ F=>?_
  have hs1:=J59 (nf zA)
  have hs2:=J2H x1.key
  have hs3:=J2H x1.val
  obtain ⟨B73,O73,y73,ad73,hy73,oky73,ln73,cl73⟩:=Rd.at (Rd.mq V_v_list (tc5 S3 S9 S11 S15 T68)) k yq
  clear ln73
  obtain rfl:=Option.some.inj (hx1.symm.trans hy73)
  clear hy73 oky73
  refine zv F (JB (i:=k) ET_28 rfl ((F.ev 46 rfl).trans (by rw [ad73])) (F.g rfl) zO yq) fun _ F=>?_
  refine zv (v:=.string x1.key) F (JD (cs:=[.string x1.key]) J0j rfl (F.g rfl) rfl (fun _=>rfl) (JN (f:=0) cl73 [.string x1.key] rfl)) fun _ F=>?_
  refine zzq F T68.at' (J6C (H:=fun _=>True) (text:=x1.key) okx1.1 yb) ?_
  rintro w77 S77 Q17 _ F
  obtain ⟨B86,O86,y86,ad86,hy86,oky86,ln86,cl86⟩:=Rd.at (Rd.mq V_v_list (tc6 S3 S9 S11 S15 T68 S77)) k yq
  clear ln86
  obtain rfl:=Option.some.inj (hx1.symm.trans hy86)
  clear hy86 oky86
  refine zv F (JB (i:=k) ET_28 rfl ((F.ev 55 rfl).trans (by rw [ad86])) (F.g rfl) zO yq) fun _ F=>?_
  refine zv (v:=.string x1.val) F (JD (cs:=[.string x1.val]) J0j rfl (F.g rfl) rfl (fun _=>rfl) (JN (f:=1) cl86 [.string x1.val] rfl)) fun _ F=>?_
  refine zzq F S77.at' (J6C (H:=fun _=>True) (text:=x1.val) okx1.2 yb) ?_
  rintro w90 S90 Q19 _ F
  refine zbs (ok:=okB) F S90.at' ([32]) ET_62 (fun x hx=>(List.mem_singleton.1 hx) ▸ (show 32 < 256 by omega)) fun b98 w98 S98 _ F=>?_
  refine J0 (J7j (news:=[32]) F S98.at' 1 ET_62 rfl rfl rfl rfl rfl rfl (F.g rfl) (F.g rfl) ((At.rd S98.at' ET_62.hk 0 rfl)).1 (by simp) (by ((repeat (first|rw [List.length_append]|rw [List.length_cons]|rw [List.length_nil]|rw [J0A])) <;> omega)) fun A100 N100 C100 _ w100 F S100 l100=>?_)
  have S102:=At.drop S100.at' 1
  refine zr fun _ F=>?_
  refine J0 (Jal (bs:=Jb (Js x1.key)) F S102.at' 0 ET_62 underlying9 rfl rfl rfl rfl rfl rfl rfl rfl (F.g rfl) (F.g rfl) rfl (by ((repeat (first|rw [List.length_append]|rw [List.length_cons]|rw [List.length_nil]|rw [J0A])) <;> omega)) fun A104 N104 C104 _ w104 F S104 l104=>?_)
  refine zbs (ok:=okB) F S104.at' ([61]) ET_62 (fun x hx=>(List.mem_singleton.1 hx) ▸ (show 61 < 256 by omega)) fun b106 w106 S106 _ F=>?_
  refine J0 (J7j (news:=[61]) F S106.at' 1 ET_62 rfl rfl rfl rfl rfl rfl (F.g rfl) (F.g rfl) ((At.rd S106.at' ET_62.hk 0 rfl)).1 (by simp) (by ((repeat (first|rw [List.length_append]|rw [List.length_cons]|rw [List.length_nil]|rw [J0A])) <;> omega)) fun A108 N108 C108 _ w108 F S108 l108=>?_)
  have S110:=At.drop S108.at' 1
  refine zr fun _ F=>?_
  refine J0 (Jal (bs:=Jb (Js x1.val)) F S110.at' 0 ET_62 underlying9 rfl rfl rfl rfl rfl rfl rfl rfl (F.g rfl) (F.g rfl) rfl (by ((repeat (first|rw [List.length_append]|rw [List.length_cons]|rw [List.length_nil]|rw [J0A])) <;> omega)) fun A112 N112 C112 _ w112 F S112 l112=>?_)
  refine zr fun _ F=>?_
  have T115:Mv _ _ [_] _:=S112
  refine zq F ((k+1:Nat):Int) fun _ F=>?_
  exact ⟨k+1,zD,(((D++([32]))++Jb (Js x1.key))++([61]))++Jb (Js x1.val),A112,N112,C112,F.cut rfl,((JE S15 T68 S77 S90 S98 S100 S102 S104 S106 S108 S110 T115).pick [0] rfl),zO,Ja2 hk_1 hx1,Jaz hk_2 hx1 (J93 zA zA),by (repeat (first|rw [List.length_append]|rw [List.length_cons]|rw [List.length_nil]|rw [J0A]));omega⟩
 refine zr fun _ F=>?_
 have hz3:=J1n D
 have hz4:=J5s (l:=Jb (Je D))
 have hz5:=J2i ((J04 (Jb (Je D)):Nat):Int) ⟨zO,zO⟩
 have hz6:(⟨#[32,35]⟩:ByteArray).size=2:=rfl
 have hz7:(⟨#[10]⟩:ByteArray).size=1:=rfl
 refine J2Q (fun lZ aZ wZ=>Fr 85 [(11,.string ((((Je D)++(⟨#[32,35]⟩:ByteArray))++(Jj ((J04 (Jb (Je D)):Nat):Int)))++(⟨#[10]⟩:ByteArray)))] aZ∧Mv lZ w15 lZ wZ∧okS ((((Je D)++(⟨#[32,35]⟩:ByteArray))++(Jj ((J04 (Jb (Je D)):Nat):Int)))++(⟨#[10]⟩:ByteArray))) [] (.b2 [0,3] 1 (.l [2,4,5,6,7,8,9]) 4 (.b2 [] 1 (.l [2,5,6,7,8,9]) 5 (.b2 [] 1 (.l [2,6,7,8,9]) 6 (.l [1,2,7,8,9])))) S15.at' [] zK (fun w120 S120 hS=>en2 ?_) ?_
 ·refine zg fun _ F=>?_
  refine J03 ?_ ?_
  ·refine Jh rfl (Jf F rfl rfl (J1r underlying62 underlying5 underlying9 ((At.rdX S120.at' 0 rfl)).1 rfl (F.g rfl)) rfl fun _ F=>?_)
   refine nS0 (enL ?_)
   have k124:(Je D).size+(⟨#[32,35]⟩:ByteArray).size≤9223372036854775807:=by ((repeat rw [ByteArray.size_append]) <;> omega)
   refine Jr F rfl rfl (fun _=>(J0e rfl (F.g rfl) rfl k124)) fun _ F=>?_
   refine J2 rfl rfl (Jf F rfl rfl (J1r underlying62 underlying5 underlying9 ((At.rdX S120.at' 0 rfl)).1 rfl (F.g rfl)) rfl fun _ F=>?_)
   refine nS0 ?_
   refine J2 rfl rfl (zzr F S120.at' (J64 (H:=fun _=>True) (text:=Je D) (J2o zO)) fun w127 S127 _ F=>?_)
   refine nS (Sd.of S127 [] rfl) fun hS=>?_
   refine J2 rfl rfl (zzs F S127.at' (J2W (H:=fun _=>True) (n:=((J04 (Jb (Je D)):Nat):Int)) yg) ?_)
   rintro w129 S129 Q13 _ F
   refine nS (Sd.of (S127.trans S129) [] rfl) fun hS=>?_
   have k131:((Je D)++(⟨#[32,35]⟩:ByteArray)).size+(Jj ((J04 (Jb (Je D)):Nat):Int)).size≤9223372036854775807:=by ((repeat rw [ByteArray.size_append]) <;> omega)
   refine Jr F rfl rfl (fun _=>(J0e rfl (F.g rfl) (F.g rfl) k131)) fun _ F=>?_
   have k133:(((Je D)++(⟨#[32,35]⟩:ByteArray))++(Jj ((J04 (Jb (Je D)):Nat):Int))).size+(⟨#[10]⟩:ByteArray).size≤9223372036854775807:=by ((repeat rw [ByteArray.size_append]) <;> omega)
   refine Jr F rfl rfl (fun _=>(J0e rfl (F.g rfl) rfl k133)) fun _ F=>?_
   refine zg fun _ F=>?_
   exact ⟨F.cut rfl,((tc3 S120 S127 S129).pick [0] rfl),(J1c k133)⟩
  refine Jh rfl (Jf F rfl rfl (J1r underlying62 underlying5 underlying9 ((At.rdX S120.at' 0 rfl)).1 rfl (F.g rfl)) rfl fun _ F=>?_)
  refine nS0 (en2 ?_)
  refine J03 ?_ ?_
  ·refine Jh rfl (Jf F rfl rfl (J1r underlying62 underlying5 underlying9 ((At.rdX S120.at' 0 rfl)).1 rfl (F.g rfl)) rfl fun _ F=>?_)
   refine nS0 (enL ?_)
   have k138:(Je D).size+(⟨#[32,35]⟩:ByteArray).size≤9223372036854775807:=by ((repeat rw [ByteArray.size_append]) <;> omega)
   refine Jr F rfl rfl (fun _=>(J0e rfl (F.g rfl) rfl k138)) fun _ F=>?_
   refine J2 rfl rfl (zzr F S120.at' (J64 (H:=fun _=>True) (text:=Je D) (J2o zO)) fun w140 S140 _ F=>?_)
   refine nS (Sd.of S140 [] rfl) fun hS=>?_
   refine J2 rfl rfl (zzs F S140.at' (J2W (H:=fun _=>True) (n:=((J04 (Jb (Je D)):Nat):Int)) yg) ?_)
   rintro w142 S142 Q14 _ F
   refine nS (Sd.of (S140.trans S142) [] rfl) fun hS=>?_
   have k144:((Je D)++(⟨#[32,35]⟩:ByteArray)).size+(Jj ((J04 (Jb (Je D)):Nat):Int)).size≤9223372036854775807:=by ((repeat rw [ByteArray.size_append]) <;> omega)
   refine Jr F rfl rfl (fun _=>(J0e rfl (F.g rfl) (F.g rfl) k144)) fun _ F=>?_
   have k146:(((Je D)++(⟨#[32,35]⟩:ByteArray))++(Jj ((J04 (Jb (Je D)):Nat):Int))).size+(⟨#[10]⟩:ByteArray).size≤9223372036854775807:=by ((repeat rw [ByteArray.size_append]) <;> omega)
   refine Jr F rfl rfl (fun _=>(J0e rfl (F.g rfl) rfl k146)) fun _ F=>?_
   refine zg fun _ F=>?_
   exact ⟨F.cut rfl,((tc3 S120 S140 S142).pick [0] rfl),(J1c k146)⟩
  refine Jh rfl (zzr F S120.at' (J64 (H:=fun _=>True) (text:=Je D) (J2o zO)) fun w149 S149 _ F=>?_)
  refine nS (Sd.of S149 [] rfl) fun hS=>en2 ?_
  refine J03 ?_ ?_
  ·refine Jh rfl (Jf F rfl rfl (J1r underlying62 underlying5 underlying9 ((At.rdX S149.at' 0 rfl)).1 rfl (F.g rfl)) rfl fun _ F=>?_)
   refine nS0 (enL ?_)
   have k152:(Je D).size+(⟨#[32,35]⟩:ByteArray).size≤9223372036854775807:=by ((repeat rw [ByteArray.size_append]) <;> omega)
   refine Jr F rfl rfl (fun _=>(J0e rfl (F.g rfl) rfl k152)) fun _ F=>?_
   refine J2 rfl rfl (zzs F S149.at' (J2W (H:=fun _=>True) (n:=((J04 (Jb (Je D)):Nat):Int)) yg) ?_)
   rintro w154 S154 Q15 _ F
   refine nS (Sd.of (S149.trans S154) [] rfl) fun hS=>?_
   have k156:((Je D)++(⟨#[32,35]⟩:ByteArray)).size+(Jj ((J04 (Jb (Je D)):Nat):Int)).size≤9223372036854775807:=by ((repeat rw [ByteArray.size_append]) <;> omega)
   refine Jr F rfl rfl (fun _=>(J0e rfl (F.g rfl) (F.g rfl) k156)) fun _ F=>?_
   have k158:(((Je D)++(⟨#[32,35]⟩:ByteArray))++(Jj ((J04 (Jb (Je D)):Nat):Int))).size+(⟨#[10]⟩:ByteArray).size≤9223372036854775807:=by ((repeat rw [ByteArray.size_append]) <;> omega)
   refine Jr F rfl rfl (fun _=>(J0e rfl (F.g rfl) rfl k158)) fun _ F=>?_
   refine zg fun _ F=>?_
   exact ⟨F.cut rfl,((tc3 S120 S149 S154).pick [0] rfl),(J1c k158)⟩
  refine Jh rfl (zzs F S149.at' (J2W (H:=fun _=>True) (n:=((J04 (Jb (Je D)):Nat):Int)) yg) ?_)
  rintro w161 S161 Q16 _ F
  refine nS (Sd.of (S149.trans S161) [] rfl) fun hS=>enL ?_
  refine J2 rfl rfl (Jf F rfl rfl (J1r underlying62 underlying5 underlying9 ((At.rdX S161.at' 0 rfl)).1 rfl (F.g rfl)) rfl fun _ F=>?_)
  refine nS0 ?_
  have k164:(Je D).size+(⟨#[32,35]⟩:ByteArray).size≤9223372036854775807:=by ((repeat rw [ByteArray.size_append]) <;> omega)
  refine Jr F rfl rfl (fun _=>(J0e rfl (F.g rfl) rfl k164)) fun _ F=>?_
  have k166:((Je D)++(⟨#[32,35]⟩:ByteArray)).size+(Jj ((J04 (Jb (Je D)):Nat):Int)).size≤9223372036854775807:=by ((repeat rw [ByteArray.size_append]) <;> omega)
  refine Jr F rfl rfl (fun _=>(J0e rfl (F.g rfl) (F.g rfl) k166)) fun _ F=>?_
  have k168:(((Je D)++(⟨#[32,35]⟩:ByteArray))++(Jj ((J04 (Jb (Je D)):Nat):Int))).size+(⟨#[10]⟩:ByteArray).size≤9223372036854775807:=by ((repeat rw [ByteArray.size_append]) <;> omega)
  refine Jr F rfl rfl (fun _=>(J0e rfl (F.g rfl) rfl k168)) fun _ F=>?_
  refine zg fun _ F=>?_
  exact ⟨F.cut rfl,((tc3 S120 S149 S161).pick [0] rfl),(J1c k168)⟩
 rintro a171 w171 ⟨F,S171,Q5⟩
 have S171:Mv _ _ [_] _:=S171
 refine zr fun _ F=>?_
 refine zc F (((((Je D)++(⟨#[32,35]⟩:ByteArray))++(Jj ((J04 (Jb (Je D)):Nat):Int)))++(⟨#[10]⟩:ByteArray)).size > 4000) (hb:=by exact yBl) fun _ F=>?_
 refine zi F (fun h175=>?_) fun h175=>?_
 ·refine zr fun _ F=>?_
  refine zd1 F ?_
  exact ⟨(zV1 (zVs yj)),(Mv.pick (tc5 S3 S9 S11 S15 S171) [] rfl),((show bE_=(J0z seq list) from by first|exact J2b (nt zA)|exact J0J hx1 (J27 zA)|exact J0J hx1 (J28 zA)|exact J22 (congrArg List.length hk_1) zO|exact J25 (by rw [← J05 hk_1 zO];assumption)|(rw [J05 hk_1 zO];exact J26 (nf zA) (fun j hj=>hk_2 j zO) (by rw [← J05 hk_1 zO];assumption))) ▸ (by unfold okS;decide))⟩
 refine zr fun _ F=>?_
 refine zd1 F ?_
 exact ⟨(zV1 (zVs yj)),(Mv.pick (tc5 S3 S9 S11 S15 S171) [] rfl),(zOk yj Q5)⟩
theorem Jc8 {H:Nat→Prop} {b:BldD} {Q0:Option Addr} {Q2 Q1:Nat} {b_b:Nat}  (hA:At w [bx b_b [.pointer none,.slice Q0 Q2 Q1] 195,owB 5 (.slice Q0 Q2 Q1) b.buf]) :
 Calls prog 181 #[pT b_b] w fun e w'=>e=.returned (.tuple #[])∧Mv [bx b_b [.pointer none,.slice Q0 Q2 Q1] 195,owB 5 (.slice Q0 Q2 Q1) b.buf] w [bx b_b [pT b_b,.slice Q0 Q2 Q1] 195,owB 5 (.slice Q0 Q2 Q1) b.buf] w':=by
 have hbk:=Jbb hA
 refine (Any.Builder_copyCheck_fresh { Jaq with } JaQ b_b w (by rw [Lib.cell_of_heap hbk];rfl) (JfY hbk) (Lib.frozen_of_heap hbk 0)).mono ?_
 rintro e w' ⟨rfl,rfl⟩
 exact ⟨rfl,Jg9 _ hA⟩
theorem Jcc {H:Nat→Prop} {b:BldD} {Q0:Option Addr} {Q2 Q1:Nat} {b_b:Nat}  (hA:At w [bx b_b [pT b_b,.slice Q0 Q2 Q1] 195,owB 5 (.slice Q0 Q2 Q1) b.buf]) :
 Calls prog 181 #[pT b_b] w fun e w'=>e=.returned (.tuple #[])∧Mv [bx b_b [pT b_b,.slice Q0 Q2 Q1] 195,owB 5 (.slice Q0 Q2 Q1) b.buf] w [bx b_b [pT b_b,.slice Q0 Q2 Q1] 195,owB 5 (.slice Q0 Q2 Q1) b.buf] w':=by
 have hbk:=Jbb hA
 refine (Any.Builder_copyCheck_used { Jaq with } JaQ b_b w (by rw [Lib.cell_of_heap hbk];rfl)).mono ?_
 rintro e w' ⟨rfl,rfl⟩
 exact ⟨rfl,Mv.refl hA⟩
theorem Jc4 {H:Nat→Prop} {b:BldD} {Q0:Option Addr} {Q2 Q1:Nat} {b_b:Nat} {s:ByteArray} (h_s:okS s) (p0:b.buf.length+s.size≤140737488355328) (hA:At w [bx b_b [.pointer none,.slice Q0 Q2 Q1] 195,owB 5 (.slice Q0 Q2 Q1) b.buf]) :
 Calls prog 150 #[pT b_b,.string s] w fun e w'=>∃ (Q3:Option Addr)(Q5 Q4:Nat),e=.returned (.tuple #[nV s.size,.nilIface])∧Mv [bx b_b [.pointer none,.slice Q0 Q2 Q1] 195,owB 5 (.slice Q0 Q2 Q1) b.buf] w [bx b_b [pT b_b,.slice Q3 Q5 Q4] 195,owB 5 (.slice Q3 Q5 Q4) (b.buf++Jb s)] w':=by
 obtain ⟨lo1,lp1,lq1⟩:=At.ownInvB hA 1 rfl
 refine ze fun _ F=>?_
 refine zz F (Jc8 (H:=fun _=>True) (b:=(⟨(),b.buf⟩:BldD)) (At.pick (is:=[0,1]) hA rfl)) ?_
 rintro _ w4 ⟨rfl,m4⟩
 refine zt fun _ F=>?_
 have S4:Mv _ _ [bx _ [_,_] _,_] _:=At.frame hA [0,1] rfl m4
 obtain ⟨Q6,Q7,Q8⟩:=At.ownInvB S4.at' 1 rfl
 refine zv F (J0s rfl (F.g rfl)) fun _ F=>?_
 refine zl F S4.at' 0 fun _ F=>?_
 refine J0 (Jak (bs:=Jb s) F S4.at' 1 ET_62 underlying9 rfl rfl rfl rfl rfl rfl rfl rfl (F.g rfl) (F.g rfl) rfl (by ((repeat (first|rw [List.length_append]|rw [List.length_cons]|rw [List.length_nil]|rw [J0A])) <;> omega)) fun A12 N12 C12 _ w12 F S12 l12=>?_)
 refine zv F (J0s rfl (F.g rfl)) fun _ F=>?_
 refine zst F S12.at' 1 fun w16 S16 _ F=>?_
 refine zd2 F ?_
 exact ⟨A12,N12,C12,rfl,(Mv.pick (tc3 S4 S12 S16) [0,1] rfl)⟩
theorem Jca {H:Nat→Prop} {b:BldD} {Q0:Option Addr} {Q2 Q1:Nat} {b_b:Nat} {s:ByteArray} (h_s:okS s) (p0:b.buf.length+s.size≤140737488355328) (hA:At w [bx b_b [pT b_b,.slice Q0 Q2 Q1] 195,owB 5 (.slice Q0 Q2 Q1) b.buf]) :
 Calls prog 150 #[pT b_b,.string s] w fun e w'=>∃ (Q3:Option Addr)(Q5 Q4:Nat),e=.returned (.tuple #[nV s.size,.nilIface])∧Mv [bx b_b [pT b_b,.slice Q0 Q2 Q1] 195,owB 5 (.slice Q0 Q2 Q1) b.buf] w [bx b_b [pT b_b,.slice Q3 Q5 Q4] 195,owB 5 (.slice Q3 Q5 Q4) (b.buf++Jb s)] w':=by
 obtain ⟨lo1,lp1,lq1⟩:=At.ownInvB hA 1 rfl
 refine ze fun _ F=>?_
 refine zz F (Jcc (H:=fun _=>True) (b:=(⟨(),b.buf⟩:BldD)) (At.pick (is:=[0,1]) hA rfl)) ?_
 rintro _ w4 ⟨rfl,m4⟩
 refine zt fun _ F=>?_
 have S4:Mv _ _ [bx _ [_,_] _,_] _:=At.frame hA [0,1] rfl m4
 obtain ⟨Q6,Q7,Q8⟩:=At.ownInvB S4.at' 1 rfl
 refine zv F (J0s rfl (F.g rfl)) fun _ F=>?_
 refine zl F S4.at' 0 fun _ F=>?_
 refine J0 (Jak (bs:=Jb s) F S4.at' 1 ET_62 underlying9 rfl rfl rfl rfl rfl rfl rfl rfl (F.g rfl) (F.g rfl) rfl (by ((repeat (first|rw [List.length_append]|rw [List.length_cons]|rw [List.length_nil]|rw [J0A])) <;> omega)) fun A12 N12 C12 _ w12 F S12 l12=>?_)
 refine zv F (J0s rfl (F.g rfl)) fun _ F=>?_
 refine zst F S12.at' 1 fun w16 S16 _ F=>?_
 refine zd2 F ?_
 exact ⟨A12,N12,C12,rfl,(Mv.pick (tc3 S4 S12 S16) [0,1] rfl)⟩
theorem Jci {H:Nat→Prop} {b:BldD} {Q1:Option Addr} {Q0 Q2:Nat} {b_b:Nat}  (hA:At w [bx b_b [pT b_b,.slice Q1 Q0 Q2] 195,owB 5 (.slice Q1 Q0 Q2) b.buf]) :
 Calls prog 152 #[pT b_b] w fun e w'=>e=.returned (nV Q0)∧Mv [bx b_b [pT b_b,.slice Q1 Q0 Q2] 195,owB 5 (.slice Q1 Q0 Q2) b.buf] w [bx b_b [pT b_b,.slice Q1 Q0 Q2] 195,owB 5 (.slice Q1 Q0 Q2) b.buf] w':=by
 obtain ⟨lo1,lp1,lq1⟩:=At.ownInvB hA 1 rfl
 refine ze fun _ F=>?_
 refine zv F (J0s rfl (F.g rfl)) fun _ F=>?_
 refine zl F hA 0 fun _ F=>?_
 refine zd1 F ?_
 exact ⟨rfl,(Mv.pick (Mv.refl hA) [0,1] rfl)⟩
theorem J81 {H:Nat→Prop} {b:BldD} {Q0:Option Addr} {Q2 Q1:Nat} {b_b:Nat}  (p0:b.buf≠[]) (hA:At w [bx b_b [pT b_b,.slice Q0 Q2 Q1] 195,owB 5 (.slice Q0 Q2 Q1) b.buf]) :
 Calls prog 154 #[pT b_b] w fun e w'=>e=.returned (.string (Je b.buf))∧Mv [bx b_b [pT b_b,.slice Q0 Q2 Q1] 195,owB 5 (.slice Q0 Q2 Q1) b.buf] w [bx b_b [pT b_b,.slice Q0 Q2 Q1] 195,owB 5 (.slice Q0 Q2 Q1) b.buf] w'∧okS (Je b.buf):=by
 have hO:OwnB _ w (.slice Q0 Q2 Q1) b.buf:=hA.ok _ (Jm (i:=1) rfl)
 have hl:∀ x ∈ b.buf,x < 256:=hO.bytes
 have hz:=hO.len
 obtain ⟨l,hq,hs⟩:∃ l:List UInt8,b.buf=l.map (·.toNat)∧(⟨l.toArray⟩:ByteArray)=Je b.buf:=⟨(Je b.buf).data.toList,(J4p b.buf hl).symm,rfl⟩
 rw [hq] at hA
 rw [← hs,hq]
 refine (JeG JfA Jhc l (fun e=>p0 (by rw [hq,e];rfl)) hA).mono ?_
 rintro e w' ⟨rfl,hm⟩
 exact ⟨rfl,hm,by rw [hs];exact J2o (by unfold maxLen at hz;omega)⟩
theorem Jcq {seq:Int} {list:List CellD} {Q2:Option Addr} {Q0 Q3:Nat} (Q1:J1 seq) (Q4:Rd 2 J6 okC H w (.slice Q2 Q0 Q3) list) (tab0:Tb 0 H w) (p0:list.length≤4294967280) :
 Calls prog 115 #[iV seq,.slice Q2 Q0 Q3] w fun e w'=>e=.returned (.string (J0z seq list))∧Mv [] w [] w'∧okS (J0z seq list):=by
 have hds:=J2i seq Q1
 have V_v_list:=Rd.start Q4 zN
 obtain ⟨Q14,Q13,Q33,Q34⟩:=Rd.inv Q4
 have V_tab0:=Tb.start tab0 zN
 refine ze fun _ F=>?_
 refine zzp F (At.nil w) (J3M (H:=fun _=>True) (n:=seq) (low:=1) (high:=100000) Q1 yg yg) fun w3 S3 _ F=>?_
 refine zv F (J0q rfl (F.g rfl)) fun _ F=>?_
 refine zib F (fun h6=>?_) fun h6=>?_
 ·refine zr fun _ F=>?_
  refine zd1 F ?_
  exact ⟨(zV1 (zVs yj)),(Mv.pick S3 [] rfl),((show bE_=(J0z seq list) from by first|exact J2b (nt zA)|exact J0J hx1 (J27 zA)|exact J0J hx1 (J28 zA)|exact J22 (congrArg List.length hk_1) zO|exact J25 (by rw [← J05 hk_1 zO];assumption)|(rw [J05 hk_1 zO];exact J26 (nf zA) (fun j hj=>hk_2 j zO) (by rw [← J05 hk_1 zO];assumption))) ▸ (by unfold okS;decide))⟩
 refine zr fun _ F=>?_
 refine zal F S3.at' Jh3 fun b8 w8 S8 _ F=>?_
 refine zzq F S8.at' (J4j (n:=seq) Q1 (Tb.mv V_tab0 (S3.trans S8))) ?_
 rintro w11 S11 Q5 _ F
 have S14:Mv [bx b8 [.pointer none,sN] 195] w11 [owB 5 (sN) ([]:List Nat),bx b8 [.pointer none,sN] 195] w11:=Jgu S11.at' _
 refine zz F (Jc4 (H:=fun _=>True) (b:=(⟨(),[]⟩:BldD)) (s:=Jj seq) Q5 (by show 0+_≤_;omega) (At.pick (is:=[1,0]) S14.at' rfl)) ?_
 rintro _ w13 ⟨Q7,Q11,Q9,rfl,m13⟩
 refine zt fun _ F=>?_
 have S13:Mv _ _ [bx _ [_,_] _,_] _:=At.frame S14.at' [1,0] rfl m13
 obtain ⟨Q15,Q21,Q27⟩:=At.ownInvB S13.at' 1 rfl
 refine JH S13.at' (fun lZ (k:Nat) aZ wZ=>∃ (D:List Nat)(oa:Option Addr)(on oc:Nat),Fr 57 [(17,nV k),(16,nV Q0),(15,.slice Q2 Q0 Q3),(5,pT b8)] aZ∧Mv lZ w13 [bx b8 [pT b8,.slice oa on oc] 195,owB 5 (.slice oa on oc) D] wZ∧(k≤Q0)∧(D=J0y seq (list.take k))∧(∀ j,j < k→∀ c,nth list j=some c→J1F c=true)∧(D.length≤4300)) (fun (k:Nat)=>Q0 - k) (0) ?_ ?_
 ·exact ⟨([])++Jb (Jj seq),Q7,Q11,Q9,F.cut rfl,(Mv.refl S13.at'),zO,Jes seq list,fun j hj=>by omega,by rw [List.nil_append,J0A];omega⟩
 rintro k a19 w19 ⟨D,oa,on,oc,F,S19,hk_0,hk_1,hk_2,hk_3⟩
 obtain ⟨Q16,Q22,Q28⟩:=At.ownInvB S19.at' 1 rfl
 refine zr fun _ F=>?_
 refine zc F (k < Q0) (hb:=by exact yBl) fun _ F=>?_
 refine zi F (fun h21=>?_) fun h21=>?_
 ·refine zr fun _ F=>?_
  obtain ⟨B22,O22,x1,ad22,hx1,okx1,ln22,cl22⟩:=Rd.at (Rd.mq V_v_list (tc6 S3 S8 S11 S14 S13 S19)) k yq
  clear ln22
  refine zv F (JB (i:=k) ET_28 rfl ((F.ev 15 rfl).trans (by rw [ad22])) (F.g rfl) zO yq) fun _ F=>?_
  refine zv (v:=.agg #[.string x1.key,.string x1.val]) F (JD (cs:=[.string x1.key,.string x1.val]) J1W rfl (F.g rfl) rfl (fun h=>nomatch h) (JN (f:=0) cl22 [.string x1.key,.string x1.val] rfl)) fun _ F=>?_
  refine zal F S19.at' J5E fun b25 w25 S25 _ F=>?_
  refine zst F S25.at' 0 fun w27 S27 _ F=>?_
  have T28:Mv _ _ [bx _ [_,_] _,bx _ [_,_] _,_] _:=S27
  refine zl F T28.at' 0 fun _ F=>?_
  refine zzp F T28.at' (J8q (H:=fun _=>True) (key:=x1.key) okx1.1) fun w31 S31 _ F=>?_
  refine zv F (J0q rfl (F.g rfl)) fun _ F=>?_
  rcases Bool.eq_false_or_eq_true (!(J0L x1.key)) with h35|h35
  ·rw [h35] at F
   refine zr fun _ F=>?_
   refine zd1 F ?_
   exact ⟨(zV1 (zVs yj)),(Mv.pick (tc9 S3 S8 S11 S14 S13 S19 S25 T28 S31) [] rfl),((show bE_=(J0z seq list) from by first|exact J2b (nt zA)|exact J0J hx1 (J27 zA)|exact J0J hx1 (J28 zA)|exact J22 (congrArg List.length hk_1) zO|exact J25 (by rw [← J05 hk_1 zO];assumption)|(rw [J05 hk_1 zO];exact J26 (nf zA) (fun j hj=>hk_2 j zO) (by rw [← J05 hk_1 zO];assumption))) ▸ (by unfold okS;decide))⟩
  rw [h35] at F
  refine zr fun _ F=>?_
  refine zl F S31.at' 0 fun _ F=>?_
  refine zc F (x1.val.size > 60) (hb:=by exact yBl) fun _ F=>?_
  rcases Decidable.em (x1.val.size > 60) with h52|h52
  ·rw [decide_eq_true h52] at F
   refine zr fun _ F=>?_
   refine zd1 F ?_
   exact ⟨(zV1 (zVs yj)),(Mv.pick (tc9 S3 S8 S11 S14 S13 S19 S25 T28 S31) [] rfl),((show bE_=(J0z seq list) from by first|exact J2b (nt zA)|exact J0J hx1 (J27 zA)|exact J0J hx1 (J28 zA)|exact J22 (congrArg List.length hk_1) zO|exact J25 (by rw [← J05 hk_1 zO];assumption)|(rw [J05 hk_1 zO];exact J26 (nf zA) (fun j hj=>hk_2 j zO) (by rw [← J05 hk_1 zO];assumption))) ▸ (by unfold okS;decide))⟩
  rw [decide_eq_false h52] at F
  refine zz F (Jci (H:=fun _=>True) (b:=(⟨(),D⟩:BldD)) (At.pick (is:=[1,2]) S31.at' rfl)) ?_
  rintro _ w57 ⟨rfl,m57⟩
  refine zt fun _ F=>?_
  have S57:Mv _ _ [bx _ [_,_] _,_,bx _ [_,_] _] _:=At.frame S31.at' [1,2] rfl m57
  obtain ⟨Q17,Q23,Q29⟩:=At.ownInvB S57.at' 1 rfl
  refine zc F (on > 4000) (hb:=by exact yBl) fun _ F=>?_
  refine zi F (fun h61=>?_) fun h61=>?_
  ·refine zr fun _ F=>?_
   refine zd1 F ?_
   exact ⟨(zV1 (zVs yj)),(Mv.pick (J0X S3 S8 S11 S14 S13 S19 S25 T28 S31 S57) [] rfl),((show bE_=(J0z seq list) from by first|exact J2b (nt zA)|exact J0J hx1 (J27 zA)|exact J0J hx1 (J28 zA)|exact J22 (congrArg List.length hk_1) zO|exact J25 (by rw [← J05 hk_1 zO];assumption)|(rw [J05 hk_1 zO];exact J26 (nf zA) (fun j hj=>hk_2 j zO) (by rw [← J05 hk_1 zO];assumption))) ▸ (by unfold okS;decide))⟩
  refine zr fun _ F=>?_
  have hs1:=J59 (nf zA)
  have hs2:=J2H x1.key
  have hs3:=J2H x1.val
  have hz8:(⟨#[32]⟩:ByteArray).size=1:=rfl
  have hz9:(⟨#[61]⟩:ByteArray).size=1:=rfl
  refine J1K [] [0,1,5,6,2,3,4,7,8,9] S57.at' [2] zK fun w64 S64 hS=>?_
  refine zg fun _ F=>?_
  refine J2 rfl rfl (zzs F S64.at' (J6f (H:=fun _=>True) (text:=x1.key) okx1.1 yb) ?_)
  rintro w69 S69 Q35 _ F
  refine nS (Sd.of S69 [2] rfl) fun hS=>?_
  have k71:(⟨#[32]⟩:ByteArray).size+(Js x1.key).size≤9223372036854775807:=by ((repeat rw [ByteArray.size_append]) <;> omega)
  refine Jr F rfl rfl (fun _=>(J0e rfl rfl (F.g rfl) k71)) fun _ F=>?_
  have k73:((⟨#[32]⟩:ByteArray)++(Js x1.key)).size+(⟨#[61]⟩:ByteArray).size≤9223372036854775807:=by ((repeat rw [ByteArray.size_append]) <;> omega)
  refine Jr F rfl rfl (fun _=>(J0e rfl (F.g rfl) rfl k73)) fun _ F=>?_
  refine J2 rfl rfl (zzs F S69.at' (J6f (H:=fun _=>True) (text:=x1.val) okx1.2 yb) ?_)
  rintro w75 S75 Q36 _ F
  refine nS (Sd.of (S69.trans S75) [2] rfl) fun hS=>?_
  have k77:(((⟨#[32]⟩:ByteArray)++(Js x1.key))++(⟨#[61]⟩:ByteArray)).size+(Js x1.val).size≤9223372036854775807:=by ((repeat rw [ByteArray.size_append]) <;> omega)
  refine Jr F rfl rfl (fun _=>(J0e rfl (F.g rfl) (F.g rfl) k77)) fun _ F=>?_
  refine J2 rfl rfl (zz1 F (Jca (H:=fun _=>True) (b:=(⟨(),D⟩:BldD)) (s:=(((⟨#[32]⟩:ByteArray)++(Js x1.key))++(⟨#[61]⟩:ByteArray))++(Js x1.val)) (J1c k77) (by show D.length+_≤_;(repeat rw [ByteArray.size_append]);omega) (At.pick (is:=[0,1]) S75.at' rfl)) ?_)
  rintro _ w79 ⟨Q8,Q12,Q10,rfl,m79⟩
  refine ⟨_,rfl,fun _ F=>?_⟩
  have S79:Mv _ _ [bx _ [_,_] _,_,bx _ [_,_] _] _:=At.frame S75.at' [0,1] rfl m79
  obtain ⟨Q18,Q24,Q30⟩:=At.ownInvB S79.at' 1 rfl
  refine nS (Sd.of (tc3 S69 S75 S79) [2] rfl) fun hS=>?_
  refine zg fun _ F=>?_
  refine zq F ((k+1:Nat):Int) fun _ F=>?_
  exact ⟨k+1,zD,D++Jb ((((⟨#[32]⟩:ByteArray)++(Js x1.key))++(⟨#[61]⟩:ByteArray))++(Js x1.val)),Q8,Q12,Q10,F.cut rfl,((tc9 S19 S25 T28 S31 S57 S64 S69 S75 S79).pick [0,1] rfl),zO,Jfc hk_1 hx1,Jaz hk_2 hx1 (J93 zA zA),by rw [List.length_append,J0A];(repeat rw [ByteArray.size_append]);omega⟩
 refine zr fun _ F=>?_
 have hz3:=J1n D
 have hz4:=J5s (l:=Jb (Je D))
 have hz5:=J2i ((J04 (Jb (Je D)):Nat):Int) ⟨zO,zO⟩
 have hz6:(⟨#[32,35]⟩:ByteArray).size=2:=rfl
 have hz7:(⟨#[10]⟩:ByteArray).size=1:=rfl
 refine zz F (J81 (H:=fun _=>True) (b:=(⟨(),D⟩:BldD)) (by exact Jay zA hk_1) (At.pick (is:=[0,1]) S19.at' rfl)) ?_
 rintro _ w83 ⟨rfl,m83,Q37⟩
 refine zt fun _ F=>?_
 have S83:Mv _ _ [bx _ [_,_] _,_] _:=At.frame S19.at' [0,1] rfl m83
 obtain ⟨Q19,Q25,Q31⟩:=At.ownInvB S83.at' 1 rfl
 have k85:(Je D).size+(⟨#[32,35]⟩:ByteArray).size≤9223372036854775807:=by ((repeat rw [ByteArray.size_append]) <;> omega)
 refine zv F (J0e rfl (F.g rfl) rfl k85) fun _ F=>?_
 refine zz F (J81 (H:=fun _=>True) (b:=(⟨(),D⟩:BldD)) (by exact Jay zA hk_1) (At.pick (is:=[0,1]) S83.at' rfl)) ?_
 rintro _ w87 ⟨rfl,m87,Q6⟩
 refine zt fun _ F=>?_
 have S87:Mv _ _ [bx _ [_,_] _,_] _:=At.frame S83.at' [0,1] rfl m87
 obtain ⟨Q20,Q26,Q32⟩:=At.ownInvB S87.at' 1 rfl
 refine zzp F S87.at' (JcP (H:=fun _=>True) (text:=Je D) Q6) fun w89 S89 _ F=>?_
 refine zzq F S89.at' (J4j (n:=((J04 (Jb (Je D)):Nat):Int)) yg (Tb.mv V_tab0 (tc9 S3 S8 S11 S14 S13 S19 S83 S87 S89))) ?_
 rintro w91 S91 Q38 _ F
 have k93:((Je D)++(⟨#[32,35]⟩:ByteArray)).size+(Jj ((J04 (Jb (Je D)):Nat):Int)).size≤9223372036854775807:=by ((repeat rw [ByteArray.size_append]) <;> omega)
 refine zv F (J0e rfl (F.g rfl) (F.g rfl) k93) fun _ F=>?_
 have k95:(((Je D)++(⟨#[32,35]⟩:ByteArray))++(Jj ((J04 (Jb (Je D)):Nat):Int))).size+(⟨#[10]⟩:ByteArray).size≤9223372036854775807:=by ((repeat rw [ByteArray.size_append]) <;> omega)
 refine zv F (J0e rfl (F.g rfl) rfl k95) fun _ F=>?_
 have T98:Mv _ _ [bx _ [_,_] _,_] _:=S91
 refine zc F (((((Je D)++(⟨#[32,35]⟩:ByteArray))++(Jj ((J04 (Jb (Je D)):Nat):Int)))++(⟨#[10]⟩:ByteArray)).size > 4000) (hb:=by exact yBl) fun _ F=>?_
 refine zi F (fun h102=>?_) fun h102=>?_
 ·refine zr fun _ F=>?_
  refine zd1 F ?_
  exact ⟨(zV1 (zVs yj)),(Mv.pick (J0X S3 S8 S11 S14 S13 S19 S83 S87 S89 T98) [] rfl),((show bE_=(J0z seq list) from by first|exact J2b (nt zA)|exact J0J hx1 (J27 zA)|exact J0J hx1 (J28 zA)|exact J22 (congrArg List.length hk_1) zO|exact J25 (by rw [← J05 hk_1 zO];assumption)|(rw [J05 hk_1 zO];exact J26 (nf zA) (fun j hj=>hk_2 j zO) (by rw [← J05 hk_1 zO];assumption))) ▸ (by unfold okS;decide))⟩
 refine zr fun _ F=>?_
 refine zd1 F ?_
 exact ⟨(zV1 (zVs yj)),(Mv.pick (J0X S3 S8 S11 S14 S13 S19 S83 S87 S89 T98) [] rfl),(zOk yj (J1c k95))⟩
end Go.Proofs.YtipdbeklopjbmaaGreatDoor
