/-
  Walks: the texts of records.
-/
import Derived.Test.YtipdbeklopjbmaaGreatDoorP20
import Derived.Test.YtipdbeklopjbmaaGreatDoorP08
import Derived.Test.YtipdbeklopjbmaaGreatDoorP12
import Derived.Test.YtipdbeklopjbmaaGreatDoorP13
import Derived.Test.YtipdbeklopjbmaaGreatDoorGenH
import Derived.Test.YtipdbeklopjbmaaGreatDoorP14
import Derived.Test.YtipdbeklopjbmaaGreatDoorP18
set_option linter.unusedVariables false
set_option linter.unusedSimpArgs false
namespace Go.Proofs.YtipdbeklopjbmaaGreatDoor
open Go.ChangeShapes Go.WideShapes Go.ChangeAt Go.RowKit
set_option maxRecDepth 100000
set_option maxHeartbeats 1000000
theorem impl_ByteSum_c {w:World} {H:Nat→Prop} {text:ByteArray} (Q0:okS text) :
 Calls Tryz.prog 155 #[.string text] w fun e w'=>e=.returned (.int .i64 ((sumN (bytesN text):Nat):Int))∧Mv [] w [] w':=by
 have hT:=Q0
 unfold okS at hT
 refine ze fun _ F=>?_
 refine x_lp (fun (k:Nat) aZ wZ=>∃ (n:Nat),Fr 20 [(7,.int .i64 ((k:Nat):Int)),(6,.int .i64 ((text.size:Nat):Int)),(3,.int .i64 ((n:Nat):Int)),(0,.string text)] aZ∧Mv [] w [] wZ∧(k≤text.size)∧(n=sumN ((bytesN text).take k))) (fun (k:Nat)=>text.size - k) (0) ?_ ?_
 ·exact ⟨7,F.cut rfl,(Mv.refl (At.nil w)),by omega,rfl⟩
 ·rintro k a6 w6 ⟨n,F,S6,hk_0,hk_1⟩
  have hb:=byteAt_lt text k
  have hs:=sumN_lt (l:=(bytesN text).take k)
  refine zr fun _ F=>?_
  refine zc F (k < text.size) (hb:=by first|exact dec_of (by omega)|(dsimp only;exact dec_of (by omega))) fun _ F=>?_
  refine zi F (fun h8=>?_) fun h8=>?_
  ·refine zr fun _ F=>?_
   refine zq F ((31 * n:Nat):Int) fun _ F=>?_
   refine zv F (r_indexS (i:=k) Tryz.underlying9 rfl (F.g rfl) (F.g rfl) (by omega) zIa) fun _ F=>?_
   refine zv F (r_convU8 Tryz.underlying3 Tryz.underlying5 rfl (F.g rfl) ⟨by omega,by first|omega|(have:=byteAt_lt text k;omega)⟩) fun _ F=>?_
   refine zq F (((31 * n)+(byteAt text k):Nat):Int) fun _ F=>?_
   have rm18:=Nat.mod_lt ((31 * n)+(byteAt text k)) (show 0 < 9973 by decide)
   refine zv F (r_remK (c:=9973) rfl (by decide) rfl (F.g rfl) rfl) fun _ F=>?_
   refine zq F ((k+1:Nat):Int) fun _ F=>?_
   exact ⟨k+1,zD,((31 * n)+(byteAt text k)) % 9973,F.cut rfl,(S6.pick [] rfl),by omega,by rw [hk_1];exact sum_step (by omega)⟩
  ·refine zr fun _ F=>?_
   refine x_done F (results_1 rfl (zta F)) ?_
   exact ⟨(zV1 (zVi (by rw [hk_1,sum_all hk_0 ‹_›]))),(Mv.pick S6 [] rfl)⟩
theorem spec_ByteSum_c {w:World} {H:Nat→Prop} {text:ByteArray} (Q0:okS text) :
 Calls Tryz.prog 146 #[.string text] w fun e w'=>e=.returned (.int .i64 ((sumN (bytesN text):Nat):Int))∧Mv [] w [] w':=by
 have hT:=Q0
 unfold okS at hT
 refine ze fun _ F=>?_
 refine x_lp (fun (k:Nat) aZ wZ=>∃ (n:Nat),Fr 20 [(4,.int .i64 ((k:Nat):Int)),(3,.int .i64 ((n:Nat):Int)),(0,.string text)] aZ∧Mv [] w [] wZ∧(k≤text.size)∧(n=sumN ((bytesN text).take k))) (fun (k:Nat)=>text.size - k) (0) ?_ ?_
 ·exact ⟨7,F.cut rfl,(Mv.refl (At.nil w)),by omega,rfl⟩
 ·rintro k a4 w4 ⟨n,F,S4,hk_0,hk_1⟩
  have hb:=byteAt_lt text k
  have hs:=sumN_lt (l:=(bytesN text).take k)
  refine zr fun _ F=>?_
  refine zc F (k < text.size) (hb:=by first|exact dec_of (by omega)|(dsimp only;exact dec_of (by omega))) fun _ F=>?_
  refine zi F (fun h9=>?_) fun h9=>?_
  ·refine zr fun _ F=>?_
   refine zq F ((31 * n:Nat):Int) fun _ F=>?_
   refine zv F (r_indexS (i:=k) Tryz.underlying9 rfl (F.g rfl) (F.g rfl) (by omega) zIa) fun _ F=>?_
   refine zv F (r_convU8 Tryz.underlying3 Tryz.underlying5 rfl (F.g rfl) ⟨by omega,by first|omega|(have:=byteAt_lt text k;omega)⟩) fun _ F=>?_
   refine zq F (((31 * n)+(byteAt text k):Nat):Int) fun _ F=>?_
   have rm17:=Nat.mod_lt ((31 * n)+(byteAt text k)) (show 0 < 9973 by decide)
   refine zv F (r_remK (c:=9973) rfl (by decide) rfl (F.g rfl) rfl) fun _ F=>?_
   refine zq F ((k+1:Nat):Int) fun _ F=>?_
   exact ⟨k+1,zD,((31 * n)+(byteAt text k)) % 9973,F.cut rfl,(S4.pick [] rfl),by omega,by rw [hk_1];exact sum_step (by omega)⟩
  ·refine zr fun _ F=>?_
   refine x_done F (results_1 rfl (zta F)) ?_
   exact ⟨(zV1 (zVi (by rw [hk_1,sum_all hk_0 ‹_›]))),(Mv.pick S4 [] rfl)⟩
theorem spec_RecordText_c {w:World} {H:Nat→Prop} {seq:Int} {list:List CellD} {Q2:Option Addr} {Q0 Q3:Nat} (Q1:i64ok seq) (Q4:Rd 2 encC okC H w (.slice Q2 Q0 Q3) list) (p0:list.length≤4294967280) :
 Calls Tryz.prog 107 #[.int .i64 seq,.slice Q2 Q0 Q3] w fun e w'=>e=.returned (.string (recT seq list))∧Mv [] w [] w'∧okS (recT seq list):=by
 have hds:=decS_size seq Q1
 have V_v_list:=Rd.start Q4 zN
 obtain ⟨Q7,Q6,Q11,Q12⟩:=Rd.inv Q4
 refine ze fun _ F=>?_
 refine zz F (spec_l01In_c (H:=fun _=>True) (x:=seq) (least:=1) (most:=100000) Q1 zI7 zI7) ?_
 rintro _ w3 ⟨rfl,m3⟩
 refine zt fun _ F=>?_
 have S3:=At.frame0 (At.nil w) m3
 clear m3
 refine zv F (r_not rfl (F.g rfl)) fun _ F=>?_
 refine zib F (fun h6=>?_) fun h6=>?_
 ·refine zr fun _ F=>?_
  refine x_done F (results_1 rfl (zta F)) ?_
  exact ⟨(zV1 (zVs (by first|exact recT_no (nt ‹_›)|exact recT_bad hx1 (cellB_1 ‹_›)|exact recT_bad hx1 (cellB_2 ‹_›)|exact recT_long (congrArg List.length hk_1) (by omega)|exact recT_end (by rw [← rec_s hk_1 (by omega)];assumption)|(rw [rec_s hk_1 (by omega)];exact recT_yes (nf ‹_›) (fun j hj=>hk_2 j (by omega)) (by rw [← rec_s hk_1 (by omega)];assumption))))),(Mv.pick S3 [] rfl),((show bE_=(recT seq list) from by first|exact recT_no (nt ‹_›)|exact recT_bad hx1 (cellB_1 ‹_›)|exact recT_bad hx1 (cellB_2 ‹_›)|exact recT_long (congrArg List.length hk_1) (by omega)|exact recT_end (by rw [← rec_s hk_1 (by omega)];assumption)|(rw [rec_s hk_1 (by omega)];exact recT_yes (nf ‹_›) (fun j hj=>hk_2 j (by omega)) (by rw [← rec_s hk_1 (by omega)];assumption))) ▸ (by unfold okS;decide))⟩
 ·refine zr fun _ F=>?_
  refine zz F (spec_Decimal_c (H:=fun _=>True) (n:=seq) Q1) ?_
  rintro _ w9 ⟨rfl,m9,Q18⟩
  refine zt fun _ F=>?_
  have S9:=At.frame0 S3.at' m9
  clear m9
  refine l_op (f_sbytesX F S9.at' Tryz.underlying9 Tryz.underlying62 Tryz.underlying5 rfl rfl rfl rfl (F.g rfl) zIa fun b11 N11 C11 _ w11 F S11 l11=>?_)
  refine zr fun _ F=>?_
  refine x_lp (fun (k:Nat) aZ wZ=>∃ (D:List Nat),∃ (oa:Option Addr),∃ (on:Nat),∃ (oc:Nat),Fr 85 [(6,.int .i64 ((k:Nat):Int)),(5,.slice oa on oc),(1,.slice Q2 Q0 Q3)] aZ∧Mv [owX 5 (.slice (some ⟨b11,0,none⟩) N11 C11) (bytesN (decS seq))] w11 [owX 5 (.slice oa on oc) D] wZ∧(k≤Q0)∧(D=recN seq (list.take k))∧(∀ j,j < k→∀ c,nth list j=some c→cellB c=true)∧(D.length≤4300)) (fun (k:Nat)=>Q0 - k) (0) ?_ ?_
  ·exact ⟨bytesN (decS seq),(some ⟨b11,0,none⟩),N11,C11,F.cut rfl,(Mv.refl S11.at'),by omega,by unfold recN;rw [List.take_zero,List.flatMap_nil,List.append_nil],fun j hj=>by omega,by rw [bytesN_length];omega⟩
  ·rintro k a15 w15 ⟨D,oa,on,oc,F,S15,hk_0,hk_1,hk_2,hk_3⟩
   obtain ⟨Q8,Q9,Q10⟩:=At.ownInvX S15.at' 0 rfl
   refine zr fun _ F=>?_
   refine zc F (k < Q0) (hb:=by first|exact dec_of (by omega)|(dsimp only;exact dec_of (by omega))) fun _ F=>?_
   refine zi F (fun h20=>?_) fun h20=>?_
   ·refine zr fun _ F=>?_
    obtain ⟨B23,O23,x1,ad23,hx1,okx1,ln23,cl23⟩:=Rd.at (Rd.mq V_v_list (S3.trans (S9.trans (S11.trans S15)))) k zIa
    clear ln23
    refine zv F (r_indexAddr (i:=k) ET_28 rfl ((F.ev 24 rfl).trans (by rw [ad23])) (F.g rfl) (by omega) zIa) fun _ F=>?_
    refine zv (v:=.string x1.key) F (r_load (cs:=[.string x1.key]) TI_9 rfl (F.g rfl) rfl (fun _=>rfl) (elem_sub (f:=0) cl23 [.string x1.key] rfl)) fun _ F=>?_
    refine zz F (spec_KeyOk_c (H:=fun _=>True) (key:=x1.key) okx1.1) ?_
    rintro _ w27 ⟨rfl,m27⟩
    refine zt fun _ F=>?_
    have S27:=At.frame0 S15.at' m27
    clear m27
    refine zv F (r_not rfl (F.g rfl)) fun _ F=>?_
    rcases Bool.eq_false_or_eq_true (!(keyOk x1.key)) with h31|h31
    ·rw [h31] at F
     refine zr fun _ F=>?_
     have T45:Mv _ _ [_] _:=S27
     refine x_done F (results_1 rfl (zta F)) ?_
     exact ⟨(zV1 (zVs (by first|exact recT_no (nt ‹_›)|exact recT_bad hx1 (cellB_1 ‹_›)|exact recT_bad hx1 (cellB_2 ‹_›)|exact recT_long (congrArg List.length hk_1) (by omega)|exact recT_end (by rw [← rec_s hk_1 (by omega)];assumption)|(rw [rec_s hk_1 (by omega)];exact recT_yes (nf ‹_›) (fun j hj=>hk_2 j (by omega)) (by rw [← rec_s hk_1 (by omega)];assumption))))),(Mv.pick (S3.trans (S9.trans (S11.trans (S15.trans T45)))) [] rfl),((show bE_=(recT seq list) from by first|exact recT_no (nt ‹_›)|exact recT_bad hx1 (cellB_1 ‹_›)|exact recT_bad hx1 (cellB_2 ‹_›)|exact recT_long (congrArg List.length hk_1) (by omega)|exact recT_end (by rw [← rec_s hk_1 (by omega)];assumption)|(rw [rec_s hk_1 (by omega)];exact recT_yes (nf ‹_›) (fun j hj=>hk_2 j (by omega)) (by rw [← rec_s hk_1 (by omega)];assumption))) ▸ (by unfold okS;decide))⟩
    ·rw [h31] at F
     refine zr fun _ F=>?_
     obtain ⟨B49,O49,y49,ad49,hy49,oky49,ln49,cl49⟩:=Rd.at (Rd.mq V_v_list (S3.trans (S9.trans (S11.trans (S15.trans S27))))) k zIa
     clear ln49
     obtain rfl:=Option.some.inj (hx1.symm.trans hy49)
     clear hy49 oky49
     refine zv F (r_indexAddr (i:=k) ET_28 rfl ((F.ev 32 rfl).trans (by rw [ad49])) (F.g rfl) (by omega) zIa) fun _ F=>?_
     refine zv (v:=.string x1.val) F (r_load (cs:=[.string x1.val]) TI_9 rfl (F.g rfl) rfl (fun _=>rfl) (elem_sub (f:=1) cl49 [.string x1.val] rfl)) fun _ F=>?_
     refine zc F (x1.val.size > 60) (hb:=by first|exact dec_of (by omega)|(dsimp only;exact dec_of (by omega))) fun _ F=>?_
     rcases Decidable.em (x1.val.size > 60) with h57|h57
     ·rw [decide_eq_true h57] at F
      refine zr fun _ F=>?_
      have T62:Mv _ _ [_] _:=S27
      refine x_done F (results_1 rfl (zta F)) ?_
      exact ⟨(zV1 (zVs (by first|exact recT_no (nt ‹_›)|exact recT_bad hx1 (cellB_1 ‹_›)|exact recT_bad hx1 (cellB_2 ‹_›)|exact recT_long (congrArg List.length hk_1) (by omega)|exact recT_end (by rw [← rec_s hk_1 (by omega)];assumption)|(rw [rec_s hk_1 (by omega)];exact recT_yes (nf ‹_›) (fun j hj=>hk_2 j (by omega)) (by rw [← rec_s hk_1 (by omega)];assumption))))),(Mv.pick (S3.trans (S9.trans (S11.trans (S15.trans T62)))) [] rfl),((show bE_=(recT seq list) from by first|exact recT_no (nt ‹_›)|exact recT_bad hx1 (cellB_1 ‹_›)|exact recT_bad hx1 (cellB_2 ‹_›)|exact recT_long (congrArg List.length hk_1) (by omega)|exact recT_end (by rw [← rec_s hk_1 (by omega)];assumption)|(rw [rec_s hk_1 (by omega)];exact recT_yes (nf ‹_›) (fun j hj=>hk_2 j (by omega)) (by rw [← rec_s hk_1 (by omega)];assumption))) ▸ (by unfold okS;decide))⟩
     ·rw [decide_eq_false h57] at F
      refine zr fun _ F=>?_
      refine zc F (on > 4000) (hb:=by first|exact dec_of (by omega)|(dsimp only;exact dec_of (by omega))) fun _ F=>?_
      have T68:Mv _ _ [_] _:=S27
      refine zi F (fun h69=>?_) fun h69=>?_
      ·refine zr fun _ F=>?_
       refine x_done F (results_1 rfl (zta F)) ?_
       exact ⟨(zV1 (zVs (by first|exact recT_no (nt ‹_›)|exact recT_bad hx1 (cellB_1 ‹_›)|exact recT_bad hx1 (cellB_2 ‹_›)|exact recT_long (congrArg List.length hk_1) (by omega)|exact recT_end (by rw [← rec_s hk_1 (by omega)];assumption)|(rw [rec_s hk_1 (by omega)];exact recT_yes (nf ‹_›) (fun j hj=>hk_2 j (by omega)) (by rw [← rec_s hk_1 (by omega)];assumption))))),(Mv.pick (S3.trans (S9.trans (S11.trans (S15.trans T68)))) [] rfl),((show bE_=(recT seq list) from by first|exact recT_no (nt ‹_›)|exact recT_bad hx1 (cellB_1 ‹_›)|exact recT_bad hx1 (cellB_2 ‹_›)|exact recT_long (congrArg List.length hk_1) (by omega)|exact recT_end (by rw [← rec_s hk_1 (by omega)];assumption)|(rw [rec_s hk_1 (by omega)];exact recT_yes (nf ‹_›) (fun j hj=>hk_2 j (by omega)) (by rw [← rec_s hk_1 (by omega)];assumption))) ▸ (by unfold okS;decide))⟩
      ·refine zr fun _ F=>?_
       have hs1:=keyOk_size (nf ‹_›)
       have hs2:=hexS_size x1.key
       have hs3:=hexS_size x1.val
       obtain ⟨B73,O73,y73,ad73,hy73,oky73,ln73,cl73⟩:=Rd.at (Rd.mq V_v_list (S3.trans (S9.trans (S11.trans (S15.trans T68))))) k zIa
       clear ln73
       obtain rfl:=Option.some.inj (hx1.symm.trans hy73)
       clear hy73 oky73
       refine zv F (r_indexAddr (i:=k) ET_28 rfl ((F.ev 46 rfl).trans (by rw [ad73])) (F.g rfl) (by omega) zIa) fun _ F=>?_
       refine zv (v:=.string x1.key) F (r_load (cs:=[.string x1.key]) TI_9 rfl (F.g rfl) rfl (fun _=>rfl) (elem_sub (f:=0) cl73 [.string x1.key] rfl)) fun _ F=>?_
       refine zz F (spec_Hex_c (H:=fun _=>True) (text:=x1.key) okx1.1 zI8) ?_
       rintro _ w77 ⟨rfl,m77,Q17⟩
       refine zt fun _ F=>?_
       have S77:=At.frame0 T68.at' m77
       clear m77
       obtain ⟨B86,O86,y86,ad86,hy86,oky86,ln86,cl86⟩:=Rd.at (Rd.mq V_v_list (S3.trans (S9.trans (S11.trans (S15.trans (T68.trans S77)))))) k zIa
       clear ln86
       obtain rfl:=Option.some.inj (hx1.symm.trans hy86)
       clear hy86 oky86
       refine zv F (r_indexAddr (i:=k) ET_28 rfl ((F.ev 55 rfl).trans (by rw [ad86])) (F.g rfl) (by omega) zIa) fun _ F=>?_
       refine zv (v:=.string x1.val) F (r_load (cs:=[.string x1.val]) TI_9 rfl (F.g rfl) rfl (fun _=>rfl) (elem_sub (f:=1) cl86 [.string x1.val] rfl)) fun _ F=>?_
       refine zz F (spec_Hex_c (H:=fun _=>True) (text:=x1.val) okx1.2 zI8) ?_
       rintro _ w90 ⟨rfl,m90,Q19⟩
       refine zt fun _ F=>?_
       have S90:=At.frame0 S77.at' m90
       clear m90
       refine l_op (f_buildSl (ok:=okB) (vs:=[.int .u8 32]) F S90.at' ([32]) ET_62 rfl rfl rfl rfl rfl rfl (lc (pr2 rfl) rfl) rfl rfl (fun x hx=>(List.mem_singleton.1 hx) ▸ (show 32 < 256 by omega)) fun b98 _ w98 F S98=>?_)
       refine l_op (f_appX (news:=[32]) F S98.at' 1 ET_62 rfl rfl rfl rfl rfl rfl (F.g rfl) (F.g rfl) ((At.rd S98.at' ET_62.hk 0 rfl)).1 (by simp) (by ((repeat (first|rw [List.length_append]|rw [List.length_cons]|rw [List.length_nil]|rw [bytesN_length])) <;> omega)) fun A100 N100 C100 _ w100 F S100 l100=>?_)
       have S102:=At.drop S100.at' 1
       refine zr fun _ F=>?_
       refine l_op (f_appXs (bs:=bytesN (hexS x1.key)) F S102.at' 0 ET_62 Tryz.underlying9 rfl rfl rfl rfl rfl rfl rfl rfl (F.g rfl) (F.g rfl) rfl (by ((repeat (first|rw [List.length_append]|rw [List.length_cons]|rw [List.length_nil]|rw [bytesN_length])) <;> omega)) fun A104 N104 C104 _ w104 F S104 l104=>?_)
       refine l_op (f_buildSl (ok:=okB) (vs:=[.int .u8 61]) F S104.at' ([61]) ET_62 rfl rfl rfl rfl rfl rfl (lc (pr2 rfl) rfl) rfl rfl (fun x hx=>(List.mem_singleton.1 hx) ▸ (show 61 < 256 by omega)) fun b106 _ w106 F S106=>?_)
       refine l_op (f_appX (news:=[61]) F S106.at' 1 ET_62 rfl rfl rfl rfl rfl rfl (F.g rfl) (F.g rfl) ((At.rd S106.at' ET_62.hk 0 rfl)).1 (by simp) (by ((repeat (first|rw [List.length_append]|rw [List.length_cons]|rw [List.length_nil]|rw [bytesN_length])) <;> omega)) fun A108 N108 C108 _ w108 F S108 l108=>?_)
       have S110:=At.drop S108.at' 1
       refine zr fun _ F=>?_
       refine l_op (f_appXs (bs:=bytesN (hexS x1.val)) F S110.at' 0 ET_62 Tryz.underlying9 rfl rfl rfl rfl rfl rfl rfl rfl (F.g rfl) (F.g rfl) rfl (by ((repeat (first|rw [List.length_append]|rw [List.length_cons]|rw [List.length_nil]|rw [bytesN_length])) <;> omega)) fun A112 N112 C112 _ w112 F S112 l112=>?_)
       refine zr fun _ F=>?_
       have T115:Mv _ _ [_] _:=S112
       refine zq F ((k+1:Nat):Int) fun _ F=>?_
       exact ⟨k+1,zD,(((D++([32]))++bytesN (hexS x1.key))++([61]))++bytesN (hexS x1.val),A112,N112,C112,F.cut rfl,((S15.trans (T68.trans (S77.trans (S90.trans (S98.trans (S100.trans (S102.trans (S104.trans (S106.trans (S108.trans (S110.trans T115))))))))))).pick [0] rfl),by omega,rec_step hk_1 hx1,rec_all hk_2 hx1 (cellB_yes ‹_› ‹_›),by (repeat (first|rw [List.length_append]|rw [List.length_cons]|rw [List.length_nil]|rw [bytesN_length]));omega⟩
   ·refine zr fun _ F=>?_
    have hz3:=bstr_size D
    have hz4:=sumN_lt (l:=bytesN (bstr D))
    have hz5:=decS_size ((sumN (bytesN (bstr D)):Nat):Int) ⟨by omega,by omega⟩
    have hz6:(⟨#[32,35]⟩:ByteArray).size=2:=rfl
    have hz7:(⟨#[10]⟩:ByteArray).size=1:=rfl
    refine x_draw (fun aZ wZ=>Fr 85 [(11,.string ((((bstr D)++(⟨#[32,35]⟩:ByteArray))++(decS ((sumN (bytesN (bstr D)):Nat):Int)))++(⟨#[10]⟩:ByteArray)))] aZ∧Mv [owX 5 (.slice oa on oc) D] w15 [owX 5 (.slice oa on oc) D] wZ∧okS ((((bstr D)++(⟨#[32,35]⟩:ByteArray))++(decS ((sumN (bytesN (bstr D)):Nat):Int)))++(⟨#[10]⟩:ByteArray))) [] mixed S15.at' (listed:=#[false,false,false,false,false,false,false,false,false,false]) rfl (fun w120 S120=>?_) [] rfl ?_
    ·refine g_take F rfl (i:=0) (listed':=#[true,false,false,false,false,false,false,false,false,false]) rfl (by kernel_rfl) (by kernel_rfl) (by kernel_rfl) (fun _ _ _ h=>h) (Sd.of (Mv.refl S120.at') [] rfl) rfl rfl rfl rfl (fun _ hz=>(r_move rfl (F.g rfl))) fun _ F=>?_
     refine g_take F rfl (i:=3) (listed':=#[true,false,false,true,false,false,false,false,false,false]) rfl (by kernel_rfl) (by kernel_rfl) (by kernel_rfl) (fun _ _ _ h=>h) (Sd.of (Mv.refl S120.at') [] rfl) rfl rfl rfl rfl (fun _ hz=>(r_move rfl (F.g rfl))) fun _ F=>?_
     refine d_all (rs:=[1,4]) rfl (by kernel_rfl) (by simp) (d_cons (i:=1) (listed':=#[true,true,false,true,false,false,false,false,false,false]) rfl rfl ?_ (d_cons (i:=4) (listed':=#[true,false,false,true,true,false,false,false,false,false]) rfl rfl ?_ d_nil))
     ·refine f_val F rfl rfl (r_bstr Tryz.underlying62 Tryz.underlying5 Tryz.underlying9 ((At.rdX S120.at' 0 rfl)).1 rfl (F.g rfl)) rfl fun _ F=>?_
      refine ⟨Sd.of (Mv.refl S120.at') [] rfl,?_⟩
      have k124:(bstr D).size+(⟨#[32,35]⟩:ByteArray).size≤9223372036854775807:=by ((repeat rw [ByteArray.size_append]) <;> omega)
      refine g_take F rfl (i:=2) (listed':=#[true,true,true,true,false,false,false,false,false,false]) rfl (by kernel_rfl) (by kernel_rfl) (by kernel_rfl) (fun _ _ _ h=>h) (Sd.of (Mv.refl S120.at') [] rfl) rfl rfl rfl rfl (fun _ hz=>(r_cat rfl (F.g rfl) rfl k124)) fun _ F=>?_
      refine d_one (i:=4) (listed':=#[true,true,true,true,true,false,false,false,false,false]) rfl (by kernel_rfl) rfl rfl ?_
      refine f_val F rfl rfl (r_bstr Tryz.underlying62 Tryz.underlying5 Tryz.underlying9 ((At.rdX S120.at' 0 rfl)).1 rfl (F.g rfl)) rfl fun _ F=>?_
      refine ⟨Sd.of (Mv.refl S120.at') [] rfl,?_⟩
      refine d_one (i:=5) (listed':=#[true,true,true,true,true,true,false,false,false,false]) rfl (by kernel_rfl) rfl rfl ?_
      refine f_call F CF_146 rfl rfl rfl rfl (lc (F.g rfl) rfl) (spec_ByteSum_c (H:=fun _=>True) (text:=bstr D) (okS_bstr (by omega))) ?_
      rintro _ w127 ⟨rfl,m127⟩
      refine ⟨_,rfl,fun _ F=>?_⟩
      have S127:=At.frame0 S120.at' m127
      clear m127
      refine ⟨Sd.of S127 [] rfl,?_⟩
      refine d_one (i:=6) (listed':=#[true,true,true,true,true,true,true,false,false,false]) rfl (by kernel_rfl) rfl rfl ?_
      refine f_call F CF_144 rfl rfl rfl rfl (lc (F.g rfl) rfl) (spec_Decimal_c (H:=fun _=>True) (n:=((sumN (bytesN (bstr D)):Nat):Int)) zI7) ?_
      rintro _ w129 ⟨rfl,m129,Q13⟩
      refine ⟨_,rfl,fun _ F=>?_⟩
      have S129:=At.frame0 S127.at' m129
      clear m129
      refine ⟨Sd.of (S127.trans S129) [] rfl,?_⟩
      have k131:((bstr D)++(⟨#[32,35]⟩:ByteArray)).size+(decS ((sumN (bytesN (bstr D)):Nat):Int)).size≤9223372036854775807:=by ((repeat rw [ByteArray.size_append]) <;> omega)
      refine g_take F rfl (i:=7) (listed':=#[true,true,true,true,true,true,true,true,false,false]) rfl (by kernel_rfl) (by kernel_rfl) (by kernel_rfl) (fun _ _ _ h=>h) (Sd.of (S127.trans S129) [] rfl) rfl rfl rfl rfl (fun _ hz=>(r_cat rfl (F.g rfl) (F.g rfl) k131)) fun _ F=>?_
      have k133:(((bstr D)++(⟨#[32,35]⟩:ByteArray))++(decS ((sumN (bytesN (bstr D)):Nat):Int))).size+(⟨#[10]⟩:ByteArray).size≤9223372036854775807:=by ((repeat rw [ByteArray.size_append]) <;> omega)
      refine g_take F rfl (i:=8) (listed':=#[true,true,true,true,true,true,true,true,true,false]) rfl (by kernel_rfl) (by kernel_rfl) (by kernel_rfl) (fun _ _ _ h=>h) (Sd.of (S127.trans S129) [] rfl) rfl rfl rfl rfl (fun _ hz=>(r_cat rfl (F.g rfl) rfl k133)) fun _ F=>?_
      refine g_take F rfl (i:=9) (listed':=#[true,true,true,true,true,true,true,true,true,true]) rfl (by kernel_rfl) (by kernel_rfl) (by kernel_rfl) (fun _ _ _ h=>h) (Sd.of (S127.trans S129) [] rfl) rfl rfl rfl rfl (fun _ hz=>(r_assign rfl (F.g rfl))) fun _ F=>?_
      refine wpAnyH_done (by kernel_rfl) (x_normal ?_) _
      exact ⟨F.cut rfl,((S120.trans (S127.trans S129)).pick [0] rfl),(okS_cat k133)⟩
     ·refine f_val F rfl rfl (r_bstr Tryz.underlying62 Tryz.underlying5 Tryz.underlying9 ((At.rdX S120.at' 0 rfl)).1 rfl (F.g rfl)) rfl fun _ F=>?_
      refine ⟨Sd.of (Mv.refl S120.at') [] rfl,?_⟩
      refine d_all (rs:=[1,5]) rfl (by kernel_rfl) (by simp) (d_cons (i:=1) (listed':=#[true,true,false,true,true,false,false,false,false,false]) rfl rfl ?_ (d_cons (i:=5) (listed':=#[true,false,false,true,true,true,false,false,false,false]) rfl rfl ?_ d_nil))
      ·refine f_val F rfl rfl (r_bstr Tryz.underlying62 Tryz.underlying5 Tryz.underlying9 ((At.rdX S120.at' 0 rfl)).1 rfl (F.g rfl)) rfl fun _ F=>?_
       refine ⟨Sd.of (Mv.refl S120.at') [] rfl,?_⟩
       have k138:(bstr D).size+(⟨#[32,35]⟩:ByteArray).size≤9223372036854775807:=by ((repeat rw [ByteArray.size_append]) <;> omega)
       refine g_take F rfl (i:=2) (listed':=#[true,true,true,true,true,false,false,false,false,false]) rfl (by kernel_rfl) (by kernel_rfl) (by kernel_rfl) (fun _ _ _ h=>h) (Sd.of (Mv.refl S120.at') [] rfl) rfl rfl rfl rfl (fun _ hz=>(r_cat rfl (F.g rfl) rfl k138)) fun _ F=>?_
       refine d_one (i:=5) (listed':=#[true,true,true,true,true,true,false,false,false,false]) rfl (by kernel_rfl) rfl rfl ?_
       refine f_call F CF_146 rfl rfl rfl rfl (lc (F.g rfl) rfl) (spec_ByteSum_c (H:=fun _=>True) (text:=bstr D) (okS_bstr (by omega))) ?_
       rintro _ w140 ⟨rfl,m140⟩
       refine ⟨_,rfl,fun _ F=>?_⟩
       have S140:=At.frame0 S120.at' m140
       clear m140
       refine ⟨Sd.of S140 [] rfl,?_⟩
       refine d_one (i:=6) (listed':=#[true,true,true,true,true,true,true,false,false,false]) rfl (by kernel_rfl) rfl rfl ?_
       refine f_call F CF_144 rfl rfl rfl rfl (lc (F.g rfl) rfl) (spec_Decimal_c (H:=fun _=>True) (n:=((sumN (bytesN (bstr D)):Nat):Int)) zI7) ?_
       rintro _ w142 ⟨rfl,m142,Q14⟩
       refine ⟨_,rfl,fun _ F=>?_⟩
       have S142:=At.frame0 S140.at' m142
       clear m142
       refine ⟨Sd.of (S140.trans S142) [] rfl,?_⟩
       have k144:((bstr D)++(⟨#[32,35]⟩:ByteArray)).size+(decS ((sumN (bytesN (bstr D)):Nat):Int)).size≤9223372036854775807:=by ((repeat rw [ByteArray.size_append]) <;> omega)
       refine g_take F rfl (i:=7) (listed':=#[true,true,true,true,true,true,true,true,false,false]) rfl (by kernel_rfl) (by kernel_rfl) (by kernel_rfl) (fun _ _ _ h=>h) (Sd.of (S140.trans S142) [] rfl) rfl rfl rfl rfl (fun _ hz=>(r_cat rfl (F.g rfl) (F.g rfl) k144)) fun _ F=>?_
       have k146:(((bstr D)++(⟨#[32,35]⟩:ByteArray))++(decS ((sumN (bytesN (bstr D)):Nat):Int))).size+(⟨#[10]⟩:ByteArray).size≤9223372036854775807:=by ((repeat rw [ByteArray.size_append]) <;> omega)
       refine g_take F rfl (i:=8) (listed':=#[true,true,true,true,true,true,true,true,true,false]) rfl (by kernel_rfl) (by kernel_rfl) (by kernel_rfl) (fun _ _ _ h=>h) (Sd.of (S140.trans S142) [] rfl) rfl rfl rfl rfl (fun _ hz=>(r_cat rfl (F.g rfl) rfl k146)) fun _ F=>?_
       refine g_take F rfl (i:=9) (listed':=#[true,true,true,true,true,true,true,true,true,true]) rfl (by kernel_rfl) (by kernel_rfl) (by kernel_rfl) (fun _ _ _ h=>h) (Sd.of (S140.trans S142) [] rfl) rfl rfl rfl rfl (fun _ hz=>(r_assign rfl (F.g rfl))) fun _ F=>?_
       refine wpAnyH_done (by kernel_rfl) (x_normal ?_) _
       exact ⟨F.cut rfl,((S120.trans (S140.trans S142)).pick [0] rfl),(okS_cat k146)⟩
      ·refine f_call F CF_146 rfl rfl rfl rfl (lc (F.g rfl) rfl) (spec_ByteSum_c (H:=fun _=>True) (text:=bstr D) (okS_bstr (by omega))) ?_
       rintro _ w149 ⟨rfl,m149⟩
       refine ⟨_,rfl,fun _ F=>?_⟩
       have S149:=At.frame0 S120.at' m149
       clear m149
       refine ⟨Sd.of S149 [] rfl,?_⟩
       refine d_all (rs:=[1,6]) rfl (by kernel_rfl) (by simp) (d_cons (i:=1) (listed':=#[true,true,false,true,true,true,false,false,false,false]) rfl rfl ?_ (d_cons (i:=6) (listed':=#[true,false,false,true,true,true,true,false,false,false]) rfl rfl ?_ d_nil))
       ·refine f_val F rfl rfl (r_bstr Tryz.underlying62 Tryz.underlying5 Tryz.underlying9 ((At.rdX S149.at' 0 rfl)).1 rfl (F.g rfl)) rfl fun _ F=>?_
        refine ⟨Sd.of S149 [] rfl,?_⟩
        have k152:(bstr D).size+(⟨#[32,35]⟩:ByteArray).size≤9223372036854775807:=by ((repeat rw [ByteArray.size_append]) <;> omega)
        refine g_take F rfl (i:=2) (listed':=#[true,true,true,true,true,true,false,false,false,false]) rfl (by kernel_rfl) (by kernel_rfl) (by kernel_rfl) (fun _ _ _ h=>h) (Sd.of S149 [] rfl) rfl rfl rfl rfl (fun _ hz=>(r_cat rfl (F.g rfl) rfl k152)) fun _ F=>?_
        refine d_one (i:=6) (listed':=#[true,true,true,true,true,true,true,false,false,false]) rfl (by kernel_rfl) rfl rfl ?_
        refine f_call F CF_144 rfl rfl rfl rfl (lc (F.g rfl) rfl) (spec_Decimal_c (H:=fun _=>True) (n:=((sumN (bytesN (bstr D)):Nat):Int)) zI7) ?_
        rintro _ w154 ⟨rfl,m154,Q15⟩
        refine ⟨_,rfl,fun _ F=>?_⟩
        have S154:=At.frame0 S149.at' m154
        clear m154
        refine ⟨Sd.of (S149.trans S154) [] rfl,?_⟩
        have k156:((bstr D)++(⟨#[32,35]⟩:ByteArray)).size+(decS ((sumN (bytesN (bstr D)):Nat):Int)).size≤9223372036854775807:=by ((repeat rw [ByteArray.size_append]) <;> omega)
        refine g_take F rfl (i:=7) (listed':=#[true,true,true,true,true,true,true,true,false,false]) rfl (by kernel_rfl) (by kernel_rfl) (by kernel_rfl) (fun _ _ _ h=>h) (Sd.of (S149.trans S154) [] rfl) rfl rfl rfl rfl (fun _ hz=>(r_cat rfl (F.g rfl) (F.g rfl) k156)) fun _ F=>?_
        have k158:(((bstr D)++(⟨#[32,35]⟩:ByteArray))++(decS ((sumN (bytesN (bstr D)):Nat):Int))).size+(⟨#[10]⟩:ByteArray).size≤9223372036854775807:=by ((repeat rw [ByteArray.size_append]) <;> omega)
        refine g_take F rfl (i:=8) (listed':=#[true,true,true,true,true,true,true,true,true,false]) rfl (by kernel_rfl) (by kernel_rfl) (by kernel_rfl) (fun _ _ _ h=>h) (Sd.of (S149.trans S154) [] rfl) rfl rfl rfl rfl (fun _ hz=>(r_cat rfl (F.g rfl) rfl k158)) fun _ F=>?_
        refine g_take F rfl (i:=9) (listed':=#[true,true,true,true,true,true,true,true,true,true]) rfl (by kernel_rfl) (by kernel_rfl) (by kernel_rfl) (fun _ _ _ h=>h) (Sd.of (S149.trans S154) [] rfl) rfl rfl rfl rfl (fun _ hz=>(r_assign rfl (F.g rfl))) fun _ F=>?_
        refine wpAnyH_done (by kernel_rfl) (x_normal ?_) _
        exact ⟨F.cut rfl,((S120.trans (S149.trans S154)).pick [0] rfl),(okS_cat k158)⟩
       ·refine f_call F CF_144 rfl rfl rfl rfl (lc (F.g rfl) rfl) (spec_Decimal_c (H:=fun _=>True) (n:=((sumN (bytesN (bstr D)):Nat):Int)) zI7) ?_
        rintro _ w161 ⟨rfl,m161,Q16⟩
        refine ⟨_,rfl,fun _ F=>?_⟩
        have S161:=At.frame0 S149.at' m161
        clear m161
        refine ⟨Sd.of (S149.trans S161) [] rfl,?_⟩
        refine d_one (i:=1) (listed':=#[true,true,false,true,true,true,true,false,false,false]) rfl (by kernel_rfl) rfl rfl ?_
        refine f_val F rfl rfl (r_bstr Tryz.underlying62 Tryz.underlying5 Tryz.underlying9 ((At.rdX S161.at' 0 rfl)).1 rfl (F.g rfl)) rfl fun _ F=>?_
        refine ⟨Sd.of (S149.trans S161) [] rfl,?_⟩
        have k164:(bstr D).size+(⟨#[32,35]⟩:ByteArray).size≤9223372036854775807:=by ((repeat rw [ByteArray.size_append]) <;> omega)
        refine g_take F rfl (i:=2) (listed':=#[true,true,true,true,true,true,true,false,false,false]) rfl (by kernel_rfl) (by kernel_rfl) (by kernel_rfl) (fun _ _ _ h=>h) (Sd.of (S149.trans S161) [] rfl) rfl rfl rfl rfl (fun _ hz=>(r_cat rfl (F.g rfl) rfl k164)) fun _ F=>?_
        have k166:((bstr D)++(⟨#[32,35]⟩:ByteArray)).size+(decS ((sumN (bytesN (bstr D)):Nat):Int)).size≤9223372036854775807:=by ((repeat rw [ByteArray.size_append]) <;> omega)
        refine g_take F rfl (i:=7) (listed':=#[true,true,true,true,true,true,true,true,false,false]) rfl (by kernel_rfl) (by kernel_rfl) (by kernel_rfl) (fun _ _ _ h=>h) (Sd.of (S149.trans S161) [] rfl) rfl rfl rfl rfl (fun _ hz=>(r_cat rfl (F.g rfl) (F.g rfl) k166)) fun _ F=>?_
        have k168:(((bstr D)++(⟨#[32,35]⟩:ByteArray))++(decS ((sumN (bytesN (bstr D)):Nat):Int))).size+(⟨#[10]⟩:ByteArray).size≤9223372036854775807:=by ((repeat rw [ByteArray.size_append]) <;> omega)
        refine g_take F rfl (i:=8) (listed':=#[true,true,true,true,true,true,true,true,true,false]) rfl (by kernel_rfl) (by kernel_rfl) (by kernel_rfl) (fun _ _ _ h=>h) (Sd.of (S149.trans S161) [] rfl) rfl rfl rfl rfl (fun _ hz=>(r_cat rfl (F.g rfl) rfl k168)) fun _ F=>?_
        refine g_take F rfl (i:=9) (listed':=#[true,true,true,true,true,true,true,true,true,true]) rfl (by kernel_rfl) (by kernel_rfl) (by kernel_rfl) (fun _ _ _ h=>h) (Sd.of (S149.trans S161) [] rfl) rfl rfl rfl rfl (fun _ hz=>(r_assign rfl (F.g rfl))) fun _ F=>?_
        refine wpAnyH_done (by kernel_rfl) (x_normal ?_) _
        exact ⟨F.cut rfl,((S120.trans (S149.trans S161)).pick [0] rfl),(okS_cat k168)⟩
    ·rintro a171 w171 ⟨F,S171,Q5⟩
     refine zr fun _ F=>?_
     refine zc F (((((bstr D)++(⟨#[32,35]⟩:ByteArray))++(decS ((sumN (bytesN (bstr D)):Nat):Int)))++(⟨#[10]⟩:ByteArray)).size > 4000) (hb:=by first|exact dec_of (by omega)|(dsimp only;exact dec_of (by omega))) fun _ F=>?_
     refine zi F (fun h175=>?_) fun h175=>?_
     ·refine zr fun _ F=>?_
      refine x_done F (results_1 rfl (zta F)) ?_
      exact ⟨(zV1 (zVs (by first|exact recT_no (nt ‹_›)|exact recT_bad hx1 (cellB_1 ‹_›)|exact recT_bad hx1 (cellB_2 ‹_›)|exact recT_long (congrArg List.length hk_1) (by omega)|exact recT_end (by rw [← rec_s hk_1 (by omega)];assumption)|(rw [rec_s hk_1 (by omega)];exact recT_yes (nf ‹_›) (fun j hj=>hk_2 j (by omega)) (by rw [← rec_s hk_1 (by omega)];assumption))))),(Mv.pick (S3.trans (S9.trans (S11.trans (S15.trans S171)))) [] rfl),((show bE_=(recT seq list) from by first|exact recT_no (nt ‹_›)|exact recT_bad hx1 (cellB_1 ‹_›)|exact recT_bad hx1 (cellB_2 ‹_›)|exact recT_long (congrArg List.length hk_1) (by omega)|exact recT_end (by rw [← rec_s hk_1 (by omega)];assumption)|(rw [rec_s hk_1 (by omega)];exact recT_yes (nf ‹_›) (fun j hj=>hk_2 j (by omega)) (by rw [← rec_s hk_1 (by omega)];assumption))) ▸ (by unfold okS;decide))⟩
     ·refine zr fun _ F=>?_
      refine x_done F (results_1 rfl (zta F)) ?_
      exact ⟨(zV1 (zVs (by first|exact recT_no (nt ‹_›)|exact recT_bad hx1 (cellB_1 ‹_›)|exact recT_bad hx1 (cellB_2 ‹_›)|exact recT_long (congrArg List.length hk_1) (by omega)|exact recT_end (by rw [← rec_s hk_1 (by omega)];assumption)|(rw [rec_s hk_1 (by omega)];exact recT_yes (nf ‹_›) (fun j hj=>hk_2 j (by omega)) (by rw [← rec_s hk_1 (by omega)];assumption))))),(Mv.pick (S3.trans (S9.trans (S11.trans (S15.trans S171)))) [] rfl),(zOk (by first|exact recT_no (nt ‹_›)|exact recT_bad hx1 (cellB_1 ‹_›)|exact recT_bad hx1 (cellB_2 ‹_›)|exact recT_long (congrArg List.length hk_1) (by omega)|exact recT_end (by rw [← rec_s hk_1 (by omega)];assumption)|(rw [rec_s hk_1 (by omega)];exact recT_yes (nf ‹_›) (fun j hj=>hk_2 j (by omega)) (by rw [← rec_s hk_1 (by omega)];assumption))) Q5)⟩
theorem strings_Builder_copyCheck_nil_c {w:World} {H:Nat→Prop} {b:BldD} {Q0:Option Addr} {Q2 Q1:Nat} {b_b:Nat}  (hA:At w [bx b_b [.pointer none,.slice Q0 Q2 Q1] 195,owB 5 (.slice Q0 Q2 Q1) b.buf]) :
 Calls Tryz.prog 181 #[.pointer (some ⟨b_b,0,none⟩)] w fun e w'=>e=.returned (.tuple #[])∧Mv [bx b_b [.pointer none,.slice Q0 Q2 Q1] 195,owB 5 (.slice Q0 Q2 Q1) b.buf] w [bx b_b [.pointer (some ⟨b_b,0,none⟩),.slice Q0 Q2 Q1] 195,owB 5 (.slice Q0 Q2 Q1) b.buf] w':=by
 have hbk:=bx_at hA
 refine (Any.Builder_copyCheck_fresh { laysBWr with } extraW b_b w (by rw [Lib.cell_of_heap hbk];rfl) (shape_bx hbk) (Lib.frozen_of_heap hbk 0)).mono ?_
 rintro e w' ⟨rfl,rfl⟩
 exact ⟨rfl,bld_set _ hA⟩
theorem strings_Builder_copyCheck_c {w:World} {H:Nat→Prop} {b:BldD} {Q0:Option Addr} {Q2 Q1:Nat} {b_b:Nat}  (hA:At w [bx b_b [.pointer (some ⟨b_b,0,none⟩),.slice Q0 Q2 Q1] 195,owB 5 (.slice Q0 Q2 Q1) b.buf]) :
 Calls Tryz.prog 181 #[.pointer (some ⟨b_b,0,none⟩)] w fun e w'=>e=.returned (.tuple #[])∧Mv [bx b_b [.pointer (some ⟨b_b,0,none⟩),.slice Q0 Q2 Q1] 195,owB 5 (.slice Q0 Q2 Q1) b.buf] w [bx b_b [.pointer (some ⟨b_b,0,none⟩),.slice Q0 Q2 Q1] 195,owB 5 (.slice Q0 Q2 Q1) b.buf] w':=by
 have hbk:=bx_at hA
 refine (Any.Builder_copyCheck_used { laysBWr with } extraW b_b w (by rw [Lib.cell_of_heap hbk];rfl)).mono ?_
 rintro e w' ⟨rfl,rfl⟩
 exact ⟨rfl,Mv.refl hA⟩
theorem strings_Builder_WriteString_nil_c {w:World} {H:Nat→Prop} {b:BldD} {Q0:Option Addr} {Q2 Q1:Nat} {b_b:Nat} {s:ByteArray} (h_s:okS s) (p0:b.buf.length+s.size≤140737488355328) (hA:At w [bx b_b [.pointer none,.slice Q0 Q2 Q1] 195,owB 5 (.slice Q0 Q2 Q1) b.buf]) :
 Calls Tryz.prog 150 #[.pointer (some ⟨b_b,0,none⟩),.string s] w fun e w'=>∃ (Q3:Option Addr),∃ (Q5:Nat),∃ (Q4:Nat),e=.returned (.tuple #[.int .i64 ((s.size:Nat):Int),.nilIface])∧Mv [bx b_b [.pointer none,.slice Q0 Q2 Q1] 195,owB 5 (.slice Q0 Q2 Q1) b.buf] w [bx b_b [.pointer (some ⟨b_b,0,none⟩),.slice Q3 Q5 Q4] 195,owB 5 (.slice Q3 Q5 Q4) (b.buf++bytesN s)] w':=by
 obtain ⟨lo1,lp1,lq1⟩:=At.ownInvB hA 1 rfl
 refine ze fun _ F=>?_
 refine zz F (strings_Builder_copyCheck_nil_c (H:=fun _=>True) (b:=(⟨(),b.buf⟩:BldD)) (At.pick (is:=[0,1]) hA rfl)) ?_
 rintro _ w4 ⟨rfl,m4⟩
 refine zt fun _ F=>?_
 have S4:Mv _ _ [bx _ [_,_] _,_] _:=At.frame hA [0,1] rfl m4
 obtain ⟨Q6,Q7,Q8⟩:=At.ownInvB S4.at' 1 rfl
 clear m4
 refine zv F (r_nilCheck rfl (F.g rfl)) fun _ F=>?_
 refine zl F S4.at' 0 fun _ F=>?_
 refine l_op (f_appBs (bs:=bytesN s) F S4.at' 1 ET_62 Tryz.underlying9 rfl rfl rfl rfl rfl rfl rfl rfl (F.g rfl) (F.g rfl) rfl (by ((repeat (first|rw [List.length_append]|rw [List.length_cons]|rw [List.length_nil]|rw [bytesN_length])) <;> omega)) fun A12 N12 C12 _ w12 F S12 l12=>?_)
 refine zv F (r_nilCheck rfl (F.g rfl)) fun _ F=>?_
 refine l_op (s_store S12.at' 1 TI_62 rfl rfl rfl rfl rfl (F.g rfl) (F.g rfl) rfl rfl rfl rfl rfl fun w16 S16=>?_)
 refine zr fun _ F=>?_
 refine x_done F (results_2 rfl (zta F) (zta F)) ?_
 exact ⟨A12,N12,C12,rfl,(Mv.pick (S4.trans (S12.trans S16)) [0,1] rfl)⟩
theorem strings_Builder_WriteString_c {w:World} {H:Nat→Prop} {b:BldD} {Q0:Option Addr} {Q2 Q1:Nat} {b_b:Nat} {s:ByteArray} (h_s:okS s) (p0:b.buf.length+s.size≤140737488355328) (hA:At w [bx b_b [.pointer (some ⟨b_b,0,none⟩),.slice Q0 Q2 Q1] 195,owB 5 (.slice Q0 Q2 Q1) b.buf]) :
 Calls Tryz.prog 150 #[.pointer (some ⟨b_b,0,none⟩),.string s] w fun e w'=>∃ (Q3:Option Addr),∃ (Q5:Nat),∃ (Q4:Nat),e=.returned (.tuple #[.int .i64 ((s.size:Nat):Int),.nilIface])∧Mv [bx b_b [.pointer (some ⟨b_b,0,none⟩),.slice Q0 Q2 Q1] 195,owB 5 (.slice Q0 Q2 Q1) b.buf] w [bx b_b [.pointer (some ⟨b_b,0,none⟩),.slice Q3 Q5 Q4] 195,owB 5 (.slice Q3 Q5 Q4) (b.buf++bytesN s)] w':=by
 obtain ⟨lo1,lp1,lq1⟩:=At.ownInvB hA 1 rfl
 refine ze fun _ F=>?_
 refine zz F (strings_Builder_copyCheck_c (H:=fun _=>True) (b:=(⟨(),b.buf⟩:BldD)) (At.pick (is:=[0,1]) hA rfl)) ?_
 rintro _ w4 ⟨rfl,m4⟩
 refine zt fun _ F=>?_
 have S4:Mv _ _ [bx _ [_,_] _,_] _:=At.frame hA [0,1] rfl m4
 obtain ⟨Q6,Q7,Q8⟩:=At.ownInvB S4.at' 1 rfl
 clear m4
 refine zv F (r_nilCheck rfl (F.g rfl)) fun _ F=>?_
 refine zl F S4.at' 0 fun _ F=>?_
 refine l_op (f_appBs (bs:=bytesN s) F S4.at' 1 ET_62 Tryz.underlying9 rfl rfl rfl rfl rfl rfl rfl rfl (F.g rfl) (F.g rfl) rfl (by ((repeat (first|rw [List.length_append]|rw [List.length_cons]|rw [List.length_nil]|rw [bytesN_length])) <;> omega)) fun A12 N12 C12 _ w12 F S12 l12=>?_)
 refine zv F (r_nilCheck rfl (F.g rfl)) fun _ F=>?_
 refine l_op (s_store S12.at' 1 TI_62 rfl rfl rfl rfl rfl (F.g rfl) (F.g rfl) rfl rfl rfl rfl rfl fun w16 S16=>?_)
 refine zr fun _ F=>?_
 refine x_done F (results_2 rfl (zta F) (zta F)) ?_
 exact ⟨A12,N12,C12,rfl,(Mv.pick (S4.trans (S12.trans S16)) [0,1] rfl)⟩
theorem strings_Builder_Len_c {w:World} {H:Nat→Prop} {b:BldD} {Q1:Option Addr} {Q0 Q2:Nat} {b_b:Nat}  (hA:At w [bx b_b [.pointer (some ⟨b_b,0,none⟩),.slice Q1 Q0 Q2] 195,owB 5 (.slice Q1 Q0 Q2) b.buf]) :
 Calls Tryz.prog 152 #[.pointer (some ⟨b_b,0,none⟩)] w fun e w'=>e=.returned (.int .i64 ((Q0:Nat):Int))∧Mv [bx b_b [.pointer (some ⟨b_b,0,none⟩),.slice Q1 Q0 Q2] 195,owB 5 (.slice Q1 Q0 Q2) b.buf] w [bx b_b [.pointer (some ⟨b_b,0,none⟩),.slice Q1 Q0 Q2] 195,owB 5 (.slice Q1 Q0 Q2) b.buf] w':=by
 obtain ⟨lo1,lp1,lq1⟩:=At.ownInvB hA 1 rfl
 refine ze fun _ F=>?_
 refine zv F (r_nilCheck rfl (F.g rfl)) fun _ F=>?_
 refine zl F hA 0 fun _ F=>?_
 refine x_done F (results_1 rfl (zta F)) ?_
 exact ⟨rfl,(Mv.pick (Mv.refl hA) [0,1] rfl)⟩
theorem strings_Builder_String_c {w:World} {H:Nat→Prop} {b:BldD} {Q0:Option Addr} {Q2 Q1:Nat} {b_b:Nat}  (p0:b.buf≠[]) (hA:At w [bx b_b [.pointer (some ⟨b_b,0,none⟩),.slice Q0 Q2 Q1] 195,owB 5 (.slice Q0 Q2 Q1) b.buf]) :
 Calls Tryz.prog 154 #[.pointer (some ⟨b_b,0,none⟩)] w fun e w'=>e=.returned (.string (bstr b.buf))∧Mv [bx b_b [.pointer (some ⟨b_b,0,none⟩),.slice Q0 Q2 Q1] 195,owB 5 (.slice Q0 Q2 Q1) b.buf] w [bx b_b [.pointer (some ⟨b_b,0,none⟩),.slice Q0 Q2 Q1] 195,owB 5 (.slice Q0 Q2 Q1) b.buf] w'∧okS (bstr b.buf):=by
 have hO:OwnB _ w (.slice Q0 Q2 Q1) b.buf:=hA.ok _ (nth_mem (i:=1) rfl)
 have hl:∀ x ∈ b.buf,x < 256:=hO.bytes
 have hz:=hO.len
 obtain ⟨l,hq,hs⟩:∃ l:List UInt8,b.buf=l.map (·.toNat)∧(⟨l.toArray⟩:ByteArray)=bstr b.buf:=⟨(bstr b.buf).data.toList,(bytesN_bstr b.buf hl).symm,rfl⟩
 rw [hq] at hA
 rw [← hs,hq]
 refine (bld_str_c laysBStr extraS l (fun e=>p0 (by rw [hq,e];rfl)) hA).mono ?_
 rintro e w' ⟨rfl,hm⟩
 exact ⟨rfl,hm,by rw [hs];exact okS_bstr (by unfold maxLen at hz;omega)⟩
theorem impl_RecordText_c {w:World} {H:Nat→Prop} {seq:Int} {list:List CellD} {Q4:Option Addr} {Q0 Q5:Nat} (Q6:i64ok seq) (Q10:Rd 2 encC okC H w (.slice Q4 Q0 Q5) list) (tab0:Tb 0 H w) (p0:list.length≤4294967280) :
 Calls Tryz.prog 115 #[.int .i64 seq,.slice Q4 Q0 Q5] w fun e w'=>e=.returned (.string (recT seq list))∧Mv [] w [] w'∧okS (recT seq list):=by
 have hds:=decS_size seq Q6
 have V_v_list:=Rd.start Q10 zN
 obtain ⟨Q14,Q13,Q36,Q37⟩:=Rd.inv Q10
 have V_tab0:=Tb.start tab0 zN
 refine ze fun _ F=>?_
 refine zz F (impl_within_c (H:=fun _=>True) (n:=seq) (low:=1) (high:=100000) Q6 zI7 zI7) ?_
 rintro _ w3 ⟨rfl,m3⟩
 refine zt fun _ F=>?_
 have S3:=At.frame0 (At.nil w) m3
 clear m3
 refine zv F (r_not rfl (F.g rfl)) fun _ F=>?_
 refine zib F (fun h6=>?_) fun h6=>?_
 ·refine zr fun _ F=>?_
  refine x_done F (results_1 rfl (zta F)) ?_
  exact ⟨(zV1 (zVs (by first|exact recT_no (nt ‹_›)|exact recT_bad hx1 (cellB_1 ‹_›)|exact recT_bad hx1 (cellB_2 ‹_›)|exact recT_long (congrArg List.length hk_1) (by omega)|exact recT_end (by rw [← rec_s hk_1 (by omega)];assumption)|(rw [rec_s hk_1 (by omega)];exact recT_yes (nf ‹_›) (fun j hj=>hk_2 j (by omega)) (by rw [← rec_s hk_1 (by omega)];assumption))))),(Mv.pick S3 [] rfl),((show bE_=(recT seq list) from by first|exact recT_no (nt ‹_›)|exact recT_bad hx1 (cellB_1 ‹_›)|exact recT_bad hx1 (cellB_2 ‹_›)|exact recT_long (congrArg List.length hk_1) (by omega)|exact recT_end (by rw [← rec_s hk_1 (by omega)];assumption)|(rw [rec_s hk_1 (by omega)];exact recT_yes (nf ‹_›) (fun j hj=>hk_2 j (by omega)) (by rw [← rec_s hk_1 (by omega)];assumption))) ▸ (by unfold okS;decide))⟩
 ·refine zr fun _ F=>?_
  refine l_op (f_alloc F S3.at' ZI_195 rfl rfl rfl rfl rfl fun b8 _ w8 F S8=>?_)
  refine zr fun _ F=>?_
  refine zz F (impl_Decimal_c (n:=seq) Q6 (Tb.mv V_tab0 (S3.trans S8))) ?_
  rintro _ w11 ⟨rfl,m11,Q11⟩
  refine zt fun _ F=>?_
  have S11:=At.frame0 S8.at' m11
  clear m11
  have S14:Mv [bx b8 [.pointer none,.slice none 0 0] 195] w11 [owB 5 (.slice none 0 0) ([]:List Nat),bx b8 [.pointer none,.slice none 0 0] 195] w11:=mv_nilB S11.at' _
  refine zz F (strings_Builder_WriteString_nil_c (H:=fun _=>True) (b:=(⟨(),[]⟩:BldD)) (s:=decS seq) Q11 (by show 0+_≤_;omega) (At.pick (is:=[1,0]) S14.at' rfl)) ?_
  rintro _ w13 ⟨Q7,Q9,Q8,rfl,m13⟩
  refine zt fun _ F=>?_
  have S13:Mv _ _ [bx _ [_,_] _,_] _:=At.frame S14.at' [1,0] rfl m13
  obtain ⟨Q15,Q22,Q29⟩:=At.ownInvB S13.at' 1 rfl
  clear m13
  refine x_lp (fun (k:Nat) aZ wZ=>∃ (D:List Nat),∃ (oa:Option Addr),∃ (on:Nat),∃ (oc:Nat),Fr 57 [(17,.int .i64 ((k:Nat):Int)),(16,.int .i64 ((Q0:Nat):Int)),(15,.slice Q4 Q0 Q5),(5,.pointer (some ⟨b8,0,none⟩))] aZ∧Mv [bx b8 [.pointer (some ⟨b8,0,none⟩),.slice Q7 Q9 Q8] 195,owB 5 (.slice Q7 Q9 Q8) (([])++bytesN (decS seq))] w13 [bx b8 [.pointer (some ⟨b8,0,none⟩),.slice oa on oc] 195,owB 5 (.slice oa on oc) D] wZ∧(k≤Q0)∧(D=recN seq (list.take k))∧(∀ j,j < k→∀ c,nth list j=some c→cellB c=true)∧(D.length≤4300)) (fun (k:Nat)=>Q0 - k) (0) ?_ ?_
  ·exact ⟨([])++bytesN (decS seq),Q7,Q9,Q8,F.cut rfl,(Mv.refl S13.at'),by omega,rec_startB seq list,fun j hj=>by omega,by rw [List.nil_append,bytesN_length];omega⟩
  ·rintro k a19 w19 ⟨D,oa,on,oc,F,S19,hk_0,hk_1,hk_2,hk_3⟩
   obtain ⟨Q16,Q23,Q30⟩:=At.ownInvB S19.at' 1 rfl
   refine zr fun _ F=>?_
   refine zc F (k < Q0) (hb:=by first|exact dec_of (by omega)|(dsimp only;exact dec_of (by omega))) fun _ F=>?_
   refine zi F (fun h21=>?_) fun h21=>?_
   ·refine zr fun _ F=>?_
    obtain ⟨B22,O22,x1,ad22,hx1,okx1,ln22,cl22⟩:=Rd.at (Rd.mq V_v_list (S3.trans (S8.trans (S11.trans (S14.trans (S13.trans S19)))))) k zIa
    clear ln22
    refine zv F (r_indexAddr (i:=k) ET_28 rfl ((F.ev 15 rfl).trans (by rw [ad22])) (F.g rfl) (by omega) zIa) fun _ F=>?_
    refine zv (v:=.agg #[.string x1.key,.string x1.val]) F (r_load (cs:=[.string x1.key,.string x1.val]) TI_91 rfl (F.g rfl) rfl (fun h=>nomatch h) (elem_sub (f:=0) cl22 [.string x1.key,.string x1.val] rfl)) fun _ F=>?_
    refine l_op (f_alloc F S19.at' ZI_91 rfl rfl rfl rfl rfl fun b25 _ w25 F S25=>?_)
    refine l_op (s_store S25.at' 0 TI_91 rfl rfl rfl rfl rfl (F.g rfl) (F.g rfl) rfl rfl rfl rfl rfl fun w27 S27=>?_)
    have T28:Mv _ _ [bx _ [_,_] _,bx _ [_,_] _,_] _:=S27
    refine zr fun _ F=>?_
    refine zl F T28.at' 0 fun _ F=>?_
    refine zz F (impl_KeyOk_c (H:=fun _=>True) (key:=x1.key) okx1.1) ?_
    rintro _ w31 ⟨rfl,m31⟩
    refine zt fun _ F=>?_
    have S31:=At.frame0 T28.at' m31
    clear m31
    refine zv F (r_not rfl (F.g rfl)) fun _ F=>?_
    rcases Bool.eq_false_or_eq_true (!(keyOk x1.key)) with h35|h35
    ·rw [h35] at F
     refine zr fun _ F=>?_
     refine x_done F (results_1 rfl (zta F)) ?_
     exact ⟨(zV1 (zVs (by first|exact recT_no (nt ‹_›)|exact recT_bad hx1 (cellB_1 ‹_›)|exact recT_bad hx1 (cellB_2 ‹_›)|exact recT_long (congrArg List.length hk_1) (by omega)|exact recT_end (by rw [← rec_s hk_1 (by omega)];assumption)|(rw [rec_s hk_1 (by omega)];exact recT_yes (nf ‹_›) (fun j hj=>hk_2 j (by omega)) (by rw [← rec_s hk_1 (by omega)];assumption))))),(Mv.pick (S3.trans (S8.trans (S11.trans (S14.trans (S13.trans (S19.trans (S25.trans (T28.trans S31)))))))) [] rfl),((show bE_=(recT seq list) from by first|exact recT_no (nt ‹_›)|exact recT_bad hx1 (cellB_1 ‹_›)|exact recT_bad hx1 (cellB_2 ‹_›)|exact recT_long (congrArg List.length hk_1) (by omega)|exact recT_end (by rw [← rec_s hk_1 (by omega)];assumption)|(rw [rec_s hk_1 (by omega)];exact recT_yes (nf ‹_›) (fun j hj=>hk_2 j (by omega)) (by rw [← rec_s hk_1 (by omega)];assumption))) ▸ (by unfold okS;decide))⟩
    ·rw [h35] at F
     refine zr fun _ F=>?_
     refine zl F S31.at' 0 fun _ F=>?_
     refine zc F (x1.val.size > 60) (hb:=by first|exact dec_of (by omega)|(dsimp only;exact dec_of (by omega))) fun _ F=>?_
     rcases Decidable.em (x1.val.size > 60) with h52|h52
     ·rw [decide_eq_true h52] at F
      refine zr fun _ F=>?_
      refine x_done F (results_1 rfl (zta F)) ?_
      exact ⟨(zV1 (zVs (by first|exact recT_no (nt ‹_›)|exact recT_bad hx1 (cellB_1 ‹_›)|exact recT_bad hx1 (cellB_2 ‹_›)|exact recT_long (congrArg List.length hk_1) (by omega)|exact recT_end (by rw [← rec_s hk_1 (by omega)];assumption)|(rw [rec_s hk_1 (by omega)];exact recT_yes (nf ‹_›) (fun j hj=>hk_2 j (by omega)) (by rw [← rec_s hk_1 (by omega)];assumption))))),(Mv.pick (S3.trans (S8.trans (S11.trans (S14.trans (S13.trans (S19.trans (S25.trans (T28.trans S31)))))))) [] rfl),((show bE_=(recT seq list) from by first|exact recT_no (nt ‹_›)|exact recT_bad hx1 (cellB_1 ‹_›)|exact recT_bad hx1 (cellB_2 ‹_›)|exact recT_long (congrArg List.length hk_1) (by omega)|exact recT_end (by rw [← rec_s hk_1 (by omega)];assumption)|(rw [rec_s hk_1 (by omega)];exact recT_yes (nf ‹_›) (fun j hj=>hk_2 j (by omega)) (by rw [← rec_s hk_1 (by omega)];assumption))) ▸ (by unfold okS;decide))⟩
     ·rw [decide_eq_false h52] at F
      refine zz F (strings_Builder_Len_c (H:=fun _=>True) (b:=(⟨(),D⟩:BldD)) (At.pick (is:=[1,2]) S31.at' rfl)) ?_
      rintro _ w57 ⟨rfl,m57⟩
      refine zt fun _ F=>?_
      have S57:Mv _ _ [bx _ [_,_] _,_,bx _ [_,_] _] _:=At.frame S31.at' [1,2] rfl m57
      obtain ⟨Q17,Q24,Q31⟩:=At.ownInvB S57.at' 1 rfl
      clear m57
      refine zc F (on > 4000) (hb:=by first|exact dec_of (by omega)|(dsimp only;exact dec_of (by omega))) fun _ F=>?_
      refine zi F (fun h61=>?_) fun h61=>?_
      ·refine zr fun _ F=>?_
       refine x_done F (results_1 rfl (zta F)) ?_
       exact ⟨(zV1 (zVs (by first|exact recT_no (nt ‹_›)|exact recT_bad hx1 (cellB_1 ‹_›)|exact recT_bad hx1 (cellB_2 ‹_›)|exact recT_long (congrArg List.length hk_1) (by omega)|exact recT_end (by rw [← rec_s hk_1 (by omega)];assumption)|(rw [rec_s hk_1 (by omega)];exact recT_yes (nf ‹_›) (fun j hj=>hk_2 j (by omega)) (by rw [← rec_s hk_1 (by omega)];assumption))))),(Mv.pick (S3.trans (S8.trans (S11.trans (S14.trans (S13.trans (S19.trans (S25.trans (T28.trans (S31.trans S57))))))))) [] rfl),((show bE_=(recT seq list) from by first|exact recT_no (nt ‹_›)|exact recT_bad hx1 (cellB_1 ‹_›)|exact recT_bad hx1 (cellB_2 ‹_›)|exact recT_long (congrArg List.length hk_1) (by omega)|exact recT_end (by rw [← rec_s hk_1 (by omega)];assumption)|(rw [rec_s hk_1 (by omega)];exact recT_yes (nf ‹_›) (fun j hj=>hk_2 j (by omega)) (by rw [← rec_s hk_1 (by omega)];assumption))) ▸ (by unfold okS;decide))⟩
      ·refine zr fun _ F=>?_
       have hs1:=keyOk_size (nf ‹_›)
       have hs2:=hexS_size x1.key
       have hs3:=hexS_size x1.val
       have hz8:(⟨#[32]⟩:ByteArray).size=1:=rfl
       have hz9:(⟨#[61]⟩:ByteArray).size=1:=rfl
       refine x_draw (fun aZ wZ=>∃ (Q1:Option Addr),∃ (Q3:Nat),∃ (Q2:Nat),Fr 57 [(5,.pointer (some ⟨b8,0,none⟩)),(15,.slice Q4 Q0 Q5),(16,.int .i64 ((Q0:Nat):Int)),(17,.int .i64 ((k:Nat):Int))] aZ∧Mv [bx b8 [.pointer (some ⟨b8,0,none⟩),.slice oa on oc] 195,owB 5 (.slice oa on oc) D,bx b25 [.string x1.key,.string x1.val] 91] w57 [bx b8 [.pointer (some ⟨b8,0,none⟩),.slice Q1 Q3 Q2] 195,bx b25 [.string x1.key,.string x1.val] 91,owB 5 (.slice Q1 Q3 Q2) (D++bytesN ((((⟨#[32]⟩:ByteArray)++(hexS x1.key))++(⟨#[61]⟩:ByteArray))++(hexS x1.val)))] wZ) [bx b25 [.string x1.key,.string x1.val] 91] mixed S57.at' (listed:=#[false,false,false,false,false,false,false,false,false,false]) rfl (fun w64 S64=>?_) [2] rfl ?_
       ·refine g_take F rfl (i:=0) (listed':=#[true,false,false,false,false,false,false,false,false,false]) rfl (by kernel_rfl) (by kernel_rfl) (by kernel_rfl) (fun _ _ _ h=>h) (Sd.of (Mv.refl S64.at') [2] rfl) rfl rfl rfl rfl (fun _ hz=>(r_field FI_91_0 rfl (F.g rfl) rfl)) fun _ F=>?_
        refine g_take (v:=.string x1.key) F rfl (i:=1) (listed':=#[true,true,false,false,false,false,false,false,false,false]) rfl (by kernel_rfl) (by kernel_rfl) (by kernel_rfl) (fun _ _ _ h=>h) (Sd.of (Mv.refl S64.at') [2] rfl) rfl rfl rfl rfl (fun _ hz=>(r_loadX (hz.bx 0 rfl) TI_9 rfl (F.g rfl) rfl rfl (fun _=>rfl) rfl)) fun _ F=>?_
        refine g_take F rfl (i:=5) (listed':=#[true,true,false,false,false,true,false,false,false,false]) rfl (by kernel_rfl) (by kernel_rfl) (by kernel_rfl) (fun _ _ _ h=>h) (Sd.of (Mv.refl S64.at') [2] rfl) rfl rfl rfl rfl (fun _ hz=>(r_field FI_91_1 rfl (F.g rfl) rfl)) fun _ F=>?_
        refine g_take (v:=.string x1.val) F rfl (i:=6) (listed':=#[true,true,false,false,false,true,true,false,false,false]) rfl (by kernel_rfl) (by kernel_rfl) (by kernel_rfl) (fun _ _ _ h=>h) (Sd.of (Mv.refl S64.at') [2] rfl) rfl rfl rfl rfl (fun _ hz=>(r_loadX (hz.bx 0 rfl) TI_9 rfl (F.g rfl) rfl rfl (fun _=>rfl) rfl)) fun _ F=>?_
        refine d_one (i:=2) (listed':=#[true,true,true,false,false,true,true,false,false,false]) rfl (by kernel_rfl) rfl rfl ?_
        refine f_call F CF_153 rfl rfl rfl rfl (lc (F.g rfl) rfl) (impl_hexOf_c (H:=fun _=>True) (text:=x1.key) okx1.1 zI8) ?_
        rintro _ w69 ⟨rfl,m69,Q38⟩
        refine ⟨_,rfl,fun _ F=>?_⟩
        have S69:=At.frame0 S64.at' m69
        clear m69
        refine ⟨Sd.of S69 [2] rfl,?_⟩
        have k71:(⟨#[32]⟩:ByteArray).size+(hexS x1.key).size≤9223372036854775807:=by ((repeat rw [ByteArray.size_append]) <;> omega)
        refine g_take F rfl (i:=3) (listed':=#[true,true,true,true,false,true,true,false,false,false]) rfl (by kernel_rfl) (by kernel_rfl) (by kernel_rfl) (fun _ _ _ h=>h) (Sd.of S69 [2] rfl) rfl rfl rfl rfl (fun _ hz=>(r_cat rfl rfl (F.g rfl) k71)) fun _ F=>?_
        have k73:((⟨#[32]⟩:ByteArray)++(hexS x1.key)).size+(⟨#[61]⟩:ByteArray).size≤9223372036854775807:=by ((repeat rw [ByteArray.size_append]) <;> omega)
        refine g_take F rfl (i:=4) (listed':=#[true,true,true,true,true,true,true,false,false,false]) rfl (by kernel_rfl) (by kernel_rfl) (by kernel_rfl) (fun _ _ _ h=>h) (Sd.of S69 [2] rfl) rfl rfl rfl rfl (fun _ hz=>(r_cat rfl (F.g rfl) rfl k73)) fun _ F=>?_
        refine d_one (i:=7) (listed':=#[true,true,true,true,true,true,true,true,false,false]) rfl (by kernel_rfl) rfl rfl ?_
        refine f_call F CF_153 rfl rfl rfl rfl (lc (F.g rfl) rfl) (impl_hexOf_c (H:=fun _=>True) (text:=x1.val) okx1.2 zI8) ?_
        rintro _ w75 ⟨rfl,m75,Q39⟩
        refine ⟨_,rfl,fun _ F=>?_⟩
        have S75:=At.frame0 S69.at' m75
        clear m75
        refine ⟨Sd.of (S69.trans S75) [2] rfl,?_⟩
        have k77:(((⟨#[32]⟩:ByteArray)++(hexS x1.key))++(⟨#[61]⟩:ByteArray)).size+(hexS x1.val).size≤9223372036854775807:=by ((repeat rw [ByteArray.size_append]) <;> omega)
        refine g_take F rfl (i:=8) (listed':=#[true,true,true,true,true,true,true,true,true,false]) rfl (by kernel_rfl) (by kernel_rfl) (by kernel_rfl) (fun _ _ _ h=>h) (Sd.of (S69.trans S75) [2] rfl) rfl rfl rfl rfl (fun _ hz=>(r_cat rfl (F.g rfl) (F.g rfl) k77)) fun _ F=>?_
        refine d_one (i:=9) (listed':=#[true,true,true,true,true,true,true,true,true,true]) rfl (by kernel_rfl) rfl rfl ?_
        refine f_call F CF_150 rfl rfl rfl rfl (lc (F.g rfl) (lc (F.g rfl) rfl)) (strings_Builder_WriteString_c (H:=fun _=>True) (b:=(⟨(),D⟩:BldD)) (s:=(((⟨#[32]⟩:ByteArray)++(hexS x1.key))++(⟨#[61]⟩:ByteArray))++(hexS x1.val)) (okS_cat k77) (by show D.length+_≤_;(repeat rw [ByteArray.size_append]);omega) (At.pick (is:=[0,1]) S75.at' rfl)) ?_
        rintro _ w79 ⟨Q1,Q3,Q2,rfl,m79⟩
        refine ⟨_,rfl,fun _ F=>?_⟩
        have S79:Mv _ _ [bx _ [_,_] _,_,bx _ [_,_] _] _:=At.frame S75.at' [0,1] rfl m79
        obtain ⟨Q18,Q25,Q32⟩:=At.ownInvB S79.at' 1 rfl
        clear m79
        refine ⟨Sd.of (S69.trans (S75.trans S79)) [2] rfl,?_⟩
        refine wpAnyH_done (by kernel_rfl) (x_normal ?_) _
        exact ⟨Q1,Q3,Q2,F.cut rfl,((S64.trans (S69.trans (S75.trans S79))).pick [0,2,1] rfl)⟩
       ·rintro a81 w81 ⟨Q1,Q3,Q2,F,S81⟩
        obtain ⟨Q19,Q26,Q33⟩:=At.ownInvB S81.at' 2 rfl
        refine zr fun _ F=>?_
        refine zq F ((k+1:Nat):Int) fun _ F=>?_
        exact ⟨k+1,zD,D++bytesN ((((⟨#[32]⟩:ByteArray)++(hexS x1.key))++(⟨#[61]⟩:ByteArray))++(hexS x1.val)),Q1,Q3,Q2,F.cut rfl,((S19.trans (S25.trans (T28.trans (S31.trans (S57.trans S81))))).pick [0,2] rfl),by omega,rec_stepB hk_1 hx1,rec_all hk_2 hx1 (cellB_yes ‹_› ‹_›),by rw [List.length_append,bytesN_length];(repeat rw [ByteArray.size_append]);omega⟩
   ·refine zr fun _ F=>?_
    have hz3:=bstr_size D
    have hz4:=sumN_lt (l:=bytesN (bstr D))
    have hz5:=decS_size ((sumN (bytesN (bstr D)):Nat):Int) ⟨by omega,by omega⟩
    have hz6:(⟨#[32,35]⟩:ByteArray).size=2:=rfl
    have hz7:(⟨#[10]⟩:ByteArray).size=1:=rfl
    refine zz F (strings_Builder_String_c (H:=fun _=>True) (b:=(⟨(),D⟩:BldD)) (by exact recD_ne ‹_› hk_1) (At.pick (is:=[0,1]) S19.at' rfl)) ?_
    rintro _ w84 ⟨rfl,m84,Q40⟩
    refine zt fun _ F=>?_
    have S84:Mv _ _ [bx _ [_,_] _,_] _:=At.frame S19.at' [0,1] rfl m84
    obtain ⟨Q20,Q27,Q34⟩:=At.ownInvB S84.at' 1 rfl
    clear m84
    have k86:(bstr D).size+(⟨#[32,35]⟩:ByteArray).size≤9223372036854775807:=by ((repeat rw [ByteArray.size_append]) <;> omega)
    refine zv F (r_cat rfl (F.g rfl) rfl k86) fun _ F=>?_
    refine zz F (strings_Builder_String_c (H:=fun _=>True) (b:=(⟨(),D⟩:BldD)) (by exact recD_ne ‹_› hk_1) (At.pick (is:=[0,1]) S84.at' rfl)) ?_
    rintro _ w88 ⟨rfl,m88,Q12⟩
    refine zt fun _ F=>?_
    have S88:Mv _ _ [bx _ [_,_] _,_] _:=At.frame S84.at' [0,1] rfl m88
    obtain ⟨Q21,Q28,Q35⟩:=At.ownInvB S88.at' 1 rfl
    clear m88
    refine zz F (impl_ByteSum_c (H:=fun _=>True) (text:=bstr D) Q12) ?_
    rintro _ w90 ⟨rfl,m90⟩
    refine zt fun _ F=>?_
    have S90:=At.frame0 S88.at' m90
    clear m90
    refine zz F (impl_Decimal_c (n:=((sumN (bytesN (bstr D)):Nat):Int)) zI7 (Tb.mv V_tab0 (S3.trans (S8.trans (S11.trans (S14.trans (S13.trans (S19.trans (S84.trans (S88.trans S90)))))))))) ?_
    rintro _ w92 ⟨rfl,m92,Q41⟩
    refine zt fun _ F=>?_
    have S92:=At.frame0 S90.at' m92
    clear m92
    have k94:((bstr D)++(⟨#[32,35]⟩:ByteArray)).size+(decS ((sumN (bytesN (bstr D)):Nat):Int)).size≤9223372036854775807:=by ((repeat rw [ByteArray.size_append]) <;> omega)
    refine zv F (r_cat rfl (F.g rfl) (F.g rfl) k94) fun _ F=>?_
    have k96:(((bstr D)++(⟨#[32,35]⟩:ByteArray))++(decS ((sumN (bytesN (bstr D)):Nat):Int))).size+(⟨#[10]⟩:ByteArray).size≤9223372036854775807:=by ((repeat rw [ByteArray.size_append]) <;> omega)
    refine zv F (r_cat rfl (F.g rfl) rfl k96) fun _ F=>?_
    have T99:Mv _ _ [bx _ [_,_] _,_] _:=S92
    refine zc F (((((bstr D)++(⟨#[32,35]⟩:ByteArray))++(decS ((sumN (bytesN (bstr D)):Nat):Int)))++(⟨#[10]⟩:ByteArray)).size > 4000) (hb:=by first|exact dec_of (by omega)|(dsimp only;exact dec_of (by omega))) fun _ F=>?_
    refine zi F (fun h103=>?_) fun h103=>?_
    ·refine zr fun _ F=>?_
     refine x_done F (results_1 rfl (zta F)) ?_
     exact ⟨(zV1 (zVs (by first|exact recT_no (nt ‹_›)|exact recT_bad hx1 (cellB_1 ‹_›)|exact recT_bad hx1 (cellB_2 ‹_›)|exact recT_long (congrArg List.length hk_1) (by omega)|exact recT_end (by rw [← rec_s hk_1 (by omega)];assumption)|(rw [rec_s hk_1 (by omega)];exact recT_yes (nf ‹_›) (fun j hj=>hk_2 j (by omega)) (by rw [← rec_s hk_1 (by omega)];assumption))))),(Mv.pick (S3.trans (S8.trans (S11.trans (S14.trans (S13.trans (S19.trans (S84.trans (S88.trans (S90.trans T99))))))))) [] rfl),((show bE_=(recT seq list) from by first|exact recT_no (nt ‹_›)|exact recT_bad hx1 (cellB_1 ‹_›)|exact recT_bad hx1 (cellB_2 ‹_›)|exact recT_long (congrArg List.length hk_1) (by omega)|exact recT_end (by rw [← rec_s hk_1 (by omega)];assumption)|(rw [rec_s hk_1 (by omega)];exact recT_yes (nf ‹_›) (fun j hj=>hk_2 j (by omega)) (by rw [← rec_s hk_1 (by omega)];assumption))) ▸ (by unfold okS;decide))⟩
    ·refine zr fun _ F=>?_
     refine x_done F (results_1 rfl (zta F)) ?_
     exact ⟨(zV1 (zVs (by first|exact recT_no (nt ‹_›)|exact recT_bad hx1 (cellB_1 ‹_›)|exact recT_bad hx1 (cellB_2 ‹_›)|exact recT_long (congrArg List.length hk_1) (by omega)|exact recT_end (by rw [← rec_s hk_1 (by omega)];assumption)|(rw [rec_s hk_1 (by omega)];exact recT_yes (nf ‹_›) (fun j hj=>hk_2 j (by omega)) (by rw [← rec_s hk_1 (by omega)];assumption))))),(Mv.pick (S3.trans (S8.trans (S11.trans (S14.trans (S13.trans (S19.trans (S84.trans (S88.trans (S90.trans T99))))))))) [] rfl),(zOk (by first|exact recT_no (nt ‹_›)|exact recT_bad hx1 (cellB_1 ‹_›)|exact recT_bad hx1 (cellB_2 ‹_›)|exact recT_long (congrArg List.length hk_1) (by omega)|exact recT_end (by rw [← rec_s hk_1 (by omega)];assumption)|(rw [rec_s hk_1 (by omega)];exact recT_yes (nf ‹_›) (fun j hj=>hk_2 j (by omega)) (by rw [← rec_s hk_1 (by omega)];assumption))) (okS_cat k96))⟩
end Go.Proofs.YtipdbeklopjbmaaGreatDoor
