/-
  PROVED HERE: whatever the input, the statement laws.FnExactBytesOf returns true: the program's BytesOf and the reference's give equal results, alter nothing of their arguments, and the result stands by itself. Condition: the tables and errors of the library that the row lists stand as the program's text lays them (the card ties that).
-/
import Derived.Test.YtipdbeklopjbmaaGreatDoorP06
import Derived.Test.YtipdbeklopjbmaaGreatDoorP07
import Derived.Test.YtipdbeklopjbmaaGreatDoorP10
import Derived.Test.YtipdbeklopjbmaaGreatDoorP21
import Derived.Test.YtipdbeklopjbmaaGreatDoorGenCc
set_option linter.unusedVariables false
set_option linter.unusedSimpArgs false
namespace Go.Proofs.YtipdbeklopjbmaaGreatDoor
open Go.ChangeShapes Go.WideShapes Go.ChangeAt Go.RowKit
set_option maxRecDepth 100000
set_option maxHeartbeats 1000000
theorem laws_FnExactBytesOf_c {w:World} {H:Nat→Prop} {aS:List CellD} {aS_a:Option Addr} {aS_n aS_c:Nat} {aX:TxD} {Q9:Option Addr} {Q11 Q10:Nat} {Q6:Option Addr} {Q8 Q7:Nat} {Q0:Option Addr} {Q2 Q1:Nat} {Q3:Option Addr} {Q5 Q4:Nat} {Q12:Option Addr} {Q14 Q13:Nat} (v_aS:RdA 2 encC okC H w (.slice aS_a aS_n aS_c) aS) (Q76:i64ok aX.id) (Q74:i64ok aX.age) (Q77:i64ok aX.proc) (Q75:i64ok aX.began) (Q70:RdA 6 encK okK H w (.slice Q9 Q11 Q10) aX.calls) (Q69:RdA 3 encR okR H w (.slice Q6 Q8 Q7) aX.answers) (Q72:RdA 1 encS okS H w (.slice Q0 Q2 Q1) aX.touch.reads) (Q73:RdA 1 encS okS H w (.slice Q3 Q5 Q4) aX.touch.writes) (Q71:RdA 1 encI okI H w (.slice Q12 Q14 Q13) aX.marks) (Q78:i64ok aX.state) (tab0:Tb 0 H w) (tab1:Tb 1 H w) (tab2:Tb 2 H w) :
 Calls Tryz.prog 4 #[.slice aS_a aS_n aS_c,.agg #[.int .i64 aX.id,.int .i64 aX.age,.int .i64 aX.proc,.int .i64 aX.began,.slice Q9 Q11 Q10,.slice Q6 Q8 Q7,.slice Q0 Q2 Q1,.slice Q3 Q5 Q4,.slice Q12 Q14 Q13,.int .i64 aX.state]] w fun e w'=>e=.returned (.bool true)∧Mv [] w [] w':=by
 have V_v_aS:=RdA.start v_aS zN
 obtain ⟨Q85,Q79,Q178,Q184⟩:=RdA.inv v_aS
 have V_v_aX_calls:=RdA.start Q70 zN
 obtain ⟨Q87,Q81,Q180,Q186⟩:=RdA.inv Q70
 have V_v_aX_answers:=RdA.start Q69 zN
 obtain ⟨Q86,Q80,Q179,Q185⟩:=RdA.inv Q69
 have V_v_aX_touch_reads:=RdA.start Q72 zN
 obtain ⟨Q89,Q83,Q182,Q188⟩:=RdA.inv Q72
 have V_v_aX_touch_writes:=RdA.start Q73 zN
 obtain ⟨Q90,Q84,Q183,Q189⟩:=RdA.inv Q73
 have V_v_aX_marks:=RdA.start Q71 zN
 obtain ⟨Q88,Q82,Q181,Q187⟩:=RdA.inv Q71
 have V_tab0:=Tb.start tab0 zN
 have V_tab1:=Tb.start tab1 zN
 have V_tab2:=Tb.start tab2 zN
 refine ze fun _ F=>?_
 refine l_op (f_box F (At.nil w) rfl rfl rfl (F.g rfl) rfl rfl fun b1 _ w1 F S1=>?_)
 refine zr fun _ F=>?_
 refine zz F (laws_szCellS_c (a:=aS) (left:=1048576) (RdA.mv (Nat.succ_pos _) V_v_aS S1) zI7 zI8 zI8) ?_
 rintro _ w7 ⟨rfl,m7,q7_0⟩
 refine zt fun _ F=>?_
 have S7:=At.frame0 S1.at' m7
 clear m7
 refine zc F ((subOr 1048576 (szCells aS)) < 0) fun _ F=>?_
 refine zi F (fun h12=>?_) fun h12=>?_
 ·refine zr fun _ F=>?_
  refine x_done F (results_1 rfl (zta F)) ?_
  exact ⟨rfl,(Mv.pick (S1.trans S7) [] rfl)⟩
 ·refine zr fun _ F=>?_
  refine zw F S7.at' 0 fun _ F=>?_
  refine zz F (laws_szTx_c (a:=aX) (left:=(subOr 1048576 (szCells aS))) zI5 zI5 zI5 zI5 (RdA.mv (Nat.succ_pos _) V_v_aX_calls (S1.trans S7)) (RdA.mv (Nat.succ_pos _) V_v_aX_answers (S1.trans S7)) (RdA.mv (Nat.succ_pos _) V_v_aX_touch_reads (S1.trans S7)) (RdA.mv (Nat.succ_pos _) V_v_aX_touch_writes (S1.trans S7)) (RdA.mv (Nat.succ_pos _) V_v_aX_marks (S1.trans S7)) zI5 zI7 zI8 (by have:=subOr_bd 1048576 (szCells aS) (by decide);omega)) ?_
  rintro _ w16 ⟨rfl,m16,q16_0⟩
  refine zt fun _ F=>?_
  have S16:=At.frame0 S7.at' m16
  clear m16
  refine zc F ((subOr (subOr 1048576 (szCells aS)) (szTxD aX)) < 0) fun _ F=>?_
  refine zi F (fun h21=>?_) fun h21=>?_
  ·refine zr fun _ F=>?_
   refine x_done F (results_1 rfl (zta F)) ?_
   exact ⟨rfl,(Mv.pick (S1.trans (S7.trans S16)) [] rfl)⟩
  ·refine zr fun _ F=>?_
   have hfC:=cells_of (s:=aS) (n:=1048576) (by decide) ‹_›
   have hzX:=szX_of (x:=aX) (n:=subOr 1048576 (szCells aS)) (by have:=subOr_bd 1048576 (szCells aS) (by decide);omega) ‹_›
   refine x_draw (fun aZ wZ=>∃ (Q27:Option Addr),∃ (Q47:Nat),∃ (Q34:Nat),∃ (Q35:Option Addr),∃ (Q39:Nat),∃ (Q37:Nat),∃ (Q28:Option Addr),∃ (Q32:Nat),∃ (Q30:Nat),∃ (Q15:Option Addr),∃ (Q19:Nat),∃ (Q17:Nat),∃ (Q21:Option Addr),∃ (Q25:Nat),∃ (Q23:Nat),∃ (Q41:Option Addr),∃ (Q45:Nat),∃ (Q43:Nat),Fr 45 [(0,.slice aS_a aS_n aS_c),(3,.pointer (some ⟨b1,0,none⟩)),(6,.int .i64 ((bytesD aS aX:Nat):Int))] aZ∧Mv [bx b1 [.int .i64 aX.id,.int .i64 aX.age,.int .i64 aX.proc,.int .i64 aX.began,.slice Q9 Q11 Q10,.slice Q6 Q8 Q7,.slice Q0 Q2 Q1,.slice Q3 Q5 Q4,.slice Q12 Q14 Q13,.int .i64 aX.state] 49] w16 [bx b1 [.int .i64 aX.id,.int .i64 aX.age,.int .i64 aX.proc,.int .i64 aX.began,.slice Q9 Q11 Q10,.slice Q6 Q8 Q7,.slice Q0 Q2 Q1,.slice Q3 Q5 Q4,.slice Q12 Q14 Q13,.int .i64 aX.state] 49,ow 91 2 encC okC (.slice Q27 Q47 Q34) aS,ow 153 6 encK okK (.slice Q35 Q39 Q37) aX.calls,ow 155 3 encR okR (.slice Q28 Q32 Q30) aX.answers,ow 9 1 encS okS (.slice Q15 Q19 Q17) aX.touch.reads,ow 9 1 encS okS (.slice Q21 Q25 Q23) aX.touch.writes,ow 3 1 encI okI (.slice Q41 Q45 Q43) aX.marks] wZ) [bx b1 [.int .i64 aX.id,.int .i64 aX.age,.int .i64 aX.proc,.int .i64 aX.began,.slice Q9 Q11 Q10,.slice Q6 Q8 Q7,.slice Q0 Q2 Q1,.slice Q3 Q5 Q4,.slice Q12 Q14 Q13,.int .i64 aX.state] 49] mixed S16.at' (listed:=#[false,false,false,false,false,false]) rfl (fun w24 S24=>?_) [0] rfl ?_
   ·refine g_take F rfl (i:=0) (listed':=#[true,false,false,false,false,false]) rfl (by kernel_rfl) (by kernel_rfl) (by kernel_rfl) (fun _ _ _ h=>h) (Sd.of (Mv.refl S24.at') [0] rfl) rfl rfl rfl rfl (fun _ hz=>(r_move rfl (F.g rfl))) fun _ F=>?_
    refine g_take (v:=.agg #[.int .i64 aX.id,.int .i64 aX.age,.int .i64 aX.proc,.int .i64 aX.began,.slice Q9 Q11 Q10,.slice Q6 Q8 Q7,.slice Q0 Q2 Q1,.slice Q3 Q5 Q4,.slice Q12 Q14 Q13,.int .i64 aX.state]) F rfl (i:=2) (listed':=#[true,false,true,false,false,false]) rfl (by kernel_rfl) (by kernel_rfl) (by kernel_rfl) (fun _ _ _ h=>h) (Sd.of (Mv.refl S24.at') [0] rfl) rfl rfl rfl rfl (fun _ hz=>(r_loadX (hz.bx 0 rfl) TI_49 rfl (F.g rfl) rfl rfl (fun h=>nomatch h) rfl)) fun _ F=>?_
    refine d_one (i:=1) (listed':=#[true,true,true,false,false,false]) rfl (by kernel_rfl) rfl rfl ?_
    refine f_call F CF_18 rfl rfl rfl rfl (lc (F.g rfl) rfl) (laws_toCellS_c (a:=aS) (RdA.mv (Nat.succ_pos _) V_v_aS (S1.trans (S7.trans (S16.trans S24)))) zI8) ?_
    rintro _ w27 ⟨Q27,Q47,Q34,rfl,m27⟩
    refine ⟨_,rfl,fun _ F=>?_⟩
    have S27:Mv _ _ [_,bx _ [_,_,_,_,_,_,_,_,_,_] _] _:=At.frame S24.at' [] rfl m27
    obtain ⟨Q91,Q120,Q149⟩:=At.ownInv S27.at' ET_28.hk 0 rfl
    clear m27
    refine ⟨Sd.of S27 [1] rfl,?_⟩
    refine d_one (i:=3) (listed':=#[true,true,true,true,false,false]) rfl (by kernel_rfl) rfl rfl ?_
    refine f_call F CF_19 rfl rfl rfl rfl (lc (F.g rfl) rfl) (laws_toTx_c (a:=aX) zI5 zI5 zI5 zI5 (RdA.mv (Nat.succ_pos _) V_v_aX_calls (S1.trans (S7.trans (S16.trans (S24.trans S27))))) (RdA.mv (Nat.succ_pos _) V_v_aX_answers (S1.trans (S7.trans (S16.trans (S24.trans S27))))) (RdA.mv (Nat.succ_pos _) V_v_aX_touch_reads (S1.trans (S7.trans (S16.trans (S24.trans S27))))) (RdA.mv (Nat.succ_pos _) V_v_aX_touch_writes (S1.trans (S7.trans (S16.trans (S24.trans S27))))) (RdA.mv (Nat.succ_pos _) V_v_aX_marks (S1.trans (S7.trans (S16.trans (S24.trans S27))))) zI5 (by omega) (by omega) (by omega) (by omega) (by omega)) ?_
    rintro _ w29 ⟨Q35,Q39,Q37,Q28,Q32,Q30,Q15,Q19,Q17,Q21,Q25,Q23,Q41,Q45,Q43,rfl,m29⟩
    refine ⟨_,rfl,fun _ F=>?_⟩
    have S29:Mv _ _ [_,_,_,_,_,_,bx _ [_,_,_,_,_,_,_,_,_,_] _] _:=At.frame S27.at' [] rfl m29
    obtain ⟨Q92,Q121,Q150⟩:=At.ownInv S29.at' ET_54.hk 0 rfl
    obtain ⟨Q93,Q122,Q151⟩:=At.ownInv S29.at' ET_55.hk 1 rfl
    obtain ⟨Q94,Q123,Q152⟩:=At.ownInv S29.at' ET_44.hk 2 rfl
    obtain ⟨Q95,Q124,Q153⟩:=At.ownInv S29.at' ET_44.hk 3 rfl
    obtain ⟨Q96,Q125,Q154⟩:=At.ownInv S29.at' ET_47.hk 4 rfl
    clear m29
    refine ⟨Sd.of (S27.trans S29) [6] rfl,?_⟩
    refine d_one (i:=4) (listed':=#[true,true,true,true,true,false]) rfl (by kernel_rfl) rfl rfl ?_
    refine f_call F CF_17 rfl rfl rfl rfl (lc (F.g rfl) (lc (F.g rfl) rfl)) (spec_BytesOf_c (H:=fun _=>True) (s:=aS) (x:=aX) (At.rd S29.at' ET_28.hk 5 rfl) zI5 zI5 zI5 zI5 (At.rd S29.at' ET_54.hk 0 rfl) (At.rd S29.at' ET_55.hk 1 rfl) (At.rd S29.at' ET_44.hk 2 rfl) (At.rd S29.at' ET_44.hk 3 rfl) (At.rd S29.at' ET_47.hk 4 rfl) zI5 (Tb.top (Tb.mv V_tab0 (S1.trans (S7.trans (S16.trans (S24.trans (S27.trans S29))))))) (Tb.top (Tb.mv V_tab1 (S1.trans (S7.trans (S16.trans (S24.trans (S27.trans S29))))))) (Tb.top (Tb.mv V_tab2 (S1.trans (S7.trans (S16.trans (S24.trans (S27.trans S29))))))) (by exact hfC.1) (by exact hfC.2) (by exact hzX.1) ‹_›) ?_
    rintro _ w31 ⟨rfl,m31⟩
    refine ⟨_,rfl,fun _ F=>?_⟩
    have S31:=At.frame0 S29.at' m31
    clear m31
    refine ⟨Sd.of (S27.trans (S29.trans S31)) [6] rfl,?_⟩
    refine g_take F rfl (i:=5) (listed':=#[true,true,true,true,true,true]) rfl (by kernel_rfl) (by kernel_rfl) (by kernel_rfl) (fun _ _ _ h=>h) (Sd.of (S27.trans (S29.trans S31)) [6] rfl) rfl rfl rfl rfl (fun _ hz=>(r_assign rfl (F.g rfl))) fun _ F=>?_
    refine wpAnyH_done (by kernel_rfl) (x_normal ?_) _
    exact ⟨Q27,Q47,Q34,Q35,Q39,Q37,Q28,Q32,Q30,Q15,Q19,Q17,Q21,Q25,Q23,Q41,Q45,Q43,F.cut rfl,((S24.trans (S27.trans (S29.trans S31))).pick [6,5,0,1,2,3,4] rfl)⟩
   ·rintro a34 w34 ⟨Q27,Q47,Q34,Q35,Q39,Q37,Q28,Q32,Q30,Q15,Q19,Q17,Q21,Q25,Q23,Q41,Q45,Q43,F,S34⟩
    obtain ⟨Q97,Q126,Q155⟩:=At.ownInv S34.at' ET_28.hk 1 rfl
    obtain ⟨Q98,Q127,Q156⟩:=At.ownInv S34.at' ET_54.hk 2 rfl
    obtain ⟨Q99,Q128,Q157⟩:=At.ownInv S34.at' ET_55.hk 3 rfl
    obtain ⟨Q100,Q129,Q158⟩:=At.ownInv S34.at' ET_44.hk 4 rfl
    obtain ⟨Q101,Q130,Q159⟩:=At.ownInv S34.at' ET_44.hk 5 rfl
    obtain ⟨Q102,Q131,Q160⟩:=At.ownInv S34.at' ET_47.hk 6 rfl
    refine zr fun _ F=>?_
    refine zz F (laws_toCellS_c (a:=aS) (RdA.mv (Nat.succ_pos _) V_v_aS (S1.trans (S7.trans (S16.trans S34)))) zI8) ?_
    rintro _ w36 ⟨Q63,Q67,Q65,rfl,m36⟩
    refine zt fun _ F=>?_
    have S36:Mv _ _ [_,bx _ [_,_,_,_,_,_,_,_,_,_] _,_,_,_,_,_,_] _:=At.frame S34.at' [] rfl m36
    obtain ⟨Q103,Q132,Q161⟩:=At.ownInv S36.at' ET_28.hk 0 rfl
    clear m36
    refine zw F S36.at' 1 fun _ F=>?_
    refine zz F (laws_toTx_c (a:=aX) zI5 zI5 zI5 zI5 (RdA.mv (Nat.succ_pos _) V_v_aX_calls (S1.trans (S7.trans (S16.trans (S34.trans S36))))) (RdA.mv (Nat.succ_pos _) V_v_aX_answers (S1.trans (S7.trans (S16.trans (S34.trans S36))))) (RdA.mv (Nat.succ_pos _) V_v_aX_touch_reads (S1.trans (S7.trans (S16.trans (S34.trans S36))))) (RdA.mv (Nat.succ_pos _) V_v_aX_touch_writes (S1.trans (S7.trans (S16.trans (S34.trans S36))))) (RdA.mv (Nat.succ_pos _) V_v_aX_marks (S1.trans (S7.trans (S16.trans (S34.trans S36))))) zI5 (by omega) (by omega) (by omega) (by omega) (by omega)) ?_
    rintro _ w40 ⟨Q36,Q40,Q38,Q29,Q33,Q31,Q16,Q20,Q18,Q22,Q26,Q24,Q42,Q46,Q44,rfl,m40⟩
    refine zt fun _ F=>?_
    have S40:Mv _ _ [_,_,_,_,_,_,bx _ [_,_,_,_,_,_,_,_,_,_] _,_,_,_,_,_,_] _:=At.frame S36.at' [] rfl m40
    obtain ⟨Q104,Q133,Q162⟩:=At.ownInv S40.at' ET_54.hk 0 rfl
    obtain ⟨Q105,Q134,Q163⟩:=At.ownInv S40.at' ET_55.hk 1 rfl
    obtain ⟨Q106,Q135,Q164⟩:=At.ownInv S40.at' ET_44.hk 2 rfl
    obtain ⟨Q107,Q136,Q165⟩:=At.ownInv S40.at' ET_44.hk 3 rfl
    obtain ⟨Q108,Q137,Q166⟩:=At.ownInv S40.at' ET_47.hk 4 rfl
    clear m40
    refine l_op (f_alloc F S40.at' ZI_58 rfl rfl rfl rfl rfl fun b42 _ w42 F S42=>?_)
    refine l_op (s_store S42.at' 0 TI_58 rfl rfl rfl rfl rfl (F.g rfl) (F.g rfl) rfl rfl rfl rfl rfl fun w44 S44=>?_)
    have T45:Mv _ _ [bx _ [_,_,_,_,_,_,_,_,_,_] _,_,_,_,_,_,_,bx _ [_,_,_,_,_,_,_,_,_,_] _,_,_,_,_,_,_] _:=S44
    refine zr fun _ F=>?_
    refine zw F T45.at' 0 fun _ F=>?_
    refine zz F (impl_BytesOf_c (H:=fun _=>True) (s:=aS) (x:=aX) (At.rd T45.at' ET_28.hk 6 rfl) zI5 zI5 zI5 zI5 (At.rd T45.at' ET_54.hk 1 rfl) (At.rd T45.at' ET_55.hk 2 rfl) (At.rd T45.at' ET_44.hk 3 rfl) (At.rd T45.at' ET_44.hk 4 rfl) (At.rd T45.at' ET_47.hk 5 rfl) zI5 (Tb.top (Tb.mv V_tab0 (S1.trans (S7.trans (S16.trans (S34.trans (S36.trans (S40.trans (S42.trans T45))))))))) (Tb.top (Tb.mv V_tab1 (S1.trans (S7.trans (S16.trans (S34.trans (S36.trans (S40.trans (S42.trans T45))))))))) (Tb.top (Tb.mv V_tab2 (S1.trans (S7.trans (S16.trans (S34.trans (S36.trans (S40.trans (S42.trans T45))))))))) (by exact hfC.1) (by exact hfC.2) (by exact hzX.1) ‹_›) ?_
    rintro _ w48 ⟨rfl,m48⟩
    refine zt fun _ F=>?_
    have S48:=At.frame0 T45.at' m48
    clear m48
    refine zv F (r_cmp (b:=false) (.inr (.inl rfl)) rfl (F.g rfl) (F.g rfl) (cmp_nes _)) fun _ F=>?_
    refine zz F (laws_toCellS_c (a:=aS) (RdA.mv (Nat.succ_pos _) V_v_aS (S1.trans (S7.trans (S16.trans (S34.trans (S36.trans (S40.trans (S42.trans (T45.trans S48))))))))) zI8) ?_
    rintro _ w56 ⟨Q64,Q68,Q66,rfl,m56⟩
    refine zt fun _ F=>?_
    have S56:Mv _ _ [_,bx _ [_,_,_,_,_,_,_,_,_,_] _,_,_,_,_,_,_,bx _ [_,_,_,_,_,_,_,_,_,_] _,_,_,_,_,_,_] _:=At.frame S48.at' [] rfl m56
    obtain ⟨Q109,Q138,Q167⟩:=At.ownInv S56.at' ET_28.hk 0 rfl
    clear m56
    refine zz F (laws_eqCellS_c (H:=fun _=>True) (a:=aS) (b:=aS) (At.rd S56.at' ET_28.hk 7 rfl) (At.rd S56.at' ET_28.hk 0 rfl) (by rfl)) ?_
    rintro _ w58 ⟨rfl,m58⟩
    refine zt fun _ F=>?_
    have S58:=At.frame0 S56.at' m58
    clear m58
    refine zv F (r_not rfl (F.g rfl)) fun _ F=>?_
    refine x_draw (fun aZ wZ=>∃ (Q57:Option Addr),∃ (Q59:Nat),∃ (Q58:Nat),∃ (Q54:Option Addr),∃ (Q56:Nat),∃ (Q55:Nat),∃ (Q48:Option Addr),∃ (Q50:Nat),∃ (Q49:Nat),∃ (Q51:Option Addr),∃ (Q53:Nat),∃ (Q52:Nat),∃ (Q60:Option Addr),∃ (Q62:Nat),∃ (Q61:Nat),Fr 45 [(44,.bool false)] aZ∧Mv [ow 91 2 encC okC (.slice Q64 Q68 Q66) aS,bx b42 [.int .i64 aX.id,.int .i64 aX.age,.int .i64 aX.proc,.int .i64 aX.began,.slice Q36 Q40 Q38,.slice Q29 Q33 Q31,.slice Q16 Q20 Q18,.slice Q22 Q26 Q24,.slice Q42 Q46 Q44,.int .i64 aX.state] 58,ow 153 6 encK okK (.slice Q36 Q40 Q38) aX.calls,ow 155 3 encR okR (.slice Q29 Q33 Q31) aX.answers,ow 9 1 encS okS (.slice Q16 Q20 Q18) aX.touch.reads,ow 9 1 encS okS (.slice Q22 Q26 Q24) aX.touch.writes,ow 3 1 encI okI (.slice Q42 Q46 Q44) aX.marks,ow 91 2 encC okC (.slice Q63 Q67 Q65) aS,bx b1 [.int .i64 aX.id,.int .i64 aX.age,.int .i64 aX.proc,.int .i64 aX.began,.slice Q9 Q11 Q10,.slice Q6 Q8 Q7,.slice Q0 Q2 Q1,.slice Q3 Q5 Q4,.slice Q12 Q14 Q13,.int .i64 aX.state] 49,ow 91 2 encC okC (.slice Q27 Q47 Q34) aS,ow 153 6 encK okK (.slice Q35 Q39 Q37) aX.calls,ow 155 3 encR okR (.slice Q28 Q32 Q30) aX.answers,ow 9 1 encS okS (.slice Q15 Q19 Q17) aX.touch.reads,ow 9 1 encS okS (.slice Q21 Q25 Q23) aX.touch.writes,ow 3 1 encI okI (.slice Q41 Q45 Q43) aX.marks] w58 [ow 91 2 encC okC (.slice Q64 Q68 Q66) aS,bx b42 [.int .i64 aX.id,.int .i64 aX.age,.int .i64 aX.proc,.int .i64 aX.began,.slice Q36 Q40 Q38,.slice Q29 Q33 Q31,.slice Q16 Q20 Q18,.slice Q22 Q26 Q24,.slice Q42 Q46 Q44,.int .i64 aX.state] 58,ow 153 6 encK okK (.slice Q36 Q40 Q38) aX.calls,ow 155 3 encR okR (.slice Q29 Q33 Q31) aX.answers,ow 9 1 encS okS (.slice Q16 Q20 Q18) aX.touch.reads,ow 9 1 encS okS (.slice Q22 Q26 Q24) aX.touch.writes,ow 3 1 encI okI (.slice Q42 Q46 Q44) aX.marks,ow 91 2 encC okC (.slice Q63 Q67 Q65) aS,bx b1 [.int .i64 aX.id,.int .i64 aX.age,.int .i64 aX.proc,.int .i64 aX.began,.slice Q9 Q11 Q10,.slice Q6 Q8 Q7,.slice Q0 Q2 Q1,.slice Q3 Q5 Q4,.slice Q12 Q14 Q13,.int .i64 aX.state] 49,ow 91 2 encC okC (.slice Q27 Q47 Q34) aS,ow 153 6 encK okK (.slice Q35 Q39 Q37) aX.calls,ow 155 3 encR okR (.slice Q28 Q32 Q30) aX.answers,ow 9 1 encS okS (.slice Q15 Q19 Q17) aX.touch.reads,ow 9 1 encS okS (.slice Q21 Q25 Q23) aX.touch.writes,ow 3 1 encI okI (.slice Q41 Q45 Q43) aX.marks,ow 153 6 encK okK (.slice Q57 Q59 Q58) aX.calls,ow 155 3 encR okR (.slice Q54 Q56 Q55) aX.answers,ow 9 1 encS okS (.slice Q48 Q50 Q49) aX.touch.reads,ow 9 1 encS okS (.slice Q51 Q53 Q52) aX.touch.writes,ow 3 1 encI okI (.slice Q60 Q62 Q61) aX.marks] wZ) [bx b42 [.int .i64 aX.id,.int .i64 aX.age,.int .i64 aX.proc,.int .i64 aX.began,.slice Q36 Q40 Q38,.slice Q29 Q33 Q31,.slice Q16 Q20 Q18,.slice Q22 Q26 Q24,.slice Q42 Q46 Q44,.int .i64 aX.state] 58,bx b1 [.int .i64 aX.id,.int .i64 aX.age,.int .i64 aX.proc,.int .i64 aX.began,.slice Q9 Q11 Q10,.slice Q6 Q8 Q7,.slice Q0 Q2 Q1,.slice Q3 Q5 Q4,.slice Q12 Q14 Q13,.int .i64 aX.state] 49] mixed S58.at' (listed:=#[false,false,false,false,false]) rfl (fun w62 S62=>?_) [1,8] rfl ?_
    ·refine g_take (v:=.agg #[.int .i64 aX.id,.int .i64 aX.age,.int .i64 aX.proc,.int .i64 aX.began,.slice Q36 Q40 Q38,.slice Q29 Q33 Q31,.slice Q16 Q20 Q18,.slice Q22 Q26 Q24,.slice Q42 Q46 Q44,.int .i64 aX.state]) F rfl (i:=0) (listed':=#[true,false,false,false,false]) rfl (by kernel_rfl) (by kernel_rfl) (by kernel_rfl) (fun _ _ _ h=>h) (Sd.of (Mv.refl S62.at') [1,8] rfl) rfl rfl rfl rfl (fun _ hz=>(r_loadX (hz.bx 0 rfl) TI_58 rfl (F.g rfl) rfl rfl (fun h=>nomatch h) rfl)) fun _ F=>?_
     refine g_take (v:=.agg #[.int .i64 aX.id,.int .i64 aX.age,.int .i64 aX.proc,.int .i64 aX.began,.slice Q9 Q11 Q10,.slice Q6 Q8 Q7,.slice Q0 Q2 Q1,.slice Q3 Q5 Q4,.slice Q12 Q14 Q13,.int .i64 aX.state]) F rfl (i:=1) (listed':=#[true,true,false,false,false]) rfl (by kernel_rfl) (by kernel_rfl) (by kernel_rfl) (fun _ _ _ h=>h) (Sd.of (Mv.refl S62.at') [1,8] rfl) rfl rfl rfl rfl (fun _ hz=>(r_loadX (hz.bx 1 rfl) TI_49 rfl (F.g rfl) rfl rfl (fun h=>nomatch h) rfl)) fun _ F=>?_
     refine d_one (i:=2) (listed':=#[true,true,true,false,false]) rfl (by kernel_rfl) rfl rfl ?_
     refine f_call F CF_19 rfl rfl rfl rfl (lc (F.g rfl) rfl) (laws_toTx_c (a:=aX) zI5 zI5 zI5 zI5 (RdA.mv (Nat.succ_pos _) V_v_aX_calls (S1.trans (S7.trans (S16.trans (S34.trans (S36.trans (S40.trans (S42.trans (T45.trans (S48.trans (S56.trans (S58.trans S62)))))))))))) (RdA.mv (Nat.succ_pos _) V_v_aX_answers (S1.trans (S7.trans (S16.trans (S34.trans (S36.trans (S40.trans (S42.trans (T45.trans (S48.trans (S56.trans (S58.trans S62)))))))))))) (RdA.mv (Nat.succ_pos _) V_v_aX_touch_reads (S1.trans (S7.trans (S16.trans (S34.trans (S36.trans (S40.trans (S42.trans (T45.trans (S48.trans (S56.trans (S58.trans S62)))))))))))) (RdA.mv (Nat.succ_pos _) V_v_aX_touch_writes (S1.trans (S7.trans (S16.trans (S34.trans (S36.trans (S40.trans (S42.trans (T45.trans (S48.trans (S56.trans (S58.trans S62)))))))))))) (RdA.mv (Nat.succ_pos _) V_v_aX_marks (S1.trans (S7.trans (S16.trans (S34.trans (S36.trans (S40.trans (S42.trans (T45.trans (S48.trans (S56.trans (S58.trans S62)))))))))))) zI5 (by omega) (by omega) (by omega) (by omega) (by omega)) ?_
     rintro _ w65 ⟨Q57,Q59,Q58,Q54,Q56,Q55,Q48,Q50,Q49,Q51,Q53,Q52,Q60,Q62,Q61,rfl,m65⟩
     refine ⟨_,rfl,fun _ F=>?_⟩
     have S65:Mv _ _ [_,_,_,_,_,_,bx _ [_,_,_,_,_,_,_,_,_,_] _,_,_,_,_,_,_,bx _ [_,_,_,_,_,_,_,_,_,_] _,_,_,_,_,_,_] _:=At.frame S62.at' [] rfl m65
     obtain ⟨Q110,Q139,Q168⟩:=At.ownInv S65.at' ET_54.hk 0 rfl
     obtain ⟨Q111,Q140,Q169⟩:=At.ownInv S65.at' ET_55.hk 1 rfl
     obtain ⟨Q112,Q141,Q170⟩:=At.ownInv S65.at' ET_44.hk 2 rfl
     obtain ⟨Q113,Q142,Q171⟩:=At.ownInv S65.at' ET_44.hk 3 rfl
     obtain ⟨Q114,Q143,Q172⟩:=At.ownInv S65.at' ET_47.hk 4 rfl
     clear m65
     refine ⟨Sd.of S65 [6,13] rfl,?_⟩
     refine d_one (i:=3) (listed':=#[true,true,true,true,false]) rfl (by kernel_rfl) rfl rfl ?_
     refine f_call F CF_21 rfl rfl rfl rfl (lc (F.g rfl) (lc (F.g rfl) rfl)) (laws_eqTx_c (H:=fun _=>True) (a:=aX) (b:=aX) zI5 zI5 zI5 zI5 (At.rd S65.at' ET_54.hk 7 rfl) (At.rd S65.at' ET_55.hk 8 rfl) (At.rd S65.at' ET_44.hk 9 rfl) (At.rd S65.at' ET_44.hk 10 rfl) (At.rd S65.at' ET_47.hk 11 rfl) zI5 zI5 zI5 zI5 zI5 (At.rd S65.at' ET_54.hk 0 rfl) (At.rd S65.at' ET_55.hk 1 rfl) (At.rd S65.at' ET_44.hk 2 rfl) (At.rd S65.at' ET_44.hk 3 rfl) (At.rd S65.at' ET_47.hk 4 rfl) zI5 (by rfl)) ?_
     rintro _ w67 ⟨rfl,m67⟩
     refine ⟨_,rfl,fun _ F=>?_⟩
     have S67:=At.frame0 S65.at' m67
     clear m67
     refine ⟨Sd.of (S65.trans S67) [6,13] rfl,?_⟩
     refine g_take F rfl (i:=4) (listed':=#[true,true,true,true,true]) rfl (by kernel_rfl) (by kernel_rfl) (by kernel_rfl) (fun _ _ _ h=>h) (Sd.of (S65.trans S67) [6,13] rfl) rfl rfl rfl rfl (fun _ hz=>(r_not rfl (F.g rfl))) fun _ F=>?_
     refine wpAnyH_done (by kernel_rfl) (x_normal ?_) _
     exact ⟨Q57,Q59,Q58,Q54,Q56,Q55,Q48,Q50,Q49,Q51,Q53,Q52,Q60,Q62,Q61,F.cut rfl,((S62.trans (S65.trans S67)).pick [5,6,7,8,9,10,11,12,13,14,15,16,17,18,19,0,1,2,3,4] rfl)⟩
    ·rintro a70 w70 ⟨Q57,Q59,Q58,Q54,Q56,Q55,Q48,Q50,Q49,Q51,Q53,Q52,Q60,Q62,Q61,F,S70⟩
     obtain ⟨Q115,Q144,Q173⟩:=At.ownInv S70.at' ET_54.hk 15 rfl
     obtain ⟨Q116,Q145,Q174⟩:=At.ownInv S70.at' ET_55.hk 16 rfl
     obtain ⟨Q117,Q146,Q175⟩:=At.ownInv S70.at' ET_44.hk 17 rfl
     obtain ⟨Q118,Q147,Q176⟩:=At.ownInv S70.at' ET_44.hk 18 rfl
     obtain ⟨Q119,Q148,Q177⟩:=At.ownInv S70.at' ET_47.hk 19 rfl
     refine zr fun _ F=>?_
     refine x_done F (results_1 rfl (zta F)) ?_
     exact ⟨rfl,(Mv.pick (S1.trans (S7.trans (S16.trans (S34.trans (S36.trans (S40.trans (S42.trans (T45.trans (S48.trans (S56.trans (S58.trans S70))))))))))) [] rfl)⟩
end Go.Proofs.YtipdbeklopjbmaaGreatDoor
namespace Go.Proofs.YtipdbeklopjbmaaGreatDoor.bytesof
open Go.ChangeShapes Go.WideShapes Go.ChangeAt Go.RowKit
set_option maxRecDepth 100000
theorem cells_3:Tryz.prog.cellsOf 3=1:=by kernel_rfl
theorem cells_9:Tryz.prog.cellsOf 9=1:=by kernel_rfl
theorem cells_42:Tryz.prog.cellsOf 42=1:=by kernel_rfl
theorem cells_43:Tryz.prog.cellsOf 43=1:=by kernel_rfl
theorem cells_44:Tryz.prog.cellsOf 44=1:=by kernel_rfl
theorem cells_46:Tryz.prog.cellsOf 46=2:=by kernel_rfl
theorem cells_47:Tryz.prog.cellsOf 47=1:=by kernel_rfl
theorem cells_49:Tryz.prog.cellsOf 49=10:=by kernel_rfl
theorem cells_99:Tryz.prog.cellsOf 99=2:=by kernel_rfl
theorem cells_141:Tryz.prog.cellsOf 141=6:=by kernel_rfl
theorem cells_144:Tryz.prog.cellsOf 144=3:=by kernel_rfl
theorem starE : "*" ++ "errors.errorString"= "*errors.errorString" := by decide
theorem rowE (u:TypeId) (h:Tryz.prog.typeName? 3 u=some "*errors.errorString"):u=363:=
 typeName_ptr_named (nm:= "errors.errorString") (by rw [starE];kernel_rfl) (by kernel_rfl) (by decide) u (by rw [starE];exact h)
theorem cellsE:Tryz.prog.cellsOf 365=1:=by kernel_rfl
theorem ground0 {W:World} (h:laidMet Tryz.prog [("math/bits.deBruijn32tab",Rows.laid_math_bits_deBruijn32tab),("math/bits.deBruijn64tab",Rows.laid_math_bits_deBruijn64tab),("internal/strconv.uint64pow10",Rows.laid_internal_strconv_uint64pow10),("strconv.ErrRange",Rows.laid_strconv_ErrRange),("strconv.ErrSyntax",Rows.laid_strconv_ErrSyntax),("encoding/hex.ErrLength",Rows.laid_encoding_hex_ErrLength)] W):Tb 0 (fun _=>True) W:=by
 have e:(Rows.laid_internal_strconv_uint64pow10:DataW Unit)=Lib.tabData .u64 Lib.pow10Tab:=by kernel_rfl
 have h2:laidMet Tryz.prog (("internal/strconv.uint64pow10",Lib.tabData .u64 Lib.pow10Tab)::[("strconv.ErrRange",Rows.laid_strconv_ErrRange),("strconv.ErrSyntax",Rows.laid_strconv_ErrSyntax),("encoding/hex.ErrLength",Rows.laid_encoding_hex_ErrLength)]) W:=by rw [← e];exact h.tail.tail
 have h3:Lib.TabIs Tryz.prog W "internal/strconv.uint64pow10" .u64 Lib.pow10Tab:=Lib.tabIs_of_head laysItoa.m17 (t:=367) (e:=331) (n:=20) (by kernel_rfl) Tryz.underlying367 Tryz.underlying331 (by kernel_rfl) (by kernel_rfl) h2
 exact ⟨h3,fun g hg=>by rw [List.mem_singleton.1 hg];exact ⟨trivial,Lib.lt_of_cell (h3.cell laysItoa.m17 0 (by decide))⟩⟩
theorem ground1 {W:World} (h:laidMet Tryz.prog [("math/bits.deBruijn32tab",Rows.laid_math_bits_deBruijn32tab),("math/bits.deBruijn64tab",Rows.laid_math_bits_deBruijn64tab),("internal/strconv.uint64pow10",Rows.laid_internal_strconv_uint64pow10),("strconv.ErrRange",Rows.laid_strconv_ErrRange),("strconv.ErrSyntax",Rows.laid_strconv_ErrSyntax),("encoding/hex.ErrLength",Rows.laid_encoding_hex_ErrLength)] W):Tb 1 (fun _=>True) W:=by
 have gS:Tryz.prog.globalNamed "strconv.ErrSyntax"=some (laysAtoi_ren.g 15):=by kernel_rfl
 obtain ⟨aS,sS,vS,-,-,-⟩:=laid_sentinel (h.tail.tail.tail.tail) gS (ti:=197) (by kernel_rfl) Tryz.underlying197 rowE Tryz.underlying363 Tryz.underlying365 rfl rfl Tryz.underlying9 cellsE cells_9
 have cS:=var_cell gS vS
 have gR:Tryz.prog.globalNamed "strconv.ErrRange"=some (laysAtoi_ren.g 16):=by kernel_rfl
 obtain ⟨aR,sR,vR,-,-,-⟩:=laid_sentinel (h.tail.tail.tail) gR (ti:=197) (by kernel_rfl) Tryz.underlying197 rowE Tryz.underlying363 Tryz.underlying365 rfl rfl Tryz.underlying9 cellsE cells_9
 have cR:=var_cell gR vR
 exact ⟨⟨⟨_,cS,.inr ⟨_,_,rfl⟩⟩,⟨_,cR,.inr ⟨_,_,rfl⟩⟩⟩,fun g hg=>by
  rcases List.mem_cons.1 hg with e|hg
  ·rw [e];exact ⟨trivial,Lib.lt_of_cell cS⟩
  ·rw [List.mem_singleton.1 hg];exact ⟨trivial,Lib.lt_of_cell cR⟩⟩
theorem ground2 {W:World} (h:laidMet Tryz.prog [("math/bits.deBruijn32tab",Rows.laid_math_bits_deBruijn32tab),("math/bits.deBruijn64tab",Rows.laid_math_bits_deBruijn64tab),("internal/strconv.uint64pow10",Rows.laid_internal_strconv_uint64pow10),("strconv.ErrRange",Rows.laid_strconv_ErrRange),("strconv.ErrSyntax",Rows.laid_strconv_ErrSyntax),("encoding/hex.ErrLength",Rows.laid_encoding_hex_ErrLength)] W):Tb 2 (fun _=>True) W:=by
 have gH:Tryz.prog.globalNamed "encoding/hex.ErrLength"=some (laysUnhex_ren.g 0):=by kernel_rfl
 obtain ⟨aH,sH,vH,-,-,-⟩:=laid_sentinel (h.tail.tail.tail.tail.tail) gH (ti:=197) (by kernel_rfl) Tryz.underlying197 rowE Tryz.underlying363 Tryz.underlying365 rfl rfl Tryz.underlying9 cellsE cells_9
 have cH:=var_cell gH vH
 exact ⟨⟨_,cH,.inr ⟨_,_,rfl⟩⟩,fun g hg=>by rw [List.mem_singleton.1 hg];exact ⟨trivial,Lib.lt_of_cell cH⟩⟩
theorem called (W:World) (args:Array Value) (h:ArgsRead Tryz.prog W Tryz.f4.params.toList args.toList) (t0:Tb 0 (fun _=>True) W) (t1:Tb 1 (fun _=>True) W) (t2:Tb 2 (fun _=>True) W):Calls Tryz.prog 4 args W fun e W'=>e=.returned (.bool true)∧Bl W W':=by
 obtain ⟨hl,h⟩:=h
 rw [Tryz.params4] at hl h
 obtain ⟨v0,v1,rfl⟩:∃ v0 v1,args=#[v0,v1]:=by
  obtain ⟨l⟩:=args
  match l,hl with
  | [v0,v1],_=>exact ⟨v0,v1,rfl⟩
 obtain ⟨r0,o0⟩:=h 0 _ v0 rfl rfl
 have q0:=reads_one Tryz.underlying41 trivial o0 r0
 obtain ⟨a_0,n_0,c_0,l_0,e_0,v_0⟩:=rdA_of Tryz.underlying41 cells_99 (by decide) (cell_row Tryz.underlying99 rfl rfl rfl rfl cells_9 cells_9 Tryz.underlying9 Tryz.underlying9) q0
 cases e_0
 obtain ⟨r1,o1⟩:=h 1 _ v1 rfl rfl
 obtain ⟨cs1,rfl,hcs1⟩:=agg_of_okWide Tryz.underlying49 o1
 rw [hcs1] at r1
 have hlen1:=(r1.struct Tryz.underlying49).1
 rw [cells_49] at hlen1
 obtain ⟨c1_0,c1_1,c1_2,c1_3,c1_4,c1_5,c1_6,c1_7,c1_8,c1_9,rfl⟩:∃ c1_0 c1_1 c1_2 c1_3 c1_4 c1_5 c1_6 c1_7 c1_8 c1_9,cs1=[c1_0,c1_1,c1_2,c1_3,c1_4,c1_5,c1_6,c1_7,c1_8,c1_9]:=by
  match cs1,hlen1 with
  | [c1_0,c1_1,c1_2,c1_3,c1_4,c1_5,c1_6,c1_7,c1_8,c1_9],_=>exact ⟨c1_0,c1_1,c1_2,c1_3,c1_4,c1_5,c1_6,c1_7,c1_8,c1_9,rfl⟩
 obtain ⟨_,hf_1⟩:=r1.struct Tryz.underlying49
 have f_1_0:Reads Tryz.prog W 3 [c1_0]:=by simpa [cells_3] using hf_1 0 _ rfl
 obtain ⟨i_1_0,e_1_0,h_1_0,g_1_0⟩:=f_1_0.i64 Tryz.underlying3
 cases e_1_0
 have f_1_1:Reads Tryz.prog W 3 [c1_1]:=by simpa [cells_3] using hf_1 1 _ rfl
 obtain ⟨i_1_1,e_1_1,h_1_1,g_1_1⟩:=f_1_1.i64 Tryz.underlying3
 cases e_1_1
 have f_1_2:Reads Tryz.prog W 3 [c1_2]:=by simpa [cells_3] using hf_1 2 _ rfl
 obtain ⟨i_1_2,e_1_2,h_1_2,g_1_2⟩:=f_1_2.i64 Tryz.underlying3
 cases e_1_2
 have f_1_3:Reads Tryz.prog W 3 [c1_3]:=by simpa [cells_3] using hf_1 3 _ rfl
 obtain ⟨i_1_3,e_1_3,h_1_3,g_1_3⟩:=f_1_3.i64 Tryz.underlying3
 cases e_1_3
 have f_1_4:Reads Tryz.prog W 42 [c1_4]:=by simpa [cells_42] using hf_1 4 _ rfl
 obtain ⟨a_1_4,n_1_4,c_1_4,l_1_4,e_1_4,v_1_4⟩:=rdA_of Tryz.underlying42 cells_141 (by decide) (call_row Tryz.underlying141 rfl rfl rfl rfl rfl rfl rfl rfl rfl rfl rfl rfl cells_3 cells_9 cells_9 cells_3 cells_3 cells_9 Tryz.underlying3 Tryz.underlying9 Tryz.underlying9 Tryz.underlying3 Tryz.underlying3 Tryz.underlying9) f_1_4
 cases e_1_4
 have f_1_5:Reads Tryz.prog W 43 [c1_5]:=by simpa [cells_43] using hf_1 5 _ rfl
 obtain ⟨a_1_5,n_1_5,c_1_5,l_1_5,e_1_5,v_1_5⟩:=rdA_of Tryz.underlying43 cells_144 (by decide) (ans_row Tryz.underlying144 rfl rfl rfl rfl rfl rfl cells_3 cells_3 cells_9 Tryz.underlying3 Tryz.underlying3 Tryz.underlying9) f_1_5
 cases e_1_5
 have f_1_6:Reads Tryz.prog W 46 [c1_6,c1_7]:=by simpa [cells_46] using hf_1 6 _ rfl
 obtain ⟨_,hf_1_6⟩:=f_1_6.struct Tryz.underlying46
 have f_1_6_0:Reads Tryz.prog W 44 [c1_6]:=by simpa [cells_44] using hf_1_6 0 _ rfl
 obtain ⟨a_1_6_0,n_1_6_0,c_1_6_0,l_1_6_0,e_1_6_0,v_1_6_0⟩:=rdA_of Tryz.underlying44 cells_9 (by decide) (str_row Tryz.underlying9) f_1_6_0
 cases e_1_6_0
 have f_1_6_1:Reads Tryz.prog W 44 [c1_7]:=by simpa [cells_44] using hf_1_6 1 _ rfl
 obtain ⟨a_1_6_1,n_1_6_1,c_1_6_1,l_1_6_1,e_1_6_1,v_1_6_1⟩:=rdA_of Tryz.underlying44 cells_9 (by decide) (str_row Tryz.underlying9) f_1_6_1
 cases e_1_6_1
 have f_1_7:Reads Tryz.prog W 47 [c1_8]:=by simpa [cells_47] using hf_1 7 _ rfl
 obtain ⟨a_1_7,n_1_7,c_1_7,l_1_7,e_1_7,v_1_7⟩:=rdA_of Tryz.underlying47 cells_3 (by decide) (int_row Tryz.underlying3) f_1_7
 cases e_1_7
 have f_1_8:Reads Tryz.prog W 3 [c1_9]:=by simpa [cells_3] using hf_1 8 _ rfl
 obtain ⟨i_1_8,e_1_8,h_1_8,g_1_8⟩:=f_1_8.i64 Tryz.underlying3
 cases e_1_8
 exact (laws_FnExactBytesOf_c (w:=W) (H:=fun _=>True) (aS:=l_0) (aX:=(⟨i_1_0,i_1_1,i_1_2,i_1_3,l_1_4,l_1_5,(⟨l_1_6_0,l_1_6_1⟩:TouchD),l_1_7,i_1_8⟩:TxD)) v_0 ⟨h_1_0,g_1_0⟩ ⟨h_1_1,g_1_1⟩ ⟨h_1_2,g_1_2⟩ ⟨h_1_3,g_1_3⟩ v_1_4 v_1_5 v_1_6_0 v_1_6_1 v_1_7 ⟨h_1_8,g_1_8⟩ t0 t1 t2).mono fun e W' ⟨h1,h2⟩=>⟨h1,h2.bl⟩
theorem own:ownKnob Tryz.prog.godebug=none:=by kernel_rfl
theorem laidOut:laidOutB Tryz.prog=true:=by kernel_rfl
theorem readable:∀ t ∈ Tryz.f4.params.toList,Tryz.prog.readableRec t=true∧t < Tryz.prog.types.size:=of_decide_eq_true (by kernel_rfl)
theorem door_met (os:Os) (args:Array Value):laidMetH Tryz.prog [("math/bits.deBruijn32tab",Rows.laid_math_bits_deBruijn32tab),("math/bits.deBruijn64tab",Rows.laid_math_bits_deBruijn64tab),("internal/strconv.uint64pow10",Rows.laid_internal_strconv_uint64pow10),("strconv.ErrRange",Rows.laid_strconv_ErrRange),("strconv.ErrSyntax",Rows.laid_strconv_ErrSyntax),("encoding/hex.ErrLength",Rows.laid_encoding_hex_ErrLength)] ((World.doorLaid Tryz.prog 91 os).forCall (fun _ _=>0) ⟨#[],args,[]⟩).memory:=
 laidMetH_of_parts3 (fuel:=8) (laidMet_of_run' 8 (by kernel_rfl) (by kernel_rfl)) (by kernel_rfl) (by kernel_rfl)
theorem lifted (os:Os) (started:os.Started) (H:Type) (enc:TypeId × Value→H) :
 ReturnsInHanded {} Tryz.checked os 4 .any (fun w args=>(Rows.fnExactBytesOfSpec.pre enc Tryz.prog Tryz.f4 [] false w args∧laidMetH Tryz.prog [("math/bits.deBruijn32tab",Rows.laid_math_bits_deBruijn32tab),("math/bits.deBruijn64tab",Rows.laid_math_bits_deBruijn64tab),("internal/strconv.uint64pow10",Rows.laid_internal_strconv_uint64pow10),("strconv.ErrRange",Rows.laid_strconv_ErrRange),("strconv.ErrSyntax",Rows.laid_strconv_ErrSyntax),("encoding/hex.ErrLength",Rows.laid_encoding_hex_ErrLength)] w)∧sizedMet enc Tryz.prog Tryz.f4 (OpenSpec.ofChange Rows.fnExactBytesOfSpec) false w args)
  (Rows.fnExactBytesOfSpec.post enc Tryz.prog Tryz.f4 false true false false):=by
 refine returnsInHanded_of_change_and (C:=Tryz.checked) (X:=fun w _=>laidMetH Tryz.prog [("math/bits.deBruijn32tab",Rows.laid_math_bits_deBruijn32tab),("math/bits.deBruijn64tab",Rows.laid_math_bits_deBruijn64tab),("internal/strconv.uint64pow10",Rows.laid_internal_strconv_uint64pow10),("strconv.ErrRange",Rows.laid_strconv_ErrRange),("strconv.ErrSyntax",Rows.laid_strconv_ErrSyntax),("encoding/hex.ErrLength",Rows.laid_encoding_hex_ErrLength)] w) (fun _ _ _ hh h=>h.of_heap hh) own started (by kernel_rfl) Tryz.func4
  (ChangeSpec.witness_shaped (enc:=enc) (C:=Tryz.checked) (os:=os) (X:=fun w _=>laidMetH Tryz.prog [("math/bits.deBruijn32tab",Rows.laid_math_bits_deBruijn32tab),("math/bits.deBruijn64tab",Rows.laid_math_bits_deBruijn64tab),("internal/strconv.uint64pow10",Rows.laid_internal_strconv_uint64pow10),("strconv.ErrRange",Rows.laid_strconv_ErrRange),("strconv.ErrSyntax",Rows.laid_strconv_ErrSyntax),("encoding/hex.ErrLength",Rows.laid_encoding_hex_ErrLength)] w) false (World.doorLaid Tryz.prog 91 os) #[.slice none 0 0,.agg #[.int .i64 0,.int .i64 0,.int .i64 0,.int .i64 0,.slice none 0 0,.slice none 0 0,.slice none 0 0,.slice none 0 0,.slice none 0 0,.int .i64 0]] 8 rfl (World.shaped_of_RefB (by kernel_rfl) (by kernel_rfl)) (by kernel_rfl) (by kernel_rfl) (by kernel_rfl) (door_met os _)) ?_
 intro W base args ds gs before hval0 hW _ _ hL _
 have hval:∀ (j:Nat) t v,Tryz.f4.params[j]? = some t→args[j]? = some v→Value.okWide Tryz.prog W .any 0 t v:=hval0
 have hM:laidMet Tryz.prog [("math/bits.deBruijn32tab",Rows.laid_math_bits_deBruijn32tab),("math/bits.deBruijn64tab",Rows.laid_math_bits_deBruijn64tab),("internal/strconv.uint64pow10",Rows.laid_internal_strconv_uint64pow10),("strconv.ErrRange",Rows.laid_strconv_ErrRange),("strconv.ErrSyntax",Rows.laid_strconv_ErrSyntax),("encoding/hex.ErrLength",Rows.laid_encoding_hex_ErrLength)] W:=by
  have h:=hL
  rw [MakeChecks.laidMetH_plain _ _ _ (by kernel_rfl)] at h
  exact h
 refine law_contractW laidOut readable Tryz.underlying4 rfl rfl ?_ H enc false true false false W args ds gs before (fun h=>called W args h (ground0 hM) (ground1 hM) (ground2 hM)) hval hW
 intro H ds hd
 match ds,hd with
 | [a,b],_=>rfl
end Go.Proofs.YtipdbeklopjbmaaGreatDoor.bytesof
