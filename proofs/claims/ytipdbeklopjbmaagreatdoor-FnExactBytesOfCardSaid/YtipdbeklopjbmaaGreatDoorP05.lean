/-
  Texts laid together: GenB, GenC.
-/
import Derived.Test.YtipdbeklopjbmaaGreatDoorP04
set_option linter.unusedVariables false
set_option linter.unusedSimpArgs false
namespace Go.Proofs.YtipdbeklopjbmaaGreatDoor
open Go.ChangeShapes Go.WideShapes Go.ChangeAt Go.RowKit
set_option maxRecDepth 100000
set_option maxHeartbeats 1000000
theorem spec_l02Put_c {w:World} {H:Nat→Prop} {list:List ByteArray} {Q1:Option Addr} {Q0 Q2:Nat} {x:ByteArray} (Q3:Rd 1 encS okS H w (.slice Q1 Q0 Q2) list) (h_x:okS x) (p0:Q0≤549755813888) :
 Calls Tryz.prog 147 #[.slice Q1 Q0 Q2,.string x] w fun e w'=>∃ (r0_a:Option Addr),∃ (r0_n:Nat),∃ (r0_c:Nat),e=.returned (.slice r0_a r0_n r0_c)∧Mv [] w [] w'∧Rd 1 encS okS (Fsh H w) w' (.slice r0_a r0_n r0_c) (putL list x):=by
 have V_v_list:=Rd.start Q3 zN
 obtain ⟨Q5,Q4,Q6,Q7⟩:=Rd.inv Q3
 refine ze fun _ F=>?_
 refine x_lp (fun (k:Nat) aZ wZ=>Fr 47 [(5,.int .i64 ((k:Nat):Int)),(0,.slice Q1 Q0 Q2),(1,.string x)] aZ∧Mv [] w [] wZ∧(k≤Q0)∧(∀ j,j < k→∀ y,nth list j=some y→ltS y x=true)) (fun (k:Nat)=>Q0 - k) (0) ?_ ?_
 ·exact ⟨F.cut rfl,(Mv.refl (At.nil w)),by omega,all_none⟩
 ·rintro k a3 w3 ⟨F,S3,hk_0,hk_1⟩
  refine zr fun _ F=>?_
  refine zc F (k < Q0) fun _ F=>?_
  rcases Decidable.em (k < Q0) with h9|h9
  ·rw [decide_eq_true h9] at F
   refine zr fun _ F=>?_
   obtain ⟨B12,O12,x1,ad12,hx1,okx1,ln12,cl12⟩:=Rd.at (Rd.mq V_v_list S3) k zIa
   clear ln12
   refine zv F (r_indexAddr (i:=k) ET_44 rfl ((F.ev 12 rfl).trans (by rw [ad12])) (F.g rfl) (by omega) zIa) fun _ F=>?_
   refine zv (v:=.string x1) F (r_load (cs:=[.string x1]) TI_9 rfl (F.g rfl) rfl (fun _=>rfl) (elem_sub (f:=0) cl12 [.string x1] rfl)) fun _ F=>?_
   refine zv F (r_cmps (b:=(ltS x1 x)) (.inr (.inr (.inl rfl))) rfl (F.g rfl) (F.g rfl) rfl) fun _ F=>?_
   refine zib F (fun h18=>?_) fun h18=>?_
   ·refine zr fun _ F=>?_
    refine zq F ((k+1:Nat):Int) fun _ F=>?_
    exact ⟨k+1,zD,F.cut rfl,(S3.pick [] rfl),by omega,all_step hk_1 (fun y hy=>by obtain rfl:=Option.some.inj (hx1.symm.trans hy);assumption)⟩
   ·refine zr fun _ F=>?_
    refine zc F (k < Q0) fun _ F=>?_
    rw [decide_eq_true h9] at F
    refine zr fun _ F=>?_
    obtain ⟨B29,O29,y29,ad29,hy29,oky29,ln29,cl29⟩:=Rd.at (Rd.mq V_v_list S3) k zIa
    clear ln29
    obtain rfl:=Option.some.inj (hx1.symm.trans hy29)
    clear hy29 oky29
    refine zv F (r_indexAddr (i:=k) ET_44 rfl ((F.ev 26 rfl).trans (by rw [ad29])) (F.g rfl) (by omega) zIa) fun _ F=>?_
    refine zv (v:=.string x1) F (r_load (cs:=[.string x1]) TI_9 rfl (F.g rfl) rfl (fun _=>rfl) (elem_sub (f:=0) cl29 [.string x1] rfl)) fun _ F=>?_
    refine zv F (r_cmps (b:=(decide (x1=x))) (.inl rfl) rfl (F.g rfl) (F.g rfl) rfl) fun _ F=>?_
    refine zi F (fun h35=>?_) fun h35=>?_
    ·refine zr fun _ F=>?_
     refine x_done F (results_1 rfl (zta F)) ?_
     exact ⟨Q1,Q0,Q2,rfl,(Mv.pick S3 [] rfl),(Rd.cast (Rd.give (Rd.mq V_v_list S3)) (by exact (putL_same (k:=k) (by rw [hx1];exact congrArg some ‹_›) hk_1 (by simp_all)).symm))⟩
    ·refine zr fun _ F=>?_
     refine l_op (f_buildSl (ok:=okS) (vs:=[]) F S3.at' (([]:List ByteArray)) ET_44 rfl rfl rfl rfl rfl rfl rfl rfl rfl (by simp) fun b38 _ w38 F S38=>?_)
     refine zr fun _ F=>?_
     refine l_op (f_sliceR F 0 k (Rd.mq V_v_list (S3.trans S38)) ET_44 rfl rfl rfl rfl (F.g rfl) rfl (F.g rfl) zIa zIa fun A42 C42 _ F V42i=>?_)
     have V42:Rd 1 encS okS (V H w [ow 9 1 encS okS (.slice (some ⟨b38,0,none⟩) 0 0) ([]:List ByteArray)]) w38 (.slice A42 (k - 0) C42) (list.take k):=V42i
     clear V42i
     refine l_op (f_app (news:=list.take k) F S38.at' 0 ET_44 rfl rfl rfl rfl rfl rfl (F.g rfl) (F.g rfl) (V42).1 zI9 fun A44 N44 C44 _ w44 F S44 l44=>?_)
     refine zr fun _ F=>?_
     refine l_op (f_buildSl (ok:=okS) (vs:=[.string x]) F S44.at' ([x]) ET_44 rfl rfl rfl rfl rfl rfl (lc (pr2 (F.g rfl)) rfl) rfl rfl (fun x hx=>(List.mem_singleton.1 hx) ▸ h_x) fun b47 _ w47 F S47=>?_)
     refine l_op (f_app (news:=[x]) F S47.at' 1 ET_44 rfl rfl rfl rfl rfl rfl (F.g rfl) (F.g rfl) ((At.rd S47.at' ET_44.hk 0 rfl)).1 zI9 fun A49 N49 C49 _ w49 F S49 l49=>?_)
     have S51:=At.drop S49.at' 1
     refine zr fun _ F=>?_
     have T53:Mv _ _ [_] _:=S51
     refine l_op (f_sliceR F k Q0 (Rd.mq V_v_list (S3.trans (S38.trans (S44.trans (S47.trans (S49.trans T53)))))) ET_44 rfl rfl rfl rfl (F.g rfl) (F.g rfl) rfl zIa zIa fun A57 C57 _ F V57i=>?_)
     have V57:Rd 1 encS okS (V H w [ow 9 1 encS okS (.slice A49 N49 C49) ((([]:List ByteArray)++(list.take k))++([x]))]) w49 (.slice A57 (Q0 - k) C57) (list.drop k):=Rd.cast V57i (show (list.take Q0).drop k=list.drop k from by rw [List.take_of_length_le (by omega)])
     clear V57i
     refine l_op (f_app (news:=list.drop k) F T53.at' 0 ET_44 rfl rfl rfl rfl rfl rfl (F.g rfl) (F.g rfl) (V57).1 zI9 fun A59 N59 C59 _ w59 F S59 l59=>?_)
     refine zr fun _ F=>?_
     have Z62:Rd 1 encS okS (V H w []) w59 (.slice A59 N59 C59) (((([]:List ByteArray)++(list.take k))++([x]))++(list.drop k)):=At.freeze (S3.trans (S38.trans (S44.trans (S47.trans (S49.trans (T53.trans S59)))))) ET_44.hk 0 rfl (fun b hb=>((S3.trans (S38.trans (S44.trans (S47.trans (S49.trans (T53.trans S59)))))).fresh b ⟨_,nth_mem (i:=0) rfl,hb⟩).resolve_left (fps_nil _))
     have S62:=At.drop S59.at' 0
     refine x_done F (results_1 rfl (zta F)) ?_
     exact ⟨A59,N59,C59,rfl,(Mv.pick (S3.trans (S38.trans (S44.trans (S47.trans (S49.trans (T53.trans (S59.trans S62))))))) [] rfl),(Rd.cast (Rd.give Z62) (by rw [putL_ins (k:=k) (by omega) hk_1 (fun y hy=>by obtain rfl:=Option.some.inj (hx1.symm.trans hy);exact ⟨by assumption,by assumption⟩)];simp))⟩
  ·rw [decide_eq_false h9] at F
   refine zr fun _ F=>?_
   refine zc F (k < Q0) fun _ F=>?_
   rw [decide_eq_false h9] at F
   refine zr fun _ F=>?_
   refine l_op (f_buildSl (ok:=okS) (vs:=[]) F S3.at' (([]:List ByteArray)) ET_44 rfl rfl rfl rfl rfl rfl rfl rfl rfl (by simp) fun b82 _ w82 F S82=>?_)
   refine zr fun _ F=>?_
   refine l_op (f_sliceR F 0 k (Rd.mq V_v_list (S3.trans S82)) ET_44 rfl rfl rfl rfl (F.g rfl) rfl (F.g rfl) zIa zIa fun A86 C86 _ F V86i=>?_)
   have V86:Rd 1 encS okS (V H w [ow 9 1 encS okS (.slice (some ⟨b82,0,none⟩) 0 0) ([]:List ByteArray)]) w82 (.slice A86 (k - 0) C86) (list.take k):=V86i
   clear V86i
   refine l_op (f_app (news:=list.take k) F S82.at' 0 ET_44 rfl rfl rfl rfl rfl rfl (F.g rfl) (F.g rfl) (V86).1 zI9 fun A88 N88 C88 _ w88 F S88 l88=>?_)
   refine zr fun _ F=>?_
   refine l_op (f_buildSl (ok:=okS) (vs:=[.string x]) F S88.at' ([x]) ET_44 rfl rfl rfl rfl rfl rfl (lc (pr2 (F.g rfl)) rfl) rfl rfl (fun x hx=>(List.mem_singleton.1 hx) ▸ h_x) fun b91 _ w91 F S91=>?_)
   refine l_op (f_app (news:=[x]) F S91.at' 1 ET_44 rfl rfl rfl rfl rfl rfl (F.g rfl) (F.g rfl) ((At.rd S91.at' ET_44.hk 0 rfl)).1 zI9 fun A93 N93 C93 _ w93 F S93 l93=>?_)
   have S95:=At.drop S93.at' 1
   refine zr fun _ F=>?_
   have T97:Mv _ _ [_] _:=S95
   refine l_op (f_sliceR F k Q0 (Rd.mq V_v_list (S3.trans (S82.trans (S88.trans (S91.trans (S93.trans T97)))))) ET_44 rfl rfl rfl rfl (F.g rfl) (F.g rfl) rfl zIa zIa fun A101 C101 _ F V101i=>?_)
   have V101:Rd 1 encS okS (V H w [ow 9 1 encS okS (.slice A93 N93 C93) ((([]:List ByteArray)++(list.take k))++([x]))]) w93 (.slice A101 (Q0 - k) C101) (list.drop k):=Rd.cast V101i (show (list.take Q0).drop k=list.drop k from by rw [List.take_of_length_le (by omega)])
   clear V101i
   refine l_op (f_app (news:=list.drop k) F T97.at' 0 ET_44 rfl rfl rfl rfl rfl rfl (F.g rfl) (F.g rfl) (V101).1 zI9 fun A103 N103 C103 _ w103 F S103 l103=>?_)
   refine zr fun _ F=>?_
   have Z106:Rd 1 encS okS (V H w []) w103 (.slice A103 N103 C103) (((([]:List ByteArray)++(list.take k))++([x]))++(list.drop k)):=At.freeze (S3.trans (S82.trans (S88.trans (S91.trans (S93.trans (T97.trans S103)))))) ET_44.hk 0 rfl (fun b hb=>((S3.trans (S82.trans (S88.trans (S91.trans (S93.trans (T97.trans S103)))))).fresh b ⟨_,nth_mem (i:=0) rfl,hb⟩).resolve_left (fps_nil _))
   have S106:=At.drop S103.at' 0
   refine x_done F (results_1 rfl (zta F)) ?_
   exact ⟨A103,N103,C103,rfl,(Mv.pick (S3.trans (S82.trans (S88.trans (S91.trans (S93.trans (T97.trans (S103.trans S106))))))) [] rfl),(Rd.cast (Rd.give Z106) (by rw [putL_ins (k:=k) (by omega) hk_1 (fun y hy=>absurd (nth_lt hy) (by omega))];simp))⟩
theorem spec_AddSpan_c {w:World} {H:Nat→Prop} {list:List ByteArray} {Q1:Option Addr} {Q0 Q2:Nat} {span:ByteArray} (Q3:Rd 1 encS okS H w (.slice Q1 Q0 Q2) list) (Q4:okS span) (p0:Q0≤549755813888) :
 Calls Tryz.prog 180 #[.slice Q1 Q0 Q2,.string span] w fun e w'=>∃ (r0_a:Option Addr),∃ (r0_n:Nat),∃ (r0_c:Nat),e=.returned (.slice r0_a r0_n r0_c)∧Mv [] w [] w'∧Rd 1 encS okS (Fsh H w) w' (.slice r0_a r0_n r0_c) (putL list span):=by
 have V_v_list:=Rd.start Q3 zN
 obtain ⟨Q6,Q5,Q7,Q8⟩:=Rd.inv Q3
 refine ze fun _ F=>?_
 refine l_op (f_buildSl (ok:=okS) (vs:=[]) F (At.nil w) (([]:List ByteArray)) ET_44 rfl rfl rfl rfl rfl rfl rfl rfl rfl (by simp) fun b2 _ w2 F S2=>?_)
 refine zr fun _ F=>?_
 refine zz F (spec_l02Put_c (list:=list) (x:=span) (Rd.mq V_v_list S2) Q4 zI8) ?_
 rintro _ w6 ⟨Q9,Q11,Q10,rfl,m6,v6_0⟩
 refine zt fun _ F=>?_
 have S6:=At.frame0 S2.at' m6
 have V6_0:=Rd.got0 S2.at' (S2.kp.size) v6_0 S6
 obtain ⟨ln6_0,le6_0,mx6_0,ni6_0⟩:=Rd.inv V6_0
 clear m6 v6_0
 refine l_op (f_app (news:=putL list span) F S6.at' 0 ET_44 rfl rfl rfl rfl rfl rfl (F.g rfl) (F.g rfl) (V6_0).1 (by have:=putL_length list span;((repeat (first|rw [List.length_append]|rw [List.length_cons]|rw [List.length_nil]|rw [List.length_take]|rw [List.length_drop])) <;> omega)) fun A8 N8 C8 _ w8 F S8 l8=>?_)
 refine zr fun _ F=>?_
 have Z11:Rd 1 encS okS (V H w []) w8 (.slice A8 N8 C8) (([]:List ByteArray)++(putL list span)):=At.freeze (S2.trans (S6.trans S8)) ET_44.hk 0 rfl (fun b hb=>((S2.trans (S6.trans S8)).fresh b ⟨_,nth_mem (i:=0) rfl,hb⟩).resolve_left (fps_nil _))
 have S11:=At.drop S8.at' 0
 refine x_done F (results_1 rfl (zta F)) ?_
 exact ⟨A8,N8,C8,rfl,(Mv.pick (S2.trans (S6.trans (S8.trans S11))) [] rfl),(Rd.cast (Rd.give Z11) (by simp))⟩
theorem laws_szTouch_c {w:World} {H:Nat→Prop} {a:TouchD} {a_Ra:Option Addr} {a_Rn a_Rc:Nat} {a_Wa:Option Addr} {a_Wn a_Wc:Nat} {left:Int} (Q0:RdA 1 encS okS H w (.slice a_Ra a_Rn a_Rc) a.reads) (Q1:RdA 1 encS okS H w (.slice a_Wa a_Wn a_Wc) a.writes) (Q2:i64ok left) (p0:0≤left) (p1:left≤1048576) :
 Calls Tryz.prog 56 #[.agg #[.slice a_Ra a_Rn a_Rc,.slice a_Wa a_Wn a_Wc],.int .i64 left] w fun e w'=>e=.returned (.int .i64 (subOr left (szTouchD a)))∧Mv [] w [] w'∧i64ok (subOr left (szTouchD a)):=by
 have V_v_a_reads:=RdA.start Q0 zN
 obtain ⟨Q5,Q3,Q7,Q9⟩:=RdA.inv Q0
 have V_v_a_writes:=RdA.start Q1 zN
 obtain ⟨Q6,Q4,Q8,Q10⟩:=RdA.inv Q1
 refine ze fun _ F=>?_
 refine l_op (f_box F (At.nil w) rfl rfl rfl (F.g rfl) rfl rfl fun b1 _ w1 F S1=>?_)
 refine zr fun _ F=>?_
 refine zl F S1.at' 0 fun _ F=>?_
 refine zz F (laws_szStringS_c (a:=a.reads) (left:=left) (RdA.mv (Nat.succ_pos _) V_v_a_reads S1) Q2 zI8 (by first|assumption|(have:=subOr_bd left (szStrs a.reads) p0;omega))) ?_
 rintro _ w7 ⟨rfl,m7,q7_0⟩
 refine zt fun _ F=>?_
 have S7:=At.frame0 S1.at' m7
 clear m7
 refine zc F ((subOr left (szStrs a.reads)) < 0) fun _ F=>?_
 refine zi F (fun h12=>?_) fun h12=>?_
 ·refine zr fun _ F=>?_
  refine x_done F (results_1 rfl (zta F)) ?_
  exact ⟨(zV1 (zVi (by unfold szTouchD;exact (subOr_neg left _ _ ‹_›).symm))),(Mv.pick (S1.trans S7) [] rfl),subOr_i64 p0 p1⟩
 ·refine zr fun _ F=>?_
  refine zl F S7.at' 0 fun _ F=>?_
  refine zz F (laws_szStringS_c (a:=a.writes) (left:=(subOr left (szStrs a.reads))) (RdA.mv (Nat.succ_pos _) V_v_a_writes (S1.trans S7)) zI7 zI8 (by first|assumption|(have:=subOr_bd left (szStrs a.reads) p0;omega))) ?_
  rintro _ w17 ⟨rfl,m17,q17_0⟩
  refine zt fun _ F=>?_
  have S17:=At.frame0 S7.at' m17
  clear m17
  refine zc F ((subOr (subOr left (szStrs a.reads)) (szStrs a.writes)) < 0) fun _ F=>?_
  refine zi F (fun h22=>?_) fun h22=>?_
  ·refine zr fun _ F=>?_
   refine x_done F (results_1 rfl (zta F)) ?_
   exact ⟨(zV1 (zVi (by unfold szTouchD;rw [subOr_add left _ _ (by omega)] at *;unfold subOr at *;split at * <;> omega))),(Mv.pick (S1.trans (S7.trans S17)) [] rfl),subOr_i64 p0 p1⟩
  ·refine zr fun _ F=>?_
   refine x_done F (results_1 rfl (zta F)) ?_
   exact ⟨(zV1 (zVi (by unfold szTouchD;exact subOr_add left _ _ (by omega)))),(Mv.pick (S1.trans (S7.trans S17)) [] rfl),subOr_i64 p0 p1⟩
theorem laws_toTouch_c {w:World} {H:Nat→Prop} {a:TouchD} {a_Ra:Option Addr} {a_Rn a_Rc:Nat} {a_Wa:Option Addr} {a_Wn a_Wc:Nat} (Q6:RdA 1 encS okS H w (.slice a_Ra a_Rn a_Rc) a.reads) (Q7:RdA 1 encS okS H w (.slice a_Wa a_Wn a_Wc) a.writes) (p0:a.reads.length≤1048576) (p1:a.writes.length≤1048576) :
 Calls Tryz.prog 64 #[.agg #[.slice a_Ra a_Rn a_Rc,.slice a_Wa a_Wn a_Wc]] w fun e w'=>∃ (Q0:Option Addr),∃ (Q2:Nat),∃ (Q1:Nat),∃ (Q3:Option Addr),∃ (Q5:Nat),∃ (Q4:Nat),e=.returned (.agg #[.slice Q0 Q2 Q1,.slice Q3 Q5 Q4])∧Mv [] w [ow 9 1 encS okS (.slice Q0 Q2 Q1) a.reads,ow 9 1 encS okS (.slice Q3 Q5 Q4) a.writes] w':=by
 have V_v_a_reads:=RdA.start Q6 zN
 obtain ⟨Q16,Q14,Q24,Q26⟩:=RdA.inv Q6
 have V_v_a_writes:=RdA.start Q7 zN
 obtain ⟨Q17,Q15,Q25,Q27⟩:=RdA.inv Q7
 refine ze fun _ F=>?_
 refine l_op (f_box F (At.nil w) rfl rfl rfl (F.g rfl) rfl rfl fun b1 _ w1 F S1=>?_)
 refine l_op (f_alloc F S1.at' ZI_56 rfl rfl rfl rfl rfl fun b3 _ w3 F S3=>?_)
 refine zr fun _ F=>?_
 refine l_op (f_alloc F S3.at' ZI_56 rfl rfl rfl rfl rfl fun b5 _ w5 F S5=>?_)
 refine zr fun _ F=>?_
 refine zl F S5.at' 2 fun _ F=>?_
 refine zz F (laws_toStringS_c (a:=a.reads) (RdA.mv (Nat.succ_pos _) V_v_a_reads (S1.trans (S3.trans S5))) zI8) ?_
 rintro _ w9 ⟨Q9,Q13,Q11,rfl,m9⟩
 refine zt fun _ F=>?_
 have S9:Mv _ _ [_,bx _ [_,_] _,bx _ [_,_] _,bx _ [_,_] _] _:=At.frame S5.at' [] rfl m9
 obtain ⟨Q19,Q21,Q23⟩:=At.ownInv S9.at' ET_44.hk 0 rfl
 clear m9
 refine l_op (s_store S9.at' 1 TI_44 rfl rfl rfl rfl rfl (F.g rfl) (F.g rfl) rfl rfl rfl rfl rfl fun w12 S12=>?_)
 have T13:Mv _ _ [bx _ [_,_] _,_,bx _ [_,_] _,bx _ [_,_] _] _:=S12
 refine zr fun _ F=>?_
 refine zl F T13.at' 3 fun _ F=>?_
 refine zz F (laws_toStringS_c (a:=a.writes) (RdA.mv (Nat.succ_pos _) V_v_a_writes (S1.trans (S3.trans (S5.trans (S9.trans T13))))) zI8) ?_
 rintro _ w16 ⟨Q8,Q12,Q10,rfl,m16⟩
 refine zt fun _ F=>?_
 have S16:Mv _ _ [_,bx _ [_,_] _,_,bx _ [_,_] _,bx _ [_,_] _] _:=At.frame T13.at' [] rfl m16
 obtain ⟨Q18,Q20,Q22⟩:=At.ownInv S16.at' ET_44.hk 0 rfl
 clear m16
 refine l_op (s_store S16.at' 1 TI_44 rfl rfl rfl rfl rfl (F.g rfl) (F.g rfl) rfl rfl rfl rfl rfl fun w19 S19=>?_)
 refine zr fun _ F=>?_
 refine zw F S19.at' 0 fun _ F=>?_
 refine l_op (s_store S19.at' 3 TI_56 rfl rfl rfl rfl rfl (F.g rfl) (F.g rfl) rfl rfl rfl rfl rfl fun w21 S21=>?_)
 refine zr fun _ F=>?_
 refine x_done F (results_1 rfl (zca F S21.at' 0)) ?_
 exact ⟨Q9,Q13,Q11,Q8,Q12,Q10,rfl,(Mv.pick (S1.trans (S3.trans (S5.trans (S9.trans (T13.trans (S16.trans (S19.trans S21))))))) [3,2] rfl)⟩
theorem laws_eqTouch_c {w:World} {H:Nat→Prop} {a:TouchD} {a_Ra:Option Addr} {a_Rn a_Rc:Nat} {a_Wa:Option Addr} {a_Wn a_Wc:Nat} {b:TouchD} {b_Ra:Option Addr} {b_Rn b_Rc:Nat} {b_Wa:Option Addr} {b_Wn b_Wc:Nat} (Q0:Rd 1 encS okS H w (.slice a_Ra a_Rn a_Rc) a.reads) (Q1:Rd 1 encS okS H w (.slice a_Wa a_Wn a_Wc) a.writes) (Q2:Rd 1 encS okS H w (.slice b_Ra b_Rn b_Rc) b.reads) (Q3:Rd 1 encS okS H w (.slice b_Wa b_Wn b_Wc) b.writes) (p0:a=b) :
 Calls Tryz.prog 71 #[.agg #[.slice a_Ra a_Rn a_Rc,.slice a_Wa a_Wn a_Wc],.agg #[.slice b_Ra b_Rn b_Rc,.slice b_Wa b_Wn b_Wc]] w fun e w'=>e=.returned (.bool true)∧Mv [] w [] w':=by
 have V_v_a_reads:=Rd.start Q0 zN
 obtain ⟨Q8,Q4,Q12,Q16⟩:=Rd.inv Q0
 have V_v_a_writes:=Rd.start Q1 zN
 obtain ⟨Q9,Q5,Q13,Q17⟩:=Rd.inv Q1
 have V_v_b_reads:=Rd.start Q2 zN
 obtain ⟨Q10,Q6,Q14,Q18⟩:=Rd.inv Q2
 have V_v_b_writes:=Rd.start Q3 zN
 obtain ⟨Q11,Q7,Q15,Q19⟩:=Rd.inv Q3
 refine ze fun _ F=>?_
 refine l_op (f_box F (At.nil w) rfl rfl rfl (F.g rfl) rfl rfl fun b1 _ w1 F S1=>?_)
 refine l_op (f_box F S1.at' rfl rfl rfl (F.g rfl) rfl rfl fun b3 _ w3 F S3=>?_)
 refine zr fun _ F=>?_
 refine zl F S3.at' 1 fun _ F=>?_
 refine zl F S3.at' 0 fun _ F=>?_
 refine zz F (laws_eqStringS_c (a:=a.reads) (b:=b.reads) (Rd.mq V_v_a_reads (S1.trans S3)) (Rd.mq V_v_b_reads (S1.trans S3)) (by rw [p0])) ?_
 rintro _ w10 ⟨rfl,m10⟩
 refine zt fun _ F=>?_
 have S10:=At.frame0 S3.at' m10
 clear m10
 refine zv F (r_not rfl (F.g rfl)) fun _ F=>?_
 refine zl F S10.at' 1 fun _ F=>?_
 refine zl F S10.at' 0 fun _ F=>?_
 refine zz F (laws_eqStringS_c (a:=a.writes) (b:=b.writes) (Rd.mq V_v_a_writes (S1.trans (S3.trans S10))) (Rd.mq V_v_b_writes (S1.trans (S3.trans S10))) (by rw [p0])) ?_
 rintro _ w17 ⟨rfl,m17⟩
 refine zt fun _ F=>?_
 have S17:=At.frame0 S10.at' m17
 clear m17
 refine zv F (r_not rfl (F.g rfl)) fun _ F=>?_
 have T20:Mv _ _ [bx _ [_,_] _,bx _ [_,_] _] _:=S17
 refine x_done F (results_1 rfl (zta F)) ?_
 exact ⟨rfl,(Mv.pick (S1.trans (S3.trans (S10.trans T20))) [] rfl)⟩
end Go.Proofs.YtipdbeklopjbmaaGreatDoor
