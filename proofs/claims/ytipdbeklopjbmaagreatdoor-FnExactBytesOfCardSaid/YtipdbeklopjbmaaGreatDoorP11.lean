/-
  Texts laid together: GenF, GenP.
-/
import Derived.Test.YtipdbeklopjbmaaGreatDoorGenE
import Derived.Test.YtipdbeklopjbmaaGreatDoorP04
set_option linter.unusedVariables false
set_option linter.unusedSimpArgs false
namespace Go.Proofs.YtipdbeklopjbmaaGreatDoor
open Go.ChangeShapes Go.WideShapes Go.ChangeAt Go.RowKit
set_option maxRecDepth 100000
set_option maxHeartbeats 1000000
theorem internal_stringslite_HasPrefix_c {w:World} {H:Nat→Prop} {s:ByteArray} {pfx:ByteArray} (h_s:okS s) (Q0:okS pfx) :
 Calls Tryz.prog 383 #[.string s,.string pfx] w fun e w'=>e=.returned (.bool (begins s pfx))∧Mv [] w [] w':=by
 refine ze fun _ F=>?_
 refine zc F (s.size ≥ pfx.size) fun _ F=>?_
 rcases Decidable.em (s.size ≥ pfx.size) with h8|h8
 ·rw [decide_eq_true h8] at F
  refine zr fun _ F=>?_
  refine zv F (r_sliceS (l:=0) (h:=pfx.size) Tryz.underlying9 rfl (F.g rfl) rfl (F.g rfl) zIa zIa rfl) fun _ F=>?_
  refine zv F (r_cmps (b:=(decide ((s.extract 0 pfx.size)=pfx))) (.inl rfl) rfl (F.g rfl) (F.g rfl) rfl) fun _ F=>?_
  refine x_done F (results_1 rfl (zta F)) ?_
  exact ⟨(zV1 (zVb (by unfold begins;by_cases hb:pfx.size≤s.size <;> simp_all <;> omega))),(Mv.pick (Mv.refl (At.nil w)) [] rfl)⟩
 ·rw [decide_eq_false h8] at F
  refine zr fun _ F=>?_
  refine x_done F (results_1 rfl (zta F)) ?_
  exact ⟨(zV1 (zVb (by unfold begins;by_cases hb:pfx.size≤s.size <;> simp_all <;> omega))),(Mv.pick (Mv.refl (At.nil w)) [] rfl)⟩
theorem strings_HasPrefix_c {w:World} {H:Nat→Prop} {s:ByteArray} {pfx:ByteArray} (h_s:okS s) (Q0:okS pfx) :
 Calls Tryz.prog 377 #[.string s,.string pfx] w fun e w'=>e=.returned (.bool (begins s pfx))∧Mv [] w [] w':=by
 refine ze fun _ F=>?_
 refine zz F (internal_stringslite_HasPrefix_c (H:=fun _=>True) (s:=s) (pfx:=pfx) h_s Q0) ?_
 rintro _ w4 ⟨rfl,m4⟩
 refine zt fun _ F=>?_
 have S4:=At.frame0 (At.nil w) m4
 clear m4
 refine x_done F (results_1 rfl (zta F)) ?_
 exact ⟨rfl,(Mv.pick S4 [] rfl)⟩
theorem impl_KeysUnder_c {w:World} {H:Nat→Prop} {s:List CellD} {s_a:Option Addr} {s_n s_c:Nat} {pfx:ByteArray} (v_s:Rd 2 encC okC H w (.slice s_a s_n s_c) s) (Q0:okS pfx) (p0:s_n≤1099511627776) :
 Calls Tryz.prog 360 #[.slice s_a s_n s_c,.string pfx] w fun e w'=>∃ (r0_a:Option Addr),∃ (r0_n:Nat),∃ (r0_c:Nat),e=.returned (.slice r0_a r0_n r0_c)∧Mv [] w [ow 9 1 encS okS (.slice r0_a r0_n r0_c) (keysUnder s pfx)] w':=by
 have V_v_s:=Rd.start v_s zN
 obtain ⟨ln_s,le_s,mx_s,ni_s⟩:=Rd.inv v_s
 refine ze fun _ F=>?_
 have S7:Mv [] w [ow 9 1 encS okS (.slice none 0 0) ([]:List ByteArray)] w:=mv_nil (At.nil w)
 refine x_lp (fun (k:Nat) aZ wZ=>∃ (oa:Option Addr),∃ (on:Nat),∃ (oc:Nat),Fr 25 [(10,.int .i64 ((k:Nat):Int)),(9,.int .i64 ((s_n:Nat):Int)),(8,.slice s_a s_n s_c),(5,.slice oa on oc),(1,.string pfx)] aZ∧Mv [ow 9 1 encS okS (.slice none 0 0) ([]:List ByteArray)] w [ow 9 1 encS okS (.slice oa on oc) (keysUnder (s.take k) pfx)] wZ∧(k≤s_n)) (fun (k:Nat)=>s_n - k) (0) ?_ ?_
 ·exact ⟨none,0,0,F.cut rfl,(Mv.refl S7.at'),by omega⟩
 ·rintro k a6 w6 ⟨oa,on,oc,F,S6,hk_0⟩
  refine zr fun _ F=>?_
  refine zc F (k < s_n) fun _ F=>?_
  refine zi F (fun h9=>?_) fun h9=>?_
  ·refine zr fun _ F=>?_
   obtain ⟨B10,O10,x1,ad10,hx1,okx1,ln10,cl10⟩:=Rd.at (Rd.mq V_v_s (S7.trans S6)) k zIa
   clear ln10
   refine zv F (r_indexAddr (i:=k) ET_28 rfl ((F.ev 8 rfl).trans (by rw [ad10])) (F.g rfl) (by omega) zIa) fun _ F=>?_
   refine zv (v:=.agg #[.string x1.key,.string x1.val]) F (r_load (cs:=[.string x1.key,.string x1.val]) TI_91 rfl (F.g rfl) rfl (fun h=>nomatch h) (elem_sub (f:=0) cl10 [.string x1.key,.string x1.val] rfl)) fun _ F=>?_
   refine l_op (f_alloc F S6.at' ZI_91 rfl rfl rfl rfl rfl fun b13 _ w13 F S13=>?_)
   refine l_op (s_store S13.at' 0 TI_91 rfl rfl rfl rfl rfl (F.g rfl) (F.g rfl) rfl rfl rfl rfl rfl fun w15 S15=>?_)
   have T16:Mv _ _ [bx _ [_,_] _,_] _:=S15
   refine zr fun _ F=>?_
   refine zl F T16.at' 0 fun _ F=>?_
   refine zz F (strings_HasPrefix_c (H:=fun _=>True) (s:=x1.key) (pfx:=pfx) okx1.1 Q0) ?_
   rintro _ w20 ⟨rfl,m20⟩
   refine zt fun _ F=>?_
   have S20:=At.frame0 T16.at' m20
   clear m20
   refine zib F (fun h22=>?_) fun h22=>?_
   ·refine zr fun _ F=>?_
    refine zl F S20.at' 0 fun _ F=>?_
    refine l_op (f_buildSl (ok:=okS) (vs:=[.string x1.key]) F S20.at' ([x1.key]) ET_44 rfl rfl rfl rfl rfl rfl (lc (pr2 (F.g rfl)) rfl) rfl rfl (fun x hx=>(List.mem_singleton.1 hx) ▸ okx1.1) fun b26 _ w26 F S26=>?_)
    refine l_op (f_app (news:=[x1.key]) F S26.at' 2 ET_44 rfl rfl rfl rfl rfl rfl (F.g rfl) (F.g rfl) ((At.rd S26.at' ET_44.hk 0 rfl)).1 (by have:=keysUnder_take s pfx k;((repeat (first|rw [List.length_append]|rw [List.length_cons]|rw [List.length_nil]|rw [List.length_take]|rw [List.length_drop])) <;> omega)) fun A28 N28 C28 _ w28 F S28 l28=>?_)
    have S30:=At.drop S28.at' 1
    refine zr fun _ F=>?_
    have T32:Mv _ _ [_,bx _ [_,_] _] _:=S30
    refine zq F ((k+1:Nat):Int) fun _ F=>?_
    exact ⟨k+1,zD,A28,N28,C28,F.cut rfl,(Mv.cast ((S6.trans (S13.trans (T16.trans (S20.trans (S26.trans (S28.trans T32)))))).pick [0] rfl) (by (rw [keysUnder_step hx1];first|rw [if_pos ‹_›]|rw [if_neg (ne_true_of_eq_false ‹_›),List.append_nil]);all_goals rfl)),by omega⟩
   ·refine zr fun _ F=>?_
    refine zq F ((k+1:Nat):Int) fun _ F=>?_
    exact ⟨k+1,zD,oa,on,oc,F.cut rfl,(Mv.cast ((S6.trans (S13.trans (T16.trans S20))).pick [1] rfl) (by (rw [keysUnder_step hx1];first|rw [if_pos ‹_›]|rw [if_neg (ne_true_of_eq_false ‹_›),List.append_nil]);all_goals rfl)),by omega⟩
  ·refine zr fun _ F=>?_
   refine x_done F (results_1 rfl (zta F)) ?_
   exact ⟨oa,on,oc,rfl,(Mv.cast (Mv.pick (S7.trans S6) [0] rfl) (lc (zOw (by rw [List.take_of_length_le (by omega)])) rfl))⟩
theorem spec_l04Under_c {w:World} {H:Nat→Prop} {m:MachD} {m_Sa:Option Addr} {m_Sn m_Sc:Nat} {m_Ra:Option Addr} {m_Rn m_Rc:Nat} {m_Wa:Option Addr} {m_Wn m_Wc:Nat} {pfx:ByteArray} (Q16:Rd 2 encC okC H w (.slice m_Sa m_Sn m_Sc) m.store) (Q17:Rd 1 encS okS H w (.slice m_Ra m_Rn m_Rc) m.touch.reads) (Q18:Rd 1 encS okS H w (.slice m_Wa m_Wn m_Wc) m.touch.writes) (Q21:okS pfx) (p0:m.store.length≤274877906944) (p1:m.touch.reads.length≤274877906944) (p2:pfx.size≤4611686018427387904) :
 Calls Tryz.prog 296 #[.agg #[.slice m_Sa m_Sn m_Sc,.slice m_Ra m_Rn m_Rc,.slice m_Wa m_Wn m_Wc],.string pfx] w fun e w'=>∃ (Q10:Option Addr),∃ (Q12:Nat),∃ (Q11:Nat),∃ (Q7:Option Addr),∃ (Q9:Nat),∃ (Q8:Nat),∃ (Q13:Option Addr),∃ (Q15:Nat),∃ (Q14:Nat),∃ (r1_a:Option Addr),∃ (r1_n:Nat),∃ (r1_c:Nat),e=.returned (.tuple #[.agg #[.slice Q10 Q12 Q11,.slice Q7 Q9 Q8,.slice Q13 Q15 Q14],.slice r1_a r1_n r1_c])∧Mv [] w [ow 9 1 encS okS (.slice r1_a r1_n r1_c) (keysUnder m.store pfx)] w'∧Rd 2 encC okC (V (HP H []) w [ow 9 1 encS okS (.slice r1_a r1_n r1_c) (keysUnder m.store pfx)]) w' (.slice Q10 Q12 Q11) (lookM m (pfx++bT_)).store∧Rd 1 encS okS (V (HP H []) w [ow 9 1 encS okS (.slice r1_a r1_n r1_c) (keysUnder m.store pfx)]) w' (.slice Q7 Q9 Q8) (lookM m (pfx++bT_)).touch.reads∧Rd 1 encS okS (V (HP H []) w [ow 9 1 encS okS (.slice r1_a r1_n r1_c) (keysUnder m.store pfx)]) w' (.slice Q13 Q15 Q14) (lookM m (pfx++bT_)).touch.writes:=by
 have Q6:Rd 2 encC okC (V (HP H []) w []) w (.slice m_Sa m_Sn m_Sc) m.store:=Rd.startP Q16 (fun _ _=>fps_nil _)
 obtain ⟨Q25,Q22,Q34,Q37⟩:=Rd.inv Q16
 have Q19:Rd 1 encS okS (V (HP H []) w []) w (.slice m_Ra m_Rn m_Rc) m.touch.reads:=Rd.startP Q17 (fun _ _=>fps_nil _)
 obtain ⟨Q26,Q23,Q35,Q38⟩:=Rd.inv Q17
 have Q20:Rd 1 encS okS (V (HP H []) w []) w (.slice m_Wa m_Wn m_Wc) m.touch.writes:=Rd.startP Q18 (fun _ _=>fps_nil _)
 obtain ⟨Q27,Q24,Q36,Q39⟩:=Rd.inv Q18
 refine ze fun _ F=>?_
 refine l_op (f_box F (At.nil w) rfl rfl rfl (F.g rfl) rfl rfl fun b1 _ w1 F S1=>?_)
 refine l_op (f_alloc F S1.at' ZI_210 rfl rfl rfl rfl rfl fun b3 _ w3 F S3=>?_)
 refine zr fun _ F=>?_
 refine zl F S3.at' 1 fun _ F=>?_
 have k10:pfx.size+bT_.size≤9223372036854775807:=by have:bT_.size=1:=rfl;omega
 refine zv F (r_cat rfl (F.g rfl) rfl k10) fun _ F=>?_
 refine zz F (spec_AddSpan_c (list:=m.touch.reads) (span:=pfx++bT_) (Rd.mq Q19 (S1.trans S3)) (okS_cat k10) zI8) ?_
 rintro _ w12 ⟨Q0,Q4,Q2,rfl,m12,v12_0⟩
 refine zt fun _ F=>?_
 have S12:=At.frame0 S3.at' m12
 have V12_0:=Rd.got0 S3.at' ((S1.trans S3).kp.size) v12_0 S12
 obtain ⟨ln12_0,le12_0,mx12_0,ni12_0⟩:=Rd.inv V12_0
 clear m12 v12_0
 refine l_op (s_store S12.at' 1 TI_44 rfl rfl rfl rfl rfl (F.g rfl) (F.g rfl) rfl rfl rfl rfl rfl fun w16 S16=>?_)
 have T17:Mv _ _ [bx _ [_,_,_] _,bx _ [_,_,_] _] _:=S16
 refine zr fun _ F=>?_
 refine x_draw (fun aZ wZ=>∃ (Q1:Option Addr),∃ (Q5:Nat),∃ (Q3:Nat),Fr 19 [(4,.pointer (some ⟨b3,0,none⟩)),(5,.slice Q1 Q5 Q3)] aZ∧Mv [bx b1 [.slice m_Sa m_Sn m_Sc,.slice Q0 Q4 Q2,.slice m_Wa m_Wn m_Wc] 210,bx b3 [.slice none 0 0,.slice none 0 0,.slice none 0 0] 210] w16 [bx b1 [.slice m_Sa m_Sn m_Sc,.slice Q0 Q4 Q2,.slice m_Wa m_Wn m_Wc] 210,bx b3 [.slice m_Sa m_Sn m_Sc,.slice Q0 Q4 Q2,.slice m_Wa m_Wn m_Wc] 210,ow 9 1 encS okS (.slice Q1 Q5 Q3) (keysUnder m.store pfx)] wZ) [bx b1 [.slice m_Sa m_Sn m_Sc,.slice Q0 Q4 Q2,.slice m_Wa m_Wn m_Wc] 210] mixed T17.at' (listed:=#[false,false,false,false,false,false,false]) rfl (fun w19 S19=>?_) [0] rfl ?_
 ·refine g_take (v:=.agg #[.slice m_Sa m_Sn m_Sc,.slice Q0 Q4 Q2,.slice m_Wa m_Wn m_Wc]) F rfl (i:=0) (listed':=#[true,false,false,false,false,false,false]) rfl (by kernel_rfl) (by kernel_rfl) (by kernel_rfl) (fun _ _ _ h=>h) (Sd.of (Mv.refl S19.at') [0] rfl) rfl rfl rfl rfl (fun _ hz=>(r_loadX (hz.bx 0 rfl) TI_210 rfl (F.g rfl) rfl rfl (fun h=>nomatch h) rfl)) fun _ F=>?_
  refine g_take F rfl (i:=1) (listed':=#[true,true,false,false,false,false,false]) rfl (by kernel_rfl) (by kernel_rfl) (by kernel_rfl) (fun _ _ _ h=>h) (Sd.of (Mv.refl S19.at') [0] rfl) rfl rfl rfl rfl (fun _ hz=>(r_field FI_210_0 rfl (F.g rfl) rfl)) fun _ F=>?_
  refine g_take (v:=.slice m_Sa m_Sn m_Sc) F rfl (i:=2) (listed':=#[true,true,true,false,false,false,false]) rfl (by kernel_rfl) (by kernel_rfl) (by kernel_rfl) (fun _ _ _ h=>h) (Sd.of (Mv.refl S19.at') [0] rfl) rfl rfl rfl rfl (fun _ hz=>(r_loadX (hz.bx 0 rfl) TI_28 rfl (F.g rfl) rfl rfl (fun _=>rfl) rfl)) fun _ F=>?_
  refine g_take F rfl (i:=3) (listed':=#[true,true,true,true,false,false,false]) rfl (by kernel_rfl) (by kernel_rfl) (by kernel_rfl) (fun _ _ _ h=>h) (Sd.of (Mv.refl S19.at') [0] rfl) rfl rfl rfl rfl (fun _ hz=>(r_move rfl (F.g rfl))) fun _ F=>?_
  refine d_one (i:=4) (listed':=#[true,true,true,true,true,false,false]) rfl (by kernel_rfl) rfl rfl ?_
  refine f_call F CF_348 rfl rfl rfl rfl (lc (F.g rfl) (lc (F.g rfl) rfl)) (spec_KeysUnder_c (s:=m.store) (pfx:=pfx) (Rd.mq Q6 (S1.trans (S3.trans (S12.trans (T17.trans S19))))) Q21 zI8) ?_
  rintro _ w24 ⟨Q1,Q5,Q3,rfl,m24⟩
  refine ⟨_,rfl,fun _ F=>?_⟩
  have S24:Mv _ _ [_,bx _ [_,_,_] _,bx _ [_,_,_] _] _:=At.frame S19.at' [] rfl m24
  obtain ⟨Q28,Q30,Q32⟩:=At.ownInv S24.at' ET_44.hk 0 rfl
  clear m24
  refine ⟨Sd.of S24 [1] rfl,?_⟩
  refine d_one (i:=5) (listed':=#[true,true,true,true,true,true,false]) rfl (by kernel_rfl) rfl rfl ?_
  refine s_store S24.at' 2 TI_210 rfl rfl rfl rfl rfl (F.g rfl) (F.g rfl) rfl rfl rfl rfl rfl fun w26 S26=>?_
  refine ⟨Sd.of (S24.trans S26) [2] rfl,?_⟩
  refine g_take F rfl (i:=6) (listed':=#[true,true,true,true,true,true,true]) rfl (by kernel_rfl) (by kernel_rfl) (by kernel_rfl) (fun _ _ _ h=>h) (Sd.of (S24.trans S26) [2] rfl) rfl rfl rfl rfl (fun _ hz=>(r_assign rfl (F.g rfl))) fun _ F=>?_
  refine wpAnyH_done (by kernel_rfl) (x_normal ?_) _
  exact ⟨Q1,Q5,Q3,F.cut rfl,((S19.trans (S24.trans S26)).pick [2,0,1] rfl)⟩
 ·rintro a28 w28 ⟨Q1,Q5,Q3,F,S28⟩
  obtain ⟨Q29,Q31,Q33⟩:=At.ownInv S28.at' ET_44.hk 2 rfl
  refine zr fun _ F=>?_
  refine x_done F (results_2 rfl (zca F S28.at' 1) (zta F)) ?_
  exact ⟨m_Sa,m_Sn,m_Sc,Q0,Q4,Q2,m_Wa,m_Wn,m_Wc,Q1,Q5,Q3,rfl,(Mv.pick (S1.trans (S3.trans (S12.trans (T17.trans S28)))) [2] rfl),(Rd.cast (Rd.mq (Rd.mq Q6 (S1.trans (S3.trans (S12.trans (T17.trans S28))))) (Mv.pick (Mv.refl S28.at') [2] rfl)) (by rfl)),(Rd.cast (Rd.mq (Rd.mq V12_0 (T17.trans S28)) (Mv.pick (Mv.refl S28.at') [2] rfl)) (by rfl)),(Rd.cast (Rd.mq (Rd.mq Q20 (S1.trans (S3.trans (S12.trans (T17.trans S28))))) (Mv.pick (Mv.refl S28.at') [2] rfl)) (by rfl))⟩
theorem impl_Mach_under_c {w:World} {H:Nat→Prop} {m:MachD} {m_Sa:Option Addr} {m_Sn m_Sc:Nat} {m_Ra:Option Addr} {m_Rn m_Rc:Nat} {m_Wa:Option Addr} {m_Wn m_Wc:Nat} {m_b:Nat} {pfx:ByteArray} (Q9:okS pfx) (p0:m.store.length≤274877906944) (p1:m.touch.reads.length≤274877906944) (p2:pfx.size≤4611686018427387904) (hA:At w [bx m_b [.slice m_Sa m_Sn m_Sc,.slice m_Ra m_Rn m_Rc,.slice m_Wa m_Wn m_Wc] 210,ow 91 2 encC okC (.slice m_Sa m_Sn m_Sc) m.store,ow 9 1 encS okS (.slice m_Ra m_Rn m_Rc) m.touch.reads,ow 9 1 encS okS (.slice m_Wa m_Wn m_Wc) m.touch.writes]) :
 Calls Tryz.prog 327 #[.pointer (some ⟨m_b,0,none⟩),.string pfx] w fun e w'=>∃ (r0_a:Option Addr),∃ (r0_n:Nat),∃ (r0_c:Nat),∃ (Q3:Option Addr),∃ (Q5:Nat),∃ (Q4:Nat),∃ (Q0:Option Addr),∃ (Q2:Nat),∃ (Q1:Nat),∃ (Q6:Option Addr),∃ (Q8:Nat),∃ (Q7:Nat),e=.returned (.slice r0_a r0_n r0_c)∧Mv [bx m_b [.slice m_Sa m_Sn m_Sc,.slice m_Ra m_Rn m_Rc,.slice m_Wa m_Wn m_Wc] 210,ow 91 2 encC okC (.slice m_Sa m_Sn m_Sc) m.store,ow 9 1 encS okS (.slice m_Ra m_Rn m_Rc) m.touch.reads,ow 9 1 encS okS (.slice m_Wa m_Wn m_Wc) m.touch.writes] w [ow 9 1 encS okS (.slice r0_a r0_n r0_c) (keysUnder m.store pfx),bx m_b [.slice Q3 Q5 Q4,.slice Q0 Q2 Q1,.slice Q6 Q8 Q7] 210,ow 91 2 encC okC (.slice Q3 Q5 Q4) (lookM m (pfx++bT_)).store,ow 9 1 encS okS (.slice Q0 Q2 Q1) (lookM m (pfx++bT_)).touch.reads,ow 9 1 encS okS (.slice Q6 Q8 Q7) (lookM m (pfx++bT_)).touch.writes] w':=by
 obtain ⟨lo1,lp1,lq1⟩:=At.ownInv hA ET_28.hk 1 rfl
 obtain ⟨lo2,lp2,lq2⟩:=At.ownInv hA ET_44.hk 2 rfl
 obtain ⟨lo3,lp3,lq3⟩:=At.ownInv hA ET_44.hk 3 rfl
 refine ze fun _ F=>?_
 refine zv F (r_nilCheck rfl (F.g rfl)) fun _ F=>?_
 refine zl F hA 0 fun _ F=>?_
 have k9:pfx.size+bT_.size≤9223372036854775807:=by have:bT_.size=1:=rfl;omega
 refine zv F (r_cat rfl (F.g rfl) rfl k9) fun _ F=>?_
 refine zz F (impl_addSpan_c (H:=fun _=>True) (list:=m.touch.reads) (span:=pfx++bT_) (okS_cat k9) zI8 (At.pick (is:=[2]) hA rfl)) ?_
 rintro _ w11 ⟨Q10,Q14,Q12,rfl,m11⟩
 refine zt fun _ F=>?_
 have S11:Mv _ _ [_,bx _ [_,_,_] _,_,_] _:=At.frame hA [2] rfl m11
 obtain ⟨Q16,Q18,Q20⟩:=At.ownInv S11.at' ET_44.hk 0 rfl
 clear m11
 refine zv F (r_nilCheck rfl (F.g rfl)) fun _ F=>?_
 refine l_op (s_store S11.at' 1 TI_44 rfl rfl rfl rfl rfl (F.g rfl) (F.g rfl) rfl rfl rfl rfl rfl fun w16 S16=>?_)
 refine zr fun _ F=>?_
 refine zv F (r_nilCheck rfl (F.g rfl)) fun _ F=>?_
 refine zl F S16.at' 0 fun _ F=>?_
 refine zz F (impl_KeysUnder_c (H:=fun _=>True) (s:=m.store) (pfx:=pfx) (At.rd S16.at' ET_28.hk 2 rfl) Q9 zI8) ?_
 rintro _ w22 ⟨Q11,Q15,Q13,rfl,m22⟩
 refine zt fun _ F=>?_
 have S22:Mv _ _ [_,bx _ [_,_,_] _,_,_,_] _:=At.frame S16.at' [] rfl m22
 obtain ⟨Q17,Q19,Q21⟩:=At.ownInv S22.at' ET_44.hk 0 rfl
 clear m22
 refine x_done F (results_1 rfl (zta F)) ?_
 exact ⟨Q11,Q15,Q13,m_Sa,m_Sn,m_Sc,Q10,Q14,Q12,m_Wa,m_Wn,m_Wc,rfl,(Mv.cast (Mv.pick (S11.trans (S16.trans S22)) [0,1,3,2,4] rfl) rfl)⟩
theorem slices_Insert_Simpl_Cell_impl_Cell_c {w:World} {H:Nat→Prop} {s:List CellD} {s_a:Option Addr} {s_n s_c:Nat} {i:Int} {v_b:Nat} {v:CellD} (h_i:i64ok i) (p0:0≤i) (p1:i≤s.length) (p2:s.length≤549755813888) (hA:At w [ow 91 2 encC okC (.slice s_a s_n s_c) s,ow 91 2 encC okC (.slice (some ⟨v_b,0,none⟩) 1 1) ([v])]) :
 Calls Tryz.prog 102 #[.slice s_a s_n s_c,.int .i64 i,.slice (some ⟨v_b,0,none⟩) 1 1] w fun e w'=>∃ (r0_a:Option Addr),∃ (r0_n:Nat),∃ (r0_c:Nat),e=.returned (.slice r0_a r0_n r0_c)∧Mv [ow 91 2 encC okC (.slice s_a s_n s_c) s,ow 91 2 encC okC (.slice (some ⟨v_b,0,none⟩) 1 1) ([v])] w [ow 91 2 encC okC (.slice r0_a r0_n r0_c) (insAt s i.toNat v)] w':=by
 have hO:=hA.ok _ (List.mem_cons_self ..)
 have hO2:=hA.ok _ (List.mem_cons_of_mem _ (List.mem_cons_self ..))
 obtain ⟨hv,hv2⟩:=own_lit cellT.hk hO2
 have hl:s.length=s_n:=by obtain ⟨_,_,e,_⟩:=(Own.rd cellT.hk hO).inv;cases e;rfl
 obtain ⟨j,rfl⟩:=Int.eq_ofNat_of_zero_le p0
 refine (insertCells_c _ j v v_b w s hO (by omega) (by omega) hv2 hv (fun b hb e=>?_)).mono ?_
 ·subst e
  exact hA.apartAt (i:=0) (j:=1) rfl rfl (by decide) b (show Value.ownBlock _=some b by simpa using hb) rfl
 ·rintro e w' ⟨v',rfl,h1,h2,h3⟩
  have hm:Mv _ w _ w':=hA.frame [0] rfl (mv_of_own h1 h2 h3)
  obtain ⟨r0_a,r0_n,r0_c,rfl⟩:∃ a n c,v'=.slice a n c:=by obtain ⟨a,c,e,_⟩:=(Own.rd cellT.hk h1).inv;exact ⟨_,_,_,e⟩
  exact ⟨r0_a,r0_n,r0_c,rfl,hm.pick [0] rfl⟩
theorem spec_KeyOk_c {w:World} {H:Nat→Prop} {key:ByteArray} (Q0:okS key) :
 Calls Tryz.prog 132 #[.string key] w fun e w'=>e=.returned (.bool (keyOk key))∧Mv [] w [] w':=by
 have kz:=Q0
 unfold okS at kz
 refine ze fun _ F=>?_
 refine x_lp (fun (k:Nat) aZ wZ=>Fr 25 [(3,.int .i64 ((k:Nat):Int)),(0,.string key)] aZ∧Mv [] w [] wZ∧(k≤key.size)∧(∀ j,j < k→kb (byteAt key j)=true)) (fun (k:Nat)=>key.size - k) (0) ?_ ?_
 ·exact ⟨F.cut rfl,(Mv.refl (At.nil w)),by omega,all_none⟩
 ·rintro k a3 w3 ⟨F,S3,hk_0,hk_1⟩
  refine zr fun _ F=>?_
  refine zc F (k < key.size) fun _ F=>?_
  refine zi F (fun h8=>?_) fun h8=>?_
  ·refine zr fun _ F=>?_
   refine zv F (r_indexS (i:=k) Tryz.underlying9 rfl (F.g rfl) (F.g rfl) (by omega) zIa) fun _ F=>?_
   refine zv F (r_convU8 Tryz.underlying3 Tryz.underlying5 rfl (F.g rfl) ⟨by omega,by first|omega|(have:=byteAt_lt key k;omega)⟩) fun _ F=>?_
   refine zz F (spec_l01In_c (H:=fun _=>True) (x:=((byteAt key k:Nat):Int)) (least:=33) (most:=126) (by have:=byteAt_lt key k;exact ⟨by omega,by omega⟩) zI7 zI7) ?_
   rintro _ w13 ⟨rfl,m13⟩
   refine zt fun _ F=>?_
   have S13:=At.frame0 S3.at' m13
   clear m13
   refine zv F (r_not rfl (F.g rfl)) fun _ F=>?_
   rcases Bool.eq_false_or_eq_true (!(inB ((byteAt key k:Nat):Int) 33 126)) with h17|h17
   ·rw [h17] at F
    refine zr fun _ F=>?_
    refine x_done F (results_1 rfl (zta F)) ?_
    exact ⟨(zV1 (zVb (by first|exact (keyOk_bad (j:=k) (by omega) (by rw [kb_in];simp_all)).symm|exact (keyOk_all (fun j hj=>hk_1 j (by omega))).symm))),(Mv.pick (S3.trans S13) [] rfl)⟩
   ·rw [h17] at F
    refine zr fun _ F=>?_
    refine zv F (r_indexS (i:=k) Tryz.underlying9 rfl (F.g rfl) (F.g rfl) (by omega) zIa) fun _ F=>?_
    refine zc F (byteAt key k=42) fun _ F=>?_
    refine zi F (fun h29=>?_) fun h29=>?_
    ·refine zr fun _ F=>?_
     refine x_done F (results_1 rfl (zta F)) ?_
     exact ⟨(zV1 (zVb (by first|exact (keyOk_bad (j:=k) (by omega) (by rw [kb_in];simp_all)).symm|exact (keyOk_all (fun j hj=>hk_1 j (by omega))).symm))),(Mv.pick (S3.trans S13) [] rfl)⟩
    ·refine zr fun _ F=>?_
     refine zq F ((k+1:Nat):Int) fun _ F=>?_
     exact ⟨k+1,zD,F.cut rfl,((S3.trans S13).pick [] rfl),by omega,all_step hk_1 (by rw [kb_in];simp_all)⟩
  ·refine zr fun _ F=>?_
   refine zz F (spec_l01In_c (H:=fun _=>True) (x:=((key.size:Nat):Int)) (least:=1) (most:=40) zI7 zI7 zI7) ?_
   rintro _ w36 ⟨rfl,m36⟩
   refine zt fun _ F=>?_
   have S36:=At.frame0 S3.at' m36
   clear m36
   refine x_done F (results_1 rfl (zta F)) ?_
   exact ⟨(zV1 (zVb (by first|exact (keyOk_bad (j:=k) (by omega) (by rw [kb_in];simp_all)).symm|exact (keyOk_all (fun j hj=>hk_1 j (by omega))).symm))),(Mv.pick (S3.trans S36) [] rfl)⟩
theorem impl_KeyOk_c {w:World} {H:Nat→Prop} {key:ByteArray} (Q0:okS key) :
 Calls Tryz.prog 97 #[.string key] w fun e w'=>e=.returned (.bool (keyOk key))∧Mv [] w [] w':=by
 have kz:=Q0
 unfold okS at kz
 refine ze fun _ F=>?_
 refine x_lp (fun (k:Nat) aZ wZ=>Fr 29 [(6,.int .i64 ((k:Nat):Int)),(5,.int .i64 ((key.size:Nat):Int)),(0,.string key)] aZ∧Mv [] w [] wZ∧(k≤key.size)∧(∀ j,j < k→kb (byteAt key j)=true)) (fun (k:Nat)=>key.size - k) (0) ?_ ?_
 ·exact ⟨F.cut rfl,(Mv.refl (At.nil w)),by omega,all_none⟩
 ·rintro k a5 w5 ⟨F,S5,hk_0,hk_1⟩
  refine zr fun _ F=>?_
  refine zc F (k < key.size) fun _ F=>?_
  refine zi F (fun h7=>?_) fun h7=>?_
  ·refine zr fun _ F=>?_
   refine zv F (r_indexS (i:=k) Tryz.underlying9 rfl (F.g rfl) (F.g rfl) (by omega) zIa) fun _ F=>?_
   refine zc F (byteAt key k < 33) fun _ F=>?_
   rcases Decidable.em (byteAt key k < 33) with h15|h15
   ·rw [decide_eq_true h15] at F
    refine zr fun _ F=>?_
    refine x_done F (results_1 rfl (zta F)) ?_
    exact ⟨(zV1 (zVb (by first|exact (keyOk_bad (j:=k) (by omega) (by unfold kb;exact decide_eq_false (by omega))).symm|exact (keyOk_all (fun j hj=>hk_1 j (by omega))).symm))),(Mv.pick S5 [] rfl)⟩
   ·rw [decide_eq_false h15] at F
    refine zr fun _ F=>?_
    refine zv F (r_indexS (i:=k) Tryz.underlying9 rfl (F.g rfl) (F.g rfl) (by omega) zIa) fun _ F=>?_
    refine zc F (byteAt key k > 126) fun _ F=>?_
    rcases Decidable.em (byteAt key k > 126) with h34|h34
    ·rw [decide_eq_true h34] at F
     refine zr fun _ F=>?_
     refine x_done F (results_1 rfl (zta F)) ?_
     exact ⟨(zV1 (zVb (by first|exact (keyOk_bad (j:=k) (by omega) (by unfold kb;exact decide_eq_false (by omega))).symm|exact (keyOk_all (fun j hj=>hk_1 j (by omega))).symm))),(Mv.pick S5 [] rfl)⟩
    ·rw [decide_eq_false h34] at F
     refine zr fun _ F=>?_
     refine zv F (r_indexS (i:=k) Tryz.underlying9 rfl (F.g rfl) (F.g rfl) (by omega) zIa) fun _ F=>?_
     refine zc F (byteAt key k=42) fun _ F=>?_
     refine zi F (fun h46=>?_) fun h46=>?_
     ·refine zr fun _ F=>?_
      refine x_done F (results_1 rfl (zta F)) ?_
      exact ⟨(zV1 (zVb (by first|exact (keyOk_bad (j:=k) (by omega) (by unfold kb;exact decide_eq_false (by omega))).symm|exact (keyOk_all (fun j hj=>hk_1 j (by omega))).symm))),(Mv.pick S5 [] rfl)⟩
     ·refine zr fun _ F=>?_
      refine zq F ((k+1:Nat):Int) fun _ F=>?_
      exact ⟨k+1,zD,F.cut rfl,(S5.pick [] rfl),by omega,all_step hk_1 (by unfold kb;exact decide_eq_true (by omega))⟩
  ·refine zr fun _ F=>?_
   refine zz F (impl_within_c (H:=fun _=>True) (n:=((key.size:Nat):Int)) (low:=1) (high:=40) zI7 zI7 zI7) ?_
   rintro _ w52 ⟨rfl,m52⟩
   refine zt fun _ F=>?_
   have S52:=At.frame0 S5.at' m52
   clear m52
   refine x_done F (results_1 rfl (zta F)) ?_
   exact ⟨(zV1 (zVb (by first|exact (keyOk_bad (j:=k) (by omega) (by unfold kb;exact decide_eq_false (by omega))).symm|exact (keyOk_all (fun j hj=>hk_1 j (by omega))).symm))),(Mv.pick (S5.trans S52) [] rfl)⟩
theorem impl_put_1_c {w:World} {H:Nat→Prop} {c:CellD} {key_b:Nat} {key:ByteArray} (Q0:okS c.key) (Q1:okS c.val) (Q2:okS key) (hA:At w [bx key_b [.string key] 9]) :
 Calls Tryz.prog 99 #[.agg #[.string c.key,.string c.val],.pointer (some ⟨key_b,0,none⟩)] w fun e w'=>e=.returned (.bool (decide (c.key=key)))∧Mv [bx key_b [.string key] 9] w [bx key_b [.string key] 9] w':=by
 refine ze fun _ F=>?_
 refine l_op (f_box F hA rfl rfl rfl (F.g rfl) rfl rfl fun b1 _ w1 F S1=>?_)
 refine zr fun _ F=>?_
 refine zl F S1.at' 0 fun _ F=>?_
 refine zl F S1.at' 1 fun _ F=>?_
 refine zv F (r_cmps (b:=(decide (c.key=key))) (.inl rfl) rfl (F.g rfl) (F.g rfl) rfl) fun _ F=>?_
 refine x_done F (results_1 rfl (zta F)) ?_
 exact ⟨rfl,(Mv.pick S1 [1] rfl)⟩
theorem impl_put_2_c {w:World} {H:Nat→Prop} {c:CellD} {key_b:Nat} {key:ByteArray} (Q0:okS c.key) (Q1:okS c.val) (Q2:okS key) (hA:At w [bx key_b [.string key] 9]) :
 Calls Tryz.prog 101 #[.agg #[.string c.key,.string c.val],.pointer (some ⟨key_b,0,none⟩)] w fun e w'=>e=.returned (.bool (!leS c.key key))∧Mv [bx key_b [.string key] 9] w [bx key_b [.string key] 9] w':=by
 refine ze fun _ F=>?_
 refine l_op (f_box F hA rfl rfl rfl (F.g rfl) rfl rfl fun b1 _ w1 F S1=>?_)
 refine zr fun _ F=>?_
 refine zl F S1.at' 0 fun _ F=>?_
 refine zl F S1.at' 1 fun _ F=>?_
 refine zv F (r_cmps (b:=(!leS c.key key)) (.inr (.inr (.inr (.inr (.inl rfl))))) rfl (F.g rfl) (F.g rfl) rfl) fun _ F=>?_
 refine x_done F (results_1 rfl (zta F)) ?_
 exact ⟨rfl,(Mv.pick S1 [1] rfl)⟩
theorem IndexFunc_impl_put_1_c {w:World} {H:Nat→Prop} {s:List CellD} {s_a:Option Addr} {s_n s_c:Nat} {f_b:Nat} {f:ByteArray} (v_s:Rd 2 encC okC H w (.slice s_a s_n s_c) s) (h_f:okS f) (hA:At w [bx f_b [.string f] 9]) (hD:∀ b,H b→¬ fps [bx f_b [.string f] 9] b) :
 Calls Tryz.prog 100 #[.slice s_a s_n s_c,.func (.func 99) #[] #[.pointer (some ⟨f_b,0,none⟩)]] w fun e w'=>e=.returned (.int .i64 (idxP (fun c:CellD=>decide (c.key=f)) s))∧Mv [bx f_b [.string f] 9] w [bx f_b [.string f] 9] w'∧i64ok (idxP (fun c:CellD=>decide (c.key=f)) s):=by
 have V_v_s:=Rd.start v_s hD
 obtain ⟨ln_s,le_s,mx_s,ni_s⟩:=Rd.inv v_s
 refine ze fun _ F=>?_
 refine x_lp (fun (k:Nat) aZ wZ=>Fr 19 [(8,.int .i64 ((k:Nat):Int)),(7,.int .i64 ((s_n:Nat):Int)),(0,.slice s_a s_n s_c),(1,.func (.func 99) #[] #[.pointer (some ⟨f_b,0,none⟩)])] aZ∧Mv [bx f_b [.string f] 9] w [bx f_b [.string f] 9] wZ∧(k≤s_n)∧(∀ j,j < k→∀ c,nth s j=some c→(decide (c.key=f))=false)) (fun (k:Nat)=>s_n - k) (0) ?_ ?_
 ·exact ⟨F.cut rfl,(Mv.refl hA),by omega,all_none⟩
 ·rintro k a5 w5 ⟨F,S5,hk_0,hk_1⟩
  refine zr fun _ F=>?_
  refine zc F (k < s_n) fun _ F=>?_
  refine zi F (fun h7=>?_) fun h7=>?_
  ·refine zr fun _ F=>?_
   obtain ⟨B13,O13,x1,ad13,hx1,okx1,ln13,cl13⟩:=Rd.at (Rd.mq V_v_s S5) k zIa
   clear ln13
   refine zv F (r_indexAddr (i:=k) ET_28 rfl ((F.ev 12 rfl).trans (by rw [ad13])) (F.g rfl) (by omega) zIa) fun _ F=>?_
   refine zv (v:=.agg #[.string x1.key,.string x1.val]) F (r_load (cs:=[.string x1.key,.string x1.val]) TI_91 rfl (F.g rfl) rfl (fun h=>nomatch h) (elem_sub (f:=0) cl13 [.string x1.key,.string x1.val] rfl)) fun _ F=>?_
   refine l_op (f_callv F CF_99 rfl rfl rfl rfl (F.g rfl) (lc (F.g rfl) rfl) (impl_put_1_c (H:=fun _=>True) (c:=x1) (key:=f) okx1.1 okx1.2 h_f (At.pick (is:=[0]) S5.at' rfl)) ?_)
   rintro _ w16 ⟨rfl,m16⟩
   refine ⟨_,rfl,fun _ F=>?_⟩
   have S16:Mv _ _ [_] _:=At.frame S5.at' [0] rfl m16
   clear m16
   refine zr fun _ F=>?_
   refine zib F (fun h18=>?_) fun h18=>?_
   ·refine zr fun _ F=>?_
    refine x_done F (results_1 rfl (zta F)) ?_
    exact ⟨(zV1 (zVi (by exact (idxP_found _ s k _ (by rw [← nth_eq];exact hx1) (by first|assumption|exact decide_eq_true ‹_›) (fun q hq y hy=>hk_1 q hq y (by rw [nth_eq];exact hy))).symm))),(Mv.pick (S5.trans S16) [0] rfl),idxP_ok _ s (by omega)⟩
   ·refine zr fun _ F=>?_
    refine zq F ((k+1:Nat):Int) fun _ F=>?_
    exact ⟨k+1,zD,F.cut rfl,((S5.trans S16).pick [0] rfl),by omega,all_step hk_1 (fun c hc=>by obtain rfl:=Option.some.inj (hx1.symm.trans hc);first|assumption|exact decide_eq_false ‹_›)⟩
  ·refine zr fun _ F=>?_
   refine x_done F (results_1 rfl (zta F)) ?_
   exact ⟨(zV1 (zVi (by exact (idxP_none _ s (fun q hq y hy=>hk_1 q (by omega) y (by rw [nth_eq];exact hy))).symm))),(Mv.pick S5 [0] rfl),idxP_ok _ s (by omega)⟩
theorem IndexFunc_impl_put_2_c {w:World} {H:Nat→Prop} {s:List CellD} {s_a:Option Addr} {s_n s_c:Nat} {f_b:Nat} {f:ByteArray} (v_s:Rd 2 encC okC H w (.slice s_a s_n s_c) s) (h_f:okS f) (hA:At w [bx f_b [.string f] 9]) (hD:∀ b,H b→¬ fps [bx f_b [.string f] 9] b) :
 Calls Tryz.prog 100 #[.slice s_a s_n s_c,.func (.func 101) #[] #[.pointer (some ⟨f_b,0,none⟩)]] w fun e w'=>e=.returned (.int .i64 (idxP (fun c:CellD=>!leS c.key f) s))∧Mv [bx f_b [.string f] 9] w [bx f_b [.string f] 9] w'∧i64ok (idxP (fun c:CellD=>!leS c.key f) s):=by
 have V_v_s:=Rd.start v_s hD
 obtain ⟨ln_s,le_s,mx_s,ni_s⟩:=Rd.inv v_s
 refine ze fun _ F=>?_
 refine x_lp (fun (k:Nat) aZ wZ=>Fr 19 [(8,.int .i64 ((k:Nat):Int)),(7,.int .i64 ((s_n:Nat):Int)),(0,.slice s_a s_n s_c),(1,.func (.func 101) #[] #[.pointer (some ⟨f_b,0,none⟩)])] aZ∧Mv [bx f_b [.string f] 9] w [bx f_b [.string f] 9] wZ∧(k≤s_n)∧(∀ j,j < k→∀ c,nth s j=some c→(!leS c.key f)=false)) (fun (k:Nat)=>s_n - k) (0) ?_ ?_
 ·exact ⟨F.cut rfl,(Mv.refl hA),by omega,all_none⟩
 ·rintro k a5 w5 ⟨F,S5,hk_0,hk_1⟩
  refine zr fun _ F=>?_
  refine zc F (k < s_n) fun _ F=>?_
  refine zi F (fun h7=>?_) fun h7=>?_
  ·refine zr fun _ F=>?_
   obtain ⟨B13,O13,x1,ad13,hx1,okx1,ln13,cl13⟩:=Rd.at (Rd.mq V_v_s S5) k zIa
   clear ln13
   refine zv F (r_indexAddr (i:=k) ET_28 rfl ((F.ev 12 rfl).trans (by rw [ad13])) (F.g rfl) (by omega) zIa) fun _ F=>?_
   refine zv (v:=.agg #[.string x1.key,.string x1.val]) F (r_load (cs:=[.string x1.key,.string x1.val]) TI_91 rfl (F.g rfl) rfl (fun h=>nomatch h) (elem_sub (f:=0) cl13 [.string x1.key,.string x1.val] rfl)) fun _ F=>?_
   refine l_op (f_callv F CF_101 rfl rfl rfl rfl (F.g rfl) (lc (F.g rfl) rfl) (impl_put_2_c (H:=fun _=>True) (c:=x1) (key:=f) okx1.1 okx1.2 h_f (At.pick (is:=[0]) S5.at' rfl)) ?_)
   rintro _ w16 ⟨rfl,m16⟩
   refine ⟨_,rfl,fun _ F=>?_⟩
   have S16:Mv _ _ [_] _:=At.frame S5.at' [0] rfl m16
   clear m16
   refine zr fun _ F=>?_
   refine zib F (fun h18=>?_) fun h18=>?_
   ·refine zr fun _ F=>?_
    refine x_done F (results_1 rfl (zta F)) ?_
    exact ⟨(zV1 (zVi (by exact (idxP_found _ s k _ (by rw [← nth_eq];exact hx1) (by first|assumption|exact decide_eq_true ‹_›) (fun q hq y hy=>hk_1 q hq y (by rw [nth_eq];exact hy))).symm))),(Mv.pick (S5.trans S16) [0] rfl),idxP_ok _ s (by omega)⟩
   ·refine zr fun _ F=>?_
    refine zq F ((k+1:Nat):Int) fun _ F=>?_
    exact ⟨k+1,zD,F.cut rfl,((S5.trans S16).pick [0] rfl),by omega,all_step hk_1 (fun c hc=>by obtain rfl:=Option.some.inj (hx1.symm.trans hc);first|assumption|exact decide_eq_false ‹_›)⟩
  ·refine zr fun _ F=>?_
   refine x_done F (results_1 rfl (zta F)) ?_
   exact ⟨(zV1 (zVi (by exact (idxP_none _ s (fun q hq y hy=>hk_1 q (by omega) y (by rw [nth_eq];exact hy))).symm))),(Mv.pick S5 [0] rfl),idxP_ok _ s (by omega)⟩
theorem DeleteFunc_c {w:World} {H:Nat→Prop} {s:List CellD} {s_a:Option Addr} {s_n s_c:Nat} {del_b:Nat} {del:ByteArray} (Q0:okS del) (hA:At w [ow 91 2 encC okC (.slice s_a s_n s_c) s,bx del_b [.string del] 9]) :
 Calls Tryz.prog 98 #[.slice s_a s_n s_c,.func (.func 99) #[] #[.pointer (some ⟨del_b,0,none⟩)]] w fun e w'=>∃ (r0_a:Option Addr),∃ (r0_n:Nat),∃ (r0_c:Nat),e=.returned (.slice r0_a r0_n r0_c)∧Mv [ow 91 2 encC okC (.slice s_a s_n s_c) s,bx del_b [.string del] 9] w [ow 91 2 encC okC (.slice r0_a r0_n r0_c) (delKey s del),bx del_b [.string del] 9] w':=by
 obtain ⟨lo0,lp0,lq0⟩:=At.ownInv hA ET_28.hk 0 rfl
 refine ze fun _ F=>?_
 refine zz F (IndexFunc_impl_put_1_c (H:=fun b=>¬ fps (sel [ow 91 2 encC okC (.slice s_a s_n s_c) s,bx del_b [.string del] 9] [1]) b) (s:=s) (f:=del) (At.rdOff hA ET_28.hk 0 rfl [1] rfl) Q0 (At.pick (is:=[1]) hA rfl) (fun _ h=>h)) ?_
 rintro _ w4 ⟨rfl,m4,q4_0⟩
 refine zt fun _ F=>?_
 have S4:Mv _ _ [_,_] _:=At.frame hA [1] rfl m4
 clear m4
 refine zc F ((idxP (fun c:CellD=>decide (c.key=del)) s)=(-1)) fun _ F=>?_
 refine zi F (fun h9=>?_) fun h9=>?_
 ·refine zr fun _ F=>?_
  refine x_done F (results_1 rfl (zta F)) ?_
  exact ⟨s_a,s_n,s_c,rfl,(Mv.cast (Mv.pick S4 [1,0] rfl) (lc (zOw (by exact delKey_none ‹_›)) rfl))⟩
 ·refine zr fun _ F=>?_
  refine zv F (r_add (z:=((idxP (fun c:CellD=>decide (c.key=del)) s)+1)) rfl (F.g rfl) rfl (by first|rfl|omega) ⟨by have:=idxP_bd (fun c:CellD=>decide (c.key=del)) s;omega,by have:=idxP_bd (fun c:CellD=>decide (c.key=del)) s;omega⟩) fun _ F=>?_
  obtain ⟨k0,hk0,hk1,hk2⟩:=delStart (s:=s) (key:=del) ‹_›
  rw [hk0] at F
  refine x_lp (fun (j:Nat) aZ wZ=>∃ (ii:Nat),∃ (D:List CellD),Fr 42 [(6,.int .i64 ((j:Nat):Int)),(5,.int .i64 ((ii:Nat):Int)),(0,.slice s_a s_n s_c),(1,.func (.func 99) #[] #[.pointer (some ⟨del_b,0,none⟩)])] aZ∧Mv [bx del_b [.string del] 9,ow 91 2 encC okC (.slice s_a s_n s_c) s] w4 [bx del_b [.string del] 9,ow 91 2 encC okC (.slice s_a s_n s_c) D] wZ∧(delInv s del j ii D)) (fun (j:Nat)=>s_n - j) (k0+1) ?_ ?_
  ·exact ⟨k0,s,F.cut rfl,(Mv.refl S4.at'),hk2⟩
  ·rintro j a15 w15 ⟨ii,D,F,S15,hj_0⟩
   obtain ⟨hb1,hb2,hb3⟩:=hj_0.bd
   refine zr fun _ F=>?_
   refine zc F (j < s_n) fun _ F=>?_
   refine zi F (fun h20=>?_) fun h20=>?_
   ·refine zr fun _ F=>?_
    obtain ⟨B23,x1,ad23,hx1,okx1,cl23⟩:=At.ownAt S15.at' ET_28.hk 1 rfl j  zIa
    refine zv F (r_indexAddr (i:=j) ET_28 rfl ((F.ev 22 rfl).trans (by rw [ad23])) (F.g rfl) (by omega) zIa) fun _ F=>?_
    refine zv (v:=.agg #[.string x1.key,.string x1.val]) F (r_load (cs:=[.string x1.key,.string x1.val]) TI_91 rfl (F.g rfl) rfl (fun h=>nomatch h) (elem_sub (f:=0) cl23 [.string x1.key,.string x1.val] rfl)) fun _ F=>?_
    refine l_op (f_alloc F S15.at' ZI_91 rfl rfl rfl rfl rfl fun b26 _ w26 F S26=>?_)
    refine l_op (s_store S26.at' 0 TI_91 rfl rfl rfl rfl rfl (F.g rfl) (F.g rfl) rfl rfl rfl rfl rfl fun w28 S28=>?_)
    have T29:Mv _ _ [bx _ [_,_] _,_,_] _:=S28
    refine zr fun _ F=>?_
    refine zw F T29.at' 0 fun _ F=>?_
    refine l_op (f_callv F CF_99 rfl rfl rfl rfl (F.g rfl) (lc (F.g rfl) rfl) (impl_put_1_c (H:=fun _=>True) (c:=x1) (key:=del) okx1.1 okx1.2 Q0 (At.pick (is:=[1]) T29.at' rfl)) ?_)
    rintro _ w32 ⟨rfl,m32⟩
    refine ⟨_,rfl,fun _ F=>?_⟩
    have S32:Mv _ _ [_,bx _ [_,_] _,_] _:=At.frame T29.at' [1] rfl m32
    clear m32
    refine zv F (r_not rfl (F.g rfl)) fun _ F=>?_
    refine zib F (fun h35=>?_) fun h35=>?_
    ·refine zr fun _ F=>?_
     refine zw F S32.at' 1 fun _ F=>?_
     obtain ⟨B39,x2,ad39,hx2,okx2,cl39⟩:=At.ownAt S32.at' ET_28.hk 2 rfl ii  zIa
     refine zv F (r_indexAddr (i:=ii) ET_28 rfl ((F.ev 30 rfl).trans (by rw [ad39])) (F.g rfl) (by omega) zIa) fun _ F=>?_
     refine l_op (s_storeEl S32.at' 2 ii x1 ET_28.hk ET_28.h1 TI_91 rfl ad39 rfl rfl rfl rfl (F.g rfl) (F.g rfl) rfl zIa ⟨okx1.1,okx1.2⟩ fun w41 S41=>?_)
     refine zr fun _ F=>?_
     refine zq F ((ii+1:Nat):Int) fun _ F=>?_
     refine zq F ((j+1:Nat):Int) fun _ F=>?_
     exact ⟨j+1,zD,ii+1,D.set ii x1,F.cut rfl,((S15.trans (S26.trans (T29.trans (S32.trans S41)))).pick [1,0] rfl),by first|exact hj_0.skip hx1 (by simp_all)|exact hj_0.keep hx1 (by simp_all)⟩
    ·refine zr fun _ F=>?_
     refine zq F ((j+1:Nat):Int) fun _ F=>?_
     exact ⟨j+1,zD,ii,D,F.cut rfl,((S15.trans (S26.trans (T29.trans S32))).pick [0,2] rfl),by first|exact hj_0.skip hx1 (by simp_all)|exact hj_0.keep hx1 (by simp_all)⟩
   ·refine zr fun _ F=>?_
    obtain ⟨B53,ad53,qc53⟩:=own_blk S15.at' 1 rfl zIa
    refine zv F (r_sliceO (lo:=ii) ET_28 rfl (F.g rfl) ad53 (F.g rfl) rfl zIa qc53) fun _ F=>?_
    refine l_op (s_clear (lo:=ii) (⟨bE_,bE_⟩:CellD) S15.at' 1 ET_28 rfl ad53 rfl rfl rfl rfl (F.g rfl) zIa rfl ⟨(by unfold okS;decide),(by unfold okS;decide)⟩ fun w55 S55=>?_)
    refine zr fun _ F=>?_
    refine l_op (f_cutO F S55.at' 0 ii ET_28 rfl rfl rfl rfl rfl rfl (F.g rfl) rfl (F.g rfl) zIa fun _ F S58=>?_)
    refine zr fun _ F=>?_
    have T61:Mv _ _ [_,_] _:=S58
    refine x_done F (results_1 rfl (zta F)) ?_
    exact ⟨s_a,ii,s_c,rfl,(Mv.cast (Mv.pick (S4.trans (S15.trans (S55.trans T61))) [0,1] rfl) (lc (zOw (by exact hj_0.done (by omega) _)) rfl))⟩
end Go.Proofs.YtipdbeklopjbmaaGreatDoor
