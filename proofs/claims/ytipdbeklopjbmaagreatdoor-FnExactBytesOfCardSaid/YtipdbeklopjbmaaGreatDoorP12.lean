/-
  Texts laid together: GenQ, GenR.
-/
import Derived.Test.YtipdbeklopjbmaaGreatDoorP11
import Derived.Test.YtipdbeklopjbmaaGreatDoorP04
set_option linter.unusedVariables false
set_option linter.unusedSimpArgs false
namespace Go.Proofs.YtipdbeklopjbmaaGreatDoor
open Go.ChangeShapes Go.WideShapes Go.ChangeAt Go.RowKit
set_option maxRecDepth 100000
set_option maxHeartbeats 1000000
theorem impl_put_c {w:World} {H:Nat→Prop} {s:List CellD} {s_a:Option Addr} {s_n s_c:Nat} {key:ByteArray} {val:ByteArray} (Q0:okS key) (Q2:okS val) (p0:s.length≤274877906944) (hA:At w [ow 91 2 encC okC (.slice s_a s_n s_c) s]) :
 Calls Tryz.prog 47 #[.slice s_a s_n s_c,.string key,.string val] w fun e w'=>∃ (r0_a:Option Addr),∃ (r0_n:Nat),∃ (r0_c:Nat),e=.returned (.slice r0_a r0_n r0_c)∧Mv [ow 91 2 encC okC (.slice s_a s_n s_c) s] w [ow 91 2 encC okC (.slice r0_a r0_n r0_c) (putKey s key val)] w':=by
 obtain ⟨lo0,lp0,lq0⟩:=At.ownInv hA ET_28.hk 0 rfl
 refine ze fun _ F=>?_
 refine l_op (f_box F hA rfl rfl rfl (F.g rfl) rfl rfl fun b1 _ w1 F S1=>?_)
 refine zr fun _ F=>?_
 refine zl F S1.at' 0 fun _ F=>?_
 refine zz F (impl_KeyOk_c (H:=fun _=>True) (key:=key) Q0) ?_
 rintro _ w5 ⟨rfl,m5⟩
 refine zt fun _ F=>?_
 have S5:=At.frame0 S1.at' m5
 clear m5
 refine zv F (r_not rfl (F.g rfl)) fun _ F=>?_
 rcases Bool.eq_false_or_eq_true (!(keyOk key)) with h9|h9
 ·rw [h9] at F
  refine zr fun _ F=>?_
  refine x_done F (results_1 rfl (zta F)) ?_
  exact ⟨s_a,s_n,s_c,rfl,(Mv.cast (Mv.pick (S1.trans S5) [1] rfl) (lc (zOw (by first|exact (putKey_no (.inl (nt ‹_›))).symm|exact (putKey_no (.inr (by omega))).symm|exact (putKey_del (nf ‹_›) ‹_›).symm|(rw [putKey_ins (nf ‹_›) (by omega) ‹_›];first|exact insK_at rfl (by omega)|exact insK_end (by omega) (by omega)))) rfl))⟩
 ·rw [h9] at F
  refine zr fun _ F=>?_
  refine zc F (val.size > 60) fun _ F=>?_
  refine zi F (fun h20=>?_) fun h20=>?_
  ·refine zr fun _ F=>?_
   refine x_done F (results_1 rfl (zta F)) ?_
   exact ⟨s_a,s_n,s_c,rfl,(Mv.cast (Mv.pick (S1.trans S5) [1] rfl) (lc (zOw (by first|exact (putKey_no (.inl (nt ‹_›))).symm|exact (putKey_no (.inr (by omega))).symm|exact (putKey_del (nf ‹_›) ‹_›).symm|(rw [putKey_ins (nf ‹_›) (by omega) ‹_›];first|exact insK_at rfl (by omega)|exact insK_end (by omega) (by omega)))) rfl))⟩
  ·refine zr fun _ F=>?_
   refine zv F (r_makeFuncL rfl (lc (F.g rfl) rfl)) fun _ F=>?_
   refine zz F (DeleteFunc_c (H:=fun _=>True) (s:=s) (del:=key) Q0 (At.pick (is:=[1,0]) S5.at' rfl)) ?_
   rintro _ w25 ⟨Q3,Q1,Q4,rfl,m25⟩
   refine zt fun _ F=>?_
   have S25:Mv _ _ [_,_] _:=At.frame S5.at' [1,0] rfl m25
   obtain ⟨Q11,Q14,Q17⟩:=At.ownInv S25.at' ET_28.hk 0 rfl
   clear m25
   refine zv F (r_cmps (b:=(decide (val=bE_))) (.inl rfl) rfl (F.g rfl) rfl rfl) fun _ F=>?_
   refine zi F (fun h30=>?_) fun h30=>?_
   ·refine zr fun _ F=>?_
    refine x_done F (results_1 rfl (zta F)) ?_
    exact ⟨Q3,Q1,Q4,rfl,(Mv.cast (Mv.pick (S1.trans (S5.trans S25)) [0] rfl) (lc (zOw (by first|exact (putKey_no (.inl (nt ‹_›))).symm|exact (putKey_no (.inr (by omega))).symm|exact (putKey_del (nf ‹_›) ‹_›).symm|(rw [putKey_ins (nf ‹_›) (by omega) ‹_›];first|exact insK_at rfl (by omega)|exact insK_end (by omega) (by omega)))) rfl))⟩
   ·refine zr fun _ F=>?_
    refine zv F (r_makeFuncL rfl (lc (F.g rfl) rfl)) fun _ F=>?_
    refine zz F (IndexFunc_impl_put_2_c (H:=fun b=>¬ fps (sel [ow 91 2 encC okC (.slice Q3 Q1 Q4) (delKey s key),bx b1 [.string key] 9] [1]) b) (s:=delKey s key) (f:=key) (At.rdOff S25.at' ET_28.hk 0 rfl [1] rfl) Q0 (At.pick (is:=[1]) S25.at' rfl) (fun _ h=>h)) ?_
    rintro _ w35 ⟨rfl,m35,q35_0⟩
    refine zt fun _ F=>?_
    have S35:Mv _ _ [_,_] _:=At.frame S25.at' [1] rfl m35
    clear m35
    refine zc F ((idxP (fun c:CellD=>!leS c.key key) (delKey s key)) < 0) fun _ F=>?_
    refine zi F (fun h40=>?_) fun h40=>?_
    ·refine zr fun _ F=>?_
     refine zl F S35.at' 0 fun _ F=>?_
     refine zv (v:=.agg #[.string key,.string val]) F (r_build BI_91 rfl (lc (pr2 (F.g rfl)) (lc (pr2 (F.g rfl)) rfl)) rfl) fun _ F=>?_
     refine l_op (f_buildSl (ok:=okC) (vs:=[.agg #[.string key,.string val]]) F S35.at' ([(⟨key,val⟩:CellD)]) ET_28 rfl rfl rfl rfl rfl rfl (lc (pr2 (F.g rfl)) rfl) rfl rfl (fun x hx=>(List.mem_singleton.1 hx) ▸ ⟨Q0,Q2⟩) fun b49 _ w49 F S49=>?_)
     refine zz F (slices_Insert_Simpl_Cell_impl_Cell_c (H:=fun _=>True) (s:=delKey s key) (i:=((Q1:Nat):Int)) (v:=(⟨key,val⟩:CellD)) zI7 (by have:=idxP_bd (fun c:CellD=>!leS c.key key) (delKey s key);have:=delKey_length s key;omega) (by have:=idxP_bd (fun c:CellD=>!leS c.key key) (delKey s key);have:=delKey_length s key;omega) (by have:=idxP_bd (fun c:CellD=>!leS c.key key) (delKey s key);have:=delKey_length s key;omega) (At.pick (is:=[2,0]) S49.at' rfl)) ?_
     rintro _ w51 ⟨Q5,Q9,Q7,rfl,m51⟩
     refine zt fun _ F=>?_
     have S51:Mv _ _ [_,_] _:=At.frame S49.at' [2,0] rfl m51
     obtain ⟨Q12,Q15,Q18⟩:=At.ownInv S51.at' ET_28.hk 0 rfl
     clear m51
     refine x_done F (results_1 rfl (zta F)) ?_
     exact ⟨Q5,Q9,Q7,rfl,(Mv.cast (Mv.pick (S1.trans (S5.trans (S25.trans (S35.trans (S49.trans S51))))) [0] rfl) (lc (zOw (by first|exact (putKey_no (.inl (nt ‹_›))).symm|exact (putKey_no (.inr (by omega))).symm|exact (putKey_del (nf ‹_›) ‹_›).symm|(rw [putKey_ins (nf ‹_›) (by omega) ‹_›];first|exact insK_at rfl (by omega)|exact insK_end (by omega) (by omega)))) rfl))⟩
    ·refine zr fun _ F=>?_
     refine zl F S35.at' 0 fun _ F=>?_
     refine zv (v:=.agg #[.string key,.string val]) F (r_build BI_91 rfl (lc (pr2 (F.g rfl)) (lc (pr2 (F.g rfl)) rfl)) rfl) fun _ F=>?_
     refine l_op (f_buildSl (ok:=okC) (vs:=[.agg #[.string key,.string val]]) F S35.at' ([(⟨key,val⟩:CellD)]) ET_28 rfl rfl rfl rfl rfl rfl (lc (pr2 (F.g rfl)) rfl) rfl rfl (fun x hx=>(List.mem_singleton.1 hx) ▸ ⟨Q0,Q2⟩) fun b59 _ w59 F S59=>?_)
     refine zz F (slices_Insert_Simpl_Cell_impl_Cell_c (H:=fun _=>True) (s:=delKey s key) (i:=(idxP (fun c:CellD=>!leS c.key key) (delKey s key))) (v:=(⟨key,val⟩:CellD)) zI7 (by have:=idxP_bd (fun c:CellD=>!leS c.key key) (delKey s key);have:=delKey_length s key;omega) (by have:=idxP_bd (fun c:CellD=>!leS c.key key) (delKey s key);have:=delKey_length s key;omega) (by have:=idxP_bd (fun c:CellD=>!leS c.key key) (delKey s key);have:=delKey_length s key;omega) (At.pick (is:=[2,0]) S59.at' rfl)) ?_
     rintro _ w61 ⟨Q6,Q10,Q8,rfl,m61⟩
     refine zt fun _ F=>?_
     have S61:Mv _ _ [_,_] _:=At.frame S59.at' [2,0] rfl m61
     obtain ⟨Q13,Q16,Q19⟩:=At.ownInv S61.at' ET_28.hk 0 rfl
     clear m61
     refine x_done F (results_1 rfl (zta F)) ?_
     exact ⟨Q6,Q10,Q8,rfl,(Mv.cast (Mv.pick (S1.trans (S5.trans (S25.trans (S35.trans (S59.trans S61))))) [0] rfl) (lc (zOw (by first|exact (putKey_no (.inl (nt ‹_›))).symm|exact (putKey_no (.inr (by omega))).symm|exact (putKey_del (nf ‹_›) ‹_›).symm|(rw [putKey_ins (nf ‹_›) (by omega) ‹_›];first|exact insK_at rfl (by omega)|exact insK_end (by omega) (by omega)))) rfl))⟩
theorem spec_PutKey_c {w:World} {H:Nat→Prop} {s:List CellD} {s_a:Option Addr} {s_n s_c:Nat} {key:ByteArray} {val:ByteArray} (v_s:Rd 2 encC okC H w (.slice s_a s_n s_c) s) (Q0:okS key) (Q1:okS val) (p0:s_n≤274877906944) :
 Calls Tryz.prog 91 #[.slice s_a s_n s_c,.string key,.string val] w fun e w'=>∃ (r0_a:Option Addr),∃ (r0_n:Nat),∃ (r0_c:Nat),e=.returned (.slice r0_a r0_n r0_c)∧Mv [] w [ow 91 2 encC okC (.slice r0_a r0_n r0_c) (putKey s key val)] w':=by
 have V_v_s:=Rd.start v_s zN
 obtain ⟨ln_s,le_s,mx_s,ni_s⟩:=Rd.inv v_s
 refine ze fun _ F=>?_
 refine l_op (f_buildSl (ok:=okC) (vs:=[]) F (At.nil w) (([]:List CellD)) ET_28 rfl rfl rfl rfl rfl rfl rfl rfl rfl (by simp) fun b2 _ w2 F S2=>?_)
 refine zr fun _ F=>?_
 refine zz F (spec_KeyOk_c (H:=fun _=>True) (key:=key) Q0) ?_
 rintro _ w6 ⟨rfl,m6⟩
 refine zt fun _ F=>?_
 have S6:=At.frame0 S2.at' m6
 clear m6
 refine zv F (r_not rfl (F.g rfl)) fun _ F=>?_
 rcases Bool.eq_false_or_eq_true (!(keyOk key)) with h10|h10
 ·rw [h10] at F
  refine zr fun _ F=>?_
  refine l_op (f_app (news:=s) F S6.at' 0 ET_28 rfl rfl rfl rfl rfl rfl (F.g rfl) (F.g rfl) ((Rd.mq V_v_s (S2.trans S6))).1 zI9 fun A17 N17 C17 _ w17 F S17 l17=>?_)
  refine zr fun _ F=>?_
  refine x_done F (results_1 rfl (zta F)) ?_
  exact ⟨A17,N17,C17,rfl,(Mv.cast (Mv.pick (S2.trans (S6.trans S17)) [0] rfl) (lc (zOw (by first|exact (List.nil_append _).trans (putKey_no (.inl (nt ‹_›))).symm|exact (List.nil_append _).trans (putKey_no (.inr (by omega))).symm|(rw [← putF_end hk_1 (by omega) (nf ‹_›) (by omega)];first|rw [if_pos (nt ‹_›)]|rw [if_neg (ne_false_of_eq_true (nf ‹_›)),List.append_nil]))) rfl))⟩
 ·rw [h10] at F
  refine zr fun _ F=>?_
  refine zc F (val.size > 60) fun _ F=>?_
  refine zi F (fun h24=>?_) fun h24=>?_
  ·refine zr fun _ F=>?_
   refine l_op (f_app (news:=s) F S6.at' 0 ET_28 rfl rfl rfl rfl rfl rfl (F.g rfl) (F.g rfl) ((Rd.mq V_v_s (S2.trans S6))).1 zI9 fun A27 N27 C27 _ w27 F S27 l27=>?_)
   refine zr fun _ F=>?_
   refine x_done F (results_1 rfl (zta F)) ?_
   exact ⟨A27,N27,C27,rfl,(Mv.cast (Mv.pick (S2.trans (S6.trans S27)) [0] rfl) (lc (zOw (by first|exact (List.nil_append _).trans (putKey_no (.inl (nt ‹_›))).symm|exact (List.nil_append _).trans (putKey_no (.inr (by omega))).symm|(rw [← putF_end hk_1 (by omega) (nf ‹_›) (by omega)];first|rw [if_pos (nt ‹_›)]|rw [if_neg (ne_false_of_eq_true (nf ‹_›)),List.append_nil]))) rfl))⟩
  ·refine zr fun _ F=>?_
   refine zv F (r_cmps (b:=(decide (val=bE_))) (.inl rfl) rfl (F.g rfl) rfl rfl) fun _ F=>?_
   refine x_lp (fun (k:Nat) aZ wZ=>∃ (O:List CellD),∃ (dd:Bool),∃ (oa:Option Addr),∃ (on:Nat),∃ (oc:Nat),Fr 70 [(9,.int .i64 ((k:Nat):Int)),(8,.bool dd),(7,.slice oa on oc),(0,.slice s_a s_n s_c),(1,.string key),(2,.string val)] aZ∧Mv [ow 91 2 encC okC (.slice (some ⟨b2,0,none⟩) 0 0) ([]:List CellD)] w6 [ow 91 2 encC okC (.slice oa on oc) O] wZ∧(k≤s_n)∧(putF (s.take k) key val ([],decide (val=⟨#[]⟩))=(O,dd))∧(O.length≤2 * k)) (fun (k:Nat)=>s_n - k) (0) ?_ ?_
   ·exact ⟨([]:List CellD),(decide (val=bE_)),(some ⟨b2,0,none⟩),0,0,F.cut rfl,(Mv.refl S6.at'),by omega,rfl,by simp⟩
   ·rintro k a34 w34 ⟨O,dd,oa,on,oc,F,S34,hk_0,hk_1,hk_2⟩
    refine zr fun _ F=>?_
    refine zc F (k < s_n) fun _ F=>?_
    refine zi F (fun h39=>?_) fun h39=>?_
    ·refine zr fun _ F=>?_
     refine zv F (r_not rfl (F.g rfl)) fun _ F=>?_
     rcases Bool.eq_false_or_eq_true (!dd) with h43|h43
     ·rw [h43] at F
      refine zr fun _ F=>?_
      obtain ⟨B46,O46,x1,ad46,hx1,okx1,ln46,cl46⟩:=Rd.at (Rd.mq V_v_s (S2.trans (S6.trans S34))) k zIa
      clear ln46
      refine zv F (r_indexAddr (i:=k) ET_28 rfl ((F.ev 33 rfl).trans (by rw [ad46])) (F.g rfl) (by omega) zIa) fun _ F=>?_
      refine zv (v:=.string x1.key) F (r_load (cs:=[.string x1.key]) TI_9 rfl (F.g rfl) rfl (fun _=>rfl) (elem_sub (f:=0) cl46 [.string x1.key] rfl)) fun _ F=>?_
      refine zv F (r_cmps (b:=(!leS x1.key key)) (.inr (.inr (.inr (.inr (.inl rfl))))) rfl (F.g rfl) (F.g rfl) rfl) fun _ F=>?_
      refine zib F (fun h53=>?_) fun h53=>?_
      ·refine zr fun _ F=>?_
       refine zv (v:=.agg #[.string key,.string val]) F (r_build BI_91 rfl (lc (pr2 (F.g rfl)) (lc (pr2 (F.g rfl)) rfl)) rfl) fun _ F=>?_
       refine l_op (f_buildSl (ok:=okC) (vs:=[.agg #[.string key,.string val]]) F S34.at' ([(⟨key,val⟩:CellD)]) ET_28 rfl rfl rfl rfl rfl rfl (lc (pr2 (F.g rfl)) rfl) rfl rfl (fun x hx=>(List.mem_singleton.1 hx) ▸ ⟨Q0,Q1⟩) fun b58 _ w58 F S58=>?_)
       refine l_op (f_app (news:=[(⟨key,val⟩:CellD)]) F S58.at' 1 ET_28 rfl rfl rfl rfl rfl rfl (F.g rfl) (F.g rfl) ((At.rd S58.at' ET_28.hk 0 rfl)).1 zI9 fun A60 N60 C60 _ w60 F S60 l60=>?_)
       have S62:=At.drop S60.at' 1
       refine zr fun _ F=>?_
       have T64:Mv _ _ [_] _:=S62
       obtain ⟨B68,O68,y68,ad68,hy68,oky68,ln68,cl68⟩:=Rd.at (Rd.mq V_v_s (S2.trans (S6.trans (S34.trans (S58.trans (S60.trans T64)))))) k zIa
       clear ln68
       obtain rfl:=Option.some.inj (hx1.symm.trans hy68)
       clear hy68 oky68
       refine zv F (r_indexAddr (i:=k) ET_28 rfl ((F.ev 47 rfl).trans (by rw [ad68])) (F.g rfl) (by omega) zIa) fun _ F=>?_
       refine zv (v:=.string x1.key) F (r_load (cs:=[.string x1.key]) TI_9 rfl (F.g rfl) rfl (fun _=>rfl) (elem_sub (f:=0) cl68 [.string x1.key] rfl)) fun _ F=>?_
       refine zv F (r_cmps (b:=(decide (x1.key≠key))) (.inr (.inl rfl)) rfl (F.g rfl) (F.g rfl) rfl) fun _ F=>?_
       refine zi F (fun h74=>?_) fun h74=>?_
       ·refine zr fun _ F=>?_
        obtain ⟨B78,O78,y78,ad78,hy78,oky78,ln78,cl78⟩:=Rd.at (Rd.mq V_v_s (S2.trans (S6.trans (S34.trans (S58.trans (S60.trans T64)))))) k zIa
        clear ln78
        obtain rfl:=Option.some.inj (hx1.symm.trans hy78)
        clear hy78 oky78
        refine zv F (r_indexAddr (i:=k) ET_28 rfl ((F.ev 55 rfl).trans (by rw [ad78])) (F.g rfl) (by omega) zIa) fun _ F=>?_
        refine zv (v:=.agg #[.string x1.key,.string x1.val]) F (r_load (cs:=[.string x1.key,.string x1.val]) TI_91 rfl (F.g rfl) rfl (fun h=>nomatch h) (elem_sub (f:=0) cl78 [.string x1.key,.string x1.val] rfl)) fun _ F=>?_
        refine l_op (f_buildSl (ok:=okC) (vs:=[.agg #[.string x1.key,.string x1.val]]) F T64.at' ([x1]) ET_28 rfl rfl rfl rfl rfl rfl (lc (pr2 (F.g rfl)) rfl) rfl rfl (fun x hx=>(List.mem_singleton.1 hx) ▸ ⟨okx1.1,okx1.2⟩) fun b81 _ w81 F S81=>?_)
        refine l_op (f_app (news:=[x1]) F S81.at' 1 ET_28 rfl rfl rfl rfl rfl rfl (F.g rfl) (F.g rfl) ((At.rd S81.at' ET_28.hk 0 rfl)).1 zI9 fun A83 N83 C83 _ w83 F S83 l83=>?_)
        have S85:=At.drop S83.at' 1
        refine zr fun _ F=>?_
        refine zq F ((k+1:Nat):Int) fun _ F=>?_
        exact ⟨k+1,zD,(O++([(⟨key,val⟩:CellD)]))++([x1]),true,A83,N83,C83,F.cut rfl,((S34.trans (S58.trans (S60.trans (T64.trans (S81.trans (S83.trans S85)))))).pick [0] rfl),by omega,by first|exact putF_a hk_1 hx1 ‹_› ‹_› ‹_›|exact putF_b hk_1 hx1 (.inl ‹_›) ‹_›|exact putF_b hk_1 hx1 (.inr ‹_›) ‹_›|exact putF_c hk_1 hx1 (.inl ‹_›) ‹_›|exact putF_c hk_1 hx1 (.inr ‹_›) ‹_›|exact putF_d hk_1 hx1 ‹_› ‹_› ‹_›,by first|omega|((repeat (first|rw [List.length_append]|rw [List.length_cons]|rw [List.length_nil]|rw [List.length_take]|rw [List.length_drop])) <;> omega)⟩
       ·refine zr fun _ F=>?_
        refine zq F ((k+1:Nat):Int) fun _ F=>?_
        exact ⟨k+1,zD,O++([(⟨key,val⟩:CellD)]),true,A60,N60,C60,F.cut rfl,((S34.trans (S58.trans (S60.trans T64))).pick [0] rfl),by omega,by first|exact putF_a hk_1 hx1 ‹_› ‹_› ‹_›|exact putF_b hk_1 hx1 (.inl ‹_›) ‹_›|exact putF_b hk_1 hx1 (.inr ‹_›) ‹_›|exact putF_c hk_1 hx1 (.inl ‹_›) ‹_›|exact putF_c hk_1 hx1 (.inr ‹_›) ‹_›|exact putF_d hk_1 hx1 ‹_› ‹_› ‹_›,by first|omega|((repeat (first|rw [List.length_append]|rw [List.length_cons]|rw [List.length_nil]|rw [List.length_take]|rw [List.length_drop])) <;> omega)⟩
      ·refine zr fun _ F=>?_
       obtain ⟨B95,O95,y95,ad95,hy95,oky95,ln95,cl95⟩:=Rd.at (Rd.mq V_v_s (S2.trans (S6.trans S34))) k zIa
       clear ln95
       obtain rfl:=Option.some.inj (hx1.symm.trans hy95)
       clear hy95 oky95
       refine zv F (r_indexAddr (i:=k) ET_28 rfl ((F.ev 47 rfl).trans (by rw [ad95])) (F.g rfl) (by omega) zIa) fun _ F=>?_
       refine zv (v:=.string x1.key) F (r_load (cs:=[.string x1.key]) TI_9 rfl (F.g rfl) rfl (fun _=>rfl) (elem_sub (f:=0) cl95 [.string x1.key] rfl)) fun _ F=>?_
       refine zv F (r_cmps (b:=(decide (x1.key≠key))) (.inr (.inl rfl)) rfl (F.g rfl) (F.g rfl) rfl) fun _ F=>?_
       refine zi F (fun h101=>?_) fun h101=>?_
       ·refine zr fun _ F=>?_
        obtain ⟨B105,O105,y105,ad105,hy105,oky105,ln105,cl105⟩:=Rd.at (Rd.mq V_v_s (S2.trans (S6.trans S34))) k zIa
        clear ln105
        obtain rfl:=Option.some.inj (hx1.symm.trans hy105)
        clear hy105 oky105
        refine zv F (r_indexAddr (i:=k) ET_28 rfl ((F.ev 55 rfl).trans (by rw [ad105])) (F.g rfl) (by omega) zIa) fun _ F=>?_
        refine zv (v:=.agg #[.string x1.key,.string x1.val]) F (r_load (cs:=[.string x1.key,.string x1.val]) TI_91 rfl (F.g rfl) rfl (fun h=>nomatch h) (elem_sub (f:=0) cl105 [.string x1.key,.string x1.val] rfl)) fun _ F=>?_
        refine l_op (f_buildSl (ok:=okC) (vs:=[.agg #[.string x1.key,.string x1.val]]) F S34.at' ([x1]) ET_28 rfl rfl rfl rfl rfl rfl (lc (pr2 (F.g rfl)) rfl) rfl rfl (fun x hx=>(List.mem_singleton.1 hx) ▸ ⟨okx1.1,okx1.2⟩) fun b108 _ w108 F S108=>?_)
        refine l_op (f_app (news:=[x1]) F S108.at' 1 ET_28 rfl rfl rfl rfl rfl rfl (F.g rfl) (F.g rfl) ((At.rd S108.at' ET_28.hk 0 rfl)).1 zI9 fun A110 N110 C110 _ w110 F S110 l110=>?_)
        have S112:=At.drop S110.at' 1
        refine zr fun _ F=>?_
        have T114:Mv _ _ [_] _:=S112
        refine zq F ((k+1:Nat):Int) fun _ F=>?_
        exact ⟨k+1,zD,O++([x1]),dd,A110,N110,C110,F.cut rfl,((S34.trans (S108.trans (S110.trans T114))).pick [0] rfl),by omega,by first|exact putF_a hk_1 hx1 ‹_› ‹_› ‹_›|exact putF_b hk_1 hx1 (.inl ‹_›) ‹_›|exact putF_b hk_1 hx1 (.inr ‹_›) ‹_›|exact putF_c hk_1 hx1 (.inl ‹_›) ‹_›|exact putF_c hk_1 hx1 (.inr ‹_›) ‹_›|exact putF_d hk_1 hx1 ‹_› ‹_› ‹_›,by first|omega|((repeat (first|rw [List.length_append]|rw [List.length_cons]|rw [List.length_nil]|rw [List.length_take]|rw [List.length_drop])) <;> omega)⟩
       ·refine zr fun _ F=>?_
        refine zq F ((k+1:Nat):Int) fun _ F=>?_
        exact ⟨k+1,zD,O,dd,oa,on,oc,F.cut rfl,(S34.pick [0] rfl),by omega,by first|exact putF_a hk_1 hx1 ‹_› ‹_› ‹_›|exact putF_b hk_1 hx1 (.inl ‹_›) ‹_›|exact putF_b hk_1 hx1 (.inr ‹_›) ‹_›|exact putF_c hk_1 hx1 (.inl ‹_›) ‹_›|exact putF_c hk_1 hx1 (.inr ‹_›) ‹_›|exact putF_d hk_1 hx1 ‹_› ‹_› ‹_›,by first|omega|((repeat (first|rw [List.length_append]|rw [List.length_cons]|rw [List.length_nil]|rw [List.length_take]|rw [List.length_drop])) <;> omega)⟩
     ·rw [h43] at F
      refine zr fun _ F=>?_
      obtain ⟨B131,O131,x1,ad131,hx1,okx1,ln131,cl131⟩:=Rd.at (Rd.mq V_v_s (S2.trans (S6.trans S34))) k zIa
      clear ln131
      refine zv F (r_indexAddr (i:=k) ET_28 rfl ((F.ev 47 rfl).trans (by rw [ad131])) (F.g rfl) (by omega) zIa) fun _ F=>?_
      refine zv (v:=.string x1.key) F (r_load (cs:=[.string x1.key]) TI_9 rfl (F.g rfl) rfl (fun _=>rfl) (elem_sub (f:=0) cl131 [.string x1.key] rfl)) fun _ F=>?_
      refine zv F (r_cmps (b:=(decide (x1.key≠key))) (.inr (.inl rfl)) rfl (F.g rfl) (F.g rfl) rfl) fun _ F=>?_
      refine zi F (fun h137=>?_) fun h137=>?_
      ·refine zr fun _ F=>?_
       obtain ⟨B141,O141,y141,ad141,hy141,oky141,ln141,cl141⟩:=Rd.at (Rd.mq V_v_s (S2.trans (S6.trans S34))) k zIa
       clear ln141
       obtain rfl:=Option.some.inj (hx1.symm.trans hy141)
       clear hy141 oky141
       refine zv F (r_indexAddr (i:=k) ET_28 rfl ((F.ev 55 rfl).trans (by rw [ad141])) (F.g rfl) (by omega) zIa) fun _ F=>?_
       refine zv (v:=.agg #[.string x1.key,.string x1.val]) F (r_load (cs:=[.string x1.key,.string x1.val]) TI_91 rfl (F.g rfl) rfl (fun h=>nomatch h) (elem_sub (f:=0) cl141 [.string x1.key,.string x1.val] rfl)) fun _ F=>?_
       refine l_op (f_buildSl (ok:=okC) (vs:=[.agg #[.string x1.key,.string x1.val]]) F S34.at' ([x1]) ET_28 rfl rfl rfl rfl rfl rfl (lc (pr2 (F.g rfl)) rfl) rfl rfl (fun x hx=>(List.mem_singleton.1 hx) ▸ ⟨okx1.1,okx1.2⟩) fun b144 _ w144 F S144=>?_)
       refine l_op (f_app (news:=[x1]) F S144.at' 1 ET_28 rfl rfl rfl rfl rfl rfl (F.g rfl) (F.g rfl) ((At.rd S144.at' ET_28.hk 0 rfl)).1 zI9 fun A146 N146 C146 _ w146 F S146 l146=>?_)
       have S148:=At.drop S146.at' 1
       refine zr fun _ F=>?_
       have T150:Mv _ _ [_] _:=S148
       refine zq F ((k+1:Nat):Int) fun _ F=>?_
       exact ⟨k+1,zD,O++([x1]),dd,A146,N146,C146,F.cut rfl,((S34.trans (S144.trans (S146.trans T150))).pick [0] rfl),by omega,by first|exact putF_a hk_1 hx1 ‹_› ‹_› ‹_›|exact putF_b hk_1 hx1 (.inl ‹_›) ‹_›|exact putF_b hk_1 hx1 (.inr ‹_›) ‹_›|exact putF_c hk_1 hx1 (.inl ‹_›) ‹_›|exact putF_c hk_1 hx1 (.inr ‹_›) ‹_›|exact putF_d hk_1 hx1 ‹_› ‹_› ‹_›,by first|omega|((repeat (first|rw [List.length_append]|rw [List.length_cons]|rw [List.length_nil]|rw [List.length_take]|rw [List.length_drop])) <;> omega)⟩
      ·refine zr fun _ F=>?_
       refine zq F ((k+1:Nat):Int) fun _ F=>?_
       exact ⟨k+1,zD,O,dd,oa,on,oc,F.cut rfl,(S34.pick [0] rfl),by omega,by first|exact putF_a hk_1 hx1 ‹_› ‹_› ‹_›|exact putF_b hk_1 hx1 (.inl ‹_›) ‹_›|exact putF_b hk_1 hx1 (.inr ‹_›) ‹_›|exact putF_c hk_1 hx1 (.inl ‹_›) ‹_›|exact putF_c hk_1 hx1 (.inr ‹_›) ‹_›|exact putF_d hk_1 hx1 ‹_› ‹_› ‹_›,by first|omega|((repeat (first|rw [List.length_append]|rw [List.length_cons]|rw [List.length_nil]|rw [List.length_take]|rw [List.length_drop])) <;> omega)⟩
    ·refine zr fun _ F=>?_
     refine zv F (r_not rfl (F.g rfl)) fun _ F=>?_
     refine zib F (fun h159=>?_) fun h159=>?_
     ·refine zr fun _ F=>?_
      refine zv (v:=.agg #[.string key,.string val]) F (r_build BI_91 rfl (lc (pr2 (F.g rfl)) (lc (pr2 (F.g rfl)) rfl)) rfl) fun _ F=>?_
      refine l_op (f_buildSl (ok:=okC) (vs:=[.agg #[.string key,.string val]]) F S34.at' ([(⟨key,val⟩:CellD)]) ET_28 rfl rfl rfl rfl rfl rfl (lc (pr2 (F.g rfl)) rfl) rfl rfl (fun x hx=>(List.mem_singleton.1 hx) ▸ ⟨Q0,Q1⟩) fun b164 _ w164 F S164=>?_)
      refine l_op (f_app (news:=[(⟨key,val⟩:CellD)]) F S164.at' 1 ET_28 rfl rfl rfl rfl rfl rfl (F.g rfl) (F.g rfl) ((At.rd S164.at' ET_28.hk 0 rfl)).1 zI9 fun A166 N166 C166 _ w166 F S166 l166=>?_)
      have S168:=At.drop S166.at' 1
      refine zr fun _ F=>?_
      have T170:Mv _ _ [_] _:=S168
      refine x_done F (results_1 rfl (zta F)) ?_
      exact ⟨A166,N166,C166,rfl,(Mv.cast (Mv.pick (S2.trans (S6.trans (S34.trans (S164.trans (S166.trans T170))))) [0] rfl) (lc (zOw (by first|exact (List.nil_append _).trans (putKey_no (.inl (nt ‹_›))).symm|exact (List.nil_append _).trans (putKey_no (.inr (by omega))).symm|(rw [← putF_end hk_1 (by omega) (nf ‹_›) (by omega)];first|rw [if_pos (nt ‹_›)]|rw [if_neg (ne_false_of_eq_true (nf ‹_›)),List.append_nil]))) rfl))⟩
     ·refine zr fun _ F=>?_
      refine x_done F (results_1 rfl (zta F)) ?_
      exact ⟨oa,on,oc,rfl,(Mv.cast (Mv.pick (S2.trans (S6.trans S34)) [0] rfl) (lc (zOw (by first|exact (List.nil_append _).trans (putKey_no (.inl (nt ‹_›))).symm|exact (List.nil_append _).trans (putKey_no (.inr (by omega))).symm|(rw [← putF_end hk_1 (by omega) (nf ‹_›) (by omega)];first|rw [if_pos (nt ‹_›)]|rw [if_neg (ne_false_of_eq_true (nf ‹_›)),List.append_nil]))) rfl))⟩
theorem spec_l04Lay_c {w:World} {H:Nat→Prop} {m:MachD} {m_Sa:Option Addr} {m_Sn m_Sc:Nat} {m_Ra:Option Addr} {m_Rn m_Rc:Nat} {m_Wa:Option Addr} {m_Wn m_Wc:Nat} {key:ByteArray} {val:ByteArray} (Q16:Rd 2 encC okC H w (.slice m_Sa m_Sn m_Sc) m.store) (Q17:Rd 1 encS okS H w (.slice m_Ra m_Rn m_Rc) m.touch.reads) (Q18:Rd 1 encS okS H w (.slice m_Wa m_Wn m_Wc) m.touch.writes) (Q6:okS key) (Q19:okS val) (p0:m.store.length≤274877906943) (p1:m.touch.writes.length≤274877906943) :
 Calls Tryz.prog 284 #[.agg #[.slice m_Sa m_Sn m_Sc,.slice m_Ra m_Rn m_Rc,.slice m_Wa m_Wn m_Wc],.string key,.string val] w fun e w'=>∃ (Q10:Option Addr),∃ (Q12:Nat),∃ (Q11:Nat),∃ (Q7:Option Addr),∃ (Q9:Nat),∃ (Q8:Nat),∃ (Q13:Option Addr),∃ (Q15:Nat),∃ (Q14:Nat),e=.returned (.agg #[.slice Q10 Q12 Q11,.slice Q7 Q9 Q8,.slice Q13 Q15 Q14])∧Mv [] w [] w'∧Rd 2 encC okC (Fsh H w) w' (.slice Q10 Q12 Q11) (layM m key val).store∧Rd 1 encS okS (Fsh H w) w' (.slice Q7 Q9 Q8) (layM m key val).touch.reads∧Rd 1 encS okS (Fsh H w) w' (.slice Q13 Q15 Q14) (layM m key val).touch.writes:=by
 have V_v_m_store:=Rd.start Q16 zN
 obtain ⟨Q23,Q20,Q29,Q32⟩:=Rd.inv Q16
 have V_v_m_touch_reads:=Rd.start Q17 zN
 obtain ⟨Q24,Q21,Q30,Q33⟩:=Rd.inv Q17
 have V_v_m_touch_writes:=Rd.start Q18 zN
 obtain ⟨Q25,Q22,Q31,Q34⟩:=Rd.inv Q18
 refine ze fun _ F=>?_
 refine l_op (f_box F (At.nil w) rfl rfl rfl (F.g rfl) rfl rfl fun b1 _ w1 F S1=>?_)
 refine l_op (f_alloc F S1.at' ZI_210 rfl rfl rfl rfl rfl fun b3 _ w3 F S3=>?_)
 refine zr fun _ F=>?_
 refine zl F S3.at' 1 fun _ F=>?_
 refine zz F (spec_AddSpan_c (list:=m.touch.writes) (span:=key) (Rd.mq V_v_m_touch_writes (S1.trans S3)) Q6 zI8) ?_
 rintro _ w9 ⟨Q3,Q5,Q4,rfl,m9,v9_0⟩
 refine zt fun _ F=>?_
 have S9:=At.frame0 S3.at' m9
 have V9_0:=Rd.got0 S3.at' ((S1.trans S3).kp.size) v9_0 S9
 obtain ⟨ln9_0,le9_0,mx9_0,ni9_0⟩:=Rd.inv V9_0
 clear m9 v9_0
 refine l_op (s_store S9.at' 1 TI_44 rfl rfl rfl rfl rfl (F.g rfl) (F.g rfl) rfl rfl rfl rfl rfl fun w13 S13=>?_)
 have T14:Mv _ _ [bx _ [_,_,_] _,bx _ [_,_,_] _] _:=S13
 refine zr fun _ F=>?_
 refine zl F T14.at' 0 fun _ F=>?_
 refine zz F (spec_PutKey_c (s:=m.store) (key:=key) (val:=val) (Rd.mq V_v_m_store (S1.trans (S3.trans (S9.trans T14)))) Q6 Q19 zI8) ?_
 rintro _ w19 ⟨Q0,Q2,Q1,rfl,m19⟩
 refine zt fun _ F=>?_
 have S19:Mv _ _ [_,bx _ [_,_,_] _,bx _ [_,_,_] _] _:=At.frame T14.at' [] rfl m19
 obtain ⟨Q26,Q27,Q28⟩:=At.ownInv S19.at' ET_28.hk 0 rfl
 clear m19
 refine l_op (s_store S19.at' 1 TI_28 rfl rfl rfl rfl rfl (F.g rfl) (F.g rfl) rfl rfl rfl rfl rfl fun w22 S22=>?_)
 refine zr fun _ F=>?_
 refine zw F S22.at' 0 fun _ F=>?_
 refine l_op (s_store S22.at' 2 TI_210 rfl rfl rfl rfl rfl (F.g rfl) (F.g rfl) rfl rfl rfl rfl rfl fun w24 S24=>?_)
 refine zr fun _ F=>?_
 have Z25:Rd 2 encC okC (V H w [bx b3 [.slice Q0 Q2 Q1,.slice m_Ra m_Rn m_Rc,.slice Q3 Q5 Q4] 210,bx b1 [.slice Q0 Q2 Q1,.slice m_Ra m_Rn m_Rc,.slice Q3 Q5 Q4] 210]) w24 (.slice Q0 Q2 Q1) (putKey m.store key val):=At.freeze (S1.trans (S3.trans (S9.trans (T14.trans (S19.trans (S22.trans S24)))))) ET_28.hk 2 rfl (fun b hb=>((S1.trans (S3.trans (S9.trans (T14.trans (S19.trans (S22.trans S24)))))).fresh b ⟨_,nth_mem (i:=2) rfl,hb⟩).resolve_left (fps_nil _))
 have S25:=At.drop S24.at' 2
 refine x_done F (results_1 rfl (zca F S24.at' 0)) ?_
 exact ⟨Q0,Q2,Q1,m_Ra,m_Rn,m_Rc,Q3,Q5,Q4,rfl,(Mv.pick (S1.trans (S3.trans (S9.trans (T14.trans (S19.trans (S22.trans (S24.trans S25))))))) [] rfl),(Rd.cast (Rd.give Z25) (by rfl)),(Rd.cast (Rd.give (Rd.mq V_v_m_touch_reads (S1.trans (S3.trans (S9.trans (T14.trans (S19.trans (S22.trans (S24.trans S25))))))))) (by rfl)),(Rd.cast (Rd.give (Rd.mq V9_0 (T14.trans (S19.trans (S22.trans (S24.trans S25)))))) (by rfl))⟩
theorem impl_Mach_lay_c {w:World} {H:Nat→Prop} {m:MachD} {m_Sa:Option Addr} {m_Sn m_Sc:Nat} {m_Ra:Option Addr} {m_Rn m_Rc:Nat} {m_Wa:Option Addr} {m_Wn m_Wc:Nat} {m_b:Nat} {key:ByteArray} {val:ByteArray} (Q0:okS key) (Q10:okS val) (p0:m.store.length≤274877906943) (p1:m.touch.writes.length≤274877906943) (hA:At w [bx m_b [.slice m_Sa m_Sn m_Sc,.slice m_Ra m_Rn m_Rc,.slice m_Wa m_Wn m_Wc] 210,ow 91 2 encC okC (.slice m_Sa m_Sn m_Sc) m.store,ow 9 1 encS okS (.slice m_Ra m_Rn m_Rc) m.touch.reads,ow 9 1 encS okS (.slice m_Wa m_Wn m_Wc) m.touch.writes]) :
 Calls Tryz.prog 324 #[.pointer (some ⟨m_b,0,none⟩),.string key,.string val] w fun e w'=>∃ (Q4:Option Addr),∃ (Q6:Nat),∃ (Q5:Nat),∃ (Q1:Option Addr),∃ (Q3:Nat),∃ (Q2:Nat),∃ (Q7:Option Addr),∃ (Q9:Nat),∃ (Q8:Nat),e=.returned (.tuple #[])∧Mv [bx m_b [.slice m_Sa m_Sn m_Sc,.slice m_Ra m_Rn m_Rc,.slice m_Wa m_Wn m_Wc] 210,ow 91 2 encC okC (.slice m_Sa m_Sn m_Sc) m.store,ow 9 1 encS okS (.slice m_Ra m_Rn m_Rc) m.touch.reads,ow 9 1 encS okS (.slice m_Wa m_Wn m_Wc) m.touch.writes] w [bx m_b [.slice Q4 Q6 Q5,.slice Q1 Q3 Q2,.slice Q7 Q9 Q8] 210,ow 91 2 encC okC (.slice Q4 Q6 Q5) (layM m key val).store,ow 9 1 encS okS (.slice Q1 Q3 Q2) (layM m key val).touch.reads,ow 9 1 encS okS (.slice Q7 Q9 Q8) (layM m key val).touch.writes] w':=by
 obtain ⟨lo1,lp1,lq1⟩:=At.ownInv hA ET_28.hk 1 rfl
 obtain ⟨lo2,lp2,lq2⟩:=At.ownInv hA ET_44.hk 2 rfl
 obtain ⟨lo3,lp3,lq3⟩:=At.ownInv hA ET_44.hk 3 rfl
 refine ze fun _ F=>?_
 refine zv F (r_nilCheck rfl (F.g rfl)) fun _ F=>?_
 refine zl F hA 0 fun _ F=>?_
 refine zz F (impl_addSpan_c (H:=fun _=>True) (list:=m.touch.writes) (span:=key) Q0 zI8 (At.pick (is:=[3]) hA rfl)) ?_
 rintro _ w8 ⟨Q12,Q16,Q14,rfl,m8⟩
 refine zt fun _ F=>?_
 have S8:Mv _ _ [_,bx _ [_,_,_] _,_,_] _:=At.frame hA [3] rfl m8
 obtain ⟨Q18,Q20,Q22⟩:=At.ownInv S8.at' ET_44.hk 0 rfl
 clear m8
 refine zv F (r_nilCheck rfl (F.g rfl)) fun _ F=>?_
 refine l_op (s_store S8.at' 1 TI_44 rfl rfl rfl rfl rfl (F.g rfl) (F.g rfl) rfl rfl rfl rfl rfl fun w13 S13=>?_)
 refine zr fun _ F=>?_
 refine zv F (r_nilCheck rfl (F.g rfl)) fun _ F=>?_
 refine zl F S13.at' 0 fun _ F=>?_
 refine zz F (impl_put_c (H:=fun _=>True) (s:=m.store) (key:=key) (val:=val) Q0 Q10 zI8 (At.pick (is:=[2]) S13.at' rfl)) ?_
 rintro _ w21 ⟨Q11,Q15,Q13,rfl,m21⟩
 refine zt fun _ F=>?_
 have S21:Mv _ _ [_,bx _ [_,_,_] _,_,_] _:=At.frame S13.at' [2] rfl m21
 obtain ⟨Q17,Q19,Q21⟩:=At.ownInv S21.at' ET_28.hk 0 rfl
 clear m21
 refine zv F (r_nilCheck rfl (F.g rfl)) fun _ F=>?_
 refine l_op (s_store S21.at' 1 TI_28 rfl rfl rfl rfl rfl (F.g rfl) (F.g rfl) rfl rfl rfl rfl rfl fun w25 S25=>?_)
 have T26:Mv _ _ [bx _ [_,_,_] _,_,_,_] _:=S25
 refine zr fun _ F=>?_
 refine x_done_end F (results_0 rfl) ?_
 exact ⟨Q11,Q15,Q13,m_Ra,m_Rn,m_Rc,Q12,Q16,Q14,rfl,(Mv.cast (Mv.pick (S8.trans (S13.trans (S21.trans T26))) [0,1,3,2] rfl) rfl)⟩
theorem impl_Mach_wipe_c {w:World} {H:Nat→Prop} {m:MachD} {m_Sa:Option Addr} {m_Sn m_Sc:Nat} {m_Ra:Option Addr} {m_Rn m_Rc:Nat} {m_Wa:Option Addr} {m_Wn m_Wc:Nat} {m_b:Nat} {pfx:ByteArray} (Q21:okS pfx) (p0:m.store.length≤68719476736) (p1:m.touch.reads.length≤68719476736) (p2:m.touch.writes.length≤68719476736) (p3:pfx.size≤4611686018427387904) (hA:At w [bx m_b [.slice m_Sa m_Sn m_Sc,.slice m_Ra m_Rn m_Rc,.slice m_Wa m_Wn m_Wc] 210,ow 91 2 encC okC (.slice m_Sa m_Sn m_Sc) m.store,ow 9 1 encS okS (.slice m_Ra m_Rn m_Rc) m.touch.reads,ow 9 1 encS okS (.slice m_Wa m_Wn m_Wc) m.touch.writes]) :
 Calls Tryz.prog 325 #[.pointer (some ⟨m_b,0,none⟩),.string pfx] w fun e w'=>∃ (Q15:Option Addr),∃ (Q17:Nat),∃ (Q16:Nat),∃ (Q12:Option Addr),∃ (Q14:Nat),∃ (Q13:Nat),∃ (Q18:Option Addr),∃ (Q20:Nat),∃ (Q19:Nat),e=.returned (.tuple #[])∧Mv [bx m_b [.slice m_Sa m_Sn m_Sc,.slice m_Ra m_Rn m_Rc,.slice m_Wa m_Wn m_Wc] 210,ow 91 2 encC okC (.slice m_Sa m_Sn m_Sc) m.store,ow 9 1 encS okS (.slice m_Ra m_Rn m_Rc) m.touch.reads,ow 9 1 encS okS (.slice m_Wa m_Wn m_Wc) m.touch.writes] w [bx m_b [.slice Q15 Q17 Q16,.slice Q12 Q14 Q13,.slice Q18 Q20 Q19] 210,ow 91 2 encC okC (.slice Q15 Q17 Q16) (wipeM m pfx).store,ow 9 1 encS okS (.slice Q12 Q14 Q13) (wipeM m pfx).touch.reads,ow 9 1 encS okS (.slice Q18 Q20 Q19) (wipeM m pfx).touch.writes] w':=by
 obtain ⟨lo1,lp1,lq1⟩:=At.ownInv hA ET_28.hk 1 rfl
 obtain ⟨lo2,lp2,lq2⟩:=At.ownInv hA ET_44.hk 2 rfl
 obtain ⟨lo3,lp3,lq3⟩:=At.ownInv hA ET_44.hk 3 rfl
 refine ze fun _ F=>?_
 refine zz F (impl_Mach_under_c (H:=fun _=>True) (m:=m) (pfx:=pfx) Q21 zI8 zI8 zI8 (At.pick (is:=[0,1,2,3]) hA rfl)) ?_
 rintro _ w3 ⟨Q10,Q0,Q11,Q4,Q6,Q5,Q1,Q3,Q2,Q7,Q9,Q8,rfl,m3⟩
 refine zt fun _ F=>?_
 have S3:Mv _ _ [_,bx _ [_,_,_] _,_,_,_] _:=At.frame hA [0,1,2,3] rfl m3
 obtain ⟨Q34,Q41,Q48⟩:=At.ownInv S3.at' ET_44.hk 0 rfl
 obtain ⟨Q35,Q42,Q49⟩:=At.ownInv S3.at' ET_28.hk 2 rfl
 obtain ⟨Q36,Q43,Q50⟩:=At.ownInv S3.at' ET_44.hk 3 rfl
 obtain ⟨Q37,Q44,Q51⟩:=At.ownInv S3.at' ET_44.hk 4 rfl
 clear m3
 refine x_lp (fun (k:Nat) aZ wZ=>∃ (M:MachD),∃ (sa:Option Addr),∃ (sn:Nat),∃ (sc:Nat),∃ (ra:Option Addr),∃ (rn:Nat),∃ (rc:Nat),∃ (ua:Option Addr),∃ (un:Nat),∃ (uc:Nat),Fr 18 [(10,.int .i64 ((k:Nat):Int)),(9,.int .i64 ((Q0:Nat):Int)),(8,.slice Q10 Q0 Q11),(0,.pointer (some ⟨m_b,0,none⟩))] aZ∧Mv [ow 9 1 encS okS (.slice Q10 Q0 Q11) (keysUnder m.store pfx),bx m_b [.slice Q4 Q6 Q5,.slice Q1 Q3 Q2,.slice Q7 Q9 Q8] 210,ow 91 2 encC okC (.slice Q4 Q6 Q5) (lookM m (pfx++bT_)).store,ow 9 1 encS okS (.slice Q1 Q3 Q2) (lookM m (pfx++bT_)).touch.reads,ow 9 1 encS okS (.slice Q7 Q9 Q8) (lookM m (pfx++bT_)).touch.writes] w3 [ow 9 1 encS okS (.slice Q10 Q0 Q11) (keysUnder m.store pfx),bx m_b [.slice sa sn sc,.slice ra rn rc,.slice ua un uc] 210,ow 91 2 encC okC (.slice sa sn sc) M.store,ow 9 1 encS okS (.slice ra rn rc) M.touch.reads,ow 9 1 encS okS (.slice ua un uc) M.touch.writes] wZ∧(k≤(keysUnder m.store pfx).length)∧(M=(wipeL (lookM m (pfx++bT_)) ((keysUnder m.store pfx).take k)))) (fun (k:Nat)=>(keysUnder m.store pfx).length - k) (0) ?_ ?_
 ·exact ⟨lookM m (pfx++bT_),Q4,Q6,Q5,Q1,Q3,Q2,Q7,Q9,Q8,F.cut rfl,(Mv.refl S3.at'),by omega,rfl⟩
 ·rintro k a7 w7 ⟨M,sa,sn,sc,ra,rn,rc,ua,un,uc,F,S7,hk_0,hk_1⟩
  have wb:=wipeL_bd (lookM m (pfx++bT_)) ((keysUnder m.store pfx).take k)
  have kl:=keysUnder_length m.store pfx
  have pl:=putL_length m.touch.reads (pfx++bT_)
  rw [List.length_take,← hk_1] at wb
  simp only [lookM] at wb
  refine zr fun _ F=>?_
  refine zc F (k < Q0) fun _ F=>?_
  refine zi F (fun h9=>?_) fun h9=>?_
  ·refine zr fun _ F=>?_
   obtain ⟨B10,O10,x1,ad10,hx1,okx1,ln10,cl10⟩:=Rd.at (At.rd S7.at' ET_44.hk 0 rfl) k zIa
   clear ln10
   refine zv F (r_indexAddr (i:=k) ET_44 rfl ((F.ev 8 rfl).trans (by rw [ad10])) (F.g rfl) (by omega) zIa) fun _ F=>?_
   refine zv (v:=.string x1) F (r_load (cs:=[.string x1]) TI_9 rfl (F.g rfl) rfl (fun _=>rfl) (elem_sub (f:=0) cl10 [.string x1] rfl)) fun _ F=>?_
   refine zz F (impl_Mach_lay_c (H:=fun _=>True) (m:=M) (key:=x1) (val:=bE_) okx1 (by unfold okS;decide) zI8 zI8 (At.pick (is:=[1,2,3,4]) S7.at' rfl)) ?_
   rintro _ w16 ⟨Q25,Q27,Q26,Q22,Q24,Q23,Q28,Q30,Q29,rfl,m16⟩
   refine zt fun _ F=>?_
   have S16:Mv _ _ [bx _ [_,_,_] _,_,_,_,_] _:=At.frame S7.at' [1,2,3,4] rfl m16
   obtain ⟨Q31,Q38,Q45⟩:=At.ownInv S16.at' ET_28.hk 1 rfl
   obtain ⟨Q32,Q39,Q46⟩:=At.ownInv S16.at' ET_44.hk 2 rfl
   obtain ⟨Q33,Q40,Q47⟩:=At.ownInv S16.at' ET_44.hk 3 rfl
   clear m16
   refine zq F ((k+1:Nat):Int) fun _ F=>?_
   exact ⟨k+1,zD,(layM M x1 bE_),Q25,Q27,Q26,Q22,Q24,Q23,Q28,Q30,Q29,F.cut rfl,((S7.trans S16).pick [4,0,1,2,3] rfl),by omega,by rw [wipeL_step hx1,← hk_1]⟩
  ·refine zr fun _ F=>?_
   refine x_done_end F (results_0 rfl) ?_
   exact ⟨sa,sn,sc,ra,rn,rc,ua,un,uc,rfl,(Mv.cast (Mv.pick (S3.trans S7) [1,2,3,4] rfl) (lc rfl (lc (zOw (by subst hk_1;unfold wipeM;rw [List.take_of_length_le (by omega)])) (lc (zOw (by subst hk_1;unfold wipeM;rw [List.take_of_length_le (by omega)])) (lc (zOw (by subst hk_1;unfold wipeM;rw [List.take_of_length_le (by omega)])) rfl)))))⟩
end Go.Proofs.YtipdbeklopjbmaaGreatDoor
