/-
  Walks: the program's machines are looked at.
-/
import Derived.Test.YtipdbeklopjbmaaGreatDoorGenD
set_option linter.unusedVariables false
set_option linter.unusedSimpArgs false
namespace Go.Proofs.YtipdbeklopjbmaaGreatDoor
open Go.ChangeShapes Go.WideShapes Go.ChangeAt Go.RowKit
set_option maxRecDepth 100000
set_option maxHeartbeats 1000000
theorem impl_cellAt_1_c {w:World} {H:Nat→Prop} {c:CellD} {key_b:Nat} {key:ByteArray} (Q0:okS c.key) (Q1:okS c.val) (Q2:okS key) (hA:At w [bx key_b [.string key] 9]) :
 Calls Tryz.prog 187 #[.agg #[.string c.key,.string c.val],.pointer (some ⟨key_b,0,none⟩)] w fun e w'=>e=.returned (.bool (decide (c.key=key)))∧Mv [bx key_b [.string key] 9] w [bx key_b [.string key] 9] w':=by
 refine ze fun _ F=>?_
 refine l_op (f_box F hA rfl rfl rfl (F.g rfl) rfl rfl fun b1 _ w1 F S1=>?_)
 refine zr fun _ F=>?_
 refine zl F S1.at' 0 fun _ F=>?_
 refine zl F S1.at' 1 fun _ F=>?_
 refine zv F (r_cmps (b:=(decide (c.key=key))) (.inl rfl) rfl (F.g rfl) (F.g rfl) rfl) fun _ F=>?_
 refine x_done F (results_1 rfl (zta F)) ?_
 exact ⟨rfl,(Mv.pick S1 [1] rfl)⟩
theorem IndexFunc_impl_cellAt_1_c {w:World} {H:Nat→Prop} {s:List CellD} {s_a:Option Addr} {s_n s_c:Nat} {f_b:Nat} {f:ByteArray} (v_s:Rd 2 encC okC H w (.slice s_a s_n s_c) s) (h_f:okS f) (hA:At w [bx f_b [.string f] 9]) (hD:∀ b,H b→¬ fps [bx f_b [.string f] 9] b) :
 Calls Tryz.prog 100 #[.slice s_a s_n s_c,.func (.func 187) #[] #[.pointer (some ⟨f_b,0,none⟩)]] w fun e w'=>e=.returned (.int .i64 (idxP (fun c:CellD=>decide (c.key=f)) s))∧Mv [bx f_b [.string f] 9] w [bx f_b [.string f] 9] w'∧i64ok (idxP (fun c:CellD=>decide (c.key=f)) s):=by
 have V_v_s:=Rd.start v_s hD
 obtain ⟨ln_s,le_s,mx_s,ni_s⟩:=Rd.inv v_s
 refine ze fun _ F=>?_
 refine x_lp (fun (k:Nat) aZ wZ=>Fr 19 [(8,.int .i64 ((k:Nat):Int)),(7,.int .i64 ((s_n:Nat):Int)),(0,.slice s_a s_n s_c),(1,.func (.func 187) #[] #[.pointer (some ⟨f_b,0,none⟩)])] aZ∧Mv [bx f_b [.string f] 9] w [bx f_b [.string f] 9] wZ∧(k≤s_n)∧(∀ j,j < k→∀ c,nth s j=some c→(decide (c.key=f))=false)) (fun (k:Nat)=>s_n - k) (0) ?_ ?_
 ·exact ⟨F.cut rfl,(Mv.refl hA),by omega,all_none⟩
 ·rintro k a5 w5 ⟨F,S5,hk_0,hk_1⟩
  refine zr fun _ F=>?_
  refine zc F (k < s_n) fun _ F=>?_
  refine zi F (fun h7=>?_) fun h7=>?_
  ·refine zr fun _ F=>?_
   obtain ⟨B13,O13,x1,ad13,hx1,okx1,ln13,cl13⟩:=Rd.at (Rd.mq V_v_s S5) k zIa
   clear ln13
   refine zv F (r_indexAddr (i:=k) ET_28 rfl ((F.ev 12 rfl).trans (by rw [ad13])) (F.g rfl) (by omega) zIa) fun _ F=>?_
   refine zv (v:=.agg #[.string x1.key,.string x1.val]) F (r_load (cs:=[.string x1.key,.string x1.val]) TI_91 rfl (F.g rfl) rfl (fun h=>nomatch h) (elem_sub (f:=0) cl13 [.string x1.key,.string x1.val] rfl)) fun _ F=>?_
   refine l_op (f_callv F CF_187 rfl rfl rfl rfl (F.g rfl) (lc (F.g rfl) rfl) (impl_cellAt_1_c (H:=fun _=>True) (c:=x1) (key:=f) okx1.1 okx1.2 h_f (At.pick (is:=[0]) S5.at' rfl)) ?_)
   rintro _ w16 ⟨rfl,m16⟩
   refine ⟨_,rfl,fun _ F=>?_⟩
   have S16:Mv _ _ [_] _:=At.frame S5.at' [0] rfl m16
   clear m16
   refine zr fun _ F=>?_
   refine zib F (fun h18=>?_) fun h18=>?_
   ·refine zr fun _ F=>?_
    refine x_done F (results_1 rfl (zta F)) ?_
    exact ⟨(zV1 (zVi (by exact (idxP_found _ s k _ (by rw [← nth_eq];exact hx1) (by first|assumption|exact decide_eq_true ‹_›) (fun q hq y hy=>hk_1 q hq y (by rw [nth_eq];exact hy))).symm))),(Mv.pick (S5.trans S16) [0] rfl),idxP_ok _ s (by omega)⟩
   ·refine zr fun _ F=>?_
    refine zq F ((k+1:Nat):Int) fun _ F=>?_
    exact ⟨k+1,zD,F.cut rfl,((S5.trans S16).pick [0] rfl),by omega,all_step hk_1 (fun c hc=>by obtain rfl:=Option.some.inj (hx1.symm.trans hc);first|assumption|exact decide_eq_false ‹_›)⟩
  ·refine zr fun _ F=>?_
   refine x_done F (results_1 rfl (zta F)) ?_
   exact ⟨(zV1 (zVi (by exact (idxP_none _ s (fun q hq y hy=>hk_1 q (by omega) y (by rw [nth_eq];exact hy))).symm))),(Mv.pick S5 [0] rfl),idxP_ok _ s (by omega)⟩
theorem impl_cellAt_c {w:World} {H:Nat→Prop} {s:List CellD} {s_a:Option Addr} {s_n s_c:Nat} {key:ByteArray} (v_s:Rd 2 encC okC H w (.slice s_a s_n s_c) s) (Q0:okS key) :
 Calls Tryz.prog 159 #[.slice s_a s_n s_c,.string key] w fun e w'=>e=.returned (.int .i64 (idxKey s key))∧Mv [] w [] w'∧i64ok (idxKey s key):=by
 have V_v_s:=Rd.start v_s zN
 obtain ⟨ln_s,le_s,mx_s,ni_s⟩:=Rd.inv v_s
 refine ze fun _ F=>?_
 refine l_op (f_box F (At.nil w) rfl rfl rfl (F.g rfl) rfl rfl fun b1 _ w1 F S1=>?_)
 refine zr fun _ F=>?_
 refine zv F (r_makeFuncL rfl (lc (F.g rfl) rfl)) fun _ F=>?_
 refine zz F (IndexFunc_impl_cellAt_1_c (s:=s) (f:=key) (Rd.mq V_v_s S1) Q0 (At.pick (is:=[0]) S1.at' rfl) (V_off (is:=[0]))) ?_
 rintro _ w6 ⟨rfl,m6,q6_0⟩
 refine zt fun _ F=>?_
 have S6:Mv _ _ [_] _:=At.frame S1.at' [0] rfl m6
 clear m6
 refine x_done F (results_1 rfl (zta F)) ?_
 exact ⟨rfl,(Mv.pick (S1.trans S6) [] rfl),zIa⟩
theorem impl_GetKey_c {w:World} {H:Nat→Prop} {s:List CellD} {s_a:Option Addr} {s_n s_c:Nat} {key:ByteArray} (v_s:Rd 2 encC okC H w (.slice s_a s_n s_c) s) (Q0:okS key) :
 Calls Tryz.prog 117 #[.slice s_a s_n s_c,.string key] w fun e w'=>e=.returned (.string (getKey s key))∧Mv [] w [] w'∧okS (getKey s key):=by
 have V_v_s:=Rd.start v_s zN
 obtain ⟨ln_s,le_s,mx_s,ni_s⟩:=Rd.inv v_s
 refine ze fun _ F=>?_
 refine zz F (impl_cellAt_c (s:=s) (key:=key) V_v_s Q0) ?_
 rintro _ w4 ⟨rfl,m4,q4_0⟩
 refine zt fun _ F=>?_
 have S4:=At.frame0 (At.nil w) m4
 clear m4
 refine zc F ((idxKey s key) ≥ 0) fun _ F=>?_
 refine zi F (fun h9=>?_) fun h9=>?_
 ·refine zr fun _ F=>?_
  obtain ⟨B12,O12,x1,ad12,hx1,okx1,ln12,cl12⟩:=Rd.at (Rd.mq V_v_s S4) (idxKey s key).toNat (by have:=idxKey_bd s key;omega)
  clear ln12
  refine zv F (r_indexAddr (i:=(idxKey s key).toNat) ET_28 rfl ((F.ev 11 rfl).trans (by rw [ad12])) (F.g rfl) (by omega) (by have:=idxKey_bd s key;omega)) fun _ F=>?_
  refine zv (v:=.string x1.val) F (r_load (cs:=[.string x1.val]) TI_9 rfl (F.g rfl) rfl (fun _=>rfl) (elem_sub (f:=1) cl12 [.string x1.val] rfl)) fun _ F=>?_
  refine x_done F (results_1 rfl (zta F)) ?_
  exact ⟨(zV1 (zVs (by obtain ⟨g1,g2⟩:=idxP_at (p:=fun c:CellD=>decide (c.key=key)) (k:=(idxKey s key).toNat) (show idxKey s key=_ by omega) hx1;exact (getKey_found hx1 (of_decide_eq_true g1) (fun j hj y hy=>of_decide_eq_false (g2 j hj y hy))).symm))),(Mv.pick S4 [] rfl),(zOk (by obtain ⟨g1,g2⟩:=idxP_at (p:=fun c:CellD=>decide (c.key=key)) (k:=(idxKey s key).toNat) (show idxKey s key=_ by omega) hx1;exact (getKey_found hx1 (of_decide_eq_true g1) (fun j hj y hy=>of_decide_eq_false (g2 j hj y hy))).symm) okx1.2)⟩
 ·refine zr fun _ F=>?_
  refine x_done F (results_1 rfl (zta F)) ?_
  exact ⟨(zV1 (zVs (by exact (getKey_none (k:=s.length) (Nat.le_refl _) (fun j hj y hy=>of_decide_eq_false (idxP_no (p:=fun c:CellD=>decide (c.key=key)) (show ¬ 0≤idxKey s key by omega) j hj y hy))).symm))),(Mv.pick S4 [] rfl),((show bE_=(getKey s key) from by exact (getKey_none (k:=s.length) (Nat.le_refl _) (fun j hj y hy=>of_decide_eq_false (idxP_no (p:=fun c:CellD=>decide (c.key=key)) (show ¬ 0≤idxKey s key by omega) j hj y hy))).symm) ▸ (by unfold okS;decide))⟩
theorem impl_Mach_look_c {w:World} {H:Nat→Prop} {m:MachD} {m_Sa:Option Addr} {m_Sn m_Sc:Nat} {m_Ra:Option Addr} {m_Rn m_Rc:Nat} {m_Wa:Option Addr} {m_Wn m_Wc:Nat} {m_b:Nat} {key:ByteArray} (Q0:okS key) (p0:m.touch.reads.length≤274877906944) (hA:At w [bx m_b [.slice m_Sa m_Sn m_Sc,.slice m_Ra m_Rn m_Rc,.slice m_Wa m_Wn m_Wc] 210,ow 91 2 encC okC (.slice m_Sa m_Sn m_Sc) m.store,ow 9 1 encS okS (.slice m_Ra m_Rn m_Rc) m.touch.reads,ow 9 1 encS okS (.slice m_Wa m_Wn m_Wc) m.touch.writes]) :
 Calls Tryz.prog 335 #[.pointer (some ⟨m_b,0,none⟩),.string key] w fun e w'=>∃ (Q4:Option Addr),∃ (Q6:Nat),∃ (Q5:Nat),∃ (Q1:Option Addr),∃ (Q3:Nat),∃ (Q2:Nat),∃ (Q7:Option Addr),∃ (Q9:Nat),∃ (Q8:Nat),e=.returned (.string (getKey m.store key))∧Mv [bx m_b [.slice m_Sa m_Sn m_Sc,.slice m_Ra m_Rn m_Rc,.slice m_Wa m_Wn m_Wc] 210,ow 91 2 encC okC (.slice m_Sa m_Sn m_Sc) m.store,ow 9 1 encS okS (.slice m_Ra m_Rn m_Rc) m.touch.reads,ow 9 1 encS okS (.slice m_Wa m_Wn m_Wc) m.touch.writes] w [bx m_b [.slice Q4 Q6 Q5,.slice Q1 Q3 Q2,.slice Q7 Q9 Q8] 210,ow 91 2 encC okC (.slice Q4 Q6 Q5) (lookM m key).store,ow 9 1 encS okS (.slice Q1 Q3 Q2) (lookM m key).touch.reads,ow 9 1 encS okS (.slice Q7 Q9 Q8) (lookM m key).touch.writes] w'∧okS (getKey m.store key):=by
 obtain ⟨lo1,lp1,lq1⟩:=At.ownInv hA ET_28.hk 1 rfl
 obtain ⟨lo2,lp2,lq2⟩:=At.ownInv hA ET_44.hk 2 rfl
 obtain ⟨lo3,lp3,lq3⟩:=At.ownInv hA ET_44.hk 3 rfl
 refine ze fun _ F=>?_
 refine zv F (r_nilCheck rfl (F.g rfl)) fun _ F=>?_
 refine zl F hA 0 fun _ F=>?_
 refine zz F (impl_addSpan_c (H:=fun _=>True) (list:=m.touch.reads) (span:=key) Q0 zI8 (At.pick (is:=[2]) hA rfl)) ?_
 rintro _ w9 ⟨Q11,Q13,Q12,rfl,m9⟩
 refine zt fun _ F=>?_
 have S9:Mv _ _ [_,bx _ [_,_,_] _,_,_] _:=At.frame hA [2] rfl m9
 obtain ⟨Q14,Q15,Q16⟩:=At.ownInv S9.at' ET_44.hk 0 rfl
 clear m9
 refine zv F (r_nilCheck rfl (F.g rfl)) fun _ F=>?_
 refine l_op (s_store S9.at' 1 TI_44 rfl rfl rfl rfl rfl (F.g rfl) (F.g rfl) rfl rfl rfl rfl rfl fun w14 S14=>?_)
 refine zr fun _ F=>?_
 refine zv F (r_nilCheck rfl (F.g rfl)) fun _ F=>?_
 refine zl F S14.at' 0 fun _ F=>?_
 refine zz F (impl_GetKey_c (H:=fun _=>True) (s:=m.store) (key:=key) (At.rd S14.at' ET_28.hk 2 rfl) Q0) ?_
 rintro _ w20 ⟨rfl,m20,Q10⟩
 refine zt fun _ F=>?_
 have S20:=At.frame0 S14.at' m20
 clear m20
 refine x_done F (results_1 rfl (zta F)) ?_
 exact ⟨m_Sa,m_Sn,m_Sc,Q11,Q13,Q12,m_Wa,m_Wn,m_Wc,rfl,(Mv.cast (Mv.pick (S9.trans (S14.trans S20)) [0,2,1,3] rfl) rfl),Q10⟩
end Go.Proofs.YtipdbeklopjbmaaGreatDoor
