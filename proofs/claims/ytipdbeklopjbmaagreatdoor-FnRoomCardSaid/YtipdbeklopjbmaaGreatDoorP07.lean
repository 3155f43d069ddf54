/-
  Texts laid together: GenE, GenF, GenP.
-/
import Derived.Test.YtipdbeklopjbmaaGreatDoorGenD
set_option linter.unusedVariables false
set_option linter.unusedSimpArgs false
namespace Go.Proofs.YtipdbeklopjbmaaGreatDoor
open Go.ChangeShapes Go.WideShapes Go.ChangeAt Go.RowKit Go.Proofs.Tryz
section
variable {w:World} {H:Nat→Prop}
set_option maxRecDepth 100000
set_option maxHeartbeats 1000000
theorem JcI {H:Nat→Prop} {c:CellD} {key_b:Nat} {key:ByteArray} (Q0:okS c.key) (Q1:okS c.val) (Q2:okS key) (hA:At w [bx key_b [.string key] 9]) :
 Calls prog 187 #[.agg #[.string c.key,.string c.val],pT key_b] w fun e w'=>e=.returned (.bool (decide (c.key=key)))∧Mv [bx key_b [.string key] 9] w [bx key_b [.string key] 9] w':=by
 refine ze fun _ F=>?_
 refine zbx F hA fun b1 w1 S1 _ F=>?_
 refine zl F S1.at' 0 fun _ F=>?_
 refine zl F S1.at' 1 fun _ F=>?_
 refine zv F (J0O (b:=(decide (c.key=key))) (.inl rfl) rfl (F.g rfl) (F.g rfl) rfl) fun _ F=>?_
 refine zd1 F ?_
 exact ⟨rfl,(Mv.pick S1 [1] rfl)⟩
theorem Jce {s:List CellD} {s_a:Option Addr} {s_n s_c:Nat} {f_b:Nat} {f:ByteArray} (v_s:Rd 2 J6 okC H w (.slice s_a s_n s_c) s) (h_f:okS f) (hA:At w [bx f_b [.string f] 9]) (hD:∀ b,H b→¬ fps [bx f_b [.string f] 9] b) :
 Calls prog 100 #[.slice s_a s_n s_c,.func (.func 187) #[] #[pT f_b]] w fun e w'=>e=.returned (iV (JW (fun c:CellD=>decide (c.key=f)) s))∧Mv [bx f_b [.string f] 9] w [bx f_b [.string f] 9] w'∧J1 (JW (fun c:CellD=>decide (c.key=f)) s):=by
 have V_v_s:=Rd.start v_s hD
 obtain ⟨ln_s,le_s,mx_s,ni_s⟩:=Rd.inv v_s
 refine ze fun _ F=>?_
 refine JH hA (fun lZ (k:Nat) aZ wZ=>Fr 19 [(8,nV k),(7,nV s_n),(0,.slice s_a s_n s_c),(1,.func (.func 187) #[] #[pT f_b])] aZ∧Mv lZ w lZ wZ∧(k≤s_n)∧(∀ j,j < k→∀ c,nth s j=some c→(decide (c.key=f))=false)) (fun (k:Nat)=>s_n - k) (0) ?_ ?_
 ·exact ⟨F.cut rfl,(Mv.refl hA),zO,J2m⟩
 rintro k a5 w5 ⟨F,S5,hk_0,hk_1⟩
 refine zr fun _ F=>?_
 refine zc F (k < s_n) fun _ F=>?_
 refine zi F (fun h7=>?_) fun h7=>?_
 ·refine zr fun _ F=>?_
  obtain ⟨B13,O13,x1,ad13,hx1,okx1,ln13,cl13⟩:=Rd.at (Rd.mq V_v_s S5) k yq
  clear ln13
  refine zv F (JB (i:=k) ET_28 rfl ((F.ev 12 rfl).trans (by rw [ad13])) (F.g rfl) zO yq) fun _ F=>?_
  refine zv (v:=.agg #[.string x1.key,.string x1.val]) F (JD (cs:=[.string x1.key,.string x1.val]) J1W rfl (F.g rfl) rfl (fun h=>nomatch h) (JN (f:=0) cl13 [.string x1.key,.string x1.val] rfl)) fun _ F=>?_
  refine J0 (J4w F CFc.h rfl rfl rfl rfl (F.g rfl) (lc (F.g rfl) rfl) (JcI (H:=fun _=>True) (c:=x1) (key:=f) okx1.1 okx1.2 h_f (At.pick (is:=[0]) S5.at' rfl)) ?_)
  rintro _ w16 ⟨rfl,m16⟩
  refine ⟨_,rfl,fun _ F=>?_⟩
  have S16:Mv _ _ [_] _:=At.frame S5.at' [0] rfl m16
  refine zr fun _ F=>?_
  refine zib F (fun h18=>?_) fun h18=>?_
  ·refine zr fun _ F=>?_
   refine zd1 F ?_
   exact ⟨(zV1 (zVi yBn)),(Mv.pick (S5.trans S16) [0] rfl),J45 _ s zO⟩
  refine zr fun _ F=>?_
  refine zq F ((k+1:Nat):Int) fun _ F=>?_
  exact ⟨k+1,zD,F.cut rfl,((S5.trans S16).pick [0] rfl),zO,J0F hk_1 (fun c hc=>by obtain rfl:=Option.some.inj (hx1.symm.trans hc);first|assumption|exact decide_eq_false zA)⟩
 refine zr fun _ F=>?_
 refine zd1 F ?_
 exact ⟨(zV1 (zVi yBv)),(Mv.pick S5 [0] rfl),J45 _ s zO⟩
theorem Jda {s:List CellD} {s_a:Option Addr} {s_n s_c:Nat} {key:ByteArray} (v_s:Rd 2 J6 okC H w (.slice s_a s_n s_c) s) (Q0:okS key) :
 Calls prog 159 #[.slice s_a s_n s_c,.string key] w fun e w'=>e=.returned (iV (J1D s key))∧Mv [] w [] w'∧J1 (J1D s key):=by
 have V_v_s:=Rd.start v_s zN
 obtain ⟨ln_s,le_s,mx_s,ni_s⟩:=Rd.inv v_s
 refine ze fun _ F=>?_
 refine zbx F (At.nil w) fun b1 w1 S1 _ F=>?_
 refine zv F (J6p rfl (lc (F.g rfl) rfl)) fun _ F=>?_
 refine zz F (Jce (s:=s) (f:=key) (Rd.mq V_v_s S1) Q0 (At.pick (is:=[0]) S1.at' rfl) (J9 (is:=[0]))) ?_
 rintro _ w6 ⟨rfl,m6,q6_0⟩
 refine zt fun _ F=>?_
 have S6:Mv _ _ [_] _:=At.frame S1.at' [0] rfl m6
 refine zd1 F ?_
 exact ⟨rfl,(Mv.pick (S1.trans S6) [] rfl),yq⟩
theorem J8i {s:List CellD} {s_a:Option Addr} {s_n s_c:Nat} {key:ByteArray} (v_s:Rd 2 J6 okC H w (.slice s_a s_n s_c) s) (Q0:okS key) :
 Calls prog 117 #[.slice s_a s_n s_c,.string key] w fun e w'=>e=.returned (.string (Jl s key))∧Mv [] w [] w'∧okS (Jl s key):=by
 have V_v_s:=Rd.start v_s zN
 obtain ⟨ln_s,le_s,mx_s,ni_s⟩:=Rd.inv v_s
 refine ze fun _ F=>?_
 refine zzq F (At.nil w) (Jda (s:=s) (key:=key) V_v_s Q0) ?_
 rintro w4 S4 q4_0 _ F
 refine zc F ((J1D s key) ≥ 0) fun _ F=>?_
 refine zi F (fun h9=>?_) fun h9=>?_
 ·refine zr fun _ F=>?_
  obtain ⟨B12,O12,x1,ad12,hx1,okx1,ln12,cl12⟩:=Rd.at (Rd.mq V_v_s S4) (J1D s key).toNat (by have:=J9a s key;omega)
  clear ln12
  refine zv F (JB (i:=(J1D s key).toNat) ET_28 rfl ((F.ev 11 rfl).trans (by rw [ad12])) (F.g rfl) zO (by have:=J9a s key;omega)) fun _ F=>?_
  refine zv (v:=.string x1.val) F (JD (cs:=[.string x1.val]) J0j rfl (F.g rfl) rfl (fun _=>rfl) (JN (f:=1) cl12 [.string x1.val] rfl)) fun _ F=>?_
  refine zd1 F ?_
  exact ⟨(zV1 (zVs (by obtain ⟨g1,g2⟩:=J6Y (p:=fun c:CellD=>decide (c.key=key)) (k:=(J1D s key).toNat) (show J1D s key=_ by omega) hx1;exact (J50 hx1 (of_decide_eq_true g1) (fun j hj y hy=>of_decide_eq_false (g2 j hj y hy))).symm))),(Mv.pick S4 [] rfl),(zOk (by obtain ⟨g1,g2⟩:=J6Y (p:=fun c:CellD=>decide (c.key=key)) (k:=(J1D s key).toNat) (show J1D s key=_ by omega) hx1;exact (J50 hx1 (of_decide_eq_true g1) (fun j hj y hy=>of_decide_eq_false (g2 j hj y hy))).symm) okx1.2)⟩
 refine zr fun _ F=>?_
 refine zd1 F ?_
 exact ⟨(zV1 (zVs (by exact (J55 (k:=s.length) (Nat.le_refl _) (fun j hj y hy=>of_decide_eq_false (J6Z (p:=fun c:CellD=>decide (c.key=key)) (show ¬ 0≤J1D s key by omega) j hj y hy))).symm))),(Mv.pick S4 [] rfl),((show bE_=(Jl s key) from by exact (J55 (k:=s.length) (Nat.le_refl _) (fun j hj y hy=>of_decide_eq_false (J6Z (p:=fun c:CellD=>decide (c.key=key)) (show ¬ 0≤J1D s key by omega) j hj y hy))).symm) ▸ (by unfold okS;decide))⟩
theorem Jcy {H:Nat→Prop} {m:MachD} {m_Sa:Option Addr} {m_Sn m_Sc:Nat} {m_Ra:Option Addr} {m_Rn m_Rc:Nat} {m_Wa:Option Addr} {m_Wn m_Wc:Nat} {m_b:Nat} {key:ByteArray} (Q0:okS key) (p0:m.touch.reads.length≤274877906944) (hA:At w [bx m_b [.slice m_Sa m_Sn m_Sc,.slice m_Ra m_Rn m_Rc,.slice m_Wa m_Wn m_Wc] 210,qC m_Sa m_Sn m_Sc m.store,qS m_Ra m_Rn m_Rc m.touch.reads,qS m_Wa m_Wn m_Wc m.touch.writes]) :
 Calls prog 335 #[pT m_b,.string key] w fun e w'=>∃ (Q4:Option Addr)(Q6 Q5:Nat)(Q1:Option Addr)(Q3 Q2:Nat)(Q7:Option Addr)(Q9 Q8:Nat),e=.returned (.string (Jl m.store key))∧Mv [bx m_b [.slice m_Sa m_Sn m_Sc,.slice m_Ra m_Rn m_Rc,.slice m_Wa m_Wn m_Wc] 210,qC m_Sa m_Sn m_Sc m.store,qS m_Ra m_Rn m_Rc m.touch.reads,qS m_Wa m_Wn m_Wc m.touch.writes] w [bx m_b [.slice Q4 Q6 Q5,.slice Q1 Q3 Q2,.slice Q7 Q9 Q8] 210,qC Q4 Q6 Q5 (J15 m key).store,qS Q1 Q3 Q2 (J15 m key).touch.reads,qS Q7 Q9 Q8 (J15 m key).touch.writes] w'∧okS (Jl m.store key):=by
 obtain ⟨lo1,lp1,lq1⟩:=At.ownInv hA ET_28.hk 1 rfl
 obtain ⟨lo2,lp2,lq2⟩:=At.ownInv hA ET_44.hk 2 rfl
 obtain ⟨lo3,lp3,lq3⟩:=At.ownInv hA ET_44.hk 3 rfl
 refine ze fun _ F=>?_
 refine zv F (J0s rfl (F.g rfl)) fun _ F=>?_
 refine zl F hA 0 fun _ F=>?_
 refine zz F (J63 (H:=fun _=>True) (list:=m.touch.reads) (span:=key) Q0 yb (At.pick (is:=[2]) hA rfl)) ?_
 rintro _ w9 ⟨Q11,Q13,Q12,rfl,m9⟩
 refine zt fun _ F=>?_
 have S9:Mv _ _ [_,bx _ [_,_,_] _,_,_] _:=At.frame hA [2] rfl m9
 obtain ⟨Q14,Q15,Q16⟩:=At.ownInv S9.at' ET_44.hk 0 rfl
 refine zv F (J0s rfl (F.g rfl)) fun _ F=>?_
 refine zst F S9.at' 1 fun w14 S14 _ F=>?_
 refine zv F (J0s rfl (F.g rfl)) fun _ F=>?_
 refine zl F S14.at' 0 fun _ F=>?_
 refine zzq F S14.at' (J8i (H:=fun _=>True) (s:=m.store) (key:=key) (At.rd S14.at' ET_28.hk 2 rfl) Q0) ?_
 rintro w20 S20 Q10 _ F
 refine zd1 F ?_
 exact ⟨m_Sa,m_Sn,m_Sc,Q11,Q13,Q12,m_Wa,m_Wn,m_Wc,rfl,(Mv.cast (Mv.pick (tc3 S9 S14 S20) [0,2,1,3] rfl) rfl),Q10⟩
end
section
variable {w:World} {H:Nat→Prop}
set_option maxRecDepth 100000
set_option maxHeartbeats 1000000
theorem J7Z {H:Nat→Prop} {s:ByteArray} {pfx:ByteArray} (h_s:okS s) (Q0:okS pfx) :
 Calls prog 383 #[.string s,.string pfx] w fun e w'=>e=.returned (.bool (J0h s pfx))∧Mv [] w [] w':=by
 refine ze fun _ F=>?_
 refine zc F (s.size ≥ pfx.size) fun _ F=>?_
 rcases Decidable.em (s.size ≥ pfx.size) with h8|h8
 ·rw [decide_eq_true h8] at F
  refine zr fun _ F=>?_
  refine zv F (J2p (l:=0) (h:=pfx.size) underlying9 rfl (F.g rfl) rfl (F.g rfl) yq yq rfl) fun _ F=>?_
  refine zv F (J0O (b:=(decide ((s.extract 0 pfx.size)=pfx))) (.inl rfl) rfl (F.g rfl) (F.g rfl) rfl) fun _ F=>?_
  refine zd1 F ?_
  exact ⟨(zV1 (zVb (by unfold J0h;by_cases hb:pfx.size≤s.size <;> simp_all <;> omega))),(Mv.pick (Mv.refl (At.nil w)) [] rfl)⟩
 rw [decide_eq_false h8] at F
 refine zr fun _ F=>?_
 refine zd1 F ?_
 exact ⟨(zV1 (zVb (by unfold J0h;by_cases hb:pfx.size≤s.size <;> simp_all <;> omega))),(Mv.pick (Mv.refl (At.nil w)) [] rfl)⟩
theorem Jcl {H:Nat→Prop} {s:ByteArray} {pfx:ByteArray} (h_s:okS s) (Q0:okS pfx) :
 Calls prog 377 #[.string s,.string pfx] w fun e w'=>e=.returned (.bool (J0h s pfx))∧Mv [] w [] w':=by
 refine ze fun _ F=>?_
 refine zzp F (At.nil w) (J7Z (H:=fun _=>True) (s:=s) (pfx:=pfx) h_s Q0) fun w4 S4 _ F=>?_
 refine zd1 F ?_
 exact ⟨rfl,(Mv.pick S4 [] rfl)⟩
theorem Jcx {s:List CellD} {s_a:Option Addr} {s_n s_c:Nat} {pfx:ByteArray} (v_s:Rd 2 J6 okC H w (.slice s_a s_n s_c) s) (Q0:okS pfx) (p0:s_n≤1099511627776) :
 Calls prog 360 #[.slice s_a s_n s_c,.string pfx] w fun e w'=>∃ (r0_a:Option Addr)(r0_n r0_c:Nat),e=.returned (.slice r0_a r0_n r0_c)∧Mv [] w [qS r0_a r0_n r0_c (Jt s pfx)] w':=by
 have V_v_s:=Rd.start v_s zN
 obtain ⟨ln_s,le_s,mx_s,ni_s⟩:=Rd.inv v_s
 refine ze fun _ F=>?_
 have S7:Mv [] w [qS none 0 0 ([]:List ByteArray)] w:=J2O (At.nil w)
 refine JH S7.at' (fun lZ (k:Nat) aZ wZ=>∃ (oa:Option Addr)(on oc:Nat),Fr 25 [(10,nV k),(9,nV s_n),(8,.slice s_a s_n s_c),(5,.slice oa on oc),(1,.string pfx)] aZ∧Mv lZ w [qS oa on oc (Jt (s.take k) pfx)] wZ∧(k≤s_n)) (fun (k:Nat)=>s_n - k) (0) ?_ ?_
 ·exact ⟨none,0,0,F.cut rfl,(Mv.refl S7.at'),zO⟩
 rintro k a6 w6 ⟨oa,on,oc,F,S6,hk_0⟩
 refine zr fun _ F=>?_
 refine zc F (k < s_n) fun _ F=>?_
 refine zi F (fun h9=>?_) fun h9=>?_
 ·refine zr fun _ F=>?_
  obtain ⟨B10,O10,x1,ad10,hx1,okx1,ln10,cl10⟩:=Rd.at (Rd.mq V_v_s (S7.trans S6)) k yq
  clear ln10
  refine zv F (JB (i:=k) ET_28 rfl ((F.ev 8 rfl).trans (by rw [ad10])) (F.g rfl) zO yq) fun _ F=>?_
  refine zv (v:=.agg #[.string x1.key,.string x1.val]) F (JD (cs:=[.string x1.key,.string x1.val]) J1W rfl (F.g rfl) rfl (fun h=>nomatch h) (JN (f:=0) cl10 [.string x1.key,.string x1.val] rfl)) fun _ F=>?_
  refine zal F S6.at' J5E fun b13 w13 S13 _ F=>?_
  refine zst F S13.at' 0 fun w15 S15 _ F=>?_
  have T16:Mv _ _ [bx _ [_,_] _,_] _:=S15
  refine zl F T16.at' 0 fun _ F=>?_
  refine zzp F T16.at' (Jcl (H:=fun _=>True) (s:=x1.key) (pfx:=pfx) okx1.1 Q0) fun w20 S20 _ F=>?_
  refine zib F (fun h22=>?_) fun h22=>?_
  ·refine zr fun _ F=>?_
   refine zl F S20.at' 0 fun _ F=>?_
   refine zbs (ok:=okS) F S20.at' ([x1.key]) ET_44 (fun x hx=>(List.mem_singleton.1 hx) ▸ okx1.1) fun b26 w26 S26 _ F=>?_
   refine J0 (Jv (news:=[x1.key]) F S26.at' 2 ET_44 rfl rfl rfl rfl rfl rfl (F.g rfl) (F.g rfl) ((At.rd S26.at' ET_44.hk 0 rfl)).1 (by have:=J8a s pfx k;((repeat (first|rw [List.length_append]|rw [List.length_cons]|rw [List.length_nil]|rw [List.length_take]|rw [List.length_drop])) <;> omega)) fun A28 N28 C28 _ w28 F S28 l28=>?_)
   have S30:=At.drop S28.at' 1
   refine zr fun _ F=>?_
   have T32:Mv _ _ [_,bx _ [_,_] _] _:=S30
   refine zq F ((k+1:Nat):Int) fun _ F=>?_
   exact ⟨k+1,zD,A28,N28,C28,F.cut rfl,(Mv.cast ((tc7 S6 S13 T16 S20 S26 S28 T32).pick [0] rfl) (by (rw [J4U hx1];first|rw [if_pos zA]|rw [if_neg (ne_true_of_eq_false zA),List.append_nil]);all_goals rfl)),zO⟩
  refine zr fun _ F=>?_
  refine zq F ((k+1:Nat):Int) fun _ F=>?_
  exact ⟨k+1,zD,oa,on,oc,F.cut rfl,(Mv.cast ((tc4 S6 S13 T16 S20).pick [1] rfl) (by (rw [J4U hx1];first|rw [if_pos zA]|rw [if_neg (ne_true_of_eq_false zA),List.append_nil]);all_goals rfl)),zO⟩
 refine zr fun _ F=>?_
 refine zd1 F ?_
 exact ⟨oa,on,oc,rfl,(Mv.cast (Mv.pick (S7.trans S6) [0] rfl) (lc (zOw (by rw [List.take_of_length_le zO])) rfl))⟩
theorem JcL {m:MachD} {m_Sa:Option Addr} {m_Sn m_Sc:Nat} {m_Ra:Option Addr} {m_Rn m_Rc:Nat} {m_Wa:Option Addr} {m_Wn m_Wc:Nat} {pfx:ByteArray} (Q10:Rd 2 J6 okC H w (.slice m_Sa m_Sn m_Sc) m.store) (Q11:Rd 1 J3 okS H w (.slice m_Ra m_Rn m_Rc) m.touch.reads) (Q12:Rd 1 J3 okS H w (.slice m_Wa m_Wn m_Wc) m.touch.writes) (Q15:okS pfx) (p0:m.store.length≤274877906944) (p1:m.touch.reads.length≤274877906944) (p2:pfx.size≤4611686018427387904) :
 Calls prog 296 #[.agg #[.slice m_Sa m_Sn m_Sc,.slice m_Ra m_Rn m_Rc,.slice m_Wa m_Wn m_Wc],.string pfx] w fun e w'=>∃ (Q4:Option Addr)(Q6 Q5:Nat)(Q1:Option Addr)(Q3 Q2:Nat)(Q7:Option Addr)(Q9 Q8:Nat)(r1_a:Option Addr)(r1_n r1_c:Nat),e=.returned (.tuple #[.agg #[.slice Q4 Q6 Q5,.slice Q1 Q3 Q2,.slice Q7 Q9 Q8],.slice r1_a r1_n r1_c])∧Mv [] w [qS r1_a r1_n r1_c (Jt m.store pfx)] w'∧Rd 2 J6 okC (V (HP H []) w [qS r1_a r1_n r1_c (Jt m.store pfx)]) w' (.slice Q4 Q6 Q5) (J15 m (pfx++bT_)).store∧Rd 1 J3 okS (V (HP H []) w [qS r1_a r1_n r1_c (Jt m.store pfx)]) w' (.slice Q1 Q3 Q2) (J15 m (pfx++bT_)).touch.reads∧Rd 1 J3 okS (V (HP H []) w [qS r1_a r1_n r1_c (Jt m.store pfx)]) w' (.slice Q7 Q9 Q8) (J15 m (pfx++bT_)).touch.writes:=by
 have Q0:Rd 2 J6 okC (V (HP H []) w []) w (.slice m_Sa m_Sn m_Sc) m.store:=Rd.startP Q10 (fun _ _=>JF _)
 obtain ⟨Q25,Q22,Q31,Q34⟩:=Rd.inv Q10
 have Q13:Rd 1 J3 okS (V (HP H []) w []) w (.slice m_Ra m_Rn m_Rc) m.touch.reads:=Rd.startP Q11 (fun _ _=>JF _)
 obtain ⟨Q26,Q23,Q32,Q35⟩:=Rd.inv Q11
 have Q14:Rd 1 J3 okS (V (HP H []) w []) w (.slice m_Wa m_Wn m_Wc) m.touch.writes:=Rd.startP Q12 (fun _ _=>JF _)
 obtain ⟨Q27,Q24,Q33,Q36⟩:=Rd.inv Q12
 refine ze fun _ F=>?_
 refine zbx F (At.nil w) fun b1 w1 S1 _ F=>?_
 refine zal F S1.at' JA fun b3 w3 S3 _ F=>?_
 refine zl F S3.at' 1 fun _ F=>?_
 have k10:pfx.size+bT_.size≤9223372036854775807:=by have:bT_.size=1:=rfl;omega
 refine zv F (J0e rfl (F.g rfl) rfl k10) fun _ F=>?_
 refine zz F (J2V (list:=m.touch.reads) (span:=pfx++bT_) (Rd.mq Q13 (S1.trans S3)) (J1c k10) yb) ?_
 rintro _ w12 ⟨Q16,Q20,Q18,rfl,m12,v12_0⟩
 refine zt fun _ F=>?_
 have S12:=At.frame0 S3.at' m12
 have V12_0:=Rd.got0 S3.at' ((S1.trans S3).kp.size) v12_0 S12
 obtain ⟨ln12_0,le12_0,mx12_0,ni12_0⟩:=Rd.inv V12_0
 refine zst F S12.at' 1 fun w16 S16 _ F=>?_
 have T17:Mv _ _ [bx _ [_,_,_] _,bx _ [_,_,_] _] _:=S16
 refine J1K [] [0,1,2,3,4,5,6] T17.at' [0] zK fun w19 S19 hS=>?_
 refine zg fun _ F=>?_
 refine J2 rfl rfl (zz1 F (JcD (s:=m.store) (pfx:=pfx) (Rd.mq Q0 (tc5 S1 S3 S12 T17 S19)) Q15 yb) ?_)
 rintro _ w24 ⟨Q17,Q21,Q19,rfl,m24⟩
 refine ⟨_,rfl,fun _ F=>?_⟩
 have S24:Mv _ _ [_,bx _ [_,_,_] _,bx _ [_,_,_] _] _:=At.frame S19.at' [] rfl m24
 obtain ⟨Q28,Q29,Q30⟩:=At.ownInv S24.at' ET_44.hk 0 rfl
 refine nS (Sd.of S24 [1] rfl) fun hS=>?_
 refine J2 rfl rfl (J0C S24.at' 2 J7e rfl rfl rfl rfl rfl (F.g rfl) (F.g rfl) rfl rfl rfl rfl rfl fun w26 S26=>?_)
 refine nS (Sd.of (S24.trans S26) [2] rfl) fun hS=>?_
 refine zg fun _ F=>?_
 refine zde F S26.at' 0 ?_
 exact ⟨m_Sa,m_Sn,m_Sc,Q16,Q20,Q18,m_Wa,m_Wn,m_Wc,Q17,Q21,Q19,rfl,(Mv.pick (tc7 S1 S3 S12 T17 S19 S24 S26) [1] rfl),(Rd.cast (Rd.mq (Rd.mq Q0 (tc7 S1 S3 S12 T17 S19 S24 S26)) (Mv.pick (Mv.refl S26.at') [1] rfl)) (by rfl)),(Rd.cast (Rd.mq (Rd.mq V12_0 (tc4 T17 S19 S24 S26)) (Mv.pick (Mv.refl S26.at') [1] rfl)) (by rfl)),(Rd.cast (Rd.mq (Rd.mq Q14 (tc7 S1 S3 S12 T17 S19 S24 S26)) (Mv.pick (Mv.refl S26.at') [1] rfl)) (by rfl))⟩
theorem J82 {H:Nat→Prop} {m:MachD} {m_Sa:Option Addr} {m_Sn m_Sc:Nat} {m_Ra:Option Addr} {m_Rn m_Rc:Nat} {m_Wa:Option Addr} {m_Wn m_Wc:Nat} {m_b:Nat} {pfx:ByteArray} (Q9:okS pfx) (p0:m.store.length≤274877906944) (p1:m.touch.reads.length≤274877906944) (p2:pfx.size≤4611686018427387904) (hA:At w [bx m_b [.slice m_Sa m_Sn m_Sc,.slice m_Ra m_Rn m_Rc,.slice m_Wa m_Wn m_Wc] 210,qC m_Sa m_Sn m_Sc m.store,qS m_Ra m_Rn m_Rc m.touch.reads,qS m_Wa m_Wn m_Wc m.touch.writes]) :
 Calls prog 327 #[pT m_b,.string pfx] w fun e w'=>∃ (r0_a:Option Addr)(r0_n r0_c:Nat)(Q3:Option Addr)(Q5 Q4:Nat)(Q0:Option Addr)(Q2 Q1:Nat)(Q6:Option Addr)(Q8 Q7:Nat),e=.returned (.slice r0_a r0_n r0_c)∧Mv [bx m_b [.slice m_Sa m_Sn m_Sc,.slice m_Ra m_Rn m_Rc,.slice m_Wa m_Wn m_Wc] 210,qC m_Sa m_Sn m_Sc m.store,qS m_Ra m_Rn m_Rc m.touch.reads,qS m_Wa m_Wn m_Wc m.touch.writes] w [qS r0_a r0_n r0_c (Jt m.store pfx),bx m_b [.slice Q3 Q5 Q4,.slice Q0 Q2 Q1,.slice Q6 Q8 Q7] 210,qC Q3 Q5 Q4 (J15 m (pfx++bT_)).store,qS Q0 Q2 Q1 (J15 m (pfx++bT_)).touch.reads,qS Q6 Q8 Q7 (J15 m (pfx++bT_)).touch.writes] w':=by
 obtain ⟨lo1,lp1,lq1⟩:=At.ownInv hA ET_28.hk 1 rfl
 obtain ⟨lo2,lp2,lq2⟩:=At.ownInv hA ET_44.hk 2 rfl
 obtain ⟨lo3,lp3,lq3⟩:=At.ownInv hA ET_44.hk 3 rfl
 refine ze fun _ F=>?_
 refine zv F (J0s rfl (F.g rfl)) fun _ F=>?_
 refine zl F hA 0 fun _ F=>?_
 have k9:pfx.size+bT_.size≤9223372036854775807:=by have:bT_.size=1:=rfl;omega
 refine zv F (J0e rfl (F.g rfl) rfl k9) fun _ F=>?_
 refine zz F (J63 (H:=fun _=>True) (list:=m.touch.reads) (span:=pfx++bT_) (J1c k9) yb (At.pick (is:=[2]) hA rfl)) ?_
 rintro _ w11 ⟨Q10,Q14,Q12,rfl,m11⟩
 refine zt fun _ F=>?_
 have S11:Mv _ _ [_,bx _ [_,_,_] _,_,_] _:=At.frame hA [2] rfl m11
 obtain ⟨Q16,Q18,Q20⟩:=At.ownInv S11.at' ET_44.hk 0 rfl
 refine zv F (J0s rfl (F.g rfl)) fun _ F=>?_
 refine zst F S11.at' 1 fun w16 S16 _ F=>?_
 refine zv F (J0s rfl (F.g rfl)) fun _ F=>?_
 refine zl F S16.at' 0 fun _ F=>?_
 refine zz F (Jcx (H:=fun _=>True) (s:=m.store) (pfx:=pfx) (At.rd S16.at' ET_28.hk 2 rfl) Q9 yb) ?_
 rintro _ w22 ⟨Q11,Q15,Q13,rfl,m22⟩
 refine zt fun _ F=>?_
 have S22:Mv _ _ [_,bx _ [_,_,_] _,_,_,_] _:=At.frame S16.at' [] rfl m22
 obtain ⟨Q17,Q19,Q21⟩:=At.ownInv S22.at' ET_44.hk 0 rfl
 refine zd1 F ?_
 exact ⟨Q11,Q15,Q13,m_Sa,m_Sn,m_Sc,Q10,Q14,Q12,m_Wa,m_Wn,m_Wc,rfl,(Mv.cast (Mv.pick (tc3 S11 S16 S22) [0,1,3,2,4] rfl) rfl)⟩
end
section
variable {w:World} {H:Nat→Prop}
set_option maxRecDepth 100000
set_option maxHeartbeats 1000000
theorem J7Y {H:Nat→Prop} {s:List CellD} {s_a:Option Addr} {s_n s_c:Nat} {i:Int} {v_b:Nat} {v:CellD} (h_i:J1 i) (p0:0≤i) (p1:i≤s.length) (p2:s.length≤549755813888) (hA:At w [qC s_a s_n s_c s,qC (aO v_b) 1 1 ([v])]) :
 Calls prog 102 #[.slice s_a s_n s_c,iV i,.slice (aO v_b) 1 1] w fun e w'=>∃ (r0_a:Option Addr)(r0_n r0_c:Nat),e=.returned (.slice r0_a r0_n r0_c)∧Mv [qC s_a s_n s_c s,qC (aO v_b) 1 1 ([v])] w [qC r0_a r0_n r0_c (JL s i.toNat v)] w':=by
 have hO:=hA.ok _ (List.mem_cons_self ..)
 have hO2:=hA.ok _ (List.mem_cons_of_mem _ (List.mem_cons_self ..))
 obtain ⟨hv,hv2⟩:=JgD cellT.hk hO2
 have hl:s.length=s_n:=by obtain ⟨_,_,e,_⟩:=(Own.rd cellT.hk hO).inv;cases e;rfl
 obtain ⟨j,rfl⟩:=Int.eq_ofNat_of_zero_le p0
 refine (Jdb _ j v v_b w s hO zO zO hv2 hv (fun b hb e=>?_)).mono ?_
 ·subst e
  exact hA.apartAt (i:=0) (j:=1) rfl rfl (by decide) b (show Value.ownBlock _=some b by simpa using hb) rfl
 rintro e w' ⟨v',rfl,h1,h2,h3⟩
 have hm:Mv _ w _ w':=hA.frame [0] rfl (J6I h1 h2 h3)
 obtain ⟨r0_a,r0_n,r0_c,rfl⟩:∃ a n c,v'=.slice a n c:=by obtain ⟨a,c,e,_⟩:=(Own.rd cellT.hk h1).inv;exact ⟨_,_,_,e⟩
 exact ⟨r0_a,r0_n,r0_c,rfl,hm.pick [0] rfl⟩
theorem J8v {H:Nat→Prop} {key:ByteArray} (Q0:okS key) :
 Calls prog 132 #[.string key] w fun e w'=>e=.returned (.bool (J0L key))∧Mv [] w [] w':=by
 have kz:=Q0
 unfold okS at kz
 refine ze fun _ F=>?_
 refine JH (At.nil w) (fun lZ (k:Nat) aZ wZ=>Fr 25 [(3,nV k),(0,.string key)] aZ∧Mv lZ w [] wZ∧(k≤key.size)∧(∀ j,j < k→kb (J5 key j)=true)) (fun (k:Nat)=>key.size - k) (0) ?_ ?_
 ·exact ⟨F.cut rfl,(Mv.refl (At.nil w)),zO,J2m⟩
 rintro k a3 w3 ⟨F,S3,hk_0,hk_1⟩
 refine zr fun _ F=>?_
 refine zc F (k < key.size) fun _ F=>?_
 refine zi F (fun h8=>?_) fun h8=>?_
 ·refine zr fun _ F=>?_
  refine zv F (J0Y (i:=k) underlying9 rfl (F.g rfl) (F.g rfl) zO yq) fun _ F=>?_
  refine zv F (J1a underlying3 underlying5 rfl (F.g rfl) ⟨zO,by first|omega|(have:=J1B key k;omega)⟩) fun _ F=>?_
  refine zzp F S3.at' (J2Y (H:=fun _=>True) (x:=((J5 key k:Nat):Int)) (least:=33) (most:=126) (by have:=J1B key k;exact ⟨zO,zO⟩) yg yg) fun w13 S13 _ F=>?_
  refine zv F (J0q rfl (F.g rfl)) fun _ F=>?_
  rcases Bool.eq_false_or_eq_true (!(inB ((J5 key k:Nat):Int) 33 126)) with h17|h17
  ·rw [h17] at F
   refine zr fun _ F=>?_
   refine zd1 F ?_
   exact ⟨(zV1 (zVb yBt)),(Mv.pick (S3.trans S13) [] rfl)⟩
  rw [h17] at F
  refine zr fun _ F=>?_
  refine zv F (J0Y (i:=k) underlying9 rfl (F.g rfl) (F.g rfl) zO yq) fun _ F=>?_
  refine zc F (J5 key k=42) fun _ F=>?_
  refine zi F (fun h29=>?_) fun h29=>?_
  ·refine zr fun _ F=>?_
   refine zd1 F ?_
   exact ⟨(zV1 (zVb yBt)),(Mv.pick (S3.trans S13) [] rfl)⟩
  refine zr fun _ F=>?_
  refine zq F ((k+1:Nat):Int) fun _ F=>?_
  exact ⟨k+1,zD,F.cut rfl,((S3.trans S13).pick [] rfl),zO,J0F hk_1 (by rw [Jbi];simp_all)⟩
 refine zr fun _ F=>?_
 refine zzp F S3.at' (J2Y (H:=fun _=>True) (x:=((key.size:Nat):Int)) (least:=1) (most:=40) yg yg yg) fun w36 S36 _ F=>?_
 refine zd1 F ?_
 exact ⟨(zV1 (zVb yBt)),(Mv.pick (S3.trans S36) [] rfl)⟩
theorem J8q {H:Nat→Prop} {key:ByteArray} (Q0:okS key) :
 Calls prog 97 #[.string key] w fun e w'=>e=.returned (.bool (J0L key))∧Mv [] w [] w':=by
 have kz:=Q0
 unfold okS at kz
 refine ze fun _ F=>?_
 refine JH (At.nil w) (fun lZ (k:Nat) aZ wZ=>Fr 29 [(6,nV k),(5,nV key.size),(0,.string key)] aZ∧Mv lZ w [] wZ∧(k≤key.size)∧(∀ j,j < k→kb (J5 key j)=true)) (fun (k:Nat)=>key.size - k) (0) ?_ ?_
 ·exact ⟨F.cut rfl,(Mv.refl (At.nil w)),zO,J2m⟩
 rintro k a5 w5 ⟨F,S5,hk_0,hk_1⟩
 refine zr fun _ F=>?_
 refine zc F (k < key.size) fun _ F=>?_
 refine zi F (fun h7=>?_) fun h7=>?_
 ·refine zr fun _ F=>?_
  refine zv F (J0Y (i:=k) underlying9 rfl (F.g rfl) (F.g rfl) zO yq) fun _ F=>?_
  refine zc F (J5 key k < 33) fun _ F=>?_
  rcases Decidable.em (J5 key k < 33) with h15|h15
  ·rw [decide_eq_true h15] at F
   refine zr fun _ F=>?_
   refine zd1 F ?_
   exact ⟨(zV1 (zVb yBm)),(Mv.pick S5 [] rfl)⟩
  rw [decide_eq_false h15] at F
  refine zr fun _ F=>?_
  refine zv F (J0Y (i:=k) underlying9 rfl (F.g rfl) (F.g rfl) zO yq) fun _ F=>?_
  refine zc F (J5 key k > 126) fun _ F=>?_
  rcases Decidable.em (J5 key k > 126) with h34|h34
  ·rw [decide_eq_true h34] at F
   refine zr fun _ F=>?_
   refine zd1 F ?_
   exact ⟨(zV1 (zVb yBm)),(Mv.pick S5 [] rfl)⟩
  rw [decide_eq_false h34] at F
  refine zr fun _ F=>?_
  refine zv F (J0Y (i:=k) underlying9 rfl (F.g rfl) (F.g rfl) zO yq) fun _ F=>?_
  refine zc F (J5 key k=42) fun _ F=>?_
  refine zi F (fun h46=>?_) fun h46=>?_
  ·refine zr fun _ F=>?_
   refine zd1 F ?_
   exact ⟨(zV1 (zVb yBm)),(Mv.pick S5 [] rfl)⟩
  refine zr fun _ F=>?_
  refine zq F ((k+1:Nat):Int) fun _ F=>?_
  exact ⟨k+1,zD,F.cut rfl,(S5.pick [] rfl),zO,J0F hk_1 (by unfold kb;exact decide_eq_true zO)⟩
 refine zr fun _ F=>?_
 refine zzp F S5.at' (J3M (H:=fun _=>True) (n:=((key.size:Nat):Int)) (low:=1) (high:=40) yg yg yg) fun w52 S52 _ F=>?_
 refine zd1 F ?_
 exact ⟨(zV1 (zVb yBm)),(Mv.pick (S5.trans S52) [] rfl)⟩
theorem J8s {H:Nat→Prop} {c:CellD} {key_b:Nat} {key:ByteArray} (Q0:okS c.key) (Q1:okS c.val) (Q2:okS key) (hA:At w [bx key_b [.string key] 9]) :
 Calls prog 99 #[.agg #[.string c.key,.string c.val],pT key_b] w fun e w'=>e=.returned (.bool (decide (c.key=key)))∧Mv [bx key_b [.string key] 9] w [bx key_b [.string key] 9] w':=by
 refine ze fun _ F=>?_
 refine zbx F hA fun b1 w1 S1 _ F=>?_
 refine zl F S1.at' 0 fun _ F=>?_
 refine zl F S1.at' 1 fun _ F=>?_
 refine zv F (J0O (b:=(decide (c.key=key))) (.inl rfl) rfl (F.g rfl) (F.g rfl) rfl) fun _ F=>?_
 refine zd1 F ?_
 exact ⟨rfl,(Mv.pick S1 [1] rfl)⟩
theorem Jdz {H:Nat→Prop} {c:CellD} {key_b:Nat} {key:ByteArray} (Q0:okS c.key) (Q1:okS c.val) (Q2:okS key) (hA:At w [bx key_b [.string key] 9]) :
 Calls prog 101 #[.agg #[.string c.key,.string c.val],pT key_b] w fun e w'=>e=.returned (.bool (!leS c.key key))∧Mv [bx key_b [.string key] 9] w [bx key_b [.string key] 9] w':=by
 refine ze fun _ F=>?_
 refine zbx F hA fun b1 w1 S1 _ F=>?_
 refine zl F S1.at' 0 fun _ F=>?_
 refine zl F S1.at' 1 fun _ F=>?_
 refine zv F (J0O (b:=(!leS c.key key)) (.inr (.inr (.inr (.inr (.inl rfl))))) rfl (F.g rfl) (F.g rfl) rfl) fun _ F=>?_
 refine zd1 F ?_
 exact ⟨rfl,(Mv.pick S1 [1] rfl)⟩
theorem Jcg {s:List CellD} {s_a:Option Addr} {s_n s_c:Nat} {f_b:Nat} {f:ByteArray} (v_s:Rd 2 J6 okC H w (.slice s_a s_n s_c) s) (h_f:okS f) (hA:At w [bx f_b [.string f] 9]) (hD:∀ b,H b→¬ fps [bx f_b [.string f] 9] b) :
 Calls prog 100 #[.slice s_a s_n s_c,.func (.func 99) #[] #[pT f_b]] w fun e w'=>e=.returned (iV (JW (fun c:CellD=>decide (c.key=f)) s))∧Mv [bx f_b [.string f] 9] w [bx f_b [.string f] 9] w'∧J1 (JW (fun c:CellD=>decide (c.key=f)) s):=by
 have V_v_s:=Rd.start v_s hD
 obtain ⟨ln_s,le_s,mx_s,ni_s⟩:=Rd.inv v_s
 refine ze fun _ F=>?_
 refine JH hA (fun lZ (k:Nat) aZ wZ=>Fr 19 [(8,nV k),(7,nV s_n),(0,.slice s_a s_n s_c),(1,.func (.func 99) #[] #[pT f_b])] aZ∧Mv lZ w lZ wZ∧(k≤s_n)∧(∀ j,j < k→∀ c,nth s j=some c→(decide (c.key=f))=false)) (fun (k:Nat)=>s_n - k) (0) ?_ ?_
 ·exact ⟨F.cut rfl,(Mv.refl hA),zO,J2m⟩
 rintro k a5 w5 ⟨F,S5,hk_0,hk_1⟩
 refine zr fun _ F=>?_
 refine zc F (k < s_n) fun _ F=>?_
 refine zi F (fun h7=>?_) fun h7=>?_
 ·refine zr fun _ F=>?_
  obtain ⟨B13,O13,x1,ad13,hx1,okx1,ln13,cl13⟩:=Rd.at (Rd.mq V_v_s S5) k yq
  clear ln13
  refine zv F (JB (i:=k) ET_28 rfl ((F.ev 12 rfl).trans (by rw [ad13])) (F.g rfl) zO yq) fun _ F=>?_
  refine zv (v:=.agg #[.string x1.key,.string x1.val]) F (JD (cs:=[.string x1.key,.string x1.val]) J1W rfl (F.g rfl) rfl (fun h=>nomatch h) (JN (f:=0) cl13 [.string x1.key,.string x1.val] rfl)) fun _ F=>?_
  refine J0 (J4w F CFc.h rfl rfl rfl rfl (F.g rfl) (lc (F.g rfl) rfl) (J8s (H:=fun _=>True) (c:=x1) (key:=f) okx1.1 okx1.2 h_f (At.pick (is:=[0]) S5.at' rfl)) ?_)
  rintro _ w16 ⟨rfl,m16⟩
  refine ⟨_,rfl,fun _ F=>?_⟩
  have S16:Mv _ _ [_] _:=At.frame S5.at' [0] rfl m16
  refine zr fun _ F=>?_
  refine zib F (fun h18=>?_) fun h18=>?_
  ·refine zr fun _ F=>?_
   refine zd1 F ?_
   exact ⟨(zV1 (zVi yBn)),(Mv.pick (S5.trans S16) [0] rfl),J45 _ s zO⟩
  refine zr fun _ F=>?_
  refine zq F ((k+1:Nat):Int) fun _ F=>?_
  exact ⟨k+1,zD,F.cut rfl,((S5.trans S16).pick [0] rfl),zO,J0F hk_1 (fun c hc=>by obtain rfl:=Option.some.inj (hx1.symm.trans hc);first|assumption|exact decide_eq_false zA)⟩
 refine zr fun _ F=>?_
 refine zd1 F ?_
 exact ⟨(zV1 (zVi yBv)),(Mv.pick S5 [0] rfl),J45 _ s zO⟩
theorem Jch {s:List CellD} {s_a:Option Addr} {s_n s_c:Nat} {f_b:Nat} {f:ByteArray} (v_s:Rd 2 J6 okC H w (.slice s_a s_n s_c) s) (h_f:okS f) (hA:At w [bx f_b [.string f] 9]) (hD:∀ b,H b→¬ fps [bx f_b [.string f] 9] b) :
 Calls prog 100 #[.slice s_a s_n s_c,.func (.func 101) #[] #[pT f_b]] w fun e w'=>e=.returned (iV (JW (fun c:CellD=>!leS c.key f) s))∧Mv [bx f_b [.string f] 9] w [bx f_b [.string f] 9] w'∧J1 (JW (fun c:CellD=>!leS c.key f) s):=by
 have V_v_s:=Rd.start v_s hD
 obtain ⟨ln_s,le_s,mx_s,ni_s⟩:=Rd.inv v_s
 refine ze fun _ F=>?_
 refine JH hA (fun lZ (k:Nat) aZ wZ=>Fr 19 [(8,nV k),(7,nV s_n),(0,.slice s_a s_n s_c),(1,.func (.func 101) #[] #[pT f_b])] aZ∧Mv lZ w lZ wZ∧(k≤s_n)∧(∀ j,j < k→∀ c,nth s j=some c→(!leS c.key f)=false)) (fun (k:Nat)=>s_n - k) (0) ?_ ?_
 ·exact ⟨F.cut rfl,(Mv.refl hA),zO,J2m⟩
 rintro k a5 w5 ⟨F,S5,hk_0,hk_1⟩
 refine zr fun _ F=>?_
 refine zc F (k < s_n) fun _ F=>?_
 refine zi F (fun h7=>?_) fun h7=>?_
 ·refine zr fun _ F=>?_
  obtain ⟨B13,O13,x1,ad13,hx1,okx1,ln13,cl13⟩:=Rd.at (Rd.mq V_v_s S5) k yq
  clear ln13
  refine zv F (JB (i:=k) ET_28 rfl ((F.ev 12 rfl).trans (by rw [ad13])) (F.g rfl) zO yq) fun _ F=>?_
  refine zv (v:=.agg #[.string x1.key,.string x1.val]) F (JD (cs:=[.string x1.key,.string x1.val]) J1W rfl (F.g rfl) rfl (fun h=>nomatch h) (JN (f:=0) cl13 [.string x1.key,.string x1.val] rfl)) fun _ F=>?_
  refine J0 (J4w F CFc.h rfl rfl rfl rfl (F.g rfl) (lc (F.g rfl) rfl) (Jdz (H:=fun _=>True) (c:=x1) (key:=f) okx1.1 okx1.2 h_f (At.pick (is:=[0]) S5.at' rfl)) ?_)
  rintro _ w16 ⟨rfl,m16⟩
  refine ⟨_,rfl,fun _ F=>?_⟩
  have S16:Mv _ _ [_] _:=At.frame S5.at' [0] rfl m16
  refine zr fun _ F=>?_
  refine zib F (fun h18=>?_) fun h18=>?_
  ·refine zr fun _ F=>?_
   refine zd1 F ?_
   exact ⟨(zV1 (zVi yBn)),(Mv.pick (S5.trans S16) [0] rfl),J45 _ s zO⟩
  refine zr fun _ F=>?_
  refine zq F ((k+1:Nat):Int) fun _ F=>?_
  exact ⟨k+1,zD,F.cut rfl,((S5.trans S16).pick [0] rfl),zO,J0F hk_1 (fun c hc=>by obtain rfl:=Option.some.inj (hx1.symm.trans hc);first|assumption|exact decide_eq_false zA)⟩
 refine zr fun _ F=>?_
 refine zd1 F ?_
 exact ⟨(zV1 (zVi yBv)),(Mv.pick S5 [0] rfl),J45 _ s zO⟩
theorem Jdt {H:Nat→Prop} {s:List CellD} {s_a:Option Addr} {s_n s_c:Nat} {del_b:Nat} {del:ByteArray} (Q0:okS del) (hA:At w [qC s_a s_n s_c s,bx del_b [.string del] 9]) :
 Calls prog 98 #[.slice s_a s_n s_c,.func (.func 99) #[] #[pT del_b]] w fun e w'=>∃ (r0_a:Option Addr)(r0_n r0_c:Nat),e=.returned (.slice r0_a r0_n r0_c)∧Mv [qC s_a s_n s_c s,bx del_b [.string del] 9] w [qC r0_a r0_n r0_c (Jx s del),bx del_b [.string del] 9] w':=by
 obtain ⟨lo0,lp0,lq0⟩:=At.ownInv hA ET_28.hk 0 rfl
 refine ze fun _ F=>?_
 refine zz F (Jcg (H:=fun b=>¬ fps (sel _ [1]) b) (s:=s) (f:=del) (At.rdOff hA ET_28.hk 0 rfl [1] rfl) Q0 (At.pick (is:=[1]) hA rfl) (fun _ h=>h)) ?_
 rintro _ w4 ⟨rfl,m4,q4_0⟩
 refine zt fun _ F=>?_
 have S4:Mv _ _ [_,_] _:=At.frame hA [1] rfl m4
 refine zc F ((JW (fun c:CellD=>decide (c.key=del)) s)=(-1)) fun _ F=>?_
 refine zi F (fun h9=>?_) fun h9=>?_
 ·refine zr fun _ F=>?_
  refine zd1 F ?_
  exact ⟨s_a,s_n,s_c,rfl,(Mv.cast (Mv.pick S4 [1,0] rfl) (lc (zOw (by exact JdO zA)) rfl))⟩
 refine zr fun _ F=>?_
 refine zv F (J4e (z:=((JW (fun c:CellD=>decide (c.key=del)) s)+1)) rfl (F.g rfl) rfl yBp ⟨by have:=J2L (fun c:CellD=>decide (c.key=del)) s;omega,by have:=J2L (fun c:CellD=>decide (c.key=del)) s;omega⟩) fun _ F=>?_
 obtain ⟨k0,hk0,hk1,hk2⟩:=Jfq (s:=s) (key:=del) zA
 rw [hk0] at F
 refine JH S4.at' (fun lZ (j:Nat) aZ wZ=>∃ (ii:Nat)(D:List CellD),Fr 42 [(6,nV j),(5,nV ii),(0,.slice s_a s_n s_c),(1,.func (.func 99) #[] #[pT del_b])] aZ∧Mv lZ w4 (lZ.set 1 (qC s_a s_n s_c D)) wZ∧(delInv s del j ii D)) (fun (j:Nat)=>s_n - j) (k0+1) ?_ ?_
 ·exact ⟨k0,s,F.cut rfl,(Mv.refl S4.at'),hk2⟩
 rintro j a15 w15 ⟨ii,D,F,S15,hj_0⟩
 have S15:Mv _ _ [_,_] _:=S15
 obtain ⟨hb1,hb2,hb3⟩:=hj_0.bd
 refine zr fun _ F=>?_
 refine zc F (j < s_n) fun _ F=>?_
 refine zi F (fun h20=>?_) fun h20=>?_
 ·refine zr fun _ F=>?_
  obtain ⟨B23,x1,ad23,hx1,okx1,cl23⟩:=At.ownAt S15.at' ET_28.hk 1 rfl j  yq
  refine zv F (JB (i:=j) ET_28 rfl ((F.ev 22 rfl).trans (by rw [ad23])) (F.g rfl) zO yq) fun _ F=>?_
  refine zv (v:=.agg #[.string x1.key,.string x1.val]) F (JD (cs:=[.string x1.key,.string x1.val]) J1W rfl (F.g rfl) rfl (fun h=>nomatch h) (JN (f:=0) cl23 [.string x1.key,.string x1.val] rfl)) fun _ F=>?_
  refine zal F S15.at' J5E fun b26 w26 S26 _ F=>?_
  refine zst F S26.at' 0 fun w28 S28 _ F=>?_
  have T29:Mv _ _ [bx _ [_,_] _,_,_] _:=S28
  refine zw F T29.at' 0 fun _ F=>?_
  refine J0 (J4w F CFc.h rfl rfl rfl rfl (F.g rfl) (lc (F.g rfl) rfl) (J8s (H:=fun _=>True) (c:=x1) (key:=del) okx1.1 okx1.2 Q0 (At.pick (is:=[1]) T29.at' rfl)) ?_)
  rintro _ w32 ⟨rfl,m32⟩
  refine ⟨_,rfl,fun _ F=>?_⟩
  have S32:Mv _ _ [_,bx _ [_,_] _,_] _:=At.frame T29.at' [1] rfl m32
  refine zv F (J0q rfl (F.g rfl)) fun _ F=>?_
  refine zib F (fun h35=>?_) fun h35=>?_
  ·refine zr fun _ F=>?_
   refine zw F S32.at' 1 fun _ F=>?_
   obtain ⟨B39,x2,ad39,hx2,okx2,cl39⟩:=At.ownAt S32.at' ET_28.hk 2 rfl ii  yq
   refine zv F (JB (i:=ii) ET_28 rfl ((F.ev 30 rfl).trans (by rw [ad39])) (F.g rfl) zO yq) fun _ F=>?_
   refine J0 (J9q S32.at' 2 ii x1 ET_28.hk ET_28.h1 J1W rfl ad39 rfl rfl rfl rfl (F.g rfl) (F.g rfl) rfl yq ⟨okx1.1,okx1.2⟩ fun w41 S41=>?_)
   refine zr fun _ F=>?_
   refine zq F ((ii+1:Nat):Int) fun _ F=>?_
   refine zq F ((j+1:Nat):Int) fun _ F=>?_
   exact ⟨j+1,zD,ii+1,D.set ii x1,F.cut rfl,((tc5 S15 S26 T29 S32 S41).pick [1,0] rfl),by first|exact hj_0.skip hx1 (by simp_all)|exact hj_0.keep hx1 (by simp_all)⟩
  refine zr fun _ F=>?_
  refine zq F ((j+1:Nat):Int) fun _ F=>?_
  exact ⟨j+1,zD,ii,D,F.cut rfl,((tc4 S15 S26 T29 S32).pick [0,2] rfl),by first|exact hj_0.skip hx1 (by simp_all)|exact hj_0.keep hx1 (by simp_all)⟩
 refine zr fun _ F=>?_
 obtain ⟨B53,ad53,qc53⟩:=JgC S15.at' 1 rfl yq
 refine zv F (JfO (lo:=ii) ET_28 rfl (F.g rfl) ad53 (F.g rfl) rfl yq qc53) fun _ F=>?_
 refine J0 (JgO (lo:=ii) (⟨bE_,bE_⟩:CellD) S15.at' 1 ET_28 rfl ad53 rfl rfl rfl rfl (F.g rfl) yq rfl ⟨(by unfold okS;decide),(by unfold okS;decide)⟩ fun w55 S55=>?_)
 refine zr fun _ F=>?_
 refine J0 (Jhd F S55.at' 0 ii ET_28 rfl rfl rfl rfl rfl rfl (F.g rfl) rfl (F.g rfl) yq fun _ F S58=>?_)
 refine zr fun _ F=>?_
 have T61:Mv _ _ [_,_] _:=S58
 refine zd1 F ?_
 exact ⟨s_a,ii,s_c,rfl,(Mv.cast (Mv.pick (tc4 S4 S15 S55 T61) [0,1] rfl) (lc (zOw (by exact hj_0.done zO _)) rfl))⟩
end
end Go.Proofs.YtipdbeklopjbmaaGreatDoor
