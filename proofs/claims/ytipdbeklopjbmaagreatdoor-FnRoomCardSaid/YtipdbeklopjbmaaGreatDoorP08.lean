/-
  Texts laid together: GenQ, GenU, FactsB, DatTx, CellEq, DatB.
-/
import Derived.Test.YtipdbeklopjbmaaGreatDoorP07
import Derived.Laws.StructEq
set_option linter.unusedVariables false
set_option linter.unusedSimpArgs false
namespace Go.Proofs.YtipdbeklopjbmaaGreatDoor
open Go.ChangeShapes Go.WideShapes Go.ChangeAt Go.RowKit Go.Proofs.Tryz
section
variable {w:World} {H:Nat→Prop}
set_option maxRecDepth 100000
set_option maxHeartbeats 1000000
theorem Jed {H:Nat→Prop} {s:List CellD} {s_a:Option Addr} {s_n s_c:Nat} {key:ByteArray} {val:ByteArray} (Q0:okS key) (Q1:okS val) (p0:s.length≤274877906944) (hA:At w [qC s_a s_n s_c s]) :
 Calls prog 47 #[.slice s_a s_n s_c,.string key,.string val] w fun e w'=>∃ (r0_a:Option Addr)(r0_n r0_c:Nat),e=.returned (.slice r0_a r0_n r0_c)∧Mv [qC s_a s_n s_c s] w [qC r0_a r0_n r0_c (Jp s key val)] w':=by
 obtain ⟨lo0,lp0,lq0⟩:=At.ownInv hA ET_28.hk 0 rfl
 refine ze fun _ F=>?_
 refine zbx F hA fun b1 w1 S1 _ F=>?_
 refine zl F S1.at' 0 fun _ F=>?_
 refine zzp F S1.at' (J8q (H:=fun _=>True) (key:=key) Q0) fun w5 S5 _ F=>?_
 refine zv F (J0q rfl (F.g rfl)) fun _ F=>?_
 rcases Bool.eq_false_or_eq_true (!(J0L key)) with h9|h9
 ·rw [h9] at F
  refine zr fun _ F=>?_
  refine zd1 F ?_
  exact ⟨s_a,s_n,s_c,rfl,(Mv.cast (Mv.pick (S1.trans S5) [1] rfl) (lc (zOw yy) rfl))⟩
 rw [h9] at F
 refine zr fun _ F=>?_
 refine zc F (val.size > 60) fun _ F=>?_
 refine zi F (fun h20=>?_) fun h20=>?_
 ·refine zr fun _ F=>?_
  refine zd1 F ?_
  exact ⟨s_a,s_n,s_c,rfl,(Mv.cast (Mv.pick (S1.trans S5) [1] rfl) (lc (zOw yy) rfl))⟩
 refine zr fun _ F=>?_
 refine zv F (J6p rfl (lc (F.g rfl) rfl)) fun _ F=>?_
 refine zz F (Jdt (H:=fun _=>True) (s:=s) (del:=key) Q0 (At.pick (is:=[1,0]) S5.at' rfl)) ?_
 rintro _ w25 ⟨Q3,Q2,Q6,rfl,m25⟩
 refine zt fun _ F=>?_
 have S25:Mv _ _ [_,_] _:=At.frame S5.at' [1,0] rfl m25
 obtain ⟨Q11,Q14,Q17⟩:=At.ownInv S25.at' ET_28.hk 0 rfl
 refine zv F (J0O (b:=(decide (val=bE_))) (.inl rfl) rfl (F.g rfl) rfl rfl) fun _ F=>?_
 refine zi F (fun h30=>?_) fun h30=>?_
 ·refine zr fun _ F=>?_
  refine zd1 F ?_
  exact ⟨Q3,Q2,Q6,rfl,(Mv.cast (Mv.pick (tc3 S1 S5 S25) [0] rfl) (lc (zOw yy) rfl))⟩
 refine zr fun _ F=>?_
 refine zv F (J6p rfl (lc (F.g rfl) rfl)) fun _ F=>?_
 refine zz F (Jch (H:=fun b=>¬ fps (sel _ [1]) b) (s:=Jx s key) (f:=key) (At.rdOff S25.at' ET_28.hk 0 rfl [1] rfl) Q0 (At.pick (is:=[1]) S25.at' rfl) (fun _ h=>h)) ?_
 rintro _ w35 ⟨rfl,m35,q35_0⟩
 refine zt fun _ F=>?_
 have S35:Mv _ _ [_,_] _:=At.frame S25.at' [1] rfl m35
 refine zc F ((JW (fun c:CellD=>!leS c.key key) (Jx s key)) < 0) fun _ F=>?_
 refine zi F (fun h40=>?_) fun h40=>?_
 ·refine zr fun _ F=>?_
  refine zl F S35.at' 0 fun _ F=>?_
  refine zv (v:=.agg #[.string key,.string val]) F (J06 J2u rfl (lc (pr2 (F.g rfl)) (lc (pr2 (F.g rfl)) rfl)) rfl) fun _ F=>?_
  refine zbs (ok:=okC) F S35.at' ([(⟨key,val⟩:CellD)]) ET_28 (fun x hx=>(List.mem_singleton.1 hx) ▸ ⟨Q0,Q1⟩) fun b49 w49 S49 _ F=>?_
  refine zz F (J7Y (H:=fun _=>True) (s:=Jx s key) (i:=((Q2:Nat):Int)) (v:=(⟨key,val⟩:CellD)) yg (by have:=J2L (fun c:CellD=>!leS c.key key) (Jx s key);have:=J2X s key;omega) (by have:=J2L (fun c:CellD=>!leS c.key key) (Jx s key);have:=J2X s key;omega) (by have:=J2L (fun c:CellD=>!leS c.key key) (Jx s key);have:=J2X s key;omega) (At.pick (is:=[2,0]) S49.at' rfl)) ?_
  rintro _ w51 ⟨Q4,Q9,Q7,rfl,m51⟩
  refine zt fun _ F=>?_
  have S51:Mv _ _ [_,_] _:=At.frame S49.at' [2,0] rfl m51
  obtain ⟨Q12,Q15,Q18⟩:=At.ownInv S51.at' ET_28.hk 0 rfl
  refine zd1 F ?_
  exact ⟨Q4,Q9,Q7,rfl,(Mv.cast (Mv.pick (tc6 S1 S5 S25 S35 S49 S51) [0] rfl) (lc (zOw yy) rfl))⟩
 refine zr fun _ F=>?_
 refine zl F S35.at' 0 fun _ F=>?_
 refine zv (v:=.agg #[.string key,.string val]) F (J06 J2u rfl (lc (pr2 (F.g rfl)) (lc (pr2 (F.g rfl)) rfl)) rfl) fun _ F=>?_
 refine zbs (ok:=okC) F S35.at' ([(⟨key,val⟩:CellD)]) ET_28 (fun x hx=>(List.mem_singleton.1 hx) ▸ ⟨Q0,Q1⟩) fun b59 w59 S59 _ F=>?_
 refine zz F (J7Y (H:=fun _=>True) (s:=Jx s key) (i:=(JW (fun c:CellD=>!leS c.key key) (Jx s key))) (v:=(⟨key,val⟩:CellD)) yg (by have:=J2L (fun c:CellD=>!leS c.key key) (Jx s key);have:=J2X s key;omega) (by have:=J2L (fun c:CellD=>!leS c.key key) (Jx s key);have:=J2X s key;omega) (by have:=J2L (fun c:CellD=>!leS c.key key) (Jx s key);have:=J2X s key;omega) (At.pick (is:=[2,0]) S59.at' rfl)) ?_
 rintro _ w61 ⟨Q5,Q10,Q8,rfl,m61⟩
 refine zt fun _ F=>?_
 have S61:Mv _ _ [_,_] _:=At.frame S59.at' [2,0] rfl m61
 obtain ⟨Q13,Q16,Q19⟩:=At.ownInv S61.at' ET_28.hk 0 rfl
 refine zd1 F ?_
 exact ⟨Q5,Q10,Q8,rfl,(Mv.cast (Mv.pick (tc6 S1 S5 S25 S35 S59 S61) [0] rfl) (lc (zOw yy) rfl))⟩
theorem J4n {s:List CellD} {s_a:Option Addr} {s_n s_c:Nat} {key:ByteArray} {val:ByteArray} (v_s:Rd 2 J6 okC H w (.slice s_a s_n s_c) s) (Q0:okS key) (Q1:okS val) (p0:s_n≤274877906944) :
 Calls prog 91 #[.slice s_a s_n s_c,.string key,.string val] w fun e w'=>∃ (r0_a:Option Addr)(r0_n r0_c:Nat),e=.returned (.slice r0_a r0_n r0_c)∧Mv [] w [qC r0_a r0_n r0_c (Jp s key val)] w':=by
 have V_v_s:=Rd.start v_s zN
 obtain ⟨ln_s,le_s,mx_s,ni_s⟩:=Rd.inv v_s
 refine ze fun _ F=>?_
 refine zbs (ok:=okC) F (At.nil w) (([]:List CellD)) ET_28 (by simp) fun b2 w2 S2 _ F=>?_
 refine zzp F S2.at' (J8v (H:=fun _=>True) (key:=key) Q0) fun w6 S6 _ F=>?_
 refine zv F (J0q rfl (F.g rfl)) fun _ F=>?_
 rcases Bool.eq_false_or_eq_true (!(J0L key)) with h10|h10
 ·rw [h10] at F
  refine zr fun _ F=>?_
  refine J0 (Jv (news:=s) F S6.at' 0 ET_28 rfl rfl rfl rfl rfl rfl (F.g rfl) (F.g rfl) ((Rd.mq V_v_s (S2.trans S6))).1 (by ((repeat (first|rw [List.length_append]|rw [List.length_cons]|rw [List.length_nil]|rw [List.length_take]|rw [List.length_drop])) <;> omega)) fun A17 N17 C17 _ w17 F S17 l17=>?_)
  refine zr fun _ F=>?_
  refine zd1 F ?_
  exact ⟨A17,N17,C17,rfl,(Mv.cast (Mv.pick (tc3 S2 S6 S17) [0] rfl) (lc (zOw yx) rfl))⟩
 rw [h10] at F
 refine zr fun _ F=>?_
 refine zc F (val.size > 60) fun _ F=>?_
 refine zi F (fun h24=>?_) fun h24=>?_
 ·refine zr fun _ F=>?_
  refine J0 (Jv (news:=s) F S6.at' 0 ET_28 rfl rfl rfl rfl rfl rfl (F.g rfl) (F.g rfl) ((Rd.mq V_v_s (S2.trans S6))).1 (by ((repeat (first|rw [List.length_append]|rw [List.length_cons]|rw [List.length_nil]|rw [List.length_take]|rw [List.length_drop])) <;> omega)) fun A27 N27 C27 _ w27 F S27 l27=>?_)
  refine zr fun _ F=>?_
  refine zd1 F ?_
  exact ⟨A27,N27,C27,rfl,(Mv.cast (Mv.pick (tc3 S2 S6 S27) [0] rfl) (lc (zOw yx) rfl))⟩
 refine zr fun _ F=>?_
 refine zv F (J0O (b:=(decide (val=bE_))) (.inl rfl) rfl (F.g rfl) rfl rfl) fun _ F=>?_
 refine JH S6.at' (fun lZ (k:Nat) aZ wZ=>∃ (O:List CellD)(dd:Bool)(oa:Option Addr)(on oc:Nat),Fr 70 [(9,nV k),(8,.bool dd),(7,.slice oa on oc),(0,.slice s_a s_n s_c),(1,.string key),(2,.string val)] aZ∧Mv lZ w6 [qC oa on oc O] wZ∧(k≤s_n)∧(J0l (s.take k) key val ([],decide (val=⟨#[]⟩))=(O,dd))∧(O.length≤2 * k)) (fun (k:Nat)=>s_n - k) (0) ?_ ?_
 ·exact ⟨([]:List CellD),(decide (val=bE_)),(aO b2),0,0,F.cut rfl,(Mv.refl S6.at'),zO,rfl,by simp⟩
 rintro k a34 w34 ⟨O,dd,oa,on,oc,F,S34,hk_0,hk_1,hk_2⟩
 refine zr fun _ F=>?_
 refine zc F (k < s_n) fun _ F=>?_
 refine zi F (fun h39=>?_) fun h39=>?_
 ·refine zr fun _ F=>?_
  refine zv F (J0q rfl (F.g rfl)) fun _ F=>?_
  rcases Bool.eq_false_or_eq_true (!dd) with h43|h43
  ·rw [h43] at F
   refine zr fun _ F=>?_
   obtain ⟨B46,O46,x1,ad46,hx1,okx1,ln46,cl46⟩:=Rd.at (Rd.mq V_v_s (tc3 S2 S6 S34)) k yq
   clear ln46
   refine zv F (JB (i:=k) ET_28 rfl ((F.ev 33 rfl).trans (by rw [ad46])) (F.g rfl) zO yq) fun _ F=>?_
   refine zv (v:=.string x1.key) F (JD (cs:=[.string x1.key]) J0j rfl (F.g rfl) rfl (fun _=>rfl) (JN (f:=0) cl46 [.string x1.key] rfl)) fun _ F=>?_
   refine zv F (J0O (b:=(!leS x1.key key)) (.inr (.inr (.inr (.inr (.inl rfl))))) rfl (F.g rfl) (F.g rfl) rfl) fun _ F=>?_
   refine zib F (fun h53=>?_) fun h53=>?_
   ·refine zr fun _ F=>?_
    refine zv (v:=.agg #[.string key,.string val]) F (J06 J2u rfl (lc (pr2 (F.g rfl)) (lc (pr2 (F.g rfl)) rfl)) rfl) fun _ F=>?_
    refine zbs (ok:=okC) F S34.at' ([(⟨key,val⟩:CellD)]) ET_28 (fun x hx=>(List.mem_singleton.1 hx) ▸ ⟨Q0,Q1⟩) fun b58 w58 S58 _ F=>?_
    refine J0 (Jv (news:=[(⟨key,val⟩:CellD)]) F S58.at' 1 ET_28 rfl rfl rfl rfl rfl rfl (F.g rfl) (F.g rfl) ((At.rd S58.at' ET_28.hk 0 rfl)).1 (by ((repeat (first|rw [List.length_append]|rw [List.length_cons]|rw [List.length_nil]|rw [List.length_take]|rw [List.length_drop])) <;> omega)) fun A60 N60 C60 _ w60 F S60 l60=>?_)
    have S62:=At.drop S60.at' 1
    refine zr fun _ F=>?_
    have T64:Mv _ _ [_] _:=S62
    obtain ⟨B68,O68,y68,ad68,hy68,oky68,ln68,cl68⟩:=Rd.at (Rd.mq V_v_s (tc6 S2 S6 S34 S58 S60 T64)) k yq
    clear ln68
    obtain rfl:=Option.some.inj (hx1.symm.trans hy68)
    clear hy68 oky68
    refine zv F (JB (i:=k) ET_28 rfl ((F.ev 47 rfl).trans (by rw [ad68])) (F.g rfl) zO yq) fun _ F=>?_
    refine zv (v:=.string x1.key) F (JD (cs:=[.string x1.key]) J0j rfl (F.g rfl) rfl (fun _=>rfl) (JN (f:=0) cl68 [.string x1.key] rfl)) fun _ F=>?_
    refine zv F (J0O (b:=(decide (x1.key≠key))) (.inr (.inl rfl)) rfl (F.g rfl) (F.g rfl) rfl) fun _ F=>?_
    refine zi F (fun h74=>?_) fun h74=>?_
    ·refine zr fun _ F=>?_
     obtain ⟨B78,O78,y78,ad78,hy78,oky78,ln78,cl78⟩:=Rd.at (Rd.mq V_v_s (tc6 S2 S6 S34 S58 S60 T64)) k yq
     clear ln78
     obtain rfl:=Option.some.inj (hx1.symm.trans hy78)
     clear hy78 oky78
     refine zv F (JB (i:=k) ET_28 rfl ((F.ev 55 rfl).trans (by rw [ad78])) (F.g rfl) zO yq) fun _ F=>?_
     refine zv (v:=.agg #[.string x1.key,.string x1.val]) F (JD (cs:=[.string x1.key,.string x1.val]) J1W rfl (F.g rfl) rfl (fun h=>nomatch h) (JN (f:=0) cl78 [.string x1.key,.string x1.val] rfl)) fun _ F=>?_
     refine zbs (ok:=okC) F T64.at' ([x1]) ET_28 (fun x hx=>(List.mem_singleton.1 hx) ▸ ⟨okx1.1,okx1.2⟩) fun b81 w81 S81 _ F=>?_
     refine J0 (Jv (news:=[x1]) F S81.at' 1 ET_28 rfl rfl rfl rfl rfl rfl (F.g rfl) (F.g rfl) ((At.rd S81.at' ET_28.hk 0 rfl)).1 (by ((repeat (first|rw [List.length_append]|rw [List.length_cons]|rw [List.length_nil]|rw [List.length_take]|rw [List.length_drop])) <;> omega)) fun A83 N83 C83 _ w83 F S83 l83=>?_)
     have S85:=At.drop S83.at' 1
     refine zr fun _ F=>?_
     refine zq F ((k+1:Nat):Int) fun _ F=>?_
     exact ⟨k+1,zD,(O++([(⟨key,val⟩:CellD)]))++([x1]),true,A83,N83,C83,F.cut rfl,((tc7 S34 S58 S60 T64 S81 S83 S85).pick [0] rfl),zO,yu,yp⟩
    refine zr fun _ F=>?_
    refine zq F ((k+1:Nat):Int) fun _ F=>?_
    exact ⟨k+1,zD,O++([(⟨key,val⟩:CellD)]),true,A60,N60,C60,F.cut rfl,((tc4 S34 S58 S60 T64).pick [0] rfl),zO,yu,yp⟩
   refine zr fun _ F=>?_
   obtain ⟨B95,O95,y95,ad95,hy95,oky95,ln95,cl95⟩:=Rd.at (Rd.mq V_v_s (tc3 S2 S6 S34)) k yq
   clear ln95
   obtain rfl:=Option.some.inj (hx1.symm.trans hy95)
   clear hy95 oky95
   refine zv F (JB (i:=k) ET_28 rfl ((F.ev 47 rfl).trans (by rw [ad95])) (F.g rfl) zO yq) fun _ F=>?_
   refine zv (v:=.string x1.key) F (JD (cs:=[.string x1.key]) J0j rfl (F.g rfl) rfl (fun _=>rfl) (JN (f:=0) cl95 [.string x1.key] rfl)) fun _ F=>?_
   refine zv F (J0O (b:=(decide (x1.key≠key))) (.inr (.inl rfl)) rfl (F.g rfl) (F.g rfl) rfl) fun _ F=>?_
   refine zi F (fun h101=>?_) fun h101=>?_
   ·refine zr fun _ F=>?_
    obtain ⟨B105,O105,y105,ad105,hy105,oky105,ln105,cl105⟩:=Rd.at (Rd.mq V_v_s (tc3 S2 S6 S34)) k yq
    clear ln105
    obtain rfl:=Option.some.inj (hx1.symm.trans hy105)
    clear hy105 oky105
    refine zv F (JB (i:=k) ET_28 rfl ((F.ev 55 rfl).trans (by rw [ad105])) (F.g rfl) zO yq) fun _ F=>?_
    refine zv (v:=.agg #[.string x1.key,.string x1.val]) F (JD (cs:=[.string x1.key,.string x1.val]) J1W rfl (F.g rfl) rfl (fun h=>nomatch h) (JN (f:=0) cl105 [.string x1.key,.string x1.val] rfl)) fun _ F=>?_
    refine zbs (ok:=okC) F S34.at' ([x1]) ET_28 (fun x hx=>(List.mem_singleton.1 hx) ▸ ⟨okx1.1,okx1.2⟩) fun b108 w108 S108 _ F=>?_
    refine J0 (Jv (news:=[x1]) F S108.at' 1 ET_28 rfl rfl rfl rfl rfl rfl (F.g rfl) (F.g rfl) ((At.rd S108.at' ET_28.hk 0 rfl)).1 (by ((repeat (first|rw [List.length_append]|rw [List.length_cons]|rw [List.length_nil]|rw [List.length_take]|rw [List.length_drop])) <;> omega)) fun A110 N110 C110 _ w110 F S110 l110=>?_)
    have S112:=At.drop S110.at' 1
    refine zr fun _ F=>?_
    have T114:Mv _ _ [_] _:=S112
    refine zq F ((k+1:Nat):Int) fun _ F=>?_
    exact ⟨k+1,zD,O++([x1]),dd,A110,N110,C110,F.cut rfl,((tc4 S34 S108 S110 T114).pick [0] rfl),zO,yu,yp⟩
   refine zr fun _ F=>?_
   refine zq F ((k+1:Nat):Int) fun _ F=>?_
   exact ⟨k+1,zD,O,dd,oa,on,oc,F.cut rfl,(S34.pick [0] rfl),zO,yu,yp⟩
  rw [h43] at F
  refine zr fun _ F=>?_
  obtain ⟨B131,O131,x1,ad131,hx1,okx1,ln131,cl131⟩:=Rd.at (Rd.mq V_v_s (tc3 S2 S6 S34)) k yq
  clear ln131
  refine zv F (JB (i:=k) ET_28 rfl ((F.ev 47 rfl).trans (by rw [ad131])) (F.g rfl) zO yq) fun _ F=>?_
  refine zv (v:=.string x1.key) F (JD (cs:=[.string x1.key]) J0j rfl (F.g rfl) rfl (fun _=>rfl) (JN (f:=0) cl131 [.string x1.key] rfl)) fun _ F=>?_
  refine zv F (J0O (b:=(decide (x1.key≠key))) (.inr (.inl rfl)) rfl (F.g rfl) (F.g rfl) rfl) fun _ F=>?_
  refine zi F (fun h137=>?_) fun h137=>?_
  ·refine zr fun _ F=>?_
   obtain ⟨B141,O141,y141,ad141,hy141,oky141,ln141,cl141⟩:=Rd.at (Rd.mq V_v_s (tc3 S2 S6 S34)) k yq
   clear ln141
   obtain rfl:=Option.some.inj (hx1.symm.trans hy141)
   clear hy141 oky141
   refine zv F (JB (i:=k) ET_28 rfl ((F.ev 55 rfl).trans (by rw [ad141])) (F.g rfl) zO yq) fun _ F=>?_
   refine zv (v:=.agg #[.string x1.key,.string x1.val]) F (JD (cs:=[.string x1.key,.string x1.val]) J1W rfl (F.g rfl) rfl (fun h=>nomatch h) (JN (f:=0) cl141 [.string x1.key,.string x1.val] rfl)) fun _ F=>?_
   refine zbs (ok:=okC) F S34.at' ([x1]) ET_28 (fun x hx=>(List.mem_singleton.1 hx) ▸ ⟨okx1.1,okx1.2⟩) fun b144 w144 S144 _ F=>?_
   refine J0 (Jv (news:=[x1]) F S144.at' 1 ET_28 rfl rfl rfl rfl rfl rfl (F.g rfl) (F.g rfl) ((At.rd S144.at' ET_28.hk 0 rfl)).1 (by ((repeat (first|rw [List.length_append]|rw [List.length_cons]|rw [List.length_nil]|rw [List.length_take]|rw [List.length_drop])) <;> omega)) fun A146 N146 C146 _ w146 F S146 l146=>?_)
   have S148:=At.drop S146.at' 1
   refine zr fun _ F=>?_
   have T150:Mv _ _ [_] _:=S148
   refine zq F ((k+1:Nat):Int) fun _ F=>?_
   exact ⟨k+1,zD,O++([x1]),dd,A146,N146,C146,F.cut rfl,((tc4 S34 S144 S146 T150).pick [0] rfl),zO,yu,yp⟩
  refine zr fun _ F=>?_
  refine zq F ((k+1:Nat):Int) fun _ F=>?_
  exact ⟨k+1,zD,O,dd,oa,on,oc,F.cut rfl,(S34.pick [0] rfl),zO,yu,yp⟩
 refine zr fun _ F=>?_
 refine zv F (J0q rfl (F.g rfl)) fun _ F=>?_
 refine zib F (fun h159=>?_) fun h159=>?_
 ·refine zr fun _ F=>?_
  refine zv (v:=.agg #[.string key,.string val]) F (J06 J2u rfl (lc (pr2 (F.g rfl)) (lc (pr2 (F.g rfl)) rfl)) rfl) fun _ F=>?_
  refine zbs (ok:=okC) F S34.at' ([(⟨key,val⟩:CellD)]) ET_28 (fun x hx=>(List.mem_singleton.1 hx) ▸ ⟨Q0,Q1⟩) fun b164 w164 S164 _ F=>?_
  refine J0 (Jv (news:=[(⟨key,val⟩:CellD)]) F S164.at' 1 ET_28 rfl rfl rfl rfl rfl rfl (F.g rfl) (F.g rfl) ((At.rd S164.at' ET_28.hk 0 rfl)).1 (by ((repeat (first|rw [List.length_append]|rw [List.length_cons]|rw [List.length_nil]|rw [List.length_take]|rw [List.length_drop])) <;> omega)) fun A166 N166 C166 _ w166 F S166 l166=>?_)
  have S168:=At.drop S166.at' 1
  refine zr fun _ F=>?_
  have T170:Mv _ _ [_] _:=S168
  refine zd1 F ?_
  exact ⟨A166,N166,C166,rfl,(Mv.cast (Mv.pick (tc6 S2 S6 S34 S164 S166 T170) [0] rfl) (lc (zOw yx) rfl))⟩
 refine zr fun _ F=>?_
 refine zd1 F ?_
 exact ⟨oa,on,oc,rfl,(Mv.cast (Mv.pick (tc3 S2 S6 S34) [0] rfl) (lc (zOw yx) rfl))⟩
end
section
variable {w:World} {H:Nat→Prop}
set_option maxRecDepth 100000
set_option maxHeartbeats 1000000
theorem J3n {H:Nat→Prop} {n:Nat} {x:Nat} (h_n:J1 (n:Int)) (h_x:x < 256) (p0:n≤1000000) :
 Calls prog 129 #[nV n,.int .u8 ((x:Nat):Int)] w fun e w'=>∃ (r:ByteArray),e=.returned (.string r)∧Mv [] w [] w'∧okS r∧r.size=n:=by
 refine ze fun _ F=>?_
 refine J0 (f_mk (ok:=okB) 0 F (At.nil w) ET_62 rfl rfl rfl rfl (F.g rfl) (F.g rfl) rfl (show 0 < 256 by omega) zO fun b3 _ w3 F S3=>?_)
 refine zr fun _ F=>?_
 refine JH S3.at' (fun lZ (k:Nat) aZ wZ=>∃ (D:List Nat)(oa:Option Addr)(on oc:Nat),Fr 20 [(6,nV k),(5,.slice oa on oc),(0,nV n),(1,.int .u8 ((x:Nat):Int))] aZ∧Mv lZ w3 [qB oa on oc D] wZ∧(on=n)∧(D.length=n)∧(k≤n)) (fun (k:Nat)=>n - k) (0) ?_ ?_
 ·exact ⟨List.replicate n 0,(aO b3),n,n,F.cut rfl,(Mv.refl S3.at'),rfl,List.length_replicate ..,zO⟩
 rintro k a7 w7 ⟨D,oa,on,oc,F,S7,hk_0,hk_1,hk_2⟩
 refine zr fun _ F=>?_
 refine zc F (k < n) fun _ F=>?_
 refine zi F (fun h11=>?_) fun h11=>?_
 ·refine zr fun _ F=>?_
  obtain ⟨B15,x1,ad15,hx1,okx1,cl15⟩:=At.ownAt S7.at' ET_62.hk 0 rfl k  yq
  refine zv F (JB (i:=k) ET_62 rfl ((F.ev 14 rfl).trans (by rw [ad15])) (F.g rfl) zO yq) fun _ F=>?_
  refine J0 (J9q S7.at' 0 k x ET_62.hk ET_62.h1 J5M rfl ad15 rfl rfl rfl rfl (F.g rfl) (F.g rfl) rfl yq (show x < 256 by omega) fun w17 S17=>?_)
  refine zr fun _ F=>?_
  refine zq F ((k+1:Nat):Int) fun _ F=>?_
  exact ⟨k+1,zD,D.set k x,oa,on,oc,F.cut rfl,((S7.trans S17).pick [0] rfl),by assumption,(List.length_set ..).trans hk_1,zO⟩
 refine zr fun _ F=>?_
 refine zv F (J1r underlying62 underlying5 underlying9 ((At.rd S7.at' ET_62.hk 0 rfl)).1 rfl (F.g rfl)) fun _ F=>?_
 refine zd1 F ?_
 exact ⟨Je D,rfl,(Mv.pick (S3.trans S7) [] rfl),(J2o zO),(J1n _).trans hk_1⟩
theorem J65 {c:CurD} {Q1:Option Addr} {Q0 Q2:Nat} {c_b:Nat} {n:Int} (Q3:RdA 1 J7 okB H w (.slice Q1 Q0 Q2) c.code) (Q5:J1 (c.pos:Int)) (Q4:J1 c.h) (h_n:J1 n) (p0:c.pos≤Q0) (hA:At w [bC c_b Q1 Q0 Q2 c.pos c.h]) (hD:∀ b,H b→¬ fps [bC c_b Q1 Q0 Q2 c.pos c.h] b) :
 Calls prog 192 #[pT c_b,iV n] w fun e w'=>∃ (i2:Nat)(h2:Int)(r:ByteArray),e=.returned (.string r)∧Mv [bC c_b Q1 Q0 Q2 c.pos c.h] w [bC c_b Q1 Q0 Q2 i2 h2] w'∧okS r∧i2≤Q0∧J1 h2∧r.size≤5000:=by
 have V_v_c_code:=RdA.start Q3 hD
 obtain ⟨Q7,Q6,Q8,Q9⟩:=RdA.inv Q3
 refine ze fun _ F=>?_
 refine zc F (n > 5000) fun _ F=>?_
 refine zi F (fun h4=>?_) fun h4=>?_
 ·refine zr fun _ F=>?_
  refine zbs (ok:=okB) F hA (([]:List Nat)) ET_62 (by simp) fun b6 w6 S6 _ F=>?_
  refine JH S6.at' (fun lZ (k:Nat) aZ wZ=>∃ (pp:Nat)(hh:Int)(D:List Nat)(oa:Option Addr)(on oc:Nat),Fr 23 [(6,nV k),(5,.slice oa on oc),(1,iV 5000),(0,pT c_b)] aZ∧Mv lZ w6 [qB oa on oc D,bC c_b Q1 Q0 Q2 pp hh] wZ∧(pp≤Q0)∧(J1 hh)∧(D.length=k)∧(k≤5000)) (fun (k:Nat)=>5000 - k) (0) ?_ ?_
  ·exact ⟨c.pos,c.h,([]:List Nat),(aO b6),0,0,F.cut rfl,(Mv.refl S6.at'),zO,by assumption,rfl,zO⟩
  rintro k a10 w10 ⟨pp,hh,D,oa,on,oc,F,S10,hk_0,hk_1,hk_2,hk_3⟩
  refine zr fun _ F=>?_
  refine zc F (k < 5000) fun _ F=>?_
  refine zi F (fun h14=>?_) fun h14=>?_
  ·refine zr fun _ F=>?_
   refine zz F (J3m (c:=(⟨c.code,pp,hh⟩:CurD)) (RdA.mv (Nat.succ_pos _) V_v_c_code (S6.trans S10)) (by unfold J1;(try dsimp only);omega) yd yb (At.pick (is:=[1]) S10.at' rfl) (J9 (is:=[1]))) ?_
   rintro _ w17 ⟨i2_17,h2_17,r_17,rfl,m17,q17_0,q17_1,q17_2⟩
   refine zt fun _ F=>?_
   have S17:Mv _ _ [bx _ [_,_,_] _,_] _:=At.frame S10.at' [1] rfl m17
   refine zv F (J4z underlying5 underlying3 rfl (F.g rfl) zO) fun _ F=>?_
   refine zbs (ok:=okB) F S17.at' ([r_17]) ET_62 (fun x hx=>(List.mem_singleton.1 hx) ▸ (show r_17 < 256 by omega)) fun b20 w20 S20 _ F=>?_
   refine J0 (Jv (news:=[r_17]) F S20.at' 2 ET_62 rfl rfl rfl rfl rfl rfl (F.g rfl) (F.g rfl) ((At.rd S20.at' ET_62.hk 0 rfl)).1 (by ((repeat (first|rw [List.length_append]|rw [List.length_cons]|rw [List.length_nil]|rw [List.length_take]|rw [List.length_drop])) <;> omega)) fun A22 N22 C22 _ w22 F S22 l22=>?_)
   have S24:=At.drop S22.at' 1
   refine zr fun _ F=>?_
   have T26:Mv _ _ [_,bx _ [_,_,_] _] _:=S24
   refine zq F ((k+1:Nat):Int) fun _ F=>?_
   exact ⟨k+1,zD,i2_17,h2_17,D++([r_17]),A22,N22,C22,F.cut rfl,((tc5 S10 S17 S20 S22 T26).pick [0,1] rfl),zO,by assumption,by simp;omega,zO⟩
  refine zr fun _ F=>?_
  refine zv F (J1r underlying62 underlying5 underlying9 ((At.rd S10.at' ET_62.hk 0 rfl)).1 rfl (F.g rfl)) fun _ F=>?_
  refine zd1 F ?_
  exact ⟨pp,hh,Je D,rfl,(Mv.pick (S6.trans S10) [1] rfl),(J2o zO),yk,yk,by rw [J1n];omega⟩
 refine zr fun _ F=>?_
 refine zbs (ok:=okB) F hA (([]:List Nat)) ET_62 (by simp) fun b33 w33 S33 _ F=>?_
 refine JH S33.at' (fun lZ (k:Nat) aZ wZ=>∃ (pp:Nat)(hh:Int)(D:List Nat)(oa:Option Addr)(on oc:Nat),Fr 23 [(6,nV k),(5,.slice oa on oc),(0,pT c_b),(1,iV n)] aZ∧Mv lZ w33 [qB oa on oc D,bC c_b Q1 Q0 Q2 pp hh] wZ∧(pp≤Q0)∧(J1 hh)∧(D.length=k)∧(k≤5000)) (fun (k:Nat)=>5000 - k) (0) ?_ ?_
 ·exact ⟨c.pos,c.h,([]:List Nat),(aO b33),0,0,F.cut rfl,(Mv.refl S33.at'),zO,by assumption,rfl,zO⟩
 rintro k a37 w37 ⟨pp,hh,D,oa,on,oc,F,S37,hk_0,hk_1,hk_2,hk_3⟩
 refine zr fun _ F=>?_
 refine zc F (((k:Nat):Int) < n) fun _ F=>?_
 refine zi F (fun h41=>?_) fun h41=>?_
 ·refine zr fun _ F=>?_
  refine zz F (J3m (c:=(⟨c.code,pp,hh⟩:CurD)) (RdA.mv (Nat.succ_pos _) V_v_c_code (S33.trans S37)) (by unfold J1;(try dsimp only);omega) yd yb (At.pick (is:=[1]) S37.at' rfl) (J9 (is:=[1]))) ?_
  rintro _ w44 ⟨i2_44,h2_44,r_44,rfl,m44,q44_0,q44_1,q44_2⟩
  refine zt fun _ F=>?_
  have S44:Mv _ _ [bx _ [_,_,_] _,_] _:=At.frame S37.at' [1] rfl m44
  refine zv F (J4z underlying5 underlying3 rfl (F.g rfl) zO) fun _ F=>?_
  refine zbs (ok:=okB) F S44.at' ([r_44]) ET_62 (fun x hx=>(List.mem_singleton.1 hx) ▸ (show r_44 < 256 by omega)) fun b47 w47 S47 _ F=>?_
  refine J0 (Jv (news:=[r_44]) F S47.at' 2 ET_62 rfl rfl rfl rfl rfl rfl (F.g rfl) (F.g rfl) ((At.rd S47.at' ET_62.hk 0 rfl)).1 (by ((repeat (first|rw [List.length_append]|rw [List.length_cons]|rw [List.length_nil]|rw [List.length_take]|rw [List.length_drop])) <;> omega)) fun A49 N49 C49 _ w49 F S49 l49=>?_)
  have S51:=At.drop S49.at' 1
  refine zr fun _ F=>?_
  have T53:Mv _ _ [_,bx _ [_,_,_] _] _:=S51
  refine zq F ((k+1:Nat):Int) fun _ F=>?_
  exact ⟨k+1,zD,i2_44,h2_44,D++([r_44]),A49,N49,C49,F.cut rfl,((tc5 S37 S44 S47 S49 T53).pick [0,1] rfl),zO,by assumption,by simp;omega,zO⟩
 refine zr fun _ F=>?_
 refine zv F (J1r underlying62 underlying5 underlying9 ((At.rd S37.at' ET_62.hk 0 rfl)).1 rfl (F.g rfl)) fun _ F=>?_
 refine zd1 F ?_
 exact ⟨pp,hh,Je D,rfl,(Mv.pick (S33.trans S37) [1] rfl),(J2o zO),yk,yk,by rw [J1n];omega⟩
theorem J4Y {c:CurD} {Q1:Option Addr} {Q0 Q2:Nat} {c_b:Nat} (Q3:RdA 1 J7 okB H w (.slice Q1 Q0 Q2) c.code) (Q6:J1 (c.pos:Int)) (Q5:J1 c.h) (p0:c.pos≤Q0) (hA:At w [bC c_b Q1 Q0 Q2 c.pos c.h]) (hD:∀ b,H b→¬ fps [bC c_b Q1 Q0 Q2 c.pos c.h] b) :
 Calls prog 190 #[pT c_b] w fun e w'=>∃ (i2:Nat)(h2:Int)(r:ByteArray),e=.returned (.string r)∧Mv [bC c_b Q1 Q0 Q2 c.pos c.h] w [bC c_b Q1 Q0 Q2 i2 h2] w'∧okS r∧i2≤Q0∧J1 h2∧r.size≤100:=by
 have V_v_c_code:=RdA.start Q3 hD
 obtain ⟨Q8,Q7,Q9,Q10⟩:=RdA.inv Q3
 refine ze fun _ F=>?_
 refine zbs (ok:=okS) F hA ([(bA [97]),(bA [98]),(bA [110,47,120]),(bA [110,47,121]),(bA [110,47,121,121]),(bA [105,47,49,47,115]),(bA [105,47,49,47,98,47,48]),(bA [105,47,49,50,47,115]),(bA [99,47,112,105,112,101]),(bA [112,47,49,47,104])]) ET_44 zlS fun b3 w3 S3 _ F=>?_
 refine zz F (J1z (H:=fun b=>¬ fps (sel _ [1]) b) (c:=c) (list:=[(bA [97]),(bA [98]),(bA [110,47,120]),(bA [110,47,121]),(bA [110,47,121,121]),(bA [105,47,49,47,115]),(bA [105,47,49,47,98,47,48]),(bA [105,47,49,50,47,115]),(bA [99,47,112,105,112,101]),(bA [112,47,49,47,104])]) (RdA.mono (RdA.mv (Nat.succ_pos _) V_v_c_code S3) (J9 (is:=[1]))) (by unfold J1;(try dsimp only);omega) yd (At.rdOff S3.at' ET_44.hk 0 rfl [1] rfl) yb yb (At.pick (is:=[1]) S3.at' rfl) (fun _ h=>h)) ?_
 rintro _ w5 ⟨i2_5,h2_5,r_5,rfl,m5,Q4,q5_0,q5_1,q5_2⟩
 refine zt fun _ F=>?_
 have S5:Mv _ _ [bx _ [_,_,_] _,_] _:=At.frame S3.at' [1] rfl m5
 refine zd1 F ?_
 exact ⟨i2_5,h2_5,r_5,rfl,(Mv.pick (S3.trans S5) [0] rfl),Q4,yk,yk,by (refine (?_:∀ x:ByteArray,x ∈ (_:List ByteArray)→x.size≤100) _ zA);decide⟩
theorem Jdo {c:CurD} {Q1:Option Addr} {Q0 Q2:Nat} {c_b:Nat} (Q3:RdA 1 J7 okB H w (.slice Q1 Q0 Q2) c.code) (Q7:J1 (c.pos:Int)) (Q6:J1 c.h) (p0:c.pos≤Q0) (hA:At w [bC c_b Q1 Q0 Q2 c.pos c.h]) (hD:∀ b,H b→¬ fps [bC c_b Q1 Q0 Q2 c.pos c.h] b) :
 Calls prog 268 #[pT c_b] w fun e w'=>∃ (i2:Nat)(h2:Int)(r:ByteArray),e=.returned (.string r)∧Mv [bC c_b Q1 Q0 Q2 c.pos c.h] w [bC c_b Q1 Q0 Q2 i2 h2] w'∧okS r∧i2≤Q0∧J1 h2∧r.size≤5000:=by
 have V_v_c_code:=RdA.start Q3 hD
 obtain ⟨Q9,Q8,Q10,Q11⟩:=RdA.inv Q3
 refine ze fun _ F=>?_
 refine zz F (J1y (c:=c) (n:=16) V_v_c_code (by unfold J1;(try dsimp only);omega) yd yg yb (At.pick (is:=[0]) hA rfl) (J9 (is:=[0]))) ?_
 rintro _ w3 ⟨i2_3,h2_3,r_3,rfl,m3,q3_0,q3_1⟩
 refine zt fun _ F=>?_
 have S3:Mv _ _ [bx _ [_,_,_] _] _:=At.frame hA [0] rfl m3
 refine zib F (fun h5=>?_) fun h5=>?_
 ·refine zr fun _ F=>?_
  refine zz F (JY (c:=(⟨c.code,i2_3,h2_3⟩:CurD)) (n:=2) (RdA.mv (Nat.succ_pos _) V_v_c_code S3) (by unfold J1;(try dsimp only);omega) yd yg yb (At.pick (is:=[0]) S3.at' rfl) (J9 (is:=[0]))) ?_
  rintro _ w7 ⟨i2_7,h2_7,r_7,rfl,m7,q7_0,q7_1,q7_2,q7_3⟩
  refine zt fun _ F=>?_
  have S7:Mv _ _ [bx _ [_,_,_] _] _:=At.frame S3.at' [0] rfl m7
  refine zq F ((60+r_7:Nat):Int) fun _ F=>?_
  refine zz F (J3n (H:=fun _=>True) (n:=60+r_7) (x:=5) ⟨zO,yBb⟩ zO yb) ?_
  rintro _ w10 ⟨r_10,rfl,m10,Q4,q10_0⟩
  refine zt fun _ F=>?_
  have S10:=At.frame0 S7.at' m10
  refine zd1 F ?_
  exact ⟨i2_7,h2_7,r_10,rfl,(Mv.pick (tc3 S3 S7 S10) [0] rfl),Q4,yk,yk,yk⟩
 refine zr fun _ F=>?_
 refine zz F (JY (c:=(⟨c.code,i2_3,h2_3⟩:CurD)) (n:=5) (RdA.mv (Nat.succ_pos _) V_v_c_code S3) (by unfold J1;(try dsimp only);omega) yd yg yb (At.pick (is:=[0]) S3.at' rfl) (J9 (is:=[0]))) ?_
 rintro _ w15 ⟨i2_15,h2_15,r_15,rfl,m15,q15_0,q15_1,q15_2,q15_3⟩
 refine zt fun _ F=>?_
 have S15:Mv _ _ [bx _ [_,_,_] _] _:=At.frame S3.at' [0] rfl m15
 refine zz F (J65 (c:=(⟨c.code,i2_15,h2_15⟩:CurD)) (n:=((r_15:Nat):Int)) (RdA.mv (Nat.succ_pos _) V_v_c_code (S3.trans S15)) (by unfold J1;(try dsimp only);omega) yd yg yb (At.pick (is:=[0]) S15.at' rfl) (J9 (is:=[0]))) ?_
 rintro _ w17 ⟨i2_17,h2_17,r_17,rfl,m17,Q5,q17_0,q17_1,q17_2⟩
 refine zt fun _ F=>?_
 have S17:Mv _ _ [bx _ [_,_,_] _] _:=At.frame S15.at' [0] rfl m17
 refine zd1 F ?_
 exact ⟨i2_17,h2_17,r_17,rfl,(Mv.pick (tc3 S3 S15 S17) [0] rfl),Q5,yk,yk,yk⟩
theorem JcE {c:CurD} {Q1:Option Addr} {Q0 Q2:Nat} {c_b:Nat} (Q3:RdA 1 J7 okB H w (.slice Q1 Q0 Q2) c.code) (Q9:J1 (c.pos:Int)) (Q8:J1 c.h) (p0:c.pos≤Q0) (hA:At w [bC c_b Q1 Q0 Q2 c.pos c.h]) (hD:∀ b,H b→¬ fps [bC c_b Q1 Q0 Q2 c.pos c.h] b) :
 Calls prog 267 #[pT c_b] w fun e w'=>∃ (i2:Nat)(h2:Int)(r:ByteArray),e=.returned (.string r)∧Mv [bC c_b Q1 Q0 Q2 c.pos c.h] w [bC c_b Q1 Q0 Q2 i2 h2] w'∧okS r∧i2≤Q0∧J1 h2:=by
 have V_v_c_code:=RdA.start Q3 hD
 obtain ⟨Q11,Q10,Q12,Q13⟩:=RdA.inv Q3
 refine ze fun _ F=>?_
 refine zz F (J1y (c:=c) (n:=12) V_v_c_code (by unfold J1;(try dsimp only);omega) yd yg yb (At.pick (is:=[0]) hA rfl) (J9 (is:=[0]))) ?_
 rintro _ w3 ⟨i2_3,h2_3,r_3,rfl,m3,q3_0,q3_1⟩
 refine zt fun _ F=>?_
 have S3:Mv _ _ [bx _ [_,_,_] _] _:=At.frame hA [0] rfl m3
 refine zib F (fun h5=>?_) fun h5=>?_
 ·refine zr fun _ F=>?_
  refine zz F (J3n (H:=fun _=>True) (n:=40) (x:=97) ⟨zO,yBb⟩ zO yb) ?_
  rintro _ w7 ⟨r_7,rfl,m7,Q6,q7_0⟩
  refine zt fun _ F=>?_
  have S7:=At.frame0 S3.at' m7
  refine zz F (J3n (H:=fun _=>True) (n:=41) (x:=97) ⟨zO,yBb⟩ zO yb) ?_
  rintro _ w9 ⟨r_9,rfl,m9,Q7,q9_0⟩
  refine zt fun _ F=>?_
  have S9:=At.frame0 S7.at' m9
  refine zbs (ok:=okS) F S9.at' ([bE_,(bA [97,32,98]),(bA [110,47,42]),(bA [127]),r_7,r_9]) ET_44 (fun x hx=>by (repeat (first|(rcases List.mem_cons.1 hx with hx|hx;(subst hx;first|exact (by unfold okS;decide)|exact (by unfold okS;decide)|exact (by unfold okS;decide)|exact (by unfold okS;decide)|exact Q6|exact Q7))|exact (List.not_mem_nil hx).elim))) fun b11 w11 S11 _ F=>?_
  refine zz F (J1z (H:=fun b=>¬ fps (sel _ [1]) b) (c:=(⟨c.code,i2_3,h2_3⟩:CurD)) (list:=[bE_,(bA [97,32,98]),(bA [110,47,42]),(bA [127]),r_7,r_9]) (RdA.mono (RdA.mv (Nat.succ_pos _) V_v_c_code (tc4 S3 S7 S9 S11)) (J9 (is:=[1]))) (by unfold J1;(try dsimp only);omega) yd (At.rdOff S11.at' ET_44.hk 0 rfl [1] rfl) yb yb (At.pick (is:=[1]) S11.at' rfl) (fun _ h=>h)) ?_
  rintro _ w13 ⟨i2_13,h2_13,r_13,rfl,m13,Q4,q13_0,q13_1,q13_2⟩
  refine zt fun _ F=>?_
  have S13:Mv _ _ [bx _ [_,_,_] _,_] _:=At.frame S11.at' [1] rfl m13
  refine zd1 F ?_
  exact ⟨i2_13,h2_13,r_13,rfl,(Mv.pick (tc5 S3 S7 S9 S11 S13) [0] rfl),Q4,yk,yk⟩
 refine zr fun _ F=>?_
 refine zz F (J4Y (c:=(⟨c.code,i2_3,h2_3⟩:CurD)) (RdA.mv (Nat.succ_pos _) V_v_c_code S3) (by unfold J1;(try dsimp only);omega) yd yb (At.pick (is:=[0]) S3.at' rfl) (J9 (is:=[0]))) ?_
 rintro _ w17 ⟨i2_17,h2_17,r_17,rfl,m17,Q5,q17_0,q17_1,q17_2⟩
 refine zt fun _ F=>?_
 have S17:Mv _ _ [bx _ [_,_,_] _] _:=At.frame S3.at' [0] rfl m17
 refine zd1 F ?_
 exact ⟨i2_17,h2_17,r_17,rfl,(Mv.pick (S3.trans S17) [0] rfl),Q5,yk,yk⟩
theorem Jd0 {c:CurD} {Q1:Option Addr} {Q0 Q2:Nat} {c_b:Nat} (Q3:RdA 1 J7 okB H w (.slice Q1 Q0 Q2) c.code) (Q6:J1 (c.pos:Int)) (Q5:J1 c.h) (p0:c.pos≤Q0) (hA:At w [bC c_b Q1 Q0 Q2 c.pos c.h]) (hD:∀ b,H b→¬ fps [bC c_b Q1 Q0 Q2 c.pos c.h] b) :
 Calls prog 261 #[pT c_b] w fun e w'=>∃ (i2:Nat)(h2:Int)(r:ByteArray),e=.returned (.string r)∧Mv [bC c_b Q1 Q0 Q2 c.pos c.h] w [bC c_b Q1 Q0 Q2 i2 h2] w'∧okS r∧i2≤Q0∧J1 h2∧r.size≤100:=by
 have V_v_c_code:=RdA.start Q3 hD
 obtain ⟨Q8,Q7,Q9,Q10⟩:=RdA.inv Q3
 refine ze fun _ F=>?_
 refine zbs (ok:=okS) F hA ([(bA [97]),(bA [98]),(bA [110,47,120]),(bA [110,47,121]),(bA [110,47,121,121]),(bA [110,47,42]),(bA [110,47,121,42]),(bA [105,47,49,47,42]),(bA [105,47,49,47,115]),(bA [105,47,42]),bT_,(bA [105,47,49,50,47,115])]) ET_44 zlS fun b3 w3 S3 _ F=>?_
 refine zz F (J1z (H:=fun b=>¬ fps (sel _ [1]) b) (c:=c) (list:=[(bA [97]),(bA [98]),(bA [110,47,120]),(bA [110,47,121]),(bA [110,47,121,121]),(bA [110,47,42]),(bA [110,47,121,42]),(bA [105,47,49,47,42]),(bA [105,47,49,47,115]),(bA [105,47,42]),bT_,(bA [105,47,49,50,47,115])]) (RdA.mono (RdA.mv (Nat.succ_pos _) V_v_c_code S3) (J9 (is:=[1]))) (by unfold J1;(try dsimp only);omega) yd (At.rdOff S3.at' ET_44.hk 0 rfl [1] rfl) yb yb (At.pick (is:=[1]) S3.at' rfl) (fun _ h=>h)) ?_
 rintro _ w5 ⟨i2_5,h2_5,r_5,rfl,m5,Q4,q5_0,q5_1,q5_2⟩
 refine zt fun _ F=>?_
 have S5:Mv _ _ [bx _ [_,_,_] _,_] _:=At.frame S3.at' [1] rfl m5
 refine zd1 F ?_
 exact ⟨i2_5,h2_5,r_5,rfl,(Mv.pick (S3.trans S5) [0] rfl),Q4,yk,yk,by (refine (?_:∀ x:ByteArray,x ∈ (_:List ByteArray)→x.size≤100) _ zA);decide⟩
end
set_option maxRecDepth 100000
set_option maxHeartbeats 1000000
section
end
theorem J8I {cur vs:List Value} {off p:Nat} (h:off+vs.length≤cur.length):(Jq cur off vs)[p]? = if off≤p∧p < off+vs.length then vs[p - off]? else cur[p]?:=by
 unfold Jq
 rcases Nat.lt_or_ge p off with h1|h1
 ·rw [if_neg zO,List.append_assoc,List.getElem?_append_left (by rw [List.length_take];omega),List.getElem?_take_of_lt h1]
 rcases Nat.lt_or_ge p (off+vs.length) with h2|h2
 ·rw [if_pos ⟨h1,h2⟩,List.append_assoc,List.getElem?_append_right (by rw [List.length_take];omega),List.getElem?_append_left (by rw [List.length_take];omega),List.length_take,Nat.min_eq_left zO]
 rw [if_neg zO,List.getElem?_append_right (by rw [List.length_append,List.length_take];omega),List.getElem?_drop,List.length_append,List.length_take,Nat.min_eq_left zO]
 congr 1;omega
section
variable {α:Type} {e k:Nat} {enc:α→List Value} {ok:α→Prop}
variable {P:Program} {ops:Array Oper} {Q:Exit→Act→World→Prop} {K:Act→World→Prop} {o:Oper} {a:Act} {w:World} {L:List Atom}
theorem Jev {t:TypeId} {xo z:Operand} {g:Bool} {ad:Option Addr} {b n c off:Nat} {l:List α} {v u:Value} (A:At w L) (i:Nat) (j:Nat) (x y:α) (hk:∀ x,(enc x).length=k) (h1:∀ x,∀ u ∈ enc x,u.oneCell'=true) (TT:TI P t g 1) (hL:nth L i=some (ow e k enc ok (.slice ad n c) l)) (ha:ad=some ⟨b,0,none⟩) (hok:JP L.length [i]=true)
 (hw:Region.wanted o (yielded ops a.tmps)=true) (hd:o.dst=none) (ho:o.op=.store t xo z) (hx:a.eval xo=.pointer (some ⟨b,0+j * k+off,none⟩)) (hz:a.eval z=v) (hv:v.cells.toList=[u]) (hj:j < n) (hxj:nth l j=some x) (he:enc y=(enc x).set off u) (hof:off < k) (hy:ok y)
 (kk:∀ w',Mv L w ([ow e k enc ok (.slice ad n c) (l.set j y)]++del L [i]) w'→K a w'):st1 P ops Q o K a w:=by
 obtain ⟨cur,g1,g2,g3⟩:=J9S A hk i hL ha hok j hj y hy
 obtain ⟨b',x',e1,e2,e3,e4⟩:=At.ownAt A hk i hL j hj
 rw [ha] at e1
 cases e1
 rw [hxj] at e2
 cases e2
 have hu:u.oneCell'=true:=h1 y u (by rw [he];exact List.mem_iff_getElem?.2 ⟨off,by rw [List.getElem?_set_self (by rw [hk];exact hof)]⟩)
 have hsame:Jq cur (j * k+off) [u]=Jq cur (j * k) (enc y):=by
  apply List.ext_getElem?
  intro p
  rw [J8I (by simp;omega),J8I (by rw [hk];omega),hk,List.length_singleton]
  by_cases hp:j * k≤p∧p < j * k+k
  ·rw [if_pos hp,he]
   by_cases hq:p=j * k+off
   ·subst hq
    rw [if_pos zO,Nat.sub_self,Nat.add_sub_cancel_left,List.getElem?_set_self (by rw [hk];exact hof)];rfl
   rw [if_neg zO,List.getElem?_set_ne zO]
   have hlt:p - j * k < (enc x).length:=by rw [hk];omega
   have h5:=e4 (p - j * k) _ (List.getElem?_eq_getElem hlt)
   rw [J0a] at h5
   unfold World.cell? at h5
   simp only [g1] at h5
   rw [List.getElem?_eq_getElem hlt]
   have h6:0+j * k+(p - j * k)=p:=by omega
   rw [h6] at h5
   simpa using h5
  rw [if_neg hp,if_neg zO]
 refine J4K hw hd ?_ (kk _ g3)
 have hst:=run_storeCells_at P b (j * k+off) e [u] 0 cur.toArray w g1 (by simp;omega) (by intro q hq;rcases List.mem_singleton.1 hq with rfl;exact hu)
 have hsz:v.cells.size=1:=by
  have:=congrArg List.length hv
  simpa using this
 simp only [Nat.add_zero] at hst
 have hs2:cur.take (j * k+off)++[u]++cur.drop (j * k+off + [u].length)=Jq cur (j * k) (enc y):=hsame
 simp only [execOp,ho,hx,hz,Nat.zero_add,Instr.storeAt,Instr.sureAddr,storeVar,hv,Sem.run_bind,Sem.run_pure,Result.andThen_ok,J4q TT,hsz,ne_eq,not_true_eq_false,↓reduceIte,hst]
 rw [← hs2]
end
theorem JdX {α:Type} {l:List α} {j:Nat} {y x:α} (h:nth l j=some x):nth (l.set j y) j=some y:=by
 rw [JO] at *
 rw [List.getElem?_set_self (List.getElem?_eq_some_iff.1 h).1]
def txM (x:TxD):TxD:=if x.state≠1∨4≤x.marks.length then x else ⟨x.id,x.age,x.proc,x.began,x.calls,x.answers,x.touch,x.marks++[((x.calls.length:Nat):Int)],x.state⟩
def txN (x:TxD):Nat:=if x.state≠1∨4≤x.marks.length then 0 else x.marks.length+1
theorem Jbu {x:TxD} (h:x.state≠1):txM x=x∧(0:Int)=((txN x:Nat):Int):=⟨if_pos (.inl h),by unfold txN;rw [if_pos (.inl h)];rfl⟩
theorem Jbv {x:TxD} {n:Nat} (h:n ≥ 4) (hn:n=x.marks.length):txM x=x∧(0:Int)=((txN x:Nat):Int):=⟨if_pos (.inr zO),by unfold txN;rw [if_pos (.inr zO)];rfl⟩
theorem J7L {x:TxD} {n:Nat} (h:¬ x.state≠1) (h2:¬ n ≥ 4) (hn:n=x.marks.length):txM x=⟨x.id,x.age,x.proc,x.began,x.calls,x.answers,x.touch,x.marks++[((x.calls.length:Nat):Int)],x.state⟩∧txN x=x.marks.length+1:=by
 have hh:¬ (x.state≠1∨4≤x.marks.length):=by
  rintro (h3|h3)
  ·exact h h3
  omega
 exact ⟨if_neg hh,if_neg hh⟩
theorem Jix {l:List Int} {n m:Nat} (h:n=m):l++[((n:Nat):Int)]=l++[((m:Nat):Int)]:=by rw [h]
theorem Jhq {l:List Int} {N n:Nat} (h:N=(l++[((n:Nat):Int)]).length):N=l.length+1:=by rw [h,List.length_append];rfl
theorem JC (x:TxD):(txM x).calls.length=x.calls.length∧(txM x).answers.length=x.answers.length∧(txM x).touch.reads.length=x.touch.reads.length∧(txM x).touch.writes.length=x.touch.writes.length∧(txM x).marks.length≤x.marks.length+1:=by
 unfold txM
 split
 ·exact ⟨rfl,rfl,rfl,rfl,Nat.le_succ _⟩
 exact ⟨rfl,rfl,rfl,rfl,by rw [List.length_append];exact Nat.le_refl _⟩
theorem J1o (x:TxD):(txM x).id=x.id∧(txM x).age=x.age∧(txM x).proc=x.proc∧(txM x).began=x.began∧(txM x).state=x.state:=by
 unfold txM
 split <;> exact ⟨rfl,rfl,rfl,rfl,rfl⟩
set_option maxRecDepth 100000
set_option maxHeartbeats 1000000
theorem J3y {l:List ByteArray} {x y:ByteArray} : y ∈ JI l x ↔ y ∈ l∨y=x:=by
 unfold JI
 split
 ·rename_i h
  have hx:x ∈ l:=List.mem_of_getElem? h
  exact ⟨.inl,fun h=>h.elim id (fun e=>e ▸ hx)⟩
 unfold JL
 rw [List.mem_append,List.mem_cons]
 have:y ∈ l ↔ y ∈ l.take (l.findIdx (geS x))∨y ∈ l.drop (l.findIdx (geS x)):=by rw [← List.mem_append,List.take_append_drop]
 rw [this]
 constructor
 ·rintro (h|h|h)
  ·exact .inl (.inl h)
  ·exact .inr h
  exact .inl (.inr h)
 rintro ((h|h)|h)
 ·exact .inl h
 ·exact .inr (.inr h)
 exact .inr (.inl h)
theorem JfB (x:ByteArray):ltS x x=false:=by
 have h:∀ l:List UInt8,Op.bytesLess l l=false:=by
  intro l
  induction l with
  | nil=>rfl
  | cons a l ih=>simp [Op.bytesLess,ih]
 exact h _
def J1N (a b:List CellD) (o:List ByteArray) (c:CellD):List ByteArray:=if Jl a c.key≠Jl b c.key then JI o c.key else o
def J1G (a b:List CellD) (k:Nat):List ByteArray:=((a++b).take k).foldl (J1N a b) []
def J0Z (a b:List CellD):List ByteArray:=(a++b).foldl (J1N a b) []
theorem J8p (a b:List CellD) (k:Nat):(J1G a b k).length≤k:=by
 have h:∀ (l:List CellD) (o:List ByteArray),(l.foldl (J1N a b) o).length≤o.length+l.length:=by
  intro l
  induction l with
  | nil=>intro o;simp
  | cons c l ih=>
   intro o
   have h1:=ih (J1N a b o c)
   have h2:(J1N a b o c).length≤o.length+1:=by
    unfold J1N
    split
    ·exact J3q ..
    omega
   simp only [List.foldl_cons,List.length_cons];omega
 have:=h ((a++b).take k) []
 unfold J1G
 rw [List.length_take] at this
 simp only [List.length_nil] at this
 omega
theorem J8N {a b:List CellD} {k:Nat} {x:CellD} (hx:nth (a++b) k=some x):J1G a b (k+1)=J1N a b (J1G a b k) x:=by
 unfold J1G
 rw [J1l hx,List.foldl_append];rfl
theorem J9T {α:Type} {a b:List α} {k:Nat} {x:α} (hx:nth a k=some x):nth (a++b) k=some x:=by
 have:=J4H hx
 rw [JO] at *
 rw [List.getElem?_append_left this];exact hx
theorem J9j {α:Type} {a b:List α} {k n:Nat} {x:α} (hn:n=a.length) (h:¬ k < n) (hx:nth b (k - n)=some x):nth (a++b) k=some x:=by
 subst hn
 rw [JO] at *
 rw [List.getElem?_append_right zO];exact hx
theorem JaP {a b:List CellD} {k:Nat} {x:CellD} (hx:nth (a++b) k=some x) (h:Jl a x.key≠Jl b x.key):JI (J1G a b k) x.key=J1G a b (k+1):=by
 rw [J8N hx];unfold J1N;rw [if_pos h]
theorem JaO {a b:List CellD} {k:Nat} {x:CellD} (hx:nth (a++b) k=some x) (h:¬ Jl a x.key≠Jl b x.key):J1G a b k=J1G a b (k+1):=by
 rw [J8N hx];unfold J1N;rw [if_neg h]
theorem J94 {a b:List CellD} {k m n:Nat} (ha:m=a.length) (hb:n=b.length) (h:¬ k < m+n):J1G a b k=J0Z a b:=by
 unfold J1G J0Z
 rw [List.take_of_length_le (by rw [List.length_append];omega)]
theorem J4l {l:List CellD} {p k:ByteArray} : k ∈ Jt l p ↔ (∃ c ∈ l,c.key=k)∧J0h k p=true:=by
 simp only [Jt,List.mem_map,List.mem_filter]
 constructor
 ·rintro ⟨c,⟨h1,h2⟩,rfl⟩;exact ⟨⟨c,h1,rfl⟩,h2⟩
 rintro ⟨⟨c,h1,rfl⟩,h2⟩;exact ⟨c,⟨h1,h2⟩,rfl⟩
theorem J2h {s:List CellD} {key:ByteArray} {c:CellD} : c ∈ Jx s key ↔ c ∈ s∧c.key≠key:=by
 unfold Jx
 rw [List.mem_filter]
 simp
end Go.Proofs.YtipdbeklopjbmaaGreatDoor
