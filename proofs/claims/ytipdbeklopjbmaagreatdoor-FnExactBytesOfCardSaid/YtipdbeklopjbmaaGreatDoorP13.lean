/-
  Texts laid together: GenNa, GenNb, GenRa.
-/
import Derived.Test.YtipdbeklopjbmaaGreatDoorP07
import Derived.Test.YtipdbeklopjbmaaGreatDoorP12
import Derived.Test.YtipdbeklopjbmaaGreatDoorP04
set_option linter.unusedVariables false
set_option linter.unusedSimpArgs false
namespace Go.Proofs.YtipdbeklopjbmaaGreatDoor
open Go.ChangeShapes Go.WideShapes Go.ChangeAt Go.RowKit
set_option maxRecDepth 100000
set_option maxHeartbeats 1000000
theorem strconv_Itoa_c {w:World} {H:Nat→Prop} {i:Int} (h_i:i64ok i) (tab0:Tb 0 H w) :
 Calls Tryz.prog 182 #[.int .i64 i] w fun e w'=>e=.returned (.string (decS i))∧Mv [] w [] w'∧okS (decS i):=by
 obtain ⟨b1,b2⟩:=h_i
 refine (Any.strconv_Itoa laysItoa i (by omega) (by omega) w tab0.1).mono ?_
 rintro e w' ⟨rfl,k,os,rfl⟩
 exact ⟨rfl,mv_below (below_grow w k os),Nat.le_trans (decS_size i ⟨b1,b2⟩) (by decide)⟩
theorem impl_Decimal_c {w:World} {H:Nat→Prop} {n:Int} (h_n:i64ok n) (tab0:Tb 0 H w) :
 Calls Tryz.prog 151 #[.int .i64 n] w fun e w'=>e=.returned (.string (decS n))∧Mv [] w [] w'∧okS (decS n):=by
 have V_tab0:=Tb.start tab0 zN
 refine ze fun _ F=>?_
 refine zz F (strconv_Itoa_c (i:=n) h_n V_tab0) ?_
 rintro _ w3 ⟨rfl,m3,Q0⟩
 refine zt fun _ F=>?_
 have S3:=At.frame0 (At.nil w) m3
 clear m3
 refine x_done F (results_1 rfl (zta F)) ?_
 exact ⟨rfl,(Mv.pick S3 [] rfl),Q0⟩
theorem spec_l01Figure_c {w:World} {H:Nat→Prop} {x:Int} (h_x:i64ok x) (p0:0≤x) (p1:x < 16) :
 Calls Tryz.prog 177 #[.int .i64 x] w fun e w'=>e=.returned (.int .u8 ((fig x.toNat:Nat):Int))∧Mv [] w [] w'∧fig x.toNat < 256:=by
 refine ze fun _ F=>?_
 refine zc F (x < 10) fun _ F=>?_
 refine zi F (fun h4=>?_) fun h4=>?_
 ·refine zr fun _ F=>?_
  refine zq F (48+x) fun _ F=>?_
  refine zv F (r_conv8 Tryz.underlying5 Tryz.underlying3 rfl ((F.ev 6 rfl).trans (congrArg _ (show 48+x=(((48+x).toNat:Nat):Int) by omega))) (by omega)) fun _ F=>?_
  refine x_done F (results_1 rfl (zta F)) ?_
  exact ⟨(zV1 (zVi (by exact congrArg (fun n:Nat=>(n:Int)) (fig_lo ‹_› ‹_›)))),(Mv.pick (Mv.refl (At.nil w)) [] rfl),fig_lt (by omega)⟩
 ·refine zr fun _ F=>?_
  refine zq F (97+x) fun _ F=>?_
  refine zq F ((97+x) - 10) fun _ F=>?_
  refine zv F (r_conv8 Tryz.underlying5 Tryz.underlying3 rfl ((F.ev 10 rfl).trans (congrArg _ (show (97+x) - 10=((((97+x) - 10).toNat:Nat):Int) by omega))) (by omega)) fun _ F=>?_
  refine x_done F (results_1 rfl (zta F)) ?_
  exact ⟨(zV1 (zVi (by rw [show (97+x) - 10=87+x by omega,fig_hi ‹_›]))),(Mv.pick (Mv.refl (At.nil w)) [] rfl),fig_lt (by omega)⟩
theorem spec_Decimal_c {w:World} {H:Nat→Prop} {n:Int} (h_n:i64ok n) :
 Calls Tryz.prog 144 #[.int .i64 n] w fun e w'=>e=.returned (.string (decS n))∧Mv [] w [] w'∧okS (decS n):=by
 refine ze fun _ F=>?_
 refine zc F (n=0) fun _ F=>?_
 refine zi F (fun h4=>?_) fun h4=>?_
 ·refine zr fun _ F=>?_
  refine x_done F (results_1 rfl (zta F)) ?_
  exact ⟨(zV1 (zVs (by exact dec0 ‹_›))),(Mv.pick (Mv.refl (At.nil w)) [] rfl),((show (⟨#[48]⟩:ByteArray)=(decS n) from by exact dec0 ‹_›) ▸ (by unfold okS;decide))⟩
 ·refine zr fun _ F=>?_
  refine zc F (n < 0) fun _ F=>?_
  refine x_lp (fun (m:Int) aZ wZ=>∃ (s:ByteArray),Fr 30 [(4,.string s),(3,.bool (decide (n < 0))),(0,.int .i64 m)] aZ∧Mv [] w [] wZ∧okS s∧(decInv n m s)) (fun (m:Int)=>m.natAbs) (n) ?_ ?_
  ·exact ⟨bE_,F.cut rfl,(Mv.refl (At.nil w)),(by unfold okS;decide),decInv.start n⟩
  ·rintro m a10 w10 ⟨s,F,S10,kk10_0,hk_0⟩
   have hsz:=hk_0.size h_n
   have h_m:=hk_0.i64 h_n
   refine zr fun _ F=>?_
   refine zc F (m≠0) fun _ F=>?_
   refine zi F (fun h13=>?_) fun h13=>?_
   ·refine zr fun _ F=>?_
    have rm15 : -10 < m.tmod 10∧m.tmod 10 < 10:=tmod_bd _ (by decide)
    refine zv (v:=.int .i64 (m.tmod 10)) F (r_remI (c:=10) rfl (by decide) rfl (F.g rfl) rfl) fun _ F=>?_
    refine zc F ((m.tmod 10) < 0) fun _ F=>?_
    refine zi F (fun h20=>?_) fun h20=>?_
    ·refine zr fun _ F=>?_
     refine zv F (r_negI rfl (F.g rfl) ⟨by omega,by omega⟩) fun _ F=>?_
     refine zz F (spec_l01Figure_c (H:=fun _=>True) (x:=(-(m.tmod 10))) zI7 zI8 zI8) ?_
     rintro _ w25 ⟨rfl,m25,q25_0⟩
     refine zt fun _ F=>?_
     have S25:=At.frame0 S10.at' m25
     clear m25
     refine l_op (f_buildSl (ok:=okB) (vs:=[.int .u8 ((fig (-(m.tmod 10)).toNat:Nat):Int)]) F S25.at' ([fig (-(m.tmod 10)).toNat]) ET_62 rfl rfl rfl rfl rfl rfl (lc (pr2 (F.g rfl)) rfl) rfl rfl (fun x hx=>(List.mem_singleton.1 hx) ▸ (show fig (-(m.tmod 10)).toNat < 256 by omega)) fun b27 _ w27 F S27=>?_)
     refine zv F (r_bstr Tryz.underlying62 Tryz.underlying5 Tryz.underlying9 ((At.rd S27.at' ET_62.hk 0 rfl)).1 rfl (F.g rfl)) fun _ F=>?_
     have k31:(bstr ([fig (-(m.tmod 10)).toNat])).size+s.size≤9223372036854775807:=by first|(rw [bstr_size];((repeat (first|rw [List.length_append]|rw [List.length_cons]|rw [List.length_nil]|rw [List.length_take]|rw [List.length_drop])) <;> omega))|(have:(⟨#[45]⟩:ByteArray).size=1:=rfl;omega)
     refine zv F (r_cat rfl (F.g rfl) (F.g rfl) k31) fun _ F=>?_
     refine zv (v:=.int .i64 (m.tdiv 10)) F (r_quoI (c:=10) rfl (by decide) (by first|assumption|exact ⟨by omega,by omega⟩) rfl (F.g rfl) rfl) fun _ F=>?_
     exact ⟨m.tdiv 10,by (try dsimp only);exact tdiv_dec ‹_›,((bstr ([fig (-(m.tmod 10)).toNat]))++s),F.cut rfl,((S10.trans (S25.trans S27)).pick [] rfl),(okS_cat k31),by first|exact hk_0.stepA ‹_› ‹_›|exact hk_0.stepB ‹_› ‹_›⟩
    ·refine zr fun _ F=>?_
     refine zz F (spec_l01Figure_c (H:=fun _=>True) (x:=(m.tmod 10)) zI7 zI8 zI8) ?_
     rintro _ w38 ⟨rfl,m38,q38_0⟩
     refine zt fun _ F=>?_
     have S38:=At.frame0 S10.at' m38
     clear m38
     refine l_op (f_buildSl (ok:=okB) (vs:=[.int .u8 ((fig (m.tmod 10).toNat:Nat):Int)]) F S38.at' ([fig (m.tmod 10).toNat]) ET_62 rfl rfl rfl rfl rfl rfl (lc (pr2 (F.g rfl)) rfl) rfl rfl (fun x hx=>(List.mem_singleton.1 hx) ▸ (show fig (m.tmod 10).toNat < 256 by omega)) fun b40 _ w40 F S40=>?_)
     refine zv F (r_bstr Tryz.underlying62 Tryz.underlying5 Tryz.underlying9 ((At.rd S40.at' ET_62.hk 0 rfl)).1 rfl (F.g rfl)) fun _ F=>?_
     have k44:(bstr ([fig (m.tmod 10).toNat])).size+s.size≤9223372036854775807:=by first|(rw [bstr_size];((repeat (first|rw [List.length_append]|rw [List.length_cons]|rw [List.length_nil]|rw [List.length_take]|rw [List.length_drop])) <;> omega))|(have:(⟨#[45]⟩:ByteArray).size=1:=rfl;omega)
     refine zv F (r_cat rfl (F.g rfl) (F.g rfl) k44) fun _ F=>?_
     refine zv (v:=.int .i64 (m.tdiv 10)) F (r_quoI (c:=10) rfl (by decide) (by first|assumption|exact ⟨by omega,by omega⟩) rfl (F.g rfl) rfl) fun _ F=>?_
     exact ⟨m.tdiv 10,by (try dsimp only);exact tdiv_dec ‹_›,((bstr ([fig (m.tmod 10).toNat]))++s),F.cut rfl,((S10.trans (S38.trans S40)).pick [] rfl),(okS_cat k44),by first|exact hk_0.stepA ‹_› ‹_›|exact hk_0.stepB ‹_› ‹_›⟩
   ·refine zr fun _ F=>?_
    refine zi F (fun h51=>?_) fun h51=>?_
    ·refine zr fun _ F=>?_
     have k53:(⟨#[45]⟩:ByteArray).size+s.size≤9223372036854775807:=by first|(rw [bstr_size];((repeat (first|rw [List.length_append]|rw [List.length_cons]|rw [List.length_nil]|rw [List.length_take]|rw [List.length_drop])) <;> omega))|(have:(⟨#[45]⟩:ByteArray).size=1:=rfl;omega)
     refine zv F (r_cat rfl rfl (F.g rfl) k53) fun _ F=>?_
     refine x_done F (results_1 rfl (zta F)) ?_
     exact ⟨(zV1 (zVs (by exact hk_0.end2 ‹_› ‹_›))),(Mv.pick S10 [] rfl),(zOk (by exact hk_0.end2 ‹_› ‹_›) (okS_cat k53))⟩
    ·refine zr fun _ F=>?_
     refine x_done F (results_1 rfl (zta F)) ?_
     exact ⟨(zV1 (zVs (by exact hk_0.end1 ‹_› ‹_› ‹_›))),(Mv.pick S10 [] rfl),(zOk (by exact hk_0.end1 ‹_› ‹_› ‹_›) kk10_0)⟩
theorem impl_KeyNum_c {w:World} {H:Nat→Prop} {head:ByteArray} {n:Int} {tail:ByteArray} (Q0:okS head) (h_n:i64ok n) (Q1:okS tail) (tab0:Tb 0 H w) (p0:head.size≤1000) (p1:tail.size≤1000) :
 Calls Tryz.prog 326 #[.string head,.int .i64 n,.string tail] w fun e w'=>e=.returned (.string (keyNum head n tail))∧Mv [] w [] w'∧okS (keyNum head n tail):=by
 have dz:=decS_size n h_n
 have V_tab0:=Tb.start tab0 zN
 refine ze fun _ F=>?_
 refine zz F (impl_Decimal_c (n:=n) h_n V_tab0) ?_
 rintro _ w4 ⟨rfl,m4,Q2⟩
 refine zt fun _ F=>?_
 have S4:=At.frame0 (At.nil w) m4
 clear m4
 have k6:head.size+(decS n).size≤9223372036854775807:=by first|omega|(simp only [ByteArray.size_append];omega)
 refine zv F (r_cat rfl (F.g rfl) (F.g rfl) k6) fun _ F=>?_
 have k9:(head++(decS n)).size+tail.size≤9223372036854775807:=by first|omega|(simp only [ByteArray.size_append];omega)
 refine zv F (r_cat rfl (F.g rfl) (F.g rfl) k9) fun _ F=>?_
 refine x_done F (results_1 rfl (zta F)) ?_
 exact ⟨rfl,(Mv.pick S4 [] rfl),(zOk (by rfl) (okS_cat k9))⟩
theorem spec_KeyNum_c {w:World} {H:Nat→Prop} {head:ByteArray} {n:Int} {tail:ByteArray} (Q0:okS head) (h_n:i64ok n) (Q1:okS tail) (p0:head.size≤1000) (p1:tail.size≤1000) :
 Calls Tryz.prog 283 #[.string head,.int .i64 n,.string tail] w fun e w'=>e=.returned (.string (keyNum head n tail))∧Mv [] w [] w'∧okS (keyNum head n tail):=by
 have dz:=decS_size n h_n
 refine ze fun _ F=>?_
 refine zz F (spec_Decimal_c (H:=fun _=>True) (n:=n) h_n) ?_
 rintro _ w4 ⟨rfl,m4,Q2⟩
 refine zt fun _ F=>?_
 have S4:=At.frame0 (At.nil w) m4
 clear m4
 have k6:head.size+(decS n).size≤9223372036854775807:=by first|omega|(simp only [ByteArray.size_append];omega)
 refine zv F (r_cat rfl (F.g rfl) (F.g rfl) k6) fun _ F=>?_
 have k9:(head++(decS n)).size+tail.size≤9223372036854775807:=by first|omega|(simp only [ByteArray.size_append];omega)
 refine zv F (r_cat rfl (F.g rfl) (F.g rfl) k9) fun _ F=>?_
 refine x_done F (results_1 rfl (zta F)) ?_
 exact ⟨rfl,(Mv.pick S4 [] rfl),(zOk (by rfl) (okS_cat k9))⟩
theorem rz {s:ByteArray} (h:readN s=0∧readB s=false):(0:Int)=((readN s:Nat):Int):=by rw [h.1];rfl
theorem rzB {s:ByteArray} (h:readN s=0∧readB s=false):false=readB s:=h.2.symm
theorem rd_a {s:ByteArray} {r:Int} {ev:Value} (q:atoiR s r ev) (h:isErr ev=true):readN s=0∧readB s=false:=by
 rcases q with ⟨_,rfl⟩|⟨h1,_⟩
 ·exact absurd h (by decide)
 ·exact read_bad h1
theorem atoiR.okR {s:ByteArray} {r:Int} {ev:Value} (q:atoiR s r ev) (h:isErr ev=false):Lib.atoiAll s.data.toList=.ok r:=by
 rcases q with ⟨h1,_⟩|⟨_,h2⟩
 ·exact h1
 ·rw [h] at h2;cases h2
theorem rd_b {s:ByteArray} {r:Int} {ev:Value} (q:atoiR s r ev) (h:isErr ev=false) (hr:(!inB r 0 1000000000)=true):readN s=0∧readB s=false:=
 read_out (q.okR h) (.inl fun e=>by
  have:=nt hr
  unfold inB at this
  exact of_decide_eq_false this e)
theorem rd_c {s:ByteArray} {r:Int} {ev:Value} (q:atoiR s r ev) (h:isErr ev=false) (hd:decS r≠s):readN s=0∧readB s=false:=read_out (q.okR h) (.inr hd)
theorem rd_d {s:ByteArray} {r:Int} (hr:(!inB r 0 1000000000)=false) (hd:¬ decS r≠s):(readN s:Int)=r∧readB s=true:=
 read_in (by have:=nf hr;unfold inB at this;exact of_decide_eq_true this) (Classical.not_not.1 hd)
theorem valN_succ (s:ByteArray) (k:Nat):valN s (k+1)=10 * valN s k+(byteAt s k - 48):=rfl
theorem end_eq {s:ByteArray} {k:Nat} (h:¬ k < s.size) (hk:k≤s.size):k=s.size:=by omega
theorem rs_a {s:ByteArray} {k:Nat} (h:¬ k < s.size) (hk:k≤s.size) (hv:valN s k > 1000000000):readN s=0∧readB s=false:=by
 have e:=end_eq h hk
 subst e
 exact read_val (.inl (Nat.not_le_of_gt hv))
theorem rs_b {s:ByteArray} {k:Nat} (h:¬ k < s.size) (hk:k≤s.size) (hv:decS ((valN s k:Nat):Int)≠s):readN s=0∧readB s=false:=by
 have e:=end_eq h hk
 subst e
 exact read_val (.inr hv)
theorem rs_c {s:ByteArray} {k:Nat} (h:¬ k < s.size) (hk:k≤s.size) (hv:¬ valN s k > 1000000000) (hd:¬ decS ((valN s k:Nat):Int)≠s):readN s=valN s k∧readB s=true:=by
 have e:=end_eq h hk
 subst e
 exact read_yes (Nat.le_of_not_gt hv) (Classical.not_not.1 hd)
theorem numZ {v:ByteArray} {n:Nat} (h:n=numOf v):((n:Nat):Int)=((numOf v:Nat):Int):=by rw [h]
theorem numZ0 {v:ByteArray} (h:0=numOf v):(0:Int)=((numOf v:Nat):Int):=by rw [← h];rfl
theorem castN {a b:Nat} (h:a=b):((b:Nat):Int)=((a:Nat):Int):=by rw [h]
theorem strconv_Atoi_c {w:World} {H:Nat→Prop} {s:ByteArray} (h_s:okS s) (tab1:Tb 1 H w) (p0:s.size≤281474976710656) :
 Calls Tryz.prog 172 #[.string s] w fun e w'=>∃ (r:Int),∃ (ev:Value),e=.returned (.tuple #[.int .i64 r,ev])∧Mv [] w [] w'∧i64ok r∧errV ev∧atoiR s r ev:=by
 obtain ⟨⟨es,hs,es2⟩,⟨er,hr,er2⟩⟩:=tab1.1
 cases h:Lib.atoiAll s.data.toList
 ·rename_i v
  refine (Any.strconv_Atoi_ok laysAtoi s (by omega) v h w).mono ?_
  rintro e w' ⟨rfl,hw⟩
  have hb:=Lib.atoiAll_bounds h
  refine ⟨v,.nilIface,rfl,mv_below ?_,⟨by omega,by omega⟩,.inl rfl,.inl ⟨h,rfl⟩⟩
  rcases hw with rfl|⟨t,rfl⟩
  ·exact Below.refl _ _
  ·exact Lib.bytesWorld_below _ _ _
 ·refine (Any.strconv_Atoi_syntax laysAtoi s p0 h es w hs es2).mono ?_
  rintro e w' ⟨n,rfl,h1,h2,h3⟩
  exact ⟨0,_,rfl,mv_below h3,⟨by omega,by omega⟩,.inr ⟨_,_,rfl⟩,.inr ⟨(fun v e=>by rw [h] at e;cases e),rfl⟩⟩
 ·refine (Any.strconv_Atoi_range laysAtoi s p0 h er w hr er2).mono ?_
  rintro e w' ⟨n,rfl,h1,h2,h3⟩
  have hb:=Lib.atoiSat_bounds s.data.toList
  exact ⟨_,_,rfl,mv_below h3,⟨by omega,by omega⟩,.inr ⟨_,_,rfl⟩,.inr ⟨(fun v e=>by rw [h] at e;cases e),rfl⟩⟩
theorem impl_ReadDecimal_c {w:World} {H:Nat→Prop} {text:ByteArray} (Q0:okS text) (tab0:Tb 0 H w) (tab1:Tb 1 H w) (p0:text.size≤281474976710656) :
 Calls Tryz.prog 139 #[.string text] w fun e w'=>e=.returned (.tuple #[.int .i64 ((readN text:Nat):Int),.bool (readB text)])∧Mv [] w [] w':=by
 have V_tab0:=Tb.start tab0 zN
 have V_tab1:=Tb.start tab1 zN
 refine ze fun _ F=>?_
 refine zz F (strconv_Atoi_c (s:=text) Q0 V_tab1 zI8) ?_
 rintro _ w4 ⟨r_4,ev_4,rfl,m4,q4_0,q4_1,q4_2⟩
 refine zt fun _ F=>?_
 have S4:=At.frame0 (At.nil w) m4
 clear m4
 refine zv F (r_errNe Tryz.underlying197 rfl (F.g rfl) rfl ‹_›) fun _ F=>?_
 rcases Bool.eq_false_or_eq_true (isErr ev_4) with h14|h14
 ·rw [h14] at F
  refine zr fun _ F=>?_
  refine x_done F (results_2 rfl (zta F) (zta F)) ?_
  exact ⟨(zV1 (zVt (lc (zVi (by first|exact rz (rd_a ‹_› ‹_›)|exact rzB (rd_a ‹_› ‹_›)|exact rz (rd_b ‹_› ‹_› ‹_›)|exact rzB (rd_b ‹_› ‹_› ‹_›)|exact rz (rd_c ‹_› ‹_› ‹_›)|exact rzB (rd_c ‹_› ‹_› ‹_›)|exact (rd_d ‹_› ‹_›).1.symm|exact (rd_d ‹_› ‹_›).2.symm)) (lc (zVb (by first|exact rz (rd_a ‹_› ‹_›)|exact rzB (rd_a ‹_› ‹_›)|exact rz (rd_b ‹_› ‹_› ‹_›)|exact rzB (rd_b ‹_› ‹_› ‹_›)|exact rz (rd_c ‹_› ‹_› ‹_›)|exact rzB (rd_c ‹_› ‹_› ‹_›)|exact (rd_d ‹_› ‹_›).1.symm|exact (rd_d ‹_› ‹_›).2.symm)) rfl)))),(Mv.pick S4 [] rfl)⟩
 ·rw [h14] at F
  refine zr fun _ F=>?_
  refine zz F (impl_within_c (H:=fun _=>True) (n:=r_4) (low:=0) (high:=1000000000) zI7 zI7 zI7) ?_
  rintro _ w28 ⟨rfl,m28⟩
  refine zt fun _ F=>?_
  have S28:=At.frame0 S4.at' m28
  clear m28
  refine zv F (r_not rfl (F.g rfl)) fun _ F=>?_
  rcases Bool.eq_false_or_eq_true (!(inB r_4 0 1000000000)) with h33|h33
  ·rw [h33] at F
   refine zr fun _ F=>?_
   refine x_done F (results_2 rfl (zta F) (zta F)) ?_
   exact ⟨(zV1 (zVt (lc (zVi (by first|exact rz (rd_a ‹_› ‹_›)|exact rzB (rd_a ‹_› ‹_›)|exact rz (rd_b ‹_› ‹_› ‹_›)|exact rzB (rd_b ‹_› ‹_› ‹_›)|exact rz (rd_c ‹_› ‹_› ‹_›)|exact rzB (rd_c ‹_› ‹_› ‹_›)|exact (rd_d ‹_› ‹_›).1.symm|exact (rd_d ‹_› ‹_›).2.symm)) (lc (zVb (by first|exact rz (rd_a ‹_› ‹_›)|exact rzB (rd_a ‹_› ‹_›)|exact rz (rd_b ‹_› ‹_› ‹_›)|exact rzB (rd_b ‹_› ‹_› ‹_›)|exact rz (rd_c ‹_› ‹_› ‹_›)|exact rzB (rd_c ‹_› ‹_› ‹_›)|exact (rd_d ‹_› ‹_›).1.symm|exact (rd_d ‹_› ‹_›).2.symm)) rfl)))),(Mv.pick (S4.trans S28) [] rfl)⟩
  ·rw [h33] at F
   refine zr fun _ F=>?_
   refine zz F (impl_Decimal_c (n:=r_4) zI7 (Tb.mv V_tab0 (S4.trans S28))) ?_
   rintro _ w42 ⟨rfl,m42,Q1⟩
   refine zt fun _ F=>?_
   have S42:=At.frame0 S28.at' m42
   clear m42
   refine zv F (r_cmps (b:=(decide ((decS r_4)≠text))) (.inr (.inl rfl)) rfl (F.g rfl) (F.g rfl) rfl) fun _ F=>?_
   refine zi F (fun h47=>?_) fun h47=>?_
   ·refine zr fun _ F=>?_
    refine x_done F (results_2 rfl (zta F) (zta F)) ?_
    exact ⟨(zV1 (zVt (lc (zVi (by first|exact rz (rd_a ‹_› ‹_›)|exact rzB (rd_a ‹_› ‹_›)|exact rz (rd_b ‹_› ‹_› ‹_›)|exact rzB (rd_b ‹_› ‹_› ‹_›)|exact rz (rd_c ‹_› ‹_› ‹_›)|exact rzB (rd_c ‹_› ‹_› ‹_›)|exact (rd_d ‹_› ‹_›).1.symm|exact (rd_d ‹_› ‹_›).2.symm)) (lc (zVb (by first|exact rz (rd_a ‹_› ‹_›)|exact rzB (rd_a ‹_› ‹_›)|exact rz (rd_b ‹_› ‹_› ‹_›)|exact rzB (rd_b ‹_› ‹_› ‹_›)|exact rz (rd_c ‹_› ‹_› ‹_›)|exact rzB (rd_c ‹_› ‹_› ‹_›)|exact (rd_d ‹_› ‹_›).1.symm|exact (rd_d ‹_› ‹_›).2.symm)) rfl)))),(Mv.pick (S4.trans (S28.trans S42)) [] rfl)⟩
   ·refine zr fun _ F=>?_
    refine x_done F (results_2 rfl (zta F) (zta F)) ?_
    exact ⟨(zV1 (zVt (lc (zVi (by first|exact rz (rd_a ‹_› ‹_›)|exact rzB (rd_a ‹_› ‹_›)|exact rz (rd_b ‹_› ‹_› ‹_›)|exact rzB (rd_b ‹_› ‹_› ‹_›)|exact rz (rd_c ‹_› ‹_› ‹_›)|exact rzB (rd_c ‹_› ‹_› ‹_›)|exact (rd_d ‹_› ‹_›).1.symm|exact (rd_d ‹_› ‹_›).2.symm)) (lc (zVb (by first|exact rz (rd_a ‹_› ‹_›)|exact rzB (rd_a ‹_› ‹_›)|exact rz (rd_b ‹_› ‹_› ‹_›)|exact rzB (rd_b ‹_› ‹_› ‹_›)|exact rz (rd_c ‹_› ‹_› ‹_›)|exact rzB (rd_c ‹_› ‹_› ‹_›)|exact (rd_d ‹_› ‹_›).1.symm|exact (rd_d ‹_› ‹_›).2.symm)) rfl)))),(Mv.pick (S4.trans (S28.trans S42)) [] rfl)⟩
theorem spec_ReadDecimal_c {w:World} {H:Nat→Prop} {text:ByteArray} (Q0:okS text) :
 Calls Tryz.prog 134 #[.string text] w fun e w'=>e=.returned (.tuple #[.int .i64 ((readN text:Nat):Int),.bool (readB text)])∧Mv [] w [] w':=by
 refine ze fun _ F=>?_
 refine zc F (text.size > 10) fun _ F=>?_
 refine zi F (fun h6=>?_) fun h6=>?_
 ·refine zr fun _ F=>?_
  refine x_done F (results_2 rfl (zta F) (zta F)) ?_
  exact ⟨(zV1 (zVt (lc (zVi (by first|exact rz (read_long ‹_›)|exact rzB (read_long ‹_›)|exact rz (read_fig (k:=k) (by omega) (by omega))|exact rzB (read_fig (k:=k) (by omega) (by omega))|exact rz (rs_a (k:=k) ‹_› (by omega) ‹_›)|exact rzB (rs_a (k:=k) ‹_› (by omega) ‹_›)|exact rz (rs_b (k:=k) ‹_› (by omega) ‹_›)|exact rzB (rs_b (k:=k) ‹_› (by omega) ‹_›)|exact castN (rs_c (k:=k) ‹_› (by omega) ‹_› ‹_›).1|exact (rs_c (k:=k) ‹_› (by omega) ‹_› ‹_›).2.symm)) (lc (zVb (by first|exact rz (read_long ‹_›)|exact rzB (read_long ‹_›)|exact rz (read_fig (k:=k) (by omega) (by omega))|exact rzB (read_fig (k:=k) (by omega) (by omega))|exact rz (rs_a (k:=k) ‹_› (by omega) ‹_›)|exact rzB (rs_a (k:=k) ‹_› (by omega) ‹_›)|exact rz (rs_b (k:=k) ‹_› (by omega) ‹_›)|exact rzB (rs_b (k:=k) ‹_› (by omega) ‹_›)|exact castN (rs_c (k:=k) ‹_› (by omega) ‹_› ‹_›).1|exact (rs_c (k:=k) ‹_› (by omega) ‹_› ‹_›).2.symm)) rfl)))),(Mv.pick (Mv.refl (At.nil w)) [] rfl)⟩
 ·refine zr fun _ F=>?_
  refine x_lp (fun (k:Nat) aZ wZ=>Fr 42 [(5,.int .i64 ((k:Nat):Int)),(4,.int .i64 ((valN text k:Nat):Int)),(0,.string text)] aZ∧Mv [] w [] wZ∧(k≤text.size)∧(∀ j,j < k→48≤byteAt text j∧byteAt text j≤57)) (fun (k:Nat)=>text.size - k) (0) ?_ ?_
  ·exact ⟨F.cut rfl,(Mv.refl (At.nil w)),by omega,all_none⟩
  ·rintro k a11 w11 ⟨F,S11,hk_0,hk_1⟩
   have hv10:=valN_le (s:=text) (k:=k) hk_1 (by omega)
   refine zr fun _ F=>?_
   refine zc F (k < text.size) fun _ F=>?_
   refine zi F (fun h16=>?_) fun h16=>?_
   ·refine zr fun _ F=>?_
    refine zv F (r_indexS (i:=k) Tryz.underlying9 rfl (F.g rfl) (F.g rfl) (by omega) zIa) fun _ F=>?_
    refine zc F (byteAt text k < 48) fun _ F=>?_
    rcases Decidable.em (byteAt text k < 48) with h22|h22
    ·rw [decide_eq_true h22] at F
     refine zr fun _ F=>?_
     refine x_done F (results_2 rfl (zta F) (zta F)) ?_
     exact ⟨(zV1 (zVt (lc (zVi (by first|exact rz (read_long ‹_›)|exact rzB (read_long ‹_›)|exact rz (read_fig (k:=k) (by omega) (by omega))|exact rzB (read_fig (k:=k) (by omega) (by omega))|exact rz (rs_a (k:=k) ‹_› (by omega) ‹_›)|exact rzB (rs_a (k:=k) ‹_› (by omega) ‹_›)|exact rz (rs_b (k:=k) ‹_› (by omega) ‹_›)|exact rzB (rs_b (k:=k) ‹_› (by omega) ‹_›)|exact castN (rs_c (k:=k) ‹_› (by omega) ‹_› ‹_›).1|exact (rs_c (k:=k) ‹_› (by omega) ‹_› ‹_›).2.symm)) (lc (zVb (by first|exact rz (read_long ‹_›)|exact rzB (read_long ‹_›)|exact rz (read_fig (k:=k) (by omega) (by omega))|exact rzB (read_fig (k:=k) (by omega) (by omega))|exact rz (rs_a (k:=k) ‹_› (by omega) ‹_›)|exact rzB (rs_a (k:=k) ‹_› (by omega) ‹_›)|exact rz (rs_b (k:=k) ‹_› (by omega) ‹_›)|exact rzB (rs_b (k:=k) ‹_› (by omega) ‹_›)|exact castN (rs_c (k:=k) ‹_› (by omega) ‹_› ‹_›).1|exact (rs_c (k:=k) ‹_› (by omega) ‹_› ‹_›).2.symm)) rfl)))),(Mv.pick S11 [] rfl)⟩
    ·rw [decide_eq_false h22] at F
     refine zr fun _ F=>?_
     refine zv F (r_indexS (i:=k) Tryz.underlying9 rfl (F.g rfl) (F.g rfl) (by omega) zIa) fun _ F=>?_
     refine zc F (byteAt text k > 57) fun _ F=>?_
     refine zi F (fun h35=>?_) fun h35=>?_
     ·refine zr fun _ F=>?_
      refine x_done F (results_2 rfl (zta F) (zta F)) ?_
      exact ⟨(zV1 (zVt (lc (zVi (by first|exact rz (read_long ‹_›)|exact rzB (read_long ‹_›)|exact rz (read_fig (k:=k) (by omega) (by omega))|exact rzB (read_fig (k:=k) (by omega) (by omega))|exact rz (rs_a (k:=k) ‹_› (by omega) ‹_›)|exact rzB (rs_a (k:=k) ‹_› (by omega) ‹_›)|exact rz (rs_b (k:=k) ‹_› (by omega) ‹_›)|exact rzB (rs_b (k:=k) ‹_› (by omega) ‹_›)|exact castN (rs_c (k:=k) ‹_› (by omega) ‹_› ‹_›).1|exact (rs_c (k:=k) ‹_› (by omega) ‹_› ‹_›).2.symm)) (lc (zVb (by first|exact rz (read_long ‹_›)|exact rzB (read_long ‹_›)|exact rz (read_fig (k:=k) (by omega) (by omega))|exact rzB (read_fig (k:=k) (by omega) (by omega))|exact rz (rs_a (k:=k) ‹_› (by omega) ‹_›)|exact rzB (rs_a (k:=k) ‹_› (by omega) ‹_›)|exact rz (rs_b (k:=k) ‹_› (by omega) ‹_›)|exact rzB (rs_b (k:=k) ‹_› (by omega) ‹_›)|exact castN (rs_c (k:=k) ‹_› (by omega) ‹_› ‹_›).1|exact (rs_c (k:=k) ‹_› (by omega) ‹_› ‹_›).2.symm)) rfl)))),(Mv.pick S11 [] rfl)⟩
     ·refine zr fun _ F=>?_
      have hvs:=valN_succ text k
      have hv11:=byteAt_lt text k
      refine zq F ((10 * (valN text k):Nat):Int) fun _ F=>?_
      refine zv F (r_indexS (i:=k) Tryz.underlying9 rfl (F.g rfl) (F.g rfl) (by omega) zIa) fun _ F=>?_
      refine zv F (r_convU8 Tryz.underlying3 Tryz.underlying5 rfl (F.g rfl) ⟨by omega,by first|omega|(have:=byteAt_lt text k;omega)⟩) fun _ F=>?_
      refine zq F (((10 * (valN text k))+(byteAt text k):Nat):Int) fun _ F=>?_
      refine zq F ((valN text (k+1):Nat):Int) fun _ F=>?_
      refine zq F ((k+1:Nat):Int) fun _ F=>?_
      exact ⟨k+1,zD,F.cut rfl,(S11.pick [] rfl),by omega,all_step hk_1 ⟨by omega,by omega⟩⟩
   ·refine zr fun _ F=>?_
    refine zc F (valN text k > 1000000000) fun _ F=>?_
    rcases Decidable.em (valN text k > 1000000000) with h53|h53
    ·rw [decide_eq_true h53] at F
     refine zr fun _ F=>?_
     refine x_done F (results_2 rfl (zta F) (zta F)) ?_
     exact ⟨(zV1 (zVt (lc (zVi (by first|exact rz (read_long ‹_›)|exact rzB (read_long ‹_›)|exact rz (read_fig (k:=k) (by omega) (by omega))|exact rzB (read_fig (k:=k) (by omega) (by omega))|exact rz (rs_a (k:=k) ‹_› (by omega) ‹_›)|exact rzB (rs_a (k:=k) ‹_› (by omega) ‹_›)|exact rz (rs_b (k:=k) ‹_› (by omega) ‹_›)|exact rzB (rs_b (k:=k) ‹_› (by omega) ‹_›)|exact castN (rs_c (k:=k) ‹_› (by omega) ‹_› ‹_›).1|exact (rs_c (k:=k) ‹_› (by omega) ‹_› ‹_›).2.symm)) (lc (zVb (by first|exact rz (read_long ‹_›)|exact rzB (read_long ‹_›)|exact rz (read_fig (k:=k) (by omega) (by omega))|exact rzB (read_fig (k:=k) (by omega) (by omega))|exact rz (rs_a (k:=k) ‹_› (by omega) ‹_›)|exact rzB (rs_a (k:=k) ‹_› (by omega) ‹_›)|exact rz (rs_b (k:=k) ‹_› (by omega) ‹_›)|exact rzB (rs_b (k:=k) ‹_› (by omega) ‹_›)|exact castN (rs_c (k:=k) ‹_› (by omega) ‹_› ‹_›).1|exact (rs_c (k:=k) ‹_› (by omega) ‹_› ‹_›).2.symm)) rfl)))),(Mv.pick S11 [] rfl)⟩
    ·rw [decide_eq_false h53] at F
     refine zr fun _ F=>?_
     refine zz F (spec_Decimal_c (H:=fun _=>True) (n:=((valN text k:Nat):Int)) zI7) ?_
     rintro _ w62 ⟨rfl,m62,Q1⟩
     refine zt fun _ F=>?_
     have S62:=At.frame0 S11.at' m62
     clear m62
     refine zv F (r_cmps (b:=(decide ((decS ((valN text k:Nat):Int))≠text))) (.inr (.inl rfl)) rfl (F.g rfl) (F.g rfl) rfl) fun _ F=>?_
     refine zi F (fun h67=>?_) fun h67=>?_
     ·refine zr fun _ F=>?_
      refine x_done F (results_2 rfl (zta F) (zta F)) ?_
      exact ⟨(zV1 (zVt (lc (zVi (by first|exact rz (read_long ‹_›)|exact rzB (read_long ‹_›)|exact rz (read_fig (k:=k) (by omega) (by omega))|exact rzB (read_fig (k:=k) (by omega) (by omega))|exact rz (rs_a (k:=k) ‹_› (by omega) ‹_›)|exact rzB (rs_a (k:=k) ‹_› (by omega) ‹_›)|exact rz (rs_b (k:=k) ‹_› (by omega) ‹_›)|exact rzB (rs_b (k:=k) ‹_› (by omega) ‹_›)|exact castN (rs_c (k:=k) ‹_› (by omega) ‹_› ‹_›).1|exact (rs_c (k:=k) ‹_› (by omega) ‹_› ‹_›).2.symm)) (lc (zVb (by first|exact rz (read_long ‹_›)|exact rzB (read_long ‹_›)|exact rz (read_fig (k:=k) (by omega) (by omega))|exact rzB (read_fig (k:=k) (by omega) (by omega))|exact rz (rs_a (k:=k) ‹_› (by omega) ‹_›)|exact rzB (rs_a (k:=k) ‹_› (by omega) ‹_›)|exact rz (rs_b (k:=k) ‹_› (by omega) ‹_›)|exact rzB (rs_b (k:=k) ‹_› (by omega) ‹_›)|exact castN (rs_c (k:=k) ‹_› (by omega) ‹_› ‹_›).1|exact (rs_c (k:=k) ‹_› (by omega) ‹_› ‹_›).2.symm)) rfl)))),(Mv.pick (S11.trans S62) [] rfl)⟩
     ·refine zr fun _ F=>?_
      refine x_done F (results_2 rfl (zta F) (zta F)) ?_
      exact ⟨(zV1 (zVt (lc (zVi (by first|exact rz (read_long ‹_›)|exact rzB (read_long ‹_›)|exact rz (read_fig (k:=k) (by omega) (by omega))|exact rzB (read_fig (k:=k) (by omega) (by omega))|exact rz (rs_a (k:=k) ‹_› (by omega) ‹_›)|exact rzB (rs_a (k:=k) ‹_› (by omega) ‹_›)|exact rz (rs_b (k:=k) ‹_› (by omega) ‹_›)|exact rzB (rs_b (k:=k) ‹_› (by omega) ‹_›)|exact castN (rs_c (k:=k) ‹_› (by omega) ‹_› ‹_›).1|exact (rs_c (k:=k) ‹_› (by omega) ‹_› ‹_›).2.symm)) (lc (zVb (by first|exact rz (read_long ‹_›)|exact rzB (read_long ‹_›)|exact rz (read_fig (k:=k) (by omega) (by omega))|exact rzB (read_fig (k:=k) (by omega) (by omega))|exact rz (rs_a (k:=k) ‹_› (by omega) ‹_›)|exact rzB (rs_a (k:=k) ‹_› (by omega) ‹_›)|exact rz (rs_b (k:=k) ‹_› (by omega) ‹_›)|exact rzB (rs_b (k:=k) ‹_› (by omega) ‹_›)|exact castN (rs_c (k:=k) ‹_› (by omega) ‹_› ‹_›).1|exact (rs_c (k:=k) ‹_› (by omega) ‹_› ‹_›).2.symm)) rfl)))),(Mv.pick (S11.trans S62) [] rfl)⟩
theorem impl_NumOf_c {w:World} {H:Nat→Prop} {val:ByteArray} (Q0:okS val) (tab0:Tb 0 H w) (tab1:Tb 1 H w) (p0:val.size≤281474976710656) :
 Calls Tryz.prog 337 #[.string val] w fun e w'=>e=.returned (.int .i64 ((numOf val:Nat):Int))∧Mv [] w [] w':=by
 have V_tab0:=Tb.start tab0 zN
 have V_tab1:=Tb.start tab1 zN
 refine ze fun _ F=>?_
 refine zz F (impl_ReadDecimal_c (text:=val) Q0 V_tab0 V_tab1 zI8) ?_
 rintro _ w3 ⟨rfl,m3⟩
 refine zt fun _ F=>?_
 have S3:=At.frame0 (At.nil w) m3
 clear m3
 refine zc F (readN val > 999) fun _ F=>?_
 refine zi F (fun h12=>?_) fun h12=>?_
 ·refine zr fun _ F=>?_
  refine x_done F (results_1 rfl (zta F)) ?_
  exact ⟨(zV1 (zVi (by first|exact numZ (numOf_t ‹_›)|exact numZ0 (numOf_f ‹_›)|exact numZ0 (numOf_no ‹_›)))),(Mv.pick S3 [] rfl)⟩
 ·refine zr fun _ F=>?_
  refine x_done F (results_1 rfl (zta F)) ?_
  exact ⟨(zV1 (zVi (by first|exact numZ (numOf_t ‹_›)|exact numZ0 (numOf_f ‹_›)|exact numZ0 (numOf_no ‹_›)))),(Mv.pick S3 [] rfl)⟩
theorem spec_NumOf_c {w:World} {H:Nat→Prop} {val:ByteArray} (Q0:okS val) :
 Calls Tryz.prog 297 #[.string val] w fun e w'=>e=.returned (.int .i64 ((numOf val:Nat):Int))∧Mv [] w [] w':=by
 refine ze fun _ F=>?_
 refine zz F (spec_ReadDecimal_c (H:=fun _=>True) (text:=val) Q0) ?_
 rintro _ w3 ⟨rfl,m3⟩
 refine zt fun _ F=>?_
 have S3:=At.frame0 (At.nil w) m3
 clear m3
 refine zv F (r_not rfl (F.g rfl)) fun _ F=>?_
 rcases Bool.eq_false_or_eq_true (!(readB val)) with h13|h13
 ·rw [h13] at F
  refine zr fun _ F=>?_
  refine x_done F (results_1 rfl (zta F)) ?_
  exact ⟨(zV1 (zVi (by first|exact numZ (numOf_t ‹_›)|exact numZ0 (numOf_f ‹_›)|exact numZ0 (numOf_no ‹_›)))),(Mv.pick S3 [] rfl)⟩
 ·rw [h13] at F
  refine zr fun _ F=>?_
  refine zc F (readN val > 999) fun _ F=>?_
  refine zi F (fun h21=>?_) fun h21=>?_
  ·refine zr fun _ F=>?_
   refine x_done F (results_1 rfl (zta F)) ?_
   exact ⟨(zV1 (zVi (by first|exact numZ (numOf_t ‹_›)|exact numZ0 (numOf_f ‹_›)|exact numZ0 (numOf_no ‹_›)))),(Mv.pick S3 [] rfl)⟩
  ·refine zr fun _ F=>?_
   refine x_done F (results_1 rfl (zta F)) ?_
   exact ⟨(zV1 (zVi (by first|exact numZ (numOf_t ‹_›)|exact numZ0 (numOf_f ‹_›)|exact numZ0 (numOf_no ‹_›)))),(Mv.pick S3 [] rfl)⟩
end Go.Proofs.YtipdbeklopjbmaaGreatDoor
