/-
  Walks: texts in figures.
-/
import Derived.Shelf.Hex.DecodeOwns
import Derived.Shelf.Hex.More
import Derived.Lib.ConvBytes
import Derived.Lib.AtoiErrMem
import Derived.Test.YtipdbeklopjbmaaGreatDoorP04
import Derived.Test.YtipdbeklopjbmaaGreatDoorP13
import Derived.Test.YtipdbeklopjbmaaGreatDoorP07
set_option linter.unusedVariables false
set_option linter.unusedSimpArgs false
namespace Go.Proofs.YtipdbeklopjbmaaGreatDoor
open Go.ChangeShapes Go.WideShapes Go.ChangeAt Go.RowKit
set_option maxRecDepth 100000
set_option maxHeartbeats 1000000
theorem rd_bytes {H:Nat→Prop} (w:World) (e:Nat) (s:ByteArray) (hsz:s.size≤9223372036854775807):Rd 1 encB okB (Fsh H w) (Lib.bytesWorld w e s) (.slice (some ⟨w.heap.size,0,none⟩) s.size (grownCap w s.size 0 e)) (bytesN s):=by
 have hl:(bytesN s).length=s.size:=bytesN_length s
 refine ⟨RSl.mk w.heap.size 0 _ (by rw [hl]) (by rw [hl];exact grownCap_ge w _ 0 e) (grownCap_le_maxLen w _ 0 e (by unfold maxLen;omega)) fun i x hx=>?_,fun ad n c e _=>by cases e;exact .inr (Nat.le_refl _)⟩
 have hi:i < (bytesN s).length:=(List.getElem?_eq_some_iff.1 hx).1
 refine ⟨encB x,rfl,⟨rfl,bytesN_lt s x (List.mem_of_getElem? hx)⟩,fun j u hj=>?_⟩
 cases j with
 | zero=>
  cases hj
  have h:=Lib.bytesWorld_cell w e s i (by omega)
  have hx2:(s.data.toList.getD i 0).toNat=x:=by
   unfold bytesN at hx
   rw [List.getElem?_map] at hx
   unfold List.getD
   cases hq:s.data.toList[i]? with
   | none=>rw [hq] at hx;cases hx
   | some y=>rw [hq] at hx;cases hx;rfl
  rw [hx2] at h
  simpa using h
 | succ j=>cases hj
section
variable {P:Program} {ops:Array Oper} {Q:Exit→Act→World→Prop} {K:Act→World→Prop} {o:Oper} {a:Act} {w:World} {L:List Atom} {d n:Nat} {m:List (Nat × Value)}
theorem f_sbytes {src dst e:TypeId} {u:TypeDesc} {s:ByteArray} {x:Operand} {G:Nat→Prop} {w0:World} (F:Fr n m a) (A:At w L) (hg:w0.heap.size≤w.heap.size) (hs:P.underlying src=some u) (hdt:P.underlying dst=some (.slice e)) (he:P.underlying e=some (.int .u8)) (hw:Region.wanted o (yielded ops a.tmps)=true) (hd:o.dst=some d) (ho:o.op=.convert src dst x) (hp:Nat.blt d n=true) (hx:a.eval x=.string s) (hz:s.size≤9223372036854775807)
 (kk:∀ b q c a' w',Fr n ((d,.slice (some ⟨b,0,none⟩) q c)::m) a'→Mv L w L w'→Rd 1 encB okB (V G w0 L) w' (.slice (some ⟨b,0,none⟩) q c) (bytesN s)→q=s.size→K a' w'):st1 P ops Q o K a w:=by
 have hb:=Lib.bytesWorld_below w e s
 have hM:Mv L w L (Lib.bytesWorld w e s):=At.frame0 A (mv_below hb)
 refine s_valw hw hd (v:=.slice (some ⟨w.heap.size,0,none⟩) s.size (grownCap w s.size 0 e)) (w':=Lib.bytesWorld w e s) ?_ fun _ e'=>kk _ _ _ _ _ (F.put e' hp) hM (Rd.got0 A hg (rd_bytes w e s hz) hM) rfl
 simp [execOp,ho,hx,Lib.run_convert_string_bytes w src dst e s hs hdt he,Result.andThen]
end
section
variable {P:Program} {ρ:Operand→Value} {w:World} {o:Oper} {x y:Operand} {t u:TypeId}
end
theorem rd_lt {H:Nat→Prop} {w:World} {a:Option Addr} {n c:Nat} {l:List Nat} (h:Rd 1 encB okB H w (.slice a n c) l):∀ x ∈ l,x < 256:=by
 intro x hx
 obtain ⟨i,hi,rfl⟩:=List.mem_iff_getElem.1 hx
 obtain ⟨a',cap,e1,h1,h2,h3,h4⟩:=h.1.inv
 cases e1
 obtain ⟨b',off',x',row,e3,hx',hr,⟨_,h5⟩,_⟩:=h.1.at i hi
 rw [List.getElem?_eq_getElem hi] at hx'
 cases hx'
 exact h5
section
open Go.Shelf Go.Lib
variable {P:Program} {ρ:Ren}
set_option maxHeartbeats 1000000 in
theorem enc0 (L:Lays.p40 P ρ) (dst:Value) (b f c:Nat) (w:World) :
 Calls P (ρ.f 40) #[dst,.slice (some ⟨b,f,none⟩) 0 c] w fun e w'=>e=.returned (.int .i64 0)∧w'=w:=by
 have t0:=L.t0;have t3:=L.t3;have t5:=L.t5;have t9:=L.t9;have t30:=L.t30;have t46:=L.t46
 have a0:=L.a0;have a3:=L.a3;have a5:=L.a5;have a9:=L.a9;have a30:=L.a30;have a46:=L.a46
 have mixed:=L.mixed;have z0:=L.z0;have v0:=L.v0;have z3:=L.z3;have v3:=L.v3;have z5:=L.z5;have v5:=L.v5;have z9:=L.z9;have v9:=L.v9;have z30:=L.z30;have v30:=L.v30;have z46:=L.z46;have v46:=L.v46
 go_enter L.f40,Body.p40_ntmps ρ
 go_wp2
 go_loop [5,10] (fun vj vi=>vi=.int .i64 0∧vj=.int .i64 0) (fun _ _=>0)
 case atStart=>exact ⟨rfl,rfl⟩
 case round=>
  obtain ⟨rfl,rfl⟩:=hrel
  go_wp2
  go_ret
  exact ⟨rfl,rfl⟩
set_option maxHeartbeats 1000000 in
theorem encS0 (L:Lays.ph39 P ρ) (b0 f0 c0:Nat) (w:World) :
 Calls P (ρ.f 39) #[.slice (some ⟨b0,f0,none⟩) 0 c0] w fun e w'=>e=.returned (.string ⟨#[]⟩)∧Below w.heap.size w w':=by
 have t0:=L.t0;have t3:=L.t3;have t5:=L.t5;have t9:=L.t9;have t30:=L.t30;have t46:=L.t46
 have a0:=L.a0;have a3:=L.a3;have a5:=L.a5;have a9:=L.a9;have a30:=L.a30;have a46:=L.a46
 have mixed:=L.mixed;have z0:=L.z0;have v0:=L.v0;have z3:=L.z3;have v3:=L.v3;have z5:=L.z5;have v5:=L.v5;have z9:=L.z9;have v9:=L.v9;have z30:=L.z30;have v30:=L.v30;have z46:=L.z46;have v46:=L.v46
 have e40:∀ args w,(callFunc (ρ.f 40) args).run P w=.ok (.enter (ρ.f 40) args) w:=enters_of L.f40 (by kernel_rfl) rfl
 have e41:∀ args w,(callFunc (ρ.f 41) args).run P w=.ok (.enter (ρ.f 41) args) w:=enters_of L.f41 (by kernel_rfl) rfl
 have hmk:∀ w:World,(Instr.makeSlice (ρ.t 30) (.int .i64 0) (.int .i64 0)).run P w=.ok (.slice (some ⟨w.heap.size,0,none⟩) 0 0) (w.alloc (.cells (madeCells #[.int .u8 0] 0) (ρ.t 5))):=fun w=>
  run_make_row' (P:=P) (ρ.t 30) (ρ.t 5) (.int .u8 0) 1 L.t30 L.info5 rfl .i64 .i64 0 (by omega) (by omega) w
 have g:∀ (w:World) (b:Nat),(convert (ρ.t 30) (ρ.t 9) (.slice (some ⟨b,0,none⟩) 0 0)).run P w=.ok (.string (strOfNums [])) w:=fun w b=>
  run_convert_bytes_arg (P:=P) w (ρ.t 30) (ρ.t 5) L.t30 L.t5 b 0 0 0 [] rfl (fun i hi=>absurd hi (Nat.not_lt_zero _)) (ρ.t 9) L.t9
 go_enter L.f39,Body.p39_ntmps ρ
 go_wp2_with (first
  | (go_at_fn (ρ.f 41);refine (Any.hex_EncodedLen { L with } 0 (by omega) (by omega) _).mono ?_;rintro e w' ⟨rfl,rfl⟩)
  | (go_at_fn (ρ.f 40);refine (enc0 { L with } _ _ _ _ _).mono ?_;rintro e w' ⟨rfl,rfl⟩))
 go_ret
 exact ⟨rfl,(Below.refl _ _).alloc (Nat.le_refl _) _⟩
end
def decL (s:ByteArray):List Nat:=(Lib.Hx.decode s.data.toList).1.map (·.toNat)
def hexR (s:ByteArray) (ev:Value):Prop:=isErr ev=true→(Lib.Hx.decode s.data.toList).2≠.ok
theorem bstr_dec (s:ByteArray):bstr (decL s)=⟨(Lib.Hx.decode s.data.toList).1.toArray⟩:=by
 apply ByteArray.ext
 apply Array.toList_inj.1
 rw [bstr_toList]
 unfold decL
 rw [List.map_map]
 have:∀ l:List UInt8,l.map (UInt8.ofNat ∘ fun x:UInt8=>x.toNat)=l:=by
  intro l
  induction l with
  | nil=>rfl
  | cons x l ih=>rw [List.map_cons,ih];congr 1;exact UInt8.ofNat_toNat
 exact this _
theorem decL_length (s:ByteArray):(decL s).length=(Lib.Hx.decode s.data.toList).1.length:=List.length_map ..
theorem uh_t {s:ByteArray} (h:unhexT s=⟨#[]⟩∧unhexB s=false):(⟨#[]⟩:ByteArray)=unhexT s:=h.1.symm
theorem uh_b {s:ByteArray} (h:unhexT s=⟨#[]⟩∧unhexB s=false):false=unhexB s:=h.2.symm
theorem uh_e {s:ByteArray} {ev:Value} (q:hexR s ev) (h:isErr ev=true):unhexT s=⟨#[]⟩∧unhexB s=false:=unhex_err (q h)
theorem uh_l {s:ByteArray} {n:Nat} (hn:n=(decL s).length) (h:n > 20000):unhexT s=⟨#[]⟩∧unhexB s=false:=unhex_long (by rw [decL_length] at hn;omega)
theorem uh_k {s:ByteArray} (h:hexS (bstr (decL s))≠s):unhexT s=⟨#[]⟩∧unhexB s=false:=unhex_back (bstr_dec s ▸ h)
theorem uh_w {s:ByteArray} {n:Nat} (hn:n=(decL s).length) (h:¬ n > 20000) (h2:¬ hexS (bstr (decL s))≠s):bstr (decL s)=unhexT s∧true=unhexB s:=by
 have:=unhex_well (s:=s) (by rw [decL_length] at hn;omega) (bstr_dec s ▸ Classical.not_not.1 h2)
 rw [bstr_dec];exact ⟨this.1.symm,this.2.symm⟩
theorem unInv.step2 {s:ByteArray} {k:Nat} {D:List Nat} (h:unInv s k D) (hk:2 * k+1 < s.size) (h1:¬ vlow (byteAt s (2 * k)) < 0) (h2:¬ vlow (byteAt s (2 * k+1)) < 0):unInv s (k+1) (D++[(16 * vlow (byteAt s (2 * k))+vlow (byteAt s (2 * k+1))).toNat]):=by
 have:=h.step hk h1 h2
 have e:16 * (vlow (byteAt s (2 * k))).toNat+(vlow (byteAt s (2 * k+1))).toNat=(16 * vlow (byteAt s (2 * k))+vlow (byteAt s (2 * k+1))).toNat:=by omega
 rwa [e] at this
theorem uh_d {s:ByteArray} {k:Nat} {D:List Nat} (h:unInv s k D) (hk:¬ 2 * k < s.size) (hs:¬ s.size > 40000) (he:2 * k≤s.size):bstr D=unhexT s∧true=unhexB s:=by
 have:=h.done (by omega) (by omega) he
 exact ⟨this.1.symm,this.2.symm⟩
theorem msg_t {s:ByteArray} (h:begins s ⟨#[45]⟩=true):unhexT (s.extract 1 s.size)=msgOf s:=(if_pos h).symm
theorem msg_f {s:ByteArray} (h:begins s ⟨#[45]⟩=false):(⟨#[]⟩:ByteArray)=msgOf s:=(if_neg (by rw [h];decide)).symm
def cutPre (s p:ByteArray):ByteArray:=if begins s p then s.extract p.size s.size else s
theorem cutPre_t {s p:ByteArray} (h:begins s p=true):s.extract p.size s.size=cutPre s p:=(if_pos h).symm
theorem cutPre_f {s p:ByteArray} (h:begins s p=false):s=cutPre s p:=(if_neg (by rw [h];decide)).symm
theorem begins_le {s p:ByteArray} (h:begins s p=true):p.size≤s.size:=by
 unfold begins at h
 exact (of_decide_eq_true h).1
theorem msg_p {s:ByteArray} (h:begins s ⟨#[45]⟩=true):unhexT (cutPre s ⟨#[45]⟩)=msgOf s:=by rw [← cutPre_t h];exact msg_t h
theorem cutPre_size (s p:ByteArray):(cutPre s p).size≤s.size:=by
 unfold cutPre
 split
 ·rw [ByteArray.size_extract];omega
 ·exact Nat.le_refl _
theorem bstr_bytesN (s:ByteArray):bstr (bytesN s)=s:=bytesN_inj (bytesN_bstr _ (bytesN_lt s))
theorem encoding_hex_EncodeToString_c {w:World} {H:Nat→Prop} {l:List Nat} {l_a:Option Addr} {l_n l_c:Nat} (v_l:Rd 1 encB okB H w (.slice l_a l_n l_c) l) (p0:l_n≤140737488355328) :
 Calls Tryz.prog 175 #[.slice l_a l_n l_c] w fun e w'=>e=.returned (.string (hexS (bstr l)))∧Mv [] w [] w'∧okS (hexS (bstr l)):=by
 obtain ⟨a',cap,e1,h1,h2,h3,h4⟩:=v_l.1.inv
 cases e1
 have hok:okS (hexS (bstr l)):=by unfold okS;rw [hexS_size,bstr_size];omega
 cases l with
 | nil=>
  cases l_a with
  | none=>
   obtain ⟨_,rfl⟩:=h4 rfl
   refine (Any.hex_EncodeToString_nil laysHex w).mono ?_
   rintro e w' ⟨rfl,hw⟩
   exact ⟨rfl,mv_below hw,hok⟩
  | some ad=>
   obtain ⟨b,off,rfl⟩:=v_l.1.plain
   refine (encS0 laysHex b off l_c w).mono ?_
   rintro e w' ⟨rfl,hw⟩
   exact ⟨rfl,mv_below hw,hok⟩
 | cons x l0=>
  cases l_a with
  | none=>exact absurd (h4 rfl).1 (fun e=>nomatch e)
  | some ad=>
   obtain ⟨b,off,rfl⟩:=v_l.1.plain
   have hlen:((x::l0).map UInt8.ofNat).length=(x::l0).length:=List.length_map ..
   have hlt:=rd_lt v_l
   have h:=Any.hex_EncodeToString_bytes laysHex b off l_c ((x::l0).map UInt8.ofNat) w (fun i hi=>by
    rw [hlen] at hi
    obtain ⟨b',off',x',row,e3,hx',hr,⟨e5,h5⟩,hcell⟩:=v_l.1.at i hi
    cases e3
    have:=hcell 0 (.int .u8 ((x':Nat):Int)) (by rw [e5];rfl)
    rw [Nat.mul_one,Nat.add_zero] at this
    rw [this,List.getElem_map]
    have hg:(x::l0)[i]=x':=by rw [List.getElem?_eq_getElem hi] at hx';exact Option.some.inj hx'
    have h6:x' < 256:=h5
    rw [hg,UInt8.toNat_ofNat']
    congr 2
    omega) (v_l.1.blk (by decide) (Nat.succ_pos _)) (by rw [hlen];omega)
   rw [hlen] at h
   refine h.mono ?_
   rintro e w' ⟨rfl,hw⟩
   exact ⟨by unfold hexS;rw [bstr_toList],mv_below hw,hok⟩
theorem encoding_hex_DecodeString_c {w:World} {H:Nat→Prop} {s:ByteArray} (h_s:okS s) (tab2:Tb 2 H w) (p0:s.size≤281474976710656) :
 Calls Tryz.prog 174 #[.string s] w fun e w'=>∃ (ev:Value),∃ (r0_a:Option Addr),∃ (r0_n:Nat),∃ (r0_c:Nat),e=.returned (.tuple #[.slice r0_a r0_n r0_c,ev])∧Mv [] w [ow 5 1 encB okB (.slice r0_a r0_n r0_c) (decL s)] w'∧errV ev∧hexR s ev:=by
 obtain ⟨ev0,he,hv⟩:=tab2.1
 refine (Any.hex_DecodeString_owns laysUnhex s w ev0 he p0).mono ?_
 rintro e w' ⟨v,rfl,ho,hb⟩
 have hO:Own 5 1 encB okB w' v (decL s):=by
  obtain ⟨h1,h2⟩:=ho
  refine ⟨⟨?_,?_⟩,fun x hx=>?_⟩
  ·rw [Nat.mul_one];exact (flat_length (enc:=encB) (k:=1) (fun _=>rfl) _).trans (Nat.mul_one _)
  ·have ef:flat encB (decL s)=(Lib.Hx.decode s.data.toList).1.map fun b=>Value.int .u8 (b.toNat:Int):=by
    unfold flat decL
    induction (Lib.Hx.decode s.data.toList).1 with
    | nil=>rfl
    | cons x l ih=>rw [List.map_cons,List.flatMap_cons,ih];rfl
   rw [ef,decL_length]
   rcases h2 with h2|⟨g,cap,cur,h3,h4,h5⟩
   ·exact .inl h2
   ·exact .inr ⟨g,cap,cur,h3,Nat.zero_le _,h5⟩
  ·obtain ⟨b,_,rfl⟩:=List.mem_map.1 hx
   exact b.toNat_lt
 have hf:∀ b ∈ v.ownBlock.toList,w.heap.size≤b:=fun b hb=>(ho.lt b (by simpa using hb)).1
 have hM:Mv [] w [ow 5 1 encB okB v (decL s)] w':=mv_of_fresh hO hf ⟨hb.os,hb.tape,hb.output,hb.size,fun k hk=>hb.block k hk⟩
 have hE:errV (Lib.Hx.errVal (laysUnhex_ren.t 47) ev0 (Lib.Hx.decode s.data.toList).2)∧hexR s (Lib.Hx.errVal (laysUnhex_ren.t 47) ev0 (Lib.Hx.decode s.data.toList).2):=by
  unfold hexR
  cases (Lib.Hx.decode s.data.toList).2 with
  | ok=>exact ⟨.inl rfl,fun h=>absurd h Bool.false_ne_true⟩
  | bad c=>exact ⟨.inr ⟨_,_,rfl⟩,fun _ e=>nomatch e⟩
  | odd=>exact ⟨hv,fun _ e=>nomatch e⟩
 obtain ⟨a,n,c,rfl⟩:∃ a n c,v=.slice a n c:=by
  rcases ho.2 with ⟨rfl,_⟩|⟨g,cap,cur,rfl,_⟩
  ·exact ⟨_,_,_,rfl⟩
  ·exact ⟨_,_,_,rfl⟩
 exact ⟨_,a,n,c,rfl,hM,hE.1,hE.2⟩
theorem impl_Hex_c {w:World} {H:Nat→Prop} {text:ByteArray} (Q1:okS text) (p0:text.size≤20000) :
 Calls Tryz.prog 183 #[.string text] w fun e w'=>e=.returned (.tuple #[.string (hexS text),.bool true])∧Mv [] w [] w'∧okS (hexS text):=by
 refine ze fun _ F=>?_
 refine zc F (text.size > 20000) fun _ F=>?_
 refine zi F (fun h6=>?_) fun h6=>?_
 ·refine zr fun _ F=>?_
  refine x_done F (results_2 rfl (zta F) (zta F)) ?_
  exact ⟨(zV1 (zVt (lc (zVs (by first|omega|rw [bstr_bytesN])) (lc (zVb (by first|omega|rw [bstr_bytesN])) rfl)))),(Mv.pick (Mv.refl (At.nil w)) [] rfl),((show bE_=(hexS text) from by first|omega|rw [bstr_bytesN]) ▸ (by unfold okS;decide))⟩
 ·refine zr fun _ F=>?_
  refine l_op (f_sbytes (G:=H) (w0:=w) F (At.nil w) (Nat.le_refl _) Tryz.underlying9 Tryz.underlying62 Tryz.underlying5 rfl rfl rfl rfl (F.g rfl) zIa fun b10 N10 C10 _ w10 F S10 V10 l10=>?_)
  refine zz F (encoding_hex_EncodeToString_c (l:=bytesN text) V10 zI8) ?_
  rintro _ w12 ⟨rfl,m12,Q0⟩
  refine zt fun _ F=>?_
  have S12:=At.frame0 S10.at' m12
  clear m12
  refine x_done F (results_2 rfl (zta F) (zta F)) ?_
  exact ⟨(zV1 (zVt (lc (zVs (by first|omega|rw [bstr_bytesN])) rfl))),(Mv.pick (S10.trans S12) [] rfl),(zOk (by first|omega|rw [bstr_bytesN]) Q0)⟩
theorem impl_hexOf_c {w:World} {H:Nat→Prop} {text:ByteArray} (Q0:okS text) (p0:text.size≤20000) :
 Calls Tryz.prog 153 #[.string text] w fun e w'=>e=.returned (.string (hexS text))∧Mv [] w [] w'∧okS (hexS text):=by
 refine ze fun _ F=>?_
 refine zz F (impl_Hex_c (H:=fun _=>True) (text:=text) Q0 zI8) ?_
 rintro _ w3 ⟨rfl,m3,Q1⟩
 refine zt fun _ F=>?_
 have S3:=At.frame0 (At.nil w) m3
 clear m3
 refine x_done F (results_1 rfl (zta F)) ?_
 exact ⟨rfl,(Mv.pick S3 [] rfl),Q1⟩
theorem spec_l01Value_c {w:World} {H:Nat→Prop} {x:Nat} (h_x:x < 256) :
 Calls Tryz.prog 168 #[.int .u8 ((x:Nat):Int)] w fun e w'=>e=.returned (.int .i64 (vlow x))∧Mv [] w [] w'∧-1≤vlow x∧vlow x≤15:=by
 refine ze fun _ F=>?_
 refine zc F (x ≥ 48) fun _ F=>?_
 rcases Decidable.em (x ≥ 48) with h5|h5
 ·rw [decide_eq_true h5] at F
  refine zr fun _ F=>?_
  refine zc F (x≤57) fun _ F=>?_
  refine zi F (fun h9=>?_) fun h9=>?_
  ·refine zr fun _ F=>?_
   refine zv F (r_convU8 Tryz.underlying3 Tryz.underlying5 rfl (F.g rfl) ⟨by omega,by first|omega|(have:=trivial;omega)⟩) fun _ F=>?_
   refine zq F (((x:Nat):Int) - 48) fun _ F=>?_
   refine x_done F (results_1 rfl (zta F)) ?_
   exact ⟨(zV1 (zVi (by unfold vlow;split <;> (try split) <;> omega))),(Mv.pick (Mv.refl (At.nil w)) [] rfl),(vlow_bd x).1,(vlow_bd x).2⟩
  ·refine zr fun _ F=>?_
   refine zc F (x ≥ 97) fun _ F=>?_
   rcases Decidable.em (x ≥ 97) with h17|h17
   ·rw [decide_eq_true h17] at F
    refine zr fun _ F=>?_
    refine zc F (x≤102) fun _ F=>?_
    refine zi F (fun h21=>?_) fun h21=>?_
    ·refine zr fun _ F=>?_
     refine zv F (r_convU8 Tryz.underlying3 Tryz.underlying5 rfl (F.g rfl) ⟨by omega,by first|omega|(have:=trivial;omega)⟩) fun _ F=>?_
     refine zq F (((x:Nat):Int) - 97) fun _ F=>?_
     refine zq F ((((x:Nat):Int) - 97)+10) fun _ F=>?_
     refine x_done F (results_1 rfl (zta F)) ?_
     exact ⟨(zV1 (zVi (by unfold vlow;split <;> (try split) <;> omega))),(Mv.pick (Mv.refl (At.nil w)) [] rfl),(vlow_bd x).1,(vlow_bd x).2⟩
    ·refine zr fun _ F=>?_
     refine x_done F (results_1 rfl (zta F)) ?_
     exact ⟨(zV1 (zVi (by unfold vlow;split <;> (try split) <;> omega))),(Mv.pick (Mv.refl (At.nil w)) [] rfl),(vlow_bd x).1,(vlow_bd x).2⟩
   ·rw [decide_eq_false h17] at F
    refine zr fun _ F=>?_
    refine x_done F (results_1 rfl (zta F)) ?_
    exact ⟨(zV1 (zVi (by unfold vlow;split <;> (try split) <;> omega))),(Mv.pick (Mv.refl (At.nil w)) [] rfl),(vlow_bd x).1,(vlow_bd x).2⟩
 ·rw [decide_eq_false h5] at F
  refine zr fun _ F=>?_
  refine zc F (x ≥ 97) fun _ F=>?_
  rcases Decidable.em (x ≥ 97) with h38|h38
  ·rw [decide_eq_true h38] at F
   refine zr fun _ F=>?_
   refine zc F (x≤102) fun _ F=>?_
   refine zi F (fun h42=>?_) fun h42=>?_
   ·refine zr fun _ F=>?_
    refine zv F (r_convU8 Tryz.underlying3 Tryz.underlying5 rfl (F.g rfl) ⟨by omega,by first|omega|(have:=trivial;omega)⟩) fun _ F=>?_
    refine zq F (((x:Nat):Int) - 97) fun _ F=>?_
    refine zq F ((((x:Nat):Int) - 97)+10) fun _ F=>?_
    refine x_done F (results_1 rfl (zta F)) ?_
    exact ⟨(zV1 (zVi (by unfold vlow;split <;> (try split) <;> omega))),(Mv.pick (Mv.refl (At.nil w)) [] rfl),(vlow_bd x).1,(vlow_bd x).2⟩
   ·refine zr fun _ F=>?_
    refine x_done F (results_1 rfl (zta F)) ?_
    exact ⟨(zV1 (zVi (by unfold vlow;split <;> (try split) <;> omega))),(Mv.pick (Mv.refl (At.nil w)) [] rfl),(vlow_bd x).1,(vlow_bd x).2⟩
  ·rw [decide_eq_false h38] at F
   refine zr fun _ F=>?_
   refine x_done F (results_1 rfl (zta F)) ?_
   exact ⟨(zV1 (zVi (by unfold vlow;split <;> (try split) <;> omega))),(Mv.pick (Mv.refl (At.nil w)) [] rfl),(vlow_bd x).1,(vlow_bd x).2⟩
theorem spec_Hex_c {w:World} {H:Nat→Prop} {text:ByteArray} (Q0:okS text) (p0:text.size≤20000) :
 Calls Tryz.prog 145 #[.string text] w fun e w'=>e=.returned (.tuple #[.string (hexS text),.bool true])∧Mv [] w [] w'∧okS (hexS text):=by
 refine ze fun _ F=>?_
 refine zc F (text.size > 20000) fun _ F=>?_
 refine zi F (fun h6=>?_) fun h6=>?_
 ·refine zr fun _ F=>?_
  refine x_done F (results_2 rfl (zta F) (zta F)) ?_
  exact ⟨(zV1 (zVt (lc (zVs (by first|omega|rw [hexN_all text ‹_› (by omega)])) (lc (zVb (by first|omega|rw [hexN_all text ‹_› (by omega)])) rfl)))),(Mv.pick (Mv.refl (At.nil w)) [] rfl),((show bE_=(hexS text) from by first|omega|rw [hexN_all text ‹_› (by omega)]) ▸ (by unfold okS;decide))⟩
 ·refine zr fun _ F=>?_
  refine l_op (f_buildSl (ok:=okB) (vs:=[]) F (At.nil w) (([]:List Nat)) ET_62 rfl rfl rfl rfl rfl rfl rfl rfl rfl (by simp) fun b9 _ w9 F S9=>?_)
  refine zr fun _ F=>?_
  refine x_lp (fun (k:Nat) aZ wZ=>∃ (oa:Option Addr),∃ (on:Nat),∃ (oc:Nat),Fr 33 [(5,.int .i64 ((k:Nat):Int)),(4,.slice oa on oc),(0,.string text)] aZ∧Mv [ow 5 1 encB okB (.slice (some ⟨b9,0,none⟩) 0 0) ([]:List Nat)] w9 [ow 5 1 encB okB (.slice oa on oc) (hexN text k)] wZ∧(k≤text.size)) (fun (k:Nat)=>text.size - k) (0) ?_ ?_
  ·exact ⟨(some ⟨b9,0,none⟩),0,0,F.cut rfl,(Mv.refl S9.at'),by omega⟩
  ·rintro k a13 w13 ⟨oa,on,oc,F,S13,hk_0⟩
   have hbt:=byteAt_lt text k
   have hxl:=hexN_length text k
   refine zr fun _ F=>?_
   refine zc F (k < text.size) fun _ F=>?_
   refine zi F (fun h18=>?_) fun h18=>?_
   ·refine zr fun _ F=>?_
    refine x_draw (fun aZ wZ=>∃ (b37:Nat),∃ (A39:Option Addr),∃ (N39:Nat),∃ (C39:Nat),Fr 33 [(0,.string text),(4,.slice A39 N39 C39),(5,.int .i64 ((k:Nat):Int))] aZ∧Mv [ow 5 1 encB okB (.slice oa on oc) (hexN text k)] w13 [ow 5 1 encB okB (.slice A39 N39 C39) ((hexN text k)++([fig (((byteAt text k) / 16:Nat):Int).toNat,fig (((byteAt text k) % 16:Nat):Int).toNat]))] wZ) [] mixed S13.at' (listed:=#[false,false,false,false,false,false,false,false,false,false,false,false,false,false,false,false]) rfl (fun w20 S20=>?_) [] rfl ?_
    ·refine g_take F rfl (i:=0) (listed':=#[true,false,false,false,false,false,false,false,false,false,false,false,false,false,false,false]) rfl (by kernel_rfl) (by kernel_rfl) (by kernel_rfl) (fun _ _ _ h=>h) (Sd.of (Mv.refl S20.at') [] rfl) rfl rfl rfl rfl (fun _ hz=>(r_move rfl (F.g rfl))) fun _ F=>?_
     refine g_take F rfl (i:=1) (listed':=#[true,true,false,false,false,false,false,false,false,false,false,false,false,false,false,false]) rfl (by kernel_rfl) (by kernel_rfl) (by kernel_rfl) (fun _ _ _ h=>h) (Sd.of (Mv.refl S20.at') [] rfl) rfl rfl rfl rfl (fun _ hz=>(r_move rfl (F.g rfl))) fun _ F=>?_
     refine g_take F rfl (i:=2) (listed':=#[true,true,true,false,false,false,false,false,false,false,false,false,false,false,false,false]) rfl (by kernel_rfl) (by kernel_rfl) (by kernel_rfl) (fun _ _ _ h=>h) (Sd.of (Mv.refl S20.at') [] rfl) rfl rfl rfl rfl (fun _ hz=>(r_move rfl (F.g rfl))) fun _ F=>?_
     refine g_take F rfl (i:=3) (listed':=#[true,true,true,true,false,false,false,false,false,false,false,false,false,false,false,false]) rfl (by kernel_rfl) (by kernel_rfl) (by kernel_rfl) (fun _ _ _ h=>h) (Sd.of (Mv.refl S20.at') [] rfl) rfl rfl rfl rfl (fun _ hz=>(r_indexS (i:=k) Tryz.underlying9 rfl (F.g rfl) (F.g rfl) (by omega) zIa)) fun _ F=>?_
     refine g_take F rfl (i:=4) (listed':=#[true,true,true,true,true,false,false,false,false,false,false,false,false,false,false,false]) rfl (by kernel_rfl) (by kernel_rfl) (by kernel_rfl) (fun _ _ _ h=>h) (Sd.of (Mv.refl S20.at') [] rfl) rfl rfl rfl rfl (fun _ hz=>(r_convU8 Tryz.underlying3 Tryz.underlying5 rfl (F.g rfl) ⟨by omega,by first|omega|(have:=byteAt_lt text k;omega)⟩)) fun _ F=>?_
     refine g_take F rfl (i:=5) (listed':=#[true,true,true,true,true,true,false,false,false,false,false,false,false,false,false,false]) rfl (by kernel_rfl) (by kernel_rfl) (by kernel_rfl) (fun _ _ _ h=>h) (Sd.of (Mv.refl S20.at') [] rfl) rfl rfl rfl rfl (fun _ hz=>(r_quoN (c:=16) rfl (by decide) (by omega) rfl (F.g rfl) rfl)) fun _ F=>?_
     refine g_take F rfl (i:=7) (listed':=#[true,true,true,true,true,true,false,true,false,false,false,false,false,false,false,false]) rfl (by kernel_rfl) (by kernel_rfl) (by kernel_rfl) (fun _ _ _ h=>h) (Sd.of (Mv.refl S20.at') [] rfl) rfl rfl rfl rfl (fun _ hz=>(r_move rfl (F.g rfl))) fun _ F=>?_
     refine g_take F rfl (i:=8) (listed':=#[true,true,true,true,true,true,false,true,true,false,false,false,false,false,false,false]) rfl (by kernel_rfl) (by kernel_rfl) (by kernel_rfl) (fun _ _ _ h=>h) (Sd.of (Mv.refl S20.at') [] rfl) rfl rfl rfl rfl (fun _ hz=>(r_move rfl (F.g rfl))) fun _ F=>?_
     refine g_take F rfl (i:=9) (listed':=#[true,true,true,true,true,true,false,true,true,true,false,false,false,false,false,false]) rfl (by kernel_rfl) (by kernel_rfl) (by kernel_rfl) (fun _ _ _ h=>h) (Sd.of (Mv.refl S20.at') [] rfl) rfl rfl rfl rfl (fun _ hz=>(r_indexS (i:=k) Tryz.underlying9 rfl (F.g rfl) (F.g rfl) (by omega) zIa)) fun _ F=>?_
     refine g_take F rfl (i:=10) (listed':=#[true,true,true,true,true,true,false,true,true,true,true,false,false,false,false,false]) rfl (by kernel_rfl) (by kernel_rfl) (by kernel_rfl) (fun _ _ _ h=>h) (Sd.of (Mv.refl S20.at') [] rfl) rfl rfl rfl rfl (fun _ hz=>(r_convU8 Tryz.underlying3 Tryz.underlying5 rfl (F.g rfl) ⟨by omega,by first|omega|(have:=byteAt_lt text k;omega)⟩)) fun _ F=>?_
     have rm31:=Nat.mod_lt (byteAt text k) (show 0 < 16 by decide)
     refine g_take F rfl (i:=11) (listed':=#[true,true,true,true,true,true,false,true,true,true,true,true,false,false,false,false]) rfl (by kernel_rfl) (by kernel_rfl) (by kernel_rfl) (fun _ _ _ h=>h) (Sd.of (Mv.refl S20.at') [] rfl) rfl rfl rfl rfl (fun _ hz=>(r_remK (c:=16) rfl (by decide) rfl (F.g rfl) rfl)) fun _ F=>?_
     refine d_one (i:=6) (listed':=#[true,true,true,true,true,true,true,true,true,true,true,true,false,false,false,false]) rfl (by kernel_rfl) rfl rfl ?_
     refine f_call F CF_177 rfl rfl rfl rfl (lc (F.g rfl) rfl) (spec_l01Figure_c (H:=fun _=>True) (x:=(((byteAt text k) / 16:Nat):Int)) zI7 zI8 zI8) ?_
     rintro _ w33 ⟨rfl,m33,q33_0⟩
     refine ⟨_,rfl,fun _ F=>?_⟩
     have S33:=At.frame0 S20.at' m33
     clear m33
     refine ⟨Sd.of S33 [] rfl,?_⟩
     refine d_one (i:=12) (listed':=#[true,true,true,true,true,true,true,true,true,true,true,true,true,false,false,false]) rfl (by kernel_rfl) rfl rfl ?_
     refine f_call F CF_177 rfl rfl rfl rfl (lc (F.g rfl) rfl) (spec_l01Figure_c (H:=fun _=>True) (x:=(((byteAt text k) % 16:Nat):Int)) zI7 zI8 zI8) ?_
     rintro _ w35 ⟨rfl,m35,q35_0⟩
     refine ⟨_,rfl,fun _ F=>?_⟩
     have S35:=At.frame0 S33.at' m35
     clear m35
     refine ⟨Sd.of (S33.trans S35) [] rfl,?_⟩
     refine d_one (i:=13) (listed':=#[true,true,true,true,true,true,true,true,true,true,true,true,true,true,false,false]) rfl (by kernel_rfl) rfl rfl ?_
     refine f_buildSl (ok:=okB) (vs:=[.int .u8 ((fig (((byteAt text k) / 16:Nat):Int).toNat:Nat):Int),.int .u8 ((fig (((byteAt text k) % 16:Nat):Int).toNat:Nat):Int)]) F S35.at' ([fig (((byteAt text k) / 16:Nat):Int).toNat,fig (((byteAt text k) % 16:Nat):Int).toNat]) ET_62 rfl rfl rfl rfl rfl rfl (lc (pr2 (F.g rfl)) (lc (pr2 (F.g rfl)) rfl)) rfl rfl (fun x hx=>by (repeat (first|(rcases List.mem_cons.1 hx with hx|hx;(subst hx;first|exact (show fig (((byteAt text k) / 16:Nat):Int).toNat < 256 by omega)|exact (show fig (((byteAt text k) % 16:Nat):Int).toNat < 256 by omega)))|exact (List.not_mem_nil hx).elim))) fun b37 _ w37 F S37=>?_
     refine ⟨Sd.of (S33.trans (S35.trans S37)) [] rfl,?_⟩
     refine d_one (i:=14) (listed':=#[true,true,true,true,true,true,true,true,true,true,true,true,true,true,true,false]) rfl (by kernel_rfl) rfl rfl ?_
     refine f_app (news:=[fig (((byteAt text k) / 16:Nat):Int).toNat,fig (((byteAt text k) % 16:Nat):Int).toNat]) F S37.at' 1 ET_62 rfl rfl rfl rfl rfl rfl (F.g rfl) (F.g rfl) ((At.rd S37.at' ET_62.hk 0 rfl)).1 zI9 fun A39 N39 C39 _ w39 F S39 l39=>?_
     have S41:=At.drop S39.at' 1
     refine ⟨Sd.of (S33.trans (S35.trans (S37.trans (S39.trans S41)))) [] rfl,?_⟩
     refine g_take F rfl (i:=15) (listed':=#[true,true,true,true,true,true,true,true,true,true,true,true,true,true,true,true]) rfl (by kernel_rfl) (by kernel_rfl) (by kernel_rfl) (fun _ _ _ h=>h) (Sd.of (S33.trans (S35.trans (S37.trans (S39.trans S41)))) [] rfl) rfl rfl rfl rfl (fun _ hz=>(r_assign rfl (F.g rfl))) fun _ F=>?_
     refine wpAnyH_done (by kernel_rfl) (x_normal ?_) _
     exact ⟨b37,A39,N39,C39,F.cut rfl,((S20.trans (S33.trans (S35.trans (S37.trans (S39.trans S41))))).pick [0] rfl)⟩
    ·rintro a43 w43 ⟨b37,A39,N39,C39,F,S43⟩
     obtain ⟨Q1,Q2,Q3⟩:=At.ownInv S43.at' ET_62.hk 0 rfl
     refine zr fun _ F=>?_
     refine zq F ((k+1:Nat):Int) fun _ F=>?_
     exact ⟨k+1,zD,A39,N39,C39,F.cut rfl,(Mv.cast ((S13.trans S43).pick [0] rfl) (by (rfl);all_goals rfl)),by omega⟩
   ·refine zr fun _ F=>?_
    refine zv F (r_bstr Tryz.underlying62 Tryz.underlying5 Tryz.underlying9 ((At.rd S13.at' ET_62.hk 0 rfl)).1 rfl (F.g rfl)) fun _ F=>?_
    refine x_done F (results_2 rfl (zta F) (zta F)) ?_
    exact ⟨(zV1 (zVt (lc (zVs (by first|omega|rw [hexN_all text ‹_› (by omega)])) rfl))),(Mv.pick (S9.trans S13) [] rfl),(zOk (by first|omega|rw [hexN_all text ‹_› (by omega)]) (okS_bstr (by omega)))⟩
theorem impl_Unhex_c {w:World} {H:Nat→Prop} {text:ByteArray} (Q1:okS text) (tab2:Tb 2 H w) (p0:text.size≤281474976710656) :
 Calls Tryz.prog 141 #[.string text] w fun e w'=>e=.returned (.tuple #[.string (unhexT text),.bool (unhexB text)])∧Mv [] w [] w'∧okS (unhexT text):=by
 have V_tab2:=Tb.start tab2 zN
 refine ze fun _ F=>?_
 refine zz F (encoding_hex_DecodeString_c (s:=text) Q1 V_tab2 zI8) ?_
 rintro _ w4 ⟨ev_4,Q6,Q0,Q7,rfl,m4,q4_0,q4_1⟩
 refine zt fun _ F=>?_
 have S4:Mv _ _ [_] _:=At.frame (At.nil w) [] rfl m4
 obtain ⟨Q2,Q3,Q4⟩:=At.ownInv S4.at' ET_62.hk 0 rfl
 clear m4
 refine zv F (r_errNe Tryz.underlying197 rfl (F.g rfl) rfl ‹_›) fun _ F=>?_
 rcases Bool.eq_false_or_eq_true (isErr ev_4) with h14|h14
 ·rw [h14] at F
  refine zr fun _ F=>?_
  refine x_done F (results_2 rfl (zta F) (zta F)) ?_
  exact ⟨(zV1 (zVt (lc (zVs (by first|exact uh_t (uh_e ‹_› ‹_›)|exact uh_b (uh_e ‹_› ‹_›)|exact uh_t (uh_l ‹_› ‹_›)|exact uh_b (uh_l ‹_› ‹_›)|exact uh_t (uh_k ‹_›)|exact uh_b (uh_k ‹_›)|exact (uh_w ‹_› ‹_› ‹_›).1|exact (uh_w ‹_› ‹_› ‹_›).2)) (lc (zVb (by first|exact uh_t (uh_e ‹_› ‹_›)|exact uh_b (uh_e ‹_› ‹_›)|exact uh_t (uh_l ‹_› ‹_›)|exact uh_b (uh_l ‹_› ‹_›)|exact uh_t (uh_k ‹_›)|exact uh_b (uh_k ‹_›)|exact (uh_w ‹_› ‹_› ‹_›).1|exact (uh_w ‹_› ‹_› ‹_›).2)) rfl)))),(Mv.pick S4 [] rfl),((show bE_=(unhexT text) from by first|exact uh_t (uh_e ‹_› ‹_›)|exact uh_b (uh_e ‹_› ‹_›)|exact uh_t (uh_l ‹_› ‹_›)|exact uh_b (uh_l ‹_› ‹_›)|exact uh_t (uh_k ‹_›)|exact uh_b (uh_k ‹_›)|exact (uh_w ‹_› ‹_› ‹_›).1|exact (uh_w ‹_› ‹_› ‹_›).2) ▸ (by unfold okS;decide))⟩
 ·rw [h14] at F
  refine zr fun _ F=>?_
  refine zc F (Q0 > 20000) fun _ F=>?_
  rcases Decidable.em (Q0 > 20000) with h32|h32
  ·rw [decide_eq_true h32] at F
   refine zr fun _ F=>?_
   refine x_done F (results_2 rfl (zta F) (zta F)) ?_
   exact ⟨(zV1 (zVt (lc (zVs (by first|exact uh_t (uh_e ‹_› ‹_›)|exact uh_b (uh_e ‹_› ‹_›)|exact uh_t (uh_l ‹_› ‹_›)|exact uh_b (uh_l ‹_› ‹_›)|exact uh_t (uh_k ‹_›)|exact uh_b (uh_k ‹_›)|exact (uh_w ‹_› ‹_› ‹_›).1|exact (uh_w ‹_› ‹_› ‹_›).2)) (lc (zVb (by first|exact uh_t (uh_e ‹_› ‹_›)|exact uh_b (uh_e ‹_› ‹_›)|exact uh_t (uh_l ‹_› ‹_›)|exact uh_b (uh_l ‹_› ‹_›)|exact uh_t (uh_k ‹_›)|exact uh_b (uh_k ‹_›)|exact (uh_w ‹_› ‹_› ‹_›).1|exact (uh_w ‹_› ‹_› ‹_›).2)) rfl)))),(Mv.pick S4 [] rfl),((show bE_=(unhexT text) from by first|exact uh_t (uh_e ‹_› ‹_›)|exact uh_b (uh_e ‹_› ‹_›)|exact uh_t (uh_l ‹_› ‹_›)|exact uh_b (uh_l ‹_› ‹_›)|exact uh_t (uh_k ‹_›)|exact uh_b (uh_k ‹_›)|exact (uh_w ‹_› ‹_› ‹_›).1|exact (uh_w ‹_› ‹_› ‹_›).2) ▸ (by unfold okS;decide))⟩
  ·rw [decide_eq_false h32] at F
   refine zr fun _ F=>?_
   refine zz F (encoding_hex_EncodeToString_c (H:=fun _=>True) (l:=decL text) (At.rd S4.at' ET_62.hk 0 rfl) zI8) ?_
   rintro _ w41 ⟨rfl,m41,Q5⟩
   refine zt fun _ F=>?_
   have S41:=At.frame0 S4.at' m41
   clear m41
   refine zv F (r_cmps (b:=(decide ((hexS (bstr (decL text)))≠text))) (.inr (.inl rfl)) rfl (F.g rfl) (F.g rfl) rfl) fun _ F=>?_
   refine zi F (fun h46=>?_) fun h46=>?_
   ·refine zr fun _ F=>?_
    refine x_done F (results_2 rfl (zta F) (zta F)) ?_
    exact ⟨(zV1 (zVt (lc (zVs (by first|exact uh_t (uh_e ‹_› ‹_›)|exact uh_b (uh_e ‹_› ‹_›)|exact uh_t (uh_l ‹_› ‹_›)|exact uh_b (uh_l ‹_› ‹_›)|exact uh_t (uh_k ‹_›)|exact uh_b (uh_k ‹_›)|exact (uh_w ‹_› ‹_› ‹_›).1|exact (uh_w ‹_› ‹_› ‹_›).2)) (lc (zVb (by first|exact uh_t (uh_e ‹_› ‹_›)|exact uh_b (uh_e ‹_› ‹_›)|exact uh_t (uh_l ‹_› ‹_›)|exact uh_b (uh_l ‹_› ‹_›)|exact uh_t (uh_k ‹_›)|exact uh_b (uh_k ‹_›)|exact (uh_w ‹_› ‹_› ‹_›).1|exact (uh_w ‹_› ‹_› ‹_›).2)) rfl)))),(Mv.pick (S4.trans S41) [] rfl),((show bE_=(unhexT text) from by first|exact uh_t (uh_e ‹_› ‹_›)|exact uh_b (uh_e ‹_› ‹_›)|exact uh_t (uh_l ‹_› ‹_›)|exact uh_b (uh_l ‹_› ‹_›)|exact uh_t (uh_k ‹_›)|exact uh_b (uh_k ‹_›)|exact (uh_w ‹_› ‹_› ‹_›).1|exact (uh_w ‹_› ‹_› ‹_›).2) ▸ (by unfold okS;decide))⟩
   ·refine zr fun _ F=>?_
    refine zv F (r_bstr Tryz.underlying62 Tryz.underlying5 Tryz.underlying9 ((At.rd S41.at' ET_62.hk 0 rfl)).1 rfl (F.g rfl)) fun _ F=>?_
    refine x_done F (results_2 rfl (zta F) (zta F)) ?_
    exact ⟨(zV1 (zVt (lc (zVs (by first|exact uh_t (uh_e ‹_› ‹_›)|exact uh_b (uh_e ‹_› ‹_›)|exact uh_t (uh_l ‹_› ‹_›)|exact uh_b (uh_l ‹_› ‹_›)|exact uh_t (uh_k ‹_›)|exact uh_b (uh_k ‹_›)|exact (uh_w ‹_› ‹_› ‹_›).1|exact (uh_w ‹_› ‹_› ‹_›).2)) (lc (zVb (by first|exact uh_t (uh_e ‹_› ‹_›)|exact uh_b (uh_e ‹_› ‹_›)|exact uh_t (uh_l ‹_› ‹_›)|exact uh_b (uh_l ‹_› ‹_›)|exact uh_t (uh_k ‹_›)|exact uh_b (uh_k ‹_›)|exact (uh_w ‹_› ‹_› ‹_›).1|exact (uh_w ‹_› ‹_› ‹_›).2)) rfl)))),(Mv.pick (S4.trans S41) [] rfl),(zOk (by first|exact uh_t (uh_e ‹_› ‹_›)|exact uh_b (uh_e ‹_› ‹_›)|exact uh_t (uh_l ‹_› ‹_›)|exact uh_b (uh_l ‹_› ‹_›)|exact uh_t (uh_k ‹_›)|exact uh_b (uh_k ‹_›)|exact (uh_w ‹_› ‹_› ‹_›).1|exact (uh_w ‹_› ‹_› ‹_›).2) (okS_bstr (by omega)))⟩
theorem spec_Unhex_c {w:World} {H:Nat→Prop} {text:ByteArray} (Q0:okS text) :
 Calls Tryz.prog 135 #[.string text] w fun e w'=>e=.returned (.tuple #[.string (unhexT text),.bool (unhexB text)])∧Mv [] w [] w'∧okS (unhexT text):=by
 refine ze fun _ F=>?_
 refine zc F (text.size > 40000) fun _ F=>?_
 rcases Decidable.em (text.size > 40000) with h7|h7
 ·rw [decide_eq_true h7] at F
  refine zr fun _ F=>?_
  refine x_done F (results_2 rfl (zta F) (zta F)) ?_
  exact ⟨(zV1 (zVt (lc (zVs (by first|exact uh_t (unhex_big ‹_›)|exact uh_b (unhex_big ‹_›)|exact uh_t (unhex_odd ‹_›)|exact uh_b (unhex_odd ‹_›)|exact uh_t (unhex_fig (k:=2 * k) (by omega) ‹_›)|exact uh_b (unhex_fig (k:=2 * k) (by omega) ‹_›)|exact uh_t (unhex_fig (k:=2 * k+1) (by omega) ‹_›)|exact uh_b (unhex_fig (k:=2 * k+1) (by omega) ‹_›)|exact (uh_d (k:=k) hk_1 ‹_› (by omega) (by omega)).1|exact (uh_d (k:=k) hk_1 ‹_› (by omega) (by omega)).2)) (lc (zVb (by first|exact uh_t (unhex_big ‹_›)|exact uh_b (unhex_big ‹_›)|exact uh_t (unhex_odd ‹_›)|exact uh_b (unhex_odd ‹_›)|exact uh_t (unhex_fig (k:=2 * k) (by omega) ‹_›)|exact uh_b (unhex_fig (k:=2 * k) (by omega) ‹_›)|exact uh_t (unhex_fig (k:=2 * k+1) (by omega) ‹_›)|exact uh_b (unhex_fig (k:=2 * k+1) (by omega) ‹_›)|exact (uh_d (k:=k) hk_1 ‹_› (by omega) (by omega)).1|exact (uh_d (k:=k) hk_1 ‹_› (by omega) (by omega)).2)) rfl)))),(Mv.pick (Mv.refl (At.nil w)) [] rfl),((show bE_=(unhexT text) from by first|exact uh_t (unhex_big ‹_›)|exact uh_b (unhex_big ‹_›)|exact uh_t (unhex_odd ‹_›)|exact uh_b (unhex_odd ‹_›)|exact uh_t (unhex_fig (k:=2 * k) (by omega) ‹_›)|exact uh_b (unhex_fig (k:=2 * k) (by omega) ‹_›)|exact uh_t (unhex_fig (k:=2 * k+1) (by omega) ‹_›)|exact uh_b (unhex_fig (k:=2 * k+1) (by omega) ‹_›)|exact (uh_d (k:=k) hk_1 ‹_› (by omega) (by omega)).1|exact (uh_d (k:=k) hk_1 ‹_› (by omega) (by omega)).2) ▸ (by unfold okS;decide))⟩
 ·rw [decide_eq_false h7] at F
  refine zr fun _ F=>?_
  have rm17:=Nat.mod_lt text.size (show 0 < 2 by decide)
  refine zv F (r_remC (c:=2) rfl (by decide) rfl (F.g rfl) rfl) fun _ F=>?_
  refine zc F (text.size % 2≠0) fun _ F=>?_
  refine zi F (fun h21=>?_) fun h21=>?_
  ·refine zr fun _ F=>?_
   refine x_done F (results_2 rfl (zta F) (zta F)) ?_
   exact ⟨(zV1 (zVt (lc (zVs (by first|exact uh_t (unhex_big ‹_›)|exact uh_b (unhex_big ‹_›)|exact uh_t (unhex_odd ‹_›)|exact uh_b (unhex_odd ‹_›)|exact uh_t (unhex_fig (k:=2 * k) (by omega) ‹_›)|exact uh_b (unhex_fig (k:=2 * k) (by omega) ‹_›)|exact uh_t (unhex_fig (k:=2 * k+1) (by omega) ‹_›)|exact uh_b (unhex_fig (k:=2 * k+1) (by omega) ‹_›)|exact (uh_d (k:=k) hk_1 ‹_› (by omega) (by omega)).1|exact (uh_d (k:=k) hk_1 ‹_› (by omega) (by omega)).2)) (lc (zVb (by first|exact uh_t (unhex_big ‹_›)|exact uh_b (unhex_big ‹_›)|exact uh_t (unhex_odd ‹_›)|exact uh_b (unhex_odd ‹_›)|exact uh_t (unhex_fig (k:=2 * k) (by omega) ‹_›)|exact uh_b (unhex_fig (k:=2 * k) (by omega) ‹_›)|exact uh_t (unhex_fig (k:=2 * k+1) (by omega) ‹_›)|exact uh_b (unhex_fig (k:=2 * k+1) (by omega) ‹_›)|exact (uh_d (k:=k) hk_1 ‹_› (by omega) (by omega)).1|exact (uh_d (k:=k) hk_1 ‹_› (by omega) (by omega)).2)) rfl)))),(Mv.pick (Mv.refl (At.nil w)) [] rfl),((show bE_=(unhexT text) from by first|exact uh_t (unhex_big ‹_›)|exact uh_b (unhex_big ‹_›)|exact uh_t (unhex_odd ‹_›)|exact uh_b (unhex_odd ‹_›)|exact uh_t (unhex_fig (k:=2 * k) (by omega) ‹_›)|exact uh_b (unhex_fig (k:=2 * k) (by omega) ‹_›)|exact uh_t (unhex_fig (k:=2 * k+1) (by omega) ‹_›)|exact uh_b (unhex_fig (k:=2 * k+1) (by omega) ‹_›)|exact (uh_d (k:=k) hk_1 ‹_› (by omega) (by omega)).1|exact (uh_d (k:=k) hk_1 ‹_› (by omega) (by omega)).2) ▸ (by unfold okS;decide))⟩
  ·refine zr fun _ F=>?_
   refine l_op (f_buildSl (ok:=okB) (vs:=[]) F (At.nil w) (([]:List Nat)) ET_62 rfl rfl rfl rfl rfl rfl rfl rfl rfl (by simp) fun b24 _ w24 F S24=>?_)
   refine zr fun _ F=>?_
   refine x_lp (fun (k:Nat) aZ wZ=>∃ (D:List Nat),∃ (oa:Option Addr),∃ (on:Nat),∃ (oc:Nat),Fr 49 [(5,.int .i64 ((2 * k:Nat):Int)),(4,.slice oa on oc),(0,.string text)] aZ∧Mv [ow 5 1 encB okB (.slice (some ⟨b24,0,none⟩) 0 0) ([]:List Nat)] w24 [ow 5 1 encB okB (.slice oa on oc) D] wZ∧(2 * k≤text.size)∧(unInv text k D)) (fun (k:Nat)=>text.size - 2 * k) (0) ?_ ?_
   ·exact ⟨([]:List Nat),(some ⟨b24,0,none⟩),0,0,F.cut rfl,(Mv.refl S24.at'),by omega,unInv.start _⟩
   ·rintro k a28 w28 ⟨D,oa,on,oc,F,S28,hk_0,hk_1⟩
    have hDl:=hk_1.1
    have hb1:=byteAt_lt text (2 * k)
    have hb2:=byteAt_lt text (2 * k+1)
    refine zr fun _ F=>?_
    refine zc F (2 * k < text.size) fun _ F=>?_
    refine zi F (fun h33=>?_) fun h33=>?_
    ·refine zr fun _ F=>?_
     refine zv F (r_indexS (i:=2 * k) Tryz.underlying9 rfl (F.g rfl) (F.g rfl) (by omega) zIa) fun _ F=>?_
     refine zz F (spec_l01Value_c (H:=fun _=>True) (x:=byteAt text (2 * k)) (by omega)) ?_
     rintro _ w37 ⟨rfl,m37,q37_0,q37_1⟩
     refine zt fun _ F=>?_
     have S37:=At.frame0 S28.at' m37
     clear m37
     refine zq F (((2 * k)+1:Nat):Int) fun _ F=>?_
     refine zv F (r_indexS (i:=(2 * k)+1) Tryz.underlying9 rfl (F.g rfl) (F.g rfl) (by omega) zIa) fun _ F=>?_
     refine zz F (spec_l01Value_c (H:=fun _=>True) (x:=byteAt text ((2 * k)+1)) (by omega)) ?_
     rintro _ w44 ⟨rfl,m44,q44_0,q44_1⟩
     refine zt fun _ F=>?_
     have S44:=At.frame0 S37.at' m44
     clear m44
     have T47:Mv _ _ [_] _:=S44
     refine zc F ((vlow (byteAt text (2 * k))) < 0) fun _ F=>?_
     rcases Decidable.em ((vlow (byteAt text (2 * k))) < 0) with h51|h51
     ·rw [decide_eq_true h51] at F
      refine zr fun _ F=>?_
      refine x_done F (results_2 rfl (zta F) (zta F)) ?_
      exact ⟨(zV1 (zVt (lc (zVs (by first|exact uh_t (unhex_big ‹_›)|exact uh_b (unhex_big ‹_›)|exact uh_t (unhex_odd ‹_›)|exact uh_b (unhex_odd ‹_›)|exact uh_t (unhex_fig (k:=2 * k) (by omega) ‹_›)|exact uh_b (unhex_fig (k:=2 * k) (by omega) ‹_›)|exact uh_t (unhex_fig (k:=2 * k+1) (by omega) ‹_›)|exact uh_b (unhex_fig (k:=2 * k+1) (by omega) ‹_›)|exact (uh_d (k:=k) hk_1 ‹_› (by omega) (by omega)).1|exact (uh_d (k:=k) hk_1 ‹_› (by omega) (by omega)).2)) (lc (zVb (by first|exact uh_t (unhex_big ‹_›)|exact uh_b (unhex_big ‹_›)|exact uh_t (unhex_odd ‹_›)|exact uh_b (unhex_odd ‹_›)|exact uh_t (unhex_fig (k:=2 * k) (by omega) ‹_›)|exact uh_b (unhex_fig (k:=2 * k) (by omega) ‹_›)|exact uh_t (unhex_fig (k:=2 * k+1) (by omega) ‹_›)|exact uh_b (unhex_fig (k:=2 * k+1) (by omega) ‹_›)|exact (uh_d (k:=k) hk_1 ‹_› (by omega) (by omega)).1|exact (uh_d (k:=k) hk_1 ‹_› (by omega) (by omega)).2)) rfl)))),(Mv.pick (S24.trans (S28.trans (S37.trans T47))) [] rfl),((show bE_=(unhexT text) from by first|exact uh_t (unhex_big ‹_›)|exact uh_b (unhex_big ‹_›)|exact uh_t (unhex_odd ‹_›)|exact uh_b (unhex_odd ‹_›)|exact uh_t (unhex_fig (k:=2 * k) (by omega) ‹_›)|exact uh_b (unhex_fig (k:=2 * k) (by omega) ‹_›)|exact uh_t (unhex_fig (k:=2 * k+1) (by omega) ‹_›)|exact uh_b (unhex_fig (k:=2 * k+1) (by omega) ‹_›)|exact (uh_d (k:=k) hk_1 ‹_› (by omega) (by omega)).1|exact (uh_d (k:=k) hk_1 ‹_› (by omega) (by omega)).2) ▸ (by unfold okS;decide))⟩
     ·rw [decide_eq_false h51] at F
      refine zr fun _ F=>?_
      refine zc F ((vlow (byteAt text ((2 * k)+1))) < 0) fun _ F=>?_
      refine zi F (fun h60=>?_) fun h60=>?_
      ·refine zr fun _ F=>?_
       refine x_done F (results_2 rfl (zta F) (zta F)) ?_
       exact ⟨(zV1 (zVt (lc (zVs (by first|exact uh_t (unhex_big ‹_›)|exact uh_b (unhex_big ‹_›)|exact uh_t (unhex_odd ‹_›)|exact uh_b (unhex_odd ‹_›)|exact uh_t (unhex_fig (k:=2 * k) (by omega) ‹_›)|exact uh_b (unhex_fig (k:=2 * k) (by omega) ‹_›)|exact uh_t (unhex_fig (k:=2 * k+1) (by omega) ‹_›)|exact uh_b (unhex_fig (k:=2 * k+1) (by omega) ‹_›)|exact (uh_d (k:=k) hk_1 ‹_› (by omega) (by omega)).1|exact (uh_d (k:=k) hk_1 ‹_› (by omega) (by omega)).2)) (lc (zVb (by first|exact uh_t (unhex_big ‹_›)|exact uh_b (unhex_big ‹_›)|exact uh_t (unhex_odd ‹_›)|exact uh_b (unhex_odd ‹_›)|exact uh_t (unhex_fig (k:=2 * k) (by omega) ‹_›)|exact uh_b (unhex_fig (k:=2 * k) (by omega) ‹_›)|exact uh_t (unhex_fig (k:=2 * k+1) (by omega) ‹_›)|exact uh_b (unhex_fig (k:=2 * k+1) (by omega) ‹_›)|exact (uh_d (k:=k) hk_1 ‹_› (by omega) (by omega)).1|exact (uh_d (k:=k) hk_1 ‹_› (by omega) (by omega)).2)) rfl)))),(Mv.pick (S24.trans (S28.trans (S37.trans T47))) [] rfl),((show bE_=(unhexT text) from by first|exact uh_t (unhex_big ‹_›)|exact uh_b (unhex_big ‹_›)|exact uh_t (unhex_odd ‹_›)|exact uh_b (unhex_odd ‹_›)|exact uh_t (unhex_fig (k:=2 * k) (by omega) ‹_›)|exact uh_b (unhex_fig (k:=2 * k) (by omega) ‹_›)|exact uh_t (unhex_fig (k:=2 * k+1) (by omega) ‹_›)|exact uh_b (unhex_fig (k:=2 * k+1) (by omega) ‹_›)|exact (uh_d (k:=k) hk_1 ‹_› (by omega) (by omega)).1|exact (uh_d (k:=k) hk_1 ‹_› (by omega) (by omega)).2) ▸ (by unfold okS;decide))⟩
      ·refine zr fun _ F=>?_
       refine zq F (16 * (vlow (byteAt text (2 * k)))) fun _ F=>?_
       refine zq F ((16 * (vlow (byteAt text (2 * k))))+(vlow (byteAt text ((2 * k)+1)))) fun _ F=>?_
       refine zv F (r_conv8 Tryz.underlying5 Tryz.underlying3 rfl ((F.ev 43 rfl).trans (congrArg _ (show (16 * (vlow (byteAt text (2 * k))))+(vlow (byteAt text ((2 * k)+1)))=((((16 * (vlow (byteAt text (2 * k))))+(vlow (byteAt text ((2 * k)+1)))).toNat:Nat):Int) by omega))) (by omega)) fun _ F=>?_
       refine l_op (f_buildSl (ok:=okB) (vs:=[.int .u8 ((((16 * (vlow (byteAt text (2 * k))))+(vlow (byteAt text ((2 * k)+1)))).toNat:Nat):Int)]) F T47.at' ([((16 * (vlow (byteAt text (2 * k))))+(vlow (byteAt text ((2 * k)+1)))).toNat]) ET_62 rfl rfl rfl rfl rfl rfl (lc (pr2 (F.g rfl)) rfl) rfl rfl (fun x hx=>(List.mem_singleton.1 hx) ▸ (show ((16 * (vlow (byteAt text (2 * k))))+(vlow (byteAt text ((2 * k)+1)))).toNat < 256 by omega)) fun b69 _ w69 F S69=>?_)
       refine l_op (f_app (news:=[((16 * (vlow (byteAt text (2 * k))))+(vlow (byteAt text ((2 * k)+1)))).toNat]) F S69.at' 1 ET_62 rfl rfl rfl rfl rfl rfl (F.g rfl) (F.g rfl) ((At.rd S69.at' ET_62.hk 0 rfl)).1 zI9 fun A71 N71 C71 _ w71 F S71 l71=>?_)
       have S73:=At.drop S71.at' 1
       refine zr fun _ F=>?_
       refine zq F (((2 * k)+2:Nat):Int) fun _ F=>?_
       exact ⟨k+1,zD,D++([((16 * (vlow (byteAt text (2 * k))))+(vlow (byteAt text ((2 * k)+1)))).toNat]),A71,N71,C71,F.cut rfl,((S28.trans (S37.trans (T47.trans (S69.trans (S71.trans S73))))).pick [0] rfl),by omega,by exact unInv.step2 hk_1 (by omega) ‹_› ‹_›⟩
    ·refine zr fun _ F=>?_
     refine zv F (r_bstr Tryz.underlying62 Tryz.underlying5 Tryz.underlying9 ((At.rd S28.at' ET_62.hk 0 rfl)).1 rfl (F.g rfl)) fun _ F=>?_
     refine x_done F (results_2 rfl (zta F) (zta F)) ?_
     exact ⟨(zV1 (zVt (lc (zVs (by first|exact uh_t (unhex_big ‹_›)|exact uh_b (unhex_big ‹_›)|exact uh_t (unhex_odd ‹_›)|exact uh_b (unhex_odd ‹_›)|exact uh_t (unhex_fig (k:=2 * k) (by omega) ‹_›)|exact uh_b (unhex_fig (k:=2 * k) (by omega) ‹_›)|exact uh_t (unhex_fig (k:=2 * k+1) (by omega) ‹_›)|exact uh_b (unhex_fig (k:=2 * k+1) (by omega) ‹_›)|exact (uh_d (k:=k) hk_1 ‹_› (by omega) (by omega)).1|exact (uh_d (k:=k) hk_1 ‹_› (by omega) (by omega)).2)) (lc (zVb (by first|exact uh_t (unhex_big ‹_›)|exact uh_b (unhex_big ‹_›)|exact uh_t (unhex_odd ‹_›)|exact uh_b (unhex_odd ‹_›)|exact uh_t (unhex_fig (k:=2 * k) (by omega) ‹_›)|exact uh_b (unhex_fig (k:=2 * k) (by omega) ‹_›)|exact uh_t (unhex_fig (k:=2 * k+1) (by omega) ‹_›)|exact uh_b (unhex_fig (k:=2 * k+1) (by omega) ‹_›)|exact (uh_d (k:=k) hk_1 ‹_› (by omega) (by omega)).1|exact (uh_d (k:=k) hk_1 ‹_› (by omega) (by omega)).2)) rfl)))),(Mv.pick (S24.trans S28) [] rfl),(zOk (by first|exact uh_t (unhex_big ‹_›)|exact uh_b (unhex_big ‹_›)|exact uh_t (unhex_odd ‹_›)|exact uh_b (unhex_odd ‹_›)|exact uh_t (unhex_fig (k:=2 * k) (by omega) ‹_›)|exact uh_b (unhex_fig (k:=2 * k) (by omega) ‹_›)|exact uh_t (unhex_fig (k:=2 * k+1) (by omega) ‹_›)|exact uh_b (unhex_fig (k:=2 * k+1) (by omega) ‹_›)|exact (uh_d (k:=k) hk_1 ‹_› (by omega) (by omega)).1|exact (uh_d (k:=k) hk_1 ‹_› (by omega) (by omega)).2) (okS_bstr (by omega)))⟩
theorem internal_stringslite_CutPrefix_c {w:World} {H:Nat→Prop} {s:ByteArray} {pfx:ByteArray} (h_s:okS s) (Q0:okS pfx) :
 Calls Tryz.prog 384 #[.string s,.string pfx] w fun e w'=>e=.returned (.tuple #[.string (cutPre s pfx),.bool (begins s pfx)])∧Mv [] w [] w'∧okS (cutPre s pfx):=by
 refine ze fun _ F=>?_
 refine zz F (internal_stringslite_HasPrefix_c (H:=fun _=>True) (s:=s) (pfx:=pfx) h_s Q0) ?_
 rintro _ w5 ⟨rfl,m5⟩
 refine zt fun _ F=>?_
 have S5:=At.frame0 (At.nil w) m5
 clear m5
 refine zv F (r_not rfl (F.g rfl)) fun _ F=>?_
 refine zib F (fun h8=>?_) fun h8=>?_
 ·refine zr fun _ F=>?_
  refine x_done F (results_2 rfl (zta F) (zta F)) ?_
  exact ⟨(zV1 (zVt (lc (zVs (by first|exact cutPre_t (nf ‹_›)|exact cutPre_f (nt ‹_›)|exact (nf ‹_›).symm|exact (nt ‹_›).symm)) (lc (zVb (by first|exact cutPre_t (nf ‹_›)|exact cutPre_f (nt ‹_›)|exact (nf ‹_›).symm|exact (nt ‹_›).symm)) rfl)))),(Mv.pick S5 [] rfl),(zOk (by first|exact cutPre_t (nf ‹_›)|exact cutPre_f (nt ‹_›)|exact (nf ‹_›).symm|exact (nt ‹_›).symm) h_s)⟩
 ·refine zr fun _ F=>?_
  have hle:=begins_le (nf ‹_›)
  refine zv F (r_sliceS (l:=pfx.size) (h:=s.size) Tryz.underlying9 rfl (F.g rfl) (F.g rfl) rfl zIa zIa rfl) fun _ F=>?_
  refine x_done F (results_2 rfl (zta F) (zta F)) ?_
  exact ⟨(zV1 (zVt (lc (zVs (by first|exact cutPre_t (nf ‹_›)|exact cutPre_f (nt ‹_›)|exact (nf ‹_›).symm|exact (nt ‹_›).symm)) (lc (zVb (by first|exact cutPre_t (nf ‹_›)|exact cutPre_f (nt ‹_›)|exact (nf ‹_›).symm|exact (nt ‹_›).symm)) rfl)))),(Mv.pick S5 [] rfl),(zOk (by first|exact cutPre_t (nf ‹_›)|exact cutPre_f (nt ‹_›)|exact (nf ‹_›).symm|exact (nt ‹_›).symm) (okS_ext h_s))⟩
theorem strings_CutPrefix_c {w:World} {H:Nat→Prop} {s:ByteArray} {pfx:ByteArray} (h_s:okS s) (Q0:okS pfx) :
 Calls Tryz.prog 378 #[.string s,.string pfx] w fun e w'=>e=.returned (.tuple #[.string (cutPre s pfx),.bool (begins s pfx)])∧Mv [] w [] w'∧okS (cutPre s pfx):=by
 refine ze fun _ F=>?_
 refine zz F (internal_stringslite_CutPrefix_c (H:=fun _=>True) (s:=s) (pfx:=pfx) h_s Q0) ?_
 rintro _ w5 ⟨rfl,m5,Q1⟩
 refine zt fun _ F=>?_
 have S5:=At.frame0 (At.nil w) m5
 clear m5
 refine x_done F (results_2 rfl (zta F) (zta F)) ?_
 exact ⟨rfl,(Mv.pick S5 [] rfl),Q1⟩
theorem impl_messageOf_c {w:World} {H:Nat→Prop} {val:ByteArray} (Q0:okS val) (tab2:Tb 2 H w) (p0:val.size≤281474976710656) :
 Calls Tryz.prog 364 #[.string val] w fun e w'=>e=.returned (.string (msgOf val))∧Mv [] w [] w'∧okS (msgOf val):=by
 have V_tab2:=Tb.start tab2 zN
 refine ze fun _ F=>?_
 refine zz F (strings_CutPrefix_c (H:=fun _=>True) (s:=val) (pfx:=(⟨#[45]⟩:ByteArray)) Q0 (by unfold okS;decide)) ?_
 rintro _ w3 ⟨rfl,m3,Q2⟩
 refine zt fun _ F=>?_
 have S3:=At.frame0 (At.nil w) m3
 clear m3
 refine zv F (r_not rfl (F.g rfl)) fun _ F=>?_
 refine zib F (fun h12=>?_) fun h12=>?_
 ·refine zr fun _ F=>?_
  refine x_done F (results_1 rfl (zta F)) ?_
  exact ⟨(zV1 (zVs (by first|exact msg_p (nf ‹_›)|exact msg_f (nt ‹_›)|exact msg_t ‹_›|exact msg_f ‹_›|exact msg_t (nf ‹_›)|exact msg_f (nt ‹_›)|exact msg_a ‹_› ‹_›|exact msg_b ‹_›|exact msg_c ‹_›))),(Mv.pick S3 [] rfl),((show bE_=(msgOf val) from by first|exact msg_p (nf ‹_›)|exact msg_f (nt ‹_›)|exact msg_t ‹_›|exact msg_f ‹_›|exact msg_t (nf ‹_›)|exact msg_f (nt ‹_›)|exact msg_a ‹_› ‹_›|exact msg_b ‹_›|exact msg_c ‹_›) ▸ (by unfold okS;decide))⟩
 ·refine zr fun _ F=>?_
  refine zz F (impl_Unhex_c (text:=cutPre val (⟨#[45]⟩:ByteArray)) Q2 (Tb.mv V_tab2 S3) (by exact Nat.le_trans (cutPre_size ..) ‹_›)) ?_
  rintro _ w15 ⟨rfl,m15,Q1⟩
  refine zt fun _ F=>?_
  have S15:=At.frame0 S3.at' m15
  clear m15
  refine x_done F (results_1 rfl (zta F)) ?_
  exact ⟨(zV1 (zVs (by first|exact msg_p (nf ‹_›)|exact msg_f (nt ‹_›)|exact msg_t ‹_›|exact msg_f ‹_›|exact msg_t (nf ‹_›)|exact msg_f (nt ‹_›)|exact msg_a ‹_› ‹_›|exact msg_b ‹_›|exact msg_c ‹_›))),(Mv.pick (S3.trans S15) [] rfl),(zOk (by first|exact msg_p (nf ‹_›)|exact msg_f (nt ‹_›)|exact msg_t ‹_›|exact msg_f ‹_›|exact msg_t (nf ‹_›)|exact msg_f (nt ‹_›)|exact msg_a ‹_› ‹_›|exact msg_b ‹_›|exact msg_c ‹_›) Q1)⟩
end Go.Proofs.YtipdbeklopjbmaaGreatDoor
