/-
  Texts laid together: GenH, DatVd.
-/
import Derived.Shelf.Hex.DecodeOwns
import Derived.Shelf.Hex.More
import Derived.Lib.ConvBytes
import Derived.Lib.AtoiErrMem
import Derived.Test.YtipdbeklopjbmaaGreatDoorP12
set_option linter.unusedVariables false
set_option linter.unusedSimpArgs false
namespace Go.Proofs.YtipdbeklopjbmaaGreatDoor
open Go.ChangeShapes Go.WideShapes Go.ChangeAt Go.RowKit Go.Proofs.Tryz
section
variable {w:World} {H:Nat→Prop}
set_option maxRecDepth 100000
set_option maxHeartbeats 1000000
theorem JfR {H:Nat→Prop} (w:World) (e:Nat) (s:ByteArray) (hsz:s.size≤9223372036854775807):Rd 1 J7 okB (Fsh H w) (Lib.bytesWorld w e s) (.slice (aO w.heap.size) s.size (grownCap w s.size 0 e)) (Jb s):=by
 have hl:(Jb s).length=s.size:=J0A s
 refine ⟨RSl.mk w.heap.size 0 _ (by rw [hl]) (by rw [hl];exact grownCap_ge w _ 0 e) (grownCap_le_maxLen w _ 0 e (by unfold maxLen;omega)) fun i x hx=>?_,fun ad n c e _=>by cases e;exact .inr (Nat.le_refl _)⟩
 have hi:i < (Jb s).length:=(List.getElem?_eq_some_iff.1 hx).1
 refine ⟨J7 x,rfl,⟨rfl,J2F s x (List.mem_of_getElem? hx)⟩,fun j u hj=>?_⟩
 cases j with
 | zero=>
  cases hj
  have h:=Lib.bytesWorld_cell w e s i zO
  have hx2:(s.data.toList.getD i 0).toNat=x:=by
   unfold Jb at hx
   rw [List.getElem?_map] at hx
   unfold List.getD
   cases hq:s.data.toList[i]? with
   | none=>rw [hq] at hx;cases hx
   | some y=>rw [hq] at hx;cases hx;rfl
  rw [hx2] at h
  simpa using h
 | succ j=>cases hj
section
variable {P:Program} {ops:Array Oper} {Q:Exit→Act→World→Prop} {K:Act→World→Prop} {o:Oper} {a:Act} {w:World} {L:List Atom} {d n:Nat} {m:List (Nat × Value)}
theorem Jfu {src dst e:TypeId} {u:TypeDesc} {s:ByteArray} {x:Operand} {G:Nat→Prop} {w0:World} (F:Fr n m a) (A:At w L) (hg:w0.heap.size≤w.heap.size) (hs:P.underlying src=some u) (hdt:P.underlying dst=some (.slice e)) (he:P.underlying e=some (.int .u8)) (hw:Region.wanted o (yielded ops a.tmps)=true) (hd:o.dst=some d) (ho:o.op=.convert src dst x) (hp:Nat.blt d n=true) (hx:a.eval x=.string s) (hz:s.size≤9223372036854775807)
 (kk:∀ b q c a' w',Fr n ((d,.slice (aO b) q c)::m) a'→Mv L w L w'→Rd 1 J7 okB (V G w0 L) w' (.slice (aO b) q c) (Jb s)→q=s.size→K a' w'):st1 P ops Q o K a w:=by
 have hb:=Lib.bytesWorld_below w e s
 have hM:Mv L w L (Lib.bytesWorld w e s):=At.frame0 A (J32 hb)
 refine J1s hw hd (v:=.slice (aO w.heap.size) s.size (grownCap w s.size 0 e)) (w':=Lib.bytesWorld w e s) ?_ fun _ e'=>kk _ _ _ _ _ (F.put e' hp) hM (Rd.got0 A hg (JfR w e s hz) hM) rfl
 simp [execOp,ho,hx,Lib.run_convert_string_bytes w src dst e s hs hdt he,Result.andThen]
end
section
end
theorem JiF {H:Nat→Prop} {w:World} {a:Option Addr} {n c:Nat} {l:List Nat} (h:Rd 1 J7 okB H w (.slice a n c) l):∀ x ∈ l,x < 256:=by
 intro x hx
 obtain ⟨i,hi,rfl⟩:=List.mem_iff_getElem.1 hx
 obtain ⟨a',cap,e1,h1,h2,h3,h4⟩:=h.1.inv
 cases e1
 obtain ⟨b',off',x',row,e3,hx',hr,⟨_,h5⟩,_⟩:=h.1.at i hi
 rw [List.getElem?_eq_getElem hi] at hx'
 cases hx'
 exact h5
section
open Go.Shelf Go.Lib
variable {P:Program} {ρ:Ren}
set_option maxHeartbeats 1000000 in
theorem enc0 (L:Lays.p40 P ρ) (dst:Value) (b f c:Nat) (w:World) :
 Calls P (ρ.f 40) #[dst,.slice (some ⟨b,f,none⟩) 0 c] w fun e w'=>e=.returned (iV 0)∧w'=w:=by
 have t0:=L.t0;have t3:=L.t3;have t5:=L.t5;have t9:=L.t9;have t30:=L.t30;have t46:=L.t46
 have a0:=L.a0;have a3:=L.a3;have a5:=L.a5;have a9:=L.a9;have a30:=L.a30;have a46:=L.a46
 have mixed:=L.mixed;have z0:=L.z0;have v0:=L.v0;have z3:=L.z3;have v3:=L.v3;have z5:=L.z5;have v5:=L.v5;have z9:=L.z9;have v9:=L.v9;have z30:=L.z30;have v30:=L.v30;have z46:=L.z46;have v46:=L.v46
 go_enter L.f40,Body.p40_ntmps ρ
 go_wp2
 go_loop [5,10] (fun vj vi=>vi=iV 0∧vj=iV 0) (fun _ _=>0)
 case atStart=>exact ⟨rfl,rfl⟩
 case round=>
  obtain ⟨rfl,rfl⟩:=hrel
  go_wp2
  go_ret
  exact ⟨rfl,rfl⟩
set_option maxHeartbeats 1000000 in
theorem Jir (L:Lays.ph39 P ρ) (b0 f0 c0:Nat) (w:World) :
 Calls P (ρ.f 39) #[.slice (some ⟨b0,f0,none⟩) 0 c0] w fun e w'=>e=.returned (.string ⟨#[]⟩)∧Below w.heap.size w w':=by
 have t0:=L.t0;have t3:=L.t3;have t5:=L.t5;have t9:=L.t9;have t30:=L.t30;have t46:=L.t46
 have a0:=L.a0;have a3:=L.a3;have a5:=L.a5;have a9:=L.a9;have a30:=L.a30;have a46:=L.a46
 have mixed:=L.mixed;have z0:=L.z0;have v0:=L.v0;have z3:=L.z3;have v3:=L.v3;have z5:=L.z5;have v5:=L.v5;have z9:=L.z9;have v9:=L.v9;have z30:=L.z30;have v30:=L.v30;have z46:=L.z46;have v46:=L.v46
 have e40:∀ args w,(callFunc (ρ.f 40) args).run P w=.ok (.enter (ρ.f 40) args) w:=enters_of L.f40 zK rfl
 have e41:∀ args w,(callFunc (ρ.f 41) args).run P w=.ok (.enter (ρ.f 41) args) w:=enters_of L.f41 zK rfl
 have hmk:∀ w:World,(Instr.makeSlice (ρ.t 30) (iV 0) (iV 0)).run P w=.ok (.slice (aO w.heap.size) 0 0) (w.alloc (.cells (madeCells #[.int .u8 0] 0) (ρ.t 5))):=fun w=>
  run_make_row' (P:=P) (ρ.t 30) (ρ.t 5) (.int .u8 0) 1 L.t30 L.info5 rfl .i64 .i64 0 zO zO w
 have g:∀ (w:World) (b:Nat),(convert (ρ.t 30) (ρ.t 9) (.slice (aO b) 0 0)).run P w=.ok (.string (strOfNums [])) w:=fun w b=>
  run_convert_bytes_arg (P:=P) w (ρ.t 30) (ρ.t 5) L.t30 L.t5 b 0 0 0 [] rfl (fun i hi=>absurd hi (Nat.not_lt_zero _)) (ρ.t 9) L.t9
 go_enter L.f39,Body.p39_ntmps ρ
 go_wp2_with (first
  | (go_at_fn (ρ.f 41);refine (Any.hex_EncodedLen { L with } 0 zO zO _).mono ?_;rintro e w' ⟨rfl,rfl⟩)
  | (go_at_fn (ρ.f 40);refine (enc0 { L with } _ _ _ _ _).mono ?_;rintro e w' ⟨rfl,rfl⟩))
 go_ret
 exact ⟨rfl,(Below.refl _ _).alloc (Nat.le_refl _) _⟩
end
def J1x (s:ByteArray):List Nat:=(Lib.Hx.decode s.data.toList).1.map (·.toNat)
def J5Q (s:ByteArray) (ev:Value):Prop:=J2v ev=true→(Lib.Hx.decode s.data.toList).2≠.ok
theorem J6K (s:ByteArray):Je (J1x s)=⟨(Lib.Hx.decode s.data.toList).1.toArray⟩:=by
 apply ByteArray.ext
 apply Array.toList_inj.1
 rw [J54]
 unfold J1x
 rw [List.map_map]
 have:∀ l:List UInt8,l.map (UInt8.ofNat ∘ fun x:UInt8=>x.toNat)=l:=by
  intro l
  induction l with
  | nil=>rfl
  | cons x l ih=>rw [List.map_cons,ih];congr 1;exact UInt8.ofNat_toNat
 exact this _
theorem J6m (s:ByteArray):(J1x s).length=(Lib.Hx.decode s.data.toList).1.length:=List.length_map ..
theorem J09 {s:ByteArray} (h:JK s=⟨#[]⟩∧J0k s=false):(bA [])=JK s:=h.1.symm
theorem J08 {s:ByteArray} (h:JK s=⟨#[]⟩∧J0k s=false):false=J0k s:=h.2.symm
theorem J3h {s:ByteArray} {ev:Value} (q:J5Q s ev) (h:J2v ev=true):JK s=⟨#[]⟩∧J0k s=false:=Jfj (q h)
theorem J3j {s:ByteArray} {n:Nat} (hn:n=(J1x s).length) (h:n > 20000):JK s=⟨#[]⟩∧J0k s=false:=JeB (by rw [J6m] at hn;omega)
theorem J3i {s:ByteArray} (h:Js (Je (J1x s))≠s):JK s=⟨#[]⟩∧J0k s=false:=JeA (J6K s ▸ h)
theorem J3k {s:ByteArray} {n:Nat} (hn:n=(J1x s).length) (h:¬ n > 20000) (h2:¬ Js (Je (J1x s))≠s):Je (J1x s)=JK s∧true=J0k s:=by
 have:=JeC (s:=s) (by rw [J6m] at hn;omega) (J6K s ▸ Classical.not_not.1 h2)
 rw [J6K];exact ⟨this.1.symm,this.2.symm⟩
theorem unInv.step2 {s:ByteArray} {k:Nat} {D:List Nat} (h:unInv s k D) (hk:2 * k+1 < s.size) (h1:¬ Jy (J5 s (2 * k)) < 0) (h2:¬ Jy (J5 s (2 * k+1)) < 0):unInv s (k+1) (D++[(16 * Jy (J5 s (2 * k))+Jy (J5 s (2 * k+1))).toNat]):=by
 have:=h.step hk h1 h2
 have e:16 * (Jy (J5 s (2 * k))).toNat+(Jy (J5 s (2 * k+1))).toNat=(16 * Jy (J5 s (2 * k))+Jy (J5 s (2 * k+1))).toNat:=by omega
 rwa [e] at this
theorem J2D {s:ByteArray} {k:Nat} {D:List Nat} (h:unInv s k D) (hk:¬ 2 * k < s.size) (hs:¬ s.size > 40000) (he:2 * k≤s.size):Je D=JK s∧true=J0k s:=by
 have:=h.done zO zO he
 exact ⟨this.1.symm,this.2.symm⟩
theorem J4O {s:ByteArray} (h:J0h s ⟨#[45]⟩=true):JK (s.extract 1 s.size)=J39 s:=(if_pos h).symm
theorem J4c {s:ByteArray} (h:J0h s ⟨#[45]⟩=false):(bA [])=J39 s:=(if_neg (by rw [h];decide)).symm
def J2r (s p:ByteArray):ByteArray:=if J0h s p then s.extract p.size s.size else s
theorem J9H {s p:ByteArray} (h:J0h s p=true):s.extract p.size s.size=J2r s p:=(if_pos h).symm
theorem Jfo {s p:ByteArray} (h:J0h s p=false):s=J2r s p:=(if_neg (by rw [h];decide)).symm
theorem J2E {s p:ByteArray} (h:J0h s p=true):p.size≤s.size:=by
 unfold J0h at h
 exact (of_decide_eq_true h).1
theorem Jbm {s:ByteArray} (h:J0h s ⟨#[45]⟩=true):JK (J2r s ⟨#[45]⟩)=J39 s:=by rw [← J9H h];exact J4O h
theorem JdN (s p:ByteArray):(J2r s p).size≤s.size:=by
 unfold J2r
 split
 ·rw [ByteArray.size_extract];omega
 exact Nat.le_refl _
theorem J8z (s:ByteArray):Je (Jb s)=s:=J6t (J4p _ (J2F s))
theorem J80 {l:List Nat} {l_a:Option Addr} {l_n l_c:Nat} (v_l:Rd 1 J7 okB H w (.slice l_a l_n l_c) l) (p0:l_n≤140737488355328) :
 Calls prog 175 #[.slice l_a l_n l_c] w fun e w'=>e=.returned (.string (Js (Je l)))∧Mv [] w [] w'∧okS (Js (Je l)):=by
 obtain ⟨a',cap,e1,h1,h2,h3,h4⟩:=v_l.1.inv
 cases e1
 have hok:okS (Js (Je l)):=by unfold okS;rw [J2H,J1n];omega
 cases l with
 | nil=>
  cases l_a with
  | none=>
   obtain ⟨_,rfl⟩:=h4 rfl
   refine (Any.hex_EncodeToString_nil J71 w).mono ?_
   rintro e w' ⟨rfl,hw⟩
   exact ⟨rfl,J32 hw,hok⟩
  | some ad=>
   obtain ⟨b,off,rfl⟩:=v_l.1.plain
   refine (Jir J71 b off l_c w).mono ?_
   rintro e w' ⟨rfl,hw⟩
   exact ⟨rfl,J32 hw,hok⟩
 | cons x l0=>
  cases l_a with
  | none=>exact absurd (h4 rfl).1 (fun e=>nomatch e)
  | some ad=>
   obtain ⟨b,off,rfl⟩:=v_l.1.plain
   have hlen:((x::l0).map UInt8.ofNat).length=(x::l0).length:=List.length_map ..
   have hlt:=JiF v_l
   have h:=Any.hex_EncodeToString_bytes J71 b off l_c ((x::l0).map UInt8.ofNat) w (fun i hi=>by
    rw [hlen] at hi
    obtain ⟨b',off',x',row,e3,hx',hr,⟨e5,h5⟩,hcell⟩:=v_l.1.at i hi
    cases e3
    have:=hcell 0 (.int .u8 ((x':Nat):Int)) (by rw [e5];rfl)
    rw [Nat.mul_one,Nat.add_zero] at this
    rw [this,List.getElem_map]
    have hg:(x::l0)[i]=x':=by rw [List.getElem?_eq_getElem hi] at hx';exact Option.some.inj hx'
    have h6:x' < 256:=h5
    rw [hg,UInt8.toNat_ofNat']
    congr 2
    omega) (v_l.1.blk (by decide) (Nat.succ_pos _)) (by rw [hlen];omega)
   rw [hlen] at h
   refine h.mono ?_
   rintro e w' ⟨rfl,hw⟩
   exact ⟨by unfold Js;rw [J54],J32 hw,hok⟩
theorem Jcb {s:ByteArray} (h_s:okS s) (tab2:Tb 2 H w) (p0:s.size≤281474976710656) :
 Calls prog 174 #[.string s] w fun e w'=>∃ (ev:Value)(r0_a:Option Addr)(r0_n r0_c:Nat),e=.returned (.tuple #[.slice r0_a r0_n r0_c,ev])∧Mv [] w [qB r0_a r0_n r0_c (J1x s)] w'∧J2y ev∧J5Q s ev:=by
 obtain ⟨ev0,he,hv⟩:=tab2.1
 refine (Any.hex_DecodeString_owns JeW s w ev0 he p0).mono ?_
 rintro e w' ⟨v,rfl,ho,hb⟩
 have hO:Own 5 1 J7 okB w' v (J1x s):=by
  obtain ⟨h1,h2⟩:=ho
  refine ⟨⟨?_,?_⟩,fun x hx=>?_⟩
  ·rw [Nat.mul_one];exact (J0d (enc:=J7) (k:=1) (fun _=>rfl) _).trans (Nat.mul_one _)
  ·have ef:J4 J7 (J1x s)=(Lib.Hx.decode s.data.toList).1.map fun b=>Value.int .u8 (b.toNat:Int):=by
    unfold J4 J1x
    induction (Lib.Hx.decode s.data.toList).1 with
    | nil=>rfl
    | cons x l ih=>rw [List.map_cons,List.flatMap_cons,ih];rfl
   rw [ef,J6m]
   rcases h2 with h2|⟨g,cap,cur,h3,h4,h5⟩
   ·exact .inl h2
   exact .inr ⟨g,cap,cur,h3,Nat.zero_le _,h5⟩
  obtain ⟨b,_,rfl⟩:=List.mem_map.1 hx
  exact b.toNat_lt
 have hf:∀ b ∈ v.ownBlock.toList,w.heap.size≤b:=fun b hb=>(ho.lt b (by simpa using hb)).1
 have hM:Mv [] w [ow 5 1 J7 okB v (J1x s)] w':=J6o hO hf ⟨hb.os,hb.tape,hb.output,hb.size,fun k hk=>hb.block k hk⟩
 have hE:J2y (Lib.Hx.errVal (laysUnhex_ren.t 47) ev0 (Lib.Hx.decode s.data.toList).2)∧J5Q s (Lib.Hx.errVal (laysUnhex_ren.t 47) ev0 (Lib.Hx.decode s.data.toList).2):=by
  unfold J5Q
  cases (Lib.Hx.decode s.data.toList).2 with
  | ok=>exact ⟨.inl rfl,fun h=>absurd h Bool.false_ne_true⟩
  | bad c=>exact ⟨.inr ⟨_,_,rfl⟩,fun _ e=>nomatch e⟩
  | odd=>exact ⟨hv,fun _ e=>nomatch e⟩
 obtain ⟨a,n,c,rfl⟩:∃ a n c,v=.slice a n c:=by
  rcases ho.2 with ⟨rfl,_⟩|⟨g,cap,cur,rfl,_⟩
  ·exact ⟨_,_,_,rfl⟩
  exact ⟨_,_,_,rfl⟩
 exact ⟨_,a,n,c,rfl,hM,hE.1,hE.2⟩
theorem Jec {H:Nat→Prop} {text:ByteArray} (Q1:okS text) (p0:text.size≤20000) :
 Calls prog 183 #[.string text] w fun e w'=>e=.returned (.tuple #[.string (Js text),.bool true])∧Mv [] w [] w'∧okS (Js text):=by
 refine ze fun _ F=>?_
 refine zc F (text.size > 20000) fun _ F=>?_
 refine zi F (fun h6=>?_) fun h6=>?_
 ·refine zr fun _ F=>?_
  refine zd2 F ?_
  exact ⟨(zV1 (zVt (lc (zVs yCc) (lc (zVb yCc) rfl)))),(Mv.pick (Mv.refl (At.nil w)) [] rfl),((show bE_=(Js text) from by first|omega|rw [J8z]) ▸ (by unfold okS;decide))⟩
 refine zr fun _ F=>?_
 refine J0 (Jfu (G:=H) (w0:=w) F (At.nil w) (Nat.le_refl _) underlying9 underlying62 underlying5 rfl rfl rfl rfl (F.g rfl) yq fun b10 N10 C10 _ w10 F S10 V10 l10=>?_)
 refine zzq F S10.at' (J80 (l:=Jb text) V10 yb) ?_
 rintro w12 S12 Q0 _ F
 refine zd2 F ?_
 exact ⟨(zV1 (zVt (lc (zVs yCc) rfl))),(Mv.pick (S10.trans S12) [] rfl),(zOk yCc Q0)⟩
theorem J6f {H:Nat→Prop} {text:ByteArray} (Q0:okS text) (p0:text.size≤20000) :
 Calls prog 153 #[.string text] w fun e w'=>e=.returned (.string (Js text))∧Mv [] w [] w'∧okS (Js text):=by
 refine ze fun _ F=>?_
 refine zzq F (At.nil w) (Jec (H:=fun _=>True) (text:=text) Q0 yb) ?_
 rintro w3 S3 Q1 _ F
 refine zd1 F ?_
 exact ⟨rfl,(Mv.pick S3 [] rfl),Q1⟩
theorem J87 {H:Nat→Prop} {x:Nat} (h_x:x < 256) :
 Calls prog 168 #[.int .u8 ((x:Nat):Int)] w fun e w'=>e=.returned (iV (Jy x))∧Mv [] w [] w'∧-1≤Jy x∧Jy x≤15:=by
 refine ze fun _ F=>?_
 refine zc F (x ≥ 48) fun _ F=>?_
 rcases Decidable.em (x ≥ 48) with h5|h5
 ·rw [decide_eq_true h5] at F
  refine zr fun _ F=>?_
  refine zc F (x≤57) fun _ F=>?_
  refine zi F (fun h9=>?_) fun h9=>?_
  ·refine zr fun _ F=>?_
   refine zv F (J1a underlying3 underlying5 rfl (F.g rfl) ⟨zO,by first|omega|(have:=trivial;omega)⟩) fun _ F=>?_
   refine zq F (((x:Nat):Int) - 48) fun _ F=>?_
   refine zd1 F ?_
   exact ⟨(zV1 (zVi (by unfold Jy;split <;> (try split) <;> omega))),(Mv.pick (Mv.refl (At.nil w)) [] rfl),(J1d x).1,(J1d x).2⟩
  refine zr fun _ F=>?_
  refine zc F (x ≥ 97) fun _ F=>?_
  rcases Decidable.em (x ≥ 97) with h17|h17
  ·rw [decide_eq_true h17] at F
   refine zr fun _ F=>?_
   refine zc F (x≤102) fun _ F=>?_
   refine zi F (fun h21=>?_) fun h21=>?_
   ·refine zr fun _ F=>?_
    refine zv F (J1a underlying3 underlying5 rfl (F.g rfl) ⟨zO,by first|omega|(have:=trivial;omega)⟩) fun _ F=>?_
    refine zq F (((x:Nat):Int) - 97) fun _ F=>?_
    refine zq F ((((x:Nat):Int) - 97)+10) fun _ F=>?_
    refine zd1 F ?_
    exact ⟨(zV1 (zVi (by unfold Jy;split <;> (try split) <;> omega))),(Mv.pick (Mv.refl (At.nil w)) [] rfl),(J1d x).1,(J1d x).2⟩
   refine zr fun _ F=>?_
   refine zd1 F ?_
   exact ⟨(zV1 (zVi (by unfold Jy;split <;> (try split) <;> omega))),(Mv.pick (Mv.refl (At.nil w)) [] rfl),(J1d x).1,(J1d x).2⟩
  rw [decide_eq_false h17] at F
  refine zr fun _ F=>?_
  refine zd1 F ?_
  exact ⟨(zV1 (zVi (by unfold Jy;split <;> (try split) <;> omega))),(Mv.pick (Mv.refl (At.nil w)) [] rfl),(J1d x).1,(J1d x).2⟩
 rw [decide_eq_false h5] at F
 refine zr fun _ F=>?_
 refine zc F (x ≥ 97) fun _ F=>?_
 rcases Decidable.em (x ≥ 97) with h38|h38
 ·rw [decide_eq_true h38] at F
  refine zr fun _ F=>?_
  refine zc F (x≤102) fun _ F=>?_
  refine zi F (fun h42=>?_) fun h42=>?_
  ·refine zr fun _ F=>?_
   refine zv F (J1a underlying3 underlying5 rfl (F.g rfl) ⟨zO,by first|omega|(have:=trivial;omega)⟩) fun _ F=>?_
   refine zq F (((x:Nat):Int) - 97) fun _ F=>?_
   refine zq F ((((x:Nat):Int) - 97)+10) fun _ F=>?_
   refine zd1 F ?_
   exact ⟨(zV1 (zVi (by unfold Jy;split <;> (try split) <;> omega))),(Mv.pick (Mv.refl (At.nil w)) [] rfl),(J1d x).1,(J1d x).2⟩
  refine zr fun _ F=>?_
  refine zd1 F ?_
  exact ⟨(zV1 (zVi (by unfold Jy;split <;> (try split) <;> omega))),(Mv.pick (Mv.refl (At.nil w)) [] rfl),(J1d x).1,(J1d x).2⟩
 rw [decide_eq_false h38] at F
 refine zr fun _ F=>?_
 refine zd1 F ?_
 exact ⟨(zV1 (zVi (by unfold Jy;split <;> (try split) <;> omega))),(Mv.pick (Mv.refl (At.nil w)) [] rfl),(J1d x).1,(J1d x).2⟩
theorem J6C {H:Nat→Prop} {text:ByteArray} (Q0:okS text) (p0:text.size≤20000) :
 Calls prog 145 #[.string text] w fun e w'=>e=.returned (.tuple #[.string (Js text),.bool true])∧Mv [] w [] w'∧okS (Js text):=by
 refine ze fun _ F=>?_
 refine zc F (text.size > 20000) fun _ F=>?_
 refine zi F (fun h6=>?_) fun h6=>?_
 ·refine zr fun _ F=>?_
  refine zd2 F ?_
  exact ⟨(zV1 (zVt (lc (zVs yCa) (lc (zVb yCa) rfl)))),(Mv.pick (Mv.refl (At.nil w)) [] rfl),((show bE_=(Js text) from by first|omega|rw [J9M text zA zO]) ▸ (by unfold okS;decide))⟩
 refine zr fun _ F=>?_
 refine zbs (ok:=okB) F (At.nil w) (([]:List Nat)) ET_62 (by simp) fun b9 w9 S9 _ F=>?_
 refine JH S9.at' (fun lZ (k:Nat) aZ wZ=>∃ (oa:Option Addr)(on oc:Nat),Fr 33 [(5,nV k),(4,.slice oa on oc),(0,.string text)] aZ∧Mv lZ w9 [qB oa on oc (J3c text k)] wZ∧(k≤text.size)) (fun (k:Nat)=>text.size - k) (0) ?_ ?_
 ·exact ⟨(aO b9),0,0,F.cut rfl,(Mv.refl S9.at'),zO⟩
 rintro k a13 w13 ⟨oa,on,oc,F,S13,hk_0⟩
 have hbt:=J1B text k
 have hxl:=J8B text k
 refine zr fun _ F=>?_
 refine zc F (k < text.size) fun _ F=>?_
 refine zi F (fun h18=>?_) fun h18=>?_
 ·refine zr fun _ F=>?_
  refine J2Q (fun lZ aZ wZ=>∃ (b37:Nat)(A39:Option Addr)(N39 C39:Nat),Fr 33 [(0,.string text),(4,.slice A39 N39 C39),(5,nV k)] aZ∧Mv lZ w13 [qB A39 N39 C39 ((J3c text k)++([fig (((J5 text k) / 16:Nat):Int).toNat,fig (((J5 text k) % 16:Nat):Int).toNat]))] wZ) [] (.b2 [0,1,2,3,7,8,9] 4 (.b2 [5] 6 (.l [10,11,12,13,14,15]) 10 (.l [11,6,12,13,14,15])) 10 (.l [11,4,5,6,12,13,14,15])) S13.at' [] zK (fun w20 S20 hS=>en2 ?_) ?_
  ·refine zg fun _ F=>?_
   refine Jr F rfl rfl (fun _=>(J0Y (i:=k) underlying9 rfl (F.g rfl) (F.g rfl) zO yq)) fun _ F=>?_
   refine zg fun _ F=>?_
   refine Jr F rfl rfl (fun _=>(J0Y (i:=k) underlying9 rfl (F.g rfl) (F.g rfl) zO yq)) fun _ F=>?_
   refine J03 ?_ ?_
   ·refine Jh rfl (Jf F rfl rfl (J1a underlying3 underlying5 rfl (F.g rfl) ⟨zO,yBr⟩) rfl fun _ F=>?_)
    refine nS0 (en2 ?_)
    refine Jr F rfl rfl (fun _=>(J7u (c:=16) rfl (by decide) zO rfl (F.g rfl) rfl)) fun _ F=>?_
    refine J03 ?_ ?_
    ·refine Jh rfl (zzs F S20.at' (J2U (H:=fun _=>True) (x:=(((J5 text k) / 16:Nat):Int)) yg yb yb) ?_)
     rintro w30 S30 q30_0 _ F
     refine nS (Sd.of S30 [] rfl) fun hS=>enL ?_
     refine J2 rfl rfl (Jf F rfl rfl (J1a underlying3 underlying5 rfl (F.g rfl) ⟨zO,yBr⟩) rfl fun _ F=>?_)
     refine nS0 ?_
     have rm33:=Nat.mod_lt (J5 text k) (show 0 < 16 by decide)
     refine Jr F rfl rfl (fun _=>(J3D (c:=16) rfl (by decide) rfl (F.g rfl) rfl)) fun _ F=>?_
     refine J2 rfl rfl (zzs F S30.at' (J2U (H:=fun _=>True) (x:=(((J5 text k) % 16:Nat):Int)) yg yb yb) ?_)
     rintro w35 S35 q35_0 _ F
     refine nS (Sd.of (S30.trans S35) [] rfl) fun hS=>?_
     refine J2 rfl rfl (zb1 (ok:=okB) F S35.at' ([fig (((J5 text k) / 16:Nat):Int).toNat,fig (((J5 text k) % 16:Nat):Int).toNat]) ET_62 (fun x hx=>by (repeat (first|(rcases List.mem_cons.1 hx with hx|hx;(subst hx;first|exact (show fig (((J5 text k) / 16:Nat):Int).toNat < 256 by omega)|exact (show fig (((J5 text k) % 16:Nat):Int).toNat < 256 by omega)))|exact (List.not_mem_nil hx).elim))) fun b37 w37 _ S37 F=>?_)
     refine nS (Sd.of (tc3 S30 S35 S37) [] rfl) fun hS=>?_
     refine J2 rfl rfl (Jv (news:=[fig (((J5 text k) / 16:Nat):Int).toNat,fig (((J5 text k) % 16:Nat):Int).toNat]) F S37.at' 1 ET_62 rfl rfl rfl rfl rfl rfl (F.g rfl) (F.g rfl) ((At.rd S37.at' ET_62.hk 0 rfl)).1 (by ((repeat (first|rw [List.length_append]|rw [List.length_cons]|rw [List.length_nil]|rw [List.length_take]|rw [List.length_drop])) <;> omega)) fun A39 N39 C39 _ w39 F S39 l39=>?_)
     have S41:=At.drop S39.at' 1
     refine nS (Sd.of (tc5 S30 S35 S37 S39 S41) [] rfl) fun hS=>?_
     refine zg fun _ F=>?_
     exact ⟨b37,A39,N39,C39,F.cut rfl,((tc6 S20 S30 S35 S37 S39 S41).pick [0] rfl)⟩
    refine Jh rfl (Jf F rfl rfl (J1a underlying3 underlying5 rfl (F.g rfl) ⟨zO,yBr⟩) rfl fun _ F=>?_)
    refine nS0 (enL ?_)
    have rm44:=Nat.mod_lt (J5 text k) (show 0 < 16 by decide)
    refine Jr F rfl rfl (fun _=>(J3D (c:=16) rfl (by decide) rfl (F.g rfl) rfl)) fun _ F=>?_
    refine J2 rfl rfl (zzs F S20.at' (J2U (H:=fun _=>True) (x:=(((J5 text k) / 16:Nat):Int)) yg yb yb) ?_)
    rintro w46 S46 q46_0 _ F
    refine nS (Sd.of S46 [] rfl) fun hS=>?_
    refine J2 rfl rfl (zzs F S46.at' (J2U (H:=fun _=>True) (x:=(((J5 text k) % 16:Nat):Int)) yg yb yb) ?_)
    rintro w48 S48 q48_0 _ F
    refine nS (Sd.of (S46.trans S48) [] rfl) fun hS=>?_
    refine J2 rfl rfl (zb1 (ok:=okB) F S48.at' ([fig (((J5 text k) / 16:Nat):Int).toNat,fig (((J5 text k) % 16:Nat):Int).toNat]) ET_62 (fun x hx=>by (repeat (first|(rcases List.mem_cons.1 hx with hx|hx;(subst hx;first|exact (show fig (((J5 text k) / 16:Nat):Int).toNat < 256 by omega)|exact (show fig (((J5 text k) % 16:Nat):Int).toNat < 256 by omega)))|exact (List.not_mem_nil hx).elim))) fun b50 w50 _ S50 F=>?_)
    refine nS (Sd.of (tc3 S46 S48 S50) [] rfl) fun hS=>?_
    refine J2 rfl rfl (Jv (news:=[fig (((J5 text k) / 16:Nat):Int).toNat,fig (((J5 text k) % 16:Nat):Int).toNat]) F S50.at' 1 ET_62 rfl rfl rfl rfl rfl rfl (F.g rfl) (F.g rfl) ((At.rd S50.at' ET_62.hk 0 rfl)).1 (by ((repeat (first|rw [List.length_append]|rw [List.length_cons]|rw [List.length_nil]|rw [List.length_take]|rw [List.length_drop])) <;> omega)) fun A52 N52 C52 _ w52 F S52 l52=>?_)
    have S54:=At.drop S52.at' 1
    refine nS (Sd.of (tc5 S46 S48 S50 S52 S54) [] rfl) fun hS=>?_
    refine zg fun _ F=>?_
    exact ⟨b50,A52,N52,C52,F.cut rfl,((tc6 S20 S46 S48 S50 S52 S54).pick [0] rfl)⟩
   refine Jh rfl (Jf F rfl rfl (J1a underlying3 underlying5 rfl (F.g rfl) ⟨zO,yBr⟩) rfl fun _ F=>?_)
   refine nS0 (enL ?_)
   have rm57:=Nat.mod_lt (J5 text k) (show 0 < 16 by decide)
   refine Jr F rfl rfl (fun _=>(J3D (c:=16) rfl (by decide) rfl (F.g rfl) rfl)) fun _ F=>?_
   refine J2 rfl rfl (Jf F rfl rfl (J1a underlying3 underlying5 rfl (F.g rfl) ⟨zO,yBr⟩) rfl fun _ F=>?_)
   refine nS0 ?_
   refine Jr F rfl rfl (fun _=>(J7u (c:=16) rfl (by decide) zO rfl (F.g rfl) rfl)) fun _ F=>?_
   refine J2 rfl rfl (zzs F S20.at' (J2U (H:=fun _=>True) (x:=(((J5 text k) / 16:Nat):Int)) yg yb yb) ?_)
   rintro w61 S61 q61_0 _ F
   refine nS (Sd.of S61 [] rfl) fun hS=>?_
   refine J2 rfl rfl (zzs F S61.at' (J2U (H:=fun _=>True) (x:=(((J5 text k) % 16:Nat):Int)) yg yb yb) ?_)
   rintro w63 S63 q63_0 _ F
   refine nS (Sd.of (S61.trans S63) [] rfl) fun hS=>?_
   refine J2 rfl rfl (zb1 (ok:=okB) F S63.at' ([fig (((J5 text k) / 16:Nat):Int).toNat,fig (((J5 text k) % 16:Nat):Int).toNat]) ET_62 (fun x hx=>by (repeat (first|(rcases List.mem_cons.1 hx with hx|hx;(subst hx;first|exact (show fig (((J5 text k) / 16:Nat):Int).toNat < 256 by omega)|exact (show fig (((J5 text k) % 16:Nat):Int).toNat < 256 by omega)))|exact (List.not_mem_nil hx).elim))) fun b65 w65 _ S65 F=>?_)
   refine nS (Sd.of (tc3 S61 S63 S65) [] rfl) fun hS=>?_
   refine J2 rfl rfl (Jv (news:=[fig (((J5 text k) / 16:Nat):Int).toNat,fig (((J5 text k) % 16:Nat):Int).toNat]) F S65.at' 1 ET_62 rfl rfl rfl rfl rfl rfl (F.g rfl) (F.g rfl) ((At.rd S65.at' ET_62.hk 0 rfl)).1 (by ((repeat (first|rw [List.length_append]|rw [List.length_cons]|rw [List.length_nil]|rw [List.length_take]|rw [List.length_drop])) <;> omega)) fun A67 N67 C67 _ w67 F S67 l67=>?_)
   have S69:=At.drop S67.at' 1
   refine nS (Sd.of (tc5 S61 S63 S65 S67 S69) [] rfl) fun hS=>?_
   refine zg fun _ F=>?_
   exact ⟨b65,A67,N67,C67,F.cut rfl,((tc6 S20 S61 S63 S65 S67 S69).pick [0] rfl)⟩
  rintro a71 w71 ⟨b37,A39,N39,C39,F,S71⟩
  obtain ⟨Q1,Q2,Q3⟩:=At.ownInv S71.at' ET_62.hk 0 rfl
  refine zr fun _ F=>?_
  refine zq F ((k+1:Nat):Int) fun _ F=>?_
  exact ⟨k+1,zD,A39,N39,C39,F.cut rfl,(Mv.cast ((S13.trans S71).pick [0] rfl) (by (rfl);all_goals rfl)),zO⟩
 refine zr fun _ F=>?_
 refine zv F (J1r underlying62 underlying5 underlying9 ((At.rd S13.at' ET_62.hk 0 rfl)).1 rfl (F.g rfl)) fun _ F=>?_
 refine zd2 F ?_
 exact ⟨(zV1 (zVt (lc (zVs yCa) rfl))),(Mv.pick (S9.trans S13) [] rfl),(zOk yCa (J2o zO))⟩
theorem J8r {text:ByteArray} (Q1:okS text) (tab2:Tb 2 H w) (p0:text.size≤281474976710656) :
 Calls prog 141 #[.string text] w fun e w'=>e=.returned (.tuple #[.string (JK text),.bool (J0k text)])∧Mv [] w [] w'∧okS (JK text):=by
 have V_tab2:=Tb.start tab2 zN
 refine ze fun _ F=>?_
 refine zz F (Jcb (s:=text) Q1 V_tab2 yb) ?_
 rintro _ w4 ⟨ev_4,Q6,Q0,Q7,rfl,m4,q4_0,q4_1⟩
 refine zt fun _ F=>?_
 have S4:Mv _ _ [_] _:=At.frame (At.nil w) [] rfl m4
 obtain ⟨Q2,Q3,Q4⟩:=At.ownInv S4.at' ET_62.hk 0 rfl
 refine zv F (Jax underlying197 rfl (F.g rfl) rfl zA) fun _ F=>?_
 rcases Bool.eq_false_or_eq_true (J2v ev_4) with h14|h14
 ·rw [h14] at F
  refine zr fun _ F=>?_
  refine zd2 F ?_
  exact ⟨(zV1 (zVt (lc (zVs ys) (lc (zVb ys) rfl)))),(Mv.pick S4 [] rfl),((show bE_=(JK text) from by first|exact J09 (J3h zA zA)|exact J08 (J3h zA zA)|exact J09 (J3j zA zA)|exact J08 (J3j zA zA)|exact J09 (J3i zA)|exact J08 (J3i zA)|exact (J3k zA zA zA).1|exact (J3k zA zA zA).2) ▸ (by unfold okS;decide))⟩
 rw [h14] at F
 refine zr fun _ F=>?_
 refine zc F (Q0 > 20000) fun _ F=>?_
 rcases Decidable.em (Q0 > 20000) with h32|h32
 ·rw [decide_eq_true h32] at F
  refine zr fun _ F=>?_
  refine zd2 F ?_
  exact ⟨(zV1 (zVt (lc (zVs ys) (lc (zVb ys) rfl)))),(Mv.pick S4 [] rfl),((show bE_=(JK text) from by first|exact J09 (J3h zA zA)|exact J08 (J3h zA zA)|exact J09 (J3j zA zA)|exact J08 (J3j zA zA)|exact J09 (J3i zA)|exact J08 (J3i zA)|exact (J3k zA zA zA).1|exact (J3k zA zA zA).2) ▸ (by unfold okS;decide))⟩
 rw [decide_eq_false h32] at F
 refine zr fun _ F=>?_
 refine zzq F S4.at' (J80 (H:=fun _=>True) (l:=J1x text) (At.rd S4.at' ET_62.hk 0 rfl) yb) ?_
 rintro w41 S41 Q5 _ F
 refine zv F (J0O (b:=(decide ((Js (Je (J1x text)))≠text))) (.inr (.inl rfl)) rfl (F.g rfl) (F.g rfl) rfl) fun _ F=>?_
 refine zi F (fun h46=>?_) fun h46=>?_
 ·refine zr fun _ F=>?_
  refine zd2 F ?_
  exact ⟨(zV1 (zVt (lc (zVs ys) (lc (zVb ys) rfl)))),(Mv.pick (S4.trans S41) [] rfl),((show bE_=(JK text) from by first|exact J09 (J3h zA zA)|exact J08 (J3h zA zA)|exact J09 (J3j zA zA)|exact J08 (J3j zA zA)|exact J09 (J3i zA)|exact J08 (J3i zA)|exact (J3k zA zA zA).1|exact (J3k zA zA zA).2) ▸ (by unfold okS;decide))⟩
 refine zr fun _ F=>?_
 refine zv F (J1r underlying62 underlying5 underlying9 ((At.rd S41.at' ET_62.hk 0 rfl)).1 rfl (F.g rfl)) fun _ F=>?_
 refine zd2 F ?_
 exact ⟨(zV1 (zVt (lc (zVs ys) (lc (zVb ys) rfl)))),(Mv.pick (S4.trans S41) [] rfl),(zOk ys (J2o zO))⟩
theorem JdI {H:Nat→Prop} {text:ByteArray} (Q0:okS text) :
 Calls prog 135 #[.string text] w fun e w'=>e=.returned (.tuple #[.string (JK text),.bool (J0k text)])∧Mv [] w [] w'∧okS (JK text):=by
 refine ze fun _ F=>?_
 refine zc F (text.size > 40000) fun _ F=>?_
 rcases Decidable.em (text.size > 40000) with h7|h7
 ·rw [decide_eq_true h7] at F
  refine zr fun _ F=>?_
  refine zd2 F ?_
  exact ⟨(zV1 (zVt (lc (zVs yl) (lc (zVb yl) rfl)))),(Mv.pick (Mv.refl (At.nil w)) [] rfl),((show bE_=(JK text) from by first|exact J09 (J2k zA)|exact J08 (J2k zA)|exact J09 (J2l zA)|exact J08 (J2l zA)|exact J09 (J0Q (k:=2 * k) zO zA)|exact J08 (J0Q (k:=2 * k) zO zA)|exact J09 (J0Q (k:=2 * k+1) zO zA)|exact J08 (J0Q (k:=2 * k+1) zO zA)|exact (J2D (k:=k) hk_1 zA zO zO).1|exact (J2D (k:=k) hk_1 zA zO zO).2) ▸ (by unfold okS;decide))⟩
 rw [decide_eq_false h7] at F
 refine zr fun _ F=>?_
 have rm17:=Nat.mod_lt text.size (show 0 < 2 by decide)
 refine zv F (JhJ (c:=2) rfl (by decide) rfl (F.g rfl) rfl) fun _ F=>?_
 refine zc F (text.size % 2≠0) fun _ F=>?_
 refine zi F (fun h21=>?_) fun h21=>?_
 ·refine zr fun _ F=>?_
  refine zd2 F ?_
  exact ⟨(zV1 (zVt (lc (zVs yl) (lc (zVb yl) rfl)))),(Mv.pick (Mv.refl (At.nil w)) [] rfl),((show bE_=(JK text) from by first|exact J09 (J2k zA)|exact J08 (J2k zA)|exact J09 (J2l zA)|exact J08 (J2l zA)|exact J09 (J0Q (k:=2 * k) zO zA)|exact J08 (J0Q (k:=2 * k) zO zA)|exact J09 (J0Q (k:=2 * k+1) zO zA)|exact J08 (J0Q (k:=2 * k+1) zO zA)|exact (J2D (k:=k) hk_1 zA zO zO).1|exact (J2D (k:=k) hk_1 zA zO zO).2) ▸ (by unfold okS;decide))⟩
 refine zr fun _ F=>?_
 refine zbs (ok:=okB) F (At.nil w) (([]:List Nat)) ET_62 (by simp) fun b24 w24 S24 _ F=>?_
 refine JH S24.at' (fun lZ (k:Nat) aZ wZ=>∃ (D:List Nat)(oa:Option Addr)(on oc:Nat),Fr 49 [(5,iV ((2 * k:Nat):Int)),(4,.slice oa on oc),(0,.string text)] aZ∧Mv lZ w24 [qB oa on oc D] wZ∧(2 * k≤text.size)∧(unInv text k D)) (fun (k:Nat)=>text.size - 2 * k) (0) ?_ ?_
 ·exact ⟨([]:List Nat),(aO b24),0,0,F.cut rfl,(Mv.refl S24.at'),zO,unInv.start _⟩
 rintro k a28 w28 ⟨D,oa,on,oc,F,S28,hk_0,hk_1⟩
 have hDl:=hk_1.1
 have hb1:=J1B text (2 * k)
 have hb2:=J1B text (2 * k+1)
 refine zr fun _ F=>?_
 refine zc F (2 * k < text.size) fun _ F=>?_
 refine zi F (fun h33=>?_) fun h33=>?_
 ·refine zr fun _ F=>?_
  refine zv F (J0Y (i:=2 * k) underlying9 rfl (F.g rfl) (F.g rfl) zO yq) fun _ F=>?_
  refine zzq F S28.at' (J87 (H:=fun _=>True) (x:=J5 text (2 * k)) zO) ?_
  rintro w37 S37 ⟨q37_0,q37_1⟩ _ F
  refine zq F (((2 * k)+1:Nat):Int) fun _ F=>?_
  refine zv F (J0Y (i:=(2 * k)+1) underlying9 rfl (F.g rfl) (F.g rfl) zO yq) fun _ F=>?_
  refine zzq F S37.at' (J87 (H:=fun _=>True) (x:=J5 text ((2 * k)+1)) zO) ?_
  rintro w44 S44 ⟨q44_0,q44_1⟩ _ F
  have T47:Mv _ _ [_] _:=S44
  refine zc F ((Jy (J5 text (2 * k))) < 0) fun _ F=>?_
  rcases Decidable.em ((Jy (J5 text (2 * k))) < 0) with h51|h51
  ·rw [decide_eq_true h51] at F
   refine zr fun _ F=>?_
   refine zd2 F ?_
   exact ⟨(zV1 (zVt (lc (zVs yl) (lc (zVb yl) rfl)))),(Mv.pick (tc4 S24 S28 S37 T47) [] rfl),((show bE_=(JK text) from by first|exact J09 (J2k zA)|exact J08 (J2k zA)|exact J09 (J2l zA)|exact J08 (J2l zA)|exact J09 (J0Q (k:=2 * k) zO zA)|exact J08 (J0Q (k:=2 * k) zO zA)|exact J09 (J0Q (k:=2 * k+1) zO zA)|exact J08 (J0Q (k:=2 * k+1) zO zA)|exact (J2D (k:=k) hk_1 zA zO zO).1|exact (J2D (k:=k) hk_1 zA zO zO).2) ▸ (by unfold okS;decide))⟩
  rw [decide_eq_false h51] at F
  refine zr fun _ F=>?_
  refine zc F ((Jy (J5 text ((2 * k)+1))) < 0) fun _ F=>?_
  refine zi F (fun h60=>?_) fun h60=>?_
  ·refine zr fun _ F=>?_
   refine zd2 F ?_
   exact ⟨(zV1 (zVt (lc (zVs yl) (lc (zVb yl) rfl)))),(Mv.pick (tc4 S24 S28 S37 T47) [] rfl),((show bE_=(JK text) from by first|exact J09 (J2k zA)|exact J08 (J2k zA)|exact J09 (J2l zA)|exact J08 (J2l zA)|exact J09 (J0Q (k:=2 * k) zO zA)|exact J08 (J0Q (k:=2 * k) zO zA)|exact J09 (J0Q (k:=2 * k+1) zO zA)|exact J08 (J0Q (k:=2 * k+1) zO zA)|exact (J2D (k:=k) hk_1 zA zO zO).1|exact (J2D (k:=k) hk_1 zA zO zO).2) ▸ (by unfold okS;decide))⟩
  refine zr fun _ F=>?_
  refine zq F (16 * (Jy (J5 text (2 * k)))) fun _ F=>?_
  refine zq F ((16 * (Jy (J5 text (2 * k))))+(Jy (J5 text ((2 * k)+1)))) fun _ F=>?_
  refine zv F (J4z underlying5 underlying3 rfl ((F.ev 43 rfl).trans (congrArg _ (show (16 * (Jy (J5 text (2 * k))))+(Jy (J5 text ((2 * k)+1)))=((((16 * (Jy (J5 text (2 * k))))+(Jy (J5 text ((2 * k)+1)))).toNat:Nat):Int) by omega))) zO) fun _ F=>?_
  refine zbs (ok:=okB) F T47.at' ([((16 * (Jy (J5 text (2 * k))))+(Jy (J5 text ((2 * k)+1)))).toNat]) ET_62 (fun x hx=>(List.mem_singleton.1 hx) ▸ (show ((16 * (Jy (J5 text (2 * k))))+(Jy (J5 text ((2 * k)+1)))).toNat < 256 by omega)) fun b69 w69 S69 _ F=>?_
  refine J0 (Jv (news:=[((16 * (Jy (J5 text (2 * k))))+(Jy (J5 text ((2 * k)+1)))).toNat]) F S69.at' 1 ET_62 rfl rfl rfl rfl rfl rfl (F.g rfl) (F.g rfl) ((At.rd S69.at' ET_62.hk 0 rfl)).1 (by ((repeat (first|rw [List.length_append]|rw [List.length_cons]|rw [List.length_nil]|rw [List.length_take]|rw [List.length_drop])) <;> omega)) fun A71 N71 C71 _ w71 F S71 l71=>?_)
  have S73:=At.drop S71.at' 1
  refine zr fun _ F=>?_
  refine zq F (((2 * k)+2:Nat):Int) fun _ F=>?_
  exact ⟨k+1,zD,D++([((16 * (Jy (J5 text (2 * k))))+(Jy (J5 text ((2 * k)+1)))).toNat]),A71,N71,C71,F.cut rfl,((tc6 S28 S37 T47 S69 S71 S73).pick [0] rfl),zO,by exact unInv.step2 hk_1 zO zA zA⟩
 refine zr fun _ F=>?_
 refine zv F (J1r underlying62 underlying5 underlying9 ((At.rd S28.at' ET_62.hk 0 rfl)).1 rfl (F.g rfl)) fun _ F=>?_
 refine zd2 F ?_
 exact ⟨(zV1 (zVt (lc (zVs yl) (lc (zVb yl) rfl)))),(Mv.pick (S24.trans S28) [] rfl),(zOk yl (J2o zO))⟩
theorem Jc5 {H:Nat→Prop} {s:ByteArray} {pfx:ByteArray} (h_s:okS s) (Q0:okS pfx) :
 Calls prog 384 #[.string s,.string pfx] w fun e w'=>e=.returned (.tuple #[.string (J2r s pfx),.bool (J0h s pfx)])∧Mv [] w [] w'∧okS (J2r s pfx):=by
 refine ze fun _ F=>?_
 refine zzp F (At.nil w) (J7Z (H:=fun _=>True) (s:=s) (pfx:=pfx) h_s Q0) fun w5 S5 _ F=>?_
 refine zv F (J0q rfl (F.g rfl)) fun _ F=>?_
 refine zib F (fun h8=>?_) fun h8=>?_
 ·refine zr fun _ F=>?_
  refine zd2 F ?_
  exact ⟨(zV1 (zVt (lc (zVs yBk) (lc (zVb yBk) rfl)))),(Mv.pick S5 [] rfl),(zOk yBk h_s)⟩
 refine zr fun _ F=>?_
 have hle:=J2E (nf zA)
 refine zv F (J2p (l:=pfx.size) (h:=s.size) underlying9 rfl (F.g rfl) (F.g rfl) rfl yq yq rfl) fun _ F=>?_
 refine zd2 F ?_
 exact ⟨(zV1 (zVt (lc (zVs yBk) (lc (zVb yBk) rfl)))),(Mv.pick S5 [] rfl),(zOk yBk (Jav h_s))⟩
theorem Jcj {H:Nat→Prop} {s:ByteArray} {pfx:ByteArray} (h_s:okS s) (Q0:okS pfx) :
 Calls prog 378 #[.string s,.string pfx] w fun e w'=>e=.returned (.tuple #[.string (J2r s pfx),.bool (J0h s pfx)])∧Mv [] w [] w'∧okS (J2r s pfx):=by
 refine ze fun _ F=>?_
 refine zzq F (At.nil w) (Jc5 (H:=fun _=>True) (s:=s) (pfx:=pfx) h_s Q0) ?_
 rintro w5 S5 Q1 _ F
 refine zd2 F ?_
 exact ⟨rfl,(Mv.pick S5 [] rfl),Q1⟩
theorem JcB {val:ByteArray} (Q0:okS val) (tab2:Tb 2 H w) (p0:val.size≤281474976710656) :
 Calls prog 364 #[.string val] w fun e w'=>e=.returned (.string (J39 val))∧Mv [] w [] w'∧okS (J39 val):=by
 have V_tab2:=Tb.start tab2 zN
 refine ze fun _ F=>?_
 refine zzq F (At.nil w) (Jcj (H:=fun _=>True) (s:=val) (pfx:=(bA [45])) Q0 (by unfold okS;decide)) ?_
 rintro w3 S3 Q2 _ F
 refine zv F (J0q rfl (F.g rfl)) fun _ F=>?_
 refine zib F (fun h12=>?_) fun h12=>?_
 ·refine zr fun _ F=>?_
  refine zd1 F ?_
  exact ⟨(zV1 (zVs yBd)),(Mv.pick S3 [] rfl),((show bE_=(J39 val) from by first|exact Jbm (nf zA)|exact J4c (nt zA)|exact J4O zA|exact J4c zA|exact J4O (nf zA)|exact J4c (nt zA)|exact msg_a zA zA|exact msg_b zA|exact msg_c zA) ▸ (by unfold okS;decide))⟩
 refine zr fun _ F=>?_
 refine zzq F S3.at' (J8r (text:=J2r val (bA [45])) Q2 (Tb.mv V_tab2 S3) (by exact Nat.le_trans (JdN ..) zA)) ?_
 rintro w15 S15 Q1 _ F
 refine zd1 F ?_
 exact ⟨(zV1 (zVs yBd)),(Mv.pick (S3.trans S15) [] rfl),(zOk yBd Q1)⟩
end
set_option maxRecDepth 100000
set_option maxHeartbeats 1000000
def nb (n:Nat):Bool:=decide ((97≤n∧n≤122)∨(48≤n∧n≤57)∨n=46∨n=45)
theorem J4d (n:Nat):nb n=(inB n 97 122 || inB n 48 57 || decide (n=46) || decide (n=45)):=by
 unfold nb inB
 rw [Bool.eq_iff_iff]
 simp only [Bool.or_eq_true,decide_eq_true_eq]
 omega
def J14 (key:ByteArray):Bool:=(List.range key.size).all (fun j=>nb (J5 key j)) && inB key.size 1 12
theorem J6y {key:ByteArray} {j:Nat} (hj:j < key.size) (h:nb (J5 key j)=false):J14 key=false:=by
 have:(List.range key.size).all (fun j=>nb (J5 key j))=false:=by
  rw [List.all_eq_false]
  exact ⟨j,List.mem_range.2 hj,by simp [h]⟩
 simp [J14,this]
theorem J6x {key:ByteArray} (h:∀ j,j < key.size→nb (J5 key j)=true):J14 key=inB key.size 1 12:=by
 have:(List.range key.size).all (fun j=>nb (J5 key j))=true:=by
  rw [List.all_eq_true]
  exact fun j hj=>h j (List.mem_range.1 hj)
 simp [J14,this]
theorem J1m {key:ByteArray} (h:J14 key=true):key.size≤12:=by
 unfold J14 at h
 rw [Bool.and_eq_true] at h
 have:=J0K h.2
 omega
end Go.Proofs.YtipdbeklopjbmaaGreatDoor
