/-
  Walks: numbers are read.
-/
import Derived.Test.YtipdbeklopjbmaaGreatDoorP12
set_option linter.unusedVariables false
set_option linter.unusedSimpArgs false
namespace Go.Proofs.YtipdbeklopjbmaaGreatDoor
open Go.ChangeShapes Go.WideShapes Go.ChangeAt Go.RowKit Go.Proofs.Tryz
variable {w:World} {H:Nat→Prop}
set_option maxRecDepth 100000
set_option maxHeartbeats 1000000
theorem rz {s:ByteArray} (h:J0f s=0∧J0v s=false):(0:Int)=((J0f s:Nat):Int):=by rw [h.1];rfl
theorem rzB {s:ByteArray} (h:J0f s=0∧J0v s=false):false=J0v s:=h.2.symm
theorem JbV {s:ByteArray} {r:Int} {ev:Value} (q:atoiR s r ev) (h:J2v ev=true):J0f s=0∧J0v s=false:=by
 rcases q with ⟨_,rfl⟩|⟨h1,_⟩
 ·exact absurd h (by decide)
 exact JfS h1
theorem atoiR.okR {s:ByteArray} {r:Int} {ev:Value} (q:atoiR s r ev) (h:J2v ev=false):Lib.atoiAll s.data.toList=.ok r:=by
 rcases q with ⟨h1,_⟩|⟨_,h2⟩
 ·exact h1
 rw [h] at h2;cases h2
theorem JbW {s:ByteArray} {r:Int} {ev:Value} (q:atoiR s r ev) (h:J2v ev=false) (hr:(!inB r 0 1000000000)=true):J0f s=0∧J0v s=false:=
 J9Z (q.okR h) (.inl fun e=>by
  have:=nt hr
  unfold inB at this
  exact of_decide_eq_false this e)
theorem JbX {s:ByteArray} {r:Int} {ev:Value} (q:atoiR s r ev) (h:J2v ev=false) (hd:Jj r≠s):J0f s=0∧J0v s=false:=J9Z (q.okR h) (.inr hd)
theorem JbY {s:ByteArray} {r:Int} (hr:(!inB r 0 1000000000)=false) (hd:¬ Jj r≠s):(J0f s:Int)=r∧J0v s=true:=
 JgJ (by have:=nf hr;unfold inB at this;exact of_decide_eq_true this) (Classical.not_not.1 hd)
theorem Jfk (s:ByteArray) (k:Nat):J0r s (k+1)=10 * J0r s k+(J5 s k - 48):=rfl
theorem J7i {s:ByteArray} {k:Nat} (h:¬ k < s.size) (hk:k≤s.size):k=s.size:=by omega
theorem JbZ {s:ByteArray} {k:Nat} (h:¬ k < s.size) (hk:k≤s.size) (hv:J0r s k > 1000000000):J0f s=0∧J0v s=false:=by
 have e:=J7i h hk
 subst e
 exact Ja0 (.inl (Nat.not_le_of_gt hv))
theorem Jc0 {s:ByteArray} {k:Nat} (h:¬ k < s.size) (hk:k≤s.size) (hv:Jj ((J0r s k:Nat):Int)≠s):J0f s=0∧J0v s=false:=by
 have e:=J7i h hk
 subst e
 exact Ja0 (.inr hv)
theorem Jc1 {s:ByteArray} {k:Nat} (h:¬ k < s.size) (hk:k≤s.size) (hv:¬ J0r s k > 1000000000) (hd:¬ Jj ((J0r s k:Nat):Int)≠s):J0f s=J0r s k∧J0v s=true:=by
 have e:=J7i h hk
 subst e
 exact Ja1 (Nat.le_of_not_gt hv) (Classical.not_not.1 hd)
theorem numZ {v:ByteArray} {n:Nat} (h:n=JS v):((n:Nat):Int)=((JS v:Nat):Int):=by rw [h]
theorem Jbo {v:ByteArray} (h:0=JS v):(0:Int)=((JS v:Nat):Int):=by rw [← h];rfl
theorem Jiq {a b:Nat} (h:a=b):((b:Nat):Int)=((a:Nat):Int):=by rw [h]
theorem Jd4 {s:ByteArray} (h_s:okS s) (tab1:Tb 1 H w) (p0:s.size≤281474976710656) :
 Calls prog 172 #[.string s] w fun e w'=>∃ (r:Int)(ev:Value),e=.returned (.tuple #[iV r,ev])∧Mv [] w [] w'∧J1 r∧J2y ev∧atoiR s r ev:=by
 obtain ⟨⟨es,hs,es2⟩,⟨er,hr,er2⟩⟩:=tab1.1
 cases h:Lib.atoiAll s.data.toList
 ·rename_i v
  refine (Any.strconv_Atoi_ok J6N s zO v h w).mono ?_
  rintro e w' ⟨rfl,hw⟩
  have hb:=Lib.atoiAll_bounds h
  refine ⟨v,.nilIface,rfl,J32 ?_,⟨zO,zO⟩,.inl rfl,.inl ⟨h,rfl⟩⟩
  rcases hw with rfl|⟨t,rfl⟩
  ·exact Below.refl _ _
  exact Lib.bytesWorld_below _ _ _
 ·refine (Any.strconv_Atoi_syntax J6N s p0 h es w hs es2).mono ?_
  rintro e w' ⟨n,rfl,h1,h2,h3⟩
  exact ⟨0,_,rfl,J32 h3,⟨zO,zO⟩,.inr ⟨_,_,rfl⟩,.inr ⟨(fun v e=>by rw [h] at e;cases e),rfl⟩⟩
 refine (Any.strconv_Atoi_range J6N s p0 h er w hr er2).mono ?_
 rintro e w' ⟨n,rfl,h1,h2,h3⟩
 have hb:=Lib.atoiSat_bounds s.data.toList
 exact ⟨_,_,rfl,J32 h3,⟨zO,zO⟩,.inr ⟨_,_,rfl⟩,.inr ⟨(fun v e=>by rw [h] at e;cases e),rfl⟩⟩
theorem Jcm {text:ByteArray} (Q0:okS text) (tab0:Tb 0 H w) (tab1:Tb 1 H w) (p0:text.size≤281474976710656) :
 Calls prog 139 #[.string text] w fun e w'=>e=.returned (.tuple #[iV ((J0f text:Nat):Int),.bool (J0v text)])∧Mv [] w [] w':=by
 have V_tab0:=Tb.start tab0 zN
 have V_tab1:=Tb.start tab1 zN
 refine ze fun _ F=>?_
 refine zz F (Jd4 (s:=text) Q0 V_tab1 yb) ?_
 rintro _ w4 ⟨r_4,ev_4,rfl,m4,q4_0,q4_1,q4_2⟩
 refine zt fun _ F=>?_
 have S4:=At.frame0 (At.nil w) m4
 refine zv F (Jax underlying197 rfl (F.g rfl) rfl zA) fun _ F=>?_
 rcases Bool.eq_false_or_eq_true (J2v ev_4) with h14|h14
 ·rw [h14] at F
  refine zr fun _ F=>?_
  refine zd2 F ?_
  exact ⟨(zV1 (zVt (lc (zVi yt) (lc (zVb yt) rfl)))),(Mv.pick S4 [] rfl)⟩
 rw [h14] at F
 refine zr fun _ F=>?_
 refine zzp F S4.at' (J3M (H:=fun _=>True) (n:=r_4) (low:=0) (high:=1000000000) yg yg yg) fun w28 S28 _ F=>?_
 refine zv F (J0q rfl (F.g rfl)) fun _ F=>?_
 rcases Bool.eq_false_or_eq_true (!(inB r_4 0 1000000000)) with h33|h33
 ·rw [h33] at F
  refine zr fun _ F=>?_
  refine zd2 F ?_
  exact ⟨(zV1 (zVt (lc (zVi yt) (lc (zVb yt) rfl)))),(Mv.pick (S4.trans S28) [] rfl)⟩
 rw [h33] at F
 refine zr fun _ F=>?_
 refine zzq F S28.at' (J4j (n:=r_4) yg (Tb.mv V_tab0 (S4.trans S28))) ?_
 rintro w42 S42 Q1 _ F
 refine zv F (J0O (b:=(decide ((Jj r_4)≠text))) (.inr (.inl rfl)) rfl (F.g rfl) (F.g rfl) rfl) fun _ F=>?_
 refine zi F (fun h47=>?_) fun h47=>?_
 ·refine zr fun _ F=>?_
  refine zd2 F ?_
  exact ⟨(zV1 (zVt (lc (zVi yt) (lc (zVb yt) rfl)))),(Mv.pick (tc3 S4 S28 S42) [] rfl)⟩
 refine zr fun _ F=>?_
 refine zd2 F ?_
 exact ⟨(zV1 (zVt (lc (zVi yt) (lc (zVb yt) rfl)))),(Mv.pick (tc3 S4 S28 S42) [] rfl)⟩
theorem Jco {H:Nat→Prop} {text:ByteArray} (Q0:okS text) :
 Calls prog 134 #[.string text] w fun e w'=>e=.returned (.tuple #[iV ((J0f text:Nat):Int),.bool (J0v text)])∧Mv [] w [] w':=by
 refine ze fun _ F=>?_
 refine zc F (text.size > 10) fun _ F=>?_
 refine zi F (fun h6=>?_) fun h6=>?_
 ·refine zr fun _ F=>?_
  refine zd2 F ?_
  exact ⟨(zV1 (zVt (lc (zVi yo) (lc (zVb yo) rfl)))),(Mv.pick (Mv.refl (At.nil w)) [] rfl)⟩
 refine zr fun _ F=>?_
 refine JH (At.nil w) (fun lZ (k:Nat) aZ wZ=>Fr 42 [(5,nV k),(4,iV ((J0r text k:Nat):Int)),(0,.string text)] aZ∧Mv lZ w [] wZ∧(k≤text.size)∧(∀ j,j < k→48≤J5 text j∧J5 text j≤57)) (fun (k:Nat)=>text.size - k) (0) ?_ ?_
 ·exact ⟨F.cut rfl,(Mv.refl (At.nil w)),zO,J2m⟩
 rintro k a11 w11 ⟨F,S11,hk_0,hk_1⟩
 have hv10:=JgW (s:=text) (k:=k) hk_1 zO
 refine zr fun _ F=>?_
 refine zc F (k < text.size) fun _ F=>?_
 refine zi F (fun h16=>?_) fun h16=>?_
 ·refine zr fun _ F=>?_
  refine zv F (J0Y (i:=k) underlying9 rfl (F.g rfl) (F.g rfl) zO yq) fun _ F=>?_
  refine zc F (J5 text k < 48) fun _ F=>?_
  rcases Decidable.em (J5 text k < 48) with h22|h22
  ·rw [decide_eq_true h22] at F
   refine zr fun _ F=>?_
   refine zd2 F ?_
   exact ⟨(zV1 (zVt (lc (zVi yo) (lc (zVb yo) rfl)))),(Mv.pick S11 [] rfl)⟩
  rw [decide_eq_false h22] at F
  refine zr fun _ F=>?_
  refine zv F (J0Y (i:=k) underlying9 rfl (F.g rfl) (F.g rfl) zO yq) fun _ F=>?_
  refine zc F (J5 text k > 57) fun _ F=>?_
  refine zi F (fun h35=>?_) fun h35=>?_
  ·refine zr fun _ F=>?_
   refine zd2 F ?_
   exact ⟨(zV1 (zVt (lc (zVi yo) (lc (zVb yo) rfl)))),(Mv.pick S11 [] rfl)⟩
  refine zr fun _ F=>?_
  have hvs:=Jfk text k
  have hv11:=J1B text k
  refine zq F ((10 * (J0r text k):Nat):Int) fun _ F=>?_
  refine zv F (J0Y (i:=k) underlying9 rfl (F.g rfl) (F.g rfl) zO yq) fun _ F=>?_
  refine zv F (J1a underlying3 underlying5 rfl (F.g rfl) ⟨zO,yBr⟩) fun _ F=>?_
  refine zq F (((10 * (J0r text k))+(J5 text k):Nat):Int) fun _ F=>?_
  refine zq F ((J0r text (k+1):Nat):Int) fun _ F=>?_
  refine zq F ((k+1:Nat):Int) fun _ F=>?_
  exact ⟨k+1,zD,F.cut rfl,(S11.pick [] rfl),zO,J0F hk_1 ⟨zO,zO⟩⟩
 refine zr fun _ F=>?_
 refine zc F (J0r text k > 1000000000) fun _ F=>?_
 rcases Decidable.em (J0r text k > 1000000000) with h53|h53
 ·rw [decide_eq_true h53] at F
  refine zr fun _ F=>?_
  refine zd2 F ?_
  exact ⟨(zV1 (zVt (lc (zVi yo) (lc (zVb yo) rfl)))),(Mv.pick S11 [] rfl)⟩
 rw [decide_eq_false h53] at F
 refine zr fun _ F=>?_
 refine zzq F S11.at' (J2W (H:=fun _=>True) (n:=((J0r text k:Nat):Int)) yg) ?_
 rintro w62 S62 Q1 _ F
 refine zv F (J0O (b:=(decide ((Jj ((J0r text k:Nat):Int))≠text))) (.inr (.inl rfl)) rfl (F.g rfl) (F.g rfl) rfl) fun _ F=>?_
 refine zi F (fun h67=>?_) fun h67=>?_
 ·refine zr fun _ F=>?_
  refine zd2 F ?_
  exact ⟨(zV1 (zVt (lc (zVi yo) (lc (zVb yo) rfl)))),(Mv.pick (S11.trans S62) [] rfl)⟩
 refine zr fun _ F=>?_
 refine zd2 F ?_
 exact ⟨(zV1 (zVt (lc (zVi yo) (lc (zVb yo) rfl)))),(Mv.pick (S11.trans S62) [] rfl)⟩
theorem Jdy {val:ByteArray} (Q0:okS val) (tab0:Tb 0 H w) (tab1:Tb 1 H w) (p0:val.size≤281474976710656) :
 Calls prog 337 #[.string val] w fun e w'=>e=.returned (iV ((JS val:Nat):Int))∧Mv [] w [] w':=by
 have V_tab0:=Tb.start tab0 zN
 have V_tab1:=Tb.start tab1 zN
 refine ze fun _ F=>?_
 refine zzp F (At.nil w) (Jcm (text:=val) Q0 V_tab0 V_tab1 yb) fun w3 S3 _ F=>?_
 refine zc F (J0f val > 999) fun _ F=>?_
 refine zi F (fun h12=>?_) fun h12=>?_
 ·refine zr fun _ F=>?_
  refine zd1 F ?_
  exact ⟨(zV1 (zVi yBq)),(Mv.pick S3 [] rfl)⟩
 refine zr fun _ F=>?_
 refine zd1 F ?_
 exact ⟨(zV1 (zVi yBq)),(Mv.pick S3 [] rfl)⟩
theorem JdG {H:Nat→Prop} {val:ByteArray} (Q0:okS val) :
 Calls prog 297 #[.string val] w fun e w'=>e=.returned (iV ((JS val:Nat):Int))∧Mv [] w [] w':=by
 refine ze fun _ F=>?_
 refine zzp F (At.nil w) (Jco (H:=fun _=>True) (text:=val) Q0) fun w3 S3 _ F=>?_
 refine zv F (J0q rfl (F.g rfl)) fun _ F=>?_
 rcases Bool.eq_false_or_eq_true (!(J0v val)) with h13|h13
 ·rw [h13] at F
  refine zr fun _ F=>?_
  refine zd1 F ?_
  exact ⟨(zV1 (zVi yBq)),(Mv.pick S3 [] rfl)⟩
 rw [h13] at F
 refine zr fun _ F=>?_
 refine zc F (J0f val > 999) fun _ F=>?_
 refine zi F (fun h21=>?_) fun h21=>?_
 ·refine zr fun _ F=>?_
  refine zd1 F ?_
  exact ⟨(zV1 (zVi yBq)),(Mv.pick S3 [] rfl)⟩
 refine zr fun _ F=>?_
 refine zd1 F ?_
 exact ⟨(zV1 (zVi yBq)),(Mv.pick S3 [] rfl)⟩
end Go.Proofs.YtipdbeklopjbmaaGreatDoor
