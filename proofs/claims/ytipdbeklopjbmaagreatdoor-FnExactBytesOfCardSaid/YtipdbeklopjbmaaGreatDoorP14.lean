/-
  Texts laid together: GenSg, FactsK, MC.
-/
import Derived.Test.YtipdbeklopjbmaaGreatDoorP13
import Derived.Test.YtipdbeklopjbmaaGreatDoorP09
import Derived.Test.YtipdbeklopjbmaaGreatDoorFacts
import Derived.Test.YtipdbeklopjbmaaGreatDoorMB
import Derived.Test.YtipdbeklopjbmaaGreatDoorP12
import Derived.Test.YtipdbeklopjbmaaGreatDoorGenH
set_option linter.unusedVariables false
set_option linter.unusedSimpArgs false
namespace Go.Proofs.YtipdbeklopjbmaaGreatDoor
open Go.ChangeShapes Go.WideShapes Go.ChangeAt Go.RowKit
set_option maxRecDepth 100000
set_option maxHeartbeats 1000000
theorem impl_NameOk_c {w:World} {H:Nat→Prop} {key:ByteArray} (Q0:okS key) :
 Calls Tryz.prog 318 #[.string key] w fun e w'=>e=.returned (.bool (nameOk key))∧Mv [] w [] w':=by
 have kz:=Q0
 unfold okS at kz
 refine ze fun _ F=>?_
 refine x_lp (fun (k:Nat) aZ wZ=>Fr 41 [(7,.int .i64 ((k:Nat):Int)),(6,.int .i64 ((key.size:Nat):Int)),(0,.string key)] aZ∧Mv [] w [] wZ∧(k≤key.size)∧(∀ j,j < k→nb (byteAt key j)=true)) (fun (k:Nat)=>key.size - k) (0) ?_ ?_
 ·exact ⟨F.cut rfl,(Mv.refl (At.nil w)),by omega,all_none⟩
 ·rintro k a5 w5 ⟨F,S5,hk_0,hk_1⟩
  refine zr fun _ F=>?_
  refine zc F (k < key.size) fun _ F=>?_
  refine zi F (fun h7=>?_) fun h7=>?_
  ·refine zr fun _ F=>?_
   refine zv F (r_indexS (i:=k) Tryz.underlying9 rfl (F.g rfl) (F.g rfl) (by omega) zIa) fun _ F=>?_
   refine zc F (byteAt key k ≥ 97) fun _ F=>?_
   rcases Decidable.em (byteAt key k ≥ 97) with h17|h17
   ·rw [decide_eq_true h17] at F
    refine zr fun _ F=>?_
    refine zc F (byteAt key k≤122) fun _ F=>?_
    refine zv F (r_notD rfl (F.g rfl)) fun _ F=>?_
    rcases Decidable.em (¬ (byteAt key k≤122)) with h23|h23
    ·rw [decide_eq_true h23] at F
     refine zr fun _ F=>?_
     refine zc F (byteAt key k ≥ 48) fun _ F=>?_
     rcases Decidable.em (byteAt key k ≥ 48) with h27|h27
     ·rw [decide_eq_true h27] at F
      refine zr fun _ F=>?_
      refine zc F (byteAt key k≤57) fun _ F=>?_
      refine zv F (r_notD rfl (F.g rfl)) fun _ F=>?_
      rcases Decidable.em (¬ (byteAt key k≤57)) with h34|h34
      ·rw [decide_eq_true h34] at F
       refine zr fun _ F=>?_
       refine zc F (byteAt key k≠46) fun _ F=>?_
       rcases Decidable.em (byteAt key k≠46) with h39|h39
       ·rw [decide_eq_true h39] at F
        refine zr fun _ F=>?_
        refine zc F (byteAt key k≠45) fun _ F=>?_
        refine zi F (fun h43=>?_) fun h43=>?_
        ·refine zr fun _ F=>?_
         refine x_done F (results_1 rfl (zta F)) ?_
         exact ⟨(zV1 (zVb (by first|exact (nameOk_bad (j:=k) (by omega) (by unfold nb;exact decide_eq_false (by omega))).symm|exact (nameOk_all (fun j hj=>hk_1 j (by omega))).symm))),(Mv.pick S5 [] rfl)⟩
        ·refine zr fun _ F=>?_
         refine zq F ((k+1:Nat):Int) fun _ F=>?_
         exact ⟨k+1,zD,F.cut rfl,(S5.pick [] rfl),by omega,all_step hk_1 (by unfold nb;exact decide_eq_true (by omega))⟩
       ·rw [decide_eq_false h39] at F
        refine zr fun _ F=>?_
        refine zq F ((k+1:Nat):Int) fun _ F=>?_
        exact ⟨k+1,zD,F.cut rfl,(S5.pick [] rfl),by omega,all_step hk_1 (by unfold nb;exact decide_eq_true (by omega))⟩
      ·rw [decide_eq_false h34] at F
       refine zr fun _ F=>?_
       refine zq F ((k+1:Nat):Int) fun _ F=>?_
       exact ⟨k+1,zD,F.cut rfl,(S5.pick [] rfl),by omega,all_step hk_1 (by unfold nb;exact decide_eq_true (by omega))⟩
     ·rw [decide_eq_false h27] at F
      refine zr fun _ F=>?_
      refine zv F (r_not rfl (F.g rfl)) fun _ F=>?_
      refine zc F (byteAt key k≠46) fun _ F=>?_
      rcases Decidable.em (byteAt key k≠46) with h71|h71
      ·rw [decide_eq_true h71] at F
       refine zr fun _ F=>?_
       refine zc F (byteAt key k≠45) fun _ F=>?_
       refine zi F (fun h75=>?_) fun h75=>?_
       ·refine zr fun _ F=>?_
        refine x_done F (results_1 rfl (zta F)) ?_
        exact ⟨(zV1 (zVb (by first|exact (nameOk_bad (j:=k) (by omega) (by unfold nb;exact decide_eq_false (by omega))).symm|exact (nameOk_all (fun j hj=>hk_1 j (by omega))).symm))),(Mv.pick S5 [] rfl)⟩
       ·refine zr fun _ F=>?_
        refine zq F ((k+1:Nat):Int) fun _ F=>?_
        exact ⟨k+1,zD,F.cut rfl,(S5.pick [] rfl),by omega,all_step hk_1 (by unfold nb;exact decide_eq_true (by omega))⟩
      ·rw [decide_eq_false h71] at F
       refine zr fun _ F=>?_
       refine zq F ((k+1:Nat):Int) fun _ F=>?_
       exact ⟨k+1,zD,F.cut rfl,(S5.pick [] rfl),by omega,all_step hk_1 (by unfold nb;exact decide_eq_true (by omega))⟩
    ·rw [decide_eq_false h23] at F
     refine zr fun _ F=>?_
     refine zq F ((k+1:Nat):Int) fun _ F=>?_
     exact ⟨k+1,zD,F.cut rfl,(S5.pick [] rfl),by omega,all_step hk_1 (by unfold nb;exact decide_eq_true (by omega))⟩
   ·rw [decide_eq_false h17] at F
    refine zr fun _ F=>?_
    refine zv F (r_not rfl (F.g rfl)) fun _ F=>?_
    refine zc F (byteAt key k ≥ 48) fun _ F=>?_
    rcases Decidable.em (byteAt key k ≥ 48) with h110|h110
    ·rw [decide_eq_true h110] at F
     refine zr fun _ F=>?_
     refine zc F (byteAt key k≤57) fun _ F=>?_
     refine zv F (r_notD rfl (F.g rfl)) fun _ F=>?_
     rcases Decidable.em (¬ (byteAt key k≤57)) with h117|h117
     ·rw [decide_eq_true h117] at F
      refine zr fun _ F=>?_
      refine zc F (byteAt key k≠46) fun _ F=>?_
      rcases Decidable.em (byteAt key k≠46) with h122|h122
      ·rw [decide_eq_true h122] at F
       refine zr fun _ F=>?_
       refine zc F (byteAt key k≠45) fun _ F=>?_
       refine zi F (fun h126=>?_) fun h126=>?_
       ·refine zr fun _ F=>?_
        refine x_done F (results_1 rfl (zta F)) ?_
        exact ⟨(zV1 (zVb (by first|exact (nameOk_bad (j:=k) (by omega) (by unfold nb;exact decide_eq_false (by omega))).symm|exact (nameOk_all (fun j hj=>hk_1 j (by omega))).symm))),(Mv.pick S5 [] rfl)⟩
       ·refine zr fun _ F=>?_
        refine zq F ((k+1:Nat):Int) fun _ F=>?_
        exact ⟨k+1,zD,F.cut rfl,(S5.pick [] rfl),by omega,all_step hk_1 (by unfold nb;exact decide_eq_true (by omega))⟩
      ·rw [decide_eq_false h122] at F
       refine zr fun _ F=>?_
       refine zq F ((k+1:Nat):Int) fun _ F=>?_
       exact ⟨k+1,zD,F.cut rfl,(S5.pick [] rfl),by omega,all_step hk_1 (by unfold nb;exact decide_eq_true (by omega))⟩
     ·rw [decide_eq_false h117] at F
      refine zr fun _ F=>?_
      refine zq F ((k+1:Nat):Int) fun _ F=>?_
      exact ⟨k+1,zD,F.cut rfl,(S5.pick [] rfl),by omega,all_step hk_1 (by unfold nb;exact decide_eq_true (by omega))⟩
    ·rw [decide_eq_false h110] at F
     refine zr fun _ F=>?_
     refine zv F (r_not rfl (F.g rfl)) fun _ F=>?_
     refine zc F (byteAt key k≠46) fun _ F=>?_
     rcases Decidable.em (byteAt key k≠46) with h154|h154
     ·rw [decide_eq_true h154] at F
      refine zr fun _ F=>?_
      refine zc F (byteAt key k≠45) fun _ F=>?_
      refine zi F (fun h158=>?_) fun h158=>?_
      ·refine zr fun _ F=>?_
       refine x_done F (results_1 rfl (zta F)) ?_
       exact ⟨(zV1 (zVb (by first|exact (nameOk_bad (j:=k) (by omega) (by unfold nb;exact decide_eq_false (by omega))).symm|exact (nameOk_all (fun j hj=>hk_1 j (by omega))).symm))),(Mv.pick S5 [] rfl)⟩
      ·refine zr fun _ F=>?_
       refine zq F ((k+1:Nat):Int) fun _ F=>?_
       exact ⟨k+1,zD,F.cut rfl,(S5.pick [] rfl),by omega,all_step hk_1 (by unfold nb;exact decide_eq_true (by omega))⟩
     ·rw [decide_eq_false h154] at F
      refine zr fun _ F=>?_
      refine zq F ((k+1:Nat):Int) fun _ F=>?_
      exact ⟨k+1,zD,F.cut rfl,(S5.pick [] rfl),by omega,all_step hk_1 (by unfold nb;exact decide_eq_true (by omega))⟩
  ·refine zr fun _ F=>?_
   refine zz F (impl_within_c (H:=fun _=>True) (n:=((key.size:Nat):Int)) (low:=1) (high:=12) zI7 zI7 zI7) ?_
   rintro _ w169 ⟨rfl,m169⟩
   refine zt fun _ F=>?_
   have S169:=At.frame0 S5.at' m169
   clear m169
   refine x_done F (results_1 rfl (zta F)) ?_
   exact ⟨(zV1 (zVb (by first|exact (nameOk_bad (j:=k) (by omega) (by unfold nb;exact decide_eq_false (by omega))).symm|exact (nameOk_all (fun j hj=>hk_1 j (by omega))).symm))),(Mv.pick (S5.trans S169) [] rfl)⟩
theorem spec_NameOk_c {w:World} {H:Nat→Prop} {key:ByteArray} (Q0:okS key) :
 Calls Tryz.prog 281 #[.string key] w fun e w'=>e=.returned (.bool (nameOk key))∧Mv [] w [] w':=by
 have kz:=Q0
 unfold okS at kz
 refine ze fun _ F=>?_
 refine x_lp (fun (k:Nat) aZ wZ=>Fr 35 [(3,.int .i64 ((k:Nat):Int)),(0,.string key)] aZ∧Mv [] w [] wZ∧(k≤key.size)∧(∀ j,j < k→nb (byteAt key j)=true)) (fun (k:Nat)=>key.size - k) (0) ?_ ?_
 ·exact ⟨F.cut rfl,(Mv.refl (At.nil w)),by omega,all_none⟩
 ·rintro k a3 w3 ⟨F,S3,hk_0,hk_1⟩
  refine zr fun _ F=>?_
  refine zc F (k < key.size) fun _ F=>?_
  refine zi F (fun h8=>?_) fun h8=>?_
  ·refine zr fun _ F=>?_
   refine zv F (r_indexS (i:=k) Tryz.underlying9 rfl (F.g rfl) (F.g rfl) (by omega) zIa) fun _ F=>?_
   refine zv F (r_convU8 Tryz.underlying3 Tryz.underlying5 rfl (F.g rfl) ⟨by omega,by first|omega|(have:=byteAt_lt key k;omega)⟩) fun _ F=>?_
   refine zz F (spec_l01In_c (H:=fun _=>True) (x:=((byteAt key k:Nat):Int)) (least:=97) (most:=122) (by have:=byteAt_lt key k;exact ⟨by omega,by omega⟩) zI7 zI7) ?_
   rintro _ w15 ⟨rfl,m15⟩
   refine zt fun _ F=>?_
   have S15:=At.frame0 S3.at' m15
   clear m15
   refine zv F (r_not rfl (F.g rfl)) fun _ F=>?_
   rcases Bool.eq_false_or_eq_true (!(inB ((byteAt key k:Nat):Int) 97 122)) with h19|h19
   ·rw [h19] at F
    refine zr fun _ F=>?_
    refine zv F (r_convU8 Tryz.underlying3 Tryz.underlying5 rfl (F.g rfl) ⟨by omega,by first|omega|(have:=byteAt_lt key k;omega)⟩) fun _ F=>?_
    refine zz F (spec_l01In_c (H:=fun _=>True) (x:=((byteAt key k:Nat):Int)) (least:=48) (most:=57) (by have:=byteAt_lt key k;exact ⟨by omega,by omega⟩) zI7 zI7) ?_
    rintro _ w22 ⟨rfl,m22⟩
    refine zt fun _ F=>?_
    have S22:=At.frame0 S15.at' m22
    clear m22
    refine zv F (r_not rfl (F.g rfl)) fun _ F=>?_
    rcases Bool.eq_false_or_eq_true (!(inB ((byteAt key k:Nat):Int) 48 57)) with h27|h27
    ·rw [h27] at F
     refine zr fun _ F=>?_
     refine zc F (byteAt key k≠46) fun _ F=>?_
     rcases Decidable.em (byteAt key k≠46) with h32|h32
     ·rw [decide_eq_true h32] at F
      refine zr fun _ F=>?_
      refine zc F (byteAt key k≠45) fun _ F=>?_
      refine zi F (fun h36=>?_) fun h36=>?_
      ·refine zr fun _ F=>?_
       refine x_done F (results_1 rfl (zta F)) ?_
       exact ⟨(zV1 (zVb (by first|exact (nameOk_bad (j:=k) (by omega) (by rw [nb_in];simp_all)).symm|exact (nameOk_all (fun j hj=>hk_1 j (by omega))).symm))),(Mv.pick (S3.trans (S15.trans S22)) [] rfl)⟩
      ·refine zr fun _ F=>?_
       refine zq F ((k+1:Nat):Int) fun _ F=>?_
       exact ⟨k+1,zD,F.cut rfl,((S3.trans (S15.trans S22)).pick [] rfl),by omega,all_step hk_1 (by rw [nb_in];simp_all)⟩
     ·rw [decide_eq_false h32] at F
      refine zr fun _ F=>?_
      refine zq F ((k+1:Nat):Int) fun _ F=>?_
      exact ⟨k+1,zD,F.cut rfl,((S3.trans (S15.trans S22)).pick [] rfl),by omega,all_step hk_1 (by rw [nb_in];simp_all)⟩
    ·rw [h27] at F
     refine zr fun _ F=>?_
     refine zq F ((k+1:Nat):Int) fun _ F=>?_
     exact ⟨k+1,zD,F.cut rfl,((S3.trans (S15.trans S22)).pick [] rfl),by omega,all_step hk_1 (by rw [nb_in];simp_all)⟩
   ·rw [h19] at F
    refine zr fun _ F=>?_
    refine zq F ((k+1:Nat):Int) fun _ F=>?_
    exact ⟨k+1,zD,F.cut rfl,((S3.trans S15).pick [] rfl),by omega,all_step hk_1 (by rw [nb_in];simp_all)⟩
  ·refine zr fun _ F=>?_
   refine zz F (spec_l01In_c (H:=fun _=>True) (x:=((key.size:Nat):Int)) (least:=1) (most:=12) zI7 zI7 zI7) ?_
   rintro _ w75 ⟨rfl,m75⟩
   refine zt fun _ F=>?_
   have S75:=At.frame0 S3.at' m75
   clear m75
   refine x_done F (results_1 rfl (zta F)) ?_
   exact ⟨(zV1 (zVb (by first|exact (nameOk_bad (j:=k) (by omega) (by rw [nb_in];simp_all)).symm|exact (nameOk_all (fun j hj=>hk_1 j (by omega))).symm))),(Mv.pick (S3.trans S75) [] rfl)⟩
theorem impl_nameKey_c {w:World} {H:Nat→Prop} {name:ByteArray} (Q0:okS name) (p0:name.size≤12) :
 Calls Tryz.prog 322 #[.string name] w fun e w'=>e=.returned (.string ((⟨#[110,47]⟩:ByteArray)++name))∧Mv [] w [] w'∧okS ((⟨#[110,47]⟩:ByteArray)++name):=by
 refine ze fun _ F=>?_
 have k3:(⟨#[110,47]⟩:ByteArray).size+name.size≤9223372036854775807:=by have e:(⟨#[110,47]⟩:ByteArray).size=2:=rfl;omega
 refine zv F (r_cat rfl rfl (F.g rfl) k3) fun _ F=>?_
 refine x_done F (results_1 rfl (zta F)) ?_
 exact ⟨rfl,(Mv.pick (Mv.refl (At.nil w)) [] rfl),(okS_cat k3)⟩
theorem CF_191:CF Tryz.prog 191:=⟨⟨_,_,Tryz.func191,rfl,by kernel_rfl⟩⟩
instance : CFc Tryz.prog 191:=⟨CF_191⟩
theorem CF_213:CF Tryz.prog 213:=⟨⟨_,_,Tryz.func213,rfl,by kernel_rfl⟩⟩
instance : CFc Tryz.prog 213:=⟨CF_213⟩
theorem CF_215:CF Tryz.prog 215:=⟨⟨_,_,Tryz.func215,rfl,by kernel_rfl⟩⟩
instance : CFc Tryz.prog 215:=⟨CF_215⟩
theorem CF_216:CF Tryz.prog 216:=⟨⟨_,_,Tryz.func216,rfl,by kernel_rfl⟩⟩
instance : CFc Tryz.prog 216:=⟨CF_216⟩
theorem CF_217:CF Tryz.prog 217:=⟨⟨_,_,Tryz.func217,rfl,by kernel_rfl⟩⟩
instance : CFc Tryz.prog 217:=⟨CF_217⟩
theorem CF_218:CF Tryz.prog 218:=⟨⟨_,_,Tryz.func218,rfl,by kernel_rfl⟩⟩
instance : CFc Tryz.prog 218:=⟨CF_218⟩
theorem CF_221:CF Tryz.prog 221:=⟨⟨_,_,Tryz.func221,rfl,by kernel_rfl⟩⟩
instance : CFc Tryz.prog 221:=⟨CF_221⟩
theorem CF_222:CF Tryz.prog 222:=⟨⟨_,_,Tryz.func222,rfl,by kernel_rfl⟩⟩
instance : CFc Tryz.prog 222:=⟨CF_222⟩
theorem CF_223:CF Tryz.prog 223:=⟨⟨_,_,Tryz.func223,rfl,by kernel_rfl⟩⟩
instance : CFc Tryz.prog 223:=⟨CF_223⟩
theorem CF_224:CF Tryz.prog 224:=⟨⟨_,_,Tryz.func224,rfl,by kernel_rfl⟩⟩
instance : CFc Tryz.prog 224:=⟨CF_224⟩
theorem CF_225:CF Tryz.prog 225:=⟨⟨_,_,Tryz.func225,rfl,by kernel_rfl⟩⟩
instance : CFc Tryz.prog 225:=⟨CF_225⟩
theorem CF_226:CF Tryz.prog 226:=⟨⟨_,_,Tryz.func226,rfl,by kernel_rfl⟩⟩
instance : CFc Tryz.prog 226:=⟨CF_226⟩
theorem CF_227:CF Tryz.prog 227:=⟨⟨_,_,Tryz.func227,rfl,by kernel_rfl⟩⟩
instance : CFc Tryz.prog 227:=⟨CF_227⟩
theorem CF_228:CF Tryz.prog 228:=⟨⟨_,_,Tryz.func228,rfl,by kernel_rfl⟩⟩
instance : CFc Tryz.prog 228:=⟨CF_228⟩
theorem CF_229:CF Tryz.prog 229:=⟨⟨_,_,Tryz.func229,rfl,by kernel_rfl⟩⟩
instance : CFc Tryz.prog 229:=⟨CF_229⟩
theorem CF_230:CF Tryz.prog 230:=⟨⟨_,_,Tryz.func230,rfl,by kernel_rfl⟩⟩
instance : CFc Tryz.prog 230:=⟨CF_230⟩
theorem CF_239:CF Tryz.prog 239:=⟨⟨_,_,Tryz.func239,rfl,by kernel_rfl⟩⟩
instance : CFc Tryz.prog 239:=⟨CF_239⟩
theorem CF_240:CF Tryz.prog 240:=⟨⟨_,_,Tryz.func240,rfl,by kernel_rfl⟩⟩
instance : CFc Tryz.prog 240:=⟨CF_240⟩
theorem CF_241:CF Tryz.prog 241:=⟨⟨_,_,Tryz.func241,rfl,by kernel_rfl⟩⟩
instance : CFc Tryz.prog 241:=⟨CF_241⟩
theorem CF_242:CF Tryz.prog 242:=⟨⟨_,_,Tryz.func242,rfl,by kernel_rfl⟩⟩
instance : CFc Tryz.prog 242:=⟨CF_242⟩
theorem CF_245:CF Tryz.prog 245:=⟨⟨_,_,Tryz.func245,rfl,by kernel_rfl⟩⟩
instance : CFc Tryz.prog 245:=⟨CF_245⟩
theorem CF_246:CF Tryz.prog 246:=⟨⟨_,_,Tryz.func246,rfl,by kernel_rfl⟩⟩
instance : CFc Tryz.prog 246:=⟨CF_246⟩
theorem CF_247:CF Tryz.prog 247:=⟨⟨_,_,Tryz.func247,rfl,by kernel_rfl⟩⟩
instance : CFc Tryz.prog 247:=⟨CF_247⟩
theorem CF_248:CF Tryz.prog 248:=⟨⟨_,_,Tryz.func248,rfl,by kernel_rfl⟩⟩
instance : CFc Tryz.prog 248:=⟨CF_248⟩
theorem CF_249:CF Tryz.prog 249:=⟨⟨_,_,Tryz.func249,rfl,by kernel_rfl⟩⟩
instance : CFc Tryz.prog 249:=⟨CF_249⟩
theorem CF_250:CF Tryz.prog 250:=⟨⟨_,_,Tryz.func250,rfl,by kernel_rfl⟩⟩
instance : CFc Tryz.prog 250:=⟨CF_250⟩
theorem CF_251:CF Tryz.prog 251:=⟨⟨_,_,Tryz.func251,rfl,by kernel_rfl⟩⟩
instance : CFc Tryz.prog 251:=⟨CF_251⟩
theorem CF_252:CF Tryz.prog 252:=⟨⟨_,_,Tryz.func252,rfl,by kernel_rfl⟩⟩
instance : CFc Tryz.prog 252:=⟨CF_252⟩
theorem CF_254:CF Tryz.prog 254:=⟨⟨_,_,Tryz.func254,rfl,by kernel_rfl⟩⟩
instance : CFc Tryz.prog 254:=⟨CF_254⟩
theorem CF_255:CF Tryz.prog 255:=⟨⟨_,_,Tryz.func255,rfl,by kernel_rfl⟩⟩
instance : CFc Tryz.prog 255:=⟨CF_255⟩
theorem CF_256:CF Tryz.prog 256:=⟨⟨_,_,Tryz.func256,rfl,by kernel_rfl⟩⟩
instance : CFc Tryz.prog 256:=⟨CF_256⟩
theorem CF_257:CF Tryz.prog 257:=⟨⟨_,_,Tryz.func257,rfl,by kernel_rfl⟩⟩
instance : CFc Tryz.prog 257:=⟨CF_257⟩
theorem CF_258:CF Tryz.prog 258:=⟨⟨_,_,Tryz.func258,rfl,by kernel_rfl⟩⟩
instance : CFc Tryz.prog 258:=⟨CF_258⟩
theorem CF_259:CF Tryz.prog 259:=⟨⟨_,_,Tryz.func259,rfl,by kernel_rfl⟩⟩
instance : CFc Tryz.prog 259:=⟨CF_259⟩
theorem CF_260:CF Tryz.prog 260:=⟨⟨_,_,Tryz.func260,rfl,by kernel_rfl⟩⟩
instance : CFc Tryz.prog 260:=⟨CF_260⟩
theorem CF_282:CF Tryz.prog 282:=⟨⟨_,_,Tryz.func282,rfl,by kernel_rfl⟩⟩
instance : CFc Tryz.prog 282:=⟨CF_282⟩
theorem CF_289:CF Tryz.prog 289:=⟨⟨_,_,Tryz.func289,rfl,by kernel_rfl⟩⟩
instance : CFc Tryz.prog 289:=⟨CF_289⟩
theorem CF_291:CF Tryz.prog 291:=⟨⟨_,_,Tryz.func291,rfl,by kernel_rfl⟩⟩
instance : CFc Tryz.prog 291:=⟨CF_291⟩
theorem CF_292:CF Tryz.prog 292:=⟨⟨_,_,Tryz.func292,rfl,by kernel_rfl⟩⟩
instance : CFc Tryz.prog 292:=⟨CF_292⟩
theorem CF_294:CF Tryz.prog 294:=⟨⟨_,_,Tryz.func294,rfl,by kernel_rfl⟩⟩
instance : CFc Tryz.prog 294:=⟨CF_294⟩
theorem CF_295:CF Tryz.prog 295:=⟨⟨_,_,Tryz.func295,rfl,by kernel_rfl⟩⟩
instance : CFc Tryz.prog 295:=⟨CF_295⟩
theorem CF_299:CF Tryz.prog 299:=⟨⟨_,_,Tryz.func299,rfl,by kernel_rfl⟩⟩
instance : CFc Tryz.prog 299:=⟨CF_299⟩
theorem CF_300:CF Tryz.prog 300:=⟨⟨_,_,Tryz.func300,rfl,by kernel_rfl⟩⟩
instance : CFc Tryz.prog 300:=⟨CF_300⟩
theorem CF_301:CF Tryz.prog 301:=⟨⟨_,_,Tryz.func301,rfl,by kernel_rfl⟩⟩
instance : CFc Tryz.prog 301:=⟨CF_301⟩
theorem CF_302:CF Tryz.prog 302:=⟨⟨_,_,Tryz.func302,rfl,by kernel_rfl⟩⟩
instance : CFc Tryz.prog 302:=⟨CF_302⟩
theorem CF_328:CF Tryz.prog 328:=⟨⟨_,_,Tryz.func328,rfl,by kernel_rfl⟩⟩
instance : CFc Tryz.prog 328:=⟨CF_328⟩
theorem CF_330:CF Tryz.prog 330:=⟨⟨_,_,Tryz.func330,rfl,by kernel_rfl⟩⟩
instance : CFc Tryz.prog 330:=⟨CF_330⟩
theorem CF_344:CF Tryz.prog 344:=⟨⟨_,_,Tryz.func344,rfl,by kernel_rfl⟩⟩
instance : CFc Tryz.prog 344:=⟨CF_344⟩
theorem CF_345:CF Tryz.prog 345:=⟨⟨_,_,Tryz.func345,rfl,by kernel_rfl⟩⟩
instance : CFc Tryz.prog 345:=⟨CF_345⟩
theorem CF_346:CF Tryz.prog 346:=⟨⟨_,_,Tryz.func346,rfl,by kernel_rfl⟩⟩
instance : CFc Tryz.prog 346:=⟨CF_346⟩
theorem CF_361:CF Tryz.prog 361:=⟨⟨_,_,Tryz.func361,rfl,by kernel_rfl⟩⟩
instance : CFc Tryz.prog 361:=⟨CF_361⟩
theorem CF_362:CF Tryz.prog 362:=⟨⟨_,_,Tryz.func362,rfl,by kernel_rfl⟩⟩
instance : CFc Tryz.prog 362:=⟨CF_362⟩
instance : RTc Tryz.prog 215 Tryz.f215 45:=⟨Tryz.func215,Tryz.ntmps215⟩
instance : RTc Tryz.prog 216 Tryz.f216 59:=⟨Tryz.func216,Tryz.ntmps216⟩
instance : RTc Tryz.prog 217 Tryz.f217 44:=⟨Tryz.func217,Tryz.ntmps217⟩
instance : RTc Tryz.prog 218 Tryz.f218 55:=⟨Tryz.func218,Tryz.ntmps218⟩
instance : RTc Tryz.prog 221 Tryz.f221 25:=⟨Tryz.func221,Tryz.ntmps221⟩
instance : RTc Tryz.prog 222 Tryz.f222 67:=⟨Tryz.func222,Tryz.ntmps222⟩
instance : RTc Tryz.prog 223 Tryz.f223 74:=⟨Tryz.func223,Tryz.ntmps223⟩
instance : RTc Tryz.prog 224 Tryz.f224 59:=⟨Tryz.func224,Tryz.ntmps224⟩
instance : RTc Tryz.prog 225 Tryz.f225 50:=⟨Tryz.func225,Tryz.ntmps225⟩
instance : RTc Tryz.prog 227 Tryz.f227 76:=⟨Tryz.func227,Tryz.ntmps227⟩
instance : RTc Tryz.prog 230 Tryz.f230 41:=⟨Tryz.func230,Tryz.ntmps230⟩
instance : RTc Tryz.prog 240 Tryz.f240 43:=⟨Tryz.func240,Tryz.ntmps240⟩
instance : RTc Tryz.prog 241 Tryz.f241 35:=⟨Tryz.func241,Tryz.ntmps241⟩
instance : RTc Tryz.prog 242 Tryz.f242 44:=⟨Tryz.func242,Tryz.ntmps242⟩
instance : RTc Tryz.prog 285 Tryz.f285 26:=⟨Tryz.func285,Tryz.ntmps285⟩
instance : RTc Tryz.prog 289 Tryz.f289 63:=⟨Tryz.func289,Tryz.ntmps289⟩
instance : RTc Tryz.prog 292 Tryz.f292 9:=⟨Tryz.func292,Tryz.ntmps292⟩
instance : RTc Tryz.prog 294 Tryz.f294 8:=⟨Tryz.func294,Tryz.ntmps294⟩
instance : RTc Tryz.prog 295 Tryz.f295 9:=⟨Tryz.func295,Tryz.ntmps295⟩
instance : RTc Tryz.prog 299 Tryz.f299 47:=⟨Tryz.func299,Tryz.ntmps299⟩
instance : RTc Tryz.prog 300 Tryz.f300 32:=⟨Tryz.func300,Tryz.ntmps300⟩
instance : RTc Tryz.prog 302 Tryz.f302 52:=⟨Tryz.func302,Tryz.ntmps302⟩
instance : RTc Tryz.prog 328 Tryz.f328 72:=⟨Tryz.func328,Tryz.ntmps328⟩
instance : RTc Tryz.prog 330 Tryz.f330 58:=⟨Tryz.func330,Tryz.ntmps330⟩
instance : RTc Tryz.prog 346 Tryz.f346 22:=⟨Tryz.func346,Tryz.ntmps346⟩
section
variable {X:Uni} {w:World} {b u u':Nat} {v:MV} {D:List CellD} {key val pfx:ByteArray} {H:Nat→Prop}
def noq {ρ σ:Type} (_:ρ) (_:σ):Prop:=True
theorem lookU (hU:∀ R W,Un X u D R W→Un X u' D (putL R key) W) (hA:AT w [mB X b v D u]) (hu:u≤68719476736) (h:okS key) :
 Calls Tryz.prog 335 #[.pointer (some ⟨b,0,none⟩),.string key] w (PI X b v D u w (fun r (_:Unit)=>.string r) (getKey D key) D u' fun r _=>r.size≤1048576):=by
 obtain ⟨R,W,h1,h2⟩:=mB_open hA.at'
 have hb:=h2.bd
 refine (impl_Mach_look_c (H:=fun _=>True) (m:=⟨D,⟨R,W⟩⟩) h (by show R.length≤_;omega) h1).mono ?_
 rintro e w' ⟨sa,sn,sc,ra,rn,rc,wa,wn,wc,rfl,m,_⟩
 exact ⟨⟨sa,ra,wa,sn,sc,rn,rc,wn,wc⟩,(),rfl,mB_mv m (hU _ _ h2),getKey_sz hb.2.2.2⟩
theorem look_k (hA:AT w [mB X b v D u]) (hu:u≤68719476736:=by omega) (h:okS key:=by exact zI4):Calls Tryz.prog 335 #[.pointer (some ⟨b,0,none⟩),.string key] w (PI X b v D u w (fun r (_:Unit)=>.string r) (getKey D key) D (u+1) fun r _=>r.size≤1048576):=lookU (fun _ _ h=>h.look) hA hu h
theorem look_i (hk:knw X D key) (hA:AT w [mB X b v D u]) (hu:u≤68719476736:=by omega) (h:okS key:=by exact zI4):Calls Tryz.prog 335 #[.pointer (some ⟨b,0,none⟩),.string key] w (PI X b v D u w (fun r (_:Unit)=>.string r) (getKey D key) D u fun r _=>r.size≤1048576):=lookU (fun _ _ h=>h.lookK hk) hA hu h
theorem layU (hU:∀ R W,Un X u D R W→Un X u' (putKey D key val) R (putL W key)) (hA:AT w [mB X b v D u]) (hu:u≤68719476736) (h:okS key) (h':okS val) :
 Calls Tryz.prog 324 #[.pointer (some ⟨b,0,none⟩),.string key,.string val] w (PI X b v D u w (fun (_:Unit) (_:Unit)=>.tuple #[]) () (putKey D key val) u' noq):=by
 obtain ⟨R,W,h1,h2⟩:=mB_open hA.at'
 have hb:=h2.bd
 refine (impl_Mach_lay_c (H:=fun _=>True) (m:=⟨D,⟨R,W⟩⟩) h h' (by show D.length≤_;omega) (by show W.length≤_;omega) h1).mono ?_
 rintro e w' ⟨sa,sn,sc,ra,rn,rc,wa,wn,wc,rfl,m⟩
 exact ⟨⟨sa,ra,wa,sn,sc,rn,rc,wn,wc⟩,(),rfl,mB_mv m (hU _ _ h2),trivial⟩
theorem lay_k (hp:npg X key) (hA:AT w [mB X b v D u]) (hu:u≤68719476736:=by omega) (h:okS key:=by exact zI4) (h':okS val:=by exact zI4):Calls Tryz.prog 324 #[.pointer (some ⟨b,0,none⟩),.string key,.string val] w (PI X b v D u w (fun (_:Unit) (_:Unit)=>.tuple #[]) () (putKey D key val) (u+1) noq):=layU (fun _ _ h=>h.lay (.inr hp)) hA hu h h'
theorem lay_i (hk:knw X D key) (hp:val=⟨#[]⟩∨npg X key) (hA:AT w [mB X b v D u]) (hu:u≤68719476736:=by omega) (h:okS key:=by exact zI4) (h':okS val:=by exact zI4):Calls Tryz.prog 324 #[.pointer (some ⟨b,0,none⟩),.string key,.string val] w (PI X b v D u w (fun (_:Unit) (_:Unit)=>.tuple #[]) () (putKey D key val) u noq):=layU (fun _ _ h=>h.layK hk hp) hA hu h h'
theorem wipeL_store:∀ (ks:List ByteArray) (m:MachD),(wipeL m ks).store=ks.foldl (fun D k=>putKey D k ⟨#[]⟩) m.store
 | [],_=>rfl
 | k::ks,m=>by
  show (wipeL (layM m k ⟨#[]⟩) ks).store=_
  rw [wipeL_store ks];rfl
theorem wipeL_un {U:List ByteArray} : ∀ (ks:List ByteArray) (m:MachD),UnU X U m.store m.touch.reads m.touch.writes→(∀ k ∈ ks,k ∈ U)→UnU X U (wipeL m ks).store (wipeL m ks).touch.reads (wipeL m ks).touch.writes
 | [],_,h,_=>h
 | k::ks,m,h,hk=>wipeL_un ks (layM m k ⟨#[]⟩) (h.lay (hk k (List.mem_cons_self ..)) (.inl rfl)) fun x hx=>hk x (List.mem_cons_of_mem _ hx)
theorem wipe_un {R W:List ByteArray} (h:Un X u D R W):Un X (u+1) (wipeM ⟨D,⟨R,W⟩⟩ pfx).store (wipeM ⟨D,⟨R,W⟩⟩ pfx).touch.reads (wipeM ⟨D,⟨R,W⟩⟩ pfx).touch.writes:=by
 obtain ⟨U,h1,h2⟩:=h
 obtain ⟨V,h3,h4,h5⟩:=h2.add (pfx++(⟨#[42]⟩:ByteArray))
 refine ⟨V,by omega,wipeL_un _ _ (h5.look h4) fun k hk=>?_⟩
 obtain ⟨⟨c,hc,rfl⟩,_⟩:=keysUnder_mem.1 hk
 exact h5.ks c hc
theorem wipe_k (hA:AT w [mB X b v D u]) (hu:u≤68718428160:=by omega) (h:okS pfx:=by assumption) (hp:pfx.size≤1000000:=by first|omega|exact Nat.le_trans (ksz zI6 (by decide)) (by decide)) :
 Calls Tryz.prog 325 #[.pointer (some ⟨b,0,none⟩),.string pfx] w (PI X b v D u w (fun (_:Unit) (_:Unit)=>.tuple #[]) () (wipeS D pfx) (u+1) noq):=by
 obtain ⟨R,W,h1,h2⟩:=mB_open hA.at'
 have hb:=h2.bd
 refine (impl_Mach_wipe_c (H:=fun _=>True) (m:=⟨D,⟨R,W⟩⟩) h (by show D.length≤_;omega) (by show R.length≤_;omega) (by show W.length≤_;omega) (by omega) h1).mono ?_
 rintro e w' ⟨sa,sn,sc,ra,rn,rc,wa,wn,wc,rfl,m⟩
 refine ⟨⟨sa,ra,wa,sn,sc,rn,rc,wn,wc⟩,(),rfl,?_,trivial⟩
 have:=mB_mv (u:=u) (v':=⟨sa,ra,wa,sn,sc,rn,rc,wn,wc⟩) m (wipe_un (pfx:=pfx) h2)
 rw [show (wipeM ⟨D,⟨R,W⟩⟩ pfx).store=wipeS D pfx from wipeL_store _ _] at this
 exact this
theorem lookSU (hU:∀ R W,Un X u D R W→Un X u' D (putL R key) W) (hm:RM X H w v D u) (hu:u≤68719476736) (h:okS key) :
 Calls Tryz.prog 293 #[v.val,.string key] w (PS X H w (fun v r (_:Unit)=>.tuple #[v.val,.string r]) (getKey D key) D u' fun r _=>r.size≤1048576):=by
 obtain ⟨R,W,g1,g2,g3,h2⟩:=hm
 have hb:=h2.bd
 refine (spec_l04Look_c (m:=⟨D,⟨R,W⟩⟩) g1 g2 g3 h (by show R.length≤_;omega)).mono ?_
 rintro e w' ⟨sa,sn,sc,ra,rn,rc,wa,wn,wc,rfl,m,k1,k2,k3,_⟩
 exact ⟨⟨sa,ra,wa,sn,sc,rn,rc,wn,wc⟩,(),rfl,m,⟨_,_,k1,k2,k3,hU _ _ h2⟩,getKey_sz hb.2.2.2⟩
theorem look_s (_:TbO w []) (hm:RM X H w v D u) (hu:u≤68719476736:=by omega) (h:okS key:=by exact zI4):Calls Tryz.prog 293 #[v.val,.string key] w (PS X H w (fun v r (_:Unit)=>.tuple #[v.val,.string r]) (getKey D key) D (u+1) fun r _=>r.size≤1048576):=lookSU (fun _ _ h=>h.look) hm hu h
theorem look_si (hk:knw X D key) (_:TbO w []) (hm:RM X H w v D u) (hu:u≤68719476736:=by omega) (h:okS key:=by exact zI4):Calls Tryz.prog 293 #[v.val,.string key] w (PS X H w (fun v r (_:Unit)=>.tuple #[v.val,.string r]) (getKey D key) D u fun r _=>r.size≤1048576):=lookSU (fun _ _ h=>h.lookK hk) hm hu h
theorem laySU (hU:∀ R W,Un X u D R W→Un X u' (putKey D key val) R (putL W key)) (hm:RM X H w v D u) (hu:u≤68719476736) (h:okS key) (h':okS val) :
 Calls Tryz.prog 284 #[v.val,.string key,.string val] w (PS X H w (fun v (_:Unit) (_:Unit)=>v.val) () (putKey D key val) u' noq):=by
 obtain ⟨R,W,g1,g2,g3,h2⟩:=hm
 have hb:=h2.bd
 refine (spec_l04Lay_c (m:=⟨D,⟨R,W⟩⟩) g1 g2 g3 h h' (by show D.length≤_;omega) (by show W.length≤_;omega)).mono ?_
 rintro e w' ⟨sa,sn,sc,ra,rn,rc,wa,wn,wc,rfl,m,k1,k2,k3⟩
 exact ⟨⟨sa,ra,wa,sn,sc,rn,rc,wn,wc⟩,(),rfl,m,⟨_,_,k1,k2,k3,hU _ _ h2⟩,trivial⟩
theorem lay_s (hp:npg X key) (_:TbO w []) (hm:RM X H w v D u) (hu:u≤68719476736:=by omega) (h:okS key:=by exact zI4) (h':okS val:=by exact zI4):Calls Tryz.prog 284 #[v.val,.string key,.string val] w (PS X H w (fun v (_:Unit) (_:Unit)=>v.val) () (putKey D key val) (u+1) noq):=laySU (fun _ _ h=>h.lay (.inr hp)) hm hu h h'
theorem lay_si (hk:knw X D key) (hp:val=⟨#[]⟩∨npg X key) (_:TbO w []) (hm:RM X H w v D u) (hu:u≤68719476736:=by omega) (h:okS key:=by exact zI4) (h':okS val:=by exact zI4):Calls Tryz.prog 284 #[v.val,.string key,.string val] w (PS X H w (fun v (_:Unit) (_:Unit)=>v.val) () (putKey D key val) u noq):=laySU (fun _ _ h=>h.layK hk hp) hm hu h h'
theorem under_ok {s:SL} (hn:s.n=(keysUnder D pfx).length) (hD:D.length≤68719476736) (hc:cellsOk D):KOk s (keysUnder D pfx) pfx:=
 ⟨hn,by have:=keysUnder_length D pfx;omega,fun x hx=>by
  obtain ⟨⟨c,hc',rfl⟩,_⟩:=keysUnder_mem.1 hx
  exact (hc c hc').1,fun x hx=>(keysUnder_mem.1 hx).2⟩
theorem under_k (hA:AT w [mB X b v D u]) (hu:u≤68718428160:=by omega) (h:okS pfx:=by first|assumption|exact zU) (hp:pfx.size≤1000000:=by first|decide|omega|exact Nat.le_trans (ksz zI6 (by decide)) (by decide)) :
 Calls Tryz.prog 327 #[.pointer (some ⟨b,0,none⟩),.string pfx] w (PIU X b v D u w (keysUnder D pfx) pfx D (u+1)):=by
 obtain ⟨R,W,h1,h2⟩:=mB_open hA.at'
 have hb:=h2.bd
 refine (impl_Mach_under_c (H:=fun _=>True) (m:=⟨D,⟨R,W⟩⟩) h (by show D.length≤_;omega) (by show R.length≤_;omega) (by omega) h1).mono ?_
 rintro e w' ⟨ka,kn,kc,sa,sn,sc,ra,rn,rc,wa,wn,wc,rfl,m⟩
 have:=m.at'.ownInv strT.hk 0 rfl
 exact ⟨⟨sa,ra,wa,sn,sc,rn,rc,wn,wc⟩,⟨ka,kn,kc⟩,rfl,mB_mvN (N:=[owK ⟨ka,kn,kc⟩ _]) m h2.look,under_ok this.1 (by omega) hb.2.2.2⟩
theorem under_s (_:TbO w []) (hm:RM X H w v D u) (hu:u≤68718428160:=by omega) (h:okS pfx:=by first|assumption|exact zU) (hp:pfx.size≤1000000:=by first|decide|omega|exact Nat.le_trans (ksz zI6 (by decide)) (by decide)) :
 Calls Tryz.prog 296 #[v.val,.string pfx] w (PSU X H w (keysUnder D pfx) pfx D (u+1)):=by
 obtain ⟨R,W,g1,g2,g3,h2⟩:=hm
 have hb:=h2.bd
 refine (spec_l04Under_c (m:=⟨D,⟨R,W⟩⟩) g1 g2 g3 h (by show D.length≤_;omega) (by show R.length≤_;omega) (by omega)).mono ?_
 rintro e w' ⟨sa,sn,sc,ra,rn,rc,wa,wn,wc,ka,kn,kc,rfl,m,k1,k2,k3⟩
 have:=m.at'.ownInv strT.hk 0 rfl
 have hH:∀ c,V (HP H []) w [owK ⟨ka,kn,kc⟩ (keysUnder D pfx)] c→V H w [owK ⟨ka,kn,kc⟩ (keysUnder D pfx)] c:=fun c hc=>⟨hc.1.imp (fun h=>h.resolve_right (fps_nil _)) id,hc.2⟩
 exact ⟨⟨sa,ra,wa,sn,sc,rn,rc,wn,wc⟩,⟨ka,kn,kc⟩,rfl,m,⟨_,_,k1.mono hH,k2.mono hH,k3.mono hH,h2.look⟩,under_ok this.1 (by omega) hb.2.2.2⟩
end
end Go.Proofs.YtipdbeklopjbmaaGreatDoor
