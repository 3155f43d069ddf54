/-
  Texts laid together: GenSg, FactsK, FactsK2, FactsK3, FactsM.
-/
import Derived.Test.YtipdbeklopjbmaaGreatDoorGenRa
import Derived.Test.YtipdbeklopjbmaaGreatDoorP13
set_option linter.unusedVariables false
set_option linter.unusedSimpArgs false
namespace Go.Proofs.YtipdbeklopjbmaaGreatDoor
open Go.ChangeShapes Go.WideShapes Go.ChangeAt Go.RowKit Go.Proofs.Tryz
section
variable {w:World} {H:Nat→Prop}
set_option maxRecDepth 100000
set_option maxHeartbeats 1000000
theorem Jd8 {H:Nat→Prop} {key:ByteArray} (Q0:okS key) :
 Calls prog 318 #[.string key] w fun e w'=>e=.returned (.bool (J14 key))∧Mv [] w [] w':=by
 have kz:=Q0
 unfold okS at kz
 refine ze fun _ F=>?_
 refine JH (At.nil w) (fun lZ (k:Nat) aZ wZ=>Fr 41 [(7,nV k),(6,nV key.size),(0,.string key)] aZ∧Mv lZ w [] wZ∧(k≤key.size)∧(∀ j,j < k→nb (J5 key j)=true)) (fun (k:Nat)=>key.size - k) (0) ?_ ?_
 ·exact ⟨F.cut rfl,(Mv.refl (At.nil w)),zO,J2m⟩
 rintro k a5 w5 ⟨F,S5,hk_0,hk_1⟩
 refine zr fun _ F=>?_
 refine zc F (k < key.size) fun _ F=>?_
 refine zi F (fun h7=>?_) fun h7=>?_
 ·refine zr fun _ F=>?_
  refine zv F (J0Y (i:=k) underlying9 rfl (F.g rfl) (F.g rfl) zO yq) fun _ F=>?_
  refine zc F (J5 key k ≥ 97) fun _ F=>?_
  rcases Decidable.em (J5 key k ≥ 97) with h17|h17
  ·rw [decide_eq_true h17] at F
   refine zr fun _ F=>?_
   refine zc F (J5 key k≤122) fun _ F=>?_
   refine zv F (J7s rfl (F.g rfl)) fun _ F=>?_
   rcases Decidable.em (¬ (J5 key k≤122)) with h23|h23
   ·rw [decide_eq_true h23] at F
    refine zr fun _ F=>?_
    refine zc F (J5 key k ≥ 48) fun _ F=>?_
    rcases Decidable.em (J5 key k ≥ 48) with h27|h27
    ·rw [decide_eq_true h27] at F
     refine zr fun _ F=>?_
     refine zc F (J5 key k≤57) fun _ F=>?_
     refine zv F (J7s rfl (F.g rfl)) fun _ F=>?_
     rcases Decidable.em (¬ (J5 key k≤57)) with h34|h34
     ·rw [decide_eq_true h34] at F
      refine zr fun _ F=>?_
      refine zc F (J5 key k≠46) fun _ F=>?_
      rcases Decidable.em (J5 key k≠46) with h39|h39
      ·rw [decide_eq_true h39] at F
       refine zr fun _ F=>?_
       refine zc F (J5 key k≠45) fun _ F=>?_
       refine zi F (fun h43=>?_) fun h43=>?_
       ·refine zr fun _ F=>?_
        refine zd1 F ?_
        exact ⟨(zV1 (zVb yBg)),(Mv.pick S5 [] rfl)⟩
       refine zr fun _ F=>?_
       refine zq F ((k+1:Nat):Int) fun _ F=>?_
       exact ⟨k+1,zD,F.cut rfl,(S5.pick [] rfl),zO,J0F hk_1 (by unfold nb;exact decide_eq_true zO)⟩
      rw [decide_eq_false h39] at F
      refine zr fun _ F=>?_
      refine zq F ((k+1:Nat):Int) fun _ F=>?_
      exact ⟨k+1,zD,F.cut rfl,(S5.pick [] rfl),zO,J0F hk_1 (by unfold nb;exact decide_eq_true zO)⟩
     rw [decide_eq_false h34] at F
     refine zr fun _ F=>?_
     refine zq F ((k+1:Nat):Int) fun _ F=>?_
     exact ⟨k+1,zD,F.cut rfl,(S5.pick [] rfl),zO,J0F hk_1 (by unfold nb;exact decide_eq_true zO)⟩
    rw [decide_eq_false h27] at F
    refine zr fun _ F=>?_
    refine zv F (J0q rfl (F.g rfl)) fun _ F=>?_
    refine zc F (J5 key k≠46) fun _ F=>?_
    rcases Decidable.em (J5 key k≠46) with h71|h71
    ·rw [decide_eq_true h71] at F
     refine zr fun _ F=>?_
     refine zc F (J5 key k≠45) fun _ F=>?_
     refine zi F (fun h75=>?_) fun h75=>?_
     ·refine zr fun _ F=>?_
      refine zd1 F ?_
      exact ⟨(zV1 (zVb yBg)),(Mv.pick S5 [] rfl)⟩
     refine zr fun _ F=>?_
     refine zq F ((k+1:Nat):Int) fun _ F=>?_
     exact ⟨k+1,zD,F.cut rfl,(S5.pick [] rfl),zO,J0F hk_1 (by unfold nb;exact decide_eq_true zO)⟩
    rw [decide_eq_false h71] at F
    refine zr fun _ F=>?_
    refine zq F ((k+1:Nat):Int) fun _ F=>?_
    exact ⟨k+1,zD,F.cut rfl,(S5.pick [] rfl),zO,J0F hk_1 (by unfold nb;exact decide_eq_true zO)⟩
   rw [decide_eq_false h23] at F
   refine zr fun _ F=>?_
   refine zq F ((k+1:Nat):Int) fun _ F=>?_
   exact ⟨k+1,zD,F.cut rfl,(S5.pick [] rfl),zO,J0F hk_1 (by unfold nb;exact decide_eq_true zO)⟩
  rw [decide_eq_false h17] at F
  refine zr fun _ F=>?_
  refine zv F (J0q rfl (F.g rfl)) fun _ F=>?_
  refine zc F (J5 key k ≥ 48) fun _ F=>?_
  rcases Decidable.em (J5 key k ≥ 48) with h110|h110
  ·rw [decide_eq_true h110] at F
   refine zr fun _ F=>?_
   refine zc F (J5 key k≤57) fun _ F=>?_
   refine zv F (J7s rfl (F.g rfl)) fun _ F=>?_
   rcases Decidable.em (¬ (J5 key k≤57)) with h117|h117
   ·rw [decide_eq_true h117] at F
    refine zr fun _ F=>?_
    refine zc F (J5 key k≠46) fun _ F=>?_
    rcases Decidable.em (J5 key k≠46) with h122|h122
    ·rw [decide_eq_true h122] at F
     refine zr fun _ F=>?_
     refine zc F (J5 key k≠45) fun _ F=>?_
     refine zi F (fun h126=>?_) fun h126=>?_
     ·refine zr fun _ F=>?_
      refine zd1 F ?_
      exact ⟨(zV1 (zVb yBg)),(Mv.pick S5 [] rfl)⟩
     refine zr fun _ F=>?_
     refine zq F ((k+1:Nat):Int) fun _ F=>?_
     exact ⟨k+1,zD,F.cut rfl,(S5.pick [] rfl),zO,J0F hk_1 (by unfold nb;exact decide_eq_true zO)⟩
    rw [decide_eq_false h122] at F
    refine zr fun _ F=>?_
    refine zq F ((k+1:Nat):Int) fun _ F=>?_
    exact ⟨k+1,zD,F.cut rfl,(S5.pick [] rfl),zO,J0F hk_1 (by unfold nb;exact decide_eq_true zO)⟩
   rw [decide_eq_false h117] at F
   refine zr fun _ F=>?_
   refine zq F ((k+1:Nat):Int) fun _ F=>?_
   exact ⟨k+1,zD,F.cut rfl,(S5.pick [] rfl),zO,J0F hk_1 (by unfold nb;exact decide_eq_true zO)⟩
  rw [decide_eq_false h110] at F
  refine zr fun _ F=>?_
  refine zv F (J0q rfl (F.g rfl)) fun _ F=>?_
  refine zc F (J5 key k≠46) fun _ F=>?_
  rcases Decidable.em (J5 key k≠46) with h154|h154
  ·rw [decide_eq_true h154] at F
   refine zr fun _ F=>?_
   refine zc F (J5 key k≠45) fun _ F=>?_
   refine zi F (fun h158=>?_) fun h158=>?_
   ·refine zr fun _ F=>?_
    refine zd1 F ?_
    exact ⟨(zV1 (zVb yBg)),(Mv.pick S5 [] rfl)⟩
   refine zr fun _ F=>?_
   refine zq F ((k+1:Nat):Int) fun _ F=>?_
   exact ⟨k+1,zD,F.cut rfl,(S5.pick [] rfl),zO,J0F hk_1 (by unfold nb;exact decide_eq_true zO)⟩
  rw [decide_eq_false h154] at F
  refine zr fun _ F=>?_
  refine zq F ((k+1:Nat):Int) fun _ F=>?_
  exact ⟨k+1,zD,F.cut rfl,(S5.pick [] rfl),zO,J0F hk_1 (by unfold nb;exact decide_eq_true zO)⟩
 refine zr fun _ F=>?_
 refine zzp F S5.at' (J3M (H:=fun _=>True) (n:=((key.size:Nat):Int)) (low:=1) (high:=12) yg yg yg) fun w169 S169 _ F=>?_
 refine zd1 F ?_
 exact ⟨(zV1 (zVb yBg)),(Mv.pick (S5.trans S169) [] rfl)⟩
theorem Jdl {H:Nat→Prop} {key:ByteArray} (Q0:okS key) :
 Calls prog 281 #[.string key] w fun e w'=>e=.returned (.bool (J14 key))∧Mv [] w [] w':=by
 have kz:=Q0
 unfold okS at kz
 refine ze fun _ F=>?_
 refine JH (At.nil w) (fun lZ (k:Nat) aZ wZ=>Fr 35 [(3,nV k),(0,.string key)] aZ∧Mv lZ w [] wZ∧(k≤key.size)∧(∀ j,j < k→nb (J5 key j)=true)) (fun (k:Nat)=>key.size - k) (0) ?_ ?_
 ·exact ⟨F.cut rfl,(Mv.refl (At.nil w)),zO,J2m⟩
 rintro k a3 w3 ⟨F,S3,hk_0,hk_1⟩
 refine zr fun _ F=>?_
 refine zc F (k < key.size) fun _ F=>?_
 refine zi F (fun h8=>?_) fun h8=>?_
 ·refine zr fun _ F=>?_
  refine zv F (J0Y (i:=k) underlying9 rfl (F.g rfl) (F.g rfl) zO yq) fun _ F=>?_
  refine zv F (J1a underlying3 underlying5 rfl (F.g rfl) ⟨zO,by first|omega|(have:=J1B key k;omega)⟩) fun _ F=>?_
  refine zzp F S3.at' (J2Y (H:=fun _=>True) (x:=((J5 key k:Nat):Int)) (least:=97) (most:=122) (by have:=J1B key k;exact ⟨zO,zO⟩) yg yg) fun w15 S15 _ F=>?_
  refine zv F (J0q rfl (F.g rfl)) fun _ F=>?_
  rcases Bool.eq_false_or_eq_true (!(inB ((J5 key k:Nat):Int) 97 122)) with h19|h19
  ·rw [h19] at F
   refine zr fun _ F=>?_
   refine zv F (J1a underlying3 underlying5 rfl (F.g rfl) ⟨zO,by first|omega|(have:=J1B key k;omega)⟩) fun _ F=>?_
   refine zzp F S15.at' (J2Y (H:=fun _=>True) (x:=((J5 key k:Nat):Int)) (least:=48) (most:=57) (by have:=J1B key k;exact ⟨zO,zO⟩) yg yg) fun w22 S22 _ F=>?_
   refine zv F (J0q rfl (F.g rfl)) fun _ F=>?_
   rcases Bool.eq_false_or_eq_true (!(inB ((J5 key k:Nat):Int) 48 57)) with h27|h27
   ·rw [h27] at F
    refine zr fun _ F=>?_
    refine zc F (J5 key k≠46) fun _ F=>?_
    rcases Decidable.em (J5 key k≠46) with h32|h32
    ·rw [decide_eq_true h32] at F
     refine zr fun _ F=>?_
     refine zc F (J5 key k≠45) fun _ F=>?_
     refine zi F (fun h36=>?_) fun h36=>?_
     ·refine zr fun _ F=>?_
      refine zd1 F ?_
      exact ⟨(zV1 (zVb (by first|exact (J6y (j:=k) zO (by rw [J4d];simp_all)).symm|exact (J6x (fun j hj=>hk_1 j zO)).symm))),(Mv.pick (tc3 S3 S15 S22) [] rfl)⟩
     refine zr fun _ F=>?_
     refine zq F ((k+1:Nat):Int) fun _ F=>?_
     exact ⟨k+1,zD,F.cut rfl,((tc3 S3 S15 S22).pick [] rfl),zO,J0F hk_1 (by rw [J4d];simp_all)⟩
    rw [decide_eq_false h32] at F
    refine zr fun _ F=>?_
    refine zq F ((k+1:Nat):Int) fun _ F=>?_
    exact ⟨k+1,zD,F.cut rfl,((tc3 S3 S15 S22).pick [] rfl),zO,J0F hk_1 (by rw [J4d];simp_all)⟩
   rw [h27] at F
   refine zr fun _ F=>?_
   refine zq F ((k+1:Nat):Int) fun _ F=>?_
   exact ⟨k+1,zD,F.cut rfl,((tc3 S3 S15 S22).pick [] rfl),zO,J0F hk_1 (by rw [J4d];simp_all)⟩
  rw [h19] at F
  refine zr fun _ F=>?_
  refine zq F ((k+1:Nat):Int) fun _ F=>?_
  exact ⟨k+1,zD,F.cut rfl,((S3.trans S15).pick [] rfl),zO,J0F hk_1 (by rw [J4d];simp_all)⟩
 refine zr fun _ F=>?_
 refine zzp F S3.at' (J2Y (H:=fun _=>True) (x:=((key.size:Nat):Int)) (least:=1) (most:=12) yg yg yg) fun w75 S75 _ F=>?_
 refine zd1 F ?_
 exact ⟨(zV1 (zVb (by first|exact (J6y (j:=k) zO (by rw [J4d];simp_all)).symm|exact (J6x (fun j hj=>hk_1 j zO)).symm))),(Mv.pick (S3.trans S75) [] rfl)⟩
theorem JcT {H:Nat→Prop} {name:ByteArray} (Q0:okS name) (p0:name.size≤12) :
 Calls prog 322 #[.string name] w fun e w'=>e=.returned (.string ((bA [110,47])++name))∧Mv [] w [] w'∧okS ((bA [110,47])++name):=by
 refine ze fun _ F=>?_
 have k3:(⟨#[110,47]⟩:ByteArray).size+name.size≤9223372036854775807:=by have e:(⟨#[110,47]⟩:ByteArray).size=2:=rfl;omega
 refine zv F (J0e rfl rfl (F.g rfl) k3) fun _ F=>?_
 refine zd1 F ?_
 exact ⟨rfl,(Mv.pick (Mv.refl (At.nil w)) [] rfl),(J1c k3)⟩
end
instance : RTc prog 215 f215 45:=rtc func215 ntmps215
instance : RTc prog 216 f216 59:=rtc func216 ntmps216
instance : RTc prog 218 f218 55:=rtc func218 ntmps218
instance : RTc prog 221 f221 25:=rtc func221 ntmps221
instance : RTc prog 222 f222 67:=rtc func222 ntmps222
instance : RTc prog 223 f223 74:=rtc func223 ntmps223
instance : RTc prog 224 f224 59:=rtc func224 ntmps224
instance : RTc prog 225 f225 50:=rtc func225 ntmps225
instance : RTc prog 227 f227 76:=rtc func227 ntmps227
instance : RTc prog 230 f230 41:=rtc func230 ntmps230
instance : RTc prog 240 f240 43:=rtc func240 ntmps240
instance : RTc prog 241 f241 35:=rtc func241 ntmps241
instance : RTc prog 242 f242 44:=rtc func242 ntmps242
instance : RTc prog 285 f285 26:=rtc func285 ntmps285
instance : RTc prog 289 f289 63:=rtc func289 ntmps289
instance : RTc prog 292 f292 9:=rtc func292 ntmps292
instance : RTc prog 294 f294 8:=rtc func294 ntmps294
instance : RTc prog 295 f295 9:=rtc func295 ntmps295
instance : RTc prog 302 f302 52:=rtc func302 ntmps302
instance : RTc prog 328 f328 72:=rtc func328 ntmps328
instance : RTc prog 330 f330 58:=rtc func330 ntmps330
instance : RTc prog 346 f346 22:=rtc func346 ntmps346
theorem J1q:BI prog 155 [(0,1),(1,1),(2,1)] [iV 0,iV 0,.string (bA [])]:=J2N underlying155 (zv:=.agg #[iV 0,iV 0,.string (bA [])]) zK rfl zK
instance : RTc prog 188 f188 243:=rtc func188 ntmps188
instance : RTc prog 238 f238 24:=rtc func238 ntmps238
instance : RTc prog 244 f244 41:=rtc func244 ntmps244
instance : RTc prog 287 f287 91:=rtc func287 ntmps287
instance : RTc prog 288 f288 102:=rtc func288 ntmps288
instance : RTc prog 329 f329 94:=rtc func329 ntmps329
instance : UTc prog 5 (.int .u8):=⟨underlying5⟩
instance : RTc prog 148 f148 24:=rtc func148 ntmps148
instance : RTc prog 178 f178 213:=rtc func178 ntmps178
instance : RTc prog 214 f214 24:=rtc func214 ntmps214
instance : RTc prog 219 f219 30:=rtc func219 ntmps219
instance : RTc prog 220 f220 59:=rtc func220 ntmps220
instance : RTc prog 231 f231 88:=rtc func231 ntmps231
instance : RTc prog 303 f303 58:=rtc func303 ntmps303
theorem J7c:BI prog 153 [(0,1),(1,1),(2,1),(3,1),(4,1),(5,1)] [iV 0,.string (bA []),.string (bA []),iV 0,iV 0,.string (bA [])]:=J2N underlying153 (zv:=.agg #[iV 0,.string (bA []),.string (bA []),iV 0,iV 0,.string (bA [])]) zK rfl zK
theorem JaJ:BI prog 191 [(0,1),(1,6)] [iV 0,iV 0,.string (bA []),.string (bA []),iV 0,iV 0,.string (bA [])]:=J2N underlying191 (zv:=.agg #[iV 0,iV 0,.string (bA []),.string (bA []),iV 0,iV 0,.string (bA [])]) zK rfl zK
theorem J49:BI prog 32 [(0,1),(1,1)] [.string (bA []),iV 0]:=J2N underlying32 (zv:=.agg #[.string (bA []),iV 0]) zK rfl zK
theorem J7B:BI prog 58 [(0,1),(1,1),(2,1),(3,1),(4,1),(5,1),(6,2),(8,1),(9,1)] [iV 0,iV 0,iV 0,iV 0,sN,sN,sN,sN,sN,iV 0]:=J2N underlying58 (zv:=.agg #[iV 0,iV 0,iV 0,iV 0,sN,sN,sN,sN,sN,iV 0]) zK rfl zK
theorem ET_151:ElemT prog 151 191 (.agg #[iV 0,iV 0,.string ⟨#[]⟩,.string ⟨#[]⟩,iV 0,iV 0,.string ⟨#[]⟩]) 7 80 J1p:={ ht:=underlying151,hT:={ info:=by kernel_rfl,zs:=rfl,pos:=by decide },hk:=fun _=>rfl,h1:=by intro x u hu;simp [J1p] at hu;rcases hu with rfl|rfl|rfl|rfl|rfl|rfl|rfl <;> rfl,by0:=by decide }
instance : RTc prog 111 f111 25:=rtc func111 ntmps111
instance : RTc prog 119 f119 22:=rtc func119 ntmps119
instance : RTc prog 123 f123 14:=rtc func123 ntmps123
instance : RTc prog 125 f125 28:=rtc func125 ntmps125
instance : RTc prog 126 f126 60:=rtc func126 ntmps126
instance : RTc prog 127 f127 46:=rtc func127 ntmps127
instance : RTc prog 128 f128 22:=rtc func128 ntmps128
instance : RTc prog 164 f164 36:=rtc func164 ntmps164
instance : RTc prog 165 f165 37:=rtc func165 ntmps165
instance : RTc prog 167 f167 47:=rtc func167 ntmps167
instance : RTc prog 17 f17 11:=rtc func17 ntmps17
instance : RTc prog 194 f194 11:=rtc func194 ntmps194
instance : RTc prog 197 f197 25:=rtc func197 ntmps197
instance : RTc prog 198 f198 45:=rtc func198 ntmps198
instance : RTc prog 199 f199 10:=rtc func199 ntmps199
instance : RTc prog 20 f20 11:=rtc func20 ntmps20
instance : RTc prog 23 f23 22:=rtc func23 ntmps23
instance : RTc prog 24 f24 8:=rtc func24 ntmps24
instance : RTc prog 25 f25 12:=rtc func25 ntmps25
instance : RTc prog 26 f26 15:=rtc func26 ntmps26
instance : RTc prog 5 f5 99:=rtc func5 ntmps5
instance : RTc prog 58 f58 6:=rtc func58 ntmps58
instance : RTc prog 59 f59 33:=rtc func59 ntmps59
instance : RTc prog 60 f60 17:=rtc func60 ntmps60
instance : RTc prog 66 f66 6:=rtc func66 ntmps66
instance : RTc prog 67 f67 26:=rtc func67 ntmps67
instance : RTc prog 68 f68 15:=rtc func68 ntmps68
instance : RTc prog 74 f74 23:=rtc func74 ntmps74
instance : RTc prog 77 f77 21:=rtc func77 ntmps77
instance : RTc prog 78 f78 12:=rtc func78 ntmps78
instance : RTc prog 79 f79 12:=rtc func79 ntmps79
theorem Jik:TI prog 49 true 10:=J07 underlying49 rfl zK
instance : TIc prog 49 true 10:=⟨Jik⟩
end Go.Proofs.YtipdbeklopjbmaaGreatDoor
