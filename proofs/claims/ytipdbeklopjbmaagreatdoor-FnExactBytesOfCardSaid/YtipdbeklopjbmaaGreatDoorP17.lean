/-
  Texts laid together: KaJ0, KaJ1, KaJ2, KaJ3, KaJ4.
-/
import Derived.Test.YtipdbeklopjbmaaGreatDoorP15
set_option linter.unusedVariables false
set_option linter.unusedSimpArgs false
namespace Go.Proofs.YtipdbeklopjbmaaGreatDoor
open Go.ChangeShapes Go.WideShapes Go.ChangeAt Go.RowKit
set_option maxRecDepth 100000
set_option maxHeartbeats 1000000
section
set_option maxHeartbeats 8000000
variable {X:Uni} {w:World} {b u:Nat} {v:MV} {D:List CellD} {H:Nat→Prop}
theorem makeName_k {x:ByteArray} (hA:AT w [mB X b v D u]) (hu:u+8≤68718428160:=by omega) (h_x:okS x:=by exact zI4) :
 Calls Tryz.prog 239 #[.pointer (some ⟨b,0,none⟩),.string x] w (PI X b v D u w (fun (r:Unit) (s:Int × Int)=>.tuple #[.int .i64 s.1,.int .i64 s.2]) () (mkS D x) (u+8) (fun (_:Unit) (s:Int × Int)=>i64ok s.1∧i64ok s.2)):=by
 have M:=St.start hA
 refine zE (f:=239) fun _ F=>?_
 refine l_op (kO F M (hc:=nameOk_k M.nil.tb) (k:=fun s1 w q1 M=>zk fun _ F=>?_))
 refine zib F (fun h2=>?_) fun h2=>?_
 ·refine zr2 fun _ F=>?_
  refine x_done F (results_2 rfl (zta F) (zta F)) ?_
  exact zfI M () (_,_) (⟨zI1,zI1⟩) (by rw [mkS,if_pos h2])
 ·have hi2:=nameOk_size (nf h2);refine zr2 fun _ F=>?_
  refine l_op (kI F M (hc:=fileOf_k M.hd) (k:=fun v s3 w q3 M=>zk fun _ F=>?_))
  refine zi F (fun h4=>?_) fun h4=>?_
  ·refine zr2 fun _ F=>?_
   refine x_done F (results_2 rfl (zta F) (zta F)) ?_
   exact zfI M () (_,_) (⟨zI1,zI1⟩) (by rw [mkS,iFb h2,if_pos h4])
  ·refine zr2 fun _ F=>?_
   refine l_op (kI F M (hc:=num_k M.hd) (k:=fun v s5 w q5 M=>zk fun _ F=>?_))
   refine zi F (fun h6=>?_) fun h6=>?_
   ·refine zr2 fun _ F=>?_
    refine x_done F (results_2 rfl (zta F) (zta F)) ?_
    exact zfI M () (_,_) (⟨zI1,zI1⟩) (by rw [mkS,iFb h2,if_neg h4,if_pos h6])
   ·refine zr2 fun _ F=>?_
    refine l_op (kI F M (hc:=bump_k M.hd) (k:=fun v s7 w q7 M=>zk fun _ F=>?_))
    refine l_op (kO F M (hc:=nameKey_k M.nil.tb) (k:=fun s8 w q8 M=>zk fun _ F=>?_))
    refine l_op (kI F M (hc:=setNum_k M.hd) (k:=fun v s9 w q9 M=>zk fun _ F=>?_))
    refine l_op (kO F M (hc:=linksKey_k M.nil.tb) (k:=fun s10 w q10 M=>zk fun _ F=>?_))
    refine l_op (kI F M (hc:=setNum_k M.hd) (k:=fun v s11 w q11 M=>zk fun _ F=>?_))
    refine x_done F (results_2 rfl (zta F) (zta F)) ?_
    exact zfI M () (_,_) (⟨zI1,zI1⟩) (by rw [mkS,iFb h2,if_neg h4,if_neg h6])
theorem makePipe_k (hA:AT w [mB X b v D u]) (hu:u+8≤68718428160:=by omega) :
 Calls Tryz.prog 245 #[.pointer (some ⟨b,0,none⟩)] w (PI X b v D u w (fun (r:Unit) (s:Int × Int)=>.tuple #[.int .i64 s.1,.int .i64 s.2]) () (mpS D) (u+8) (fun (_:Unit) (s:Int × Int)=>i64ok s.1∧i64ok s.2)):=by
 have M:=St.start hA
 refine zE (f:=245) fun _ F=>?_
 refine l_op (kI F M (hc:=num_k M.hd) (k:=fun v s1 w q1 M=>zk fun _ F=>?_))
 refine zi F (fun h2=>?_) fun h2=>?_
 ·refine zr2 fun _ F=>?_
  refine x_done F (results_2 rfl (zta F) (zta F)) ?_
  exact zfI M () (_,_) (⟨zI1,zI1⟩) (by rw [mpS,if_pos h2])
 ·refine zr2 fun _ F=>?_
  refine l_op (kI F M (hc:=bump_k M.hd) (k:=fun v s3 w q3 M=>zk fun _ F=>?_))
  refine l_op (kO F M (hc:=pipeKey_k M.nil.tb) (k:=fun s4 w q4 M=>zk fun _ F=>?_))
  refine l_op (kI F M (hc:=setNum_k M.hd) (k:=fun v s5 w q5 M=>zk fun _ F=>?_))
  refine x_done F (results_2 rfl (zta F) (zta F)) ?_
  exact zfI M () (_,_) (⟨zI1,zI1⟩) (by rw [mpS,if_neg h2])
theorem end_k {id:Int} {n:Int} (hA:AT w [mB X b v D u]) (hu:u+8≤68718428160:=by omega) (h_id:i64ok id:=by exact zI6) (h_n:i64ok n:=by exact zI6) :
 Calls Tryz.prog 250 #[.pointer (some ⟨b,0,none⟩),.int .i64 id,.int .i64 n] w (PI X b v D u w (fun (r:Int) (s:Unit)=>.int .i64 r) (enF D id n).1 (enF D id n).2 (u+8) (fun (r:Int) (_:Unit)=>i64ok r)):=by
 have M:=St.start hA
 refine zE (f:=250) fun _ F=>?_
 refine l_op (kI F M (hc:=state_k M.hd) (k:=fun v s1 w q1 M=>zk fun _ F=>?_))
 refine zi F (fun h2=>?_) fun h2=>?_
 ·refine zr2 fun _ F=>?_
  refine x_done F (results_1 rfl (zta F)) ?_
  exact zfI M _ () zI1 (by rw [enF,if_pos h2])
 ·refine zr2 fun _ F=>?_
  refine l_op (kO F M (hc:=within_k M.nil.tb) (k:=fun s3 w q3 M=>zk fun _ F=>?_))
  refine zib F (fun h4=>?_) fun h4=>?_
  ·refine zr2 fun _ F=>?_
   refine x_done F (results_1 rfl (zta F)) ?_
   exact zfI M _ () zI1 (by rw [enF,if_neg h2,if_pos h4])
  ·have hi4:=inB_bd (nf h4);refine zr2 fun _ F=>?_
   refine l_op (kO F M (hc:=procKey_k M.nil.tb) (k:=fun s5 w q5 M=>zk fun _ F=>?_))
   refine l_op (kI F M (hc:=setNum_k M.hd) (k:=fun v s6 w q6 M=>zk fun _ F=>?_))
   refine l_op (kO F M (hc:=procKey_k M.nil.tb) (k:=fun s7 w q7 M=>zk fun _ F=>?_))
   refine l_op (kI F M (hc:=setNum_k M.hd) (k:=fun v s8 w q8 M=>zk fun _ F=>?_))
   refine x_done F (results_1 rfl (zta F)) ?_
   exact zfI M _ () zI1 (by rw [enF,if_neg h2,iFb h4])
theorem setTimer_k {id:Int} {n:Int} (hA:AT w [mB X b v D u]) (hu:u+2≤68718428160:=by omega) (h_id:i64ok id:=by exact zI6) (h_n:i64ok n:=by exact zI6) :
 Calls Tryz.prog 256 #[.pointer (some ⟨b,0,none⟩),.int .i64 id,.int .i64 n] w (PI X b v D u w (fun (r:Unit) (s:Int)=>.int .i64 s) () (tmS D id n) (u+2) (fun (_:Unit) (s:Int)=>i64ok s)):=by
 have M:=St.start hA
 refine zE (f:=256) fun _ F=>?_
 refine l_op (kO F M (hc:=within_k M.nil.tb) (k:=fun s1 w q1 M=>zk fun _ F=>?_))
 refine zib F (fun h2=>?_) fun h2=>?_
 ·refine zr2 fun _ F=>?_
  refine x_done F (results_1 rfl (zta F)) ?_
  exact zfI M () _ zI1 (by rw [tmS,if_pos h2])
 ·have hi2:=inB_bd (nf h2);refine zr2 fun _ F=>?_
  refine l_op (kO F M (hc:=keyNum_k M.nil.tb) (k:=fun s3 w q3 M=>zk fun _ F=>?_))
  refine l_op (kI F M (hc:=setNum_k M.hd) (k:=fun v s4 w q4 M=>zk fun _ F=>?_))
  refine x_done F (results_1 rfl (zta F)) ?_
  exact zfI M () _ zI1 (by rw [tmS,iFb h2])
theorem tick_k {n:Int} (hA:AT w [mB X b v D u]) (hu:u+4≤68718428160:=by omega) (h_n:i64ok n:=by exact zI6) :
 Calls Tryz.prog 257 #[.pointer (some ⟨b,0,none⟩),.int .i64 n] w (PI X b v D u w (fun (r:Unit) (s:Int × Int)=>.tuple #[.int .i64 s.1,.int .i64 s.2]) () (tkS D n) (u+4) (fun (_:Unit) (s:Int × Int)=>i64ok s.1∧i64ok s.2)):=by
 have M:=St.start hA
 refine zE (f:=257) fun _ F=>?_
 refine zi F (fun h1=>?_) fun h1=>?_
 ·refine zr2 fun _ F=>?_
  refine x_done F (results_2 rfl (zta F) (zta F)) ?_
  exact zfI M () (_,_) (⟨zI1,zI1⟩) (by rw [tkS,if_pos h1])
 ·refine zr2 fun _ F=>?_
  refine l_op (kI F M (hc:=num_k M.hd) (k:=fun v s2 w q2 M=>zk fun _ F=>?_))
  refine zi F (fun h3=>?_) fun h3=>?_
  ·refine zr2 fun _ F=>?_
   refine x_done F (results_2 rfl (zta F) (zta F)) ?_
   exact zfI M () (_,_) (⟨zI1,zI1⟩) (by rw [tkS,if_neg h1,if_pos h3])
  ·refine zr2 fun _ F=>?_
   refine l_op (kI F M (hc:=setNum_k M.hd) (k:=fun v s4 w q4 M=>zk fun _ F=>?_))
   refine l_op (kU F M (hc:=under_k M.hd) (k:=fun v s5 w q5 M=>zk fun _ F=>?_))
   have hq6:=q5.le
   have M:=M.ext (ks:=keysUnder (setS D (⟨#[99,47,99,108,111,99,107]⟩:ByteArray) (numI D (⟨#[99,47,99,108,111,99,107]⟩:ByteArray)+n)) (⟨#[116,47]⟩:ByteArray)) under_knw
   have F:=F.cut (m':=[(27,_),(7,_),(0,_),(4,_),(5,_),(11,_),(6,_),(17,_),(25,_),(26,_)]) rfl
   refine kLoop (γ:=(Nat × Nat) × MV) (slots:=fun g=>[(27,.int .i64 ((g.1.1:Nat):Int)),(7,.int .i64 ((g.1.2:Nat):Int))]) (LL:=fun g=>[owK s5 (keysUnder (setS D (⟨#[99,47,99,108,111,99,107]⟩:ByteArray) (numI D (⟨#[99,47,99,108,111,99,107]⟩:ByteArray)+n)) (⟨#[116,47]⟩:ByteArray)),mB (X.ext (keysUnder (setS D (⟨#[99,47,99,108,111,99,107]⟩:ByteArray) (numI D (⟨#[99,47,99,108,111,99,107]⟩:ByteArray)+n)) (⟨#[116,47]⟩:ByteArray))) b g.2 (tkA (numI D (⟨#[99,47,99,108,111,99,107]⟩:ByteArray)+n) ((keysUnder (setS D (⟨#[99,47,99,108,111,99,107]⟩:ByteArray) (numI D (⟨#[99,47,99,108,111,99,107]⟩:ByteArray)+n)) (⟨#[116,47]⟩:ByteArray)).take g.1.1) (setS D (⟨#[99,47,99,108,111,99,107]⟩:ByteArray) (numI D (⟨#[99,47,99,108,111,99,107]⟩:ByteArray)+n))) (u+3)]) (pr:=fun g=>g.1.1≤s5.n∧g.1.2≤g.1.1) (g0:=((0,0),v)) (fun g=>s5.n - g.1.1) F M (⟨Nat.zero_le _,Nat.le_refl _⟩) fun g a w F M hp=>?_
   refine zr2 fun _ F=>?_
   refine zi F (fun h7=>?_) fun h7=>?_
   ·refine zr2 fun _ F=>?_
    refine kEl (s:=s5) F M.at' ET_44 0 g.1.1 (by omega) (kk:=fun x8 _ hx8 ok8=>zk fun _ F=>?_)
    have hz8:=q5.sz _ (nth_mem hx8)
    have hg8:=begins_le (q5.bg _ (nth_mem hx8))
    refine l_op (kI2 F M (hc:=num_i M.hd2 (p0:=ext_knw hx8)) (k:=fun v s9 w q9 M=>zk fun _ F=>?_))
    refine zi F (fun h10=>?_) fun h10=>?_
    ·refine zr2 fun _ F=>?_
     exact lend ((g.1.1+1,g.1.2),v) (by dsimp only;omega) ⟨F.cut rfl,M.cast (by rw [← tkA_no hx8 h10]),by dsimp only;omega⟩
    ·refine zr2 fun _ F=>?_
     refine l_op (kI2 F M (hc:=lay_i (ext_knw hx8) (.inl rfl) M.hd2) (k:=fun v s11 w q11 M=>zk fun _ F=>?_))
     refine kSl F (2) (by first|omega|exact size_pos (by assumption)|(simp only [sz0,sz1,sz2] at *;omega)) (k:=fun he12=>zk fun _ F=>?_)
     refine l_op (kO F M (hc:=numOf_k M.nil.tb) (k:=fun s13 w q13 M=>zk fun _ F=>?_))
     refine l_op (kI2 F M (hc:=send_i M.hd2 (p0:=sgK_of (by assumption))) (k:=fun v s14 w q14 M=>zk fun _ F=>?_))
     exact lend ((g.1.1+1,g.1.2+1),v) (by dsimp only;omega) ⟨F.cut rfl,M.cast (by rw [← tkA_do hx8 h10]),by dsimp only;omega⟩
   ·refine zr2 fun _ F=>?_
    have M:=M.unext
    have M:=M.tail
    refine x_done F (results_2 rfl (zta F) (zta F)) ?_
    exact zfI M () (_,_) (⟨zI1,zI1⟩) (by rw [tkS,if_neg h1,if_neg h3,take_all q5.n h7])
end
set_option maxRecDepth 100000
set_option maxHeartbeats 1000000
section
set_option maxHeartbeats 8000000
variable {X:Uni} {w:World} {b u:Nat} {v:MV} {D:List CellD} {H:Nat→Prop}
theorem linkName_k {f:ByteArray} {t:ByteArray} (hA:AT w [mB X b v D u]) (hu:u+8≤68718428160:=by omega) (h_f:okS f:=by exact zI4) (h_t:okS t:=by exact zI4) :
 Calls Tryz.prog 240 #[.pointer (some ⟨b,0,none⟩),.string f,.string t] w (PI X b v D u w (fun (r:Unit) (s:Int)=>.int .i64 s) () (lkS D f t) (u+8) (fun (_:Unit) (s:Int)=>i64ok s)):=by
 have M:=St.start hA
 refine zE (f:=240) fun _ F=>?_
 refine l_op (kO F M (hc:=nameOk_k M.nil.tb) (k:=fun s1 w q1 M=>zk fun _ F=>?_))
 refine zGb F (fun h2 F=>?_) fun h2 F=>?_
 ·refine zr2 fun _ F=>?_
  refine x_done F (results_1 rfl (zta F)) ?_
  exact zfI M () _ zI1 (by rw [lkS,if_pos h2])
 ·have hi2:=nameOk_size (nf h2);refine zr2 fun _ F=>?_
  refine l_op (kO F M (hc:=nameOk_k M.nil.tb) (k:=fun s3 w q3 M=>zk fun _ F=>?_))
  refine zib F (fun h4=>?_) fun h4=>?_
  ·refine zr2 fun _ F=>?_
   refine x_done F (results_1 rfl (zta F)) ?_
   exact zfI M () _ zI1 (by rw [lkS,iFb h2,if_pos h4])
  ·have hi4:=nameOk_size (nf h4);refine zr2 fun _ F=>?_
   refine l_op (kI F M (hc:=fileOf_k M.hd) (k:=fun v s5 w q5 M=>zk fun _ F=>?_))
   refine zi F (fun h6=>?_) fun h6=>?_
   ·refine zr2 fun _ F=>?_
    refine x_done F (results_1 rfl (zta F)) ?_
    exact zfI M () _ zI1 (by rw [lkS,iFb h2,iFb h4,if_pos h6])
   ·refine zr2 fun _ F=>?_
    refine l_op (kI F M (hc:=fileOf_k M.hd) (k:=fun v s7 w q7 M=>zk fun _ F=>?_))
    refine zi F (fun h8=>?_) fun h8=>?_
    ·refine zr2 fun _ F=>?_
     refine x_done F (results_1 rfl (zta F)) ?_
     exact zfI M () _ zI1 (by rw [lkS,iFb h2,iFb h4,if_neg h6,if_pos h8])
    ·refine zr2 fun _ F=>?_
     refine l_op (kO F M (hc:=linksKey_k M.nil.tb) (k:=fun s9 w q9 M=>zk fun _ F=>?_))
     refine l_op (kI F M (hc:=num_k M.hd) (k:=fun v s10 w q10 M=>zk fun _ F=>?_))
     refine zi F (fun h11=>?_) fun h11=>?_
     ·refine zr2 fun _ F=>?_
      refine x_done F (results_1 rfl (zta F)) ?_
      exact zfI M () _ zI1 (by rw [lkS,iFb h2,iFb h4,if_neg h6,if_neg h8,if_pos h11])
     ·refine zr2 fun _ F=>?_
      refine l_op (kO F M (hc:=nameKey_k M.nil.tb) (k:=fun s12 w q12 M=>zk fun _ F=>?_))
      refine l_op (kI F M (hc:=setNum_k M.hd) (k:=fun v s13 w q13 M=>zk fun _ F=>?_))
      refine l_op (kO F M (hc:=linksKey_k M.nil.tb) (k:=fun s14 w q14 M=>zk fun _ F=>?_))
      refine l_op (kI F M (hc:=setNum_k M.hd) (k:=fun v s15 w q15 M=>zk fun _ F=>?_))
      refine x_done F (results_1 rfl (zta F)) ?_
      exact zfI M () _ zI1 (by rw [lkS,iFb h2,iFb h4,if_neg h6,if_neg h8,if_neg h11])
theorem putPipe_k {id:Int} {x:ByteArray} (hA:AT w [mB X b v D u]) (hu:u+8≤68718428160:=by omega) (h_id:i64ok id:=by exact zI6) (h_x:okS x:=by exact zI4) :
 Calls Tryz.prog 246 #[.pointer (some ⟨b,0,none⟩),.int .i64 id,.string x] w (PI X b v D u w (fun (r:Unit) (s:Int)=>.int .i64 s) () (ppS D id x) (u+8) (fun (_:Unit) (s:Int)=>i64ok s)):=by
 have M:=St.start hA
 refine zE (f:=246) fun _ F=>?_
 refine l_op (kI F M (hc:=isPipe_k M.hd) (k:=fun v s1 w q1 M=>zk fun _ F=>?_))
 refine zib F (fun h2=>?_) fun h2=>?_
 ·refine zr2 fun _ F=>?_
  refine x_done F (results_1 rfl (zta F)) ?_
  exact zfI M () _ zI1 (by rw [ppS,if_pos h2])
 ·refine zr2 fun _ F=>?_
  refine zi F (fun h3=>?_) fun h3=>?_
  ·refine zr2 fun _ F=>?_
   refine x_done F (results_1 rfl (zta F)) ?_
   exact zfI M () _ zI1 (by rw [ppS,iFb h2,if_pos h3])
  ·refine zr2 fun _ F=>?_
   refine l_op (kO F M (hc:=pipeKey_k M.nil.tb) (k:=fun s4 w q4 M=>zk fun _ F=>?_))
   refine l_op (kI F M (hc:=num_k M.hd) (k:=fun v s5 w q5 M=>zk fun _ F=>?_))
   refine l_op (kO F M (hc:=pipeKey_k M.nil.tb) (k:=fun s6 w q6 M=>zk fun _ F=>?_))
   refine l_op (kI F M (hc:=num_k M.hd) (k:=fun v s7 w q7 M=>zk fun _ F=>?_))
   refine zi F (fun h8=>?_) fun h8=>?_
   ·refine zr2 fun _ F=>?_
    refine x_done F (results_1 rfl (zta F)) ?_
    exact zfI M () _ zI1 (by rw [ppS,iFb h2,if_neg h3,if_pos h8])
   ·refine zr2 fun _ F=>?_
    refine zi F (fun h9=>?_) fun h9=>?_
    ·refine zr2 fun _ F=>?_
     refine x_done F (results_1 rfl (zta F)) ?_
     exact zfI M () _ zI1 (by rw [ppS,iFb h2,if_neg h3,if_neg h8,if_pos h9])
    ·refine zr2 fun _ F=>?_
     refine l_op (kO F M (hc:=pipeKey_k M.nil.tb) (k:=fun s10 w q10 M=>zk fun _ F=>?_))
     refine l_op (kI F M (hc:=setNum_k M.hd) (k:=fun v s11 w q11 M=>zk fun _ F=>?_))
     refine l_op (kO F M (hc:=pipeKey_k M.nil.tb) (k:=fun s12 w q12 M=>zk fun _ F=>?_))
     refine l_op (kO F M (hc:=keyNum_k M.nil.tb) (k:=fun s13 w q13 M=>zk fun _ F=>?_))
     refine l_op (kO F M (hc:=hexOf_k M.nil.tb) (k:=fun s14 w q14 M=>zk fun _ F=>?_))
     refine l_op (kI F M (hc:=lay_k nmp M.hd) (k:=fun v s15 w q15 M=>zk fun _ F=>?_))
     refine x_done F (results_1 rfl (zta F)) ?_
     exact zfI M () _ zI1 (by rw [ppS,iFb h2,if_neg h3,if_neg h8,if_neg h9])
theorem reap_k {p:Int} {id:Int} (hA:AT w [mB X b v D u]) (hu:u+8≤68718428160:=by omega) (h_p:i64ok p:=by exact zI6) (h_id:i64ok id:=by exact zI6) :
 Calls Tryz.prog 252 #[.pointer (some ⟨b,0,none⟩),.int .i64 p,.int .i64 id] w (PI X b v D u w (fun (r:Unit) (s:Int × Int)=>.tuple #[.int .i64 s.1,.int .i64 s.2]) () (rpS D p id) (u+8) (fun (_:Unit) (s:Int × Int)=>i64ok s.1∧i64ok s.2)):=by
 have M:=St.start hA
 refine zE (f:=252) fun _ F=>?_
 refine l_op (kO F M (hc:=procKey_k M.nil.tb) (k:=fun s1 w q1 M=>zk fun _ F=>?_))
 refine l_op (kI F M (hc:=num_k M.hd) (k:=fun v s2 w q2 M=>zk fun _ F=>?_))
 refine zG F (fun h3 F=>?_) fun h3 F=>?_
 ·refine zr2 fun _ F=>?_
  refine x_done F (results_2 rfl (zta F) (zta F)) ?_
  exact zfI M () (_,_) (⟨zI1,zI1⟩) (by rw [rpS,if_pos h3])
 ·refine zr2 fun _ F=>?_
  refine zi F (fun h4=>?_) fun h4=>?_
  ·refine zr2 fun _ F=>?_
   refine x_done F (results_2 rfl (zta F) (zta F)) ?_
   exact zfI M () (_,_) (⟨zI1,zI1⟩) (by rw [rpS,if_neg h3,if_pos h4])
  ·refine zr2 fun _ F=>?_
   refine l_op (kI F M (hc:=state_k M.hd) (k:=fun v s5 w q5 M=>zk fun _ F=>?_))
   refine zi F (fun h6=>?_) fun h6=>?_
   ·refine zr2 fun _ F=>?_
    refine x_done F (results_2 rfl (zta F) (zta F)) ?_
    exact zfI M () (_,_) (⟨zI1,zI1⟩) (by rw [rpS,if_neg h3,if_neg h4,if_pos h6])
   ·refine zr2 fun _ F=>?_
    refine zi F (fun h7=>?_) fun h7=>?_
    ·refine zr2 fun _ F=>?_
     refine l_op (kO F M (hc:=procKey_k M.nil.tb) (k:=fun s8 w q8 M=>zk fun _ F=>?_))
     refine l_op (kI F M (hc:=num_k M.hd) (k:=fun v s9 w q9 M=>zk fun _ F=>?_))
     refine l_op (kO F M (hc:=procKey_k M.nil.tb) (k:=fun s10 w q10 M=>zk fun _ F=>?_))
     refine l_op (kI F M (hc:=wipe_k M.hd) (k:=fun v s11 w q11 M=>zk fun _ F=>?_))
     refine x_done F (results_2 rfl (zta F) (zta F)) ?_
     exact zfI M () (_,_) (⟨zI1,zI1⟩) (by rw [rpS,if_neg h3,if_neg h4,if_neg h6,if_pos h7])
    ·refine zr2 fun _ F=>?_
     refine x_done F (results_2 rfl (zta F) (zta F)) ?_
     exact zfI M () (_,_) (⟨zI1,zI1⟩) (by rw [rpS,if_neg h3,if_neg h4,if_neg h6,if_neg h7])
theorem dropPages_k {id:Int} (hA:AT w [mB X b v D u]) (hu:u+1≤68718428160:=by omega) (h_id:i64ok id:=by exact zI6) :
 Calls Tryz.prog 251 #[.pointer (some ⟨b,0,none⟩),.int .i64 id] w (PI X b v D u w (fun (r:Unit) (s:Unit)=>.tuple #[]) () (wipeS D (kPg id)) (u+1) noq):=by
 have M:=St.start hA
 refine zE (f:=251) fun _ F=>?_
 refine l_op (kO F M (hc:=pagesKey_k M.nil.tb) (k:=fun s1 w q1 M=>zk fun _ F=>?_))
 refine l_op (kI F M (hc:=wipe_k M.hd) (k:=fun v s2 w q2 M=>zk fun _ F=>?_))
 refine x_done_end F (results_0 rfl) ?_
 exact zfI M () () (trivial) (rfl)
theorem loadPage_k {id:Int} {p:Int} (hA:AT w [mB X b v D u]) (hu:u+2≤68718428160:=by omega) (h_id:i64ok id:=by exact zI6) (h_p:i64ok p:=by exact zI6) :
 Calls Tryz.prog 259 #[.pointer (some ⟨b,0,none⟩),.int .i64 id,.int .i64 p] w (PI X b v D u w (fun (r:Unit) (s:ByteArray × Int)=>.tuple #[.string s.1,.int .i64 s.2]) () D (u+2) (fun (_:Unit) (s:ByteArray × Int)=>okS s.1∧i64ok s.2)):=by
 have M:=St.start hA
 refine zE (f:=259) fun _ F=>?_
 refine l_op (kO F M (hc:=within_k M.nil.tb) (k:=fun s1 w q1 M=>zk fun _ F=>?_))
 refine zib F (fun h2=>?_) fun h2=>?_
 ·refine zr2 fun _ F=>?_
  refine x_done F (results_2 rfl (zta F) (zta F)) ?_
  exact zfI M () (_,_) (⟨by first|assumption|exact zU,by unfold i64ok;omega⟩) (rfl)
 ·have hi2:=inB_bd (nf h2);refine zr2 fun _ F=>?_
  refine l_op (kO F M (hc:=pagesKey_k M.nil.tb) (k:=fun s3 w q3 M=>zk fun _ F=>?_))
  refine l_op (kO F M (hc:=keyNum_k M.nil.tb) (k:=fun s4 w q4 M=>zk fun _ F=>?_))
  refine l_op (kI F M (hc:=message_k M.hd) (k:=fun v s5 w q5 M=>zk fun _ F=>?_))
  refine x_done F (results_2 rfl (zta F) (zta F)) ?_
  exact zfI M () (_,_) (⟨by first|assumption|exact zU,by unfold i64ok;omega⟩) (rfl)
end
set_option maxRecDepth 100000
set_option maxHeartbeats 1000000
section
set_option maxHeartbeats 8000000
variable {X:Uni} {w:World} {b u:Nat} {v:MV} {D:List CellD} {H:Nat→Prop}
theorem unlinkName_k {f:ByteArray} (hA:AT w [mB X b v D u]) (hu:u+8≤68718428160:=by omega) (h_f:okS f:=by exact zI4) :
 Calls Tryz.prog 241 #[.pointer (some ⟨b,0,none⟩),.string f] w (PI X b v D u w (fun (r:Unit) (s:Int)=>.int .i64 s) () (ulS D f) (u+8) (fun (_:Unit) (s:Int)=>i64ok s)):=by
 have M:=St.start hA
 refine zE (f:=241) fun _ F=>?_
 refine l_op (kO F M (hc:=nameOk_k M.nil.tb) (k:=fun s1 w q1 M=>zk fun _ F=>?_))
 refine zib F (fun h2=>?_) fun h2=>?_
 ·refine zr2 fun _ F=>?_
  refine x_done F (results_1 rfl (zta F)) ?_
  exact zfI M () _ zI1 (by rw [ulS,if_pos h2])
 ·have hi2:=nameOk_size (nf h2);refine zr2 fun _ F=>?_
  refine l_op (kI F M (hc:=fileOf_k M.hd) (k:=fun v s3 w q3 M=>zk fun _ F=>?_))
  refine zi F (fun h4=>?_) fun h4=>?_
  ·refine zr2 fun _ F=>?_
   refine x_done F (results_1 rfl (zta F)) ?_
   exact zfI M () _ zI1 (by rw [ulS,iFb h2,if_pos h4])
  ·refine zr2 fun _ F=>?_
   refine l_op (kO F M (hc:=nameKey_k M.nil.tb) (k:=fun s5 w q5 M=>zk fun _ F=>?_))
   refine l_op (kI F M (hc:=lay_k nmp M.hd) (k:=fun v s6 w q6 M=>zk fun _ F=>?_))
   refine l_op (kO F M (hc:=linksKey_k M.nil.tb) (k:=fun s7 w q7 M=>zk fun _ F=>?_))
   refine l_op (kI F M (hc:=num_k M.hd) (k:=fun v s8 w q8 M=>zk fun _ F=>?_))
   refine zi F (fun h9=>?_) fun h9=>?_
   ·refine zr2 fun _ F=>?_
    refine l_op (kO F M (hc:=linksKey_k M.nil.tb) (k:=fun s10 w q10 M=>zk fun _ F=>?_))
    refine l_op (kI F M (hc:=setNum_k M.hd) (k:=fun v s11 w q11 M=>zk fun _ F=>?_))
    refine x_done F (results_1 rfl (zta F)) ?_
    exact zfI M () _ zI1 (by rw [ulS,iFb h2,if_neg h4,if_pos h9])
   ·refine zr2 fun _ F=>?_
    refine l_op (kO F M (hc:=keyNum_k M.nil.tb) (k:=fun s12 w q12 M=>zk fun _ F=>?_))
    refine l_op (kI F M (hc:=wipe_k M.hd) (k:=fun v s13 w q13 M=>zk fun _ F=>?_))
    refine x_done F (results_1 rfl (zta F)) ?_
    exact zfI M () _ zI1 (by rw [ulS,iFb h2,if_neg h4,if_neg h9])
theorem takePipe_k {id:Int} (hA:AT w [mB X b v D u]) (hu:u+8≤68718428160:=by omega) (h_id:i64ok id:=by exact zI6) :
 Calls Tryz.prog 247 #[.pointer (some ⟨b,0,none⟩),.int .i64 id] w (PI X b v D u w (fun (r:Unit) (s:ByteArray × Int)=>.tuple #[.string s.1,.int .i64 s.2]) () (tpS D id) (u+8) (fun (_:Unit) (s:ByteArray × Int)=>okS s.1∧i64ok s.2)):=by
 have M:=St.start hA
 refine zE (f:=247) fun _ F=>?_
 refine l_op (kI F M (hc:=isPipe_k M.hd) (k:=fun v s1 w q1 M=>zk fun _ F=>?_))
 refine zib F (fun h2=>?_) fun h2=>?_
 ·refine zr2 fun _ F=>?_
  refine x_done F (results_2 rfl (zta F) (zta F)) ?_
  exact zfI M () (_,_) (⟨by first|assumption|exact zU,by unfold i64ok;omega⟩) (by rw [tpS,if_pos h2])
 ·refine zr2 fun _ F=>?_
  refine l_op (kO F M (hc:=pipeKey_k M.nil.tb) (k:=fun s3 w q3 M=>zk fun _ F=>?_))
  refine l_op (kI F M (hc:=num_k M.hd) (k:=fun v s4 w q4 M=>zk fun _ F=>?_))
  refine l_op (kO F M (hc:=pipeKey_k M.nil.tb) (k:=fun s5 w q5 M=>zk fun _ F=>?_))
  refine l_op (kI F M (hc:=num_k M.hd) (k:=fun v s6 w q6 M=>zk fun _ F=>?_))
  refine zi F (fun h7=>?_) fun h7=>?_
  ·refine zr2 fun _ F=>?_
   refine x_done F (results_2 rfl (zta F) (zta F)) ?_
   exact zfI M () (_,_) (⟨by first|assumption|exact zU,by unfold i64ok;omega⟩) (by rw [tpS,iFb h2,if_pos h7])
  ·refine zr2 fun _ F=>?_
   refine l_op (kO F M (hc:=pipeKey_k M.nil.tb) (k:=fun s8 w q8 M=>zk fun _ F=>?_))
   refine l_op (kO F M (hc:=keyNum_k M.nil.tb) (k:=fun s9 w q9 M=>zk fun _ F=>?_))
   refine l_op (kI F M (hc:=message_k M.hd) (k:=fun v s10 w q10 M=>zk fun _ F=>?_))
   refine l_op (kI F M (hc:=lay_k nmp M.hd) (k:=fun v s11 w q11 M=>zk fun _ F=>?_))
   refine l_op (kO F M (hc:=pipeKey_k M.nil.tb) (k:=fun s12 w q12 M=>zk fun _ F=>?_))
   refine l_op (kI F M (hc:=setNum_k M.hd) (k:=fun v s13 w q13 M=>zk fun _ F=>?_))
   refine x_done F (results_2 rfl (zta F) (zta F)) ?_
   exact zfI M () (_,_) (⟨by first|assumption|exact zU,by unfold i64ok;omega⟩) (by rw [tpS,iFb h2,if_neg h7])
theorem send_k {id:Int} {n:Int} (hA:AT w [mB X b v D u]) (hu:u+8≤68718428160:=by omega) (h_id:i64ok id:=by exact zI6) (h_n:i64ok n:=by exact zI6) :
 Calls Tryz.prog 254 #[.pointer (some ⟨b,0,none⟩),.int .i64 id,.int .i64 n] w (PI X b v D u w (fun (r:Unit) (s:Int)=>.int .i64 s) () (sgS D id n) (u+8) (fun (_:Unit) (s:Int)=>i64ok s)):=by
 have M:=St.start hA
 refine zE (f:=254) fun _ F=>?_
 refine l_op (kI F M (hc:=state_k M.hd) (k:=fun v s1 w q1 M=>zk fun _ F=>?_))
 refine zi F (fun h2=>?_) fun h2=>?_
 ·refine zr2 fun _ F=>?_
  refine x_done F (results_1 rfl (zta F)) ?_
  exact zfI M () _ zI1 (by rw [sgS,if_pos h2])
 ·refine zr2 fun _ F=>?_
  refine l_op (kO F M (hc:=within_k M.nil.tb) (k:=fun s3 w q3 M=>zk fun _ F=>?_))
  refine zib F (fun h4=>?_) fun h4=>?_
  ·refine zr2 fun _ F=>?_
   refine x_done F (results_1 rfl (zta F)) ?_
   exact zfI M () _ zI1 (by rw [sgS,if_neg h2,if_pos h4])
  ·have hi4:=inB_bd (nf h4);refine zr2 fun _ F=>?_
   refine l_op (kO F M (hc:=signalKey_k M.nil.tb) (k:=fun s5 w q5 M=>zk fun _ F=>?_))
   refine l_op (kI F M (hc:=num_k M.hd) (k:=fun v s6 w q6 M=>zk fun _ F=>?_))
   refine l_op (kO F M (hc:=signalKey_k M.nil.tb) (k:=fun s7 w q7 M=>zk fun _ F=>?_))
   refine l_op (kI F M (hc:=num_k M.hd) (k:=fun v s8 w q8 M=>zk fun _ F=>?_))
   refine zi F (fun h9=>?_) fun h9=>?_
   ·refine zr2 fun _ F=>?_
    refine x_done F (results_1 rfl (zta F)) ?_
    exact zfI M () _ zI1 (by rw [sgS,if_neg h2,iFb h4,if_pos h9])
   ·refine zr2 fun _ F=>?_
    refine zi F (fun h10=>?_) fun h10=>?_
    ·refine zr2 fun _ F=>?_
     refine x_done F (results_1 rfl (zta F)) ?_
     exact zfI M () _ zI1 (by rw [sgS,if_neg h2,iFb h4,if_neg h9,if_pos h10])
    ·refine zr2 fun _ F=>?_
     refine l_op (kO F M (hc:=signalKey_k M.nil.tb) (k:=fun s11 w q11 M=>zk fun _ F=>?_))
     refine l_op (kI F M (hc:=setNum_k M.hd) (k:=fun v s12 w q12 M=>zk fun _ F=>?_))
     refine l_op (kO F M (hc:=signalKey_k M.nil.tb) (k:=fun s13 w q13 M=>zk fun _ F=>?_))
     refine l_op (kO F M (hc:=keyNum_k M.nil.tb) (k:=fun s14 w q14 M=>zk fun _ F=>?_))
     refine l_op (kI F M (hc:=setNum_k M.hd) (k:=fun v s15 w q15 M=>zk fun _ F=>?_))
     refine x_done F (results_1 rfl (zta F)) ?_
     exact zfI M () _ zI1 (by rw [sgS,if_neg h2,iFb h4,if_neg h9,if_neg h10])
theorem putOut_k {x:ByteArray} (hA:AT w [mB X b v D u]) (hu:u+8≤68718428160:=by omega) (h_x:okS x:=by exact zI4) :
 Calls Tryz.prog 260 #[.pointer (some ⟨b,0,none⟩),.string x] w (PI X b v D u w (fun (r:Unit) (s:Int)=>.int .i64 s) () (poS D x) (u+8) (fun (_:Unit) (s:Int)=>i64ok s)):=by
 have hzx:=h_x
 unfold okS at hzx
 have M:=St.start hA
 refine zE (f:=260) fun _ F=>?_
 refine l_op (kO F M (hc:=within_k M.nil.tb) (k:=fun s1 w q1 M=>zk fun _ F=>?_))
 refine zib F (fun h2=>?_) fun h2=>?_
 ·refine zr2 fun _ F=>?_
  refine x_done F (results_1 rfl (zta F)) ?_
  exact zfI M () _ zI1 (by rw [poS,if_pos h2])
 ·have hi2:=inB_bd (nf h2);refine zr2 fun _ F=>?_
  refine l_op (kI F M (hc:=num_k M.hd) (k:=fun v s3 w q3 M=>zk fun _ F=>?_))
  refine zi F (fun h4=>?_) fun h4=>?_
  ·refine zr2 fun _ F=>?_
   refine x_done F (results_1 rfl (zta F)) ?_
   exact zfI M () _ zI1 (by rw [poS,iFb h2,if_pos h4])
  ·refine zr2 fun _ F=>?_
   refine l_op (kI F M (hc:=setNum_k M.hd) (k:=fun v s5 w q5 M=>zk fun _ F=>?_))
   refine l_op (kO F M (hc:=keyNum_k M.nil.tb) (k:=fun s6 w q6 M=>zk fun _ F=>?_))
   refine l_op (kO F M (hc:=hexOf_k M.nil.tb) (k:=fun s7 w q7 M=>zk fun _ F=>?_))
   refine l_op (kI F M (hc:=lay_k nmp M.hd) (k:=fun v s8 w q8 M=>zk fun _ F=>?_))
   refine x_done F (results_1 rfl (zta F)) ?_
   exact zfI M () _ zI1 (by rw [poS,iFb h2,if_neg h4])
theorem storePage_k {p:Int} {x:ByteArray} (hA:AT w [mB X b v D u]) (hu:u+2≤68718428160:=by omega) (hi64:i64ok X.P:=by assumption) (h_p:i64ok p:=by exact zI6) (h_x:okS x:=by exact zI4) :
 Calls Tryz.prog 258 #[.pointer (some ⟨b,0,none⟩),.int .i64 X.P,.int .i64 p,.string x] w (PI X b v D u w (fun (r:Unit) (s:Int)=>.int .i64 s) () (gpS D X.P p x) (u+2) (fun (_:Unit) (s:Int)=>i64ok s)):=by
 have M:=St.start hA
 refine zE (f:=258) fun _ F=>?_
 refine l_op (kO F M (hc:=within_k M.nil.tb) (k:=fun s1 w q1 M=>zk fun _ F=>?_))
 refine zGb F (fun h2 F=>?_) fun h2 F=>?_
 ·refine zr2 fun _ F=>?_
  refine x_done F (results_1 rfl (zta F)) ?_
  exact zfI M () _ zI1 (by rw [gpS,if_pos h2])
 ·have hi2:=inB_bd (nf h2);refine zr2 fun _ F=>?_
  refine zi F (fun h3=>?_) fun h3=>?_
  ·refine zr2 fun _ F=>?_
   refine x_done F (results_1 rfl (zta F)) ?_
   exact zfI M () _ zI1 (by rw [gpS,iFb h2,if_pos h3])
  ·refine zr2 fun _ F=>?_
   refine zi F (fun h4=>?_) fun h4=>?_
   ·refine zr2 fun _ F=>?_
    refine l_op (kO F M (hc:=hexOf_k M.nil.tb) (k:=fun s5 w q5 M=>zk fun _ F=>?_))
    refine l_op (kO F M (hc:=pagesKey_k M.nil.tb) (k:=fun s6 w q6 M=>zk fun _ F=>?_))
    refine l_op (kO F M (hc:=keyNum_k M.nil.tb) (k:=fun s7 w q7 M=>zk fun _ F=>?_))
    refine l_op (kI F M (hc:=lay_k (pg_npg (by assumption)) M.hd) (k:=fun v s8 w q8 M=>zk fun _ F=>?_))
    refine x_done F (results_1 rfl (zta F)) ?_
    exact zfI M () _ zI1 (by rw [gpS,iFb h2,if_neg h3,if_neg h4])
   ·refine zr2 fun _ F=>?_
    refine l_op (kO F M (hc:=pagesKey_k M.nil.tb) (k:=fun s9 w q9 M=>zk fun _ F=>?_))
    refine l_op (kO F M (hc:=keyNum_k M.nil.tb) (k:=fun s10 w q10 M=>zk fun _ F=>?_))
    refine l_op (kI F M (hc:=lay_k (pg_npg (by assumption)) M.hd) (k:=fun v s11 w q11 M=>zk fun _ F=>?_))
    refine x_done F (results_1 rfl (zta F)) ?_
    exact zfI M () _ zI1 (by rw [gpS,iFb h2,if_neg h3,if_pos (Decidable.not_not.1 h4)])
end
set_option maxRecDepth 100000
set_option maxHeartbeats 1000000
section
set_option maxHeartbeats 8000000
variable {X:Uni} {w:World} {b u:Nat} {v:MV} {D:List CellD} {H:Nat→Prop}
theorem spawn_k {p:Int} (hA:AT w [mB X b v D u]) (hu:u+8≤68718428160:=by omega) (h_p:i64ok p:=by exact zI6) :
 Calls Tryz.prog 248 #[.pointer (some ⟨b,0,none⟩),.int .i64 p] w (PI X b v D u w (fun (r:Int × Int) (s:Unit)=>.tuple #[.int .i64 r.1,.int .i64 r.2]) (spF D p).1 (spF D p).2 (u+8) (fun (r:Int × Int) (_:Unit)=>i64ok r.1∧i64ok r.2)):=by
 have M:=St.start hA
 refine zE (f:=248) fun _ F=>?_
 refine l_op (kI F M (hc:=num_k M.hd) (k:=fun v s1 w q1 M=>zk fun _ F=>?_))
 refine zi F (fun h2=>?_) fun h2=>?_
 ·refine zr2 fun _ F=>?_
  refine x_done F (results_2 rfl (zta F) (zta F)) ?_
  exact zfI M (_,_) () (⟨zI1,zI1⟩) (by rw [spF,if_pos h2])
 ·refine zr2 fun _ F=>?_
  refine l_op (kI F M (hc:=bump_k M.hd) (k:=fun v s3 w q3 M=>zk fun _ F=>?_))
  refine l_op (kO F M (hc:=procKey_k M.nil.tb) (k:=fun s4 w q4 M=>zk fun _ F=>?_))
  refine l_op (kI F M (hc:=setNum_k M.hd) (k:=fun v s5 w q5 M=>zk fun _ F=>?_))
  refine l_op (kO F M (hc:=procKey_k M.nil.tb) (k:=fun s6 w q6 M=>zk fun _ F=>?_))
  refine l_op (kI F M (hc:=setNum_k M.hd) (k:=fun v s7 w q7 M=>zk fun _ F=>?_))
  refine x_done F (results_2 rfl (zta F) (zta F)) ?_
  exact zfI M (_,_) () (⟨zI1,zI1⟩) (by rw [spF,if_neg h2])
theorem takeSignal_k {id:Int} (hA:AT w [mB X b v D u]) (hu:u+8≤68718428160:=by omega) (h_id:i64ok id:=by exact zI6) :
 Calls Tryz.prog 255 #[.pointer (some ⟨b,0,none⟩),.int .i64 id] w (PI X b v D u w (fun (r:Unit) (s:Int × Int)=>.tuple #[.int .i64 s.1,.int .i64 s.2]) () (tsS D id) (u+8) (fun (_:Unit) (s:Int × Int)=>i64ok s.1∧i64ok s.2)):=by
 have M:=St.start hA
 refine zE (f:=255) fun _ F=>?_
 refine l_op (kO F M (hc:=signalKey_k M.nil.tb) (k:=fun s1 w q1 M=>zk fun _ F=>?_))
 refine l_op (kI F M (hc:=num_k M.hd) (k:=fun v s2 w q2 M=>zk fun _ F=>?_))
 refine l_op (kO F M (hc:=signalKey_k M.nil.tb) (k:=fun s3 w q3 M=>zk fun _ F=>?_))
 refine l_op (kI F M (hc:=num_k M.hd) (k:=fun v s4 w q4 M=>zk fun _ F=>?_))
 refine zi F (fun h5=>?_) fun h5=>?_
 ·refine zr2 fun _ F=>?_
  refine x_done F (results_2 rfl (zta F) (zta F)) ?_
  exact zfI M () (_,_) (⟨zI1,zI1⟩) (by rw [tsS,if_pos h5])
 ·refine zr2 fun _ F=>?_
  refine l_op (kO F M (hc:=signalKey_k M.nil.tb) (k:=fun s6 w q6 M=>zk fun _ F=>?_))
  refine l_op (kO F M (hc:=keyNum_k M.nil.tb) (k:=fun s7 w q7 M=>zk fun _ F=>?_))
  refine l_op (kI F M (hc:=num_k M.hd) (k:=fun v s8 w q8 M=>zk fun _ F=>?_))
  refine l_op (kI F M (hc:=lay_k nmp M.hd) (k:=fun v s9 w q9 M=>zk fun _ F=>?_))
  refine l_op (kO F M (hc:=signalKey_k M.nil.tb) (k:=fun s10 w q10 M=>zk fun _ F=>?_))
  refine l_op (kI F M (hc:=setNum_k M.hd) (k:=fun v s11 w q11 M=>zk fun _ F=>?_))
  refine x_done F (results_2 rfl (zta F) (zta F)) ?_
  exact zfI M () (_,_) (⟨zI1,zI1⟩) (by rw [tsS,if_neg h5])
theorem fork_k {t:Int} (hA:AT w [mB X b v D u]) (hu:u+1≤68718428160:=by omega) (hi64:i64ok X.P:=by assumption) (h_t:i64ok t:=by exact zI6) (p0:1≤t∧t≤12:=by assumption) :
 Calls Tryz.prog 249 #[.pointer (some ⟨b,0,none⟩),.int .i64 X.P,.int .i64 t] w (PI X b v D u w (fun (r:Unit) (s:Unit)=>.tuple #[]) () (fkS D X.P t) (u+1) noq):=by
 have M:=St.start hA
 refine zE (f:=249) fun _ F=>?_
 have hps:=M.pgS
 have hzt:(kPg t).size≤1000:=ksz h_t (by decide)
 refine l_op (kO F M (hc:=pagesKey_k M.nil.tb) (k:=fun s1 w q1 M=>zk fun _ F=>?_))
 refine l_op (kU F M (hc:=under_k M.hd) (k:=fun v s2 w q2 M=>zk fun _ F=>?_))
 have hq3:=q2.le
 have M:=M.ext (ks:=keysUnder D (kPg X.P)) under_knw
 have F:=F.cut (m':=[(13,_),(0,_),(1,_),(2,_),(11,_),(12,_)]) rfl
 refine kLoop (γ:=Nat × MV) (slots:=fun g=>[(13,.int .i64 ((g.1:Nat):Int))]) (LL:=fun g=>[owK s2 (keysUnder D (kPg X.P)),mB (X.ext (keysUnder D (kPg X.P))) b g.2 (fkA (kPg X.P) (kPg t) ((keysUnder D (kPg X.P)).take g.1) D) (u+1)]) (pr:=fun g=>g.1≤s2.n) (g0:=(0,v)) (fun g=>s2.n - g.1) F M (Nat.zero_le _) fun g a w F M hp=>?_
 refine zr2 fun _ F=>?_
 refine zi F (fun h4=>?_) fun h4=>?_
 ·refine zr2 fun _ F=>?_
  refine kEl (s:=s2) F M.at' ET_44 0 g.1 (by omega) (kk:=fun x5 _ hx5 ok5=>zk fun _ F=>?_)
  have hz5:=q2.sz _ (nth_mem hx5)
  have hg5:=begins_le (q2.bg _ (nth_mem hx5))
  refine x_rdM [] [] [] [0,1,3,4,9,10,2,5,6,7,8,11,12] M (HdK.none HdS.nil) mixed (by kernel_rfl) fun w M hS=>?_
  refine zr2 fun _ F=>?_
  refine n_op rfl rfl (kOm F M (hc:=pagesKey_k M.nil.tb) (k:=fun s6 w q6 m M=>kB m (zkN fun _ F=>?_)))
  refine n_op rfl rfl (kOm F M (hc:=pagesKey_k M.nil.tb) (k:=fun s7 w q7 m M=>kB m (zkN fun _ F=>?_)))
  refine nSl F ((kPg X.P).size) (by first|omega|exact size_pos (by assumption)|(simp only [sz0,sz1,sz2] at *;omega)) (k:=fun he8=>zkN fun _ F=>?_)
  refine n_op rfl rfl (kI2 F M (hc:=look_i (ext_knw hx5) M.hd2) (k:=fun v s9 w q9 M=>kF (zkN fun _ F=>?_)))
  refine n_op rfl rfl (kI2 F M (hc:=lay_i (fk_knw p0 (hps _ (nth_mem hx5))) (.inr (fk_npg p0 (hps _ (nth_mem hx5)))) M.hd2) (k:=fun v s10 w q10 M=>kF (zkN fun _ F=>?_)))
  exact lend (g.1+1,v) (by dsimp only;omega) ⟨F.cut rfl,M.cast (by rw [← fkA_step hx5]),by dsimp only;omega⟩
 ·refine zr2 fun _ F=>?_
  have M:=M.unext
  have M:=M.tail
  refine x_done_end F (results_0 rfl) ?_
  exact zfI M () () (trivial) (by rw [fkS,take_all q2.n h4])
end
set_option maxRecDepth 100000
set_option maxHeartbeats 1000000
section
set_option maxHeartbeats 8000000
variable {X:Uni} {w:World} {b u:Nat} {v:MV} {D:List CellD} {H:Nat→Prop}
theorem renameName_k {f:ByteArray} {t:ByteArray} (hA:AT w [mB X b v D u]) (hu:u+20≤68718428160:=by omega) (h_f:okS f:=by exact zI4) (h_t:okS t:=by exact zI4) :
 Calls Tryz.prog 242 #[.pointer (some ⟨b,0,none⟩),.string f,.string t] w (PI X b v D u w (fun (r:Unit) (s:Int)=>.int .i64 s) () (rnS D f t) (u+20) (fun (_:Unit) (s:Int)=>i64ok s)):=by
 have M:=St.start hA
 refine zE (f:=242) fun _ F=>?_
 refine l_op (kO F M (hc:=nameOk_k M.nil.tb) (k:=fun s1 w q1 M=>zk fun _ F=>?_))
 refine zGb F (fun h2 F=>?_) fun h2 F=>?_
 ·refine zr2 fun _ F=>?_
  refine x_done F (results_1 rfl (zta F)) ?_
  exact zfI M () _ zI1 (by rw [rnS,if_pos h2])
 ·have hi2:=nameOk_size (nf h2);refine zr2 fun _ F=>?_
  refine l_op (kO F M (hc:=nameOk_k M.nil.tb) (k:=fun s3 w q3 M=>zk fun _ F=>?_))
  refine zib F (fun h4=>?_) fun h4=>?_
  ·refine zr2 fun _ F=>?_
   refine x_done F (results_1 rfl (zta F)) ?_
   exact zfI M () _ zI1 (by rw [rnS,iFb h2,if_pos h4])
  ·have hi4:=nameOk_size (nf h4);refine zr2 fun _ F=>?_
   refine l_op (kI F M (hc:=fileOf_k M.hd) (k:=fun v s5 w q5 M=>zk fun _ F=>?_))
   refine zi F (fun h6=>?_) fun h6=>?_
   ·refine zr2 fun _ F=>?_
    refine x_done F (results_1 rfl (zta F)) ?_
    exact zfI M () _ zI1 (by rw [rnS,iFb h2,iFb h4,if_pos h6])
   ·refine zr2 fun _ F=>?_
    refine l_op (kI F M (hc:=fileOf_k M.hd) (k:=fun v s7 w q7 M=>zk fun _ F=>?_))
    refine zi F (fun h8=>?_) fun h8=>?_
    ·refine zr2 fun _ F=>?_
     refine x_done F (results_1 rfl (zta F)) ?_
     exact zfI M () _ zI1 (by rw [rnS,iFb h2,iFb h4,if_neg h6,if_pos h8])
    ·refine zr2 fun _ F=>?_
     refine zi F (fun h9=>?_) fun h9=>?_
     ·refine zr2 fun _ F=>?_
      refine l_op (kI F M (hc:=unlinkName_k M.hd) (k:=fun v s10 w q10 M=>zk fun _ F=>?_))
      refine l_op (kO F M (hc:=nameKey_k M.nil.tb) (k:=fun s11 w q11 M=>zk fun _ F=>?_))
      refine l_op (kI F M (hc:=setNum_k M.hd) (k:=fun v s12 w q12 M=>zk fun _ F=>?_))
      refine l_op (kO F M (hc:=nameKey_k M.nil.tb) (k:=fun s13 w q13 M=>zk fun _ F=>?_))
      refine l_op (kI F M (hc:=lay_k nmp M.hd) (k:=fun v s14 w q14 M=>zk fun _ F=>?_))
      refine x_done F (results_1 rfl (zta F)) ?_
      exact zfI M () _ zI1 (by rw [rnS,iFb h2,iFb h4,if_neg h6,if_neg h8,if_pos h9])
     ·refine zr2 fun _ F=>?_
      refine l_op (kO F M (hc:=nameKey_k M.nil.tb) (k:=fun s15 w q15 M=>zk fun _ F=>?_))
      refine l_op (kI F M (hc:=setNum_k M.hd) (k:=fun v s16 w q16 M=>zk fun _ F=>?_))
      refine l_op (kO F M (hc:=nameKey_k M.nil.tb) (k:=fun s17 w q17 M=>zk fun _ F=>?_))
      refine l_op (kI F M (hc:=lay_k nmp M.hd) (k:=fun v s18 w q18 M=>zk fun _ F=>?_))
      refine x_done F (results_1 rfl (zta F)) ?_
      exact zfI M () _ zI1 (by rw [rnS,iFb h2,iFb h4,if_neg h6,if_neg h8,if_neg h9])
end
end Go.Proofs.YtipdbeklopjbmaaGreatDoor
