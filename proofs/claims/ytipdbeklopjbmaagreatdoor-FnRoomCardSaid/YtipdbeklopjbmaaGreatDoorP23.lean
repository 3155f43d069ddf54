/-
  Texts laid together: KaJ1, KaJ2, KaJ3, KaJ4.
-/
import Derived.Test.YtipdbeklopjbmaaGreatDoorP22
set_option linter.unusedVariables false
set_option linter.unusedSimpArgs false
namespace Go.Proofs.YtipdbeklopjbmaaGreatDoor
open Go.ChangeShapes Go.WideShapes Go.ChangeAt Go.RowKit Go.Proofs.Tryz
set_option maxRecDepth 100000
set_option maxHeartbeats 1000000
section
set_option maxHeartbeats 8000000
variable {X:Uni} {w:World} {b u:Nat} {v:MV} {D:List CellD} {H:Nat→Prop}
theorem Jeg {f:ByteArray} {t:ByteArray} (hA:AT w [mB X b v D u]) (hu:u+8≤68718428160:=by omega) (h_f:okS f:=by exact yi) (h_t:okS t:=by exact yi) :
 Calls prog 240 #[pT b,.string f,.string t] w (PI X b v D u w (fun (r:Unit) (s:Int)=>iV s) () (lkS D f t) (u+8) (fun (_:Unit) (s:Int)=>J1 s)):=by
 have M:=St.start hA
 refine zE (f:=240) fun _ F=>?_
 refine J0 (kO F M (hc:=J3x M.nil.tb) (k:=fun s1 w q1 M=>zk fun _ F=>?_))
 refine zGb F (fun h2 F=>?_) fun h2 F=>?_
 ·refine zr2 fun _ F=>?_
  refine zd1 F ?_
  exact zfI M () _ ya (by rw [lkS,if_pos h2])
 have hi2:=J1m (nf h2);refine zr2 fun _ F=>?_
 refine J0 (kO F M (hc:=J3x M.nil.tb) (k:=fun s3 w q3 M=>zk fun _ F=>?_))
 refine zib F (fun h4=>?_) fun h4=>?_
 ·refine zr2 fun _ F=>?_
  refine zd1 F ?_
  exact zfI M () _ ya (by rw [lkS,iFb h2,if_pos h4])
 have hi4:=J1m (nf h4);refine zr2 fun _ F=>?_
 refine J0 (kI F M (hc:=J3u M.hd) (k:=fun v s5 w q5 M=>zk fun _ F=>?_))
 refine zi F (fun h6=>?_) fun h6=>?_
 ·refine zr2 fun _ F=>?_
  refine zd1 F ?_
  exact zfI M () _ ya (by rw [lkS,iFb h2,iFb h4,if_pos h6])
 refine zr2 fun _ F=>?_
 refine J0 (kI F M (hc:=J3u M.hd) (k:=fun v s7 w q7 M=>zk fun _ F=>?_))
 refine zi F (fun h8=>?_) fun h8=>?_
 ·refine zr2 fun _ F=>?_
  refine zd1 F ?_
  exact zfI M () _ ya (by rw [lkS,iFb h2,iFb h4,if_neg h6,if_pos h8])
 refine zr2 fun _ F=>?_
 refine J0 (kO F M (hc:=J4r M.nil.tb) (k:=fun s9 w q9 M=>zk fun _ F=>?_))
 refine J0 (kI F M (hc:=J0u M.hd) (k:=fun v s10 w q10 M=>zk fun _ F=>?_))
 refine zi F (fun h11=>?_) fun h11=>?_
 ·refine zr2 fun _ F=>?_
  refine zd1 F ?_
  exact zfI M () _ ya (by rw [lkS,iFb h2,iFb h4,if_neg h6,if_neg h8,if_pos h11])
 refine zr2 fun _ F=>?_
 refine J0 (kO F M (hc:=J30 M.nil.tb) (k:=fun s12 w q12 M=>zk fun _ F=>?_))
 refine J0 (kI F M (hc:=J0B M.hd) (k:=fun v s13 w q13 M=>zk fun _ F=>?_))
 refine J0 (kO F M (hc:=J4r M.nil.tb) (k:=fun s14 w q14 M=>zk fun _ F=>?_))
 refine J0 (kI F M (hc:=J0B M.hd) (k:=fun v s15 w q15 M=>zk fun _ F=>?_))
 refine zd1 F ?_
 exact zfI M () _ ya (by rw [lkS,iFb h2,iFb h4,if_neg h6,if_neg h8,if_neg h11])
theorem Jf5 {id:Int} {x:ByteArray} (hA:AT w [mB X b v D u]) (hu:u+8≤68718428160:=by omega) (h_id:J1 id:=by exact ym) (h_x:okS x:=by exact yi) :
 Calls prog 246 #[pT b,iV id,.string x] w (PI X b v D u w (fun (r:Unit) (s:Int)=>iV s) () (ppS D id x) (u+8) (fun (_:Unit) (s:Int)=>J1 s)):=by
 have M:=St.start hA
 refine zE (f:=246) fun _ F=>?_
 refine J0 (kI F M (hc:=J9N M.hd) (k:=fun v s1 w q1 M=>zk fun _ F=>?_))
 refine zib F (fun h2=>?_) fun h2=>?_
 ·refine zr2 fun _ F=>?_
  refine zd1 F ?_
  exact zfI M () _ ya (by rw [ppS,if_pos h2])
 refine zr2 fun _ F=>?_
 refine zi F (fun h3=>?_) fun h3=>?_
 ·refine zr2 fun _ F=>?_
  refine zd1 F ?_
  exact zfI M () _ ya (by rw [ppS,iFb h2,if_pos h3])
 refine zr2 fun _ F=>?_
 refine J0 (kO F M (hc:=J2j M.nil.tb) (k:=fun s4 w q4 M=>zk fun _ F=>?_))
 refine J0 (kI F M (hc:=J0u M.hd) (k:=fun v s5 w q5 M=>zk fun _ F=>?_))
 refine J0 (kO F M (hc:=J2j M.nil.tb) (k:=fun s6 w q6 M=>zk fun _ F=>?_))
 refine J0 (kI F M (hc:=J0u M.hd) (k:=fun v s7 w q7 M=>zk fun _ F=>?_))
 refine zi F (fun h8=>?_) fun h8=>?_
 ·refine zr2 fun _ F=>?_
  refine zd1 F ?_
  exact zfI M () _ ya (by rw [ppS,iFb h2,if_neg h3,if_pos h8])
 refine zr2 fun _ F=>?_
 refine zi F (fun h9=>?_) fun h9=>?_
 ·refine zr2 fun _ F=>?_
  refine zd1 F ?_
  exact zfI M () _ ya (by rw [ppS,iFb h2,if_neg h3,if_neg h8,if_pos h9])
 refine zr2 fun _ F=>?_
 refine J0 (kO F M (hc:=J2j M.nil.tb) (k:=fun s10 w q10 M=>zk fun _ F=>?_))
 refine J0 (kI F M (hc:=J0B M.hd) (k:=fun v s11 w q11 M=>zk fun _ F=>?_))
 refine J0 (kO F M (hc:=J2j M.nil.tb) (k:=fun s12 w q12 M=>zk fun _ F=>?_))
 refine J0 (kO F M (hc:=J0U M.nil.tb) (k:=fun s13 w q13 M=>zk fun _ F=>?_))
 refine J0 (kO F M (hc:=J44 M.nil.tb) (k:=fun s14 w q14 M=>zk fun _ F=>?_))
 refine J0 (kI F M (hc:=J1j nmp M.hd) (k:=fun v s15 w q15 M=>zk fun _ F=>?_))
 refine zd1 F ?_
 exact zfI M () _ ya (by rw [ppS,iFb h2,if_neg h3,if_neg h8,if_neg h9])
theorem JhM {p:Int} {id:Int} (hA:AT w [mB X b v D u]) (hu:u+8≤68718428160:=by omega) (h_p:J1 p:=by exact ym) (h_id:J1 id:=by exact ym) :
 Calls prog 252 #[pT b,iV p,iV id] w (PI X b v D u w (fun (r:Unit) (s:Int × Int)=>.tuple #[iV s.1,iV s.2]) () (rpS D p id) (u+8) (fun (_:Unit) (s:Int × Int)=>J1 s.1∧J1 s.2)):=by
 have M:=St.start hA
 refine zE (f:=252) fun _ F=>?_
 refine J0 (kO F M (hc:=J2I M.nil.tb) (k:=fun s1 w q1 M=>zk fun _ F=>?_))
 refine J0 (kI F M (hc:=J0u M.hd) (k:=fun v s2 w q2 M=>zk fun _ F=>?_))
 refine zG F (fun h3 F=>?_) fun h3 F=>?_
 ·refine zr2 fun _ F=>?_
  refine zd2 F ?_
  exact zfI M () (_,_) (⟨ya,ya⟩) (by rw [rpS,if_pos h3])
 refine zr2 fun _ F=>?_
 refine zi F (fun h4=>?_) fun h4=>?_
 ·refine zr2 fun _ F=>?_
  refine zd2 F ?_
  exact zfI M () (_,_) (⟨ya,ya⟩) (by rw [rpS,if_neg h3,if_pos h4])
 refine zr2 fun _ F=>?_
 refine J0 (kI F M (hc:=J5r M.hd) (k:=fun v s5 w q5 M=>zk fun _ F=>?_))
 refine zi F (fun h6=>?_) fun h6=>?_
 ·refine zr2 fun _ F=>?_
  refine zd2 F ?_
  exact zfI M () (_,_) (⟨ya,ya⟩) (by rw [rpS,if_neg h3,if_neg h4,if_pos h6])
 refine zr2 fun _ F=>?_
 refine zi F (fun h7=>?_) fun h7=>?_
 ·refine zr2 fun _ F=>?_
  refine J0 (kO F M (hc:=J2I M.nil.tb) (k:=fun s8 w q8 M=>zk fun _ F=>?_))
  refine J0 (kI F M (hc:=J0u M.hd) (k:=fun v s9 w q9 M=>zk fun _ F=>?_))
  refine J0 (kO F M (hc:=J2I M.nil.tb) (k:=fun s10 w q10 M=>zk fun _ F=>?_))
  refine J0 (kI F M (hc:=J7z M.hd) (k:=fun v s11 w q11 M=>zk fun _ F=>?_))
  refine zd2 F ?_
  exact zfI M () (_,_) (⟨ya,ya⟩) (by rw [rpS,if_neg h3,if_neg h4,if_neg h6,if_pos h7])
 refine zr2 fun _ F=>?_
 refine zd2 F ?_
 exact zfI M () (_,_) (⟨ya,ya⟩) (by rw [rpS,if_neg h3,if_neg h4,if_neg h6,if_neg h7])
theorem JdP {id:Int} (hA:AT w [mB X b v D u]) (hu:u+1≤68718428160:=by omega) (h_id:J1 id:=by exact ym) :
 Calls prog 251 #[pT b,iV id] w (PI X b v D u w (fun (r:Unit) (s:Unit)=>.tuple #[]) () (J1Y D (kPg id)) (u+1) noq):=by
 have M:=St.start hA
 refine zE (f:=251) fun _ F=>?_
 refine J0 (kO F M (hc:=J3r M.nil.tb) (k:=fun s1 w q1 M=>zk fun _ F=>?_))
 refine J0 (kI F M (hc:=J7z M.hd) (k:=fun v s2 w q2 M=>zk fun _ F=>?_))
 refine J2Z F (J31 rfl) ?_
 exact zfI M () () (trivial) (rfl)
theorem Jei {id:Int} {p:Int} (hA:AT w [mB X b v D u]) (hu:u+2≤68718428160:=by omega) (h_id:J1 id:=by exact ym) (h_p:J1 p:=by exact ym) :
 Calls prog 259 #[pT b,iV id,iV p] w (PI X b v D u w (fun (r:Unit) (s:ByteArray × Int)=>.tuple #[.string s.1,iV s.2]) () D (u+2) (fun (_:Unit) (s:ByteArray × Int)=>okS s.1∧J1 s.2)):=by
 have M:=St.start hA
 refine zE (f:=259) fun _ F=>?_
 refine J0 (kO F M (hc:=J1T M.nil.tb) (k:=fun s1 w q1 M=>zk fun _ F=>?_))
 refine zib F (fun h2=>?_) fun h2=>?_
 ·refine zr2 fun _ F=>?_
  refine zd2 F ?_
  exact zfI M () (_,_) (⟨yBo,by unfold J1;omega⟩) (rfl)
 have hi2:=J0K (nf h2);refine zr2 fun _ F=>?_
 refine J0 (kO F M (hc:=J3r M.nil.tb) (k:=fun s3 w q3 M=>zk fun _ F=>?_))
 refine J0 (kO F M (hc:=J0U M.nil.tb) (k:=fun s4 w q4 M=>zk fun _ F=>?_))
 refine J0 (kI F M (hc:=J9i M.hd) (k:=fun v s5 w q5 M=>zk fun _ F=>?_))
 refine zd2 F ?_
 exact zfI M () (_,_) (⟨yBo,by unfold J1;omega⟩) (rfl)
end
set_option maxRecDepth 100000
set_option maxHeartbeats 1000000
section
set_option maxHeartbeats 8000000
variable {X:Uni} {w:World} {b u:Nat} {v:MV} {D:List CellD} {H:Nat→Prop}
theorem J8x {f:ByteArray} (hA:AT w [mB X b v D u]) (hu:u+8≤68718428160:=by omega) (h_f:okS f:=by exact yi) :
 Calls prog 241 #[pT b,.string f] w (PI X b v D u w (fun (r:Unit) (s:Int)=>iV s) () (ulS D f) (u+8) (fun (_:Unit) (s:Int)=>J1 s)):=by
 have M:=St.start hA
 refine zE (f:=241) fun _ F=>?_
 refine J0 (kO F M (hc:=J3x M.nil.tb) (k:=fun s1 w q1 M=>zk fun _ F=>?_))
 refine zib F (fun h2=>?_) fun h2=>?_
 ·refine zr2 fun _ F=>?_
  refine zd1 F ?_
  exact zfI M () _ ya (by rw [ulS,if_pos h2])
 have hi2:=J1m (nf h2);refine zr2 fun _ F=>?_
 refine J0 (kI F M (hc:=J3u M.hd) (k:=fun v s3 w q3 M=>zk fun _ F=>?_))
 refine zi F (fun h4=>?_) fun h4=>?_
 ·refine zr2 fun _ F=>?_
  refine zd1 F ?_
  exact zfI M () _ ya (by rw [ulS,iFb h2,if_pos h4])
 refine zr2 fun _ F=>?_
 refine J0 (kO F M (hc:=J30 M.nil.tb) (k:=fun s5 w q5 M=>zk fun _ F=>?_))
 refine J0 (kI F M (hc:=J1j nmp M.hd) (k:=fun v s6 w q6 M=>zk fun _ F=>?_))
 refine J0 (kO F M (hc:=J4r M.nil.tb) (k:=fun s7 w q7 M=>zk fun _ F=>?_))
 refine J0 (kI F M (hc:=J0u M.hd) (k:=fun v s8 w q8 M=>zk fun _ F=>?_))
 refine zi F (fun h9=>?_) fun h9=>?_
 ·refine zr2 fun _ F=>?_
  refine J0 (kO F M (hc:=J4r M.nil.tb) (k:=fun s10 w q10 M=>zk fun _ F=>?_))
  refine J0 (kI F M (hc:=J0B M.hd) (k:=fun v s11 w q11 M=>zk fun _ F=>?_))
  refine zd1 F ?_
  exact zfI M () _ ya (by rw [ulS,iFb h2,if_neg h4,if_pos h9])
 refine zr2 fun _ F=>?_
 refine J0 (kO F M (hc:=J0U M.nil.tb) (k:=fun s12 w q12 M=>zk fun _ F=>?_))
 refine J0 (kI F M (hc:=J7z M.hd) (k:=fun v s13 w q13 M=>zk fun _ F=>?_))
 refine zd1 F ?_
 exact zfI M () _ ya (by rw [ulS,iFb h2,if_neg h4,if_neg h9])
theorem Jey {id:Int} (hA:AT w [mB X b v D u]) (hu:u+8≤68718428160:=by omega) (h_id:J1 id:=by exact ym) :
 Calls prog 247 #[pT b,iV id] w (PI X b v D u w (fun (r:Unit) (s:ByteArray × Int)=>.tuple #[.string s.1,iV s.2]) () (tpS D id) (u+8) (fun (_:Unit) (s:ByteArray × Int)=>okS s.1∧J1 s.2)):=by
 have M:=St.start hA
 refine zE (f:=247) fun _ F=>?_
 refine J0 (kI F M (hc:=J9N M.hd) (k:=fun v s1 w q1 M=>zk fun _ F=>?_))
 refine zib F (fun h2=>?_) fun h2=>?_
 ·refine zr2 fun _ F=>?_
  refine zd2 F ?_
  exact zfI M () (_,_) (⟨yBo,by unfold J1;omega⟩) (by rw [tpS,if_pos h2])
 refine zr2 fun _ F=>?_
 refine J0 (kO F M (hc:=J2j M.nil.tb) (k:=fun s3 w q3 M=>zk fun _ F=>?_))
 refine J0 (kI F M (hc:=J0u M.hd) (k:=fun v s4 w q4 M=>zk fun _ F=>?_))
 refine J0 (kO F M (hc:=J2j M.nil.tb) (k:=fun s5 w q5 M=>zk fun _ F=>?_))
 refine J0 (kI F M (hc:=J0u M.hd) (k:=fun v s6 w q6 M=>zk fun _ F=>?_))
 refine zi F (fun h7=>?_) fun h7=>?_
 ·refine zr2 fun _ F=>?_
  refine zd2 F ?_
  exact zfI M () (_,_) (⟨yBo,by unfold J1;omega⟩) (by rw [tpS,iFb h2,if_pos h7])
 refine zr2 fun _ F=>?_
 refine J0 (kO F M (hc:=J2j M.nil.tb) (k:=fun s8 w q8 M=>zk fun _ F=>?_))
 refine J0 (kO F M (hc:=J0U M.nil.tb) (k:=fun s9 w q9 M=>zk fun _ F=>?_))
 refine J0 (kI F M (hc:=J9i M.hd) (k:=fun v s10 w q10 M=>zk fun _ F=>?_))
 refine J0 (kI F M (hc:=J1j nmp M.hd) (k:=fun v s11 w q11 M=>zk fun _ F=>?_))
 refine J0 (kO F M (hc:=J2j M.nil.tb) (k:=fun s12 w q12 M=>zk fun _ F=>?_))
 refine J0 (kI F M (hc:=J0B M.hd) (k:=fun v s13 w q13 M=>zk fun _ F=>?_))
 refine zd2 F ?_
 exact zfI M () (_,_) (⟨yBo,by unfold J1;omega⟩) (by rw [tpS,iFb h2,if_neg h7])
theorem JhT {id:Int} {n:Int} (hA:AT w [mB X b v D u]) (hu:u+8≤68718428160:=by omega) (h_id:J1 id:=by exact ym) (h_n:J1 n:=by exact ym) :
 Calls prog 254 #[pT b,iV id,iV n] w (PI X b v D u w (fun (r:Unit) (s:Int)=>iV s) () (sgS D id n) (u+8) (fun (_:Unit) (s:Int)=>J1 s)):=by
 have M:=St.start hA
 refine zE (f:=254) fun _ F=>?_
 refine J0 (kI F M (hc:=J5r M.hd) (k:=fun v s1 w q1 M=>zk fun _ F=>?_))
 refine zi F (fun h2=>?_) fun h2=>?_
 ·refine zr2 fun _ F=>?_
  refine zd1 F ?_
  exact zfI M () _ ya (by rw [sgS,if_pos h2])
 refine zr2 fun _ F=>?_
 refine J0 (kO F M (hc:=J1T M.nil.tb) (k:=fun s3 w q3 M=>zk fun _ F=>?_))
 refine zib F (fun h4=>?_) fun h4=>?_
 ·refine zr2 fun _ F=>?_
  refine zd1 F ?_
  exact zfI M () _ ya (by rw [sgS,if_neg h2,if_pos h4])
 have hi4:=J0K (nf h4);refine zr2 fun _ F=>?_
 refine J0 (kO F M (hc:=J1S M.nil.tb) (k:=fun s5 w q5 M=>zk fun _ F=>?_))
 refine J0 (kI F M (hc:=J0u M.hd) (k:=fun v s6 w q6 M=>zk fun _ F=>?_))
 refine J0 (kO F M (hc:=J1S M.nil.tb) (k:=fun s7 w q7 M=>zk fun _ F=>?_))
 refine J0 (kI F M (hc:=J0u M.hd) (k:=fun v s8 w q8 M=>zk fun _ F=>?_))
 refine zi F (fun h9=>?_) fun h9=>?_
 ·refine zr2 fun _ F=>?_
  refine zd1 F ?_
  exact zfI M () _ ya (by rw [sgS,if_neg h2,iFb h4,if_pos h9])
 refine zr2 fun _ F=>?_
 refine zi F (fun h10=>?_) fun h10=>?_
 ·refine zr2 fun _ F=>?_
  refine zd1 F ?_
  exact zfI M () _ ya (by rw [sgS,if_neg h2,iFb h4,if_neg h9,if_pos h10])
 refine zr2 fun _ F=>?_
 refine J0 (kO F M (hc:=J1S M.nil.tb) (k:=fun s11 w q11 M=>zk fun _ F=>?_))
 refine J0 (kI F M (hc:=J0B M.hd) (k:=fun v s12 w q12 M=>zk fun _ F=>?_))
 refine J0 (kO F M (hc:=J1S M.nil.tb) (k:=fun s13 w q13 M=>zk fun _ F=>?_))
 refine J0 (kO F M (hc:=J0U M.nil.tb) (k:=fun s14 w q14 M=>zk fun _ F=>?_))
 refine J0 (kI F M (hc:=J0B M.hd) (k:=fun v s15 w q15 M=>zk fun _ F=>?_))
 refine zd1 F ?_
 exact zfI M () _ ya (by rw [sgS,if_neg h2,iFb h4,if_neg h9,if_neg h10])
theorem JfM {x:ByteArray} (hA:AT w [mB X b v D u]) (hu:u+8≤68718428160:=by omega) (h_x:okS x:=by exact yi) :
 Calls prog 260 #[pT b,.string x] w (PI X b v D u w (fun (r:Unit) (s:Int)=>iV s) () (poS D x) (u+8) (fun (_:Unit) (s:Int)=>J1 s)):=by
 have hzx:=h_x
 unfold okS at hzx
 have M:=St.start hA
 refine zE (f:=260) fun _ F=>?_
 refine J0 (kO F M (hc:=J1T M.nil.tb) (k:=fun s1 w q1 M=>zk fun _ F=>?_))
 refine zib F (fun h2=>?_) fun h2=>?_
 ·refine zr2 fun _ F=>?_
  refine zd1 F ?_
  exact zfI M () _ ya (by rw [poS,if_pos h2])
 have hi2:=J0K (nf h2);refine zr2 fun _ F=>?_
 refine J0 (kI F M (hc:=J0u M.hd) (k:=fun v s3 w q3 M=>zk fun _ F=>?_))
 refine zi F (fun h4=>?_) fun h4=>?_
 ·refine zr2 fun _ F=>?_
  refine zd1 F ?_
  exact zfI M () _ ya (by rw [poS,iFb h2,if_pos h4])
 refine zr2 fun _ F=>?_
 refine J0 (kI F M (hc:=J0B M.hd) (k:=fun v s5 w q5 M=>zk fun _ F=>?_))
 refine J0 (kO F M (hc:=J0U M.nil.tb) (k:=fun s6 w q6 M=>zk fun _ F=>?_))
 refine J0 (kO F M (hc:=J44 M.nil.tb) (k:=fun s7 w q7 M=>zk fun _ F=>?_))
 refine J0 (kI F M (hc:=J1j nmp M.hd) (k:=fun v s8 w q8 M=>zk fun _ F=>?_))
 refine zd1 F ?_
 exact zfI M () _ ya (by rw [poS,iFb h2,if_neg h4])
theorem Je0 {p:Int} {x:ByteArray} (hA:AT w [mB X b v D u]) (hu:u+2≤68718428160:=by omega) (hi64:J1 X.P:=by assumption) (h_p:J1 p:=by exact ym) (h_x:okS x:=by exact yi) :
 Calls prog 258 #[pT b,iV X.P,iV p,.string x] w (PI X b v D u w (fun (r:Unit) (s:Int)=>iV s) () (gpS D X.P p x) (u+2) (fun (_:Unit) (s:Int)=>J1 s)):=by
 have M:=St.start hA
 refine zE (f:=258) fun _ F=>?_
 refine J0 (kO F M (hc:=J1T M.nil.tb) (k:=fun s1 w q1 M=>zk fun _ F=>?_))
 refine zGb F (fun h2 F=>?_) fun h2 F=>?_
 ·refine zr2 fun _ F=>?_
  refine zd1 F ?_
  exact zfI M () _ ya (by rw [gpS,if_pos h2])
 have hi2:=J0K (nf h2);refine zr2 fun _ F=>?_
 refine zi F (fun h3=>?_) fun h3=>?_
 ·refine zr2 fun _ F=>?_
  refine zd1 F ?_
  exact zfI M () _ ya (by rw [gpS,iFb h2,if_pos h3])
 refine zr2 fun _ F=>?_
 refine zi F (fun h4=>?_) fun h4=>?_
 ·refine zr2 fun _ F=>?_
  refine J0 (kO F M (hc:=J44 M.nil.tb) (k:=fun s5 w q5 M=>zk fun _ F=>?_))
  refine J0 (kO F M (hc:=J3r M.nil.tb) (k:=fun s6 w q6 M=>zk fun _ F=>?_))
  refine J0 (kO F M (hc:=J0U M.nil.tb) (k:=fun s7 w q7 M=>zk fun _ F=>?_))
  refine J0 (kI F M (hc:=J1j (JaZ (by assumption)) M.hd) (k:=fun v s8 w q8 M=>zk fun _ F=>?_))
  refine zd1 F ?_
  exact zfI M () _ ya (by rw [gpS,iFb h2,if_neg h3,if_neg h4])
 refine zr2 fun _ F=>?_
 refine J0 (kO F M (hc:=J3r M.nil.tb) (k:=fun s9 w q9 M=>zk fun _ F=>?_))
 refine J0 (kO F M (hc:=J0U M.nil.tb) (k:=fun s10 w q10 M=>zk fun _ F=>?_))
 refine J0 (kI F M (hc:=J1j (JaZ (by assumption)) M.hd) (k:=fun v s11 w q11 M=>zk fun _ F=>?_))
 refine zd1 F ?_
 exact zfI M () _ ya (by rw [gpS,iFb h2,if_neg h3,if_pos (Decidable.not_not.1 h4)])
end
set_option maxRecDepth 100000
set_option maxHeartbeats 1000000
section
set_option maxHeartbeats 8000000
variable {X:Uni} {w:World} {b u:Nat} {v:MV} {D:List CellD} {H:Nat→Prop}
theorem JgQ {p:Int} (hA:AT w [mB X b v D u]) (hu:u+8≤68718428160:=by omega) (h_p:J1 p:=by exact ym) :
 Calls prog 248 #[pT b,iV p] w (PI X b v D u w (fun (r:Int × Int) (s:Unit)=>.tuple #[iV r.1,iV r.2]) (spF D p).1 (spF D p).2 (u+8) (fun (r:Int × Int) (_:Unit)=>J1 r.1∧J1 r.2)):=by
 have M:=St.start hA
 refine zE (f:=248) fun _ F=>?_
 refine J0 (kI F M (hc:=J0u M.hd) (k:=fun v s1 w q1 M=>zk fun _ F=>?_))
 refine zi F (fun h2=>?_) fun h2=>?_
 ·refine zr2 fun _ F=>?_
  refine zd2 F ?_
  exact zfI M (_,_) () (⟨ya,ya⟩) (by rw [spF,if_pos h2])
 refine zr2 fun _ F=>?_
 refine J0 (kI F M (hc:=J7f M.hd) (k:=fun v s3 w q3 M=>zk fun _ F=>?_))
 refine J0 (kO F M (hc:=J2I M.nil.tb) (k:=fun s4 w q4 M=>zk fun _ F=>?_))
 refine J0 (kI F M (hc:=J0B M.hd) (k:=fun v s5 w q5 M=>zk fun _ F=>?_))
 refine J0 (kO F M (hc:=J2I M.nil.tb) (k:=fun s6 w q6 M=>zk fun _ F=>?_))
 refine J0 (kI F M (hc:=J0B M.hd) (k:=fun v s7 w q7 M=>zk fun _ F=>?_))
 refine zd2 F ?_
 exact zfI M (_,_) () (⟨ya,ya⟩) (by rw [spF,if_neg h2])
theorem JdK {id:Int} (hA:AT w [mB X b v D u]) (hu:u+8≤68718428160:=by omega) (h_id:J1 id:=by exact ym) :
 Calls prog 255 #[pT b,iV id] w (PI X b v D u w (fun (r:Unit) (s:Int × Int)=>.tuple #[iV s.1,iV s.2]) () (tsS D id) (u+8) (fun (_:Unit) (s:Int × Int)=>J1 s.1∧J1 s.2)):=by
 have M:=St.start hA
 refine zE (f:=255) fun _ F=>?_
 refine J0 (kO F M (hc:=J1S M.nil.tb) (k:=fun s1 w q1 M=>zk fun _ F=>?_))
 refine J0 (kI F M (hc:=J0u M.hd) (k:=fun v s2 w q2 M=>zk fun _ F=>?_))
 refine J0 (kO F M (hc:=J1S M.nil.tb) (k:=fun s3 w q3 M=>zk fun _ F=>?_))
 refine J0 (kI F M (hc:=J0u M.hd) (k:=fun v s4 w q4 M=>zk fun _ F=>?_))
 refine zi F (fun h5=>?_) fun h5=>?_
 ·refine zr2 fun _ F=>?_
  refine zd2 F ?_
  exact zfI M () (_,_) (⟨ya,ya⟩) (by rw [tsS,if_pos h5])
 refine zr2 fun _ F=>?_
 refine J0 (kO F M (hc:=J1S M.nil.tb) (k:=fun s6 w q6 M=>zk fun _ F=>?_))
 refine J0 (kO F M (hc:=J0U M.nil.tb) (k:=fun s7 w q7 M=>zk fun _ F=>?_))
 refine J0 (kI F M (hc:=J0u M.hd) (k:=fun v s8 w q8 M=>zk fun _ F=>?_))
 refine J0 (kI F M (hc:=J1j nmp M.hd) (k:=fun v s9 w q9 M=>zk fun _ F=>?_))
 refine J0 (kO F M (hc:=J1S M.nil.tb) (k:=fun s10 w q10 M=>zk fun _ F=>?_))
 refine J0 (kI F M (hc:=J0B M.hd) (k:=fun v s11 w q11 M=>zk fun _ F=>?_))
 refine zd2 F ?_
 exact zfI M () (_,_) (⟨ya,ya⟩) (by rw [tsS,if_neg h5])
theorem Jhi {t:Int} (hA:AT w [mB X b v D u]) (hu:u+1≤68718428160:=by omega) (hi64:J1 X.P:=by assumption) (h_t:J1 t:=by exact ym) (p0:1≤t∧t≤12:=by assumption) :
 Calls prog 249 #[pT b,iV X.P,iV t] w (PI X b v D u w (fun (r:Unit) (s:Unit)=>.tuple #[]) () (fkS D X.P t) (u+1) noq):=by
 have M:=St.start hA
 refine zE (f:=249) fun _ F=>?_
 have hps:=M.pgS
 have hzt:(kPg t).size≤1000:=ksz h_t (by decide)
 refine J0 (kO F M (hc:=J3r M.nil.tb) (k:=fun s1 w q1 M=>zk fun _ F=>?_))
 refine J0 (kU F M (hc:=J5t M.hd) (k:=fun v s2 w q2 M=>zk fun _ F=>?_))
 have hq3:=q2.le
 have M:=M.ext (ks:=Jt D (kPg X.P)) J3V
 have F:=F.cut (m':=[(13,_),(0,_),(1,_),(2,_),(11,_),(12,_)]) rfl
 refine J1i (γ:=Nat × MV) (slots:=fun g=>[(13,nV g.1)]) (LL:=fun g=>[owK s2 (Jt D (kPg X.P)),mB (X.ext (Jt D (kPg X.P))) b g.2 (fkA (kPg X.P) (kPg t) ((Jt D (kPg X.P)).take g.1) D) (u+1)]) (pr:=fun g=>g.1≤s2.n) (g0:=(0,v)) (fun g=>s2.n - g.1) F M (Nat.zero_le _) fun g a w F M hp=>?_
 refine zr2 fun _ F=>?_
 refine zi F (fun h4=>?_) fun h4=>?_
 ·refine zr2 fun _ F=>?_
  refine kEl (s:=s2) F M.at' ET_44 0 g.1 zO (kk:=fun x5 _ hx5 ok5=>zk fun _ F=>?_)
  have hz5:=q2.sz _ (Jm hx5)
  have hg5:=J2E (q2.bg _ (Jm hx5))
  refine J5K [] [] [] [0,1,3,4,9,10,2,5,6,7,8,11,12] M (HdK.none HdS.nil) mixed zK fun w M hS=>?_
  refine zr2 fun _ F=>?_
  refine J2 rfl rfl (kOm F M (hc:=J3r M.nil.tb) (k:=fun s6 w q6 m M=>kB m (zkN fun _ F=>?_)))
  refine J2 rfl rfl (kOm F M (hc:=J3r M.nil.tb) (k:=fun s7 w q7 m M=>kB m (zkN fun _ F=>?_)))
  refine nSl F ((kPg X.P).size) yBj (k:=fun he8=>zkN fun _ F=>?_)
  refine J2 rfl rfl (kI2 F M (hc:=JaX (J35 hx5) M.hd2) (k:=fun v s9 w q9 M=>kF (zkN fun _ F=>?_)))
  refine J2 rfl rfl (kI2 F M (hc:=J5G (Jhg p0 (hps _ (Jm hx5))) (.inr (Jhh p0 (hps _ (Jm hx5)))) M.hd2) (k:=fun v s10 w q10 M=>kF (zkN fun _ F=>?_)))
  exact Jw (g.1+1,v) (by dsimp only;omega) ⟨F.cut rfl,M.cast (by rw [← Jfv hx5]),by dsimp only;omega⟩
 refine zr2 fun _ F=>?_
 have M:=M.unext
 have M:=M.tail
 refine J2Z F (J31 rfl) ?_
 exact zfI M () () (trivial) (by rw [fkS,J5n q2.n h4])
end
set_option maxRecDepth 100000
set_option maxHeartbeats 1000000
section
set_option maxHeartbeats 8000000
variable {X:Uni} {w:World} {b u:Nat} {v:MV} {D:List CellD} {H:Nat→Prop}
theorem JdD {f:ByteArray} {t:ByteArray} (hA:AT w [mB X b v D u]) (hu:u+20≤68718428160:=by omega) (h_f:okS f:=by exact yi) (h_t:okS t:=by exact yi) :
 Calls prog 242 #[pT b,.string f,.string t] w (PI X b v D u w (fun (r:Unit) (s:Int)=>iV s) () (rnS D f t) (u+20) (fun (_:Unit) (s:Int)=>J1 s)):=by
 have M:=St.start hA
 refine zE (f:=242) fun _ F=>?_
 refine J0 (kO F M (hc:=J3x M.nil.tb) (k:=fun s1 w q1 M=>zk fun _ F=>?_))
 refine zGb F (fun h2 F=>?_) fun h2 F=>?_
 ·refine zr2 fun _ F=>?_
  refine zd1 F ?_
  exact zfI M () _ ya (by rw [rnS,if_pos h2])
 have hi2:=J1m (nf h2);refine zr2 fun _ F=>?_
 refine J0 (kO F M (hc:=J3x M.nil.tb) (k:=fun s3 w q3 M=>zk fun _ F=>?_))
 refine zib F (fun h4=>?_) fun h4=>?_
 ·refine zr2 fun _ F=>?_
  refine zd1 F ?_
  exact zfI M () _ ya (by rw [rnS,iFb h2,if_pos h4])
 have hi4:=J1m (nf h4);refine zr2 fun _ F=>?_
 refine J0 (kI F M (hc:=J3u M.hd) (k:=fun v s5 w q5 M=>zk fun _ F=>?_))
 refine zi F (fun h6=>?_) fun h6=>?_
 ·refine zr2 fun _ F=>?_
  refine zd1 F ?_
  exact zfI M () _ ya (by rw [rnS,iFb h2,iFb h4,if_pos h6])
 refine zr2 fun _ F=>?_
 refine J0 (kI F M (hc:=J3u M.hd) (k:=fun v s7 w q7 M=>zk fun _ F=>?_))
 refine zi F (fun h8=>?_) fun h8=>?_
 ·refine zr2 fun _ F=>?_
  refine zd1 F ?_
  exact zfI M () _ ya (by rw [rnS,iFb h2,iFb h4,if_neg h6,if_pos h8])
 refine zr2 fun _ F=>?_
 refine zi F (fun h9=>?_) fun h9=>?_
 ·refine zr2 fun _ F=>?_
  refine J0 (kI F M (hc:=J8x M.hd) (k:=fun v s10 w q10 M=>zk fun _ F=>?_))
  refine J0 (kO F M (hc:=J30 M.nil.tb) (k:=fun s11 w q11 M=>zk fun _ F=>?_))
  refine J0 (kI F M (hc:=J0B M.hd) (k:=fun v s12 w q12 M=>zk fun _ F=>?_))
  refine J0 (kO F M (hc:=J30 M.nil.tb) (k:=fun s13 w q13 M=>zk fun _ F=>?_))
  refine J0 (kI F M (hc:=J1j nmp M.hd) (k:=fun v s14 w q14 M=>zk fun _ F=>?_))
  refine zd1 F ?_
  exact zfI M () _ ya (by rw [rnS,iFb h2,iFb h4,if_neg h6,if_neg h8,if_pos h9])
 refine zr2 fun _ F=>?_
 refine J0 (kO F M (hc:=J30 M.nil.tb) (k:=fun s15 w q15 M=>zk fun _ F=>?_))
 refine J0 (kI F M (hc:=J0B M.hd) (k:=fun v s16 w q16 M=>zk fun _ F=>?_))
 refine J0 (kO F M (hc:=J30 M.nil.tb) (k:=fun s17 w q17 M=>zk fun _ F=>?_))
 refine J0 (kI F M (hc:=J1j nmp M.hd) (k:=fun v s18 w q18 M=>zk fun _ F=>?_))
 refine zd1 F ?_
 exact zfI M () _ ya (by rw [rnS,iFb h2,iFb h4,if_neg h6,if_neg h8,if_neg h9])
end
end Go.Proofs.YtipdbeklopjbmaaGreatDoor
