/-
  Texts laid together: KaS2, MD, MG, DatCb.
-/
import Derived.Test.YtipdbeklopjbmaaGreatDoorP18
set_option linter.unusedVariables false
set_option linter.unusedSimpArgs false
namespace Go.Proofs.YtipdbeklopjbmaaGreatDoor
open Go.ChangeShapes Go.WideShapes Go.ChangeAt Go.RowKit Go.Proofs.Tryz
set_option maxRecDepth 100000
set_option maxHeartbeats 1000000
section
set_option maxHeartbeats 8000000
variable {X:Uni} {w:World} {b u:Nat} {v:MV} {D:List CellD} {H:Nat→Prop}
theorem J7w {id:Int} (hT:TbO w []) (hm:RM X H w v D u) (hu:u+1≤68718428160:=by omega) (h_id:J1 id:=by exact ym) :
 Calls prog 344 #[v.val,iV id] w (PS X H w (fun v (r:Int) (s:Unit)=>.tuple #[v.val,iV r]) (Ja D (kIs id)) D (u+1) (fun (r:Int) (_:Unit)=>0≤r∧r≤999)):=by
 have M:=Sp.start hT hm
 refine zE (f:=344) fun _ F=>?_
 refine J0 (kBx F M [_,_,_] (k:=fun b1 w M=>zk fun _ F=>?_))
 refine J0 (kAl F M JA [_,_,_] (k:=fun b2 w M=>zk fun _ F=>?_))
 refine Jc [(_,[_,_,_],_)] [] [] [0,1,2,3,4,5,6,7] M (hd1 M.at' 1) mixed zK fun w M hS=>?_
 refine zr2 fun _ F=>?_
 refine J2 rfl rfl (kQ F M (hc:=J12 M.st.nil.tb) (k:=fun s3 w q3 m M=>kB m (zkN fun _ F=>?_)))
 refine J2 rfl rfl (kS F M (hc:=J0P M.tb M.v) (k:=fun v s4 w q4 M=>kF (zkN fun _ F=>?_)))
 refine J2 rfl rfl (kW F M 0 [_,_,_] [_,_] (k:=fun w M=>kF (zkN fun _ F=>?_)))
 refine zde F M.at' 0 ?_
 exact zfS M _ () (⟨zO,zO⟩) (rfl)
theorem JgP {id:Int} {n:Int} (hT:TbO w []) (hm:RM X H w v D u) (hu:u+0≤68718428160:=by omega) (h_id:J1 id:=by exact ym) (h_n:J1 n:=by exact ym) (p0:sgK X id:=by assumption) :
 Calls prog 224 #[v.val,iV id,iV n] w (PS X H w (fun v (r:Unit) (s:Int)=>.tuple #[v.val,iV s]) () (sgS D id n) u (fun (_:Unit) (s:Int)=>J1 s)):=by
 have M:=Sp.start hT hm
 refine zE (f:=224) fun _ F=>?_
 refine J0 (kBx F M [_,_,_] (k:=fun b1 w M=>zk fun _ F=>?_))
 refine J0 (kAl F M JA [_,_,_] (k:=fun b2 w M=>zk fun _ F=>?_))
 refine J0 (kS F M (hc:=JfZ M.tb M.v (p0:=p0)) (k:=fun v s3 w q3 M=>zk fun _ F=>?_))
 refine J0 (kW F M 1 [_,_,_] [_,_] (k:=fun w M=>zk fun _ F=>?_))
 refine zi F (fun h4=>?_) fun h4=>?_
 ·refine zr2 fun _ F=>?_
  refine J0 (kW F M 1 [_,_,_] [_,_] (k:=fun w M=>zk fun _ F=>?_))
  refine zde F M.at' 0 ?_
  exact zfS M () _ ya (by rw [sgS,if_pos h4])
 refine zr2 fun _ F=>?_
 refine J0 (kQ F M (hc:=J33 M.st.nil.tb) (k:=fun s5 w q5 m M=>zk fun _ F=>?_))
 refine zib F (fun h6=>?_) fun h6=>?_
 ·refine zr2 fun _ F=>?_
  refine J0 (kW F M 1 [_,_,_] [_,_] (k:=fun w M=>zk fun _ F=>?_))
  refine zde F M.at' 0 ?_
  exact zfS M () _ ya (by rw [sgS,if_neg h4,if_pos h6])
 have hi6:=J0K (nf h6);refine zr2 fun _ F=>?_
 refine Jc [(_,[_,_,_],_)] [] [] [0,1,2,3,4,5,6,7,8] M (hd1 M.at' 0) mixed zK fun w M hS=>?_
 refine zr2 fun _ F=>?_
 refine J2 rfl rfl (kQ F M (hc:=J2n M.st.nil.tb) (k:=fun s7 w q7 m M=>kB m (zkN fun _ F=>?_)))
 refine J2 rfl rfl (kS F M (hc:=J4I M.tb M.v (p0:=.inl p0.2.1)) (k:=fun v s8 w q8 M=>kF (zkN fun _ F=>?_)))
 refine J2 rfl rfl (kW F M 0 [_,_,_] [_,_] (k:=fun w M=>kF (zkN fun _ F=>?_)))
 refine Jc [(_,[_,_,_],_)] [] [] [0,1,2,3,4,5,6,7,8] M (hd1 M.at' 0) mixed zK fun w M hS=>?_
 refine zr2 fun _ F=>?_
 refine J2 rfl rfl (kQ F M (hc:=J2n M.st.nil.tb) (k:=fun s9 w q9 m M=>kB m (zkN fun _ F=>?_)))
 refine J2 rfl rfl (kS F M (hc:=J4I M.tb M.v (p0:=.inl p0.2.2.1)) (k:=fun v s10 w q10 M=>kF (zkN fun _ F=>?_)))
 refine J2 rfl rfl (kW F M 0 [_,_,_] [_,_] (k:=fun w M=>kF (zkN fun _ F=>?_)))
 refine zi F (fun h11=>?_) fun h11=>?_
 ·refine zr2 fun _ F=>?_
  refine J0 (kW F M 1 [_,_,_] [_,_] (k:=fun w M=>zk fun _ F=>?_))
  refine zde F M.at' 0 ?_
  exact zfS M () _ ya (by rw [sgS,if_neg h4,iFb h6,if_pos h11])
 refine zr2 fun _ F=>?_
 refine zi F (fun h12=>?_) fun h12=>?_
 ·refine zr2 fun _ F=>?_
  refine J0 (kW F M 1 [_,_,_] [_,_] (k:=fun w M=>zk fun _ F=>?_))
  refine zde F M.at' 0 ?_
  exact zfS M () _ ya (by rw [sgS,if_neg h4,iFb h6,if_neg h11,if_pos h12])
 refine zr2 fun _ F=>?_
 refine Jc [(_,[_,_,_],_)] [] [] [0,1,3,4,2,5,6] M (hd1 M.at' 0) mixed zK fun w M hS=>?_
 refine zr2 fun _ F=>?_
 refine J2 rfl rfl (kQ F M (hc:=J2n M.st.nil.tb) (k:=fun s13 w q13 m M=>kB m (zkN fun _ F=>?_)))
 refine J2 rfl rfl (kS F M (hc:=J9r M.tb M.v (p0:=.inl p0.2.1)) (k:=fun v s14 w q14 M=>kF (zkN fun _ F=>?_)))
 refine J2 rfl rfl (kW F M 0 [_,_,_] [_,_] (k:=fun w M=>kF (zkN fun _ F=>?_)))
 refine Jc [(_,[_,_,_],_)] [] [] [0,1,2,3,5,4,6,7,8] M (hd1 M.at' 0) mixed zK fun w M hS=>?_
 refine zr2 fun _ F=>?_
 refine J2 rfl rfl (kQ F M (hc:=J56 M.st.nil.tb) (k:=fun s15 w q15 m M=>kB m (zkN fun _ F=>?_)))
 refine J2 rfl rfl (kS F M (hc:=J9r M.tb M.v (p0:=.inl (p0.2.2.2 _ zO zO))) (k:=fun v s16 w q16 M=>kF (zkN fun _ F=>?_)))
 refine J2 rfl rfl (kW F M 1 [_,_,_] [_,_] (k:=fun w M=>kF (zkN fun _ F=>?_)))
 refine zde F M.at' 0 ?_
 exact zfS M () _ ya (by rw [sgS,if_neg h4,iFb h6,if_neg h11,if_neg h12])
theorem J5p {id:Int} {p:Int} (hT:TbO w []) (hm:RM X H w v D u) (hu:u+1≤68718428160:=by omega) (h_id:J1 id:=by exact ym) (h_p:J1 p:=by exact ym) :
 Calls prog 345 #[v.val,iV id,iV p] w (PS X H w (fun v (r:ByteArray) (s:Unit)=>.tuple #[v.val,.string r]) (J0S D id p) D (u+1) (fun (r:ByteArray) (_:Unit)=>okS r)):=by
 have M:=Sp.start hT hm
 refine zE (f:=345) fun _ F=>?_
 refine J0 (kBx F M [_,_,_] (k:=fun b1 w M=>zk fun _ F=>?_))
 refine J0 (kAl F M JA [_,_,_] (k:=fun b2 w M=>zk fun _ F=>?_))
 refine Jc [(_,[_,_,_],_)] [] [] [0,1,2,3,4,5,6,7,8,9] M (hd1 M.at' 1) mixed zK fun w M hS=>?_
 refine zr2 fun _ F=>?_
 refine J2 rfl rfl (kQ F M (hc:=J5a M.st.nil.tb) (k:=fun s3 w q3 m M=>kB m (zkN fun _ F=>?_)))
 refine J2 rfl rfl (kS F M (hc:=J4G M.tb M.v) (k:=fun v s4 w q4 M=>kF (zkN fun _ F=>?_)))
 refine J2 rfl rfl (kW F M 1 [_,_,_] [_,_] (k:=fun w M=>kF (zkN fun _ F=>?_)))
 refine J0 (kQ F M (hc:=J7a M.st.nil.tb) (k:=fun s5 w q5 m M=>zk fun _ F=>?_))
 refine zib F (fun h6=>?_) fun h6=>?_
 ·refine zr2 fun _ F=>?_
  refine J0 (kW F M 1 [_,_,_] [_,_] (k:=fun w M=>zk fun _ F=>?_))
  refine zde F M.at' 0 ?_
  exact zfS M _ () (yBo) (by rw [J0S,Jg1 h6])
 refine zr2 fun _ F=>?_
 refine J0 (kW F M 1 [_,_,_] [_,_] (k:=fun w M=>zk fun _ F=>?_))
 refine zde F M.at' 0 ?_
 exact zfS M _ () (yBo) (by rw [J0S])
theorem Jap {id:Int} {p:Int} {x:ByteArray} (hT:TbO w []) (hm:RM X H w v D u) (hu:u+1≤68718428160:=by omega) (h_id:J1 id:=by exact ym) (h_p:J1 p:=by exact ym) (h_x:okS x:=by exact yi) (p0:x.size≤20000:=by omega) :
 Calls prog 346 #[v.val,iV id,iV p,.string x] w (PS X H w (fun v (r:Unit) (s:Unit)=>v.val) () (Jp D (kIb id p) (Js x)) (u+1) noq):=by
 have M:=Sp.start hT hm
 refine zE (f:=346) fun _ F=>?_
 refine J0 (kBx F M [_,_,_] (k:=fun b1 w M=>zk fun _ F=>?_))
 refine J0 (kAl F M JA [_,_,_] (k:=fun b2 w M=>zk fun _ F=>?_))
 refine J0 (kQ F M (hc:=J7F M.st.nil.tb) (k:=fun s3 w q3 m M=>zk fun _ F=>?_))
 refine Jc [(_,[_,_,_],_)] [] [] [0,1,2,4,3,5,6] M (hd1 M.at' 1) mixed zK fun w M hS=>?_
 refine zr2 fun _ F=>?_
 refine J2 rfl rfl (kQ F M (hc:=J5a M.st.nil.tb) (k:=fun s4 w q4 m M=>kB m (zkN fun _ F=>?_)))
 refine J2 rfl rfl (kS F M (hc:=J1I nmp M.tb M.v) (k:=fun v s5 w q5 M=>kF (zkN fun _ F=>?_)))
 refine J2 rfl rfl (kW F M 0 [_,_,_] [_,_] (k:=fun w M=>kF (zkN fun _ F=>?_)))
 refine zdc F M.at' 0 ?_
 exact zfS M () () (trivial) (rfl)
end
section
variable {P:Program} {ops:Array Oper} {Q:Exit→Act→World→Prop} {K:Act→World→Prop} {o o1 o2:Oper} {rest:List Oper} {a:Act} {w:World} {d d1 d2 t t2 n i:Nat} {x y z:Operand} {m:List (Nat × Value)} {L:List Atom} {S:World→Prop} {rl ex:List Nat}
theorem kSB {src dst e:Nat} {s:ByteArray} [I1:UTc P src .string] [I2:UTc P dst (.slice e)] [I3:UTc P e (.int .u8)] (F:Fr n m a) (A:At w L)
 (ho:o.op=.convert src dst x:=by exact rfl) (hx:opd m x=some (.string s):=by exact rfl) (hz:s.size≤9223372036854775807:=by first|omega|(unfold okS at *;omega)) (hd:o.dst=some d:=by exact rfl) (hw:J8 ops m o=some true:=by exact rfl) (hp:Nat.blt d n=true:=by exact rfl)
 (k:∀ b q c w',q=s.size→Mv L w (owX e (.slice (aO b) q c) (Jb s)::L) w'→∀ a',Fr n ((d,.slice (aO b) q c)::m) a'→K a' w'):st1 P ops Q o K a w:=by
 have hO:=JaM (w:=w) (e:=e) s hz (Jb s) (J0A s) (J2F s) (fun i x hx=>by
  unfold Jb at hx
  rw [List.getElem?_map] at hx
  unfold List.getD
  cases hq:s.data.toList[i]? with
  | none=>rw [hq] at hx;cases hx
  | some y=>rw [hq] at hx;cases hx;rfl)
 have hM:=At.frame (New:=[owX e (.slice (aO w.heap.size) s.size (grownCap w s.size 0 e)) (Jb s)]) A [] rfl (J5f (w:=w) hO (fun b hb=>by
  have:b=w.heap.size:=by simpa [Value.ownBlock,eq_comm] using hb
  rw [this];exact Nat.le_refl _) (Lib.bytesWorld_below w e s))
 rw [J19] at hM
 refine J1s (Jk F hw) hd (v:=.slice (aO w.heap.size) s.size (grownCap w s.size 0 e)) (w':=Lib.bytesWorld w e s) ?_ fun a' e'=>k _ _ _ _ rfl hM a' (F.put e' hp)
 have hx':=F.g hx
 simp [execOp,ho,hx',Lib.run_convert_string_bytes w src dst e s I1.h I2.h I3.h,Result.andThen]
theorem kBS {src dst e:Nat} {ad:Option Addr} {q c:Nat} {l:List Nat} [I1:UTc P src (.slice e)] [I2:UTc P e (.int .u8)] [I3:UTc P dst .string] (F:Fr n m a) (R:RSl 1 (Enc J7 okB) w (.slice ad q c) l)
 (ho:o.op=.convert src dst x:=by exact rfl) (hx:opd m x=some (.slice ad q c):=by exact rfl) (hd:o.dst=some d:=by exact rfl) (hw:J8 ops m o=some true:=by exact rfl) (hp:Nat.blt d n=true:=by exact rfl)
 (k:∀ a',Fr n ((d,.string (Je l))::m) a'→K a' w):st1 P ops Q o K a w:=
 Jf F (Jk F hw) hd (J1r I1.h I2.h I3.h R ho (F.g hx)) hp k
theorem Jbh {e bytes:Nat} {z0:Value} {s v:Operand} {sv:Value} {l:List Nat} (F:Fr n m a) (A:At w L) (j:Nat) (b1:Nat) (E:ElemT P t e z0 1 bytes J7) (hb:b1 < 256)
 (hL:nth L j=some (owX e sv l):=by exact rfl) (hsel:JP L.length [j]=true:=by exact rfl) (hlen:(l.length+1) * bytes≤140737488355328:=by omega)
 (ho1:o1.op=.buildSlice t 1 #[(0,v)]:=by exact rfl) (hv:opd m v=some (.int .u8 ((b1:Nat):Int)):=by exact rfl) (hd1:o1.dst=some d1:=by exact rfl) (hw1:J8 ops m o1=some true:=by exact rfl) (hp1:Nat.blt d1 n=true:=by exact rfl)
 (ho2:o2.op=.call { callee:=.builtin .append,args:=#[s,.tmp d1],argTypes:=#[t,t] }:=by exact rfl) (hs:∀ u,opd ((d1,u)::m) s=some sv:=by intro _;exact rfl) (hd2:o2.dst=some d2:=by exact rfl) (hw2:∀ u,J8 ops ((d1,u)::m) o2=some true:=by intro _;exact rfl) (hp2:Nat.blt d2 n=true:=by exact rfl)
 (k:∀ b q c u w',q=l.length+1→Mv L w ([owX e (.slice b q c) (l++[b1])]++del L [j]) w'→∀ a',Fr n ((d2,.slice b q c)::(d1,u)::m) a'→wpList P ops Q rest a' w'):wpList P ops Q (o1::o2::rest) a w:=by
 refine J0 (J02 (enc:=J7) (ok:=okB) (vs:=[.int .u8 ((b1:Nat):Int)]) F A [b1] E (Jk F hw1) hd1 ho1 rfl rfl hp1 (by simp [F.g hv]) rfl rfl (by intro x hx;rw [List.mem_singleton.1 hx];exact hb) fun b a1 w1 F1 M1=>?_)
 have R1:RSl 1 (Enc J7 okB) w1 (.slice (aO b) 1 1) [b1]:=(At.rd (enc:=J7) (k:=1) M1.at' E.hk 0 rfl).1
 have M2:Mv L w L w1:=M1.trans (by
  have:=M1.at'.drop 0
  rw [J2G] at this
  exact this)
 refine J0 (J7j F1 M2.at' j E hL hsel (Jk F1 (hw2 _)) hd2 ho2 hp2 (F1.g (hs _)) (F1.g (by show look _ d1=_;unfold look;rw [Nat.beq_refl])) R1 (by simp) (by simpa using hlen) fun b' q c a2 w2 F2 M3 hq=>?_)
 exact k b' q c _ w2 (by simpa using hq) (M2.trans M3) a2 F2
theorem JaU {e bytes:Nat} {z0:Value} {s v:Operand} {sv:Value} {l:List Nat} (F:Fr n m a) (A:At w L) (j:Nat) (b1:Nat) (E:ElemT P t e z0 1 bytes J7) (hb:b1 < 256)
 (hL:nth L j=some (ow e 1 J7 okB sv l):=by exact rfl) (hsel:JP L.length [j]=true:=by exact rfl) (hlen:(l.length+1) * bytes≤140737488355328:=by omega)
 (ho1:o1.op=.buildSlice t 1 #[(0,v)]:=by exact rfl) (hv:opd m v=some (.int .u8 ((b1:Nat):Int)):=by exact rfl) (hd1:o1.dst=some d1:=by exact rfl) (hw1:J8 ops m o1=some true:=by exact rfl) (hp1:Nat.blt d1 n=true:=by exact rfl)
 (ho2:o2.op=.call { callee:=.builtin .append,args:=#[s,.tmp d1],argTypes:=#[t,t] }:=by exact rfl) (hs:∀ u,opd ((d1,u)::m) s=some sv:=by intro _;exact rfl) (hd2:o2.dst=some d2:=by exact rfl) (hw2:∀ u,J8 ops ((d1,u)::m) o2=some true:=by intro _;exact rfl) (hp2:Nat.blt d2 n=true:=by exact rfl)
 (k:∀ b q c u w',q=l.length+1→Mv L w ([ow e 1 J7 okB (.slice b q c) (l++[b1])]++del L [j]) w'→∀ a',Fr n ((d2,.slice b q c)::(d1,u)::m) a'→wpList P ops Q rest a' w'):wpList P ops Q (o1::o2::rest) a w:=by
 refine J0 (J02 (enc:=J7) (ok:=okB) (vs:=[.int .u8 ((b1:Nat):Int)]) F A [b1] E (Jk F hw1) hd1 ho1 rfl rfl hp1 (by simp [F.g hv]) rfl rfl (by intro x hx;rw [List.mem_singleton.1 hx];exact hb) fun b a1 w1 F1 M1=>?_)
 have R1:RSl 1 (Enc J7 okB) w1 (.slice (aO b) 1 1) [b1]:=(At.rd (enc:=J7) (k:=1) M1.at' E.hk 0 rfl).1
 have M2:Mv L w L w1:=M1.trans (by
  have:=M1.at'.drop 0
  rw [J2G] at this
  exact this)
 refine J0 (Jv F1 M2.at' j E hL hsel (Jk F1 (hw2 _)) hd2 ho2 hp2 (F1.g (hs _)) (F1.g (by show look _ d1=_;unfold look;rw [Nat.beq_refl])) R1 (by simpa using hlen) fun b' q c a2 w2 F2 M3 hq=>?_)
 exact k b' q c _ w2 (by simpa using hq) (M2.trans M3) a2 F2
theorem JbF {e bytes:Nat} {z0:Value} (F:Fr n m a) (A:At w L) (E:ElemT P t e z0 1 bytes J7)
 (ho:o.op=.buildSlice t 0 #[]:=by exact rfl) (hd:o.dst=some d:=by exact rfl) (hw:J8 ops m o=some true:=by exact rfl) (hp:Nat.blt d n=true:=by exact rfl)
 (k:∀ b w',Mv L w (ow e 1 J7 okB (.slice (aO b) 0 0) []::L) w'→∀ a',Fr n ((d,.slice (aO b) 0 0)::m) a'→K a' w'):st1 P ops Q o K a w:=
 J02 (enc:=J7) (ok:=okB) (vs:=[]) F A [] E (Jk F hw) hd ho rfl rfl hp rfl rfl rfl (by intro x hx;cases hx) fun b a1 w1 F1 M1=>k b w1 M1 a1 F1
theorem JbG {e bytes:Nat} {z0:Value} {ad:Option Addr} {q c:Nat} {l:List Nat} {v:Operand} [I:TIc P t2 false 1] (F:Fr n m a) (A:At w L) (j p y0:Nat) (E:ElemT P t e z0 1 bytes J7) (hy:y0 < 256) {zp:Int}
 (hL:nth L j=some (owX e (.slice ad q c) l):=by exact rfl) (hsel:JP L.length [j]=true:=by exact rfl)
 (ho1:o1.op=.indexAddr t x y:=by exact rfl) (hx:opd m x=some (.slice ad q c):=by exact rfl) (hi:opd m y=some (iV zp):=by exact rfl) (hzp:zp=((p:Nat):Int):=by exact yBp) (hj:p < q:=by omega) (hd1:o1.dst=some d1:=by exact rfl) (hw1:J8 ops m o1=some true:=by exact rfl) (hp1:Nat.blt d1 n=true:=by exact rfl)
 (ho2:o2.op=.store t2 (.tmp d1) v:=by exact rfl) (hv:∀ u,opd ((d1,u)::m) v=some (.int .u8 ((y0:Nat):Int)):=by intro _;exact rfl) (hd2:o2.dst=none:=by exact rfl) (hw2:∀ u,J8 ops ((d1,u)::m) o2=some true:=by intro _;exact rfl)
 (k:∀ u w',Mv L w ([owX e (.slice ad q c) (l.set p y0)]++del L [j]) w'→∀ a',Fr n ((d1,u)::m) a'→wpList P ops Q rest a' w'):wpList P ops Q (o1::o2::rest) a w:=by
 obtain ⟨B,x0,had,hxn,hok,hc⟩:=At.ownAtX A j hL p hj
 subst had
 refine J0 (Jf F (Jk F hw1) hd1 (JB (i:=p) E ho1 (F.g hx) (F.g hi) hzp hj) hp1 fun a1 F1=>?_)
 refine J0 (Jew (b:=B) A j p y0 I.h hL rfl hsel (Jk F1 (hw2 _)) hd2 ho2 (F1.g (by show look _ d1=_;unfold look;rw [Nat.beq_refl])) (F1.g (hv _)) rfl hj hy fun w' m'=>k _ w' m' a1 F1)
end
section
variable {P:Program} {ops:Array Oper} {Q:Exit→Act→World→Prop} {o:Oper} {a:Act} {K:Act→World→Prop} {w:World} {d n:Nat} {x y:Operand} {m:List (Nat × Value)} {ts:Array TypeId} {i j:Int}
theorem kMn (F:Fr n m a) (z:Int) (ho:o.op=.call { callee:=.builtin .min,args:=#[x,y],argTypes:=ts }:=by exact rfl) (hx:opd m x=some (iV i):=by exact rfl) (hy:opd m y=some (iV j):=by exact rfl) (hz:min i j=z:=by omega) (hd:o.dst=some d:=by exact rfl) (hw:J8 ops m o=some true:=by exact rfl) (hp:Nat.blt d n=true:=by exact rfl)
 (k:∀ a',Fr n ((d,iV z)::m) a'→K a' w):st1 P ops Q o K a w:=by
 have e:(if j < i then j else i)=z:=by rw [← hz];split <;> omega
 exact Jf F (Jk F hw) hd (by simp [execOp,ho,F.g hx,F.g hy,resolve,invoke,builtin,run_min_int2,e]) hp k
theorem kMx (F:Fr n m a) (z:Int) (ho:o.op=.call { callee:=.builtin .max,args:=#[x,y],argTypes:=ts }:=by exact rfl) (hx:opd m x=some (iV i):=by exact rfl) (hy:opd m y=some (iV j):=by exact rfl) (hz:max i j=z:=by omega) (hd:o.dst=some d:=by exact rfl) (hw:J8 ops m o=some true:=by exact rfl) (hp:Nat.blt d n=true:=by exact rfl)
 (k:∀ a',Fr n ((d,iV z)::m) a'→K a' w):st1 P ops Q o K a w:=by
 have e:(if j > i then j else i)=z:=by rw [← hz];split <;> omega
 exact Jf F (Jk F hw) hd (by simp [execOp,ho,F.g hx,F.g hy,resolve,invoke,builtin,run_max_int2,e]) hp k
theorem kQu {u:TypeId} (F:Fr n m a) (p c:Nat) (hc:0 < c) (hi:i=((p:Nat):Int)) (hj:j=((c:Nat):Int)) (hb:p≤9223372036854775807) {t:TypeId} (ho:o.op=.binOp .quo t x y u:=by exact rfl) (hx:opd m x=some (iV i):=by exact rfl) (hy:opd m y=some (iV j):=by exact rfl) (hd:o.dst=some d:=by exact rfl) (hw:J8 ops m o=some true:=by exact rfl) (hp:Nat.blt d n=true:=by exact rfl)
 (k:∀ a',Fr n ((d,iV ((p / c:Nat):Int))::m) a'→K a' w):st1 P ops Q o K a w:=by
 subst hi
 exact Jf F (Jk F hw) hd (J7u hj hc hb ho (F.g hx) (F.g hy)) hp k
theorem kRe {u:TypeId} (F:Fr n m a) (p c:Nat) (hc:0 < c) (hi:i=((p:Nat):Int)) (hj:j=((c:Nat):Int)) {t:TypeId} (ho:o.op=.binOp .rem t x y u:=by exact rfl) (hx:opd m x=some (iV i):=by exact rfl) (hy:opd m y=some (iV j):=by exact rfl) (hd:o.dst=some d:=by exact rfl) (hw:J8 ops m o=some true:=by exact rfl) (hp:Nat.blt d n=true:=by exact rfl)
 (k:∀ a',Fr n ((d,iV ((p % c:Nat):Int))::m) a'→K a' w):st1 P ops Q o K a w:=by
 subst hi
 exact Jf F (Jk F hw) hd (J3D hj hc ho (F.g hx) (F.g hy)) hp k
end
section
variable {P:Program} {ops:Array Oper} {Q:Exit→Act→World→Prop} {o:Oper} {a:Act} {w:World} {d n g:Nat} {x y:Operand} {m:List (Nat × Value)} {ts:Array TypeId} {i j:Int} {S:World→Prop} {rl ex:List Nat}
theorem nRe {t u:TypeId} (F:Fr n m a) (p c:Nat) (hc:0 < c) (hi:i=((p:Nat):Int)) (hj:j=((c:Nat):Int)) (hg:ops[g]? = some o:=by exact rfl) (ht:((JT o && !ex.contains g) && !JM o)=true:=by exact rfl) (ho:o.op=.binOp .rem t x y u:=by exact rfl) (hx:opd m x=some (iV i):=by exact rfl) (hy:opd m y=some (iV j):=by exact rfl) (hd:o.dst=some d:=by exact rfl) (hw:J8 ops m o=some true:=by exact rfl) (hp:Nat.blt d n=true:=by exact rfl)
 (k:∀ a',Fr n ((d,iV ((p % c:Nat):Int))::m) a'→Ji P ops ex Q S rl a' w):Ji P ops ex Q S (g::rl) a w:=by
 subst hi
 exact J2w F hg ht (fun _=>J3D hj hc ho (F.g hx) (F.g hy)) hw hd hp k
theorem nMn (F:Fr n m a) (z:Int) (hg:ops[g]? = some o:=by exact rfl) (ht:((JT o && !ex.contains g) && !JM o)=true:=by exact rfl) (ho:o.op=.call { callee:=.builtin .min,args:=#[x,y],argTypes:=ts }:=by exact rfl) (hx:opd m x=some (iV i):=by exact rfl) (hy:opd m y=some (iV j):=by exact rfl) (hz:min i j=z:=by omega) (hd:o.dst=some d:=by exact rfl) (hw:J8 ops m o=some true:=by exact rfl) (hp:Nat.blt d n=true:=by exact rfl)
 (k:∀ a',Fr n ((d,iV z)::m) a'→Ji P ops ex Q S rl a' w):Ji P ops ex Q S (g::rl) a w:=by
 have e:(if j < i then j else i)=z:=by rw [← hz];split <;> omega
 exact J2w F hg ht (fun w=>by simp [execOp,ho,F.g hx,F.g hy,resolve,invoke,builtin,run_min_int2,e]) hw hd hp k
theorem nMnN {p q:Nat} (F:Fr n m a) (hg:ops[g]? = some o:=by exact rfl) (ht:((JT o && !ex.contains g) && !JM o)=true:=by exact rfl) (ho:o.op=.call { callee:=.builtin .min,args:=#[x,y],argTypes:=ts }:=by exact rfl) (hx:opd m x=some (nV p):=by exact rfl) (hy:opd m y=some (nV q):=by exact rfl) (hd:o.dst=some d:=by exact rfl) (hw:J8 ops m o=some true:=by exact rfl) (hp:Nat.blt d n=true:=by exact rfl)
 (k:∀ a',Fr n ((d,iV ((min p q:Nat):Int))::m) a'→Ji P ops ex Q S rl a' w):Ji P ops ex Q S (g::rl) a w:=nMn F _ hg ht ho hx hy zO hd hw hp k
theorem nSh {t:Nat} {hi:Operand} {s:ByteArray} {z:Int} {h:Nat} [I:UTc P t .string] (F:Fr n m a) (hg:ops[g]? = some o:=by exact rfl) (ht:((JT o && !ex.contains g) && !JM o)=true:=by exact rfl) (ho:o.op=.slice t x none (some hi) none:=by exact rfl) (hx:opd m x=some (.string s):=by exact rfl) (hy:opd m hi=some (iV z):=by exact rfl) (hz:z=((h:Nat):Int):=by exact rfl) (hh:h≤s.size:=by exact Nat.min_le_right _ _) (hd:o.dst=some d:=by exact rfl) (hw:J8 ops m o=some true:=by exact rfl) (hp:Nat.blt d n=true:=by exact rfl)
 (k:(s.extract 0 h).size=h→∀ a',Fr n ((d,.string (s.extract 0 h))::m) a'→Ji P ops ex Q S rl a' w):Ji P ops ex Q S (g::rl) a w:=by
 subst hz
 exact J2w F hg ht (fun _=>J2p I.h ho (F.g hx) rfl (F.g hy) (Nat.zero_le _) hh rfl) hw hd hp (k (by rw [ByteArray.size_extract];omega))
end
structure BL where
 a:Option Addr
 n:Nat
 c:Nat
 l:List Nat
abbrev BL.val (x:BL):Value:=.slice x.a x.n x.c
abbrev J5Y (x:BL):Atom:=owX 5 (.slice x.a x.n x.c) x.l
abbrev J5X (x:BL):Atom:=qB x.a x.n x.c x.l
section
variable {P:Program} {ops:Array Oper} {Q:Exit→Act→World→Prop} {o:Oper} {a:Act} {K:Act→World→Prop} {w:World} {d n:Nat} {x y z:Operand} {m:List (Nat × Value)} {ts:Array TypeId} {i j k:Int}
theorem kMn3 (F:Fr n m a) (v:Int) (ho:o.op=.call { callee:=.builtin .min,args:=#[x,y,z],argTypes:=ts }:=by exact rfl) (hx:opd m x=some (iV i):=by exact rfl) (hy:opd m y=some (iV j):=by exact rfl) (hz:opd m z=some (iV k):=by exact rfl) (hv:min (min i j) k=v:=by omega) (hd:o.dst=some d:=by exact rfl) (hw:J8 ops m o=some true:=by exact rfl) (hp:Nat.blt d n=true:=by exact rfl)
 (kk:∀ a',Fr n ((d,iV v)::m) a'→K a' w):st1 P ops Q o K a w:=by
 have e:(if k < (if j < i then j else i) then k else (if j < i then j else i))=v:=by rw [← hv];split <;> split <;> omega
 exact Jf F (Jk F hw) hd (by simp [execOp,ho,F.g hx,F.g hy,F.g hz,resolve,invoke,builtin,Builtin.min_,Builtin.min2,e]) hp kk
theorem JbH {t:Nat} {lo hi:Operand} {s:ByteArray} {z1 z2:Int} [I:UTc P t .string] (F:Fr n m a) (l h:Nat) (ho:o.op=.slice t x (some lo) (some hi) none:=by exact rfl) (hx:opd m x=some (.string s):=by exact rfl) (h1:opd m lo=some (iV z1):=by exact rfl) (h2:opd m hi=some (iV z2):=by exact rfl) (hz1:z1=((l:Nat):Int):=by exact yBp) (hz2:z2=((h:Nat):Int):=by exact yBp) (hl:l≤h:=by omega) (hh:h≤s.size:=by omega) (hd:o.dst=some d:=by exact rfl) (hw:J8 ops m o=some true:=by exact rfl) (hp:Nat.blt d n=true:=by exact rfl)
 (kk:(s.extract l h).size=h - l→∀ a',Fr n ((d,.string (s.extract l h))::m) a'→K a' w):st1 P ops Q o K a w:=by
 subst hz1 hz2
 exact Jf F (Jk F hw) hd (J2p I.h ho (F.g hx) (F.g h1) (F.g h2) hl hh rfl) hp (kk (by rw [ByteArray.size_extract];omega))
end
theorem kE0 {P:Program} {ops:Array Oper} {Q:Exit→Act→World→Prop} {S:World→Prop} {rl ex:List Nat} {i:Nat} {w:World} {R:Act→Prop} (k:∀ a',R a'→Ji P ops ex Q S rl a' w):∀ a',R a'→(J0E ops ex i=true→S w→S w)∧Ji P ops ex Q S rl a' w:=fun a' h'=>⟨fun _ h=>h,k a' h'⟩
theorem St.pick {L0 L:List Atom} {w0 w:World} (M:St L0 w0 L w) (is:List Nat) (L':List Atom) (h:JP L.length is=true:=by exact rfl) (e:sel L is=L':=by exact rfl):St L0 w0 L' w:=by
 subst e
 exact M.then ((Mv.refl M.at').pick is h)
theorem J5S {P:Program} {ops:Array Oper} {Q:Exit→Act→World→Prop} {o:Oper} {a:Act} {w:World} {d t n:Nat} {x y:Operand} {m:List (Nat × Value)} {K:Act→World→Prop} {s:ByteArray} {z:Int} [I:UTc P t .string] (F:Fr n m a) (i:Nat) (ho:o.op=.index t x y:=by exact rfl) (hx:opd m x=some (.string s):=by exact rfl) (hy:opd m y=some (iV z):=by exact rfl) (hz:z=((i:Nat):Int):=by exact yBp) (hi:i < s.size:=by omega) (hd:o.dst=some d:=by exact rfl) (hw:J8 ops m o=some true:=by exact rfl) (hp:Nat.blt d n=true:=by exact rfl)
 (k:∀ a',Fr n ((d,.int .u8 (J5 s i))::m) a'→K a' w):st1 P ops Q o K a w:=
 Jf F (Jk F hw) hd (J0Y I.h ho (F.g hx) (F.g hy) hz hi) hp k
theorem St.toD {X:Uni} {b u:Nat} {v:MV} {D D':List CellD} {L0 L:List Atom} {w0 w:World} (M:St L0 w0 (mB X b v D u::L) w) (e:D=D'):St L0 w0 (mB X b v D' u::L) w:=e ▸ M
theorem Sp.toD {X:Uni} {H:Nat→Prop} {w0 w:World} {L:List Atom} {v:MV} {D D':List CellD} {u:Nat} (M:Sp X H w0 L w v D u) (e:D=D'):Sp X H w0 L w v D' u:=e ▸ M
section
variable {ops:Array Oper} {ex:List Nat} {w:World} {K:Act→World→Prop}
theorem oB {i:Nat} {l:List Hld} {kl:List RdX} {w':World} {R:Act→Prop} (m:Mv [] w [] w') (k:∀ a',R a'→K a' w'):∀ a',R a'→(J0E ops ex i=true→HdK l kl w→HdK l kl w')∧K a' w':=fun a' h=>⟨fun _ h=>h.bl m.bl,k a' h⟩
end
section
variable {X:Uni} {H:Nat→Prop} {P:Program} {ops:Array Oper} {Q:Exit→Act→World→Prop} {a:Act} {w w0:World} {L L0:List Atom} {v:MV} {D:List CellD} {u:Nat}
theorem J5L {id:Nat} (l:List Hld) (kl:List RdX) (ex:List Nat) (order:OT) (M:Sp X H w0 L w v D u) (hl:HdK l kl w) (hm:P.follows .mixedOrders=true) (hc:(Nat.beq order.size ops.size && Region.noSelect ops && J1X ops ex order (Array.replicate ops.size false))=true)
 (h:∀ w',Sp X H w0 L w' v D u→HdK l kl w'→J01 P ops ex (fun a w=>Q .normal a w) (HdK l kl) order a w'):(Code.region id ops true).wp P Q a w:=J60 order hm hc (h _ M.drew (hl.bl (J1U (At.nil w)).bl))
theorem JiJ {id:Nat} (l:List Hld) (kl:List RdX) (ex:List Nat) (order:OT) (M:St L0 w0 L w) (hl:HdK l kl w) (hm:P.follows .mixedOrders=true) (hc:(Nat.beq order.size ops.size && Region.noSelect ops && J1X ops ex order (Array.replicate ops.size false))=true)
 (h:∀ w',St L0 w0 L w'→HdK l kl w'→J01 P ops ex (fun a w=>Q .normal a w) (HdK l kl) order a w'):(Code.region id ops true).wp P Q a w:=J60 order hm hc (h _ M.drew (hl.bl (J1U (At.nil w)).bl))
end
set_option maxRecDepth 100000
set_option maxHeartbeats 1000000
def J4S (B:List Nat) (n:Nat):List Nat:=B++List.replicate (n - B.length) 0
theorem JfJ (B:List Nat) (n:Nat):(J4S B n).length=max B.length n:=by
 unfold J4S;rw [List.length_append,List.length_replicate];omega
def wrB (t:ByteArray) (a f i:Nat) (B:List Nat):Nat→List Nat
 | 0=>B
 | j+1=>(J4S (wrB t a f i B j) (i+j - f+1)).set (i+j - f) (J5 t (i+j - a))
theorem J7b (t:ByteArray) (a f i:Nat) (B:List Nat) (hf:f≤i):∀ j,i+j≤f+8→(wrB t a f i B j).length≤max B.length 8
 | 0,_=>Nat.le_max_left ..
 | j+1,h=>by
  have:=J7b t a f i B hf j zO
  rw [wrB,List.length_set,JfJ];omega
theorem J9V {B D:List Nat} {q:Nat} (h:D=B++List.replicate q 0):D++[0]=B++List.replicate (q+1) 0:=by
 rw [h,List.append_assoc,List.replicate_succ']
theorem JfK {B D:List Nat} {q n:Nat} (h:D=B++List.replicate q 0) (h1:q=0∨B.length+q≤n+1) (h2:¬ D.length≤n):D=J4S B (n+1):=by
 unfold J4S
 have:q=n+1 - B.length:=by
  rw [h,List.length_append,List.length_replicate] at h2;omega
 rw [h,this]
theorem Jbw {t:ByteArray} {a:Nat} {D D2:List Nat} {f i j q n' v':Nat} {B:List Nat} (hD:D=wrB t a f i B j) (h0:D2=D++List.replicate q 0) (h1:q=0∨D.length+q≤n'+1) (h2:¬ D2.length≤n') (hn:n'=i+j - f) (hv:v'=i+j - a):D2.set n' (J5 t v')=wrB t a f i B (j+1):=by
 subst hn hv
 rw [JfK h0 h1 h2,hD];rfl
def wrP (D:List CellD) (id:Int) (a:Nat) (t:ByteArray) (p:Nat):List CellD:=Jp D (kIb id ((p:Nat):Int)) (Js (Je (wrB t a (p * 8) (max a (p * 8)) (Jb (J0S D id ((p:Nat):Int))) (min (a+t.size) (p * 8+8) - max a (p * 8)))))
def wrA (D:List CellD) (id:Int) (a:Nat) (t:ByteArray):Nat→List CellD
 | 0=>D
 | k+1=>wrP (wrA D id a t k) id a t (a / 8+k)
def nBl (a n:Nat):Nat:=(a+n+7) / 8 - a / 8
def wfF (D:List CellD) (id at_:Int) (t:ByteArray):List CellD:=if (!inB at_ 0 (Ja D (kIs id)))=true then D else if t=⟨#[]⟩ then D else if 64 < at_+((t.size:Nat):Int) then D
 else if Ja D (kIs id) < at_+((t.size:Nat):Int) then JG (wrA D id at_.toNat t (nBl at_.toNat t.size)) (kIs id) (at_+((t.size:Nat):Int)) else wrA D id at_.toNat t (nBl at_.toNat t.size)
def ctA (D:List CellD) (id:Int) (p:Nat):Nat→List CellD
 | 0=>D
 | k+1=>Jp (ctA D id p k) (kIb id ((p+k:Nat):Int)) ⟨#[]⟩
def ctH (D:List CellD) (id:Int) (n:Nat):List CellD:=if n % 8=0 then D else Jp D (kIb id ((n / 8:Nat):Int)) (Js ((J0S D id ((n / 8:Nat):Int)).extract 0 (min (n % 8) (J0S D id ((n / 8:Nat):Int)).size)))
theorem Jbd {D:List CellD} {id:Int} {n:Nat} (h:n % 8=0):D=ctH D id n:=(if_pos h).symm
theorem Jbc {D:List CellD} {id:Int} {n:Nat} (h:¬ n % 8=0):Jp D (kIb id ((n / 8:Nat):Int)) (Js ((J0S D id ((n / 8:Nat):Int)).extract 0 (min (n % 8) (J0S D id ((n / 8:Nat):Int)).size)))=ctH D id n:=(if_neg h).symm
theorem J3T (D:List CellD) (id p:Int):(J0S D id p).size≤20000:=Je1 _
def ctF (D:List CellD) (id n:Int):List CellD:=if (!inB n 0 (Ja D (kIs id)))=true then D else JG (ctA (ctH D id n.toNat) id ((n.toNat+7) / 8) ((JS (Jl D (kIs id))+7) / 8 - (n.toNat+7) / 8)) (kIs id) n
end Go.Proofs.YtipdbeklopjbmaaGreatDoor
