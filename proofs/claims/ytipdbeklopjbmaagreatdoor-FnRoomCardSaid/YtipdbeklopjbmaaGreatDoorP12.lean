/-
  Texts laid together: DatRc, Eng13, DatRd, Eng15, Eng16, DatRe, GenR, GenNa, GenNb.
-/
import Derived.Test.YtipdbeklopjbmaaGreatDoorP10
import Derived.Test.YtipdbeklopjbmaaGreatDoorP11
import Derived.RangeFuncIn
import Derived.RangeFuncRecord
import Derived.RangeFuncSeq
import Derived.RangeFuncCalls
import Derived.Shelf.Strings.BuilderF
set_option linter.unusedVariables false
set_option linter.unusedSimpArgs false
namespace Go.Proofs.YtipdbeklopjbmaaGreatDoor
open Go.ChangeShapes Go.WideShapes Go.ChangeAt Go.RowKit Go.Proofs.Tryz
set_option maxRecDepth 100000
set_option maxHeartbeats 1000000
section
end
section
variable {P:Program} {ops:Array Oper} {Q:Exit→Act→World→Prop} {K:Act→World→Prop} {o:Oper} {a:Act} {w:World} {L:List Atom} {d n:Nat} {m:List (Nat × Value)}
theorem JeS {src dst e:TypeId} {u:TypeDesc} {s:ByteArray} {x:Operand} (F:Fr n m a) (A:At w L) (hs:P.underlying src=some u) (hdt:P.underlying dst=some (.slice e)) (he:P.underlying e=some (.int .u8)) (hw:Region.wanted o (yielded ops a.tmps)=true) (hd:o.dst=some d) (ho:o.op=.convert src dst x) (hp:Nat.blt d n=true) (hx:a.eval x=.string s) (hz:s.size≤9223372036854775807)
 (kk:∀ b q c a' w',Fr n ((d,.slice (some ⟨b,0,none⟩) q c)::m) a'→Mv L w (owX e (.slice (some ⟨b,0,none⟩) q c) (Jb s)::L) w'→q=s.size→K a' w'):st1 P ops Q o K a w:=by
 have hO:=JaM (w:=w) (e:=e) s hz (Jb s) (J0A s) (J2F s) (fun i x hx=>by
  unfold Jb at hx
  rw [List.getElem?_map] at hx
  unfold List.getD
  cases hq:s.data.toList[i]? with
  | none=>rw [hq] at hx;cases hx
  | some y=>rw [hq] at hx;cases hx;rfl)
 have hM:=At.frame (New:=[owX e (.slice (some ⟨w.heap.size,0,none⟩) s.size (grownCap w s.size 0 e)) (Jb s)]) A [] rfl (J5f (w:=w) hO (fun b hb=>by
  have:b=w.heap.size:=by simpa [Value.ownBlock,eq_comm] using hb
  rw [this];exact Nat.le_refl _) (Lib.bytesWorld_below w e s))
 rw [J19] at hM
 refine J1s hw hd (v:=.slice (some ⟨w.heap.size,0,none⟩) s.size (grownCap w s.size 0 e)) (w':=Lib.bytesWorld w e s) ?_ fun _ e'=>kk _ _ _ _ _ (F.put e' hp) hM rfl
 simp [execOp,ho,hx,Lib.run_convert_string_bytes w src dst e s hs hdt he,Result.andThen]
end
def J04 (l:List Nat):Nat:=l.foldl (fun n c=>(31 * n+c) % 9973) 7
theorem J5s {l:List Nat} : J04 l < 9973:=by
 unfold J04
 have:∀ (l:List Nat) (n:Nat),n < 9973→l.foldl (fun n c=>(31 * n+c) % 9973) n < 9973:=by
  intro l
  induction l with
  | nil=>exact fun n h=>h
  | cons x l ih=>exact fun n _=>ih _ (Nat.mod_lt _ (by decide))
 exact this l 7 (by decide)
def J3a (c:CellD):List Nat:=Jb (Js c.key)++61::Jb (Js c.val)
def J0y (seq:Int) (list:List CellD):List Nat:=Jb (Jj seq)++list.flatMap (fun c=>32::J3a c)
def J3f (seq:Int) (list:List CellD):ByteArray:=Je (J0y seq list)++(⟨#[32,35]⟩:ByteArray)++Jj ((J04 (J0y seq list):Nat):Int)++(⟨#[10]⟩:ByteArray)
def J1F (c:CellD):Bool:=J0L c.key && decide (c.val.size≤60)
def J0z (seq:Int) (list:List CellD):ByteArray:=if inB seq 1 100000=true∧list.all J1F=true∧(J3f seq list).size≤4000 then J3f seq list else ⟨#[]⟩
theorem Jf9 {seq:Int} {list:List CellD} {k:Nat} {c:CellD} (h:nth list k=some c):J0y seq (list.take (k+1))=J0y seq (list.take k)++(32::J3a c):=by
 unfold J0y
 rw [J1l h,List.flatMap_append,List.append_assoc]
 simp
theorem Jfa (seq:Int) (list:List CellD) (k:Nat):(J0y seq (list.take k)).length≤(J0y seq list).length:=by
 unfold J0y
 rw [List.length_append,List.length_append]
 have:(list.flatMap (fun c=>32::J3a c))=((list.take k).flatMap (fun c=>32::J3a c))++((list.drop k).flatMap (fun c=>32::J3a c)):=by
  rw [← List.flatMap_append,List.take_append_drop]
 rw [this,List.length_append];omega
theorem Jfb (seq:Int) (list:List CellD):(J0y seq list).length≤(J3f seq list).size:=by
 unfold J3f
 rw [ByteArray.size_append,ByteArray.size_append,ByteArray.size_append,J1n];omega
theorem J2b {seq:Int} {list:List CellD} (h:inB seq 1 100000=false):(⟨#[]⟩:ByteArray)=J0z seq list:=(if_neg (fun g=>by rw [h] at g;cases g.1)).symm
theorem J0J {seq:Int} {list:List CellD} {k:Nat} {c:CellD} (hc:nth list k=some c) (h:J1F c=false):(⟨#[]⟩:ByteArray)=J0z seq list:=(if_neg (fun g=>by
 have:=List.all_eq_true.1 g.2.1 c (Jm hc)
 rw [h] at this;cases this)).symm
theorem J22 {seq:Int} {list:List CellD} {k n:Nat} (hn:n=(J0y seq (list.take k)).length) (h:n > 4000):(⟨#[]⟩:ByteArray)=J0z seq list:=(if_neg (fun g=>by
 have:=Jfa seq list k
 have:=Jfb seq list
 have:=g.2.2
 omega)).symm
theorem J25 {seq:Int} {list:List CellD} (h:(J3f seq list).size > 4000):(⟨#[]⟩:ByteArray)=J0z seq list:=(if_neg (fun g=>by have:=g.2.2;omega)).symm
theorem J26 {seq:Int} {list:List CellD} (h1:inB seq 1 100000=true) (h2:∀ j,j < list.length→∀ c,nth list j=some c→J1F c=true) (h3:¬ (J3f seq list).size > 4000):J3f seq list=J0z seq list:=(if_pos ⟨h1,List.all_eq_true.2 fun c hc=>by
 obtain ⟨j,hj,e⟩:=List.mem_iff_getElem.1 hc
 exact h2 j hj c (by rw [JO,List.getElem?_eq_getElem hj,e]),zO⟩).symm
theorem J6s (a b:ByteArray):Jb (a++b)=Jb a++Jb b:=by unfold Jb;rw [toList_append,List.map_append]
theorem Jg7 (c:CellD):∀ x ∈ J3a c,x < 256:=fun x h=>by
 unfold J3a at h
 rcases List.mem_append.1 h with h|h
 ·exact J2F _ x h
 rcases List.mem_cons.1 h with h|h
 ·omega
 exact J2F _ x h
theorem JgK (seq:Int) (list:List CellD):∀ x ∈ J0y seq list,x < 256:=fun x h=>by
 unfold J0y at h
 rcases List.mem_append.1 h with h|h
 ·exact J2F _ x h
 obtain ⟨c,_,h⟩:=List.mem_flatMap.1 h
 rcases List.mem_cons.1 h with h|h
 ·omega
 exact Jg7 c x h
section
end
theorem Ja6 {s:ByteArray} {k:Nat} (h:k < s.size):(31 * J04 ((Jb s).take k)+J5 s k) % 9973=J04 ((Jb s).take (k+1)):=by
 have hl:=J0A s
 have e:(Jb s).take (k+1)=(Jb s).take k++[J5 s k]:=by
  rw [List.take_add_one,J4k,List.getElem?_eq_getElem zO];rfl
 rw [e]
 unfold J04
 rw [List.foldl_append];rfl
theorem JaE {s:ByteArray} {k:Nat} (h:k≤s.size) (h2:¬ k < s.size):J04 ((Jb s).take k)=J04 (Jb s):=by rw [List.take_of_length_le (by rw [J0A];omega)]
section
end
theorem J27 {c:CellD} (h:(!J0L c.key)=true):J1F c=false:=by unfold J1F;rw [nt h];rfl
theorem J28 {c:CellD} (h:c.val.size > 60):J1F c=false:=by unfold J1F;rw [decide_eq_false zO,Bool.and_false]
theorem J93 {c:CellD} (h1:(!J0L c.key)=false) (h2:¬ c.val.size > 60):J1F c=true:=by unfold J1F;rw [nf h1,decide_eq_true zO];rfl
theorem Ja2 {seq:Int} {list:List CellD} {D:List Nat} {k:Nat} {c:CellD} (hD:D=J0y seq (list.take k)) (h:nth list k=some c):D++[32]++Jb (Js c.key)++[61]++Jb (Js c.val)=J0y seq (list.take (k+1)):=by
 rw [Jf9 h,hD]
 unfold J3a
 simp [List.append_assoc]
theorem Jaz {list:List CellD} {k:Nat} (h:∀ j,j < k→∀ c,nth list j=some c→J1F c=true) {c:CellD} (hc:nth list k=some c) (hb:J1F c=true):∀ j,j < k+1→∀ c,nth list j=some c→J1F c=true:=fun j hj d hd=>by
 rcases Nat.lt_or_ge j k with h1|h1
 ·exact h j h1 d hd
 have:j=k:=by omega
 subst this
 rw [hc] at hd
 cases hd
 exact hb
theorem J05 {seq:Int} {list:List CellD} {D:List Nat} {k:Nat} (hD:D=J0y seq (list.take k)) (hk:list.length≤k):((Je D++(⟨#[32,35]⟩:ByteArray))++Jj ((J04 (Jb (Je D)):Nat):Int))++(⟨#[10]⟩:ByteArray)=J3f seq list:=by
 rw [List.take_of_length_le hk] at hD
 subst hD
 rw [J4p _ (JgK seq list)];rfl
end Go.Proofs.YtipdbeklopjbmaaGreatDoor
namespace Go.Proofs.YtipdbeklopjbmaaGreatDoor
open Go.ChangeShapes Go.WideShapes Go.ChangeAt Go.RowKit Go.Shelf Go.Lib
section
end
end Go.Proofs.YtipdbeklopjbmaaGreatDoor
namespace Go.Proofs.YtipdbeklopjbmaaGreatDoor
open Go.ChangeShapes Go.WideShapes Go.ChangeAt Go.RowKit Go.Proofs.Tryz
set_option maxRecDepth 100000
set_option maxHeartbeats 1000000
section
variable {w w':World} {E L L' X:List Atom}
theorem Jiz (A:At w (E++(L++X))) (m:Mv L w L' w'):Mv (E++(L++X)) w (E++(L'++X)) w':=by
 have a1:=List.pairwise_append.1 A.apart
 have a2:=List.pairwise_append.1 a1.2.1
 have hm:∀ B,B ∈ E∨B ∈ X→B ∈ E++(L++X):=fun B hB=>hB.elim (List.mem_append_left _) fun h=>List.mem_append_right _ (List.mem_append_right _ h)
 have hn:∀ B,B ∈ E∨B ∈ X→∀ b,B.fp b→b < w.heap.size∧¬ fps L b:=fun B hB b hb=>⟨A.lt b ⟨B,hm B hB,hb⟩,fun ⟨C,hC,hc⟩=>hB.elim (fun h=>a1.2.2 B h C (List.mem_append_left _ hC) b hb hc) fun h=>a2.2.2 C hC B h b hc hb⟩
 have hok:∀ B,B ∈ E∨B ∈ X→B.ok w':=fun B hB=>B.st w w' (fun b hb=>m.kp.block b (hn B hB b hb).1 (hn B hB b hb).2) (A.ok B (hm B hB))
 have hx:∀ B,B ∈ E∨B ∈ X→∀ C ∈ L',∀ b,B.fp b→¬ C.fp b:=fun B hB C hC b hb hc=>(m.fresh b ⟨C,hC,hc⟩).elim (hn B hB b hb).2 fun h=>by have:=(hn B hB b hb).1;omega
 have hc:∀ b,fps (E++(L'++X)) b→(∃ B,(B ∈ E∨B ∈ X)∧B.fp b)∨fps L' b:=fun b ⟨B,hB,hb⟩=>by
  rcases List.mem_append.1 hB with h|h
  ·exact .inl ⟨B,.inl h,hb⟩
  rcases List.mem_append.1 h with h|h
  ·exact .inr ⟨B,h,hb⟩
  exact .inl ⟨B,.inr h,hb⟩
 refine ⟨⟨fun B hB=>?_,fun b hb=>?_,?_⟩,fun b hb=>?_,⟨m.kp.os,m.kp.tape,m.kp.output,m.kp.size,fun k hk h=>m.kp.block k hk fun q=>h (J21.2 (.inr (J21.2 (.inl q))))⟩⟩
 ·rcases List.mem_append.1 hB with h|h
  ·exact hok B (.inl h)
  rcases List.mem_append.1 h with h|h
  ·exact m.at'.ok B h
  exact hok B (.inr h)
 ·rcases hc b hb with ⟨B,hB,h⟩|h
  ·have:=(hn B hB b h).1
   have:=m.kp.size
   omega
  exact m.at'.lt b h
 ·refine List.pairwise_append.2 ⟨a1.1,List.pairwise_append.2 ⟨m.at'.apart,a2.2.1,fun C hC B hB b hc hb=>hx B (.inr hB) C hC b hb hc⟩,fun B hB C hC b hb hc=>?_⟩
  rcases List.mem_append.1 hC with h|h
  ·exact hx B (.inl hB) C h b hb hc
  exact a1.2.2 B hB C (List.mem_append_right _ h) b hb hc
 rcases hc b hb with ⟨B,hB,h⟩|h
 ·exact .inl ⟨B,hm B hB,h⟩
 exact (m.fresh b h).imp (fun q=>J21.2 (.inr (J21.2 (.inl q)))) id
theorem Jgt (A:At w (L++X)) (m:Mv L w L' w'):Mv (L++X) w (L'++X) w':=Jiz (E:=[]) A m
end
end Go.Proofs.YtipdbeklopjbmaaGreatDoor
namespace Go.Proofs.YtipdbeklopjbmaaGreatDoor
open Go.Proofs.Tryz
open Go.ChangeShapes Go.WideShapes Go.ChangeAt Go.RowKit Go.Shelf
theorem JaQ:Builder.X72 prog J8C:={ sizeBuilder:=by kernel_rfl,liesBuilder:=by kernel_rfl }
theorem Jhc:Builder.Extra prog J8t:=
 { sizeBuilder:=by kernel_rfl,liesBuilder:=by kernel_rfl,t5:=laysIndex.t5,a5:=laysIndex.a5,z5:=laysIndex.z5,v5:=laysIndex.v5,infoByte:=by kernel_rfl,cellsByte:=by kernel_rfl,sizeByte:=by kernel_rfl,neB5:=by decide }
theorem Jbb {w:World} {b:Nat} {cs:List Value} {T:TypeId} {X:List Atom} (A:At w (bx b cs T::X)):w.heap[b]? = some (.cells cs.toArray T (0,0)):=A.ok _ (List.mem_cons_self ..)
theorem JfY {w:World} {b:Nat} {cs:Array Value} {T:TypeId} {mk:Nat × Nat} (h:w.heap[b]? = some (.cells cs T mk)):w.shape? b=some (T,cs.size):=by simp [World.shape?,h]
theorem OwnB.bytes {e:Nat} {w:World} {v:Value} {l:List Nat} (h:OwnB e w v l):∀ x ∈ l,x < 256:=by
 rcases h with ⟨_,rfl⟩|⟨g,cap,cur,mk,e1,h1,h2,h3,h4,h5,h6,h7,h8⟩
 ·exact fun _ h=>by cases h
 exact h7
theorem OwnB.len {e:Nat} {w:World} {v:Value} {l:List Nat} (h:OwnB e w v l):l.length≤maxLen:=by
 rcases h with ⟨_,rfl⟩|⟨g,cap,cur,mk,e1,h1,h2,h3,h4,h5,h6,h7,h8⟩
 ·exact Nat.zero_le _
 omega
theorem Jg9 {w:World} {b:Nat} {T:TypeId} {v:Value} {X:List Atom} (p:Value) (A:At w (bx b [.pointer none,v] T::X)):Mv (bx b [.pointer none,v] T::X) w (bx b [p,v] T::X) (w.setCell ⟨b,0,none⟩ p):=by
 have hb:w.heap[b]? = some (.cells [.pointer none,v].toArray T (0,0)):=A.ok _ (List.mem_cons_self ..)
 have hlt:=(Array.getElem?_eq_some_iff.1 hb).1
 have h1:=J69 [p] 0 w [.pointer none,v] hb (by simp)
 obtain ⟨s1,s2,s3,s4,s5⟩:=J6Q b [p] 0 w
 have e:w.setCells b 0 [p]=w.setCell ⟨b,0,none⟩ p:=rfl
 rw [e] at h1 s1 s2 s3 s4 s5
 have hM:Mv [bx b [.pointer none,v] T] w [bx b [p,v] T] (w.setCell ⟨b,0,none⟩ p):=⟨At.one h1 (fun c hc=>by have:c=b:=hc;subst this;omega),fun c hc=>.inl (by rw [J1b] at hc ⊢;exact hc),⟨s1,s2,s3,zO,fun k _ hk=>s5 k fun e=>hk (J1b.2 e)⟩⟩
 exact Jgt (L:=[bx b [.pointer none,v] T]) (L':=[bx b [p,v] T]) A hM
section
variable {P:Program} {ρ:Ren}
set_option maxHeartbeats 2000000 in
set_option maxRecDepth 100000 in
theorem Je5 (L:Lays.n169 P ρ) (X:Builder.Extra P ρ) {b g cap:Nat} {cur:Array Value} {mk:Nat × Nat} {p:Value} (l:List UInt8) (w:World) (hbk:w.heap[b]? = some (.cells #[p,.slice (some ⟨g,0,none⟩) l.length cap] (ρ.t 72) (0,0)))
 (hg:w.heap[g]? = some (.cells cur (ρ.t 5) mk)) (h0:l≠[]) (hnc:l.length≤cap) (hcm:cap≤maxLen) (hcs:cur.size=cap) (hc:∀ j (x:UInt8),l[j]? = some x→w.cell? ⟨g,j,none⟩=some (.int .u8 ((x.toNat:Nat):Int))) :
 Calls P (ρ.f 169) #[.pointer (some ⟨b,0,none⟩)] w fun e w'=>e=.returned (.string ⟨l.toArray⟩)∧w'=w.drew.freeze ⟨g,0,none⟩ l.length:=by
 have hl0:l.length≠0:=by simpa using h0
 have c1:w.drew.cell? ⟨b,1,none⟩=some (.slice (some ⟨g,0,none⟩) l.length cap):=by
  have:w.drew.heap[b]? = some (.cells #[p,.slice (some ⟨g,0,none⟩) l.length cap] (ρ.t 72) (0,0)):=hbk
  rw [Lib.cell_of_heap this];rfl
 have hSD:(Builtin.unsafeSliceData_ #[(ρ.t 37)] (ρ.t 127) #[.slice (some ⟨g,0,none⟩) l.length cap]).run P w.drew=.ok (.pointer (some ⟨g,0,none⟩)) w.drew:=
  Lib.run_unsafeSliceData_row _ _ _ _ _ _ zO
 have hUS:(Builtin.unsafeString_ #[(ρ.t 127),(ρ.t 3)] (ρ.t 9) #[.pointer (some ⟨g,0,none⟩),.int .i64 l.length]).run P w.drew=.ok (.string ⟨l.toArray⟩) (w.drew.freeze ⟨g,0,none⟩ l.length):=by
  refine Lib.run_unsafeString_row w.drew (ρ.t 127) (ρ.t 3) (ρ.t 9) (ρ.t 5) L.t127 X.cellsByte g cur.size (by have hg':w.drew.heap[g]? = some (.cells cur (ρ.t 5) mk):=hg;simp [World.shape?,hg']) l h0 zO (by unfold maxLen at hcm;omega) ?_
  intro j x hx
  rw [J0a,Nat.zero_add]
  exact hc j x hx
 have mixed:=L.mixed
 have t72:=L.t72;have a72:=L.a72;have z72:=L.z72;have v72:=L.v72;have u72:=run_underlying L.t72
 have t70:=L.t70;have a70:=L.a70;have z70:=L.z70;have v70:=L.v70;have u70:=run_underlying L.t70
 have t37:=L.t37;have a37:=L.a37;have z37:=L.z37;have v37:=L.v37;have u37:=run_underlying L.t37
 have t127:=L.t127;have a127:=L.a127;have z127:=L.z127;have v127:=L.v127;have u127:=run_underlying L.t127
 have t3:=L.t3;have a3:=L.a3;have z3:=L.z3;have v3:=L.v3;have u3:=run_underlying L.t3
 have t9:=L.t9;have a9:=L.a9;have z9:=L.z9;have v9:=L.v9;have u9:=run_underlying L.t9
 have t5:=X.t5;have a5:=X.a5;have z5:=X.z5;have v5:=X.v5;have u5:=run_underlying X.t5
 go_enter L.f169,Body.n169_ntmps ρ
 go_wp2
 go_region_o
 all_goals (go_wp2;go_ret;exact ⟨rfl,rfl⟩)
theorem JeG (L:Lays.n169 P ρ) (X:Builder.Extra P ρ) {w:World} {b n cap:Nat} {a:Option Addr} {p:Value} (l:List UInt8) (h0:l≠[]) (A:At w [bx b [p,.slice a n cap] (ρ.t 72),owB (ρ.t 5) (.slice a n cap) (l.map (·.toNat))]) :
 Calls P (ρ.f 169) #[.pointer (some ⟨b,0,none⟩)] w fun e w'=>e=.returned (.string ⟨l.toArray⟩)∧Mv [bx b [p,.slice a n cap] (ρ.t 72),owB (ρ.t 5) (.slice a n cap) (l.map (·.toNat))] w [bx b [p,.slice a n cap] (ρ.t 72),owB (ρ.t 5) (.slice a n cap) (l.map (·.toNat))] w':=by
 have hO:OwnB (ρ.t 5) w (.slice a n cap) (l.map (·.toNat)):=A.ok _ (Jm (i:=1) rfl)
 have hb:w.heap[b]? = some (.cells [p,.slice a n cap].toArray (ρ.t 72) (0,0)):=A.ok _ (Jm (i:=0) rfl)
 have hO1:=hO
 rcases hO with ⟨_,h⟩|⟨g,cap',cur,mk,e1,h1,h2,h3,h4,h5,h6,h7,h8⟩
 ·exact absurd (List.map_eq_nil_iff.1 h) h0
 cases e1
 rw [List.length_map] at hb h2 h6 h8
 refine (Je5 L X l w hb h1 h0 h2 h3 (by simpa using h5) fun j x hx=>hO1.cellAt j x.toNat (by rw [List.getElem?_map,hx];rfl)).mono ?_
 rintro e w' ⟨rfl,rfl⟩
 refine ⟨rfl,?_⟩
 have m1:=At.frame0 A (Mv.of_bl ((Bl.refl w).drew))
 have m2:=JfE m1.at' 1 (g:=g) (cap:=cap) rfl rfl rfl
 have m3:=(m1.trans m2).pick [1,0] rfl
 have e:w.drew.freeze ⟨g,0,none⟩ (l.map (·.toNat)).length=w.drew.freeze ⟨g,0,none⟩ l.length:=by rw [List.length_map]
 rw [← e]
 exact m3
end
end Go.Proofs.YtipdbeklopjbmaaGreatDoor
namespace Go.Proofs.YtipdbeklopjbmaaGreatDoor
open Go.ChangeShapes Go.WideShapes Go.ChangeAt Go.RowKit Go.Proofs.Tryz
set_option maxRecDepth 100000
set_option maxHeartbeats 1000000
structure BldD where
 addr:Unit
 buf:List Nat
theorem Jfc {seq:Int} {list:List CellD} {D:List Nat} {k:Nat} {c:CellD} (hD:D=J0y seq (list.take k)) (h:nth list k=some c):D++Jb ((((⟨#[32]⟩:ByteArray)++Js c.key)++(⟨#[61]⟩:ByteArray))++Js c.val)=J0y seq (list.take (k+1)):=by
 rw [J6s,J6s,J6s,← Ja2 hD h]
 show D++((([32]++_)++[61])++_)=_
 simp only [List.append_assoc]
theorem Jes (seq:Int) (list:List CellD):([]:List Nat)++Jb (Jj seq)=J0y seq (list.take 0):=by
 unfold J0y
 rw [List.take_zero,List.flatMap_nil,List.append_nil,List.nil_append]
theorem Jdw (u:Nat):Lib.decDigits u≠[]:=by
 rw [Lib.decDigits]
 split <;> simp
theorem JgL {seq:Int} {list:List CellD} (h:0≤seq):J0y seq list≠[]:=fun e=>by
 obtain ⟨n,rfl⟩:=Int.eq_ofNat_of_zero_le h
 unfold J0y at e
 have e1:=(List.append_eq_nil_iff.1 e).1
 unfold Jb at e1
 have e2:=List.map_eq_nil_iff.1 e1
 have e3:=J3p n
 exact Jdw n (e3.symm.trans e2)
theorem Jay {seq:Int} {list:List CellD} {D:List Nat} (h:(!inB seq 1 100000)=false) (hD:D=J0y seq list):D≠[]:=by
 rw [hD]
 exact JgL (by have:=J0K (nf h);omega)
section
end
section
variable {w:World} {H:Nat→Prop}
set_option maxRecDepth 100000
set_option maxHeartbeats 1000000
theorem Jdp {m:MachD} {m_Sa:Option Addr} {m_Sn m_Sc:Nat} {m_Ra:Option Addr} {m_Rn m_Rc:Nat} {m_Wa:Option Addr} {m_Wn m_Wc:Nat} {key:ByteArray} {val:ByteArray} (Q16:Rd 2 J6 okC H w (.slice m_Sa m_Sn m_Sc) m.store) (Q17:Rd 1 J3 okS H w (.slice m_Ra m_Rn m_Rc) m.touch.reads) (Q18:Rd 1 J3 okS H w (.slice m_Wa m_Wn m_Wc) m.touch.writes) (Q6:okS key) (Q19:okS val) (p0:m.store.length≤274877906943) (p1:m.touch.writes.length≤274877906943) :
 Calls prog 284 #[.agg #[.slice m_Sa m_Sn m_Sc,.slice m_Ra m_Rn m_Rc,.slice m_Wa m_Wn m_Wc],.string key,.string val] w fun e w'=>∃ (Q10:Option Addr)(Q12 Q11:Nat)(Q7:Option Addr)(Q9 Q8:Nat)(Q13:Option Addr)(Q15 Q14:Nat),e=.returned (.agg #[.slice Q10 Q12 Q11,.slice Q7 Q9 Q8,.slice Q13 Q15 Q14])∧Mv [] w [] w'∧Rd 2 J6 okC (Fsh H w) w' (.slice Q10 Q12 Q11) (J1M m key val).store∧Rd 1 J3 okS (Fsh H w) w' (.slice Q7 Q9 Q8) (J1M m key val).touch.reads∧Rd 1 J3 okS (Fsh H w) w' (.slice Q13 Q15 Q14) (J1M m key val).touch.writes:=by
 have V_v_m_store:=Rd.start Q16 zN
 obtain ⟨Q23,Q20,Q29,Q32⟩:=Rd.inv Q16
 have V_v_m_touch_reads:=Rd.start Q17 zN
 obtain ⟨Q24,Q21,Q30,Q33⟩:=Rd.inv Q17
 have V_v_m_touch_writes:=Rd.start Q18 zN
 obtain ⟨Q25,Q22,Q31,Q34⟩:=Rd.inv Q18
 refine ze fun _ F=>?_
 refine zbx F (At.nil w) fun b1 w1 S1 _ F=>?_
 refine zal F S1.at' JA fun b3 w3 S3 _ F=>?_
 refine zl F S3.at' 1 fun _ F=>?_
 refine zz F (J2V (list:=m.touch.writes) (span:=key) (Rd.mq V_v_m_touch_writes (S1.trans S3)) Q6 yb) ?_
 rintro _ w9 ⟨Q3,Q5,Q4,rfl,m9,v9_0⟩
 refine zt fun _ F=>?_
 have S9:=At.frame0 S3.at' m9
 have V9_0:=Rd.got0 S3.at' ((S1.trans S3).kp.size) v9_0 S9
 obtain ⟨ln9_0,le9_0,mx9_0,ni9_0⟩:=Rd.inv V9_0
 refine zst F S9.at' 1 fun w13 S13 _ F=>?_
 have T14:Mv _ _ [bx _ [_,_,_] _,bx _ [_,_,_] _] _:=S13
 refine zl F T14.at' 0 fun _ F=>?_
 refine zz F (J4n (s:=m.store) (key:=key) (val:=val) (Rd.mq V_v_m_store (tc4 S1 S3 S9 T14)) Q6 Q19 yb) ?_
 rintro _ w19 ⟨Q0,Q2,Q1,rfl,m19⟩
 refine zt fun _ F=>?_
 have S19:Mv _ _ [_,bx _ [_,_,_] _,bx _ [_,_,_] _] _:=At.frame T14.at' [] rfl m19
 obtain ⟨Q26,Q27,Q28⟩:=At.ownInv S19.at' ET_28.hk 0 rfl
 refine zst F S19.at' 1 fun w22 S22 _ F=>?_
 refine zw F S22.at' 0 fun _ F=>?_
 refine zst F S22.at' 2 fun w24 S24 _ F=>?_
 have Z25:Rd 2 J6 okC (V H w [bx b3 [.slice Q0 Q2 Q1,.slice m_Ra m_Rn m_Rc,.slice Q3 Q5 Q4] 210,bx b1 [.slice Q0 Q2 Q1,.slice m_Ra m_Rn m_Rc,.slice Q3 Q5 Q4] 210]) w24 (.slice Q0 Q2 Q1) (Jp m.store key val):=At.freeze (tc7 S1 S3 S9 T14 S19 S22 S24) ET_28.hk 2 rfl (fun b hb=>((tc7 S1 S3 S9 T14 S19 S22 S24).fresh b ⟨_,Jm (i:=2) rfl,hb⟩).resolve_left (JF _))
 have S25:=At.drop S24.at' 2
 refine zdc F S24.at' 0 ?_
 exact ⟨Q0,Q2,Q1,m_Ra,m_Rn,m_Rc,Q3,Q5,Q4,rfl,(Mv.pick (tc8 S1 S3 S9 T14 S19 S22 S24 S25) [] rfl),(Rd.cast (Rd.give Z25) (by rfl)),(Rd.cast (Rd.give (Rd.mq V_v_m_touch_reads (tc8 S1 S3 S9 T14 S19 S22 S24 S25))) (by rfl)),(Rd.cast (Rd.give (Rd.mq V9_0 (tc5 T14 S19 S22 S24 S25))) (by rfl))⟩
theorem J86 {H:Nat→Prop} {m:MachD} {m_Sa:Option Addr} {m_Sn m_Sc:Nat} {m_Ra:Option Addr} {m_Rn m_Rc:Nat} {m_Wa:Option Addr} {m_Wn m_Wc:Nat} {m_b:Nat} {key:ByteArray} {val:ByteArray} (Q0:okS key) (Q10:okS val) (p0:m.store.length≤274877906943) (p1:m.touch.writes.length≤274877906943) (hA:At w [bx m_b [.slice m_Sa m_Sn m_Sc,.slice m_Ra m_Rn m_Rc,.slice m_Wa m_Wn m_Wc] 210,qC m_Sa m_Sn m_Sc m.store,qS m_Ra m_Rn m_Rc m.touch.reads,qS m_Wa m_Wn m_Wc m.touch.writes]) :
 Calls prog 324 #[pT m_b,.string key,.string val] w fun e w'=>∃ (Q4:Option Addr)(Q6 Q5:Nat)(Q1:Option Addr)(Q3 Q2:Nat)(Q7:Option Addr)(Q9 Q8:Nat),e=.returned (.tuple #[])∧Mv [bx m_b [.slice m_Sa m_Sn m_Sc,.slice m_Ra m_Rn m_Rc,.slice m_Wa m_Wn m_Wc] 210,qC m_Sa m_Sn m_Sc m.store,qS m_Ra m_Rn m_Rc m.touch.reads,qS m_Wa m_Wn m_Wc m.touch.writes] w [bx m_b [.slice Q4 Q6 Q5,.slice Q1 Q3 Q2,.slice Q7 Q9 Q8] 210,qC Q4 Q6 Q5 (J1M m key val).store,qS Q1 Q3 Q2 (J1M m key val).touch.reads,qS Q7 Q9 Q8 (J1M m key val).touch.writes] w':=by
 obtain ⟨lo1,lp1,lq1⟩:=At.ownInv hA ET_28.hk 1 rfl
 obtain ⟨lo2,lp2,lq2⟩:=At.ownInv hA ET_44.hk 2 rfl
 obtain ⟨lo3,lp3,lq3⟩:=At.ownInv hA ET_44.hk 3 rfl
 refine ze fun _ F=>?_
 refine zv F (J0s rfl (F.g rfl)) fun _ F=>?_
 refine zl F hA 0 fun _ F=>?_
 refine zz F (J63 (H:=fun _=>True) (list:=m.touch.writes) (span:=key) Q0 yb (At.pick (is:=[3]) hA rfl)) ?_
 rintro _ w8 ⟨Q12,Q16,Q14,rfl,m8⟩
 refine zt fun _ F=>?_
 have S8:Mv _ _ [_,bx _ [_,_,_] _,_,_] _:=At.frame hA [3] rfl m8
 obtain ⟨Q18,Q20,Q22⟩:=At.ownInv S8.at' ET_44.hk 0 rfl
 refine zv F (J0s rfl (F.g rfl)) fun _ F=>?_
 refine zst F S8.at' 1 fun w13 S13 _ F=>?_
 refine zv F (J0s rfl (F.g rfl)) fun _ F=>?_
 refine zl F S13.at' 0 fun _ F=>?_
 refine zz F (Jed (H:=fun _=>True) (s:=m.store) (key:=key) (val:=val) Q0 Q10 yb (At.pick (is:=[2]) S13.at' rfl)) ?_
 rintro _ w21 ⟨Q11,Q15,Q13,rfl,m21⟩
 refine zt fun _ F=>?_
 have S21:Mv _ _ [_,bx _ [_,_,_] _,_,_] _:=At.frame S13.at' [2] rfl m21
 obtain ⟨Q17,Q19,Q21⟩:=At.ownInv S21.at' ET_28.hk 0 rfl
 refine zv F (J0s rfl (F.g rfl)) fun _ F=>?_
 refine zst F S21.at' 1 fun w25 S25 _ F=>?_
 have T26:Mv _ _ [bx _ [_,_,_] _,_,_,_] _:=S25
 refine J2Z F (J31 rfl) ?_
 exact ⟨Q11,Q15,Q13,m_Ra,m_Rn,m_Rc,Q12,Q16,Q14,rfl,(Mv.cast (Mv.pick (tc4 S8 S13 S21 T26) [0,1,3,2] rfl) rfl)⟩
theorem Jcz {H:Nat→Prop} {m:MachD} {m_Sa:Option Addr} {m_Sn m_Sc:Nat} {m_Ra:Option Addr} {m_Rn m_Rc:Nat} {m_Wa:Option Addr} {m_Wn m_Wc:Nat} {m_b:Nat} {pfx:ByteArray} (Q10:okS pfx) (p0:m.store.length≤68719476736) (p1:m.touch.reads.length≤68719476736) (p2:m.touch.writes.length≤68719476736) (p3:pfx.size≤4611686018427387904) (hA:At w [bx m_b [.slice m_Sa m_Sn m_Sc,.slice m_Ra m_Rn m_Rc,.slice m_Wa m_Wn m_Wc] 210,qC m_Sa m_Sn m_Sc m.store,qS m_Ra m_Rn m_Rc m.touch.reads,qS m_Wa m_Wn m_Wc m.touch.writes]) :
 Calls prog 325 #[pT m_b,.string pfx] w fun e w'=>∃ (Q4:Option Addr)(Q6 Q5:Nat)(Q1:Option Addr)(Q3 Q2:Nat)(Q7:Option Addr)(Q9 Q8:Nat),e=.returned (.tuple #[])∧Mv [bx m_b [.slice m_Sa m_Sn m_Sc,.slice m_Ra m_Rn m_Rc,.slice m_Wa m_Wn m_Wc] 210,qC m_Sa m_Sn m_Sc m.store,qS m_Ra m_Rn m_Rc m.touch.reads,qS m_Wa m_Wn m_Wc m.touch.writes] w [bx m_b [.slice Q4 Q6 Q5,.slice Q1 Q3 Q2,.slice Q7 Q9 Q8] 210,qC Q4 Q6 Q5 (J2x m pfx).store,qS Q1 Q3 Q2 (J2x m pfx).touch.reads,qS Q7 Q9 Q8 (J2x m pfx).touch.writes] w':=by
 obtain ⟨lo1,lp1,lq1⟩:=At.ownInv hA ET_28.hk 1 rfl
 obtain ⟨lo2,lp2,lq2⟩:=At.ownInv hA ET_44.hk 2 rfl
 obtain ⟨lo3,lp3,lq3⟩:=At.ownInv hA ET_44.hk 3 rfl
 refine ze fun _ F=>?_
 refine zz F (J82 (H:=fun _=>True) (m:=m) (pfx:=pfx) Q10 yb yb yb (At.pick (is:=[0,1,2,3]) hA rfl)) ?_
 rintro _ w3 ⟨Q29,Q0,Q30,Q18,Q22,Q20,Q12,Q16,Q14,Q24,Q28,Q26,rfl,m3⟩
 refine zt fun _ F=>?_
 have S3:Mv _ _ [_,bx _ [_,_,_] _,_,_,_] _:=At.frame hA [0,1,2,3] rfl m3
 obtain ⟨Q34,Q41,Q48⟩:=At.ownInv S3.at' ET_44.hk 0 rfl
 obtain ⟨Q35,Q42,Q49⟩:=At.ownInv S3.at' ET_28.hk 2 rfl
 obtain ⟨Q36,Q43,Q50⟩:=At.ownInv S3.at' ET_44.hk 3 rfl
 obtain ⟨Q37,Q44,Q51⟩:=At.ownInv S3.at' ET_44.hk 4 rfl
 refine JH S3.at' (fun lZ (k:Nat) aZ wZ=>∃ (M:MachD)(sa:Option Addr)(sn sc:Nat)(ra:Option Addr)(rn rc:Nat)(ua:Option Addr)(un uc:Nat),Fr 18 [(10,nV k),(9,nV Q0),(8,.slice Q29 Q0 Q30),(0,pT m_b)] aZ∧Mv lZ w3 ((((lZ.set 1 (bx m_b [.slice sa sn sc,.slice ra rn rc,.slice ua un uc] 210)).set 2 (qC sa sn sc M.store)).set 3 (qS ra rn rc M.touch.reads)).set 4 (qS ua un uc M.touch.writes)) wZ∧(k≤(Jt m.store pfx).length)∧(M=(J1w (J15 m (pfx++bT_)) ((Jt m.store pfx).take k)))) (fun (k:Nat)=>(Jt m.store pfx).length - k) (0) ?_ ?_
 ·exact ⟨J15 m (pfx++bT_),Q18,Q22,Q20,Q12,Q16,Q14,Q24,Q28,Q26,F.cut rfl,(Mv.refl S3.at'),zO,rfl⟩
 rintro k a7 w7 ⟨M,sa,sn,sc,ra,rn,rc,ua,un,uc,F,S7,hk_0,hk_1⟩
 have S7:Mv _ _ [_,bx _ [_,_,_] _,_,_,_] _:=S7
 have wb:=Jg6 (J15 m (pfx++bT_)) ((Jt m.store pfx).take k)
 have kl:=J4i m.store pfx
 have pl:=J3q m.touch.reads (pfx++bT_)
 rw [List.length_take,← hk_1] at wb
 simp only [J15] at wb
 refine zr fun _ F=>?_
 refine zc F (k < Q0) fun _ F=>?_
 refine zi F (fun h9=>?_) fun h9=>?_
 ·refine zr fun _ F=>?_
  obtain ⟨B10,O10,x1,ad10,hx1,okx1,ln10,cl10⟩:=Rd.at (At.rd S7.at' ET_44.hk 0 rfl) k yq
  clear ln10
  refine zv F (JB (i:=k) ET_44 rfl ((F.ev 8 rfl).trans (by rw [ad10])) (F.g rfl) zO yq) fun _ F=>?_
  refine zv (v:=.string x1) F (JD (cs:=[.string x1]) J0j rfl (F.g rfl) rfl (fun _=>rfl) (JN (f:=0) cl10 [.string x1] rfl)) fun _ F=>?_
  refine zz F (J86 (H:=fun _=>True) (m:=M) (key:=x1) (val:=bE_) okx1 (by unfold okS;decide) yb yb (At.pick (is:=[1,2,3,4]) S7.at' rfl)) ?_
  rintro _ w16 ⟨Q17,Q21,Q19,Q11,Q15,Q13,Q23,Q27,Q25,rfl,m16⟩
  refine zt fun _ F=>?_
  have S16:Mv _ _ [bx _ [_,_,_] _,_,_,_,_] _:=At.frame S7.at' [1,2,3,4] rfl m16
  obtain ⟨Q31,Q38,Q45⟩:=At.ownInv S16.at' ET_28.hk 1 rfl
  obtain ⟨Q32,Q39,Q46⟩:=At.ownInv S16.at' ET_44.hk 2 rfl
  obtain ⟨Q33,Q40,Q47⟩:=At.ownInv S16.at' ET_44.hk 3 rfl
  refine zq F ((k+1:Nat):Int) fun _ F=>?_
  exact ⟨k+1,zD,(J1M M x1 bE_),Q17,Q21,Q19,Q11,Q15,Q13,Q23,Q27,Q25,F.cut rfl,((S7.trans S16).pick [4,0,1,2,3] rfl),zO,by rw [JeD hx1,← hk_1]⟩
 refine zr fun _ F=>?_
 refine J2Z F (J31 rfl) ?_
 exact ⟨sa,sn,sc,ra,rn,rc,ua,un,uc,rfl,(Mv.cast (Mv.pick (S3.trans S7) [1,2,3,4] rfl) (lc rfl (lc (zOw (by subst hk_1;unfold J2x;rw [List.take_of_length_le zO])) (lc (zOw (by subst hk_1;unfold J2x;rw [List.take_of_length_le zO])) (lc (zOw (by subst hk_1;unfold J2x;rw [List.take_of_length_le zO])) rfl)))))⟩
end
section
variable {w:World} {H:Nat→Prop}
set_option maxRecDepth 100000
set_option maxHeartbeats 1000000
theorem Jd5 {i:Int} (h_i:J1 i) (tab0:Tb 0 H w) :
 Calls prog 182 #[iV i] w fun e w'=>e=.returned (.string (Jj i))∧Mv [] w [] w'∧okS (Jj i):=by
 obtain ⟨b1,b2⟩:=h_i
 refine (Any.strconv_Itoa laysItoa i zO zO w tab0.1).mono ?_
 rintro e w' ⟨rfl,k,os,rfl⟩
 exact ⟨rfl,J32 (Je4 w k os),Nat.le_trans (J2i i ⟨b1,b2⟩) (by decide)⟩
theorem J4j {n:Int} (h_n:J1 n) (tab0:Tb 0 H w) :
 Calls prog 151 #[iV n] w fun e w'=>e=.returned (.string (Jj n))∧Mv [] w [] w'∧okS (Jj n):=by
 have V_tab0:=Tb.start tab0 zN
 refine ze fun _ F=>?_
 refine zzq F (At.nil w) (Jd5 (i:=n) h_n V_tab0) ?_
 rintro w3 S3 Q0 _ F
 refine zd1 F ?_
 exact ⟨rfl,(Mv.pick S3 [] rfl),Q0⟩
theorem J2U {H:Nat→Prop} {x:Int} (h_x:J1 x) (p0:0≤x) (p1:x < 16) :
 Calls prog 177 #[iV x] w fun e w'=>e=.returned (.int .u8 ((fig x.toNat:Nat):Int))∧Mv [] w [] w'∧fig x.toNat < 256:=by
 refine ze fun _ F=>?_
 refine zc F (x < 10) fun _ F=>?_
 refine zi F (fun h4=>?_) fun h4=>?_
 ·refine zr fun _ F=>?_
  refine zq F (48+x) fun _ F=>?_
  refine zv F (J4z underlying5 underlying3 rfl ((F.ev 6 rfl).trans (congrArg _ (show 48+x=(((48+x).toNat:Nat):Int) by omega))) zO) fun _ F=>?_
  refine zd1 F ?_
  exact ⟨(zV1 (zVi (by exact congrArg (fun n:Nat=>(n:Int)) (Jhf zA zA)))),(Mv.pick (Mv.refl (At.nil w)) [] rfl),J5y zO⟩
 refine zr fun _ F=>?_
 refine zq F (97+x) fun _ F=>?_
 refine zq F ((97+x) - 10) fun _ F=>?_
 refine zv F (J4z underlying5 underlying3 rfl ((F.ev 10 rfl).trans (congrArg _ (show (97+x) - 10=((((97+x) - 10).toNat:Nat):Int) by omega))) zO) fun _ F=>?_
 refine zd1 F ?_
 exact ⟨(zV1 (zVi (by rw [show (97+x) - 10=87+x by omega,Jhe zA]))),(Mv.pick (Mv.refl (At.nil w)) [] rfl),J5y zO⟩
theorem J2W {H:Nat→Prop} {n:Int} (h_n:J1 n) :
 Calls prog 144 #[iV n] w fun e w'=>e=.returned (.string (Jj n))∧Mv [] w [] w'∧okS (Jj n):=by
 refine ze fun _ F=>?_
 refine zc F (n=0) fun _ F=>?_
 refine zi F (fun h4=>?_) fun h4=>?_
 ·refine zr fun _ F=>?_
  refine zd1 F ?_
  exact ⟨(zV1 (zVs (by exact Jbz zA))),(Mv.pick (Mv.refl (At.nil w)) [] rfl),((show (bA [48])=(Jj n) from by exact Jbz zA) ▸ (by unfold okS;decide))⟩
 refine zr fun _ F=>?_
 refine zc F (n < 0) fun _ F=>?_
 refine JH (At.nil w) (fun lZ (m:Int) aZ wZ=>∃ (s:ByteArray),Fr 30 [(4,.string s),(3,.bool (decide (n < 0))),(0,iV m)] aZ∧Mv lZ w [] wZ∧okS s∧(decInv n m s)) (fun (m:Int)=>m.natAbs) (n) ?_ ?_
 ·exact ⟨bE_,F.cut rfl,(Mv.refl (At.nil w)),(by unfold okS;decide),decInv.start n⟩
 rintro m a10 w10 ⟨s,F,S10,kk10_0,hk_0⟩
 have hsz:=hk_0.size h_n
 have h_m:=hk_0.i64 h_n
 refine zr fun _ F=>?_
 refine zc F (m≠0) fun _ F=>?_
 refine zi F (fun h13=>?_) fun h13=>?_
 ·refine zr fun _ F=>?_
  have rm15 : -10 < m.tmod 10∧m.tmod 10 < 10:=J79 _ (by decide)
  refine zv (v:=iV (m.tmod 10)) F (JhK (c:=10) rfl (by decide) rfl (F.g rfl) rfl) fun _ F=>?_
  refine zc F ((m.tmod 10) < 0) fun _ F=>?_
  refine zi F (fun h20=>?_) fun h20=>?_
  ·refine zr fun _ F=>?_
   refine zv F (JhI rfl (F.g rfl) ⟨zO,zO⟩) fun _ F=>?_
   refine zzq F S10.at' (J2U (H:=fun _=>True) (x:=(-(m.tmod 10))) yg yb yb) ?_
   rintro w25 S25 q25_0 _ F
   refine zbs (ok:=okB) F S25.at' ([fig (-(m.tmod 10)).toNat]) ET_62 (fun x hx=>(List.mem_singleton.1 hx) ▸ (show fig (-(m.tmod 10)).toNat < 256 by omega)) fun b27 w27 S27 _ F=>?_
   refine zv F (J1r underlying62 underlying5 underlying9 ((At.rd S27.at' ET_62.hk 0 rfl)).1 rfl (F.g rfl)) fun _ F=>?_
   have k31:(Je ([fig (-(m.tmod 10)).toNat])).size+s.size≤9223372036854775807:=by first|(rw [J1n];((repeat (first|rw [List.length_append]|rw [List.length_cons]|rw [List.length_nil]|rw [List.length_take]|rw [List.length_drop])) <;> omega))|(have:(⟨#[45]⟩:ByteArray).size=1:=rfl;omega)
   refine zv F (J0e rfl (F.g rfl) (F.g rfl) k31) fun _ F=>?_
   refine zv (v:=iV (m.tdiv 10)) F (Jb3 (c:=10) rfl (by decide) yBe rfl (F.g rfl) rfl) fun _ F=>?_
   exact ⟨m.tdiv 10,by (try dsimp only);exact Ja7 zA,((Je ([fig (-(m.tmod 10)).toNat]))++s),F.cut rfl,((tc3 S10 S25 S27).pick [] rfl),(J1c k31),by first|exact hk_0.stepA zA zA|exact hk_0.stepB zA zA⟩
  refine zr fun _ F=>?_
  refine zzq F S10.at' (J2U (H:=fun _=>True) (x:=(m.tmod 10)) yg yb yb) ?_
  rintro w38 S38 q38_0 _ F
  refine zbs (ok:=okB) F S38.at' ([fig (m.tmod 10).toNat]) ET_62 (fun x hx=>(List.mem_singleton.1 hx) ▸ (show fig (m.tmod 10).toNat < 256 by omega)) fun b40 w40 S40 _ F=>?_
  refine zv F (J1r underlying62 underlying5 underlying9 ((At.rd S40.at' ET_62.hk 0 rfl)).1 rfl (F.g rfl)) fun _ F=>?_
  have k44:(Je ([fig (m.tmod 10).toNat])).size+s.size≤9223372036854775807:=by first|(rw [J1n];((repeat (first|rw [List.length_append]|rw [List.length_cons]|rw [List.length_nil]|rw [List.length_take]|rw [List.length_drop])) <;> omega))|(have:(⟨#[45]⟩:ByteArray).size=1:=rfl;omega)
  refine zv F (J0e rfl (F.g rfl) (F.g rfl) k44) fun _ F=>?_
  refine zv (v:=iV (m.tdiv 10)) F (Jb3 (c:=10) rfl (by decide) yBe rfl (F.g rfl) rfl) fun _ F=>?_
  exact ⟨m.tdiv 10,by (try dsimp only);exact Ja7 zA,((Je ([fig (m.tmod 10).toNat]))++s),F.cut rfl,((tc3 S10 S38 S40).pick [] rfl),(J1c k44),by first|exact hk_0.stepA zA zA|exact hk_0.stepB zA zA⟩
 refine zr fun _ F=>?_
 refine zi F (fun h51=>?_) fun h51=>?_
 ·refine zr fun _ F=>?_
  have k53:(⟨#[45]⟩:ByteArray).size+s.size≤9223372036854775807:=by first|(rw [J1n];((repeat (first|rw [List.length_append]|rw [List.length_cons]|rw [List.length_nil]|rw [List.length_take]|rw [List.length_drop])) <;> omega))|(have:(⟨#[45]⟩:ByteArray).size=1:=rfl;omega)
  refine zv F (J0e rfl rfl (F.g rfl) k53) fun _ F=>?_
  refine zd1 F ?_
  exact ⟨(zV1 (zVs (by exact hk_0.end2 zA zA))),(Mv.pick S10 [] rfl),(zOk (by exact hk_0.end2 zA zA) (J1c k53))⟩
 refine zr fun _ F=>?_
 refine zd1 F ?_
 exact ⟨(zV1 (zVs (by exact hk_0.end1 zA zA zA))),(Mv.pick S10 [] rfl),(zOk (by exact hk_0.end1 zA zA zA) kk10_0)⟩
theorem Jd6 {head:ByteArray} {n:Int} {tail:ByteArray} (Q0:okS head) (h_n:J1 n) (Q1:okS tail) (tab0:Tb 0 H w) (p0:head.size≤1000) (p1:tail.size≤1000) :
 Calls prog 326 #[.string head,iV n,.string tail] w fun e w'=>e=.returned (.string (Ju head n tail))∧Mv [] w [] w'∧okS (Ju head n tail):=by
 have dz:=J2i n h_n
 have V_tab0:=Tb.start tab0 zN
 refine ze fun _ F=>?_
 refine zzq F (At.nil w) (J4j (n:=n) h_n V_tab0) ?_
 rintro w4 S4 Q2 _ F
 have k6:head.size+(Jj n).size≤9223372036854775807:=by first|omega|(simp only [ByteArray.size_append];omega)
 refine zv F (J0e rfl (F.g rfl) (F.g rfl) k6) fun _ F=>?_
 have k9:(head++(Jj n)).size+tail.size≤9223372036854775807:=by first|omega|(simp only [ByteArray.size_append];omega)
 refine zv F (J0e rfl (F.g rfl) (F.g rfl) k9) fun _ F=>?_
 refine zd1 F ?_
 exact ⟨rfl,(Mv.pick S4 [] rfl),(zOk (by rfl) (J1c k9))⟩
theorem Jdi {H:Nat→Prop} {head:ByteArray} {n:Int} {tail:ByteArray} (Q0:okS head) (h_n:J1 n) (Q1:okS tail) (p0:head.size≤1000) (p1:tail.size≤1000) :
 Calls prog 283 #[.string head,iV n,.string tail] w fun e w'=>e=.returned (.string (Ju head n tail))∧Mv [] w [] w'∧okS (Ju head n tail):=by
 have dz:=J2i n h_n
 refine ze fun _ F=>?_
 refine zzq F (At.nil w) (J2W (H:=fun _=>True) (n:=n) h_n) ?_
 rintro w4 S4 Q2 _ F
 have k6:head.size+(Jj n).size≤9223372036854775807:=by first|omega|(simp only [ByteArray.size_append];omega)
 refine zv F (J0e rfl (F.g rfl) (F.g rfl) k6) fun _ F=>?_
 have k9:(head++(Jj n)).size+tail.size≤9223372036854775807:=by first|omega|(simp only [ByteArray.size_append];omega)
 refine zv F (J0e rfl (F.g rfl) (F.g rfl) k9) fun _ F=>?_
 refine zd1 F ?_
 exact ⟨rfl,(Mv.pick S4 [] rfl),(zOk (by rfl) (J1c k9))⟩
end
set_option maxRecDepth 100000
set_option maxHeartbeats 1000000
end Go.Proofs.YtipdbeklopjbmaaGreatDoor
