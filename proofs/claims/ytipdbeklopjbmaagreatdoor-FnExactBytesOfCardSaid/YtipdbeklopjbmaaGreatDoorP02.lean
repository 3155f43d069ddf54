/-
  Texts laid together: Eng8, Eng9, Eng10, Touch, Touch2, Cells, Nest.
-/
import Derived.Laws.BytesString
import Derived.Test.YtipdbeklopjbmaaGreatDoorP01
import Derived.Test.YtipdbeklopjbmaaGreatDoorSlices
set_option linter.unusedVariables false
set_option linter.unusedSimpArgs false
namespace Go.Proofs.YtipdbeklopjbmaaGreatDoor
open Go.ChangeShapes Go.WideShapes Go.ChangeAt Go.RowKit
section
variable {P:Program} {o:Oper} {ρ:Operand→Value} {w:World} {x y:Operand} {t u:TypeId}
theorem r_remN {m:Nat} {n:Int} (hn:0 < n) (ho:o.op=.binOp .rem t x y u) (hx:ρ x=.int .i64 ((m:Nat):Int)) (hy:ρ y=.int .i64 n):(execOp ρ o).run P w=.ok (.value (.int .i64 ((m % n.toNat:Nat):Int))) w:=by
 obtain ⟨k,rfl⟩:=Int.eq_ofNat_of_zero_le (Int.le_of_lt hn)
 have h1:k≠0:=by omega
 have h2:(m:Int).tmod (k:Int)=((m % k:Nat):Int):=IntWalk.up_tmod rfl rfl
 have h3:(execOp ρ o).run P w=.ok (.value (.int .i64 ((m:Int).tmod (k:Int)))) w:=by
  simp [execOp,ho,hx,hy,eqGuard,binOp,Op.intDiv,h1]
 rw [h3,h2];rfl
theorem r_conv8 {s d:TypeId} {n:Nat} {ku:IntKind} (hd:P.underlying d=some (.int .u8)) (hs:P.underlying s=some (.int ku)) (ho:o.op=.convert s d x) (hx:ρ x=.int ku ((n:Nat):Int)) (hb:n < 256):(execOp ρ o).run P w=.ok (.value (.int .u8 ((n:Nat):Int))) w:=by
 have h1:IntKind.u8.wrap ((n:Nat):Int)=((n:Nat):Int):=IntWalk.u8_in _ ⟨by omega,by omega⟩
 simp [execOp,ho,hx,convert,run_underlying hd,run_underlying hs,Conv.intToInt,h1]
def encB (n:Nat):List Value:=[.int .u8 ((n:Nat):Int)]
def okB (n:Nat):Prop:=n < 256
def bstr (l:List Nat):ByteArray:=(l.map Int.ofNat).foldl (fun r n=>r.push (UInt8.ofNat n.toNat)) ByteArray.empty
theorem bstr_size (l:List Nat):(bstr l).size=l.length:=by
 have h:∀ (l:List Int) (s:ByteArray),(l.foldl (fun r n=>r.push (UInt8.ofNat n.toNat)) s).size=s.size+l.length:=by
  intro l
  induction l with
  | nil=>intro s;simp
  | cons x l ih=>intro s;rw [List.foldl_cons,ih];simp [ByteArray.size_push];omega
 have h2:ByteArray.empty.size=0:=rfl
 unfold bstr
 rw [h,h2,List.length_map,Nat.zero_add]
theorem r_bstr {s d e:TypeId} {a:Option Addr} {n c:Nat} {l:List Nat} (hs:P.underlying s=some (.slice e)) (he:P.underlying e=some (.int .u8)) (hd:P.underlying d=some .string) (R:RSl 1 (Enc encB okB) w (.slice a n c) l) (ho:o.op=.convert s d x) (hx:ρ x=.slice a n c) :
 (execOp ρ o).run P w=.ok (.value (.string (bstr l))) w:=by
 obtain ⟨a',cap,e1,h1,h2,h3,h4⟩:=R.inv
 cases e1
 cases a with
 | none=>
  obtain ⟨hl,_⟩:=h4 rfl
  subst hl
  simp [execOp,ho,hx,convert,run_underlying hd,run_underlying hs,run_underlying he,Conv.bytesToString,bstr]
 | some ad=>
  obtain ⟨b,off,rfl⟩:=R.plain
  have hl:(loadCells ⟨b,off,none⟩ l.length).run P w=.ok ((l.map Int.ofNat).map (Value.int .u8)).toArray w:=by
   have hc:=run_loadCells_list (P:=P) (w:=w) ⟨b,off,none⟩ ((l.map Int.ofNat).map (Value.int .u8)) (fun j v hj=>by
    simp only [List.getElem?_map,Option.map_map,Option.map_eq_some_iff] at hj
    obtain ⟨q,hq,rfl⟩:=hj
    have hjl:j < l.length:=(List.getElem?_eq_some_iff.1 hq).1
    obtain ⟨b',off',x',row,e3,hx',hr,⟨rfl,_⟩,hcell⟩:=R.at j hjl
    cases e3
    rw [hq] at hx'
    cases hx'
    have:=hcell 0 _ rfl
    simpa [add_flat] using this)
   simpa using hc
  have:=run_bytesToString (P:=P) w ⟨b,off,none⟩ l.length c (l.map Int.ofNat) hl
  simp [execOp,ho,hx,convert,run_underlying hd,run_underlying hs,run_underlying he,this,bstr]
end
theorem okS_bstr {l:List Nat} (h:l.length≤9223372036854775807):okS (bstr l):=by
 unfold okS
 rw [bstr_size]
 exact h
section
variable {P:Program} {ops:Array Oper} {Q:Exit→Act→World→Prop} {K:Act→World→Prop} {o:Oper} {a:Act} {w:World} {L:List Atom} {d n:Nat} {m:List (Nat × Value)}
variable {α:Type} {e k bytes:Nat} {z:Value} {enc:α→List Value} {ok:α→Prop} {t:TypeId}
theorem f_mk {l c:Operand} {q:Nat} (y:α) (F:Fr n m a) (A:At w L) (E:ElemT P t e z k bytes enc) (hw:Region.wanted o (yielded ops a.tmps)=true) (hd:o.dst=some d) (ho:o.op=.makeSlice t l c) (hp:Nat.blt d n=true) (hl:a.eval l=.int .i64 ((q:Nat):Int)) (hc:a.eval c=.int .i64 ((q:Nat):Int)) (hz:enc y=z.cells.toList) (hy:ok y) (hb:bytes * q≤140737488355328)
 (kk:∀ b a' w',Fr n ((d,.slice (some ⟨b,0,none⟩) q q)::m) a'→Mv L w (ow e k enc ok (.slice (some ⟨b,0,none⟩) q q) (List.replicate q y)::L) w'→K a' w'):st1 P ops Q o K a w:=by
 obtain ⟨i,hi,hz0,hz1,hz2⟩:=info_parts E.hT.info
 have h63:q≤maxLen:=by
  have:1 * q≤bytes * q:=Nat.mul_le_mul_right _ E.by0
  unfold maxLen;omega
 obtain ⟨w',hrun,hown,hg⟩:=run_make_full (P:=P) w 0 t e i z k E.ht hi hz0 hz1 .i64 .i64 q (by rw [hz2];omega) h63 (Nat.zero_le _)
 have hm:(madeCells z.cells (q * k)).toList=flat enc (List.replicate q y):=by
  have:=zeros_flat E.hk hz.symm E.hT.pos q
  rw [← this]
  apply congrArg
  simp [madeCells,Builtin.zeroCells,E.hT.zs]
 rw [hm] at hown
 have hO:Own e k enc ok w' (.slice (some ⟨w.heap.size,0,none⟩) q q) (List.replicate q y):=⟨by simpa using hown,by simp +contextual [hy]⟩
 have hfr:∀ b ∈ (Value.slice (some ⟨w.heap.size,0,none⟩) q q).ownBlock.toList,w.heap.size≤b:=fun b hb=>by
  have h0:(Value.slice (some ⟨w.heap.size,0,none⟩) q q).ownBlock=some b:=by simpa using hb
  have h:some w.heap.size=some b:=h0
  cases h;exact Nat.le_refl _
 have hM:Mv [] w [ow e k enc ok (.slice (some ⟨w.heap.size,0,none⟩) q q) (List.replicate q y)] w':=mv_of_fresh hO hfr ⟨hg.os,hg.tape,hg.output,hg.size,fun k hk=>hg.block k hk (by simp)⟩
 have hM2:Mv L w (ow e k enc ok (.slice (some ⟨w.heap.size,0,none⟩) q q) (List.replicate q y)::L) w':=by
  have:=A.frame (New:=[ow e k enc ok (.slice (some ⟨w.heap.size,0,none⟩) q q) (List.replicate q y)]) [] rfl hM
  rw [del_none] at this
  exact this
 refine s_valw hw hd (v:=.slice (some ⟨w.heap.size,0,none⟩) q q) (w':=w') ?_ fun _ e'=>kk _ _ _ (F.put e' hp) hM2
 simp [execOp,ho,hl,hc,hrun,Result.andThen]
end
def HP (H:Nat→Prop) (L0:List Atom) (b:Nat):Prop:=H b∨fps L0 b
section
variable {α:Type} {k:Nat} {enc:α→List Value} {ok:α→Prop}
theorem Rd.startP {H:Nat→Prop} {w0:World} {L:List Atom} {v:Value} {l:List α} (h:Rd k enc ok H w0 v l) (hL:∀ b,H b→¬ fps L b):Rd k enc ok (V (HP H L) w0 L) w0 v l:=⟨h.1,fun ad n c e hn=>⟨.inl (.inl (h.2 ad n c e hn)),hL _ (h.2 ad n c e hn)⟩⟩
end
abbrev yT:Bool:=true
abbrev nF:Bool:=false
theorem x_lem {P:Program} {ops:Array Oper} {Q:Exit→Act→World→Prop} {S:World→Prop} {n:Nat} {listed:Array Bool} {a:Act} {w:World} (I:Act→World→Prop) (listed1:Array Bool) (f1:Nat) (h1:∀ a w,I a w→wpAnyH P .any ops Q S f1 listed1 a w)
 (k:(∀ a w,I a w→wpAnyH P .any ops Q S f1 listed1 a w)→wpAnyH P .any ops Q S n listed a w):wpAnyH P .any ops Q S n listed a w:=k h1
section
variable {P:Program} {o:Oper} {ρ:Operand→Value} {w:World} {t u:TypeId} {x y:Operand}
theorem r_quoI {m:Int} {c:Nat} {n:Int} (hn:n=(c:Int)) (hc:1 < c) (hm:i64ok m) (ho:o.op=.binOp .quo t x y u) (hx:ρ x=.int .i64 m) (hy:ρ y=.int .i64 n):(execOp ρ o).run P w=.ok (.value (.int .i64 (m.tdiv (c:Int)))) w:=by
 subst hn
 have h1:c≠0:=by omega
 have h2:(m.tdiv (c:Int)).natAbs≤m.natAbs:=by rw [Int.natAbs_tdiv];exact Nat.div_le_self _ _
 have h3:(m.tdiv (c:Int)).natAbs < 9223372036854775808∨m.natAbs=9223372036854775808:=by unfold i64ok at hm;omega
 have h4 : -9223372036854775808≤m.tdiv (c:Int)∧m.tdiv (c:Int)≤9223372036854775807:=by
  rcases h3 with h3|h3
  ·omega
  ·have:(m.tdiv (c:Int)).natAbs=m.natAbs / c:=by rw [Int.natAbs_tdiv];rfl
   have:m.natAbs / c < m.natAbs:=Nat.div_lt_self (by omega) hc
   omega
 have h5:IntKind.i64.wrap (m.tdiv (c:Int))=m.tdiv (c:Int):=IntWalk.i64_in _ h4
 simp [execOp,ho,hx,hy,eqGuard,binOp,Op.intDiv,h1,h5]
theorem r_remI {m:Int} {c:Nat} {n:Int} (hn:n=(c:Int)) (hc:0 < c) (ho:o.op=.binOp .rem t x y u) (hx:ρ x=.int .i64 m) (hy:ρ y=.int .i64 n):(execOp ρ o).run P w=.ok (.value (.int .i64 (m.tmod (c:Int)))) w:=by
 subst hn
 have h1:c≠0:=by omega
 simp [execOp,ho,hx,hy,eqGuard,binOp,Op.intDiv,h1]
theorem r_remK {m c:Nat} {n:Int} (hn:n=(c:Int)) (hc:0 < c) (ho:o.op=.binOp .rem t x y u) (hx:ρ x=.int .i64 ((m:Nat):Int)) (hy:ρ y=.int .i64 n):(execOp ρ o).run P w=.ok (.value (.int .i64 ((m % c:Nat):Int))) w:=by
 subst hn
 have h1:c≠0:=by omega
 have h2:(m:Int).tmod (c:Int)=((m % c:Nat):Int):=rfl
 simp [execOp,ho,hx,hy,eqGuard,binOp,Op.intDiv,h1,h2]
theorem r_quoN {m c:Nat} {n:Int} (hn:n=(c:Int)) (hc:0 < c) (hm:m≤9223372036854775807) (ho:o.op=.binOp .quo t x y u) (hx:ρ x=.int .i64 ((m:Nat):Int)) (hy:ρ y=.int .i64 n):(execOp ρ o).run P w=.ok (.value (.int .i64 ((m / c:Nat):Int))) w:=by
 subst hn
 have h1:c≠0:=by omega
 have h2:(m:Int).tdiv (c:Int)=((m / c:Nat):Int):=rfl
 have h6:(execOp ρ o).run P w=.ok (.value (.int .i64 (IntKind.i64.wrap ((m:Int).tdiv (c:Int))))) w:=by
  simp [execOp,ho,hx,hy,eqGuard,binOp,Op.intDiv,h1]
 rw [h6,h2]
 have h3:m / c≤m:=Nat.div_le_self _ _
 generalize m / c=q at h3
 rw [IntWalk.i64_in _ ⟨by omega,by omega⟩]
theorem tmod_bd (m:Int) {c:Nat} (hc:0 < c) : -(c:Int) < m.tmod (c:Int)∧m.tmod (c:Int) < (c:Int):=by
 have h:(m.tmod (c:Int)).natAbs=m.natAbs % c:=by rw [Int.natAbs_tmod];rfl
 have:=Nat.mod_lt m.natAbs hc
 omega
theorem r_negI {m:Int} (ho:o.op=.unOp .neg t x) (hx:ρ x=.int .i64 m) (hb : -9223372036854775808≤-m∧-m≤9223372036854775807):(execOp ρ o).run P w=.ok (.value (.int .i64 (-m))) w:=by
 have h5:IntKind.i64.wrap (0 - m)=-m:=by rw [show (0:Int) - m=-m by omega];exact IntWalk.i64_in _ hb
 simp only [execOp,ho,hx,Op.unary,Op.intArith,h5,Sem.run_bind,Sem.run_pure,Result.andThen_ok]
def isErr:Value→Bool
 | .nilIface=>false
 | _=>true
def errV (v:Value):Prop:=v=.nilIface∨∃ a b,v=.iface a b
theorem equalIn_nil {ms:Array (String × TypeId)} (d:Nat) (ht:P.underlying t=some (.interface ms)):(Op.equalIn (d+1) t .nilIface .nilIface).run P w=.ok true w:=by
 simp [Op.equalIn,run_underlying ht]
theorem equalIn_err {ms:Array (String × TypeId)} (d:Nat) (a:TypeId) (b:Value) (ht:P.underlying t=some (.interface ms)):(Op.equalIn (d+1) t (.iface a b) .nilIface).run P w=.ok false w:=by
 simp [Op.equalIn,run_underlying ht]
theorem equal_nil {ms:Array (String × TypeId)} (ht:P.underlying t=some (.interface ms)):(Op.equal t .nilIface .nilIface).run P w=.ok true w:=equalIn_nil 9999 ht
theorem equal_err {ms:Array (String × TypeId)} (a:TypeId) (b:Value) (ht:P.underlying t=some (.interface ms)):(Op.equal t (.iface a b) .nilIface).run P w=.ok false w:=equalIn_err 9999 a b ht
theorem neq_nil {ms:Array (String × TypeId)} (ht:P.underlying t=some (.interface ms)):(binOp .neq t .nilIface .nilIface).run P w=.ok (.bool false) w:=by
 simp only [binOp]
 simp [equal_nil ht]
theorem neq_err {ms:Array (String × TypeId)} (a:TypeId) (b:Value) (ht:P.underlying t=some (.interface ms)):(binOp .neq t (.iface a b) .nilIface).run P w=.ok (.bool true) w:=by
 simp only [binOp]
 simp [equal_err a b ht]
theorem r_errNe {v:Value} {ms:Array (String × TypeId)} (ht:P.underlying t=some (.interface ms)) (ho:o.op=.binOp .neq t x (.const .nilIface) u) (hx:ρ x=v) (hy:ρ (.const .nilIface)=.nilIface) (he:errV v):(execOp ρ o).run P w=.ok (.value (.bool (isErr v))) w:=by
 rcases he with rfl|⟨a,b,rfl⟩
 ·have hg:eqGuard .neq t x (.const .nilIface) .nilIface .nilIface=pure ():=eqGuard_nil_constR (op:=.neq) t x .nilIface
  simp only [execOp,ho,hx,hy,Sem.run_bind,hg,Sem.run_pure,Result.andThen_ok,neq_nil ht]
  rfl
 ·have hg:eqGuard .neq t x (.const .nilIface) (.iface a b) .nilIface=pure ():=rfl
  simp only [execOp,ho,hx,hy,Sem.run_bind,hg,Sem.run_pure,Result.andThen_ok,neq_err a b ht]
  rfl
end
structure Inn where
 atom:Atom
 rd:(Nat→Prop)→World→Prop
 ra:(Nat→Prop)→World→Prop
 off:∀ {S:Nat→Prop} {w:World},atom.ok w→(∀ b,atom.fp b→S b)→rd S w
 rdM:∀ {H H':Nat→Prop} {w:World},rd H w→(∀ b,H b→H' b)→rd H' w
 raM:∀ {H H':Nat→Prop} {w:World},ra H w→(∀ b,H b→H' b)→ra H' w
 rdV:∀ {G:Nat→Prop} {w0 w w':World} {L L':List Atom},rd (V G w0 L) w→Mv L w L' w'→rd (V G w0 L') w'
 raV:∀ {G:Nat→Prop} {w0 w w':World} {L L':List Atom},ra (V G w0 L) w→Mv L w L' w'→ra (V G w0 L') w'
section
variable {α:Type} {inns:α→List Inn} {D:List α}
variable {G H H':Nat→Prop} {w0 w w':World} {L L':List Atom}
theorem Mv.same (h:At w L') (hf:∀ b,fps L' b→fps L b):Mv L w L' w:=⟨h,fun b hb=>.inl (hf b hb),Kp.refl _ _⟩
theorem fps_one {A:Atom} {b:Nat} : fps [A] b ↔ A.fp b:=by simp [fps]
theorem sel_one {β:Type} {l:List β} {i:Nat} {x:β} (h:nth l i=some x):sel l [i]=[x]:=by unfold sel;rw [h];rfl
end
set_option maxHeartbeats 1000000
set_option maxRecDepth 100000
def putL (l:List ByteArray) (x:ByteArray):List ByteArray:=if l[l.findIdx (geS x)]? = some x then l else insAt l (l.findIdx (geS x)) x
theorem insAt_length {α:Type} (l:List α) (i:Nat) (x:α) (h:i≤l.length):(insAt l i x).length=l.length+1:=by simp [insAt];omega
theorem putL_length (l:List ByteArray) (x:ByteArray):(putL l x).length≤l.length+1:=by
 unfold putL
 split
 ·omega
 ·rw [insAt_length _ _ _ List.findIdx_le_length];omega
theorem ownBlock_addr {a:Option Addr} {n cap:Nat} : (Value.slice a n cap).ownBlock.toList=(a.map (·.block)).toList:=by cases a <;> rfl
theorem addSpan_c (v:Value) (s:ByteArray) (w:World) (l:List ByteArray) (hO:OStrs w v l) (hs:okS s) (hl:l.length≤549755813888) :
 Calls Tryz.prog 359 #[v,.string s] w fun e w'=>∃ v',e=.returned v'∧OStrs w' v' (putL l s)∧KeepBut v.ownBlock.toList w w'∧Moved w v v':=by
 have hr:=hO.rd
 obtain ⟨a,cap,rfl,hle,hl63,-,hn⟩:=hr.inv
 have hw1:Bl w (w.alloc (.cells #[.string s] 9)):=(Bl.refl w).alloc _
 have hc:(w.alloc (.cells #[.string s] 9)).cell? ⟨w.heap.size,0,none⟩=some (.string s):=by simp
 have hr1:=hr.below hw1
 have hO1:=hO.below hw1
 have hcl:∀ W,Bl (w.alloc (.cells #[.string s] 9)) W→W.cell? ⟨w.heap.size,0,none⟩=some (.string s):=fun W hb=>hb.cellOf hc
 by_cases hfi:l.findIdx (geS s) < l.length
 ·have hidx:idxP (geS s) l=(l.findIdx (geS s):Int):=by unfold idxP;rw [if_pos hfi]
  obtain ⟨x,hx⟩:∃ x,l[l.findIdx (geS s)]? = some x:=⟨_,List.getElem?_eq_getElem hfi⟩
  have hput:putL l s=if x=s then l else insAt l (l.findIdx (geS s)) s:=by
   unfold putL
   rw [hx]
   by_cases h:x=s <;> simp [h]
  have hlt:=hO.lt
  rw [ownBlock_addr] at hlt
  generalize l.findIdx (geS s)=i at hfi hidx hx hput
  obtain ⟨b,rfl,-,-,-,hbw⟩:=Own.cellAt strT.hk hO i x hx
  have hcell:∀ W,Bl (w.alloc (.cells #[.string s] 9)) W→W.cell? ⟨b,i,none⟩=some (.string x):=fun W hb=>by
   obtain ⟨b',e,-,h,-⟩:=Own.cellAt strT.hk (hO1.below hb) i x hx
   cases e
   simpa using h 0 (.string x) rfl
  obtain ⟨len,hlen⟩:∃ len,l.length=len:=⟨_,rfl⟩
  rw [hlen] at hle hl63 hl hr1 hO1 hO hr hfi ⊢
  have hii:(i:Int) < (len:Int):=by omega
  by_cases hxe:x=s
  ·rw [if_pos hxe] at hput
   have heq:(x.toList == s.toList)=true:=by rw [bytes_beq];simp [hxe]
   have Hidx:=Lib.hid hidx;have Hput:=Lib.hid hput;have Hlen:=Lib.hid hlen;have HO1:=Lib.hid hO1;have Hr1:=Lib.hid hr1;have Hcl:=Lib.hid hcl;have Hc:=Lib.hid hc;have Hlt:=Lib.hid hlt;have Hcell:=Lib.hid hcell;have Hw1:=Lib.hid hw1
   clear hidx hput hlen hO1 hr1 hcl hc hO hr hn hlt hcell hx hxe hw1
   go_enter Tryz.func359,Tryz.ntmps359
   go_wp2_with (go_at_call 374;refine (idxAddSpan_c _ _ l s w.heap.size Hr1.out Hc.out).mono ?_;rintro e w1 ⟨rfl,hb1⟩;rw [Hidx.out];have hc1:=Hcl.out w1 hb1;have hc2:=Hcell.out w1 hb1;have HB1:=Lib.hid hb1;clear hb1)
   go_quiet (fail)
   go_wp2
   go_ret
   refine ⟨_,rfl,?_,?_,Moved.refl _ _⟩
   ·rw [Hput.out];exact (HO1.out.below HB1.out).below ((Bl.refl _).drewN _)
   ·exact ((Hw1.out.trans HB1.out).drewN _).keep _
  ·rw [if_neg hxe] at hput
   have heq:(x.toList == s.toList)=false:=by rw [bytes_beq];simp [hxe]
   have Hidx:=Lib.hid hidx;have Hput:=Lib.hid hput;have Hlen:=Lib.hid hlen;have HO1:=Lib.hid hO1;have Hr1:=Lib.hid hr1;have Hcl:=Lib.hid hcl;have Hc:=Lib.hid hc;have Hlt:=Lib.hid hlt;have Hcell:=Lib.hid hcell;have Hw1:=Lib.hid hw1;have Hbw:=Lib.hid hbw
   clear hidx hput hlen hO1 hr1 hcl hc hO hr hn hlt hcell hx hxe hw1 hbw
   go_enter Tryz.func359,Tryz.ntmps359
   go_wp2_with (go_at_call 374;refine (idxAddSpan_c _ _ l s w.heap.size Hr1.out Hc.out).mono ?_;rintro e w1 ⟨rfl,hb1⟩;rw [Hidx.out];have hc1:=Hcl.out w1 hb1;have hc2:=Hcell.out w1 hb1;have HB1:=Lib.hid hb1;clear hb1)
   go_quiet (fail)
   go_wp2_with (go_at_call 376;refine (insertStrs_c _ i s w1.heap.size _ l ((HO1.out.below HB1.out).below (((Bl.refl _).alloc _).drewN _)) (by have:=Hlen.out;omega) (by have:=Hlen.out;omega) hs (by exact heap_alloc_new w1 (.cells #[.string s] 9)) (by have h1:=Hbw.out;have h2:=(Hw1.out.trans HB1.out).size;simp [Value.ownBlock];omega)).mono ?_;rintro e w2 ⟨v',rfl,hO2,hkb,hmv⟩)
   go_ret
   refine ⟨_,rfl,?_,?_,?_⟩
   ·rw [Hput.out];exact hO2
   ·exact hkb.after (((Hw1.out.trans HB1.out).alloc _).drewN _)
   ·exact hmv.mono (((Hw1.out.trans HB1.out).alloc _).drewN _).size
 ·have hidx:idxP (geS s) l=-1:=by unfold idxP;rw [if_neg hfi]
  have hput:putL l s=l++[s]:=by
   have e:l.findIdx (geS s)=l.length:=Nat.le_antisymm List.findIdx_le_length (by omega)
   unfold putL
   rw [e,if_neg (by simp)]
   simp [insAt]
  have hlt:=hO.lt
  rw [ownBlock_addr] at hlt
  obtain ⟨len,hlen⟩:∃ len,l.length=len:=⟨_,rfl⟩
  rw [hlen] at hle hl63 hl hr1 hO1 hO hr ⊢
  have Hidx:=Lib.hid hidx;have Hput:=Lib.hid hput;have Hlen:=Lib.hid hlen;have HO1:=Lib.hid hO1;have Hr1:=Lib.hid hr1;have Hcl:=Lib.hid hcl;have Hc:=Lib.hid hc;have Hlt:=Lib.hid hlt
  clear hidx hput hlen hO1 hr1 hcl hc hO hr hn hlt
  go_enter Tryz.func359,Tryz.ntmps359
  go_wp2_with (first|(go_at_call 374;refine (idxAddSpan_c _ _ l s w.heap.size Hr1.out Hc.out).mono ?_;rintro e w1 ⟨rfl,hb1⟩;rw [Hidx.out];have hc1:=Hcl.out w1 hb1;have HB1:=Lib.hid hb1;clear hb1)|(at_builtin;refine wpList_app strT rfl (.tmp 11) (.tmp 13) rfl (.slice a len cap) (.slice (some ⟨w1.heap.size,0,none⟩) 1 1) l [s] rfl rfl ((HO1.out.below HB1.out).below ((Bl.refl _).alloc _)) (rsl_made1 _ s _ rfl rfl hs) (by have:=Hlen.out;simp <;> omega) ?_;intro v' w2 hO2 hkb hmv hnl))
  go_ret
  refine ⟨_,rfl,?_,?_,?_⟩
  ·rw [Hput.out];exact hO2
  ·exact hkb.after ((hw1.trans HB1.out).alloc _)
  ·exact hmv.mono ((hw1.trans HB1.out).alloc _).size
theorem addSpan_s (v:Value) (s:ByteArray) (w:World) (l:List ByteArray) (hO:OStrs w v l) (hs:okS s) (hl:l.length≤549755813888) :
 Calls Tryz.prog 359 #[v,.string s] w fun e w'=>∃ a n cap,e=.returned (.slice a n cap)∧OStrs w' (.slice a n cap) (putL l s)∧KeepBut v.ownBlock.toList w w'∧Moved w v (.slice a n cap):=
 Calls.sl (addSpan_c v s w l hO hs hl) fun _ _ h=>h.1.isSl
theorem putL_at (l:List ByteArray) (x:ByteArray) (k:Nat) (hk:k≤l.length) (hlt:∀ q,q < k→∀ y,l[q]? = some y→geS x y=false) (hend:∀ y,l[k]? = some y→geS x y=true):l.findIdx (geS x)=k:=by
 rcases Nat.lt_or_ge k l.length with h|h
 ·exact findIdx_found _ _ k l[k] (by simp [h]) (hend _ (by simp [h])) hlt
 ·obtain rfl:k=l.length:=by omega
  rw [List.findIdx_eq_length]
  intro y hy
  obtain ⟨i,hi,rfl⟩:=List.mem_iff_getElem.1 hy
  simpa using hlt i hi _ (by simp [hi])
set_option maxHeartbeats 1000000
set_option maxRecDepth 100000
structure TouchD where
 reads:List ByteArray
 writes:List ByteArray
deriving DecidableEq
def joinL (l:List ByteArray) (m:List ByteArray):List ByteArray:=m.foldl putL l
def joinT (a b:TouchD):TouchD:=⟨joinL a.reads b.reads,joinL a.writes b.writes⟩
def szTouchD (t:TouchD):Nat:=szStrs t.reads+szStrs t.writes
set_option maxHeartbeats 1000000
set_option maxRecDepth 100000
def szCellD (c:CellD):Nat:=c.key.size+c.val.size
def szCells (l:List CellD):Nat:=l.length+sumOf szCellD l
abbrev ACells (w:World) (v:Value) (l:List CellD):Prop:=RArg 2 (Enc encC okC) w v l
theorem ACells.at {w:World} {a:Option Addr} {n cap:Nat} {l:List CellD} (h:ACells w (.slice a n cap) l) (i:Nat) (hi:i < n) :
 ∃ b off c,a=some ⟨b,off,none⟩∧l[i]? = some c∧(c.key.size≤9223372036854775807∧c.val.size≤9223372036854775807)∧w.cell? ⟨b,off+i * 2,none⟩=some (.string c.key)∧w.cell? ⟨b,off+i * 2+1,none⟩=some (.string c.val):=by
 obtain ⟨b,off,c,row,h1,h2,h3,⟨rfl,h4⟩,h5⟩:=RArg.at h i hi
 exact ⟨b,off,c,h1,h2,h4,by simpa using h5 0 (.string c.key) rfl,by simpa using h5 1 (.string c.val) rfl⟩
theorem ACells.below {w w':World} {v:Value} {l:List CellD} (h:ACells w v l) (hb:Bl w w'):ACells w' v l:=RArg.below (Enc.stable _ _) h hb
theorem szCell_c (s y:ByteArray) (n:Int) (w:World) (h1:s.size≤9223372036854775807) (h2:y.size≤9223372036854775807) (h0:0≤n) (hn:n≤1048576) :
 Calls Tryz.prog 53 #[.agg #[.string s,.string y],.int .i64 n] w fun e w'=>e=.returned (.int .i64 (subOr n (s.size+y.size)))∧Bl w w':=by
 go_enter Tryz.func53,Tryz.ntmps53
 go_wp2
 all_goals go_ret
 all_goals refine ⟨ret_int ?_,(Bl.refl w).alloc _⟩
 all_goals (unfold subOr;split <;> omega)
theorem toCell_c (s y:ByteArray) (w:World) :
 Calls Tryz.prog 61 #[.agg #[.string s,.string y]] w fun e w'=>e=.returned (.agg #[.string s,.string y])∧Bl w w':=by
 go_enter Tryz.func61,Tryz.ntmps61
 go_wp2
 refine bodyPost_ret (v:=.agg #[.string s,.string y]) (by simp [results,Tryz.results61,go_sem]) rfl ⟨rfl,?_⟩
 repeat (first|exact Bl.refl _|refine Bl.setCell ?_ (by simp) _|refine Bl.alloc ?_ _)
theorem eqCell_c (s y:ByteArray) (w:World) :
 Calls Tryz.prog 48 #[.agg #[.string s,.string y],.agg #[.string s,.string y]] w fun e w'=>e=.returned (.bool true)∧Bl w w':=by
 go_enter Tryz.func48,Tryz.ntmps48
 go_wp2
 go_ret
 exact ⟨rfl,((Bl.refl w).alloc _).alloc _⟩
theorem szCellS_c (v:Value) (n:Int) (w:World) (l:List CellD) (hr:ACells w v l) (h0:0≤n) (h1:n≤1048576) :
 Calls Tryz.prog 15 #[v,.int .i64 n] w fun e w'=>e=.returned (.int .i64 (subOr n (szCells l)))∧Bl w w':=by
 have hr0:=hr
 obtain ⟨a,cap,rfl,hle,hl,-,-⟩:=hr.inv
 have Hr:=Lib.hid hr0;clear hr0 hr
 obtain ⟨len,hlen⟩:∃ len,l.length=len:=⟨_,rfl⟩
 rw [hlen] at hle hl Hr ⊢
 have Hlen:=Lib.hid hlen;clear hlen
 go_enter Tryz.func15,Tryz.ntmps15
 go_wp2
 ·go_ret
  refine ⟨ret_int ?_,Bl.refl _⟩
  have:=Hlen.out
  unfold subOr szCells;split <;> omega
 ·go_loopw [1,5] (fun n' i wr=>∃ (k:Nat),k≤len∧i=.int .i64 k∧n'=.int .i64 (subOr n (len+sumOf szCellD (l.take k)))∧0≤subOr n (len+sumOf szCellD (l.take k))∧Bl w wr) (fun _ i _=>len - (intOf i).toNat)
  case atStart=>
   refine ⟨0,by omega,rfl,?_,?_,Bl.refl _⟩
   ·congr 1;simp [subOr,sumOf];omega
   ·simp [subOr,sumOf];omega
  case round=>
   obtain ⟨k,hk,rfl,rfl,hm0,hB⟩:=hrel
   by_cases hlt:k < len
   ·obtain ⟨b,off,⟨s,y⟩,rfl,hx,⟨hs1,hs2⟩,c1,c2⟩:=ACells.at (ACells.below Hr.out hB) k (by omega)
    dsimp only at hs1 hs2 c1 c2
    have hm1:=(subOr_bd n (len+sumOf szCellD (l.take k)) (by omega)).2
    have hst:=sumOf_take szCellD l k ⟨s,y⟩ hx
    have hadd:=subOr_add n (len+sumOf szCellD (l.take k)) (szCellD ⟨s,y⟩) hm0
    have hsp:=sumOf_split szCellD l (k+1)
    have hneg:=subOr_neg n (len+sumOf szCellD (l.take (k+1))) (sumOf szCellD (l.drop (k+1)))
    rw [Nat.add_assoc,← hst] at hadd
    rw [Nat.add_assoc,← hsp] at hneg
    generalize hm:subOr n (len+sumOf szCellD (l.take k))=m at *
    have hbd:=subOr_bd m (szCellD ⟨s,y⟩) hm0
    obtain ⟨q,hq⟩:∃ q,subOr m (szCellD ⟨s,y⟩)=q:=⟨_,rfl⟩
    rw [hq] at hadd hbd
    have Hq:=Lib.hid (show subOr m (s.size+y.size)=q from hq)
    have Hadd:=Lib.hid hadd;have Hneg:=Lib.hid hneg;have HB:=Lib.hid hB
    clear hm hx hst hadd hsp hneg hB hq
    go_wp2_with (go_at_call 53;((with_reducible refine (szCell_c s y m _ hs1 hs2 hm0 (by omega)).mono ?_);rintro e w1 ⟨rfl,hb⟩;rw [Hq.out];have HB1:=Lib.hid (HB.out.trans hb);clear hb))
    ·go_ret
     refine ⟨ret_int ?_,HB1.out⟩
     have h:=Hadd.out
     have g:=Hneg.out
     have e:=Hlen.out
     unfold szCells
     rw [e,g (by rw [← h];omega)]
    ·have h:=Hadd.out
     go_roundw
     case rel=>exact ⟨k+1,by omega,by go_num,by rw [h],by rw [← h];omega,HB1.out⟩
     case measure=>simp [intOf];omega
   ·go_wp2
    go_ret
    obtain rfl:k=len:=by omega
    refine ⟨ret_int ?_,hB⟩
    have:=Hlen.out
    unfold szCells
    rw [this,sumOf_all _ _ _ (by omega)]
theorem toCellS_c (v:Value) (w:World) (l:List CellD) (hr:ACells w v l) (hl:l.length≤1048576) :
 Calls Tryz.prog 18 #[v] w fun e w'=>∃ v',e=.returned v'∧OCells w' v' l∧(∀ b ∈ v'.ownBlock.toList,w.heap.size≤b)∧Bl w w':=by
 have hr0:=hr
 obtain ⟨a,cap,rfl,hle,-,-,-⟩:=hr.inv
 have Hr:=Lib.hid hr0;clear hr0 hr
 obtain ⟨len,hlen⟩:∃ len,l.length=len:=⟨_,rfl⟩
 rw [hlen] at hle hl Hr ⊢
 have Hlen:=Lib.hid hlen;clear hlen
 go_enter Tryz.func18,Tryz.ntmps18
 go_wp2_with (refine wpList_mk (ok:=okC) cellT rfl (.tmp 6) (.tmp 6) rfl ⟨⟨#[]⟩,⟨#[]⟩⟩ rfl ⟨Nat.zero_le _,Nat.zero_le _⟩ len rfl rfl (by omega) ?_;intro w1 hown hb1 hlt1)
 go_loopw [4] (fun i wr=>∃ (k:Nat),k≤len∧i=.int .i64 k∧Bl w wr∧OCells wr (.slice (some ⟨w.heap.size,0,none⟩) len len) (l.take k++List.replicate (len - k) ⟨⟨#[]⟩,⟨#[]⟩⟩)) (fun i _=>len - (intOf i).toNat)
 case atStart=>exact ⟨0,by omega,rfl,hb1,by simpa using hown⟩
 case round=>
  obtain ⟨k,hk,rfl,hB,hO⟩:=hrel
  by_cases hlt:k < len
  ·obtain ⟨b,off,⟨s,y⟩,rfl,hx,⟨hs1,hs2⟩,c1,c2⟩:=ACells.at (ACells.below Hr.out hB) k (by omega)
   dsimp only at hs1 hs2 c1 c2
   have hz:(l.take k++List.replicate (len - k) (⟨⟨#[]⟩,⟨#[]⟩⟩:CellD))[k]? = some ⟨⟨#[]⟩,⟨#[]⟩⟩:=by
    rw [List.getElem?_append_right (by simp;omega)]
    simp [List.getElem?_replicate,Hlen.out];omega
   obtain ⟨b',hb',-,hcell,hfz,hlt'⟩:=Own.cellAt cellT.hk hO k _ hz
   cases hb'
   have d1:=hcell 0 (.string ⟨#[]⟩) rfl
   have d2:=hcell 1 (.string ⟨#[]⟩) rfl
   simp only [Nat.add_zero] at d1
   have hlist:(l.take k++List.replicate (len - k) (⟨⟨#[]⟩,⟨#[]⟩⟩:CellD)).set k ⟨s,y⟩=l.take (k+1)++List.replicate (len - (k+1)) ⟨⟨#[]⟩,⟨#[]⟩⟩:=by
    have h1:=Hlen.out
    rw [List.set_append_right _ _ (by rw [List.length_take];omega),List.length_take,Nat.min_eq_left (by omega),Nat.sub_self,show len - k=(len - (k+1))+1 by omega,List.replicate_succ,List.set_cons_zero,List.take_succ_eq_append_getElem (by omega),List.append_assoc]
    congr 1
    have:l[k]'(by omega)=⟨s,y⟩:=(List.getElem?_eq_some_iff.1 hx).2
    simp [this]
   have hset:∀ w1,Bl wr w1→OCells ((w1.setCell ⟨w.heap.size,k * 2,none⟩ (.string s)).setCell ⟨w.heap.size,k * 2+1,none⟩ (.string y)) (.slice (some ⟨w.heap.size,0,none⟩) len len) (l.take (k+1)++List.replicate (len - (k+1)) ⟨⟨#[]⟩,⟨#[]⟩⟩):=by
    intro w1 hb
    have g1:=Own.setCell cellT.hk (hO.below hb) k 0 _ ⟨s,⟨#[]⟩⟩ (.string s) hz (by omega) rfl ⟨hs1,Nat.zero_le _⟩
    have hlk:k < (l.take k++List.replicate (len - k) (⟨⟨#[]⟩,⟨#[]⟩⟩:CellD)).length:=(List.getElem?_eq_some_iff.1 hz).1
    have g2:=Own.setCell cellT.hk g1 k 1 ⟨s,⟨#[]⟩⟩ ⟨s,y⟩ (.string y) (by rw [List.getElem?_set_self hlk]) (by omega) rfl ⟨hs1,hs2⟩
    rw [List.set_set,hlist] at g2
    simpa using g2
   have Hset:=Lib.hid hset;have HB:=Lib.hid hB
   have f1:=hfz (k * 2);have f2:=hfz (k * 2+1)
   clear hz hcell hfz hset hlist hx hO hB hb1 hown
   have hk0:(0:Int)≤(k:Int):=by omega
   go_wp2_with (go_at_call 61;((with_reducible refine (toCell_c s y _).mono ?_);rintro e w1 ⟨rfl,hb⟩;replace d1:=hb.cellOf d1;replace d2:=hb.cellOf d2;replace f1:=(bcell hb).2 w.heap.size (k * 2) hlt' ▸ f1;replace f2:=(bcell hb).2 w.heap.size (k * 2+1) hlt' ▸ f2;have Hset1:=Lib.hid (Hset.out w1 hb);have HB1:=Lib.hid (((HB.out.trans hb).setCell (p:=⟨w.heap.size,k * 2,none⟩) (Nat.le_refl _) (.string s)).setCell (p:=⟨w.heap.size,k * 2+1,none⟩) (Nat.le_refl _) (.string y));clear hb))
   go_roundw
   case rel=>exact ⟨k+1,by omega,by go_num,HB1.out,Hset1.out⟩
   case measure=>simp [intOf];omega
  ·obtain rfl:k=len:=by omega
   have h1:=Hlen.out
   have hO2:OCells wr (.slice (some ⟨w.heap.size,0,none⟩) k k) l:=by
    have:l.take k=l:=List.take_of_length_le (by omega)
    rw [this] at hO
    simpa using hO
   clear h1 hO
   go_wp2
   go_ret
   exact ⟨_,rfl,hO2,by simp [Value.ownBlock],hB⟩
theorem toCellS_s (v:Value) (w:World) (l:List CellD) (hr:ACells w v l) (hl:l.length≤1048576) :
 Calls Tryz.prog 18 #[v] w fun e w'=>∃ a n c,e=.returned (.slice a n c)∧OCells w' (.slice a n c) l∧(∀ b ∈ (Value.slice a n c).ownBlock.toList,w.heap.size≤b)∧Bl w w':=
 Calls.sl (toCellS_c v w l hr hl) fun _ _ h=>h.1.isSl
theorem eqCellS_c (v v':Value) (w:World) (l:List CellD) (hr:RCells w v l) (hr':RCells w v' l) :
 Calls Tryz.prog 10 #[v,v'] w fun e w'=>e=.returned (.bool true)∧Bl w w':=by
 have hr0:=hr;have hr1:=hr'
 obtain ⟨a,cap,rfl,hle,hl,-,-⟩:=hr.inv
 obtain ⟨a',cap',rfl,hle',-,-,-⟩:=hr'.inv
 have Hr:=Lib.hid hr0;have Hr':=Lib.hid hr1;clear hr0 hr hr1 hr'
 obtain ⟨len,hlen⟩:∃ len,l.length=len:=⟨_,rfl⟩
 rw [hlen] at hle hle' hl Hr Hr' ⊢
 have Hlen:=Lib.hid hlen;clear hlen
 go_enter Tryz.func10,Tryz.ntmps10
 go_wp2
 go_loopw [5] (fun i wr=>∃ (k:Nat),k≤len∧i=.int .i64 k∧Bl w wr) (fun i _=>len - (intOf i).toNat)
 case atStart=>exact ⟨0,by omega,rfl,Bl.refl _⟩
 case round=>
  obtain ⟨k,hk,rfl,hB⟩:=hrel
  by_cases hlt:k < len
  ·obtain ⟨b,off,⟨s,y⟩,rfl,hx,hxs,c1,c2⟩:=RCells.at (RCells.below Hr.out hB) k (by omega)
   obtain ⟨b',off',x',rfl,hx',hxs',c1',c2'⟩:=RCells.at (RCells.below Hr'.out hB) k (by omega)
   have e:x'=⟨s,y⟩:=by rw [hx] at hx';exact (Option.some.inj hx').symm
   subst e
   dsimp only at c1 c2 c1' c2'
   have hkk:(k:Int) < (len:Int):=by omega
   have HB:=Lib.hid hB;clear hB hx hx' hxs hxs'
   go_wp2
   go_region_held3 (fun w'=>w'.cell? ⟨b,off+k * 2,none⟩=some (.string s)∧w'.cell? ⟨b,off+k * 2+1,none⟩=some (.string y)∧w'.cell? ⟨b',off'+k * 2,none⟩=some (.string s)∧w'.cell? ⟨b',off'+k * 2+1,none⟩=some (.string y)) (first|(go_split_ands;exact ⟨hb.cellOf (by assumption),hb.cellOf (by assumption),hb.cellOf (by assumption),hb.cellOf (by assumption)⟩)|go_keep) (first|(go_at_call 48;refine (eqCell_c s y _).mono ?_;rintro e w1 ⟨rfl,hb⟩))
   go_wp2
   go_roundw
   case rel=>exact ⟨k+1,by omega,by go_num,HB.out.trans (((Bl.refl _).drew).trans hb)⟩
   case measure=>simp [intOf];omega
  ·go_wp2
   go_ret
   exact ⟨rfl,hB⟩
def encI (n:Int):List Value:=[.int .i64 n]
def okI (n:Int):Prop:=i64ok n
structure CallD where
 kind:Int
 name:ByteArray
 to_:ByteArray
 a:Int
 b:Int
 text:ByteArray
def encK (c:CallD):List Value:=[.int .i64 c.kind,.string c.name,.string c.to_,.int .i64 c.a,.int .i64 c.b,.string c.text]
def okK (c:CallD):Prop:=i64ok c.kind∧okS c.name∧okS c.to_∧i64ok c.a∧i64ok c.b∧okS c.text
structure AnsD where
 code:Int
 n:Int
 text:ByteArray
def encR (c:AnsD):List Value:=[.int .i64 c.code,.int .i64 c.n,.string c.text]
def okR (c:AnsD):Prop:=i64ok c.code∧i64ok c.n∧okS c.text
structure StepD where
 proc:Int
 call:CallD
def encStep (c:StepD):List Value:=[.int .i64 c.proc,.int .i64 c.call.kind,.string c.call.name,.string c.call.to_,.int .i64 c.call.a,.int .i64 c.call.b,.string c.call.text]
def okStep (c:StepD):Prop:=i64ok c.proc∧i64ok c.call.kind∧okS c.call.name∧okS c.call.to_∧i64ok c.call.a∧i64ok c.call.b∧okS c.call.text
structure TxD where
 id:Int
 age:Int
 proc:Int
 began:Int
 calls:List CallD
 answers:List AnsD
 touch:TouchD
 marks:List Int
 state:Int
end Go.Proofs.YtipdbeklopjbmaaGreatDoor
