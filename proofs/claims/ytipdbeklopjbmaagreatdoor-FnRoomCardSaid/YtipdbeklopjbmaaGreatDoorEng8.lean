/-
  Arithmetic that wraps, bytes, make; views beside pieces that came in.
-/
import Derived.Laws.BytesString
import Derived.Test.YtipdbeklopjbmaaGreatDoorP02
set_option linter.unusedVariables false
set_option linter.unusedSimpArgs false
namespace Go.Proofs.YtipdbeklopjbmaaGreatDoor
open Go.ChangeShapes Go.WideShapes Go.ChangeAt Go.RowKit
def w64 (z:Int):Int:=IntKind.i64.wrap z
theorem J7y (z:Int):J1 (w64 z):=by
 unfold w64 J1
 rw [IntKind.wrap_i64]
 omega
def J0M (x:Int) (n:Nat):Int:=x / 2 ^ n
def J20 (x y:Int):Int:=IntKind.i64.wrap (BitVec.ofInt 64 x ^^^ BitVec.ofInt 64 y).toNat
def J1L (x:Int) (m:Nat):Nat:=(BitVec.ofInt 64 x &&& BitVec.ofInt 64 (m:Int)).toNat
theorem J2J (x:Int) (m:Nat) (hm:m < 9223372036854775808):J1L x m≤m:=by
 unfold J1L
 rw [BitVec.toNat_and]
 refine Nat.le_trans Nat.and_le_right ?_
 rw [BitVec.toNat_ofInt]
 have:((m:Int) % ((2 ^ 64:Nat):Int)).toNat=m:=by omega
 rw [this]
 exact Nat.le_refl _
section
variable {P:Program} {o:Oper} {ρ:Operand→Value} {w:World} {x y:Operand} {t u:TypeId}
theorem JhC {m n:Int} (ho:o.op=.binOp .add t x y u) (hx:ρ x=.int .i64 m) (hy:ρ y=.int .i64 n):(execOp ρ o).run P w=.ok (.value (.int .i64 (w64 (m+n)))) w:=by
 simp [execOp,ho,hx,hy,eqGuard,binOp,Op.intArith,w64]
theorem JhH {m n:Int} (ho:o.op=.binOp .mul t x y u) (hx:ρ x=.int .i64 m) (hy:ρ y=.int .i64 n):(execOp ρ o).run P w=.ok (.value (.int .i64 (w64 (m * n)))) w:=by
 simp [execOp,ho,hx,hy,eqGuard,binOp,Op.intArith,w64]
theorem Jbs {ku:IntKind} {m n:Int} {c:Nat} (hn:n=(c:Int)) (hc:c≤64) (ho:o.op=.binOp .shr t x y u) (hx:ρ x=.int .i64 m) (hy:ρ y=.int ku n):(execOp ρ o).run P w=.ok (.value (.int .i64 (J0M m c))) w:=by
 subst hn
 have h2:min c IntKind.i64.bits=c:=Nat.min_eq_left hc
 simp [execOp,ho,hx,hy,eqGuard,binOp,J0M]
theorem JiE {m n:Int} (ho:o.op=.binOp .xor t x y u) (hx:ρ x=.int .i64 m) (hy:ρ y=.int .i64 n):(execOp ρ o).run P w=.ok (.value (.int .i64 (J20 m n))) w:=by
 simp [execOp,ho,hx,hy,eqGuard,binOp,Op.intBits,J20]
 rfl
theorem J7q {m n:Int} {c:Nat} (hn:n=(c:Int)) (hc:c < 9223372036854775808) (ho:o.op=.binOp .and t x y u) (hx:ρ x=.int .i64 m) (hy:ρ y=.int .i64 n):(execOp ρ o).run P w=.ok (.value (.int .i64 ((J1L m c:Nat):Int))) w:=by
 subst hn
 have h:=J2J m c hc
 have h1:IntKind.i64.wrap ((J1L m c:Nat):Int)=((J1L m c:Nat):Int):=J4C ⟨zO,zO⟩
 have h2:(execOp ρ o).run P w=.ok (.value (.int .i64 (IntKind.i64.wrap ((J1L m c:Nat):Int)))) w:=by
  simp [execOp,ho,hx,hy,eqGuard,binOp,Op.intBits]
  rfl
 rw [h2,h1]
theorem J7v {m:Nat} {n:Int} (hn:0 < n) (ho:o.op=.binOp .rem t x y u) (hx:ρ x=.int .i64 ((m:Nat):Int)) (hy:ρ y=.int .i64 n):(execOp ρ o).run P w=.ok (.value (.int .i64 ((m % n.toNat:Nat):Int))) w:=by
 obtain ⟨k,rfl⟩:=Int.eq_ofNat_of_zero_le (Int.le_of_lt hn)
 have h1:k≠0:=by omega
 have h2:(m:Int).tmod (k:Int)=((m % k:Nat):Int):=IntWalk.up_tmod rfl rfl
 have h3:(execOp ρ o).run P w=.ok (.value (.int .i64 ((m:Int).tmod (k:Int)))) w:=by
  simp [execOp,ho,hx,hy,eqGuard,binOp,Op.intDiv,h1]
 rw [h3,h2];rfl
theorem J4z {s d:TypeId} {n:Nat} {ku:IntKind} (hd:P.underlying d=some (.int .u8)) (hs:P.underlying s=some (.int ku)) (ho:o.op=.convert s d x) (hx:ρ x=.int ku ((n:Nat):Int)) (hb:n < 256):(execOp ρ o).run P w=.ok (.value (.int .u8 ((n:Nat):Int))) w:=by
 have h1:IntKind.u8.wrap ((n:Nat):Int)=((n:Nat):Int):=IntWalk.u8_in _ ⟨zO,zO⟩
 simp [execOp,ho,hx,convert,run_underlying hd,run_underlying hs,Conv.intToInt,h1]
theorem J6V {m n:Bool} (h:m=n):(if BinOp.eql=.eql then m == n else m != n)=true:=by subst h;simp
def J7 (n:Nat):List Value:=[.int .u8 ((n:Nat):Int)]
def okB (n:Nat):Prop:=n < 256
def Je (l:List Nat):ByteArray:=(l.map Int.ofNat).foldl (fun r n=>r.push (UInt8.ofNat n.toNat)) ByteArray.empty
theorem J1n (l:List Nat):(Je l).size=l.length:=by
 have h:∀ (l:List Int) (s:ByteArray),(l.foldl (fun r n=>r.push (UInt8.ofNat n.toNat)) s).size=s.size+l.length:=by
  intro l
  induction l with
  | nil=>intro s;simp
  | cons x l ih=>intro s;rw [List.foldl_cons,ih];simp [ByteArray.size_push];omega
 have h2:ByteArray.empty.size=0:=rfl
 unfold Je
 rw [h,h2,List.length_map,Nat.zero_add]
theorem J1r {s d e:TypeId} {a:Option Addr} {n c:Nat} {l:List Nat} (hs:P.underlying s=some (.slice e)) (he:P.underlying e=some (.int .u8)) (hd:P.underlying d=some .string) (R:RSl 1 (Enc J7 okB) w (.slice a n c) l) (ho:o.op=.convert s d x) (hx:ρ x=.slice a n c) :
 (execOp ρ o).run P w=.ok (.value (.string (Je l))) w:=by
 obtain ⟨a',cap,e1,h1,h2,h3,h4⟩:=R.inv
 cases e1
 cases a with
 | none=>
  obtain ⟨hl,_⟩:=h4 rfl
  subst hl
  simp [execOp,ho,hx,convert,run_underlying hd,run_underlying hs,run_underlying he,Conv.bytesToString,Je]
 | some ad=>
  obtain ⟨b,off,rfl⟩:=R.plain
  have hl:(loadCells ⟨b,off,none⟩ l.length).run P w=.ok ((l.map Int.ofNat).map (Value.int .u8)).toArray w:=by
   have hc:=run_loadCells_list (P:=P) (w:=w) ⟨b,off,none⟩ ((l.map Int.ofNat).map (Value.int .u8)) (fun j v hj=>by
    simp only [List.getElem?_map,Option.map_map,Option.map_eq_some_iff] at hj
    obtain ⟨q,hq,rfl⟩:=hj
    have hjl:j < l.length:=(List.getElem?_eq_some_iff.1 hq).1
    obtain ⟨b',off',x',row,e3,hx',hr,⟨rfl,_⟩,hcell⟩:=R.at j hjl
    cases e3
    rw [hq] at hx'
    cases hx'
    have:=hcell 0 _ rfl
    simpa [J0a] using this)
   simpa using hc
  have:=run_bytesToString (P:=P) w ⟨b,off,none⟩ l.length c (l.map Int.ofNat) hl
  simp [execOp,ho,hx,convert,run_underlying hd,run_underlying hs,run_underlying he,this,Je]
end
theorem J2o {l:List Nat} (h:l.length≤9223372036854775807):okS (Je l):=by
 unfold okS
 rw [J1n]
 exact h
section
variable {P:Program} {ops:Array Oper} {Q:Exit→Act→World→Prop} {K:Act→World→Prop} {o:Oper} {a:Act} {w:World} {L:List Atom} {d n:Nat} {m:List (Nat × Value)}
variable {α:Type} {e k bytes:Nat} {z:Value} {enc:α→List Value} {ok:α→Prop} {t:TypeId}
theorem f_mk {l c:Operand} {q:Nat} (y:α) (F:Fr n m a) (A:At w L) (E:ElemT P t e z k bytes enc) (hw:Region.wanted o (yielded ops a.tmps)=true) (hd:o.dst=some d) (ho:o.op=.makeSlice t l c) (hp:Nat.blt d n=true) (hl:a.eval l=.int .i64 ((q:Nat):Int)) (hc:a.eval c=.int .i64 ((q:Nat):Int)) (hz:enc y=z.cells.toList) (hy:ok y) (hb:bytes * q≤140737488355328)
 (kk:∀ b a' w',Fr n ((d,.slice (some ⟨b,0,none⟩) q q)::m) a'→Mv L w (ow e k enc ok (.slice (some ⟨b,0,none⟩) q q) (List.replicate q y)::L) w'→K a' w'):st1 P ops Q o K a w:=by
 obtain ⟨i,hi,hz0,hz1,hz2⟩:=info_parts E.hT.info
 have h63:q≤maxLen:=by
  have:1 * q≤bytes * q:=Nat.mul_le_mul_right _ E.by0
  unfold maxLen;omega
 obtain ⟨w',hrun,hown,hg⟩:=run_make_full (P:=P) w 0 t e i z k E.ht hi hz0 hz1 .i64 .i64 q (by rw [hz2];omega) h63 (Nat.zero_le _)
 have hm:(madeCells z.cells (q * k)).toList=J4 enc (List.replicate q y):=by
  have:=J91 E.hk hz.symm E.hT.pos q
  rw [← this]
  apply congrArg
  simp [madeCells,Builtin.zeroCells,E.hT.zs]
 rw [hm] at hown
 have hO:Own e k enc ok w' (.slice (some ⟨w.heap.size,0,none⟩) q q) (List.replicate q y):=⟨by simpa using hown,by simp +contextual [hy]⟩
 have hfr:∀ b ∈ (Value.slice (some ⟨w.heap.size,0,none⟩) q q).ownBlock.toList,w.heap.size≤b:=fun b hb=>by
  have h0:(Value.slice (some ⟨w.heap.size,0,none⟩) q q).ownBlock=some b:=by simpa using hb
  have h:some w.heap.size=some b:=h0
  cases h;exact Nat.le_refl _
 have hM:Mv [] w [ow e k enc ok (.slice (some ⟨w.heap.size,0,none⟩) q q) (List.replicate q y)] w':=J6o hO hfr ⟨hg.os,hg.tape,hg.output,hg.size,fun k hk=>hg.block k hk (by simp)⟩
 have hM2:Mv L w (ow e k enc ok (.slice (some ⟨w.heap.size,0,none⟩) q q) (List.replicate q y)::L) w':=by
  have:=A.frame (New:=[ow e k enc ok (.slice (some ⟨w.heap.size,0,none⟩) q q) (List.replicate q y)]) [] rfl hM
  rw [J19] at this
  exact this
 refine J1s hw hd (v:=.slice (some ⟨w.heap.size,0,none⟩) q q) (w':=w') ?_ fun _ e'=>kk _ _ _ (F.put e' hp) hM2
 simp [execOp,ho,hl,hc,hrun,Result.andThen]
end
def HP (H:Nat→Prop) (L0:List Atom) (b:Nat):Prop:=H b∨fps L0 b
section
variable {α:Type} {k:Nat} {enc:α→List Value} {ok:α→Prop}
theorem RdA.mono {H H':Nat→Prop} {w:World} {v:Value} {l:List α} (h:RdA k enc ok H w v l) (hH:∀ b,H b→H' b):RdA k enc ok H' w v l:=⟨h.1,fun ad n c e hn=>hH _ (h.2 ad n c e hn)⟩
theorem Rd.startP {H:Nat→Prop} {w0:World} {L:List Atom} {v:Value} {l:List α} (h:Rd k enc ok H w0 v l) (hL:∀ b,H b→¬ fps L b):Rd k enc ok (V (HP H L) w0 L) w0 v l:=⟨h.1,fun ad n c e hn=>⟨.inl (.inl (h.2 ad n c e hn)),hL _ (h.2 ad n c e hn)⟩⟩
theorem RdA.startP {H:Nat→Prop} {w0:World} {L:List Atom} {v:Value} {l:List α} (h:RdA k enc ok H w0 v l) (hL:∀ b,H b→¬ fps L b):RdA k enc ok (V (HP H L) w0 L) w0 v l:=⟨h.1,fun ad n c e hn=>⟨.inl (.inl (h.2 ad n c e hn)),hL _ (h.2 ad n c e hn)⟩⟩
theorem J23 {H:Nat→Prop} {L0 L:List Atom} {w0 w:World} (m:Mv L0 w0 L w) (b:Nat) (hb:fps L b):HP H L0 b∨w0.heap.size≤b:=(m.fresh b hb).elim (fun h=>.inl (.inr h)) .inr
theorem Rd.gotP {G:Nat→Prop} {w0 w w':World} {L New:List Atom} {is:List Nat} {v:Value} {l:List α} (A:At w L) (hs:w0.heap.size≤w.heap.size) (hf:∀ b,fps L b→G b∨w0.heap.size≤b)
 (h:Rd k enc ok (V (HP (V G w0 L) (sel L is)) w New) w' v l):Rd k enc ok (V G w0 (New++del L is)) w' v l:=by
 refine h.mono fun b hb=>?_
 obtain ⟨h1,h2⟩:=hb
 have hdel:fps (del L is) b→fps L b:=fun hb=>J2K (fun A hA=>(J34 L is).subset hA) hb
 have key:(G b∨w0.heap.size≤b)∧¬ fps (del L is) b:=by
  rcases h1 with (h1|h1)|h1
  ·exact ⟨h1.1,fun hd=>h1.2 (hdel hd)⟩
  ·refine ⟨hf b (J2K (fun A hA=>J2M hA) h1),fun hd=>?_⟩
   obtain ⟨B,hB,hb1⟩:=h1
   obtain ⟨C,hC,hb2⟩:=hd
   obtain ⟨j,h3,h4⟩:=J3Q hC
   obtain ⟨i,h5,h6⟩:=J47 hB
   exact A.apartAt h3 h6 (fun e=>h4 (by rw [e];simpa using h5)) b hb2 hb1
  exact ⟨.inr (Nat.le_trans hs h1),fun hd=>absurd (A.lt b (hdel hd)) (Nat.not_lt.2 h1)⟩
 refine ⟨key.1,fun hn=>?_⟩
 obtain ⟨B,hB,hb⟩:=hn
 rcases List.mem_append.1 hB with hB|hB
 ·exact h2 ⟨B,hB,hb⟩
 exact key.2 ⟨B,hB,hb⟩
theorem At.freezeP {e:Nat} {G:Nat→Prop} {w0 w:World} {L:List Atom} (A:At w L) (hk:∀ x,(enc x).length=k) (i:Nat) {v:Value} {l:List α} (hL:nth L i=some (ow e k enc ok v l)) (hf:∀ b,fps L b→G b∨w0.heap.size≤b) :
 Rd k enc ok (V G w0 (del L [i])) w v l:=by
 have hO:Own e k enc ok w v l:=A.ok _ (Jm hL)
 refine ⟨Own.rd hk hO,fun ad n c e' hn=>?_⟩
 have hb:v.ownBlock=some ad.block:=by subst e';rfl
 refine ⟨hf _ ⟨_,Jm hL,hb⟩,?_⟩
 rintro ⟨B,hB,hb'⟩
 obtain ⟨j,h1,h2⟩:=J3Q hB
 exact A.apartAt hL h1 (fun e=>h2 (by simp [e])) _ hb hb'
end
abbrev yT:Bool:=true
abbrev nF:Bool:=false
theorem x_lem {P:Program} {ops:Array Oper} {Q:Exit→Act→World→Prop} {S:World→Prop} {n:Nat} {listed:Array Bool} {a:Act} {w:World} (I:Act→World→Prop) (listed1:Array Bool) (f1:Nat) (h1:∀ a w,I a w→wpAnyH P .any ops Q S f1 listed1 a w)
 (k:(∀ a w,I a w→wpAnyH P .any ops Q S f1 listed1 a w)→wpAnyH P .any ops Q S n listed a w):wpAnyH P .any ops Q S n listed a w:=k h1
end Go.Proofs.YtipdbeklopjbmaaGreatDoor
