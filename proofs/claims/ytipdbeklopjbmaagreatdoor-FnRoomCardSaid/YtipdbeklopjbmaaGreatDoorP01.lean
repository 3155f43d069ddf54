/-
  Texts laid together: Eng2, Eng3, Eng4.
-/
import Derived.Test.YtipdbeklopjbmaaGreatDoorSlices
import Derived.IntWalk
import Derived.Laws.Concat
import Derived.Laws.StructEq
import Derived.Laws.Cover1
import Derived.Laws.Tables
set_option linter.unusedVariables false
set_option linter.unusedSimpArgs false
namespace Go.Proofs.YtipdbeklopjbmaaGreatDoor
open Go.ChangeShapes Go.WideShapes Go.ChangeAt Go.RowKit
def J1 (z:Int):Prop:=-9223372036854775808≤z∧z≤9223372036854775807
theorem J1V {p q:Prop} [Decidable p] [Decidable q] (h:p ↔ q):decide p=decide q:=by simp [h]
section
variable {P:Program} {o:Oper} {ρ:Operand→Value} {w:World} {x y:Operand} {t u:TypeId}
theorem J4C {z:Int} (h:J1 z):IntKind.i64.wrap z=z:=IntWalk.i64_in _ h
theorem J4e {m n z:Int} (ho:o.op=.binOp .add t x y u) (hx:ρ x=.int .i64 m) (hy:ρ y=.int .i64 n) (hz:m+n=z) (hb:J1 z):(execOp ρ o).run P w=.ok (.value (.int .i64 z)) w:=by
 subst hz
 simp [execOp,ho,hx,hy,eqGuard,binOp,Op.intArith,J4C hb]
theorem J7I {m n z:Int} (ho:o.op=.binOp .sub t x y u) (hx:ρ x=.int .i64 m) (hy:ρ y=.int .i64 n) (hz:m - n=z) (hb:J1 z):(execOp ρ o).run P w=.ok (.value (.int .i64 z)) w:=by
 subst hz
 simp [execOp,ho,hx,hy,eqGuard,binOp,Op.intArith,J4C hb]
theorem Jbr {m n z:Int} (ho:o.op=.binOp .mul t x y u) (hx:ρ x=.int .i64 m) (hy:ρ y=.int .i64 n) (hz:m * n=z) (hb:J1 z):(execOp ρ o).run P w=.ok (.value (.int .i64 z)) w:=by
 subst hz
 simp [execOp,ho,hx,hy,eqGuard,binOp,Op.intArith,J4C hb]
def J4g:BinOp→Int→Int→Bool
 | .eql,a,b=>decide (a=b)
 | .neq,a,b=>decide (a≠b)
 | .lss,a,b=>decide (a < b)
 | .leq,a,b=>decide (a≤b)
 | .gtr,a,b=>decide (b < a)
 | .geq,a,b=>decide (b≤a)
 | _,_,_=>false
theorem J3H {k:IntKind} {op:BinOp} {m n:Int} {b:Bool} (hop:op=.eql∨op=.neq∨op=.lss∨op=.leq∨op=.gtr∨op=.geq) (ho:o.op=.binOp op t x y u) (hx:ρ x=.int k m) (hy:ρ y=.int k n) (hb:J4g op m n=b) :
 (execOp ρ o).run P w=.ok (.value (.bool b)) w:=by
 subst hb
 rcases hop with rfl|rfl|rfl|rfl|rfl|rfl <;> simp [execOp,ho,hx,hy,eqGuard,binOp,Op.intCmp,J4g] <;> rfl
theorem J7r {op:BinOp} {m n:Bool} {b:Bool} (hu:P.underlying t=some .bool) (hop:op=.eql∨op=.neq) (ho:o.op=.binOp op t x y u) (hx:ρ x=.bool m) (hy:ρ y=.bool n) (hb:(if op=.eql then m == n else m != n)=b) :
 (execOp ρ o).run P w=.ok (.value (.bool b)) w:=by
 subst hb
 have e:(Op.equalIn Op.maxDepth t (.bool m) (.bool n)).run P w=.ok (m == n) w:=run_equalIn_bool w 9999 t m n hu
 rcases hop with rfl|rfl <;> simp [execOp,ho,hx,hy,eqGuard,binOp,Op.equal,e]
 cases m <;> cases n <;> rfl
def leS (a b:ByteArray):Bool:=ltS a b || decide (a=b)
def J7P:BinOp→ByteArray→ByteArray→Bool
 | .eql,a,b=>decide (a=b)
 | .neq,a,b=>decide (a≠b)
 | .lss,a,b=>ltS a b
 | .leq,a,b=>leS a b
 | .gtr,a,b=>!leS a b
 | .geq,a,b=>!ltS a b
 | _,_,_=>false
theorem J0O {op:BinOp} {m n:ByteArray} {b:Bool} (hop:op=.eql∨op=.neq∨op=.lss∨op=.leq∨op=.gtr∨op=.geq) (ho:o.op=.binOp op t x y u) (hx:ρ x=.string m) (hy:ρ y=.string n) (hb:J7P op m n=b) :
 (execOp ρ o).run P w=.ok (.value (.bool b)) w:=by
 subst hb
 have e:=J5c m n
 rcases hop with rfl|rfl|rfl|rfl|rfl|rfl <;> simp [execOp,ho,hx,hy,eqGuard,binOp,Op.stringOp,J7P,leS,ltS,e]
theorem J0e {m n:ByteArray} (ho:o.op=.binOp .add t x y u) (hx:ρ x=.string m) (hy:ρ y=.string n) (hb:m.size+n.size≤9223372036854775807):(execOp ρ o).run P w=.ok (.value (.string (m++n))) w:=by
 simp [execOp,ho,hx,hy,eqGuard,binOp,run_string_add_sum w m n hb]
theorem Jb2 {ats:Array TypeId} (hu:∀ t,ats[0]? = some t→P.underlying t=some .string) (h0:ats[0]?.isSome=true) (ho:o.op=.call { callee:=.builtin .len,args:=#[x],argTypes:=ats }) {m:ByteArray} (hx:ρ x=.string m):(execOp ρ o).run P w=.ok (.value (.int .i64 m.size)) w:=by
 obtain ⟨t,ht⟩:=Option.isSome_iff_exists.1 h0
 simp [execOp,ho,hx,resolve,invoke,builtin,Builtin.len_,ht,run_underlying (hu t ht),goInt]
theorem J4f {e s:TypeId} {ad:Option Addr} {n c:Nat} (hu:P.underlying s=some (.slice e)) (ho:o.op=.call { callee:=.builtin .len,args:=#[x],argTypes:=#[s] }) (hx:ρ x=.slice ad n c):(execOp ρ o).run P w=.ok (.value (.int .i64 n)) w:=by
 simp [execOp,ho,hx,resolve,invoke,builtin,Builtin.len_,run_underlying hu,goInt]
def J5 (s:ByteArray) (i:Nat):Nat:=((s.data.toList[i]?).map (·.toNat)).getD 0
theorem J1B (s:ByteArray) (i:Nat):J5 s i < 256:=by
 unfold J5
 cases h:s.data.toList[i]? with
 | none=>simp
 | some c=>simp;exact c.toNat_lt
theorem J0Y {m:ByteArray} {z:Int} {i:Nat} (hu:P.underlying t=some .string) (ho:o.op=.index t x y) (hx:ρ x=.string m) (hy:ρ y=.int .i64 z) (hz:z=i) (hi:i < m.size):(execOp ρ o).run P w=.ok (.value (.int .u8 (J5 m i))) w:=by
 subst hz
 have h2:J5 m i=m[i].toNat:=by
  unfold J5
  have:m.data.toList[i]? = some m[i]:=by
   rw [Array.getElem?_toList,Array.getElem?_eq_getElem (by simpa using hi)]
   rfl
  rw [this];rfl
 simp [execOp,ho,hx,hy,Instr.index,asIntOf,run_underlying hu,h2,hi]
theorem J1a {s d:TypeId} {n:Int} {ku:IntKind} (hd:P.underlying d=some (.int .i64)) (hs:P.underlying s=some (.int ku)) (ho:o.op=.convert s d x) (hx:ρ x=.int ku n) (hb:J1 n):(execOp ρ o).run P w=.ok (.value (.int .i64 n)) w:=by
 simp [execOp,ho,hx,convert,run_underlying hd,run_underlying hs,Conv.intToInt,J4C hb]
theorem J8W (g:Bool) (n c l h:Nat) (lo hi:Option Value) (hlo:match lo with|none=>l=0|some p=>p=.int .i64 (l:Int)) (hhi:match hi with|none=>h=n|some p=>p=.int .i64 (h:Int)) (h1:l≤h) (h2:h≤c) :
 (Instr.sliceBounds g n c lo hi none).run P w=.ok (l,h,c) w:=by
 have e1:(0:Int)≤(l:Int)∧(l:Int)≤(h:Int):=by omega
 have e2:(0:Int)≤(h:Int)∧(h:Int)≤(c:Int):=by omega
 cases lo <;> cases hi <;> simp only at hlo hhi <;> subst hlo <;> subst hhi <;> simp [Instr.sliceBounds,Instr.sliceBound,asIntOf,h1,h2]
def J1H (ρ:Operand→Value) (d:Nat):Option Operand→Nat→Prop
 | none,i=>i=d
 | some p,i=>ρ p=.int .i64 (i:Int)
theorem J2p {m m':ByteArray} {lo hi:Option Operand} {l h:Nat} (hu:P.underlying t=some .string) (ho:o.op=.slice t x lo hi none) (hx:ρ x=.string m)
 (hlo:J1H ρ 0 lo l) (hhi:J1H ρ m.size hi h) (h1:l≤h) (h2:h≤m.size) (e:m.extract l h=m'):(execOp ρ o).run P w=.ok (.value (.string m')) w:=by
 subst e
 have hb:=J8W (P:=P) (w:=w) false m.size m.size l h (lo.map ρ) (hi.map ρ) (by cases lo <;> exact hlo) (by cases hi <;> exact hhi) h1 h2
 simp only [execOp,ho,hx,Instr.sliceAt,Sem.run_bind,run_underlying hu,Result.andThen_ok,Instr.slice,Option.map_none,Option.isSome_none,Bool.false_eq_true,↓reduceIte,hb,Sem.run_pure]
end
section
variable {P:Program} {o:Oper} {ρ:Operand→Value} {w:World} {x y:Operand} {t:TypeId}
variable {α:Type} {e k bytes:Nat} {z:Value} {enc:α→List Value} {ok:α→Prop}
theorem JB {b off n c:Nat} {zi:Int} {i:Nat} (E:ElemT P t e z k bytes enc) (ho:o.op=.indexAddr t x y) (hx:ρ x=.slice (some ⟨b,off,none⟩) n c) (hy:ρ y=.int .i64 zi) (hz:zi=i) (hi:i < n) :
 (execOp ρ o).run P w=.ok (.value (.pointer (some ⟨b,off+i * k,none⟩))) w:=by
 subst hz
 obtain ⟨inf,h1,h2,h3,h4⟩:=info_parts E.hT.info
 have hk:k≠0:=by have:=E.hT.pos;omega
 simp [execOp,ho,hx,hy,Instr.indexAt,asIntOf,run_underlying E.ht,sizeOf,typeInfo,h1,h3,hi,J0a]
theorem J76 {b off n c:Nat} {lo hi:Option Operand} {l h:Nat} (E:ElemT P t e z k bytes enc) (ho:o.op=.slice t x lo hi none) (hx:ρ x=.slice (some ⟨b,off,none⟩) n c)
 (hlo:J1H ρ 0 lo l) (hhi:J1H ρ n hi h) (h1:l≤h) (h2:h≤c) :
 (execOp ρ o).run P w=.ok (.value (.slice (some (if c=l then ⟨b,off,none⟩ else ⟨b,off+l * k,none⟩)) (h - l) (c - l))) w:=by
 obtain ⟨inf,g1,g2,g3,g4⟩:=info_parts E.hT.info
 have hb:=J8W (P:=P) (w:=w) true n c l h (lo.map ρ) (hi.map ρ) (by cases lo <;> exact hlo) (by cases hi <;> exact hhi) h1 h2
 simp only [execOp,ho,hx,Instr.sliceAt,Sem.run_bind,run_underlying E.ht,Result.andThen_ok,Instr.slice,Option.map_none,hb,sizeOf,typeInfo,run_program,g1,g3,Sem.run_pure]
 congr 4
 split <;> simp [J0a]
theorem J8V {lo hi:Option Operand} (hu:P.underlying t=some (.slice e)) (hsz:∃ inf,P.info? e=some inf) (ho:o.op=.slice t x lo hi none) (hx:ρ x=.slice none 0 0)
 (hlo:match lo with|none=>True|some p=>ρ p=.int .i64 0) (hhi:match hi with|none=>True|some p=>ρ p=.int .i64 0) :
 (execOp ρ o).run P w=.ok (.value (.slice none 0 0)) w:=by
 obtain ⟨inf,g1⟩:=hsz
 cases lo <;> cases hi <;> simp only at hlo hhi <;> simp [execOp,ho,hx,Instr.sliceAt,Instr.slice,run_underlying hu,Instr.sliceBounds,Instr.sliceBound,asIntOf,hlo,hhi,sizeOf,typeInfo,g1]
end
structure BI (P:Program) (t:TypeId) (places:List (Nat × Nat)) (z:List Value):Prop where
 ex:∀ parts,P.built t parts=Instr.fill (places.toArray[·]?) z.toArray parts
theorem Jip {P:Program} {t:TypeId} {places:List (Nat × Nat)} {z:List Value} {it:TypeInfo} {fs:Array Field} {zv:Value} (h1:P.info? t=some it) (h2:P.underlying t=some (.struct fs)) (h3:it.zero=some zv) (h4:zv.cells=z.toArray)
 (h5:fs.toList.mapM (fun f=>(P.info? f.type).map fun i=>(f.offset,i.size))=some places):BI P t places z:=by
 refine ⟨fun parts=>?_⟩
 unfold Program.built
 simp only [h1,h2,h3,h5,h4]
def J4a (places:List (Nat × Nat)):List Value→List (Nat × List Value)→Option (List Value)
 | cells,[]=>some cells
 | cells,(i,v)::rest=>match nth places i with
  | none=>none
  | some (off,size)=>if Nat.beq v.length size && Nat.ble (off+v.length) cells.length then J4a places (Jq cells off v) rest else none
theorem J6d:∀ (v:List Value) (off q:Nat) (cs:List Value),off+q+v.length≤cs.length →
 (v.zipIdx q).foldl (fun cs (c,j)=>cs.setIfInBounds (off+j) c) cs.toArray=(Jq cs (off+q) v).toArray
 | [],off,q,cs,_=>by simp [Jq]
 | x::v,off,q,cs,h=>by
  simp only [List.length_cons] at h
  simp only [List.zipIdx_cons,List.foldl_cons,List.setIfInBounds_toArray]
  rw [J6d v off (q+1) (cs.set (off+q) x) (by simp;omega)]
  congr 1
  unfold Jq
  apply List.ext_getElem?
  intro i
  simp only [List.length_cons,List.append_assoc]
  rw [List.getElem?_append,List.getElem?_append,List.getElem?_append,List.getElem?_append]
  simp only [List.length_take,List.length_set]
  have e1:min (off+(q+1)) cs.length=off+q+1:=by omega
  have e2:min (off+q) cs.length=off+q:=by omega
  rw [e1,e2]
  by_cases h1:i < off+q
  ·have h2:i < off+q+1:=by omega
   simp only [h1,h2,if_true]
   rw [List.getElem?_take,List.getElem?_take,if_pos zO,if_pos zO,List.getElem?_set_ne zO]
  by_cases h2:i=off+q
  ·subst h2
   simp only [Nat.lt_irrefl,if_false,Nat.sub_self,if_true,Nat.lt_succ_self]
   rw [List.getElem?_take,if_pos zO,List.getElem?_set_self zO]
   simp
  simp only [h1,if_false,show ¬ i < off+q+1 by omega]
  by_cases h3:i - (off+q) < v.length+1
  ·simp only [List.length_cons,h3,if_true,show i - (off+q+1) < v.length by omega]
   rw [show i - (off+q)=(i - (off+q+1))+1 by omega,List.getElem?_cons_succ]
  simp only [List.length_cons,h3,if_false,show ¬ i - (off+q+1) < v.length by omega]
  rw [List.getElem?_drop,List.getElem?_drop,List.getElem?_set_ne zO]
  congr 1;omega
theorem Jam (places:List (Nat × Nat)):∀ (parts:List (Nat × Value)) (cells out:List Value),J4a places cells (parts.map fun p=>(p.1,p.2.cells.toList))=some out →
 Instr.fill (places.toArray[·]?) cells.toArray parts=some out.toArray
 | [],cells,out,h=>by simp [J4a] at h;subst h;rfl
 | (i,v)::rest,cells,out,h=>by
  simp only [List.map_cons,J4a,JO] at h
  unfold Instr.fill
  have e:places.toArray[i]? = places[i]?:=by simp
  simp only [e]
  cases hp:places[i]? with
  | none=>rw [hp] at h;cases h
  | some p=>
   obtain ⟨off,size⟩:=p
   rw [hp] at h
   simp only at h
   split at h
   ·rename_i hc
    simp only [Bool.and_eq_true,Nat.beq_eq,Nat.ble_eq] at hc
    obtain ⟨h1,h2⟩:=hc
    have hneg:¬ ((decide (v.cells.size≠size) || decide (off+v.cells.size > cells.toArray.size))=true):=by simp at h1 h2 ⊢;omega
    simp only [hneg]
    have hf:=J6d v.cells.toList off 0 cells (by simpa using h2)
    rw [← Array.foldl_toList,Array.toList_zipIdx,hf]
    exact Jam places rest _ out h
   cases h
theorem J06 {P:Program} {o:Oper} {ρ:Operand→Value} {w:World} {t:TypeId} {ps:Array (Nat × Operand)} {places:List (Nat × Nat)} {z out:List Value} {vs:List (Nat × Value)} (B:BI P t places z) (ho:o.op=.build t ps)
 (hv:ps.toList.map (fun p=>(p.1,ρ p.2))=vs) (hf:J4a places z (vs.map fun p=>(p.1,p.2.cells.toList))=some out):(execOp ρ o).run P w=.ok (.value (.agg out.toArray)) w:=by
 have h1:=Jam places vs z out hf
 have h2:=B.ex vs
 have h3:=run_build (P:=P) w t (ps.map fun p=>(p.1,ρ p.2)) out.toArray (by
  have:(ps.map fun p=>(p.1,ρ p.2)).toList=vs:=by rw [← hv];simp
  rw [this,h2,h1])
 simp [execOp,ho,h3]
section
variable {P:Program} {o:Oper} {ρ:Operand→Value} {w:World} {t:TypeId}
variable {α:Type} {e k bytes:Nat} {z:Value} {enc:α→List Value} {ok:α→Prop}
theorem JgE {w:World} {b:Nat} {l:List α} (hk:∀ x,(enc x).length=k) (hok:∀ x ∈ l,ok x) (hl:l.length≤maxLen) (hg:w.heap[b]? = some (.cells (J4 enc l).toArray e (0,0))) :
 Own e k enc ok w (.slice (some ⟨b,0,none⟩) l.length l.length) l:=
 Own.ofRow (cur:=J4 enc l) hk hok rfl hg (Nat.le_refl _) hl (J0d hk l) (by rw [← J0d hk l];simp)
theorem Jf0 (l:List α) (hk:∀ x,(enc x).length=k) (hok:∀ x ∈ l,ok x) (hl:l.length≤maxLen):Mv [] w [ow e k enc ok (.slice (some ⟨w.heap.size,0,none⟩) l.length l.length) l] (w.alloc (.cells (J4 enc l).toArray e)):=
 Bl.mv_new (At.one (JgE hk hok hl (heap_alloc_new _ _)) (fun b hb=>by have h:some w.heap.size=some b:=hb;cases h;simp))
  (fun b ⟨B,hB,hb⟩=>by rcases List.mem_singleton.1 hB with rfl;have h:some w.heap.size=some b:=hb;cases h;exact Nat.le_refl _) ((Bl.refl w).alloc _)
theorem J19 {L:List Atom} : del L []=L:=by
 unfold del
 have:∀ (l:List Atom) k,del.go l [] k=l:=by
  intro l
  induction l with
  | nil=>intro k;rfl
  | cons x l ih=>intro k;simp [del.go,ih]
 exact this L 0
theorem Jeo {L:List Atom} (A:At w L) (l:List α) (hk:∀ x,(enc x).length=k) (hok:∀ x ∈ l,ok x) (hl:l.length≤maxLen) :
 Mv L w (ow e k enc ok (.slice (some ⟨w.heap.size,0,none⟩) l.length l.length) l::L) (w.alloc (.cells (J4 enc l).toArray e)):=by
 have:=At.frame (New:=[ow e k enc ok (.slice (some ⟨w.heap.size,0,none⟩) l.length l.length) l]) A [] rfl (Jf0 l hk hok hl)
 rw [J19] at this
 exact this
theorem J97 (hk:∀ x,(enc x).length=k):∀ (l done:List α) (vs:List Value) (Z:List Value),vs.length=l.length→(∀ (i:Nat) (x:α) (v:Value),l[i]? = some x→vs[i]? = some v→v.cells.toList=enc x)→Z.length=l.length * k →
 Instr.fill (fun i=>some (i * k,k)) (J4 enc done++Z).toArray (vs.zipIdx done.length |>.map fun p=>(p.2,p.1))=some (J4 enc (done++l)).toArray
 | [],done,vs,Z,hv,_,hZ=>by
  have h1:vs=[]:=List.eq_nil_of_length_eq_zero hv
  have h2:Z=[]:=List.eq_nil_of_length_eq_zero (by simpa using hZ)
  subst h1;subst h2
  simp [Instr.fill]
 | x::l,done,[],Z,hv,_,_=>by simp at hv
 | x::l,done,v::vs,Z,hv,hc,hZ=>by
  have hv0:v.cells.toList=enc x:=hc 0 x v rfl rfl
  have hsz:v.cells.size=k:=by rw [← hk x,← hv0];simp
  have hd:=J0d hk done
  have hZ':Z.length=l.length * k+k:=by rw [hZ,List.length_cons,Nat.add_mul];omega
  simp only [List.zipIdx_cons,List.map_cons]
  unfold Instr.fill
  have hneg:¬ ((decide (v.cells.size≠k) || decide (done.length * k+v.cells.size > (J4 enc done++Z).toArray.size))=true):=by
   simp [hsz,hd,hZ']
  simp only [hneg]
  have hf:=J6d v.cells.toList (done.length * k) 0 (J4 enc done++Z) (by simp [hsz,hd,hZ'])
  rw [← Array.foldl_toList,Array.toList_zipIdx,hf]
  have hs:Jq (J4 enc done++Z) (done.length * k+0) v.cells.toList=J4 enc (done++[x])++Z.drop k:=by
   unfold Jq
   have e1:(enc x).length=k:=hk x
   have e2:J4 enc [x]=enc x:=by simp [J4]
   rw [hv0,J18,e2,Nat.add_zero,e1]
   generalize J4 enc done=D at hd
   rw [← hd,List.take_left,List.drop_append,List.drop_eq_nil_of_le zO]
   simp
  rw [hs]
  have ih:=J97 hk l (done++[x]) vs (Z.drop k) (by simpa using hv) (fun i y u h1 h2=>hc (i+1) y u (by simpa using h1) (by simpa using h2)) (by simp;omega)
  simp only [List.length_append,List.length_singleton,List.append_assoc,List.singleton_append] at ih
  simpa using ih
theorem Jf7 {n:Nat} {ps:Array (Nat × Operand)} {vs:List Value} (l:List α) (E:ElemT P t e z k bytes enc) (ho:o.op=.buildSlice t n ps) (hn:n=l.length) (hsm:Nat.ble (n * k) 16777216=true)
 (hps:ps.toList.map (fun p=>(p.1,ρ p.2))=(vs.zipIdx 0).map fun p=>(p.2,p.1)) (hvl:vs.length=l.length) (hvs:∀ (i:Nat) (x:α) (v:Value),l[i]? = some x→vs[i]? = some v→v.cells.toList=enc x) :
 (execOp ρ o).run P w=.ok (.value (.slice (some ⟨w.heap.size,0,none⟩) l.length l.length)) (w.alloc (.cells (J4 enc l).toArray e)):=by
 subst hn
 obtain ⟨inf,g1,g2,g3,g4⟩:=info_parts E.hT.info
 have hsm':l.length * k≤16777216:=by simpa [Nat.ble_eq] using hsm
 have hz:∀ Z:Array Value,Z.size=l.length * k→Instr.fill (fun i=>some (i * k,k)) Z (ps.toList.map fun p=>(p.1,ρ p.2))=some (J4 enc l).toArray:=by
  intro Z hZ
  rw [hps]
  have:=J97 (enc:=enc) E.hk l [] vs Z.toList hvl hvs (by simpa using hZ)
  simpa [J4] using this
 by_cases h0:l.length * k=0
 ·have:=hz ((Array.range 0).map fun _=>default) (by simp [h0])
  simp [execOp,ho,Instr.buildSlice,run_underlying E.ht,sizeOf,typeInfo,g1,g3,h0,this,newRow,newObj,Sem.run]
 have:=hz ((Array.range (l.length * k)).map (z.cells[· % z.cells.size]!)) (by simp)
 simp [execOp,ho,Instr.buildSlice,run_underlying E.ht,sizeOf,typeInfo,zeroValue,g1,g2,g3,h0,this,newRow,newObj,Sem.run,Nat.not_lt.2 hsm']
theorem JiC {ty:TypeId} {L:List Atom} {s x:Operand} {v xv:Value} {l news:List α} (E:ElemT P t e z k bytes enc) (A:At w L) (i:Nat) (hL:nth L i=some (ow e k enc ok v l)) (ho:o.op=.call { callee:=.builtin .append,args:=#[s,x],argTypes:=#[t,t] }) (hty:o.type=ty)
 (hs:ρ s=v) (hx:ρ x=xv) (hnews:RSl k (Enc enc ok) w xv news) (hbytes:(l.length+news.length) * bytes≤140737488355328) (hok:JP L.length [i]=true) :
 ∃ a n c w',(execOp ρ o).run P w=.ok (.value (.slice a n c)) w'∧n=(l++news).length∧Mv L w ([ow e k enc ok (.slice a n c) (l++news)]++del L [i]) w':=by
 have hO:Own e k enc ok w v l:=A.ok _ (Jm hL)
 obtain ⟨v',w',hr,h2,h3,h4,h5⟩:=JaB (P:=P) E ty v xv l news hO hnews hbytes
 obtain ⟨a,n,c,rfl⟩:=h2.isSl
 refine ⟨a,n,c,w',?_,?_,A.frame [i] hok ?_⟩
 ·subst hty
  simp [execOp,ho,resolve,invoke,builtin,hs,hx,hr]
 ·obtain ⟨_,cap,e1,_⟩:=(h2.rd E.hk).inv
  cases e1;rfl
 have e1:sel L [i]=[ow e k enc ok v l]:=by simp [sel,hL]
 rw [e1]
 refine ⟨At.one h2 (fun b hb=>h2.lt b (by have:(Value.slice a n c).ownBlock=some b:=hb;simp [this])),?_,Kp.of_keep h3 (fun b hb=>⟨_,List.mem_singleton.2 rfl,show v.ownBlock=some b by simpa using hb⟩)⟩
 rintro b ⟨B,hB,hb⟩
 rcases List.mem_singleton.1 hB with rfl
 have hb':(Value.slice a n c).ownBlock=some b:=hb
 rcases h4 b (by simp [hb']) with h6|h6
 ·exact .inl ⟨_,List.mem_singleton.2 rfl,show v.ownBlock=some b by simpa using h6⟩
 exact .inr h6
end
section
variable {P:Program} {ops:Array Oper} {Q:Exit→Act→World→Prop} {K:Act→World→Prop} {o:Oper} {a:Act} {w:World} {L:List Atom} {d:Nat}
theorem JgN {t:TypeId} {z:Value} {cs:List Value} (A:At w L) (Z:ZI P t z) (hw:Region.wanted o (yielded ops a.tmps)=true) (hd:o.dst=some d) (ho:o.op=.alloc t) (hz:z.cells.toList=cs)
 (k:∀ b a' w',a'=a.put (some d) (.pointer (some ⟨b,0,none⟩))→Mv L w (bx b cs t::L) w'→K a' w'):st1 P ops Q o K a w:=
 J1s hw hd (JgF Z ho hz) fun _ e=>k _ _ _ e (mv_new A cs t)
theorem JiI {t:TypeId} {x:Operand} {v:Value} {cs:List Value} (A:At w L) (hw:Region.wanted o (yielded ops a.tmps)=true) (hd:o.dst=some d) (ho:o.op=.box t x) (hx:a.eval x=v) (hv:v.cells.toList=cs)
 (k:∀ b a' w',a'=a.put (some d) (.pointer (some ⟨b,0,none⟩))→Mv L w (bx b cs t::L) w'→K a' w'):st1 P ops Q o K a w:=
 J1s hw hd (JiD ho hx hv) fun _ e=>k _ _ _ e (mv_new A cs t)
theorem J0C {t:TypeId} {x y:Operand} {g:Bool} {n:Nat} (A:At w L) (i:Nat) {b off:Nat} {cs vs cs':List Value} {T:TypeId} {v:Value} (TT:TI P t g n) (hL:nth L i=some (bx b cs T)) (hok:JP L.length [i]=true) (hw:Region.wanted o (yielded ops a.tmps)=true) (hd:o.dst=none)
 (ho:o.op=.store t x y) (hx:a.eval x=.pointer (some ⟨b,off,none⟩)) (hy:a.eval y=v) (hv:v.cells.toList=vs) (hk:vs.length=n) (hfit:Nat.ble (off+vs.length) cs.length=true) (h1:vs.all (·.oneCell')=true) (e:Jq cs off vs=cs')
 (k:∀ w',Mv L w ([bx b cs' T]++del L [i]) w'→K a w'):st1 P ops Q o K a w:=
 J4K hw hd (JfQ A i TT hL ho hx hy hv hk hfit h1 e) (k _ (JfF A i hL hok))
variable {α:Type} {e k bytes:Nat} {z:Value} {enc:α→List Value} {ok:α→Prop} {t:TypeId}
theorem Jfh {n:Nat} {ps:Array (Nat × Operand)} {vs:List Value} (A:At w L) (l:List α) (E:ElemT P t e z k bytes enc) (hw:Region.wanted o (yielded ops a.tmps)=true) (hd:o.dst=some d) (ho:o.op=.buildSlice t n ps) (hn:n=l.length) (hsm:Nat.ble (n * k) 16777216=true)
 (hps:ps.toList.map (fun p=>(p.1,a.eval p.2))=(vs.zipIdx 0).map fun p=>(p.2,p.1)) (hvl:vs.length=l.length) (hvs:∀ (i:Nat) (x:α) (v:Value),l[i]? = some x→vs[i]? = some v→v.cells.toList=enc x) (hok:∀ x ∈ l,ok x)
 (kk:∀ b a' w',a'=a.put (some d) (.slice (some ⟨b,0,none⟩) n n)→Mv L w (ow e k enc ok (.slice (some ⟨b,0,none⟩) n n) l::L) w'→K a' w'):st1 P ops Q o K a w:=by
 have hl:l.length≤maxLen:=by
  have h0:l.length * k≤16777216:=by rw [← hn];simpa [Nat.ble_eq] using hsm
  have h1:l.length * 1≤l.length * k:=Nat.mul_le_mul_left _ E.hT.pos
  unfold maxLen;omega
 have hr:=Jf7 (w:=w) l E ho hn hsm hps hvl hvs
 subst hn
 exact J1s hw hd hr fun _ e'=>kk _ _ _ e' (Jeo A l E.hk hok hl)
theorem JiH {s x:Operand} {v xv:Value} {l news:List α} (A:At w L) (i:Nat) (E:ElemT P t e z k bytes enc) (hL:nth L i=some (ow e k enc ok v l)) (hsel:JP L.length [i]=true) (hw:Region.wanted o (yielded ops a.tmps)=true) (hd:o.dst=some d)
 (ho:o.op=.call { callee:=.builtin .append,args:=#[s,x],argTypes:=#[t,t] }) (hs:a.eval s=v) (hx:a.eval x=xv) (hnews:RSl k (Enc enc ok) w xv news) (hbytes:(l.length+news.length) * bytes≤140737488355328)
 (kk:∀ b n c a' w',a'=a.put (some d) (.slice b n c)→Mv L w ([ow e k enc ok (.slice b n c) (l++news)]++del L [i]) w'→n=(l++news).length→K a' w'):st1 P ops Q o K a w:=by
 obtain ⟨b,n,c,w',h1,h2,h3⟩:=JiC E A i hL ho rfl hs hx hnews hbytes hsel
 exact J1s hw hd h1 fun _ e'=>kk _ _ _ _ _ e' h3 h2
end
structure CF (P:Program) (f:FuncId):Prop where
 ex:∃ fn c,P.funcs[f]? = some fn∧fn.body=some c∧(fn.name == "runtime.NumGoroutine")=false
theorem lc {α:Type} {x y:α} {l m:List α} (h:x=y) (t:l=m):x::l=y::m:=by rw [h,t]
section
variable {P:Program} {ops:Array Oper} {Q:Exit→Act→World→Prop} {K:Act→World→Prop} {o:Oper} {a:Act} {w:World} {d:Nat}
theorem Jh5 {f:FuncId} {xs:Array Operand} {ats:Array TypeId} {vs:List Value} {R:Ending→World→Prop} (C:CF P f) (hw:Region.wanted o (yielded ops a.tmps)=true) (hd:o.dst=some d)
 (ho:o.op=.call { callee:=.value (.func f),args:=xs,argTypes:=ats }) (hx:xs.toList.map a.eval=vs) (hc:Calls P f vs.toArray w R)
 (k:∀ e w',R e w'→∃ v,e=.returned v∧∀ a',a'=a.put (some d) v→K a' w'):st1 P ops Q o K a w:=by
 obtain ⟨fn,c,h1,h2,h3⟩:=C.ex
 exact Jb4 hw hd (JhE h1 h2 h3 rfl ho hx) hc k
end
section
variable {P:Program} {Q:Exit→Act→World→Prop} {a:Act} {w:World} {o:Oper} {ρ:Operand→Value}
theorem Ji8 {c:Operand} {x y:Code} {p:Prop} [Decidable p] (hc:a.eval c=.bool (decide p)) (h1:p→x.wp P Q a w) (h2:¬ p→y.wp P Q a w):(Code.cond c x y).wp P Q a w:=
 wp_cond_split hc (fun h=>h1 (of_decide_eq_true h)) (fun h=>h2 (of_decide_eq_false h))
theorem JgY {c:Operand} {x y:Code} {b:Bool} (hc:a.eval c=.bool b) (h1:b=true→x.wp P Q a w) (h2:b=false→y.wp P Q a w):(Code.cond c x y).wp P Q a w:=wp_cond_split hc h1 h2
theorem J7s {t:TypeId} {x:Operand} {p:Prop} [Decidable p] (ho:o.op=.unOp .not t x) (hx:ρ x=.bool (decide p)):(execOp ρ o).run P w=.ok (.value (.bool (decide (¬ p)))) w:=by
 have:=J0q (P:=P) (w:=w) ho hx
 rw [this];simp
theorem JN {b o f:Nat} {row:List Value} (h:∀ j v,row[j]? = some v→w.cell? ((⟨b,o,none⟩:Addr).add j)=some v) (vs:List Value) (hv:(row.drop f).take vs.length=vs):∀ j v,vs[j]? = some v→w.cell? ((⟨b,o+f,none⟩:Addr).add j)=some v:=by
 intro j v hj
 rw [← hv,List.getElem?_take] at hj
 split at hj
 ·rw [List.getElem?_drop] at hj
  have:=h (f+j) v hj
  rw [J0a] at this ⊢
  rw [Nat.add_assoc];exact this
 cases hj
end
section
variable {α:Type} {k:Nat} {enc:α→List Value} {ok:α→Prop}
theorem Rd.got0 {G:Nat→Prop} {w0 w w':World} {L:List Atom} {v:Value} {l:List α} (A:At w L) (hw:w0.heap.size≤w.heap.size) (h:Rd k enc ok (Fsh (V G w0 L) w) w' v l) (m:Mv L w L w'):Rd k enc ok (V G w0 L) w' v l:=
 Rd.got hw h m fun b h1 h2=>by have:=A.lt b h2;omega
theorem Rd.cast {H:Nat→Prop} {w:World} {v:Value} {l l':List α} (h:Rd k enc ok H w v l) (e:l=l'):Rd k enc ok H w v l':=e ▸ h
theorem Mv.cast {L M M':List Atom} {w w':World} (h:Mv L w M w') (e:M=M'):Mv L w M' w':=e ▸ h
theorem Jgg {L:List Atom} {is:List Nat} {H:Nat→Prop} (h:∀ b,H b→¬ fps L b):∀ b,H b→¬ fps (sel L is) b:=fun b hb hs=>h b hb (J2K (fun _ hA=>J2M hA) hs)
theorem J9 {G:Nat→Prop} {w0:World} {L:List Atom} {is:List Nat} : ∀ b,V G w0 L b→¬ fps (sel L is) b:=Jgg fun _ h=>h.2
end
section
variable {P:Program}
theorem J07 {t:TypeId} {d:TypeDesc} {g:Bool} {k:Nat} (h1:P.underlying t=some d) (h2:J7n d=g) (h3:(P.info? t).map (·.size)=some k):TI P t g k:=by
 refine ⟨⟨d,h1,h2⟩,?_⟩
 cases hi:P.info? t with
 | none=>rw [hi] at h3;cases h3
 | some i=>rw [hi] at h3;exact ⟨i,rfl,by simpa using h3⟩
theorem Jo {s:TypeId} {fs:Array Field} {i off:Nat} {f:Field} {k:Nat} (h1:P.underlying s=some (.struct fs)) (h2:fs[i]? = some f) (h3:f.offset=off) (h4:(P.info? f.type).map (·.size)=some (k+1)):FI P s i off:=by
 cases hi:P.info? f.type with
 | none=>rw [hi] at h4;cases h4
 | some inf=>rw [hi] at h4;exact ⟨⟨fs,f,h1,h2,h3,inf,hi,by simp at h4;omega⟩⟩
theorem J2R {t:TypeId} {z:Value} (h:(P.info? t).map (·.zero)=some (some z)):ZI P t z:=by
 cases hi:P.info? t with
 | none=>rw [hi] at h;cases h
 | some inf=>rw [hi] at h;exact ⟨⟨inf,hi,by simpa using h⟩⟩
theorem J2N {t:TypeId} {places:List (Nat × Nat)} {z:List Value} {fs:Array Field} {zv:Value} (h2:P.underlying t=some (.struct fs)) (h1:(P.info? t).map (·.zero)=some (some zv)) (h4:zv.cells=z.toArray)
 (h5:fs.toList.mapM (fun f=>(P.info? f.type).map fun i=>(f.offset,i.size))=some places):BI P t places z:=by
 cases hi:P.info? t with
 | none=>rw [hi] at h1;cases h1
 | some it=>rw [hi] at h1;exact Jip hi h2 (by simpa using h1) h4 h5
variable {o:Oper} {ρ:Operand→Value} {w:World}
theorem J6p {f:Fn} {cs:Array Operand} {us:List Value} (ho:o.op=.makeFunc f #[] cs) (h2:cs.toList.map ρ=us):(execOp ρ o).run P w=.ok (.value (.func f #[] us.toArray)) w:=by
 have:cs.map ρ=us.toArray:=by rw [← h2];apply Array.ext';simp
 simp [execOp,ho,this,Instr.makeFunc]
end
theorem pr2 {i:Nat} {a b:Value} (h:a=b):(i,a)=(i,b):=by rw [h]
theorem JhP {α:Type} {enc:α→List Value} {l:List α} {vs:List Value} (h:vs.map (fun v=>v.cells.toList)=l.map enc):∀ (i:Nat) (x:α) (v:Value),l[i]? = some x→vs[i]? = some v→v.cells.toList=enc x:=by
 intro i x v h1 h2
 have:=congrArg (·[i]?) h
 simp [h1,h2] at this
 exact this
theorem J1c {a b:ByteArray} (h:a.size+b.size≤9223372036854775807):okS (a++b):=by
 unfold okS;rw [ByteArray.size_append];exact h
theorem Jav {a:ByteArray} {i j:Nat} (h:okS a):okS (a.extract i j):=by
 unfold okS at *
 rw [ByteArray.size_extract];omega
theorem J2O {α:Type} {e k:Nat} {enc:α→List Value} {ok:α→Prop} {w:World} {L:List Atom} (A:At w L):Mv L w (ow e k enc ok (.slice none 0 0) ([]:List α)::L) w:=
 ⟨⟨fun B hB=>by
  rcases List.mem_cons.1 hB with rfl|hB
  ·exact J75 _ _ _ _ _
  exact A.ok B hB,
  fun b hb=>by
   rcases J0T.1 hb with hb|hb
   ·cases hb
   exact A.lt b hb,
  .cons (fun B _ b hb=>by cases hb) A.apart⟩,
  fun b hb=>by
   rcases J0T.1 hb with hb|hb
   ·cases hb
   exact .inl hb,Kp.refl _ _⟩
end Go.Proofs.YtipdbeklopjbmaaGreatDoor
