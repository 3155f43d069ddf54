/-
  Texts laid together: Mini, Eng14.
-/
import Derived.Test.YtipdbeklopjbmaaGreatDoorP02
set_option linter.unusedVariables false
set_option linter.unusedSimpArgs false
namespace Go.Proofs.YtipdbeklopjbmaaGreatDoor
open Go.ChangeShapes Go.WideShapes Go.ChangeAt Go.RowKit
theorem zD {p:Prop} (h:p:=by first|omega|(dsimp only;omega)):p:=h
theorem zU {p:Prop} (h:p:=by unfold okS;decide):p:=h
def opd (m:List (Nat × Value)):Operand→Option Value
 | .tmp t=>look m t
 | .const v=>some v
 | .func f=>some (.func (.func f) #[] #[])
 | .global g=>some (.pointer (some ⟨g,0,none⟩))
section
variable {P:Program} {ops:Array Oper} {Q:Exit→Act→World→Prop} {o:Oper} {rest:List Oper} {a:Act} {w:World} {d n:Nat} {m:List (Nat × Value)} {v:Value} {x:Operand}
theorem Fr.g (F:Fr n m a) (h:opd m x=some v):a.eval x=v:=by
 cases x with
 | tmp t=>exact F.ev t h
 | const c=>exact Option.some.inj h
 | func f=>exact Option.some.inj h
 | global g=>exact Option.some.inj h
def wantM (ops:Array Oper) (m:List (Nat × Value)) (o:Oper):Option Bool:=
 match o.guard with
 | none=>some true
 | some (j,want)=>match (ops[j]?).bind (·.dst) with
  | none=>none
  | some t=>match look m t with
   | some (.bool b)=>some (b == want)
   | some (.tuple ⟨[]⟩)=>some false
   | _=>none
theorem wantM_eq (F:Fr n m a) {r:Bool} (h:wantM ops m o=some r):Region.wanted o (yielded ops a.tmps)=r:=by
 unfold wantM at h
 cases hg:o.guard with
 | none=>rw [hg] at h;cases h;simp [Region.wanted,hg]
 | some q=>
  obtain ⟨j,want⟩:=q
  rw [hg] at h
  cases hj:(ops[j]?).bind (·.dst) with
  | none=>simp only [hj] at h;cases h
  | some t=>
   simp only [hj] at h
   split at h
   ·rename_i b hm
    cases h
    exact wanted_g F hg hj hm rfl
   ·rename_i hm
    cases h
    exact wanted_u F hg hj hm
   ·cases h
theorem m_mv (F:Fr n m a) (ho:o.op=.move x) (hw:wantM ops m o=some true) (hx:opd m x=some v) (hd:o.dst=some d) (hp:Nat.blt d n=true)
 (k:∀ a',Fr n ((d,v)::m) a'→wpList P ops Q rest a' w):wpList P ops Q (o::rest) a w:=l_op (f_val F (wantM_eq F hw) hd (r_move ho (F.g hx)) hp k)
theorem m_as (F:Fr n m a) (ho:o.op=.assign x) (hw:wantM ops m o=some true) (hx:opd m x=some v) (hd:o.dst=some d) (hp:Nat.blt d n=true)
 (k:∀ a',Fr n ((d,v)::m) a'→wpList P ops Q rest a' w):wpList P ops Q (o::rest) a w:=l_op (f_val F (wantM_eq F hw) hd (r_assign ho (F.g hx)) hp k)
theorem m_sk (F:Fr n m a) (hw:wantM ops m o=some false) (hd:o.dst=some d) (hp:Nat.blt d n=true)
 (k:∀ a',Fr n ((d,undef)::m) a'→wpList P ops Q rest a' w):wpList P ops Q (o::rest) a w:=l_op (f_skip F (wantM_eq F hw) hd hp k)
theorem m_pk {c y:Operand} {b:Bool} (F:Fr n m a) (ho:o.op=.pick c x y) (hw:wantM ops m o=some true) (hc:opd m c=some (.bool b)) (hx:opd m (cond b x y)=some v) (hd:o.dst=some d) (hp:Nat.blt d n=true)
 (k:∀ a',Fr n ((d,v)::m) a'→wpList P ops Q rest a' w):wpList P ops Q (o::rest) a w:=by
 refine l_op (f_val F (wantM_eq F hw) hd (r_pick (b:=b) ho (F.g hc) ?_) hp k)
 cases b <;> exact F.g hx
theorem wp_ct {Q:Exit→Act→World→Prop} {c:Operand} {x y:Code} (F:Fr n m a) (h:opd m c=some (.bool true)) (k:x.wp P Q a w):(Code.cond c x y).wp P Q a w:=wp_cond_true (F.g h) k
theorem wp_cf {Q:Exit→Act→World→Prop} {c:Operand} {x y:Code} (F:Fr n m a) (h:opd m c=some (.bool false)) (k:y.wp P Q a w):(Code.cond c x y).wp P Q a w:=wp_cond_false (F.g h) k
end
class FIc (P:Program) (s i:Nat) (off:outParam Nat):Prop where
 h:FI P s i off
class UTc (P:Program) (t:Nat) (d:outParam TypeDesc):Prop where
 h:P.underlying t=some d
class CFc (P:Program) (f:Nat):Prop where
 h:CF P f
class TIc (P:Program) (t:Nat) (g:outParam Bool) (k:outParam Nat):Prop where
 h:TI P t g k
class RTc (P:Program) (f:Nat) (fn:outParam Func) (n:outParam Nat):Prop where
 h:P.funcs[f]? = some fn
 n:fn.ntmps=n
section
variable {P:Program} {ops:Array Oper} {Q:Exit→Act→World→Prop} {o:Oper} {rest:List Oper} {a:Act} {w:World} {d n:Nat} {m:List (Nat × Value)} {v:Value} {x y:Operand}
theorem m_ex {i:Nat} {l:List Value} (F:Fr n m a) (ho:o.op=.extract x i) (hw:wantM ops m o=some true) (hx:opd m x=some (.tuple l.toArray)) (hv:nth l i=some v) (hd:o.dst=some d) (hp:Nat.blt d n=true)
 (k:∀ a',Fr n ((d,v)::m) a'→wpList P ops Q rest a' w):wpList P ops Q (o::rest) a w:=l_op (f_val F (wantM_eq F hw) hd (r_extract ho (F.g hx) (by simpa [nth_eq] using hv)) hp k)
theorem m_fa {s i off b c c':Nat} [I:FIc P s i off] (F:Fr n m a) (ho:o.op=.fieldAddr s x i) (hw:wantM ops m o=some true) (hx:opd m x=some (.pointer (some ⟨b,c,none⟩))) (hc:c+off=c') (hd:o.dst=some d) (hp:Nat.blt d n=true)
 (k:∀ a',Fr n ((d,.pointer (some ⟨b,c',none⟩))::m) a'→wpList P ops Q rest a' w):wpList P ops Q (o::rest) a w:=l_op (f_val F (wantM_eq F hw) hd (r_field I.h ho (F.g hx) hc) hp k)
theorem m_ln {e t q c:Nat} {ad:Option Addr} [I:UTc P t (.slice e)] (F:Fr n m a) (ho:o.op=.call { callee:=.builtin .len,args:=#[x],argTypes:=#[t] }) (hw:wantM ops m o=some true) (hx:opd m x=some (.slice ad q c)) (hd:o.dst=some d) (hp:Nat.blt d n=true)
 (k:∀ a',Fr n ((d,.int .i64 (q:Int))::m) a'→wpList P ops Q rest a' w):wpList P ops Q (o::rest) a w:=l_op (f_val F (wantM_eq F hw) hd (r_len I.h ho (F.g hx)) hp k)
theorem m_ls {t:Nat} {s:ByteArray} [I:UTc P t .string] (F:Fr n m a) (ho:o.op=.call { callee:=.builtin .len,args:=#[x],argTypes:=#[t] }) (hw:wantM ops m o=some true) (hx:opd m x=some (.string s)) (hd:o.dst=some d) (hp:Nat.blt d n=true)
 (k:∀ a',Fr n ((d,.int .i64 (s.size:Int))::m) a'→wpList P ops Q rest a' w):wpList P ops Q (o::rest) a w:=l_op (f_val F (wantM_eq F hw) hd (r_lenS (fun t ht=>by cases ht;exact I.h) rfl ho (F.g hx)) hp k)
end
abbrev Rnd {γ:Type} (μ:γ→Nat) (I:γ→Act→World→Prop) (g:γ) (a:Act) (w:World):Prop:=∃ g',μ g' < μ g∧I g' a w
theorem x_lp {P:Program} {Q:Exit→Act→World→Prop} {a:Act} {w:World} {γ:Type} {c:Code} (I:γ→Act→World→Prop) (μ:γ→Nat) (g0:γ) (h0:I g0 a w)
 (round:∀ g a w,I g a w→c.wp P (Exit.then (Rnd μ I g) Q) a w):(Code.loop c).wp P Q a w:=x_loop I μ g0 h0 round
theorem zr {G:Prop} {n:Nat} {m:List (Nat × Value)} {w:World} {K:Act→World→Prop} (k:∀ a,Fr n m a→K a w)
 (h:(∀ a,Fr n m a→K a w)→G:=by
  intro kZ
  repeat (first
   | with_reducible refine wp_seq ?_
   | with_reducible refine wp_region_lit ?_
   | with_reducible refine s_end ?_
   | with_reducible refine x_normal ?_
   | with_reducible refine wp_skip ?_
   | with_reducible refine wp_block ?_
   | with_reducible refine wp_ret ?_
   | with_reducible refine wp_exit ?_
   | with_reducible refine x_then_ret ?_
   | with_reducible refine x_then_exit ?_
   | with_reducible refine x_block_normal ?_
   | with_reducible refine x_block_ret ?_
   | with_reducible refine x_block_here ?_
   | refine x_block_on rfl ?_
   | refine m_mv F rfl rfl rfl rfl rfl fun _ F=>?_
   | refine m_as F rfl rfl rfl rfl rfl fun _ F=>?_
   | refine m_sk F rfl rfl rfl fun _ F=>?_
   | refine m_pk F rfl rfl rfl rfl rfl rfl fun _ F=>?_
   | refine m_ex F rfl rfl rfl rfl rfl rfl fun _ F=>?_
   | refine m_fa F rfl rfl rfl rfl rfl rfl fun _ F=>?_
   | refine m_ln F rfl rfl rfl rfl rfl fun _ F=>?_
   | refine m_ls F rfl rfl rfl rfl rfl fun _ F=>?_
   | refine wp_ct F rfl ?_
   | refine wp_cf F rfl ?_)
  exact kZ _ F):G:=h k
section
variable {P:Program} {ops:Array Oper} {Q:Exit→Act→World→Prop} {K:Act→World→Prop} {o:Oper} {rest:List Oper} {a:Act} {w:World} {d n nk:Nat} {m mk:List (Nat × Value)} {v:Value} {x y:Operand}
theorem zv (F:Fr n m a) (hop:(execOp a.eval o).run P w=.ok (.value v) w) (k:∀ a',Fr nk mk a'→K a' w)
 (hd:o.dst=some d:=by exact rfl) (hw:wantM ops m o=some true:=by exact rfl) (hp:Nat.blt d n=true:=by exact rfl)
 (h:(∀ a',Fr nk mk a'→K a' w)→∀ a',Fr n ((d,v)::m) a'→wpList P ops Q rest a' w:=by intro kZ _ F;exact zr kZ):wpList P ops Q (o::rest) a w:=
 l_op (f_val F (wantM_eq F hw) hd hop hp (h k))
def isCmp:BinOp→Bool
 | .eql | .neq | .lss | .leq | .gtr | .geq=>true
 | _=>false
theorem isCmp_or {op:BinOp} (h:isCmp op=true):op=.eql∨op=.neq∨op=.lss∨op=.leq∨op=.gtr∨op=.geq:=by
 cases op <;> first|exact .inl rfl|exact .inr (.inl rfl)|exact .inr (.inr (.inl rfl))|exact .inr (.inr (.inr (.inl rfl)))|exact .inr (.inr (.inr (.inr (.inl rfl))))|exact .inr (.inr (.inr (.inr (.inr rfl))))|cases h
theorem zc {kd:IntKind} {op:BinOp} {i j:Int} {t u:TypeId} (F:Fr n m a) (p:Prop) [Decidable p] (k:∀ a',Fr nk mk a'→K a' w)
 (ho:o.op=.binOp op t x y u:=by exact rfl) (hx:opd m x=some (.int kd i):=by exact rfl) (hy:opd m y=some (.int kd j):=by exact rfl) (hc:isCmp op=true:=by exact rfl) (hb:cmpI op i j=decide p:=by exact dec_of (by omega))
 (hd:o.dst=some d:=by exact rfl) (hw:wantM ops m o=some true:=by exact rfl) (hp:Nat.blt d n=true:=by exact rfl)
 (h:(∀ a',Fr nk mk a'→K a' w)→∀ a',Fr n ((d,.bool (decide p))::m) a'→wpList P ops Q rest a' w:=by intro kZ _ F;exact zr kZ):wpList P ops Q (o::rest) a w:=
 l_op (f_val F (wantM_eq F hw) hd (r_cmp (isCmp_or hc) ho (F.g hx) (F.g hy) hb) hp (h k))
def ari:BinOp→Int→Int→Option Int
 | .add,i,j=>some (i+j)
 | .sub,i,j=>some (i - j)
 | .mul,i,j=>some (i * j)
 | _,_,_=>none
theorem r_ari {op:BinOp} {i j z:Int} {ρ:Operand→Value} {t u:TypeId} (ho:o.op=.binOp op t x y u) (hx:ρ x=.int .i64 i) (hy:ρ y=.int .i64 j) (hz:ari op i j=some z) (hb:i64ok z):(execOp ρ o).run P w=.ok (.value (.int .i64 z)) w:=by
 cases op <;> first|exact r_add ho hx hy (Option.some.inj hz) hb|exact r_sub ho hx hy (Option.some.inj hz) hb|exact r_mul ho hx hy (Option.some.inj hz) hb|cases hz
theorem zq {op:BinOp} {i j:Int} {t u:TypeId} (F:Fr n m a) (z:Int) (k:∀ a',Fr nk mk a'→K a' w)
 (ho:o.op=.binOp op t x y u:=by exact rfl) (hx:opd m x=some (.int .i64 i):=by exact rfl) (hy:opd m y=some (.int .i64 j):=by exact rfl) (hz:ari op i j=some z:=by exact congrArg some (by first|rfl|omega))
 (hb:i64ok z:=by exact ⟨by first|omega|(unfold i64ok at *;omega),by first|omega|(unfold i64ok at *;omega)⟩)
 (hd:o.dst=some d:=by exact rfl) (hw:wantM ops m o=some true:=by exact rfl) (hp:Nat.blt d n=true:=by exact rfl)
 (h:(∀ a',Fr nk mk a'→K a' w)→∀ a',Fr n ((d,.int .i64 z)::m) a'→wpList P ops Q rest a' w:=by intro kZ _ F;exact zr kZ):wpList P ops Q (o::rest) a w:=
 l_op (f_val F (wantM_eq F hw) hd (r_ari ho (F.g hx) (F.g hy) hz hb) hp (h k))
theorem zl {t:TypeId} {g:Bool} {b off:Nat} {cs:List Value} {L:List Atom} {T:TypeId} [I:TIc P t g 1] (F:Fr n m a) (hA:At w L) (i:Nat) (k:∀ a',Fr nk mk a'→K a' w)
 (hL:nth L i=some (bx b cs T):=by exact rfl) (ho:o.op=.load t x:=by exact rfl) (hx:opd m x=some (.pointer (some ⟨b,off,none⟩)):=by exact rfl) (hv:nth cs off=some v:=by exact rfl) (hg:g=false:=by exact rfl)
 (hd:o.dst=some d:=by exact rfl) (hw:wantM ops m o=some true:=by exact rfl) (hp:Nat.blt d n=true:=by exact rfl)
 (h:(∀ a',Fr nk mk a'→K a' w)→∀ a',Fr n ((d,v)::m) a'→wpList P ops Q rest a' w:=by intro kZ _ F;exact zr kZ):wpList P ops Q (o::rest) a w:=by
 subst hg
 have e:(cs.drop off).take 1=[v]:=by
  have h1:cs[off]? = some v:=by rw [← nth_eq];exact hv
  obtain ⟨h2,h3⟩:=List.getElem?_eq_some_iff.1 h1
  rw [List.drop_eq_getElem_cons h2,h3];rfl
 exact l_op (f_val F (wantM_eq F hw) hd (r_loadB hA i I.h hL ho (F.g hx) e rfl (fun _=>rfl) rfl) hp (h k))
theorem zw {t:TypeId} {q b:Nat} {cs:List Value} {L:List Atom} {T:TypeId} [I:TIc P t true q] (F:Fr n m a) (hA:At w L) (i:Nat) (k:∀ a',Fr nk mk a'→K a' w)
 (hL:nth L i=some (bx b cs T):=by exact rfl) (ho:o.op=.load t x:=by exact rfl) (hx:opd m x=some (.pointer (some ⟨b,0,none⟩)):=by exact rfl) (hv:cs.length=q:=by exact rfl)
 (hd:o.dst=some d:=by exact rfl) (hw:wantM ops m o=some true:=by exact rfl) (hp:Nat.blt d n=true:=by exact rfl)
 (h:(∀ a',Fr nk mk a'→K a' w)→∀ a',Fr n ((d,.agg cs.toArray)::m) a'→wpList P ops Q rest a' w:=by intro kZ _ F;exact zr kZ):wpList P ops Q (o::rest) a w:=by
 exact l_op (f_val F (wantM_eq F hw) hd (r_loadB (vs:=cs) hA i I.h hL ho (F.g hx) (by rw [← hv];simp) hv (fun h=>nomatch h) rfl) hp (h k))
theorem zi {c:Operand} {x y:Code} {p:Prop} [Decidable p] (F:Fr n m a) (h1:p→x.wp P Q a w) (h2:¬ p→y.wp P Q a w) (hc:opd m c=some (.bool (decide p)):=by exact rfl):(Code.cond c x y).wp P Q a w:=x_cond (F.g hc) h1 h2
theorem zib {c:Operand} {x y:Code} {b:Bool} (F:Fr n m a) (h1:b=true→x.wp P Q a w) (h2:b=false→y.wp P Q a w) (hc:opd m c=some (.bool b):=by exact rfl):(Code.cond c x y).wp P Q a w:=x_condb (F.g hc) h1 h2
theorem zz {f:Nat} {xs:Array Operand} {ats:Array TypeId} {vs:List Value} {R:Ending→World→Prop} [I:CFc P f] (F:Fr n m a) (hc:Calls P f vs.toArray w R)
 (k:∀ e w',R e w'→∃ v,e=.returned v∧∀ a',Fr n ((d,v)::m) a'→wpList P ops Q rest a' w')
 (ho:o.op=.call { callee:=.value (.func f),args:=xs,argTypes:=ats }:=by exact rfl)
 (hx:xs.toList.map a.eval=vs:=by (repeat (first|refine lc (F.g rfl) ?_|refine lc rfl ?_));exact rfl)
 (hd:o.dst=some d:=by exact rfl) (hw:wantM ops m o=some true:=by exact rfl) (hp:Nat.blt d n=true:=by exact rfl):wpList P ops Q (o::rest) a w:=
 l_op (f_call F I.h (wantM_eq F hw) hd ho hp hx hc k)
theorem zt {v:Value} (k:∀ a',Fr nk mk a'→K a' w)
 (h:(∀ a',Fr nk mk a'→K a' w)→∀ a',Fr n ((d,v)::m) a'→wpList P ops Q rest a' w:=by intro kZ _ F;exact zr kZ):∃ v',Ending.returned v=.returned v'∧∀ a',Fr n ((d,v')::m) a'→wpList P ops Q rest a' w:=⟨_,rfl,h k⟩
theorem ze {f:Nat} {fn:Func} {c:Code} {args:List Value} {R:Ending→World→Prop} [I:RTc P f fn n] (k:∀ a',Fr nk mk a'→K a' w)
 (hb:fn.body=some c:=by exact rfl) (hl:Nat.ble args.length n=true:=by exact rfl)
 (h:(∀ a',Fr nk mk a'→K a' w)→∀ a',Fr n (seqArgs 0 args) a'→c.wp P (bodyPost P fn R) a' w:=by intro kZ _ F;exact zr kZ):Calls P f args.toArray w R:=
 calls_enter n I.h hb I.n (Nat.le_of_ble_eq_true hl) (h k)
theorem zta {s:Nat} (F:Fr n m a) (h:look m s=some v:=by exact rfl):ResIs P a w (.tmp s) v:=.tmp (F.ev s h)
theorem zca {s T q b:Nat} {cs:List Value} {L:List Atom} {T':TypeId} [I:TIc P T true q] (F:Fr n m a) (hA:At w L) (i:Nat) (h:look m s=some (.pointer (some ⟨b,0,none⟩)):=by exact rfl) (hL:nth L i=some (bx b cs T'):=by exact rfl) (hq:cs.length=q:=by exact rfl):ResIs P a w (.cell s T) (.agg cs.toArray):=
 .cell (F.ev s h) (run_loadVar' I.h _ cs hq (fun h=>nomatch h) (At.cells hA i hL 0 cs (by simp)))
end
theorem zV1 {v v':Value} (h:v=v'):Ending.returned v=.returned v':=by rw [h]
theorem zVt {l l':List Value} (h:l=l'):Value.tuple l.toArray=.tuple l'.toArray:=by rw [h]
theorem zVi {k:IntKind} {i j:Int} (h:i=j):Value.int k i=.int k j:=by rw [h]
theorem zVb {i j:Bool} (h:i=j):Value.bool i=.bool j:=by rw [h]
theorem zVs {i j:ByteArray} (h:i=j):Value.string i=.string j:=by rw [h]
theorem zOw {α:Type} {e k:Nat} {enc:α→List Value} {ok:α→Prop} {v:Value} {l l':List α} (h:l=l'):ow e k enc ok v l=ow e k enc ok v l':=by rw [h]
theorem zOk {i j:ByteArray} (h:i=j) (k:okS i):okS j:=h ▸ k
theorem zN {H:Nat→Prop} : ∀ b,H b→¬ fps [] b:=fun _ _=>fps_nil _
structure CsH where
 d:List CellD
 a0:Option Addr
 n0:Nat
 c0:Nat
end Go.Proofs.YtipdbeklopjbmaaGreatDoor
