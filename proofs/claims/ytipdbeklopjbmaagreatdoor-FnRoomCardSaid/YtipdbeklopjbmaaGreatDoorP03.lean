/-
  Texts laid together: Mini, Eng9.
-/
import Derived.Test.YtipdbeklopjbmaaGreatDoorEng8
set_option linter.unusedVariables false
set_option linter.unusedSimpArgs false
namespace Go.Proofs.YtipdbeklopjbmaaGreatDoor
open Go.ChangeShapes Go.WideShapes Go.ChangeAt Go.RowKit
section
variable {L0 L1 L2 L3 L4 L5 L6 L7 L8 L9 L10 L11 L12:List Atom} {w0 w1 w2 w3 w4 w5 w6 w7 w8 w9 w10 w11 w12:World}
theorem tc3 (a0:Mv L0 w0 L1 w1)(a1:Mv L1 w1 L2 w2)(a2:Mv L2 w2 L3 w3):Mv L0 w0 L3 w3:=a0.trans (a1.trans a2)
theorem tc4 (a0:Mv L0 w0 L1 w1)(a1:Mv L1 w1 L2 w2)(a2:Mv L2 w2 L3 w3)(a3:Mv L3 w3 L4 w4):Mv L0 w0 L4 w4:=a0.trans (tc3 a1 a2 a3)
theorem tc5 (a0:Mv L0 w0 L1 w1)(a1:Mv L1 w1 L2 w2)(a2:Mv L2 w2 L3 w3)(a3:Mv L3 w3 L4 w4)(a4:Mv L4 w4 L5 w5):Mv L0 w0 L5 w5:=a0.trans (tc4 a1 a2 a3 a4)
theorem tc6 (a0:Mv L0 w0 L1 w1)(a1:Mv L1 w1 L2 w2)(a2:Mv L2 w2 L3 w3)(a3:Mv L3 w3 L4 w4)(a4:Mv L4 w4 L5 w5)(a5:Mv L5 w5 L6 w6):Mv L0 w0 L6 w6:=a0.trans (tc5 a1 a2 a3 a4 a5)
theorem tc7 (a0:Mv L0 w0 L1 w1)(a1:Mv L1 w1 L2 w2)(a2:Mv L2 w2 L3 w3)(a3:Mv L3 w3 L4 w4)(a4:Mv L4 w4 L5 w5)(a5:Mv L5 w5 L6 w6)(a6:Mv L6 w6 L7 w7):Mv L0 w0 L7 w7:=a0.trans (tc6 a1 a2 a3 a4 a5 a6)
theorem tc8 (a0:Mv L0 w0 L1 w1)(a1:Mv L1 w1 L2 w2)(a2:Mv L2 w2 L3 w3)(a3:Mv L3 w3 L4 w4)(a4:Mv L4 w4 L5 w5)(a5:Mv L5 w5 L6 w6)(a6:Mv L6 w6 L7 w7)(a7:Mv L7 w7 L8 w8):Mv L0 w0 L8 w8:=a0.trans (tc7 a1 a2 a3 a4 a5 a6 a7)
theorem tc9 (a0:Mv L0 w0 L1 w1)(a1:Mv L1 w1 L2 w2)(a2:Mv L2 w2 L3 w3)(a3:Mv L3 w3 L4 w4)(a4:Mv L4 w4 L5 w5)(a5:Mv L5 w5 L6 w6)(a6:Mv L6 w6 L7 w7)(a7:Mv L7 w7 L8 w8)(a8:Mv L8 w8 L9 w9):Mv L0 w0 L9 w9:=a0.trans (tc8 a1 a2 a3 a4 a5 a6 a7 a8)
theorem J0X (a0:Mv L0 w0 L1 w1)(a1:Mv L1 w1 L2 w2)(a2:Mv L2 w2 L3 w3)(a3:Mv L3 w3 L4 w4)(a4:Mv L4 w4 L5 w5)(a5:Mv L5 w5 L6 w6)(a6:Mv L6 w6 L7 w7)(a7:Mv L7 w7 L8 w8)(a8:Mv L8 w8 L9 w9)(a9:Mv L9 w9 L10 w10):Mv L0 w0 L10 w10:=a0.trans (tc9 a1 a2 a3 a4 a5 a6 a7 a8 a9)
theorem J2C (a0:Mv L0 w0 L1 w1)(a1:Mv L1 w1 L2 w2)(a2:Mv L2 w2 L3 w3)(a3:Mv L3 w3 L4 w4)(a4:Mv L4 w4 L5 w5)(a5:Mv L5 w5 L6 w6)(a6:Mv L6 w6 L7 w7)(a7:Mv L7 w7 L8 w8)(a8:Mv L8 w8 L9 w9)(a9:Mv L9 w9 L10 w10)(a10:Mv L10 w10 L11 w11):Mv L0 w0 L11 w11:=a0.trans (J0X a1 a2 a3 a4 a5 a6 a7 a8 a9 a10)
theorem JE (a0:Mv L0 w0 L1 w1)(a1:Mv L1 w1 L2 w2)(a2:Mv L2 w2 L3 w3)(a3:Mv L3 w3 L4 w4)(a4:Mv L4 w4 L5 w5)(a5:Mv L5 w5 L6 w6)(a6:Mv L6 w6 L7 w7)(a7:Mv L7 w7 L8 w8)(a8:Mv L8 w8 L9 w9)(a9:Mv L9 w9 L10 w10)(a10:Mv L10 w10 L11 w11)(a11:Mv L11 w11 L12 w12):Mv L0 w0 L12 w12:=a0.trans (J2C a1 a2 a3 a4 a5 a6 a7 a8 a9 a10 a11)
end
theorem zD {p:Prop} (h:p:=by first|omega|(dsimp only;omega)):p:=h
theorem zU {p:Prop} (h:p:=by unfold okS;decide):p:=h
def opd (m:List (Nat × Value)):Operand→Option Value
 | .tmp t=>look m t
 | .const v=>some v
 | .func f=>some (.func (.func f) #[] #[])
 | .global g=>some (.pointer (some ⟨g,0,none⟩))
section
variable {P:Program} {ops:Array Oper} {Q:Exit→Act→World→Prop} {o:Oper} {rest:List Oper} {a:Act} {w:World} {d n:Nat} {m:List (Nat × Value)} {v:Value} {x:Operand}
theorem Fr.g (F:Fr n m a) (h:opd m x=some v):a.eval x=v:=by
 cases x with
 | tmp t=>exact F.ev t h
 | const c=>exact Option.some.inj h
 | func f=>exact Option.some.inj h
 | global g=>exact Option.some.inj h
def J8 (ops:Array Oper) (m:List (Nat × Value)) (o:Oper):Option Bool:=
 match o.guard with
 | none=>some true
 | some (j,want)=>match (ops[j]?).bind (·.dst) with
  | none=>none
  | some t=>match look m t with
   | some (.bool b)=>some (b == want)
   | some (.tuple ⟨[]⟩)=>some false
   | _=>none
theorem Jk (F:Fr n m a) {r:Bool} (h:J8 ops m o=some r):Region.wanted o (yielded ops a.tmps)=r:=by
 unfold J8 at h
 cases hg:o.guard with
 | none=>rw [hg] at h;cases h;simp [Region.wanted,hg]
 | some q=>
  obtain ⟨j,want⟩:=q
  rw [hg] at h
  cases hj:(ops[j]?).bind (·.dst) with
  | none=>simp only [hj] at h;cases h
  | some t=>
   simp only [hj] at h
   split at h
   ·rename_i b hm
    cases h
    exact J3z F hg hj hm rfl
   ·rename_i hm
    cases h
    exact Jg5 F hg hj hm
   cases h
theorem JbM (F:Fr n m a) (ho:o.op=.move x) (hw:J8 ops m o=some true) (hx:opd m x=some v) (hd:o.dst=some d) (hp:Nat.blt d n=true)
 (k:∀ a',Fr n ((d,v)::m) a'→wpList P ops Q rest a' w):wpList P ops Q (o::rest) a w:=J0 (Jf F (Jk F hw) hd (J5B ho (F.g hx)) hp k)
theorem JbK (F:Fr n m a) (ho:o.op=.assign x) (hw:J8 ops m o=some true) (hx:opd m x=some v) (hd:o.dst=some d) (hp:Nat.blt d n=true)
 (k:∀ a',Fr n ((d,v)::m) a'→wpList P ops Q rest a' w):wpList P ops Q (o::rest) a w:=J0 (Jf F (Jk F hw) hd (J9X ho (F.g hx)) hp k)
theorem J7U (F:Fr n m a) (hw:J8 ops m o=some false) (hd:o.dst=some d) (hp:Nat.blt d n=true)
 (k:∀ a',Fr n ((d,undef)::m) a'→wpList P ops Q rest a' w):wpList P ops Q (o::rest) a w:=J0 (J7k F (Jk F hw) hd hp k)
theorem JbN {c y:Operand} {b:Bool} (F:Fr n m a) (ho:o.op=.pick c x y) (hw:J8 ops m o=some true) (hc:opd m c=some (.bool b)) (hx:opd m (cond b x y)=some v) (hd:o.dst=some d) (hp:Nat.blt d n=true)
 (k:∀ a',Fr n ((d,v)::m) a'→wpList P ops Q rest a' w):wpList P ops Q (o::rest) a w:=by
 refine J0 (Jf F (Jk F hw) hd (J7t (b:=b) ho (F.g hc) ?_) hp k)
 cases b <;> exact F.g hx
theorem J7N {Q:Exit→Act→World→Prop} {c:Operand} {x y:Code} (F:Fr n m a) (h:opd m c=some (.bool true)) (k:x.wp P Q a w):(Code.cond c x y).wp P Q a w:=wp_cond_true (F.g h) k
theorem J7M {Q:Exit→Act→World→Prop} {c:Operand} {x y:Code} (F:Fr n m a) (h:opd m c=some (.bool false)) (k:y.wp P Q a w):(Code.cond c x y).wp P Q a w:=wp_cond_false (F.g h) k
end
class FIc (P:Program) (s i:Nat) (off:outParam Nat):Prop where
 h:FI P s i off
class UTc (P:Program) (t:Nat) (d:outParam TypeDesc):Prop where
 h:P.underlying t=some d
class CFc (P:Program) (f:Nat):Prop where
 h:CF P f
theorem cfc {P:Program} {f:Nat} {fn:Func} {c:Code} (h:P.funcs[f]? = some fn) (hb:fn.body=some c:=by exact rfl) (hn:(fn.name == "runtime.NumGoroutine")=false:=by kernel_rfl):CFc P f:=⟨⟨_,_,h,hb,hn⟩⟩
class TIc (P:Program) (t:Nat) (g:outParam Bool) (k:outParam Nat):Prop where
 h:TI P t g k
class RTc (P:Program) (f:Nat) (fn:outParam Func) (n:outParam Nat):Prop where
 h:P.funcs[f]? = some fn
 n:fn.ntmps=n
 b:CF P f
theorem rtc {P:Program} {f:Nat} {fn:Func} {n:Nat} {c:Code} (h:P.funcs[f]? = some fn) (hn:fn.ntmps=n) (hb:fn.body=some c:=by exact rfl) (hs:(fn.name == "runtime.NumGoroutine")=false:=by kernel_rfl):RTc P f fn n:=⟨h,hn,⟨_,_,h,hb,hs⟩⟩
instance {P:Program} {f:Nat} {fn:Func} {n:Nat} [I:RTc P f fn n]:CFc P f:=⟨I.b⟩
section
variable {P:Program} {ops:Array Oper} {Q:Exit→Act→World→Prop} {o:Oper} {rest:List Oper} {a:Act} {w:World} {d n:Nat} {m:List (Nat × Value)} {v:Value} {x y:Operand}
theorem JbL {i:Nat} {l:List Value} (F:Fr n m a) (ho:o.op=.extract x i) (hw:J8 ops m o=some true) (hx:opd m x=some (.tuple l.toArray)) (hv:nth l i=some v) (hd:o.dst=some d) (hp:Nat.blt d n=true)
 (k:∀ a',Fr n ((d,v)::m) a'→wpList P ops Q rest a' w):wpList P ops Q (o::rest) a w:=J0 (Jf F (Jk F hw) hd (J9n ho (F.g hx) (by simpa [JO] using hv)) hp k)
theorem J7R {s i off b c c':Nat} [I:FIc P s i off] (F:Fr n m a) (ho:o.op=.fieldAddr s x i) (hw:J8 ops m o=some true) (hx:opd m x=some (.pointer (some ⟨b,c,none⟩))) (hc:c+off=c') (hd:o.dst=some d) (hp:Nat.blt d n=true)
 (k:∀ a',Fr n ((d,.pointer (some ⟨b,c',none⟩))::m) a'→wpList P ops Q rest a' w):wpList P ops Q (o::rest) a w:=J0 (Jf F (Jk F hw) hd (J13 I.h ho (F.g hx) hc) hp k)
theorem J7S {e t q c:Nat} {ad:Option Addr} [I:UTc P t (.slice e)] (F:Fr n m a) (ho:o.op=.call { callee:=.builtin .len,args:=#[x],argTypes:=#[t] }) (hw:J8 ops m o=some true) (hx:opd m x=some (.slice ad q c)) (hd:o.dst=some d) (hp:Nat.blt d n=true)
 (k:∀ a',Fr n ((d,.int .i64 (q:Int))::m) a'→wpList P ops Q rest a' w):wpList P ops Q (o::rest) a w:=J0 (Jf F (Jk F hw) hd (J4f I.h ho (F.g hx)) hp k)
theorem J7T {t:Nat} {s:ByteArray} [I:UTc P t .string] (F:Fr n m a) (ho:o.op=.call { callee:=.builtin .len,args:=#[x],argTypes:=#[t] }) (hw:J8 ops m o=some true) (hx:opd m x=some (.string s)) (hd:o.dst=some d) (hp:Nat.blt d n=true)
 (k:∀ a',Fr n ((d,.int .i64 (s.size:Int))::m) a'→wpList P ops Q rest a' w):wpList P ops Q (o::rest) a w:=J0 (Jf F (Jk F hw) hd (Jb2 (fun t ht=>by cases ht;exact I.h) rfl ho (F.g hx)) hp k)
end
abbrev Rnd {γ:Type} (μ:γ→Nat) (I:γ→Act→World→Prop) (g:γ) (a:Act) (w:World):Prop:=∃ g',μ g' < μ g∧I g' a w
theorem x_lp {P:Program} {Q:Exit→Act→World→Prop} {a:Act} {w:World} {γ:Type} {c:Code} (I:γ→Act→World→Prop) (μ:γ→Nat) (g0:γ) (h0:I g0 a w)
 (round:∀ g a w,I g a w→c.wp P (Exit.then (Rnd μ I g) Q) a w):(Code.loop c).wp P Q a w:=J5D I μ g0 h0 round
theorem JH {P:Program} {Q:Exit→Act→World→Prop} {a:Act} {w:World} {γ:Type} {c:Code} {L:List Atom} (_:At w L) (I:List Atom→γ→Act→World→Prop) (μ:γ→Nat) (g0:γ) (h0:I L g0 a w)
 (round:∀ g a w,I L g a w→c.wp P (Exit.then (Rnd μ (I L) g) Q) a w):(Code.loop c).wp P Q a w:=J5D (I L) μ g0 h0 round
theorem JR {P:Program} {ops:Array Oper} {Q:Exit→Act→World→Prop} {S:World→Prop} {n:Nat} {listed:Array Bool} {a:Act} {w w0:World} {L:List Atom} (_:At w0 L) (I:List Atom→Act→World→Prop) (listed1:Array Bool) (f1:Nat) (h1:∀ a w,I L a w→wpAnyH P .any ops Q S f1 listed1 a w)
 (k:(∀ a w,I L a w→wpAnyH P .any ops Q S f1 listed1 a w)→wpAnyH P .any ops Q S n listed a w):wpAnyH P .any ops Q S n listed a w:=k h1
theorem J5v {P:Program} {ops:Array Oper} {Q:Exit→Act→World→Prop} {listed:Array Bool} {a:Act} {w:World} {id:Nat} {L:List Atom} (A:At w L) (C:List Atom→Act→World→Prop) (is:List Nat) (hl:Array.replicate ops.size false=listed)
 (h:∀ w',Mv L w L w'→wpAnyH P .any ops (Exit.then (C L) fun _ _ _=>False) (Sd (sel L is) L w') ops.size listed a w') (k:∀ a w,C L a w→Q .normal a w) (hm:P.follows .mixedOrders=true:=by exact mixed):(Code.region id ops true).wp P Q a w:=Ji9 (C L) (sel L is) hm A hl h is rfl k
theorem zr {G:Prop} {n:Nat} {m:List (Nat × Value)} {w:World} {K:Act→World→Prop} (k:∀ a,Fr n m a→K a w)
 (h:(∀ a,Fr n m a→K a w)→G:=by
  intro kZ
  repeat (first
   | with_reducible refine wp_seq ?_
   | with_reducible refine wp_region_lit ?_
   | with_reducible refine J7J ?_
   | with_reducible refine J3A ?_
   | with_reducible refine wp_skip ?_
   | with_reducible refine wp_block ?_
   | with_reducible refine wp_ret ?_
   | with_reducible refine wp_exit ?_
   | with_reducible refine J6E ?_
   | with_reducible refine J6r ?_
   | with_reducible refine J67 ?_
   | with_reducible refine J6q ?_
   | with_reducible refine J6k ?_
   | refine x_block_on rfl ?_
   | refine JbM F rfl rfl rfl rfl rfl fun _ F=>?_
   | refine JbK F rfl rfl rfl rfl rfl fun _ F=>?_
   | refine J7U F rfl rfl rfl fun _ F=>?_
   | refine JbN F rfl rfl rfl rfl rfl rfl fun _ F=>?_
   | refine JbL F rfl rfl rfl rfl rfl rfl fun _ F=>?_
   | refine J7R F rfl rfl rfl rfl rfl rfl fun _ F=>?_
   | refine J7S F rfl rfl rfl rfl rfl fun _ F=>?_
   | refine J7T F rfl rfl rfl rfl rfl fun _ F=>?_
   | refine J7N F rfl ?_
   | refine J7M F rfl ?_)
  exact kZ _ F):G:=h k
section
variable {P:Program} {ops:Array Oper} {Q:Exit→Act→World→Prop} {K:Act→World→Prop} {o:Oper} {rest:List Oper} {a:Act} {w:World} {d n nk:Nat} {m mk:List (Nat × Value)} {v:Value} {x y:Operand}
theorem zv (F:Fr n m a) (hop:(execOp a.eval o).run P w=.ok (.value v) w) (k:∀ a',Fr nk mk a'→K a' w)
 (hd:o.dst=some d:=by exact rfl) (hw:J8 ops m o=some true:=by exact rfl) (hp:Nat.blt d n=true:=by exact rfl)
 (h:(∀ a',Fr nk mk a'→K a' w)→∀ a',Fr n ((d,v)::m) a'→wpList P ops Q rest a' w:=by intro kZ _ F;exact zr kZ):wpList P ops Q (o::rest) a w:=
 J0 (Jf F (Jk F hw) hd hop hp (h k))
def J7H:BinOp→Bool
 | .eql | .neq | .lss | .leq | .gtr | .geq=>true
 | _=>false
theorem J5k {op:BinOp} (h:J7H op=true):op=.eql∨op=.neq∨op=.lss∨op=.leq∨op=.gtr∨op=.geq:=by
 cases op <;> first|exact .inl rfl|exact .inr (.inl rfl)|exact .inr (.inr (.inl rfl))|exact .inr (.inr (.inr (.inl rfl)))|exact .inr (.inr (.inr (.inr (.inl rfl))))|exact .inr (.inr (.inr (.inr (.inr rfl))))|cases h
theorem zc {kd:IntKind} {op:BinOp} {i j:Int} {t u:TypeId} (F:Fr n m a) (p:Prop) [Decidable p] (k:∀ a',Fr nk mk a'→K a' w)
 (ho:o.op=.binOp op t x y u:=by exact rfl) (hx:opd m x=some (.int kd i):=by exact rfl) (hy:opd m y=some (.int kd j):=by exact rfl) (hc:J7H op=true:=by exact rfl) (hb:J4g op i j=decide p:=by exact J1V (by omega))
 (hd:o.dst=some d:=by exact rfl) (hw:J8 ops m o=some true:=by exact rfl) (hp:Nat.blt d n=true:=by exact rfl)
 (h:(∀ a',Fr nk mk a'→K a' w)→∀ a',Fr n ((d,.bool (decide p))::m) a'→wpList P ops Q rest a' w:=by intro kZ _ F;exact zr kZ):wpList P ops Q (o::rest) a w:=
 J0 (Jf F (Jk F hw) hd (J3H (J5k hc) ho (F.g hx) (F.g hy) hb) hp (h k))
def ari:BinOp→Int→Int→Option Int
 | .add,i,j=>some (i+j)
 | .sub,i,j=>some (i - j)
 | .mul,i,j=>some (i * j)
 | _,_,_=>none
theorem Jbq {op:BinOp} {i j z:Int} {ρ:Operand→Value} {t u:TypeId} (ho:o.op=.binOp op t x y u) (hx:ρ x=.int .i64 i) (hy:ρ y=.int .i64 j) (hz:ari op i j=some z) (hb:J1 z):(execOp ρ o).run P w=.ok (.value (.int .i64 z)) w:=by
 cases op <;> first|exact J4e ho hx hy (Option.some.inj hz) hb|exact J7I ho hx hy (Option.some.inj hz) hb|exact Jbr ho hx hy (Option.some.inj hz) hb|cases hz
theorem zq {op:BinOp} {i j:Int} {t u:TypeId} (F:Fr n m a) (z:Int) (k:∀ a',Fr nk mk a'→K a' w)
 (ho:o.op=.binOp op t x y u:=by exact rfl) (hx:opd m x=some (.int .i64 i):=by exact rfl) (hy:opd m y=some (.int .i64 j):=by exact rfl) (hz:ari op i j=some z:=by exact congrArg some (by first|rfl|omega))
 (hb:J1 z:=by exact ⟨by first|omega|(unfold J1 at *;omega),by first|omega|(unfold J1 at *;omega)⟩)
 (hd:o.dst=some d:=by exact rfl) (hw:J8 ops m o=some true:=by exact rfl) (hp:Nat.blt d n=true:=by exact rfl)
 (h:(∀ a',Fr nk mk a'→K a' w)→∀ a',Fr n ((d,.int .i64 z)::m) a'→wpList P ops Q rest a' w:=by intro kZ _ F;exact zr kZ):wpList P ops Q (o::rest) a w:=
 J0 (Jf F (Jk F hw) hd (Jbq ho (F.g hx) (F.g hy) hz hb) hp (h k))
theorem zl {t:TypeId} {g:Bool} {b off:Nat} {cs:List Value} {L:List Atom} {T:TypeId} [I:TIc P t g 1] (F:Fr n m a) (hA:At w L) (i:Nat) (k:∀ a',Fr nk mk a'→K a' w)
 (hL:nth L i=some (bx b cs T):=by exact rfl) (ho:o.op=.load t x:=by exact rfl) (hx:opd m x=some (.pointer (some ⟨b,off,none⟩)):=by exact rfl) (hv:nth cs off=some v:=by exact rfl) (hg:g=false:=by exact rfl)
 (hd:o.dst=some d:=by exact rfl) (hw:J8 ops m o=some true:=by exact rfl) (hp:Nat.blt d n=true:=by exact rfl)
 (h:(∀ a',Fr nk mk a'→K a' w)→∀ a',Fr n ((d,v)::m) a'→wpList P ops Q rest a' w:=by intro kZ _ F;exact zr kZ):wpList P ops Q (o::rest) a w:=by
 subst hg
 have e:(cs.drop off).take 1=[v]:=by
  have h1:cs[off]? = some v:=by rw [← JO];exact hv
  obtain ⟨h2,h3⟩:=List.getElem?_eq_some_iff.1 h1
  rw [List.drop_eq_getElem_cons h2,h3];rfl
 exact J0 (Jf F (Jk F hw) hd (JZ hA i I.h hL ho (F.g hx) e rfl (fun _=>rfl) rfl) hp (h k))
theorem zw {t:TypeId} {q b:Nat} {cs:List Value} {L:List Atom} {T:TypeId} [I:TIc P t true q] (F:Fr n m a) (hA:At w L) (i:Nat) (k:∀ a',Fr nk mk a'→K a' w)
 (hL:nth L i=some (bx b cs T):=by exact rfl) (ho:o.op=.load t x:=by exact rfl) (hx:opd m x=some (.pointer (some ⟨b,0,none⟩)):=by exact rfl) (hv:cs.length=q:=by exact rfl)
 (hd:o.dst=some d:=by exact rfl) (hw:J8 ops m o=some true:=by exact rfl) (hp:Nat.blt d n=true:=by exact rfl)
 (h:(∀ a',Fr nk mk a'→K a' w)→∀ a',Fr n ((d,.agg cs.toArray)::m) a'→wpList P ops Q rest a' w:=by intro kZ _ F;exact zr kZ):wpList P ops Q (o::rest) a w:=by
 exact J0 (Jf F (Jk F hw) hd (JZ (vs:=cs) hA i I.h hL ho (F.g hx) (by rw [← hv];simp) hv (fun h=>nomatch h) rfl) hp (h k))
theorem zi {c:Operand} {x y:Code} {p:Prop} [Decidable p] (F:Fr n m a) (h1:p→x.wp P Q a w) (h2:¬ p→y.wp P Q a w) (hc:opd m c=some (.bool (decide p)):=by exact rfl):(Code.cond c x y).wp P Q a w:=Ji8 (F.g hc) h1 h2
theorem zib {c:Operand} {x y:Code} {b:Bool} (F:Fr n m a) (h1:b=true→x.wp P Q a w) (h2:b=false→y.wp P Q a w) (hc:opd m c=some (.bool b):=by exact rfl):(Code.cond c x y).wp P Q a w:=JgY (F.g hc) h1 h2
theorem zz {f:Nat} {xs:Array Operand} {ats:Array TypeId} {vs:List Value} {R:Ending→World→Prop} [I:CFc P f] (F:Fr n m a) (hc:Calls P f vs.toArray w R)
 (k:∀ e w',R e w'→∃ v,e=.returned v∧∀ a',Fr n ((d,v)::m) a'→wpList P ops Q rest a' w')
 (ho:o.op=.call { callee:=.value (.func f),args:=xs,argTypes:=ats }:=by exact rfl)
 (hx:xs.toList.map a.eval=vs:=by (repeat (first|refine lc (F.g rfl) ?_|refine lc rfl ?_));exact rfl)
 (hd:o.dst=some d:=by exact rfl) (hw:J8 ops m o=some true:=by exact rfl) (hp:Nat.blt d n=true:=by exact rfl):wpList P ops Q (o::rest) a w:=
 J0 (J4E F I.h (Jk F hw) hd ho hp hx hc k)
theorem zz1 {f:Nat} {xs:Array Operand} {ats:Array TypeId} {vs:List Value} {R:Ending→World→Prop} [I:CFc P f] (F:Fr n m a) (hc:Calls P f vs.toArray w R)
 (k:∀ e w',R e w'→∃ v,e=.returned v∧∀ a',Fr n ((d,v)::m) a'→K a' w')
 (ho:o.op=.call { callee:=.value (.func f),args:=xs,argTypes:=ats }:=by exact rfl)
 (hx:xs.toList.map a.eval=vs:=by (repeat (first|refine lc (F.g rfl) ?_|refine lc rfl ?_));exact rfl)
 (hd:o.dst=some d:=by exact rfl) (hw:J8 ops m o=some true:=by exact rfl) (hp:Nat.blt d n=true:=by exact rfl):st1 P ops Q o K a w:=
 J4E F I.h (Jk F hw) hd ho hp hx hc k
theorem zst {t:TypeId} {g:Bool} {c:Nat} {L:List Atom} [I:TIc P t g c] (F:Fr n m a) (A:At w L) (j:Nat) {b off:Nat} {cs vs cs':List Value} {T:TypeId} {val:Value}
 (k:∀ w',Mv L w ([bx b cs' T]++del L [j]) w'→∀ a',Fr nk mk a'→K a' w')
 (ho:o.op=.store t x y:=by exact rfl) (hx:opd m x=some (.pointer (some ⟨b,off,none⟩)):=by exact rfl) (hy:opd m y=some val:=by exact rfl) (hw:J8 ops m o=some true:=by exact rfl) (hd:o.dst=none:=by exact rfl)
 (hL:nth L j=some (bx b cs T):=by exact rfl) (hok:JP L.length [j]=true:=by exact rfl) (hv:val.cells.toList=vs:=by exact rfl) (hk:vs.length=c:=by exact rfl) (hfit:Nat.ble (off+vs.length) cs.length=true:=by exact rfl) (h1:vs.all (·.oneCell')=true:=by exact rfl) (e:Jq cs off vs=cs':=by exact rfl)
 (h:∀ w',(∀ a',Fr nk mk a'→K a' w')→∀ a',Fr n m a'→wpList P ops Q rest a' w':=by intro _ kZ _ F;exact zr kZ):wpList P ops Q (o::rest) a w:=
 J0 (J0C A j I.h hL hok (Jk F hw) hd ho (F.g hx) (F.g hy) hv hk hfit h1 e fun w' m'=>h w' (k w' m') a F)
theorem zal {t:TypeId} {z:Value} {cs:List Value} {L:List Atom} {mb:Nat→List (Nat × Value)} (F:Fr n m a) (A:At w L) (Z:ZI P t z) (k:∀ b w',Mv L w (bx b cs t::L) w'→∀ a',Fr nk (mb b) a'→K a' w')
 (ho:o.op=.alloc t:=by exact rfl) (hd:o.dst=some d:=by exact rfl) (hw:J8 ops m o=some true:=by exact rfl) (hz:z.cells.toList=cs:=by exact rfl) (hp:Nat.blt d n=true:=by exact rfl)
 (h:∀ b w',(∀ a',Fr nk (mb b) a'→K a' w')→∀ a',Fr n ((d,.pointer (some ⟨b,0,none⟩))::m) a'→wpList P ops Q rest a' w':=by intro _ _ kZ _ F;exact zr kZ):wpList P ops Q (o::rest) a w:=
 J0 (J2a F A Z (Jk F hw) hd ho hz hp fun b a' w' F' m'=>h b w' (k b w' m') a' F')
theorem zbx {t:TypeId} {val:Value} {cs:List Value} {L:List Atom} {mb:Nat→List (Nat × Value)} (F:Fr n m a) (A:At w L) (k:∀ b w',Mv L w (bx b cs t::L) w'→∀ a',Fr nk (mb b) a'→K a' w')
 (ho:o.op=.box t x:=by exact rfl) (hd:o.dst=some d:=by exact rfl) (hw:J8 ops m o=some true:=by exact rfl) (hx:opd m x=some val:=by exact rfl) (hz:val.cells.toList=cs:=by exact rfl) (hp:Nat.blt d n=true:=by exact rfl)
 (h:∀ b w',(∀ a',Fr nk (mb b) a'→K a' w')→∀ a',Fr n ((d,.pointer (some ⟨b,0,none⟩))::m) a'→wpList P ops Q rest a' w':=by intro _ _ kZ _ F;exact zr kZ):wpList P ops Q (o::rest) a w:=
 J0 (J7E F A (Jk F hw) hd ho (F.g hx) hz hp fun b a' w' F' m'=>h b w' (k b w' m') a' F')
theorem zt {v:Value} (k:∀ a',Fr nk mk a'→K a' w)
 (h:(∀ a',Fr nk mk a'→K a' w)→∀ a',Fr n ((d,v)::m) a'→wpList P ops Q rest a' w:=by intro kZ _ F;exact zr kZ):∃ v',Ending.returned v=.returned v'∧∀ a',Fr n ((d,v')::m) a'→wpList P ops Q rest a' w:=⟨_,rfl,h k⟩
theorem zzp {f:Nat} {xs:Array Operand} {ats:Array TypeId} {vs:List Value} {L:List Atom} [I:CFc P f] (F:Fr n m a) (A:At w L) (hc:Calls P f vs.toArray w fun e w'=>e=.returned v∧Mv [] w [] w')
 (k:∀ w',Mv L w L w'→∀ a',Fr nk mk a'→K a' w')
 (ho:o.op=.call { callee:=.value (.func f),args:=xs,argTypes:=ats }:=by exact rfl)
 (hx:xs.toList.map a.eval=vs:=by (repeat (first|refine lc (F.g rfl) ?_|refine lc rfl ?_));exact rfl)
 (hd:o.dst=some d:=by exact rfl) (hw:J8 ops m o=some true:=by exact rfl) (hp:Nat.blt d n=true:=by exact rfl)
 (h:∀ w',(∀ a',Fr nk mk a'→K a' w')→∀ a',Fr n ((d,v)::m) a'→wpList P ops Q rest a' w':=by intro _ kZ _ F;exact zr kZ):wpList P ops Q (o::rest) a w:=
 zz F hc (by rintro _ w' ⟨rfl,h1⟩;exact ⟨_,rfl,h w' (k w' (At.frame0 A h1))⟩) ho hx hd hw hp
theorem zzq {f:Nat} {xs:Array Operand} {ats:Array TypeId} {vs:List Value} {L:List Atom} {X:World→Prop} [I:CFc P f] (F:Fr n m a) (A:At w L) (hc:Calls P f vs.toArray w fun e w'=>e=.returned v∧Mv [] w [] w'∧X w')
 (k:∀ w',Mv L w L w'→X w'→∀ a',Fr nk mk a'→K a' w')
 (ho:o.op=.call { callee:=.value (.func f),args:=xs,argTypes:=ats }:=by exact rfl)
 (hx:xs.toList.map a.eval=vs:=by (repeat (first|refine lc (F.g rfl) ?_|refine lc rfl ?_));exact rfl)
 (hd:o.dst=some d:=by exact rfl) (hw:J8 ops m o=some true:=by exact rfl) (hp:Nat.blt d n=true:=by exact rfl)
 (h:∀ w',(∀ a',Fr nk mk a'→K a' w')→∀ a',Fr n ((d,v)::m) a'→wpList P ops Q rest a' w':=by intro _ kZ _ F;exact zr kZ):wpList P ops Q (o::rest) a w:=
 zz F hc (by rintro _ w' ⟨rfl,h1,h2⟩;exact ⟨_,rfl,h w' (k w' (At.frame0 A h1) h2)⟩) ho hx hd hw hp
theorem zzr {f:Nat} {xs:Array Operand} {ats:Array TypeId} {vs:List Value} {L:List Atom} [I:CFc P f] (F:Fr n m a) (A:At w L) (hc:Calls P f vs.toArray w fun e w'=>e=.returned v∧Mv [] w [] w')
 (k:∀ w',Mv L w L w'→∀ a',Fr n ((d,v)::m) a'→K a' w')
 (ho:o.op=.call { callee:=.value (.func f),args:=xs,argTypes:=ats }:=by exact rfl)
 (hx:xs.toList.map a.eval=vs:=by (repeat (first|refine lc (F.g rfl) ?_|refine lc rfl ?_));exact rfl)
 (hd:o.dst=some d:=by exact rfl) (hw:J8 ops m o=some true:=by exact rfl) (hp:Nat.blt d n=true:=by exact rfl):st1 P ops Q o K a w:=
 zz1 F hc (by rintro _ w' ⟨rfl,h1⟩;exact ⟨_,rfl,k w' (At.frame0 A h1)⟩) ho hx hd hw hp
theorem zzs {f:Nat} {xs:Array Operand} {ats:Array TypeId} {vs:List Value} {L:List Atom} {X:World→Prop} [I:CFc P f] (F:Fr n m a) (A:At w L) (hc:Calls P f vs.toArray w fun e w'=>e=.returned v∧Mv [] w [] w'∧X w')
 (k:∀ w',Mv L w L w'→X w'→∀ a',Fr n ((d,v)::m) a'→K a' w')
 (ho:o.op=.call { callee:=.value (.func f),args:=xs,argTypes:=ats }:=by exact rfl)
 (hx:xs.toList.map a.eval=vs:=by (repeat (first|refine lc (F.g rfl) ?_|refine lc rfl ?_));exact rfl)
 (hd:o.dst=some d:=by exact rfl) (hw:J8 ops m o=some true:=by exact rfl) (hp:Nat.blt d n=true:=by exact rfl):st1 P ops Q o K a w:=
 zz1 F hc (by rintro _ w' ⟨rfl,h1,h2⟩;exact ⟨_,rfl,k w' (At.frame0 A h1) h2⟩) ho hx hd hw hp
theorem ze {f:Nat} {fn:Func} {c:Code} {args:List Value} {R:Ending→World→Prop} [I:RTc P f fn n] (k:∀ a',Fr nk mk a'→K a' w)
 (hb:fn.body=some c:=by exact rfl) (hl:Nat.ble args.length n=true:=by exact rfl)
 (h:(∀ a',Fr nk mk a'→K a' w)→∀ a',Fr n (J3C 0 args) a'→c.wp P (bodyPost P fn R) a' w:=by intro kZ _ F;exact zr kZ):Calls P f args.toArray w R:=
 J8A n I.h hb I.n (Nat.le_of_ble_eq_true hl) (h k)
theorem zta {s:Nat} (F:Fr n m a) (h:look m s=some v:=by exact rfl):ResIs P a w (.tmp s) v:=.tmp (F.ev s h)
theorem zca {s T q b:Nat} {cs:List Value} {L:List Atom} {T':TypeId} [I:TIc P T true q] (F:Fr n m a) (hA:At w L) (i:Nat) (h:look m s=some (.pointer (some ⟨b,0,none⟩)):=by exact rfl) (hL:nth L i=some (bx b cs T'):=by exact rfl) (hq:cs.length=q:=by exact rfl):ResIs P a w (.cell s T) (.agg cs.toArray):=
 .cell (F.ev s h) (J8u I.h _ cs hq (fun h=>nomatch h) (At.cells hA i hL 0 cs (by simp)))
end
section
variable {P:Program} {a:Act} {w:World} {n:Nat} {m:List (Nat × Value)} {v u:Value} {fn:Func} {R:Ending→World→Prop}
theorem zd1 {s:Nat} (F:Fr n m a) (k:R (.returned v) w) (hr:fn.results=#[.tmp s]:=by exact rfl) (h:look m s=some v:=by exact rfl):bodyPost P fn R .ret a w:=Jg F (J9p hr (zta F h)) k
theorem zd2 {s t:Nat} (F:Fr n m a) (k:R (.returned (.tuple #[v,u])) w) (hr:fn.results=#[.tmp s,.tmp t]:=by exact rfl) (h:look m s=some v:=by exact rfl) (h2:look m t=some u:=by exact rfl):bodyPost P fn R .ret a w:=Jg F (JU hr (zta F h) (zta F h2)) k
theorem zdc {s T q b:Nat} {cs:List Value} {L:List Atom} {T':TypeId} [I:TIc P T true q] (F:Fr n m a) (hA:At w L) (i:Nat) (k:R (.returned (.agg cs.toArray)) w) (hr:fn.results=#[.cell s T]:=by exact rfl) (h:look m s=some (.pointer (some ⟨b,0,none⟩)):=by exact rfl) (hL:nth L i=some (bx b cs T'):=by exact rfl) (hq:cs.length=q:=by exact rfl):bodyPost P fn R .ret a w:=Jg F (J9p hr (zca F hA i h hL hq)) k
theorem zde {s t T q b:Nat} {cs:List Value} {L:List Atom} {T':TypeId} [I:TIc P T true q] (F:Fr n m a) (hA:At w L) (i:Nat) (k:R (.returned (.tuple #[.agg cs.toArray,v])) w) (hr:fn.results=#[.cell s T,.tmp t]:=by exact rfl) (h:look m s=some (.pointer (some ⟨b,0,none⟩)):=by exact rfl) (hL:nth L i=some (bx b cs T'):=by exact rfl) (hq:cs.length=q:=by exact rfl) (h2:look m t=some v:=by exact rfl):bodyPost P fn R .ret a w:=Jg F (JU hr (zca F hA i h hL hq) (zta F h2)) k
end
section
variable {P:Program} {ops:Array Oper} {Q:Exit→Act→World→Prop} {K:Act→World→Prop} {o:Oper} {rest:List Oper} {a:Act} {w:World} {d n nk:Nat} {m mk:List (Nat × Value)} {v:Value} {x y:Operand}
def psV (m:List (Nat × Value)) (ps:Array (Nat × Operand)):List Value:=ps.toList.map fun p=>(opd m p.2).getD undef
def J5Z (m:List (Nat × Value)) (ps:Array (Nat × Operand)):Bool:=(ps.toList.all fun p=>(opd m p.2).isSome) && (ps.toList.map (·.1) == List.range ps.toList.length)
theorem psEq {ps:Array (Nat × Operand)} (F:Fr n m a) (h:J5Z m ps=true):ps.toList.map (fun p=>(p.1,a.eval p.2))=((psV m ps).zipIdx 0).map fun p=>(p.2,p.1):=by
 unfold J5Z at h
 rw [Bool.and_eq_true,beq_iff_eq] at h
 obtain ⟨h1,h2⟩:=h
 refine List.ext_getElem (by simp [psV]) fun i hi hj=>?_
 have hi':i < ps.toList.length:=by rw [List.length_map] at hi;exact hi
 have e1:ps.toList[i].1=i:=by
  have:=congrArg (fun l=>l[i]?) h2
  simp only [List.getElem?_map,List.getElem?_eq_getElem hi',Option.map_some,List.getElem?_range hi',Option.some.injEq] at this
  exact this
 obtain ⟨y,hy⟩:=Option.isSome_iff_exists.1 (List.all_eq_true.1 h1 _ (List.getElem_mem hi'))
 simp only [psV,List.getElem_map,List.getElem_zipIdx,Nat.zero_add]
 rw [e1,F.g hy,hy]
 rfl
section
variable {α:Type} {e k bytes:Nat} {z:Value} {enc:α→List Value} {ok:α→Prop} {t:TypeId} {L:List Atom}
theorem zb1 {q:Nat} {ps:Array (Nat × Operand)} (F:Fr n m a) (A:At w L) (l:List α) (E:ElemT P t e z k bytes enc) (hok:∀ x ∈ l,ok x)
 (kk:∀ b w' a',Mv L w (ow e k enc ok (.slice (some ⟨b,0,none⟩) q q) l::L) w'→Fr n ((d,.slice (some ⟨b,0,none⟩) q q)::m) a'→K a' w')
 (ho:o.op=.buildSlice t q ps:=by exact rfl) (hw:J8 ops m o=some true:=by exact rfl) (hd:o.dst=some d:=by exact rfl) (hn:q=l.length:=by exact rfl) (hsm:Nat.ble (q * k) 16777216=true:=by exact rfl) (hp:Nat.blt d n=true:=by exact rfl)
 (hps:J5Z m ps=true:=by exact rfl) (hvl:(psV m ps).length=l.length:=by exact rfl) (hvs:(psV m ps).map (fun v=>v.cells.toList)=l.map enc:=by exact rfl):st1 P ops Q o K a w:=
 J02 F A l E (Jk F hw) hd ho hn hsm hp (psEq F hps) hvl hvs hok fun b a' w' F' m'=>kk b w' a' m' F'
theorem zbs {q:Nat} {ps:Array (Nat × Operand)} {mb:Nat→List (Nat × Value)} (F:Fr n m a) (A:At w L) (l:List α) (E:ElemT P t e z k bytes enc) (hok:∀ x ∈ l,ok x)
 (kk:∀ b w',Mv L w (ow e k enc ok (.slice (some ⟨b,0,none⟩) q q) l::L) w'→∀ a',Fr nk (mb b) a'→K a' w')
 (ho:o.op=.buildSlice t q ps:=by exact rfl) (hw:J8 ops m o=some true:=by exact rfl) (hd:o.dst=some d:=by exact rfl) (hn:q=l.length:=by exact rfl) (hsm:Nat.ble (q * k) 16777216=true:=by exact rfl) (hp:Nat.blt d n=true:=by exact rfl)
 (hps:J5Z m ps=true:=by exact rfl) (hvl:(psV m ps).length=l.length:=by exact rfl) (hvs:(psV m ps).map (fun v=>v.cells.toList)=l.map enc:=by exact rfl)
 (h:∀ b w',(∀ a',Fr nk (mb b) a'→K a' w')→∀ a',Fr n ((d,.slice (some ⟨b,0,none⟩) q q)::m) a'→wpList P ops Q rest a' w':=by intro _ _ kZ _ F;exact zr kZ):wpList P ops Q (o::rest) a w:=
 J0 (zb1 F A l E hok (fun b w' a' m' F'=>h b w' (kk b w' m') a' F') ho hw hd hn hsm hp hps hvl hvs)
end
theorem zlI {l:List Int} (h:l.all (fun n=>decide (-9223372036854775808≤n) && decide (n≤9223372036854775807))=true:=by decide):∀ x ∈ l,J1 x:=fun x hx=>by
 have:=List.all_eq_true.1 h x hx
 rw [Bool.and_eq_true,decide_eq_true_eq,decide_eq_true_eq] at this
 exact this
theorem zlS {l:List ByteArray} (h:l.all (fun s=>Nat.ble s.size 9223372036854775807)=true:=by decide):∀ x ∈ l,okS x:=fun x hx=>by
 have:=Nat.le_of_ble_eq_true (List.all_eq_true.1 h x hx)
 unfold okS;omega
end
theorem zV1 {v v':Value} (h:v=v'):Ending.returned v=.returned v':=by rw [h]
theorem zVt {l l':List Value} (h:l=l'):Value.tuple l.toArray=.tuple l'.toArray:=by rw [h]
theorem zVa {l l':List Value} (h:l=l'):Value.agg l.toArray=.agg l'.toArray:=by rw [h]
theorem zVi {k:IntKind} {i j:Int} (h:i=j):Value.int k i=.int k j:=by rw [h]
theorem zVb {i j:Bool} (h:i=j):Value.bool i=.bool j:=by rw [h]
theorem zVs {i j:ByteArray} (h:i=j):Value.string i=.string j:=by rw [h]
theorem zOw {α:Type} {e k:Nat} {enc:α→List Value} {ok:α→Prop} {v:Value} {l l':List α} (h:l=l'):ow e k enc ok v l=ow e k enc ok v l':=by rw [h]
theorem zOk {i j:ByteArray} (h:i=j) (k:okS i):okS j:=h ▸ k
theorem zN {H:Nat→Prop} : ∀ b,H b→¬ fps [] b:=fun _ _=>JF _
section
variable {P:Program} {o:Oper} {ρ:Operand→Value} {w:World} {t u:TypeId} {x y:Operand}
theorem Jb3 {m:Int} {c:Nat} {n:Int} (hn:n=(c:Int)) (hc:1 < c) (hm:J1 m) (ho:o.op=.binOp .quo t x y u) (hx:ρ x=.int .i64 m) (hy:ρ y=.int .i64 n):(execOp ρ o).run P w=.ok (.value (.int .i64 (m.tdiv (c:Int)))) w:=by
 subst hn
 have h1:c≠0:=by omega
 have h2:(m.tdiv (c:Int)).natAbs≤m.natAbs:=by rw [Int.natAbs_tdiv];exact Nat.div_le_self _ _
 have h3:(m.tdiv (c:Int)).natAbs < 9223372036854775808∨m.natAbs=9223372036854775808:=by unfold J1 at hm;omega
 have h4 : -9223372036854775808≤m.tdiv (c:Int)∧m.tdiv (c:Int)≤9223372036854775807:=by
  rcases h3 with h3|h3
  ·omega
  have:(m.tdiv (c:Int)).natAbs=m.natAbs / c:=by rw [Int.natAbs_tdiv];rfl
  have:m.natAbs / c < m.natAbs:=Nat.div_lt_self zO hc
  omega
 have h5:IntKind.i64.wrap (m.tdiv (c:Int))=m.tdiv (c:Int):=IntWalk.i64_in _ h4
 simp [execOp,ho,hx,hy,eqGuard,binOp,Op.intDiv,h1,h5]
theorem JhK {m:Int} {c:Nat} {n:Int} (hn:n=(c:Int)) (hc:0 < c) (ho:o.op=.binOp .rem t x y u) (hx:ρ x=.int .i64 m) (hy:ρ y=.int .i64 n):(execOp ρ o).run P w=.ok (.value (.int .i64 (m.tmod (c:Int)))) w:=by
 subst hn
 have h1:c≠0:=by omega
 simp [execOp,ho,hx,hy,eqGuard,binOp,Op.intDiv,h1]
theorem J3D {m c:Nat} {n:Int} (hn:n=(c:Int)) (hc:0 < c) (ho:o.op=.binOp .rem t x y u) (hx:ρ x=.int .i64 ((m:Nat):Int)) (hy:ρ y=.int .i64 n):(execOp ρ o).run P w=.ok (.value (.int .i64 ((m % c:Nat):Int))) w:=by
 subst hn
 have h1:c≠0:=by omega
 have h2:(m:Int).tmod (c:Int)=((m % c:Nat):Int):=rfl
 simp [execOp,ho,hx,hy,eqGuard,binOp,Op.intDiv,h1,h2]
theorem J7u {m c:Nat} {n:Int} (hn:n=(c:Int)) (hc:0 < c) (hm:m≤9223372036854775807) (ho:o.op=.binOp .quo t x y u) (hx:ρ x=.int .i64 ((m:Nat):Int)) (hy:ρ y=.int .i64 n):(execOp ρ o).run P w=.ok (.value (.int .i64 ((m / c:Nat):Int))) w:=by
 subst hn
 have h1:c≠0:=by omega
 have h2:(m:Int).tdiv (c:Int)=((m / c:Nat):Int):=rfl
 have h6:(execOp ρ o).run P w=.ok (.value (.int .i64 (IntKind.i64.wrap ((m:Int).tdiv (c:Int))))) w:=by
  simp [execOp,ho,hx,hy,eqGuard,binOp,Op.intDiv,h1]
 rw [h6,h2]
 have h3:m / c≤m:=Nat.div_le_self _ _
 generalize m / c=q at h3
 rw [IntWalk.i64_in _ ⟨zO,zO⟩]
theorem J79 (m:Int) {c:Nat} (hc:0 < c) : -(c:Int) < m.tmod (c:Int)∧m.tmod (c:Int) < (c:Int):=by
 have h:(m.tmod (c:Int)).natAbs=m.natAbs % c:=by rw [Int.natAbs_tmod];rfl
 have:=Nat.mod_lt m.natAbs hc
 omega
theorem JhI {m:Int} (ho:o.op=.unOp .neg t x) (hx:ρ x=.int .i64 m) (hb : -9223372036854775808≤-m∧-m≤9223372036854775807):(execOp ρ o).run P w=.ok (.value (.int .i64 (-m))) w:=by
 have h5:IntKind.i64.wrap (0 - m)=-m:=by rw [show (0:Int) - m=-m by omega];exact IntWalk.i64_in _ hb
 simp only [execOp,ho,hx,Op.unary,Op.intArith,h5,Sem.run_bind,Sem.run_pure,Result.andThen_ok]
def J2v:Value→Bool
 | .nilIface=>false
 | _=>true
def J2y (v:Value):Prop:=v=.nilIface∨∃ a b,v=.iface a b
theorem JdS {ms:Array (String × TypeId)} (d:Nat) (ht:P.underlying t=some (.interface ms)):(Op.equalIn (d+1) t .nilIface .nilIface).run P w=.ok true w:=by
 simp [Op.equalIn,run_underlying ht]
theorem JdR {ms:Array (String × TypeId)} (d:Nat) (a:TypeId) (b:Value) (ht:P.underlying t=some (.interface ms)):(Op.equalIn (d+1) t (.iface a b) .nilIface).run P w=.ok false w:=by
 simp [Op.equalIn,run_underlying ht]
theorem JeR {ms:Array (String × TypeId)} (ht:P.underlying t=some (.interface ms)):(Op.equal t .nilIface .nilIface).run P w=.ok true w:=JdS 9999 ht
theorem JeQ {ms:Array (String × TypeId)} (a:TypeId) (b:Value) (ht:P.underlying t=some (.interface ms)):(Op.equal t (.iface a b) .nilIface).run P w=.ok false w:=JdR 9999 a b ht
theorem Jgz {ms:Array (String × TypeId)} (ht:P.underlying t=some (.interface ms)):(binOp .neq t .nilIface .nilIface).run P w=.ok (.bool false) w:=by
 simp only [binOp]
 simp [JeR ht]
theorem Jgy {ms:Array (String × TypeId)} (a:TypeId) (b:Value) (ht:P.underlying t=some (.interface ms)):(binOp .neq t (.iface a b) .nilIface).run P w=.ok (.bool true) w:=by
 simp only [binOp]
 simp [JeQ a b ht]
theorem Jax {v:Value} {ms:Array (String × TypeId)} (ht:P.underlying t=some (.interface ms)) (ho:o.op=.binOp .neq t x (.const .nilIface) u) (hx:ρ x=v) (hy:ρ (.const .nilIface)=.nilIface) (he:J2y v):(execOp ρ o).run P w=.ok (.value (.bool (J2v v))) w:=by
 rcases he with rfl|⟨a,b,rfl⟩
 ·have hg:eqGuard .neq t x (.const .nilIface) .nilIface .nilIface=pure ():=eqGuard_nil_constR (op:=.neq) t x .nilIface
  simp only [execOp,ho,hx,hy,Sem.run_bind,hg,Sem.run_pure,Result.andThen_ok,Jgz ht]
  rfl
 have hg:eqGuard .neq t x (.const .nilIface) (.iface a b) .nilIface=pure ():=rfl
 simp only [execOp,ho,hx,hy,Sem.run_bind,hg,Sem.run_pure,Result.andThen_ok,Jgy a b ht]
 rfl
end
end Go.Proofs.YtipdbeklopjbmaaGreatDoor
