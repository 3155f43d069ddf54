/-
  Texts laid together: Eng11, Eng12.
-/
import Derived.Test.YtipdbeklopjbmaaGreatDoorP03
import Derived.ArgAppend
import Derived.Lib.ConvBytes
import Derived.Lib.AppendStr
import Derived.Lib.FrozenHead
import Derived.Lib.UnsafeStr
set_option linter.unusedVariables false
set_option linter.unusedSimpArgs false
namespace Go.Proofs.YtipdbeklopjbmaaGreatDoor
open Go.ChangeShapes Go.WideShapes Go.ChangeAt Go.RowKit
def OwnX (e:Nat) (w:World) (v:Value) (l:List Nat):Prop:=
 ∃ (g cap:Nat) (cur:List Value) (mk:Nat × Nat),v=.slice (some ⟨g,0,none⟩) l.length cap∧w.heap[g]? = some (.cells cur.toArray e mk)∧l.length≤cap∧cap≤maxLen∧cur.length=cap∧cur.take l.length=J4 J7 l∧(∀ x ∈ l,okB x)∧(cap≤mk.1∨mk.2=0)
theorem OwnX.same {e:Nat} {w w':World} {v:Value} {l:List Nat} (h:OwnX e w v l) (hb:∀ b,v.ownBlock=some b→w'.heap[b]? = w.heap[b]?):OwnX e w' v l:=by
 obtain ⟨g,cap,cur,mk,rfl,h1,h2⟩:=h
 exact ⟨g,cap,cur,mk,rfl,(hb g rfl).trans h1,h2⟩
theorem OwnX.lt {e:Nat} {w:World} {v:Value} {l:List Nat} (h:OwnX e w v l) {b:Nat} (hb:v.ownBlock=some b):b < w.heap.size:=by
 obtain ⟨g,cap,cur,mk,rfl,h1,h2⟩:=h
 have:g=b:=Option.some.inj hb
 subst this
 exact (Array.getElem?_eq_some_iff.1 h1).1
theorem OwnX.cellAt {e:Nat} {w:World} {g n cap:Nat} {l:List Nat} (h:OwnX e w (.slice (some ⟨g,0,none⟩) n cap) l) (i:Nat) (x:Nat) (hx:l[i]? = some x):w.cell? ⟨g,i,none⟩=some (.int .u8 ((x:Nat):Int)):=by
 obtain ⟨g',cap',cur,mk,e1,h1,h2,h3,h4,h5,h6,h7⟩:=h
 cases e1
 have hi:i < l.length:=(List.getElem?_eq_some_iff.1 hx).1
 have hf:=J36 (enc:=J7) (k:=1) (fun _=>rfl) l i x hx 0 zO
 have hc:cur[i]? = some (.int .u8 ((x:Nat):Int)):=by
  have h8:(cur.take l.length)[i]? = cur[i]?:=by rw [List.getElem?_take,if_pos hi]
  rw [← h8,h5]
  simpa [J7] using hf
 simp [World.cell?,h1,hc]
theorem OwnX.rd {e:Nat} {w:World} {v:Value} {l:List Nat} (h:OwnX e w v l):RSl 1 (Enc J7 okB) w v l:=by
 have h0:=h
 obtain ⟨g,cap,cur,mk,rfl,h1,h2,h3,h4,h5,h6,h7⟩:=h
 refine RSl.mk g 0 cap rfl h2 h3 fun i x hx=>⟨J7 x,rfl,⟨rfl,h6 x (List.mem_of_getElem? hx)⟩,fun j u hj=>?_⟩
 cases j with
 | zero=>
  cases hj
  have:=h0.cellAt i x hx
  simpa using this
 | succ j=>cases hj
def owX (e:Nat) (v:Value) (l:List Nat):Atom where
 fp:=fun c=>v.ownBlock=some c
 ok:=fun w=>OwnX e w v l
 st:=fun _ _ h k=>k.same h
theorem At.rdX {e:Nat} {w:World} {L:List Atom} (h:At w L) (i:Nat) {v:Value} {l:List Nat} (hL:nth L i=some (owX e v l)):Rd 1 J7 okB (fun _=>True) w v l:=
 ⟨OwnX.rd (h.ok _ (Jm hL)),fun _ _ _ _ _=>trivial⟩
theorem At.ownInvX {e:Nat} {w:World} {L:List Atom} {a:Option Addr} {n c:Nat} {l:List Nat} (h:At w L) (i:Nat) (hL:nth L i=some (owX e (.slice a n c) l)):n=l.length∧n≤c∧c≤9223372036854775807:=by
 obtain ⟨h1,h2,h3,_⟩:=(h.rdX i hL).inv
 exact ⟨h1,h2,h3⟩
theorem At.ownAtX {e:Nat} {w:World} {L:List Atom} {a:Option Addr} {n c:Nat} {l:List Nat} (A:At w L) (i:Nat) (hL:nth L i=some (owX e (.slice a n c) l)) (j:Nat) (hj:j < n) :
 ∃ b x,a=some ⟨b,0,none⟩∧nth l j=some x∧okB x∧∀ q v,(J7 x)[q]? = some v→w.cell? ((⟨b,0+j * 1,none⟩:Addr).add q)=some v:=by
 have hO:OwnX e w (.slice a n c) l:=A.ok _ (Jm hL)
 have h0:=hO
 obtain ⟨g,cap,cur,mk,e1,h1,h2,h3,h4,h5,h6,h7⟩:=hO
 cases e1
 have hx:l[j]? = some l[j]:=by simp [hj]
 refine ⟨g,l[j],rfl,by rw [JO];exact hx,h6 _ (List.getElem_mem _),fun q v hq=>?_⟩
 cases q with
 | zero=>
  cases hq
  rw [J0a]
  simpa using h0.cellAt j _ hx
 | succ q=>cases hq
theorem JgR {v:Value} {r cur:List Value} {o:Nat} (h:o+(r.length+1)≤cur.length):Jq (cur.set o v) (o+1) r=Jq cur o (v::r):=by
 unfold Jq
 have h1:o < cur.length:=by omega
 rw [List.set_eq_take_append_cons_drop,if_pos h1]
 have e1:(cur.take o).length=o:=by rw [List.length_take];omega
 have e2:(cur.take o++v::cur.drop (o+1)).take (o+1)=cur.take o++[v]:=by
  rw [List.take_append,e1,List.take_of_length_le zO,show o+1 - o=1 by omega]
  rfl
 have e3:(cur.take o++v::cur.drop (o+1)).drop (o+1+r.length)=cur.drop (o+(r.length+1)):=by
  rw [List.drop_append,e1,List.drop_eq_nil_of_le zO,show o+1+r.length - o=r.length+1 by omega,List.drop_succ_cons,List.drop_drop,List.nil_append]
  congr 1
  omega
 rw [e2,e3]
 simp
theorem J69 {b e:Nat} {mk:Nat × Nat} : ∀ (vs:List Value) (o:Nat) (w:World) (cur:List Value),w.heap[b]? = some (.cells cur.toArray e mk)→o+vs.length≤cur.length→(w.setCells b o vs).heap[b]? = some (.cells (Jq cur o vs).toArray e mk)
 | [],o,w,cur,h,_=>by simpa [World.setCells,Jq] using h
 | v::r,o,w,cur,h,hl=>by
  have hl':o+(r.length+1)≤cur.length:=by simpa using hl
  rw [World.setCells,← JgR hl']
  refine J69 r (o+1) _ (cur.set o v) ?_ (by rw [List.length_set];omega)
  show (w.heap.modify b _)[b]? = _
  rw [Array.getElem?_modify,if_pos rfl,h]
  simp
theorem J6Q (b:Nat):∀ (vs:List Value) (o:Nat) (w:World),(w.setCells b o vs).os=w.os∧(w.setCells b o vs).tape=w.tape∧(w.setCells b o vs).output=w.output∧(w.setCells b o vs).heap.size=w.heap.size∧∀ q,q≠b→(w.setCells b o vs).heap[q]? = w.heap[q]?
 | [],o,w=>⟨rfl,rfl,rfl,rfl,fun _ _=>rfl⟩
 | v::r,o,w=>by
  obtain ⟨h1,h2,h3,h4,h5⟩:=J6Q b r (o+1) (w.setCell ⟨b,o,none⟩ v)
  rw [World.setCells]
  refine ⟨h1.trans rfl,h2.trans rfl,h3.trans rfl,h4.trans (by simp [World.setCell]),fun q hq=>(h5 q hq).trans ?_⟩
  simp [World.setCell,Array.getElem?_modify,Ne.symm hq]
section
variable {P:Program} {ops:Array Oper} {Q:Exit→Act→World→Prop} {K:Act→World→Prop} {o:Oper} {a:Act} {w:World} {L:List Atom} {d n:Nat} {m:List (Nat × Value)}
theorem J5f {e:Nat} {w w':World} {v:Value} {l:List Nat} (hO:OwnX e w' v l) (hf:∀ b ∈ v.ownBlock.toList,w.heap.size≤b) (hb:Bl w w'):Mv [] w [owX e v l] w':=
 Bl.mv_new (At.one hO (fun b hb=>hO.lt hb)) (fun b ⟨B,hB,hb⟩=>by rcases List.mem_singleton.1 hB with rfl;have h:v.ownBlock=some b:=hb;exact hf b (by simp [h])) hb
theorem J74 {e g cap off:Nat} {vs:List Value} {l l':List Nat} (A:At w L) (i:Nat) (hL:nth L i=some (owX e (.slice (some ⟨g,0,none⟩) l.length cap) l)) (hsel:JP L.length [i]=true)
 (hk:off+vs.length≤cap) (hl:l'.length≤cap) (hc:∀ cur:List Value,cur.length=cap→cur.take l.length=J4 J7 l→(Jq cur off vs).take l'.length=J4 J7 l') (hok:∀ x ∈ l',okB x) :
 (∀ j,j < vs.length→(w.cell? ⟨g,off+j,none⟩).isSome=true)∧(∀ j,j < vs.length→w.frozen? ⟨g,off+j,none⟩=false)∧Mv L w ([owX e (.slice (some ⟨g,0,none⟩) l'.length cap) l']++del L [i]) (w.setCells g off vs):=by
 have hO:OwnX e w (.slice (some ⟨g,0,none⟩) l.length cap) l:=A.ok _ (Jm hL)
 have hlt:=hO.lt (b:=g) rfl
 obtain ⟨g',cap',cur,mk,e1,h1,h2,h3,h4,h5,h6,h7⟩:=hO
 cases e1
 obtain ⟨s1,s2,s3,s4,s5⟩:=J6Q g vs off w
 refine ⟨fun j hj=>?_,fun j hj=>?_,A.frame [i] hsel ?_⟩
 ·have:off+j < cur.length:=by omega
  simp [World.cell?,h1,this]
 ·have h8:¬ (mk.1≤off+j∧off+j < mk.2):=by omega
  simp only [World.frozen?,h1]
  by_cases h9:mk.1≤off+j
  ·have:¬ off+j < mk.2:=fun h=>h8 ⟨h9,h⟩
   simp [this]
  simp [h9]
 have e2:sel L [i]=[owX e (.slice (some ⟨g,0,none⟩) l.length cap) l]:=by simp [sel,hL]
 rw [e2]
 have hO2:OwnX e (w.setCells g off vs) (.slice (some ⟨g,0,none⟩) l'.length cap) l':=
  ⟨g,cap,Jq cur off vs,mk,rfl,J69 vs off w cur h1 zO,hl,h3,by unfold Jq;simp;omega,hc cur h4 h5,hok,h7⟩
 exact ⟨At.one hO2 (fun q hq=>by have h:some g=some q:=hq;cases h;rw [s4];exact hlt),fun q ⟨B,hB,hq⟩=>by rcases List.mem_singleton.1 hB with rfl;exact .inl ⟨_,List.mem_singleton.2 rfl,hq⟩,⟨s1,s2,s3,by rw [s4];exact Nat.le_refl _,fun q _ hn=>s5 q (fun e=>hn ⟨_,List.mem_singleton.2 rfl,by subst e;rfl⟩)⟩⟩
theorem J9t {cur vs:List Value} {l news:List Nat} (h:cur.take l.length=J4 J7 l) (hv:vs=J4 J7 news):(Jq cur l.length vs).take (l++news).length=J4 J7 (l++news):=by
 subst hv
 have e1:=J0d (enc:=J7) (k:=1) (fun _=>rfl) news
 have e2:=J0d (enc:=J7) (k:=1) (fun _=>rfl) l
 unfold Jq
 rw [h,J18]
 exact List.take_left' (by rw [List.length_append,List.length_append,e1,e2];omega)
theorem Jfi {cur:List Value} {l:List Nat} {j y:Nat} (h:cur.take l.length=J4 J7 l) (hj:j < l.length):(Jq cur j (J7 y)).take (l.set j y).length=J4 J7 (l.set j y):=by
 have hk:∀ x,(J7 x).length=1:=fun _=>rfl
 rw [List.length_set]
 have e0:=J9L (enc:=J7) (k:=1) (x:=y) hk hj
 rw [Nat.mul_one] at e0
 rw [e0,← h]
 have e4:cur=cur.take l.length++cur.drop l.length:=(List.take_append_drop _ _).symm
 have hlen:(cur.take l.length).length=l.length:=by
  have:=congrArg List.length h
  rw [J0d hk l] at this
  omega
 have e5:j+(J7 y).length≤(cur.take l.length).length:=by rw [hlen,hk y];omega
 have e6:Jq cur j (J7 y)=Jq (cur.take l.length) j (J7 y)++cur.drop l.length:=by
  have:=J6D (B:=cur.drop l.length) e5
  rw [← e4] at this;exact this
 rw [e6]
 exact List.take_left' (by rw [J4W e5,hlen])
theorem JhD {ty:TypeId} {t e bytes:Nat} {z:Value} {s x:Operand} {v xv:Value} {l news:List Nat} {ρ:Operand→Value} (E:ElemT P t e z 1 bytes J7) (A:At w L) (i:Nat) (hL:nth L i=some (owX e v l)) (ho:o.op=.call { callee:=.builtin .append,args:=#[s,x],argTypes:=#[t,t] }) (hty:o.type=ty)
 (hs:ρ s=v) (hx:ρ x=xv) (hnews:RSl 1 (Enc J7 okB) w xv news) (hne:news≠[]) (hbytes:(l.length+news.length) * bytes≤140737488355328) (hok:JP L.length [i]=true) :
 ∃ a n c w',(execOp ρ o).run P w=.ok (.value (.slice a n c)) w'∧n=(l++news).length∧Mv L w ([owX e (.slice a n c) (l++news)]++del L [i]) w':=by
 have hO:OwnX e w v l:=A.ok _ (Jm hL)
 have hO1:=hO
 have hnok:=hnews.allOk
 obtain ⟨g,cap,cur,mk,rfl,h1,h2,h3,h4,h5,h6,h7⟩:=hO
 rcases hnews.cells E.hk E.hT.pos with ⟨c0,rfl,rfl⟩|⟨b,c0,rfl,hc⟩
 ·exact absurd rfl hne
 obtain ⟨inf,hi,hz0,hz1,hz2⟩:=info_parts E.hT.info
 have hok':∀ x ∈ l++news,okB x:=fun x hx'=>(List.mem_append.1 hx').elim (h6 x) (hnok x)
 have hlv:(J4 J7 news).length=news.length * 1:=J0d (enc:=J7) (k:=1) (fun _=>rfl) news
 have hno:l.length+news.length≤maxLen:=by
  have:(l.length+news.length) * 1≤(l.length+news.length) * bytes:=Nat.mul_le_mul_left _ E.by0
  unfold maxLen;omega
 by_cases hr:l.length+news.length≤cap
 ·obtain ⟨m1,m2,m3⟩:=J74 (off:=l.length) (vs:=J4 J7 news) (l':=l++news) A i hL hok zO (by rw [List.length_append];exact hr) (fun cur' q1 q2=>J9t q2 rfl) hok'
  have hrun:=run_append_room_cells (P:=P) w t ty e inf E.ht hi g 0 l.length cap b news.length c0 (J4 J7 news) (by rw [hlv,hz1]) hc (J3v E news) hr (by rw [hz1];intro j hj;first|exact m1 j hj|(simp only [Nat.mul_one];exact m1 j hj)|(simp;done)|simpa using m1 j hj) (by rw [hz1];intro j hj;first|exact m2 j hj|(simp only [Nat.mul_one];exact m2 j hj)|(simp;done)|simpa using m2 j hj)
  rw [hz1] at hrun
  refine ⟨_,_,_,_,?_,?_,m3⟩
  ·subst hty
   simp [execOp,ho,resolve,invoke,builtin,hs,hx,hrun]
  rfl
 obtain ⟨v',w',hrun,hown,hgr⟩:=run_append_arg_grows (P:=P) w t ty e inf z 1 bytes E.ht hi hz0 hz1 hz2 E.hT.zs E.hT.pos ⟨g,0,none⟩ l.length cap (J4 J7 l) (J0d (enc:=J7) (k:=1) (fun _=>rfl) l)
  (fun j u hj=>by
   have hj':j < l.length:=by
    have:=(List.getElem?_eq_some_iff.1 hj).1
    rw [J0d (enc:=J7) (k:=1) (fun _=>rfl) l] at this
    omega
   have hx':l[j]? = some l[j]:=by simp [hj']
   have hf:=J36 (enc:=J7) (k:=1) (fun _=>rfl) l j _ hx' 0 zO
   simp only [Nat.mul_one,Nat.add_zero] at hf
   rw [hj] at hf
   have:u=.int .u8 ((l[j]:Nat):Int):=Option.some.inj hf
   rw [this,J0a,Nat.zero_add]
   exact hO1.cellAt j _ hx') b news.length c0 (J4 J7 news) hlv hc zO hno hbytes
 rcases hown.2 with ⟨_,h0⟩|⟨g',cap',cur',rfl,hb0,hg',hc',hm',hs',ht'⟩
 ·have:news.length≠0:=fun h=>hne (List.eq_nil_of_length_eq_zero h)
  omega
 have hO2:OwnX e w' (.slice (some ⟨g',0,none⟩) (l.length+news.length) cap') (l++news):=
  ⟨g',cap',cur'.toList,(0,0),by rw [List.length_append],by simpa using hg',by rw [List.length_append];exact hc',hm',by simpa using hs',by rw [List.length_append,J18];simpa using ht',hok',.inr rfl⟩
 refine ⟨some ⟨g',0,none⟩,l.length+news.length,cap',w',?_,(List.length_append ..).symm,?_⟩
 ·subst hty
  simp [execOp,ho,resolve,invoke,builtin,hs,hx,hrun]
 have hM:=J5f (w:=w) hO2 (fun q hq=>by
  have:q=g':=by simpa [Value.ownBlock,eq_comm] using hq
  rw [this]
  exact hb0) ((Bl.refl w).grown hgr (Nat.le_refl _) (fun _ h=>by cases h))
 have h9:=At.frame (New:=[owX e (.slice (some ⟨g',0,none⟩) (l.length+news.length) cap') (l++news)]) (A.drop i).at' [] rfl hM
 rw [J19] at h9
 exact (A.drop i).trans h9
theorem J7j {t e bytes:Nat} {z:Value} {s x:Operand} {v xv:Value} {l news:List Nat} (F:Fr n m a) (A:At w L) (i:Nat) (E:ElemT P t e z 1 bytes J7) (hL:nth L i=some (owX e v l)) (hsel:JP L.length [i]=true) (hw:Region.wanted o (yielded ops a.tmps)=true) (hd:o.dst=some d)
 (ho:o.op=.call { callee:=.builtin .append,args:=#[s,x],argTypes:=#[t,t] }) (hp:Nat.blt d n=true) (hs:a.eval s=v) (hx:a.eval x=xv) (hnews:RSl 1 (Enc J7 okB) w xv news) (hne:news≠[]) (hbytes:(l.length+news.length) * bytes≤140737488355328)
 (kk:∀ b q c a' w',Fr n ((d,.slice b q c)::m) a'→Mv L w ([owX e (.slice b q c) (l++news)]++del L [i]) w'→q=(l++news).length→K a' w'):st1 P ops Q o K a w:=by
 obtain ⟨b,q,c,w',h1,h2,h3⟩:=JhD (o:=o) (ρ:=a.eval) E A i hL ho rfl hs hx hnews hne hbytes hsel
 exact J1s hw hd h1 fun _ e'=>kk _ _ _ _ _ (F.put e' hp) h3 h2
theorem Jew {t:TypeId} {e:Nat} {x z:Operand} {g:Bool} {ad:Option Addr} {b q c:Nat} {l:List Nat} {v:Value} (A:At w L) (i:Nat) (j:Nat) (y:Nat) (TT:TI P t g 1) (hL:nth L i=some (owX e (.slice ad q c) l)) (ha:ad=some ⟨b,0,none⟩) (hok:JP L.length [i]=true)
 (hw:Region.wanted o (yielded ops a.tmps)=true) (hd:o.dst=none) (ho:o.op=.store t x z) (hx:a.eval x=.pointer (some ⟨b,0+j * 1,none⟩)) (hz:a.eval z=v) (hv:v.cells.toList=J7 y) (hj:j < q) (hy:okB y)
 (kk:∀ w',Mv L w ([owX e (.slice ad q c) (l.set j y)]++del L [i]) w'→K a w'):st1 P ops Q o K a w:=by
 subst ha
 obtain ⟨g',cap',cur,mk,e1,h1,h2,h3,h4,h5,h6,h7⟩:OwnX e w (.slice (some ⟨b,0,none⟩) q c) l:=A.ok _ (Jm hL)
 cases e1
 obtain ⟨m1,m2,m3⟩:=J74 (off:=j) (vs:=J7 y) (l':=l.set j y) A i hL hok (by show j+1≤_;omega) (by rw [List.length_set];exact h2) (fun cur' q1 q2=>Jfi q2 hj) (fun x hx=>by rcases List.mem_or_eq_of_mem_set hx with h|h;exact h6 x h;exact h ▸ hy)
 rw [List.length_set] at m3
 refine J4K hw hd ?_ (kk _ m3)
 have hst:=run_storeCells_cells (P:=P) b j (J7 y) 0 w (by simpa using m1) (by simpa using m2) (by intro u hu;rcases List.mem_singleton.1 hu with rfl;rfl)
 simp only [Nat.add_zero] at hst
 have hsz:v.cells.size=1:=by rw [← Array.length_toList,hv];rfl
 simp only [execOp,ho,hx,hz,Nat.zero_add,Nat.mul_one,Instr.storeAt,Instr.sureAddr,storeVar,hv,Sem.run_bind,Sem.run_pure,Result.andThen_ok,J4q TT,hsz,ne_eq,not_true_eq_false,↓reduceIte,hst]
theorem JaM {w:World} {e:Nat} (s:ByteArray) (hsz:s.size≤9223372036854775807) (bs:List Nat) (hl:bs.length=s.size) (hb:∀ x ∈ bs,x < 256) (hx:∀ i x,bs[i]? = some x→(s.data.toList.getD i 0).toNat=x):OwnX e (Lib.bytesWorld w e s) (.slice (some ⟨w.heap.size,0,none⟩) s.size (grownCap w s.size 0 e)) bs:=by
 have hge:=grownCap_ge w s.size 0 e
 have hsz2:(Lib.bytesCells w e s).size=grownCap w s.size 0 e:=by
  simp [Lib.bytesCells]
  have:s.data.size=s.size:=rfl
  omega
 refine ⟨w.heap.size,grownCap w s.size 0 e,(Lib.bytesCells w e s).toList,((Lib.bytesCells w e s).size,(Lib.bytesCells w e s).size+1),by rw [hl],by simpa using Lib.bytesWorld_at_new w e s,by rw [hl];exact hge,grownCap_le_maxLen w _ 0 e (by unfold maxLen;omega),by simpa using hsz2,?_,hb,.inl (by rw [hsz2];exact Nat.le_refl _)⟩
 have h1:(Lib.bytesCells w e s).toList=s.data.toList.map (fun b=>Value.int .u8 b.toNat)++List.replicate (grownCap w s.size 0 e - s.size) (.int .u8 0):=by
  simp [Lib.bytesCells]
 rw [h1,List.take_left' (by rw [List.length_map,hl];rfl)]
 have h2:∀ bs:List Nat,J4 J7 bs=bs.map (fun x=>Value.int .u8 ((x:Nat):Int)):=by
  intro bs
  unfold J4 J7
  induction bs with
  | nil=>rfl
  | cons x l ih=>simpa using ih
 rw [h2]
 apply List.ext_getElem?
 intro i
 rw [List.getElem?_map,List.getElem?_map]
 by_cases hi:i < bs.length
 ·have e1:=hx i bs[i] (by simp [hi])
  have hi2:i < s.data.toList.length:=by
   have:s.data.toList.length=s.size:=rfl
   omega
  rw [List.getD_eq_getElem?_getD,List.getElem?_eq_getElem hi2] at e1
  rw [List.getElem?_eq_getElem hi,List.getElem?_eq_getElem hi2]
  simp only [Option.map_some,← e1,Option.getD_some]
 have hi2:¬ i < s.data.toList.length:=by
  have:s.data.toList.length=s.size:=rfl
  omega
 rw [List.getElem?_eq_none zO,List.getElem?_eq_none zO]
 rfl
end
theorem J8n (s:ByteArray) (l:List Nat) (h:l=s.data.toList.map (·.toNat)):Lib.strCells s=J4 J7 l:=by
 subst h
 have h2:∀ bs:List Nat,J4 J7 bs=bs.map (fun x=>Value.int .u8 ((x:Nat):Int)):=by
  intro bs
  unfold J4 J7
  induction bs with
  | nil=>rfl
  | cons x l ih=>simpa using ih
 rw [h2,List.map_map]
 rfl
section
variable {P:Program} {ops:Array Oper} {Q:Exit→Act→World→Prop} {K:Act→World→Prop} {o:Oper} {a:Act} {w:World} {L:List Atom} {d n:Nat} {m:List (Nat × Value)}
theorem Jcf {t u ty e:TypeId} {i:TypeInfo} (ht:P.underlying t=some (.slice e)) (hu:P.underlying u=some .string) (hi:P.info? e=some i) (hs1:i.size=1)
 (g sLen sCap:Nat) (s:ByteArray) (hroom:sLen+s.size≤sCap) (m1:∀ j,j < (Lib.strCells s).length→(w.cell? ⟨g,sLen+j,none⟩).isSome=true) (m2:∀ j,j < (Lib.strCells s).length→w.frozen? ⟨g,sLen+j,none⟩=false) :
 (Builtin.append_ #[t,u] ty #[.slice (some ⟨g,0,none⟩) sLen sCap,.string s]).run P w=.ok (.slice (some ⟨g,0,none⟩) (sLen+s.size) sCap) (w.setCells g sLen (Lib.strCells s)):=by
 have hf:=Lib.run_firstCells_string (P:=P) w 1 s
 have hst:=run_storeCells_cells (P:=P) g sLen (Lib.strCells s) 0 w (by simpa using m1) (by simpa using m2) (Lib.strCells_oneCell s)
 simp only [Nat.add_zero] at hst
 simp [Builtin.append_,run_underlying ht,run_underlying hu,sizeOf,typeInfo,hi,hs1,Builtin.lenOf,hroom,hf,Addr.add_lit,hst]
theorem JgH {ty:TypeId} {t u e bytes:Nat} {z:Value} {s x:Operand} {v:Value} {l bs:List Nat} {q:ByteArray} {ρ:Operand→Value} (E:ElemT P t e z 1 bytes J7) (hu:P.underlying u=some .string) (hz:z=.int .u8 0) (hby:bytes=1) (A:At w L) (i:Nat) (hL:nth L i=some (owX e v l)) (ho:o.op=.call { callee:=.builtin .append,args:=#[s,x],argTypes:=#[t,u] }) (hty:o.type=ty)
 (hs:ρ s=v) (hx:ρ x=.string q) (hbs:bs=q.data.toList.map (·.toNat)) (hbytes:l.length+q.size≤140737488355328) (hok:JP L.length [i]=true) :
 ∃ a n c w',(execOp ρ o).run P w=.ok (.value (.slice a n c)) w'∧n=(l++bs).length∧Mv L w ([owX e (.slice a n c) (l++bs)]++del L [i]) w':=by
 have hO:OwnX e w v l:=A.ok _ (Jm hL)
 have hO1:=hO
 obtain ⟨g,cap,cur,mk,rfl,h1,h2,h3,h4,h5,h6,h7⟩:=hO
 obtain ⟨inf,hi,hz0,hz1,hz2⟩:=info_parts E.hT.info
 have hsc:=J8n q bs hbs
 have hbl:bs.length=q.size:=by rw [hbs,List.length_map];rfl
 have hb8:∀ y ∈ bs,okB y:=fun y hy=>by
  rw [hbs] at hy
  obtain ⟨c,_,rfl⟩:=List.mem_map.1 hy
  exact c.toNat_lt
 have hok':∀ y ∈ l++bs,okB y:=fun y hy=>(List.mem_append.1 hy).elim (h6 y) (hb8 y)
 have hcl:(Lib.strCells q).length=q.size:=Lib.strCells_length q
 by_cases hr:l.length+q.size≤cap
 ·obtain ⟨m1,m2,m3⟩:=J74 (off:=l.length) (vs:=Lib.strCells q) (l':=l++bs) A i hL hok zO (by rw [List.length_append];omega) (fun cur' q1 q2=>by rw [hsc];exact J9t q2 rfl) hok'
  have hrun:=Jcf (P:=P) (ty:=ty) E.ht hu hi hz1 g l.length cap q hr m1 m2
  refine ⟨_,_,_,_,?_,?_,m3⟩
  ·subst hty
   have e1:(l++bs).length=l.length+q.size:=by rw [List.length_append,hbl]
   rw [e1]
   simp [execOp,ho,resolve,invoke,builtin,hs,hx,hrun]
  rfl
 have hcells:∀ j u,(J4 J7 l)[j]? = some u→w.cell? ((⟨g,0,none⟩:Addr).add j)=some u:=fun j u hj=>by
  have hj':j < l.length:=by
   have:=(List.getElem?_eq_some_iff.1 hj).1
   rw [J0d (enc:=J7) (k:=1) (fun _=>rfl) l] at this
   omega
  have hx':l[j]? = some l[j]:=by simp [hj']
  have hf:=J36 (enc:=J7) (k:=1) (fun _=>rfl) l j _ hx' 0 zO
  simp only [Nat.mul_one,Nat.add_zero] at hf
  rw [hj] at hf
  have:u=.int .u8 ((l[j]:Nat):Int):=Option.some.inj hf
  rw [this,J0a,Nat.zero_add]
  exact hO1.cellAt j _ hx'
 have hrun:=Lib.run_append_grow_string (P:=P) w t u ty e inf z E.ht hu hi hz0 ⟨g,0,none⟩ l.length cap (J4 J7 l) (by rw [hz1,J0d (enc:=J7) (k:=1) (fun _=>rfl) l]) hcells q zO zO (by rw [hz2,hby];exact growslice_fits zO zO)
 have hge:=grownCap_ge w (l.length+q.size) cap e
 have hcm:grownCap w (l.length+q.size) cap e≤maxLen:=grownCap_le_maxLen w (l.length+q.size) cap e (by unfold maxLen;omega)
 have hfl:(J4 J7 l).length=l.length:=by rw [J0d (enc:=J7) (k:=1) (fun _=>rfl) l,Nat.mul_one]
 have hO2:OwnX e (w.drew.alloc (.cells ((J4 J7 l).toArray++(Lib.strCells q).toArray++Builtin.zeroCells z.cells (grownCap w (l.length+q.size) cap e - (l.length+q.size))) e)) (.slice (some ⟨w.heap.size,0,none⟩) (l.length+q.size) (grownCap w (l.length+q.size) cap e)) (l++bs):=by
  refine ⟨w.heap.size,_,((J4 J7 l).toArray++(Lib.strCells q).toArray++Builtin.zeroCells z.cells (grownCap w (l.length+q.size) cap e - (l.length+q.size))).toList,(0,0),by rw [List.length_append,hbl],by rw [Array.toArray_toList];exact heap_alloc_new w.drew _,by rw [List.length_append,hbl];exact hge,hcm,?_,?_,hok',.inr rfl⟩
  ·have hz9:z.cells.size=1:=by rw [hz];rfl
   simp only [Array.length_toList,Array.size_append,List.size_toArray,size_zeroCells,hz9,hfl,Lib.strCells_length]
   omega
  rw [List.length_append,hbl,J18,← hsc]
  simp only [Array.toList_append,List.append_assoc]
  rw [← List.append_assoc]
  exact List.take_left' (by rw [List.length_append,hfl,Lib.strCells_length])
 refine ⟨some ⟨w.heap.size,0,none⟩,l.length+q.size,grownCap w (l.length+q.size) cap e,w.drew.alloc (.cells ((J4 J7 l).toArray++(Lib.strCells q).toArray++Builtin.zeroCells z.cells (grownCap w (l.length+q.size) cap e - (l.length+q.size))) e),?_,by rw [List.length_append,hbl],?_⟩
 ·subst hty
  simp [execOp,ho,resolve,invoke,builtin,hs,hx,hrun]
 have hM:=J5f (w:=w) hO2 (fun b hb=>by
  have:b=w.heap.size:=by simpa [Value.ownBlock,eq_comm] using hb
  rw [this];exact Nat.le_refl _) ⟨rfl,rfl,rfl,by simp,fun k hk=>heap_alloc_old w.drew _ hk⟩
 have h9:=At.frame (New:=[owX e (.slice (some ⟨w.heap.size,0,none⟩) (l.length+q.size) (grownCap w (l.length+q.size) cap e)) (l++bs)]) (A.drop i).at' [] rfl hM
 rw [J19] at h9
 exact (A.drop i).trans h9
theorem Jal {t u e bytes:Nat} {z:Value} {s x:Operand} {v:Value} {l bs:List Nat} {q:ByteArray} (F:Fr n m a) (A:At w L) (i:Nat) (E:ElemT P t e z 1 bytes J7) (hu:P.underlying u=some .string) (hz:z=.int .u8 0) (hby:bytes=1) (hL:nth L i=some (owX e v l)) (hsel:JP L.length [i]=true) (hw:Region.wanted o (yielded ops a.tmps)=true) (hd:o.dst=some d)
 (ho:o.op=.call { callee:=.builtin .append,args:=#[s,x],argTypes:=#[t,u] }) (hp:Nat.blt d n=true) (hs:a.eval s=v) (hx:a.eval x=.string q) (hbs:bs=q.data.toList.map (·.toNat)) (hbytes:l.length+q.size≤140737488355328)
 (kk:∀ b q' c a' w',Fr n ((d,.slice b q' c)::m) a'→Mv L w ([owX e (.slice b q' c) (l++bs)]++del L [i]) w'→q'=(l++bs).length→K a' w'):st1 P ops Q o K a w:=by
 obtain ⟨b,q',c,w',h1,h2,h3⟩:=JgH (o:=o) (ρ:=a.eval) E hu hz hby A i hL ho rfl hs hx hbs hbytes hsel
 exact J1s hw hd h1 fun _ e'=>kk _ _ _ _ _ (F.put e' hp) h3 h2
end
def OwnB (e:Nat) (w:World) (v:Value) (l:List Nat):Prop:=
 (v=.slice none 0 0∧l=[])∨∃ (g cap:Nat) (cur:List Value) (mk:Nat × Nat),v=.slice (some ⟨g,0,none⟩) l.length cap∧w.heap[g]? = some (.cells cur.toArray e mk)∧l.length≤cap∧cap≤maxLen∧1≤cap∧cur.length=cap∧cur.take l.length=J4 J7 l∧(∀ x ∈ l,okB x)∧mk.2≤l.length
theorem OwnB.same {e:Nat} {w w':World} {v:Value} {l:List Nat} (h:OwnB e w v l) (hb:∀ b,v.ownBlock=some b→w'.heap[b]? = w.heap[b]?):OwnB e w' v l:=by
 rcases h with h|⟨g,cap,cur,mk,rfl,h1,h2⟩
 ·exact .inl h
 exact .inr ⟨g,cap,cur,mk,rfl,(hb g rfl).trans h1,h2⟩
theorem OwnB.lt {e:Nat} {w:World} {v:Value} {l:List Nat} (h:OwnB e w v l) {b:Nat} (hb:v.ownBlock=some b):b < w.heap.size:=by
 rcases h with ⟨rfl,_⟩|⟨g,cap,cur,mk,rfl,h1,h2⟩
 ·cases hb
 have:g=b:=Option.some.inj hb
 subst this
 exact (Array.getElem?_eq_some_iff.1 h1).1
def owB (e:Nat) (v:Value) (l:List Nat):Atom where
 fp:=fun c=>v.ownBlock=some c
 ok:=fun w=>OwnB e w v l
 st:=fun _ _ h k=>k.same h
theorem OwnB.inv {e:Nat} {w:World} {a:Option Addr} {n c:Nat} {l:List Nat} (h:OwnB e w (.slice a n c) l):n=l.length∧n≤c∧c≤9223372036854775807:=by
 rcases h with ⟨h,rfl⟩|⟨g,cap,cur,mk,h,h1,h2,h3,_⟩
 ·cases h;exact ⟨rfl,Nat.le_refl _,by decide⟩
 cases h;exact ⟨rfl,h2,by unfold maxLen at h3;exact h3⟩
theorem At.ownInvB {e:Nat} {w:World} {L:List Atom} {a:Option Addr} {n c:Nat} {l:List Nat} (h:At w L) (i:Nat) (hL:nth L i=some (owB e (.slice a n c) l)):n=l.length∧n≤c∧c≤9223372036854775807:=OwnB.inv (h.ok _ (Jm hL))
theorem Jgu {w:World} {L:List Atom} (A:At w L) (e:Nat):Mv L w (owB e (.slice none 0 0) []::L) w:=by
 have hM:Mv [] w [owB e (.slice none 0 0) []] w:=Bl.mv_new (At.one (show OwnB e w (.slice none 0 0) [] from .inl ⟨rfl,rfl⟩) (fun b hb=>by cases hb)) (fun b ⟨B,hB,hb⟩=>by rcases List.mem_singleton.1 hB with rfl;cases hb) (Bl.refl w)
 have:=At.frame (New:=[owB e (.slice none 0 0) []]) A [] rfl hM
 rw [J19] at this
 exact this
theorem OwnB.cellAt {e:Nat} {w:World} {g n cap:Nat} {l:List Nat} (h:OwnB e w (.slice (some ⟨g,0,none⟩) n cap) l) (i:Nat) (x:Nat) (hx:l[i]? = some x):w.cell? ⟨g,i,none⟩=some (.int .u8 ((x:Nat):Int)):=by
 rcases h with ⟨h,_⟩|⟨g',cap',cur,mk,e1,h1,h2,h3,h0,h4,h5,h6,h7⟩
 ·cases h
 cases e1
 have hi:i < l.length:=(List.getElem?_eq_some_iff.1 hx).1
 have hf:=J36 (enc:=J7) (k:=1) (fun _=>rfl) l i x hx 0 zO
 have hc:cur[i]? = some (.int .u8 ((x:Nat):Int)):=by
  have h8:(cur.take l.length)[i]? = cur[i]?:=by rw [List.getElem?_take,if_pos hi]
  rw [← h8,h5]
  simpa [J7] using hf
 simp [World.cell?,h1,hc]
section
variable {P:Program} {ops:Array Oper} {Q:Exit→Act→World→Prop} {K:Act→World→Prop} {o:Oper} {a:Act} {w:World} {L:List Atom} {d n:Nat} {m:List (Nat × Value)}
theorem JeZ {e:Nat} {w w':World} {v:Value} {l:List Nat} (hO:OwnB e w' v l) (hf:∀ b ∈ v.ownBlock.toList,w.heap.size≤b) (hb:Bl w w'):Mv [] w [owB e v l] w':=
 Bl.mv_new (At.one hO (fun b hb=>hO.lt hb)) (fun b ⟨B,hB,hb⟩=>by rcases List.mem_singleton.1 hB with rfl;have h:v.ownBlock=some b:=hb;exact hf b (by simp [h])) hb
theorem J73 {e g cap:Nat} {l l':List Nat} {w':World} {cur':List Value} {mk':Nat × Nat} (A:At w L) (i:Nat) (hL:nth L i=some (owB e (.slice (some ⟨g,0,none⟩) l.length cap) l)) (hsel:JP L.length [i]=true)
 (hh:w'.heap[g]? = some (.cells cur'.toArray e mk')) (ho:w'.os=w.os∧w'.tape=w.tape∧w'.output=w.output∧w'.heap.size=w.heap.size) (hq:∀ q,q≠g→w'.heap[q]? = w.heap[q]?)
 (hl:l'.length≤cap) (hcl:cur'.length=cap) (hc:cur'.take l'.length=J4 J7 l') (hok:∀ x ∈ l',okB x) (hm:mk'.2≤l'.length):Mv L w ([owB e (.slice (some ⟨g,0,none⟩) l'.length cap) l']++del L [i]) w':=by
 have hO:OwnB e w (.slice (some ⟨g,0,none⟩) l.length cap) l:=A.ok _ (Jm hL)
 have hlt:=hO.lt (b:=g) rfl
 obtain ⟨s1,s2,s3,s4⟩:=ho
 refine A.frame [i] hsel ?_
 have e2:sel L [i]=[owB e (.slice (some ⟨g,0,none⟩) l.length cap) l]:=by simp [sel,hL]
 rw [e2]
 have hcap:cap≤maxLen∧1≤cap:=by
  rcases hO with ⟨h,_⟩|⟨g',cap',cur,mk,e1,h1,h2,h3,h0,_⟩
  ·cases h
  cases e1;exact ⟨h3,h0⟩
 have hO2:OwnB e w' (.slice (some ⟨g,0,none⟩) l'.length cap) l':=.inr ⟨g,cap,cur',mk',rfl,hh,hl,hcap.1,hcap.2,hcl,hc,hok,hm⟩
 exact ⟨At.one hO2 (fun q hq=>by have h:some g=some q:=hq;cases h;rw [s4];exact hlt),fun q ⟨B,hB,hq⟩=>by rcases List.mem_singleton.1 hB with rfl;exact .inl ⟨_,List.mem_singleton.2 rfl,hq⟩,⟨s1,s2,s3,by rw [s4];exact Nat.le_refl _,fun q _ hn=>hq q (fun e=>hn ⟨_,List.mem_singleton.2 rfl,by subst e;rfl⟩)⟩⟩
theorem JgG {ty:TypeId} {t u e bytes:Nat} {z:Value} {s x:Operand} {v:Value} {l bs:List Nat} {q:ByteArray} {ρ:Operand→Value} (E:ElemT P t e z 1 bytes J7) (hu:P.underlying u=some .string) (hz:z=.int .u8 0) (hby:bytes=1) (A:At w L) (i:Nat) (hL:nth L i=some (owB e v l)) (ho:o.op=.call { callee:=.builtin .append,args:=#[s,x],argTypes:=#[t,u] }) (hty:o.type=ty)
 (hs:ρ s=v) (hx:ρ x=.string q) (hbs:bs=q.data.toList.map (·.toNat)) (hbytes:l.length+q.size≤140737488355328) (hok:JP L.length [i]=true) :
 ∃ a n c w',(execOp ρ o).run P w=.ok (.value (.slice a n c)) w'∧n=(l++bs).length∧Mv L w ([owB e (.slice a n c) (l++bs)]++del L [i]) w':=by
 have hO:OwnB e w v l:=A.ok _ (Jm hL)
 have hO1:=hO
 obtain ⟨inf,hi,hz0,hz1,hz2⟩:=info_parts E.hT.info
 have hsc:=J8n q bs hbs
 have hbl:bs.length=q.size:=by rw [hbs,List.length_map];rfl
 have hb8:∀ y ∈ bs,okB y:=fun y hy=>by
  rw [hbs] at hy
  obtain ⟨c,_,rfl⟩:=List.mem_map.1 hy
  exact c.toNat_lt
 have hcl:(Lib.strCells q).length=q.size:=Lib.strCells_length q
 have hfl:(J4 J7 l).length=l.length:=by rw [J0d (enc:=J7) (k:=1) (fun _=>rfl) l,Nat.mul_one]
 have fresh:∀ (w':World) (cap':Nat) (cs:Array Value),(∀ y ∈ l++bs,okB y)→w'.heap[w.heap.size]? = some (.cells cs e (0,0))→Bl w w'→l.length+q.size≤cap'→cap'≤maxLen→1≤cap'→cs.size=cap'→cs.toList.take (l.length+q.size)=J4 J7 (l++bs)→Mv L w ([owB e (.slice (some ⟨w.heap.size,0,none⟩) (l.length+q.size) cap') (l++bs)]++del L [i]) w':=fun w' cap' cs hok' hh hbl' g1 g2 g0 g3 g4=>by
  have e1:(l++bs).length=l.length+q.size:=by rw [List.length_append,hbl]
  have hO2:OwnB e w' (.slice (some ⟨w.heap.size,0,none⟩) (l.length+q.size) cap') (l++bs):=.inr ⟨w.heap.size,cap',cs.toList,(0,0),by rw [e1],by simpa using hh,zO,g2,g0,by simpa using g3,by rw [e1];exact g4,hok',Nat.zero_le _⟩
  have hM:=JeZ (w:=w) hO2 (fun b hb=>by
   have:b=w.heap.size:=by simpa [Value.ownBlock,eq_comm] using hb
   rw [this];exact Nat.le_refl _) hbl'
  have h9:=At.frame (New:=[owB e (.slice (some ⟨w.heap.size,0,none⟩) (l.length+q.size) cap') (l++bs)]) (A.drop i).at' [] rfl hM
  rw [J19] at h9
  exact (A.drop i).trans h9
 have hz9:z.cells.size=1:=by rw [hz];rfl
 rcases hO with ⟨rfl,rfl⟩|⟨g,cap,cur,mk,rfl,h1,h2,h3,h0,h4,h5,h6,h7⟩
 ·by_cases hq0:q.size=0
  ·have hb0:bs=[]:=List.eq_nil_of_length_eq_zero zO
   subst hb0
   have hrun:(Builtin.append_ #[t,u] ty #[.slice none 0 0,.string q]).run P w=.ok (.slice none 0 0) w:=by
    have hf:=Lib.run_firstCells_string (P:=P) w 1 q
    rw [hq0] at hf
    simp [Builtin.append_,run_underlying E.ht,run_underlying hu,sizeOf,typeInfo,hi,hz1,Builtin.lenOf,hq0,hf]
   refine ⟨none,0,0,w,?_,rfl,?_⟩
   ·subst hty
    simp [execOp,ho,resolve,invoke,builtin,hs,hx,hrun]
   have e2:sel L [i]=[owB e (.slice none 0 0) []]:=by simp [sel,hL]
   exact A.frame [i] hok (by rw [e2];exact Mv.refl (e2 ▸ A.pick hok))
  have hrun:=run_append_nil_string (P:=P) w t u ty e inf z E.ht hu hi hz0 q zO zO (by rw [hz2,hby];omega)
  have hge:=grownCap_ge w q.size 0 e
  have hcm:grownCap w q.size 0 e≤maxLen:=grownCap_le_maxLen w q.size 0 e (by unfold maxLen;omega)
  have hsl:(q.data.map (fun b=>Value.int .u8 b.toNat)).toList=Lib.strCells q:=by simp [Lib.strCells]
  refine ⟨some ⟨w.heap.size,0,none⟩,q.size,grownCap w q.size 0 e,w.drew.alloc (.cells (q.data.map (fun b=>Value.int .u8 b.toNat)++Builtin.zeroCells z.cells (grownCap w q.size 0 e - q.size)) e),?_,by rw [List.nil_append,hbl],?_⟩
  ·subst hty
   simp [execOp,ho,resolve,invoke,builtin,hs,hx,hrun]
  have:=fresh _ _ _ (fun y hy=>hb8 y (by simpa using hy)) (heap_alloc_new w.drew (.cells (q.data.map (fun b=>Value.int .u8 b.toNat)++Builtin.zeroCells z.cells (grownCap w q.size 0 e - q.size)) e)) ⟨rfl,rfl,rfl,by simp,fun k hk=>heap_alloc_old w.drew _ hk⟩ (by simpa using hge) hcm zO
   (by simp only [Array.size_append,Array.size_map,size_zeroCells,hz9];have e9:q.data.size=q.size:=rfl;omega)
   (by rw [Array.toList_append,hsl,List.nil_append,← hsc];exact List.take_left' (by rw [hcl];simp))
  simpa using this
 have hok':∀ y ∈ l++bs,okB y:=fun y hy=>(List.mem_append.1 hy).elim (h6 y) (hb8 y)
 by_cases hr:l.length+q.size≤cap
 ·have hrun:=Lib.run_append_room_stringF (P:=P) w t u ty e inf E.ht hu hi hz1 g l.length cap cur.toArray mk h1 h7 q hr (by simpa using (by omega:l.length+q.size≤cur.length))
  have e1:(l++bs).length=l.length+q.size:=by rw [List.length_append,hbl]
  refine ⟨some ⟨g,0,none⟩,l.length+q.size,cap,w.setRow g (cur.take l.length++Lib.strCells q++cur.drop (l.length+q.size)).toArray,?_,e1.symm,?_⟩
  ·subst hty
   simp [execOp,ho,resolve,invoke,builtin,hs,hx,hrun]
  have hmv:Mv L w ([owB e (.slice (some ⟨g,0,none⟩) (l++bs).length cap) (l++bs)]++del L [i]) (w.setRow g (cur.take l.length++Lib.strCells q++cur.drop (l.length+q.size)).toArray):=by
   refine J73 A i hL hok (cur':=cur.take l.length++Lib.strCells q++cur.drop (l.length+q.size)) (mk':=mk) (setRow_heap w g cur.toArray _ e _ h1) ⟨rfl,rfl,rfl,by simp⟩ (fun k hk=>setRow_other w g k _ hk) zO ?_ ?_ hok' zO
   ·rw [List.length_append,List.length_append,List.length_take,List.length_drop,hcl];omega
   rw [h5,hsc,e1,J18]
   exact List.take_left' (by rw [List.length_append,hfl,← hsc,hcl])
  rwa [e1] at hmv
 have hcells:∀ j u,(J4 J7 l)[j]? = some u→w.cell? ((⟨g,0,none⟩:Addr).add j)=some u:=fun j u hj=>by
  have hj':j < l.length:=by
   have:=(List.getElem?_eq_some_iff.1 hj).1
   omega
  have hx':l[j]? = some l[j]:=by simp [hj']
  have hf:=J36 (enc:=J7) (k:=1) (fun _=>rfl) l j _ hx' 0 zO
  simp only [Nat.mul_one,Nat.add_zero] at hf
  rw [hj] at hf
  have:u=.int .u8 ((l[j]:Nat):Int):=Option.some.inj hf
  rw [this,J0a,Nat.zero_add]
  exact hO1.cellAt j _ hx'
 have hrun:=Lib.run_append_grow_string (P:=P) w t u ty e inf z E.ht hu hi hz0 ⟨g,0,none⟩ l.length cap (J4 J7 l) (by rw [hz1,hfl,Nat.mul_one]) hcells q zO zO (by rw [hz2,hby];exact growslice_fits zO zO)
 have hge:=grownCap_ge w (l.length+q.size) cap e
 have hcm:grownCap w (l.length+q.size) cap e≤maxLen:=grownCap_le_maxLen w (l.length+q.size) cap e (by unfold maxLen;omega)
 refine ⟨some ⟨w.heap.size,0,none⟩,l.length+q.size,grownCap w (l.length+q.size) cap e,w.drew.alloc (.cells ((J4 J7 l).toArray++(Lib.strCells q).toArray++Builtin.zeroCells z.cells (grownCap w (l.length+q.size) cap e - (l.length+q.size))) e),?_,by rw [List.length_append,hbl],?_⟩
 ·subst hty
  simp [execOp,ho,resolve,invoke,builtin,hs,hx,hrun]
 exact fresh _ _ _ hok' (heap_alloc_new w.drew _) ⟨rfl,rfl,rfl,by simp,fun k hk=>heap_alloc_old w.drew _ hk⟩ hge hcm zO
  (by simp only [Array.size_append,List.size_toArray,size_zeroCells,hz9,hfl,Lib.strCells_length];omega)
  (by simp only [Array.toList_append,List.append_assoc];rw [← List.append_assoc,J18,← hsc];exact List.take_left' (by rw [List.length_append,hfl,hcl]))
theorem Jak {t u e bytes:Nat} {z:Value} {s x:Operand} {v:Value} {l bs:List Nat} {q:ByteArray} (F:Fr n m a) (A:At w L) (i:Nat) (E:ElemT P t e z 1 bytes J7) (hu:P.underlying u=some .string) (hz:z=.int .u8 0) (hby:bytes=1) (hL:nth L i=some (owB e v l)) (hsel:JP L.length [i]=true) (hw:Region.wanted o (yielded ops a.tmps)=true) (hd:o.dst=some d)
 (ho:o.op=.call { callee:=.builtin .append,args:=#[s,x],argTypes:=#[t,u] }) (hp:Nat.blt d n=true) (hs:a.eval s=v) (hx:a.eval x=.string q) (hbs:bs=q.data.toList.map (·.toNat)) (hbytes:l.length+q.size≤140737488355328)
 (kk:∀ b q' c a' w',Fr n ((d,.slice b q' c)::m) a'→Mv L w ([owB e (.slice b q' c) (l++bs)]++del L [i]) w'→q'=(l++bs).length→K a' w'):st1 P ops Q o K a w:=by
 obtain ⟨b,q',c,w',h1,h2,h3⟩:=JgG (o:=o) (ρ:=a.eval) E hu hz hby A i hL ho rfl hs hx hbs hbytes hsel
 exact J1s hw hd h1 fun _ e'=>kk _ _ _ _ _ (F.put e' hp) h3 h2
theorem Jea {g e n:Nat} {cur:Array Value} {mk:Nat × Nat} (h:w.heap[g]? = some (.cells cur e mk)) (hm:mk.2≤n) (hn:n≠0):∃ mk',(w.freeze ⟨g,0,none⟩ n).heap[g]? = some (.cells cur e mk')∧mk'.2≤n:=by
 unfold World.freeze
 rw [if_neg hn]
 refine ⟨if mk.1 == mk.2 then (0,0+n) else (min mk.1 0,max mk.2 (0+n)),?_,?_⟩
 ·show (w.heap.modify g _)[g]? = _
  rw [Array.getElem?_modify,if_pos rfl,h]
  rfl
 split
 ·show 0+n≤n;omega
 show max mk.2 (0+n)≤n;omega
theorem Jdx {g n q:Nat} (hq:q≠g):(w.freeze ⟨g,0,none⟩ n).heap[q]? = w.heap[q]?:=by
 unfold World.freeze
 split
 ·rfl
 show (w.heap.modify g _)[q]? = _
 rw [Array.getElem?_modify,if_neg (Ne.symm hq)]
theorem JfE {e:Nat} {v:Value} {l:List Nat} (A:At w L) (i:Nat) {g cap:Nat} (hv:v=.slice (some ⟨g,0,none⟩) l.length cap) (hL:nth L i=some (owB e v l)) (hsel:JP L.length [i]=true):Mv L w ([owB e v l]++del L [i]) (w.freeze ⟨g,0,none⟩ l.length):=by
 subst hv
 have hO:OwnB e w (.slice (some ⟨g,0,none⟩) l.length cap) l:=A.ok _ (Jm hL)
 rcases hO with ⟨h,_⟩|⟨g',cap',cur,mk,e1,h1,h2,h3,h0,h4,h5,h6,h7⟩
 ·cases h
 cases e1
 by_cases hn:l.length=0
 ·have e0:w.freeze ⟨g,0,none⟩ l.length=w:=by unfold World.freeze;rw [if_pos hn]
  rw [e0]
  exact J73 A i hL hsel h1 ⟨rfl,rfl,rfl,rfl⟩ (fun _ _=>rfl) h2 h4 h5 h6 h7
 obtain ⟨mk',g1,g2⟩:=Jea h1 h7 hn
 refine J73 A i hL hsel g1 ⟨?_,?_,?_,?_⟩ (fun q hq=>Jdx hq) h2 h4 h5 h6 g2 <;> (unfold World.freeze;rw [if_neg hn])
 simp
end
end Go.Proofs.YtipdbeklopjbmaaGreatDoor
