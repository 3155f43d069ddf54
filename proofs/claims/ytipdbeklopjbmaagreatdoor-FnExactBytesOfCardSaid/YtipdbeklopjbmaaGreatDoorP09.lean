/-
  Texts laid together: DatRc, DatUn, DatVd, DatCa, DatCb.
-/
import Derived.Test.YtipdbeklopjbmaaGreatDoorP07
import Derived.Test.YtipdbeklopjbmaaGreatDoorP08
set_option linter.unusedVariables false
set_option linter.unusedSimpArgs false
namespace Go.Proofs.YtipdbeklopjbmaaGreatDoor
open Go.ChangeShapes Go.WideShapes Go.ChangeAt Go.RowKit
set_option maxRecDepth 100000
set_option maxHeartbeats 1000000
section
end
section
variable {P:Program} {ops:Array Oper} {Q:Exit→Act→World→Prop} {K:Act→World→Prop} {o:Oper} {a:Act} {w:World} {L:List Atom} {d n:Nat} {m:List (Nat × Value)}
theorem f_sbytesX {src dst e:TypeId} {u:TypeDesc} {s:ByteArray} {x:Operand} (F:Fr n m a) (A:At w L) (hs:P.underlying src=some u) (hdt:P.underlying dst=some (.slice e)) (he:P.underlying e=some (.int .u8)) (hw:Region.wanted o (yielded ops a.tmps)=true) (hd:o.dst=some d) (ho:o.op=.convert src dst x) (hp:Nat.blt d n=true) (hx:a.eval x=.string s) (hz:s.size≤9223372036854775807)
 (kk:∀ b q c a' w',Fr n ((d,.slice (some ⟨b,0,none⟩) q c)::m) a'→Mv L w (owX e (.slice (some ⟨b,0,none⟩) q c) (bytesN s)::L) w'→q=s.size→K a' w'):st1 P ops Q o K a w:=by
 have hO:=bytesX (w:=w) (e:=e) s hz (bytesN s) (bytesN_length s) (bytesN_lt s) (fun i x hx=>by
  unfold bytesN at hx
  rw [List.getElem?_map] at hx
  unfold List.getD
  cases hq:s.data.toList[i]? with
  | none=>rw [hq] at hx;cases hx
  | some y=>rw [hq] at hx;cases hx;rfl)
 have hM:=At.frame (New:=[owX e (.slice (some ⟨w.heap.size,0,none⟩) s.size (grownCap w s.size 0 e)) (bytesN s)]) A [] rfl (mv_freshX (w:=w) hO (fun b hb=>by
  have:b=w.heap.size:=by simpa [Value.ownBlock,eq_comm] using hb
  rw [this];exact Nat.le_refl _) (Lib.bytesWorld_below w e s))
 rw [del_none] at hM
 refine s_valw hw hd (v:=.slice (some ⟨w.heap.size,0,none⟩) s.size (grownCap w s.size 0 e)) (w':=Lib.bytesWorld w e s) ?_ fun _ e'=>kk _ _ _ _ _ (F.put e' hp) hM rfl
 simp [execOp,ho,hx,Lib.run_convert_string_bytes w src dst e s hs hdt he,Result.andThen]
end
def sumN (l:List Nat):Nat:=l.foldl (fun n c=>(31 * n+c) % 9973) 7
theorem sumN_lt {l:List Nat} : sumN l < 9973:=by
 unfold sumN
 have:∀ (l:List Nat) (n:Nat),n < 9973→l.foldl (fun n c=>(31 * n+c) % 9973) n < 9973:=by
  intro l
  induction l with
  | nil=>exact fun n h=>h
  | cons x l ih=>exact fun n _=>ih _ (Nat.mod_lt _ (by decide))
 exact this l 7 (by decide)
def wordN (c:CellD):List Nat:=bytesN (hexS c.key)++61::bytesN (hexS c.val)
def recN (seq:Int) (list:List CellD):List Nat:=bytesN (decS seq)++list.flatMap (fun c=>32::wordN c)
def recS (seq:Int) (list:List CellD):ByteArray:=bstr (recN seq list)++(⟨#[32,35]⟩:ByteArray)++decS ((sumN (recN seq list):Nat):Int)++(⟨#[10]⟩:ByteArray)
def cellB (c:CellD):Bool:=keyOk c.key && decide (c.val.size≤60)
def recT (seq:Int) (list:List CellD):ByteArray:=if inB seq 1 100000=true∧list.all cellB=true∧(recS seq list).size≤4000 then recS seq list else ⟨#[]⟩
theorem recN_snoc {seq:Int} {list:List CellD} {k:Nat} {c:CellD} (h:nth list k=some c):recN seq (list.take (k+1))=recN seq (list.take k)++(32::wordN c):=by
 unfold recN
 rw [nth_take_snoc h,List.flatMap_append,List.append_assoc]
 simp
theorem recN_take (seq:Int) (list:List CellD) (k:Nat):(recN seq (list.take k)).length≤(recN seq list).length:=by
 unfold recN
 rw [List.length_append,List.length_append]
 have:(list.flatMap (fun c=>32::wordN c))=((list.take k).flatMap (fun c=>32::wordN c))++((list.drop k).flatMap (fun c=>32::wordN c)):=by
  rw [← List.flatMap_append,List.take_append_drop]
 rw [this,List.length_append];omega
theorem recS_size (seq:Int) (list:List CellD):(recN seq list).length≤(recS seq list).size:=by
 unfold recS
 rw [ByteArray.size_append,ByteArray.size_append,ByteArray.size_append,bstr_size];omega
theorem recT_no {seq:Int} {list:List CellD} (h:inB seq 1 100000=false):(⟨#[]⟩:ByteArray)=recT seq list:=(if_neg (fun g=>by rw [h] at g;cases g.1)).symm
theorem recT_bad {seq:Int} {list:List CellD} {k:Nat} {c:CellD} (hc:nth list k=some c) (h:cellB c=false):(⟨#[]⟩:ByteArray)=recT seq list:=(if_neg (fun g=>by
 have:=List.all_eq_true.1 g.2.1 c (nth_mem hc)
 rw [h] at this;cases this)).symm
theorem recT_long {seq:Int} {list:List CellD} {k n:Nat} (hn:n=(recN seq (list.take k)).length) (h:n > 4000):(⟨#[]⟩:ByteArray)=recT seq list:=(if_neg (fun g=>by
 have:=recN_take seq list k
 have:=recS_size seq list
 have:=g.2.2
 omega)).symm
theorem recT_end {seq:Int} {list:List CellD} (h:(recS seq list).size > 4000):(⟨#[]⟩:ByteArray)=recT seq list:=(if_neg (fun g=>by have:=g.2.2;omega)).symm
theorem recT_yes {seq:Int} {list:List CellD} (h1:inB seq 1 100000=true) (h2:∀ j,j < list.length→∀ c,nth list j=some c→cellB c=true) (h3:¬ (recS seq list).size > 4000):recS seq list=recT seq list:=(if_pos ⟨h1,List.all_eq_true.2 fun c hc=>by
 obtain ⟨j,hj,e⟩:=List.mem_iff_getElem.1 hc
 exact h2 j hj c (by rw [nth_eq,List.getElem?_eq_getElem hj,e]),by omega⟩).symm
theorem bytesN_cat (a b:ByteArray):bytesN (a++b)=bytesN a++bytesN b:=by unfold bytesN;rw [toList_append,List.map_append]
theorem wordN_lt (c:CellD):∀ x ∈ wordN c,x < 256:=fun x h=>by
 unfold wordN at h
 rcases List.mem_append.1 h with h|h
 ·exact bytesN_lt _ x h
 ·rcases List.mem_cons.1 h with h|h
  ·omega
  ·exact bytesN_lt _ x h
theorem recN_lt (seq:Int) (list:List CellD):∀ x ∈ recN seq list,x < 256:=fun x h=>by
 unfold recN at h
 rcases List.mem_append.1 h with h|h
 ·exact bytesN_lt _ x h
 ·obtain ⟨c,_,h⟩:=List.mem_flatMap.1 h
  rcases List.mem_cons.1 h with h|h
  ·omega
  ·exact wordN_lt c x h
section
end
theorem sum_step {s:ByteArray} {k:Nat} (h:k < s.size):(31 * sumN ((bytesN s).take k)+byteAt s k) % 9973=sumN ((bytesN s).take (k+1)):=by
 have hl:=bytesN_length s
 have e:(bytesN s).take (k+1)=(bytesN s).take k++[byteAt s k]:=by
  rw [List.take_add_one,byteAt_bytesN,List.getElem?_eq_getElem (by omega)];rfl
 rw [e]
 unfold sumN
 rw [List.foldl_append];rfl
theorem sum_all {s:ByteArray} {k:Nat} (h:k≤s.size) (h2:¬ k < s.size):sumN ((bytesN s).take k)=sumN (bytesN s):=by rw [List.take_of_length_le (by rw [bytesN_length];omega)]
section
end
theorem cellB_1 {c:CellD} (h:(!keyOk c.key)=true):cellB c=false:=by unfold cellB;rw [nt h];rfl
theorem cellB_2 {c:CellD} (h:c.val.size > 60):cellB c=false:=by unfold cellB;rw [decide_eq_false (by omega),Bool.and_false]
theorem cellB_yes {c:CellD} (h1:(!keyOk c.key)=false) (h2:¬ c.val.size > 60):cellB c=true:=by unfold cellB;rw [nf h1,decide_eq_true (by omega)];rfl
theorem rec_step {seq:Int} {list:List CellD} {D:List Nat} {k:Nat} {c:CellD} (hD:D=recN seq (list.take k)) (h:nth list k=some c):D++[32]++bytesN (hexS c.key)++[61]++bytesN (hexS c.val)=recN seq (list.take (k+1)):=by
 rw [recN_snoc h,hD]
 unfold wordN
 simp [List.append_assoc]
theorem rec_all {list:List CellD} {k:Nat} (h:∀ j,j < k→∀ c,nth list j=some c→cellB c=true) {c:CellD} (hc:nth list k=some c) (hb:cellB c=true):∀ j,j < k+1→∀ c,nth list j=some c→cellB c=true:=fun j hj d hd=>by
 rcases Nat.lt_or_ge j k with h1|h1
 ·exact h j h1 d hd
 ·have:j=k:=by omega
  subst this
  rw [hc] at hd
  cases hd
  exact hb
theorem rec_s {seq:Int} {list:List CellD} {D:List Nat} {k:Nat} (hD:D=recN seq (list.take k)) (hk:list.length≤k):((bstr D++(⟨#[32,35]⟩:ByteArray))++decS ((sumN (bytesN (bstr D)):Nat):Int))++(⟨#[10]⟩:ByteArray)=recS seq list:=by
 rw [List.take_of_length_le hk] at hD
 subst hD
 rw [bytesN_bstr _ (recN_lt seq list)];rfl
set_option maxRecDepth 100000
set_option maxHeartbeats 1000000
def cellsOk (s:List CellD):Prop:=∀ c ∈ s,c.key.size≤1048576∧c.val.size≤1048576
theorem getKey_sz {s:List CellD} {key:ByteArray} (h:cellsOk s):(getKey s key).size≤1048576:=by
 rcases getKey_mem (l:=s) (key:=key) with e|⟨c,hc,e⟩
 ·rw [e];exact Nat.zero_le _
 ·rw [← e];exact (h c hc).2
theorem lessL_cons {a b:UInt8} {x y:List UInt8} : Op.bytesLess (a::x) (b::y)=true ↔ a.toNat < b.toNat∨(a=b∧Op.bytesLess x y=true):=by
 simp [Op.bytesLess,UInt8.lt_iff_toNat_lt]
theorem lessL_trans:∀ {a b c:List UInt8},Op.bytesLess a b=true→Op.bytesLess b c=true→Op.bytesLess a c=true
 | [],[],_,h,_=>by simp [Op.bytesLess] at h
 | _::_,[],_,h,_=>by simp [Op.bytesLess] at h
 | _,_::_,[],_,h=>by simp [Op.bytesLess] at h
 | [],_::_,_::_,_,_=>rfl
 | a::x,b::y,c::z,h,k=>by
  rw [lessL_cons] at h k ⊢
  rcases h with h|⟨rfl,h⟩
  ·rcases k with k|⟨rfl,k⟩
   ·exact .inl (by omega)
   ·exact .inl h
  ·rcases k with k|⟨rfl,k⟩
   ·exact .inl k
   ·exact .inr ⟨rfl,lessL_trans h k⟩
theorem lessL_total:∀ {a b:List UInt8},Op.bytesLess a b=false→a≠b→Op.bytesLess b a=true
 | [],[],_,h=>absurd rfl h
 | [],_::_,h,_=>by simp [Op.bytesLess] at h
 | _::_,[],_,_=>rfl
 | a::x,b::y,h,k=>by
  have h1:¬ Op.bytesLess (a::x) (b::y)=true:=by rw [h];decide
  rw [lessL_cons] at h1 ⊢
  by_cases e:a=b
  ·subst e
   refine .inr ⟨rfl,lessL_total ?_ fun q=>k (by rw [q])⟩
   cases q:Op.bytesLess x y
   ·rfl
   ·exact absurd (.inr ⟨rfl,q⟩) h1
  ·refine .inl ?_
   have h2:¬ a.toNat < b.toNat:=fun q=>h1 (.inl q)
   have h3:a.toNat≠b.toNat:=fun q=>e (UInt8.toNat_inj.1 q)
   omega
theorem ltS_trans {a b c:ByteArray} (h:ltS a b=true) (k:ltS b c=true):ltS a c=true:=lessL_trans h k
theorem ltS_total {a b:ByteArray} (h:ltS a b=false) (k:a≠b):ltS b a=true:=lessL_total h fun e=>k (by
 rw [bytes_toList,bytes_toList] at e
 exact ByteArray.ext (Array.toList_inj.1 e))
theorem ltS_ne {a b:ByteArray} (h:ltS a b=true):a≠b:=fun e=>by rw [e,ltS_self] at h;cases h
theorem nodup_le {α:Type} [DecidableEq α]:∀ {l m:List α},l.Nodup→(∀ x ∈ l,x ∈ m)→l.length≤m.length
 | [],_,_,_=>Nat.zero_le _
 | x::l,m,hn,hs=>by
  have hx:=hs x (List.mem_cons_self ..)
  have h1:=nodup_le (l:=l) (m:=m.erase x) (List.nodup_cons.1 hn).2 fun y hy=>(List.mem_erase_of_ne (fun e=>(List.nodup_cons.1 hn).1 (by rw [← e];exact hy))).2 (hs y (List.mem_cons_of_mem _ hy))
  have h2:=List.length_erase_of_mem hx
  have h3:=List.length_pos_of_mem hx
  rw [List.length_cons];omega
theorem countP_mod {α:Type} {p q:α→Bool} {k:α} : ∀ {U:List α},U.Nodup→k ∈ U→p k=true→q k=false→(∀ x,x≠k→p x=q x)→U.countP p=U.countP q+1
 | x::U,hn,hk,h1,h2,h3=>by
  have hn':=List.nodup_cons.1 hn
  by_cases e:x=k
  ·subst e
   have:U.countP p=U.countP q:=List.countP_congr fun y hy=>by rw [h3 y fun e=>hn'.1 (e ▸ hy)]
   rw [List.countP_cons_of_pos h1,List.countP_cons_of_neg (by rw [h2];decide),this]
  ·have ih:=countP_mod hn'.2 ((List.mem_cons.1 hk).resolve_left fun q=>e q.symm) h1 h2 h3
   cases hq:q x
   ·rw [List.countP_cons_of_neg (by rw [h3 x e,hq];decide),List.countP_cons_of_neg (by rw [hq];decide),ih]
   ·rw [List.countP_cons_of_pos (by rw [h3 x e,hq]),List.countP_cons_of_pos hq,ih]
def srtL (l:List ByteArray):Prop:=l.Pairwise (fun a b=>ltS a b=true)
theorem srtL.nodup {l:List ByteArray} (h:srtL l):l.Nodup:=List.Pairwise.imp (fun h=>ltS_ne h) h
theorem srtL.put {l:List ByteArray} {x:ByteArray} (h:srtL l):srtL (putL l x):=by
 unfold putL
 split
 ·exact h
 ·rename_i hne
  generalize hi:l.findIdx (geS x)=i at hne
  have hlo:∀ a ∈ l.take i,ltS a x=true:=fun a ha=>by
   obtain ⟨j,hj,rfl⟩:=List.mem_iff_getElem.1 ha
   rw [List.length_take] at hj
   rw [List.getElem_take]
   have h1:=List.not_of_lt_findIdx (p:=geS x) (xs:=l) (i:=j) (by omega)
   simpa [geS] using h1
  have hhi:∀ b ∈ l.drop i,ltS x b=true:=fun b hb=>by
   by_cases hl:i < l.length
   ·have h2:ltS x l[i]=true:=by
     have h1:geS x l[i]=true:=by
      have:=List.findIdx_getElem (p:=geS x) (xs:=l) (w:=by rw [hi];exact hl)
      simpa [hi] using this
     refine ltS_total (by simpa [geS] using h1) fun e=>hne ?_
     rw [List.getElem?_eq_getElem hl,e]
    rw [List.drop_eq_getElem_cons hl] at hb
    rcases List.mem_cons.1 hb with rfl|hb
    ·exact h2
    ·have hp:(l.drop i).Pairwise (fun a b=>ltS a b=true):=List.Pairwise.drop h
     rw [List.drop_eq_getElem_cons hl] at hp
     exact ltS_trans h2 ((List.pairwise_cons.1 hp).1 b hb)
   ·rw [List.drop_eq_nil_of_le (by omega)] at hb;cases hb
  unfold insAt srtL
  refine List.pairwise_append.2 ⟨List.Pairwise.take h,List.pairwise_cons.2 ⟨hhi,List.Pairwise.drop h⟩,fun a ha b hb=>?_⟩
  rcases List.mem_cons.1 hb with rfl|hb
  ·exact hlo a ha
  ·exact ltS_trans (hlo a ha) (hhi b hb)
theorem srtL.join {l m:List ByteArray} (h:srtL l):srtL (joinL l m):=by
 unfold joinL
 induction m generalizing l with
 | nil=>exact h
 | cons x m ih=>exact ih h.put
abbrev kPg (n:Int):ByteArray:=keyNum (⟨#[109,47]⟩:ByteArray) n (⟨#[47]⟩:ByteArray)
structure Uni where
 K:ByteArray→Prop
 S:ByteArray→Prop
 P:Int
 page:∀ p:Int,0≤p→p≤3→S (decS p++⟨#[]⟩)
 own:∀ s,S s→K (kPg P++s)
 fork:∀ t:Int,1≤t→t≤12→∀ s,S s→K (kPg t++s)
 inj:∀ t:Int,1≤t→t≤12→∀ s s',kPg t++s=kPg P++s'→s=s'
 sig:∀ n k:Nat,n≤999→k≤999→K (keyNum (⟨#[114,47]⟩:ByteArray) n (⟨#[47,115]⟩:ByteArray))∧K (keyNum (⟨#[103,47]⟩:ByteArray) n (⟨#[47,116]⟩:ByteArray))∧K (keyNum (⟨#[103,47]⟩:ByteArray) n (⟨#[47,104]⟩:ByteArray))∧K (keyNum (keyNum (⟨#[103,47]⟩:ByteArray) n (⟨#[47,113,47]⟩:ByteArray)) k (⟨#[]⟩:ByteArray))
def hasK (D:List CellD) (x:ByteArray):Bool:=D.any fun c=>decide (c.key=x)
theorem hasK_t {D:List CellD} {x:ByteArray} : hasK D x=true ↔ ∃ c ∈ D,c.key=x:=by simp [hasK]
theorem hasK_f {D:List CellD} {x:ByteArray} (h:¬ ∃ c ∈ D,c.key=x):hasK D x=false:=by
 cases e:hasK D x
 ·rfl
 ·exact absurd (hasK_t.1 e) h
theorem hasK_eq {D E:List CellD} {x:ByteArray} (h:(∃ c ∈ D,c.key=x) ↔ ∃ c ∈ E,c.key=x):hasK D x=hasK E x:=by
 rw [Bool.eq_iff_iff,hasK_t,hasK_t];exact h
structure UnU (X:Uni) (U:List ByteArray) (D:List CellD) (R W:List ByteArray):Prop where
 nd:U.Nodup
 kn:∀ x,X.K x→x ∈ U
 rd:∀ x ∈ R,x ∈ U
 wr:∀ x ∈ W,x ∈ U
 rs:srtL R
 ws:srtL W
 ks:∀ c ∈ D,c.key ∈ U
 ln:D.length≤1048576+U.countP (hasK D)
 ok:cellsOk D
 pg:∀ c ∈ D,∀ s,c.key=kPg X.P++s→X.S s
def Un (X:Uni) (u:Nat) (D:List CellD) (R W:List ByteArray):Prop:=∃ U:List ByteArray,U.length≤u∧UnU X U D R W
section
variable {X:Uni} {U:List ByteArray} {u:Nat} {D:List CellD} {R W:List ByteArray} {key val:ByteArray}
theorem UnU.cons (h:UnU X U D R W) (hk:key ∉ U):UnU X (key::U) D R W:=
 ⟨List.nodup_cons.2 ⟨hk,h.nd⟩,fun x hx=>List.mem_cons_of_mem _ (h.kn x hx),fun x hx=>List.mem_cons_of_mem _ (h.rd x hx),fun x hx=>List.mem_cons_of_mem _ (h.wr x hx),h.rs,h.ws,fun c hc=>List.mem_cons_of_mem _ (h.ks c hc),by have:=h.ln;rw [List.countP_cons];omega,h.ok,h.pg⟩
theorem UnU.add (h:UnU X U D R W) (key:ByteArray):∃ V:List ByteArray,V.length≤U.length+1∧key ∈ V∧UnU X V D R W:=by
 by_cases hk:key ∈ U
 ·exact ⟨U,by omega,hk,h⟩
 ·exact ⟨key::U,by rw [List.length_cons];exact Nat.le_refl _,List.mem_cons_self ..,h.cons hk⟩
theorem UnU.look (h:UnU X U D R W) (hk:key ∈ U):UnU X U D (putL R key) W:=
 ⟨h.nd,h.kn,fun x hx=>(putL_mem.1 hx).elim (h.rd x) fun e=>e ▸ hk,h.wr,h.rs.put,h.ws,h.ks,h.ln,h.ok,h.pg⟩
theorem UnU.del (h:UnU X U D R W) (hk:key ∈ U):UnU X U (delKey D key) R (putL W key):=by
 refine ⟨h.nd,h.kn,h.rd,fun x hx=>(putL_mem.1 hx).elim (h.wr x) fun e=>e ▸ hk,h.rs,h.ws.put,fun c hc=>h.ks c (delKey_mem.1 hc).1,?_,fun c hc=>h.ok c (delKey_mem.1 hc).1,fun c hc=>h.pg c (delKey_mem.1 hc).1⟩
 have h1:=h.ln
 by_cases hm:∃ c ∈ D,c.key=key
 ·have h2:(delKey D key).length+1≤D.length:=by
   obtain ⟨c,hc,e⟩:=hm
   exact List.length_filter_lt_length_iff_exists.2 ⟨c,hc,(show ¬ decide (c.key≠key)=true by simp [e])⟩
  have h3:=countP_mod (p:=hasK D) (q:=hasK (delKey D key)) h.nd hk (hasK_t.2 hm) (hasK_f fun ⟨c,hc,e⟩=>(delKey_mem.1 hc).2 e) fun x hx=>
   hasK_eq ⟨fun ⟨c,hc,e⟩=>⟨c,delKey_mem.2 ⟨hc,fun g=>hx (e ▸ g)⟩,e⟩,fun ⟨c,hc,e⟩=>⟨c,(delKey_mem.1 hc).1,e⟩⟩
  omega
 ·have e:delKey D key=D:=List.filter_eq_self.2 fun c hc=>decide_eq_true fun g=>hm ⟨c,hc,g⟩
  rw [e];exact h1
theorem insK_mem {r:List CellD} {c:CellD} : c ∈ insK r key val ↔ c ∈ r∨c=⟨key,val⟩:=by
 unfold insK insAt
 generalize r.findIdx _=i
 rw [List.mem_append,List.mem_cons]
 have:c ∈ r ↔ c ∈ r.take i∨c ∈ r.drop i:=by rw [← List.mem_append,List.take_append_drop]
 rw [this]
 constructor
 ·rintro (h|h|h)
  ·exact .inl (.inl h)
  ·exact .inr h
  ·exact .inl (.inr h)
 ·rintro ((h|h)|h)
  ·exact .inl h
  ·exact .inr (.inr h)
  ·exact .inr (.inl h)
theorem UnU.lay (h:UnU X U D R W) (hk:key ∈ U) (hp:val=⟨#[]⟩∨∀ s,key=kPg X.P++s→X.S s):UnU X U (putKey D key val) R (putL W key):=by
 have hw:∀ x ∈ putL W key,x ∈ U:=fun x hx=>(putL_mem.1 hx).elim (h.wr x) fun e=>e ▸ hk
 by_cases h1:keyOk key=true∧val.size≤60
 ·by_cases h3:val=⟨#[]⟩
  ·rw [putKey_del h1.1 h3];exact h.del hk
  ·rw [putKey_ins h1.1 h1.2 h3]
   have hd:=h.del hk
   refine ⟨h.nd,h.kn,h.rd,hw,h.rs,h.ws.put,fun c hc=>?_,?_,fun c hc=>?_,fun c hc s e=>?_⟩
   ·rcases insK_mem.1 hc with hc|rfl
    ·exact hd.ks c hc
    ·exact hk
   ·have h4:=hd.ln
    have h5:(insK (delKey D key) key val).length=(delKey D key).length+1:=insAt_length _ _ _ List.findIdx_le_length
    have h6:=countP_mod (p:=hasK (insK (delKey D key) key val)) (q:=hasK (delKey D key)) h.nd hk (hasK_t.2 ⟨_,insK_mem.2 (.inr rfl),rfl⟩) (hasK_f fun ⟨c,hc,e⟩=>(delKey_mem.1 hc).2 e) fun x hx=>
     hasK_eq ⟨fun ⟨c,hc,e⟩=>(insK_mem.1 hc).elim (fun hc=>⟨c,hc,e⟩) fun g=>absurd (by rw [← e,g]) hx,fun ⟨c,hc,e⟩=>⟨c,insK_mem.2 (.inl hc),e⟩⟩
    omega
   ·rcases insK_mem.1 hc with hc|rfl
    ·exact hd.ok c hc
    ·have:=keyOk_size h1.1
     exact ⟨by show key.size≤_;omega,by show val.size≤_;have:=h1.2;omega⟩
   ·rcases insK_mem.1 hc with hc|rfl
    ·exact hd.pg c hc s e
    ·exact hp.resolve_left h3 s e
 ·have:putKey D key val=D:=if_neg h1
  rw [this]
  exact ⟨h.nd,h.kn,h.rd,hw,h.rs,h.ws.put,h.ks,h.ln,h.ok,h.pg⟩
theorem Un.le {u':Nat} (h:Un X u D R W) (hu:u≤u'):Un X u' D R W:=let ⟨U,h1,h2⟩:=h;⟨U,by omega,h2⟩
theorem Un.bd (h:Un X u D R W):D.length≤1048576+u∧R.length≤u∧W.length≤u∧cellsOk D:=by
 obtain ⟨U,h1,h2⟩:=h
 have h3:=h2.ln
 have h4:=List.countP_le_length (p:=hasK D) (l:=U)
 have h5:=nodup_le h2.rs.nodup h2.rd
 have h6:=nodup_le h2.ws.nodup h2.wr
 exact ⟨by omega,by omega,by omega,h2.ok⟩
def knw (X:Uni) (D:List CellD) (key:ByteArray):Prop:=X.K key∨∃ c ∈ D,c.key=key
theorem UnU.knw (h:UnU X U D R W) (hk:knw X D key):key ∈ U:=hk.elim (h.kn _) fun ⟨c,hc,e⟩=>e ▸ h.ks c hc
def npg (X:Uni) (key:ByteArray):Prop:=∀ s,key=kPg X.P++s→X.S s
theorem Un.look (h:Un X u D R W):Un X (u+1) D (putL R key) W:=by
 obtain ⟨U,h1,h2⟩:=h
 obtain ⟨V,h3,h4,h5⟩:=h2.add key
 exact ⟨V,by omega,h5.look h4⟩
theorem Un.lookK (h:Un X u D R W) (hk:knw X D key):Un X u D (putL R key) W:=let ⟨U,h1,h2⟩:=h;⟨U,h1,h2.look (h2.knw hk)⟩
theorem Un.lay (h:Un X u D R W) (hp:val=⟨#[]⟩∨npg X key):Un X (u+1) (putKey D key val) R (putL W key):=by
 obtain ⟨U,h1,h2⟩:=h
 obtain ⟨V,h3,h4,h5⟩:=h2.add key
 exact ⟨V,by omega,h5.lay h4 hp⟩
theorem Un.layK (h:Un X u D R W) (hk:knw X D key) (hp:val=⟨#[]⟩∨npg X key):Un X u (putKey D key val) R (putL W key):=let ⟨U,h1,h2⟩:=h;⟨U,h1,h2.lay (h2.knw hk) hp⟩
end
def Uni.ext (X:Uni) (ks:List ByteArray):Uni:=⟨fun k=>X.K k∨k ∈ ks,X.S,X.P,X.page,fun s h=>.inl (X.own s h),fun t h1 h2 s h=>.inl (X.fork t h1 h2 s h),X.inj,fun n k h1 h2=>⟨.inl (X.sig n k h1 h2).1,.inl (X.sig n k h1 h2).2.1,.inl (X.sig n k h1 h2).2.2.1,.inl (X.sig n k h1 h2).2.2.2⟩⟩
theorem Un.ext {X:Uni} {u:Nat} {D:List CellD} {R W:List ByteArray} {ks:List ByteArray} (h:Un X u D R W) (hk:∀ k ∈ ks,knw X D k):Un (X.ext ks) u D R W:=by
 obtain ⟨U,h1,h2⟩:=h
 exact ⟨U,h1,h2.nd,fun x hx=>hx.elim (h2.kn x) fun hx=>h2.knw (hk x hx),h2.rd,h2.wr,h2.rs,h2.ws,h2.ks,h2.ln,h2.ok,h2.pg⟩
theorem Un.unext {X:Uni} {u:Nat} {D:List CellD} {R W:List ByteArray} {ks:List ByteArray} (h:Un (X.ext ks) u D R W):Un X u D R W:=by
 obtain ⟨U,h1,h2⟩:=h
 exact ⟨U,h1,h2.nd,fun x hx=>h2.kn x (.inl hx),h2.rd,h2.wr,h2.rs,h2.ws,h2.ks,h2.ln,h2.ok,h2.pg⟩
theorem begins_eq {k p:ByteArray} (h:begins k p=true):p++k.extract p.size k.size=k:=by
 unfold begins at h
 have h1:=of_decide_eq_true h
 have e3:p++k.extract p.size k.size=k.extract 0 p.size++k.extract p.size k.size:=by rw [h1.2]
 rw [e3,ByteArray.extract_append_extract,Nat.min_eq_left (Nat.zero_le _),Nat.max_eq_right h1.1,ByteArray.extract_zero_size]
theorem Un.pgS {X:Uni} {u:Nat} {D:List CellD} {R W:List ByteArray} (h:Un X u D R W):∀ k ∈ keysUnder D (kPg X.P),X.S (k.extract (kPg X.P).size k.size):=fun k hk=>by
 obtain ⟨U,_,h2⟩:=h
 obtain ⟨⟨c,hc,e⟩,hb⟩:=keysUnder_mem.1 hk
 exact h2.pg c hc _ (e.trans (begins_eq hb).symm)
theorem fk_knw {X:Uni} {ks:List ByteArray} {D:List CellD} {t:Int} {s:ByteArray} (ht:1≤t∧t≤12) (hs:X.S s):knw (X.ext ks) D (kPg t++s):=.inl (.inl (X.fork t ht.1 ht.2 s hs))
theorem fk_npg {X:Uni} {ks:List ByteArray} {t:Int} {s:ByteArray} (ht:1≤t∧t≤12) (hs:X.S s):npg (X.ext ks) (kPg t++s):=fun s' e=>X.inj t ht.1 ht.2 s s' e ▸ hs
theorem kM_eq (n p:Int):keyNum (kPg n) p (⟨#[]⟩:ByteArray)=kPg n++(decS p++(⟨#[]⟩:ByteArray)):=by
 show kPg n++decS p++(⟨#[]⟩:ByteArray)=_
 rw [append_assoc']
theorem pg_npg {X:Uni} {p:Int} (h:0≤p∧p≤3):npg X (keyNum (kPg X.P) p (⟨#[]⟩:ByteArray)):=fun s e=>by
 rw [kM_eq] at e
 exact append_cancel e ▸ X.page p h.1 h.2
def sgK (X:Uni) (id:Int):Prop:=X.K (keyNum (⟨#[114,47]⟩:ByteArray) id (⟨#[47,115]⟩:ByteArray))∧X.K (keyNum (⟨#[103,47]⟩:ByteArray) id (⟨#[47,116]⟩:ByteArray))∧X.K (keyNum (⟨#[103,47]⟩:ByteArray) id (⟨#[47,104]⟩:ByteArray))∧∀ k:Int,0≤k→k≤999→X.K (keyNum (keyNum (⟨#[103,47]⟩:ByteArray) id (⟨#[47,113,47]⟩:ByteArray)) k (⟨#[]⟩:ByteArray))
theorem sgK_of {X:Uni} {m:Nat} (h:m≤999):sgK X ((m:Nat):Int):=⟨(X.sig m 0 h (by decide)).1,(X.sig m 0 h (by decide)).2.1,(X.sig m 0 h (by decide)).2.2.1,fun k h0 h1=>by
 obtain ⟨j,rfl⟩:=Int.eq_ofNat_of_zero_le h0
 exact (X.sig m j h (by omega)).2.2.2⟩
theorem under_knw {X:Uni} {D:List CellD} {p:ByteArray} : ∀ k ∈ keysUnder D p,knw X D k:=fun _ hk=>.inr (keysUnder_mem.1 hk).1
theorem ext_knw {X:Uni} {D:List CellD} {ks:List ByteArray} {k:Nat} {x:ByteArray} (h:nth ks k=some x):knw (X.ext ks) D x:=.inl (.inr (nth_mem h))
theorem npg_of {X:Uni} {key:ByteArray} (h:byteAt key 0≠109):npg X key:=fun s e=>by
 refine absurd ?_ h
 rw [e,show kPg X.P++s=keyNum (⟨#[109,47]⟩:ByteArray) X.P ((⟨#[47]⟩:ByteArray)++s) by unfold kPg keyNum;simp only [append_assoc'],byte_num (by decide)]
 rfl
set_option maxRecDepth 100000
set_option maxHeartbeats 1000000
def nb (n:Nat):Bool:=decide ((97≤n∧n≤122)∨(48≤n∧n≤57)∨n=46∨n=45)
theorem nb_in (n:Nat):nb n=(inB n 97 122 || inB n 48 57 || decide (n=46) || decide (n=45)):=by
 unfold nb inB
 rw [Bool.eq_iff_iff]
 simp only [Bool.or_eq_true,decide_eq_true_eq]
 omega
def nameOk (key:ByteArray):Bool:=(List.range key.size).all (fun j=>nb (byteAt key j)) && inB key.size 1 12
theorem nameOk_bad {key:ByteArray} {j:Nat} (hj:j < key.size) (h:nb (byteAt key j)=false):nameOk key=false:=by
 have:(List.range key.size).all (fun j=>nb (byteAt key j))=false:=by
  rw [List.all_eq_false]
  exact ⟨j,List.mem_range.2 hj,by simp [h]⟩
 simp [nameOk,this]
theorem nameOk_all {key:ByteArray} (h:∀ j,j < key.size→nb (byteAt key j)=true):nameOk key=inB key.size 1 12:=by
 have:(List.range key.size).all (fun j=>nb (byteAt key j))=true:=by
  rw [List.all_eq_true]
  exact fun j hj=>h j (List.mem_range.1 hj)
 simp [nameOk,this]
theorem nameOk_size {key:ByteArray} (h:nameOk key=true):key.size≤12:=by
 unfold nameOk at h
 rw [Bool.and_eq_true] at h
 have:=inB_bd h.2
 omega
set_option maxRecDepth 100000
set_option maxHeartbeats 1000000
def numI (D:List CellD) (key:ByteArray):Int:=((numOf (getKey D key):Nat):Int)
def setS (D:List CellD) (key:ByteArray) (n:Int):List CellD:=putKey D key (numV n)
def delA (ks:List ByteArray) (D:List CellD):List CellD:=ks.foldl (fun D k=>putKey D k ⟨#[]⟩) D
def wipeS (D:List CellD) (pfx:ByteArray):List CellD:=delA (keysUnder D pfx) D
theorem delA_step {ks:List ByteArray} {D:List CellD} {k:Nat} {x:ByteArray} (h:nth ks k=some x):putKey (delA (ks.take k) D) x ⟨#[]⟩=delA (ks.take (k+1)) D:=by
 rw [nth_take_snoc h];unfold delA;rw [List.foldl_append];rfl
theorem take_all {α:Type} {l:List α} {n k:Nat} (h:n=l.length) (hk:¬ ((k:Nat):Int) < ((n:Nat):Int)):l.take k=l:=List.take_of_length_le (by omega)
abbrev kNm (s:ByteArray):ByteArray:=(⟨#[110,47]⟩:ByteArray)++s
abbrev kL (n:Int):ByteArray:=keyNum (⟨#[105,47]⟩:ByteArray) n (⟨#[47,108]⟩:ByteArray)
abbrev kIs (n:Int):ByteArray:=keyNum (⟨#[105,47]⟩:ByteArray) n (⟨#[47,115]⟩:ByteArray)
abbrev kIb (n p:Int):ByteArray:=keyNum (keyNum (⟨#[105,47]⟩:ByteArray) n (⟨#[47,98,47]⟩:ByteArray)) p (⟨#[]⟩:ByteArray)
abbrev kP (n:Int) (t:ByteArray):ByteArray:=keyNum (⟨#[112,47]⟩:ByteArray) n t
abbrev kPq (n k:Int):ByteArray:=keyNum (keyNum (⟨#[112,47]⟩:ByteArray) n (⟨#[47,113,47]⟩:ByteArray)) k (⟨#[]⟩:ByteArray)
abbrev kR (n:Int) (t:ByteArray):ByteArray:=keyNum (⟨#[114,47]⟩:ByteArray) n t
abbrev kG (n:Int) (t:ByteArray):ByteArray:=keyNum (⟨#[103,47]⟩:ByteArray) n t
abbrev kGq (n k:Int):ByteArray:=keyNum (keyNum (⟨#[103,47]⟩:ByteArray) n (⟨#[47,113,47]⟩:ByteArray)) k (⟨#[]⟩:ByteArray)
abbrev kT (n:Int):ByteArray:=keyNum (⟨#[116,47]⟩:ByteArray) n (⟨#[]⟩:ByteArray)
abbrev kM (n p:Int):ByteArray:=keyNum (kPg n) p (⟨#[]⟩:ByteArray)
abbrev kD (n:Int):ByteArray:=keyNum (⟨#[100,47]⟩:ByteArray) n (⟨#[]⟩:ByteArray)
def bumpF (D:List CellD) (key:ByteArray):Int × List CellD:=if 999 < numI D key+1 then (0,D) else (numI D key+1,setS D key (numI D key+1))
def fileI (D:List CellD) (name:ByteArray):Int:=if (!nameOk name)=true then 0 else numI D (kNm name)
def mkS (D:List CellD) (name:ByteArray):List CellD:=if (!nameOk name)=true then D else if fileI D name≠0 then D else if 20≤numI D (⟨#[99,47,102,105,108,101]⟩:ByteArray) then D else setS (setS (bumpF D (⟨#[99,47,102,105,108,101]⟩:ByteArray)).2 (kNm name) (bumpF D (⟨#[99,47,102,105,108,101]⟩:ByteArray)).1) (kL (bumpF D (⟨#[99,47,102,105,108,101]⟩:ByteArray)).1) 1
def lkS (D:List CellD) (f t:ByteArray):List CellD:=if (!nameOk f)=true then D else if (!nameOk t)=true then D else if fileI D f=0 then D else if fileI D t≠0 then D else if 4≤numI D (kL (fileI D f)) then D
 else setS (setS D (kNm t) (fileI D f)) (kL (fileI D f)) (numI D (kL (fileI D f))+1)
def ulS (D:List CellD) (f:ByteArray):List CellD:=if (!nameOk f)=true then D else if fileI D f=0 then D else if 1 < numI (putKey D (kNm f) ⟨#[]⟩) (kL (fileI D f)) then setS (putKey D (kNm f) ⟨#[]⟩) (kL (fileI D f)) (numI (putKey D (kNm f) ⟨#[]⟩) (kL (fileI D f)) - 1)
 else wipeS (putKey D (kNm f) ⟨#[]⟩) (keyNum (⟨#[105,47]⟩:ByteArray) (fileI D f) (⟨#[47]⟩:ByteArray))
def rnS (D:List CellD) (f t:ByteArray):List CellD:=if (!nameOk f)=true then D else if (!nameOk t)=true then D else if fileI D f=0 then D else if fileI D t=fileI D f then D else if fileI D t≠0 then putKey (setS (ulS D t) (kNm t) (fileI D f)) (kNm f) ⟨#[]⟩ else putKey (setS D (kNm t) (fileI D f)) (kNm f) ⟨#[]⟩
def mpS (D:List CellD):List CellD:=if 8≤numI D (⟨#[99,47,112,105,112,101]⟩:ByteArray) then D else setS (bumpF D (⟨#[99,47,112,105,112,101]⟩:ByteArray)).2 (kP (bumpF D (⟨#[99,47,112,105,112,101]⟩:ByteArray)).1 (⟨#[47,111]⟩:ByteArray)) 1
def ppS (D:List CellD) (id:Int) (x:ByteArray):List CellD:=if (!decide (numI D (kP id (⟨#[47,111]⟩:ByteArray))=1))=true then D else if (20:Int) < ((x.size:Nat):Int) then D else if 4≤numI D (kP id (⟨#[47,116]⟩:ByteArray)) - numI D (kP id (⟨#[47,104]⟩:ByteArray)) then D else if 999≤numI D (kP id (⟨#[47,116]⟩:ByteArray)) then D
 else putKey (setS D (kP id (⟨#[47,116]⟩:ByteArray)) (numI D (kP id (⟨#[47,116]⟩:ByteArray))+1)) (kPq id (numI D (kP id (⟨#[47,116]⟩:ByteArray))+1)) ((⟨#[45]⟩:ByteArray)++hexS x)
def tpS (D:List CellD) (id:Int):List CellD:=if (!decide (numI D (kP id (⟨#[47,111]⟩:ByteArray))=1))=true then D else if numI D (kP id (⟨#[47,116]⟩:ByteArray))=numI D (kP id (⟨#[47,104]⟩:ByteArray)) then D else setS (putKey D (kPq id (numI D (kP id (⟨#[47,104]⟩:ByteArray))+1)) ⟨#[]⟩) (kP id (⟨#[47,104]⟩:ByteArray)) (numI D (kP id (⟨#[47,104]⟩:ByteArray))+1)
def spF (D:List CellD) (p:Int):(Int × Int) × List CellD:=if 12≤numI D (⟨#[99,47,112,114,111,99]⟩:ByteArray) then ((0,3),D) else (((bumpF D (⟨#[99,47,112,114,111,99]⟩:ByteArray)).1,0),setS (setS (bumpF D (⟨#[99,47,112,114,111,99]⟩:ByteArray)).2 (kR (bumpF D (⟨#[99,47,112,114,111,99]⟩:ByteArray)).1 (⟨#[47,115]⟩:ByteArray)) 1) (kR (bumpF D (⟨#[99,47,112,114,111,99]⟩:ByteArray)).1 (⟨#[47,112]⟩:ByteArray)) p)
def enF (D:List CellD) (id n:Int):Int × List CellD:=if numI D (kR id (⟨#[47,115]⟩:ByteArray))≠1 then (2,D) else if (!inB n 0 100)=true then (4,D) else (0,setS (setS D (kR id (⟨#[47,115]⟩:ByteArray)) 2) (kR id (⟨#[47,120]⟩:ByteArray)) (n+1))
def rpS (D:List CellD) (p id:Int):List CellD:=if numI D (kR id (⟨#[47,112]⟩:ByteArray))=0 then D else if numI D (kR id (⟨#[47,112]⟩:ByteArray))≠p then D else if numI D (kR id (⟨#[47,115]⟩:ByteArray))=1 then D else if numI D (kR id (⟨#[47,115]⟩:ByteArray))=2 then wipeS D (kR id (⟨#[47]⟩:ByteArray)) else D
def sgS (D:List CellD) (id n:Int):List CellD:=if numI D (kR id (⟨#[47,115]⟩:ByteArray))≠1 then D else if (!inB n 1 31)=true then D else if 4≤numI D (kG id (⟨#[47,116]⟩:ByteArray)) - numI D (kG id (⟨#[47,104]⟩:ByteArray)) then D else if 999≤numI D (kG id (⟨#[47,116]⟩:ByteArray)) then D
 else setS (setS D (kG id (⟨#[47,116]⟩:ByteArray)) (numI D (kG id (⟨#[47,116]⟩:ByteArray))+1)) (kGq id (numI D (kG id (⟨#[47,116]⟩:ByteArray))+1)) n
def tsS (D:List CellD) (id:Int):List CellD:=if numI D (kG id (⟨#[47,116]⟩:ByteArray))=numI D (kG id (⟨#[47,104]⟩:ByteArray)) then D else setS (putKey D (kGq id (numI D (kG id (⟨#[47,104]⟩:ByteArray))+1)) ⟨#[]⟩) (kG id (⟨#[47,104]⟩:ByteArray)) (numI D (kG id (⟨#[47,104]⟩:ByteArray))+1)
def tmS (D:List CellD) (id n:Int):List CellD:=if (!inB n 0 999)=true then D else setS D (kT id) n
def gpS (D:List CellD) (id p:Int) (x:ByteArray):List CellD:=if (!inB p 0 3)=true then D else if (20:Int) < ((x.size:Nat):Int) then D else putKey D (kM id p) (if x=⟨#[]⟩ then ⟨#[]⟩ else (⟨#[45]⟩:ByteArray)++hexS x)
def poS (D:List CellD) (x:ByteArray):List CellD:=if (!inB ((x.size:Nat):Int) 1 20)=true then D else if 40≤numI D (⟨#[100,47,110]⟩:ByteArray) then D else putKey (setS D (⟨#[100,47,110]⟩:ByteArray) (numI D (⟨#[100,47,110]⟩:ByteArray)+1)) (kD (numI D (⟨#[100,47,110]⟩:ByteArray)+1)) ((⟨#[45]⟩:ByteArray)++hexS x)
theorem iFb {α:Sort _} {x:Bool} {a b:α} (h:x=false):(if x=true then a else b)=b:=if_neg (by rw [h];decide)
theorem numV_dec {n:Int} (h1:1≤n) (h2:n≤999):numV n=decS n:=if_pos (decide_eq_true ⟨h1,h2⟩)
theorem nF' {b:Bool} (h:(!b)=true):¬ b=true:=by cases b <;> simp_all
theorem nil_of_size {x:ByteArray} (h:x.size=0):x=⟨#[]⟩:=ByteArray.ext (Array.eq_empty_of_size_eq_zero h)
theorem size_pos {x:ByteArray} (h:¬ x=⟨#[]⟩):0 < x.size:=Nat.pos_of_ne_zero fun e=>h (nil_of_size e)
theorem po_1 {x:ByteArray} (h:x=⟨#[]⟩):(!inB ((x.size:Nat):Int) 1 20)=true:=by subst h;rfl
theorem po_2 {x:ByteArray} (h:(20:Int) < ((x.size:Nat):Int)):(!inB ((x.size:Nat):Int) 1 20)=true:=by
 have:inB ((x.size:Nat):Int) 1 20=false:=decide_eq_false (by omega)
 rw [this];rfl
theorem po_3 {x:ByteArray} (h:¬ x=⟨#[]⟩) (h2:¬ (20:Int) < ((x.size:Nat):Int)):(!inB ((x.size:Nat):Int) 1 20)=false:=by
 have h3:=size_pos h
 have:inB ((x.size:Nat):Int) 1 20=true:=decide_eq_true (by omega)
 rw [this];rfl
theorem i64of {r:Int} (h:0≤r∧r≤999):i64ok r:=by unfold i64ok;omega
theorem i64nat {n:Nat} (h:n≤68719476736):i64ok ((n:Nat):Int):=by unfold i64ok;omega
def fkA (p q:ByteArray) (ks:List ByteArray) (D:List CellD):List CellD:=ks.foldl (fun D k=>putKey D (q++k.extract p.size k.size) (getKey D k)) D
def fkS (D:List CellD) (f t:Int):List CellD:=fkA (kPg f) (kPg t) (keysUnder D (kPg f)) D
theorem fkA_step {p q:ByteArray} {ks:List ByteArray} {D:List CellD} {k:Nat} {x:ByteArray} (h:nth ks k=some x):putKey (fkA p q (ks.take k) D) (q++x.extract p.size x.size) (getKey (fkA p q (ks.take k) D) x)=fkA p q (ks.take (k+1)) D:=by
 rw [nth_take_snoc h];unfold fkA;rw [List.foldl_append];rfl
def tkA (c:Int) (ks:List ByteArray) (D:List CellD):List CellD:=ks.foldl (fun D k=>if c < numI D k then D else sgS (putKey D k ⟨#[]⟩) ((numOf (k.extract 2 k.size):Nat):Int) 14) D
theorem tkA_snoc {c:Int} {ks:List ByteArray} {D:List CellD} {k:Nat} {x:ByteArray} (h:nth ks k=some x):tkA c (ks.take (k+1)) D=if c < numI (tkA c (ks.take k) D) x then tkA c (ks.take k) D else sgS (putKey (tkA c (ks.take k) D) x ⟨#[]⟩) ((numOf (x.extract 2 x.size):Nat):Int) 14:=by
 rw [nth_take_snoc h];unfold tkA;rw [List.foldl_append];rfl
theorem tkA_no {c:Int} {ks:List ByteArray} {D:List CellD} {k:Nat} {x:ByteArray} (h:nth ks k=some x) (hc:c < numI (tkA c (ks.take k) D) x):tkA c (ks.take k) D=tkA c (ks.take (k+1)) D:=by rw [tkA_snoc h,if_pos hc]
theorem tkA_do {c:Int} {ks:List ByteArray} {D:List CellD} {k:Nat} {x:ByteArray} (h:nth ks k=some x) (hc:¬ c < numI (tkA c (ks.take k) D) x):sgS (putKey (tkA c (ks.take k) D) x ⟨#[]⟩) ((numOf (x.extract 2 x.size):Nat):Int) 14=tkA c (ks.take (k+1)) D:=by rw [tkA_snoc h,if_neg hc]
def tkS (D:List CellD) (n:Int):List CellD:=if n < 1 then D else if 999 - numI D (⟨#[99,47,99,108,111,99,107]⟩:ByteArray) < n then D else tkA (numI D (⟨#[99,47,99,108,111,99,107]⟩:ByteArray)+n) (keysUnder (setS D (⟨#[99,47,99,108,111,99,107]⟩:ByteArray) (numI D (⟨#[99,47,99,108,111,99,107]⟩:ByteArray)+n)) (⟨#[116,47]⟩:ByteArray)) (setS D (⟨#[99,47,99,108,111,99,107]⟩:ByteArray) (numI D (⟨#[99,47,99,108,111,99,107]⟩:ByteArray)+n))
def blkT (D:List CellD) (id p:Int):ByteArray:=unhexT (getKey D (kIb id p))
theorem unhexT_f {x:ByteArray} (h:unhexB x=false):unhexT x=⟨#[]⟩:=by
 unfold unhexB at h;unfold unhexT
 cases e:unhexO x
 ·rfl
 ·rw [e] at h;cases h
theorem unhexT_n {x:ByteArray} (h:(!unhexB x)=true):unhexT x=⟨#[]⟩:=unhexT_f (by cases e:unhexB x;rfl;rw [e] at h;cases h)
theorem ksz {h t:ByteArray} {n:Int} (hn:i64ok n) (hs:h.size+t.size≤900):(keyNum h n t).size≤1000:=by
 have:=keyNum_size h t hn
 omega
class NM (key:ByteArray):Prop where
 h:byteAt key 0≠109
theorem nm_num {p t:ByteArray} {n:Int} (hp:0 < p.size) (h:byteAt p 0≠109):NM (keyNum p n t):=⟨by rw [byte_num hp];exact h⟩
theorem nm_two {p t t2:ByteArray} {n k:Int} (hp:0 < p.size) (h:byteAt p 0≠109):NM (keyNum (keyNum p n t) k t2):=⟨by rw [byte_num (by unfold keyNum;rw [ByteArray.size_append,ByteArray.size_append];omega),byte_num hp];exact h⟩
theorem nm_cat {p t:ByteArray} (hp:0 < p.size) (h:byteAt p 0≠109):NM (p++t):=⟨by rw [byteAt_append hp];exact h⟩
theorem nmp {X:Uni} {key:ByteArray} (h:NM key:=by first|exact ⟨by decide⟩|exact nm_num (by decide) (by decide)|exact nm_two (by decide) (by decide)|exact nm_cat (by decide) (by decide)|assumption):npg X key:=npg_of h.h
set_option maxRecDepth 100000
set_option maxHeartbeats 1000000
def padL (B:List Nat) (n:Nat):List Nat:=B++List.replicate (n - B.length) 0
theorem padL_len (B:List Nat) (n:Nat):(padL B n).length=max B.length n:=by
 unfold padL;rw [List.length_append,List.length_replicate];omega
def wrB (t:ByteArray) (a f i:Nat) (B:List Nat):Nat→List Nat
 | 0=>B
 | j+1=>(padL (wrB t a f i B j) (i+j - f+1)).set (i+j - f) (byteAt t (i+j - a))
theorem wrB_len (t:ByteArray) (a f i:Nat) (B:List Nat) (hf:f≤i):∀ j,i+j≤f+8→(wrB t a f i B j).length≤max B.length 8
 | 0,_=>Nat.le_max_left ..
 | j+1,h=>by
  have:=wrB_len t a f i B hf j (by omega)
  rw [wrB,List.length_set,padL_len];omega
theorem pad_step {B D:List Nat} {q:Nat} (h:D=B++List.replicate q 0):D++[0]=B++List.replicate (q+1) 0:=by
 rw [h,List.append_assoc,List.replicate_succ']
theorem pad_done {B D:List Nat} {q n:Nat} (h:D=B++List.replicate q 0) (h1:q=0∨B.length+q≤n+1) (h2:¬ D.length≤n):D=padL B (n+1):=by
 unfold padL
 have:q=n+1 - B.length:=by
  rw [h,List.length_append,List.length_replicate] at h2;omega
 rw [h,this]
theorem wr_in {t:ByteArray} {a:Nat} {D D2:List Nat} {f i j q n' v':Nat} {B:List Nat} (hD:D=wrB t a f i B j) (h0:D2=D++List.replicate q 0) (h1:q=0∨D.length+q≤n'+1) (h2:¬ D2.length≤n') (hn:n'=i+j - f) (hv:v'=i+j - a):D2.set n' (byteAt t v')=wrB t a f i B (j+1):=by
 subst hn hv
 rw [pad_done h0 h1 h2,hD];rfl
def wrP (D:List CellD) (id:Int) (a:Nat) (t:ByteArray) (p:Nat):List CellD:=putKey D (kIb id ((p:Nat):Int)) (hexS (bstr (wrB t a (p * 8) (max a (p * 8)) (bytesN (blkT D id ((p:Nat):Int))) (min (a+t.size) (p * 8+8) - max a (p * 8)))))
def wrA (D:List CellD) (id:Int) (a:Nat) (t:ByteArray):Nat→List CellD
 | 0=>D
 | k+1=>wrP (wrA D id a t k) id a t (a / 8+k)
def nBl (a n:Nat):Nat:=(a+n+7) / 8 - a / 8
def wfF (D:List CellD) (id at_:Int) (t:ByteArray):List CellD:=if (!inB at_ 0 (numI D (kIs id)))=true then D else if t=⟨#[]⟩ then D else if 64 < at_+((t.size:Nat):Int) then D
 else if numI D (kIs id) < at_+((t.size:Nat):Int) then setS (wrA D id at_.toNat t (nBl at_.toNat t.size)) (kIs id) (at_+((t.size:Nat):Int)) else wrA D id at_.toNat t (nBl at_.toNat t.size)
def ctA (D:List CellD) (id:Int) (p:Nat):Nat→List CellD
 | 0=>D
 | k+1=>putKey (ctA D id p k) (kIb id ((p+k:Nat):Int)) ⟨#[]⟩
def ctH (D:List CellD) (id:Int) (n:Nat):List CellD:=if n % 8=0 then D else putKey D (kIb id ((n / 8:Nat):Int)) (hexS ((blkT D id ((n / 8:Nat):Int)).extract 0 (min (n % 8) (blkT D id ((n / 8:Nat):Int)).size)))
theorem ctH_t {D:List CellD} {id:Int} {n:Nat} (h:n % 8=0):D=ctH D id n:=(if_pos h).symm
theorem ctH_f {D:List CellD} {id:Int} {n:Nat} (h:¬ n % 8=0):putKey D (kIb id ((n / 8:Nat):Int)) (hexS ((blkT D id ((n / 8:Nat):Int)).extract 0 (min (n % 8) (blkT D id ((n / 8:Nat):Int)).size)))=ctH D id n:=(if_neg h).symm
theorem blkT_size (D:List CellD) (id p:Int):(blkT D id p).size≤20000:=unhexT_size _
def ctF (D:List CellD) (id n:Int):List CellD:=if (!inB n 0 (numI D (kIs id)))=true then D else setS (ctA (ctH D id n.toNat) id ((n.toNat+7) / 8) ((numOf (getKey D (kIs id))+7) / 8 - (n.toNat+7) / 8)) (kIs id) n
end Go.Proofs.YtipdbeklopjbmaaGreatDoor
