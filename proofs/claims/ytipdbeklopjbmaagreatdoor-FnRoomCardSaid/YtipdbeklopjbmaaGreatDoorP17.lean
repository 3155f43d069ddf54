/-
  Texts laid together: DatUn, DatCa.
-/
import Derived.Test.YtipdbeklopjbmaaGreatDoorP13
set_option linter.unusedVariables false
set_option linter.unusedSimpArgs false
namespace Go.Proofs.YtipdbeklopjbmaaGreatDoor
open Go.ChangeShapes Go.WideShapes Go.ChangeAt Go.RowKit
set_option maxRecDepth 100000
set_option maxHeartbeats 1000000
def J0t (s:List CellD):Prop:=∀ c ∈ s,c.key.size≤1048576∧c.val.size≤1048576
theorem J98 {s:List CellD} {key:ByteArray} (h:J0t s):(Jl s key).size≤1048576:=by
 rcases Jeb (l:=s) (key:=key) with e|⟨c,hc,e⟩
 ·rw [e];exact Nat.zero_le _
 rw [← e];exact (h c hc).2
theorem J6w {a b:UInt8} {x y:List UInt8} : Op.bytesLess (a::x) (b::y)=true ↔ a.toNat < b.toNat∨(a=b∧Op.bytesLess x y=true):=by
 simp [Op.bytesLess,UInt8.lt_iff_toNat_lt]
theorem J8E:∀ {a b c:List UInt8},Op.bytesLess a b=true→Op.bytesLess b c=true→Op.bytesLess a c=true
 | [],[],_,h,_=>by simp [Op.bytesLess] at h
 | _::_,[],_,h,_=>by simp [Op.bytesLess] at h
 | _,_::_,[],_,h=>by simp [Op.bytesLess] at h
 | [],_::_,_::_,_,_=>rfl
 | a::x,b::y,c::z,h,k=>by
  rw [J6w] at h k ⊢
  rcases h with h|⟨rfl,h⟩
  ·rcases k with k|⟨rfl,k⟩
   ·exact .inl zO
   exact .inl h
  rcases k with k|⟨rfl,k⟩
  ·exact .inl k
  exact .inr ⟨rfl,J8E h k⟩
theorem J8D:∀ {a b:List UInt8},Op.bytesLess a b=false→a≠b→Op.bytesLess b a=true
 | [],[],_,h=>absurd rfl h
 | [],_::_,h,_=>by simp [Op.bytesLess] at h
 | _::_,[],_,_=>rfl
 | a::x,b::y,h,k=>by
  have h1:¬ Op.bytesLess (a::x) (b::y)=true:=by rw [h];decide
  rw [J6w] at h1 ⊢
  by_cases e:a=b
  ·subst e
   refine .inr ⟨rfl,J8D ?_ fun q=>k (by rw [q])⟩
   cases q:Op.bytesLess x y
   ·rfl
   exact absurd (.inr ⟨rfl,q⟩) h1
  refine .inl ?_
  have h2:¬ a.toNat < b.toNat:=fun q=>h1 (.inl q)
  have h3:a.toNat≠b.toNat:=fun q=>e (UInt8.toNat_inj.1 q)
  omega
theorem J6H {a b c:ByteArray} (h:ltS a b=true) (k:ltS b c=true):ltS a c=true:=J8E h k
theorem JeX {a b:ByteArray} (h:ltS a b=false) (k:a≠b):ltS b a=true:=J8D h fun e=>k (by
 rw [J3O,J3O] at e
 exact ByteArray.ext (Array.toList_inj.1 e))
theorem J5A {a b:ByteArray} (h:ltS a b=true):a≠b:=fun e=>by rw [e,JfB] at h;cases h
theorem J6O {α:Type} [DecidableEq α]:∀ {l m:List α},l.Nodup→(∀ x ∈ l,x ∈ m)→l.length≤m.length
 | [],_,_,_=>Nat.zero_le _
 | x::l,m,hn,hs=>by
  have hx:=hs x (List.mem_cons_self ..)
  have h1:=J6O (l:=l) (m:=m.erase x) (List.nodup_cons.1 hn).2 fun y hy=>(List.mem_erase_of_ne (fun e=>(List.nodup_cons.1 hn).1 (by rw [← e];exact hy))).2 (hs y (List.mem_cons_of_mem _ hy))
  have h2:=List.length_erase_of_mem hx
  have h3:=List.length_pos_of_mem hx
  rw [List.length_cons];omega
theorem J6u {α:Type} {p q:α→Bool} {k:α} : ∀ {U:List α},U.Nodup→k ∈ U→p k=true→q k=false→(∀ x,x≠k→p x=q x)→U.countP p=U.countP q+1
 | x::U,hn,hk,h1,h2,h3=>by
  have hn':=List.nodup_cons.1 hn
  by_cases e:x=k
  ·subst e
   have:U.countP p=U.countP q:=List.countP_congr fun y hy=>by rw [h3 y fun e=>hn'.1 (e ▸ hy)]
   rw [List.countP_cons_of_pos h1,List.countP_cons_of_neg (by rw [h2];decide),this]
  have ih:=J6u hn'.2 ((List.mem_cons.1 hk).resolve_left fun q=>e q.symm) h1 h2 h3
  cases hq:q x
  ·rw [List.countP_cons_of_neg (by rw [h3 x e,hq];decide),List.countP_cons_of_neg (by rw [hq];decide),ih]
  rw [List.countP_cons_of_pos (by rw [h3 x e,hq]),List.countP_cons_of_pos hq,ih]
def srtL (l:List ByteArray):Prop:=l.Pairwise (fun a b=>ltS a b=true)
theorem srtL.nodup {l:List ByteArray} (h:srtL l):l.Nodup:=List.Pairwise.imp (fun h=>J5A h) h
theorem srtL.put {l:List ByteArray} {x:ByteArray} (h:srtL l):srtL (JI l x):=by
 unfold JI
 split
 ·exact h
 rename_i hne
 generalize hi:l.findIdx (geS x)=i at hne
 have hlo:∀ a ∈ l.take i,ltS a x=true:=fun a ha=>by
  obtain ⟨j,hj,rfl⟩:=List.mem_iff_getElem.1 ha
  rw [List.length_take] at hj
  rw [List.getElem_take]
  have h1:=List.not_of_lt_findIdx (p:=geS x) (xs:=l) (i:=j) zO
  simpa [geS] using h1
 have hhi:∀ b ∈ l.drop i,ltS x b=true:=fun b hb=>by
  by_cases hl:i < l.length
  ·have h2:ltS x l[i]=true:=by
    have h1:geS x l[i]=true:=by
     have:=List.findIdx_getElem (p:=geS x) (xs:=l) (w:=by rw [hi];exact hl)
     simpa [hi] using this
    refine JeX (by simpa [geS] using h1) fun e=>hne ?_
    rw [List.getElem?_eq_getElem hl,e]
   rw [List.drop_eq_getElem_cons hl] at hb
   rcases List.mem_cons.1 hb with rfl|hb
   ·exact h2
   have hp:(l.drop i).Pairwise (fun a b=>ltS a b=true):=List.Pairwise.drop h
   rw [List.drop_eq_getElem_cons hl] at hp
   exact J6H h2 ((List.pairwise_cons.1 hp).1 b hb)
  rw [List.drop_eq_nil_of_le zO] at hb;cases hb
 unfold JL srtL
 refine List.pairwise_append.2 ⟨List.Pairwise.take h,List.pairwise_cons.2 ⟨hhi,List.Pairwise.drop h⟩,fun a ha b hb=>?_⟩
 rcases List.mem_cons.1 hb with rfl|hb
 ·exact hlo a ha
 exact J6H (hlo a ha) (hhi b hb)
theorem srtL.join {l m:List ByteArray} (h:srtL l):srtL (J0p l m):=by
 unfold J0p
 induction m generalizing l with
 | nil=>exact h
 | cons x m ih=>exact ih h.put
abbrev kPg (n:Int):ByteArray:=Ju (⟨#[109,47]⟩:ByteArray) n (⟨#[47]⟩:ByteArray)
structure Uni where
 K:ByteArray→Prop
 S:ByteArray→Prop
 P:Int
 page:∀ p:Int,0≤p→p≤3→S (Jj p++⟨#[]⟩)
 own:∀ s,S s→K (kPg P++s)
 fork:∀ t:Int,1≤t→t≤12→∀ s,S s→K (kPg t++s)
 inj:∀ t:Int,1≤t→t≤12→∀ s s',kPg t++s=kPg P++s'→s=s'
 sig:∀ n k:Nat,n≤999→k≤999→K (Ju (⟨#[114,47]⟩:ByteArray) n (⟨#[47,115]⟩:ByteArray))∧K (Ju (⟨#[103,47]⟩:ByteArray) n (⟨#[47,116]⟩:ByteArray))∧K (Ju (⟨#[103,47]⟩:ByteArray) n (⟨#[47,104]⟩:ByteArray))∧K (Ju (Ju (⟨#[103,47]⟩:ByteArray) n (⟨#[47,113,47]⟩:ByteArray)) k (⟨#[]⟩:ByteArray))
def J1Z (D:List CellD) (x:ByteArray):Bool:=D.any fun c=>decide (c.key=x)
theorem J4F {D:List CellD} {x:ByteArray} : J1Z D x=true ↔ ∃ c ∈ D,c.key=x:=by simp [J1Z]
theorem JaS {D:List CellD} {x:ByteArray} (h:¬ ∃ c ∈ D,c.key=x):J1Z D x=false:=by
 cases e:J1Z D x
 ·rfl
 exact absurd (J4F.1 e) h
theorem Jao {D E:List CellD} {x:ByteArray} (h:(∃ c ∈ D,c.key=x) ↔ ∃ c ∈ E,c.key=x):J1Z D x=J1Z E x:=by
 rw [Bool.eq_iff_iff,J4F,J4F];exact h
structure UnU (X:Uni) (U:List ByteArray) (D:List CellD) (R W:List ByteArray):Prop where
 nd:U.Nodup
 kn:∀ x,X.K x→x ∈ U
 rd:∀ x ∈ R,x ∈ U
 wr:∀ x ∈ W,x ∈ U
 rs:srtL R
 ws:srtL W
 ks:∀ c ∈ D,c.key ∈ U
 ln:D.length≤1048576+U.countP (J1Z D)
 ok:J0t D
 pg:∀ c ∈ D,∀ s,c.key=kPg X.P++s→X.S s
def Un (X:Uni) (u:Nat) (D:List CellD) (R W:List ByteArray):Prop:=∃ U:List ByteArray,U.length≤u∧UnU X U D R W
section
variable {X:Uni} {U:List ByteArray} {u:Nat} {D:List CellD} {R W:List ByteArray} {key val:ByteArray}
theorem UnU.cons (h:UnU X U D R W) (hk:key ∉ U):UnU X (key::U) D R W:=
 ⟨List.nodup_cons.2 ⟨hk,h.nd⟩,fun x hx=>List.mem_cons_of_mem _ (h.kn x hx),fun x hx=>List.mem_cons_of_mem _ (h.rd x hx),fun x hx=>List.mem_cons_of_mem _ (h.wr x hx),h.rs,h.ws,fun c hc=>List.mem_cons_of_mem _ (h.ks c hc),by have:=h.ln;rw [List.countP_cons];omega,h.ok,h.pg⟩
theorem UnU.add (h:UnU X U D R W) (key:ByteArray):∃ V:List ByteArray,V.length≤U.length+1∧key ∈ V∧UnU X V D R W:=by
 by_cases hk:key ∈ U
 ·exact ⟨U,zO,hk,h⟩
 exact ⟨key::U,by rw [List.length_cons];exact Nat.le_refl _,List.mem_cons_self ..,h.cons hk⟩
theorem UnU.look (h:UnU X U D R W) (hk:key ∈ U):UnU X U D (JI R key) W:=
 ⟨h.nd,h.kn,fun x hx=>(J3y.1 hx).elim (h.rd x) fun e=>e ▸ hk,h.wr,h.rs.put,h.ws,h.ks,h.ln,h.ok,h.pg⟩
theorem UnU.del (h:UnU X U D R W) (hk:key ∈ U):UnU X U (Jx D key) R (JI W key):=by
 refine ⟨h.nd,h.kn,h.rd,fun x hx=>(J3y.1 hx).elim (h.wr x) fun e=>e ▸ hk,h.rs,h.ws.put,fun c hc=>h.ks c (J2h.1 hc).1,?_,fun c hc=>h.ok c (J2h.1 hc).1,fun c hc=>h.pg c (J2h.1 hc).1⟩
 have h1:=h.ln
 by_cases hm:∃ c ∈ D,c.key=key
 ·have h2:(Jx D key).length+1≤D.length:=by
   obtain ⟨c,hc,e⟩:=hm
   exact List.length_filter_lt_length_iff_exists.2 ⟨c,hc,(show ¬ decide (c.key≠key)=true by simp [e])⟩
  have h3:=J6u (p:=J1Z D) (q:=J1Z (Jx D key)) h.nd hk (J4F.2 hm) (JaS fun ⟨c,hc,e⟩=>(J2h.1 hc).2 e) fun x hx=>
   Jao ⟨fun ⟨c,hc,e⟩=>⟨c,J2h.2 ⟨hc,fun g=>hx (e ▸ g)⟩,e⟩,fun ⟨c,hc,e⟩=>⟨c,(J2h.1 hc).1,e⟩⟩
  omega
 have e:Jx D key=D:=List.filter_eq_self.2 fun c hc=>decide_eq_true fun g=>hm ⟨c,hc,g⟩
 rw [e];exact h1
theorem J3X {r:List CellD} {c:CellD} : c ∈ J1k r key val ↔ c ∈ r∨c=⟨key,val⟩:=by
 unfold J1k JL
 generalize r.findIdx _=i
 rw [List.mem_append,List.mem_cons]
 have:c ∈ r ↔ c ∈ r.take i∨c ∈ r.drop i:=by rw [← List.mem_append,List.take_append_drop]
 rw [this]
 constructor
 ·rintro (h|h|h)
  ·exact .inl (.inl h)
  ·exact .inr h
  exact .inl (.inr h)
 rintro ((h|h)|h)
 ·exact .inl h
 ·exact .inr (.inr h)
 exact .inr (.inl h)
theorem UnU.lay (h:UnU X U D R W) (hk:key ∈ U) (hp:val=⟨#[]⟩∨∀ s,key=kPg X.P++s→X.S s):UnU X U (Jp D key val) R (JI W key):=by
 have hw:∀ x ∈ JI W key,x ∈ U:=fun x hx=>(J3y.1 hx).elim (h.wr x) fun e=>e ▸ hk
 by_cases h1:J0L key=true∧val.size≤60
 ·by_cases h3:val=⟨#[]⟩
  ·rw [J5b h1.1 h3];exact h.del hk
  rw [J6z h1.1 h1.2 h3]
  have hd:=h.del hk
  refine ⟨h.nd,h.kn,h.rd,hw,h.rs,h.ws.put,fun c hc=>?_,?_,fun c hc=>?_,fun c hc s e=>?_⟩
  ·rcases J3X.1 hc with hc|rfl
   ·exact hd.ks c hc
   exact hk
  ·have h4:=hd.ln
   have h5:(J1k (Jx D key) key val).length=(Jx D key).length+1:=J6g _ _ _ List.findIdx_le_length
   have h6:=J6u (p:=J1Z (J1k (Jx D key) key val)) (q:=J1Z (Jx D key)) h.nd hk (J4F.2 ⟨_,J3X.2 (.inr rfl),rfl⟩) (JaS fun ⟨c,hc,e⟩=>(J2h.1 hc).2 e) fun x hx=>
    Jao ⟨fun ⟨c,hc,e⟩=>(J3X.1 hc).elim (fun hc=>⟨c,hc,e⟩) fun g=>absurd (by rw [← e,g]) hx,fun ⟨c,hc,e⟩=>⟨c,J3X.2 (.inl hc),e⟩⟩
   omega
  ·rcases J3X.1 hc with hc|rfl
   ·exact hd.ok c hc
   have:=J59 h1.1
   exact ⟨by show key.size≤_;omega,by show val.size≤_;have:=h1.2;omega⟩
  rcases J3X.1 hc with hc|rfl
  ·exact hd.pg c hc s e
  exact hp.resolve_left h3 s e
 have:Jp D key val=D:=if_neg h1
 rw [this]
 exact ⟨h.nd,h.kn,h.rd,hw,h.rs,h.ws.put,h.ks,h.ln,h.ok,h.pg⟩
theorem Un.le {u':Nat} (h:Un X u D R W) (hu:u≤u'):Un X u' D R W:=let ⟨U,h1,h2⟩:=h;⟨U,zO,h2⟩
theorem Un.bd (h:Un X u D R W):D.length≤1048576+u∧R.length≤u∧W.length≤u∧J0t D:=by
 obtain ⟨U,h1,h2⟩:=h
 have h3:=h2.ln
 have h4:=List.countP_le_length (p:=J1Z D) (l:=U)
 have h5:=J6O h2.rs.nodup h2.rd
 have h6:=J6O h2.ws.nodup h2.wr
 exact ⟨zO,zO,zO,h2.ok⟩
def knw (X:Uni) (D:List CellD) (key:ByteArray):Prop:=X.K key∨∃ c ∈ D,c.key=key
theorem UnU.knw (h:UnU X U D R W) (hk:knw X D key):key ∈ U:=hk.elim (h.kn _) fun ⟨c,hc,e⟩=>e ▸ h.ks c hc
def npg (X:Uni) (key:ByteArray):Prop:=∀ s,key=kPg X.P++s→X.S s
theorem Un.look (h:Un X u D R W):Un X (u+1) D (JI R key) W:=by
 obtain ⟨U,h1,h2⟩:=h
 obtain ⟨V,h3,h4,h5⟩:=h2.add key
 exact ⟨V,zO,h5.look h4⟩
theorem Un.lookK (h:Un X u D R W) (hk:knw X D key):Un X u D (JI R key) W:=let ⟨U,h1,h2⟩:=h;⟨U,h1,h2.look (h2.knw hk)⟩
theorem Un.lay (h:Un X u D R W) (hp:val=⟨#[]⟩∨npg X key):Un X (u+1) (Jp D key val) R (JI W key):=by
 obtain ⟨U,h1,h2⟩:=h
 obtain ⟨V,h3,h4,h5⟩:=h2.add key
 exact ⟨V,zO,h5.lay h4 hp⟩
theorem Un.layK (h:Un X u D R W) (hk:knw X D key) (hp:val=⟨#[]⟩∨npg X key):Un X u (Jp D key val) R (JI W key):=let ⟨U,h1,h2⟩:=h;⟨U,h1,h2.lay (h2.knw hk) hp⟩
end
def Uni.ext (X:Uni) (ks:List ByteArray):Uni:=⟨fun k=>X.K k∨k ∈ ks,X.S,X.P,X.page,fun s h=>.inl (X.own s h),fun t h1 h2 s h=>.inl (X.fork t h1 h2 s h),X.inj,fun n k h1 h2=>⟨.inl (X.sig n k h1 h2).1,.inl (X.sig n k h1 h2).2.1,.inl (X.sig n k h1 h2).2.2.1,.inl (X.sig n k h1 h2).2.2.2⟩⟩
theorem Un.ext {X:Uni} {u:Nat} {D:List CellD} {R W:List ByteArray} {ks:List ByteArray} (h:Un X u D R W) (hk:∀ k ∈ ks,knw X D k):Un (X.ext ks) u D R W:=by
 obtain ⟨U,h1,h2⟩:=h
 exact ⟨U,h1,h2.nd,fun x hx=>hx.elim (h2.kn x) fun hx=>h2.knw (hk x hx),h2.rd,h2.wr,h2.rs,h2.ws,h2.ks,h2.ln,h2.ok,h2.pg⟩
theorem Un.unext {X:Uni} {u:Nat} {D:List CellD} {R W:List ByteArray} {ks:List ByteArray} (h:Un (X.ext ks) u D R W):Un X u D R W:=by
 obtain ⟨U,h1,h2⟩:=h
 exact ⟨U,h1,h2.nd,fun x hx=>h2.kn x (.inl hx),h2.rd,h2.wr,h2.rs,h2.ws,h2.ks,h2.ln,h2.ok,h2.pg⟩
theorem J92 {k p:ByteArray} (h:J0h k p=true):p++k.extract p.size k.size=k:=by
 unfold J0h at h
 have h1:=of_decide_eq_true h
 have e3:p++k.extract p.size k.size=k.extract 0 p.size++k.extract p.size k.size:=by rw [h1.2]
 rw [e3,ByteArray.extract_append_extract,Nat.min_eq_left (Nat.zero_le _),Nat.max_eq_right h1.1,ByteArray.extract_zero_size]
theorem Un.pgS {X:Uni} {u:Nat} {D:List CellD} {R W:List ByteArray} (h:Un X u D R W):∀ k ∈ Jt D (kPg X.P),X.S (k.extract (kPg X.P).size k.size):=fun k hk=>by
 obtain ⟨U,_,h2⟩:=h
 obtain ⟨⟨c,hc,e⟩,hb⟩:=J4l.1 hk
 exact h2.pg c hc _ (e.trans (J92 hb).symm)
theorem Jhg {X:Uni} {ks:List ByteArray} {D:List CellD} {t:Int} {s:ByteArray} (ht:1≤t∧t≤12) (hs:X.S s):knw (X.ext ks) D (kPg t++s):=.inl (.inl (X.fork t ht.1 ht.2 s hs))
theorem Jhh {X:Uni} {ks:List ByteArray} {t:Int} {s:ByteArray} (ht:1≤t∧t≤12) (hs:X.S s):npg (X.ext ks) (kPg t++s):=fun s' e=>X.inj t ht.1 ht.2 s s' e ▸ hs
theorem Jiw (n p:Int):Ju (kPg n) p (⟨#[]⟩:ByteArray)=kPg n++(Jj p++(⟨#[]⟩:ByteArray)):=by
 show kPg n++Jj p++(⟨#[]⟩:ByteArray)=_
 rw [J8f]
theorem JaZ {X:Uni} {p:Int} (h:0≤p∧p≤3):npg X (Ju (kPg X.P) p (⟨#[]⟩:ByteArray)):=fun s e=>by
 rw [Jiw] at e
 exact J8g e ▸ X.page p h.1 h.2
def sgK (X:Uni) (id:Int):Prop:=X.K (Ju (⟨#[114,47]⟩:ByteArray) id (⟨#[47,115]⟩:ByteArray))∧X.K (Ju (⟨#[103,47]⟩:ByteArray) id (⟨#[47,116]⟩:ByteArray))∧X.K (Ju (⟨#[103,47]⟩:ByteArray) id (⟨#[47,104]⟩:ByteArray))∧∀ k:Int,0≤k→k≤999→X.K (Ju (Ju (⟨#[103,47]⟩:ByteArray) id (⟨#[47,113,47]⟩:ByteArray)) k (⟨#[]⟩:ByteArray))
theorem Jb5 {X:Uni} {m:Nat} (h:m≤999):sgK X ((m:Nat):Int):=⟨(X.sig m 0 h (by decide)).1,(X.sig m 0 h (by decide)).2.1,(X.sig m 0 h (by decide)).2.2.1,fun k h0 h1=>by
 obtain ⟨j,rfl⟩:=Int.eq_ofNat_of_zero_le h0
 exact (X.sig m j h zO).2.2.2⟩
theorem J3V {X:Uni} {D:List CellD} {p:ByteArray} : ∀ k ∈ Jt D p,knw X D k:=fun _ hk=>.inr (J4l.1 hk).1
theorem J35 {X:Uni} {D:List CellD} {ks:List ByteArray} {k:Nat} {x:ByteArray} (h:nth ks k=some x):knw (X.ext ks) D x:=.inl (.inr (Jm h))
theorem Jhv {X:Uni} {key:ByteArray} (h:J5 key 0≠109):npg X key:=fun s e=>by
 refine absurd ?_ h
 rw [e,show kPg X.P++s=Ju (⟨#[109,47]⟩:ByteArray) X.P ((⟨#[47]⟩:ByteArray)++s) by unfold kPg Ju;simp only [J8f],J5i (by decide)]
 rfl
set_option maxRecDepth 100000
set_option maxHeartbeats 1000000
def Ja (D:List CellD) (key:ByteArray):Int:=((JS (Jl D key):Nat):Int)
def JG (D:List CellD) (key:ByteArray) (n:Int):List CellD:=Jp D key (J2A n)
def delA (ks:List ByteArray) (D:List CellD):List CellD:=ks.foldl (fun D k=>Jp D k ⟨#[]⟩) D
def J1Y (D:List CellD) (pfx:ByteArray):List CellD:=delA (Jt D pfx) D
theorem JeM {ks:List ByteArray} {D:List CellD} {k:Nat} {x:ByteArray} (h:nth ks k=some x):Jp (delA (ks.take k) D) x ⟨#[]⟩=delA (ks.take (k+1)) D:=by
 rw [J1l h];unfold delA;rw [List.foldl_append];rfl
theorem J5n {α:Type} {l:List α} {n k:Nat} (h:n=l.length) (hk:¬ ((k:Nat):Int) < ((n:Nat):Int)):l.take k=l:=List.take_of_length_le zO
abbrev kNm (s:ByteArray):ByteArray:=(⟨#[110,47]⟩:ByteArray)++s
abbrev kL (n:Int):ByteArray:=Ju (⟨#[105,47]⟩:ByteArray) n (⟨#[47,108]⟩:ByteArray)
abbrev kIs (n:Int):ByteArray:=Ju (⟨#[105,47]⟩:ByteArray) n (⟨#[47,115]⟩:ByteArray)
abbrev kIb (n p:Int):ByteArray:=Ju (Ju (⟨#[105,47]⟩:ByteArray) n (⟨#[47,98,47]⟩:ByteArray)) p (⟨#[]⟩:ByteArray)
abbrev kP (n:Int) (t:ByteArray):ByteArray:=Ju (⟨#[112,47]⟩:ByteArray) n t
abbrev kPq (n k:Int):ByteArray:=Ju (Ju (⟨#[112,47]⟩:ByteArray) n (⟨#[47,113,47]⟩:ByteArray)) k (⟨#[]⟩:ByteArray)
abbrev kR (n:Int) (t:ByteArray):ByteArray:=Ju (⟨#[114,47]⟩:ByteArray) n t
abbrev kG (n:Int) (t:ByteArray):ByteArray:=Ju (⟨#[103,47]⟩:ByteArray) n t
abbrev kGq (n k:Int):ByteArray:=Ju (Ju (⟨#[103,47]⟩:ByteArray) n (⟨#[47,113,47]⟩:ByteArray)) k (⟨#[]⟩:ByteArray)
abbrev kT (n:Int):ByteArray:=Ju (⟨#[116,47]⟩:ByteArray) n (⟨#[]⟩:ByteArray)
abbrev kM (n p:Int):ByteArray:=Ju (kPg n) p (⟨#[]⟩:ByteArray)
abbrev kD (n:Int):ByteArray:=Ju (⟨#[100,47]⟩:ByteArray) n (⟨#[]⟩:ByteArray)
def J0R (D:List CellD) (key:ByteArray):Int × List CellD:=if 999 < Ja D key+1 then (0,D) else (Ja D key+1,JG D key (Ja D key+1))
def JV (D:List CellD) (name:ByteArray):Int:=if (!J14 name)=true then 0 else Ja D (kNm name)
def mkS (D:List CellD) (name:ByteArray):List CellD:=if (!J14 name)=true then D else if JV D name≠0 then D else if 20≤Ja D (⟨#[99,47,102,105,108,101]⟩:ByteArray) then D else JG (JG (J0R D (⟨#[99,47,102,105,108,101]⟩:ByteArray)).2 (kNm name) (J0R D (⟨#[99,47,102,105,108,101]⟩:ByteArray)).1) (kL (J0R D (⟨#[99,47,102,105,108,101]⟩:ByteArray)).1) 1
def lkS (D:List CellD) (f t:ByteArray):List CellD:=if (!J14 f)=true then D else if (!J14 t)=true then D else if JV D f=0 then D else if JV D t≠0 then D else if 4≤Ja D (kL (JV D f)) then D
 else JG (JG D (kNm t) (JV D f)) (kL (JV D f)) (Ja D (kL (JV D f))+1)
def ulS (D:List CellD) (f:ByteArray):List CellD:=if (!J14 f)=true then D else if JV D f=0 then D else if 1 < Ja (Jp D (kNm f) ⟨#[]⟩) (kL (JV D f)) then JG (Jp D (kNm f) ⟨#[]⟩) (kL (JV D f)) (Ja (Jp D (kNm f) ⟨#[]⟩) (kL (JV D f)) - 1)
 else J1Y (Jp D (kNm f) ⟨#[]⟩) (Ju (⟨#[105,47]⟩:ByteArray) (JV D f) (⟨#[47]⟩:ByteArray))
def rnS (D:List CellD) (f t:ByteArray):List CellD:=if (!J14 f)=true then D else if (!J14 t)=true then D else if JV D f=0 then D else if JV D t=JV D f then D else if JV D t≠0 then Jp (JG (ulS D t) (kNm t) (JV D f)) (kNm f) ⟨#[]⟩ else Jp (JG D (kNm t) (JV D f)) (kNm f) ⟨#[]⟩
def mpS (D:List CellD):List CellD:=if 8≤Ja D (⟨#[99,47,112,105,112,101]⟩:ByteArray) then D else JG (J0R D (⟨#[99,47,112,105,112,101]⟩:ByteArray)).2 (kP (J0R D (⟨#[99,47,112,105,112,101]⟩:ByteArray)).1 (⟨#[47,111]⟩:ByteArray)) 1
def ppS (D:List CellD) (id:Int) (x:ByteArray):List CellD:=if (!decide (Ja D (kP id (⟨#[47,111]⟩:ByteArray))=1))=true then D else if (20:Int) < ((x.size:Nat):Int) then D else if 4≤Ja D (kP id (⟨#[47,116]⟩:ByteArray)) - Ja D (kP id (⟨#[47,104]⟩:ByteArray)) then D else if 999≤Ja D (kP id (⟨#[47,116]⟩:ByteArray)) then D
 else Jp (JG D (kP id (⟨#[47,116]⟩:ByteArray)) (Ja D (kP id (⟨#[47,116]⟩:ByteArray))+1)) (kPq id (Ja D (kP id (⟨#[47,116]⟩:ByteArray))+1)) ((⟨#[45]⟩:ByteArray)++Js x)
def tpS (D:List CellD) (id:Int):List CellD:=if (!decide (Ja D (kP id (⟨#[47,111]⟩:ByteArray))=1))=true then D else if Ja D (kP id (⟨#[47,116]⟩:ByteArray))=Ja D (kP id (⟨#[47,104]⟩:ByteArray)) then D else JG (Jp D (kPq id (Ja D (kP id (⟨#[47,104]⟩:ByteArray))+1)) ⟨#[]⟩) (kP id (⟨#[47,104]⟩:ByteArray)) (Ja D (kP id (⟨#[47,104]⟩:ByteArray))+1)
def spF (D:List CellD) (p:Int):(Int × Int) × List CellD:=if 12≤Ja D (⟨#[99,47,112,114,111,99]⟩:ByteArray) then ((0,3),D) else (((J0R D (⟨#[99,47,112,114,111,99]⟩:ByteArray)).1,0),JG (JG (J0R D (⟨#[99,47,112,114,111,99]⟩:ByteArray)).2 (kR (J0R D (⟨#[99,47,112,114,111,99]⟩:ByteArray)).1 (⟨#[47,115]⟩:ByteArray)) 1) (kR (J0R D (⟨#[99,47,112,114,111,99]⟩:ByteArray)).1 (⟨#[47,112]⟩:ByteArray)) p)
def enF (D:List CellD) (id n:Int):Int × List CellD:=if Ja D (kR id (⟨#[47,115]⟩:ByteArray))≠1 then (2,D) else if (!inB n 0 100)=true then (4,D) else (0,JG (JG D (kR id (⟨#[47,115]⟩:ByteArray)) 2) (kR id (⟨#[47,120]⟩:ByteArray)) (n+1))
def rpS (D:List CellD) (p id:Int):List CellD:=if Ja D (kR id (⟨#[47,112]⟩:ByteArray))=0 then D else if Ja D (kR id (⟨#[47,112]⟩:ByteArray))≠p then D else if Ja D (kR id (⟨#[47,115]⟩:ByteArray))=1 then D else if Ja D (kR id (⟨#[47,115]⟩:ByteArray))=2 then J1Y D (kR id (⟨#[47]⟩:ByteArray)) else D
def sgS (D:List CellD) (id n:Int):List CellD:=if Ja D (kR id (⟨#[47,115]⟩:ByteArray))≠1 then D else if (!inB n 1 31)=true then D else if 4≤Ja D (kG id (⟨#[47,116]⟩:ByteArray)) - Ja D (kG id (⟨#[47,104]⟩:ByteArray)) then D else if 999≤Ja D (kG id (⟨#[47,116]⟩:ByteArray)) then D
 else JG (JG D (kG id (⟨#[47,116]⟩:ByteArray)) (Ja D (kG id (⟨#[47,116]⟩:ByteArray))+1)) (kGq id (Ja D (kG id (⟨#[47,116]⟩:ByteArray))+1)) n
def tsS (D:List CellD) (id:Int):List CellD:=if Ja D (kG id (⟨#[47,116]⟩:ByteArray))=Ja D (kG id (⟨#[47,104]⟩:ByteArray)) then D else JG (Jp D (kGq id (Ja D (kG id (⟨#[47,104]⟩:ByteArray))+1)) ⟨#[]⟩) (kG id (⟨#[47,104]⟩:ByteArray)) (Ja D (kG id (⟨#[47,104]⟩:ByteArray))+1)
def tmS (D:List CellD) (id n:Int):List CellD:=if (!inB n 0 999)=true then D else JG D (kT id) n
def gpS (D:List CellD) (id p:Int) (x:ByteArray):List CellD:=if (!inB p 0 3)=true then D else if (20:Int) < ((x.size:Nat):Int) then D else Jp D (kM id p) (if x=⟨#[]⟩ then ⟨#[]⟩ else (⟨#[45]⟩:ByteArray)++Js x)
def poS (D:List CellD) (x:ByteArray):List CellD:=if (!inB ((x.size:Nat):Int) 1 20)=true then D else if 40≤Ja D (⟨#[100,47,110]⟩:ByteArray) then D else Jp (JG D (⟨#[100,47,110]⟩:ByteArray) (Ja D (⟨#[100,47,110]⟩:ByteArray)+1)) (kD (Ja D (⟨#[100,47,110]⟩:ByteArray)+1)) ((⟨#[45]⟩:ByteArray)++Js x)
theorem iFb {α:Sort _} {x:Bool} {a b:α} (h:x=false):(if x=true then a else b)=b:=if_neg (by rw [h];decide)
theorem JfI {n:Int} (h1:1≤n) (h2:n≤999):J2A n=Jj n:=if_pos (decide_eq_true ⟨h1,h2⟩)
theorem nF' {b:Bool} (h:(!b)=true):¬ b=true:=by cases b <;> simp_all
theorem JdW {x:ByteArray} (h:x.size=0):x=⟨#[]⟩:=ByteArray.ext (Array.eq_empty_of_size_eq_zero h)
theorem J42 {x:ByteArray} (h:¬ x=⟨#[]⟩):0 < x.size:=Nat.pos_of_ne_zero fun e=>h (JdW e)
theorem po_1 {x:ByteArray} (h:x=⟨#[]⟩):(!inB ((x.size:Nat):Int) 1 20)=true:=by subst h;rfl
theorem po_2 {x:ByteArray} (h:(20:Int) < ((x.size:Nat):Int)):(!inB ((x.size:Nat):Int) 1 20)=true:=by
 have:inB ((x.size:Nat):Int) 1 20=false:=decide_eq_false zO
 rw [this];rfl
theorem JbU {x:ByteArray} (h:¬ x=⟨#[]⟩) (h2:¬ (20:Int) < ((x.size:Nat):Int)):(!inB ((x.size:Nat):Int) 1 20)=false:=by
 have h3:=J42 h
 have:inB ((x.size:Nat):Int) 1 20=true:=decide_eq_true zO
 rw [this];rfl
theorem Jbe {r:Int} (h:0≤r∧r≤999):J1 r:=by unfold J1;omega
theorem J7m {n:Nat} (h:n≤68719476736):J1 ((n:Nat):Int):=by unfold J1;omega
def fkA (p q:ByteArray) (ks:List ByteArray) (D:List CellD):List CellD:=ks.foldl (fun D k=>Jp D (q++k.extract p.size k.size) (Jl D k)) D
def fkS (D:List CellD) (f t:Int):List CellD:=fkA (kPg f) (kPg t) (Jt D (kPg f)) D
theorem Jfv {p q:ByteArray} {ks:List ByteArray} {D:List CellD} {k:Nat} {x:ByteArray} (h:nth ks k=some x):Jp (fkA p q (ks.take k) D) (q++x.extract p.size x.size) (Jl (fkA p q (ks.take k) D) x)=fkA p q (ks.take (k+1)) D:=by
 rw [J1l h];unfold fkA;rw [List.foldl_append];rfl
def tkA (c:Int) (ks:List ByteArray) (D:List CellD):List CellD:=ks.foldl (fun D k=>if c < Ja D k then D else sgS (Jp D k ⟨#[]⟩) ((JS (k.extract 2 k.size):Nat):Int) 14) D
theorem Ja8 {c:Int} {ks:List ByteArray} {D:List CellD} {k:Nat} {x:ByteArray} (h:nth ks k=some x):tkA c (ks.take (k+1)) D=if c < Ja (tkA c (ks.take k) D) x then tkA c (ks.take k) D else sgS (Jp (tkA c (ks.take k) D) x ⟨#[]⟩) ((JS (x.extract 2 x.size):Nat):Int) 14:=by
 rw [J1l h];unfold tkA;rw [List.foldl_append];rfl
theorem Jb9 {c:Int} {ks:List ByteArray} {D:List CellD} {k:Nat} {x:ByteArray} (h:nth ks k=some x) (hc:c < Ja (tkA c (ks.take k) D) x):tkA c (ks.take k) D=tkA c (ks.take (k+1)) D:=by rw [Ja8 h,if_pos hc]
theorem Jb8 {c:Int} {ks:List ByteArray} {D:List CellD} {k:Nat} {x:ByteArray} (h:nth ks k=some x) (hc:¬ c < Ja (tkA c (ks.take k) D) x):sgS (Jp (tkA c (ks.take k) D) x ⟨#[]⟩) ((JS (x.extract 2 x.size):Nat):Int) 14=tkA c (ks.take (k+1)) D:=by rw [Ja8 h,if_neg hc]
def tkS (D:List CellD) (n:Int):List CellD:=if n < 1 then D else if 999 - Ja D (⟨#[99,47,99,108,111,99,107]⟩:ByteArray) < n then D else tkA (Ja D (⟨#[99,47,99,108,111,99,107]⟩:ByteArray)+n) (Jt (JG D (⟨#[99,47,99,108,111,99,107]⟩:ByteArray) (Ja D (⟨#[99,47,99,108,111,99,107]⟩:ByteArray)+n)) (⟨#[116,47]⟩:ByteArray)) (JG D (⟨#[99,47,99,108,111,99,107]⟩:ByteArray) (Ja D (⟨#[99,47,99,108,111,99,107]⟩:ByteArray)+n))
def J0S (D:List CellD) (id p:Int):ByteArray:=JK (Jl D (kIb id p))
theorem Jg0 {x:ByteArray} (h:J0k x=false):JK x=⟨#[]⟩:=by
 unfold J0k at h;unfold JK
 cases e:J37 x
 ·rfl
 rw [e] at h;cases h
theorem Jg1 {x:ByteArray} (h:(!J0k x)=true):JK x=⟨#[]⟩:=Jg0 (by cases e:J0k x;rfl;rw [e] at h;cases h)
theorem ksz {h t:ByteArray} {n:Int} (hn:J1 n) (hs:h.size+t.size≤900):(Ju h n t).size≤1000:=by
 have:=JdU h t hn
 omega
class NM (key:ByteArray):Prop where
 h:J5 key 0≠109
theorem Jht {p t:ByteArray} {n:Int} (hp:0 < p.size) (h:J5 p 0≠109):NM (Ju p n t):=⟨by rw [J5i hp];exact h⟩
theorem Jhu {p t t2:ByteArray} {n k:Int} (hp:0 < p.size) (h:J5 p 0≠109):NM (Ju (Ju p n t) k t2):=⟨by rw [J5i (by unfold Ju;rw [ByteArray.size_append,ByteArray.size_append];omega),J5i hp];exact h⟩
theorem Jhs {p t:ByteArray} (hp:0 < p.size) (h:J5 p 0≠109):NM (p++t):=⟨by rw [J68 hp];exact h⟩
theorem nmp {X:Uni} {key:ByteArray} (h:NM key:=by first|exact ⟨by decide⟩|exact Jht (by decide) (by decide)|exact Jhu (by decide) (by decide)|exact Jhs (by decide) (by decide)|assumption):npg X key:=Jhv h.h
end Go.Proofs.YtipdbeklopjbmaaGreatDoor
