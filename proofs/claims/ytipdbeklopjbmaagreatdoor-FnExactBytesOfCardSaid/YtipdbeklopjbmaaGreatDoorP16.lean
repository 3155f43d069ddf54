/-
  Texts laid together: MG, FactsK2, GenX, MF, FactsK3, MI.
-/
import Derived.Test.YtipdbeklopjbmaaGreatDoorP15
import Derived.Test.YtipdbeklopjbmaaGreatDoorP14
import Derived.Test.YtipdbeklopjbmaaGreatDoorP02
import Derived.Test.YtipdbeklopjbmaaGreatDoorP06
import Derived.Test.YtipdbeklopjbmaaGreatDoorP11
set_option linter.unusedVariables false
set_option linter.unusedSimpArgs false
namespace Go.Proofs.YtipdbeklopjbmaaGreatDoor
open Go.ChangeShapes Go.WideShapes Go.ChangeAt Go.RowKit
inductive OT where
 | l (is:List Nat)
 | b2 (is:List Nat) (i:Nat) (x:OT) (j:Nat) (y:OT)
 | b3 (is:List Nat) (i:Nat) (x:OT) (j:Nat) (y:OT) (k:Nat) (z:OT)
def OT.size:OT→Nat
 | .l is=>is.length
 | .b2 is _ x _ _=>is.length+(x.size+1)
 | .b3 is _ x _ _ _ _=>is.length+(x.size+1)
abbrev QF (C:Act→World→Prop):Exit→Act→World→Prop:=Exit.then C fun _ _ _=>False
section
variable {P:Program} {ops:Array Oper} {S:World→Prop} {ex:List Nat} {o:Oper} {a:Act} {w:World} {C C' C1:Act→World→Prop} {K K':Act→World→Prop} {nd:Nat→Bool}
theorem wp_then (h:∀ a w,K a w→K' a w) (hh:st1 P ops (QF C) o K a w):st1 P ops (QF C') o K' a w:=by
 unfold st1 at *
 split
 ·rename_i hw
  rw [if_pos hw] at hh
  rcases hh with hh|hh
  ·refine .inl ?_
   unfold Oper.wp at *
   generalize (execOp a.eval o).run P w=r at *
   unfold Oper.upon at *
   split <;> simp only at hh ⊢
   ·exact h _ _ hh
   ·exact h _ _ hh
   ·exact h _ _ hh
   ·refine hh.mono fun e w'=>?_
    cases e
    ·exact h _ _
    ·exact id
    ·rintro ⟨_,_,hf⟩;exact hf.elim
   ·exact Rows.mono hh fun _ _ hk=>h _ _ hk
   ·exact hh
  ·obtain ⟨_,⟨_,_,hf⟩⟩:=hh;exact hf.elim
 ·rename_i hw
  rw [if_neg hw] at hh
  exact h _ _ hh
def setL (is:List Nat) (listed:Array Bool):Array Bool:=is.foldl (fun l i=>l.setIfInBounds i true) listed
def certP (ops:Array Oper) (ex:List Nat):List Nat→Array Bool→Bool
 | [],_=>true
 | i::r,listed=>(match ops[i]? with
  | none=>false
  | some o=>if (tkOf o && !ex.contains i)=true then (Region.ready .any ops listed).contains i && Region.free .any ops listed i else Region.ready .any ops listed == [i]) && certP ops ex r (listed.setIfInBounds i true)
theorem seqP_any {n:Nat} (hs:Region.noSelect ops=true):∀ (is:List Nat) (listed:Array Bool) (a:Act) (w:World),certP ops ex is listed=true→seqN P ops ex (QF C') S is a w →
 (∀ a w,C' a w→wpAnyN P ops (QF C) (ndOf ops ex) S n (setL is listed) a w)→wpAnyN P ops (QF C) (ndOf ops ex) S (is.length+n) listed a w
 | [],listed,a,w,_,h,hE=>by
  rw [List.length_nil,Nat.zero_add];exact hE a w h
 | i::r,listed,a,w,hc,h,hE=>by
  unfold certP at hc
  rw [Bool.and_eq_true] at hc
  obtain ⟨hc1,hc2⟩:=hc
  unfold seqN at h
  obtain ⟨o,ho,h⟩:=h
  rw [ho] at hc1
  simp only at hc1
  rw [List.length_cons,show r.length+1+n=(r.length+n)+1 by omega]
  by_cases ht:(tkOf o && !ex.contains i)=true
  ·rw [if_pos ht,Bool.and_eq_true] at hc1
   rw [if_pos ht] at h
   obtain ⟨v,hy,h⟩:=h
   have hn:=seqP_any hs r _ _ w hc2 h hE
   by_cases hl:ldOf o=true
   ·rw [if_pos hl] at hy
    exact wpAnyN_first (T:=S) ho (Region.noSelect_spec hs) (fun c a w q=>q) (fun j oj hj he w w' hp hS=>hp (ndOf_of ho hl (by simp only [Bool.and_eq_true,Bool.not_eq_true'] at ht;exact ht.2) hj he) hS) _ _ _ _ (Region.free_spec ho hc1.2) (by simpa using hc1.1) hy.2 hy.1 hn
   ·rw [if_neg hl] at hy
    exact wpAnyN_first (T:=fun _=>True) ho (Region.noSelect_spec hs) (fun c a w q=>q) (fun _ _ _ _ _ _ _ _=>trivial) _ _ _ _ (Region.free_spec ho hc1.2) (by simpa using hc1.1) hy trivial hn
  ·rw [if_neg ht] at hc1 h
   have hr:Region.ready .any ops listed=[i]:=by simpa using hc1
   refine ⟨fun h0=>(by rw [hr] at h0;cases h0),fun j hj=>?_⟩
   rw [hr] at hj
   obtain rfl:=List.mem_singleton.1 hj
   unfold wpOp
   rw [ho]
   exact wp_then (fun a' w' h'=>⟨h'.1,seqP_any hs r _ a' w' hc2 h'.2 hE⟩) h
def certO (ops:Array Oper) (ex:List Nat):OT→Array Bool→Bool
 | .l is,L=>certN ops ex is L
 | .b2 is i x j y,L=>certP ops ex is L && ((Region.ready .any ops (setL is L) == [i,j]) && (Nat.beq x.size y.size && (certO ops ex x ((setL is L).setIfInBounds i true) && certO ops ex y ((setL is L).setIfInBounds j true))))
 | .b3 is i x j y k z,L=>certP ops ex is L && ((Region.ready .any ops (setL is L) == [i,j,k]) && (Nat.beq x.size y.size && (Nat.beq x.size z.size && (certO ops ex x ((setL is L).setIfInBounds i true) && (certO ops ex y ((setL is L).setIfInBounds j true) && certO ops ex z ((setL is L).setIfInBounds k true))))))
def stp (P:Program) (ops:Array Oper) (ex:List Nat) (C:Act→World→Prop) (S:World→Prop) (i:Nat) (K:Act→World→Prop) (a:Act) (w:World):Prop:=
 ∃ o,ops[i]? = some o∧st1 P ops (QF C) o (fun a' w'=>(ndOf ops ex i=true→S w→S w')∧K a' w') a w
def seqO (P:Program) (ops:Array Oper) (ex:List Nat) (C:Act→World→Prop) (S:World→Prop):OT→Act→World→Prop
 | .l is=>seqN P ops ex (QF C) S is
 | .b2 is i x j y=>seqN P ops ex (QF fun a w=>stp P ops ex C S i (seqO P ops ex C S x) a w∧stp P ops ex C S j (seqO P ops ex C S y) a w) S is
 | .b3 is i x j y k z=>seqN P ops ex (QF fun a w=>stp P ops ex C S i (seqO P ops ex C S x) a w∧stp P ops ex C S j (seqO P ops ex C S y) a w∧stp P ops ex C S k (seqO P ops ex C S z) a w) S is
theorem stp_any {n i:Nat} {L:Array Bool} (h:stp P ops ex C S i K a w) (hk:∀ a w,K a w→wpAnyN P ops (QF C) (ndOf ops ex) S n (L.setIfInBounds i true) a w) :
 wpOp P ops (QF C) i (fun a' w'=>(ndOf ops ex i=true→S w→S w')∧wpAnyN P ops (QF C) (ndOf ops ex) S n (L.setIfInBounds i true) a' w') a w:=by
 obtain ⟨o,ho,h⟩:=h
 unfold wpOp
 rw [ho]
 exact wp_then (fun a' w' h'=>⟨h'.1,hk a' w' h'.2⟩) h
theorem seqO_any (hs:Region.noSelect ops=true):∀ (x:OT) (listed:Array Bool) (a:Act) (w:World),certO ops ex x listed=true→seqO P ops ex C S x a w→wpAnyN P ops (QF C) (ndOf ops ex) S x.size listed a w
 | .l is,listed,a,w,hc,h=>seqN_any hs (fun _ _ _ h=>h) is listed a w hc h
 | .b2 is i x j y,listed,a,w,hc,h=>by
  unfold certO at hc
  simp only [Bool.and_eq_true,beq_iff_eq,Nat.beq_eq] at hc
  obtain ⟨h1,h2,h3,h4,h5⟩:=hc
  refine seqP_any hs is listed a w h1 h fun a w hk=>?_
  refine ⟨fun h0=>(by rw [h2] at h0;cases h0),fun q hq=>?_⟩
  rw [h2] at hq
  simp only [List.mem_cons,List.not_mem_nil,or_false] at hq
  rcases hq with rfl|rfl
  ·exact stp_any hk.1 fun a w hx=>seqO_any hs x _ a w h4 hx
  ·exact stp_any hk.2 fun a w hx=>h3 ▸ seqO_any hs y _ a w h5 hx
 | .b3 is i x j y k z,listed,a,w,hc,h=>by
  unfold certO at hc
  simp only [Bool.and_eq_true,beq_iff_eq,Nat.beq_eq] at hc
  obtain ⟨h1,h2,h3,h4,h5,h6,h7⟩:=hc
  refine seqP_any hs is listed a w h1 h fun a w hk=>?_
  refine ⟨fun h0=>(by rw [h2] at h0;cases h0),fun q hq=>?_⟩
  rw [h2] at hq
  simp only [List.mem_cons,List.not_mem_nil,or_false] at hq
  rcases hq with rfl|rfl|rfl
  ·exact stp_any hk.1 fun a w hx=>seqO_any hs x _ a w h5 hx
  ·exact stp_any hk.2.1 fun a w hx=>h3 ▸ seqO_any hs y _ a w h6 hx
  ·exact stp_any hk.2.2 fun a w hx=>h4 ▸ seqO_any hs z _ a w h7 hx
theorem x_ro {id:Nat} {Q:Exit→Act→World→Prop} (order:OT) (hm:P.follows .mixedOrders=true) (hc:(Nat.beq order.size ops.size && Region.noSelect ops && certO ops ex order (Array.replicate ops.size false))=true)
 (h:seqO P ops ex (fun a w=>Q .normal a w) S order a w.drew):(Code.region id ops true).wp P Q a w:=by
 rw [Bool.and_eq_true,Bool.and_eq_true] at hc
 have hl:order.size=ops.size:=Nat.eq_of_beq_eq_true hc.1.1
 refine x_cut (fun a w=>Q .normal a w) (wp_region_any hm (wpAny_ofN _ _ _ _ (nd:=ndOf ops ex) (S:=S) ?_)) fun _ _ h=>h
 have:=seqO_any hc.1.2 order _ _ _ hc.2 h
 rw [hl] at this
 exact this
theorem n_b2 {i j:Nat} {x y:OT} (h1:stp P ops ex C S i (seqO P ops ex C S x) a w) (h2:stp P ops ex C S j (seqO P ops ex C S y) a w):seqN P ops ex (QF fun a w=>stp P ops ex C S i (seqO P ops ex C S x) a w∧stp P ops ex C S j (seqO P ops ex C S y) a w) S [] a w:=⟨h1,h2⟩
theorem n_b3 {i j k:Nat} {x y z:OT} (h1:stp P ops ex C S i (seqO P ops ex C S x) a w) (h2:stp P ops ex C S j (seqO P ops ex C S y) a w) (h3:stp P ops ex C S k (seqO P ops ex C S z) a w):seqN P ops ex (QF fun a w=>stp P ops ex C S i (seqO P ops ex C S x) a w∧stp P ops ex C S j (seqO P ops ex C S y) a w∧stp P ops ex C S k (seqO P ops ex C S z) a w) S [] a w:=⟨h1,h2,h3⟩
theorem n_st {i:Nat} (ho:ops[i]? = some o) (h:st1 P ops (QF C) o (fun a' w'=>(ndOf ops ex i=true→S w→S w')∧K a' w') a w):stp P ops ex C S i K a w:=⟨o,ho,h⟩
theorem oB {i:Nat} {l:List Hld} {kl:List RdX} {w':World} {R:Act→Prop} (m:Mv [] w [] w') (k:∀ a',R a'→K a' w'):∀ a',R a'→(ndOf ops ex i=true→HdK l kl w→HdK l kl w')∧K a' w':=fun a' h=>⟨fun _ h=>h.bl m.bl,k a' h⟩
theorem oH {i:Nat} {w':World} {R:Act→Prop} (hS:S w') (k:∀ a',R a'→K a' w'):∀ a',R a'→(ndOf ops ex i=true→S w→S w')∧K a' w':=fun a' h'=>⟨fun _ _=>hS,k a' h'⟩
theorem oF {i:Nat} {w':World} {R:Act→Prop} (k:∀ a',R a'→K a' w') (h:ndOf ops ex i=false:=by kernel_rfl):∀ a',R a'→(ndOf ops ex i=true→S w→S w')∧K a' w':=fun a' h'=>⟨fun e=>(by rw [h] at e;cases e),k a' h'⟩
theorem en2 {is:List Nat} {i j:Nat} {x y:OT} (h:seqN P ops ex (QF fun a w=>stp P ops ex C S i (seqO P ops ex C S x) a w∧stp P ops ex C S j (seqO P ops ex C S y) a w) S is a w):seqO P ops ex C S (.b2 is i x j y) a w:=h
theorem en3 {is:List Nat} {i j q:Nat} {x y z:OT} (h:seqN P ops ex (QF fun a w=>stp P ops ex C S i (seqO P ops ex C S x) a w∧stp P ops ex C S j (seqO P ops ex C S y) a w∧stp P ops ex C S q (seqO P ops ex C S z) a w) S is a w):seqO P ops ex C S (.b3 is i x j y q z) a w:=h
theorem oL {is:List Nat} {R:Act→Prop} (k:∀ a',R a'→seqN P ops ex (QF C) S is a' w):∀ a',R a'→seqO P ops ex C S (.l is) a' w:=k
theorem o2 {is:List Nat} {i j:Nat} {x y:OT} {R:Act→Prop} (k:∀ a',R a'→seqN P ops ex (QF fun a w=>stp P ops ex C S i (seqO P ops ex C S x) a w∧stp P ops ex C S j (seqO P ops ex C S y) a w) S is a' w):∀ a',R a'→seqO P ops ex C S (.b2 is i x j y) a' w:=k
theorem o3 {is:List Nat} {i j q:Nat} {x y z:OT} {R:Act→Prop} (k:∀ a',R a'→seqN P ops ex (QF fun a w=>stp P ops ex C S i (seqO P ops ex C S x) a w∧stp P ops ex C S j (seqO P ops ex C S y) a w∧stp P ops ex C S q (seqO P ops ex C S z) a w) S is a' w):∀ a',R a'→seqO P ops ex C S (.b3 is i x j y q z) a' w:=k
end
section
variable {X:Uni} {H:Nat→Prop} {P:Program} {ops:Array Oper} {Q:Exit→Act→World→Prop} {a:Act} {w w0:World} {L L0:List Atom} {v:MV} {D:List CellD} {u:Nat}
theorem x_roS {id:Nat} (l:List Hld) (kl:List RdX) (ex:List Nat) (order:OT) (M:Sp X H w0 L w v D u) (hl:HdK l kl w) (hm:P.follows .mixedOrders=true) (hc:(Nat.beq order.size ops.size && Region.noSelect ops && certO ops ex order (Array.replicate ops.size false))=true)
 (h:∀ w',Sp X H w0 L w' v D u→HdK l kl w'→seqO P ops ex (fun a w=>Q .normal a w) (HdK l kl) order a w'):(Code.region id ops true).wp P Q a w:=x_ro order hm hc (h _ M.drew (hl.bl (mv_drew (At.nil w)).bl))
theorem x_roM {id:Nat} (l:List Hld) (kl:List RdX) (ex:List Nat) (order:OT) (M:St L0 w0 L w) (hl:HdK l kl w) (hm:P.follows .mixedOrders=true) (hc:(Nat.beq order.size ops.size && Region.noSelect ops && certO ops ex order (Array.replicate ops.size false))=true)
 (h:∀ w',St L0 w0 L w'→HdK l kl w'→seqO P ops ex (fun a w=>Q .normal a w) (HdK l kl) order a w'):(Code.region id ops true).wp P Q a w:=x_ro order hm hc (h _ M.drew (hl.bl (mv_drew (At.nil w)).bl))
end
theorem BI_155:BI Tryz.prog 155 [(0,1),(1,1),(2,1)] [.int .i64 0,.int .i64 0,.string (⟨#[]⟩:ByteArray)]:=bi_mk2 Tryz.underlying155 (zv:=.agg #[.int .i64 0,.int .i64 0,.string (⟨#[]⟩:ByteArray)]) (by kernel_rfl) rfl (by kernel_rfl)
theorem CF_188:CF Tryz.prog 188:=⟨⟨_,_,Tryz.func188,rfl,by kernel_rfl⟩⟩
instance : CFc Tryz.prog 188:=⟨CF_188⟩
theorem CF_238:CF Tryz.prog 238:=⟨⟨_,_,Tryz.func238,rfl,by kernel_rfl⟩⟩
instance : CFc Tryz.prog 238:=⟨CF_238⟩
theorem CF_243:CF Tryz.prog 243:=⟨⟨_,_,Tryz.func243,rfl,by kernel_rfl⟩⟩
instance : CFc Tryz.prog 243:=⟨CF_243⟩
theorem CF_244:CF Tryz.prog 244:=⟨⟨_,_,Tryz.func244,rfl,by kernel_rfl⟩⟩
instance : CFc Tryz.prog 244:=⟨CF_244⟩
theorem CF_253:CF Tryz.prog 253:=⟨⟨_,_,Tryz.func253,rfl,by kernel_rfl⟩⟩
instance : CFc Tryz.prog 253:=⟨CF_253⟩
theorem CF_287:CF Tryz.prog 287:=⟨⟨_,_,Tryz.func287,rfl,by kernel_rfl⟩⟩
instance : CFc Tryz.prog 287:=⟨CF_287⟩
theorem CF_288:CF Tryz.prog 288:=⟨⟨_,_,Tryz.func288,rfl,by kernel_rfl⟩⟩
instance : CFc Tryz.prog 288:=⟨CF_288⟩
theorem CF_329:CF Tryz.prog 329:=⟨⟨_,_,Tryz.func329,rfl,by kernel_rfl⟩⟩
instance : CFc Tryz.prog 329:=⟨CF_329⟩
instance : RTc Tryz.prog 188 Tryz.f188 243:=⟨Tryz.func188,Tryz.ntmps188⟩
instance : RTc Tryz.prog 238 Tryz.f238 24:=⟨Tryz.func238,Tryz.ntmps238⟩
instance : RTc Tryz.prog 244 Tryz.f244 41:=⟨Tryz.func244,Tryz.ntmps244⟩
instance : RTc Tryz.prog 287 Tryz.f287 91:=⟨Tryz.func287,Tryz.ntmps287⟩
instance : RTc Tryz.prog 288 Tryz.f288 102:=⟨Tryz.func288,Tryz.ntmps288⟩
instance : RTc Tryz.prog 329 Tryz.f329 94:=⟨Tryz.func329,Tryz.ntmps329⟩
instance : UTc Tryz.prog 5 (.int .u8):=⟨Tryz.underlying5⟩
set_option maxRecDepth 100000
set_option maxHeartbeats 1000000
theorem internal_stringslite_HasSuffix_c {w:World} {H:Nat→Prop} {s:ByteArray} {suffix:ByteArray} (h_s:okS s) (Q0:okS suffix) :
 Calls Tryz.prog 170 #[.string s,.string suffix] w fun e w'=>e=.returned (.bool (hasSuf s suffix))∧Mv [] w [] w':=by
 have kz:=h_s
 unfold okS at kz
 refine ze fun _ F=>?_
 refine zc F (s.size ≥ suffix.size) fun _ F=>?_
 rcases Decidable.em (s.size ≥ suffix.size) with h8|h8
 ·rw [decide_eq_true h8] at F
  refine zr fun _ F=>?_
  refine zq F ((s.size - suffix.size:Nat):Int) fun _ F=>?_
  refine zv F (r_sliceS (l:=s.size - suffix.size) (h:=s.size) Tryz.underlying9 rfl (F.g rfl) (F.g rfl) rfl zIa zIa rfl) fun _ F=>?_
  refine zv F (r_cmps (b:=(decide ((s.extract (s.size - suffix.size) s.size)=suffix))) (.inl rfl) rfl (F.g rfl) (F.g rfl) rfl) fun _ F=>?_
  refine x_done F (results_1 rfl (zta F)) ?_
  exact ⟨(zV1 (zVb (by unfold hasSuf;by_cases hb:suffix.size≤s.size <;> simp_all <;> omega))),(Mv.pick (Mv.refl (At.nil w)) [] rfl)⟩
 ·rw [decide_eq_false h8] at F
  refine zr fun _ F=>?_
  refine x_done F (results_1 rfl (zta F)) ?_
  exact ⟨(zV1 (zVb (by unfold hasSuf;by_cases hb:suffix.size≤s.size <;> simp_all <;> omega))),(Mv.pick (Mv.refl (At.nil w)) [] rfl)⟩
theorem internal_stringslite_CutSuffix_c {w:World} {H:Nat→Prop} {s:ByteArray} {suffix:ByteArray} (h_s:okS s) (Q0:okS suffix) :
 Calls Tryz.prog 365 #[.string s,.string suffix] w fun e w'=>e=.returned (.tuple #[.string (cutSuf s suffix),.bool (hasSuf s suffix)])∧Mv [] w [] w'∧okS (cutSuf s suffix):=by
 have kz:=h_s
 unfold okS at kz
 refine ze fun _ F=>?_
 refine zz F (internal_stringslite_HasSuffix_c (H:=fun _=>True) (s:=s) (suffix:=suffix) h_s Q0) ?_
 rintro _ w5 ⟨rfl,m5⟩
 refine zt fun _ F=>?_
 have S5:=At.frame0 (At.nil w) m5
 clear m5
 refine zv F (r_not rfl (F.g rfl)) fun _ F=>?_
 refine zib F (fun h8=>?_) fun h8=>?_
 ·refine zr fun _ F=>?_
  refine x_done F (results_2 rfl (zta F) (zta F)) ?_
  exact ⟨(zV1 (zVt (lc (zVs (by first|exact (nt ‹_›).symm|exact (nf ‹_›).symm|exact (cutSuf_no (nt ‹_›)).symm|exact (cutSuf_yes (nf ‹_›)).symm)) (lc (zVb (by first|exact (nt ‹_›).symm|exact (nf ‹_›).symm|exact (cutSuf_no (nt ‹_›)).symm|exact (cutSuf_yes (nf ‹_›)).symm)) rfl)))),(Mv.pick S5 [] rfl),(zOk (by first|exact (nt ‹_›).symm|exact (nf ‹_›).symm|exact (cutSuf_no (nt ‹_›)).symm|exact (cutSuf_yes (nf ‹_›)).symm) h_s)⟩
 ·refine zr fun _ F=>?_
  have hle:=hasSuf_le (nf ‹_›)
  refine zq F ((s.size - suffix.size:Nat):Int) fun _ F=>?_
  refine zv F (r_sliceS (l:=0) (h:=s.size - suffix.size) Tryz.underlying9 rfl (F.g rfl) rfl (F.g rfl) zIa zIa rfl) fun _ F=>?_
  refine x_done F (results_2 rfl (zta F) (zta F)) ?_
  exact ⟨(zV1 (zVt (lc (zVs (by first|exact (nt ‹_›).symm|exact (nf ‹_›).symm|exact (cutSuf_no (nt ‹_›)).symm|exact (cutSuf_yes (nf ‹_›)).symm)) (lc (zVb (by first|exact (nt ‹_›).symm|exact (nf ‹_›).symm|exact (cutSuf_no (nt ‹_›)).symm|exact (cutSuf_yes (nf ‹_›)).symm)) rfl)))),(Mv.pick S5 [] rfl),(zOk (by first|exact (nt ‹_›).symm|exact (nf ‹_›).symm|exact (cutSuf_no (nt ‹_›)).symm|exact (cutSuf_yes (nf ‹_›)).symm) (okS_ext h_s))⟩
theorem strings_CutSuffix_c {w:World} {H:Nat→Prop} {s:ByteArray} {suffix:ByteArray} (h_s:okS s) (Q0:okS suffix) :
 Calls Tryz.prog 336 #[.string s,.string suffix] w fun e w'=>e=.returned (.tuple #[.string (cutSuf s suffix),.bool (hasSuf s suffix)])∧Mv [] w [] w'∧okS (cutSuf s suffix):=by
 refine ze fun _ F=>?_
 refine zz F (internal_stringslite_CutSuffix_c (H:=fun _=>True) (s:=s) (suffix:=suffix) h_s Q0) ?_
 rintro _ w5 ⟨rfl,m5,Q1⟩
 refine zt fun _ F=>?_
 have S5:=At.frame0 (At.nil w) m5
 clear m5
 refine x_done F (results_2 rfl (zta F) (zta F)) ?_
 exact ⟨rfl,(Mv.pick S5 [] rfl),Q1⟩
theorem okS_0:okS ⟨#[]⟩:=by unfold okS;decide
theorem i64_0:i64ok 0:=⟨by decide,by decide⟩
theorem i64_2:i64ok 2:=⟨by decide,by decide⟩
theorem i64_4:i64ok 4:=⟨by decide,by decide⟩
structure GL (α:Type) where
 a:Option Addr
 n:Nat
 c:Nat
 l:List α
abbrev GL.val {α:Type} (x:GL α):Value:=.slice x.a x.n x.c
abbrev owG {α:Type} (e k:Nat) (enc:α→List Value) (ok:α→Prop) (x:GL α):Atom:=ow e k enc ok (.slice x.a x.n x.c) x.l
section
variable {P:Program} {ops:Array Oper} {Q:Exit→Act→World→Prop} {K:Act→World→Prop} {o o1 o2:Oper} {rest:List Oper} {a:Act} {w:World} {d d1 d2 t t2 n i:Nat} {x y:Operand} {m:List (Nat × Value)} {L:List Atom} {α:Type} {enc:α→List Value} {ok:α→Prop}
theorem kBd {ps:Array (Nat × Operand)} {places:List (Nat × Nat)} {z out:List Value} (F:Fr n m a) (B:BI P t places z) (ho:o.op=.build t ps:=by exact rfl) (hs:ps.toList.all (fun p=>(opd m p.2).isSome)=true:=by exact rfl) (hf:fillL places z (ps.toList.map fun p=>(p.1,((opd m p.2).getD undef).cells.toList))=some out:=by exact rfl)
 (hd:o.dst=some d:=by exact rfl) (hw:wantM ops m o=some true:=by exact rfl) (hp:Nat.blt d n=true:=by exact rfl) (k:∀ a',Fr n ((d,.agg out.toArray)::m) a'→K a' w):st1 P ops Q o K a w:=by
 have e:ps.toList.map (fun p=>(p.1,a.eval p.2))=ps.toList.map fun p=>(p.1,(opd m p.2).getD undef):=List.map_congr_left fun p hp=>by
  obtain ⟨v,hv⟩:=Option.isSome_iff_exists.1 (List.all_eq_true.1 hs p hp)
  rw [hv,F.g hv];rfl
 exact f_val F (wantM_eq F hw) hd (r_build B ho e (by rw [List.map_map];exact hf)) hp k
theorem kSl3 {t:Nat} {lo:Operand} {s:ByteArray} {z1:Int} [I:UTc P t .string] (F:Fr n m a) (l:Nat) (ho:o.op=.slice t x (some lo) none none:=by exact rfl) (hx:opd m x=some (.string s):=by exact rfl) (h1:opd m lo=some (.int .i64 z1):=by exact rfl) (hz1:z1=((l:Nat):Int):=by first|rfl|omega) (hl:l≤s.size:=by omega) (hd:o.dst=some d:=by exact rfl) (hw:wantM ops m o=some true:=by exact rfl) (hp:Nat.blt d n=true:=by exact rfl)
 (kk:(s.extract l s.size).size=s.size - l→∀ a',Fr n ((d,.string (s.extract l s.size))::m) a'→K a' w):st1 P ops Q o K a w:=by
 subst hz1
 exact f_val F (wantM_eq F hw) hd (r_sliceS I.h ho (F.g hx) (F.g h1) rfl hl (Nat.le_refl _) rfl) hp (kk (by rw [ByteArray.size_extract];omega))
theorem mv_nilO {e k:Nat} (A:At w L):Mv L w (ow e k enc ok (.slice none 0 0) ([]:List α)::L) w:=by
 have hM:=At.frame (New:=[ow e k enc ok (.slice none 0 0) ([]:List α)]) A [] rfl (Mv.same (At.one (own_nil w _ _ _ _) fun b hb=>by cases hb) fun b hb=>by rw [fps_one] at hb;cases hb)
 rw [del_none] at hM
 exact hM
theorem kNilG {e k bytes:Nat} {z0:Value} (F:Fr n m a) (A:At w L) (E:ElemT P t e z0 k bytes enc)
 (ho:o.op=.buildSlice t 0 #[]:=by exact rfl) (hd:o.dst=some d:=by exact rfl) (hw:wantM ops m o=some true:=by exact rfl) (hp:Nat.blt d n=true:=by exact rfl)
 (kk:∀ b w',Mv L w (ow e k enc ok (.slice (some ⟨b,0,none⟩) 0 0) []::L) w'→∀ a',Fr n ((d,.slice (some ⟨b,0,none⟩) 0 0)::m) a'→K a' w'):st1 P ops Q o K a w:=
 f_buildSl (ok:=ok) (vs:=[]) F A [] E (wantM_eq F hw) hd ho rfl (by simp) hp rfl rfl rfl (by intro x hx;cases hx) fun b a1 w1 F1 M1=>kk b w1 M1 a1 F1
theorem kPushG {e k bytes:Nat} {z0:Value} {s v:Operand} {sv xv:Value} {l:List α} (F:Fr n m a) (A:At w L) (j:Nat) (x1:α) (E:ElemT P t e z0 k bytes enc)
 (hsm:Nat.ble (1 * k) 16777216=true:=by exact rfl)
 (hL:nth L j=some (ow e k enc ok sv l):=by exact rfl) (hsel:okSel L.length [j]=true:=by exact rfl) (hlen:(l.length+1) * bytes≤140737488355328:=by omega) (hx:ok x1:=by assumption)
 (ho1:o1.op=.buildSlice t 1 #[(0,v)]:=by exact rfl) (hv:opd m v=some xv:=by exact rfl) (hc:xv.cells.toList=enc x1:=by exact rfl) (hd1:o1.dst=some d1:=by exact rfl) (hw1:wantM ops m o1=some true:=by exact rfl) (hp1:Nat.blt d1 n=true:=by exact rfl)
 (ho2:o2.op=.call { callee:=.builtin .append,args:=#[s,.tmp d1],argTypes:=#[t,t] }:=by exact rfl) (hs:∀ u,opd ((d1,u)::m) s=some sv:=by intro _;exact rfl) (hd2:o2.dst=some d2:=by exact rfl) (hw2:∀ u,wantM ops ((d1,u)::m) o2=some true:=by intro _;exact rfl) (hp2:Nat.blt d2 n=true:=by exact rfl)
 (kk:∀ b q c u w',q=l.length+1→Mv L w ([ow e k enc ok (.slice b q c) (l++[x1])]++del L [j]) w'→∀ a',Fr n ((d2,.slice b q c)::(d1,u)::m) a'→wpList P ops Q rest a' w'):wpList P ops Q (o1::o2::rest) a w:=by
 refine l_op (f_buildSl (ok:=ok) (vs:=[xv]) F A [x1] E (wantM_eq F hw1) hd1 ho1 rfl hsm hp1 (by simp [F.g hv]) rfl (by simp [hc]) (by intro x h;rw [List.mem_singleton.1 h];exact hx) fun b a1 w1 F1 M1=>?_)
 have R1:RSl k (Enc enc ok) w1 (.slice (some ⟨b,0,none⟩) 1 1) [x1]:=(At.rd M1.at' E.hk 0 rfl).1
 have M2:Mv L w L w1:=M1.trans (by
  have:=M1.at'.drop 0
  rw [del_cons0] at this
  exact this)
 refine l_op (f_app F1 M2.at' j E hL hsel (wantM_eq F1 (hw2 _)) hd2 ho2 hp2 (F1.g (hs _)) (F1.g (by show look _ d1=_;unfold look;rw [Nat.beq_refl])) R1 (by simpa using hlen) fun b' q c a2 w2 F2 M3 hq=>?_)
 exact kk b' q c _ w2 (by simpa using hq) (M2.trans M3) a2 F2
end
section
variable {X:Uni} {w w' w0:World} {L L0:List Atom} {b u u':Nat} {v v':MV} {D D':List CellD} {H:Nat→Prop} {α:Type} {e k:Nat} {enc:α→List Value} {ok:α→Prop} {q:GL α→Prop}
def PIL {α:Type} (X:Uni) (b:Nat) (v:MV) (D:List CellD) (u:Nat) (w:World) (e k:Nat) (enc:α→List Value) (ok:α→Prop) (q:GL α→Prop) (D':List CellD) (u':Nat) (en:Ending) (w':World):Prop:=
 ∃ v' s,en=.returned (GL.val s)∧Mv [mB X b v D u] w [owG e k enc ok s,mB X b v' D' u'] w'∧q s
def PSL {α:Type} (X:Uni) (H:Nat→Prop) (w:World) (e k:Nat) (enc:α→List Value) (ok:α→Prop) (q:GL α→Prop) (D':List CellD) (u':Nat) (en:Ending) (w':World):Prop:=
 ∃ v' s,en=.returned (.tuple #[MV.val v',GL.val s])∧Mv [] w [owG e k enc ok s] w'∧RM X (V H w [owG e k enc ok s]) w' v' D' u'∧q s
theorem zfIL {s:GL α} (M:St [mB X b v D u] w (owG e k enc ok s::mB X b v' D' u'::L) w') {D1:List CellD} {u1:Nat} (hq:q s) (e1:D1=D') (hu:u'≤u1:=by omega):PIL X b v D u w e k enc ok q D1 u1 (.returned (GL.val s)) w':=by
 subst e1
 refine ⟨v',s,rfl,?_,hq⟩
 have m:=M.mv.pick [0,1] (by rfl)
 have h2:=At.frame (New:=[mB X b v' D1 u1]) m.at' [1] rfl (mB_weak (by exact m.at'.pick (is:=[1]) rfl) hu)
 exact m.trans (h2.pick [1,0] rfl)
theorem zfSL {s:GL α} (M:Sp X H w (owG e k enc ok s::L) w' v' D' u') {D1:List CellD} {u1:Nat} (hq:q s) (e1:D1=D') (hu:u'≤u1:=by omega):PSL X H w e k enc ok q D1 u1 (.returned (.tuple #[MV.val v',GL.val s])) w':=by
 subst e1
 refine ⟨v',s,rfl,M.st.mv.pick [0] rfl,(M.v.le hu).mono fun c hc=>⟨hc.1,fun hf=>hc.2 ?_⟩,hq⟩
 exact fps_cons.2 (.inl (fps_one.1 hf))
variable {P:Program} {ops:Array Oper} {Q:Exit→Act→World→Prop} {K:Act→World→Prop} {o:Oper} {a:Act} {d n:Nat} {m:List (Nat × Value)}
theorem kLI {f:Nat} {vs:List Value} [I:CFc P f] (F:Fr n m a) (M:St L0 w0 (mB X b v D u::L) w)
 (hx:argsV m o=vs:=by exact rfl) (hf:callF o=f:=by exact rfl) (ho:okCall m o=true:=by exact rfl) (hd:o.dst=some d:=by exact rfl) (hw:wantM ops m o=some true:=by exact rfl) (hp:Nat.blt d n=true:=by exact rfl)
 (hc:Calls P f vs.toArray w (PIL X b v D u w e k enc ok q D' u'))
 (kk:∀ v' s w',q s→St L0 w0 (owG e k enc ok s::mB X b v' D' u'::L) w'→∀ a',Fr n ((d,GL.val s)::m) a'→K a' w'):st1 P ops Q o K a w:=
 st_call F hc hx hf ho hd hw hp fun _ w' ⟨v',s,h1,h2,h3⟩=>⟨_,h1,kk v' s w' h3 (M.then (by
  have:=At.frame (New:=[owG e k enc ok s,mB X b v' D' u']) M.mv.at' [0] rfl h2
  rw [del_cons0] at this
  exact this))⟩
theorem kLS {f:Nat} {vs:List Value} [I:CFc P f] (F:Fr n m a) (M:Sp X H w0 L w v D u)
 (hx:argsV m o=vs:=by exact rfl) (hf:callF o=f:=by exact rfl) (ho:okCall m o=true:=by exact rfl) (hd:o.dst=some d:=by exact rfl) (hw:wantM ops m o=some true:=by exact rfl) (hp:Nat.blt d n=true:=by exact rfl)
 (hc:Calls P f vs.toArray w (PSL X (V H w0 L) w e k enc ok q D' u'))
 (kk:∀ v' s w',q s→Sp X H w0 (owG e k enc ok s::L) w' v' D' u'→∀ a',Fr n ((d,.tuple #[MV.val v',GL.val s])::m) a'→K a' w'):st1 P ops Q o K a w:=
 st_call F hc hx hf ho hd hw hp fun _ w' ⟨v',s,h1,h2,h3,h4⟩=>⟨_,h1,kk v' s w' h4 (M.callN h2 h3)⟩
theorem GL.inv {s:GL α} (A:At w L) (j:Nat) (hL:nth L j=some (owG e k enc ok s)) (hk:∀ x,(enc x).length=k):s.n=s.l.length:=(Rd.inv (At.rd A hk j hL)).1
end
theorem CF_148:CF Tryz.prog 148:=⟨⟨_,_,Tryz.func148,rfl,by kernel_rfl⟩⟩
instance : CFc Tryz.prog 148:=⟨CF_148⟩
theorem CF_178:CF Tryz.prog 178:=⟨⟨_,_,Tryz.func178,rfl,by kernel_rfl⟩⟩
instance : CFc Tryz.prog 178:=⟨CF_178⟩
theorem CF_179:CF Tryz.prog 179:=⟨⟨_,_,Tryz.func179,rfl,by kernel_rfl⟩⟩
instance : CFc Tryz.prog 179:=⟨CF_179⟩
theorem CF_214:CF Tryz.prog 214:=⟨⟨_,_,Tryz.func214,rfl,by kernel_rfl⟩⟩
instance : CFc Tryz.prog 214:=⟨CF_214⟩
theorem CF_219:CF Tryz.prog 219:=⟨⟨_,_,Tryz.func219,rfl,by kernel_rfl⟩⟩
instance : CFc Tryz.prog 219:=⟨CF_219⟩
theorem CF_220:CF Tryz.prog 220:=⟨⟨_,_,Tryz.func220,rfl,by kernel_rfl⟩⟩
instance : CFc Tryz.prog 220:=⟨CF_220⟩
theorem CF_231:CF Tryz.prog 231:=⟨⟨_,_,Tryz.func231,rfl,by kernel_rfl⟩⟩
instance : CFc Tryz.prog 231:=⟨CF_231⟩
theorem CF_286:CF Tryz.prog 286:=⟨⟨_,_,Tryz.func286,rfl,by kernel_rfl⟩⟩
instance : CFc Tryz.prog 286:=⟨CF_286⟩
theorem CF_303:CF Tryz.prog 303:=⟨⟨_,_,Tryz.func303,rfl,by kernel_rfl⟩⟩
instance : CFc Tryz.prog 303:=⟨CF_303⟩
instance : RTc Tryz.prog 148 Tryz.f148 24:=⟨Tryz.func148,Tryz.ntmps148⟩
instance : RTc Tryz.prog 178 Tryz.f178 213:=⟨Tryz.func178,Tryz.ntmps178⟩
instance : RTc Tryz.prog 214 Tryz.f214 24:=⟨Tryz.func214,Tryz.ntmps214⟩
instance : RTc Tryz.prog 219 Tryz.f219 30:=⟨Tryz.func219,Tryz.ntmps219⟩
instance : RTc Tryz.prog 220 Tryz.f220 59:=⟨Tryz.func220,Tryz.ntmps220⟩
instance : RTc Tryz.prog 231 Tryz.f231 88:=⟨Tryz.func231,Tryz.ntmps231⟩
instance : RTc Tryz.prog 303 Tryz.f303 58:=⟨Tryz.func303,Tryz.ntmps303⟩
section
variable {P:Program} {ops:Array Oper} {Q:Exit→Act→World→Prop} {K:Act→World→Prop} {o o1 o2:Oper} {rest:List Oper} {a:Act} {w:World} {d d1 d2 t t2 n i:Nat} {x y:Operand} {m:List (Nat × Value)} {L:List Atom} {α:Type} {enc:α→List Value} {ok:α→Prop}
theorem kElG {k bytes e:Nat} {z:Value} {g:Bool} {ad:Option Addr} {q c:Nat} {l:List α} (I:TI P t2 g k) (F:Fr n m a) (R:RSl k (Enc enc ok) w (.slice ad q c) l) (E:ElemT P t e z k bytes enc) (i:Nat) (ev:α→Value) (hi:i < q)
 (ho1:o1.op=.indexAddr t x y:=by exact rfl) (hx:opd m x=some (.slice ad q c):=by exact rfl) (hy:opd m y=some (.int .i64 ((i:Nat):Int)):=by exact rfl) (hd1:o1.dst=some d1:=by exact rfl) (hw1:wantM ops m o1=some true:=by exact rfl) (hp1:Nat.blt d1 n=true:=by exact rfl)
 (ho2:o2.op=.load t2 (.tmp d1):=by exact rfl) (hd2:o2.dst=some d2:=by exact rfl) (hg2:o2.guard=none:=by exact rfl) (hp2:Nat.blt d2 n=true:=by exact rfl) (hg:(g || k == 1)=true:=by exact rfl) (hev:∀ x,ofCells g (enc x)=ev x:=by intro _;rfl)
 (kk:∀ x p,nth l i=some x→ok x→∀ a',Fr n ((d2,ev x)::(d1,p)::m) a'→wpList P ops Q rest a' w):wpList P ops Q (o1::o2::rest) a w:=by
 have R':Rd k enc ok (fun _=>True) w (.slice ad q c) l:=⟨R,fun _ _ _ _ _=>trivial⟩
 obtain ⟨B,O,x1,had,hxn,hok,hlen,cl⟩:=R'.at i hi
 refine l_op (f_val F (wantM_eq F hw1) hd1 (r_indexAddr (i:=i) E ho1 ((F.g hx).trans (by rw [had])) (F.g hy) rfl (by omega)) hp1 fun a1 F1=>?_)
 refine l_op (f_val F1 (wantM_eq F1 (by unfold wantM;rw [hg2])) hd2 (r_load (cs:=enc x1) I ho2 (F1.g (by show look _ d1=_;unfold look;rw [Nat.beq_refl])) hlen (fun e=>by subst e;rw [hlen];simpa using hg) cl) hp2 fun a2 F2=>?_)
 rw [hev] at F2
 exact kk x1 _ hxn hok a2 F2
end
section
variable {P:Program} {ops:Array Oper} {Q:Exit→Act→World→Prop} {K:Act→World→Prop} {o1 o2 o3:Oper} {a:Act} {w:World} {d1 d2 d3 t t2 n:Nat} {x y:Operand} {m:List (Nat × Value)} {α:Type} {enc:α→List Value} {ok:α→Prop} {rl ex:List Nat} {i1 i2 i3:Nat} {hl:List Hld} {kl:List RdX}
theorem nElG {k bytes e:Nat} {z:Value} {g:Bool} {ad:Option Addr} {q c:Nat} {l:List α} (I:TI P t2 g k) (F:Fr n m a) (hS:HdK hl kl w) (E:ElemT P t e z k bytes enc) (j i:Nat) (ev:α→Value) (hi:i < q) (hL:nth kl j=some (rdx k enc ok (.slice ad q c) l):=by exact rfl)
 (hi1:ops[i1]? = some o1:=by exact rfl) (hi2:ops[i2]? = some o2:=by exact rfl) (hx1:ex.contains i1=false:=by exact rfl) (hx2:ex.contains i2=false:=by exact rfl)
 (ho1:o1.op=.indexAddr t x y:=by exact rfl) (hx:opd m x=some (.slice ad q c):=by exact rfl) (hy:opd m y=some (.int .i64 ((i:Nat):Int)):=by exact rfl) (hd1:o1.dst=some d1:=by exact rfl) (hw1:wantM ops m o1=some true:=by exact rfl) (hp1:Nat.blt d1 n=true:=by exact rfl)
 (ho2:o2.op=.load t2 (.tmp d1):=by exact rfl) (hd2:o2.dst=some d2:=by exact rfl) (hg2:o2.guard=none:=by exact rfl) (hp2:Nat.blt d2 n=true:=by exact rfl) (hg:(g || k == 1)=true:=by exact rfl) (hev:∀ x,ofCells g (enc x)=ev x:=by intro _;rfl)
 (kk:∀ x p,nth l i=some x→ok x→∀ a',Fr n ((d2,ev x)::(d1,p)::m) a'→seqN P ops ex Q (HdK hl kl) rl a' w):seqN P ops ex Q (HdK hl kl) (i1::i2::rl) a w:=by
 have hrd:∀ w',HdK hl kl w'→Rd k enc ok (fun _=>True) w' (.slice ad q c) l:=fun w' h'=>⟨h'.2 _ (nth_mem hL),fun _ _ _ _ _=>trivial⟩
 obtain ⟨B,O,x1,had,hxn,hok,hlen,_⟩:=(hrd w hS).at i hi
 have t1:tkOf o1=true:=by unfold tkOf;rw [ho1]
 have t2':tkOf o2=true:=by unfold tkOf;rw [ho2]
 have l1:ldOf o1=false:=by unfold ldOf;rw [ho1]
 have l2:ldOf o2=true:=by unfold ldOf;rw [ho2]
 refine ⟨o1,hi1,?_⟩
 rw [if_pos (by rw [t1,hx1];rfl)]
 refine ⟨_,by rw [if_neg (by rw [l1];decide)];exact .inl ⟨wantM_eq F hw1,fun w' _=>r_indexAddr (i:=i) E ho1 ((F.g hx).trans (by rw [had])) (F.g hy) rfl (by omega)⟩,?_⟩
 rw [hd1]
 have F1:=F.put (d:=d1) rfl hp1 (v:=.pointer (some ⟨B,O+i * k,none⟩))
 refine ⟨o2,hi2,?_⟩
 rw [if_pos (by rw [t2',hx2];rfl)]
 refine ⟨ev x1,?_,?_⟩
 ·rw [if_pos l2]
  refine ⟨hS,.inl ⟨wantM_eq F1 (by unfold wantM;rw [hg2]),fun w' h'=>?_⟩⟩
  obtain ⟨B',O',x',ad',hxn',_,hlen',cl'⟩:=(hrd w' h').at i hi
  rw [had] at ad'
  cases ad'
  rw [hxn] at hxn'
  cases hxn'
  rw [← hev]
  exact r_load (cs:=enc x1) I ho2 (F1.g (by show look _ d1=_;unfold look;rw [Nat.beq_refl])) hlen' (fun e=>by subst e;rw [hlen'];simpa using hg) cl'
 ·rw [hd2]
  exact kk x1 _ hxn hok _ (F1.put rfl hp2)
theorem nElF {k bytes e off fi T:Nat} {z:Value} {g:Bool} {kq:Nat} {ad:Option Addr} {q c:Nat} {l:List α} (I:TI P t2 g kq) (J:FI P T fi off) (F:Fr n m a) (hS:HdK hl kl w) (E:ElemT P t e z k bytes enc) (j i:Nat) (hi:i < q) (pv:α→List Value) (hpv:∀ x,((enc x).drop off).take kq=pv x:=by intro _;rfl) (hpl:∀ x,(pv x).length=kq:=by intro _;rfl) (hL:nth kl j=some (rdx k enc ok (.slice ad q c) l):=by exact rfl)
 (hi1:ops[i1]? = some o1:=by exact rfl) (hi2:ops[i2]? = some o2:=by exact rfl) (hi3:ops[i3]? = some o3:=by exact rfl) (hx1:ex.contains i1=false:=by exact rfl) (hx2:ex.contains i2=false:=by exact rfl) (hx3:ex.contains i3=false:=by exact rfl)
 (ho1:o1.op=.indexAddr t x y:=by exact rfl) (hx:opd m x=some (.slice ad q c):=by exact rfl) (hy:opd m y=some (.int .i64 ((i:Nat):Int)):=by exact rfl) (hd1:o1.dst=some d1:=by exact rfl) (hw1:wantM ops m o1=some true:=by exact rfl) (hp1:Nat.blt d1 n=true:=by exact rfl)
 (ho2:o2.op=.fieldAddr T (.tmp d1) fi:=by exact rfl) (hd2:o2.dst=some d2:=by exact rfl) (hg2:o2.guard=none:=by exact rfl) (hp2:Nat.blt d2 n=true:=by exact rfl)
 (ho3:o3.op=.load t2 (.tmp d2):=by exact rfl) (hd3:o3.dst=some d3:=by exact rfl) (hg3:o3.guard=none:=by exact rfl) (hp3:Nat.blt d3 n=true:=by exact rfl) (hg:(g || kq == 1)=true:=by exact rfl)
 (kk:∀ x p p2,nth l i=some x→ok x→∀ a',Fr n ((d3,ofCells g (pv x))::(d2,p2)::(d1,p)::m) a'→seqN P ops ex Q (HdK hl kl) rl a' w):seqN P ops ex Q (HdK hl kl) (i1::i2::i3::rl) a w:=by
 have hrd:∀ w',HdK hl kl w'→Rd k enc ok (fun _=>True) w' (.slice ad q c) l:=fun w' h'=>⟨h'.2 _ (nth_mem hL),fun _ _ _ _ _=>trivial⟩
 obtain ⟨B,O,x1,had,hxn,hok,hlen,_⟩:=(hrd w hS).at i hi
 have t1:tkOf o1=true:=by unfold tkOf;rw [ho1]
 have t2':tkOf o2=true:=by unfold tkOf;rw [ho2]
 have t3':tkOf o3=true:=by unfold tkOf;rw [ho3]
 have l1:ldOf o1=false:=by unfold ldOf;rw [ho1]
 have l2:ldOf o2=false:=by unfold ldOf;rw [ho2]
 have l3:ldOf o3=true:=by unfold ldOf;rw [ho3]
 refine ⟨o1,hi1,?_⟩
 rw [if_pos (by rw [t1,hx1];rfl)]
 refine ⟨_,by rw [if_neg (by rw [l1];decide)];exact .inl ⟨wantM_eq F hw1,fun w' _=>r_indexAddr (i:=i) E ho1 ((F.g hx).trans (by rw [had])) (F.g hy) rfl (by omega)⟩,?_⟩
 rw [hd1]
 have F1:=F.put (d:=d1) rfl hp1 (v:=.pointer (some ⟨B,O+i * k,none⟩))
 refine ⟨o2,hi2,?_⟩
 rw [if_pos (by rw [t2',hx2];rfl)]
 refine ⟨_,by rw [if_neg (by rw [l2];decide)];exact .inl ⟨wantM_eq F1 (by unfold wantM;rw [hg2]),fun w' _=>r_field J ho2 (F1.g (by show look _ d1=_;unfold look;rw [Nat.beq_refl])) rfl⟩,?_⟩
 rw [hd2]
 have F2:=F1.put (d:=d2) rfl hp2 (v:=.pointer (some ⟨B,O+i * k+off,none⟩))
 refine ⟨o3,hi3,?_⟩
 rw [if_pos (by rw [t3',hx3];rfl)]
 refine ⟨ofCells g (pv x1),?_,?_⟩
 ·rw [if_pos l3]
  refine ⟨hS,.inl ⟨wantM_eq F2 (by unfold wantM;rw [hg3]),fun w' h'=>?_⟩⟩
  obtain ⟨B',O',x',ad',hxn',_,hlen',cl'⟩:=(hrd w' h').at i hi
  rw [had] at ad'
  cases ad'
  rw [hxn] at hxn'
  cases hxn'
  refine r_load (cs:=pv x1) I ho3 (F2.g (by show look _ d2=_;unfold look;rw [Nat.beq_refl])) (hpl x1) (fun e=>by subst e;rw [hpl];simpa using hg) fun j v hj=>?_
  rw [← hpv,List.getElem?_take] at hj
  split at hj
  ·rw [List.getElem?_drop] at hj
   have:=cl' (off+j) v hj
   rw [add_flat] at this ⊢
   rw [show O+i * k+off+j=O+i * k+(off+j) by omega]
   exact this
  ·cases hj
 ·rw [hd3]
  exact kk x1 _ _ hxn hok _ (F2.put rfl hp3)
end
theorem n_fa {P:Program} {ops:Array Oper} {Q:Exit→Act→World→Prop} {o:Oper} {a:Act} {w:World} {d n i fi s off b c c':Nat} {x:Operand} {m:List (Nat × Value)} {S:World→Prop} {r ex:List Nat} [I:FIc P s fi off] (F:Fr n m a) (hi:ops[i]? = some o) (ht:((tkOf o && !ex.contains i) && !ldOf o)=true) (ho:o.op=.fieldAddr s x fi) (hw:wantM ops m o=some true) (hx:opd m x=some (.pointer (some ⟨b,c,none⟩))) (hc:c+off=c') (hd:o.dst=some d) (hp:Nat.blt d n=true)
 (k:∀ a',Fr n ((d,.pointer (some ⟨b,c',none⟩))::m) a'→seqN P ops ex Q S r a' w):seqN P ops ex Q S (i::r) a w:=n_val F hi ht (fun _=>r_field I.h ho (F.g hx) hc) hw hd hp k
end Go.Proofs.YtipdbeklopjbmaaGreatDoor
