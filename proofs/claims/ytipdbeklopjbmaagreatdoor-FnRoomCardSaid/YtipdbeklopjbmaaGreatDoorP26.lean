/-
  Texts laid together: ML, GenY, GenW, GenZ, GenTa, GenTb, GenTd, GenBy, GenBz.
-/
import Derived.Test.YtipdbeklopjbmaaGreatDoorP25
import Derived.Test.YtipdbeklopjbmaaGreatDoorP24
set_option linter.unusedVariables false
set_option linter.unusedSimpArgs false
namespace Go.Proofs.YtipdbeklopjbmaaGreatDoor
open Go.ChangeShapes Go.WideShapes Go.ChangeAt Go.RowKit Go.Proofs.Tryz
section
open Go.Maps (Keyed)
theorem J9g:∀ {x y:List UInt8},Op.bytesLess x y=true ↔ x < y
 | [],[]=>by simp [Op.bytesLess]
 | [],_::_=>by simp [Op.bytesLess]
 | _::_,[]=>by simp [Op.bytesLess]
 | a::x,b::y=>by rw [J6w,List.cons_lt_cons_iff,J9g,UInt8.lt_iff_toNat_lt]
def baL (x:List UInt8):ByteArray:=⟨x.toArray⟩
theorem JhV {ss:List (List UInt8)} (hn:ss.Nodup):srtL ((ss.mergeSort leB).map baL):=by
 have tr:∀ a b c:List UInt8,leB a b=true→leB b c=true→leB a c=true:=fun a b c h1 h2=>by simp only [leB,decide_eq_true_eq] at *;exact List.le_trans h1 h2
 have to:∀ a b:List UInt8,(leB a b || leB b a)=true:=fun a b=>by simp only [leB,Bool.or_eq_true,decide_eq_true_eq];exact List.le_total a b
 have h1:=List.pairwise_mergeSort tr to ss
 have h2:(ss.mergeSort leB).Nodup:=(List.mergeSort_perm ss leB).nodup_iff.2 hn
 refine List.pairwise_map.2 (h1.and h2 |>.imp fun {a b} h=>?_)
 obtain ⟨h3,h4⟩:=h
 simp only [leB,decide_eq_true_eq] at h3
 show Op.bytesLess (baL a).toList (baL b).toList=true
 rw [J3O,J3O]
 show Op.bytesLess a.toArray.toList b.toArray.toList=true
 rw [J9g]
 simp only [List.toList_toArray]
 rcases Classical.em (a < b) with h|h
 ·exact h
 exact absurd (List.le_antisymm h3 (List.not_lt.1 h)) h4
theorem elB:ElS prog 4 Lit.bool Value.bool (fun _=>True):=Jft underlying4
def dfP (a b:List CellD) (s:ByteArray):Prop:=Jl a s≠Jl b s
theorem kMp {P:Program} {ops:Array Oper} {Q:Exit→Act→World→Prop} {K:Act→World→Prop} {o:Oper} {a:Act} {w w0:World} {d N:Nat} {m:List (Nat × Value)} {L L0:List Atom} {fm:ByteArray→Option ByteArray} {q f:Nat} {vs:List Value} [I:CFc P f] (F:Fr N m a) (M:St L0 w0 L w)
 (hx:J1u m o=vs:=by exact rfl) (hf:J1v o=f:=by exact rfl) (ho:J1E m o=true:=by exact rfl) (hd:o.dst=some d:=by exact rfl) (hw:J8 ops m o=some true:=by exact rfl) (hp:Nat.blt d N=true:=by exact rfl)
 (hc:Calls P f vs.toArray w (Jby w fm q))
 (kk:∀ b n w',n≤q→St L0 w0 (mpA prog 9 9 J0g b n fm::L) w'→∀ a',Fr N ((d,.map (some b))::m) a'→K a' w'):st1 P ops Q o K a w:=
 J0D F hc hx hf ho hd hw hp fun _ w' ⟨b,n,h1,h2,h3⟩=>⟨_,h1,kk b n w' h3 (M.then (by
  have:=At.frame (New:=[mpA prog 9 9 J0g b n fm]) M.mv.at' [] rfl h2
  rw [J19] at this
  exact this))⟩
theorem St.rgEnd {P:Program} {k e:TypeId} {β:Type} {rd:β→Lit} {b r n cnt:Nat} {f:ByteArray→Option β} {left:ByteArray→Bool} {w w0:World} {L L0:List Atom} (M:St L0 w0 (rgA P k e rd b r n f left cnt::L) w):St L0 w0 (mpA P k e rd b n f::L) w:=M.then (Mv.head M.mv.at' (JgM M.hd.at'))
instance iML1:RTc prog 116 f116 48:=rtc func116 ntmps116
theorem CFvo:CF prog 156:=⟨⟨_,_,func156,rfl,by kernel_rfl⟩⟩
instance iML2:CFc prog 156:=⟨CFvo⟩
theorem CFmk:CF prog 158:=⟨⟨_,_,func158,rfl,by kernel_rfl⟩⟩
instance iML3:CFc prog 158:=⟨CFmk⟩
theorem CFso:CF prog 157:=⟨⟨_,_,func157,rfl,by kernel_rfl⟩⟩
instance iML4:CFc prog 157:=⟨CFso⟩
section
variable {P:Program} {k:TypeId} {R:Value→Option (DataW Unit × List MemPlace)} {w:World} {b n:Nat} {D:DataW Unit}
theorem J8F (h:w.ownsMap P k R b n D) (hk:P.underlying k=some .string) (y:List UInt8):y ∈ strKeys D ↔ Maps.has D (.string y)=true:=by
 obtain ⟨es,rfl,hko⟩:=h.keysOf
 rw [Maps.has_eq,List.any_eq_true]
 show y ∈ es.map (fun p=>strOf p.1) ↔ _
 rw [List.mem_map]
 constructor
 ·rintro ⟨p,hp,rfl⟩
  obtain ⟨v,hv⟩:=hko p hp
  obtain ⟨x,_,hx,_⟩:=Maps.keyOf_str hk hv
  exact ⟨p,hp,by rw [hx];simp [Lit.sameKey,strOf]⟩
 rintro ⟨p,hp,hs⟩
 obtain ⟨v,hv⟩:=hko p hp
 obtain ⟨x,_,hx,_⟩:=Maps.keyOf_str hk hv
 rw [hx] at hs
 exact ⟨p,hp,by rw [hx];simpa [Lit.sameKey,strOf] using hs⟩
theorem Jdf (h:w.ownsMap P k R b n D) (K:Keyed P k) (hk:P.underlying k=some .string):(strKeys D).Nodup:=by
 obtain ⟨es,hD,hpw,_⟩:=h.entries K
 obtain ⟨es',hD',hko⟩:=h.keysOf
 obtain rfl:es=es':=by rw [hD] at hD';simpa using hD'
 subst hD
 show (es.map fun p=>strOf p.1).Nodup
 refine List.pairwise_map.2 (hpw.imp_of_mem fun {p q} hp' hq' hne e=>hne ?_)
 obtain ⟨v,hv⟩:=hko p hp'
 obtain ⟨x,_,hx,_⟩:=Maps.keyOf_str hk hv
 obtain ⟨v',hv'⟩:=hko q hq'
 obtain ⟨x',_,hx',_⟩:=Maps.keyOf_str hk hv'
 rw [hx,hx'] at e ⊢
 exact congrArg _ e
end
theorem Jfe {w:World} {base e k n:Nat} {v:Value} {xs:List Value} (h:w.ownsRow base e k v n xs):∃ (ad:Option Addr) (q c:Nat),v=.slice ad q c:=by
 rcases h.2 with ⟨rfl,_⟩|⟨g,cap,cur,rfl,_⟩
 ·exact ⟨_,_,_,rfl⟩
 exact ⟨_,_,_,rfl⟩
theorem Jfw (l:List (List UInt8)):J4 J3 (l.map baL)=l.map encStr:=by
 unfold J4
 induction l with
 | nil=>rfl
 | cons x l ih=>rw [List.map_cons,List.flatMap_cons,ih,List.map_cons];rfl
def fnd (a b:List CellD) (f:ByteArray→Option Bool) (P:ByteArray→Prop):Prop:=∀ s,(f s).isSome=true ↔ P s∧dfP a b s
theorem Jan {a b:List CellD} {f:ByteArray→Option Bool} {P P':ByteArray→Prop} {x:ByteArray} (h:fnd a b f P) (hx:dfP a b x) (hP:∀ s,P' s ↔ P s∨s=x):fnd a b (J2B f x true) P':=fun s=>by
 unfold J2B
 by_cases e:s=x
 ·rw [if_pos e];subst e
  exact ⟨fun _=>⟨(hP s).2 (.inr rfl),hx⟩,fun _=>rfl⟩
 rw [if_neg e,h s,hP]
 exact and_congr_left fun _=>⟨.inl,fun h=>h.resolve_right e⟩
theorem JaR {a b:List CellD} {f:ByteArray→Option Bool} {P P':ByteArray→Prop} {x:ByteArray} (h:fnd a b f P) (hx:¬ dfP a b x) (hP:∀ s,P' s ↔ P s∨s=x):fnd a b f P':=fun s=>by
 rw [h s,hP]
 constructor
 ·exact fun h=>⟨.inl h.1,h.2⟩
 rintro ⟨h1|rfl,h2⟩
 ·exact ⟨h1,h2⟩
 exact absurd h2 hx
structure DG where
 left:ByteArray→Bool
 cnt:Nat
 f:ByteArray→Option Bool
 n:Nat
theorem At.frame0N {w w':World} {L N:List Atom} (h:At w L) (hm:Mv [] w N w'):Mv L w (N++L) w':=by
 have:=At.frame (New:=N) h [] rfl hm
 rw [J19] at this
 exact this
def PLst (w:World) (l:List ByteArray) (e:Ending) (w':World):Prop:=∃ s:GL ByteArray,e=.returned s.val∧Mv [] w [owG 9 1 J3 okS s] w'∧s.l=l
set_option maxRecDepth 100000 in
set_option maxHeartbeats 4000000 in
theorem Je8 {w:World} {H:Nat→Prop} {a b:List CellD} {aa ab:Option Addr} {an ac bn bc:Nat} (hT:TbO w []) (ha:Rd 2 J6 okC H w (.slice aa an ac) a) (hb:Rd 2 J6 okC H w (.slice ab bn bc) b) (hqa:an≤137438953472) (hqb:bn≤137438953472):Calls prog 116 #[.slice aa an ac,.slice ab bn bc] w (PLst w (J0Z a b)):=by
 have M:St [] w [] w:=⟨Mv.refl (At.nil _),hT⟩
 refine zE (f:=116) fun _ F=>?_
 refine J0 (kMp F M (hc:=J90 M.nil.tb ha zO) (kk:=fun ba na w hna M=>zk fun _ F=>?_))
 have hb1:=(Rd.start (L:=[]) hb fun _ _=>JF _).mq M.mv
 refine J0 (kMp F M (hc:=J90 M.nil.tb hb1 zO) (kk:=fun bb nb w hnb M=>zk fun _ F=>?_))
 refine J0 (kMk (rd:=Lit.bool) 9 4 F M (kk:=fun bd w M=>zk fun _ F=>?_))
 refine J0 (JaV kyS underlying203 F M 2 (kk:=fun r cnt w hcnt M=>zk fun _ F=>?_))
 have F:=F.cut (m':=[(5,_),(6,_),(7,_),(18,_)]) rfl
 refine J1i (γ:=DG) (slots:=fun _=>[]) (LL:=fun g=>[rgA prog 9 9 J0g ba r na (JX a) g.left g.cnt,mpA prog 9 4 Lit.bool bd g.n g.f,mpA prog 9 9 J0g bb nb (JX b)]) (pr:=fun g=>g.n+g.cnt≤an∧(∀ s,g.left s=true→(JX a s).isSome=true)∧fnd a b g.f fun s=>(JX a s).isSome=true∧g.left s=false) (g0:=⟨fun s=>(JX a s).isSome,cnt,fun _=>none,0⟩) (fun g=>g.cnt) F M ⟨by dsimp only;omega,fun _ h=>h,fun s=>⟨fun h=>(by cases h),fun h=>absurd (h.1.1.symm.trans h.1.2) (by decide)⟩⟩ fun g ac w F M hp=>?_
 refine zr2 fun _ F=>?_
 refine J0 (Jbg kyS underlying9 elS F M 0 (kend:=fun hl=>zk fun _ F=>?_) (kk:=fun x y cnt' w hx hlx hsx hlt hen M=>zk fun _ F=>?_))
 ·have M:=M.rgEnd
  refine J0 (JaV kyS underlying203 F M 2 (kk:=fun r2 cnt2 w hcnt2 M=>zk fun _ F=>?_))
  have F:=F.cut (m':=[(5,_),(6,_),(7,_),(32,_)]) rfl
  refine J1i (γ:=DG) (slots:=fun _=>[]) (LL:=fun g=>[rgA prog 9 9 J0g bb r2 nb (JX b) g.left g.cnt,mpA prog 9 9 J0g ba na (JX a),mpA prog 9 4 Lit.bool bd g.n g.f]) (pr:=fun g=>g.n+g.cnt≤an+bn∧(∀ s,g.left s=true→(JX b s).isSome=true)∧fnd a b g.f fun s=>(JX a s).isSome=true∨((JX b s).isSome=true∧g.left s=false)) (g0:=⟨fun s=>(JX b s).isSome,cnt2,g.f,g.n⟩) (fun g=>g.cnt) F M ⟨by dsimp only;omega,fun _ h=>h,fun s=>?_⟩ fun g2 ac w F M hp2=>?_
  ·rw [hp.2.2 s]
   constructor
   ·exact fun h=>⟨.inl h.1.1,h.2⟩
   rintro ⟨h1|h1,h2⟩
   ·exact ⟨⟨h1,hl s⟩,h2⟩
   exact absurd (h1.1.symm.trans h1.2) (by decide)
  refine zr2 fun _ F=>?_
  refine J0 (Jbg kyS underlying9 elS F M 0 (kend:=fun hl2=>zk fun _ F=>?_) (kk:=fun x y cnt' w hx hlx hsx hlt hen M=>zk fun _ F=>?_))
  ·obtain ⟨D0,hD,hR⟩:=J3Z M.at' 2 rfl
   have hsz:Maps.size D0≤g2.n:=J9k hD
   refine J0 (J0D F (callsIn_wide.1 (JcC (some bd) w)) rfl rfl rfl rfl rfl rfl fun e w1 h=>⟨_,h.1,?_⟩)
   rw [h.2]
   intro _ F
   have M:=M.then (by
    have:=At.frame M.at' [] rfl (J9R w [.map (some bd)] 205)
    rw [J19] at this
    exact this)
   refine J0 (J0D F (callsIn_wide.1 (Jc9 bd g2.n D0 _ w hD (by unfold maxLen;omega) zO)) rfl rfl rfl rfl rfl rfl fun e w2 h=>?_)
   obtain ⟨vv,ss,rfl,hperm,hrow,_,hbel⟩:=h
   obtain ⟨ad,nq,nc,rfl⟩:=Jfe hrow
   refine ⟨_,rfl,fun _ F=>?_⟩
   have hlen:((ss.mergeSort leB).map baL).length=ss.length:=by rw [List.length_map,List.length_mergeSort]
   have hO:Own 9 1 J3 okS w2 (.slice ad nq nc) ((ss.mergeSort leB).map baL):=by
    refine ⟨?_,fun x hx=>?_⟩
    ·rw [hlen,Jfw]
     exact J6i hrow fun _ _=>Nat.zero_le _
    obtain ⟨y,hy,rfl⟩:=List.mem_map.1 hx
    have h1:=strKeys_le hD underlying9 y (hperm.mem_iff.1 ((List.mergeSort_perm ss leB).mem_iff.1 hy))
    simpa [baL,okS,ByteArray.size,maxLen] using h1
   have hM:=At.frame0N M.at' (Bl.mv_new (At.one (A:=qS ad nq nc ((ss.mergeSort leB).map baL)) hO fun q hq=>(hrow.lt q hq).2) (fun q hq=>by rw [J1b] at hq;exact (hrow.lt q hq).1) hbel)
   have M:=(M.then hM).pick [0] [_]
   refine zr2 fun _ F=>?_
   refine zd1 F ?_
   refine ⟨⟨ad,nq,nc,(ss.mergeSort leB).map baL⟩,rfl,M.mv,Ja5 (JhV (hperm.nodup_iff.2 (Jdf hD kyS underlying9))) (JeO a b) fun x=>?_⟩
   have hx:x ∈ (ss.mergeSort leB).map baL ↔ Maps.has D0 (J0g x)=true:=by
    rw [List.mem_map]
    constructor
    ·rintro ⟨y,hy,rfl⟩
     have:=(J8F hD underlying9 y).1 (hperm.mem_iff.1 ((List.mergeSort_perm ss leB).mem_iff.1 hy))
     simpa [J0g,baL] using this
    intro h
    exact ⟨x.data.toList,(List.mergeSort_perm ss leB).mem_iff.2 (hperm.mem_iff.2 ((J8F hD underlying9 _).2 h)),by simp [baL]⟩
   rw [hx,(hR x).1,hp2.2.2 x,JeN,← Jaa,← Jaa]
   simp [hl2,dfP]
  refine J0 (JaT hen F (kk:=zk fun _ F=>?_))
  refine J0 (Jbf kyS elS underlying203 underlying9 zvS (Nat.zero_le _) hsx (J3Z M.at' 1 rfl) F (kk:=zk fun _ F=>?_))
  have hdf:((JX a x).getD ⟨#[]⟩≠y) ↔ dfP a b x:=by
   unfold dfP
   rw [← J5o,← J5o,hx];exact Iff.rfl
  have hP:∀ s,((JX a s).isSome=true∨((JX b s).isSome=true∧(g2.left s && !decide (s=x))=false)) ↔ ((JX a s).isSome=true∨((JX b s).isSome=true∧g2.left s=false))∨s=x:=fun s=>by
   by_cases e:s=x
   ·subst e;simp [hx]
   simp [e]
  refine zi F (fun h1=>?_) fun h1=>?_
  ·refine zr2 fun _ F=>?_
   refine J0 (J7Q (n:=g2.n) (v:=true) kyS elB underlying205 underlying9 hsx trivial (by unfold maxLen;omega) F M 2 (kk:=fun w M=>zk fun _ F=>?_))
   have M:=M.pick [1,2,0] [_,_,_]
   exact Jw ⟨fun t=>g2.left t && !decide (t=x),cnt',J2B g2.f x true,g2.n+1⟩ hlt ⟨F.cut rfl,M,⟨by dsimp only;omega,fun s h=>hp2.2.1 s (by simp at h;exact h.1),Jan hp2.2.2 (hdf.1 h1) hP⟩⟩
  refine zr2 fun _ F=>?_
  exact Jw ⟨fun t=>g2.left t && !decide (t=x),cnt',g2.f,g2.n⟩ hlt ⟨F.cut rfl,M,⟨by dsimp only;omega,fun s h=>hp2.2.1 s (by simp at h;exact h.1),JaR hp2.2.2 (fun h=>h1 (hdf.2 h)) hP⟩⟩
 refine J0 (JaT hen F (kk:=zk fun _ F=>?_))
 refine J0 (Jbf kyS elS underlying203 underlying9 zvS (Nat.zero_le _) hsx (J3Z M.at' 2 rfl) F (kk:=zk fun _ F=>?_))
 have hdf:((JX b x).getD ⟨#[]⟩≠y) ↔ dfP a b x:=by
  unfold dfP
  rw [← J5o,← J5o,hx];exact ne_comm
 have hP:∀ s,((JX a s).isSome=true∧(g.left s && !decide (s=x))=false) ↔ ((JX a s).isSome=true∧g.left s=false)∨s=x:=fun s=>by
  by_cases e:s=x
  ·subst e;simp [hx]
  simp [e]
 refine zi F (fun h1=>?_) fun h1=>?_
 ·refine zr2 fun _ F=>?_
  refine J0 (J7Q (n:=g.n) (v:=true) kyS elB underlying205 underlying9 hsx trivial (by unfold maxLen;omega) F M 1 (kk:=fun w M=>zk fun _ F=>?_))
  have M:=M.pick [1,0,2] [_,_,_]
  exact Jw ⟨fun t=>g.left t && !decide (t=x),cnt',J2B g.f x true,g.n+1⟩ hlt ⟨F.cut rfl,M,⟨by dsimp only;omega,fun s h=>hp.2.1 s (by simp at h;exact h.1),Jan hp.2.2 (hdf.1 h1) hP⟩⟩
 refine zr2 fun _ F=>?_
 exact Jw ⟨fun t=>g.left t && !decide (t=x),cnt',g.f,g.n⟩ hlt ⟨F.cut rfl,M,⟨by dsimp only;omega,fun s h=>hp.2.1 s (by simp at h;exact h.1),JaR hp.2.2 (fun h=>h1 (hdf.2 h)) hP⟩⟩
theorem J3F {H:Nat→Prop} {w:World} (t0:Tb 0 H w) (t1:Tb 1 H w) (t2:Tb 2 H w):TbO w []:=
 ⟨⟨t0.1,t1.1,t2.1⟩,fun K g hg=>⟨by
  match K,hg with
  | 0,hg=>exact (t0.2 g hg).2
  | 1,hg=>exact (t1.2 g hg).2
  | _+2,hg=>exact (t2.2 g hg).2,JF _⟩⟩
end
set_option maxRecDepth 100000
set_option maxHeartbeats 1000000
set_option maxRecDepth 100000
set_option maxHeartbeats 1000000
section
variable {w:World} {H:Nat→Prop}
set_option maxRecDepth 100000
set_option maxHeartbeats 1000000
theorem Jef {code:List Nat} {Q1:Option Addr} {Q0 Q2:Nat} (Q3:RdA 1 J7 okB H w (.slice Q1 Q0 Q2) code) :
 Calls prog 22 #[.slice Q1 Q0 Q2] w fun e w'=>e=.returned (.bool (decide (code.length > 1048576)))∧Mv [] w [] w':=by
 have V_v_code:=RdA.start Q3 zN
 obtain ⟨Q4,Q5,Q6,Q7⟩:=RdA.inv Q3
 refine ze fun _ F=>?_
 refine zc F (Q0 > 1048576) fun _ F=>?_
 refine zd1 F ?_
 exact ⟨(zV1 (zVb (by rw [Q4]))),(Mv.pick (Mv.refl (At.nil w)) [] rfl)⟩
end
set_option maxRecDepth 100000
set_option maxHeartbeats 1000000
set_option maxRecDepth 100000
set_option maxHeartbeats 1000000
section
variable {w:World} {H:Nat→Prop}
set_option maxRecDepth 100000
set_option maxHeartbeats 1000000
theorem Jd7 {s:List CellD} {s_a:Option Addr} {s_n s_c:Nat} (v_s:Rd 2 J6 okC H w (.slice s_a s_n s_c) s) (p0:s_n≤1099511627776) :
 Calls prog 160 #[.slice s_a s_n s_c] w fun e w'=>∃ (Q6:Option Addr)(Q8 Q7:Nat)(Q3:Option Addr)(Q5 Q4:Nat)(Q9:Option Addr)(Q11 Q10:Nat),e=.returned (.agg #[.slice Q6 Q8 Q7,.slice Q3 Q5 Q4,.slice Q9 Q11 Q10])∧Mv [] w [qC Q6 Q8 Q7 s,qS Q3 Q5 Q4 ([]),qS Q9 Q11 Q10 ([])] w':=by
 have V_v_s:=Rd.start v_s zN
 obtain ⟨ln_s,le_s,mx_s,ni_s⟩:=Rd.inv v_s
 refine ze fun _ F=>?_
 refine zal F (At.nil w) JA fun b1 w1 S1 _ F=>?_
 refine zz F (Jc3 (s:=s) (Rd.mq V_v_s S1) yb) ?_
 rintro _ w4 ⟨Q0,Q2,Q1,rfl,m4⟩
 refine zt fun _ F=>?_
 have S4:Mv _ _ [_,bx _ [_,_,_] _] _:=At.frame S1.at' [] rfl m4
 obtain ⟨Q12,Q13,Q14⟩:=At.ownInv S4.at' ET_28.hk 0 rfl
 refine zv (v:=.agg #[.slice Q0 Q2 Q1,sN,sN]) F (J06 JaK rfl (lc (pr2 (F.g rfl)) rfl) rfl) fun _ F=>?_
 refine zst F S4.at' 1 fun w7 S7 _ F=>?_
 have S8:Mv [bx b1 [.slice Q0 Q2 Q1,sN,sN] 210,qC Q0 Q2 Q1 s] w7 [qS none 0 0 ([]:List ByteArray),bx b1 [.slice Q0 Q2 Q1,sN,sN] 210,qC Q0 Q2 Q1 s] w7:=J2O S7.at'
 have S9:Mv [qS none 0 0 ([]:List ByteArray),bx b1 [.slice Q0 Q2 Q1,sN,sN] 210,qC Q0 Q2 Q1 s] w7 [qS none 0 0 ([]:List ByteArray),qS none 0 0 ([]:List ByteArray),bx b1 [.slice Q0 Q2 Q1,sN,sN] 210,qC Q0 Q2 Q1 s] w7:=J2O S8.at'
 refine zdc F S7.at' 0 ?_
 exact ⟨Q0,Q2,Q1,none,0,0,none,0,0,rfl,(Mv.cast (Mv.pick (tc5 S1 S4 S7 S8 S9) [3,1,0] rfl) rfl)⟩
theorem JcJ {a:List CellD} {a_a:Option Addr} {a_n a_c:Nat} {b:List CellD} {b_a:Option Addr} {b_n b_c:Nat} (v_a:Rd 2 J6 okC H w (.slice a_a a_n a_c) a) (v_b:Rd 2 J6 okC H w (.slice b_a b_n b_c) b) (p0:a_n≤137438953472) (p1:b_n≤137438953472) :
 Calls prog 108 #[.slice a_a a_n a_c,.slice b_a b_n b_c] w fun e w'=>∃ (r0_a:Option Addr)(r0_n r0_c:Nat),e=.returned (.slice r0_a r0_n r0_c)∧Mv [] w [] w'∧Rd 1 J3 okS (Fsh H w) w' (.slice r0_a r0_n r0_c) (J0Z a b):=by
 have V_v_a:=Rd.start v_a zN
 obtain ⟨ln_a,le_a,mx_a,ni_a⟩:=Rd.inv v_a
 have V_v_b:=Rd.start v_b zN
 obtain ⟨ln_b,le_b,mx_b,ni_b⟩:=Rd.inv v_b
 refine ze fun _ F=>?_
 refine zbs (ok:=okS) F (At.nil w) (([]:List ByteArray)) ET_44 (by simp) fun b2 w2 S2 _ F=>?_
 have Z7:Rd 1 J3 okS (V H w []) w2 (.slice (aO b2) 0 0) ([]:List ByteArray):=At.freeze S2 ET_44.hk 0 rfl (fun b hb=>(S2.fresh b ⟨_,Jm (i:=0) rfl,hb⟩).resolve_left (JF _))
 have S7:=At.drop S2.at' 0
 refine JH S7.at' (fun lZ (k:Nat) aZ wZ=>∃ (oa:Option Addr)(on oc:Nat),Fr 46 [(6,nV k),(5,.slice oa on oc),(0,.slice a_a a_n a_c),(1,.slice b_a b_n b_c)] aZ∧Mv lZ w2 [] wZ∧Rd 1 J3 okS (V H w []) wZ (.slice oa on oc) (J1G a b k)∧(k≤a_n+b_n)) (fun (k:Nat)=>a_n+b_n - k) (0) ?_ ?_
 ·exact ⟨(aO b2),0,0,F.cut rfl,(Mv.refl S7.at'),Z7,zO⟩
 rintro k a6 w6 ⟨oa,on,oc,F,S6,W6_0,hk_0⟩
 obtain ⟨lv6_0,lw6_0,lx6_0,ly6_0⟩:=Rd.inv W6_0
 have dl:=J8p a b k
 refine zr fun _ F=>?_
 refine zq F ((a_n+b_n:Nat):Int) fun _ F=>?_
 refine zc F (k < a_n+b_n) fun _ F=>?_
 refine zi F (fun h15=>?_) fun h15=>?_
 ·refine zr fun _ F=>?_
  refine zc F (k < a_n) fun _ F=>?_
  refine zi F (fun h21=>?_) fun h21=>?_
  ·refine zr fun _ F=>?_
   obtain ⟨B24,O24,x1,ad24,hx1,okx1,ln24,cl24⟩:=Rd.at (Rd.mq V_v_a (tc3 S2 S7 S6)) k yq
   clear ln24
   refine zv F (JB (i:=k) ET_28 rfl ((F.ev 22 rfl).trans (by rw [ad24])) (F.g rfl) zO yq) fun _ F=>?_
   refine zv (v:=.string x1.key) F (JD (cs:=[.string x1.key]) J0j rfl (F.g rfl) rfl (fun _=>rfl) (JN (f:=0) cl24 [.string x1.key] rfl)) fun _ F=>?_
   refine zzq F S6.at' (J3N (s:=a) (key:=x1.key) (Rd.mq V_v_a (tc3 S2 S7 S6)) okx1.1) ?_
   rintro w31 S31 Q6 _ F
   refine zzq F S31.at' (J3N (s:=b) (key:=x1.key) (Rd.mq V_v_b (tc4 S2 S7 S6 S31)) okx1.1) ?_
   rintro w35 S35 Q7 _ F
   refine zv F (J0O (b:=(decide ((Jl a x1.key)≠(Jl b x1.key)))) (.inr (.inl rfl)) rfl (F.g rfl) (F.g rfl) rfl) fun _ F=>?_
   have T38:Mv _ _ [] _:=S35
   refine zi F (fun h39=>?_) fun h39=>?_
   ·refine zr fun _ F=>?_
    refine zz F (J6c (list:=J1G a b k) (x:=x1.key) (Rd.mq W6_0 (S31.trans T38)) okx1.1 yb) ?_
    rintro _ w42 ⟨Q0,Q4,Q2,rfl,m42,v42_0⟩
    refine zt fun _ F=>?_
    have S42:=At.frame0 T38.at' m42
    have V42_0:=Rd.got0 T38.at' ((tc5 S2 S7 S6 S31 T38).kp.size) v42_0 S42
    obtain ⟨ln42_0,le42_0,mx42_0,ni42_0⟩:=Rd.inv V42_0
    refine zq F ((k+1:Nat):Int) fun _ F=>?_
    exact ⟨k+1,zD,Q0,Q4,Q2,F.cut rfl,((tc4 S6 S31 T38 S42).pick [] rfl),(Rd.cast V42_0 yBh),zO⟩
   refine zr fun _ F=>?_
   refine zq F ((k+1:Nat):Int) fun _ F=>?_
   exact ⟨k+1,zD,oa,on,oc,F.cut rfl,((tc3 S6 S31 T38).pick [] rfl),(Rd.cast (Rd.mq W6_0 (S31.trans T38)) yBh),zO⟩
  refine zr fun _ F=>?_
  refine zq F ((k - a_n:Nat):Int) fun _ F=>?_
  obtain ⟨B56,O56,x1,ad56,hx1,okx1,ln56,cl56⟩:=Rd.at (Rd.mq V_v_b (tc3 S2 S7 S6)) (k - a_n) yq
  clear ln56
  refine zv F (JB (i:=k - a_n) ET_28 rfl ((F.ev 27 rfl).trans (by rw [ad56])) (F.g rfl) zO yq) fun _ F=>?_
  refine zv (v:=.string x1.key) F (JD (cs:=[.string x1.key]) J0j rfl (F.g rfl) rfl (fun _=>rfl) (JN (f:=0) cl56 [.string x1.key] rfl)) fun _ F=>?_
  refine zzq F S6.at' (J3N (s:=a) (key:=x1.key) (Rd.mq V_v_a (tc3 S2 S7 S6)) okx1.1) ?_
  rintro w63 S63 Q8 _ F
  refine zzq F S63.at' (J3N (s:=b) (key:=x1.key) (Rd.mq V_v_b (tc4 S2 S7 S6 S63)) okx1.1) ?_
  rintro w67 S67 Q9 _ F
  refine zv F (J0O (b:=(decide ((Jl a x1.key)≠(Jl b x1.key)))) (.inr (.inl rfl)) rfl (F.g rfl) (F.g rfl) rfl) fun _ F=>?_
  have T70:Mv _ _ [] _:=S67
  refine zi F (fun h71=>?_) fun h71=>?_
  ·refine zr fun _ F=>?_
   refine zz F (J6c (list:=J1G a b k) (x:=x1.key) (Rd.mq W6_0 (S63.trans T70)) okx1.1 yb) ?_
   rintro _ w74 ⟨Q1,Q5,Q3,rfl,m74,v74_0⟩
   refine zt fun _ F=>?_
   have S74:=At.frame0 T70.at' m74
   have V74_0:=Rd.got0 T70.at' ((tc5 S2 S7 S6 S63 T70).kp.size) v74_0 S74
   obtain ⟨ln74_0,le74_0,mx74_0,ni74_0⟩:=Rd.inv V74_0
   refine zq F ((k+1:Nat):Int) fun _ F=>?_
   exact ⟨k+1,zD,Q1,Q5,Q3,F.cut rfl,((tc4 S6 S63 T70 S74).pick [] rfl),(Rd.cast V74_0 yBh),zO⟩
  refine zr fun _ F=>?_
  refine zq F ((k+1:Nat):Int) fun _ F=>?_
  exact ⟨k+1,zD,oa,on,oc,F.cut rfl,((tc3 S6 S63 T70).pick [] rfl),(Rd.cast (Rd.mq W6_0 (S63.trans T70)) yBh),zO⟩
 refine zr fun _ F=>?_
 refine zd1 F ?_
 exact ⟨oa,on,oc,rfl,(Mv.pick (tc3 S2 S7 S6) [] rfl),(Rd.cast (Rd.give W6_0) (by exact J94 ln_a ln_b zA))⟩
end
section
variable {w:World} {H:Nat→Prop}
set_option maxRecDepth 100000
set_option maxHeartbeats 1000000
theorem JcS {tx:TxD} {Q1:Option Addr} {Q0 Q2:Nat} {Q9:Option Addr} {Q11 Q10:Nat} {Q3:Option Addr} {Q5 Q4:Nat} {Q6:Option Addr} {Q8 Q7:Nat} {Q12:Option Addr} {Q14 Q13:Nat} (Q22:J1 tx.id) (Q20:J1 tx.age) (Q23:J1 tx.proc) (Q21:J1 tx.began) (Q16:Rd 6 J16 okK H w (.slice Q1 Q0 Q2) tx.calls) (Q15:Rd 3 J0x okR H w (.slice Q9 Q11 Q10) tx.answers) (Q18:Rd 1 J3 okS H w (.slice Q3 Q5 Q4) tx.touch.reads) (Q19:Rd 1 J3 okS H w (.slice Q6 Q8 Q7) tx.touch.writes) (Q17:Rd 1 J0w okI H w (.slice Q12 Q14 Q13) tx.marks) (Q24:J1 tx.state) (p0:tx.calls.length≤1048576) (p1:J1 tx.proc) :
 Calls prog 119 #[.agg #[iV tx.id,iV tx.age,iV tx.proc,iV tx.began,.slice Q1 Q0 Q2,.slice Q9 Q11 Q10,.slice Q3 Q5 Q4,.slice Q6 Q8 Q7,.slice Q12 Q14 Q13,iV tx.state]] w fun e w'=>∃ (r0_a:Option Addr)(r0_n r0_c:Nat),e=.returned (.slice r0_a r0_n r0_c)∧Mv [] w [ow 191 7 J1p J1f (.slice r0_a r0_n r0_c) (J3E tx)] w':=by
 have V_v_tx_calls:=Rd.start Q16 zN
 obtain ⟨Q31,Q26,Q36,Q41⟩:=Rd.inv Q16
 have V_v_tx_answers:=Rd.start Q15 zN
 obtain ⟨Q30,Q25,Q35,Q40⟩:=Rd.inv Q15
 have V_v_tx_touch_reads:=Rd.start Q18 zN
 obtain ⟨Q33,Q28,Q38,Q43⟩:=Rd.inv Q18
 have V_v_tx_touch_writes:=Rd.start Q19 zN
 obtain ⟨Q34,Q29,Q39,Q44⟩:=Rd.inv Q19
 have V_v_tx_marks:=Rd.start Q17 zN
 obtain ⟨Q32,Q27,Q37,Q42⟩:=Rd.inv Q17
 refine ze fun _ F=>?_
 refine zbx F (At.nil w) fun b1 w1 S1 _ F=>?_
 refine zl F S1.at' 0 fun _ F=>?_
 have S10:Mv [bx b1 [iV tx.id,iV tx.age,iV tx.proc,iV tx.began,.slice Q1 Q0 Q2,.slice Q9 Q11 Q10,.slice Q3 Q5 Q4,.slice Q6 Q8 Q7,.slice Q12 Q14 Q13,iV tx.state] 58] w1 [ow 191 7 J1p J1f (sN) ([]:List StepD),bx b1 [iV tx.id,iV tx.age,iV tx.proc,iV tx.began,.slice Q1 Q0 Q2,.slice Q9 Q11 Q10,.slice Q3 Q5 Q4,.slice Q6 Q8 Q7,.slice Q12 Q14 Q13,iV tx.state] 58] w1:=J2O S1.at'
 refine JH S10.at' (fun lZ (k:Nat) aZ wZ=>∃ (D:List StepD)(oa:Option Addr)(on oc:Nat),Fr 22 [(9,nV k),(8,nV Q0),(7,.slice Q1 Q0 Q2),(3,.slice oa on oc),(1,pT b1)] aZ∧Mv lZ w1 (lZ.set 0 (ow 191 7 J1p J1f (.slice oa on oc) D)) wZ∧(k≤tx.calls.length)∧(D=(tx.calls.take k).map (J1J tx.proc))) (fun (k:Nat)=>tx.calls.length - k) (0) ?_ ?_
 ·exact ⟨([]:List StepD),none,0,0,F.cut rfl,(Mv.refl S10.at'),zO,by rw [List.take_zero];rfl⟩
 rintro k a9 w9 ⟨D,oa,on,oc,F,S9,hk_0,hk_1⟩
 have S9:Mv _ _ [_,bx _ [_,_,_,_,_,_,_,_,_,_] _] _:=S9
 have hDl:D.length≤k:=by rw [hk_1,List.length_map,List.length_take];omega
 refine zr fun _ F=>?_
 refine zc F (k < Q0) fun _ F=>?_
 refine zi F (fun h12=>?_) fun h12=>?_
 ·refine zr fun _ F=>?_
  obtain ⟨B13,O13,x1,ad13,hx1,okx1,ln13,cl13⟩:=Rd.at (Rd.mq V_v_tx_calls (tc3 S1 S10 S9)) k yq
  clear ln13
  refine zv F (JB (i:=k) ET_54 rfl ((F.ev 7 rfl).trans (by rw [ad13])) (F.g rfl) zO yq) fun _ F=>?_
  refine zv (v:=.agg #[iV x1.kind,.string x1.name,.string x1.to_,iV x1.a,iV x1.b,.string x1.text]) F (JD (cs:=[iV x1.kind,.string x1.name,.string x1.to_,iV x1.a,iV x1.b,.string x1.text]) J5w rfl (F.g rfl) rfl (fun h=>nomatch h) (JN (f:=0) cl13 [iV x1.kind,.string x1.name,.string x1.to_,iV x1.a,iV x1.b,.string x1.text] rfl)) fun _ F=>?_
  refine zal F S9.at' J4D fun b16 w16 S16 _ F=>?_
  refine zst F S16.at' 0 fun w18 S18 _ F=>?_
  have T19:Mv _ _ [bx _ [_,_,_,_,_,_] _,_,bx _ [_,_,_,_,_,_,_,_,_,_] _] _:=S18
  refine zl F T19.at' 2 fun _ F=>?_
  refine zw F T19.at' 0 fun _ F=>?_
  refine zv (v:=.agg #[iV tx.proc,iV x1.kind,.string x1.name,.string x1.to_,iV x1.a,iV x1.b,.string x1.text]) F (J06 JaJ rfl (lc (pr2 (F.g rfl)) (lc (pr2 (F.g rfl)) rfl)) rfl) fun _ F=>?_
  refine zbs (ok:=J1f) F T19.at' ([(⟨tx.proc,x1⟩:StepD)]) ET_151 (fun x hx=>(List.mem_singleton.1 hx) ▸ ⟨(show J1 tx.proc from by first|assumption|exact ⟨zO,zO⟩),okx1.1,okx1.2.1,okx1.2.2.1,okx1.2.2.2.1,okx1.2.2.2.2.1,okx1.2.2.2.2.2⟩) fun b25 w25 S25 _ F=>?_
  refine J0 (Jv (news:=[(⟨tx.proc,x1⟩:StepD)]) F S25.at' 2 ET_151 rfl rfl rfl rfl rfl rfl (F.g rfl) (F.g rfl) ((At.rd S25.at' ET_151.hk 0 rfl)).1 (by ((repeat (first|rw [List.length_append]|rw [List.length_cons]|rw [List.length_nil]|rw [List.length_take]|rw [List.length_drop])) <;> omega)) fun A27 N27 C27 _ w27 F S27 l27=>?_)
  have S29:=At.drop S27.at' 1
  refine zr fun _ F=>?_
  refine zq F ((k+1:Nat):Int) fun _ F=>?_
  exact ⟨k+1,zD,D++([(⟨tx.proc,x1⟩:StepD)]),A27,N27,C27,F.cut rfl,((tc6 S9 S16 T19 S25 S27 S29).pick [0,2] rfl),zO,J5U (f:=J1J tx.proc) hk_1 hx1⟩
 refine zr fun _ F=>?_
 refine zd1 F ?_
 exact ⟨oa,on,oc,rfl,(Mv.cast (Mv.pick (tc3 S1 S10 S9) [0] rfl) (lc (zOw (by exact J5T hk_1 zO)) rfl))⟩
theorem J8b {tx:TxD} {Q10:Option Addr} {Q0 Q11:Nat} {Q7:Option Addr} {Q9 Q8:Nat} {Q1:Option Addr} {Q3 Q2:Nat} {Q4:Option Addr} {Q6 Q5:Nat} {Q12:Option Addr} {Q14 Q13:Nat} (Q22:J1 tx.id) (Q20:J1 tx.age) (Q23:J1 tx.proc) (Q21:J1 tx.began) (Q16:Rd 6 J16 okK H w (.slice Q10 Q0 Q11) tx.calls) (Q15:Rd 3 J0x okR H w (.slice Q7 Q9 Q8) tx.answers) (Q18:Rd 1 J3 okS H w (.slice Q1 Q3 Q2) tx.touch.reads) (Q19:Rd 1 J3 okS H w (.slice Q4 Q6 Q5) tx.touch.writes) (Q17:Rd 1 J0w okI H w (.slice Q12 Q14 Q13) tx.marks) (Q24:J1 tx.state) (p0:tx.calls.length≤1048576) (p1:J1 tx.proc) :
 Calls prog 111 #[.agg #[iV tx.id,iV tx.age,iV tx.proc,iV tx.began,.slice Q10 Q0 Q11,.slice Q7 Q9 Q8,.slice Q1 Q3 Q2,.slice Q4 Q6 Q5,.slice Q12 Q14 Q13,iV tx.state]] w fun e w'=>∃ (r0_a:Option Addr)(r0_n r0_c:Nat),e=.returned (.slice r0_a r0_n r0_c)∧Mv [] w [ow 191 7 J1p J1f (.slice r0_a r0_n r0_c) (J3E tx)] w':=by
 have V_v_tx_calls:=Rd.start Q16 zN
 obtain ⟨Q31,Q26,Q36,Q41⟩:=Rd.inv Q16
 have V_v_tx_answers:=Rd.start Q15 zN
 obtain ⟨Q30,Q25,Q35,Q40⟩:=Rd.inv Q15
 have V_v_tx_touch_reads:=Rd.start Q18 zN
 obtain ⟨Q33,Q28,Q38,Q43⟩:=Rd.inv Q18
 have V_v_tx_touch_writes:=Rd.start Q19 zN
 obtain ⟨Q34,Q29,Q39,Q44⟩:=Rd.inv Q19
 have V_v_tx_marks:=Rd.start Q17 zN
 obtain ⟨Q32,Q27,Q37,Q42⟩:=Rd.inv Q17
 refine ze fun _ F=>?_
 refine zbx F (At.nil w) fun b1 w1 S1 _ F=>?_
 refine zbs (ok:=J1f) F S1.at' (([]:List StepD)) ET_151 (by simp) fun b4 w4 S4 _ F=>?_
 refine JH S4.at' (fun lZ (k:Nat) aZ wZ=>∃ (D:List StepD)(oa:Option Addr)(on oc:Nat),Fr 25 [(4,nV k),(3,.slice oa on oc),(1,pT b1)] aZ∧Mv lZ w4 (lZ.set 0 (ow 191 7 J1p J1f (.slice oa on oc) D)) wZ∧(k≤tx.calls.length)∧(D=(tx.calls.take k).map (J1J tx.proc))) (fun (k:Nat)=>tx.calls.length - k) (0) ?_ ?_
 ·exact ⟨([]:List StepD),(aO b4),0,0,F.cut rfl,(Mv.refl S4.at'),zO,by rw [List.take_zero];rfl⟩
 rintro k a8 w8 ⟨D,oa,on,oc,F,S8,hk_0,hk_1⟩
 have S8:Mv _ _ [_,bx _ [_,_,_,_,_,_,_,_,_,_] _] _:=S8
 have hDl:D.length≤k:=by rw [hk_1,List.length_map,List.length_take];omega
 refine zr fun _ F=>?_
 refine zl F S8.at' 1 fun _ F=>?_
 refine zc F (k < Q0) fun _ F=>?_
 refine zi F (fun h14=>?_) fun h14=>?_
 ·refine zr fun _ F=>?_
  obtain ⟨x1,hx1,okx1⟩:=Rd.elem (Rd.mq V_v_tx_calls (tc3 S1 S4 S8)) k yq
  refine J1K [] [0,1,2,3,4,5,6,7,8,9,10,11] S8.at' [1] zK fun w16 S16 hS=>?_
  obtain ⟨B23,O23,y23,ad23,hy23,oky23,ln23,cl23⟩:=Rd.atK (Nat.succ_pos _) (Rd.mq V_v_tx_calls (tc4 S1 S4 S8 S16)) k yq
  clear ln23
  obtain rfl:=Option.some.inj (hx1.symm.trans hy23)
  clear hy23 oky23
  refine zg fun _ F=>?_
  refine Jr F rfl rfl (fun _=>(JB (i:=k) ET_54 rfl ((F.ev 17 rfl).trans (by rw [ad23])) (F.g rfl) zO yq)) fun _ F=>?_
  refine J3e (v:=.agg #[iV x1.kind,.string x1.name,.string x1.to_,iV x1.a,iV x1.b,.string x1.text]) F hS rfl rfl (fun _ hz=>(JD (cs:=[iV x1.kind,.string x1.name,.string x1.to_,iV x1.a,iV x1.b,.string x1.text]) J5w rfl (F.g rfl) rfl (fun h=>nomatch h) (JN (f:=0) (cl23 _ hz.kp) [iV x1.kind,.string x1.name,.string x1.to_,iV x1.a,iV x1.b,.string x1.text] rfl))) fun _ F=>?_
  refine J2 rfl rfl (Jf (v:=.agg #[iV tx.proc,iV x1.kind,.string x1.name,.string x1.to_,iV x1.a,iV x1.b,.string x1.text]) F rfl rfl (J06 JaJ rfl (lc (pr2 (F.g rfl)) (lc (pr2 (F.g rfl)) rfl)) rfl) rfl fun _ F=>?_)
  refine nS0 ?_
  refine J2 rfl rfl (zb1 (ok:=J1f) F S16.at' ([(⟨tx.proc,x1⟩:StepD)]) ET_151 (fun x hx=>(List.mem_singleton.1 hx) ▸ ⟨(show J1 tx.proc from by first|assumption|exact ⟨zO,zO⟩),okx1.1,okx1.2.1,okx1.2.2.1,okx1.2.2.2.1,okx1.2.2.2.2.1,okx1.2.2.2.2.2⟩) fun b27 w27 _ S27 F=>?_)
  refine nS (Sd.of S27 [2] rfl) fun hS=>?_
  refine J2 rfl rfl (Jv (news:=[(⟨tx.proc,x1⟩:StepD)]) F S27.at' 1 ET_151 rfl rfl rfl rfl rfl rfl (F.g rfl) (F.g rfl) ((At.rd S27.at' ET_151.hk 0 rfl)).1 (by ((repeat (first|rw [List.length_append]|rw [List.length_cons]|rw [List.length_nil]|rw [List.length_take]|rw [List.length_drop])) <;> omega)) fun A29 N29 C29 _ w29 F S29 l29=>?_)
  have S31:=At.drop S29.at' 1
  refine nS (Sd.of (tc3 S27 S29 S31) [1] rfl) fun hS=>?_
  refine zg fun _ F=>?_
  refine zq F ((k+1:Nat):Int) fun _ F=>?_
  have T36:Mv _ _ [_,bx _ [_,_,_,_,_,_,_,_,_,_] _] _:=S31
  exact ⟨k+1,zD,D++([(⟨tx.proc,x1⟩:StepD)]),A29,N29,C29,F.cut rfl,((tc5 S8 S16 S27 S29 T36).pick [0,1] rfl),zO,J5U (f:=J1J tx.proc) hk_1 hx1⟩
 refine zr fun _ F=>?_
 refine zd1 F ?_
 exact ⟨oa,on,oc,rfl,(Mv.cast (Mv.pick (tc3 S1 S4 S8) [0] rfl) (lc (zOw (by exact J5T hk_1 zO)) rfl))⟩
theorem JcY {a:List CellD} {a_a:Option Addr} {a_n a_c:Nat} {b:List CellD} {b_a:Option Addr} {b_n b_c:Nat} (v_a:Rd 2 J6 okC H w (.slice a_a a_n a_c) a) (v_b:Rd 2 J6 okC H w (.slice b_a b_n b_c) b) (p0:a_n≤137438953472) (p1:b_n≤137438953472) :
 Calls prog 59 #[.slice a_a a_n a_c,.slice b_a b_n b_c] w fun e w'=>∃ (r0_a:Option Addr)(r0_n r0_c:Nat),e=.returned (.slice r0_a r0_n r0_c)∧Mv [] w [qC r0_a r0_n r0_c (J3t a b)] w':=by
 have hdl:=J5d a b
 have V_v_a:=Rd.start v_a zN
 obtain ⟨ln_a,le_a,mx_a,ni_a⟩:=Rd.inv v_a
 have V_v_b:=Rd.start v_b zN
 obtain ⟨ln_b,le_b,mx_b,ni_b⟩:=Rd.inv v_b
 refine ze fun _ F=>?_
 refine zbs (ok:=okC) F (At.nil w) (([]:List CellD)) ET_28 (by simp) fun b2 w2 S2 _ F=>?_
 refine zz F (JcJ (a:=a) (b:=b) (Rd.mq V_v_a S2) (Rd.mq V_v_b S2) yb yb) ?_
 rintro _ w7 ⟨Q2,Q0,Q3,rfl,m7,v7_0⟩
 refine zt fun _ F=>?_
 have S7:=At.frame0 S2.at' m7
 have V7_0:=Rd.got0 S2.at' (S2.kp.size) v7_0 S7
 obtain ⟨ln7_0,le7_0,mx7_0,ni7_0⟩:=Rd.inv V7_0
 refine JH S7.at' (fun lZ (k:Nat) aZ wZ=>∃ (D:List CellD)(oa:Option Addr)(on oc:Nat),Fr 33 [(7,nV k),(6,.slice Q2 Q0 Q3),(5,.slice oa on oc),(1,.slice b_a b_n b_c)] aZ∧Mv lZ w7 [qC oa on oc D] wZ∧(k≤(J0Z a b).length)∧(D=((J0Z a b).take k).map (J5P b))) (fun (k:Nat)=>(J0Z a b).length - k) (0) ?_ ?_
 ·exact ⟨([]:List CellD),(aO b2),0,0,F.cut rfl,(Mv.refl S7.at'),zO,by rw [List.take_zero];rfl⟩
 rintro k a11 w11 ⟨D,oa,on,oc,F,S11,hk_0,hk_1⟩
 have hDl:D.length≤k:=by rw [hk_1,List.length_map,List.length_take];omega
 refine zr fun _ F=>?_
 refine zc F (k < Q0) fun _ F=>?_
 refine zi F (fun h16=>?_) fun h16=>?_
 ·refine zr fun _ F=>?_
  obtain ⟨x1,hx1,okx1⟩:=Rd.elem (Rd.mq V7_0 S11) k yq
  refine J1K [] [0,1,2,3,4,5,6,7,8,9,10,11,12,13,14] S11.at' [] zK fun w18 S18 hS=>?_
  obtain ⟨B22,O22,y22,ad22,hy22,oky22,ln22,cl22⟩:=Rd.atK (Nat.succ_pos _) (Rd.mq V7_0 (S11.trans S18)) k yq
  clear ln22
  obtain rfl:=Option.some.inj (hx1.symm.trans hy22)
  clear hy22 oky22
  refine zg fun _ F=>?_
  refine Jr F rfl rfl (fun _=>(JB (i:=k) ET_44 rfl ((F.ev 19 rfl).trans (by rw [ad22])) (F.g rfl) zO yq)) fun _ F=>?_
  refine J3e (v:=.string x1) F hS rfl rfl (fun _ hz=>(JD (cs:=[.string x1]) J0j rfl (F.g rfl) rfl (fun _=>rfl) (JN (f:=0) (cl22 _ hz.kp) [.string x1] rfl))) fun _ F=>?_
  obtain ⟨B28,O28,y28,ad28,hy28,oky28,ln28,cl28⟩:=Rd.atK (Nat.succ_pos _) (Rd.mq V7_0 (S11.trans S18)) k yq
  clear ln28
  obtain rfl:=Option.some.inj (hx1.symm.trans hy28)
  clear hy28 oky28
  refine zg fun _ F=>?_
  refine Jr F rfl rfl (fun _=>(JB (i:=k) ET_44 rfl ((F.ev 24 rfl).trans (by rw [ad28])) (F.g rfl) zO yq)) fun _ F=>?_
  refine J3e (v:=.string x1) F hS rfl rfl (fun _ hz=>(JD (cs:=[.string x1]) J0j rfl (F.g rfl) rfl (fun _=>rfl) (JN (f:=0) (cl28 _ hz.kp) [.string x1] rfl))) fun _ F=>?_
  refine J2 rfl rfl (zzs F S18.at' (J3N (s:=b) (key:=x1) (Rd.mq V_v_b (tc4 S2 S7 S11 S18)) okx1) ?_)
  rintro w31 S31 Q1 _ F
  refine nS (Sd.of S31 [] rfl) fun hS=>?_
  refine J2 rfl rfl (Jf (v:=.agg #[.string x1,.string (Jl b x1)]) F rfl rfl (J06 J2u rfl (lc (pr2 (F.g rfl)) (lc (pr2 (F.g rfl)) rfl)) rfl) rfl fun _ F=>?_)
  refine nS0 ?_
  refine J2 rfl rfl (zb1 (ok:=okC) F S31.at' ([(⟨x1,(Jl b x1)⟩:CellD)]) ET_28 (fun x hx=>(List.mem_singleton.1 hx) ▸ ⟨okx1,Q1⟩) fun b34 w34 _ S34 F=>?_)
  refine nS (Sd.of (S31.trans S34) [] rfl) fun hS=>?_
  refine J2 rfl rfl (Jv (news:=[(⟨x1,(Jl b x1)⟩:CellD)]) F S34.at' 1 ET_28 rfl rfl rfl rfl rfl rfl (F.g rfl) (F.g rfl) ((At.rd S34.at' ET_28.hk 0 rfl)).1 (by ((repeat (first|rw [List.length_append]|rw [List.length_cons]|rw [List.length_nil]|rw [List.length_take]|rw [List.length_drop])) <;> omega)) fun A36 N36 C36 _ w36 F S36 l36=>?_)
  have S38:=At.drop S36.at' 1
  refine nS (Sd.of (tc4 S31 S34 S36 S38) [] rfl) fun hS=>?_
  refine zg fun _ F=>?_
  refine zq F ((k+1:Nat):Int) fun _ F=>?_
  have T43:Mv _ _ [_] _:=S38
  exact ⟨k+1,zD,D++([(⟨x1,(Jl b x1)⟩:CellD)]),A36,N36,C36,F.cut rfl,((tc6 S11 S18 S31 S34 S36 T43).pick [0] rfl),zO,J5U (f:=J5P b) hk_1 hx1⟩
 refine zr fun _ F=>?_
 refine zd1 F ?_
 exact ⟨oa,on,oc,rfl,(Mv.cast (Mv.pick (tc3 S2 S7 S11) [0] rfl) (lc (zOw (by exact J5T hk_1 zO)) rfl))⟩
end
section
variable {w:World} {H:Nat→Prop}
set_option maxRecDepth 100000
set_option maxHeartbeats 1000000
theorem JcG {a:List CellD} {a_a:Option Addr} {a_n a_c:Nat} {b:List CellD} {b_a:Option Addr} {b_n b_c:Nat} (v_a:Rd 2 J6 okC H w (.slice a_a a_n a_c) a) (v_b:Rd 2 J6 okC H w (.slice b_a b_n b_c) b) (tab0:Tb 0 H w) (tab1:Tb 1 H w) (tab2:Tb 2 H w) (p0:a_n≤137438953472) (p1:b_n≤137438953472) :
 Calls prog 116 #[.slice a_a a_n a_c,.slice b_a b_n b_c] w fun e w'=>∃ (r0_a:Option Addr)(r0_n r0_c:Nat),e=.returned (.slice r0_a r0_n r0_c)∧Mv [] w [qS r0_a r0_n r0_c (J0Z a b)] w':=by
 have hT:=J3F tab0 tab1 tab2
 refine (Je8 hT v_a v_b p0 p1).mono ?_
 rintro e w' ⟨s,rfl,m,hs⟩
 exact ⟨s.a,s.n,s.c,rfl,by rw [← hs];exact m⟩
theorem JcR {a:List CellD} {a_a:Option Addr} {a_n a_c:Nat} {b:List CellD} {b_a:Option Addr} {b_n b_c:Nat} (v_a:Rd 2 J6 okC H w (.slice a_a a_n a_c) a) (v_b:Rd 2 J6 okC H w (.slice b_a b_n b_c) b) (tab0:Tb 0 H w) (tab1:Tb 1 H w) (tab2:Tb 2 H w) (p0:a_n≤137438953472) (p1:b_n≤137438953472) :
 Calls prog 67 #[.slice a_a a_n a_c,.slice b_a b_n b_c] w fun e w'=>∃ (r0_a:Option Addr)(r0_n r0_c:Nat),e=.returned (.slice r0_a r0_n r0_c)∧Mv [] w [qC r0_a r0_n r0_c (J3t a b)] w':=by
 have hdl:=J5d a b
 have V_v_a:=Rd.start v_a zN
 obtain ⟨ln_a,le_a,mx_a,ni_a⟩:=Rd.inv v_a
 have V_v_b:=Rd.start v_b zN
 obtain ⟨ln_b,le_b,mx_b,ni_b⟩:=Rd.inv v_b
 have V_tab0:=Tb.start tab0 zN
 have V_tab1:=Tb.start tab1 zN
 have V_tab2:=Tb.start tab2 zN
 refine ze fun _ F=>?_
 refine zz F (JcG (a:=a) (b:=b) V_v_a V_v_b V_tab0 V_tab1 V_tab2 yb yb) ?_
 rintro _ w5 ⟨Q1,Q0,Q2,rfl,m5⟩
 refine zt fun _ F=>?_
 have S5:Mv _ _ [_] _:=At.frame (At.nil w) [] rfl m5
 obtain ⟨Q4,Q5,Q6⟩:=At.ownInv S5.at' ET_44.hk 0 rfl
 have S10:Mv [qS Q1 Q0 Q2 (J0Z a b)] w5 [qC none 0 0 ([]:List CellD),qS Q1 Q0 Q2 (J0Z a b)] w5:=J2O S5.at'
 refine JH S10.at' (fun lZ (k:Nat) aZ wZ=>∃ (D:List CellD)(oa:Option Addr)(on oc:Nat),Fr 26 [(12,nV k),(11,nV Q0),(10,.slice Q1 Q0 Q2),(5,.slice oa on oc),(1,.slice b_a b_n b_c)] aZ∧Mv lZ w5 (lZ.set 0 (qC oa on oc D)) wZ∧(k≤(J0Z a b).length)∧(D=((J0Z a b).take k).map (J5P b))) (fun (k:Nat)=>(J0Z a b).length - k) (0) ?_ ?_
 ·exact ⟨([]:List CellD),none,0,0,F.cut rfl,(Mv.refl S10.at'),zO,by rw [List.take_zero];rfl⟩
 rintro k a9 w9 ⟨D,oa,on,oc,F,S9,hk_0,hk_1⟩
 have S9:Mv _ _ [_,_] _:=S9
 have hDl:D.length≤k:=by rw [hk_1,List.length_map,List.length_take];omega
 refine zr fun _ F=>?_
 refine zc F (k < Q0) fun _ F=>?_
 refine zi F (fun h12=>?_) fun h12=>?_
 ·refine zr fun _ F=>?_
  obtain ⟨B13,O13,x1,ad13,hx1,okx1,ln13,cl13⟩:=Rd.at (At.rd S9.at' ET_44.hk 1 rfl) k yq
  clear ln13
  refine zv F (JB (i:=k) ET_44 rfl ((F.ev 10 rfl).trans (by rw [ad13])) (F.g rfl) zO yq) fun _ F=>?_
  refine zv (v:=.string x1) F (JD (cs:=[.string x1]) J0j rfl (F.g rfl) rfl (fun _=>rfl) (JN (f:=0) cl13 [.string x1] rfl)) fun _ F=>?_
  refine zzq F S9.at' (J8i (s:=b) (key:=x1) (Rd.mq V_v_b (tc3 S5 S10 S9)) okx1) ?_
  rintro w21 S21 Q3 _ F
  refine zv (v:=.agg #[.string x1,.string (Jl b x1)]) F (J06 J2u rfl (lc (pr2 (F.g rfl)) (lc (pr2 (F.g rfl)) rfl)) rfl) fun _ F=>?_
  refine zbs (ok:=okC) F S21.at' ([(⟨x1,(Jl b x1)⟩:CellD)]) ET_28 (fun x hx=>(List.mem_singleton.1 hx) ▸ ⟨okx1,Q3⟩) fun b24 w24 S24 _ F=>?_
  refine J0 (Jv (news:=[(⟨x1,(Jl b x1)⟩:CellD)]) F S24.at' 1 ET_28 rfl rfl rfl rfl rfl rfl (F.g rfl) (F.g rfl) ((At.rd S24.at' ET_28.hk 0 rfl)).1 (by ((repeat (first|rw [List.length_append]|rw [List.length_cons]|rw [List.length_nil]|rw [List.length_take]|rw [List.length_drop])) <;> omega)) fun A26 N26 C26 _ w26 F S26 l26=>?_)
  have S28:=At.drop S26.at' 1
  refine zr fun _ F=>?_
  have T30:Mv _ _ [_,_] _:=S28
  refine zq F ((k+1:Nat):Int) fun _ F=>?_
  exact ⟨k+1,zD,D++([(⟨x1,(Jl b x1)⟩:CellD)]),A26,N26,C26,F.cut rfl,((tc5 S9 S21 S24 S26 T30).pick [0,1] rfl),zO,J5U (f:=J5P b) hk_1 hx1⟩
 refine zr fun _ F=>?_
 refine zd1 F ?_
 exact ⟨oa,on,oc,rfl,(Mv.cast (Mv.pick (tc3 S5 S10 S9) [0] rfl) (lc (zOw (by exact J5T hk_1 zO)) rfl))⟩
theorem Jcp {list:List CellD} {Q0:Option Addr} {Q2 Q1:Nat} (Q3:Rd 2 J6 okC H w (.slice Q0 Q2 Q1) list) (tab0:Tb 0 H w) (p0:list.length≤4294967280) :
 Calls prog 66 #[.slice Q0 Q2 Q1] w fun e w'=>e=.returned (iV (((J0z 100000 list).size:Nat):Int))∧Mv [] w [] w':=by
 have V_v_list:=Rd.start Q3 zN
 obtain ⟨Q5,Q4,Q6,Q7⟩:=Rd.inv Q3
 have V_tab0:=Tb.start tab0 zN
 refine ze fun _ F=>?_
 refine zzq F (At.nil w) (Jcq (seq:=100000) (list:=list) yg V_v_list V_tab0 yb) ?_
 rintro w3 S3 Q8 _ F
 refine zd1 F ?_
 exact ⟨rfl,(Mv.pick S3 [] rfl)⟩
theorem Jcu {list:List CellD} {Q0:Option Addr} {Q2 Q1:Nat} (Q3:Rd 2 J6 okC H w (.slice Q0 Q2 Q1) list) (p0:list.length≤4294967280) :
 Calls prog 58 #[.slice Q0 Q2 Q1] w fun e w'=>e=.returned (iV (((J0z 100000 list).size:Nat):Int))∧Mv [] w [] w':=by
 have V_v_list:=Rd.start Q3 zN
 obtain ⟨Q5,Q4,Q6,Q7⟩:=Rd.inv Q3
 refine ze fun _ F=>?_
 refine zzq F (At.nil w) (J4T (seq:=100000) (list:=list) yg V_v_list yb) ?_
 rintro w3 S3 Q8 _ F
 refine zd1 F ?_
 exact ⟨rfl,(Mv.pick S3 [] rfl)⟩
end
end Go.Proofs.YtipdbeklopjbmaaGreatDoor
