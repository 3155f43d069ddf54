/-
  Texts laid together: FactsM, MN, GenY, GenT, GenU, GenV, GenW, GenZ, GenTa, GenTb, GenTd, MO, ME.
-/
import Derived.Test.YtipdbeklopjbmaaGreatDoorP04
import Derived.Test.YtipdbeklopjbmaaGreatDoorP16
import Derived.Test.YtipdbeklopjbmaaGreatDoorP03
import Derived.Test.YtipdbeklopjbmaaGreatDoorKaH
import Derived.Test.YtipdbeklopjbmaaGreatDoorP10
import Derived.Test.YtipdbeklopjbmaaGreatDoorP06
import Derived.Test.YtipdbeklopjbmaaGreatDoorP12
import Derived.Test.YtipdbeklopjbmaaGreatDoorGenE
import Derived.Test.YtipdbeklopjbmaaGreatDoorMB
import Derived.Maps.RangeWalk
import Derived.StringKeys
import Derived.Maps.OwnSet
import Derived.Sort.KeysCollected
set_option linter.unusedVariables false
set_option linter.unusedSimpArgs false
namespace Go.Proofs.YtipdbeklopjbmaaGreatDoor
open Go.ChangeShapes Go.WideShapes Go.ChangeAt Go.RowKit
theorem BI_191:BI Tryz.prog 191 [(0,1),(1,6)] [.int .i64 0,.int .i64 0,.string (⟨#[]⟩:ByteArray),.string (⟨#[]⟩:ByteArray),.int .i64 0,.int .i64 0,.string (⟨#[]⟩:ByteArray)]:=bi_mk2 Tryz.underlying191 (zv:=.agg #[.int .i64 0,.int .i64 0,.string (⟨#[]⟩:ByteArray),.string (⟨#[]⟩:ByteArray),.int .i64 0,.int .i64 0,.string (⟨#[]⟩:ByteArray)]) (by kernel_rfl) rfl (by kernel_rfl)
theorem CF_108:CF Tryz.prog 108:=⟨⟨_,_,Tryz.func108,rfl,by kernel_rfl⟩⟩
instance : CFc Tryz.prog 108:=⟨CF_108⟩
theorem CF_110:CF Tryz.prog 110:=⟨⟨_,_,Tryz.func110,rfl,by kernel_rfl⟩⟩
instance : CFc Tryz.prog 110:=⟨CF_110⟩
theorem CF_111:CF Tryz.prog 111:=⟨⟨_,_,Tryz.func111,rfl,by kernel_rfl⟩⟩
instance : CFc Tryz.prog 111:=⟨CF_111⟩
theorem CF_116:CF Tryz.prog 116:=⟨⟨_,_,Tryz.func116,rfl,by kernel_rfl⟩⟩
instance : CFc Tryz.prog 116:=⟨CF_116⟩
theorem CF_118:CF Tryz.prog 118:=⟨⟨_,_,Tryz.func118,rfl,by kernel_rfl⟩⟩
instance : CFc Tryz.prog 118:=⟨CF_118⟩
theorem CF_119:CF Tryz.prog 119:=⟨⟨_,_,Tryz.func119,rfl,by kernel_rfl⟩⟩
instance : CFc Tryz.prog 119:=⟨CF_119⟩
theorem CF_16:CF Tryz.prog 16:=⟨⟨_,_,Tryz.func16,rfl,by kernel_rfl⟩⟩
instance : CFc Tryz.prog 16:=⟨CF_16⟩
theorem CF_17:CF Tryz.prog 17:=⟨⟨_,_,Tryz.func17,rfl,by kernel_rfl⟩⟩
instance : CFc Tryz.prog 17:=⟨CF_17⟩
theorem CF_19:CF Tryz.prog 19:=⟨⟨_,_,Tryz.func19,rfl,by kernel_rfl⟩⟩
instance : CFc Tryz.prog 19:=⟨CF_19⟩
theorem CF_20:CF Tryz.prog 20:=⟨⟨_,_,Tryz.func20,rfl,by kernel_rfl⟩⟩
instance : CFc Tryz.prog 20:=⟨CF_20⟩
theorem CF_21:CF Tryz.prog 21:=⟨⟨_,_,Tryz.func21,rfl,by kernel_rfl⟩⟩
instance : CFc Tryz.prog 21:=⟨CF_21⟩
theorem CF_58:CF Tryz.prog 58:=⟨⟨_,_,Tryz.func58,rfl,by kernel_rfl⟩⟩
instance : CFc Tryz.prog 58:=⟨CF_58⟩
theorem CF_59:CF Tryz.prog 59:=⟨⟨_,_,Tryz.func59,rfl,by kernel_rfl⟩⟩
instance : CFc Tryz.prog 59:=⟨CF_59⟩
theorem CF_60:CF Tryz.prog 60:=⟨⟨_,_,Tryz.func60,rfl,by kernel_rfl⟩⟩
instance : CFc Tryz.prog 60:=⟨CF_60⟩
theorem CF_66:CF Tryz.prog 66:=⟨⟨_,_,Tryz.func66,rfl,by kernel_rfl⟩⟩
instance : CFc Tryz.prog 66:=⟨CF_66⟩
theorem CF_67:CF Tryz.prog 67:=⟨⟨_,_,Tryz.func67,rfl,by kernel_rfl⟩⟩
instance : CFc Tryz.prog 67:=⟨CF_67⟩
theorem CF_68:CF Tryz.prog 68:=⟨⟨_,_,Tryz.func68,rfl,by kernel_rfl⟩⟩
instance : CFc Tryz.prog 68:=⟨CF_68⟩
theorem ET_151:ElemT Tryz.prog 151 191 (.agg #[.int .i64 0,.int .i64 0,.string ⟨#[]⟩,.string ⟨#[]⟩,.int .i64 0,.int .i64 0,.string ⟨#[]⟩]) 7 80 encStep:={ ht:=Tryz.underlying151,hT:={ info:=by kernel_rfl,zs:=rfl,pos:=by decide },hk:=fun _=>rfl,h1:=by intro x u hu;simp [encStep] at hu;rcases hu with rfl|rfl|rfl|rfl|rfl|rfl|rfl <;> rfl,by0:=by decide }
instance : RTc Tryz.prog 111 Tryz.f111 25:=⟨Tryz.func111,Tryz.ntmps111⟩
instance : RTc Tryz.prog 119 Tryz.f119 22:=⟨Tryz.func119,Tryz.ntmps119⟩
instance : RTc Tryz.prog 17 Tryz.f17 11:=⟨Tryz.func17,Tryz.ntmps17⟩
instance : RTc Tryz.prog 20 Tryz.f20 11:=⟨Tryz.func20,Tryz.ntmps20⟩
instance : RTc Tryz.prog 4 Tryz.f4 45:=⟨Tryz.func4,Tryz.ntmps4⟩
instance : RTc Tryz.prog 58 Tryz.f58 6:=⟨Tryz.func58,Tryz.ntmps58⟩
instance : RTc Tryz.prog 59 Tryz.f59 33:=⟨Tryz.func59,Tryz.ntmps59⟩
instance : RTc Tryz.prog 60 Tryz.f60 17:=⟨Tryz.func60,Tryz.ntmps60⟩
instance : RTc Tryz.prog 66 Tryz.f66 6:=⟨Tryz.func66,Tryz.ntmps66⟩
instance : RTc Tryz.prog 67 Tryz.f67 26:=⟨Tryz.func67,Tryz.ntmps67⟩
instance : RTc Tryz.prog 68 Tryz.f68 15:=⟨Tryz.func68,Tryz.ntmps68⟩
theorem TI_49:TI Tryz.prog 49 true 10:=ti_mk Tryz.underlying49 rfl (by kernel_rfl)
instance : TIc Tryz.prog 49 true 10:=⟨TI_49⟩
theorem TI_step:TI Tryz.prog 191 true 7:=ti_mk Tryz.underlying191 rfl (by kernel_rfl)
instance iMN1:TIc Tryz.prog 191 true 7:=⟨TI_step⟩
theorem ZI_step:ZI Tryz.prog 191 (.agg #[.int .i64 0,.int .i64 0,.string (⟨#[]⟩:ByteArray),.string (⟨#[]⟩:ByteArray),.int .i64 0,.int .i64 0,.string (⟨#[]⟩:ByteArray)]):=zi_mk (by kernel_rfl)
theorem FI_step0:FI Tryz.prog 191 0 0:=fi_mk Tryz.underlying191 rfl rfl (k:=0) (by kernel_rfl)
instance iMN2:FIc Tryz.prog 191 0 0:=⟨FI_step0⟩
theorem FI_step1:FI Tryz.prog 191 1 1:=fi_mk Tryz.underlying191 rfl rfl (k:=5) (by kernel_rfl)
instance iMN3:FIc Tryz.prog 191 1 1:=⟨FI_step1⟩
instance iMN4:RTc Tryz.prog 161 Tryz.f161 25:=⟨Tryz.func161,Tryz.ntmps161⟩
instance iMN5:UTc Tryz.prog 151 (.slice 191):=⟨Tryz.underlying151⟩
theorem nth_mapS {α β:Type} {f:α→β} {l:List α} {k:Nat} {y:β} (h:nth (l.map f) k=some y):∃ x,nth l k=some x∧y=f x:=by
 rw [nth_eq,List.getElem?_map] at h
 rw [nth_eq]
 cases e:l[k]? with
 | none=>rw [e] at h;cases h
 | some x=>rw [e] at h;cases h;exact ⟨x,rfl,rfl⟩
set_option maxRecDepth 100000 in
set_option maxHeartbeats 8000000 in
theorem run_k {X:Uni} {w:World} {b u:Nat} {v:MV} {D:List CellD} {H:Nat→Prop} {cs:List CallD} {ad:Option Addr} {q c:Nat} (hA:AT w [mB X b v D u]) (hs:Rd 7 encStep okStep H w (.slice ad q c) (cs.map (stepD X.P))) (hH:∀ z,H z→¬ mfp b v z) (hq:q≤1048576) (hu:u+330 * q≤68718428160) (hi64:i64ok X.P) :
 Calls Tryz.prog 161 #[.pointer (some ⟨b,0,none⟩),.slice ad q c] w (PIL X b v D u w 155 3 encR okR (fun _=>True) (runS D X.P cs) (u+330 * q)):=by
 have hn:q=cs.length:=by have:=hs.inv.1;rwa [List.length_map] at this
 have M:=St.start hA
 refine zE (f:=161) fun _ F=>?_
 have M:=M.then (mv_nilO (e:=155) (k:=3) (enc:=encR) (ok:=okR) M.at')
 have F:=F.cut (m':=[(10,_),(5,_),(0,_),(8,_),(9,_)]) rfl
 refine kLoop (γ:=(Nat × GL AnsD) × MV) (slots:=fun g=>[(10,.int .i64 ((g.1.1:Nat):Int)),(5,g.1.2.val)]) (LL:=fun g=>[owG 155 3 encR okR g.1.2,mB X b g.2 (runS D X.P (cs.take g.1.1)) (u+330 * g.1.1)]) (pr:=fun g=>g.1.1≤q∧g.1.2.l.length≤g.1.1) (g0:=((0,⟨_,_,_,_⟩),v)) (fun g=>q - g.1.1) F M ⟨Nat.zero_le _,Nat.zero_le _⟩ fun g a w F M hp=>?_
 refine zr2 fun _ F=>?_
 refine zi F (fun h1=>?_) fun h1=>?_
 ·refine zr2 fun _ F=>?_
  have hl':=(Rd.start (L:=[mB X b v D u]) hs fun z hz=>by rw [fps_one];exact hH z hz).mq M.mv
  refine kElG TI_step F hl'.1 ET_151 g.1.1 (fun x=>.agg #[.int .i64 x.proc,.int .i64 x.call.kind,.string x.call.name,.string x.call.to_,.int .i64 x.call.a,.int .i64 x.call.b,.string x.call.text]) (by omega) (kk:=fun x _ hx ok=>?_)
  obtain ⟨c,hc,rfl⟩:=nth_mapS hx
  have hok:okK c:=ok.2
  refine zk fun _ F=>?_
  refine l_op (kAlI F M ZI_step [_,_,_,_,_,_,_] (k:=fun b2 w M=>zk fun _ F=>?_))
  refine l_op (kWI F M 0 [_,_,_,_,_,_,_] [_,_,_] (k:=fun w M=>zk fun _ F=>?_))
  have M:=M.pick [2,0,1] [_,_,_]
  refine l_op (kI F M (hc:=doAll_k (c:=c) M.hd) (k:=fun v s w q M=>zk fun _ F=>?_))
  refine kPushG (ok:=okR) F M.at' 2 (⟨s.1,s.2.1,s.2.2⟩:AnsD) ET_55 (hx:=⟨q.1,q.2.1,q.2.2⟩) (kk:=fun B N C _ w l m _ F=>?_)
  have M:=M.then m
  refine zr2 fun _ F=>?_
  have M:=M.pick [0,1] [_,_]
  exact lend ((g.1.1+1,⟨B,N,C,g.1.2.l++[⟨s.1,s.2.1,s.2.2⟩]⟩),v) (by dsimp only;omega) ⟨F.cut rfl,M.cast (by rw [runS_step hc,show u+330 * g.1.1+330=u+330 * (g.1.1+1) by omega]),⟨by dsimp only;omega,by simp only [List.length_append,List.length_singleton];omega⟩⟩
 ·refine zr2 fun _ F=>?_
  refine x_done F (results_1 rfl (zta F)) ?_
  have e:cs.take g.1.1=cs:=List.take_of_length_le (by omega)
  exact zfIL (s:=g.1.2) M trivial (by rw [e]) (by omega)
set_option maxRecDepth 100000
set_option maxHeartbeats 1000000
set_option maxRecDepth 100000
set_option maxHeartbeats 1000000
set_option maxRecDepth 100000
set_option maxHeartbeats 1000000
set_option maxRecDepth 100000
set_option maxHeartbeats 1000000
theorem spec_MachOf_c {w:World} {H:Nat→Prop} {s:List CellD} {s_a:Option Addr} {s_n s_c:Nat} (v_s:Rd 2 encC okC H w (.slice s_a s_n s_c) s) (p0:s_n≤274877906944) :
 Calls Tryz.prog 179 #[.slice s_a s_n s_c] w fun e w'=>∃ (Q3:Option Addr),∃ (Q5:Nat),∃ (Q4:Nat),∃ (Q0:Option Addr),∃ (Q2:Nat),∃ (Q1:Nat),∃ (Q6:Option Addr),∃ (Q8:Nat),∃ (Q7:Nat),e=.returned (.agg #[.slice Q3 Q5 Q4,.slice Q0 Q2 Q1,.slice Q6 Q8 Q7])∧Mv [] w [] w'∧Rd 2 encC okC (Fsh H w) w' (.slice Q3 Q5 Q4) s∧Rd 1 encS okS (Fsh H w) w' (.slice Q0 Q2 Q1) ([])∧Rd 1 encS okS (Fsh H w) w' (.slice Q6 Q8 Q7) ([]):=by
 have V_v_s:=Rd.start v_s zN
 obtain ⟨ln_s,le_s,mx_s,ni_s⟩:=Rd.inv v_s
 refine ze fun _ F=>?_
 refine l_op (f_alloc F (At.nil w) ZI_210 rfl rfl rfl rfl rfl fun b1 _ w1 F S1=>?_)
 refine zr fun _ F=>?_
 refine l_op (f_buildSl (ok:=okC) (vs:=[]) F S1.at' (([]:List CellD)) ET_28 rfl rfl rfl rfl rfl rfl rfl rfl rfl (by simp) fun b3 _ w3 F S3=>?_)
 refine zr fun _ F=>?_
 refine l_op (f_app (news:=s) F S3.at' 0 ET_28 rfl rfl rfl rfl rfl rfl (F.g rfl) (F.g rfl) ((Rd.mq V_v_s (S1.trans S3))).1 zI9 fun A6 N6 C6 _ w6 F S6 l6=>?_)
 refine zv (v:=.agg #[.slice A6 N6 C6,.slice none 0 0,.slice none 0 0]) F (r_build BI_210 rfl (lc (pr2 (F.g rfl)) rfl) rfl) fun _ F=>?_
 refine l_op (s_store S6.at' 1 TI_210 rfl rfl rfl rfl rfl (F.g rfl) (F.g rfl) rfl rfl rfl rfl rfl fun w9 S9=>?_)
 have T10:Mv _ _ [bx _ [_,_,_] _,_] _:=S9
 refine zr fun _ F=>?_
 have Z11:Rd 2 encC okC (V H w [bx b1 [.slice A6 N6 C6,.slice none 0 0,.slice none 0 0] 210]) w9 (.slice A6 N6 C6) (([]:List CellD)++s):=At.freeze (S1.trans (S3.trans (S6.trans T10))) ET_28.hk 1 rfl (fun b hb=>((S1.trans (S3.trans (S6.trans T10))).fresh b ⟨_,nth_mem (i:=1) rfl,hb⟩).resolve_left (fps_nil _))
 have S11:=At.drop T10.at' 1
 refine x_done F (results_1 rfl (zca F T10.at' 0)) ?_
 exact ⟨A6,N6,C6,none,0,0,none,0,0,rfl,(Mv.pick (S1.trans (S3.trans (S6.trans (T10.trans S11)))) [] rfl),(Rd.cast (Rd.give Z11) (by rfl)),Rd.nil,Rd.nil⟩
set_option maxRecDepth 100000
set_option maxHeartbeats 1000000
set_option maxRecDepth 100000
set_option maxHeartbeats 1000000
set_option maxRecDepth 100000
set_option maxHeartbeats 1000000
set_option maxRecDepth 100000
set_option maxHeartbeats 1000000
set_option maxRecDepth 100000
set_option maxHeartbeats 1000000
theorem impl_MachOf_c {w:World} {H:Nat→Prop} {s:List CellD} {s_a:Option Addr} {s_n s_c:Nat} (v_s:Rd 2 encC okC H w (.slice s_a s_n s_c) s) (p0:s_n≤1099511627776) :
 Calls Tryz.prog 160 #[.slice s_a s_n s_c] w fun e w'=>∃ (Q6:Option Addr),∃ (Q8:Nat),∃ (Q7:Nat),∃ (Q3:Option Addr),∃ (Q5:Nat),∃ (Q4:Nat),∃ (Q9:Option Addr),∃ (Q11:Nat),∃ (Q10:Nat),e=.returned (.agg #[.slice Q6 Q8 Q7,.slice Q3 Q5 Q4,.slice Q9 Q11 Q10])∧Mv [] w [ow 91 2 encC okC (.slice Q6 Q8 Q7) s,ow 9 1 encS okS (.slice Q3 Q5 Q4) ([]),ow 9 1 encS okS (.slice Q9 Q11 Q10) ([])] w':=by
 have V_v_s:=Rd.start v_s zN
 obtain ⟨ln_s,le_s,mx_s,ni_s⟩:=Rd.inv v_s
 refine ze fun _ F=>?_
 refine l_op (f_alloc F (At.nil w) ZI_210 rfl rfl rfl rfl rfl fun b1 _ w1 F S1=>?_)
 refine zr fun _ F=>?_
 refine zz F (slices_Clone_Simpl_Cell_impl_Cell_c (s:=s) (Rd.mq V_v_s S1) zI8) ?_
 rintro _ w4 ⟨Q0,Q2,Q1,rfl,m4⟩
 refine zt fun _ F=>?_
 have S4:Mv _ _ [_,bx _ [_,_,_] _] _:=At.frame S1.at' [] rfl m4
 obtain ⟨Q12,Q13,Q14⟩:=At.ownInv S4.at' ET_28.hk 0 rfl
 clear m4
 refine zv (v:=.agg #[.slice Q0 Q2 Q1,.slice none 0 0,.slice none 0 0]) F (r_build BI_210 rfl (lc (pr2 (F.g rfl)) rfl) rfl) fun _ F=>?_
 refine l_op (s_store S4.at' 1 TI_210 rfl rfl rfl rfl rfl (F.g rfl) (F.g rfl) rfl rfl rfl rfl rfl fun w7 S7=>?_)
 refine zr fun _ F=>?_
 have S8:Mv [bx b1 [.slice Q0 Q2 Q1,.slice none 0 0,.slice none 0 0] 210,ow 91 2 encC okC (.slice Q0 Q2 Q1) s] w7 [ow 9 1 encS okS (.slice none 0 0) ([]:List ByteArray),bx b1 [.slice Q0 Q2 Q1,.slice none 0 0,.slice none 0 0] 210,ow 91 2 encC okC (.slice Q0 Q2 Q1) s] w7:=mv_nil S7.at'
 have S9:Mv [ow 9 1 encS okS (.slice none 0 0) ([]:List ByteArray),bx b1 [.slice Q0 Q2 Q1,.slice none 0 0,.slice none 0 0] 210,ow 91 2 encC okC (.slice Q0 Q2 Q1) s] w7 [ow 9 1 encS okS (.slice none 0 0) ([]:List ByteArray),ow 9 1 encS okS (.slice none 0 0) ([]:List ByteArray),bx b1 [.slice Q0 Q2 Q1,.slice none 0 0,.slice none 0 0] 210,ow 91 2 encC okC (.slice Q0 Q2 Q1) s] w7:=mv_nil S8.at'
 refine x_done F (results_1 rfl (zca F S7.at' 0)) ?_
 exact ⟨Q0,Q2,Q1,none,0,0,none,0,0,rfl,(Mv.cast (Mv.pick (S1.trans (S4.trans (S7.trans (S8.trans S9)))) [3,1,0] rfl) rfl)⟩
theorem spec_DiffKeys_c {w:World} {H:Nat→Prop} {a:List CellD} {a_a:Option Addr} {a_n a_c:Nat} {b:List CellD} {b_a:Option Addr} {b_n b_c:Nat} (v_a:Rd 2 encC okC H w (.slice a_a a_n a_c) a) (v_b:Rd 2 encC okC H w (.slice b_a b_n b_c) b) (p0:a_n≤137438953472) (p1:b_n≤137438953472) :
 Calls Tryz.prog 108 #[.slice a_a a_n a_c,.slice b_a b_n b_c] w fun e w'=>∃ (r0_a:Option Addr),∃ (r0_n:Nat),∃ (r0_c:Nat),e=.returned (.slice r0_a r0_n r0_c)∧Mv [] w [] w'∧Rd 1 encS okS (Fsh H w) w' (.slice r0_a r0_n r0_c) (diffL a b):=by
 have V_v_a:=Rd.start v_a zN
 obtain ⟨ln_a,le_a,mx_a,ni_a⟩:=Rd.inv v_a
 have V_v_b:=Rd.start v_b zN
 obtain ⟨ln_b,le_b,mx_b,ni_b⟩:=Rd.inv v_b
 refine ze fun _ F=>?_
 refine l_op (f_buildSl (ok:=okS) (vs:=[]) F (At.nil w) (([]:List ByteArray)) ET_44 rfl rfl rfl rfl rfl rfl rfl rfl rfl (by simp) fun b2 _ w2 F S2=>?_)
 refine zr fun _ F=>?_
 have Z7:Rd 1 encS okS (V H w []) w2 (.slice (some ⟨b2,0,none⟩) 0 0) ([]:List ByteArray):=At.freeze S2 ET_44.hk 0 rfl (fun b hb=>(S2.fresh b ⟨_,nth_mem (i:=0) rfl,hb⟩).resolve_left (fps_nil _))
 have S7:=At.drop S2.at' 0
 refine x_lp (fun (k:Nat) aZ wZ=>∃ (oa:Option Addr),∃ (on:Nat),∃ (oc:Nat),Fr 46 [(6,.int .i64 ((k:Nat):Int)),(5,.slice oa on oc),(0,.slice a_a a_n a_c),(1,.slice b_a b_n b_c)] aZ∧Mv [] w2 [] wZ∧Rd 1 encS okS (V H w []) wZ (.slice oa on oc) (diffK a b k)∧(k≤a_n+b_n)) (fun (k:Nat)=>a_n+b_n - k) (0) ?_ ?_
 ·exact ⟨(some ⟨b2,0,none⟩),0,0,F.cut rfl,(Mv.refl S7.at'),Z7,by omega⟩
 ·rintro k a6 w6 ⟨oa,on,oc,F,S6,W6_0,hk_0⟩
  obtain ⟨lv6_0,lw6_0,lx6_0,ly6_0⟩:=Rd.inv W6_0
  have dl:=diffK_length a b k
  refine zr fun _ F=>?_
  refine zq F ((a_n+b_n:Nat):Int) fun _ F=>?_
  refine zc F (k < a_n+b_n) fun _ F=>?_
  refine zi F (fun h15=>?_) fun h15=>?_
  ·refine zr fun _ F=>?_
   refine zc F (k < a_n) fun _ F=>?_
   refine zi F (fun h21=>?_) fun h21=>?_
   ·refine zr fun _ F=>?_
    obtain ⟨B24,O24,x1,ad24,hx1,okx1,ln24,cl24⟩:=Rd.at (Rd.mq V_v_a (S2.trans (S7.trans S6))) k zIa
    clear ln24
    refine zv F (r_indexAddr (i:=k) ET_28 rfl ((F.ev 22 rfl).trans (by rw [ad24])) (F.g rfl) (by omega) zIa) fun _ F=>?_
    refine zv (v:=.string x1.key) F (r_load (cs:=[.string x1.key]) TI_9 rfl (F.g rfl) rfl (fun _=>rfl) (elem_sub (f:=0) cl24 [.string x1.key] rfl)) fun _ F=>?_
    refine zz F (spec_GetKey_c (s:=a) (key:=x1.key) (Rd.mq V_v_a (S2.trans (S7.trans S6))) okx1.1) ?_
    rintro _ w31 ⟨rfl,m31,Q6⟩
    refine zt fun _ F=>?_
    have S31:=At.frame0 S6.at' m31
    clear m31
    refine zz F (spec_GetKey_c (s:=b) (key:=x1.key) (Rd.mq V_v_b (S2.trans (S7.trans (S6.trans S31)))) okx1.1) ?_
    rintro _ w35 ⟨rfl,m35,Q7⟩
    refine zt fun _ F=>?_
    have S35:=At.frame0 S31.at' m35
    clear m35
    refine zv F (r_cmps (b:=(decide ((getKey a x1.key)≠(getKey b x1.key)))) (.inr (.inl rfl)) rfl (F.g rfl) (F.g rfl) rfl) fun _ F=>?_
    have T38:Mv _ _ [] _:=S35
    refine zi F (fun h39=>?_) fun h39=>?_
    ·refine zr fun _ F=>?_
     refine zz F (spec_l02Put_c (list:=diffK a b k) (x:=x1.key) (Rd.mq W6_0 (S31.trans T38)) okx1.1 zI8) ?_
     rintro _ w42 ⟨Q0,Q4,Q2,rfl,m42,v42_0⟩
     refine zt fun _ F=>?_
     have S42:=At.frame0 T38.at' m42
     have V42_0:=Rd.got0 T38.at' ((S2.trans (S7.trans (S6.trans (S31.trans T38)))).kp.size) v42_0 S42
     obtain ⟨ln42_0,le42_0,mx42_0,ni42_0⟩:=Rd.inv V42_0
     clear m42 v42_0
     refine zq F ((k+1:Nat):Int) fun _ F=>?_
     exact ⟨k+1,zD,Q0,Q4,Q2,F.cut rfl,((S6.trans (S31.trans (T38.trans S42))).pick [] rfl),(Rd.cast V42_0 (by first|exact diff_t (nth_left hx1) ‹_›|exact diff_f (nth_left hx1) ‹_›|exact diff_t (nth_right ln_a ‹_› hx1) ‹_›|exact diff_f (nth_right ln_a ‹_› hx1) ‹_›)),by omega⟩
    ·refine zr fun _ F=>?_
     refine zq F ((k+1:Nat):Int) fun _ F=>?_
     exact ⟨k+1,zD,oa,on,oc,F.cut rfl,((S6.trans (S31.trans T38)).pick [] rfl),(Rd.cast (Rd.mq W6_0 (S31.trans T38)) (by first|exact diff_t (nth_left hx1) ‹_›|exact diff_f (nth_left hx1) ‹_›|exact diff_t (nth_right ln_a ‹_› hx1) ‹_›|exact diff_f (nth_right ln_a ‹_› hx1) ‹_›)),by omega⟩
   ·refine zr fun _ F=>?_
    refine zq F ((k - a_n:Nat):Int) fun _ F=>?_
    obtain ⟨B56,O56,x1,ad56,hx1,okx1,ln56,cl56⟩:=Rd.at (Rd.mq V_v_b (S2.trans (S7.trans S6))) (k - a_n) zIa
    clear ln56
    refine zv F (r_indexAddr (i:=k - a_n) ET_28 rfl ((F.ev 27 rfl).trans (by rw [ad56])) (F.g rfl) (by omega) zIa) fun _ F=>?_
    refine zv (v:=.string x1.key) F (r_load (cs:=[.string x1.key]) TI_9 rfl (F.g rfl) rfl (fun _=>rfl) (elem_sub (f:=0) cl56 [.string x1.key] rfl)) fun _ F=>?_
    refine zz F (spec_GetKey_c (s:=a) (key:=x1.key) (Rd.mq V_v_a (S2.trans (S7.trans S6))) okx1.1) ?_
    rintro _ w63 ⟨rfl,m63,Q8⟩
    refine zt fun _ F=>?_
    have S63:=At.frame0 S6.at' m63
    clear m63
    refine zz F (spec_GetKey_c (s:=b) (key:=x1.key) (Rd.mq V_v_b (S2.trans (S7.trans (S6.trans S63)))) okx1.1) ?_
    rintro _ w67 ⟨rfl,m67,Q9⟩
    refine zt fun _ F=>?_
    have S67:=At.frame0 S63.at' m67
    clear m67
    refine zv F (r_cmps (b:=(decide ((getKey a x1.key)≠(getKey b x1.key)))) (.inr (.inl rfl)) rfl (F.g rfl) (F.g rfl) rfl) fun _ F=>?_
    have T70:Mv _ _ [] _:=S67
    refine zi F (fun h71=>?_) fun h71=>?_
    ·refine zr fun _ F=>?_
     refine zz F (spec_l02Put_c (list:=diffK a b k) (x:=x1.key) (Rd.mq W6_0 (S63.trans T70)) okx1.1 zI8) ?_
     rintro _ w74 ⟨Q1,Q5,Q3,rfl,m74,v74_0⟩
     refine zt fun _ F=>?_
     have S74:=At.frame0 T70.at' m74
     have V74_0:=Rd.got0 T70.at' ((S2.trans (S7.trans (S6.trans (S63.trans T70)))).kp.size) v74_0 S74
     obtain ⟨ln74_0,le74_0,mx74_0,ni74_0⟩:=Rd.inv V74_0
     clear m74 v74_0
     refine zq F ((k+1:Nat):Int) fun _ F=>?_
     exact ⟨k+1,zD,Q1,Q5,Q3,F.cut rfl,((S6.trans (S63.trans (T70.trans S74))).pick [] rfl),(Rd.cast V74_0 (by first|exact diff_t (nth_left hx1) ‹_›|exact diff_f (nth_left hx1) ‹_›|exact diff_t (nth_right ln_a ‹_› hx1) ‹_›|exact diff_f (nth_right ln_a ‹_› hx1) ‹_›)),by omega⟩
    ·refine zr fun _ F=>?_
     refine zq F ((k+1:Nat):Int) fun _ F=>?_
     exact ⟨k+1,zD,oa,on,oc,F.cut rfl,((S6.trans (S63.trans T70)).pick [] rfl),(Rd.cast (Rd.mq W6_0 (S63.trans T70)) (by first|exact diff_t (nth_left hx1) ‹_›|exact diff_f (nth_left hx1) ‹_›|exact diff_t (nth_right ln_a ‹_› hx1) ‹_›|exact diff_f (nth_right ln_a ‹_› hx1) ‹_›)),by omega⟩
  ·refine zr fun _ F=>?_
   refine x_done F (results_1 rfl (zta F)) ?_
   exact ⟨oa,on,oc,rfl,(Mv.pick (S2.trans (S7.trans S6)) [] rfl),(Rd.cast (Rd.give W6_0) (by exact diffK_all ln_a ln_b ‹_›))⟩
instance iMO1:RTc Tryz.prog 118 Tryz.f118 15:=⟨Tryz.func118,Tryz.ntmps118⟩
theorem CFmo:CF Tryz.prog 160:=⟨⟨_,_,Tryz.func160,rfl,by kernel_rfl⟩⟩
instance iMO2:CFc Tryz.prog 160:=⟨CFmo⟩
theorem CFru:CF Tryz.prog 161:=⟨⟨_,_,Tryz.func161,rfl,by kernel_rfl⟩⟩
instance iMO3:CFc Tryz.prog 161:=⟨CFru⟩
theorem At.frame0K {w w':World} {L N:List Atom} (h:At w L) (hm:Mv [] w N w'):Mv L w (N++L) w':=by
 have:=At.frame (New:=N) h [] rfl hm
 rw [del_none] at this
 exact this
section
variable {X:Uni} {w:World} {b u:Nat} {v:MV} {D:List CellD} {R W:List ByteArray}
theorem mB_pack (h:At w (mL b v D R W)) (hU:Un X u D R W):Mv (mL b v D R W) w [mB X b v D u] w:=Mv.same (mB_at h hU) fun z hz=>mL_fps.2 (fps1.1 hz)
theorem mB_unpack (h:At w [mB X b v D u]):∃ R W,Mv [mB X b v D u] w (mL b v D R W) w∧Un X u D R W:=by
 obtain ⟨R,W,h1,h2⟩:=mB_open h
 exact ⟨R,W,Mv.same h1 fun z hz=>fps1.2 (mL_fps.1 hz),h2⟩
end
def PSer (w:World) (D:List CellD) (u:Nat) (e:Ending) (w':World):Prop:=∃ (sa:Option Addr) (sn sc:Nat) (s:GL AnsD),e=.returned (.tuple #[.slice sa sn sc,s.val])∧Mv [] w [ow 91 2 encC okC (.slice sa sn sc) D,owG 155 3 encR okR s] w'∧D.length≤1048576+u
set_option maxRecDepth 100000 in
set_option maxHeartbeats 8000000 in
theorem serialRun_k {X:Uni} {w:World} {u:Nat} {D:List CellD} {H:Nat→Prop} {cs:List CallD} {sa:Option Addr} {sn sc:Nat} {ad:Option Addr} {q c:Nat} (hT:TbO w []) (hD:Rd 2 encC okC H w (.slice sa sn sc) D) (hs:Rd 7 encStep okStep H w (.slice ad q c) (cs.map (stepD X.P))) (hU:Un X u D [] []) (hn:sn≤1099511627776) (hq:q≤1048576) (hu:u+330 * q≤68718428160) (hi64:i64ok X.P) :
 Calls Tryz.prog 118 #[.slice sa sn sc,.slice ad q c] w (PSer w (runS D X.P cs) (u+330 * q)):=by
 have M:St [] w [] w:=⟨Mv.refl (At.nil _),hT⟩
 refine zE (f:=118) fun _ F=>?_
 refine l_op (st_call F (impl_MachOf_c hD hn) rfl rfl rfl rfl rfl rfl fun e w1 h=>?_)
 obtain ⟨a1,n1,c1,a2,n2,c2,a3,n3,c3,rfl,m⟩:=h
 refine ⟨_,rfl,fun _ F=>?_⟩
 have M:=M.then (At.frame0K M.at' m)
 refine zr2 fun _ F=>?_
 refine l_op (kAlI F M ZI_210 [_,_,_] (k:=fun b w M=>zk fun _ F=>?_))
 refine l_op (kWI F M 0 [_,_,_] [_,_,_,_] (k:=fun w M=>zk fun _ F=>?_))
 have M:=M.then (mB_pack (X:=X) (u:=u) (b:=b) (v:=⟨a1,a2,a3,n1,c1,n2,c2,n3,c3⟩) (D:=D) (R:=[]) (W:=[]) M.at' hU)
 have hs1:=(Rd.start (L:=[]) hs fun _ _=>fps_nil _).mq M.mv
 refine l_op (kLI F M (hc:=run_k M.hd hs1 (fun z hz hf=>hz.2 (fps1.2 hf)) hq hu hi64) (kk:=fun v s w q M=>zk fun _ F=>?_))
 obtain ⟨R,W,m2,hU2⟩:=mB_unpack M.tail.at'
 have M:=M.then (At.frame M.at' [1] rfl m2)
 refine zr2 fun _ F=>?_
 refine x_done F (results_2 rfl (zta F) (zta F)) ?_
 exact ⟨_,_,_,s,rfl,(M.pick [1,4] [_,_]).mv,hU2.bd.1⟩
section
open Go.Maps (Keyed IsMap)
def keyL (s:ByteArray):Lit:=.string s.data.toList
theorem keyL_inj {s t:ByteArray} (h:keyL s=keyL t):s=t:=ByteArray.ext (Array.toList_inj.1 (by unfold keyL at h;injection h))
theorem keyL_is (s:ByteArray):WideAt.IsKeyLit (keyL s):=trivial
theorem keyL_same {s t:ByteArray} : (keyL s).sameKey (keyL t)=decide (s=t):=by
 by_cases h:s=t
 ·subst h;rw [decide_eq_true rfl];exact WideAt.sameKey_self (keyL_is s)
 ·rw [decide_eq_false h];exact Maps.sameKey_ne fun e=>h (keyL_inj e)
structure ElS (P:Program) (e:TypeId) {β:Type} (rd:β→Lit) (mk:β→Value) (okv:β→Prop):Prop where
 inv:∀ v y,plainElem (H:=Unit) P e v=some y→∃ c,v=mk c∧y.1=.lit (rd c)
 mkE:∀ c,okv c→plainElem (H:=Unit) P e (mk c)=some (.lit (rd c),[])
 inj:∀ c d,rd c=rd d→c=d
theorem elS_string {P:Program} {e:TypeId} (h:P.underlying e=some .string):ElS P e keyL Value.string (fun s=>s.size≤maxLen) where
 inv:=fun v y hv=>by
  unfold plainElem at hv
  rw [h] at hv
  cases v <;> simp at hv
  rename_i s
  obtain ⟨_,rfl⟩:=hv
  exact ⟨s,rfl,rfl⟩
 mkE:=fun c hc=>plainElem_string h hc
 inj:=fun _ _=>keyL_inj
theorem elS_bool {P:Program} {e:TypeId} (h:P.underlying e=some .bool):ElS P e Lit.bool Value.bool (fun _=>True) where
 inv:=fun v y hv=>by
  unfold plainElem at hv
  rw [h] at hv
  cases v <;> simp at hv
  rename_i s
  subst hv
  exact ⟨s,rfl,rfl⟩
 mkE:=fun c _=>plainElem_bool h c
 inj:=fun _ _ h=>by injection h
def MRep {β:Type} (rd:β→Lit) (D:DataW Unit) (f:ByteArray→Option β):Prop:=∀ s,Maps.has D (keyL s)=(f s).isSome∧∀ z,D.atKey (keyL s) z=((f s).map fun v=>DataW.lit (rd v)).getD z
def putM {β:Type} (f:ByteArray→Option β) (s:ByteArray) (v:β):ByteArray→Option β:=fun t=>if t=s then some v else f t
theorem MRep.put {β:Type} {rd:β→Lit} {D:DataW Unit} {f:ByteArray→Option β} (h:MRep rd D f) (hD:IsMap D) (s:ByteArray) (v:β):MRep rd (D.put (keyL s) (.lit (rd v))) (putM f s v):=fun t=>by
 unfold putM
 by_cases e:t=s
 ·subst e
  rw [if_pos rfl]
  exact ⟨Maps.has_put_same hD (keyL_is t) _,fun z=>Maps.atKey_put_same hD (keyL_is t) _ z⟩
 ·rw [if_neg e]
  have hne:keyL t≠keyL s:=fun q=>e (keyL_inj q)
  exact ⟨(Maps.has_put_other hne _).trans (h t).1,fun z=>(Maps.atKey_put_other hne _ z).trans ((h t).2 z)⟩
theorem MRep.nil {β:Type} {rd:β→Lit} : MRep rd (.map []:DataW Unit) (fun _=>none):=fun _=>⟨rfl,fun _=>rfl⟩
def mpA {β:Type} (P:Program) (k e:TypeId) (rd:β→Lit) (b n:Nat) (f:ByteArray→Option β):Atom where
 fp:=fun c=>c=b
 ok:=fun w=>∃ D:DataW Unit,w.ownsMap P k (plainElem P e) b n D∧MRep rd D f
 st:=fun _ _ hb ⟨D,⟨es,clock,h1,h2⟩,h3⟩=>⟨D,⟨es,clock,(hb b rfl).trans h1,h2⟩,h3⟩
def rgA {β:Type} (P:Program) (k e:TypeId) (rd:β→Lit) (b r n:Nat) (f:ByteArray→Option β) (left:ByteArray→Bool) (cnt:Nat):Atom where
 fp:=fun c=>c=b∨c=r
 ok:=fun w=>∃ (D:DataW Unit) (lf:Lit→Bool),w.ranges P k (plainElem P e) b r n D lf cnt∧MRep rd D f∧∀ s,lf (keyL s)=left s
 st:=fun _ _ hb ⟨D,lf,⟨es,clock,since,seen,c0,h1,h2,h3,h4,h5,h6⟩,hr⟩=>⟨D,lf,⟨es,clock,since,seen,c0,(hb b (.inl rfl)).trans h1,h2,h3,h4,(hb r (.inr rfl)).trans h5,h6⟩,hr⟩
theorem Kp.of_grown {S:Nat→Prop} {w w':World} {row:Option Nat} (h:w.grownBy w' row) (hr:∀ b,row=some b→S b):Kp S w w':=⟨h.os,h.tape,h.output,h.size,fun k hk hn=>h.block k hk fun e=>hn (hr k e.symm)⟩
section
variable {P:Program} {k e:TypeId} {β:Type} {rd:β→Lit} {mk:β→Value} {okv:β→Prop} {b r n cnt:Nat} {f:ByteArray→Option β} {left:ByteArray→Bool} {w w':World}
theorem mv_mp {n':Nat} {f':ByteArray→Option β} (_:At w [mpA P k e rd b n f]) (h:(mpA P k e rd b n' f').ok w') (hg:w.grownBy w' (some b)) (hl:b < w.heap.size):Mv [mpA P k e rd b n f] w [mpA P k e rd b n' f'] w':=
 ⟨At.one h fun c hc=>by have:c=b:=hc;subst this;exact Nat.lt_of_lt_of_le hl hg.size,fun c hc=>.inl (by rw [fps_one] at hc ⊢;exact hc),Kp.of_grown hg fun c hc=>by cases hc;exact fps_one.2 rfl⟩
theorem mpA_made (w:World) (P:Program) (k e:TypeId) (rd:β→Lit):Mv [] w [mpA P k e rd w.heap.size 0 (fun _=>none)] (w.alloc (.map #[] 0)):=
 Bl.mv_new (At.one ⟨.map [],World.ownsMap_made _ _ _ _,MRep.nil⟩ (fun c hc=>by have:c=w.heap.size:=hc;subst this;simp)) (fun c hc=>by rw [fps_one] at hc;have:c=w.heap.size:=hc;omega) ((Bl.refl w).alloc _)
theorem mpA_owns {L:List Atom} (A:At w L) (j:Nat) (hL:nth L j=some (mpA P k e rd b n f)):∃ D:DataW Unit,w.ownsMap P k (plainElem P e) b n D∧MRep rd D f:=A.ok _ (nth_mem hL)
theorem rgA_owns {L:List Atom} (A:At w L) (j:Nat) (hL:nth L j=some (rgA P k e rd b r n f left cnt)):∃ D:DataW Unit,w.ownsMap P k (plainElem P e) b n D∧MRep rd D f:=let ⟨D,_,h1,h2,_⟩:=A.ok _ (nth_mem hL);⟨D,h1.owns,h2⟩
theorem rgA_end (A:At w [rgA P k e rd b r n f left cnt]):Mv [rgA P k e rd b r n f left cnt] w [mpA P k e rd b n f] w:=
 Mv.same (At.one (rgA_owns A 0 rfl) fun c hc=>A.lt c (fps_one.2 (.inl hc))) fun c hc=>by rw [fps_one] at hc ⊢;exact .inl hc
theorem owns_size {D:DataW Unit} {R:Value→Option (DataW Unit × List MemPlace)} (h:w.ownsMap P k R b n D):Maps.size D≤n:=by
 obtain ⟨es,_,_,_,hs,rfl⟩:=h
 show ((es.toList.map _).foldr DataW.insert []).length≤n
 rw [length_sorted,List.length_map];simpa using hs
theorem rgA_start (K:Keyed P k) {t:TypeId} (ht:P.underlying t=some (.map k e)) (A:At w [mpA P k e rd b n f]):∃ w' cnt,(Instr.range t (.map (some b))).run P w=.ok (.pointer (some ⟨w.heap.size,0,none⟩)) w'∧cnt≤n∧Mv [mpA P k e rd b n f] w [rgA P k e rd b w.heap.size n f (fun s=>(f s).isSome) cnt] w':=by
 obtain ⟨D,h1,h2⟩:=mpA_owns A 0 rfl
 obtain ⟨w',r1,r2,r3,r4⟩:=h1.range K ht
 refine ⟨w',_,r1,owns_size h1,At.one ⟨D,_,r2,h2,fun s=>(h2 s).1⟩ fun c hc=>?_,fun c hc=>?_,Kp.of_grown r3 fun _ h=>by cases h⟩
 ·rcases hc with rfl|rfl
  ·have:=h1.lt;omega
  ·omega
 ·rw [fps_one] at hc ⊢
  exact hc.imp id fun e=>by subst e;exact Nat.le_refl _
theorem rgA_next (K:Keyed P k) (hk:P.underlying k=some .string) (E:ElS P e rd mk okv) (ty:TypeId) (A:At w [rgA P k e rd b r n f left cnt]) :
 ((∀ s,left s=false)∧(Instr.next (.pointer (some ⟨r,0,none⟩)) false ty).run P w=.ok (.tuple #[.bool false]) w) ∨
 ∃ s v w' cnt',f s=some v∧left s=true∧s.size≤maxLen∧cnt' < cnt∧(Instr.next (.pointer (some ⟨r,0,none⟩)) false ty).run P w=.ok (.tuple #[.bool true,.string s,mk v]) w'∧(Instr.entry (.pointer (some ⟨r,0,none⟩))).run P w'=.ok (.tuple #[.string s,mk v]) w'∧Mv [rgA P k e rd b r n f left cnt] w [rgA P k e rd b r n f (fun t=>left t && !decide (t=s)) cnt'] w':=by
 obtain ⟨D,lf,h1,h2,h3⟩:=A.ok _ (List.mem_singleton.2 rfl)
 rcases h1.next K ty with ⟨_,g2,g3⟩|⟨key,v,kl,y,w',cnt',g1,g2,g3,g4,g5,g6,g7,g8,g9,g10⟩
 ·exact .inl ⟨fun s=>(h3 s).symm.trans (g2 _),g3⟩
 ·obtain ⟨x,rfl,rfl,hx⟩:=Maps.keyOf_str hk g1
  obtain ⟨c,rfl,hy⟩:=E.inv v y g3
  have hs:(Lit.string x)=keyL ⟨x.toArray⟩:=by unfold keyL;simp
  have hat:=(h2 ⟨x.toArray⟩).2
  rw [← hs] at hat
  have hf:f ⟨x.toArray⟩=some c:=by
   have hh:=Maps.has_true_of_atKey g4
   rw [hs,(h2 _).1] at hh
   obtain ⟨c',hc'⟩:=Option.isSome_iff_exists.1 hh
   have q:=(hat (.map [])).symm.trans (g4 (.map []))
   rw [hc',hy] at q
   injection q with q
   rw [hc',E.inj _ _ q]
  refine .inr ⟨⟨x.toArray⟩,c,w',cnt',hf,by rw [← h3,← hs];exact g2,by simpa [ByteArray.size] using hx,g7,g5,g10,At.one ⟨D,_,g6,h2,fun s=>?_⟩ fun q hq=>?_,fun q hq=>.inl (by rw [fps_one] at hq ⊢;exact hq),Kp.of_grown g8 fun _ h=>by cases h;exact fps_one.2 (.inr rfl)⟩
  ·rw [h3,hs,keyL_same]
  ·rw [g9];exact A.lt q (fps_one.2 hq)
end
section
variable {P:Program} {ops:Array Oper} {Q:Exit→Act→World→Prop} {K:Act→World→Prop} {o:Oper} {a:Act} {w w0:World} {L0 L:List Atom} {d N:Nat} {m:List (Nat × Value)} {t k e:TypeId} {x y z:Operand} {β:Type} {rd:β→Lit} {mk:β→Value} {okv:β→Prop} {b r n cnt:Nat} {f:ByteArray→Option β} {left:ByteArray→Bool}
theorem kMk (k e:TypeId) (rd:β→Lit) (F:Fr N m a) (M:St L0 w0 L w) (ho:o.op=.makeMap t none:=by exact rfl) (hd:o.dst=some d:=by exact rfl) (hw:wantM ops m o=some true:=by exact rfl) (hp:Nat.blt d N=true:=by exact rfl)
 (kk:∀ b w',St L0 w0 (mpA P k e rd b 0 (fun _=>none)::L) w'→∀ a',Fr N ((d,.map (some b))::m) a'→K a' w'):st1 P ops Q o K a w:=by
 have hM:=At.frame (New:=[mpA P k e rd w.heap.size 0 (fun _=>none)]) M.at' [] rfl (mpA_made w P k e rd)
 rw [del_none] at hM
 refine s_valw (wantM_eq F hw) hd (v:=.map (some w.heap.size)) (w':=w.alloc (.map #[] 0)) ?_ fun a' e'=>kk _ _ (M.then hM) a' (F.put e' hp)
 simp [execOp,ho,run_makeMap,Result.andThen]
theorem look_run (Kd:Keyed P k) (E:ElS P e rd mk okv) {z0:β} (ht:P.underlying t=some (.map k e)) (hk:P.underlying k=some .string) (hz:(zeroValue e).run P w=.ok (mk z0) w) (hz0:okv z0) {s:ByteArray} (hs:s.size≤maxLen) (h:∃ D:DataW Unit,w.ownsMap P k (plainElem P e) b n D∧MRep rd D f) :
 (Instr.lookup t (.map (some b)) (.string s) false).run P w=.ok (mk ((f s).getD z0)) w∧(Instr.lookup t (.map (some b)) (.string s) true).run P w=.ok (.tuple #[mk ((f s).getD z0),.bool (f s).isSome]) w:=by
 obtain ⟨D,h1,h2⟩:=h
 have hkey:keyOf P k (.string s)=some (keyL s):=WideMaps.keyOf_string_mk hk hs
 obtain ⟨v,ps,r1,r2⟩:=h1.look_ok Kd ht hz (E.mkE z0 hz0) hkey
 obtain ⟨v',ps',q1,q2⟩:=h1.lookup Kd ht hz (E.mkE z0 hz0) hkey
 have hv:∀ v ps,plainElem (H:=Unit) P e v=some (D.atKey (keyL s) (.lit (rd z0)),ps)→v=mk ((f s).getD z0):=fun v ps hv=>by
  obtain ⟨c,rfl,hc⟩:=E.inv v _ hv
  rw [(h2 s).2] at hc
  cases hf:f s with
  | none=>rw [hf] at hc;injection hc with hc;rw [← E.inj _ _ hc];rfl
  | some c'=>rw [hf] at hc;injection hc with hc;rw [← E.inj _ _ hc];rfl
 rw [hv v' ps' q2] at q1
 rw [hv v ps r2,(h2 s).1] at r1
 exact ⟨q1,r1⟩
theorem kLook (Kd:Keyed P k) (E:ElS P e rd mk okv) {z0:β} (ht:P.underlying t=some (.map k e)) (hk:P.underlying k=some .string) (hz:∀ w,(zeroValue e).run P w=.ok (mk z0) w) (hz0:okv z0) {s:ByteArray} (hs:s.size≤maxLen) (h:∃ D:DataW Unit,w.ownsMap P k (plainElem P e) b n D∧MRep rd D f) (F:Fr N m a)
 (ho:o.op=.lookup t x y false:=by exact rfl) (hx:opd m x=some (.map (some b)):=by exact rfl) (hy:opd m y=some (.string s):=by exact rfl) (hd:o.dst=some d:=by exact rfl) (hw:wantM ops m o=some true:=by exact rfl) (hp:Nat.blt d N=true:=by exact rfl)
 (kk:∀ a',Fr N ((d,mk ((f s).getD z0))::m) a'→K a' w):st1 P ops Q o K a w:=
 f_val F (wantM_eq F hw) hd (by simp [execOp,ho,F.g hx,F.g hy,(look_run Kd E ht hk (hz w) hz0 hs h).1,Result.andThen]) hp kk
theorem kLookOk (Kd:Keyed P k) (E:ElS P e rd mk okv) {z0:β} (ht:P.underlying t=some (.map k e)) (hk:P.underlying k=some .string) (hz:∀ w,(zeroValue e).run P w=.ok (mk z0) w) (hz0:okv z0) {s:ByteArray} (hs:s.size≤maxLen) (h:∃ D:DataW Unit,w.ownsMap P k (plainElem P e) b n D∧MRep rd D f) (F:Fr N m a)
 (ho:o.op=.lookup t x y true:=by exact rfl) (hx:opd m x=some (.map (some b)):=by exact rfl) (hy:opd m y=some (.string s):=by exact rfl) (hd:o.dst=some d:=by exact rfl) (hw:wantM ops m o=some true:=by exact rfl) (hp:Nat.blt d N=true:=by exact rfl)
 (kk:∀ a',Fr N ((d,.tuple #[mk ((f s).getD z0),.bool (f s).isSome])::m) a'→K a' w):st1 P ops Q o K a w:=
 f_val F (wantM_eq F hw) hd (by simp [execOp,ho,F.g hx,F.g hy,(look_run Kd E ht hk (hz w) hz0 hs h).2,Result.andThen]) hp kk
theorem kUpd (Kd:Keyed P k) (E:ElS P e rd mk okv) (ht:P.underlying t=some (.map k e)) (hk:P.underlying k=some .string) {s:ByteArray} (hs:s.size≤maxLen) {v:β} (hv:okv v) (hn:n < maxLen) (F:Fr N m a) (M:St L0 w0 L w) (j:Nat) (hL:nth L j=some (mpA P k e rd b n f):=by exact rfl) (hok:okSel L.length [j]=true:=by exact rfl)
 (ho:o.op=.mapUpdate t x y z:=by exact rfl) (hx:opd m x=some (.map (some b)):=by exact rfl) (hy:opd m y=some (.string s):=by exact rfl) (hz:opd m z=some (mk v):=by exact rfl) (hd:o.dst=none:=by exact rfl) (hw:wantM ops m o=some true:=by exact rfl)
 (kk:∀ w',St L0 w0 (mpA P k e rd b (n+1) (putM f s v)::del L [j]) w'→∀ a',Fr N m a'→K a' w'):st1 P ops Q o K a w:=by
 obtain ⟨D,h1,h2⟩:=mpA_owns M.at' j hL
 have hkey:keyOf P k (.string s)=some (keyL s):=WideMaps.keyOf_string_mk hk hs
 obtain ⟨w',r1,r2,r3⟩:=h1.update Kd ht hn hkey (E.mkE v hv)
 have hsel:sel L [j]=[mpA P k e rd b n f]:=sel_one hL
 have hm:Mv L w ([mpA P k e rd b (n+1) (putM f s v)]++del L [j]) w':=M.at'.frame [j] hok (by
  rw [hsel]
  exact mv_mp (by rw [← hsel];exact M.at'.pick hok) ⟨_,r2,h2.put (h1.isMap) s v⟩ r3 h1.lt)
 refine s_unit (wantM_eq F hw) hd (w':=w') ?_ (kk w' (M.then hm) a F)
 simp [execOp,ho,F.g hx,F.g hy,F.g hz,r1,Result.andThen]
theorem kRange (Kd:Keyed P k) (ht:P.underlying t=some (.map k e)) (F:Fr N m a) (M:St L0 w0 L w) (j:Nat) (hL:nth L j=some (mpA P k e rd b n f):=by exact rfl) (hok:okSel L.length [j]=true:=by exact rfl)
 (ho:o.op=.range t x:=by exact rfl) (hx:opd m x=some (.map (some b)):=by exact rfl) (hd:o.dst=some d:=by exact rfl) (hw:wantM ops m o=some true:=by exact rfl) (hp:Nat.blt d N=true:=by exact rfl)
 (kk:∀ r cnt w',cnt≤n→St L0 w0 (rgA P k e rd b r n f (fun s=>(f s).isSome) cnt::del L [j]) w'→∀ a',Fr N ((d,.pointer (some ⟨r,0,none⟩))::m) a'→K a' w'):st1 P ops Q o K a w:=by
 have hsel:sel L [j]=[mpA P k e rd b n f]:=sel_one hL
 obtain ⟨w',cnt,r1,r3,r2⟩:=rgA_start Kd ht (by rw [← hsel];exact M.at'.pick hok:At w [mpA P k e rd b n f])
 have hm:Mv L w ([rgA P k e rd b w.heap.size n f (fun s=>(f s).isSome) cnt]++del L [j]) w':=M.at'.frame [j] hok (by rw [hsel];exact r2)
 refine s_valw (wantM_eq F hw) hd (v:=.pointer (some ⟨w.heap.size,0,none⟩)) (w':=w') ?_ fun a' e'=>kk _ _ _ r3 (M.then hm) a' (F.put e' hp)
 simp [execOp,ho,F.g hx,r1,Result.andThen]
theorem kNext (Kd:Keyed P k) (hk:P.underlying k=some .string) (E:ElS P e rd mk okv) (F:Fr N m a) (M:St L0 w0 L w) (j:Nat) (hL:nth L j=some (rgA P k e rd b r n f left cnt):=by exact rfl) (hok:okSel L.length [j]=true:=by exact rfl)
 (ho:o.op=.next x false:=by exact rfl) (hx:opd m x=some (.pointer (some ⟨r,0,none⟩)):=by exact rfl) (hd:o.dst=some d:=by exact rfl) (hw:wantM ops m o=some true:=by exact rfl) (hp:Nat.blt d N=true:=by exact rfl)
 (kend:(∀ s,left s=false)→∀ a',Fr N ((d,.tuple #[.bool false])::m) a'→K a' w)
 (kk:∀ s v cnt' w',f s=some v→left s=true→s.size≤maxLen→cnt' < cnt→(Instr.entry (.pointer (some ⟨r,0,none⟩))).run P w'=.ok (.tuple #[.string s,mk v]) w'→St L0 w0 (rgA P k e rd b r n f (fun t=>left t && !decide (t=s)) cnt'::del L [j]) w'→∀ a',Fr N ((d,.tuple #[.bool true,.string s,mk v])::m) a'→K a' w'):st1 P ops Q o K a w:=by
 have hsel:sel L [j]=[rgA P k e rd b r n f left cnt]:=sel_one hL
 rcases rgA_next Kd hk E o.type (by rw [← hsel];exact M.at'.pick hok:At w [rgA P k e rd b r n f left cnt]) with ⟨g1,g2⟩|⟨s,v,w',cnt',g1,g2,g3,g4,g5,g7,g6⟩
 ·refine s_valw (wantM_eq F hw) hd (v:=.tuple #[.bool false]) (w':=w) ?_ fun a' e'=>kend g1 a' (F.put e' hp)
  simp [execOp,ho,F.g hx,g2,Result.andThen]
 ·have hm:Mv L w ([rgA P k e rd b r n f (fun t=>left t && !decide (t=s)) cnt']++del L [j]) w':=M.at'.frame [j] hok (by rw [hsel];exact g6)
  refine s_valw (wantM_eq F hw) hd (v:=.tuple #[.bool true,.string s,mk v]) (w':=w') ?_ fun a' e'=>kk s v cnt' w' g1 g2 g3 g4 g7 (M.then hm) a' (F.put e' hp)
  simp [execOp,ho,F.g hx,g5,Result.andThen]
theorem kEntry {s:ByteArray} {v:Value} (h:(Instr.entry (.pointer (some ⟨r,0,none⟩))).run P w=.ok (.tuple #[.string s,v]) w) (F:Fr N m a)
 (ho:o.op=.entry x:=by exact rfl) (hx:opd m x=some (.pointer (some ⟨r,0,none⟩)):=by exact rfl) (hd:o.dst=some d:=by exact rfl) (hw:wantM ops m o=some true:=by exact rfl) (hp:Nat.blt d N=true:=by exact rfl)
 (kk:∀ a',Fr N ((d,.tuple #[.string s,v])::m) a'→K a' w):st1 P ops Q o K a w:=
 f_val F (wantM_eq F hw) hd (by simp [execOp,ho,F.g hx,h,Result.andThen]) hp kk
end
end
end Go.Proofs.YtipdbeklopjbmaaGreatDoor
