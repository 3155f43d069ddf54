/-
  Texts laid together: MK, Iter, ML.
-/
import Derived.Test.YtipdbeklopjbmaaGreatDoorP18
import Derived.Test.YtipdbeklopjbmaaGreatDoorP16
import Derived.Test.YtipdbeklopjbmaaGreatDoorP10
import Derived.Shelf.SlIter.Nil
import Derived.Shelf.SortM.Plain
import Derived.Shelf.SortM.SortNone
import Derived.Ground.GgzProg
import Derived.Ground.SlgmProg
import Derived.Test.YtipdbeklopjbmaaGreatDoorChecked
import Derived.KernelRfl
set_option linter.unusedVariables false
set_option linter.unusedSimpArgs false
namespace Go.Proofs.YtipdbeklopjbmaaGreatDoor
open Go.ChangeShapes Go.WideShapes Go.ChangeAt Go.RowKit
section
open Go.Maps (Keyed)
instance iMK1:RTc Tryz.prog 156 Tryz.f156 31:=⟨Tryz.func156,Tryz.ntmps156⟩
def valF (l:List CellD):ByteArray→Option ByteArray:=fun s=>(l.find? fun c=>decide (c.key=s)).map (·.val)
theorem valF_get (l:List CellD) (s:ByteArray):(valF l s).getD ⟨#[]⟩=getKey l s:=by
 unfold valF getKey
 cases l.find? (fun c:CellD=>decide (c.key=s)) <;> rfl
theorem valF_snoc {l:List CellD} {k:Nat} {x:CellD} (h:nth l k=some x) (s:ByteArray):valF (l.take (k+1)) s=((valF (l.take k) s).or (if s=x.key then some x.val else none)):=by
 unfold valF
 rw [nth_take_snoc h,List.find?_append]
 cases (l.take k).find? (fun c:CellD=>decide (c.key=s)) with
 | some y=>rfl
 | none=>
  by_cases e:x.key=s
  ·rw [List.find?_cons_of_pos (by simpa using e),if_pos e.symm];rfl
  ·rw [List.find?_cons_of_neg (by simpa using e),if_neg fun q=>e q.symm];rfl
theorem valF_old {l:List CellD} {k:Nat} {x:CellD} (h:nth l k=some x) (hs:(!(valF (l.take k) x.key).isSome)=false):valF (l.take k)=valF (l.take (k+1)):=funext fun s=>by
 rw [valF_snoc h]
 by_cases e:s=x.key
 ·subst e
  obtain ⟨y,hy⟩:=Option.isSome_iff_exists.1 (nf hs)
  rw [hy];rfl
 ·rw [if_neg e]
  cases valF (l.take k) s <;> rfl
theorem valF_new {l:List CellD} {k:Nat} {x:CellD} (h:nth l k=some x) (hs:(!(valF (l.take k) x.key).isSome)=true):putM (valF (l.take k)) x.key x.val=valF (l.take (k+1)):=funext fun s=>by
 rw [valF_snoc h]
 unfold putM
 by_cases e:s=x.key
 ·rw [if_pos e,if_pos e,e]
  have h1:=nt hs
  cases q:valF (l.take k) x.key with
  | none=>rfl
  | some y=>rw [q] at h1;cases h1
 ·rw [if_neg e,if_neg e]
  cases valF (l.take k) s <;> rfl
theorem valF_has {l:List CellD} {s:ByteArray} : (valF l s).isSome=true ↔ ∃ c ∈ l,c.key=s:=by
 unfold valF
 rw [Option.isSome_map]
 simp
theorem kyS:Keyed Tryz.prog 9:=Maps.string_keyed Tryz.underlying9
theorem zvS (w:World):(zeroValue 9).run Tryz.prog w=.ok (.string ⟨#[]⟩) w:=by kernel_rfl
theorem elS:ElS Tryz.prog 9 keyL Value.string (fun s=>s.size≤maxLen):=elS_string Tryz.underlying9
def PMap (w:World) (f:ByteArray→Option ByteArray) (q:Nat) (e:Ending) (w':World):Prop:=∃ b n,e=.returned (.map (some b))∧Mv [] w [mpA Tryz.prog 9 9 keyL b n f] w'∧n≤q
set_option maxRecDepth 100000 in
set_option maxHeartbeats 4000000 in
theorem valuesOf_k {w:World} {H:Nat→Prop} {l:List CellD} {ad:Option Addr} {q c:Nat} (hT:TbO w []) (hl:Rd 2 encC okC H w (.slice ad q c) l) (hq:q≤274877906944):Calls Tryz.prog 156 #[.slice ad q c] w (PMap w (valF l) q):=by
 have hn:=hl.inv.1
 have M:St [] w [] w:=⟨Mv.refl (At.nil _),hT⟩
 refine zE (f:=156) fun _ F=>?_
 refine l_op (kMk 9 9 keyL F M (kk:=fun b w M=>zk fun _ F=>?_))
 have F:=F.cut (m':=[(11,_),(3,_),(9,_),(10,_)]) rfl
 refine kLoop (γ:=Nat × Nat) (slots:=fun g=>[(11,.int .i64 ((g.1:Nat):Int))]) (LL:=fun g=>[mpA Tryz.prog 9 9 keyL b g.2 (valF (l.take g.1))]) (pr:=fun g=>g.1≤q∧g.2≤g.1) (g0:=(0,0)) (fun g=>q - g.1) F M ⟨Nat.zero_le _,Nat.le_refl _⟩ fun g a w F M hp=>?_
 refine zr2 fun _ F=>?_
 refine zi F (fun h1=>?_) fun h1=>?_
 ·refine zr2 fun _ F=>?_
  have hl':=(Rd.start (L:=[]) hl fun _ _=>fps_nil _).mq M.mv
  refine kElG TI_91 F hl'.1 ET_28 g.1 (fun x=>.agg #[.string x.key,.string x.val]) (by omega) (kk:=fun x _ hx ok=>zk fun _ F=>?_)
  refine l_op (kAlI F M ZI_91 [_,_] (k:=fun b2 w M=>zk fun _ F=>?_))
  refine l_op (kWI F M 0 [_,_] [_,_] (k:=fun w M=>zk fun _ F=>?_))
  have h1:x.key.size≤maxLen:=ok.1
  have h2:x.val.size≤maxLen:=ok.2
  refine l_op (kLookOk kyS elS Tryz.underlying203 Tryz.underlying9 zvS (Nat.zero_le _) h1 (mpA_owns M.at' 1 rfl) F (kk:=zk fun _ F=>?_))
  refine zib F (fun h3=>?_) fun h3=>?_
  ·refine zr2 fun _ F=>?_
   refine l_op (kUpd (n:=g.2) kyS elS Tryz.underlying203 Tryz.underlying9 h1 h2 (by unfold maxLen;omega) F M 1 (kk:=fun w M=>zk fun _ F=>?_))
   have M:=M.pick [0] [_]
   exact lend (g.1+1,g.2+1) (by dsimp only;omega) ⟨F.cut rfl,M.cast (by rw [valF_new hx h3]),by dsimp only;omega⟩
  ·refine zr2 fun _ F=>?_
   have M:=M.pick [1] [_]
   exact lend (g.1+1,g.2) (by dsimp only;omega) ⟨F.cut rfl,M.cast (by rw [← valF_old hx h3]),by dsimp only;omega⟩
 ·refine zr2 fun _ F=>?_
  refine x_done F (results_1 rfl (zta F)) ?_
  have e:valF (l.take g.1)=valF l:=by rw [List.take_of_length_le (by omega)]
  exact ⟨b,g.2,rfl,e ▸ M.mv,by omega⟩
end
end Go.Proofs.YtipdbeklopjbmaaGreatDoor
namespace Go.Proofs.YtipdbeklopjbmaaGreatDoor
open Go.RowKit Go.Maps Go.Sort Go.Shelf
def it_keys158_ren:Go.Shelf.Ren:=⟨fun|7=>158|10=>186|n=>n,fun|23=>205|26=>9|3=>4|28=>179|0=>0|27=>178|33=>133|4=>4|n=>n,fun|n=>n⟩
theorem it_keys158:Go.Proofs.SlLaysZ.n7 Tryz.prog it_keys158_ren where
 mixed:=by kernel_rfl
 f7:=⟨Tryz.f158.name,by decide,Tryz.func158.trans (congrArg some (by kernel_rfl))⟩
 f10:=⟨Tryz.f186.name,by decide,Tryz.func186.trans (congrArg some (by kernel_rfl))⟩
 t0:=Tryz.underlying0
 a0:=Tryz.isAgg0
 z0:=Tryz.sizeOf0
 v0:=Tryz.zeroValue0
 t4:=Tryz.underlying4
 a4:=Tryz.isAgg4
 z4:=Tryz.sizeOf4
 v4:=Tryz.zeroValue4
 t23:=Tryz.underlying205
 a23:=Tryz.isAgg205
 z23:=Tryz.sizeOf205
 v23:=Tryz.zeroValue205
 t26:=Tryz.underlying9
 a26:=Tryz.isAgg9
 z26:=Tryz.sizeOf9
 v26:=Tryz.zeroValue9
 t27:=Tryz.underlying178
 a27:=Tryz.isAgg178
 z27:=Tryz.sizeOf178
 v27:=Tryz.zeroValue178
 t28:=Tryz.underlying179
 a28:=Tryz.isAgg179
 z28:=Tryz.sizeOf179
 v28:=Tryz.zeroValue179
 t33:=Tryz.underlying133
 a33:=Tryz.isAgg133
 z33:=Tryz.sizeOf133
 v33:=Tryz.zeroValue133
def it_sorted157_ren:Go.Shelf.Ren:=⟨fun|6=>157|8=>184|9=>185|11=>234|13=>236|12=>235|23=>314|24=>315|14=>305|15=>306|16=>307|17=>308|18=>309|19=>310|20=>311|21=>312|22=>313|25=>353|26=>354|27=>355|28=>356|29=>357|30=>358|31=>373|n=>n,fun|26=>9|28=>179|24=>44|0=>0|3=>3|37=>214|48=>329|50=>331|4=>4|40=>323|39=>322|45=>174|5=>5|9=>9|51=>356|55=>360|57=>369|58=>276|33=>133|n=>n,fun|n=>n⟩
theorem it_sorted157:Go.Proofs.SlLaysZ.n6 Tryz.prog it_sorted157_ren where
 mixed:=by kernel_rfl
 f6:=⟨Tryz.f157.name,by decide,Tryz.func157.trans (congrArg some (by kernel_rfl))⟩
 f8:=⟨Tryz.f184.name,by decide,Tryz.func184.trans (congrArg some (by kernel_rfl))⟩
 f11:=⟨Tryz.f234.name,by decide,Tryz.func234.trans (congrArg some (by kernel_rfl))⟩
 t0:=Tryz.underlying0
 a0:=Tryz.isAgg0
 z0:=Tryz.sizeOf0
 v0:=Tryz.zeroValue0
 t24:=Tryz.underlying44
 a24:=Tryz.isAgg44
 z24:=Tryz.sizeOf44
 v24:=Tryz.zeroValue44
 t26:=Tryz.underlying9
 a26:=Tryz.isAgg9
 z26:=Tryz.sizeOf9
 v26:=Tryz.zeroValue9
 t28:=Tryz.underlying179
 a28:=Tryz.isAgg179
 z28:=Tryz.sizeOf179
 v28:=Tryz.zeroValue179
 i26:=by kernel_rfl
def it_sort185_ren:Go.Shelf.Ren:=⟨fun|6=>185|8=>236|9=>235|19=>314|20=>315|21=>305|22=>306|23=>307|24=>308|25=>309|26=>310|27=>311|28=>312|29=>313|36=>353|31=>354|32=>355|37=>356|38=>357|39=>358|41=>373|n=>n,fun|27=>44|29=>9|3=>3|32=>214|26=>44|0=>0|44=>329|46=>331|4=>4|36=>323|35=>322|41=>174|5=>5|9=>9|53=>356|57=>360|63=>369|64=>276|n=>n,fun|n=>n⟩
theorem it_sort185:Go.Proofs.SlLaysM.n6 Tryz.prog it_sort185_ren where
 mixed:=by kernel_rfl
 f6:=⟨Tryz.f185.name,by decide,Tryz.func185.trans (congrArg some (by kernel_rfl))⟩
 f8:=Tryz.func236.trans (congrArg some (by kernel_rfl))
 f9:=⟨Tryz.f235.name,by decide,Tryz.func235.trans (congrArg some (by kernel_rfl))⟩
 f19:=Tryz.func314.trans (congrArg some (by kernel_rfl))
 f20:=Tryz.func315.trans (congrArg some (by kernel_rfl))
 f21:=⟨Tryz.f305.name,by decide,Tryz.func305.trans (congrArg some (by kernel_rfl))⟩
 f22:=⟨Tryz.f306.name,by decide,Tryz.func306.trans (congrArg some (by kernel_rfl))⟩
 f23:=⟨Tryz.f307.name,by decide,Tryz.func307.trans (congrArg some (by kernel_rfl))⟩
 f24:=⟨Tryz.f308.name,by decide,Tryz.func308.trans (congrArg some (by kernel_rfl))⟩
 f25:=⟨Tryz.f309.name,by decide,Tryz.func309.trans (congrArg some (by kernel_rfl))⟩
 f26:=⟨Tryz.f310.name,by decide,Tryz.func310.trans (congrArg some (by kernel_rfl))⟩
 f27:=⟨Tryz.f311.name,by decide,Tryz.func311.trans (congrArg some (by kernel_rfl))⟩
 f28:=⟨Tryz.f312.name,by decide,Tryz.func312.trans (congrArg some (by kernel_rfl))⟩
 f29:=⟨Tryz.f313.name,by decide,Tryz.func313.trans (congrArg some (by kernel_rfl))⟩
 f31:=Tryz.func354.trans (congrArg some (by kernel_rfl))
 f32:=Tryz.func355.trans (congrArg some (by kernel_rfl))
 f36:=⟨Tryz.f353.name,by decide,Tryz.func353.trans (congrArg some (by kernel_rfl))⟩
 f37:=⟨Tryz.f356.name,by decide,Tryz.func356.trans (congrArg some (by kernel_rfl))⟩
 f38:=⟨Tryz.f357.name,by decide,Tryz.func357.trans (congrArg some (by kernel_rfl))⟩
 f39:=⟨Tryz.f358.name,by decide,Tryz.func358.trans (congrArg some (by kernel_rfl))⟩
 f41:=⟨Tryz.f373.name,by decide,Tryz.func373.trans (congrArg some (by kernel_rfl))⟩
 t0:=Tryz.underlying0
 a0:=Tryz.isAgg0
 z0:=Tryz.sizeOf0
 v0:=Tryz.zeroValue0
 t3:=Tryz.underlying3
 a3:=Tryz.isAgg3
 z3:=Tryz.sizeOf3
 v3:=Tryz.zeroValue3
 t4:=Tryz.underlying4
 a4:=Tryz.isAgg4
 z4:=Tryz.sizeOf4
 v4:=Tryz.zeroValue4
 t5:=Tryz.underlying5
 a5:=Tryz.isAgg5
 z5:=Tryz.sizeOf5
 v5:=Tryz.zeroValue5
 t9:=Tryz.underlying9
 a9:=Tryz.isAgg9
 z9:=Tryz.sizeOf9
 v9:=Tryz.zeroValue9
 t26:=Tryz.underlying44
 a26:=Tryz.isAgg44
 z26:=Tryz.sizeOf44
 v26:=Tryz.zeroValue44
 t27:=Tryz.underlying44
 a27:=Tryz.isAgg44
 z27:=Tryz.sizeOf44
 v27:=Tryz.zeroValue44
 t29:=Tryz.underlying9
 a29:=Tryz.isAgg9
 z29:=Tryz.sizeOf9
 v29:=Tryz.zeroValue9
 t32:=Tryz.underlying214
 a32:=Tryz.isAgg214
 z32:=Tryz.sizeOf214
 v32:=Tryz.zeroValue214
 t35:=Tryz.underlying322
 a35:=Tryz.isAgg322
 z35:=Tryz.sizeOf322
 v35:=Tryz.zeroValue322
 t36:=Tryz.underlying323
 a36:=Tryz.isAgg323
 z36:=Tryz.sizeOf323
 v36:=Tryz.zeroValue323
 t41:=Tryz.underlying174
 a41:=Tryz.isAgg174
 z41:=Tryz.sizeOf174
 v41:=Tryz.zeroValue174
 t44:=Tryz.underlying329
 a44:=Tryz.isAgg329
 z44:=Tryz.sizeOf329
 v44:=Tryz.zeroValue329
 t46:=Tryz.underlying331
 a46:=Tryz.isAgg331
 z46:=Tryz.sizeOf331
 v46:=Tryz.zeroValue331
 t53:=Tryz.underlying356
 a53:=Tryz.isAgg356
 z53:=Tryz.sizeOf356
 v53:=Tryz.zeroValue356
 t57:=Tryz.underlying360
 a57:=Tryz.isAgg360
 z57:=Tryz.sizeOf360
 v57:=Tryz.zeroValue360
 t63:=Tryz.underlying369
 a63:=Tryz.isAgg369
 z63:=Tryz.sizeOf369
 v63:=Tryz.zeroValue369
 t64:=Tryz.underlying276
 a64:=Tryz.isAgg276
 z64:=Tryz.sizeOf276
 v64:=Tryz.zeroValue276
theorem it_sorts157 (m:Nat):AnyZ.SortsIn Tryz.prog it_sorted157_ren Fence.wide m:=
 ⟨fun blk off cap ss W hH hblk hsz=>callsIn_wide.2 (AnyM.slices_Sort_string it_sort185 blk off cap ss W hH hblk hsz),
  fun p cap W=>callsIn_wide.2 (AnyM.slices_Sort_string_none it_sort185 p cap W)⟩
theorem it_maps_Keys_158 (mb:Option Nat) (W:World):CallsIn Fence.wide 5 Tryz.prog 158 #[.map mb] W fun e w'=>e=.returned (.func (.func 186) #[] #[.pointer (some ⟨W.heap.size,0,none⟩)])∧w'=W.alloc (.cells #[.map mb] 205):=
 AnyZ.keys_in it_keys158 Fence.wide 5 trivial rfl mb W
set_option maxHeartbeats 1000000 in
theorem it_slices_Sorted_keys_157_158 {H:Type} (b nn:Nat) (D0:DataW H) (R:Value→Option (DataW H × List MemPlace)) (w:World) (hown:w.ownsMap Tryz.prog 9 R b nn D0) (hmax:Maps.size D0≤maxLen) (hbytes:Maps.size D0 * 16≤140737488355328) :
 CallsIn Fence.wide 5 Tryz.prog 157 #[.func (.func 186) #[] #[.pointer (some ⟨w.heap.size,0,none⟩)]] (w.alloc (.cells #[.map (some b)] 205)) fun e w'=>∃ (v:Value) (ss:List (List UInt8)),e=.returned v∧ss.Perm (strKeys D0) ∧
  w'.ownsRow (w.alloc (.cells #[.map (some b)] 205)).heap.size 9 1 v ss.length ((ss.mergeSort (fun x y=>decide (x≤y))).map encStr)∧(v=.slice none 0 0 ↔ ss=[])∧Below (w.alloc (.cells #[.map (some b)] 205)).heap.size (w.alloc (.cells #[.map (some b)] 205)) w':=by
 have hbl:=hown.lt
 have hseq:SeqGives Fence.wide 2 Tryz.prog 186 #[.pointer (some ⟨w.heap.size,0,none⟩)] encStr (fun ss=>ss.Perm (strKeys D0)) (Maps.size D0) (w.alloc (.cells #[.map (some b)] 205)):=
  AnyZ.keys_gives (ρ:=it_keys158_ren) { it_keys158 with } Fence.wide _ trivial rfl (by omega) w.heap.size b nn D0 _ (by simp) (by simp) (by
   obtain ⟨es,clock,hb,Ft,hs,hD⟩:=hown
   exact ⟨es,clock,(Below.heap_alloc _ _ b hbl).trans hb,Ft,hs,hD⟩)
 exact AnyZ.sorted_in it_sorted157 Fence.wide 5 trivial trivial trivial trivial rfl (by omega) (it_sorts157 _) (enters_of Tryz.func185 (by kernel_rfl) rfl) 186 #[.pointer (some ⟨w.heap.size,0,none⟩)] trivial (enters_of Tryz.func186 (by kernel_rfl) rfl) _ _ hmax hbytes _ hseq
end Go.Proofs.YtipdbeklopjbmaaGreatDoor
namespace Go.Proofs.YtipdbeklopjbmaaGreatDoor
open Go.ChangeShapes Go.WideShapes Go.ChangeAt Go.RowKit
section
open Go.Maps (Keyed)
theorem lessL_iff:∀ {x y:List UInt8},Op.bytesLess x y=true ↔ x < y
 | [],[]=>by simp [Op.bytesLess]
 | [],_::_=>by simp [Op.bytesLess]
 | _::_,[]=>by simp [Op.bytesLess]
 | a::x,b::y=>by rw [lessL_cons,List.cons_lt_cons_iff,lessL_iff,UInt8.lt_iff_toNat_lt]
def baL (x:List UInt8):ByteArray:=⟨x.toArray⟩
theorem srt_of {ss:List (List UInt8)} (hn:ss.Nodup):srtL ((ss.mergeSort leB).map baL):=by
 have tr:∀ a b c:List UInt8,leB a b=true→leB b c=true→leB a c=true:=fun a b c h1 h2=>by simp only [leB,decide_eq_true_eq] at *;exact List.le_trans h1 h2
 have to:∀ a b:List UInt8,(leB a b || leB b a)=true:=fun a b=>by simp only [leB,Bool.or_eq_true,decide_eq_true_eq];exact List.le_total a b
 have h1:=List.pairwise_mergeSort tr to ss
 have h2:(ss.mergeSort leB).Nodup:=(List.mergeSort_perm ss leB).nodup_iff.2 hn
 refine List.pairwise_map.2 (h1.and h2 |>.imp fun {a b} h=>?_)
 obtain ⟨h3,h4⟩:=h
 simp only [leB,decide_eq_true_eq] at h3
 show Op.bytesLess (baL a).toList (baL b).toList=true
 rw [bytes_toList,bytes_toList]
 show Op.bytesLess a.toArray.toList b.toArray.toList=true
 rw [lessL_iff]
 simp only [List.toList_toArray]
 rcases Classical.em (a < b) with h|h
 ·exact h
 ·exact absurd (List.le_antisymm h3 (List.not_lt.1 h)) h4
theorem elB:ElS Tryz.prog 4 Lit.bool Value.bool (fun _=>True):=elS_bool Tryz.underlying4
def dfP (a b:List CellD) (s:ByteArray):Prop:=getKey a s≠getKey b s
theorem kMp {P:Program} {ops:Array Oper} {Q:Exit→Act→World→Prop} {K:Act→World→Prop} {o:Oper} {a:Act} {w w0:World} {d N:Nat} {m:List (Nat × Value)} {L L0:List Atom} {fm:ByteArray→Option ByteArray} {q f:Nat} {vs:List Value} [I:CFc P f] (F:Fr N m a) (M:St L0 w0 L w)
 (hx:argsV m o=vs:=by exact rfl) (hf:callF o=f:=by exact rfl) (ho:okCall m o=true:=by exact rfl) (hd:o.dst=some d:=by exact rfl) (hw:wantM ops m o=some true:=by exact rfl) (hp:Nat.blt d N=true:=by exact rfl)
 (hc:Calls P f vs.toArray w (PMap w fm q))
 (kk:∀ b n w',n≤q→St L0 w0 (mpA Tryz.prog 9 9 keyL b n fm::L) w'→∀ a',Fr N ((d,.map (some b))::m) a'→K a' w'):st1 P ops Q o K a w:=
 st_call F hc hx hf ho hd hw hp fun _ w' ⟨b,n,h1,h2,h3⟩=>⟨_,h1,kk b n w' h3 (M.then (by
  have:=At.frame (New:=[mpA Tryz.prog 9 9 keyL b n fm]) M.mv.at' [] rfl h2
  rw [del_none] at this
  exact this))⟩
theorem St.rgEnd {P:Program} {k e:TypeId} {β:Type} {rd:β→Lit} {b r n cnt:Nat} {f:ByteArray→Option β} {left:ByteArray→Bool} {w w0:World} {L L0:List Atom} (M:St L0 w0 (rgA P k e rd b r n f left cnt::L) w):St L0 w0 (mpA P k e rd b n f::L) w:=M.then (Mv.head M.mv.at' (rgA_end M.hd.at'))
instance iML1:RTc Tryz.prog 116 Tryz.f116 48:=⟨Tryz.func116,Tryz.ntmps116⟩
theorem CFvo:CF Tryz.prog 156:=⟨⟨_,_,Tryz.func156,rfl,by kernel_rfl⟩⟩
instance iML2:CFc Tryz.prog 156:=⟨CFvo⟩
theorem CFmk:CF Tryz.prog 158:=⟨⟨_,_,Tryz.func158,rfl,by kernel_rfl⟩⟩
instance iML3:CFc Tryz.prog 158:=⟨CFmk⟩
theorem CFso:CF Tryz.prog 157:=⟨⟨_,_,Tryz.func157,rfl,by kernel_rfl⟩⟩
instance iML4:CFc Tryz.prog 157:=⟨CFso⟩
section
variable {P:Program} {k:TypeId} {R:Value→Option (DataW Unit × List MemPlace)} {w:World} {b n:Nat} {D:DataW Unit}
theorem mem_strKeys (h:w.ownsMap P k R b n D) (hk:P.underlying k=some .string) (y:List UInt8):y ∈ strKeys D ↔ Maps.has D (.string y)=true:=by
 obtain ⟨es,rfl,hko⟩:=h.keysOf
 rw [Maps.has_eq,List.any_eq_true]
 show y ∈ es.map (fun p=>strOf p.1) ↔ _
 rw [List.mem_map]
 constructor
 ·rintro ⟨p,hp,rfl⟩
  obtain ⟨v,hv⟩:=hko p hp
  obtain ⟨x,_,hx,_⟩:=Maps.keyOf_str hk hv
  exact ⟨p,hp,by rw [hx];simp [Lit.sameKey,strOf]⟩
 ·rintro ⟨p,hp,hs⟩
  obtain ⟨v,hv⟩:=hko p hp
  obtain ⟨x,_,hx,_⟩:=Maps.keyOf_str hk hv
  rw [hx] at hs
  exact ⟨p,hp,by rw [hx];simpa [Lit.sameKey,strOf] using hs⟩
theorem nodup_strKeys (h:w.ownsMap P k R b n D) (K:Keyed P k) (hk:P.underlying k=some .string):(strKeys D).Nodup:=by
 obtain ⟨es,hD,hpw,_⟩:=h.entries K
 obtain ⟨es',hD',hko⟩:=h.keysOf
 obtain rfl:es=es':=by rw [hD] at hD';simpa using hD'
 subst hD
 show (es.map fun p=>strOf p.1).Nodup
 refine List.pairwise_map.2 (hpw.imp_of_mem fun {p q} hp' hq' hne e=>hne ?_)
 obtain ⟨v,hv⟩:=hko p hp'
 obtain ⟨x,_,hx,_⟩:=Maps.keyOf_str hk hv
 obtain ⟨v',hv'⟩:=hko q hq'
 obtain ⟨x',_,hx',_⟩:=Maps.keyOf_str hk hv'
 rw [hx,hx'] at e ⊢
 exact congrArg _ e
end
theorem row_shape {w:World} {base e k n:Nat} {v:Value} {xs:List Value} (h:w.ownsRow base e k v n xs):∃ (ad:Option Addr) (q c:Nat),v=.slice ad q c:=by
 rcases h.2 with ⟨rfl,_⟩|⟨g,cap,cur,rfl,_⟩
 ·exact ⟨_,_,_,rfl⟩
 ·exact ⟨_,_,_,rfl⟩
theorem flat_baL (l:List (List UInt8)):flat encS (l.map baL)=l.map encStr:=by
 unfold flat
 induction l with
 | nil=>rfl
 | cons x l ih=>rw [List.map_cons,List.flatMap_cons,ih,List.map_cons];rfl
def fnd (a b:List CellD) (f:ByteArray→Option Bool) (P:ByteArray→Prop):Prop:=∀ s,(f s).isSome=true ↔ P s∧dfP a b s
theorem fnd_put {a b:List CellD} {f:ByteArray→Option Bool} {P P':ByteArray→Prop} {x:ByteArray} (h:fnd a b f P) (hx:dfP a b x) (hP:∀ s,P' s ↔ P s∨s=x):fnd a b (putM f x true) P':=fun s=>by
 unfold putM
 by_cases e:s=x
 ·rw [if_pos e];subst e
  exact ⟨fun _=>⟨(hP s).2 (.inr rfl),hx⟩,fun _=>rfl⟩
 ·rw [if_neg e,h s,hP]
  exact and_congr_left fun _=>⟨.inl,fun h=>h.resolve_right e⟩
theorem fnd_no {a b:List CellD} {f:ByteArray→Option Bool} {P P':ByteArray→Prop} {x:ByteArray} (h:fnd a b f P) (hx:¬ dfP a b x) (hP:∀ s,P' s ↔ P s∨s=x):fnd a b f P':=fun s=>by
 rw [h s,hP]
 constructor
 ·exact fun h=>⟨.inl h.1,h.2⟩
 ·rintro ⟨h1|rfl,h2⟩
  ·exact ⟨h1,h2⟩
  ·exact absurd h2 hx
structure DG where
 left:ByteArray→Bool
 cnt:Nat
 f:ByteArray→Option Bool
 n:Nat
theorem At.frame0N {w w':World} {L N:List Atom} (h:At w L) (hm:Mv [] w N w'):Mv L w (N++L) w':=by
 have:=At.frame (New:=N) h [] rfl hm
 rw [del_none] at this
 exact this
def PLst (w:World) (l:List ByteArray) (e:Ending) (w':World):Prop:=∃ s:GL ByteArray,e=.returned s.val∧Mv [] w [owG 9 1 encS okS s] w'∧s.l=l
set_option maxRecDepth 100000 in
set_option maxHeartbeats 4000000 in
theorem diffKeys_k {w:World} {H:Nat→Prop} {a b:List CellD} {aa ab:Option Addr} {an ac bn bc:Nat} (hT:TbO w []) (ha:Rd 2 encC okC H w (.slice aa an ac) a) (hb:Rd 2 encC okC H w (.slice ab bn bc) b) (hqa:an≤137438953472) (hqb:bn≤137438953472):Calls Tryz.prog 116 #[.slice aa an ac,.slice ab bn bc] w (PLst w (diffL a b)):=by
 have M:St [] w [] w:=⟨Mv.refl (At.nil _),hT⟩
 refine zE (f:=116) fun _ F=>?_
 refine l_op (kMp F M (hc:=valuesOf_k M.nil.tb ha (by omega)) (kk:=fun ba na w hna M=>zk fun _ F=>?_))
 have hb1:=(Rd.start (L:=[]) hb fun _ _=>fps_nil _).mq M.mv
 refine l_op (kMp F M (hc:=valuesOf_k M.nil.tb hb1 (by omega)) (kk:=fun bb nb w hnb M=>zk fun _ F=>?_))
 refine l_op (kMk (rd:=Lit.bool) 9 4 F M (kk:=fun bd w M=>zk fun _ F=>?_))
 refine l_op (kRange kyS Tryz.underlying203 F M 2 (kk:=fun r cnt w hcnt M=>zk fun _ F=>?_))
 have F:=F.cut (m':=[(5,_),(6,_),(7,_),(18,_)]) rfl
 refine kLoop (γ:=DG) (slots:=fun _=>[]) (LL:=fun g=>[rgA Tryz.prog 9 9 keyL ba r na (valF a) g.left g.cnt,mpA Tryz.prog 9 4 Lit.bool bd g.n g.f,mpA Tryz.prog 9 9 keyL bb nb (valF b)]) (pr:=fun g=>g.n+g.cnt≤an∧(∀ s,g.left s=true→(valF a s).isSome=true)∧fnd a b g.f fun s=>(valF a s).isSome=true∧g.left s=false) (g0:=⟨fun s=>(valF a s).isSome,cnt,fun _=>none,0⟩) (fun g=>g.cnt) F M ⟨by dsimp only;omega,fun _ h=>h,fun s=>⟨fun h=>(by cases h),fun h=>absurd (h.1.1.symm.trans h.1.2) (by decide)⟩⟩ fun g ac w F M hp=>?_
 refine zr2 fun _ F=>?_
 refine l_op (kNext kyS Tryz.underlying9 elS F M 0 (kend:=fun hl=>zk fun _ F=>?_) (kk:=fun x y cnt' w hx hlx hsx hlt hen M=>zk fun _ F=>?_))
 ·have M:=M.rgEnd
  refine l_op (kRange kyS Tryz.underlying203 F M 2 (kk:=fun r2 cnt2 w hcnt2 M=>zk fun _ F=>?_))
  have F:=F.cut (m':=[(5,_),(6,_),(7,_),(32,_)]) rfl
  refine kLoop (γ:=DG) (slots:=fun _=>[]) (LL:=fun g=>[rgA Tryz.prog 9 9 keyL bb r2 nb (valF b) g.left g.cnt,mpA Tryz.prog 9 9 keyL ba na (valF a),mpA Tryz.prog 9 4 Lit.bool bd g.n g.f]) (pr:=fun g=>g.n+g.cnt≤an+bn∧(∀ s,g.left s=true→(valF b s).isSome=true)∧fnd a b g.f fun s=>(valF a s).isSome=true∨((valF b s).isSome=true∧g.left s=false)) (g0:=⟨fun s=>(valF b s).isSome,cnt2,g.f,g.n⟩) (fun g=>g.cnt) F M ⟨by dsimp only;omega,fun _ h=>h,fun s=>?_⟩ fun g2 ac w F M hp2=>?_
  ·rw [hp.2.2 s]
   constructor
   ·exact fun h=>⟨.inl h.1.1,h.2⟩
   ·rintro ⟨h1|h1,h2⟩
    ·exact ⟨⟨h1,hl s⟩,h2⟩
    ·exact absurd (h1.1.symm.trans h1.2) (by decide)
  refine zr2 fun _ F=>?_
  refine l_op (kNext kyS Tryz.underlying9 elS F M 0 (kend:=fun hl2=>zk fun _ F=>?_) (kk:=fun x y cnt' w hx hlx hsx hlt hen M=>zk fun _ F=>?_))
  ·obtain ⟨D0,hD,hR⟩:=mpA_owns M.at' 2 rfl
   have hsz:Maps.size D0≤g2.n:=owns_size hD
   refine l_op (st_call F (callsIn_wide.1 (it_maps_Keys_158 (some bd) w)) rfl rfl rfl rfl rfl rfl fun e w1 h=>⟨_,h.1,?_⟩)
   rw [h.2]
   intro _ F
   have M:=M.then (by
    have:=At.frame M.at' [] rfl (mv_alloc w [.map (some bd)] 205)
    rw [del_none] at this
    exact this)
   refine l_op (st_call F (callsIn_wide.1 (it_slices_Sorted_keys_157_158 bd g2.n D0 _ w hD (by unfold maxLen;omega) (by omega))) rfl rfl rfl rfl rfl rfl fun e w2 h=>?_)
   obtain ⟨vv,ss,rfl,hperm,hrow,_,hbel⟩:=h
   obtain ⟨ad,nq,nc,rfl⟩:=row_shape hrow
   refine ⟨_,rfl,fun _ F=>?_⟩
   have hlen:((ss.mergeSort leB).map baL).length=ss.length:=by rw [List.length_map,List.length_mergeSort]
   have hO:Own 9 1 encS okS w2 (.slice ad nq nc) ((ss.mergeSort leB).map baL):=by
    refine ⟨?_,fun x hx=>?_⟩
    ·rw [hlen,flat_baL]
     exact ownsRow_bump hrow fun _ _=>Nat.zero_le _
    ·obtain ⟨y,hy,rfl⟩:=List.mem_map.1 hx
     have h1:=strKeys_le hD Tryz.underlying9 y (hperm.mem_iff.1 ((List.mergeSort_perm ss leB).mem_iff.1 hy))
     simpa [baL,okS,ByteArray.size,maxLen] using h1
   have hM:=At.frame0N M.at' (Bl.mv_new (At.one (A:=ow 9 1 encS okS (.slice ad nq nc) ((ss.mergeSort leB).map baL)) hO fun q hq=>(hrow.lt q hq).2) (fun q hq=>by rw [fps_one] at hq;exact (hrow.lt q hq).1) hbel)
   have M:=(M.then hM).pick [0] [_]
   refine zr2 fun _ F=>?_
   refine x_done F (results_1 rfl (zta F)) ?_
   refine ⟨⟨ad,nq,nc,(ss.mergeSort leB).map baL⟩,rfl,M.mv,srtL_ext (srt_of (hperm.nodup_iff.2 (nodup_strKeys hD kyS Tryz.underlying9))) (diffL_srt a b) fun x=>?_⟩
   have hx:x ∈ (ss.mergeSort leB).map baL ↔ Maps.has D0 (keyL x)=true:=by
    rw [List.mem_map]
    constructor
    ·rintro ⟨y,hy,rfl⟩
     have:=(mem_strKeys hD Tryz.underlying9 y).1 (hperm.mem_iff.1 ((List.mergeSort_perm ss leB).mem_iff.1 hy))
     simpa [keyL,baL] using this
    ·intro h
     exact ⟨x.data.toList,(List.mergeSort_perm ss leB).mem_iff.2 (hperm.mem_iff.2 ((mem_strKeys hD Tryz.underlying9 _).2 h)),by simp [baL]⟩
   rw [hx,(hR x).1,hp2.2.2 x,diffL_iff,← valF_has,← valF_has]
   simp [hl2,dfP]
  ·refine l_op (kEntry hen F (kk:=zk fun _ F=>?_))
   refine l_op (kLook kyS elS Tryz.underlying203 Tryz.underlying9 zvS (Nat.zero_le _) hsx (mpA_owns M.at' 1 rfl) F (kk:=zk fun _ F=>?_))
   have hdf:((valF a x).getD ⟨#[]⟩≠y) ↔ dfP a b x:=by
    unfold dfP
    rw [← valF_get,← valF_get,hx];exact Iff.rfl
   have hP:∀ s,((valF a s).isSome=true∨((valF b s).isSome=true∧(g2.left s && !decide (s=x))=false)) ↔ ((valF a s).isSome=true∨((valF b s).isSome=true∧g2.left s=false))∨s=x:=fun s=>by
    by_cases e:s=x
    ·subst e;simp [hx]
    ·simp [e]
   refine zi F (fun h1=>?_) fun h1=>?_
   ·refine zr2 fun _ F=>?_
    refine l_op (kUpd (n:=g2.n) (v:=true) kyS elB Tryz.underlying205 Tryz.underlying9 hsx trivial (by unfold maxLen;omega) F M 2 (kk:=fun w M=>zk fun _ F=>?_))
    have M:=M.pick [1,2,0] [_,_,_]
    exact lend ⟨fun t=>g2.left t && !decide (t=x),cnt',putM g2.f x true,g2.n+1⟩ hlt ⟨F.cut rfl,M,⟨by dsimp only;omega,fun s h=>hp2.2.1 s (by simp at h;exact h.1),fnd_put hp2.2.2 (hdf.1 h1) hP⟩⟩
   ·refine zr2 fun _ F=>?_
    exact lend ⟨fun t=>g2.left t && !decide (t=x),cnt',g2.f,g2.n⟩ hlt ⟨F.cut rfl,M,⟨by dsimp only;omega,fun s h=>hp2.2.1 s (by simp at h;exact h.1),fnd_no hp2.2.2 (fun h=>h1 (hdf.2 h)) hP⟩⟩
 ·refine l_op (kEntry hen F (kk:=zk fun _ F=>?_))
  refine l_op (kLook kyS elS Tryz.underlying203 Tryz.underlying9 zvS (Nat.zero_le _) hsx (mpA_owns M.at' 2 rfl) F (kk:=zk fun _ F=>?_))
  have hdf:((valF b x).getD ⟨#[]⟩≠y) ↔ dfP a b x:=by
   unfold dfP
   rw [← valF_get,← valF_get,hx];exact ne_comm
  have hP:∀ s,((valF a s).isSome=true∧(g.left s && !decide (s=x))=false) ↔ ((valF a s).isSome=true∧g.left s=false)∨s=x:=fun s=>by
   by_cases e:s=x
   ·subst e;simp [hx]
   ·simp [e]
  refine zi F (fun h1=>?_) fun h1=>?_
  ·refine zr2 fun _ F=>?_
   refine l_op (kUpd (n:=g.n) (v:=true) kyS elB Tryz.underlying205 Tryz.underlying9 hsx trivial (by unfold maxLen;omega) F M 1 (kk:=fun w M=>zk fun _ F=>?_))
   have M:=M.pick [1,0,2] [_,_,_]
   exact lend ⟨fun t=>g.left t && !decide (t=x),cnt',putM g.f x true,g.n+1⟩ hlt ⟨F.cut rfl,M,⟨by dsimp only;omega,fun s h=>hp.2.1 s (by simp at h;exact h.1),fnd_put hp.2.2 (hdf.1 h1) hP⟩⟩
  ·refine zr2 fun _ F=>?_
   exact lend ⟨fun t=>g.left t && !decide (t=x),cnt',g.f,g.n⟩ hlt ⟨F.cut rfl,M,⟨by dsimp only;omega,fun s h=>hp.2.1 s (by simp at h;exact h.1),fnd_no hp.2.2 (fun h=>h1 (hdf.2 h)) hP⟩⟩
theorem tbO_of {H:Nat→Prop} {w:World} (t0:Tb 0 H w) (t1:Tb 1 H w) (t2:Tb 2 H w):TbO w []:=
 ⟨⟨t0.1,t1.1,t2.1⟩,fun K g hg=>⟨by
  match K,hg with
  | 0,hg=>exact (t0.2 g hg).2
  | 1,hg=>exact (t1.2 g hg).2
  | _+2,hg=>exact (t2.2 g hg).2,fps_nil _⟩⟩
end
end Go.Proofs.YtipdbeklopjbmaaGreatDoor
