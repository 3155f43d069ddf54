/-
  Contracts: (*Touch).join in place, impl.JoinTouch and spec.JoinTouch: both give the same lists.
-/
import Derived.Test.YtbbkihijhdpliaaTouch2
import Derived.Deep.DeepCutAuto
import Derived.Deep.CutRange
import Derived.Deep.Light
namespace Go.Proofs.Ytbbkihijhdpliaa
open Go.ChangeShapes Go.WideShapes Go.ChangeAt Go.RowKit
set_option maxHeartbeats 1000000
set_option maxRecDepth 100000

theorem joinL_take (l m : List ByteArray) (i : Nat) (x : ByteArray) (h : m[i]? = some x) : joinL l (m.take (i + 1)) = putL (joinL l (m.take i)) x := by
  have hi : i < m.length := (List.getElem?_eq_some_iff.1 h).1
  have hx : m[i] = x := (List.getElem?_eq_some_iff.1 h).2
  rw [List.take_succ_eq_append_getElem hi, hx]
  simp [joinL]
theorem joinL_length (l m : List ByteArray) : (joinL l m).length ≤ l.length + m.length := by
  induction m generalizing l with
  | nil => simp [joinL]
  | cons x m ih =>
    have h1 := ih (putL l x)
    have h2 := putL_length l x
    simp only [joinL, List.foldl_cons, List.length_cons] at *
    omega
theorem heap_setCell_at {w : World} {b : Nat} {cs : Array Value} {t : TypeId} (h : w.heap[b]? = some (.cells cs t (0, 0))) (o : Nat) (v : Value) : (w.setCell ⟨b, o, none⟩ v).heap[b]? = some (.cells (cs.setIfInBounds o v) t (0, 0)) := by
  simp [World.setCell, Array.getElem?_modify, h]

/-- An access set in a variable: block bt; its two slices owned. -/
def PTouch (w : World) (bt : Nat) (t : TouchD) (S : List Nat) : Prop :=
  ∃ a1 n1 c1 a2 n2 c2, w.heap[bt]? = some (.cells #[.slice a1 n1 c1, .slice a2 n2 c2] 26 (0, 0)) ∧ OTouch w (.slice a1 n1 c1) (.slice a2 n2 c2) t S ∧ bt ∉ S

theorem PTouch.keep {w w' : World} {bt : Nat} {t : TouchD} {S T : List Nat} (h : PTouch w bt t S) (hk : KeepBut T w w') (hS : ∀ b ∈ bt :: S, b ∉ T) : PTouch w' bt t S := by
  obtain ⟨a1, n1, c1, a2, n2, c2, h1, h2, h3⟩ := h
  exact ⟨a1, n1, c1, a2, n2, c2, hk.heapOf h1 (hS bt (by simp)), h2.keep hk (fun b hb => hS b (by simp [hb])), h3⟩
theorem PTouch.lt {w : World} {bt : Nat} {t : TouchD} {S : List Nat} (h : PTouch w bt t S) : ∀ b ∈ bt :: S, b < w.heap.size := by
  obtain ⟨a1, n1, c1, a2, n2, c2, h1, h2, h3⟩ := h
  intro b hb
  rcases List.mem_cons.1 hb with rfl | hb
  · exact (Array.getElem?_eq_some_iff.1 h1).1
  · exact h2.lt b hb

/-- One slice of a pair is replaced: behind an in-place change and the store of the new value. -/
theorem pair_set {wr w1 : World} {x y : Value} {lx ly l' : List ByteArray} {a : Option Addr} {n c bt o : Nat} (hx : OStrs wr x lx) (hy : OStrs wr y ly) (hd : ∀ b ∈ x.ownBlock.toList, ∀ d ∈ y.ownBlock.toList, b ≠ d)
    (hbx : bt ∉ x.ownBlock.toList) (hby : bt ∉ y.ownBlock.toList) (hbw : bt < wr.heap.size)
    (hO1 : OStrs w1 (.slice a n c) l') (hk : KeepBut x.ownBlock.toList wr w1) (hm : Moved wr x (.slice a n c)) :
    OStrs (w1.setCell ⟨bt, o, none⟩ (.slice a n c)) (.slice a n c) l' ∧ OStrs (w1.setCell ⟨bt, o, none⟩ (.slice a n c)) y ly ∧ (∀ b ∈ (Value.slice a n c).ownBlock.toList, ∀ d ∈ y.ownBlock.toList, b ≠ d) ∧
      bt ∉ (Value.slice a n c).ownBlock.toList ∧ KeepBut (bt :: x.ownBlock.toList) wr (w1.setCell ⟨bt, o, none⟩ (.slice a n c)) := by
  have hbn : bt ∉ (Value.slice a n c).ownBlock.toList := fun h => (hm bt h).elim hbx (by omega)
  have hk2 : KeepBut [bt] w1 (w1.setCell ⟨bt, o, none⟩ (.slice a n c)) := (KeepBut.refl _ _).setCell (.inl (by simp)) _
  refine ⟨hO1.keep hk2 fun b hb h => ?_, (hy.keep hk fun b hb h => hd b h b hb rfl).keep hk2 fun b hb h => ?_, fun b hb d hd' => ?_, hbn, ?_⟩
  · simp at h; subst h; exact hbn hb
  · simp at h; subst h; exact hby hb
  · rcases hm b hb with h | h
    · exact hd b h d hd'
    · have := hy.lt d hd'; omega
  · exact (hk.mono fun x hx => .inl (List.mem_cons_of_mem _ hx)).trans hk2 fun x hx => .inl (by simp at hx; simp [hx])

theorem PTouch.setReads {wr w1 : World} {bt : Nat} {r : Value} {a2 : Option Addr} {n2 c2 : Nat} {t : TouchD} {S : List Nat} (hh : wr.heap[bt]? = some (.cells #[r, .slice a2 n2 c2] 26 (0, 0))) (hO : OTouch wr r (.slice a2 n2 c2) t S) (hbt : bt ∉ S)
    {a : Option Addr} {n c : Nat} {l' : List ByteArray} (hO1 : OStrs w1 (.slice a n c) l') (hk : KeepBut r.ownBlock.toList wr w1) (hm : Moved wr r (.slice a n c)) :
    ∃ S', PTouch (w1.setCell ⟨bt, 0, none⟩ (.slice a n c)) bt ⟨l', t.writes⟩ S' ∧ KeepBut (bt :: S) wr (w1.setCell ⟨bt, 0, none⟩ (.slice a n c)) ∧ (∀ b ∈ S', b ∈ S ∨ wr.heap.size ≤ b) := by
  obtain ⟨h1, h2, rfl, h4⟩ := hO
  have hbr : bt ∉ r.ownBlock.toList := fun h => hbt (List.mem_append_left _ h)
  have hbu : bt ∉ (Value.slice a2 n2 c2).ownBlock.toList := fun h => hbt (List.mem_append_right _ h)
  obtain ⟨g1, g2, g3, g4, g5⟩ := pair_set (o := 0) h1 h2 (List.nodup_append.1 h4).2.2 hbr hbu (Array.getElem?_eq_some_iff.1 hh).1 hO1 hk hm
  have hh1 := heap_setCell_at (hk.heapOf hh hbr) 0 (.slice a n c)
  refine ⟨_, ⟨_, _, _, _, _, _, by simpa using hh1, ⟨g1, g2, rfl, own_nodup2 g3⟩, fun h => ?_⟩, g5.mono fun x hx => .inl ?_, fun b hb => ?_⟩
  · exact (List.mem_append.1 h).elim g4 hbu
  · rcases List.mem_cons.1 hx with rfl | hx
    · simp
    · exact List.mem_cons_of_mem _ (List.mem_append_left _ hx)
  · rcases List.mem_append.1 hb with hb | hb
    · exact (hm b hb).imp (List.mem_append_left _) id
    · exact .inl (List.mem_append_right _ hb)
theorem PTouch.setWrites {wr w1 : World} {bt : Nat} {u : Value} {a1 : Option Addr} {n1 c1 : Nat} {t : TouchD} {S : List Nat} (hh : wr.heap[bt]? = some (.cells #[.slice a1 n1 c1, u] 26 (0, 0))) (hO : OTouch wr (.slice a1 n1 c1) u t S) (hbt : bt ∉ S)
    {a : Option Addr} {n c : Nat} {l' : List ByteArray} (hO1 : OStrs w1 (.slice a n c) l') (hk : KeepBut u.ownBlock.toList wr w1) (hm : Moved wr u (.slice a n c)) :
    ∃ S', PTouch (w1.setCell ⟨bt, 1, none⟩ (.slice a n c)) bt ⟨t.reads, l'⟩ S' ∧ KeepBut (bt :: S) wr (w1.setCell ⟨bt, 1, none⟩ (.slice a n c)) ∧ (∀ b ∈ S', b ∈ S ∨ wr.heap.size ≤ b) := by
  obtain ⟨h1, h2, rfl, h4⟩ := hO
  have hbr : bt ∉ (Value.slice a1 n1 c1).ownBlock.toList := fun h => hbt (List.mem_append_left _ h)
  have hbu : bt ∉ u.ownBlock.toList := fun h => hbt (List.mem_append_right _ h)
  obtain ⟨g1, g2, g3, g4, g5⟩ := pair_set (o := 1) h2 h1 (fun b hb d hd e => (List.nodup_append.1 h4).2.2 d hd b hb e.symm) hbu hbr (Array.getElem?_eq_some_iff.1 hh).1 hO1 hk hm
  have hh1 := heap_setCell_at (hk.heapOf hh hbu) 1 (.slice a n c)
  refine ⟨_, ⟨_, _, _, _, _, _, by simpa using hh1, ⟨g2, g1, rfl, own_nodup2 fun b hb d hd e => g3 d hd b hb e.symm⟩, fun h => ?_⟩, g5.mono fun x hx => .inl ?_, fun b hb => ?_⟩
  · exact (List.mem_append.1 h).elim hbr g4
  · rcases List.mem_cons.1 hx with rfl | hx
    · simp
    · exact List.mem_cons_of_mem _ (List.mem_append_right _ hx)
  · rcases List.mem_append.1 hb with hb | hb
    · exact .inl (List.mem_append_left _ hb)
    · exact (hm b hb).imp (List.mem_append_right _) id

theorem join_c (bt : Nat) (r' u' : Value) (wb w : World) (t o : TouchD) (S : List Nat) (hp : PTouch w bt t S) (hb : Bl wb w) (hS : ∀ b ∈ bt :: S, wb.heap.size ≤ b) (ho : RTouch wb r' u' o) (hst : smT t) (hso : smT o) :
    Calls Try.prog 72 #[.pointer (some ⟨bt, 0, none⟩), .agg #[r', u']] w fun e w' => ∃ S', e = .returned (.tuple #[]) ∧ PTouch w' bt (joinT t o) S' ∧ KeepBut (bt :: S) w w' ∧ (∀ b ∈ S', b ∈ S ∨ w.heap.size ≤ b) := by
  obtain ⟨hor, how⟩ := ho
  obtain ⟨ar, capr, rfl, hler, hlr63, -, -⟩ := hor.inv
  obtain ⟨aw, capw, rfl, hlew, hlw63, -, -⟩ := how.inv
  have hplt := hp.lt
  have hB0 : Bl w (w.alloc (.cells #[.slice ar o.reads.length capr, .slice aw o.writes.length capw] 26)) := (Bl.refl w).alloc _
  have hp0 : PTouch (w.alloc (.cells #[.slice ar o.reads.length capr, .slice aw o.writes.length capw] 26)) bt t S := hp.keep (hB0.keep []) (by simp)
  have hwbw := hb.size
  have Hor := Lib.hid hor; have How := Lib.hid how; have Hb := Lib.hid hb; have HS := Lib.hid hS; have Hp0 := Lib.hid hp0; have HB0 := Lib.hid hB0; have Hplt := Lib.hid hplt
  obtain ⟨s1, s2⟩ := hst
  obtain ⟨s3, s4⟩ := hso
  have hjr : ∀ i, i ≤ o.reads.length → (joinL t.reads (o.reads.take i)).length ≤ 2097152 := fun i hi => by have := joinL_length t.reads (o.reads.take i); simp at this; omega
  have hjw : ∀ i, i ≤ o.writes.length → (joinL t.writes (o.writes.take i)).length ≤ 2097152 := fun i hi => by have := joinL_length t.writes (o.writes.take i); simp at this; omega
  have Hjr := Lib.hid hjr; have Hjw := Lib.hid hjw
  have htk := fun i x => joinL_take t.reads o.reads i x
  have htk2 := fun i x => joinL_take t.writes o.writes i x
  have Htk := Lib.hid htk; have Htk2 := Lib.hid htk2
  obtain ⟨lr, hlr⟩ : ∃ lr, o.reads.length = lr := ⟨_, rfl⟩
  obtain ⟨lw, hlw⟩ : ∃ lw, o.writes.length = lw := ⟨_, rfl⟩
  rw [hlr] at hler hlr63 s3 Hor Hp0 HB0 Hjr ⊢
  rw [hlw] at hlew hlw63 s4 How Hp0 HB0 Hjw ⊢
  have Hlr := Lib.hid hlr; have Hlw := Lib.hid hlw
  clear hor how hb hS hp hp0 hB0 hplt hjr hjw htk htk2 hlr hlw
  go_enter Try.func72, Try.ntmps72
  go_wp2
  go_loopw [5, 11] (fun _ i wr => ∃ (k : Nat) (S' : List Nat), k ≤ lr ∧ i = .int .i64 k ∧ PTouch wr bt ⟨joinL t.reads (o.reads.take k), t.writes⟩ S' ∧ KeepBut (bt :: S) (w.alloc (.cells #[.slice ar lr capr, .slice aw lw capw] 26)) wr ∧ (∀ b ∈ S', b ∈ S ∨ w.heap.size + 1 ≤ b)) (fun _ i _ => lr - (intOf i).toNat)
  case atStart => exact ⟨0, S, by omega, rfl, Hp0.out, KeepBut.refl _ _, fun b hb => .inl hb⟩
  case round =>
    obtain ⟨k, S', hk, rfl, hP, hK, hM⟩ := hrel
    have hblk : Bl wb wr := hK.under (Hb.out.trans ((Bl.refl w).alloc _)) HS.out
    by_cases hlt : k < lr
    · obtain ⟨b, off, x, rfl, hx, hxs, cx⟩ := RStrs.at (RStrs.below Hor.out hblk) k (by omega)
      have hxo : okS x := hxs
      obtain ⟨a1, n1, c1, a2, n2, c2, hh, hO, hbt⟩ := hP
      have hbtr : bt ∉ (Value.slice a1 n1 c1).ownBlock.toList := by obtain ⟨_, _, rfl, _⟩ := hO; exact fun h => hbt (List.mem_append_left _ h)
      have kc : wr.cell? ⟨bt, 0, none⟩ = some (.slice a1 n1 c1) := by simp [World.cell?, hh]
      have hset := fun w1 a n c l' (h1 : OStrs w1 (.slice a n c) l') (h2 : KeepBut (Value.slice a1 n1 c1).ownBlock.toList wr w1) (h3 : Moved wr (.slice a1 n1 c1) (.slice a n c)) => PTouch.setReads hh hO hbt h1 h2 h3
      have hfz : ∀ w1, KeepBut (Value.slice a1 n1 c1).ownBlock.toList wr w1 → w1.frozen? ⟨bt, 0, none⟩ = false := fun w1 h => by have := h.heapOf hh hbtr; simp only [World.frozen?, this]; simp
      have HO := Lib.hid hO.1; have Hset := Lib.hid hset; have Hfz := Lib.hid hfz; have HK := Lib.hid hK; have HM := Lib.hid hM; have Hx := Lib.hid hx; have Hbtr := Lib.hid hbtr
      have hws := hK.size
      simp only [World.size_alloc] at hws
      clear hO hset hfz hK hM hx hbtr hh hbt hblk
      go_wp2_with (go_at_call 78; ((with_reducible refine (addSpan_s (.slice a1 n1 c1) x _ (joinL t.reads (o.reads.take k)) HO.out hxo (by have := Hjr.out k hk; omega)).mono ?_); rintro e w1 ⟨a, n, c, rfl, hO1, hk1, hm1⟩; have kc1 := hk1.cellOf kc Hbtr.out; have kf1 := Hfz.out w1 hk1; have Hfin := Lib.hid (Hset.out w1 a n c _ hO1 hk1 hm1); clear hO1 hk1 hm1))
      go_roundw
      case rel =>
        obtain ⟨S'', g1, g2, g3⟩ := Hfin.out
        refine ⟨k + 1, S'', by omega, by go_num, by rw [Htk.out k x Hx.out]; exact g1, HK.out.trans g2 ?_, fun b hb => ?_⟩
        · intro y hy
          rcases List.mem_cons.1 hy with rfl | hy
          · exact .inl (by simp)
          · exact (HM.out y hy).imp (List.mem_cons_of_mem _) (fun h => by simp; omega)
        · exact (g3 b hb).elim (HM.out b) (fun h => .inr (by omega))
      case measure => simp [intOf]; omega
    · obtain rfl : k = lr := by omega
      have hall : joinL t.reads (o.reads.take k) = joinL t.reads o.reads := by rw [List.take_of_length_le (by have := Hlr.out; omega)]
      rw [hall] at hP
      have hNS : w.heap.size ∉ bt :: S := fun h => by have := Hplt.out _ h; omega
      have kb1 : wr.cell? ⟨w.heap.size, 1, none⟩ = some (.slice aw lw capw) := hK.cellOf (by go_simp) hNS
      have HP := Lib.hid hP; have HK := Lib.hid hK; have HM := Lib.hid hM
      have hws := hK.size
      simp only [World.size_alloc] at hws
      obtain ⟨wo, hwo⟩ : ∃ wo : World, wo = wr := ⟨_, rfl⟩
      subst hwo
      clear hall hP hK hM hNS hblk
      go_wp2
      go_loopw [7, 28] (fun _ i wr => ∃ (k' : Nat) (S'' : List Nat), k' ≤ lw ∧ i = .int .i64 k' ∧ PTouch wr bt ⟨joinL t.reads o.reads, joinL t.writes (o.writes.take k')⟩ S'' ∧ KeepBut (bt :: S') wo wr ∧ (∀ b ∈ S'', b ∈ S' ∨ wo.heap.size ≤ b)) (fun _ i _ => lw - (intOf i).toNat)
      case atStart => exact ⟨0, S', by omega, rfl, HP.out, KeepBut.refl _ _, fun b hb => .inl hb⟩
      case round =>
        obtain ⟨k', S'', hk', rfl, hP, hK, hM⟩ := hrel
        have hKw : KeepBut (bt :: S) (w.alloc (.cells #[.slice ar k capr, .slice aw lw capw] 26)) wr := HK.out.trans hK fun y hy => by
          rcases List.mem_cons.1 hy with rfl | hy
          · exact .inl (by simp)
          · exact (HM.out y hy).imp (List.mem_cons_of_mem _) (fun h => by simp; omega)
        have hblk : Bl wb wr := hKw.under (Hb.out.trans ((Bl.refl w).alloc _)) HS.out
        by_cases hlt' : k' < lw
        · obtain ⟨b, off, x, rfl, hx, hxs, cx⟩ := RStrs.at (RStrs.below How.out hblk) k' (by omega)
          have hxo : okS x := hxs
          obtain ⟨a1, n1, c1, a2, n2, c2, hh, hO, hbt⟩ := hP
          have hbtr : bt ∉ (Value.slice a2 n2 c2).ownBlock.toList := by obtain ⟨_, _, rfl, _⟩ := hO; exact fun h => hbt (List.mem_append_right _ h)
          have kc : wr.cell? ⟨bt, 1, none⟩ = some (.slice a2 n2 c2) := by simp [World.cell?, hh]
          have hset := fun w1 a n c l' (h1 : OStrs w1 (.slice a n c) l') (h2 : KeepBut (Value.slice a2 n2 c2).ownBlock.toList wr w1) (h3 : Moved wr (.slice a2 n2 c2) (.slice a n c)) => PTouch.setWrites hh hO hbt h1 h2 h3
          have hfz : ∀ w1, KeepBut (Value.slice a2 n2 c2).ownBlock.toList wr w1 → w1.frozen? ⟨bt, 1, none⟩ = false := fun w1 h => by have := h.heapOf hh hbtr; simp only [World.frozen?, this]; simp
          have HO := Lib.hid hO.2.1; have Hset := Lib.hid hset; have Hfz := Lib.hid hfz; have HK' := Lib.hid hK; have HM' := Lib.hid hM; have Hx := Lib.hid hx; have Hbtr := Lib.hid hbtr
          have hws' := hK.size
          clear hO hset hfz hK hM hx hbtr hh hbt hblk hKw
          go_wp2_with (go_at_call 78; ((with_reducible refine (addSpan_s (.slice a2 n2 c2) x _ (joinL t.writes (o.writes.take k')) HO.out hxo (by have := Hjw.out k' hk'; omega)).mono ?_); rintro e w1 ⟨a, n, c, rfl, hO1, hk1, hm1⟩; have kc1 := hk1.cellOf kc Hbtr.out; have kf1 := Hfz.out w1 hk1; have Hfin := Lib.hid (Hset.out w1 a n c _ hO1 hk1 hm1); clear hO1 hk1 hm1))
          go_roundw
          case rel =>
            obtain ⟨S3, g1, g2, g3⟩ := Hfin.out
            refine ⟨k' + 1, S3, by omega, by go_num, by rw [Htk2.out k' x Hx.out]; exact g1, HK'.out.trans g2 ?_, fun b hb => ?_⟩
            · intro y hy
              rcases List.mem_cons.1 hy with rfl | hy
              · exact .inl (by simp)
              · exact (HM'.out y hy).imp (List.mem_cons_of_mem _) id
            · exact (g3 b hb).elim (HM'.out b) (fun h => .inr (by omega))
          case measure => simp [intOf]; omega
        · obtain rfl : k' = lw := by omega
          have hall : joinL t.writes (o.writes.take k') = joinL t.writes o.writes := by rw [List.take_of_length_le (by have := Hlw.out; omega)]
          rw [hall] at hP
          have HP' := Lib.hid hP; have HKw := Lib.hid hKw; have HM' := Lib.hid hM
          clear hall hP hKw hM hK hblk
          go_wp2
          go_end0
          refine ⟨_, rfl, HP'.out, HKw.out.after ((Bl.refl w).alloc _), fun b hb => ?_⟩
          exact (HM'.out b hb).elim (fun h => (HM.out b h).imp id (fun h => by omega)) (fun h => .inr (by omega))

theorem ptouch_new {w : World} {a1 a2 : Option Addr} {n1 c1 n2 c2 : Nat} {t : TouchD} {S : List Nat} (h : OTouch w (.slice a1 n1 c1) (.slice a2 n2 c2) t S) : PTouch (w.alloc (.cells #[.slice a1 n1 c1, .slice a2 n2 c2] 26)) w.heap.size t S :=
  ⟨_, _, _, _, _, _, heap_alloc_new w _, h.below ((Bl.refl w).alloc _), fun hb => by have := h.lt _ hb; omega⟩

/-- A fresh access set, as a result. -/
def FreshT (w w' : World) (e : Ending) (t : TouchD) : Prop :=
  ∃ a1 n1 c1 a2 n2 c2 S, e = .returned (.agg #[.slice a1 n1 c1, .slice a2 n2 c2]) ∧ OTouch w' (.slice a1 n1 c1) (.slice a2 n2 c2) t S ∧ (∀ b ∈ S, w.heap.size ≤ b) ∧ Bl w w'

theorem iJoinTouch_c (r u r' u' : Value) (w : World) (t o : TouchD) (hr : RTouch w r u t) (ho : RTouch w r' u' o) (hst : smT t) (hso : smT o) :
    Calls Try.prog 15 #[.agg #[r, u], .agg #[r', u']] w fun e w' => FreshT w w' e (joinT t o) := by
  have HB := Lib.hid ((((Bl.refl w).alloc (.cells #[r, u] 26)).alloc (.cells #[r', u'] 26)).alloc (.cells #[.slice none 0 0, .slice none 0 0] 26))
  have Hr := Lib.hid hr; have Ho := Lib.hid ho; have Hst := Lib.hid hst; have Hso := Lib.hid hso
  have e1 : t.reads.length ≤ 549755813888 := by have := hst.1; omega
  have e2 : t.writes.length ≤ 549755813888 := by have := hst.2; omega
  clear hr ho hst hso
  go_enter Try.func15, Try.ntmps15
  go_wp2_with (first | (go_at_call 71; ((with_reducible refine (cloneTouch_c r u _ t (RTouch.below Hr.out HB.out) e1 e2).mono ?_); rintro e w1 ⟨a1, n1, c1, a2, n2, c2, S, rfl, hO, hf, hb⟩; have m1 : w1.cell? ⟨w.heap.size + 1, 0, none⟩ = some r' := hb.cellOf (by go_simp); have m2 : w1.cell? ⟨w.heap.size + 1, 1, none⟩ = some u' := hb.cellOf (by go_simp); have m4 : w1.cell? ⟨w.heap.size + 1 + 1, 0, none⟩ = some (.slice none 0 0) := hb.cellOf (by go_simp); have m5 : w1.cell? ⟨w.heap.size + 1 + 1, 1, none⟩ = some (.slice none 0 0) := hb.cellOf (by go_simp); have m6 : ∀ o, w1.frozen? ⟨w.heap.size + 1 + 1, o, none⟩ = false := fun o => hb.frozenOf (by simp) (by go_simp); have hz1 : w.heap.size + 1 + 1 < w1.heap.size := (by have := hb.size; simp at this; omega); have hz2 : w.heap.size + 1 < w1.heap.size := (by omega); have hz3 : w.heap.size < w1.heap.size := (by omega); have HO := Lib.hid hO; have HF := Lib.hid (show ∀ b ∈ S, w.heap.size + 1 + 1 < b from fun b h => (by have := hf b h; simp at this; omega)); have HB1 := Lib.hid (HB.out.trans hb); clear hO hf hb)) | (go_at_call 72; (refine (join_c w1.heap.size r' u' w _ t o S (ptouch_new HO.out) (HB1.out.alloc _) (by intro b h; rcases List.mem_cons.1 h with rfl | h; (· omega); (· have := HF.out b h; omega)) Ho.out Hst.out Hso.out).mono ?_); rintro e w2 ⟨S', rfl, ⟨a3, n3, c3, a4, n4, c4, hh, hO3, hbt⟩, hk, hm⟩; have hd : w.heap.size + 1 + 1 ∉ w1.heap.size :: S := (by intro h; rcases List.mem_cons.1 h with h | h; (· omega); (· have := HF.out _ h; omega)); have q4 : w2.cell? ⟨w.heap.size + 1 + 1, 0, none⟩ = some (.slice none 0 0) := hk.cellOf (by go_simp) hd; have q5 : w2.cell? ⟨w.heap.size + 1 + 1, 1, none⟩ = some (.slice none 0 0) := hk.cellOf (by go_simp) hd; have q1 : w2.cell? ⟨w1.heap.size, 0, none⟩ = some (.slice a3 n3 c3) := (by simp [World.cell?, hh]); have q2 : w2.cell? ⟨w1.heap.size, 1, none⟩ = some (.slice a4 n4 c4) := (by simp [World.cell?, hh]); have q6 : ∀ o, w2.frozen? ⟨w.heap.size + 1 + 1, o, none⟩ = false := fun o => hk.frozenOf (by simp; omega) (by go_simp) hd; have HO3 := Lib.hid hO3; have HK := Lib.hid hk; have HM := Lib.hid hm; clear hh hO3 hbt hk hm hd m1 m2 m4 m5 m6))
  have hk3 : KeepBut [w.heap.size + 1 + 1] w2 ((w2.setCell ⟨w.heap.size + 1 + 1, 0, none⟩ (.slice a3 n3 c3)).setCell ⟨w.heap.size + 1 + 1, 1, none⟩ (.slice a4 n4 c4)) := ((KeepBut.refl _ _).setCell (.inl (by simp)) _).setCell (.inl (by simp)) _
  have hM : ∀ b ∈ S', w.heap.size + 1 + 1 < b := fun b hb => (HM.out b hb).elim (fun h => HF.out b h) (fun h => by simp at h; omega)
  have hbl : Bl w w2 := HK.out.under (HB1.out.alloc _) (by intro b h; rcases List.mem_cons.1 h with rfl | h; (· omega); (· have := HF.out b h; omega))
  refine bodyPost_ret (v := .agg #[.slice a3 n3 c3, .slice a4 n4 c4]) (by simp [results, Try.results15, go_sem, q4, q5]) rfl ⟨_, _, _, _, _, _, _, rfl, HO3.out.keep hk3 (fun b hb => by have := hM b hb; simp; omega), fun b hb => by have := hM b hb; omega, hk3.under hbl (by simp; omega)⟩

/-- A variable's block of two slices; both are read. -/
def RPair (w : World) (bt : Nat) (t : TouchD) : Prop :=
  ∃ a1 n1 c1 a2 n2 c2, w.heap[bt]? = some (.cells #[.slice a1 n1 c1, .slice a2 n2 c2] 26 (0, 0)) ∧ RTouch w (.slice a1 n1 c1) (.slice a2 n2 c2) t

/-- A row of strings lies apart from a block that holds slices. -/
theorem RStrs.apart {w : World} {v : Value} {l : List ByteArray} {bt : Nat} {cs : Array Value} {t : TypeId} (h : RStrs w v l) (hh : w.heap[bt]? = some (.cells cs t (0, 0))) (hcs : ∀ u ∈ cs.toList, ∀ x, u ≠ .string x) (o : Nat) (u : Value) :
    RStrs (w.setCell ⟨bt, o, none⟩ u) v l := by
  obtain ⟨⟨a, cap, rfl, h1, h2, h3, h4⟩, hp⟩ := h
  refine ⟨⟨a, cap, rfl, h1, h2, h3, fun hl => ?_⟩, hp⟩
  obtain ⟨b, off, rfl, hc⟩ := h4 hl
  refine ⟨b, off, rfl, fun i x hx => ?_⟩
  obtain ⟨row, g1, g2, g3⟩ := hc i x hx
  refine ⟨row, g1, g2, fun j y hy => ?_⟩
  have hcell := g3 j y hy
  rw [← hcell]
  have hb : b ≠ bt := by
    rintro rfl
    obtain ⟨hrow, _⟩ := g2
    subst hrow
    have hy' : y ∈ cs.toList := by
      simp only [World.cell?, hh] at hcell
      have : cs[off + i * 1 + j]? = some y := by simpa using hcell
      exact Array.mem_toList_iff.2 (Array.mem_of_getElem? this)
    cases j with
    | zero => simp [encS] at hy; exact hcs y hy' x hy.symm
    | succ j => simp [encS] at hy
  exact World.cell?_setCell_far _ _ _ _ (fun e => hb e.symm)

theorem RPair.below {w w' : World} {bt : Nat} {t : TouchD} (h : RPair w bt t) (hb : Bl w w') : RPair w' bt t := by
  obtain ⟨a1, n1, c1, a2, n2, c2, h1, h2⟩ := h
  exact ⟨a1, n1, c1, a2, n2, c2, hb.heapOf h1, h2.below hb⟩
theorem RPair.setReads {w w' : World} {bt : Nat} {t : TouchD} {a : Option Addr} {n c : Nat} {l : List ByteArray} (h : RPair w bt t) (hb : Bl w w') (hr : RStrs w' (.slice a n c) l) : RPair (w'.setCell ⟨bt, 0, none⟩ (.slice a n c)) bt ⟨l, t.writes⟩ := by
  obtain ⟨a1, n1, c1, a2, n2, c2, h1, h2, h3⟩ := h.below hb
  exact ⟨_, _, _, _, _, _, by simpa using heap_setCell_at h1 0 (.slice a n c), hr.apart h1 (by simp) _ _, h3.apart h1 (by simp) _ _⟩
theorem RPair.setWrites {w w' : World} {bt : Nat} {t : TouchD} {a : Option Addr} {n c : Nat} {l : List ByteArray} (h : RPair w bt t) (hb : Bl w w') (hr : RStrs w' (.slice a n c) l) : RPair (w'.setCell ⟨bt, 1, none⟩ (.slice a n c)) bt ⟨t.reads, l⟩ := by
  obtain ⟨a1, n1, c1, a2, n2, c2, h1, h2, h3⟩ := h.below hb
  exact ⟨_, _, _, _, _, _, by simpa using heap_setCell_at h1 1 (.slice a n c), h2.apart h1 (by simp) _ _, hr.apart h1 (by simp) _ _⟩

theorem heap_alloc_at {w : World} {k : Nat} {v : Obj} (o : Obj) (h : w.heap[k]? = some v) : (w.alloc o).heap[k]? = some v := ((Bl.refl w).alloc o).heapOf h
theorem heap_alloc_is {w : World} {k : Nat} (o : Obj) (h : k = w.heap.size) : (w.alloc o).heap[k]? = some o := by subst h; exact heap_alloc_new w o
theorem heap_drew_at {w : World} {k : Nat} {v : Obj} (h : w.heap[k]? = some v) : w.drew.heap[k]? = some v := h
theorem RPair.store2 {w : World} {bt : Nat} {a1 a2 : Option Addr} {n1 c1 n2 c2 : Nat} {l m : List ByteArray} (hh : w.heap[bt]? = some (.cells #[.slice none 0 0, .slice none 0 0] 26 (0, 0))) (h1 : RStrs w (.slice a1 n1 c1) l) (h2 : RStrs w (.slice a2 n2 c2) m) :
    RPair ((w.setCell ⟨bt, 0, none⟩ (.slice a1 n1 c1)).setCell ⟨bt, 1, none⟩ (.slice a2 n2 c2)) bt ⟨l, m⟩ := by
  have g1 := heap_setCell_at hh 0 (.slice a1 n1 c1)
  have g2 := heap_setCell_at g1 1 (.slice a2 n2 c2)
  exact ⟨_, _, _, _, _, _, by simpa using g2, (h1.apart hh (by simp) _ _).apart g1 (by simp) _ _, (h2.apart hh (by simp) _ _).apart g1 (by simp) _ _⟩
theorem keep3 {wb w' : World} {p q : Addr} {x y : Value} (h1 : wb.cell? p = some x) (h2 : wb.cell? q = some y) (h : Bl wb w') : w'.cell? p = some x ∧ w'.cell? q = some y ∧ Bl wb w' := ⟨h.cellOf h1, h.cellOf h2, h⟩

/-- As FreshT, but only read later. -/
def GivesT (w w' : World) (e : Ending) (t : TouchD) : Prop :=
  ∃ a1 n1 c1 a2 n2 c2, e = .returned (.agg #[.slice a1 n1 c1, .slice a2 n2 c2]) ∧ RTouch w' (.slice a1 n1 c1) (.slice a2 n2 c2) t ∧ Bl w w'

set_option maxHeartbeats 8000000 in
theorem sJoinTouch_c (r u r' u' : Value) (w : World) (t o : TouchD) (hr : RTouch w r u t) (ho : RTouch w r' u' o) (hst : smT t) (hso : smT o) :
    Calls Try.prog 13 #[.agg #[r, u], .agg #[r', u']] w fun e w' => GivesT w w' e (joinT t o) := by
  obtain ⟨a1, c1, rfl, -, -, -, -⟩ := hr.1.inv
  obtain ⟨a2, c2, rfl, -, -, -, -⟩ := hr.2.inv
  obtain ⟨a3, c3, rfl, hle3, h63a, -, -⟩ := ho.1.inv
  obtain ⟨a4, c4, rfl, hle4, h63b, -, -⟩ := ho.2.inv
  have Hr := Lib.hid hr; have Ho := Lib.hid ho; have Hst := Lib.hid hst; have Hso := Lib.hid hso
  have e1 : t.reads.length ≤ 1048576 := hst.1
  have e2 : t.writes.length ≤ 1048576 := hst.2
  obtain ⟨l1, hl1⟩ : ∃ l1, t.reads.length = l1 := ⟨_, rfl⟩
  obtain ⟨l2, hl2⟩ : ∃ l2, t.writes.length = l2 := ⟨_, rfl⟩
  obtain ⟨l3, hl3⟩ : ∃ l3, o.reads.length = l3 := ⟨_, rfl⟩
  obtain ⟨l4, hl4⟩ : ∃ l4, o.writes.length = l4 := ⟨_, rfl⟩
  have s3 : l3 ≤ 1048576 := by have := hso.1; omega
  have s4 : l4 ≤ 1048576 := by have := hso.2; omega
  have hjr : ∀ i, i ≤ l3 → (joinL t.reads (o.reads.take i)).length ≤ 2097152 := fun i hi => by have := joinL_length t.reads (o.reads.take i); simp at this; omega
  have hjw : ∀ i, i ≤ l4 → (joinL t.writes (o.writes.take i)).length ≤ 2097152 := fun i hi => by have := joinL_length t.writes (o.writes.take i); simp at this; omega
  have Hjr := Lib.hid hjr; have Hjw := Lib.hid hjw
  have Htk := Lib.hid (fun i x => joinL_take t.reads o.reads i x)
  have Htk2 := Lib.hid (fun i x => joinL_take t.writes o.writes i x)
  rw [hl1] at e1 Hr ⊢; rw [hl2] at e2 Hr ⊢; rw [hl3] at hle3 h63a Ho ⊢; rw [hl4] at hle4 h63b Ho ⊢
  have Hl3 := Lib.hid hl3; have Hl4 := Lib.hid hl4
  clear hjr hjw hl3 hl4
  have Hl1 := Lib.hid hl1; have Hl2 := Lib.hid hl2
  obtain ⟨wb, hwb⟩ : ∃ wb, wb = ((w.alloc (.cells #[.slice a1 l1 c1, .slice a2 l2 c2] 26)).alloc (.cells #[.slice a3 l3 c3, .slice a4 l4 c4] 26)).alloc (.cells #[.slice none 0 0, .slice none 0 0] 26) := ⟨_, rfl⟩
  have HB := Lib.hid (show Bl w wb by rw [hwb]; exact (((Bl.refl w).alloc _).alloc _).alloc _)
  have hc0 : wb.cell? ⟨w.heap.size, 0, none⟩ = some (.slice a1 l1 c1) := by rw [hwb]; go_simp
  have hc1 : wb.cell? ⟨w.heap.size, 1, none⟩ = some (.slice a2 l2 c2) := by rw [hwb]; go_simp
  have hwsz : wb.heap.size = w.heap.size + 1 + 1 + 1 := by rw [hwb]; simp
  have hc2 : wb.cell? ⟨w.heap.size + 1, 0, none⟩ = some (.slice a3 l3 c3) := by rw [hwb]; go_simp
  have hc3 : wb.cell? ⟨w.heap.size + 1, 1, none⟩ = some (.slice a4 l4 c4) := by rw [hwb]; go_simp
  have hc4 : wb.cell? ⟨w.heap.size + 1 + 1, 0, none⟩ = some (.slice none 0 0) := by rw [hwb]; go_simp
  have hc5 : wb.cell? ⟨w.heap.size + 1 + 1, 1, none⟩ = some (.slice none 0 0) := by rw [hwb]; go_simp
  have hf : ∀ o, wb.frozen? ⟨w.heap.size + 1 + 1, o, none⟩ = false := by intro o; rw [hwb]; go_simp
  have Hc2 := Lib.hid hc2; have Hc3 := Lib.hid hc3; have Hc4 := Lib.hid hc4; have Hc5 := Lib.hid hc5; have Hf := Lib.hid hf
  have Hwb := Lib.hid hwb
  clear hc2 hc3 hc4 hc5 hf
  clear hr ho hst hso hl1 hl2 hwb
  go_enter Try.func13, Try.ntmps13
  go_upto_region 1 with fail
  go_cut [5] (fun v5 wx => ∃ bt, v5 = .pointer (some ⟨bt, 0, none⟩) ∧ RPair wx bt t ∧ wb.heap.size ≤ bt ∧ Bl wb wx)
  case first =>
    go_region_held3 (fun w' => w'.cell? ⟨w.heap.size, 0, none⟩ = some (.slice a1 l1 c1) ∧ w'.cell? ⟨w.heap.size, 1, none⟩ = some (.slice a2 l2 c2) ∧ Bl wb w') ((go_split_ands; refine keep3 hc0 hc1 ?_; first | exact Bl.trans (by assumption) hb | exact Bl.alloc (by assumption) _ | exact Bl.alloc (Bl.trans (by assumption) hb) _ | exact Bl.setCell (Bl.setCell (by assumption) (Below.size (by assumption)) _) (Below.size (by assumption)) _ | exact Bl.setCell (Bl.setCell (Bl.trans (by assumption) hb) (by simp; omega) _) (by simp; omega) _ | (have hbw := Hwb.out; subst hbw; exact (Bl.refl _).drew))) (first | (go_split_ands; refine step_app0 (ok := okS) strT rfl (.tmp 8) (.tmp 10) (by rfl) _ (.slice a1 l1 c1) t.reads (by rfl) (by rfl) (RStrs.below Hr.out.1 (HB.out.trans (by assumption))) (by rw [Hl1.out]; omega) ?_; intro a7 l7 c7 w3 H3 hb; have hbk3 := hb.block; obtain ⟨bc1, bc2⟩ := bcell hb; have hs3 : wb.heap.size ≤ w3.heap.size := Below.size (Bl.trans (by assumption) hb); try have szw33 : w.heap.size + 1 + 1 + 1 < w3.heap.size := (by have := Below.size hb; simp at this; omega); try have syw33 : w.heap.size + 1 + 1 + 1 < w3.heap.size + 1 := (by have := Below.size hb; simp at this; omega); try have szw34 : w.heap.size + 1 + 1 + 1 + 1 < w3.heap.size := (by have := Below.size hb; simp at this; omega); try have syw34 : w.heap.size + 1 + 1 + 1 + 1 < w3.heap.size + 1 := (by have := Below.size hb; simp at this; omega); try have szw35 : w.heap.size + 1 + 1 + 1 + 1 + 1 < w3.heap.size := (by have := Below.size hb; simp at this; omega)) | (go_split_ands; refine step_app0 (ok := okS) strT rfl (.tmp 12) (.tmp 14) (by rfl) _ (.slice a2 l2 c2) t.writes (by rfl) (by rfl) (RStrs.below Hr.out.2 (HB.out.trans (by assumption))) (by rw [Hl2.out]; omega) ?_; intro a8 l8 c8 w4 H4 hb; have hbk4 := hb.block; have H3' : RStrs w4 (.slice a7 l7 c7) t.reads := (by first | exact RStrs.below H3 hb | exact RStrs.below H3 (Bl.trans ((Bl.refl _).alloc _) hb) | exact RStrs.below H3 (Bl.trans (((Bl.refl _).alloc _).alloc _) hb)); have Hbl4 := Lib.hid (show Bl wb w4 from Bl.trans (by assumption) hb); obtain ⟨bc3, bc4⟩ := bcell hb; have hs4 : wb.heap.size ≤ w4.heap.size := Below.size (Bl.trans (by assumption) hb); try have szw43 : w.heap.size + 1 + 1 + 1 < w4.heap.size := (by have := Below.size hb; simp at this; omega); try have syw43 : w.heap.size + 1 + 1 + 1 < w4.heap.size + 1 := (by have := Below.size hb; simp at this; omega); try have szw44 : w.heap.size + 1 + 1 + 1 + 1 < w4.heap.size := (by have := Below.size hb; simp at this; omega); try have syw44 : w.heap.size + 1 + 1 + 1 + 1 < w4.heap.size + 1 := (by have := Below.size hb; simp at this; omega); try have szw45 : w.heap.size + 1 + 1 + 1 + 1 + 1 < w4.heap.size := (by have := Below.size hb; simp at this; omega)))
    all_goals (go_wp2_with fail; go_meet; go_light)
    all_goals first | exact ⟨_, rfl, ⟨_, _, _, _, _, _, heap_alloc_new _ _, RTouch.below ⟨H3', H4⟩ ((Bl.refl _).alloc _)⟩, hs4, Bl.alloc Hbl4.out _⟩ | (refine ⟨_, rfl, RPair.store2 ?_ H3' H4, ?_, ?_⟩; (iterate 6 (try (first | (with_reducible refine heap_alloc_is _ ?_; focus (simp; done)) | with_reducible refine heap_alloc_at _ ?_ | with_reducible refine heap_drew_at ?_ | (refine (hbk4 _ ?_).trans ?_; focus (first | omega | (simp; done) | (simp; omega))) | (refine (hbk3 _ ?_).trans ?_; focus (first | omega | (simp; done) | (simp; omega)))))); (focus (first | omega | (simp <;> omega))); (refine Bl.setCell (Bl.setCell Hbl4.out ?_ _) ?_ _); (dsimp only; omega); (dsimp only; omega)) | fail
  case rest =>
    obtain ⟨bt, rfl, hP, hbt, hbw⟩ := hcut
    go_wp2
    go_loopw [6] (fun i wr => ∃ k : Nat, k ≤ l3 ∧ i = .int .i64 k ∧ RPair wr bt ⟨joinL t.reads (o.reads.take k), t.writes⟩ ∧ Bl wb wr) (fun i _ => l3 - (intOf i).toNat)
    case atStart => exact ⟨0, by omega, rfl, hP, hbw⟩
    case round =>
      obtain ⟨k, hk, rfl, hP, hB⟩ := hrel
      have x0 : wr.cell? ⟨w.heap.size + 1, 0, none⟩ = some (.slice a3 l3 c3) := hB.cellOf Hc2.out
      by_cases hlt : k < l3
      · obtain ⟨b, off, x, rfl, hx, hxs, cx⟩ := RStrs.at (RStrs.below Ho.out.1 (HB.out.trans hB)) k (by omega)
        have hxo : okS x := hxs
        have hki : (k : Int) < (l3 : Int) := by omega
        have HP := Lib.hid hP
        obtain ⟨a5, n5, c5, a6, n6, c6, hh, hr5, hr6⟩ := hP
        have kc : wr.cell? ⟨bt, 0, none⟩ = some (.slice a5 n5 c5) := by simp [World.cell?, hh]
        have hfz : ∀ w1, Bl wr.drew w1 → w1.frozen? ⟨bt, 0, none⟩ = false := fun w1 h => by have := h.heapOf (show wr.drew.heap[bt]? = _ from hh); simp only [World.frozen?, this]; simp
        have Hfz := Lib.hid hfz; have Hr5 := Lib.hid (RStrs.below hr5 (Bl.refl wr).drew); have HB' := Lib.hid hB; have Hx := Lib.hid hx
        have hfin : ∀ w1 a n c l, Bl wr.drew w1 → RStrs w1 (.slice a n c) l → RPair (w1.setCell ⟨bt, 0, none⟩ (.slice a n c)) bt ⟨l, t.writes⟩ := fun w1 a n c l h1 h2 => RPair.setReads (t := ⟨joinL t.reads (o.reads.take k), t.writes⟩) HP.out (((Bl.refl wr).drew).trans h1) h2
        have Hfin := Lib.hid hfin
        have hbtw : wb.heap.size ≤ (⟨bt, 0, none⟩ : Addr).block := hbt
        have Hbtw := Lib.hid hbtw
        clear hfz hr5 hr6 hB hx hfin hh hbtw
        go_upto_region 5 with fail
        go_region_with (first | (go_at_call 32; ((with_reducible refine (AddSpanS_s (.slice a5 n5 c5) x _ _ Hr5.out hxo (by have := Hjr.out k hk; dsimp only; omega)).mono ?_); rintro e w1 ⟨a7, n7, c7, rfl, H7, hb⟩; have kc1 := hb.cellOf (p := ⟨bt, 0, none⟩) kc; have kf1 := Hfz.out w1 hb; have Hg1 := Lib.hid (Hfin.out w1 a7 n7 c7 _ hb H7); have Hg2 := Lib.hid (Bl.setCell (((HB'.out.drew).trans hb)) Hbtw.out (.slice a7 n7 c7)); clear H7 hb)))
        all_goals (go_wp2_with fail; go_roundw)
        all_goals first | exact ⟨k + 1, by omega, by go_num, by rw [Htk.out k x Hx.out]; exact Hg1.out, Hg2.out⟩ | (simp [intOf]; omega)
      · obtain rfl : k = l3 := by omega
        have hall : joinL t.reads (o.reads.take k) = joinL t.reads o.reads := by rw [List.take_of_length_le (by have := Hl3.out; omega)]
        rw [hall] at hP
        have HP := Lib.hid hP; have HB' := Lib.hid hB
        clear hP hB hall
        go_wp2
        go_loopw [7] (fun i wr => ∃ k' : Nat, k' ≤ l4 ∧ i = .int .i64 k' ∧ RPair wr bt ⟨joinL t.reads o.reads, joinL t.writes (o.writes.take k')⟩ ∧ Bl wb wr) (fun i _ => l4 - (intOf i).toNat)
        case atStart => exact ⟨0, by omega, rfl, HP.out, HB'.out⟩
        case round =>
          obtain ⟨k', hk', rfl, hP, hB⟩ := hrel
          have x0 : wr.cell? ⟨w.heap.size + 1, 1, none⟩ = some (.slice a4 l4 c4) := hB.cellOf Hc3.out
          by_cases hlt' : k' < l4
          · obtain ⟨b, off, x, rfl, hx, hxs, cx⟩ := RStrs.at (RStrs.below Ho.out.2 (HB.out.trans hB)) k' (by omega)
            have hxo : okS x := hxs
            have hki : (k' : Int) < (l4 : Int) := by omega
            have HP := Lib.hid hP
            obtain ⟨a5, n5, c5, a6, n6, c6, hh, hr5, hr6⟩ := hP
            have kc : wr.cell? ⟨bt, 1, none⟩ = some (.slice a6 n6 c6) := by simp [World.cell?, hh]
            have hfz : ∀ w1, Bl wr.drew w1 → w1.frozen? ⟨bt, 1, none⟩ = false := fun w1 h => by have := h.heapOf (show wr.drew.heap[bt]? = _ from hh); simp only [World.frozen?, this]; simp
            have Hfz := Lib.hid hfz; have Hr6 := Lib.hid (RStrs.below hr6 (Bl.refl wr).drew); have HB2 := Lib.hid hB; have Hx := Lib.hid hx
            have hfin : ∀ w1 a n c l, Bl wr.drew w1 → RStrs w1 (.slice a n c) l → RPair (w1.setCell ⟨bt, 1, none⟩ (.slice a n c)) bt ⟨joinL t.reads o.reads, l⟩ := fun w1 a n c l h1 h2 => RPair.setWrites (t := ⟨joinL t.reads o.reads, joinL t.writes (o.writes.take k')⟩) HP.out (((Bl.refl wr).drew).trans h1) h2
            have Hfin := Lib.hid hfin
            have hbtw : wb.heap.size ≤ (⟨bt, 1, none⟩ : Addr).block := hbt
            have Hbtw := Lib.hid hbtw
            clear hfz hr5 hr6 hB hx hfin hh hbtw
            go_upto_region 9 with fail
            go_region_with (first | (go_at_call 32; ((with_reducible refine (AddSpanS_s (.slice a6 n6 c6) x _ _ Hr6.out hxo (by have := Hjw.out k' hk'; dsimp only; omega)).mono ?_); rintro e w1 ⟨a7, n7, c7, rfl, H7, hb⟩; have kc1 := hb.cellOf (p := ⟨bt, 1, none⟩) kc; have kf1 := Hfz.out w1 hb; have Hg1 := Lib.hid (Hfin.out w1 a7 n7 c7 _ hb H7); have Hg2 := Lib.hid (Bl.setCell (((HB2.out.drew).trans hb)) Hbtw.out (.slice a7 n7 c7)); clear H7 hb)))
            all_goals (go_wp2_with fail; go_roundw)
            all_goals first | exact ⟨k' + 1, by omega, by go_num, by rw [Htk2.out k' x Hx.out]; exact Hg1.out, Hg2.out⟩ | (simp [intOf]; omega)
          · obtain rfl : k' = l4 := by omega
            have hall : joinL t.writes (o.writes.take k') = joinL t.writes o.writes := by rw [List.take_of_length_le (by have := Hl4.out; omega)]
            rw [hall] at hP
            have HP2 := Lib.hid hP
            obtain ⟨a5, n5, c5, a6, n6, c6, hh, hr⟩ := hP
            have q0 : wr.cell? ⟨bt, 0, none⟩ = some (.slice a5 n5 c5) := by simp [World.cell?, hh]
            have q1 : wr.cell? ⟨bt, 1, none⟩ = some (.slice a6 n6 c6) := by simp [World.cell?, hh]
            have m4 : wr.cell? ⟨w.heap.size + 1 + 1, 0, none⟩ = some (.slice none 0 0) := hB.cellOf Hc4.out
            have m5 : wr.cell? ⟨w.heap.size + 1 + 1, 1, none⟩ = some (.slice none 0 0) := hB.cellOf Hc5.out
            have m6 : ∀ o, wr.frozen? ⟨w.heap.size + 1 + 1, o, none⟩ = false := fun o => hB.frozenOf (by simp; omega) (Hf.out o)
            have hz : w.heap.size + 1 + 1 < wr.heap.size := by have := hB.size; omega
            have H2 : wr.heap[w.heap.size + 1 + 1]? = some (.cells #[.slice none 0 0, .slice none 0 0] 26 (0, 0)) := hB.heapOf (by rw [Hwb.out]; exact heap_alloc_is _ (by simp))
            have hfin : GivesT w ((wr.setCell ⟨w.heap.size + 1 + 1, 0, none⟩ (.slice a5 n5 c5)).setCell ⟨w.heap.size + 1 + 1, 1, none⟩ (.slice a6 n6 c6)) (.returned (.agg #[.slice a5 n5 c5, .slice a6 n6 c6])) (joinT t o) := by
              obtain ⟨_, _, _, _, _, _, g1, g2⟩ := RPair.store2 H2 hr.1 hr.2
              have e1 : ((wr.setCell ⟨w.heap.size + 1 + 1, 0, none⟩ (.slice a5 n5 c5)).setCell ⟨w.heap.size + 1 + 1, 1, none⟩ (.slice a6 n6 c6)).heap[w.heap.size + 1 + 1]? = some (.cells #[.slice a5 n5 c5, .slice a6 n6 c6] 26 (0, 0)) := by
                simpa using heap_setCell_at (heap_setCell_at H2 0 (.slice a5 n5 c5)) 1 (.slice a6 n6 c6)
              rw [e1] at g1
              cases g1
              exact ⟨_, _, _, _, _, _, rfl, g2, Bl.setCell (Bl.setCell (HB.out.trans hB) (by dsimp only; omega) _) (by dsimp only; omega) _⟩
            have Hfin := Lib.hid hfin
            clear hfin hr hB hh hall H2
            go_wp2
            exact bodyPost_ret (v := .agg #[.slice a5 n5 c5, .slice a6 n6 c6]) (by simp [results, Try.results13, go_sem, m4, m5]) rfl Hfin.out
end Go.Proofs.Ytbbkihijhdpliaa
