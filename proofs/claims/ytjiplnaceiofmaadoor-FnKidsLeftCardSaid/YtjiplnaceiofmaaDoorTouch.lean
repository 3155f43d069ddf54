/-
  Contracts: adding a span to a list of spans (impl.addSpan in place, spec.l02Put, spec.AddSpan), access sets.
-/
import Derived.Test.YtjiplnaceiofmaaDoorSlices
namespace Go.Proofs.YtjiplnaceiofmaaDoor
open Go.ChangeShapes Go.WideShapes Go.ChangeAt Go.RowKit
set_option maxHeartbeats 1000000
set_option maxRecDepth 100000

/-- A text put into a list, ahead of the first that is not below it; not a second time. -/
def putL (l : List ByteArray) (x : ByteArray) : List ByteArray := if l[l.findIdx (geS x)]? = some x then l else insAt l (l.findIdx (geS x)) x
theorem insAt_length {α : Type} (l : List α) (i : Nat) (x : α) (h : i ≤ l.length) : (insAt l i x).length = l.length + 1 := by simp [insAt]; omega
theorem putL_length (l : List ByteArray) (x : ByteArray) : (putL l x).length ≤ l.length + 1 := by
  unfold putL
  split
  · omega
  · rw [insAt_length _ _ _ List.findIdx_le_length]; omega
theorem ownBlock_addr {a : Option Addr} {n cap : Nat} : (Value.slice a n cap).ownBlock.toList = (a.map (·.block)).toList := by cases a <;> rfl

theorem addSpan_c (v : Value) (s : ByteArray) (w : World) (l : List ByteArray) (hO : OStrs w v l) (hs : okS s) (hl : l.length ≤ 549755813888) :
    Calls Tryd.prog 128 #[v, .string s] w fun e w' => ∃ v', e = .returned v' ∧ OStrs w' v' (putL l s) ∧ KeepBut v.ownBlock.toList w w' ∧ Moved w v v' := by
  have hr := hO.rd
  obtain ⟨a, cap, rfl, hle, hl63, -, hn⟩ := hr.inv
  have hw1 : Bl w (w.alloc (.cells #[.string s] 9)) := (Bl.refl w).alloc _
  have hc : (w.alloc (.cells #[.string s] 9)).cell? ⟨w.heap.size, 0, none⟩ = some (.string s) := by simp
  have hr1 := hr.below hw1
  have hO1 := hO.below hw1
  have hcl : ∀ W, Bl (w.alloc (.cells #[.string s] 9)) W → W.cell? ⟨w.heap.size, 0, none⟩ = some (.string s) := fun W hb => hb.cellOf hc
  by_cases hfi : l.findIdx (geS s) < l.length
  · have hidx : idxP (geS s) l = (l.findIdx (geS s) : Int) := by unfold idxP; rw [if_pos hfi]
    obtain ⟨x, hx⟩ : ∃ x, l[l.findIdx (geS s)]? = some x := ⟨_, List.getElem?_eq_getElem hfi⟩
    have hput : putL l s = if x = s then l else insAt l (l.findIdx (geS s)) s := by
      unfold putL
      rw [hx]
      by_cases h : x = s <;> simp [h]
    have hlt := hO.lt
    rw [ownBlock_addr] at hlt
    generalize l.findIdx (geS s) = i at hfi hidx hx hput
    obtain ⟨b, rfl, -, -, -, hbw⟩ := Own.cellAt strT.hk hO i x hx
    have hcell : ∀ W, Bl (w.alloc (.cells #[.string s] 9)) W → W.cell? ⟨b, i, none⟩ = some (.string x) := fun W hb => by
      obtain ⟨b', e, -, h, -⟩ := Own.cellAt strT.hk (hO1.below hb) i x hx
      cases e
      simpa using h 0 (.string x) rfl
    obtain ⟨len, hlen⟩ : ∃ len, l.length = len := ⟨_, rfl⟩
    rw [hlen] at hle hl63 hl hr1 hO1 hO hr hfi ⊢
    have hii : (i : Int) < (len : Int) := by omega
    by_cases hxe : x = s
    · rw [if_pos hxe] at hput
      have heq : (x.toList == s.toList) = true := by rw [bytes_beq]; simp [hxe]
      have Hidx := Lib.hid hidx; have Hput := Lib.hid hput; have Hlen := Lib.hid hlen; have HO1 := Lib.hid hO1; have Hr1 := Lib.hid hr1; have Hcl := Lib.hid hcl; have Hc := Lib.hid hc; have Hlt := Lib.hid hlt; have Hcell := Lib.hid hcell; have Hw1 := Lib.hid hw1
      clear hidx hput hlen hO1 hr1 hcl hc hO hr hn hlt hcell hx hxe hw1
      go_enter Tryd.func128, Tryd.ntmps128
      go_wp2_with (go_at_call 145; refine (idxAddSpan_c _ _ l s w.heap.size Hr1.out Hc.out).mono ?_; rintro e w1 ⟨rfl, hb1⟩; rw [Hidx.out]; have hc1 := Hcl.out w1 hb1; have hc2 := Hcell.out w1 hb1; have HB1 := Lib.hid hb1; clear hb1)
      go_quiet (fail)
      go_wp2
      go_ret
      refine ⟨_, rfl, ?_, ?_, Moved.refl _ _⟩
      · rw [Hput.out]; exact (HO1.out.below HB1.out).below ((Bl.refl _).drewN _)
      · exact ((Hw1.out.trans HB1.out).drewN _).keep _
    · rw [if_neg hxe] at hput
      have heq : (x.toList == s.toList) = false := by rw [bytes_beq]; simp [hxe]
      have Hidx := Lib.hid hidx; have Hput := Lib.hid hput; have Hlen := Lib.hid hlen; have HO1 := Lib.hid hO1; have Hr1 := Lib.hid hr1; have Hcl := Lib.hid hcl; have Hc := Lib.hid hc; have Hlt := Lib.hid hlt; have Hcell := Lib.hid hcell; have Hw1 := Lib.hid hw1; have Hbw := Lib.hid hbw
      clear hidx hput hlen hO1 hr1 hcl hc hO hr hn hlt hcell hx hxe hw1 hbw
      go_enter Tryd.func128, Tryd.ntmps128
      go_wp2_with (go_at_call 145; refine (idxAddSpan_c _ _ l s w.heap.size Hr1.out Hc.out).mono ?_; rintro e w1 ⟨rfl, hb1⟩; rw [Hidx.out]; have hc1 := Hcl.out w1 hb1; have hc2 := Hcell.out w1 hb1; have HB1 := Lib.hid hb1; clear hb1)
      go_quiet (fail)
      go_wp2_with (go_at_call 147; refine (insertStrs_c _ i s w1.heap.size _ l ((HO1.out.below HB1.out).below (((Bl.refl _).alloc _).drewN _)) (by have := Hlen.out; omega) (by have := Hlen.out; omega) hs (by exact heap_alloc_new w1 (.cells #[.string s] 9)) (by have h1 := Hbw.out; have h2 := (Hw1.out.trans HB1.out).size; simp [Value.ownBlock]; omega)).mono ?_; rintro e w2 ⟨v', rfl, hO2, hkb, hmv⟩)
      go_ret
      refine ⟨_, rfl, ?_, ?_, ?_⟩
      · rw [Hput.out]; exact hO2
      · exact hkb.after (((Hw1.out.trans HB1.out).alloc _).drewN _)
      · exact hmv.mono (((Hw1.out.trans HB1.out).alloc _).drewN _).size
  · have hidx : idxP (geS s) l = -1 := by unfold idxP; rw [if_neg hfi]
    have hput : putL l s = l ++ [s] := by
      have e : l.findIdx (geS s) = l.length := Nat.le_antisymm List.findIdx_le_length (by omega)
      unfold putL
      rw [e, if_neg (by simp)]
      simp [insAt]
    have hlt := hO.lt
    rw [ownBlock_addr] at hlt
    obtain ⟨len, hlen⟩ : ∃ len, l.length = len := ⟨_, rfl⟩
    rw [hlen] at hle hl63 hl hr1 hO1 hO hr ⊢
    have Hidx := Lib.hid hidx; have Hput := Lib.hid hput; have Hlen := Lib.hid hlen; have HO1 := Lib.hid hO1; have Hr1 := Lib.hid hr1; have Hcl := Lib.hid hcl; have Hc := Lib.hid hc; have Hlt := Lib.hid hlt
    clear hidx hput hlen hO1 hr1 hcl hc hO hr hn hlt
    go_enter Tryd.func128, Tryd.ntmps128
    go_wp2_with (first | (go_at_call 145; refine (idxAddSpan_c _ _ l s w.heap.size Hr1.out Hc.out).mono ?_; rintro e w1 ⟨rfl, hb1⟩; rw [Hidx.out]; have hc1 := Hcl.out w1 hb1; have HB1 := Lib.hid hb1; clear hb1) | (at_builtin; refine wpList_app strT rfl (.tmp 11) (.tmp 13) rfl (.slice a len cap) (.slice (some ⟨w1.heap.size, 0, none⟩) 1 1) l [s] rfl rfl ((HO1.out.below HB1.out).below ((Bl.refl _).alloc _)) (rsl_made1 _ s _ rfl rfl hs) (by have := Hlen.out; simp <;> omega) ?_; intro v' w2 hO2 hkb hmv hnl))
    go_ret
    refine ⟨_, rfl, ?_, ?_, ?_⟩
    · rw [Hput.out]; exact hO2
    · exact hkb.after ((hw1.trans HB1.out).alloc _)
    · exact hmv.mono ((hw1.trans HB1.out).alloc _).size

theorem addSpan_s (v : Value) (s : ByteArray) (w : World) (l : List ByteArray) (hO : OStrs w v l) (hs : okS s) (hl : l.length ≤ 549755813888) :
    Calls Tryd.prog 128 #[v, .string s] w fun e w' => ∃ a n cap, e = .returned (.slice a n cap) ∧ OStrs w' (.slice a n cap) (putL l s) ∧ KeepBut v.ownBlock.toList w w' ∧ Moved w v (.slice a n cap) :=
  Calls.sl (addSpan_c v s w l hO hs hl) fun _ _ h => h.1.isSl

theorem putL_at (l : List ByteArray) (x : ByteArray) (k : Nat) (hk : k ≤ l.length) (hlt : ∀ q, q < k → ∀ y, l[q]? = some y → geS x y = false) (hend : ∀ y, l[k]? = some y → geS x y = true) : l.findIdx (geS x) = k := by
  rcases Nat.lt_or_ge k l.length with h | h
  · exact findIdx_found _ _ k l[k] (by simp [h]) (hend _ (by simp [h])) hlt
  · obtain rfl : k = l.length := by omega
    rw [List.findIdx_eq_length]
    intro y hy
    obtain ⟨i, hi, rfl⟩ := List.mem_iff_getElem.1 hy
    simpa using hlt i hi _ (by simp [hi])

theorem l02Put_c (v : Value) (x : ByteArray) (w : World) (l : List ByteArray) (hr : RStrs w v l) (hs : okS x) (hl : l.length ≤ 549755813888) :
    Calls Tryd.prog 168 #[v, .string x] w fun e w' => ∃ v', e = .returned v' ∧ RStrs w' v' (putL l x) ∧ Bl w w' := by
  have hr0 := hr
  obtain ⟨a, cap, rfl, hle, hl63, -, hn⟩ := hr.inv
  obtain ⟨len, hlen⟩ : ∃ len, l.length = len := ⟨_, rfl⟩
  rw [hlen] at hle hl63 hl hr0 ⊢
  have Hr := Lib.hid hr0; have Hlen := Lib.hid hlen; have Hn := Lib.hid hn
  clear hr hr0 hn hlen
  go_enter Tryd.func168, Tryd.ntmps168
  go_wp2
  go_loopw [5] (fun i wr => ∃ (k : Nat), k ≤ len ∧ i = .int .i64 k ∧ Bl w wr ∧ Hid (∀ q, q < k → ∀ y, l[q]? = some y → geS x y = false)) (fun i _ => len - (intOf i).toNat)
  case atStart => exact ⟨0, by omega, rfl, Bl.refl _, by intro q hq; omega⟩
  case round =>
    obtain ⟨k, hk, rfl, hB, hno⟩ := hrel
    by_cases hlt : k < len
    · obtain ⟨b, off, y, rfl, hy, hys, c1⟩ := RStrs.at (RStrs.below Hr.out hB) k (by omega)
      have hkk : (k : Int) < (len : Int) := by omega
      by_cases hg : geS x y = true
      · have hl0 : Op.bytesLess y.toList x.toList = false := by simpa [geS, ltS] using hg
        have hfi := putL_at l x k (by have := Hlen.out; omega) hno.out (fun z hz => by rw [hy] at hz; cases hz; exact hg)
        by_cases hyx : y = x
        · have heq : (y.toList == x.toList) = true := by rw [bytes_beq]; simp [hyx]
          have hput : putL l x = l := by unfold putL; rw [hfi, hy, if_pos (by rw [hyx])]
          have HB := Lib.hid hB; have Hput := Lib.hid hput
          clear hB hy hg hfi hyx hno hput
          go_wp2
          go_ret
          exact ⟨_, rfl, by rw [Hput.out]; exact RStrs.below Hr.out HB.out, HB.out⟩
        · have heq : (y.toList == x.toList) = false := by rw [bytes_beq]; simp [hyx]
          have hput : putL l x = insAt l k x := by unfold putL; rw [hfi, hy, if_neg (by simpa using hyx)]
          have hck : ¬ cap = k := by omega
          have hdr := RSl.drop Hr.out k (by omega)
          rw [Nat.mul_one] at hdr
          have HB := Lib.hid hB; have Hput := Lib.hid hput; have Hdr := Lib.hid hdr
          clear hB hy hg hfi hyx hno hput hdr
          go_wp2_with (first | (at_builtin; refine wpList_app (ok := okS) strT rfl (.tmp 34) (.tmp 37) rfl (.slice (some ⟨wr.heap.size, 0, none⟩) 0 0) (.slice (some ⟨b, off, none⟩) k cap) [] (l.take k) rfl rfl (own_made0 wr _ _ _ _) (RSl.below (Enc.stable _ _) (RSl.take Hr.out k (by omega)) ((HB.out).alloc _)) (by have := Hlen.out; simp <;> omega) ?_; intro v1 w1 hO1 hk1 hm1 hn1; have HO1 := Lib.hid hO1; have HB1 := Lib.hid (hk1.under ((HB.out).alloc _) (by have := HB.out.size; simp [Value.ownBlock]; omega)); have HF1 := Lib.hid (hm1.fresh (n := w.heap.size) (by have := HB.out.size; simp; omega) (by have := HB.out.size; simp [Value.ownBlock]; omega)); clear hO1 hk1 hm1 hn1) | (at_builtin; refine wpList_app (ok := okS) strT rfl (.tmp 38) (.tmp 40) rfl v1 (.slice (some ⟨w1.heap.size, 0, none⟩) 1 1) _ [x] rfl rfl (HO1.out.below ((Bl.refl _).alloc _)) (rsl_made1 _ x _ rfl rfl hs) (by have := Hlen.out; simp <;> omega) ?_; intro v2 w2 hO2 hk2 hm2 hn2; have HO2 := Lib.hid hO2; have HB2 := Lib.hid (hk2.under (HB1.out.alloc _) HF1.out); have HF2 := Lib.hid (hm2.fresh (n := w.heap.size) (by have := HB1.out.size; simp; omega) HF1.out); clear hO2 hk2 hm2 hn2) | (at_builtin; refine wpList_app (ok := okS) strT rfl (.tmp 42) (.tmp 45) rfl v2 (.slice (some ⟨b, off + k, none⟩) (len - k) (cap - k)) _ (l.drop k) rfl rfl HO2.out (RSl.below (Enc.stable _ _) Hdr.out HB2.out) (by have := Hlen.out; simp <;> omega) ?_; intro v3 w3 hO3 hk3 hm3 hn3; have HO3 := Lib.hid hO3; have HB3 := Lib.hid (hk3.under HB2.out HF2.out); clear hO3 hk3 hm3 hn3))
          go_ret
          refine ⟨_, rfl, ?_, HB3.out⟩
          have hfin := OStrs.rd HO3.out
          have hp := Hput.out
          rw [hp]
          simpa [insAt] using hfin
      · have hl0 : Op.bytesLess y.toList x.toList = true := by simpa [geS, ltS] using hg
        have HB := Lib.hid hB; have Hy := Lib.hid hy; have Hg := Lib.hid hg
        clear hB hy hg
        go_wp2
        go_roundw
        case rel =>
          refine ⟨k + 1, by omega, by go_num, HB.out, ?_⟩
          intro q hq z hz
          by_cases hqk : q = k
          · subst hqk
            rw [Hy.out] at hz
            obtain rfl := Option.some.inj hz
            simpa using Hg.out
          · exact hno.out q (by omega) z hz
        case measure => simp [intOf]; omega
    · obtain rfl : k = len := by omega
      have hfi := putL_at l x k (by have := Hlen.out; omega) hno.out (fun z hz => by rw [List.getElem?_eq_none (by have := Hlen.out; omega)] at hz; cases hz)
      have hput : putL l x = insAt l k x := by unfold putL; rw [hfi, List.getElem?_eq_none (by have := Hlen.out; omega)]; simp
      have HB := Lib.hid hB; have Hput := Lib.hid hput
      clear hB hfi hno hput
      cases a with
      | none =>
        obtain ⟨h1, rfl⟩ := Hn.out rfl
        obtain rfl : k = 0 := by omega
        have hdr : RStrs w (.slice none 0 0) (l.drop 0) := by rw [h1]; exact RSl.nil _ _ _
        have Hdr := Lib.hid hdr; clear hdr h1
        go_wp2_with (first | (at_builtin; refine wpList_app (ok := okS) strT rfl (.tmp 34) (.tmp 37) rfl (.slice (some ⟨wr.heap.size, 0, none⟩) 0 0) (.slice none 0 0) [] (l.take 0) rfl rfl (own_made0 wr _ _ _ _) (RSl.below (Enc.stable _ _) (RSl.take Hr.out 0 (by omega)) ((HB.out).alloc _)) (by have := Hlen.out; simp <;> omega) ?_; intro v1 w1 hO1 hk1 hm1 hn1; have HO1 := Lib.hid hO1; have HB1 := Lib.hid (hk1.under ((HB.out).alloc _) (by have := HB.out.size; simp [Value.ownBlock]; omega)); have HF1 := Lib.hid (hm1.fresh (n := w.heap.size) (by have := HB.out.size; simp; omega) (by have := HB.out.size; simp [Value.ownBlock]; omega)); clear hO1 hk1 hm1 hn1) | (at_builtin; refine wpList_app (ok := okS) strT rfl (.tmp 38) (.tmp 40) rfl v1 (.slice (some ⟨w1.heap.size, 0, none⟩) 1 1) _ [x] rfl rfl (HO1.out.below ((Bl.refl _).alloc _)) (rsl_made1 _ x _ rfl rfl hs) (by have := Hlen.out; simp <;> omega) ?_; intro v2 w2 hO2 hk2 hm2 hn2; have HO2 := Lib.hid hO2; have HB2 := Lib.hid (hk2.under (HB1.out.alloc _) HF1.out); have HF2 := Lib.hid (hm2.fresh (n := w.heap.size) (by have := HB1.out.size; simp; omega) HF1.out); clear hO2 hk2 hm2 hn2) | (at_builtin; refine wpList_app (ok := okS) strT rfl (.tmp 42) (.tmp 45) rfl v2 (.slice none 0 0) _ (l.drop 0) rfl rfl HO2.out (RSl.below (Enc.stable _ _) Hdr.out HB2.out) (by have := Hlen.out; simp <;> omega) ?_; intro v3 w3 hO3 hk3 hm3 hn3; have HO3 := Lib.hid hO3; have HB3 := Lib.hid (hk3.under HB2.out HF2.out); clear hO3 hk3 hm3 hn3))
        go_ret
        refine ⟨_, rfl, ?_, HB3.out⟩
        have hfin := OStrs.rd HO3.out
        have hp := Hput.out
        rw [hp]
        simpa [insAt] using hfin
      | some ad =>
        obtain ⟨b, off, rfl⟩ := RSl.plain Hr.out
        by_cases hck : cap = k
        · subst hck
          have hdr := RSl.dropEnd Hr.out
          have Hdr := Lib.hid hdr; clear hdr
          go_wp2_with (first | (at_builtin; refine wpList_app (ok := okS) strT rfl (.tmp 34) (.tmp 37) rfl (.slice (some ⟨wr.heap.size, 0, none⟩) 0 0) (.slice (some ⟨b, off, none⟩) cap cap) [] (l.take cap) rfl rfl (own_made0 wr _ _ _ _) (RSl.below (Enc.stable _ _) (RSl.take Hr.out cap (by omega)) ((HB.out).alloc _)) (by have := Hlen.out; simp <;> omega) ?_; intro v1 w1 hO1 hk1 hm1 hn1; have HO1 := Lib.hid hO1; have HB1 := Lib.hid (hk1.under ((HB.out).alloc _) (by have := HB.out.size; simp [Value.ownBlock]; omega)); have HF1 := Lib.hid (hm1.fresh (n := w.heap.size) (by have := HB.out.size; simp; omega) (by have := HB.out.size; simp [Value.ownBlock]; omega)); clear hO1 hk1 hm1 hn1) | (at_builtin; refine wpList_app (ok := okS) strT rfl (.tmp 38) (.tmp 40) rfl v1 (.slice (some ⟨w1.heap.size, 0, none⟩) 1 1) _ [x] rfl rfl (HO1.out.below ((Bl.refl _).alloc _)) (rsl_made1 _ x _ rfl rfl hs) (by have := Hlen.out; simp <;> omega) ?_; intro v2 w2 hO2 hk2 hm2 hn2; have HO2 := Lib.hid hO2; have HB2 := Lib.hid (hk2.under (HB1.out.alloc _) HF1.out); have HF2 := Lib.hid (hm2.fresh (n := w.heap.size) (by have := HB1.out.size; simp; omega) HF1.out); clear hO2 hk2 hm2 hn2) | (at_builtin; refine wpList_app (ok := okS) strT rfl (.tmp 42) (.tmp 45) rfl v2 (.slice (some ⟨b, off, none⟩) 0 0) _ (l.drop cap) rfl rfl HO2.out (RSl.below (Enc.stable _ _) Hdr.out HB2.out) (by have := Hlen.out; simp <;> omega) ?_; intro v3 w3 hO3 hk3 hm3 hn3; have HO3 := Lib.hid hO3; have HB3 := Lib.hid (hk3.under HB2.out HF2.out); clear hO3 hk3 hm3 hn3))
          go_ret
          refine ⟨_, rfl, ?_, HB3.out⟩
          have hfin := OStrs.rd HO3.out
          have hp := Hput.out
          rw [hp]
          simpa [insAt] using hfin
        · have hdr := RSl.drop Hr.out k (by omega)
          rw [Nat.mul_one, Nat.sub_self] at hdr
          have Hdr := Lib.hid hdr; clear hdr
          go_wp2_with (first | (at_builtin; refine wpList_app (ok := okS) strT rfl (.tmp 34) (.tmp 37) rfl (.slice (some ⟨wr.heap.size, 0, none⟩) 0 0) (.slice (some ⟨b, off, none⟩) k cap) [] (l.take k) rfl rfl (own_made0 wr _ _ _ _) (RSl.below (Enc.stable _ _) (RSl.take Hr.out k (by omega)) ((HB.out).alloc _)) (by have := Hlen.out; simp <;> omega) ?_; intro v1 w1 hO1 hk1 hm1 hn1; have HO1 := Lib.hid hO1; have HB1 := Lib.hid (hk1.under ((HB.out).alloc _) (by have := HB.out.size; simp [Value.ownBlock]; omega)); have HF1 := Lib.hid (hm1.fresh (n := w.heap.size) (by have := HB.out.size; simp; omega) (by have := HB.out.size; simp [Value.ownBlock]; omega)); clear hO1 hk1 hm1 hn1) | (at_builtin; refine wpList_app (ok := okS) strT rfl (.tmp 38) (.tmp 40) rfl v1 (.slice (some ⟨w1.heap.size, 0, none⟩) 1 1) _ [x] rfl rfl (HO1.out.below ((Bl.refl _).alloc _)) (rsl_made1 _ x _ rfl rfl hs) (by have := Hlen.out; simp <;> omega) ?_; intro v2 w2 hO2 hk2 hm2 hn2; have HO2 := Lib.hid hO2; have HB2 := Lib.hid (hk2.under (HB1.out.alloc _) HF1.out); have HF2 := Lib.hid (hm2.fresh (n := w.heap.size) (by have := HB1.out.size; simp; omega) HF1.out); clear hO2 hk2 hm2 hn2) | (at_builtin; refine wpList_app (ok := okS) strT rfl (.tmp 42) (.tmp 45) rfl v2 (.slice (some ⟨b, off + k, none⟩) 0 (cap - k)) _ (l.drop k) rfl rfl HO2.out (RSl.below (Enc.stable _ _) Hdr.out HB2.out) (by have := Hlen.out; simp <;> omega) ?_; intro v3 w3 hO3 hk3 hm3 hn3; have HO3 := Lib.hid hO3; have HB3 := Lib.hid (hk3.under HB2.out HF2.out); clear hO3 hk3 hm3 hn3))
          go_ret
          refine ⟨_, rfl, ?_, HB3.out⟩
          have hfin := OStrs.rd HO3.out
          have hp := Hput.out
          rw [hp]
          simpa [insAt] using hfin
end Go.Proofs.YtjiplnaceiofmaaDoor
