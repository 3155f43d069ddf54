/-
  Contracts: adding a span to a list of spans (impl.addSpan in place, spec.l02Put, spec.AddSpan), access sets.
-/
import Derived.Test.YtibgmijfnbnfkaaGreatDoorSlices
namespace Go.Proofs.YtibgmijfnbnfkaaGreatDoor
open Go.ChangeShapes Go.WideShapes Go.ChangeAt Go.RowKit
set_option maxHeartbeats 1000000
set_option maxRecDepth 100000

/-- A text put into a list, ahead of the first that is not below it; not a second time. -/
def putL (l : List ByteArray) (x : ByteArray) : List ByteArray := if l[l.findIdx (geS x)]? = some x then l else insAt l (l.findIdx (geS x)) x
theorem insAt_length {α : Type} (l : List α) (i : Nat) (x : α) (h : i ≤ l.length) : (insAt l i x).length = l.length + 1 := by simp [insAt]; omega
theorem putL_length (l : List ByteArray) (x : ByteArray) : (putL l x).length ≤ l.length + 1 := by
  unfold putL
  split
  · omega
  · rw [insAt_length _ _ _ List.findIdx_le_length]; omega
theorem ownBlock_addr {a : Option Addr} {n cap : Nat} : (Value.slice a n cap).ownBlock.toList = (a.map (·.block)).toList := by cases a <;> rfl

theorem addSpan_c (v : Value) (s : ByteArray) (w : World) (l : List ByteArray) (hO : OStrs w v l) (hs : okS s) (hl : l.length ≤ 549755813888) :
    Calls Tryz.prog 84 #[v, .string s] w fun e w' => ∃ v', e = .returned v' ∧ OStrs w' v' (putL l s) ∧ KeepBut v.ownBlock.toList w w' ∧ Moved w v v' := by
  have hr := hO.rd
  obtain ⟨a, cap, rfl, hle, hl63, -, hn⟩ := hr.inv
  have hw1 : Bl w (w.alloc (.cells #[.string s] 9)) := (Bl.refl w).alloc _
  have hc : (w.alloc (.cells #[.string s] 9)).cell? ⟨w.heap.size, 0, none⟩ = some (.string s) := by simp
  have hr1 := hr.below hw1
  have hO1 := hO.below hw1
  have hcl : ∀ W, Bl (w.alloc (.cells #[.string s] 9)) W → W.cell? ⟨w.heap.size, 0, none⟩ = some (.string s) := fun W hb => hb.cellOf hc
  by_cases hfi : l.findIdx (geS s) < l.length
  · have hidx : idxP (geS s) l = (l.findIdx (geS s) : Int) := by unfold idxP; rw [if_pos hfi]
    obtain ⟨x, hx⟩ : ∃ x, l[l.findIdx (geS s)]? = some x := ⟨_, List.getElem?_eq_getElem hfi⟩
    have hput : putL l s = if x = s then l else insAt l (l.findIdx (geS s)) s := by
      unfold putL
      rw [hx]
      by_cases h : x = s <;> simp [h]
    have hlt := hO.lt
    rw [ownBlock_addr] at hlt
    generalize l.findIdx (geS s) = i at hfi hidx hx hput
    obtain ⟨b, rfl, -, -, -, hbw⟩ := Own.cellAt strT.hk hO i x hx
    have hcell : ∀ W, Bl (w.alloc (.cells #[.string s] 9)) W → W.cell? ⟨b, i, none⟩ = some (.string x) := fun W hb => by
      obtain ⟨b', e, -, h, -⟩ := Own.cellAt strT.hk (hO1.below hb) i x hx
      cases e
      simpa using h 0 (.string x) rfl
    obtain ⟨len, hlen⟩ : ∃ len, l.length = len := ⟨_, rfl⟩
    rw [hlen] at hle hl63 hl hr1 hO1 hO hr hfi ⊢
    have hii : (i : Int) < (len : Int) := by omega
    by_cases hxe : x = s
    · rw [if_pos hxe] at hput
      have heq : (x.toList == s.toList) = true := by rw [bytes_beq]; simp [hxe]
      have Hidx := Lib.hid hidx; have Hput := Lib.hid hput; have Hlen := Lib.hid hlen; have HO1 := Lib.hid hO1; have Hr1 := Lib.hid hr1; have Hcl := Lib.hid hcl; have Hc := Lib.hid hc; have Hlt := Lib.hid hlt; have Hcell := Lib.hid hcell; have Hw1 := Lib.hid hw1
      clear hidx hput hlen hO1 hr1 hcl hc hO hr hn hlt hcell hx hxe hw1
      go_enter Tryz.func84, Tryz.ntmps84
      go_wp2_with (go_at_call 107; refine (idxAddSpan_c _ _ l s w.heap.size Hr1.out Hc.out).mono ?_; rintro e w1 ⟨rfl, hb1⟩; rw [Hidx.out]; have hc1 := Hcl.out w1 hb1; have hc2 := Hcell.out w1 hb1; have HB1 := Lib.hid hb1; clear hb1)
      go_quiet (fail)
      go_wp2
      go_ret
      refine ⟨_, rfl, ?_, ?_, Moved.refl _ _⟩
      · rw [Hput.out]; exact (HO1.out.below HB1.out).below ((Bl.refl _).drewN _)
      · exact ((Hw1.out.trans HB1.out).drewN _).keep _
    · rw [if_neg hxe] at hput
      have heq : (x.toList == s.toList) = false := by rw [bytes_beq]; simp [hxe]
      have Hidx := Lib.hid hidx; have Hput := Lib.hid hput; have Hlen := Lib.hid hlen; have HO1 := Lib.hid hO1; have Hr1 := Lib.hid hr1; have Hcl := Lib.hid hcl; have Hc := Lib.hid hc; have Hlt := Lib.hid hlt; have Hcell := Lib.hid hcell; have Hw1 := Lib.hid hw1; have Hbw := Lib.hid hbw
      clear hidx hput hlen hO1 hr1 hcl hc hO hr hn hlt hcell hx hxe hw1 hbw
      go_enter Tryz.func84, Tryz.ntmps84
      go_wp2_with (go_at_call 107; refine (idxAddSpan_c _ _ l s w.heap.size Hr1.out Hc.out).mono ?_; rintro e w1 ⟨rfl, hb1⟩; rw [Hidx.out]; have hc1 := Hcl.out w1 hb1; have hc2 := Hcell.out w1 hb1; have HB1 := Lib.hid hb1; clear hb1)
      go_quiet (fail)
      go_wp2_with (go_at_call 109; refine (insertStrs_c _ i s w1.heap.size _ l ((HO1.out.below HB1.out).below (((Bl.refl _).alloc _).drewN _)) (by have := Hlen.out; omega) (by have := Hlen.out; omega) hs (by exact heap_alloc_new w1 (.cells #[.string s] 9)) (by have h1 := Hbw.out; have h2 := (Hw1.out.trans HB1.out).size; simp [Value.ownBlock]; omega)).mono ?_; rintro e w2 ⟨v', rfl, hO2, hkb, hmv⟩)
      go_ret
      refine ⟨_, rfl, ?_, ?_, ?_⟩
      · rw [Hput.out]; exact hO2
      · exact hkb.after (((Hw1.out.trans HB1.out).alloc _).drewN _)
      · exact hmv.mono (((Hw1.out.trans HB1.out).alloc _).drewN _).size
  · have hidx : idxP (geS s) l = -1 := by unfold idxP; rw [if_neg hfi]
    have hput : putL l s = l ++ [s] := by
      have e : l.findIdx (geS s) = l.length := Nat.le_antisymm List.findIdx_le_length (by omega)
      unfold putL
      rw [e, if_neg (by simp)]
      simp [insAt]
    have hlt := hO.lt
    rw [ownBlock_addr] at hlt
    obtain ⟨len, hlen⟩ : ∃ len, l.length = len := ⟨_, rfl⟩
    rw [hlen] at hle hl63 hl hr1 hO1 hO hr ⊢
    have Hidx := Lib.hid hidx; have Hput := Lib.hid hput; have Hlen := Lib.hid hlen; have HO1 := Lib.hid hO1; have Hr1 := Lib.hid hr1; have Hcl := Lib.hid hcl; have Hc := Lib.hid hc; have Hlt := Lib.hid hlt
    clear hidx hput hlen hO1 hr1 hcl hc hO hr hn hlt
    go_enter Tryz.func84, Tryz.ntmps84
    go_wp2_with (first | (go_at_call 107; refine (idxAddSpan_c _ _ l s w.heap.size Hr1.out Hc.out).mono ?_; rintro e w1 ⟨rfl, hb1⟩; rw [Hidx.out]; have hc1 := Hcl.out w1 hb1; have HB1 := Lib.hid hb1; clear hb1) | (at_builtin; refine wpList_app strT rfl (.tmp 11) (.tmp 13) rfl (.slice a len cap) (.slice (some ⟨w1.heap.size, 0, none⟩) 1 1) l [s] rfl rfl ((HO1.out.below HB1.out).below ((Bl.refl _).alloc _)) (rsl_made1 _ s _ rfl rfl hs) (by have := Hlen.out; simp <;> omega) ?_; intro v' w2 hO2 hkb hmv hnl))
    go_ret
    refine ⟨_, rfl, ?_, ?_, ?_⟩
    · rw [Hput.out]; exact hO2
    · exact hkb.after ((hw1.trans HB1.out).alloc _)
    · exact hmv.mono ((hw1.trans HB1.out).alloc _).size

theorem addSpan_s (v : Value) (s : ByteArray) (w : World) (l : List ByteArray) (hO : OStrs w v l) (hs : okS s) (hl : l.length ≤ 549755813888) :
    Calls Tryz.prog 84 #[v, .string s] w fun e w' => ∃ a n cap, e = .returned (.slice a n cap) ∧ OStrs w' (.slice a n cap) (putL l s) ∧ KeepBut v.ownBlock.toList w w' ∧ Moved w v (.slice a n cap) :=
  Calls.sl (addSpan_c v s w l hO hs hl) fun _ _ h => h.1.isSl

theorem putL_at (l : List ByteArray) (x : ByteArray) (k : Nat) (hk : k ≤ l.length) (hlt : ∀ q, q < k → ∀ y, l[q]? = some y → geS x y = false) (hend : ∀ y, l[k]? = some y → geS x y = true) : l.findIdx (geS x) = k := by
  rcases Nat.lt_or_ge k l.length with h | h
  · exact findIdx_found _ _ k l[k] (by simp [h]) (hend _ (by simp [h])) hlt
  · obtain rfl : k = l.length := by omega
    rw [List.findIdx_eq_length]
    intro y hy
    obtain ⟨i, hi, rfl⟩ := List.mem_iff_getElem.1 hy
    simpa using hlt i hi _ (by simp [hi])

end Go.Proofs.YtibgmijfnbnfkaaGreatDoor
