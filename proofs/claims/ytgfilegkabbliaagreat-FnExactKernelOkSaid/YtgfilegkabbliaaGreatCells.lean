/-
  Contracts: the laws' helpers on cells and slices of cells (szCell, toCell, eqCell, szCellS, toCellS, eqCellS, markCellS, heldCellS).
-/
import Derived.Test.YtgfilegkabbliaaGreatSlices
namespace Go.Proofs.YtgfilegkabbliaaGreat
open Go.ChangeShapes Go.WideShapes Go.ChangeAt Go.RowKit
set_option maxHeartbeats 1000000
set_option maxRecDepth 100000

def szCellD (c : CellD) : Nat := c.key.size + c.val.size
def szCells (l : List CellD) : Nat := l.length + sumOf szCellD l
abbrev ACells (w : World) (v : Value) (l : List CellD) : Prop := RArg 2 (Enc encC okC) w v l
theorem ACells.at {w : World} {a : Option Addr} {n cap : Nat} {l : List CellD} (h : ACells w (.slice a n cap) l) (i : Nat) (hi : i < n) :
    ∃ b off c, a = some ⟨b, off, none⟩ ∧ l[i]? = some c ∧ (c.key.size ≤ 9223372036854775807 ∧ c.val.size ≤ 9223372036854775807) ∧ w.cell? ⟨b, off + i * 2, none⟩ = some (.string c.key) ∧ w.cell? ⟨b, off + i * 2 + 1, none⟩ = some (.string c.val) := by
  obtain ⟨b, off, c, row, h1, h2, h3, ⟨rfl, h4⟩, h5⟩ := RArg.at h i hi
  exact ⟨b, off, c, h1, h2, h4, by simpa using h5 0 (.string c.key) rfl, by simpa using h5 1 (.string c.val) rfl⟩
theorem ACells.below {w w' : World} {v : Value} {l : List CellD} (h : ACells w v l) (hb : Bl w w') : ACells w' v l := RArg.below (Enc.stable _ _) h hb

theorem szCell_c (s y : ByteArray) (n : Int) (w : World) (h1 : s.size ≤ 9223372036854775807) (h2 : y.size ≤ 9223372036854775807) (h0 : 0 ≤ n) (hn : n ≤ 1048576) :
    Calls Tryz.prog 34 #[.agg #[.string s, .string y], .int .i64 n] w fun e w' => e = .returned (.int .i64 (subOr n (s.size + y.size))) ∧ Bl w w' := by
  go_enter Tryz.func34, Tryz.ntmps34
  go_wp2
  all_goals go_ret
  all_goals refine ⟨ret_int ?_, (Bl.refl w).alloc _⟩
  all_goals (unfold subOr; split <;> omega)

theorem toCell_c (s y : ByteArray) (w : World) :
    Calls Tryz.prog 43 #[.agg #[.string s, .string y]] w fun e w' => e = .returned (.agg #[.string s, .string y]) ∧ Bl w w' := by
  go_enter Tryz.func43, Tryz.ntmps43
  go_wp2
  refine bodyPost_ret (v := .agg #[.string s, .string y]) (by simp [results, Tryz.results43, go_sem]) rfl ⟨rfl, ?_⟩
  repeat (first | exact Bl.refl _ | refine Bl.setCell ?_ (by simp) _ | refine Bl.alloc ?_ _)

theorem eqCell_c (s y : ByteArray) (w : World) :
    Calls Tryz.prog 53 #[.agg #[.string s, .string y], .agg #[.string s, .string y]] w fun e w' => e = .returned (.bool true) ∧ Bl w w' := by
  go_enter Tryz.func53, Tryz.ntmps53
  go_wp2
  go_ret
  exact ⟨rfl, ((Bl.refl w).alloc _).alloc _⟩

theorem szCellS_c (v : Value) (n : Int) (w : World) (l : List CellD) (hr : ACells w v l) (h0 : 0 ≤ n) (h1 : n ≤ 1048576) :
    Calls Tryz.prog 9 #[v, .int .i64 n] w fun e w' => e = .returned (.int .i64 (subOr n (szCells l))) ∧ Bl w w' := by
  have hr0 := hr
  obtain ⟨a, cap, rfl, hle, hl, -, -⟩ := hr.inv
  have Hr := Lib.hid hr0; clear hr0 hr
  obtain ⟨len, hlen⟩ : ∃ len, l.length = len := ⟨_, rfl⟩
  rw [hlen] at hle hl Hr ⊢
  have Hlen := Lib.hid hlen; clear hlen
  go_enter Tryz.func9, Tryz.ntmps9
  go_wp2
  · go_ret
    refine ⟨ret_int ?_, Bl.refl _⟩
    have := Hlen.out
    unfold subOr szCells; split <;> omega
  · go_loopw [1, 5] (fun n' i wr => ∃ (k : Nat), k ≤ len ∧ i = .int .i64 k ∧ n' = .int .i64 (subOr n (len + sumOf szCellD (l.take k))) ∧ 0 ≤ subOr n (len + sumOf szCellD (l.take k)) ∧ Bl w wr) (fun _ i _ => len - (intOf i).toNat)
    case atStart =>
      refine ⟨0, by omega, rfl, ?_, ?_, Bl.refl _⟩
      · congr 1; simp [subOr, sumOf]; omega
      · simp [subOr, sumOf]; omega
    case round =>
      obtain ⟨k, hk, rfl, rfl, hm0, hB⟩ := hrel
      by_cases hlt : k < len
      · obtain ⟨b, off, ⟨s, y⟩, rfl, hx, ⟨hs1, hs2⟩, c1, c2⟩ := ACells.at (ACells.below Hr.out hB) k (by omega)
        dsimp only at hs1 hs2 c1 c2
        have hm1 := (subOr_bd n (len + sumOf szCellD (l.take k)) (by omega)).2
        have hst := sumOf_take szCellD l k ⟨s, y⟩ hx
        have hadd := subOr_add n (len + sumOf szCellD (l.take k)) (szCellD ⟨s, y⟩) hm0
        have hsp := sumOf_split szCellD l (k + 1)
        have hneg := subOr_neg n (len + sumOf szCellD (l.take (k + 1))) (sumOf szCellD (l.drop (k + 1)))
        rw [Nat.add_assoc, ← hst] at hadd
        rw [Nat.add_assoc, ← hsp] at hneg
        generalize hm : subOr n (len + sumOf szCellD (l.take k)) = m at *
        have hbd := subOr_bd m (szCellD ⟨s, y⟩) hm0
        obtain ⟨q, hq⟩ : ∃ q, subOr m (szCellD ⟨s, y⟩) = q := ⟨_, rfl⟩
        rw [hq] at hadd hbd
        have Hq := Lib.hid (show subOr m (s.size + y.size) = q from hq)
        have Hadd := Lib.hid hadd; have Hneg := Lib.hid hneg; have HB := Lib.hid hB
        clear hm hx hst hadd hsp hneg hB hq
        go_wp2_with (go_at_call 34; ((with_reducible refine (szCell_c s y m _ hs1 hs2 hm0 (by omega)).mono ?_); rintro e w1 ⟨rfl, hb⟩; rw [Hq.out]; have HB1 := Lib.hid (HB.out.trans hb); clear hb))
        · go_ret
          refine ⟨ret_int ?_, HB1.out⟩
          have h := Hadd.out
          have g := Hneg.out
          have e := Hlen.out
          unfold szCells
          rw [e, g (by rw [← h]; omega)]
        · have h := Hadd.out
          go_roundw
          case rel => exact ⟨k + 1, by omega, by go_num, by rw [h], by rw [← h]; omega, HB1.out⟩
          case measure => simp [intOf]; omega
      · go_wp2
        go_ret
        obtain rfl : k = len := by omega
        refine ⟨ret_int ?_, hB⟩
        have := Hlen.out
        unfold szCells
        rw [this, sumOf_all _ _ _ (by omega)]

theorem toCellS_c (v : Value) (w : World) (l : List CellD) (hr : ACells w v l) (hl : l.length ≤ 1048576) :
    Calls Tryz.prog 19 #[v] w fun e w' => ∃ v', e = .returned v' ∧ OCells w' v' l ∧ (∀ b ∈ v'.ownBlock.toList, w.heap.size ≤ b) ∧ Bl w w' := by
  have hr0 := hr
  obtain ⟨a, cap, rfl, hle, -, -, -⟩ := hr.inv
  have Hr := Lib.hid hr0; clear hr0 hr
  obtain ⟨len, hlen⟩ : ∃ len, l.length = len := ⟨_, rfl⟩
  rw [hlen] at hle hl Hr ⊢
  have Hlen := Lib.hid hlen; clear hlen
  go_enter Tryz.func19, Tryz.ntmps19
  go_wp2_with (refine wpList_mk (ok := okC) cellT rfl (.tmp 6) (.tmp 6) rfl ⟨⟨#[]⟩, ⟨#[]⟩⟩ rfl ⟨Nat.zero_le _, Nat.zero_le _⟩ len rfl rfl (by omega) ?_; intro w1 hown hb1 hlt1)
  go_loopw [4] (fun i wr => ∃ (k : Nat), k ≤ len ∧ i = .int .i64 k ∧ Bl w wr ∧ OCells wr (.slice (some ⟨w.heap.size, 0, none⟩) len len) (l.take k ++ List.replicate (len - k) ⟨⟨#[]⟩, ⟨#[]⟩⟩)) (fun i _ => len - (intOf i).toNat)
  case atStart => exact ⟨0, by omega, rfl, hb1, by simpa using hown⟩
  case round =>
    obtain ⟨k, hk, rfl, hB, hO⟩ := hrel
    by_cases hlt : k < len
    · obtain ⟨b, off, ⟨s, y⟩, rfl, hx, ⟨hs1, hs2⟩, c1, c2⟩ := ACells.at (ACells.below Hr.out hB) k (by omega)
      dsimp only at hs1 hs2 c1 c2
      have hz : (l.take k ++ List.replicate (len - k) (⟨⟨#[]⟩, ⟨#[]⟩⟩ : CellD))[k]? = some ⟨⟨#[]⟩, ⟨#[]⟩⟩ := by
        rw [List.getElem?_append_right (by simp; omega)]
        simp [List.getElem?_replicate, Hlen.out]; omega
      obtain ⟨b', hb', -, hcell, hfz, hlt'⟩ := Own.cellAt cellT.hk hO k _ hz
      cases hb'
      have d1 := hcell 0 (.string ⟨#[]⟩) rfl
      have d2 := hcell 1 (.string ⟨#[]⟩) rfl
      simp only [Nat.add_zero] at d1
      have hlist : (l.take k ++ List.replicate (len - k) (⟨⟨#[]⟩, ⟨#[]⟩⟩ : CellD)).set k ⟨s, y⟩ = l.take (k + 1) ++ List.replicate (len - (k + 1)) ⟨⟨#[]⟩, ⟨#[]⟩⟩ := by
        have h1 := Hlen.out
        rw [List.set_append_right _ _ (by rw [List.length_take]; omega), List.length_take, Nat.min_eq_left (by omega), Nat.sub_self, show len - k = (len - (k + 1)) + 1 by omega, List.replicate_succ, List.set_cons_zero, List.take_succ_eq_append_getElem (by omega), List.append_assoc]
        congr 1
        have : l[k]'(by omega) = ⟨s, y⟩ := (List.getElem?_eq_some_iff.1 hx).2
        simp [this]
      have hset : ∀ w1, Bl wr w1 → OCells ((w1.setCell ⟨w.heap.size, k * 2, none⟩ (.string s)).setCell ⟨w.heap.size, k * 2 + 1, none⟩ (.string y)) (.slice (some ⟨w.heap.size, 0, none⟩) len len) (l.take (k + 1) ++ List.replicate (len - (k + 1)) ⟨⟨#[]⟩, ⟨#[]⟩⟩) := by
        intro w1 hb
        have g1 := Own.setCell cellT.hk (hO.below hb) k 0 _ ⟨s, ⟨#[]⟩⟩ (.string s) hz (by omega) rfl ⟨hs1, Nat.zero_le _⟩
        have hlk : k < (l.take k ++ List.replicate (len - k) (⟨⟨#[]⟩, ⟨#[]⟩⟩ : CellD)).length := (List.getElem?_eq_some_iff.1 hz).1
        have g2 := Own.setCell cellT.hk g1 k 1 ⟨s, ⟨#[]⟩⟩ ⟨s, y⟩ (.string y) (by rw [List.getElem?_set_self hlk]) (by omega) rfl ⟨hs1, hs2⟩
        rw [List.set_set, hlist] at g2
        simpa using g2
      have Hset := Lib.hid hset; have HB := Lib.hid hB
      have f1 := hfz (k * 2); have f2 := hfz (k * 2 + 1)
      clear hz hcell hfz hset hlist hx hO hB hb1 hown
      have hk0 : (0 : Int) ≤ (k : Int) := by omega
      go_wp2_with (go_at_call 43; ((with_reducible refine (toCell_c s y _).mono ?_); rintro e w1 ⟨rfl, hb⟩; replace d1 := hb.cellOf d1; replace d2 := hb.cellOf d2; replace f1 := (bcell hb).2 w.heap.size (k * 2) hlt' ▸ f1; replace f2 := (bcell hb).2 w.heap.size (k * 2 + 1) hlt' ▸ f2; have Hset1 := Lib.hid (Hset.out w1 hb); have HB1 := Lib.hid (((HB.out.trans hb).setCell (p := ⟨w.heap.size, k * 2, none⟩) (Nat.le_refl _) (.string s)).setCell (p := ⟨w.heap.size, k * 2 + 1, none⟩) (Nat.le_refl _) (.string y)); clear hb))
      go_roundw
      case rel => exact ⟨k + 1, by omega, by go_num, HB1.out, Hset1.out⟩
      case measure => simp [intOf]; omega
    · obtain rfl : k = len := by omega
      have h1 := Hlen.out
      have hO2 : OCells wr (.slice (some ⟨w.heap.size, 0, none⟩) k k) l := by
        have : l.take k = l := List.take_of_length_le (by omega)
        rw [this] at hO
        simpa using hO
      clear h1 hO
      go_wp2
      go_ret
      exact ⟨_, rfl, hO2, by simp [Value.ownBlock], hB⟩
theorem toCellS_s (v : Value) (w : World) (l : List CellD) (hr : ACells w v l) (hl : l.length ≤ 1048576) :
    Calls Tryz.prog 19 #[v] w fun e w' => ∃ a n c, e = .returned (.slice a n c) ∧ OCells w' (.slice a n c) l ∧ (∀ b ∈ (Value.slice a n c).ownBlock.toList, w.heap.size ≤ b) ∧ Bl w w' :=
  Calls.sl (toCellS_c v w l hr hl) fun _ _ h => h.1.isSl

theorem eqCellS_c (v v' : Value) (w : World) (l : List CellD) (hr : RCells w v l) (hr' : RCells w v' l) :
    Calls Tryz.prog 29 #[v, v'] w fun e w' => e = .returned (.bool true) ∧ Bl w w' := by
  have hr0 := hr; have hr1 := hr'
  obtain ⟨a, cap, rfl, hle, hl, -, -⟩ := hr.inv
  obtain ⟨a', cap', rfl, hle', -, -, -⟩ := hr'.inv
  have Hr := Lib.hid hr0; have Hr' := Lib.hid hr1; clear hr0 hr hr1 hr'
  obtain ⟨len, hlen⟩ : ∃ len, l.length = len := ⟨_, rfl⟩
  rw [hlen] at hle hle' hl Hr Hr' ⊢
  have Hlen := Lib.hid hlen; clear hlen
  go_enter Tryz.func29, Tryz.ntmps29
  go_wp2
  go_loopw [5] (fun i wr => ∃ (k : Nat), k ≤ len ∧ i = .int .i64 k ∧ Bl w wr) (fun i _ => len - (intOf i).toNat)
  case atStart => exact ⟨0, by omega, rfl, Bl.refl _⟩
  case round =>
    obtain ⟨k, hk, rfl, hB⟩ := hrel
    by_cases hlt : k < len
    · obtain ⟨b, off, ⟨s, y⟩, rfl, hx, hxs, c1, c2⟩ := RCells.at (RCells.below Hr.out hB) k (by omega)
      obtain ⟨b', off', x', rfl, hx', hxs', c1', c2'⟩ := RCells.at (RCells.below Hr'.out hB) k (by omega)
      have e : x' = ⟨s, y⟩ := by rw [hx] at hx'; exact (Option.some.inj hx').symm
      subst e
      dsimp only at c1 c2 c1' c2'
      have hkk : (k : Int) < (len : Int) := by omega
      have HB := Lib.hid hB; clear hB hx hx' hxs hxs'
      go_wp2
      go_region_held3 (fun w' => w'.cell? ⟨b, off + k * 2, none⟩ = some (.string s) ∧ w'.cell? ⟨b, off + k * 2 + 1, none⟩ = some (.string y) ∧ w'.cell? ⟨b', off' + k * 2, none⟩ = some (.string s) ∧ w'.cell? ⟨b', off' + k * 2 + 1, none⟩ = some (.string y)) (first | (go_split_ands; exact ⟨hb.cellOf (by assumption), hb.cellOf (by assumption), hb.cellOf (by assumption), hb.cellOf (by assumption)⟩) | go_keep) (first | (go_at_call 53; refine (eqCell_c s y _).mono ?_; rintro e w1 ⟨rfl, hb⟩))
      go_wp2
      go_roundw
      case rel => exact ⟨k + 1, by omega, by go_num, HB.out.trans (((Bl.refl _).drew).trans hb)⟩
      case measure => simp [intOf]; omega
    · go_wp2
      go_ret
      exact ⟨rfl, hB⟩

/-- The marked cells from number k0 on: two numbers a cell. -/
def marksC (k0 n : Nat) : List CellD := (List.range n).map fun i => ⟨markT (k0 + 2 * i), markT (k0 + 2 * i + 1)⟩
theorem marksC_length (k0 n : Nat) : (marksC k0 n).length = n := by simp [marksC]
theorem marksC_at (k0 n k : Nat) (h : k < n) : (marksC k0 n)[k]? = some ⟨markT (k0 + 2 * k), markT (k0 + 2 * k + 1)⟩ := by simp [marksC, h]
theorem marksC_set (k0 k : Nat) (l : List CellD) (h : k < l.length) : (marksC k0 k ++ l.drop k).set k ⟨markT (k0 + 2 * k), markT (k0 + 2 * k + 1)⟩ = marksC k0 (k + 1) ++ l.drop (k + 1) := by
  have hs : marksC k0 (k + 1) = marksC k0 k ++ [⟨markT (k0 + 2 * k), markT (k0 + 2 * k + 1)⟩] := by simp [marksC, List.range_succ]
  rw [hs, List.set_append_right _ _ (by rw [marksC_length]; exact Nat.le_refl _), marksC_length, Nat.sub_self, List.append_assoc]
  congr 1
  rw [List.drop_eq_getElem_cons h]
  rfl
end Go.Proofs.YtgfilegkabbliaaGreat
