/-
  Contracts: slices of strings in the laws' helpers (szStringS, toStringS, eqStringS, markText, markStringS, heldStringS).
-/
import Derived.Test.YtkebmooffbkpgaaMem
namespace Go.Proofs.Ytkebmooffbkpgaa
open Go.ChangeShapes Go.WideShapes Go.ChangeAt Go.RowKit

/-! ### plain -/
/-- What a size function leaves of 'left': -1 if it is not enough. -/
def subOr (left : Int) (n : Nat) : Int := if (n : Int) ≤ left then left - n else -1
theorem subOr_bd (left : Int) (n : Nat) (h : 0 ≤ left) : -1 ≤ subOr left n ∧ subOr left n ≤ left := by unfold subOr; split <;> omega
theorem subOr_add (left : Int) (a b : Nat) : 0 ≤ subOr left a → subOr (subOr left a) b = subOr left (a + b) := by unfold subOr; split <;> split <;> split <;> omega
theorem subOr_neg (left : Int) (a b : Nat) : subOr left a < 0 → subOr left (a + b) = -1 := by unfold subOr; split <;> split <;> omega
theorem subOr_ge {left : Int} {a : Nat} : 0 ≤ subOr left a → subOr left a = left - a ∧ (a : Int) ≤ left := by unfold subOr; split <;> omega
def sumOf {α : Type} (f : α → Nat) (l : List α) : Nat := (l.map f).sum
theorem sumOf_take {α : Type} (f : α → Nat) (l : List α) (k : Nat) (x : α) (h : l[k]? = some x) : sumOf f (l.take (k + 1)) = sumOf f (l.take k) + f x := by
  have hk : k < l.length := (List.getElem?_eq_some_iff.1 h).1
  have hx : l[k] = x := (List.getElem?_eq_some_iff.1 h).2
  rw [List.take_succ_eq_append_getElem hk]
  simp [sumOf, hx]
theorem sumOf_split {α : Type} (f : α → Nat) (l : List α) (k : Nat) : sumOf f l = sumOf f (l.take k) + sumOf f (l.drop k) := by
  unfold sumOf
  conv => lhs; rw [← List.take_append_drop k l]
  simp only [List.map_append, List.sum_append]
theorem sumOf_all {α : Type} (f : α → Nat) (l : List α) (k : Nat) (h : l.length ≤ k) : sumOf f (l.take k) = sumOf f l := by rw [List.take_of_length_le h]
theorem sumOf_mem {α : Type} (f : α → Nat) (l : List α) (x : α) (h : x ∈ l) : f x ≤ sumOf f l := by
  induction l with
  | nil => cases h
  | cons y l ih =>
    simp only [sumOf, List.map_cons, List.sum_cons] at *
    rcases List.mem_cons.1 h with rfl | h
    · omega
    · have := ih h; omega

def encS (s : ByteArray) : List Value := [.string s]
def okS (s : ByteArray) : Prop := s.size ≤ 9223372036854775807
def szStrs (l : List ByteArray) : Nat := l.length + sumOf ByteArray.size l

/-- The letter m and the digits. -/
def markGo : Nat → Nat → List UInt8 → List UInt8
  | 0, _, out => out
  | f + 1, k, out => if k = 0 then out else markGo f (k / 10) (UInt8.ofNat (48 + k % 10) :: out)
def markT (k : Nat) : ByteArray := ⟨(109 :: (if k = 0 then [48] else markGo 20 k [])).toArray⟩
def marks (k n : Nat) : List ByteArray := (List.range n).map fun i => markT (k + i)
theorem marks_length (k n : Nat) : (marks k n).length = n := by simp [marks]
theorem marks_at (k n i : Nat) (h : i < n) : (marks k n)[i]? = some (markT (k + i)) := by simp [marks, h]
theorem marks_succ (k n : Nat) : marks k (n + 1) = marks k n ++ [markT (k + n)] := by simp [marks, List.range_succ]
theorem marks_set (k i : Nat) (l : List ByteArray) (h : i < l.length) : (marks k i ++ l.drop i).set i (markT (k + i)) = marks k (i + 1) ++ l.drop (i + 1) := by
  rw [marks_succ, List.set_append_right _ _ (by rw [marks_length]; exact Nat.le_refl _), marks_length, Nat.sub_self, List.append_assoc]
  congr 1
  rw [List.drop_eq_getElem_cons h]
  rfl

set_option maxHeartbeats 1000000

/-! ### the program's type -/
theorem strT : ElemT Try.prog 24 9 (.string ⟨#[]⟩) 1 16 encS where
  ht := Try.underlying24
  hT := ⟨by kernel_rfl, rfl, by omega⟩
  hk := fun _ => rfl
  h1 := fun x u hu => by simp [encS] at hu; subst hu; rfl
  by0 := by omega
abbrev RStrs (w : World) (v : Value) (l : List ByteArray) : Prop := RSl 1 (Enc encS okS) w v l
abbrev OStrs (w : World) (v : Value) (l : List ByteArray) : Prop := Own 9 1 encS okS w v l
theorem OStrs.rd {w : World} {v : Value} {l : List ByteArray} (h : OStrs w v l) : RStrs w v l := Own.rd strT.hk h
theorem RStrs.at {w : World} {a : Option Addr} {n cap : Nat} {l : List ByteArray} (h : RStrs w (.slice a n cap) l) (i : Nat) (hi : i < n) :
    ∃ b off s, a = some ⟨b, off, none⟩ ∧ l[i]? = some s ∧ s.size ≤ 9223372036854775807 ∧ w.cell? ⟨b, off + i, none⟩ = some (.string s) := by
  obtain ⟨b, off, s, row, h1, h2, h3, ⟨rfl, h4⟩, h5⟩ := RSl.at h i hi
  exact ⟨b, off, s, h1, h2, h4, by simpa using h5 0 (.string s) rfl⟩
abbrev AStrs (w : World) (v : Value) (l : List ByteArray) : Prop := RArg 1 (Enc encS okS) w v l
theorem AStrs.at {w : World} {a : Option Addr} {n cap : Nat} {l : List ByteArray} (h : AStrs w (.slice a n cap) l) (i : Nat) (hi : i < n) :
    ∃ b off s, a = some ⟨b, off, none⟩ ∧ l[i]? = some s ∧ s.size ≤ 9223372036854775807 ∧ w.cell? ⟨b, off + i, none⟩ = some (.string s) := by
  obtain ⟨b, off, s, row, h1, h2, h3, ⟨rfl, h4⟩, h5⟩ := RArg.at h i hi
  exact ⟨b, off, s, h1, h2, h4, by simpa using h5 0 (.string s) rfl⟩
theorem AStrs.below {w w' : World} {v : Value} {l : List ByteArray} (h : AStrs w v l) (hb : Bl w w') : AStrs w' v l := RArg.below (Enc.stable _ _) h hb
theorem RStrs.below {w w' : World} {v : Value} {l : List ByteArray} (h : RStrs w v l) (hb : Bl w w') : RStrs w' v l := RSl.below (Enc.stable _ _) h hb

/-! ### szStringS -/
theorem szStringS_c (v : Value) (n : Int) (w : World) (l : List ByteArray) (hr : AStrs w v l) (h0 : 0 ≤ n) (h1 : n ≤ 1048576) :
    Calls Try.prog 42 #[v, .int .i64 n] w fun e w' => e = .returned (.int .i64 (subOr n (szStrs l))) ∧ Bl w w' := by
  have hr0 := hr
  obtain ⟨a, cap, rfl, hle, hl, -, -⟩ := hr.inv
  have Hr := Lib.hid hr0; clear hr0 hr
  obtain ⟨len, hlen⟩ : ∃ len, l.length = len := ⟨_, rfl⟩
  rw [hlen] at hle hl Hr ⊢
  have Hlen := Lib.hid hlen; clear hlen
  go_enter Try.func42, Try.ntmps42
  go_wp2
  · go_ret
    refine ⟨ret_int ?_, Bl.refl _⟩
    have := Hlen.out
    unfold subOr szStrs; split <;> omega
  · go_loopw [1, 5] (fun n' i wr => ∃ (k : Nat), k ≤ len ∧ i = .int .i64 k ∧ n' = .int .i64 (subOr n (len + sumOf ByteArray.size (l.take k))) ∧ 0 ≤ subOr n (len + sumOf ByteArray.size (l.take k)) ∧ Bl w wr) (fun _ i _ => len - (intOf i).toNat)
    case atStart =>
      refine ⟨0, by omega, rfl, ?_, ?_, Bl.refl _⟩
      · congr 1; simp [subOr, sumOf]; omega
      · simp [subOr, sumOf]; omega
    case round =>
      obtain ⟨k, hk, rfl, rfl, hm0, hB⟩ := hrel
      by_cases hlt : k < len
      · obtain ⟨b, off, x, rfl, hx, hxs, c1⟩ := AStrs.at (AStrs.below Hr.out hB) k (by omega)
        have hm1 := (subOr_bd n (len + sumOf ByteArray.size (l.take k)) (by omega)).2
        have hst := sumOf_take ByteArray.size l k x hx
        have hadd := subOr_add n (len + sumOf ByteArray.size (l.take k)) x.size hm0
        have hsp := sumOf_split ByteArray.size l (k + 1)
        have hneg := subOr_neg n (len + sumOf ByteArray.size (l.take (k + 1))) (sumOf ByteArray.size (l.drop (k + 1)))
        rw [Nat.add_assoc, ← hst] at hadd
        rw [Nat.add_assoc, ← hsp] at hneg
        generalize hm : subOr n (len + sumOf ByteArray.size (l.take k)) = m at *
        have Hadd := Lib.hid hadd; have Hneg := Lib.hid hneg; have HB := Lib.hid hB
        clear hm hx hst hadd hsp hneg hB
        go_wp2
        · go_ret
          refine ⟨ret_int ?_, HB.out⟩
          have h := Hadd.out
          have g := Hneg.out
          have e := Hlen.out
          unfold szStrs
          rw [e, g (by rw [← h]; unfold subOr; split <;> omega)]
        · have h := Hadd.out
          have e : m - (x.size : Int) = subOr n (len + sumOf ByteArray.size (l.take (k + 1))) := by rw [← h]; unfold subOr; split <;> omega
          go_roundw
          case rel => exact ⟨k + 1, by omega, by go_num, by rw [e], by rw [← e]; omega, HB.out⟩
          case measure => simp [intOf]; omega
      · go_wp2
        go_ret
        obtain rfl : k = len := by omega
        refine ⟨ret_int ?_, hB⟩
        have := Hlen.out
        unfold szStrs
        rw [this, sumOf_all _ _ _ (by omega)]

/-! ### toStringS -/
theorem toStringS_c (v : Value) (w : World) (l : List ByteArray) (hr : AStrs w v l) (hl : l.length ≤ 1048576) :
    Calls Try.prog 45 #[v] w fun e w' => ∃ v', e = .returned v' ∧ OStrs w' v' l ∧ (∀ b ∈ v'.ownBlock.toList, w.heap.size ≤ b) ∧ Bl w w' := by
  have hr0 := hr
  obtain ⟨a, cap, rfl, hle, -, -, -⟩ := hr.inv
  have Hr := Lib.hid hr0; clear hr0 hr
  obtain ⟨len, hlen⟩ : ∃ len, l.length = len := ⟨_, rfl⟩
  rw [hlen] at hle hl Hr ⊢
  have Hlen := Lib.hid hlen; clear hlen
  go_enter Try.func45, Try.ntmps45
  go_wp2_with (refine wpList_mk (ok := okS) strT rfl (.tmp 6) (.tmp 6) rfl ⟨#[]⟩ rfl (Nat.zero_le _) len rfl rfl (by omega) ?_; intro w1 hown hb1 hlt1)
  go_loopw [4] (fun i wr => ∃ (k : Nat), k ≤ len ∧ i = .int .i64 k ∧ Bl w wr ∧ OStrs wr (.slice (some ⟨w.heap.size, 0, none⟩) len len) (l.take k ++ List.replicate (len - k) ⟨#[]⟩)) (fun i _ => len - (intOf i).toNat)
  case atStart => exact ⟨0, by omega, rfl, hb1, by simpa using hown⟩
  case round =>
    obtain ⟨k, hk, rfl, hB, hO⟩ := hrel
    by_cases hlt : k < len
    · obtain ⟨b, off, x, rfl, hx, hxs, c1⟩ := AStrs.at (AStrs.below Hr.out hB) k (by omega)
      have hz : (l.take k ++ List.replicate (len - k) (⟨#[]⟩ : ByteArray))[k]? = some ⟨#[]⟩ := by
        rw [List.getElem?_append_right (by simp; omega)]
        simp [List.getElem?_replicate, Hlen.out]; omega
      obtain ⟨b', hb', -, hcell, hfz, hlt'⟩ := Own.cellAt strT.hk hO k _ hz
      cases hb'
      have c2 := hcell 0 (.string ⟨#[]⟩) rfl
      have f2 := hfz k
      simp only [Nat.mul_one, Nat.add_zero] at c2
      have hset := Own.setCell strT.hk hO k 0 _ x (.string x) hz (by omega) rfl hxs
      have hlist : (l.take k ++ List.replicate (len - k) (⟨#[]⟩ : ByteArray)).set k x = l.take (k + 1) ++ List.replicate (len - (k + 1)) ⟨#[]⟩ := by
        have h1 := Hlen.out
        rw [List.set_append_right _ _ (by rw [List.length_take]; omega), List.length_take, Nat.min_eq_left (by omega), Nat.sub_self, show len - k = (len - (k + 1)) + 1 by omega, List.replicate_succ, List.set_cons_zero, List.take_succ_eq_append_getElem (by omega), List.append_assoc]
        congr 1
        have : l[k]'(by omega) = x := (List.getElem?_eq_some_iff.1 hx).2
        simp [this]
      rw [hlist] at hset
      simp only [Nat.mul_one, Nat.add_zero] at hset
      have hB2 : Bl w (wr.setCell ⟨w.heap.size, k, none⟩ (.string x)) := hB.setCell (Nat.le_refl _) _
      have Hset := Lib.hid hset; have HB2 := Lib.hid hB2
      clear hz hcell hfz hset hlist hB2 hx hO hB hb1 hown
      go_wp2
      go_roundw
      case rel => exact ⟨k + 1, by omega, by go_num, HB2.out, Hset.out⟩
      case measure => simp [intOf]; omega
    · obtain rfl : k = len := by omega
      have h1 := Hlen.out
      have hO2 : OStrs wr (.slice (some ⟨w.heap.size, 0, none⟩) k k) l := by
        have : l.take k = l := List.take_of_length_le (by omega)
        rw [this] at hO
        simpa using hO
      clear h1 hO
      go_wp2
      go_ret
      exact ⟨_, rfl, hO2, by simp [Value.ownBlock], hB⟩

theorem toStringS_s (v : Value) (w : World) (l : List ByteArray) (hr : AStrs w v l) (hl : l.length ≤ 1048576) :
    Calls Try.prog 45 #[v] w fun e w' => ∃ a n c, e = .returned (.slice a n c) ∧ OStrs w' (.slice a n c) l ∧ (∀ b ∈ (Value.slice a n c).ownBlock.toList, w.heap.size ≤ b) ∧ Bl w w' :=
  Calls.sl (toStringS_c v w l hr hl) fun _ _ h => h.1.isSl

/-! ### eqStringS -/
theorem eqStringS_c (v v' : Value) (w : World) (l : List ByteArray) (hr : RStrs w v l) (hr' : RStrs w v' l) :
    Calls Try.prog 52 #[v, v'] w fun e w' => e = .returned (.bool true) ∧ Bl w w' := by
  have hr0 := hr; have hr1 := hr'
  obtain ⟨a, cap, rfl, hle, hl, -, -⟩ := hr.inv
  obtain ⟨a', cap', rfl, hle', -, -, -⟩ := hr'.inv
  have Hr := Lib.hid hr0; have Hr' := Lib.hid hr1; clear hr0 hr hr1 hr'
  obtain ⟨len, hlen⟩ : ∃ len, l.length = len := ⟨_, rfl⟩
  rw [hlen] at hle hle' hl Hr Hr' ⊢
  have Hlen := Lib.hid hlen; clear hlen
  go_enter Try.func52, Try.ntmps52
  go_wp2
  go_loopw [5] (fun i wr => ∃ (k : Nat), k ≤ len ∧ i = .int .i64 k ∧ Bl w wr) (fun i _ => len - (intOf i).toNat)
  case atStart => exact ⟨0, by omega, rfl, Bl.refl _⟩
  case round =>
    obtain ⟨k, hk, rfl, hB⟩ := hrel
    by_cases hlt : k < len
    · obtain ⟨b, off, x, rfl, hx, hxs, c1⟩ := RStrs.at (RStrs.below Hr.out hB) k (by omega)
      obtain ⟨b', off', x', rfl, hx', hxs', c1'⟩ := RStrs.at (RStrs.below Hr'.out hB) k (by omega)
      have e : x' = x := by rw [hx] at hx'; exact (Option.some.inj hx').symm
      subst e
      have HB := Lib.hid hB; clear hB hx hx'
      go_wp2
      go_quiet (fail)
      go_wp2
      go_roundw
      case rel => exact ⟨k + 1, by omega, by go_num, HB.out.drewN _⟩
      case measure => simp [intOf]; omega
    · go_wp2
      go_ret
      exact ⟨rfl, hB⟩

/-! ### markText -/
/-- A conversion of a one-byte slice to a string, as the walk meets it. -/
theorem conv_byte (w : World) (n : Int) (hs : Try.prog.underlying 80 = some (.slice 5) := by exact Try.underlying80) :
    (convert 80 9 (.slice (some ⟨w.heap.size, 0, none⟩) 1 1)).run Try.prog (w.alloc (.cells #[.int .u8 n] 5)) = .ok (.string ⟨#[UInt8.ofNat n.toNat]⟩) (w.alloc (.cells #[.int .u8 n] 5)) := by
  have h := run_convert_bytes_arg (P := Try.prog) (w.alloc (.cells #[.int .u8 n] 5)) 80 5 hs Try.underlying5 w.heap.size 0 1 1 [n] rfl (fun i hi => by
    obtain rfl : i = 0 := by omega
    simp) 9 Try.underlying9
  exact h
theorem bytes_append (a b : Array UInt8) : (⟨a⟩ : ByteArray) ++ ⟨b⟩ = ⟨a ++ b⟩ := by
  apply ByteArray.ext
  simp

set_option maxRecDepth 100000 in
theorem markText_c (k : Nat) (w : World) (hk2 : k ≤ 9223372036854775807) :
    Calls Try.prog 53 #[.int .i64 k] w fun e w' => e = .returned (.string (markT k)) ∧ Bl w w' := by
  by_cases h0 : k = 0
  · subst h0
    go_enter Try.func53, Try.ntmps53
    go_wp2
    go_ret
    exact ⟨rfl, Bl.refl _⟩
  · have hk1 : 0 < (k : Int) := by omega
    go_enter Try.func53, Try.ntmps53
    go_wp2
    go_loopw [0, 3] (fun q out wr => ∃ (f m : Nat) (o : List UInt8), q = .int .i64 m ∧ out = .string ⟨o.toArray⟩ ∧ m < 10 ^ f ∧ m ≤ 9223372036854775807 ∧ o.length + f ≤ 20 ∧ markGo f m o = markGo 20 k [] ∧ Bl w wr) (fun q _ _ => (intOf q).toNat)
    case atStart => exact ⟨20, k, [], rfl, rfl, by omega, hk2, by simp, rfl, Bl.refl _⟩
    case round =>
      obtain ⟨f, m, o, rfl, rfl, hm, hmm, hlen, hgo, hB⟩ := hrel
      by_cases hm0 : m = 0
      · subst hm0
        have Hgo := Lib.hid hgo; clear hgo
        go_wp2
        go_ret
        refine ⟨ret_str ?_, hB⟩
        have e : markGo f 0 o = o := by cases f <;> simp [markGo]
        have h := Hgo.out
        rw [e] at h
        rw [bytes_append]
        unfold markT
        rw [if_neg h0, ← h]
        simp
      · have hm1 : 0 < (m : Int) := by omega
        have hcv := conv_byte wr (48 + (m : Int) % 10)
        have Hgo := Lib.hid hgo; have Hm := Lib.hid hm; have HB := Lib.hid hB; have Hm0 := Lib.hid hm0
        clear hgo hm hB hk1 hm0
        go_wp2
        go_roundw
        case rel =>
          have hf : ∃ f', f = f' + 1 := by
            cases f with
            | zero => have := Hm.out; have := Hm0.out; omega
            | succ f' => exact ⟨f', rfl⟩
          obtain ⟨f', rfl⟩ := hf
          refine ⟨f', m / 10, UInt8.ofNat (48 + m % 10) :: o, by go_num, ?_, ?_, by omega, by simp; omega, ?_, (HB.out).alloc _⟩
          · rw [bytes_append]
            congr 2
            simp
          · have := Hm.out
            rw [Nat.pow_succ] at this
            omega
          · rw [← Hgo.out]
            simp [markGo, Hm0.out]
        case measure => simp [intOf]; have := Hm0.out; omega

theorem markGo_len (f k : Nat) (out : List UInt8) : (markGo f k out).length ≤ out.length + f := by
  induction f generalizing k out with
  | zero => simp [markGo]
  | succ f ih =>
    unfold markGo
    split
    · omega
    · have := ih (k / 10) (UInt8.ofNat (48 + k % 10) :: out)
      rw [List.length_cons] at this; omega
theorem markT_size (k : Nat) : (markT k).size ≤ 21 := by
  unfold markT
  split
  · simp [ByteArray.size]
  · simp only [ByteArray.size, List.size_toArray, List.length_cons]
    have h := markGo_len 20 k []
    simp at h
    omega
theorem markT_ok (k : Nat) : okS (markT k) := by have := markT_size k; unfold okS; omega

/-! ### markStringS, heldStringS -/
set_option maxRecDepth 100000 in
theorem markStringS_c0 (v : Value) (k0 : Nat) (w : World) (l : List ByteArray) (hO : OStrs w v l) (hk : k0 + l.length ≤ 4611686018427387904) :
    Calls Try.prog 54 #[v, .int .i64 k0] w fun e w' => e = .returned (.int .i64 ((k0 + l.length : Nat) : Int)) ∧ OStrs w' v (marks k0 l.length) ∧ KeepBut v.ownBlock.toList w w' := by
  have hr := hO.rd
  obtain ⟨a, cap, rfl, hle, hl, -, -⟩ := hr.inv
  obtain ⟨len, hlen⟩ : ∃ len, l.length = len := ⟨_, rfl⟩
  rw [hlen] at hle hl hO hk ⊢
  have Hlen := Lib.hid hlen
  have HO := Lib.hid hO; clear hlen hr hO
  go_enter Try.func54, Try.ntmps54
  go_wp2
  go_loopw [1, 5] (fun q i wr => ∃ (k : Nat), k ≤ len ∧ i = .int .i64 k ∧ q = .int .i64 ((k0 + k : Nat) : Int) ∧ KeepBut (Value.slice a len cap).ownBlock.toList w wr ∧ OStrs wr (.slice a len cap) (marks k0 k ++ l.drop k)) (fun _ i _ => len - (intOf i).toNat)
  case atStart => exact ⟨0, by omega, rfl, by go_num, KeepBut.refl _ _, by simpa [marks] using HO.out⟩
  case round =>
    obtain ⟨k, hk, rfl, rfl, hB, hO⟩ := hrel
    by_cases hlt : k < len
    · have hz : (marks k0 k ++ l.drop k)[k]? = some (l[k]'(by have := Hlen.out; omega)) := by
        rw [List.getElem?_append_right (by rw [marks_length]; exact Nat.le_refl _), marks_length, Nat.sub_self]
        simp [Hlen.out, hlt]
      obtain ⟨b, rfl, -, hcell, hfz, hlt'⟩ := Own.cellAt strT.hk hO k _ hz
      have c2 := hcell 0 _ rfl
      have f2 := hfz k
      simp only [Nat.mul_one, Nat.add_zero] at c2
      have hset := fun w1 (hb : Bl wr w1) => Own.setCell strT.hk (hO.below hb) k 0 _ (markT (k0 + k)) (.string (markT (k0 + k))) hz (by omega) rfl (markT_ok _)
      rw [marks_set k0 k l (by have := Hlen.out; omega)] at hset
      simp only [Nat.mul_one, Nat.add_zero] at hset
      have Hset := Lib.hid hset; have HB := Lib.hid hB
      clear hset hB hz hcell hfz hO
      go_wp2_with (go_at_call 53; refine (markText_c (k0 + k) _ (by omega)).mono ?_; rintro e w1 ⟨rfl, hb⟩; replace c2 := hb.cellOf c2; replace f2 := (bcell hb).2 b k hlt' ▸ f2)
      go_roundw
      case rel => exact ⟨k + 1, by omega, by go_num, by go_num, HB.out.trans ((hb.keep _).setCell (.inl (by simp [Value.ownBlock])) _) (fun x hx => .inl hx), Hset.out _ hb⟩
      case measure => simp [intOf]; omega
    · obtain rfl : k = len := by omega
      have hO2 : OStrs wr (.slice a k cap) (marks k0 k) := by
        have : l.drop k = [] := List.drop_eq_nil_of_le (by have := Hlen.out; omega)
        rw [this, List.append_nil] at hO
        exact hO
      clear hO
      go_wp2
      go_ret
      exact ⟨rfl, hO2, hB⟩

set_option maxRecDepth 100000 in
theorem heldStringS_c0 (v : Value) (k0 n : Nat) (w : World) (hr : RStrs w v (marks k0 n)) (hk : k0 + n ≤ 4611686018427387904) :
    Calls Try.prog 55 #[v, .int .i64 k0] w fun e w' => e = .returned (.int .i64 ((k0 + n : Nat) : Int)) ∧ Bl w w' := by
  have hr0 := hr
  obtain ⟨a, cap, rfl, hle, hl, -, -⟩ := hr.inv
  rw [marks_length] at *
  have Hr := Lib.hid hr0; clear hr0 hr
  go_enter Try.func55, Try.ntmps55
  go_wp2
  go_loopw [1, 5] (fun q i wr => ∃ (k : Nat), k ≤ n ∧ i = .int .i64 k ∧ q = .int .i64 ((k0 + k : Nat) : Int) ∧ Bl w wr) (fun _ i _ => n - (intOf i).toNat)
  case atStart => exact ⟨0, by omega, rfl, by go_num, Bl.refl _⟩
  case round =>
    obtain ⟨k, hk, rfl, rfl, hB⟩ := hrel
    by_cases hlt : k < n
    · obtain ⟨b, off, x, rfl, hx, hxs, c1⟩ := RStrs.at (RStrs.below Hr.out hB) k (by omega)
      rw [marks_at _ _ _ hlt] at hx
      obtain rfl := Option.some.inj hx
      have HB := Lib.hid hB; clear hB hx
      go_wp2
      go_region_held3 (fun w' => w'.cell? ⟨b, off + k, none⟩ = some (.string (markT (k0 + k)))) (first | exact c1 | exact hb.cellOf c1 | exact hb.cellOf (by assumption) | assumption) (first | (go_at_call 53; refine (markText_c (k0 + k) _ (by omega)).mono ?_; rintro e w1 ⟨rfl, hb⟩))
      go_wp2
      go_roundw
      case rel => exact ⟨k + 1, by omega, by go_num, by go_num, by first | exact HB.out.trans (((Bl.refl _).drew).trans hb) | exact HB.out.trans hb | exact (HB.out.trans hb).drew⟩
      case measure => simp [intOf]; omega
    · go_wp2
      go_ret
      obtain rfl : k = n := by omega
      exact ⟨rfl, hB⟩

theorem markStringS_c (v : Value) (k0 : Nat) (q : Int) (hq : q = k0) (w : World) (l : List ByteArray) (hO : OStrs w v l) (hk : k0 + l.length ≤ 4611686018427387904) :
    Calls Try.prog 54 #[v, .int .i64 q] w fun e w' => e = .returned (.int .i64 ((k0 + l.length : Nat) : Int)) ∧ OStrs w' v (marks k0 l.length) ∧ KeepBut v.ownBlock.toList w w' := by
  subst hq; exact markStringS_c0 v k0 w l hO hk
theorem heldStringS_c (v : Value) (k0 n : Nat) (q : Int) (hq : q = k0) (w : World) (hr : RStrs w v (marks k0 n)) (hk : k0 + n ≤ 4611686018427387904) :
    Calls Try.prog 55 #[v, .int .i64 q] w fun e w' => e = .returned (.int .i64 ((k0 + n : Nat) : Int)) ∧ Bl w w' := by
  subst hq; exact heldStringS_c0 v k0 n w hr hk
end Go.Proofs.Ytkebmooffbkpgaa
