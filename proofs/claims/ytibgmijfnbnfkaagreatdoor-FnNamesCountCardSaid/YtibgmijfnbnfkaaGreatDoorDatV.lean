/-
  Counters; keys with numbers.
-/
import Derived.Lib.ItoaNum
import Derived.Lib.ItoaMem
import Derived.Lib.ItoaLen
import Derived.Lib.AtoiAll
import Derived.Lib.HexFns2
import Derived.Test.YtibgmijfnbnfkaaGreatDoorDatB
import Derived.Test.YtibgmijfnbnfkaaGreatDoorEng8
import Derived.Test.YtibgmijfnbnfkaaGreatDoorTab
namespace Go.Proofs.YtibgmijfnbnfkaaGreatDoor
open Go.ChangeShapes Go.WideShapes Go.ChangeAt Go.RowKit
set_option maxRecDepth 100000
set_option maxHeartbeats 1000000

/-- A number's decimal text. -/
def decS (n : Int) : ByteArray := ⟨(Lib.itoa n).toArray⟩
/-- The number that a text's figures spell. -/
def valL (l : List UInt8) : Nat := l.foldl (fun a c => 10 * a + (c.toNat - 48)) 0
theorem valL_snoc (l : List UInt8) (c : UInt8) : valL (l ++ [c]) = 10 * valL l + (c.toNat - 48) := by unfold valL; rw [List.foldl_append]; rfl
theorem fig_toNat {d : Nat} (h : d < 10) : (UInt8.ofNat (48 + d)).toNat = 48 + d := by rw [UInt8.toNat_ofNat']; omega
theorem valL_dec (u : Nat) : valL (Lib.decDigits u) = u := by
  induction u using Nat.strongRecOn with
  | ind u ih =>
    rw [Lib.decDigits]
    split
    · rename_i h
      show 10 * 0 + ((UInt8.ofNat (48 + u)).toNat - 48) = u
      rw [fig_toNat h]; omega
    · rename_i h
      rw [valL_snoc, ih _ (by omega), fig_toNat (by omega)]; omega
def isD (c : UInt8) : Prop := 48 ≤ c.toNat ∧ c.toNat ≤ 57
theorem dec_all (u : Nat) : ∀ c ∈ Lib.decDigits u, isD c := by
  induction u using Nat.strongRecOn with
  | ind u ih =>
    rw [Lib.decDigits]
    split
    · rename_i h
      intro c hc
      rw [List.mem_singleton.1 hc]
      unfold isD; rw [fig_toNat h]; omega
    · rename_i h
      intro c hc
      rcases List.mem_append.1 hc with hc | hc
      · exact ih _ (by omega) c hc
      · rw [List.mem_singleton.1 hc]
        unfold isD; rw [fig_toNat (by omega)]; omega
theorem dec_ne (u : Nat) : Lib.decDigits u ≠ [] := by
  rw [Lib.decDigits]; split <;> simp
theorem dec_len : ∀ (k u : Nat), u < 10 ^ (k + 1) → (Lib.decDigits u).length ≤ k + 1
  | 0, u, h => by rw [Lib.decDigits, dif_pos (by simpa using h)]; simp
  | k + 1, u, h => by
    rw [Lib.decDigits]
    split
    · simp
    · rw [List.length_append]
      have := dec_len k (u / 10) (by rw [Nat.pow_succ] at h; omega)
      ((repeat (first | rw [List.length_append] | rw [List.length_cons] | rw [List.length_nil] | rw [List.length_take] | rw [List.length_drop])) <;> omega)
theorem parse_step : ∀ (l : List UInt8) (acc : Nat), (∀ c ∈ l, isD c) → l.foldl (fun a c => 10 * a + (c.toNat - 48)) acc < 1844674407370955162 → Lib.parseUint10 acc l = .ok (l.foldl (fun a c => 10 * a + (c.toNat - 48)) acc)
  | [], acc, _, _ => rfl
  | c :: l, acc, hd, h => by
    have hc := hd c (List.mem_cons_self ..)
    have hm : ∀ (l : List UInt8) (a : Nat), a ≤ l.foldl (fun a (c : UInt8) => 10 * a + (c.toNat - 48)) a := by
      intro l
      induction l with
      | nil => intro a; exact Nat.le_refl _
      | cons d l ih => intro a; exact Nat.le_trans (by omega) (ih (10 * a + (d.toNat - 48)))
    have h1 := hm l (10 * acc + (c.toNat - 48))
    simp only [List.foldl_cons] at h
    unfold isD at hc
    simp only [Lib.parseUint10]
    rw [if_pos hc, if_neg (by omega), if_neg (by omega), show acc * 10 + (c.toNat - 48) = 10 * acc + (c.toNat - 48) by omega, parse_step l _ (fun d hd' => hd d (List.mem_cons_of_mem _ hd')) h]
    rfl
theorem atoi_dec {u : Nat} (h : u ≤ 1000000000) : Lib.atoiAll (Lib.decDigits u) = .ok (u : Int) := by
  have ha := dec_all u
  have hv := valL_dec u
  cases e : Lib.decDigits u with
  | nil => exact absurd e (dec_ne u)
  | cons c r =>
    rw [e] at ha hv
    have hc := ha c (List.mem_cons_self ..)
    unfold isD at hc
    have hp : Lib.parseMag (c :: r) = .ok u := by
      unfold Lib.parseMag
      rw [if_neg (by simp), parse_step _ 0 ha (by show valL (c :: r) < _; omega)]
      exact congrArg _ hv
    unfold Lib.atoiAll
    simp only
    rw [if_neg (by omega), hp]
    simp only
    rw [if_neg (by omega), if_neg (by omega), if_neg (by omega)]
/-- The number that a text is the decimal text of. -/
def readD (s : ByteArray) : Option Nat := if valL s.data.toList ≤ 1000000000 ∧ s = decS (valL s.data.toList) then some (valL s.data.toList) else none
theorem decS_toList (u : Nat) : (decS (u : Int)).data.toList = Lib.decDigits u := by
  unfold decS; rw [Lib.itoa_nonneg]
theorem readD_some {s : ByteArray} {n : Nat} : readD s = some n ↔ n ≤ 1000000000 ∧ s = decS n := by
  unfold readD
  constructor
  · intro h
    split at h
    · rename_i h1
      rw [← Option.some.inj h]; exact h1
    · cases h
  · rintro ⟨h1, rfl⟩
    have hv : valL (decS (n : Int)).data.toList = n := by rw [decS_toList, valL_dec]
    rw [hv, if_pos ⟨h1, rfl⟩]
def readN (s : ByteArray) : Nat := (readD s).getD 0
def readB (s : ByteArray) : Bool := (readD s).isSome
theorem read_yes {s : ByteArray} {n : Nat} (h1 : n ≤ 1000000000) (h2 : decS n = s) : readN s = n ∧ readB s = true := by
  have := readD_some.2 ⟨h1, h2.symm⟩
  unfold readN readB; rw [this]; exact ⟨rfl, rfl⟩
theorem read_no {s : ByteArray} (h : ∀ n, n ≤ 1000000000 → decS (n : Nat) ≠ s) : readN s = 0 ∧ readB s = false := by
  have : readD s = none := by
    cases e : readD s with
    | none => rfl
    | some n => exact absurd (readD_some.1 e).2.symm (h n (readD_some.1 e).1)
  unfold readN readB; rw [this]; exact ⟨rfl, rfl⟩
/-- By the program: strconv.Atoi, the range, and back again. -/
theorem read_bad {s : ByteArray} (h : ∀ v, Lib.atoiAll s.data.toList ≠ .ok v) : readN s = 0 ∧ readB s = false := read_no fun n hn e => by
  subst e
  exact h n (by rw [decS_toList]; exact atoi_dec hn)
theorem read_out {s : ByteArray} {v : Int} (h : Lib.atoiAll s.data.toList = .ok v) (hv : ¬ (0 ≤ v ∧ v ≤ 1000000000) ∨ decS v ≠ s) : readN s = 0 ∧ readB s = false := read_no fun n hn e => by
  subst e
  rw [decS_toList, atoi_dec hn] at h
  have : (n : Int) = v := by injection h
  subst this
  rcases hv with hv | hv
  · omega
  · exact hv rfl
theorem read_in {s : ByteArray} {v : Int} (hv : 0 ≤ v ∧ v ≤ 1000000000) (h : decS v = s) : (readN s : Int) = v ∧ readB s = true := by
  obtain ⟨n, rfl⟩ : ∃ n : Nat, v = n := ⟨v.toNat, by omega⟩
  obtain ⟨h1, h2⟩ := read_yes (n := n) (by omega) h
  exact ⟨by rw [h1], h2⟩
theorem size_toList (s : ByteArray) : s.size = s.data.toList.length := by rw [Array.length_toList]; rfl
/-- The reference's decimal: figure by figure from the right, over whole numbers of either sign. -/
def digL (u : Nat) : List UInt8 := if u = 0 then [] else Lib.decDigits u
/-- n0: the number; m: what is left of it; s: the figures so far. -/
def decInv (n0 m : Int) (s : ByteArray) : Prop := digL n0.natAbs = digL m.natAbs ++ s.data.toList ∧ (0 ≤ n0 → 0 ≤ m) ∧ (n0 ≤ 0 → m ≤ 0) ∧ m.natAbs ≤ n0.natAbs
theorem decInv.start (n0 : Int) : decInv n0 n0 ⟨#[]⟩ := ⟨by simp, id, id, Nat.le_refl _⟩
theorem natAbs_tdiv (m : Int) : (m.tdiv 10).natAbs = m.natAbs / 10 := by rw [Int.natAbs_tdiv]; rfl
theorem decInv.done {n0 : Int} {s : ByteArray} (h : decInv n0 0 s) (h0 : n0 ≠ 0) (hn : ¬ n0 < 0) : s = decS n0 := by
  obtain ⟨h1, _, _, _⟩ := h
  apply ByteArray.ext
  apply Array.toList_inj.1
  have e1 : digL 0 = [] := rfl
  rw [Int.natAbs_zero, e1, List.nil_append] at h1
  rw [← h1]
  unfold digL decS Lib.itoa
  rw [if_neg (by omega), if_neg hn]
  have : n0.natAbs = n0.toNat := by omega
  rw [this]
theorem decS_size (n : Int) (h : i64ok n) : (decS n).size ≤ 21 := by
  unfold i64ok at h
  have := Lib.itoa_length_le n (by omega) (by omega)
  rw [size_toList]; exact this
/-- A count that a value stands for. -/
def numOf (s : ByteArray) : Nat := if readN s ≤ 999 then readN s else 0
theorem numOf_le (s : ByteArray) : numOf s ≤ 999 := by unfold numOf; split <;> omega

def fig (x : Nat) : Nat := if x < 10 then 48 + x else 87 + x
theorem digit_fig {x : Nat} (h : x < 16) : (Lib.Hx.digit x).toNat = fig x := by
  have : ∀ x : Fin 16, (Lib.Hx.digit x.1).toNat = fig x.1 := by decide
  exact this ⟨x, h⟩
theorem v_digit {x : Nat} (h : x < 16) : Lib.Hx.v (Lib.Hx.digit x) = x := by
  have : ∀ x : Fin 16, Lib.Hx.v (Lib.Hx.digit x.1) = x.1 := by decide +kernel
  exact this ⟨x, h⟩
theorem decode_encode (d : List UInt8) : Lib.Hx.decode (Lib.Hx.encode d) = (d, .ok) := by
  induction d with
  | nil => exact Lib.Hx.decode_nil
  | cons b d ih =>
    have hb := b.toNat_lt
    rw [Lib.Hx.encode_cons, Lib.Hx.decode_two, v_digit (by omega), v_digit (by omega), if_neg (by omega), if_neg (by omega), ih]
    have e : UInt8.ofNat (b.toNat / 16 * 16 + b.toNat % 16) = b := by
      rw [show b.toNat / 16 * 16 + b.toNat % 16 = b.toNat by omega]; exact UInt8.ofNat_toNat
    rw [e]
def hexS (s : ByteArray) : ByteArray := ⟨(Lib.Hx.encode s.data.toList).toArray⟩
def unhexO (s : ByteArray) : Option ByteArray := if hexS ⟨(Lib.Hx.decode s.data.toList).1.toArray⟩ = s ∧ (Lib.Hx.decode s.data.toList).1.length ≤ 20000 then some ⟨(Lib.Hx.decode s.data.toList).1.toArray⟩ else none
theorem unhexO_some {s t : ByteArray} : unhexO s = some t ↔ hexS t = s ∧ t.size ≤ 20000 := by
  unfold unhexO
  constructor
  · intro h
    split at h
    · rename_i h1
      rw [← Option.some.inj h]
      exact ⟨h1.1, by rw [size_toList]; exact h1.2⟩
    · cases h
  · rintro ⟨rfl, h⟩
    have e : Lib.Hx.decode (hexS t).data.toList = (t.data.toList, .ok) := decode_encode _
    rw [e, if_pos ⟨rfl, by rw [← size_toList]; exact h⟩]
def unhexT (s : ByteArray) : ByteArray := (unhexO s).getD ⟨#[]⟩
def unhexB (s : ByteArray) : Bool := (unhexO s).isSome
theorem unhex_yes {s t : ByteArray} (h1 : hexS t = s) (h2 : t.size ≤ 20000) : unhexT s = t ∧ unhexB s = true := by
  unfold unhexT unhexB; rw [unhexO_some.2 ⟨h1, h2⟩]; exact ⟨rfl, rfl⟩
/-- By the reference: figure by figure. -/
def hexL (d : List Nat) : List Nat := d.flatMap fun x => [fig (x / 16), fig (x % 16)]
def bytesN (s : ByteArray) : List Nat := s.data.toList.map (·.toNat)
theorem bytesN_length (s : ByteArray) : (bytesN s).length = s.size := by rw [size_toList]; exact List.length_map ..
theorem bstr_toList (l : List Nat) : (bstr l).data.toList = l.map UInt8.ofNat := by
  have h : ∀ (l : List Int) (s : ByteArray), (l.foldl (fun r n => r.push (UInt8.ofNat n.toNat)) s).data.toList = s.data.toList ++ l.map (fun n => UInt8.ofNat n.toNat) := by
    intro l
    induction l with
    | nil => intro s; simp
    | cons x l ih => intro s; rw [List.foldl_cons, ih, ByteArray.data_push, Array.toList_push]; simp
  unfold bstr
  rw [h, List.map_map]
  rfl
theorem bytesN_bstr (d : List Nat) (h : ∀ x ∈ d, x < 256) : bytesN (bstr d) = d := by
  unfold bytesN
  rw [bstr_toList, List.map_map]
  have : ∀ l : List Nat, (∀ x ∈ l, x < 256) → l.map ((fun x : UInt8 => x.toNat) ∘ UInt8.ofNat) = l := by
    intro l
    induction l with
    | nil => intro _; rfl
    | cons x l ih =>
      intro h
      rw [List.map_cons, ih fun y hy => h y (List.mem_cons_of_mem _ hy)]
      have := h x (List.mem_cons_self ..)
      congr 1
      show (UInt8.ofNat x).toNat = x
      rw [UInt8.toNat_ofNat']; omega
  exact this d h
theorem bytesN_inj {s t : ByteArray} (h : bytesN s = bytesN t) : s = t := by
  apply ByteArray.ext
  apply Array.toList_inj.1
  exact (List.map_inj_right (fun _ _ => UInt8.toNat_inj.1)).1 h
theorem bytesN_hexS (s : ByteArray) : bytesN (hexS s) = hexL (bytesN s) := by
  unfold bytesN hexS
  simp only
  induction s.data.toList with
  | nil => rfl
  | cons b l ih =>
    have hb := b.toNat_lt
    rw [Lib.Hx.encode_cons]
    simp only [List.map_cons]
    rw [ih, digit_fig (by omega), digit_fig (by omega)]
    rfl
/-- The first 2k bytes are figures, and D is what they stand for. -/
def unInv (s : ByteArray) (k : Nat) (D : List Nat) : Prop := D.length = k ∧ (∀ x ∈ D, x < 256) ∧ hexL D = (bytesN s).take (2 * k)
theorem unInv.start (s : ByteArray) : unInv s 0 [] := ⟨rfl, fun _ h => absurd h List.not_mem_nil, rfl⟩
theorem unInv.done {s : ByteArray} {k : Nat} {D : List Nat} (h : unInv s k D) (hk : s.size ≤ 2 * k) (hs : s.size ≤ 40000) (he : 2 * k ≤ s.size) : unhexT s = bstr D ∧ unhexB s = true := by
  obtain ⟨g1, g2, g3⟩ := h
  refine unhex_yes ?_ ?_
  · apply bytesN_inj
    rw [bytesN_hexS, bytesN_bstr _ g2, g3, List.take_of_length_le (by rw [bytesN_length]; omega)]
  · rw [bstr_size]; omega
theorem digL_len {u : Nat} (h : u < 100000000000000000000) : (digL u).length ≤ 20 := by
  unfold digL
  split
  · exact Nat.zero_le _
  · exact dec_len 19 u (by have : (10 : Nat) ^ (19 + 1) = 100000000000000000000 := by decide
                           omega)
theorem decInv.size {n0 m : Int} {s : ByteArray} (h : decInv n0 m s) (h0 : i64ok n0) : s.size ≤ 20 := by
  have h1 := congrArg List.length h.1
  have h2 := digL_len (u := n0.natAbs) (by unfold i64ok at h0; omega)
  rw [List.length_append] at h1
  rw [size_toList]; omega
theorem decInv.i64 {n0 m : Int} {s : ByteArray} (h : decInv n0 m s) (h0 : i64ok n0) : i64ok m := by
  obtain ⟨_, h1, h2, h3⟩ := h
  unfold i64ok at *
  omega
/-- A key: head, number, tail. -/
def keyNum (head : ByteArray) (n : Int) (tail : ByteArray) : ByteArray := head ++ decS n ++ tail
theorem keyNum_size (head : ByteArray) {n : Int} (tail : ByteArray) (h : i64ok n) : (keyNum head n tail).size ≤ head.size + 21 + tail.size := by
  have := decS_size n h
  unfold keyNum
  rw [ByteArray.size_append, ByteArray.size_append]; omega
/-- The value of a number in a store, or nothing. -/
def numV (n : Int) : ByteArray := if inB n 1 999 then decS n else ⟨#[]⟩
theorem numV_t {n : Int} (h : inB n 1 999 = true) : numV n = decS n := if_pos h
theorem numV_f {n : Int} (h : inB n 1 999 = false) : numV n = ⟨#[]⟩ := if_neg (by rw [h]; decide)
def setM (m : MachD) (key : ByteArray) (n : Int) : MachD := layM m key (numV n)
/-- A machine's texts are short, its lists at most b long. -/
def bdC (b : Nat) (m : MachD) : Prop := (m.store.length ≤ b ∧ m.touch.reads.length ≤ b ∧ m.touch.writes.length ≤ b) ∧ ∀ c ∈ m.store, c.key.size ≤ 1048576 ∧ c.val.size ≤ 1048576
theorem bdC.le {b c : Nat} {m : MachD} (h : bdC b m) (hb : b ≤ c) : bdC c m := ⟨⟨Nat.le_trans h.1.1 hb, Nat.le_trans h.1.2.1 hb, Nat.le_trans h.1.2.2 hb⟩, h.2⟩
theorem bdC.look {b : Nat} {m : MachD} {key : ByteArray} (h : bdC b m) : bdC (b + 1) (lookM m key) := ⟨⟨Nat.le_succ_of_le h.1.1, Nat.le_trans (putL_length ..) (Nat.succ_le_succ h.1.2.1), Nat.le_succ_of_le h.1.2.2⟩, h.2⟩
theorem keyOk_size {key : ByteArray} (h : keyOk key = true) : key.size ≤ 40 := by
  unfold keyOk at h
  rw [Bool.and_eq_true] at h
  have := h.2
  unfold inB at this
  have := of_decide_eq_true this
  omega
theorem putKey_sizes {s : List CellD} {key val : ByteArray} (h : ∀ c ∈ s, c.key.size ≤ 1048576 ∧ c.val.size ≤ 1048576) : ∀ c ∈ putKey s key val, c.key.size ≤ 1048576 ∧ c.val.size ≤ 1048576 := by
  intro c hc
  unfold putKey at hc
  split at hc
  · rename_i hk
    split at hc
    · exact h c (delKey_mem.1 hc).1
    · unfold insK insAt at hc
      rcases List.mem_append.1 hc with hc | hc
      · exact h c (delKey_mem.1 (List.mem_of_mem_take hc)).1
      · rcases List.mem_cons.1 hc with rfl | hc
        · exact ⟨Nat.le_trans (keyOk_size hk.1) (by decide), Nat.le_trans hk.2 (by decide)⟩
        · exact h c (delKey_mem.1 (List.mem_of_mem_drop hc)).1
  · exact h c hc
theorem bdC.lay {b : Nat} {m : MachD} {key val : ByteArray} (h : bdC b m) : bdC (b + 1) (layM m key val) := ⟨⟨Nat.le_trans (putKey_length ..) (Nat.succ_le_succ h.1.1), Nat.le_succ_of_le h.1.2.1, Nat.le_trans (putL_length ..) (Nat.succ_le_succ h.1.2.2)⟩, putKey_sizes h.2⟩
theorem bdC.set {b : Nat} {m : MachD} {key : ByteArray} {n : Int} (h : bdC b m) : bdC (b + 1) (setM m key n) := h.lay
theorem bdC.s {b : Nat} {m : MachD} (h : bdC b m) : m.store.length ≤ b := h.1.1
theorem bdC.r {b : Nat} {m : MachD} (h : bdC b m) : m.touch.reads.length ≤ b := h.1.2.1
theorem bdC.w {b : Nat} {m : MachD} (h : bdC b m) : m.touch.writes.length ≤ b := h.1.2.2
theorem b1_ {b : Nat} {m : MachD} (h : bdC b m) : m.store.length ≤ b := h.s
theorem b2_ {b : Nat} {m : MachD} (h : bdC b m) : m.touch.reads.length ≤ b := h.r
theorem b3_ {b : Nat} {m : MachD} (h : bdC b m) : m.touch.writes.length ≤ b := h.w
theorem b4_ {b : Nat} {m : MachD} {key : ByteArray} (h : bdC b m) : bdC (b + 1) (lookM m key) := h.look
theorem b5_ {b : Nat} {m : MachD} {key val : ByteArray} (h : bdC b m) : bdC (b + 1) (layM m key val) := h.lay
theorem b6_ {b : Nat} {m : MachD} {key : ByteArray} {n : Int} (h : bdC b m) : bdC (b + 1) (setM m key n) := h.set
theorem getKey_mem {l : List CellD} {key : ByteArray} : getKey l key = ⟨#[]⟩ ∨ ∃ c ∈ l, c.val = getKey l key := by
  unfold getKey
  cases h : l.find? (fun c : CellD => decide (c.key = key)) with
  | none => exact .inl rfl
  | some c => exact .inr ⟨c, List.mem_of_find?_eq_some h, rfl⟩
theorem bdC.val {b : Nat} {m : MachD} {key : ByteArray} (h : bdC b m) : (getKey m.store key).size ≤ 1048576 := by
  rcases getKey_mem (l := m.store) (key := key) with e | ⟨c, hc, e⟩
  · rw [e]; exact Nat.zero_le _
  · rw [← e]; exact (h.2 c hc).2
theorem wipeL_bdC {b k : Nat} {ks : List ByteArray} {m : MachD} (h : bdC b m) (hk : ks.length ≤ k) : bdC (b + k) (wipeL m ks) := by
  induction ks generalizing b k m with
  | nil => exact h.le (Nat.le_add_right _ _)
  | cons x ks ih =>
    simp only [List.length_cons] at hk
    have := ih (b := b + 1) (k := k - 1) (h.lay (key := x) (val := ⟨#[]⟩)) (by omega)
    exact this.le (by omega)
theorem bdC.wipe {b : Nat} {m : MachD} {p : ByteArray} (h : bdC b m) : bdC (2 * b + 1) (wipeM m p) := by
  have h1 := wipeL_bdC (k := b) (ks := keysUnder m.store p) (h.look (key := p ++ (⟨#[42]⟩ : ByteArray))) (Nat.le_trans (keysUnder_length ..) h.s)
  exact h1.le (by omega)
theorem numOf_t {v : ByteArray} (h : ¬ readN v > 999) : readN v = numOf v := (if_pos (Nat.le_of_not_lt h)).symm
theorem numOf_f {v : ByteArray} (h : readN v > 999) : 0 = numOf v := (if_neg (Nat.not_le_of_gt h)).symm
theorem numOf_no {v : ByteArray} (h : (!readB v) = true) : 0 = numOf v := by
  unfold readB at h
  unfold numOf readN
  cases e : readD v with
  | none => rfl
  | some n => rw [e] at h; simp at h

theorem bdC.key {b : Nat} {m : MachD} {p : ByteArray} {k : Nat} {x : ByteArray} (h : bdC b m) (hx : nth (keysUnder m.store p) k = some x) : x.size ≤ 1048576 := by
  obtain ⟨⟨c, hc, rfl⟩, _⟩ := keysUnder_mem.1 (nth_in hx)
  exact (h.2 c hc).1
/-! ### What a store holds after a key is laid -/
theorem delKey_no {l : List CellD} {key : ByteArray} : ∀ c ∈ delKey l key, c.key ≠ key := fun _ hc => (delKey_mem.1 hc).2
theorem getKey_no {l : List CellD} {key : ByteArray} (h : ∀ c ∈ l, c.key ≠ key) : getKey l key = ⟨#[]⟩ := by
  rw [getKey_eq]
  have : l.find? (fun c : CellD => decide (c.key = key)) = none := by
    rw [List.find?_eq_none]
    intro c hc
    simpa using h c hc
  rw [this]; rfl
theorem getKey_insSame {l : List CellD} {key val : ByteArray} (h : ∀ c ∈ l, c.key ≠ key) : getKey (insK l key val) key = val := by
  rw [getKey_eq]
  unfold insK insAt
  have : ∀ i, (l.take i ++ ⟨key, val⟩ :: l.drop i).find? (fun c : CellD => decide (c.key = key)) = some ⟨key, val⟩ := fun i => by
    rw [List.find?_append]
    have h1 : (l.take i).find? (fun c : CellD => decide (c.key = key)) = none := by
      rw [List.find?_eq_none]
      intro c hc
      simpa using h c (List.mem_of_mem_take hc)
    rw [h1, List.find?_cons_of_pos (by simp)]
    rfl
  rw [this]; rfl
theorem getKey_putSame {l : List CellD} {key val : ByteArray} (hk : keyOk key = true) (hv : val.size ≤ 60) : getKey (putKey l key val) key = val := by
  unfold putKey
  rw [if_pos ⟨hk, hv⟩]
  split
  · rename_i e
    rw [e]; exact getKey_no delKey_no
  · exact getKey_insSame delKey_no
/-- The number at a key. -/
def numK (m : MachD) (key : ByteArray) : Nat := numOf (getKey m.store key)
theorem numOf_dec {n : Nat} (h : n ≤ 999) : numOf (decS n) = n := by
  have := (read_yes (s := decS n) (n := n) (by omega) rfl).1
  unfold numOf
  rw [this, if_pos h]
theorem numOf_nil : numOf (⟨#[]⟩ : ByteArray) = 0 := by
  have := (read_bad (s := (⟨#[]⟩ : ByteArray)) (fun v e => by cases e)).1
  unfold numOf
  rw [this]; rfl
theorem numOf_numV {n : Nat} (h : n ≤ 999) : numOf (numV n) = n := by
  unfold numV
  split
  · exact numOf_dec h
  · rename_i h1
    have : n = 0 := by
      unfold inB at h1
      have := of_decide_eq_false (Bool.eq_false_iff.2 h1)
      omega
    subst this
    exact numOf_nil
theorem numV_size (n : Int) : (numV n).size ≤ 60 := by
  unfold numV
  split
  · rename_i h
    unfold inB at h
    have := of_decide_eq_true h
    exact Nat.le_trans (decS_size n ⟨by omega, by omega⟩) (by decide)
  · exact Nat.zero_le _
theorem numK_set {m : MachD} {key : ByteArray} {n : Nat} (hk : keyOk key = true) (h : n ≤ 999) : numK (setM m key n) key = n := by
  unfold numK setM layM
  rw [getKey_putSame hk (numV_size _)]
  exact numOf_numV h
theorem getKey_lay {m : MachD} {key val k : ByteArray} (h : k ≠ key) : getKey (layM m key val).store k = getKey m.store k := getKey_put h
theorem getKey_set {m : MachD} {key k : ByteArray} {n : Int} (h : k ≠ key) : getKey (setM m key n).store k = getKey m.store k := getKey_put h
theorem getKey_laySame {m : MachD} {key val : ByteArray} (hk : keyOk key = true) (hv : val.size ≤ 60) : getKey (layM m key val).store key = val := getKey_putSame hk hv
theorem numK_ne {m : MachD} {key k : ByteArray} {n : Int} (h : k ≠ key) : numK (setM m key n) k = numK m k := by unfold numK; rw [getKey_set h]
theorem numK_lay {m : MachD} {key k val : ByteArray} (h : k ≠ key) : numK (layM m key val) k = numK m k := by unfold numK; rw [getKey_lay h]
theorem numK_le (m : MachD) (k : ByteArray) : numK m k ≤ 999 := numOf_le _
theorem bdC_base : bdC 0 (⟨[], (⟨[], []⟩ : TouchD)⟩ : MachD) := ⟨⟨Nat.le_refl _, Nat.le_refl _, Nat.le_refl _⟩, fun _ h => absurd h List.not_mem_nil⟩
theorem numK_base (k : ByteArray) : numK (⟨[], (⟨[], []⟩ : TouchD)⟩ : MachD) k = 0 := numOf_nil
/-! ### Keys with numbers -/
theorem toList_append (a b : ByteArray) : (a ++ b).data.toList = a.data.toList ++ b.data.toList := by
  rw [ByteArray.data_append, Array.toList_append]
def kbs (s : ByteArray) : Bool := s.data.toList.all fun c => kb c.toNat
theorem keyOk_kbs (key : ByteArray) : keyOk key = (kbs key && inB key.size 1 40) := by
  unfold keyOk kbs
  congr 1
  rw [Bool.eq_iff_iff, List.all_eq_true, List.all_eq_true]
  constructor
  · intro h c hc
    obtain ⟨j, hj, rfl⟩ := List.mem_iff_getElem.1 hc
    have := h j (List.mem_range.2 (by rw [size_toList]; exact hj))
    unfold byteAt at this
    rw [List.getElem?_eq_getElem hj] at this
    exact this
  · intro h j hj
    have hj := List.mem_range.1 hj
    rw [size_toList] at hj
    unfold byteAt
    rw [List.getElem?_eq_getElem hj]
    exact h _ (List.getElem_mem hj)
theorem kbs_append (a b : ByteArray) : kbs (a ++ b) = (kbs a && kbs b) := by
  unfold kbs
  rw [toList_append, List.all_append]
theorem kbs_dec (n : Nat) : kbs (decS n) = true := by
  unfold kbs
  rw [List.all_eq_true]
  intro c hc
  rw [decS_toList] at hc
  have := dec_all n c hc
  unfold isD at this
  unfold kb
  exact decide_eq_true (by omega)
theorem append_cancel {a b c : ByteArray} (h : a ++ b = a ++ c) : b = c := by
  have := congrArg (fun s : ByteArray => s.data.toList) h
  simp only [toList_append] at this
  exact ByteArray.ext (Array.toList_inj.1 (List.append_cancel_left this))
theorem append_assoc' (a b c : ByteArray) : a ++ b ++ c = a ++ (b ++ c) := by
  apply ByteArray.ext; apply Array.toList_inj.1
  simp only [toList_append, List.append_assoc]
/-- A text that begins with no digit. -/
def noD (t : ByteArray) : Prop := ∀ c, t.data.toList.head? = some c → ¬ isD c
theorem splitD : ∀ {a a' b b' : List UInt8}, (∀ c ∈ a, isD c) → (∀ c ∈ a', isD c) → (∀ c, b.head? = some c → ¬ isD c) → (∀ c, b'.head? = some c → ¬ isD c) → a ++ b = a' ++ b' → a = a' ∧ b = b'
  | [], [], _, _, _, _, _, _, e => ⟨rfl, e⟩
  | [], y :: a', b, b', _, h2, h3, _, e => by
    rw [List.nil_append] at e
    exact absurd (h2 y (List.mem_cons_self ..)) (h3 y (by rw [e]; rfl))
  | x :: a, [], b, b', h1, _, _, h4, e => by
    rw [List.nil_append] at e
    exact absurd (h1 x (List.mem_cons_self ..)) (h4 x (by rw [← e]; rfl))
  | x :: a, y :: a', b, b', h1, h2, h3, h4, e => by
    rw [List.cons_append, List.cons_append] at e
    injection e with e1 e2
    have := splitD (fun c hc => h1 c (List.mem_cons_of_mem _ hc)) (fun c hc => h2 c (List.mem_cons_of_mem _ hc)) h3 h4 e2
    exact ⟨by rw [e1, this.1], this.2⟩
theorem decS_inj {n k : Nat} (hn : n ≤ 999) (hk : k ≤ 999) (h : decS n = decS k) : n = k := by
  rw [← numOf_dec hn, h, numOf_dec hk]
theorem keyNum_inj {h t t' : ByteArray} {n k : Nat} (hn : n ≤ 999) (hk : k ≤ 999) (h1 : noD t) (h2 : noD t') (e : keyNum h n t = keyNum h k t') : n = k ∧ t = t' := by
  unfold keyNum at e
  rw [append_assoc', append_assoc'] at e
  have e := congrArg (fun s : ByteArray => s.data.toList) (append_cancel e)
  simp only [toList_append] at e
  have := splitD (a := (decS n).data.toList) (a' := (decS k).data.toList) (by rw [decS_toList]; exact dec_all n) (by rw [decS_toList]; exact dec_all k) h1 h2 e
  exact ⟨decS_inj hn hk (ByteArray.ext (Array.toList_inj.1 this.1)), ByteArray.ext (Array.toList_inj.1 this.2)⟩
theorem keyNum_ne {h t t' : ByteArray} {n k : Nat} (hn : n ≤ 999) (hk : k ≤ 999) (h1 : noD t) (h2 : noD t') (e : n ≠ k ∨ t ≠ t') : keyNum h n t ≠ keyNum h k t' := fun q => by
  have := keyNum_inj hn hk h1 h2 q
  rcases e with e | e
  · exact e this.1
  · exact e this.2
theorem byteAt_append {a b : ByteArray} (h : 0 < a.size) : byteAt (a ++ b) 0 = byteAt a 0 := by
  unfold byteAt
  rw [toList_append, List.getElem?_append_left (by rw [← size_toList]; exact h)]
theorem byte_num {h t : ByteArray} {n : Int} (hh : 0 < h.size) : byteAt (keyNum h n t) 0 = byteAt h 0 := by
  unfold keyNum
  rw [byteAt_append (by rw [ByteArray.size_append]; omega), byteAt_append hh]
/-- Keys with other first letters are other keys. -/
theorem key_other {a b : ByteArray} (h : byteAt a 0 ≠ byteAt b 0) : a ≠ b := fun e => h (by rw [e])

def pOk (p : List Int) : Prop := ∀ x ∈ p, 0 ≤ x ∧ x < 10000
theorem pOk_at {p : List Int} {k : Nat} {x : Int} (h : pOk p) (hx : nth p k = some x) : 0 ≤ x ∧ x < 10000 := h x (nth_in hx)
theorem pOk_nil : pOk [] := fun _ h => absurd h List.not_mem_nil
theorem pOk_snoc {p : List Int} {r : Nat} (h : pOk p) (hr : ((r : Nat) : Int) < 10000) : pOk (p ++ [((r : Nat) : Int)]) := fun x hx => by
  rcases List.mem_append.1 hx with hx | hx
  · exact h x hx
  · rw [List.mem_singleton.1 hx]; exact ⟨by omega, hr⟩
theorem rem_nat {x : Int} {c : Nat} (h : 0 ≤ x ∧ x < 10000) (hc : 0 < c) : ∃ r : Nat, x.tmod (c : Int) = (r : Int) ∧ r < c := by
  obtain ⟨n, rfl⟩ := Int.eq_ofNat_of_zero_le h.1
  exact ⟨n % c, by rw [← Int.ofNat_tmod], Nat.mod_lt _ hc⟩
theorem quo_nat {x : Int} {c : Nat} (h : 0 ≤ x ∧ x < 10000) (hc : 0 < c) : ∃ r : Nat, x.tdiv (c : Int) = (r : Int) ∧ r < 10000 := by
  obtain ⟨n, rfl⟩ := Int.eq_ofNat_of_zero_le h.1
  exact ⟨n / c, by rw [← Int.ofNat_tdiv], Nat.lt_of_le_of_lt (Nat.div_le_self _ _) (by omega)⟩
/-! ### Counters -/
def bumpM (m : MachD) (key : ByteArray) : MachD := if numK m key + 1 > 999 then lookM m key else setM (lookM m key) key ((numK m key + 1 : Nat) : Int)
def bumpN (m : MachD) (key : ByteArray) : Nat := if numK m key + 1 > 999 then 0 else numK m key + 1
theorem bumpM_t {m : MachD} {key : ByteArray} (h : numOf (getKey m.store key) + 1 > 999) : bumpM m key = lookM m key := if_pos h
theorem bumpM_f {m : MachD} {key : ByteArray} (h : ¬ numOf (getKey m.store key) + 1 > 999) : bumpM m key = setM (lookM m key) key ((numOf (getKey m.store key) + 1 : Nat) : Int) := if_neg h
theorem bumpN_t {m : MachD} {key : ByteArray} (h : numOf (getKey m.store key) + 1 > 999) : (0 : Int) = ((bumpN m key : Nat) : Int) := by
  unfold bumpN numK
  rw [if_pos h]; rfl
theorem bumpN_f {m : MachD} {key : ByteArray} (h : ¬ numOf (getKey m.store key) + 1 > 999) : ((numOf (getKey m.store key) + 1 : Nat) : Int) = ((bumpN m key : Nat) : Int) := by
  unfold bumpN numK
  rw [if_neg h]
theorem bumpN_le (m : MachD) (key : ByteArray) : bumpN m key ≤ 999 := by unfold bumpN; split <;> omega
theorem bdC.bump {b : Nat} {m : MachD} {key : ByteArray} (h : bdC b m) : bdC (b + 2) (bumpM m key) := by
  unfold bumpM
  split
  · exact h.look.le (by omega)
  · exact h.look.set
theorem bumpN_lt {m : MachD} {key : ByteArray} (h : numK m key < 999) : bumpN m key = numK m key + 1 := if_neg (by omega)
theorem bumpM_lt {m : MachD} {key : ByteArray} (h : numK m key < 999) : bumpM m key = setM (lookM m key) key ((numK m key + 1 : Nat) : Int) := if_neg (by omega)
theorem numK_bump {m : MachD} {key : ByteArray} (hk : keyOk key = true) (h : numK m key < 999) : numK (bumpM m key) key = numK m key + 1 := by
  rw [bumpM_lt h, numK_set hk (by omega)]
theorem numK_bumpNe {m : MachD} {key k : ByteArray} (hk : k ≠ key) : numK (bumpM m key) k = numK m k := by
  unfold bumpM
  split
  · rfl
  · rw [numK_ne hk]; rfl
theorem inB_bd {x a b : Int} (h : inB x a b = true) : a ≤ x ∧ x ≤ b := of_decide_eq_true h
theorem decS_small {n : Nat} (h : n ≤ 999) : (decS n).size ≤ 3 := by
  rw [size_toList, decS_toList]
  exact dec_len 2 n (by have : (10 : Nat) ^ (2 + 1) = 1000 := by decide
                        omega)
theorem key_ok {h t : ByteArray} {n : Nat} (hn : n ≤ 999) (h1 : kbs h = true) (h2 : kbs t = true) (h3 : 1 ≤ h.size) (h4 : h.size + t.size ≤ 37) : keyOk (keyNum h n t) = true := by
  have := decS_small hn
  rw [keyOk_kbs]
  unfold keyNum inB
  rw [kbs_append, kbs_append, h1, h2, kbs_dec, Bool.true_and, Bool.true_and]
  refine decide_eq_true ?_
  rw [ByteArray.size_append, ByteArray.size_append]
  omega
theorem noD_app {t u : ByteArray} (h : noD t) (h0 : 0 < t.size) : noD (t ++ u) := by
  intro c hc
  rw [toList_append] at hc
  cases e : t.data.toList with
  | nil => rw [size_toList, e] at h0; exact absurd h0 (Nat.lt_irrefl _)
  | cons x l =>
    rw [e] at hc
    exact h c (by rw [e]; exact hc)
theorem noD_lit (l : List UInt8) (h : (l.head?.all fun c => decide (c.toNat < 48 ∨ 57 < c.toNat)) = true) : noD ⟨l.toArray⟩ := fun c hc => by
  have e : (⟨l.toArray⟩ : ByteArray).data.toList = l := rfl
  rw [e] at hc
  rw [hc] at h
  unfold isD
  have := of_decide_eq_true (p := c.toNat < 48 ∨ 57 < c.toNat) (by simpa using h)
  omega
theorem begins_app (p s : ByteArray) : begins (p ++ s) p = true ∧ (p ++ s).extract p.size (p ++ s).size = s := by
  constructor
  · unfold begins
    refine decide_eq_true ⟨by rw [ByteArray.size_append]; omega, ?_⟩
    rw [ByteArray.extract_append_eq_left rfl]
  · rw [ByteArray.size_append, ByteArray.extract_append_eq_right rfl rfl]
end Go.Proofs.YtibgmijfnbnfkaaGreatDoor
