/-
  Arithmetic that wraps, bytes, make; views beside pieces that came in.
-/
import Derived.Laws.BytesString
import Derived.Test.YtibgmijfnbnfkaaGreatDoorEng7
namespace Go.Proofs.YtibgmijfnbnfkaaGreatDoor
open Go.ChangeShapes Go.WideShapes Go.ChangeAt Go.RowKit
/-! ### numbers -/
def w64 (z : Int) : Int := IntKind.i64.wrap z
theorem w64_ok (z : Int) : i64ok (w64 z) := by
  unfold w64 i64ok
  rw [IntKind.wrap_i64]
  omega
def shrI (x : Int) (n : Nat) : Int := x / 2 ^ n
def xorI (x y : Int) : Int := IntKind.i64.wrap (BitVec.ofInt 64 x ^^^ BitVec.ofInt 64 y).toNat
def andN (x : Int) (m : Nat) : Nat := (BitVec.ofInt 64 x &&& BitVec.ofInt 64 (m : Int)).toNat
theorem andN_le (x : Int) (m : Nat) (hm : m < 9223372036854775808) : andN x m ≤ m := by
  unfold andN
  rw [BitVec.toNat_and]
  refine Nat.le_trans Nat.and_le_right ?_
  rw [BitVec.toNat_ofInt]
  have : ((m : Int) % ((2 ^ 64 : Nat) : Int)).toNat = m := by omega
  rw [this]
  exact Nat.le_refl _
section
variable {P : Program} {o : Oper} {ρ : Operand → Value} {w : World} {x y : Operand} {t u : TypeId}
theorem r_addW {m n : Int} (ho : o.op = .binOp .add t x y u) (hx : ρ x = .int .i64 m) (hy : ρ y = .int .i64 n) : (execOp ρ o).run P w = .ok (.value (.int .i64 (w64 (m + n)))) w := by
  simp [execOp, ho, hx, hy, eqGuard, binOp, Op.intArith, w64]
theorem r_mulW {m n : Int} (ho : o.op = .binOp .mul t x y u) (hx : ρ x = .int .i64 m) (hy : ρ y = .int .i64 n) : (execOp ρ o).run P w = .ok (.value (.int .i64 (w64 (m * n)))) w := by
  simp [execOp, ho, hx, hy, eqGuard, binOp, Op.intArith, w64]
theorem r_shr {ku : IntKind} {m n : Int} {c : Nat} (hn : n = (c : Int)) (hc : c ≤ 64) (ho : o.op = .binOp .shr t x y u) (hx : ρ x = .int .i64 m) (hy : ρ y = .int ku n) : (execOp ρ o).run P w = .ok (.value (.int .i64 (shrI m c))) w := by
  subst hn
  have h2 : min c IntKind.i64.bits = c := Nat.min_eq_left hc
  simp [execOp, ho, hx, hy, eqGuard, binOp, shrI]
theorem r_xor {m n : Int} (ho : o.op = .binOp .xor t x y u) (hx : ρ x = .int .i64 m) (hy : ρ y = .int .i64 n) : (execOp ρ o).run P w = .ok (.value (.int .i64 (xorI m n))) w := by
  simp [execOp, ho, hx, hy, eqGuard, binOp, Op.intBits, xorI]
  rfl
theorem r_andN {m n : Int} {c : Nat} (hn : n = (c : Int)) (hc : c < 9223372036854775808) (ho : o.op = .binOp .and t x y u) (hx : ρ x = .int .i64 m) (hy : ρ y = .int .i64 n) : (execOp ρ o).run P w = .ok (.value (.int .i64 ((andN m c : Nat) : Int))) w := by
  subst hn
  have h := andN_le m c hc
  have h1 : IntKind.i64.wrap ((andN m c : Nat) : Int) = ((andN m c : Nat) : Int) := wrap_ok ⟨by omega, by omega⟩
  have h2 : (execOp ρ o).run P w = .ok (.value (.int .i64 (IntKind.i64.wrap ((andN m c : Nat) : Int)))) w := by
    simp [execOp, ho, hx, hy, eqGuard, binOp, Op.intBits]
    rfl
  rw [h2, h1]
theorem r_remN {m : Nat} {n : Int} (hn : 0 < n) (ho : o.op = .binOp .rem t x y u) (hx : ρ x = .int .i64 ((m : Nat) : Int)) (hy : ρ y = .int .i64 n) : (execOp ρ o).run P w = .ok (.value (.int .i64 ((m % n.toNat : Nat) : Int))) w := by
  obtain ⟨k, rfl⟩ := Int.eq_ofNat_of_zero_le (Int.le_of_lt hn)
  have h1 : k ≠ 0 := by omega
  have h2 : (m : Int).tmod (k : Int) = ((m % k : Nat) : Int) := IntWalk.up_tmod rfl rfl
  have h3 : (execOp ρ o).run P w = .ok (.value (.int .i64 ((m : Int).tmod (k : Int)))) w := by
    simp [execOp, ho, hx, hy, eqGuard, binOp, Op.intDiv, h1]
  rw [h3, h2]; rfl
theorem r_conv8 {s d : TypeId} {n : Nat} {ku : IntKind} (hd : P.underlying d = some (.int .u8)) (hs : P.underlying s = some (.int ku)) (ho : o.op = .convert s d x) (hx : ρ x = .int ku ((n : Nat) : Int)) (hb : n < 256) : (execOp ρ o).run P w = .ok (.value (.int .u8 ((n : Nat) : Int))) w := by
  have h1 : IntKind.u8.wrap ((n : Nat) : Int) = ((n : Nat) : Int) := IntWalk.u8_in _ ⟨by omega, by omega⟩
  simp [execOp, ho, hx, convert, run_underlying hd, run_underlying hs, Conv.intToInt, h1]
/-! ### bytes -/
def encB (n : Nat) : List Value := [.int .u8 ((n : Nat) : Int)]
def okB (n : Nat) : Prop := n < 256
def bstr (l : List Nat) : ByteArray := (l.map Int.ofNat).foldl (fun r n => r.push (UInt8.ofNat n.toNat)) ByteArray.empty
theorem bstr_size (l : List Nat) : (bstr l).size = l.length := by
  have h : ∀ (l : List Int) (s : ByteArray), (l.foldl (fun r n => r.push (UInt8.ofNat n.toNat)) s).size = s.size + l.length := by
    intro l
    induction l with
    | nil => intro s; simp
    | cons x l ih => intro s; rw [List.foldl_cons, ih]; simp [ByteArray.size_push]; omega
  have h2 : ByteArray.empty.size = 0 := rfl
  unfold bstr
  rw [h, h2, List.length_map, Nat.zero_add]
theorem r_bstr {s d e : TypeId} {a : Option Addr} {n c : Nat} {l : List Nat} (hs : P.underlying s = some (.slice e)) (he : P.underlying e = some (.int .u8)) (hd : P.underlying d = some .string) (R : RSl 1 (Enc encB okB) w (.slice a n c) l) (ho : o.op = .convert s d x) (hx : ρ x = .slice a n c) :
    (execOp ρ o).run P w = .ok (.value (.string (bstr l))) w := by
  obtain ⟨a', cap, e1, h1, h2, h3, h4⟩ := R.inv
  cases e1
  cases a with
  | none =>
    obtain ⟨hl, _⟩ := h4 rfl
    subst hl
    simp [execOp, ho, hx, convert, run_underlying hd, run_underlying hs, run_underlying he, Conv.bytesToString, bstr]
  | some ad =>
    obtain ⟨b, off, rfl⟩ := R.plain
    have hl : (loadCells ⟨b, off, none⟩ l.length).run P w = .ok ((l.map Int.ofNat).map (Value.int .u8)).toArray w := by
      have hc := run_loadCells_list (P := P) (w := w) ⟨b, off, none⟩ ((l.map Int.ofNat).map (Value.int .u8)) (fun j v hj => by
        simp only [List.getElem?_map, Option.map_map, Option.map_eq_some_iff] at hj
        obtain ⟨q, hq, rfl⟩ := hj
        have hjl : j < l.length := (List.getElem?_eq_some_iff.1 hq).1
        obtain ⟨b', off', x', row, e3, hx', hr, ⟨rfl, _⟩, hcell⟩ := R.at j hjl
        cases e3
        rw [hq] at hx'
        cases hx'
        have := hcell 0 _ rfl
        simpa [add_flat] using this)
      simpa using hc
    have := run_bytesToString (P := P) w ⟨b, off, none⟩ l.length c (l.map Int.ofNat) hl
    simp [execOp, ho, hx, convert, run_underlying hd, run_underlying hs, run_underlying he, this, bstr]
end
theorem okS_bstr {l : List Nat} (h : l.length ≤ 9223372036854775807) : okS (bstr l) := by
  unfold okS
  rw [bstr_size]
  exact h
/-! ### make -/
section
variable {P : Program} {ops : Array Oper} {Q : Exit → Act → World → Prop} {K : Act → World → Prop} {o : Oper} {a : Act} {w : World} {L : List Atom} {d n : Nat} {m : List (Nat × Value)}
variable {α : Type} {e k bytes : Nat} {z : Value} {enc : α → List Value} {ok : α → Prop} {t : TypeId}
end
/-! ### views beside pieces that came in -/
/-- The blocks that a view may lie in: those of H, and those of the pieces that came in. -/
def HP (H : Nat → Prop) (L0 : List Atom) (b : Nat) : Prop := H b ∨ fps L0 b
section
variable {α : Type} {k : Nat} {enc : α → List Value} {ok : α → Prop}
theorem RdA.mono {H H' : Nat → Prop} {w : World} {v : Value} {l : List α} (h : RdA k enc ok H w v l) (hH : ∀ b, H b → H' b) : RdA k enc ok H' w v l := ⟨h.1, fun ad n c e hn => hH _ (h.2 ad n c e hn)⟩
theorem Rd.startP {H : Nat → Prop} {w0 : World} {L : List Atom} {v : Value} {l : List α} (h : Rd k enc ok H w0 v l) (hL : ∀ b, H b → ¬ fps L b) : Rd k enc ok (V (HP H L) w0 L) w0 v l := ⟨h.1, fun ad n c e hn => ⟨.inl (.inl (h.2 ad n c e hn)), hL _ (h.2 ad n c e hn)⟩⟩
theorem RdA.startP {H : Nat → Prop} {w0 : World} {L : List Atom} {v : Value} {l : List α} (h : RdA k enc ok H w0 v l) (hL : ∀ b, H b → ¬ fps L b) : RdA k enc ok (V (HP H L) w0 L) w0 v l := ⟨h.1, fun ad n c e hn => ⟨.inl (.inl (h.2 ad n c e hn)), hL _ (h.2 ad n c e hn)⟩⟩
theorem fresh_hp {H : Nat → Prop} {L0 L : List Atom} {w0 w : World} (m : Mv L0 w0 L w) (b : Nat) (hb : fps L b) : HP H L0 b ∨ w0.heap.size ≤ b := (m.fresh b hb).elim (fun h => .inl (.inr h)) .inr
theorem fresh_nil {H : Nat → Prop} {L : List Atom} {w0 w : World} (m : Mv [] w0 L w) (b : Nat) (hb : fps L b) : H b ∨ w0.heap.size ≤ b := (m.fresh b hb).elim (fun h => (fps_nil _ h).elim) .inr
/-- A view that a callee returned beside pieces, taken over. -/
theorem Rd.gotP {G : Nat → Prop} {w0 w w' : World} {L New : List Atom} {is : List Nat} {v : Value} {l : List α} (A : At w L) (hs : w0.heap.size ≤ w.heap.size) (hf : ∀ b, fps L b → G b ∨ w0.heap.size ≤ b)
    (h : Rd k enc ok (V (HP (V G w0 L) (sel L is)) w New) w' v l) : Rd k enc ok (V G w0 (New ++ del L is)) w' v l := by
  refine h.mono fun b hb => ?_
  obtain ⟨h1, h2⟩ := hb
  have hdel : fps (del L is) b → fps L b := fun hb => fps_sub (fun A hA => (del_sub L is).subset hA) hb
  have key : (G b ∨ w0.heap.size ≤ b) ∧ ¬ fps (del L is) b := by
    rcases h1 with (h1 | h1) | h1
    · exact ⟨h1.1, fun hd => h1.2 (hdel hd)⟩
    · refine ⟨hf b (fps_sub (fun A hA => sel_mem hA) h1), fun hd => ?_⟩
      obtain ⟨B, hB, hb1⟩ := h1
      obtain ⟨C, hC, hb2⟩ := hd
      obtain ⟨j, h3, h4⟩ := del_go_mem hC
      obtain ⟨i, h5, h6⟩ := sel_idx hB
      exact A.apartAt h3 h6 (fun e => h4 (by rw [e]; simpa using h5)) b hb2 hb1
    · exact ⟨.inr (Nat.le_trans hs h1), fun hd => absurd (A.lt b (hdel hd)) (Nat.not_lt.2 h1)⟩
  refine ⟨key.1, fun hn => ?_⟩
  obtain ⟨B, hB, hb⟩ := hn
  rcases List.mem_append.1 hB with hB | hB
  · exact h2 ⟨B, hB, hb⟩
  · exact key.2 ⟨B, hB, hb⟩
theorem At.freezeP {e : Nat} {G : Nat → Prop} {w0 w : World} {L : List Atom} (A : At w L) (hk : ∀ x, (enc x).length = k) (i : Nat) {v : Value} {l : List α} (hL : nth L i = some (ow e k enc ok v l)) (hf : ∀ b, fps L b → G b ∨ w0.heap.size ≤ b) :
    Rd k enc ok (V G w0 (del L [i])) w v l := by
  have hO : Own e k enc ok w v l := A.ok _ (nth_mem hL)
  refine ⟨Own.rd hk hO, fun ad n c e' hn => ?_⟩
  have hb : v.ownBlock = some ad.block := by subst e'; rfl
  refine ⟨hf _ ⟨_, nth_mem hL, hb⟩, ?_⟩
  rintro ⟨B, hB, hb'⟩
  obtain ⟨j, h1, h2⟩ := del_go_mem hB
  exact A.apartAt hL h1 (fun e => h2 (by simp [e])) _ hb hb'
end
/-- Short names for the two, where a text would grow too long. -/
abbrev yT : Bool := true
abbrev nF : Bool := false
/-- What is reached by many ways is shown once. -/
theorem x_lem {P : Program} {ops : Array Oper} {Q : Exit → Act → World → Prop} {S : World → Prop} {n : Nat} {listed : Array Bool} {a : Act} {w : World} (I : Act → World → Prop) (listed1 : Array Bool) (f1 : Nat) (h1 : ∀ a w, I a w → wpAnyH P .any ops Q S f1 listed1 a w)
    (k : (∀ a w, I a w → wpAnyH P .any ops Q S f1 listed1 a w) → wpAnyH P .any ops Q S n listed a w) : wpAnyH P .any ops Q S n listed a w := k h1
end Go.Proofs.YtibgmijfnbnfkaaGreatDoor
