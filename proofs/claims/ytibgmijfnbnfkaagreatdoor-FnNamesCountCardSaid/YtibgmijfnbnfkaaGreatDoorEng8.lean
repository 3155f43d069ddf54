/-
  Arithmetic that wraps, bytes, make; views beside pieces that came in.
-/
import Derived.Laws.BytesString
import Derived.Test.YtibgmijfnbnfkaaGreatDoorEng7
namespace Go.Proofs.YtibgmijfnbnfkaaGreatDoor
open Go.ChangeShapes Go.WideShapes Go.ChangeAt Go.RowKit
/-! ### numbers -/
def w64 (z : Int) : Int := IntKind.i64.wrap z
theorem w64_ok (z : Int) : i64ok (w64 z) := by
  unfold w64 i64ok
  rw [IntKind.wrap_i64]
  omega
def shrI (x : Int) (n : Nat) : Int := x / 2 ^ n
def xorI (x y : Int) : Int := IntKind.i64.wrap (BitVec.ofInt 64 x ^^^ BitVec.ofInt 64 y).toNat
def andN (x : Int) (m : Nat) : Nat := (BitVec.ofInt 64 x &&& BitVec.ofInt 64 (m : Int)).toNat
theorem andN_le (x : Int) (m : Nat) (hm : m < 9223372036854775808) : andN x m ≤ m := by
  unfold andN
  rw [BitVec.toNat_and]
  refine Nat.le_trans Nat.and_le_right ?_
  rw [BitVec.toNat_ofInt]
  have : ((m : Int) % ((2 ^ 64 : Nat) : Int)).toNat = m := by omega
  rw [this]
  exact Nat.le_refl _
section
variable {P : Program} {o : Oper} {ρ : Operand → Value} {w : World} {x y : Operand} {t u : TypeId}
theorem r_addW {m n : Int} (ho : o.op = .binOp .add t x y u) (hx : ρ x = .int .i64 m) (hy : ρ y = .int .i64 n) : (execOp ρ o).run P w = .ok (.value (.int .i64 (w64 (m + n)))) w := by
  simp [execOp, ho, hx, hy, eqGuard, binOp, Op.intArith, w64]
theorem r_mulW {m n : Int} (ho : o.op = .binOp .mul t x y u) (hx : ρ x = .int .i64 m) (hy : ρ y = .int .i64 n) : (execOp ρ o).run P w = .ok (.value (.int .i64 (w64 (m * n)))) w := by
  simp [execOp, ho, hx, hy, eqGuard, binOp, Op.intArith, w64]
theorem r_shr {ku : IntKind} {m n : Int} {c : Nat} (hn : n = (c : Int)) (hc : c ≤ 64) (ho : o.op = .binOp .shr t x y u) (hx : ρ x = .int .i64 m) (hy : ρ y = .int ku n) : (execOp ρ o).run P w = .ok (.value (.int .i64 (shrI m c))) w := by
  subst hn
  have h2 : min c IntKind.i64.bits = c := Nat.min_eq_left hc
  simp [execOp, ho, hx, hy, eqGuard, binOp, shrI]
theorem r_xor {m n : Int} (ho : o.op = .binOp .xor t x y u) (hx : ρ x = .int .i64 m) (hy : ρ y = .int .i64 n) : (execOp ρ o).run P w = .ok (.value (.int .i64 (xorI m n))) w := by
  simp [execOp, ho, hx, hy, eqGuard, binOp, Op.intBits, xorI]
  rfl
theorem r_andN {m n : Int} {c : Nat} (hn : n = (c : Int)) (hc : c < 9223372036854775808) (ho : o.op = .binOp .and t x y u) (hx : ρ x = .int .i64 m) (hy : ρ y = .int .i64 n) : (execOp ρ o).run P w = .ok (.value (.int .i64 ((andN m c : Nat) : Int))) w := by
  subst hn
  have h := andN_le m c hc
  have h1 : IntKind.i64.wrap ((andN m c : Nat) : Int) = ((andN m c : Nat) : Int) := wrap_ok ⟨by omega, by omega⟩
  have h2 : (execOp ρ o).run P w = .ok (.value (.int .i64 (IntKind.i64.wrap ((andN m c : Nat) : Int)))) w := by
    simp [execOp, ho, hx, hy, eqGuard, binOp, Op.intBits]
    rfl
  rw [h2, h1]
theorem r_remN {m : Nat} {n : Int} (hn : 0 < n) (ho : o.op = .binOp .rem t x y u) (hx : ρ x = .int .i64 ((m : Nat) : Int)) (hy : ρ y = .int .i64 n) : (execOp ρ o).run P w = .ok (.value (.int .i64 ((m % n.toNat : Nat) : Int))) w := by
  obtain ⟨k, rfl⟩ := Int.eq_ofNat_of_zero_le (Int.le_of_lt hn)
  have h1 : k ≠ 0 := by omega
  have h2 : (m : Int).tmod (k : Int) = ((m % k : Nat) : Int) := IntWalk.up_tmod rfl rfl
  have h3 : (execOp ρ o).run P w = .ok (.value (.int .i64 ((m : Int).tmod (k : Int)))) w := by
    simp [execOp, ho, hx, hy, eqGuard, binOp, Op.intDiv, h1]
  rw [h3, h2]; rfl
/-! ### bytes -/
def encB (n : Nat) : List Value := [.int .u8 ((n : Nat) : Int)]
def okB (n : Nat) : Prop := n < 256
def bstr (l : List Nat) : ByteArray := (l.map Int.ofNat).foldl (fun r n => r.push (UInt8.ofNat n.toNat)) ByteArray.empty
theorem bstr_size (l : List Nat) : (bstr l).size = l.length := by
  have h : ∀ (l : List Int) (s : ByteArray), (l.foldl (fun r n => r.push (UInt8.ofNat n.toNat)) s).size = s.size + l.length := by
    intro l
    induction l with
    | nil => intro s; simp
    | cons x l ih => intro s; rw [List.foldl_cons, ih]; simp [ByteArray.size_push]; omega
  have h2 : ByteArray.empty.size = 0 := rfl
  unfold bstr
  rw [h, h2, List.length_map, Nat.zero_add]
end
/-! ### make -/
section
variable {P : Program} {ops : Array Oper} {Q : Exit → Act → World → Prop} {K : Act → World → Prop} {o : Oper} {a : Act} {w : World} {L : List Atom} {d n : Nat} {m : List (Nat × Value)}
variable {α : Type} {e k bytes : Nat} {z : Value} {enc : α → List Value} {ok : α → Prop} {t : TypeId}
end
section
variable {α : Type} {k : Nat} {enc : α → List Value} {ok : α → Prop}
theorem RdA.mono {H H' : Nat → Prop} {w : World} {v : Value} {l : List α} (h : RdA k enc ok H w v l) (hH : ∀ b, H b → H' b) : RdA k enc ok H' w v l := ⟨h.1, fun ad n c e hn => hH _ (h.2 ad n c e hn)⟩
end
end Go.Proofs.YtibgmijfnbnfkaaGreatDoor
