/-
  Files: what reading, writing and cutting leave, in plain words.
-/
import Derived.Test.YtibgmijfnbnfkaaDoorDatV
import Derived.Test.YtibgmijfnbnfkaaDoorEng11
namespace Go.Proofs.YtibgmijfnbnfkaaDoor
open Go.ChangeShapes Go.WideShapes Go.ChangeAt Go.RowKit
set_option maxRecDepth 100000
set_option maxHeartbeats 1000000

theorem setLt {l : List Nat} {b i y : Nat} (h : ∀ x ∈ l, x < b) (hy : y < b) : ∀ x ∈ l.set i y, x < b := fun x hx => by
  rcases List.mem_or_eq_of_mem_set hx with h1 | h1
  · exact h x h1
  · exact h1 ▸ hy
/-- A list made n long at least, with noughts. -/
def padL (B : List Nat) (n : Nat) : List Nat := B ++ List.replicate (n - B.length) 0
theorem padL_len (B : List Nat) (n : Nat) : (padL B n).length = max B.length n := by
  unfold padL; rw [List.length_append, List.length_replicate]; omega
theorem padL_lt {B : List Nat} {n : Nat} (h : ∀ x ∈ B, x < 256) : ∀ x ∈ padL B n, x < 256 := fun x hx => by
  rcases List.mem_append.1 hx with h1 | h1
  · exact h x h1
  · rw [(List.mem_replicate.1 h1).2]; decide
/-- A block, after j bytes of the text t, that stands at a, are laid into it from place i on; the block begins at f. -/
def wrB (t : ByteArray) (a f i : Nat) (B : List Nat) : Nat → List Nat
  | 0 => B
  | j + 1 => (padL (wrB t a f i B j) (i + j - f + 1)).set (i + j - f) (byteAt t (i + j - a))
theorem wrB_len (t : ByteArray) (a f i : Nat) (B : List Nat) (hf : f ≤ i) : ∀ j, i + j ≤ f + 8 → (wrB t a f i B j).length ≤ max B.length 8
  | 0, _ => Nat.le_max_left ..
  | j + 1, h => by
    have := wrB_len t a f i B hf j (by omega)
    rw [wrB, List.length_set, padL_len]; omega
theorem wrB_lt (t : ByteArray) (a f i : Nat) {B : List Nat} (hB : ∀ x ∈ B, x < 256) : ∀ j, ∀ x ∈ wrB t a f i B j, x < 256
  | 0 => hB
  | j + 1 => setLt (padL_lt (wrB_lt t a f i hB j)) (byteAt_lt t _)
theorem pad_step {B D : List Nat} {q : Nat} (h : D = B ++ List.replicate q 0) : D ++ [0] = B ++ List.replicate (q + 1) 0 := by
  rw [h, List.append_assoc, List.replicate_succ']
theorem pad_done {B D : List Nat} {q n : Nat} (h : D = B ++ List.replicate q 0) (h1 : q = 0 ∨ B.length + q ≤ n + 1) (h2 : ¬ D.length ≤ n) : D = padL B (n + 1) := by
  unfold padL
  have : q = n + 1 - B.length := by
    rw [h, List.length_append, List.length_replicate] at h2; omega
  rw [h, this]
/-- The key of a file's block. -/
def wrS (id : Int) (a : Nat) (t : ByteArray) (m : MachD) (p : Nat) : MachD :=
  layM (lookM m (keyNum (keyNum (⟨#[105, 47]⟩ : ByteArray) id (⟨#[47, 98, 47]⟩ : ByteArray)) ((p : Nat) : Int) (⟨#[]⟩ : ByteArray))) (keyNum (keyNum (⟨#[105, 47]⟩ : ByteArray) id (⟨#[47, 98, 47]⟩ : ByteArray)) ((p : Nat) : Int) (⟨#[]⟩ : ByteArray)) (hexS (bstr (wrB t a (p * 8) (max a (p * 8)) (bytesN (unhexT (getKey m.store (keyNum (keyNum (⟨#[105, 47]⟩ : ByteArray) id (⟨#[47, 98, 47]⟩ : ByteArray)) ((p : Nat) : Int) (⟨#[]⟩ : ByteArray))))) (min (a + t.size) (p * 8 + 8) - max a (p * 8)))))
def wrN (m : MachD) (id : Int) (a : Nat) (t : ByteArray) : Nat → MachD
  | 0 => m
  | k + 1 => wrS id a t (wrN m id a t k) (a / 8 + k)
theorem bdC.wrN {b : Nat} {m : MachD} {id : Int} {a : Nat} {t : ByteArray} (h : bdC b m) : ∀ k, bdC (b + 2 * k) (wrN m id a t k)
  | 0 => h
  | k + 1 => by
    show bdC (b + 2 * k + 1 + 1) (wrS id a t (Go.Proofs.YtibgmijfnbnfkaaDoor.wrN m id a t k) (a / 8 + k))
    unfold wrS
    exact (bdC.wrN h k).look.lay
/-- As many blocks as bytes want. -/
def nBl (a n : Nat) : Nat := (a + n + 7) / 8 - a / 8
/-- What WriteFile leaves, and its code. -/
def wfB (m : MachD) (id at_ : Int) (t : ByteArray) : Bool := inB at_ 0 ((numOf (getKey m.store (keyNum (⟨#[105, 47]⟩ : ByteArray) id (⟨#[47, 115]⟩ : ByteArray))) : Nat) : Int) && decide (t ≠ ⟨#[]⟩)
def wfC (m : MachD) (id at_ : Int) (t : ByteArray) : Int := if wfB m id at_ t = true then (if at_ + ((t.size : Nat) : Int) > 64 then 3 else 0) else 4
def wfM (m : MachD) (id at_ : Int) (t : ByteArray) : MachD :=
  if wfB m id at_ t = true ∧ ¬ at_ + ((t.size : Nat) : Int) > 64 then
    (if at_ + ((t.size : Nat) : Int) > ((numOf (getKey m.store (keyNum (⟨#[105, 47]⟩ : ByteArray) id (⟨#[47, 115]⟩ : ByteArray))) : Nat) : Int) then setM (wrN (lookM m (keyNum (⟨#[105, 47]⟩ : ByteArray) id (⟨#[47, 115]⟩ : ByteArray))) id at_.toNat t (nBl at_.toNat t.size)) (keyNum (⟨#[105, 47]⟩ : ByteArray) id (⟨#[47, 115]⟩ : ByteArray)) (at_ + ((t.size : Nat) : Int)) else wrN (lookM m (keyNum (⟨#[105, 47]⟩ : ByteArray) id (⟨#[47, 115]⟩ : ByteArray))) id at_.toNat t (nBl at_.toNat t.size))
  else lookM m (keyNum (⟨#[105, 47]⟩ : ByteArray) id (⟨#[47, 115]⟩ : ByteArray))
section
variable {m : MachD} {id at_ : Int} {t : ByteArray}
theorem wfB_1 (h : inB at_ 0 ((numOf (getKey m.store (keyNum (⟨#[105, 47]⟩ : ByteArray) id (⟨#[47, 115]⟩ : ByteArray))) : Nat) : Int) = false) : wfB m id at_ t = false := by unfold wfB; rw [h]; rfl
theorem wfB_2 (h : t = ⟨#[]⟩) : wfB m id at_ t = false := by unfold wfB; rw [decide_eq_false (fun g => g h), Bool.and_false]
theorem wfB_3 (h : inB at_ 0 ((numOf (getKey m.store (keyNum (⟨#[105, 47]⟩ : ByteArray) id (⟨#[47, 115]⟩ : ByteArray))) : Nat) : Int) = true) (h2 : ¬ t = ⟨#[]⟩) : wfB m id at_ t = true := by unfold wfB; rw [h, decide_eq_true h2]; rfl
theorem wf_f (h : wfB m id at_ t = false) : (4 : Int) = wfC m id at_ t ∧ lookM m (keyNum (⟨#[105, 47]⟩ : ByteArray) id (⟨#[47, 115]⟩ : ByteArray)) = wfM m id at_ t := by unfold wfC wfM; rw [h]; exact ⟨rfl, (if_neg (fun g => by cases g.1)).symm⟩
theorem wf_l (h : wfB m id at_ t = true) (h3 : at_ + ((t.size : Nat) : Int) > 64) : (3 : Int) = wfC m id at_ t ∧ lookM m (keyNum (⟨#[105, 47]⟩ : ByteArray) id (⟨#[47, 115]⟩ : ByteArray)) = wfM m id at_ t := by unfold wfC wfM; rw [if_pos h, if_pos h3, if_neg (fun g => g.2 h3)]; exact ⟨rfl, rfl⟩
theorem wf_g (h : wfB m id at_ t = true) (h3 : ¬ at_ + ((t.size : Nat) : Int) > 64) (h4 : at_ + ((t.size : Nat) : Int) > ((numOf (getKey m.store (keyNum (⟨#[105, 47]⟩ : ByteArray) id (⟨#[47, 115]⟩ : ByteArray))) : Nat) : Int)) : (0 : Int) = wfC m id at_ t ∧ setM (wrN (lookM m (keyNum (⟨#[105, 47]⟩ : ByteArray) id (⟨#[47, 115]⟩ : ByteArray))) id at_.toNat t (nBl at_.toNat t.size)) (keyNum (⟨#[105, 47]⟩ : ByteArray) id (⟨#[47, 115]⟩ : ByteArray)) (at_ + ((t.size : Nat) : Int)) = wfM m id at_ t := by unfold wfC wfM; rw [if_pos h, if_neg h3, if_pos ⟨h, h3⟩, if_pos h4]; exact ⟨rfl, rfl⟩
theorem wf_s (h : wfB m id at_ t = true) (h3 : ¬ at_ + ((t.size : Nat) : Int) > 64) (h4 : ¬ at_ + ((t.size : Nat) : Int) > ((numOf (getKey m.store (keyNum (⟨#[105, 47]⟩ : ByteArray) id (⟨#[47, 115]⟩ : ByteArray))) : Nat) : Int)) : (0 : Int) = wfC m id at_ t ∧ wrN (lookM m (keyNum (⟨#[105, 47]⟩ : ByteArray) id (⟨#[47, 115]⟩ : ByteArray))) id at_.toNat t (nBl at_.toNat t.size) = wfM m id at_ t := by unfold wfC wfM; rw [if_pos h, if_neg h3, if_pos ⟨h, h3⟩, if_neg h4]; exact ⟨rfl, rfl⟩
end
/-- What ReadFile leaves, and what it reads. -/
def rdM (m : MachD) (id : Int) (a : Nat) : Nat → MachD
  | 0 => m
  | k + 1 => lookM (rdM m id a k) (keyNum (keyNum (⟨#[105, 47]⟩ : ByteArray) id (⟨#[47, 98, 47]⟩ : ByteArray)) (((a / 8 + k : Nat)) : Int) (⟨#[]⟩ : ByteArray))
theorem rdM_store (m : MachD) (id : Int) (a : Nat) : ∀ k, (rdM m id a k).store = m.store
  | 0 => rfl
  | k + 1 => rdM_store m id a k
theorem bdC.rdM {b : Nat} {m : MachD} {id : Int} {a : Nat} (h : bdC b m) : ∀ k, bdC (b + k) (rdM m id a k)
  | 0 => h
  | k + 1 => (bdC.rdM h k).look
def rdT (m : MachD) (id : Int) (a e : Nat) : Nat → ByteArray
  | 0 => ⟨#[]⟩
  | k + 1 => rdT m id a e k ++ (unhexT (getKey m.store (keyNum (keyNum (⟨#[105, 47]⟩ : ByteArray) id (⟨#[47, 98, 47]⟩ : ByteArray)) (((a / 8 + k : Nat)) : Int) (⟨#[]⟩ : ByteArray)))).extract (a - (a / 8 + k) * 8) (min (min (e - (a / 8 + k) * 8) 8) (unhexT (getKey m.store (keyNum (keyNum (⟨#[105, 47]⟩ : ByteArray) id (⟨#[47, 98, 47]⟩ : ByteArray)) (((a / 8 + k : Nat)) : Int) (⟨#[]⟩ : ByteArray)))).size)
theorem rdT_size (m : MachD) (id : Int) (a e : Nat) : ∀ k, (rdT m id a e k).size ≤ 8 * k
  | 0 => Nat.le_refl _
  | k + 1 => by
    have := rdT_size m id a e k
    rw [rdT, ByteArray.size_append, ByteArray.size_extract]; omega
theorem ext_none {s : ByteArray} {i j : Nat} (h : j ≤ i) : s.extract i j = ⟨#[]⟩ := by
  have h0 : (s.extract i j).size = 0 := by rw [ByteArray.size_extract]; omega
  generalize s.extract i j = z at h0
  cases z with
  | mk d => exact congrArg ByteArray.mk (Array.eq_empty_of_size_eq_zero h0)
theorem rdT_skip {m : MachD} {id : Int} {a e k : Nat} (h : min (min (e - (a / 8 + k) * 8) 8) (unhexT (getKey m.store (keyNum (keyNum (⟨#[105, 47]⟩ : ByteArray) id (⟨#[47, 98, 47]⟩ : ByteArray)) (((a / 8 + k : Nat)) : Int) (⟨#[]⟩ : ByteArray)))).size ≤ a - (a / 8 + k) * 8) : rdT m id a e k = rdT m id a e (k + 1) := by
  rw [rdT, ext_none h]; exact ByteArray.append_empty.symm
def rfE (m : MachD) (id at_ n : Int) : Nat := (at_ + min n (((numOf (getKey m.store (keyNum (⟨#[105, 47]⟩ : ByteArray) id (⟨#[47, 115]⟩ : ByteArray))) : Nat) : Int) - at_)).toNat
def rfB (m : MachD) (id at_ n : Int) : Bool := decide (0 ≤ at_ ∧ 1 ≤ n ∧ at_ < ((numOf (getKey m.store (keyNum (⟨#[105, 47]⟩ : ByteArray) id (⟨#[47, 115]⟩ : ByteArray))) : Nat) : Int))
def rfM (m : MachD) (id at_ n : Int) : MachD := if rfB m id at_ n = true then rdM (lookM m (keyNum (⟨#[105, 47]⟩ : ByteArray) id (⟨#[47, 115]⟩ : ByteArray))) id at_.toNat (nBl at_.toNat (rfE m id at_ n - at_.toNat)) else lookM m (keyNum (⟨#[105, 47]⟩ : ByteArray) id (⟨#[47, 115]⟩ : ByteArray))
def rfT (m : MachD) (id at_ n : Int) : ByteArray := if rfB m id at_ n = true then rdT m id at_.toNat (rfE m id at_ n) (nBl at_.toNat (rfE m id at_ n - at_.toNat)) else ⟨#[]⟩
/-- What CutFile leaves, and its code. -/
def ctN (m : MachD) (id : Int) (p : Nat) : Nat → MachD
  | 0 => m
  | k + 1 => layM (ctN m id p k) (keyNum (keyNum (⟨#[105, 47]⟩ : ByteArray) id (⟨#[47, 98, 47]⟩ : ByteArray)) ((p + k : Nat) : Int) (⟨#[]⟩ : ByteArray)) ⟨#[]⟩
theorem bdC.ctN {b : Nat} {m : MachD} {id : Int} {p : Nat} (h : bdC b m) : ∀ k, bdC (b + k) (ctN m id p k)
  | 0 => h
  | k + 1 => (bdC.ctN h k).lay
def ctB (m : MachD) (id n : Int) : Bool := inB n 0 ((numOf (getKey m.store (keyNum (⟨#[105, 47]⟩ : ByteArray) id (⟨#[47, 115]⟩ : ByteArray))) : Nat) : Int)
def ctC (m : MachD) (id n : Int) : Int := if ctB m id n = true then 0 else 4
def ctH (m : MachD) (id : Int) (n : Nat) : MachD := if n % 8 = 0 then m else layM (lookM m (keyNum (keyNum (⟨#[105, 47]⟩ : ByteArray) id (⟨#[47, 98, 47]⟩ : ByteArray)) ((n / 8 : Nat) : Int) (⟨#[]⟩ : ByteArray))) (keyNum (keyNum (⟨#[105, 47]⟩ : ByteArray) id (⟨#[47, 98, 47]⟩ : ByteArray)) ((n / 8 : Nat) : Int) (⟨#[]⟩ : ByteArray)) (hexS ((unhexT (getKey m.store (keyNum (keyNum (⟨#[105, 47]⟩ : ByteArray) id (⟨#[47, 98, 47]⟩ : ByteArray)) ((n / 8 : Nat) : Int) (⟨#[]⟩ : ByteArray)))).extract 0 (min (n % 8) (unhexT (getKey m.store (keyNum (keyNum (⟨#[105, 47]⟩ : ByteArray) id (⟨#[47, 98, 47]⟩ : ByteArray)) ((n / 8 : Nat) : Int) (⟨#[]⟩ : ByteArray)))).size)))
def ctM (m : MachD) (id n : Int) : MachD := if ctB m id n = true then setM (ctN (ctH (lookM m (keyNum (⟨#[105, 47]⟩ : ByteArray) id (⟨#[47, 115]⟩ : ByteArray))) id n.toNat) id ((n.toNat + 7) / 8) ((numOf (getKey m.store (keyNum (⟨#[105, 47]⟩ : ByteArray) id (⟨#[47, 115]⟩ : ByteArray))) + 7) / 8 - (n.toNat + 7) / 8)) (keyNum (⟨#[105, 47]⟩ : ByteArray) id (⟨#[47, 115]⟩ : ByteArray)) n else lookM m (keyNum (⟨#[105, 47]⟩ : ByteArray) id (⟨#[47, 115]⟩ : ByteArray))

section
variable {P : Program} {ρ : Operand → Value} {w : World} {o : Oper} {x y z : Operand} {ts : Array TypeId}
theorem r_min3I {m n q : Int} (ho : o.op = .call { callee := .builtin .min, args := #[x, y, z], argTypes := ts }) (hx : ρ x = .int .i64 m) (hy : ρ y = .int .i64 n) (hz : ρ z = .int .i64 q) : (execOp ρ o).run P w = .ok (.value (.int .i64 (min (min m n) q))) w := by
  have e : (if q < (if n < m then n else m) then q else (if n < m then n else m)) = min (min m n) q := by split <;> split <;> omega
  simp [execOp, ho, hx, hy, hz, resolve, invoke, builtin, run_min_int3, e]
end
section
variable {P : Program} {ops : Array Oper} {Q : Exit → Act → World → Prop} {K : Act → World → Prop} {o : Oper} {a : Act} {w : World} {L : List Atom} {d n : Nat} {m : List (Nat × Value)}
theorem f_sbytesX {src dst e : TypeId} {u : TypeDesc} {s : ByteArray} {x : Operand} (F : Fr n m a) (A : At w L) (hs : P.underlying src = some u) (hdt : P.underlying dst = some (.slice e)) (he : P.underlying e = some (.int .u8)) (hw : Region.wanted o (yielded ops a.tmps) = true) (hd : o.dst = some d) (ho : o.op = .convert src dst x) (hp : Nat.blt d n = true) (hx : a.eval x = .string s) (hz : s.size ≤ 9223372036854775807)
    (kk : ∀ b q c a' w', Fr n ((d, .slice (some ⟨b, 0, none⟩) q c) :: m) a' → Mv L w (owX e (.slice (some ⟨b, 0, none⟩) q c) (bytesN s) :: L) w' → q = s.size → K a' w') : st1 P ops Q o K a w := by
  have hO := bytesX (w := w) (e := e) s hz (bytesN s) (bytesN_length s) (bytesN_lt s) (fun i x hx => by
    unfold bytesN at hx
    rw [List.getElem?_map] at hx
    unfold List.getD
    cases hq : s.data.toList[i]? with
    | none => rw [hq] at hx; cases hx
    | some y => rw [hq] at hx; cases hx; rfl)
  have hM := At.frame (New := [owX e (.slice (some ⟨w.heap.size, 0, none⟩) s.size (grownCap w s.size 0 e)) (bytesN s)]) A [] rfl (mv_freshX (w := w) hO (fun b hb => by
    have : b = w.heap.size := by simpa [Value.ownBlock, eq_comm] using hb
    rw [this]; exact Nat.le_refl _) (Lib.bytesWorld_below w e s))
  rw [del_none] at hM
  refine s_valw hw hd (v := .slice (some ⟨w.heap.size, 0, none⟩) s.size (grownCap w s.size 0 e)) (w' := Lib.bytesWorld w e s) ?_ fun _ e' => kk _ _ _ _ _ (F.put e' hp) hM rfl
  simp [execOp, ho, hx, Lib.run_convert_string_bytes w src dst e s hs hdt he, Result.andThen]
end

section
variable {m M : MachD} {id at_ n : Int} {t : ByteArray} {a k : Nat}
theorem wf_G {k : Nat} (ha : at_ = ((a : Nat) : Int)) (hb : inB at_ 0 ((numOf (getKey m.store (keyNum (⟨#[105, 47]⟩ : ByteArray) id (⟨#[47, 115]⟩ : ByteArray))) : Nat) : Int) = true) (ht : ¬ t = ⟨#[]⟩) (h3 : ¬ a + t.size > 64) (h4 : a + t.size > numOf (getKey m.store (keyNum (⟨#[105, 47]⟩ : ByteArray) id (⟨#[47, 115]⟩ : ByteArray)))) (hM : M = wrN (lookM m (keyNum (⟨#[105, 47]⟩ : ByteArray) id (⟨#[47, 115]⟩ : ByteArray))) id a t k) (hk : k = nBl a t.size) : (0 : Int) = wfC m id at_ t ∧ setM M (keyNum (⟨#[105, 47]⟩ : ByteArray) id (⟨#[47, 115]⟩ : ByteArray)) ((a + t.size : Nat) : Int) = wfM m id at_ t := by
  subst ha hM hk
  have h := wf_g (m := m) (id := id) (at_ := ((a : Nat) : Int)) (t := t) (wfB_3 hb ht) (by omega) (by omega)
  exact h
theorem wf_S {k : Nat} (ha : at_ = ((a : Nat) : Int)) (hb : inB at_ 0 ((numOf (getKey m.store (keyNum (⟨#[105, 47]⟩ : ByteArray) id (⟨#[47, 115]⟩ : ByteArray))) : Nat) : Int) = true) (ht : ¬ t = ⟨#[]⟩) (h3 : ¬ a + t.size > 64) (h4 : ¬ a + t.size > numOf (getKey m.store (keyNum (⟨#[105, 47]⟩ : ByteArray) id (⟨#[47, 115]⟩ : ByteArray)))) (hM : M = wrN (lookM m (keyNum (⟨#[105, 47]⟩ : ByteArray) id (⟨#[47, 115]⟩ : ByteArray))) id a t k) (hk : k = nBl a t.size) : (0 : Int) = wfC m id at_ t ∧ M = wfM m id at_ t := by
  subst ha hM hk
  have h := wf_s (m := m) (id := id) (at_ := ((a : Nat) : Int)) (t := t) (wfB_3 hb ht) (by omega) (by omega)
  exact h
theorem wf_L (ha : at_ = ((a : Nat) : Int)) (hb : inB at_ 0 ((numOf (getKey m.store (keyNum (⟨#[105, 47]⟩ : ByteArray) id (⟨#[47, 115]⟩ : ByteArray))) : Nat) : Int) = true) (ht : ¬ t = ⟨#[]⟩) (h3 : a + t.size > 64) : (3 : Int) = wfC m id at_ t ∧ lookM m (keyNum (⟨#[105, 47]⟩ : ByteArray) id (⟨#[47, 115]⟩ : ByteArray)) = wfM m id at_ t := by
  subst ha
  exact wf_l (wfB_3 hb ht) (by omega)
theorem wr_next {D : List Nat} {j : Nat} (hM : M = wrN m id a t k) (hD : D = wrB t a ((a / 8 + k) * 8) (max a ((a / 8 + k) * 8)) (bytesN (unhexT (getKey M.store (keyNum (keyNum (⟨#[105, 47]⟩ : ByteArray) id (⟨#[47, 98, 47]⟩ : ByteArray)) ((a / 8 + k : Nat) : Int) (⟨#[]⟩ : ByteArray))))) j) (hj : j = min (a + t.size) ((a / 8 + k) * 8 + 8) - max a ((a / 8 + k) * 8)) : layM (lookM M (keyNum (keyNum (⟨#[105, 47]⟩ : ByteArray) id (⟨#[47, 98, 47]⟩ : ByteArray)) ((a / 8 + k : Nat) : Int) (⟨#[]⟩ : ByteArray))) (keyNum (keyNum (⟨#[105, 47]⟩ : ByteArray) id (⟨#[47, 98, 47]⟩ : ByteArray)) ((a / 8 + k : Nat) : Int) (⟨#[]⟩ : ByteArray)) (hexS (bstr D)) = wrN m id a t (k + 1) := by
  subst hj hD hM
  rfl
theorem wr_in {D D2 : List Nat} {f i j q n' v' : Nat} {B : List Nat} (hD : D = wrB t a f i B j) (h0 : D2 = D ++ List.replicate q 0) (h1 : q = 0 ∨ D.length + q ≤ n' + 1) (h2 : ¬ D2.length ≤ n') (hn : n' = i + j - f) (hv : v' = i + j - a) : D2.set n' (byteAt t v') = wrB t a f i B (j + 1) := by
  subst hn hv
  rw [pad_done h0 h1 h2, hD]; rfl
theorem tdiv_nat {x : Int} (h : 0 ≤ x) : x.tdiv ((8 : Nat) : Int) = ((x.toNat / 8 : Nat) : Int) := by
  obtain ⟨a, rfl⟩ := Int.eq_ofNat_of_zero_le h
  rw [← Int.ofNat_tdiv]; rfl
theorem bdC.ctH {b n : Nat} (h : bdC b m) : bdC (b + 2) (ctH m id n) := by
  unfold Go.Proofs.YtibgmijfnbnfkaaDoor.ctH
  split
  · exact h.le (by omega)
  · exact h.look.lay
theorem rf_0 (h : rfB m id at_ n = false) : (⟨#[]⟩ : ByteArray) = rfT m id at_ n ∧ lookM m (keyNum (⟨#[105, 47]⟩ : ByteArray) id (⟨#[47, 115]⟩ : ByteArray)) = rfM m id at_ n := by
  unfold rfT rfM; rw [h]; exact ⟨rfl, rfl⟩
theorem rf_1 {s : ByteArray} (h0 : ¬ at_ < 0) (h1 : ¬ n < 1) (h2 : ¬ at_ ≥ ((numOf (getKey m.store (keyNum (⟨#[105, 47]⟩ : ByteArray) id (⟨#[47, 115]⟩ : ByteArray))) : Nat) : Int)) (hM : M = rdM (lookM m (keyNum (⟨#[105, 47]⟩ : ByteArray) id (⟨#[47, 115]⟩ : ByteArray))) id at_.toNat k) (hs : s = rdT m id at_.toNat (rfE m id at_ n) k) (hk : k = nBl at_.toNat (rfE m id at_ n - at_.toNat)) : s = rfT m id at_ n ∧ M = rfM m id at_ n := by
  have hb : rfB m id at_ n = true := by unfold rfB; exact decide_eq_true (by omega)
  unfold rfT rfM
  rw [if_pos hb, if_pos hb, ← hk]
  exact ⟨hs, hM⟩
theorem rd_next {s : ByteArray} {x y : Nat} {e : Nat} (hM : M = rdM (lookM m (keyNum (⟨#[105, 47]⟩ : ByteArray) id (⟨#[47, 115]⟩ : ByteArray))) id a k) (hs : s = rdT m id a e k) (hx : x = a - (a / 8 + k) * 8) (hy : y = min (min (e - (a / 8 + k) * 8) 8) (unhexT (getKey M.store (keyNum (keyNum (⟨#[105, 47]⟩ : ByteArray) id (⟨#[47, 98, 47]⟩ : ByteArray)) ((a / 8 + k : Nat) : Int) (⟨#[]⟩ : ByteArray)))).size) : s ++ (unhexT (getKey M.store (keyNum (keyNum (⟨#[105, 47]⟩ : ByteArray) id (⟨#[47, 98, 47]⟩ : ByteArray)) ((a / 8 + k : Nat) : Int) (⟨#[]⟩ : ByteArray)))).extract x y = rdT m id a e (k + 1) := by
  subst hx hy hM hs
  rw [rdM_store]; rfl
theorem rd_skip {s : ByteArray} {x y : Nat} {e : Nat} (hM : M = rdM (lookM m (keyNum (⟨#[105, 47]⟩ : ByteArray) id (⟨#[47, 115]⟩ : ByteArray))) id a k) (hs : s = rdT m id a e k) (hx : x = a - (a / 8 + k) * 8) (hy : y = min (min (e - (a / 8 + k) * 8) 8) (unhexT (getKey M.store (keyNum (keyNum (⟨#[105, 47]⟩ : ByteArray) id (⟨#[47, 98, 47]⟩ : ByteArray)) ((a / 8 + k : Nat) : Int) (⟨#[]⟩ : ByteArray)))).size) (h : ¬ x < y) : s = rdT m id a e (k + 1) := by
  subst hx hy hM hs
  rw [rdM_store, show (lookM m (keyNum (⟨#[105, 47]⟩ : ByteArray) id (⟨#[47, 115]⟩ : ByteArray))).store = m.store from rfl] at h
  exact rdT_skip (by omega)
theorem rd_nextM (hM : M = rdM m id a k) : lookM M (keyNum (keyNum (⟨#[105, 47]⟩ : ByteArray) id (⟨#[47, 98, 47]⟩ : ByteArray)) ((a / 8 + k : Nat) : Int) (⟨#[]⟩ : ByteArray)) = rdM m id a (k + 1) := by subst hM; rfl
/-- .. cut. -/
theorem ct_0 (h : inB n 0 ((numOf (getKey m.store (keyNum (⟨#[105, 47]⟩ : ByteArray) id (⟨#[47, 115]⟩ : ByteArray))) : Nat) : Int) = false) : (4 : Int) = ctC m id n ∧ lookM m (keyNum (⟨#[105, 47]⟩ : ByteArray) id (⟨#[47, 115]⟩ : ByteArray)) = ctM m id n := by
  unfold ctC ctM ctB; rw [h]; exact ⟨rfl, rfl⟩
theorem ct_1 {a k : Nat} (ha : n = ((a : Nat) : Int)) (h : inB n 0 ((numOf (getKey m.store (keyNum (⟨#[105, 47]⟩ : ByteArray) id (⟨#[47, 115]⟩ : ByteArray))) : Nat) : Int) = true) (hM : M = ctN (ctH (lookM m (keyNum (⟨#[105, 47]⟩ : ByteArray) id (⟨#[47, 115]⟩ : ByteArray))) id a) id ((a + 7) / 8) k) (hk : k = (numOf (getKey m.store (keyNum (⟨#[105, 47]⟩ : ByteArray) id (⟨#[47, 115]⟩ : ByteArray))) + 7) / 8 - (a + 7) / 8) : (0 : Int) = ctC m id n ∧ setM M (keyNum (⟨#[105, 47]⟩ : ByteArray) id (⟨#[47, 115]⟩ : ByteArray)) ((a : Nat) : Int) = ctM m id n := by
  subst ha hM hk
  unfold ctC ctM ctB; rw [h]; exact ⟨rfl, rfl⟩
theorem ctH_t {a : Nat} (h : ¬ a % 8 > 0) : m = ctH m id a := (if_pos (by omega)).symm
theorem ctH_f {a : Nat} (h : a % 8 > 0) : layM (lookM m (keyNum (keyNum (⟨#[105, 47]⟩ : ByteArray) id (⟨#[47, 98, 47]⟩ : ByteArray)) ((a / 8 : Nat) : Int) (⟨#[]⟩ : ByteArray))) (keyNum (keyNum (⟨#[105, 47]⟩ : ByteArray) id (⟨#[47, 98, 47]⟩ : ByteArray)) ((a / 8 : Nat) : Int) (⟨#[]⟩ : ByteArray)) (hexS ((unhexT (getKey m.store (keyNum (keyNum (⟨#[105, 47]⟩ : ByteArray) id (⟨#[47, 98, 47]⟩ : ByteArray)) ((a / 8 : Nat) : Int) (⟨#[]⟩ : ByteArray)))).extract 0 (min (a % 8) (unhexT (getKey m.store (keyNum (keyNum (⟨#[105, 47]⟩ : ByteArray) id (⟨#[47, 98, 47]⟩ : ByteArray)) ((a / 8 : Nat) : Int) (⟨#[]⟩ : ByteArray)))).size))) = ctH m id a := (if_neg (by omega)).symm
theorem ct_next {p : Nat} (hM : M = ctN m id p k) : layM M (keyNum (keyNum (⟨#[105, 47]⟩ : ByteArray) id (⟨#[47, 98, 47]⟩ : ByteArray)) ((p + k : Nat) : Int) (⟨#[]⟩ : ByteArray)) ⟨#[]⟩ = ctN m id p (k + 1) := by subst hM; rfl
end
end Go.Proofs.YtibgmijfnbnfkaaDoor
