/-
  Calls, answers, transactions.
-/
import Derived.Test.YtkebmooffbkpgaaNest
import Derived.Test.YtkebmooffbkpgaaEng9
import Derived.Test.YtkebmooffbkpgaaFactsB
namespace Go.Proofs.Ytkebmooffbkpgaa
open Go.ChangeShapes Go.WideShapes Go.ChangeAt Go.RowKit
set_option maxRecDepth 100000
set_option maxHeartbeats 1000000

theorem subOr_i64 {n : Int} {a : Nat} (h0 : 0 ≤ n) (h1 : n ≤ 1048576) : i64ok (subOr n a) := by
  have := subOr_bd n a h0
  unfold i64ok; omega
section
variable {P : Program} {ρ : Operand → Value} {w : World} {o : Oper} {x y : Operand} {t u : TypeId}
theorem r_slNil {e : TypeId} {a : Option Addr} {n c : Nat} (ht : P.underlying t = some (.slice e)) (ho : o.op = .binOp .eql t x y u) (hx : ρ x = .slice a n c) (hy : ρ y = .slice none 0 0) : (execOp ρ o).run P w = .ok (.value (.bool a.isNone)) w := by
  have h1 := Lib.run_eql_slice_nil (P := P) w t e a n c 0 0 ht
  have hg : eqGuard .eql t x y (.slice a n c) (.slice none 0 0) = pure () := rfl
  simp only [execOp, ho, hx, hy, Sem.run_bind, hg, Sem.run_pure, Result.andThen_ok, h1]
end
theorem nil_of {α : Type} {a : Option Addr} {l : List α} (h : a = none → l = []) (ha : a.isNone = true) : [] = l := (h (Option.isNone_iff_eq_none.1 ha)).symm
/-! ### A field of an element is stored -/
theorem spliceV_get {cur vs : List Value} {off p : Nat} (h : off + vs.length ≤ cur.length) : (spliceV cur off vs)[p]? = if off ≤ p ∧ p < off + vs.length then vs[p - off]? else cur[p]? := by
  unfold spliceV
  rcases Nat.lt_or_ge p off with h1 | h1
  · rw [if_neg (by omega), List.append_assoc, List.getElem?_append_left (by rw [List.length_take]; omega), List.getElem?_take_of_lt h1]
  · rcases Nat.lt_or_ge p (off + vs.length) with h2 | h2
    · rw [if_pos ⟨h1, h2⟩, List.append_assoc, List.getElem?_append_right (by rw [List.length_take]; omega), List.getElem?_append_left (by rw [List.length_take]; omega), List.length_take, Nat.min_eq_left (by omega)]
    · rw [if_neg (by omega), List.getElem?_append_right (by rw [List.length_append, List.length_take]; omega), List.getElem?_drop, List.length_append, List.length_take, Nat.min_eq_left (by omega)]
      congr 1; omega
section
variable {α : Type} {e k : Nat} {enc : α → List Value} {ok : α → Prop}
variable {P : Program} {ops : Array Oper} {Q : Exit → Act → World → Prop} {K : Act → World → Prop} {o : Oper} {a : Act} {w : World} {L : List Atom}
theorem s_storeElF {t : TypeId} {xo z : Operand} {g : Bool} {ad : Option Addr} {b n c off : Nat} {l : List α} {v u : Value} (A : At w L) (i : Nat) (j : Nat) (x y : α) (hk : ∀ x, (enc x).length = k) (h1 : ∀ x, ∀ u ∈ enc x, u.oneCell' = true) (TT : TI P t g 1) (hL : nth L i = some (ow e k enc ok (.slice ad n c) l)) (ha : ad = some ⟨b, 0, none⟩) (hok : okSel L.length [i] = true)
    (hw : Region.wanted o (yielded ops a.tmps) = true) (hd : o.dst = none) (ho : o.op = .store t xo z) (hx : a.eval xo = .pointer (some ⟨b, 0 + j * k + off, none⟩)) (hz : a.eval z = v) (hv : v.cells.toList = [u]) (hj : j < n) (hxj : nth l j = some x) (he : enc y = (enc x).set off u) (hof : off < k) (hy : ok y)
    (kk : ∀ w', Mv L w ([ow e k enc ok (.slice ad n c) (l.set j y)] ++ del L [i]) w' → K a w') : st1 P ops Q o K a w := by
  obtain ⟨cur, g1, g2, g3⟩ := mv_setEl A hk i hL ha hok j hj y hy
  obtain ⟨b', x', e1, e2, e3, e4⟩ := At.ownAt A hk i hL j hj
  rw [ha] at e1
  cases e1
  rw [hxj] at e2
  cases e2
  have hu : u.oneCell' = true := h1 y u (by rw [he]; exact List.mem_iff_getElem?.2 ⟨off, by rw [List.getElem?_set_self (by rw [hk]; exact hof)]⟩)
  have hsame : spliceV cur (j * k + off) [u] = spliceV cur (j * k) (enc y) := by
    apply List.ext_getElem?
    intro p
    rw [spliceV_get (by simp; omega), spliceV_get (by rw [hk]; omega), hk, List.length_singleton]
    by_cases hp : j * k ≤ p ∧ p < j * k + k
    · rw [if_pos hp, he]
      by_cases hq : p = j * k + off
      · subst hq
        rw [if_pos (by omega), Nat.sub_self, Nat.add_sub_cancel_left, List.getElem?_set_self (by rw [hk]; exact hof)]; rfl
      · rw [if_neg (by omega), List.getElem?_set_ne (by omega)]
        have hlt : p - j * k < (enc x).length := by rw [hk]; omega
        have h5 := e4 (p - j * k) _ (List.getElem?_eq_getElem hlt)
        rw [add_flat] at h5
        unfold World.cell? at h5
        simp only [g1] at h5
        rw [List.getElem?_eq_getElem hlt]
        have h6 : 0 + j * k + (p - j * k) = p := by omega
        rw [h6] at h5
        simpa using h5
    · rw [if_neg hp, if_neg (by omega)]
  refine s_unit hw hd ?_ (kk _ g3)
  have hst := run_storeCells_at P b (j * k + off) e [u] 0 cur.toArray w g1 (by simp; omega) (by intro q hq; rcases List.mem_singleton.1 hq with rfl; exact hu)
  have hsz : v.cells.size = 1 := by
    have := congrArg List.length hv
    simpa using this
  simp only [Nat.add_zero] at hst
  have hs2 : cur.take (j * k + off) ++ [u] ++ cur.drop (j * k + off + [u].length) = spliceV cur (j * k) (enc y) := hsame
  simp only [execOp, ho, hx, hz, Nat.zero_add, Instr.storeAt, Instr.sureAddr, storeVar, hv, Sem.run_bind, Sem.run_pure, Result.andThen_ok, run_sizeOf' TT, hsz, ne_eq, not_true_eq_false, ↓reduceIte, hst]
  rw [← hs2]
end

abbrev yT : Bool := true
abbrev nF : Bool := false
/-! ### Sizes, marks -/
def szCallD (c : CallD) : Nat := c.name.size + (c.to_.size + c.text.size)
def szCalls (l : List CallD) : Nat := l.length + sumOf szCallD l
def szAnsD (c : AnsD) : Nat := c.text.size
def szAnss (l : List AnsD) : Nat := l.length + sumOf szAnsD l
def szTxD (x : TxD) : Nat := szCalls x.calls + (szAnss x.answers + (szTouchD x.touch + x.marks.length))
def markK (k j : Nat) : CallD := ⟨((k + 6 * j : Nat) : Int), markT (k + 6 * j + 1), markT (k + 6 * j + 2), ((k + 6 * j + 3 : Nat) : Int), ((k + 6 * j + 4 : Nat) : Int), markT (k + 6 * j + 5)⟩
def markR (k j : Nat) : AnsD := ⟨((k + 3 * j : Nat) : Int), ((k + 3 * j + 1 : Nat) : Int), markT (k + 3 * j + 2)⟩
def markI (k j : Nat) : Int := ((k + j : Nat) : Int)
def marksOf {α : Type} (f : Nat → Nat → α) (k n : Nat) : List α := (List.range n).map (f k)
theorem marksOf_length {α : Type} (f : Nat → Nat → α) (k n : Nat) : (marksOf f k n).length = n := by unfold marksOf; rw [List.length_map, List.length_range]
theorem marksOf_at {α : Type} {f : Nat → Nat → α} {k n j : Nat} {x : α} {a : List α} (ha : a = marksOf f k n) (hx : nth a j = some x) : x = f k j ∧ j < n := by
  subst ha
  rw [nth_eq] at hx
  unfold marksOf at hx
  rw [List.getElem?_map] at hx
  rcases Nat.lt_or_ge j n with h | h
  · rw [List.getElem?_range h] at hx
    exact ⟨(Option.some.inj hx).symm, h⟩
  · rw [List.getElem?_eq_none (by rw [List.length_range]; exact h)] at hx; cases hx
/-- The first j elements are marked. -/
def upTo {α : Type} (f : Nat → Nat → α) (k j : Nat) (l : List α) : List α := marksOf f k j ++ l.drop j
theorem upTo_start {α : Type} (f : Nat → Nat → α) (k : Nat) (l : List α) : l = upTo f k 0 l := rfl
theorem upTo_end {α : Type} {f : Nat → Nat → α} {k j : Nat} {l : List α} (h : l.length ≤ j) (hj : j ≤ l.length) : upTo f k j l = marksOf f k l.length := by
  unfold upTo
  rw [List.drop_of_length_le h, List.append_nil, show j = l.length by omega]
theorem upTo_length {α : Type} {f : Nat → Nat → α} {k j : Nat} {l : List α} (hj : j ≤ l.length) : (upTo f k j l).length = l.length := by
  unfold upTo
  rw [List.length_append, marksOf_length, List.length_drop]; omega
theorem upTo_step {α : Type} {f : Nat → Nat → α} {k j : Nat} {l : List α} {y : α} (hj : j < l.length) (hy : y = f k j) : (upTo f k j l).set j y = upTo f k (j + 1) l := by
  subst hy
  unfold upTo
  have h1 : marksOf f k (j + 1) = marksOf f k j ++ [f k j] := by unfold marksOf; rw [List.range_succ, List.map_append]; rfl
  rw [List.set_append, if_neg (by rw [marksOf_length]; omega), marksOf_length, Nat.sub_self, h1, List.append_assoc]
  congr 1
  rw [List.drop_eq_getElem_cons hj, List.set_cons_zero]; rfl
theorem upTo_stepD {α : Type} {f : Nat → Nat → α} {k j : Nat} {l D E : List α} {z : α} (hc : E = D.set j z) (hD : D = upTo f k j l) (hj : j < l.length) (hz : z = f k j) : E = upTo f k (j + 1) l := by
  rw [hc, hD]
  exact upTo_step hj hz
theorem nth_setSelf {α : Type} {l : List α} {j : Nat} {y x : α} (h : nth l j = some x) : nth (l.set j y) j = some y := by
  rw [nth_eq] at *
  rw [List.getElem?_set_self (List.getElem?_eq_some_iff.1 h).1]
/-- A copy that grows. -/
def copyTo {α : Type} (z : α) (k : Nat) (l : List α) : List α := l.take k ++ List.replicate (l.length - k) z
theorem copyTo_start {α : Type} (z : α) (l : List α) {n : Nat} (h : n = l.length) : List.replicate n z = copyTo z 0 l := by subst h; rfl
theorem copyTo_end {α : Type} {z : α} {l : List α} {k : Nat} (h : l.length ≤ k) : copyTo z k l = l := by
  unfold copyTo
  rw [List.take_of_length_le h, show l.length - k = 0 by omega]; exact List.append_nil _
theorem copyTo_length {α : Type} {z : α} {l : List α} {k : Nat} (h : k ≤ l.length) : (copyTo z k l).length = l.length := by
  unfold copyTo
  rw [List.length_append, List.length_take, List.length_replicate]; omega
theorem copyTo_step {α : Type} {z x : α} {l : List α} {k : Nat} (hx : nth l k = some x) : (copyTo z k l).set k x = copyTo z (k + 1) l := by
  rw [nth_eq] at hx
  obtain ⟨hk, rfl⟩ := List.getElem?_eq_some_iff.1 hx
  unfold copyTo
  rw [List.set_append, if_neg (by rw [List.length_take]; omega), List.length_take, Nat.min_eq_left (by omega), Nat.sub_self, List.take_succ_eq_append_getElem hk, List.append_assoc, show l.length - k = (l.length - (k + 1)) + 1 by omega, List.replicate_succ, List.set_cons_zero]
  rfl
theorem sz_step {α : Type} {f : α → Nat} {l : List α} {k : Nat} {x : α} (hx : nth l k = some x) : sumOf f (l.take (k + 1)) = sumOf f (l.take k) + f x := sumOf_take f l k x (by rw [← nth_eq]; exact hx)
theorem sz_le {α : Type} (f : α → Nat) (l : List α) (k : Nat) : sumOf f (l.take k) ≤ sumOf f l := by
  conv => rhs; rw [← List.take_append_drop k l]
  unfold sumOf
  rw [List.map_append, List.sum_append]; omega
theorem sz_stop {α : Type} {f : α → Nat} {l : List α} {k : Nat} {x : α} {left lv : Int} (hx : nth l k = some x) (hlv : lv = left - ((l.length + sumOf f (l.take k) : Nat) : Int)) (h : subOr lv (f x) < 0) : -1 = subOr left (l.length + sumOf f l) := by
  have h1 := sz_step (f := f) hx
  have h2 := sz_le f l (k + 1)
  unfold subOr at *
  split at h <;> split <;> omega
theorem sz_neg {left : Int} {n m : Nat} (h : left - ((n : Nat) : Int) < 0) : -1 = subOr left (n + m) := by
  unfold subOr
  split <;> omega
theorem sz_next {α : Type} {f : α → Nat} {l : List α} {k : Nat} {x : α} {left lv : Int} (hx : nth l k = some x) (hlv : lv = left - ((l.length + sumOf f (l.take k) : Nat) : Int)) (h : ¬ subOr lv (f x) < 0) : subOr lv (f x) = left - ((l.length + sumOf f (l.take (k + 1)) : Nat) : Int) ∧ 0 ≤ subOr lv (f x) := by
  have h1 := sz_step (f := f) hx
  unfold subOr at *
  split at h
  · rename_i h3
    rw [if_pos h3]
    omega
  · omega
theorem sz_done {α : Type} {f : α → Nat} {l : List α} {k : Nat} {left lv : Int} (hk : l.length ≤ k) (hlv : lv = left - ((l.length + sumOf f (l.take k) : Nat) : Int)) (h0 : 0 ≤ lv) : lv = subOr left (l.length + sumOf f l) := by
  rw [List.take_of_length_le hk] at hlv
  unfold subOr
  split <;> omega
theorem subOr_neg1 {left : Int} {a : Nat} (h : subOr left a < 0) : -1 = subOr left a := by
  unfold subOr at *
  split at h <;> split <;> omega
theorem sz4_a {left : Int} {A B C D : Nat} (h : subOr left A < 0) : -1 = subOr left (A + (B + (C + D))) := (subOr_neg left A _ h).symm
theorem sz4_b {left : Int} {A B C D : Nat} (h : ¬ subOr left A < 0) (h2 : subOr (subOr left A) B < 0) : -1 = subOr left (A + (B + (C + D))) := by
  rw [← subOr_add left A _ (by omega)]
  exact (subOr_neg _ B _ h2).symm
theorem sz4_c {left : Int} {A B C D : Nat} (h : ¬ subOr left A < 0) (h2 : ¬ subOr (subOr left A) B < 0) (h3 : subOr (subOr (subOr left A) B) C < 0) : -1 = subOr left (A + (B + (C + D))) := by
  rw [← subOr_add left A _ (by omega), ← subOr_add _ B _ (by omega)]
  exact (subOr_neg _ C _ h3).symm
theorem sz4_d {left : Int} {A B C D : Nat} (h : ¬ subOr left A < 0) (h2 : ¬ subOr (subOr left A) B < 0) (h3 : ¬ subOr (subOr (subOr left A) B) C < 0) : subOr (subOr (subOr (subOr left A) B) C) D = subOr left (A + (B + (C + D))) := by
  rw [← subOr_add left A _ (by omega), ← subOr_add _ B _ (by omega), ← subOr_add _ C _ (by omega)]
theorem sz3_a {left : Int} {A B C : Nat} (h : left - ((A : Nat) : Int) < 0) : -1 = subOr left (A + (B + C)) := by unfold subOr; split <;> omega
theorem sz3_b {left : Int} {A B C : Nat} (h2 : left - ((A : Nat) : Int) - ((B : Nat) : Int) < 0) : -1 = subOr left (A + (B + C)) := by unfold subOr; split <;> omega
theorem sz3_c {left : Int} {A B C : Nat} (h2 : left - ((A : Nat) : Int) - ((B : Nat) : Int) - ((C : Nat) : Int) < 0) : -1 = subOr left (A + (B + C)) := by unfold subOr; split <;> omega
theorem sz3_d {left : Int} {A B C : Nat} (h2 : ¬ left - ((A : Nat) : Int) - ((B : Nat) : Int) - ((C : Nat) : Int) < 0) : left - ((A : Nat) : Int) - ((B : Nat) : Int) - ((C : Nat) : Int) = subOr left (A + (B + C)) := by unfold subOr; split <;> omega
theorem sz1_a {left : Int} {A : Nat} (h : left - ((A : Nat) : Int) < 0) : -1 = subOr left A := by unfold subOr; split <;> omega
theorem sz1_b {left : Int} {A : Nat} (h : ¬ left - ((A : Nat) : Int) < 0) : left - ((A : Nat) : Int) = subOr left A := by unfold subOr; split <;> omega
def cntX (x : TxD) : Nat := 6 * x.calls.length + (3 * x.answers.length + (cntT x.touch + x.marks.length))
def marksX (k : Nat) (x : TxD) : TxD := ⟨x.id, x.age, x.proc, x.began, marksOf markK k x.calls.length, marksOf markR (k + 6 * x.calls.length) x.answers.length, marksT (k + 6 * x.calls.length + 3 * x.answers.length) x.touch, marksOf markI (k + 6 * x.calls.length + 3 * x.answers.length + cntT x.touch) x.marks.length, x.state⟩
theorem el_eq {α : Type} {a b : List α} {k : Nat} {x y : α} (p : a = b) (h1 : nth a k = some x) (h2 : nth b k = some y) : x = y := by
  subst p
  exact Option.some.inj (h1.symm.trans h2)
/-! ### A mark is set -/
def txM (x : TxD) : TxD := if x.state ≠ 1 ∨ 4 ≤ x.marks.length then x else ⟨x.id, x.age, x.proc, x.began, x.calls, x.answers, x.touch, x.marks ++ [((x.calls.length : Nat) : Int)], x.state⟩
def txN (x : TxD) : Nat := if x.state ≠ 1 ∨ 4 ≤ x.marks.length then 0 else x.marks.length + 1
theorem txM_a {x : TxD} (h : x.state ≠ 1) : txM x = x ∧ (0 : Int) = ((txN x : Nat) : Int) := ⟨if_pos (.inl h), by unfold txN; rw [if_pos (.inl h)]; rfl⟩
theorem txM_b {x : TxD} {n : Nat} (h : n ≥ 4) (hn : n = x.marks.length) : txM x = x ∧ (0 : Int) = ((txN x : Nat) : Int) := ⟨if_pos (.inr (by omega)), by unfold txN; rw [if_pos (.inr (by omega))]; rfl⟩
theorem txM_c {x : TxD} {n : Nat} (h : ¬ x.state ≠ 1) (h2 : ¬ n ≥ 4) (hn : n = x.marks.length) : txM x = ⟨x.id, x.age, x.proc, x.began, x.calls, x.answers, x.touch, x.marks ++ [((x.calls.length : Nat) : Int)], x.state⟩ ∧ txN x = x.marks.length + 1 := by
  have hh : ¬ (x.state ≠ 1 ∨ 4 ≤ x.marks.length) := by
    rintro (h3 | h3)
    · exact h h3
    · omega
  exact ⟨if_neg hh, if_neg hh⟩
theorem mk_eq {l : List Int} {n m : Nat} (h : n = m) : l ++ [((n : Nat) : Int)] = l ++ [((m : Nat) : Int)] := by rw [h]
theorem mk_len {l : List Int} {N n : Nat} (h : N = (l ++ [((n : Nat) : Int)]).length) : N = l.length + 1 := by rw [h, List.length_append]; rfl
theorem txM_len (x : TxD) : (txM x).calls.length = x.calls.length ∧ (txM x).answers.length = x.answers.length ∧ (txM x).touch.reads.length = x.touch.reads.length ∧ (txM x).touch.writes.length = x.touch.writes.length ∧ (txM x).marks.length ≤ x.marks.length + 1 := by
  unfold txM
  split
  · exact ⟨rfl, rfl, rfl, rfl, Nat.le_succ _⟩
  · exact ⟨rfl, rfl, rfl, rfl, by rw [List.length_append]; exact Nat.le_refl _⟩
theorem szX_of {x : TxD} {n : Int} (hn : n ≤ 1048576) (h : ¬ subOr n (szTxD x) < 0) : x.calls.length ≤ 1048576 ∧ x.answers.length ≤ 1048576 ∧ x.touch.reads.length ≤ 1048576 ∧ x.touch.writes.length ≤ 1048576 ∧ x.marks.length ≤ 1048576 := by
  have h1 : 0 ≤ subOr n (szTxD x) := by omega
  have h2 := (subOr_ge h1).2
  unfold szTxD szCalls szAnss szTouchD szStrs at h2
  omega
/-- What is reached by many ways is shown once. -/
theorem x_lem {P : Program} {ops : Array Oper} {Q : Exit → Act → World → Prop} {S : World → Prop} {n : Nat} {listed : Array Bool} {a : Act} {w : World} (I : Act → World → Prop) (listed1 : Array Bool) (f1 : Nat) (h1 : ∀ a w, I a w → wpAnyH P .any ops Q S f1 listed1 a w)
    (k : (∀ a w, I a w → wpAnyH P .any ops Q S f1 listed1 a w) → wpAnyH P .any ops Q S n listed a w) : wpAnyH P .any ops Q S n listed a w := k h1
theorem txM_ints (x : TxD) : (txM x).id = x.id ∧ (txM x).age = x.age ∧ (txM x).proc = x.proc ∧ (txM x).began = x.began ∧ (txM x).state = x.state := by
  unfold txM
  split <;> exact ⟨rfl, rfl, rfl, rfl, rfl⟩
end Go.Proofs.Ytkebmooffbkpgaa
