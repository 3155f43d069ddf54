/-
  The steps once more, each with the frame behind it.
-/
import Derived.Test.YtibgmijfnbnfkaaGreatDoorEng5
namespace Go.Proofs.YtibgmijfnbnfkaaGreatDoor
open Go.ChangeShapes Go.WideShapes Go.ChangeAt Go.RowKit
section
variable {P : Program} {ops : Array Oper} {Q : Exit → Act → World → Prop} {K : Act → World → Prop} {o : Oper} {a : Act} {w : World} {L : List Atom} {d n : Nat} {m : List (Nat × Value)}
theorem f_val {v : Value} (F : Fr n m a) (hw : Region.wanted o (yielded ops a.tmps) = true) (hd : o.dst = some d) (hop : (execOp a.eval o).run P w = .ok (.value v) w) (hp : Nat.blt d n = true)
    (k : ∀ a', Fr n ((d, v) :: m) a' → K a' w) : st1 P ops Q o K a w := s_val hw hd hop fun a' e => k a' (F.put e hp)
theorem f_mv {t : Nat} {v : Value} (F : Fr n m a) (hw : Region.wanted o (yielded ops a.tmps) = true) (hd : o.dst = some d) (ho : o.op = .move (.tmp t)) (hm : look m t = some v) (hp : Nat.blt d n = true)
    (k : ∀ a', Fr n ((d, v) :: m) a' → K a' w) : st1 P ops Q o K a w := f_val F hw hd (r_move ho (F.ev t hm)) hp k
theorem f_as {t : Nat} {v : Value} (F : Fr n m a) (hw : Region.wanted o (yielded ops a.tmps) = true) (hd : o.dst = some d) (ho : o.op = .assign (.tmp t)) (hm : look m t = some v) (hp : Nat.blt d n = true)
    (k : ∀ a', Fr n ((d, v) :: m) a' → K a' w) : st1 P ops Q o K a w := f_val F hw hd (r_assign ho (F.ev t hm)) hp k
theorem f_skip (F : Fr n m a) (hw : Region.wanted o (yielded ops a.tmps) = false) (hd : o.dst = some d) (hp : Nat.blt d n = true)
    (k : ∀ a', Fr n ((d, undef) :: m) a' → K a' w) : st1 P ops Q o K a w := s_skip hw hd fun a' e => k a' (F.put e hp)
theorem f_alloc {t : TypeId} {z : Value} {cs : List Value} (F : Fr n m a) (A : At w L) (Z : ZI P t z) (hw : Region.wanted o (yielded ops a.tmps) = true) (hd : o.dst = some d) (ho : o.op = .alloc t) (hz : z.cells.toList = cs) (hp : Nat.blt d n = true)
    (k : ∀ b a' w', Fr n ((d, .pointer (some ⟨b, 0, none⟩)) :: m) a' → Mv L w (bx b cs t :: L) w' → K a' w') : st1 P ops Q o K a w :=
  s_alloc A Z hw hd ho hz fun b a' w' e m' => k b a' w' (F.put e hp) m'
theorem f_box {t : TypeId} {x : Operand} {v : Value} {cs : List Value} (F : Fr n m a) (A : At w L) (hw : Region.wanted o (yielded ops a.tmps) = true) (hd : o.dst = some d) (ho : o.op = .box t x) (hx : a.eval x = v) (hv : v.cells.toList = cs) (hp : Nat.blt d n = true)
    (k : ∀ b a' w', Fr n ((d, .pointer (some ⟨b, 0, none⟩)) :: m) a' → Mv L w (bx b cs t :: L) w' → K a' w') : st1 P ops Q o K a w :=
  s_box A hw hd ho hx hv fun b a' w' e m' => k b a' w' (F.put e hp) m'
theorem f_call {f : FuncId} {xs : Array Operand} {ats : Array TypeId} {vs : List Value} {R : Ending → World → Prop} (F : Fr n m a) (C : CF P f) (hw : Region.wanted o (yielded ops a.tmps) = true) (hd : o.dst = some d)
    (ho : o.op = .call { callee := .value (.func f), args := xs, argTypes := ats }) (hp : Nat.blt d n = true) (hx : xs.toList.map a.eval = vs) (hc : Calls P f vs.toArray w R)
    (k : ∀ e w', R e w' → ∃ v, e = .returned v ∧ ∀ a', Fr n ((d, v) :: m) a' → K a' w') : st1 P ops Q o K a w :=
  c_call C hw hd ho hx hc fun e w' hR => by
    obtain ⟨v, h1, h2⟩ := k e w' hR
    exact ⟨v, h1, fun a' e' => h2 a' (F.put e' hp)⟩
theorem f_callv {f : FuncId} {x : Operand} {xs : Array Operand} {ats : Array TypeId} {vs us : List Value} {R : Ending → World → Prop} (F : Fr n m a) (C : CF P f) (hw : Region.wanted o (yielded ops a.tmps) = true) (hd : o.dst = some d)
    (ho : o.op = .call { callee := .value x, args := xs, argTypes := ats }) (hp : Nat.blt d n = true) (hρ : a.eval x = .func (.func f) #[] us.toArray) (hx : xs.toList.map a.eval = vs) (hc : Calls P f (vs ++ us).toArray w R)
    (k : ∀ e w', R e w' → ∃ v, e = .returned v ∧ ∀ a', Fr n ((d, v) :: m) a' → K a' w') : st1 P ops Q o K a w :=
  c_callv C hw hd ho hρ hx hc fun e w' hR => by
    obtain ⟨v, h1, h2⟩ := k e w' hR
    exact ⟨v, h1, fun a' e' => h2 a' (F.put e' hp)⟩
variable {α : Type} {e k bytes : Nat} {z : Value} {enc : α → List Value} {ok : α → Prop} {t : TypeId}
theorem f_buildSl {q : Nat} {ps : Array (Nat × Operand)} {vs : List Value} (F : Fr n m a) (A : At w L) (l : List α) (E : ElemT P t e z k bytes enc) (hw : Region.wanted o (yielded ops a.tmps) = true) (hd : o.dst = some d) (ho : o.op = .buildSlice t q ps) (hn : q = l.length) (hsm : Nat.ble (q * k) 16777216 = true) (hp : Nat.blt d n = true)
    (hps : ps.toList.map (fun p => (p.1, a.eval p.2)) = (vs.zipIdx 0).map fun p => (p.2, p.1)) (hvl : vs.length = l.length) (hvs : vs.map (fun v => v.cells.toList) = l.map enc) (hok : ∀ x ∈ l, ok x)
    (kk : ∀ b a' w', Fr n ((d, .slice (some ⟨b, 0, none⟩) q q) :: m) a' → Mv L w (ow e k enc ok (.slice (some ⟨b, 0, none⟩) q q) l :: L) w' → K a' w') : st1 P ops Q o K a w :=
  s_buildSl A l E hw hd ho hn hsm hps hvl (rowsOk hvs) hok fun b a' w' e' m' => kk b a' w' (F.put e' hp) m'
theorem f_app {s x : Operand} {v xv : Value} {l news : List α} (F : Fr n m a) (A : At w L) (i : Nat) (E : ElemT P t e z k bytes enc) (hL : nth L i = some (ow e k enc ok v l)) (hsel : okSel L.length [i] = true) (hw : Region.wanted o (yielded ops a.tmps) = true) (hd : o.dst = some d)
    (ho : o.op = .call { callee := .builtin .append, args := #[s, x], argTypes := #[t, t] }) (hp : Nat.blt d n = true) (hs : a.eval s = v) (hx : a.eval x = xv) (hnews : RSl k (Enc enc ok) w xv news) (hbytes : (l.length + news.length) * bytes ≤ 140737488355328)
    (kk : ∀ b q c a' w', Fr n ((d, .slice b q c) :: m) a' → Mv L w ([ow e k enc ok (.slice b q c) (l ++ news)] ++ del L [i]) w' → q = (l ++ news).length → K a' w') : st1 P ops Q o K a w :=
  s_app A i E hL hsel hw hd ho hs hx hnews hbytes fun b q c a' w' e' m' h => kk b q c a' w' (F.put e' hp) m' h
theorem f_sliceR {H : Nat → Prop} {x : Operand} {b : Option Addr} {q c : Nat} {l : List α} {lo hi : Option Operand} (F : Fr n m a) (i j : Nat) (R : Rd k enc ok H w (.slice b q c) l) (E : ElemT P t e z k bytes enc)
    (hw : Region.wanted o (yielded ops a.tmps) = true) (hd : o.dst = some d) (ho : o.op = .slice t x lo hi none) (hp : Nat.blt d n = true) (hx : a.eval x = .slice b q c) (hlo : idxIs a.eval 0 lo i) (hhi : idxIs a.eval q hi j) (h1 : i ≤ j) (h2 : j ≤ q)
    (kk : ∀ a' c' ac', Fr n ((d, .slice a' (j - i) c') :: m) ac' → Rd k enc ok H w (.slice a' (j - i) c') ((l.take j).drop i) → K ac' w) : st1 P ops Q o K a w :=
  s_sliceR i j R E hw hd ho hx hlo hhi h1 h2 fun a' c' ac' e' R' => kk a' c' ac' (F.put e' hp) R'
end
section
variable {P : Program} {ops : Array Oper} {Q : Exit → Act → World → Prop} {S : World → Prop} {fuel : Nat} {listed listed' : Array Bool} {a : Act} {w : World} {q : Nat} {m : List (Nat × Value)}
theorem g_take {n i d : Nat} {oi : Oper} {v : Value} (F : Fr q m a) (hn : n = fuel + 1) (hi : ops[i]? = some oi) (hs : Region.noSelect ops = true) (hf : Region.free .any ops listed i = true) (hr : (Region.ready .any ops listed).contains i = true)
    (hQ : ∀ c a w, Q (.panic c) (a.put oi.dst v) w → Q (.panic c) a w) (hS : S w) (hl : listed.setIfInBounds i true = listed') (hw : Region.wanted oi (yielded ops a.tmps) = true) (hd : oi.dst = some d) (hp : Nat.blt d q = true) (hop : ∀ w', S w' → (execOp a.eval oi).run P w' = .ok (.value v) w')
    (k : ∀ a', Fr q ((d, v) :: m) a' → wpAnyH P .any ops Q S fuel listed' a' w) : wpAnyH P .any ops Q S n listed a w :=
  d_take hn hi hs hf hr hQ hS hl hw hd hop fun a' e => k a' (F.put e hp)
end
theorem At.frame0 {w w' : World} {L : List Atom} (h : At w L) (m : Mv [] w [] w') : Mv L w L w' := by
  have := At.frame (New := []) h [] rfl m
  rw [del_none] at this
  exact this
/-! ### elements of owned slices -/
section
variable {α : Type} {e k : Nat} {enc : α → List Value} {ok : α → Prop}
theorem splice_mid {P X Y R : List Value} (h : X.length = Y.length) : spliceV (P ++ (Y ++ R)) P.length X = P ++ (X ++ R) := by
  unfold spliceV
  rw [List.take_left, List.append_assoc, h]
  congr 2
  rw [← List.append_assoc, show P.length + Y.length = (P ++ Y).length by simp, List.drop_left]
theorem splice_app {A B X : List Value} {off : Nat} (h : off + X.length ≤ A.length) : spliceV (A ++ B) off X = spliceV A off X ++ B := by
  unfold spliceV
  rw [List.take_append_of_le_length (by omega), List.drop_append_of_le_length h]
  simp
theorem length_splice {A X : List Value} {off : Nat} (h : off + X.length ≤ A.length) : (spliceV A off X).length = A.length := by
  unfold spliceV; simp; omega
theorem flat_set {l : List α} {j : Nat} {x : α} (hk : ∀ x, (enc x).length = k) (hj : j < l.length) : flat enc (l.set j x) = spliceV (flat enc l) (j * k) (enc x) := by
  have h1 : l.set j x = l.take j ++ x :: l.drop (j + 1) := List.set_eq_take_append_cons_drop .. |>.trans (if_pos hj)
  have h2 : l = l.take j ++ (l[j] :: l.drop (j + 1)) := by rw [List.getElem_cons_drop]; exact (List.take_append_drop j l).symm
  have e1 : (flat enc (l.take j)).length = j * k := by rw [flat_length hk, List.length_take]; congr 1; omega
  have h3 : flat enc l = flat enc (l.take j) ++ (enc l[j] ++ flat enc (l.drop (j + 1))) := by
    have : flat enc (l.take j ++ (l[j] :: l.drop (j + 1))) = flat enc (l.take j) ++ (enc l[j] ++ flat enc (l.drop (j + 1))) := by rw [flat_append]; simp only [flat, List.flatMap_cons]
    rw [← h2] at this; exact this
  have h4 : flat enc (x :: l.drop (j + 1)) = enc x ++ flat enc (l.drop (j + 1)) := by simp [flat]
  rw [h1, flat_append, h4, h3, ← e1]
  exact (splice_mid ((hk x).trans (hk _).symm)).symm
theorem own_at {w : World} {a : Option Addr} {n c : Nat} {l : List α} (hk : ∀ x, (enc x).length = k) (h : Own e k enc ok w (.slice a n c) l) (i : Nat) (hi : i < n) :
    ∃ b x, a = some ⟨b, 0, none⟩ ∧ nth l i = some x ∧ ok x ∧ ∀ j v, (enc x)[j]? = some v → w.cell? ((⟨b, 0 + i * k, none⟩ : Addr).add j) = some v := by
  obtain ⟨cap, _, e1, _⟩ := (h.rd hk).inv
  cases e1
  have hx : l[i]? = some l[i] := by simp [hi]
  obtain ⟨b, h1, _, h3, _, _⟩ := Own.cellAt hk h i _ hx
  refine ⟨b, l[i], h1, by rw [nth_eq]; exact hx, h.2 _ (List.getElem_mem _), fun j v hj => ?_⟩
  rw [add_flat, Nat.zero_add]
  exact h3 j v hj
theorem mv_setEl {w : World} {L : List Atom} {a : Option Addr} {b n c : Nat} {l : List α} (A : At w L) (hk : ∀ x, (enc x).length = k) (i : Nat) (hL : nth L i = some (ow e k enc ok (.slice a n c) l)) (ha : a = some ⟨b, 0, none⟩) (hsel : okSel L.length [i] = true) (j : Nat) (hj : j < n) (y : α) (hy : ok y) :
    ∃ cur : List Value, w.heap[b]? = some (.cells cur.toArray e (0, 0)) ∧ j * k + k ≤ cur.length ∧ Mv L w ([ow e k enc ok (.slice a n c) (l.set j y)] ++ del L [i]) (w.setRow b (spliceV cur (j * k) (enc y)).toArray) := by
  subst ha
  have hO : Own e k enc ok w (.slice (some ⟨b, 0, none⟩) n c) l := A.ok _ (nth_mem hL)
  obtain ⟨rfl, cur, h1, h2, h3, h4, h5⟩ := hO.row
  have hjk : j * k + k ≤ l.length * k := by
    have : (j + 1) * k ≤ l.length * k := Nat.mul_le_mul_right _ hj
    rw [Nat.add_mul] at this; omega
  have hcap : l.length * k ≤ cur.length := by rw [h4]; exact Nat.mul_le_mul_right _ h2
  refine ⟨cur, h1, by omega, A.frame [i] hsel ?_⟩
  have e1 : sel L [i] = [ow e k enc ok (.slice (some ⟨b, 0, none⟩) l.length c) l] := by simp [sel, hL]
  rw [e1]
  have hlt := (Array.getElem?_eq_some_iff.1 h1).1
  have hs : (w.setRow b (spliceV cur (j * k) (enc y)).toArray).heap.size = w.heap.size := by simp [World.setRow]
  have hlen : (spliceV cur (j * k) (enc y)).length = cur.length := by
    have := hk y
    simp [spliceV]; omega
  have htk : (spliceV cur (j * k) (enc y)).take (l.length * k) = flat enc (l.set j y) := by
    rw [flat_set hk hj, ← h5]
    have e3 : (enc y).length = k := hk y
    have e4 : cur = cur.take (l.length * k) ++ cur.drop (l.length * k) := (List.take_append_drop _ _).symm
    have e5 : j * k + (enc y).length ≤ (cur.take (l.length * k)).length := by rw [e3, List.length_take]; omega
    have e6 : spliceV cur (j * k) (enc y) = spliceV (cur.take (l.length * k)) (j * k) (enc y) ++ cur.drop (l.length * k) := by
      have := splice_app (B := cur.drop (l.length * k)) e5
      rw [← e4] at this; exact this
    rw [e6]
    have e7 : (spliceV (cur.take (l.length * k)) (j * k) (enc y)).length = l.length * k := by rw [length_splice e5, List.length_take]; omega
    exact List.take_left' e7
  have hO2 : Own e k enc ok (w.setRow b (spliceV cur (j * k) (enc y)).toArray) (.slice (some ⟨b, 0, none⟩) l.length c) (l.set j y) :=
    Own.ofRow hk (fun x hx => by rcases List.mem_or_eq_of_mem_set hx with h | h; exact hO.2 x h; exact h ▸ hy) (by simp) (setRow_heap w b _ _ e _ h1) h2 h3 (by rw [hlen]; exact h4) htk
  refine ⟨At.one hO2 (fun q hq => by have h : some b = some q := hq; cases h; rw [hs]; exact hlt), fun q ⟨B, hB, hq⟩ => by rcases List.mem_singleton.1 hB with rfl; exact .inl ⟨_, List.mem_singleton.2 rfl, hq⟩, ⟨rfl, rfl, rfl, by rw [hs]; exact Nat.le_refl _, fun q _ hn => setRow_other w b q _ (fun e => hn ⟨_, List.mem_singleton.2 rfl, by subst e; rfl⟩)⟩⟩
variable {P : Program} {ops : Array Oper} {Q : Exit → Act → World → Prop} {K : Act → World → Prop} {o : Oper} {a : Act} {w : World} {L : List Atom}
/-- A whole element is stored into an owned slice. -/
theorem s_storeEl {t : TypeId} {x z : Operand} {g : Bool} {ad : Option Addr} {b n c : Nat} {l : List α} {v : Value} (A : At w L) (i : Nat) (j : Nat) (y : α) (hk : ∀ x, (enc x).length = k) (h1 : ∀ x, ∀ u ∈ enc x, u.oneCell' = true) (TT : TI P t g k) (hL : nth L i = some (ow e k enc ok (.slice ad n c) l)) (ha : ad = some ⟨b, 0, none⟩) (hok : okSel L.length [i] = true)
    (hw : Region.wanted o (yielded ops a.tmps) = true) (hd : o.dst = none) (ho : o.op = .store t x z) (hx : a.eval x = .pointer (some ⟨b, 0 + j * k, none⟩)) (hz : a.eval z = v) (hv : v.cells.toList = enc y) (hj : j < n) (hy : ok y)
    (kk : ∀ w', Mv L w ([ow e k enc ok (.slice ad n c) (l.set j y)] ++ del L [i]) w' → K a w') : st1 P ops Q o K a w := by
  obtain ⟨cur, g1, g2, g3⟩ := mv_setEl A hk i hL ha hok j hj y hy
  refine s_unit hw hd ?_ (kk _ g3)
  have hst := run_storeCells_at P b (j * k) e (enc y) 0 cur.toArray w g1 (by rw [hk y]; simpa using g2) (h1 y)
  have hsz : v.cells.size = k := by rw [← hk y, ← hv]; simp
  simp only [Nat.add_zero] at hst
  simp only [execOp, ho, hx, hz, Nat.zero_add, Instr.storeAt, Instr.sureAddr, storeVar, hv, Sem.run_bind, Sem.run_pure, Result.andThen_ok, run_sizeOf' TT, hsz, ne_eq, not_true_eq_false, ↓reduceIte, hst]
  rfl
end
end Go.Proofs.YtibgmijfnbnfkaaGreatDoor
