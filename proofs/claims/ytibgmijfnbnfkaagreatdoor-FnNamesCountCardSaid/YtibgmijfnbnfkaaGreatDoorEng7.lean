/-
  Parts of owned slices: a beginning, a part that is cleared.
-/
import Derived.Test.YtibgmijfnbnfkaaGreatDoorEng6
namespace Go.Proofs.YtibgmijfnbnfkaaGreatDoor
open Go.ChangeShapes Go.WideShapes Go.ChangeAt Go.RowKit
section
variable {α : Type} {e k : Nat} {enc : α → List Value} {ok : α → Prop}
theorem flat_take {l : List α} (hk : ∀ x, (enc x).length = k) {j : Nat} (hj : j ≤ l.length) : flat enc (l.take j) = (flat enc l).take (j * k) := by
  have h : flat enc l = flat enc (l.take j) ++ flat enc (l.drop j) := by rw [← flat_append, List.take_append_drop]
  rw [h, List.take_left' (by rw [flat_length hk, List.length_take, Nat.min_eq_left hj])]
theorem flat_put {l ys : List α} {j : Nat} (hk : ∀ x, (enc x).length = k) (hj : j + ys.length ≤ l.length) : flat enc (l.take j ++ (ys ++ l.drop (j + ys.length))) = spliceV (flat enc l) (j * k) (flat enc ys) := by
  have e1 : (flat enc (l.take j)).length = j * k := by rw [flat_length hk, List.length_take]; congr 1; omega
  have h3 : flat enc l = flat enc (l.take j) ++ (flat enc ((l.drop j).take ys.length) ++ flat enc (l.drop (j + ys.length))) := by
    rw [← flat_append, ← flat_append, ← List.drop_drop, List.take_append_drop, List.take_append_drop]
  rw [flat_append, flat_append, h3, ← e1]
  refine (splice_mid ?_).symm
  rw [flat_length hk, flat_length hk, List.length_take, List.length_drop]; congr 1; omega
/-- Some elements are stored into an owned slice. -/
theorem mv_setEls {w : World} {L : List Atom} {a : Option Addr} {b n c : Nat} {l : List α} (A : At w L) (hk : ∀ x, (enc x).length = k) (i : Nat) (hL : nth L i = some (ow e k enc ok (.slice a n c) l)) (ha : a = some ⟨b, 0, none⟩) (hsel : okSel L.length [i] = true) (j : Nat) (ys : List α) (hj : j + ys.length ≤ n) (hy : ∀ y ∈ ys, ok y) :
    ∃ cur : List Value, w.heap[b]? = some (.cells cur.toArray e (0, 0)) ∧ j * k + (flat enc ys).length ≤ cur.length ∧ Mv L w ([ow e k enc ok (.slice a n c) (l.take j ++ (ys ++ l.drop (j + ys.length)))] ++ del L [i]) (w.setRow b (spliceV cur (j * k) (flat enc ys)).toArray) := by
  subst ha
  have hO : Own e k enc ok w (.slice (some ⟨b, 0, none⟩) n c) l := A.ok _ (nth_mem hL)
  obtain ⟨rfl, cur, h1, h2, h3, h4, h5⟩ := hO.row
  have hf : (flat enc ys).length = ys.length * k := flat_length hk ys
  have hjk : j * k + ys.length * k ≤ l.length * k := by rw [← Nat.add_mul]; exact Nat.mul_le_mul_right _ hj
  have hcap : l.length * k ≤ cur.length := by rw [h4]; exact Nat.mul_le_mul_right _ h2
  refine ⟨cur, h1, by omega, A.frame [i] hsel ?_⟩
  have e1 : sel L [i] = [ow e k enc ok (.slice (some ⟨b, 0, none⟩) l.length c) l] := by simp [sel, hL]
  rw [e1]
  have hlt := (Array.getElem?_eq_some_iff.1 h1).1
  have hs : (w.setRow b (spliceV cur (j * k) (flat enc ys)).toArray).heap.size = w.heap.size := by simp [World.setRow]
  have hlen : (spliceV cur (j * k) (flat enc ys)).length = cur.length := length_splice (by omega)
  have hll : (l.take j ++ (ys ++ l.drop (j + ys.length))).length = l.length := by simp only [List.length_append, List.length_take, List.length_drop]; omega
  have htk : (spliceV cur (j * k) (flat enc ys)).take (l.length * k) = flat enc (l.take j ++ (ys ++ l.drop (j + ys.length))) := by
    rw [flat_put hk hj, ← h5]
    have e4 : cur = cur.take (l.length * k) ++ cur.drop (l.length * k) := (List.take_append_drop _ _).symm
    have e5 : j * k + (flat enc ys).length ≤ (cur.take (l.length * k)).length := by rw [hf, List.length_take]; omega
    have e6 : spliceV cur (j * k) (flat enc ys) = spliceV (cur.take (l.length * k)) (j * k) (flat enc ys) ++ cur.drop (l.length * k) := by
      have := splice_app (B := cur.drop (l.length * k)) e5
      rw [← e4] at this; exact this
    rw [e6]
    have e7 : (spliceV (cur.take (l.length * k)) (j * k) (flat enc ys)).length = l.length * k := by rw [length_splice e5, List.length_take]; omega
    exact List.take_left' e7
  have hO2 : Own e k enc ok (w.setRow b (spliceV cur (j * k) (flat enc ys)).toArray) (.slice (some ⟨b, 0, none⟩) l.length c) (l.take j ++ (ys ++ l.drop (j + ys.length))) :=
    Own.ofRow hk (fun x hx => by
      rcases List.mem_append.1 hx with h | h
      · exact hO.2 x (List.mem_of_mem_take h)
      · rcases List.mem_append.1 h with h | h
        · exact hy x h
        · exact hO.2 x (List.mem_of_mem_drop h)) hll.symm (setRow_heap w b _ _ e _ h1) h2 h3 (by rw [hlen]; exact h4) htk
  refine ⟨At.one hO2 (fun q hq => by have h : some b = some q := hq; cases h; rw [hs]; exact hlt), fun q ⟨B, hB, hq⟩ => by rcases List.mem_singleton.1 hB with rfl; exact .inl ⟨_, List.mem_singleton.2 rfl, hq⟩, ⟨rfl, rfl, rfl, by rw [hs]; exact Nat.le_refl _, fun q _ hn => setRow_other w b q _ (fun e => hn ⟨_, List.mem_singleton.2 rfl, by subst e; rfl⟩)⟩⟩
theorem zeros_flat {z : Array Value} {y : α} (hk : ∀ x, (enc x).length = k) (hz : z.toList = enc y) (hp : 0 < k) (n : Nat) : (Builtin.zeroCells z n).toList = flat enc (List.replicate n y) := by
  have hs : z.size = k := by rw [← hk y, ← hz]; simp
  apply List.ext_getElem
  · rw [flat_length hk, List.length_replicate]; simp [Builtin.zeroCells, hs]
  · intro i h1 h2
    have h3 : i < n * k := by simpa [Builtin.zeroCells, hs] using h1
    have hq : i / k < n := Nat.div_lt_of_lt_mul (by rw [Nat.mul_comm]; exact h3)
    have hr : i % k < k := Nat.mod_lt _ hp
    have he : (List.replicate n y)[i / k]? = some y := by simp [hq]
    have h4 := flat_at hk (List.replicate n y) (i / k) y he (i % k) hr
    have h5 : i / k * k + i % k = i := by rw [Nat.mul_comm]; exact Nat.div_add_mod i k
    rw [h5, List.getElem?_eq_getElem h2, ← hz] at h4
    have h6 : (Builtin.zeroCells z n).toList[i] = z[i % k]! := by simp [Builtin.zeroCells, hs]
    rw [h6]
    have h7 : z.toList[i % k]? = some z[i % k]! := by
      rw [Array.getElem?_toList, Array.getElem?_eq_getElem (by omega)]
      simp [getElem!_pos, hs, hr]
    rw [h7] at h4
    exact Option.some.inj h4.symm
theorem At.ownAt {w : World} {L : List Atom} {a : Option Addr} {n c : Nat} {l : List α} (A : At w L) (hk : ∀ x, (enc x).length = k) (i : Nat) (hL : nth L i = some (ow e k enc ok (.slice a n c) l)) (j : Nat) (hj : j < n) :
    ∃ b x, a = some ⟨b, 0, none⟩ ∧ nth l j = some x ∧ ok x ∧ ∀ q v, (enc x)[q]? = some v → w.cell? ((⟨b, 0 + j * k, none⟩ : Addr).add q) = some v := own_at hk (A.ok _ (nth_mem hL)) j hj
theorem own_lit {w : World} {b : Nat} {x : α} (_hk : ∀ x, (enc x).length = k) (h : Own e k enc ok w (.slice (some ⟨b, 0, none⟩) 1 1) [x]) : w.heap[b]? = some (.cells (enc x).toArray e (0, 0)) ∧ ok x := by
  obtain ⟨_, cur, h1, _, _, h4, h5⟩ := h.row
  refine ⟨?_, h.2 x (List.mem_singleton.2 rfl)⟩
  have : cur = enc x := by
    rw [List.take_of_length_le (by omega)] at h5
    rw [h5]; simp [flat]
  rw [h1, this]
/-- An owned slice that is not empty has a block. -/
theorem own_blk {w : World} {L : List Atom} {a : Option Addr} {n c : Nat} {l : List α} (A : At w L) (i : Nat) (hL : nth L i = some (ow e k enc ok (.slice a n c) l)) (hn : 0 < n) : ∃ b, a = some ⟨b, 0, none⟩ ∧ n ≤ c := by
  have hO : Own e k enc ok w (.slice a n c) l := A.ok _ (nth_mem hL)
  obtain ⟨⟨g1, g2⟩, _⟩ := hO
  rcases g2 with ⟨h, h0⟩ | ⟨g, cap, cur, h, _, _, hc, _⟩
  · cases h; omega
  · cases h; exact ⟨_, rfl, hc⟩
end
section
variable {P : Program} {ops : Array Oper} {Q : Exit → Act → World → Prop} {K : Act → World → Prop} {o : Oper} {a : Act} {w : World} {L : List Atom} {d n : Nat} {m : List (Nat × Value)}
variable {α : Type} {e k bytes : Nat} {z : Value} {enc : α → List Value} {ok : α → Prop} {t : TypeId}
/-- x[lo:] of an owned slice. -/
theorem r_sliceO {x : Operand} {b q c lo : Nat} {ad : Option Addr} {l h : Option Operand} (E : ElemT P t e z k bytes enc) (ho : o.op = .slice t x l h none) (hx : a.eval x = .slice ad q c) (ha : ad = some ⟨b, 0, none⟩) (hlo : idxIs a.eval 0 l lo) (hhi : idxIs a.eval q h q) (h1 : lo < q) (h2 : q ≤ c) :
    (execOp a.eval o).run P w = .ok (.value (.slice (some ⟨b, 0 + lo * k, none⟩) (q - lo) (c - lo))) w := by
  subst ha
  have := r_slice (w := w) (l := lo) (h := q) E ho hx hlo hhi (by omega) h2
  rw [if_neg (by omega)] at this
  exact this
/-- x[:j] of an owned slice. -/
theorem f_cutO {x : Operand} {b : Option Addr} {q c : Nat} {l : List α} {lo hi : Option Operand} (F : Fr n m a) (A : At w L) (i j : Nat) (E : ElemT P t e z k bytes enc) (hL : nth L i = some (ow e k enc ok (.slice b q c) l)) (hsel : okSel L.length [i] = true)
    (hw : Region.wanted o (yielded ops a.tmps) = true) (hd : o.dst = some d) (ho : o.op = .slice t x lo hi none) (hp : Nat.blt d n = true) (hx : a.eval x = .slice b q c) (hlo : idxIs a.eval 0 lo 0) (hhi : idxIs a.eval q hi j) (h2 : j ≤ q)
    (kk : ∀ ac', Fr n ((d, .slice b j c) :: m) ac' → Mv L w ([ow e k enc ok (.slice b j c) (l.take j)] ++ del L [i]) w → K ac' w) : st1 P ops Q o K a w := by
  have hO : Own e k enc ok w (.slice b q c) l := A.ok _ (nth_mem hL)
  have hrun : (execOp a.eval o).run P w = .ok (.value (.slice b j c)) w ∧ Own e k enc ok w (.slice b j c) (l.take j) := by
    have hR := hO.rd E.hk
    cases b with
    | none =>
      obtain ⟨a', cap, e1, _, _, _, h4⟩ := hR.inv
      cases e1
      obtain ⟨hl, hc⟩ := h4 rfl
      subst hl hc
      simp only [List.length_nil] at h2
      obtain rfl : j = 0 := by omega
      obtain ⟨inf, q1, _⟩ := info_parts E.hT.info
      exact ⟨r_sliceNil E.ht ⟨inf, q1⟩ ho hx (by cases lo with | none => trivial | some p => exact hlo) (by cases hi with | none => trivial | some p => exact hhi), by simpa using hO⟩
    | some ad =>
      obtain ⟨g, rfl⟩ : ∃ g, ad = ⟨g, 0, none⟩ := by
        obtain ⟨⟨_, h⟩, _⟩ := hO
        rcases h with ⟨h, _⟩ | ⟨g, _, _, h, _⟩
        · cases h
        · cases h; exact ⟨_, rfl⟩
      obtain ⟨rfl, cur, h1, h3, h4, h5, h6⟩ := hO.row
      have hr := r_slice (w := w) (l := 0) (h := j) E ho hx hlo hhi (Nat.zero_le _) (by omega)
      refine ⟨?_, Own.ofRow E.hk (fun x hx => hO.2 x (List.mem_of_mem_take hx)) (by rw [List.length_take]; omega) h1 (by omega) h4 h5 ?_⟩
      · rw [hr]; congr 3
        split <;> simp
      · rw [flat_take E.hk h2, ← h6, List.take_take, Nat.min_eq_left (Nat.mul_le_mul_right _ h2)]
  refine s_val hw hd hrun.1 fun _ e' => kk _ (F.put e' hp) (A.frame [i] hsel ?_)
  have e1 : sel L [i] = [ow e k enc ok (.slice b q c) l] := by simp [sel, hL]
  rw [e1]
  refine mv_of_own hrun.2 (KeepBut.refl _ _) (fun g hg => .inl ?_)
  cases b with
  | none => simp [Value.ownBlock] at hg
  | some _ => exact hg
/-- clear(s[lo:]), s owned. -/
theorem s_clear {x : Operand} {b q c c' lo : Nat} {ad : Option Addr} {l : List α} (y : α) (A : At w L) (i : Nat) (E : ElemT P t e z k bytes enc) (hL : nth L i = some (ow e k enc ok (.slice ad q c) l)) (ha : ad = some ⟨b, 0, none⟩) (hsel : okSel L.length [i] = true)
    (hw : Region.wanted o (yielded ops a.tmps) = true) (hd : o.dst = none) (ho : o.op = .call { callee := .builtin .clear, args := #[x], argTypes := #[t] }) (hx : a.eval x = .slice (some ⟨b, 0 + lo * k, none⟩) (q - lo) c') (hlo : lo < q) (hz : z.cells.toList = enc y) (hy : ok y)
    (kk : ∀ w', Mv L w ([ow e k enc ok (.slice ad q c) (l.take lo ++ List.replicate (q - lo) y)] ++ del L [i]) w' → K a w') : st1 P ops Q o K a w := by
  have hq : q = l.length := by
    have hO : Own e k enc ok w (.slice ad q c) l := A.ok _ (nth_mem hL)
    subst ha
    exact hO.row.1
  obtain ⟨cur, g1, g2, g3⟩ := mv_setEls A E.hk i hL ha hsel lo (List.replicate (q - lo) y) (by rw [List.length_replicate]; omega) (fun u hu => by rw [List.eq_of_mem_replicate hu]; exact hy)
  have e2 : l.drop (lo + (List.replicate (q - lo) y).length) = [] := List.drop_eq_nil_of_le (by rw [List.length_replicate]; omega)
  rw [e2, List.append_nil] at g3
  have hk' := kk _ g3
  have hzf := zeros_flat E.hk hz E.hT.pos (q - lo)
  have hst := run_storeCells_at P b (lo * k) e (flat enc (List.replicate (q - lo) y)) 0 cur.toArray w g1 (by simpa using g2) (flat_one E _)
  obtain ⟨p, hp⟩ : ∃ p, q - lo = p + 1 := ⟨q - lo - 1, by omega⟩
  obtain ⟨inf, q1, q2, q3, q4⟩ := info_parts E.hT.info
  have hzv : (zeroValue e).run P w = .ok z w := by simp [zeroValue, typeInfo, q1, q2]
  simp only [Nat.add_zero] at hst
  rw [hp] at hx hst hzf hk'
  have hb : ∀ ty, (Builtin.clear_ #[t] ty #[.slice (some ⟨b, 0 + lo * k, none⟩) (p + 1) c']).run P w = .ok (.tuple #[]) (w.setRow b (spliceV cur (lo * k) (flat enc (List.replicate (p + 1) y))).toArray) := fun ty => by
    simp [Builtin.clear_, run_underlying E.ht, hzv, hzf, hst, spliceV]
  unfold st1
  rw [if_pos hw]
  refine .inl ?_
  unfold Oper.wp
  have he : (execOp a.eval o).run P w = .ok (.value (.tuple #[])) (w.setRow b (spliceV cur (lo * k) (flat enc (List.replicate (p + 1) y))).toArray) := by
    have h0 : ∀ ats ty cs args, builtin .clear ats ty cs args = (do pure (.value (← Builtin.clear_ ats ty args))) := fun _ _ _ _ => rfl
    rw [Nat.zero_add] at hx hb
    simp [execOp, ho, resolve, invoke, hx, h0, hb]
  rw [he, Oper.upon_value, hd]
  exact hk'
end
end Go.Proofs.YtibgmijfnbnfkaaGreatDoor
