/-
  Slices of bytes whose block may be marked behind its cells ([]byte(s) marks it): laid, appended to, stored into, read.
-/
import Derived.Test.YtibgmijfnbnfkaaDoorEng9
import Derived.ArgAppend
import Derived.Lib.ConvBytes
namespace Go.Proofs.YtibgmijfnbnfkaaDoor
open Go.ChangeShapes Go.WideShapes Go.ChangeAt Go.RowKit
def OwnX (e : Nat) (w : World) (v : Value) (l : List Nat) : Prop :=
  ∃ (g cap : Nat) (cur : List Value) (mk : Nat × Nat), v = .slice (some ⟨g, 0, none⟩) l.length cap ∧ w.heap[g]? = some (.cells cur.toArray e mk) ∧ l.length ≤ cap ∧ cap ≤ maxLen ∧ cur.length = cap ∧ cur.take l.length = flat encB l ∧ (∀ x ∈ l, okB x) ∧ (cap ≤ mk.1 ∨ mk.2 = 0)
theorem OwnX.same {e : Nat} {w w' : World} {v : Value} {l : List Nat} (h : OwnX e w v l) (hb : ∀ b, v.ownBlock = some b → w'.heap[b]? = w.heap[b]?) : OwnX e w' v l := by
  obtain ⟨g, cap, cur, mk, rfl, h1, h2⟩ := h
  exact ⟨g, cap, cur, mk, rfl, (hb g rfl).trans h1, h2⟩
theorem OwnX.lt {e : Nat} {w : World} {v : Value} {l : List Nat} (h : OwnX e w v l) {b : Nat} (hb : v.ownBlock = some b) : b < w.heap.size := by
  obtain ⟨g, cap, cur, mk, rfl, h1, h2⟩ := h
  have : g = b := Option.some.inj hb
  subst this
  exact (Array.getElem?_eq_some_iff.1 h1).1
theorem OwnX.cellAt {e : Nat} {w : World} {g n cap : Nat} {l : List Nat} (h : OwnX e w (.slice (some ⟨g, 0, none⟩) n cap) l) (i : Nat) (x : Nat) (hx : l[i]? = some x) : w.cell? ⟨g, i, none⟩ = some (.int .u8 ((x : Nat) : Int)) := by
  obtain ⟨g', cap', cur, mk, e1, h1, h2, h3, h4, h5, h6, h7⟩ := h
  cases e1
  have hi : i < l.length := (List.getElem?_eq_some_iff.1 hx).1
  have hf := flat_at (enc := encB) (k := 1) (fun _ => rfl) l i x hx 0 (by omega)
  have hc : cur[i]? = some (.int .u8 ((x : Nat) : Int)) := by
    have h8 : (cur.take l.length)[i]? = cur[i]? := by rw [List.getElem?_take, if_pos hi]
    rw [← h8, h5]
    simpa [encB] using hf
  simp [World.cell?, h1, hc]
theorem OwnX.rd {e : Nat} {w : World} {v : Value} {l : List Nat} (h : OwnX e w v l) : RSl 1 (Enc encB okB) w v l := by
  have h0 := h
  obtain ⟨g, cap, cur, mk, rfl, h1, h2, h3, h4, h5, h6, h7⟩ := h
  refine RSl.mk g 0 cap rfl h2 h3 fun i x hx => ⟨encB x, rfl, ⟨rfl, h6 x (List.mem_of_getElem? hx)⟩, fun j u hj => ?_⟩
  cases j with
  | zero =>
    cases hj
    have := h0.cellAt i x hx
    simpa using this
  | succ j => cases hj
/-- A slice of bytes of the walk's own, in a block that may be marked behind its cells. -/
def owX (e : Nat) (v : Value) (l : List Nat) : Atom where
  fp := fun c => v.ownBlock = some c
  ok := fun w => OwnX e w v l
  st := fun _ _ h k => k.same h
theorem At.rdX {e : Nat} {w : World} {L : List Atom} (h : At w L) (i : Nat) {v : Value} {l : List Nat} (hL : nth L i = some (owX e v l)) : Rd 1 encB okB (fun _ => True) w v l :=
  ⟨OwnX.rd (h.ok _ (nth_mem hL)), fun _ _ _ _ _ => trivial⟩
theorem At.ownInvX {e : Nat} {w : World} {L : List Atom} {a : Option Addr} {n c : Nat} {l : List Nat} (h : At w L) (i : Nat) (hL : nth L i = some (owX e (.slice a n c) l)) : n = l.length ∧ n ≤ c ∧ c ≤ 9223372036854775807 := by
  obtain ⟨h1, h2, h3, _⟩ := (h.rdX i hL).inv
  exact ⟨h1, h2, h3⟩
theorem At.ownAtX {e : Nat} {w : World} {L : List Atom} {a : Option Addr} {n c : Nat} {l : List Nat} (A : At w L) (i : Nat) (hL : nth L i = some (owX e (.slice a n c) l)) (j : Nat) (hj : j < n) :
    ∃ b x, a = some ⟨b, 0, none⟩ ∧ nth l j = some x ∧ okB x ∧ ∀ q v, (encB x)[q]? = some v → w.cell? ((⟨b, 0 + j * 1, none⟩ : Addr).add q) = some v := by
  have hO : OwnX e w (.slice a n c) l := A.ok _ (nth_mem hL)
  have h0 := hO
  obtain ⟨g, cap, cur, mk, e1, h1, h2, h3, h4, h5, h6, h7⟩ := hO
  cases e1
  have hx : l[j]? = some l[j] := by simp [hj]
  refine ⟨g, l[j], rfl, by rw [nth_eq]; exact hx, h6 _ (List.getElem_mem _), fun q v hq => ?_⟩
  cases q with
  | zero =>
    cases hq
    rw [add_flat]
    simpa using h0.cellAt j _ hx
  | succ q => cases hq
theorem spliceX {v : Value} {r cur : List Value} {o : Nat} (h : o + (r.length + 1) ≤ cur.length) : spliceV (cur.set o v) (o + 1) r = spliceV cur o (v :: r) := by
  unfold spliceV
  have h1 : o < cur.length := by omega
  rw [List.set_eq_take_append_cons_drop, if_pos h1]
  have e1 : (cur.take o).length = o := by rw [List.length_take]; omega
  have e2 : (cur.take o ++ v :: cur.drop (o + 1)).take (o + 1) = cur.take o ++ [v] := by
    rw [List.take_append, e1, List.take_of_length_le (by omega), show o + 1 - o = 1 by omega]
    rfl
  have e3 : (cur.take o ++ v :: cur.drop (o + 1)).drop (o + 1 + r.length) = cur.drop (o + (r.length + 1)) := by
    rw [List.drop_append, e1, List.drop_eq_nil_of_le (by omega), show o + 1 + r.length - o = r.length + 1 by omega, List.drop_succ_cons, List.drop_drop, List.nil_append]
    congr 1
    omega
  rw [e2, e3]
  simp
theorem heap_setCells {b e : Nat} {mk : Nat × Nat} : ∀ (vs : List Value) (o : Nat) (w : World) (cur : List Value), w.heap[b]? = some (.cells cur.toArray e mk) → o + vs.length ≤ cur.length → (w.setCells b o vs).heap[b]? = some (.cells (spliceV cur o vs).toArray e mk)
  | [], o, w, cur, h, _ => by simpa [World.setCells, spliceV] using h
  | v :: r, o, w, cur, h, hl => by
    have hl' : o + (r.length + 1) ≤ cur.length := by simpa using hl
    rw [World.setCells, ← spliceX hl']
    refine heap_setCells r (o + 1) _ (cur.set o v) ?_ (by rw [List.length_set]; omega)
    show (w.heap.modify b _)[b]? = _
    rw [Array.getElem?_modify, if_pos rfl, h]
    simp
theorem setX_all (b : Nat) : ∀ (vs : List Value) (o : Nat) (w : World), (w.setCells b o vs).os = w.os ∧ (w.setCells b o vs).tape = w.tape ∧ (w.setCells b o vs).output = w.output ∧ (w.setCells b o vs).heap.size = w.heap.size ∧ ∀ q, q ≠ b → (w.setCells b o vs).heap[q]? = w.heap[q]?
  | [], o, w => ⟨rfl, rfl, rfl, rfl, fun _ _ => rfl⟩
  | v :: r, o, w => by
    obtain ⟨h1, h2, h3, h4, h5⟩ := setX_all b r (o + 1) (w.setCell ⟨b, o, none⟩ v)
    rw [World.setCells]
    refine ⟨h1.trans rfl, h2.trans rfl, h3.trans rfl, h4.trans (by simp [World.setCell]), fun q hq => (h5 q hq).trans ?_⟩
    simp [World.setCell, Array.getElem?_modify, Ne.symm hq]
section
variable {P : Program} {ops : Array Oper} {Q : Exit → Act → World → Prop} {K : Act → World → Prop} {o : Oper} {a : Act} {w : World} {L : List Atom} {d n : Nat} {m : List (Nat × Value)}
theorem mv_freshX {e : Nat} {w w' : World} {v : Value} {l : List Nat} (hO : OwnX e w' v l) (hf : ∀ b ∈ v.ownBlock.toList, w.heap.size ≤ b) (hb : Bl w w') : Mv [] w [owX e v l] w' :=
  Bl.mv_new (At.one hO (fun b hb => hO.lt hb)) (fun b ⟨B, hB, hb⟩ => by rcases List.mem_singleton.1 hB with rfl; have h : v.ownBlock = some b := hb; exact hf b (by simp [h])) hb
/-- Cells of the block are stored. -/
theorem mv_setX {e g cap off : Nat} {vs : List Value} {l l' : List Nat} (A : At w L) (i : Nat) (hL : nth L i = some (owX e (.slice (some ⟨g, 0, none⟩) l.length cap) l)) (hsel : okSel L.length [i] = true)
    (hk : off + vs.length ≤ cap) (hl : l'.length ≤ cap) (hc : ∀ cur : List Value, cur.length = cap → cur.take l.length = flat encB l → (spliceV cur off vs).take l'.length = flat encB l') (hok : ∀ x ∈ l', okB x) :
    (∀ j, j < vs.length → (w.cell? ⟨g, off + j, none⟩).isSome = true) ∧ (∀ j, j < vs.length → w.frozen? ⟨g, off + j, none⟩ = false) ∧ Mv L w ([owX e (.slice (some ⟨g, 0, none⟩) l'.length cap) l'] ++ del L [i]) (w.setCells g off vs) := by
  have hO : OwnX e w (.slice (some ⟨g, 0, none⟩) l.length cap) l := A.ok _ (nth_mem hL)
  have hlt := hO.lt (b := g) rfl
  obtain ⟨g', cap', cur, mk, e1, h1, h2, h3, h4, h5, h6, h7⟩ := hO
  cases e1
  obtain ⟨s1, s2, s3, s4, s5⟩ := setX_all g vs off w
  refine ⟨fun j hj => ?_, fun j hj => ?_, A.frame [i] hsel ?_⟩
  · have : off + j < cur.length := by omega
    simp [World.cell?, h1, this]
  · have h8 : ¬ (mk.1 ≤ off + j ∧ off + j < mk.2) := by omega
    simp only [World.frozen?, h1]
    by_cases h9 : mk.1 ≤ off + j
    · have : ¬ off + j < mk.2 := fun h => h8 ⟨h9, h⟩
      simp [this]
    · simp [h9]
  · have e2 : sel L [i] = [owX e (.slice (some ⟨g, 0, none⟩) l.length cap) l] := by simp [sel, hL]
    rw [e2]
    have hO2 : OwnX e (w.setCells g off vs) (.slice (some ⟨g, 0, none⟩) l'.length cap) l' :=
      ⟨g, cap, spliceV cur off vs, mk, rfl, heap_setCells vs off w cur h1 (by omega), hl, h3, by unfold spliceV; simp; omega, hc cur h4 h5, hok, h7⟩
    exact ⟨At.one hO2 (fun q hq => by have h : some g = some q := hq; cases h; rw [s4]; exact hlt), fun q ⟨B, hB, hq⟩ => by rcases List.mem_singleton.1 hB with rfl; exact .inl ⟨_, List.mem_singleton.2 rfl, hq⟩, ⟨s1, s2, s3, by rw [s4]; exact Nat.le_refl _, fun q _ hn => s5 q (fun e => hn ⟨_, List.mem_singleton.2 rfl, by subst e; rfl⟩)⟩⟩
theorem takeX_app {cur vs : List Value} {l news : List Nat} (h : cur.take l.length = flat encB l) (hv : vs = flat encB news) : (spliceV cur l.length vs).take (l ++ news).length = flat encB (l ++ news) := by
  subst hv
  have e1 := flat_length (enc := encB) (k := 1) (fun _ => rfl) news
  have e2 := flat_length (enc := encB) (k := 1) (fun _ => rfl) l
  unfold spliceV
  rw [h, flat_append]
  exact List.take_left' (by rw [List.length_append, List.length_append, e1, e2]; omega)
theorem takeX_set {cur : List Value} {l : List Nat} {j y : Nat} (h : cur.take l.length = flat encB l) (hj : j < l.length) : (spliceV cur j (encB y)).take (l.set j y).length = flat encB (l.set j y) := by
  have hk : ∀ x, (encB x).length = 1 := fun _ => rfl
  rw [List.length_set]
  have e0 := flat_set (enc := encB) (k := 1) (x := y) hk hj
  rw [Nat.mul_one] at e0
  rw [e0, ← h]
  have e4 : cur = cur.take l.length ++ cur.drop l.length := (List.take_append_drop _ _).symm
  have hlen : (cur.take l.length).length = l.length := by
    have := congrArg List.length h
    rw [flat_length hk l] at this
    omega
  have e5 : j + (encB y).length ≤ (cur.take l.length).length := by rw [hlen, hk y]; omega
  have e6 : spliceV cur j (encB y) = spliceV (cur.take l.length) j (encB y) ++ cur.drop l.length := by
    have := splice_app (B := cur.drop l.length) e5
    rw [← e4] at this; exact this
  rw [e6]
  exact List.take_left' (by rw [length_splice e5, hlen])
/-- append onto it. -/
theorem r_appX {ty : TypeId} {t e bytes : Nat} {z : Value} {s x : Operand} {v xv : Value} {l news : List Nat} {ρ : Operand → Value} (E : ElemT P t e z 1 bytes encB) (A : At w L) (i : Nat) (hL : nth L i = some (owX e v l)) (ho : o.op = .call { callee := .builtin .append, args := #[s, x], argTypes := #[t, t] }) (hty : o.type = ty)
    (hs : ρ s = v) (hx : ρ x = xv) (hnews : RSl 1 (Enc encB okB) w xv news) (hne : news ≠ []) (hbytes : (l.length + news.length) * bytes ≤ 140737488355328) (hok : okSel L.length [i] = true) :
    ∃ a n c w', (execOp ρ o).run P w = .ok (.value (.slice a n c)) w' ∧ n = (l ++ news).length ∧ Mv L w ([owX e (.slice a n c) (l ++ news)] ++ del L [i]) w' := by
  have hO : OwnX e w v l := A.ok _ (nth_mem hL)
  have hO1 := hO
  have hnok := hnews.allOk
  obtain ⟨g, cap, cur, mk, rfl, h1, h2, h3, h4, h5, h6, h7⟩ := hO
  rcases hnews.cells E.hk E.hT.pos with ⟨c0, rfl, rfl⟩ | ⟨b, c0, rfl, hc⟩
  · exact absurd rfl hne
  obtain ⟨inf, hi, hz0, hz1, hz2⟩ := info_parts E.hT.info
  have hok' : ∀ x ∈ l ++ news, okB x := fun x hx' => (List.mem_append.1 hx').elim (h6 x) (hnok x)
  have hlv : (flat encB news).length = news.length * 1 := flat_length (enc := encB) (k := 1) (fun _ => rfl) news
  have hno : l.length + news.length ≤ maxLen := by
    have : (l.length + news.length) * 1 ≤ (l.length + news.length) * bytes := Nat.mul_le_mul_left _ E.by0
    unfold maxLen; omega
  by_cases hr : l.length + news.length ≤ cap
  · obtain ⟨m1, m2, m3⟩ := mv_setX (off := l.length) (vs := flat encB news) (l' := l ++ news) A i hL hok (by omega) (by rw [List.length_append]; exact hr) (fun cur' q1 q2 => takeX_app q2 rfl) hok'
    have hrun := run_append_room_cells (P := P) w t ty e inf E.ht hi g 0 l.length cap b news.length c0 (flat encB news) (by rw [hlv, hz1]) hc (flat_one E news) hr (by rw [hz1]; intro j hj; simpa using m1 j hj) (by rw [hz1]; intro j hj; simpa using m2 j hj)
    rw [hz1] at hrun
    refine ⟨_, _, _, _, ?_, ?_, m3⟩
    · subst hty
      simp [execOp, ho, resolve, invoke, builtin, hs, hx, hrun]
    · rfl
  · obtain ⟨v', w', hrun, hown, hgr⟩ := run_append_arg_grows (P := P) w t ty e inf z 1 bytes E.ht hi hz0 hz1 hz2 E.hT.zs E.hT.pos ⟨g, 0, none⟩ l.length cap (flat encB l) (flat_length (enc := encB) (k := 1) (fun _ => rfl) l)
      (fun j u hj => by
        have hj' : j < l.length := by
          have := (List.getElem?_eq_some_iff.1 hj).1
          rw [flat_length (enc := encB) (k := 1) (fun _ => rfl) l] at this
          omega
        have hx' : l[j]? = some l[j] := by simp [hj']
        have hf := flat_at (enc := encB) (k := 1) (fun _ => rfl) l j _ hx' 0 (by omega)
        simp only [Nat.mul_one, Nat.add_zero] at hf
        rw [hj] at hf
        have : u = .int .u8 ((l[j] : Nat) : Int) := Option.some.inj hf
        rw [this, add_flat, Nat.zero_add]
        exact hO1.cellAt j _ hx') b news.length c0 (flat encB news) hlv hc (by omega) hno hbytes
    rcases hown.2 with ⟨_, h0⟩ | ⟨g', cap', cur', rfl, hb0, hg', hc', hm', hs', ht'⟩
    · have : news.length ≠ 0 := fun h => hne (List.eq_nil_of_length_eq_zero h)
      omega
    have hO2 : OwnX e w' (.slice (some ⟨g', 0, none⟩) (l.length + news.length) cap') (l ++ news) :=
      ⟨g', cap', cur'.toList, (0, 0), by rw [List.length_append], by simpa using hg', by rw [List.length_append]; exact hc', hm', by simpa using hs', by rw [List.length_append, flat_append]; simpa using ht', hok', .inr rfl⟩
    refine ⟨some ⟨g', 0, none⟩, l.length + news.length, cap', w', ?_, (List.length_append ..).symm, ?_⟩
    · subst hty
      simp [execOp, ho, resolve, invoke, builtin, hs, hx, hrun]
    · have hM := mv_freshX (w := w) hO2 (fun q hq => by
        have : q = g' := by simpa [Value.ownBlock, eq_comm] using hq
        rw [this]
        exact hb0) ((Bl.refl w).grown hgr (Nat.le_refl _) (fun _ h => by cases h))
      have h9 := At.frame (New := [owX e (.slice (some ⟨g', 0, none⟩) (l.length + news.length) cap') (l ++ news)]) (A.drop i).at' [] rfl hM
      rw [del_none] at h9
      exact (A.drop i).trans h9
theorem f_appX {t e bytes : Nat} {z : Value} {s x : Operand} {v xv : Value} {l news : List Nat} (F : Fr n m a) (A : At w L) (i : Nat) (E : ElemT P t e z 1 bytes encB) (hL : nth L i = some (owX e v l)) (hsel : okSel L.length [i] = true) (hw : Region.wanted o (yielded ops a.tmps) = true) (hd : o.dst = some d)
    (ho : o.op = .call { callee := .builtin .append, args := #[s, x], argTypes := #[t, t] }) (hp : Nat.blt d n = true) (hs : a.eval s = v) (hx : a.eval x = xv) (hnews : RSl 1 (Enc encB okB) w xv news) (hne : news ≠ []) (hbytes : (l.length + news.length) * bytes ≤ 140737488355328)
    (kk : ∀ b q c a' w', Fr n ((d, .slice b q c) :: m) a' → Mv L w ([owX e (.slice b q c) (l ++ news)] ++ del L [i]) w' → q = (l ++ news).length → K a' w') : st1 P ops Q o K a w := by
  obtain ⟨b, q, c, w', h1, h2, h3⟩ := r_appX (o := o) (ρ := a.eval) E A i hL ho rfl hs hx hnews hne hbytes hsel
  exact s_valw hw hd h1 fun _ e' => kk _ _ _ _ _ (F.put e' hp) h3 h2
theorem s_storeElX {t : TypeId} {e : Nat} {x z : Operand} {g : Bool} {ad : Option Addr} {b q c : Nat} {l : List Nat} {v : Value} (A : At w L) (i : Nat) (j : Nat) (y : Nat) (TT : TI P t g 1) (hL : nth L i = some (owX e (.slice ad q c) l)) (ha : ad = some ⟨b, 0, none⟩) (hok : okSel L.length [i] = true)
    (hw : Region.wanted o (yielded ops a.tmps) = true) (hd : o.dst = none) (ho : o.op = .store t x z) (hx : a.eval x = .pointer (some ⟨b, 0 + j * 1, none⟩)) (hz : a.eval z = v) (hv : v.cells.toList = encB y) (hj : j < q) (hy : okB y)
    (kk : ∀ w', Mv L w ([owX e (.slice ad q c) (l.set j y)] ++ del L [i]) w' → K a w') : st1 P ops Q o K a w := by
  subst ha
  obtain ⟨g', cap', cur, mk, e1, h1, h2, h3, h4, h5, h6, h7⟩ : OwnX e w (.slice (some ⟨b, 0, none⟩) q c) l := A.ok _ (nth_mem hL)
  cases e1
  obtain ⟨m1, m2, m3⟩ := mv_setX (off := j) (vs := encB y) (l' := l.set j y) A i hL hok (by show j + 1 ≤ _; omega) (by rw [List.length_set]; exact h2) (fun cur' q1 q2 => takeX_set q2 hj) (fun x hx => by rcases List.mem_or_eq_of_mem_set hx with h | h; exact h6 x h; exact h ▸ hy)
  rw [List.length_set] at m3
  refine s_unit hw hd ?_ (kk _ m3)
  have hst := run_storeCells_cells (P := P) b j (encB y) 0 w (by simpa using m1) (by simpa using m2) (by intro u hu; rcases List.mem_singleton.1 hu with rfl; rfl)
  simp only [Nat.add_zero] at hst
  have hsz : v.cells.size = 1 := by rw [← Array.length_toList, hv]; rfl
  simp only [execOp, ho, hx, hz, Nat.zero_add, Nat.mul_one, Instr.storeAt, Instr.sureAddr, storeVar, hv, Sem.run_bind, Sem.run_pure, Result.andThen_ok, run_sizeOf' TT, hsz, ne_eq, not_true_eq_false, ↓reduceIte, hst]
theorem bytesX {w : World} {e : Nat} (s : ByteArray) (hsz : s.size ≤ 9223372036854775807) (bs : List Nat) (hl : bs.length = s.size) (hb : ∀ x ∈ bs, x < 256) (hx : ∀ i x, bs[i]? = some x → (s.data.toList.getD i 0).toNat = x) : OwnX e (Lib.bytesWorld w e s) (.slice (some ⟨w.heap.size, 0, none⟩) s.size (grownCap w s.size 0 e)) bs := by
  have hge := grownCap_ge w s.size 0 e
  have hsz2 : (Lib.bytesCells w e s).size = grownCap w s.size 0 e := by
    simp [Lib.bytesCells]
    have : s.data.size = s.size := rfl
    omega
  refine ⟨w.heap.size, grownCap w s.size 0 e, (Lib.bytesCells w e s).toList, ((Lib.bytesCells w e s).size, (Lib.bytesCells w e s).size + 1), by rw [hl], by simpa using Lib.bytesWorld_at_new w e s, by rw [hl]; exact hge, grownCap_le_maxLen w _ 0 e (by unfold maxLen; omega), by simpa using hsz2, ?_, hb, .inl (by rw [hsz2]; exact Nat.le_refl _)⟩
  have h1 : (Lib.bytesCells w e s).toList = s.data.toList.map (fun b => Value.int .u8 b.toNat) ++ List.replicate (grownCap w s.size 0 e - s.size) (.int .u8 0) := by
    simp [Lib.bytesCells]
  rw [h1, List.take_left' (by rw [List.length_map, hl]; rfl)]
  have h2 : ∀ bs : List Nat, flat encB bs = bs.map (fun x => Value.int .u8 ((x : Nat) : Int)) := by
    intro bs
    unfold flat encB
    induction bs with
    | nil => rfl
    | cons x l ih => simpa using ih
  rw [h2]
  apply List.ext_getElem?
  intro i
  rw [List.getElem?_map, List.getElem?_map]
  by_cases hi : i < bs.length
  · have e1 := hx i bs[i] (by simp [hi])
    have hi2 : i < s.data.toList.length := by
      have : s.data.toList.length = s.size := rfl
      omega
    rw [List.getD_eq_getElem?_getD, List.getElem?_eq_getElem hi2] at e1
    rw [List.getElem?_eq_getElem hi, List.getElem?_eq_getElem hi2]
    simp only [Option.map_some, ← e1, Option.getD_some]
  · have hi2 : ¬ i < s.data.toList.length := by
      have : s.data.toList.length = s.size := rfl
      omega
    rw [List.getElem?_eq_none (by omega), List.getElem?_eq_none (by omega)]
    rfl
end
end Go.Proofs.YtibgmijfnbnfkaaDoor
