/-
  A region that draws its order: what only reads is taken first, under a condition that every other operation leaves alone; the rest is parted on.
-/
import Derived.Test.YtibgmijfnbnfkaaGreatDoorEng4
namespace Go.Proofs.YtibgmijfnbnfkaaGreatDoor
open Go.ChangeShapes Go.WideShapes Go.ChangeAt Go.RowKit

/-- The blocks LB hold what they held; of all that stood at the start, nothing but the pieces LS has turned. -/
structure Sd (LB LS : List Atom) (wS w : World) : Prop where
  ok : ∀ A ∈ LB, A.ok w
  kp : Kp (fps LS) wS w
theorem Sd.of {LB LS L : List Atom} {wS w : World} (m : Mv LS wS L w) (is : List Nat) (h : sel L is = LB) : Sd LB LS wS w := ⟨fun A hA => m.at'.ok A (sel_mem (h ▸ hA)), m.kp⟩
theorem Sd.bx {LB LS : List Atom} {wS w : World} (h : Sd LB LS wS w) (i : Nat) {A : Atom} (hi : nth LB i = some A) : A.ok w := h.ok A (nth_mem hi)
theorem mv_drew {L : List Atom} {w : World} (A : At w L) : Mv L w L w.drew :=
  ⟨⟨fun B hB => B.st w w.drew (fun _ _ => rfl) (A.ok B hB), A.lt, A.apart⟩, fun _ h => .inl h, ⟨rfl, rfl, rfl, Nat.le_refl _, fun _ _ _ => rfl⟩⟩

section
variable {P : Program} {ops : Array Oper} {Q : Exit → Act → World → Prop} {S : World → Prop} {fuel : Nat} {listed listed' : Array Bool} {a : Act} {w : World}
/-- Where a region's order is drawn: it is left with C. -/
theorem x_draw {id : Nat} {L : List Atom} (C : Act → World → Prop) (LB : List Atom) (hm : P.follows .mixedOrders = true) (A : At w L) (hl : Array.replicate ops.size false = listed)
    (h : ∀ w', Mv L w L w' → wpAnyH P .any ops (Exit.then C fun _ _ _ => False) (Sd LB L w') ops.size listed a w') (is : List Nat) (hB : sel L is = LB) (k : ∀ a w, C a w → Q .normal a w) : (Code.region id ops true).wp P Q a w := by
  have m := mv_drew A
  have hS : Sd LB L w.drew w.drew := Sd.of (Mv.refl m.at') is hB
  subst hl
  exact x_cut C (wp_region_held_drew hm hS fun _ => h _ m) k
theorem d_take {n i d : Nat} {oi : Oper} {v : Value} (hn : n = fuel + 1) (hi : ops[i]? = some oi) (hs : Region.noSelect ops = true) (hf : Region.free .any ops listed i = true) (hr : (Region.ready .any ops listed).contains i = true)
    (hQ : ∀ c a w, Q (.panic c) (a.put oi.dst v) w → Q (.panic c) a w) (hS : S w) (hl : listed.setIfInBounds i true = listed') (hw : Region.wanted oi (yielded ops a.tmps) = true) (hd : oi.dst = some d) (hop : ∀ w', S w' → (execOp a.eval oi).run P w' = .ok (.value v) w')
    (k : ∀ a', a' = a.put (some d) v → wpAnyH P .any ops Q S fuel listed' a' w) : wpAnyH P .any ops Q S n listed a w := by
  subst hn
  subst hl
  refine wpAnyH_take hi hs hf hr hQ (.inl ⟨hw, hop⟩) hS ?_
  rw [hd]
  exact k _ rfl
/-- One of those that may come up, and then the rest. -/
def D1 (P : Program) (ops : Array Oper) (Q : Exit → Act → World → Prop) (S : World → Prop) (fuel : Nat) (listed : Array Bool) (a : Act) (w : World) (rs : List Nat) : Prop :=
  ∀ i ∈ rs, wpOp P ops Q i (fun a' w' => S w' ∧ wpAnyH P .any ops Q S fuel (listed.setIfInBounds i true) a' w') a w
theorem d_all {n : Nat} (hn : n = fuel + 1) {rs : List Nat} (hr : Region.ready .any ops listed = rs) (hne : rs ≠ []) (h : D1 P ops Q S fuel listed a w rs) : wpAnyH P .any ops Q S n listed a w := by
  subst hn
  exact wpAnyH_all hr hne h
theorem d_nil : D1 P ops Q S fuel listed a w [] := fun _ h => by cases h
theorem d_cons {i : Nat} {rs : List Nat} {o : Oper} (hi : ops[i]? = some o) (hl : listed.setIfInBounds i true = listed') (h : st1 P ops Q o (fun a' w' => S w' ∧ wpAnyH P .any ops Q S fuel listed' a' w') a w) (t : D1 P ops Q S fuel listed a w rs) : D1 P ops Q S fuel listed a w (i :: rs) := by
  subst hl
  intro j hj
  rcases List.mem_cons.1 hj with rfl | hj
  · unfold wpOp
    simp only [hi]
    exact h
  · exact t j hj
theorem d_one {n i : Nat} {o : Oper} (hn : n = fuel + 1) (hr : Region.ready .any ops listed = [i]) (hi : ops[i]? = some o) (hl : listed.setIfInBounds i true = listed') (h : st1 P ops Q o (fun a' w' => S w' ∧ wpAnyH P .any ops Q S fuel listed' a' w') a w) : wpAnyH P .any ops Q S n listed a w :=
  d_all hn hr (by simp) (d_cons hi hl h d_nil)
end
section
variable {α : Type} {k : Nat} {enc : α → List Value} {ok : α → Prop}
theorem Rd.elem {H : Nat → Prop} {w : World} {a : Option Addr} {n c : Nat} {l : List α} (h : Rd k enc ok H w (.slice a n c) l) (i : Nat) (hi : i < n) : ∃ x, nth l i = some x ∧ ok x := by
  obtain ⟨_, _, x, _, h1, h2, _⟩ := h.at i hi
  exact ⟨x, h1, h2⟩
/-- An element, in every later world of the region. -/
theorem Rd.atK {G : Nat → Prop} {w0 w : World} {L : List Atom} {a : Option Addr} {n c : Nat} {l : List α} (hk : 0 < k) (h : Rd k enc ok (V G w0 L) w (.slice a n c) l) (i : Nat) (hi : i < n) :
    ∃ b off x, a = some ⟨b, off, none⟩ ∧ nth l i = some x ∧ ok x ∧ (enc x).length = k ∧ ∀ wz, Kp (fps L) w wz → ∀ j v, (enc x)[j]? = some v → wz.cell? ((⟨b, off + i * k, none⟩ : Addr).add j) = some v := by
  obtain ⟨b, off, x, rfl, h1, h2, h3, h4⟩ := h.at i hi
  refine ⟨b, off, x, rfl, h1, h2, h3, fun wz hz j v hj => ?_⟩
  have hb := hz.block b (h.1.blk hk (by omega)) (h.2 _ _ _ rfl (by omega)).2
  have := h4 j v hj
  rw [add_flat] at this ⊢
  exact (World.cell?_of_block (w := w) (a := ⟨b, off + i * k + j, none⟩) hb).trans this
/-- An argument's slice, as it reads; its cells lie in blocks of H. -/
def RdA (k : Nat) (enc : α → List Value) (ok : α → Prop) (H : Nat → Prop) (w : World) (v : Value) (l : List α) : Prop :=
  RArg k (Enc enc ok) w v l ∧ ∀ ad n c, v = .slice (some ad) n c → 0 < n → H ad.block
theorem RArg.same {w w' : World} {v : Value} {l : List α} (h : RArg k (Enc enc ok) w v l) (hb : ∀ ad n c, v = .slice (some ad) n c → 0 < n → w'.heap[ad.block]? = w.heap[ad.block]?) : RArg k (Enc enc ok) w' v l := by
  obtain ⟨a, cap, rfl, h1, h2, h3, h4⟩ := h
  refine ⟨a, cap, rfl, h1, h2, h3, fun hn => ?_⟩
  obtain ⟨b, off, rfl, hc⟩ := h4 hn
  refine ⟨b, off, rfl, fun i x hx => ?_⟩
  obtain ⟨row, g1, g2, g3⟩ := hc i x hx
  exact ⟨row, g1, g2, fun j u hj => (World.cell?_of_block (w := w) (a := ⟨b, off + i * k + j, none⟩) (hb ⟨b, off, none⟩ _ _ rfl hn)).trans (g3 j u hj)⟩
theorem RArg.blk {w : World} {ad : Addr} {n c : Nat} {l : List α} (hk : 0 < k) (h : RArg k (Enc enc ok) w (.slice (some ad) n c) l) (hn : 0 < n) : ad.block < w.heap.size := by
  obtain ⟨a, cap, e, h1, h2, h3, h4⟩ := h
  cases e
  obtain ⟨b, off, e, hc⟩ := h4 (by omega)
  cases e
  obtain ⟨row, g1, g2, g3⟩ := hc 0 l[0] (by simp [hn])
  have := g3 0 row[0] (by simp [g1, hk])
  exact World.block_lt_of_cell? w ⟨b, off + 0 * k + 0, none⟩ this
theorem RdA.mv {G : Nat → Prop} {w0 w w' : World} {L L' : List Atom} {v : Value} {l : List α} (hk : 0 < k) (h : RdA k enc ok (V G w0 L) w v l) (m : Mv L w L' w') : RdA k enc ok (V G w0 L') w' v l := by
  refine ⟨h.1.same fun ad n c e hn => ?_, fun ad n c e hn => ?_⟩
  · subst e
    exact m.kp.block _ (h.1.blk hk hn) (h.2 _ _ _ rfl hn).2
  · have h1 := h.2 ad n c e hn
    subst e
    have h2 := h.1.blk hk hn
    exact ⟨h1.1, fun h3 => (m.fresh _ h3).elim h1.2 (fun h4 => by omega)⟩
theorem RdA.start {G : Nat → Prop} {w0 : World} {L : List Atom} {v : Value} {l : List α} (h : RdA k enc ok G w0 v l) (hL : ∀ b, G b → ¬ fps L b) : RdA k enc ok (V G w0 L) w0 v l := ⟨h.1, fun ad n c e hn => ⟨.inl (h.2 ad n c e hn), hL _ (h.2 ad n c e hn)⟩⟩
theorem RdA.top {H : Nat → Prop} {w : World} {v : Value} {l : List α} (h : RdA k enc ok H w v l) : RdA k enc ok (fun _ => True) w v l := ⟨h.1, fun _ _ _ _ _ => trivial⟩
theorem RdA.inv {H : Nat → Prop} {w : World} {a : Option Addr} {n c : Nat} {l : List α} (h : RdA k enc ok H w (.slice a n c) l) : n = l.length ∧ n ≤ c ∧ c ≤ 9223372036854775807 ∧ (a = none → l = []) := by
  obtain ⟨a', cap, e, h1, h2, h3, h4⟩ := h.1.inv
  cases e
  exact ⟨rfl, h1, by omega, fun e => (h4 e).1⟩
theorem RdA.at {H : Nat → Prop} {w : World} {a : Option Addr} {n c : Nat} {l : List α} (h : RdA k enc ok H w (.slice a n c) l) (i : Nat) (hi : i < n) :
    ∃ b off x, a = some ⟨b, off, none⟩ ∧ nth l i = some x ∧ ok x ∧ (enc x).length = k ∧ ∀ j v, (enc x)[j]? = some v → w.cell? ((⟨b, off + i * k, none⟩ : Addr).add j) = some v := by
  obtain ⟨b, off, x, row, h1, h2, h3, ⟨rfl, h4⟩, h5⟩ := h.1.at i hi
  exact ⟨b, off, x, h1, by rw [nth_eq]; exact h2, h4, h3, fun j v hj => by rw [add_flat]; exact h5 j v hj⟩
theorem RdA.elem {H : Nat → Prop} {w : World} {a : Option Addr} {n c : Nat} {l : List α} (h : RdA k enc ok H w (.slice a n c) l) (i : Nat) (hi : i < n) : ∃ x, nth l i = some x ∧ ok x := by
  obtain ⟨_, _, x, _, h1, h2, _⟩ := h.at i hi
  exact ⟨x, h1, h2⟩
theorem RdA.atK {G : Nat → Prop} {w0 w : World} {L : List Atom} {a : Option Addr} {n c : Nat} {l : List α} (hk : 0 < k) (h : RdA k enc ok (V G w0 L) w (.slice a n c) l) (i : Nat) (hi : i < n) :
    ∃ b off x, a = some ⟨b, off, none⟩ ∧ nth l i = some x ∧ ok x ∧ (enc x).length = k ∧ ∀ wz, Kp (fps L) w wz → ∀ j v, (enc x)[j]? = some v → wz.cell? ((⟨b, off + i * k, none⟩ : Addr).add j) = some v := by
  obtain ⟨b, off, x, rfl, h1, h2, h3, h4⟩ := h.at i hi
  refine ⟨b, off, x, rfl, h1, h2, h3, fun wz hz j v hj => ?_⟩
  have hb := hz.block b (h.1.blk hk (by omega)) (h.2 _ _ _ rfl (by omega)).2
  have := h4 j v hj
  rw [add_flat] at this ⊢
  exact (World.cell?_of_block (w := w) (a := ⟨b, off + i * k + j, none⟩) hb).trans this
end
section
variable {P : Program} {o : Oper} {ρ : Operand → Value} {w : World} {x : Operand} {t e k bytes : Nat} {z : Value} {α : Type} {enc : α → List Value} {ok : α → Prop}
/-- x[i:j] of a slice that is read: a view of that part. -/
theorem r_sliceR {H : Nat → Prop} {a : Option Addr} {n c i j : Nat} {l : List α} {lo hi : Option Operand} (R : Rd k enc ok H w (.slice a n c) l) (E : ElemT P t e z k bytes enc) (ho : o.op = .slice t x lo hi none) (hx : ρ x = .slice a n c)
    (hlo : idxIs ρ 0 lo i) (hhi : idxIs ρ n hi j) (h1 : i ≤ j) (h2 : j ≤ n) :
    ∃ a' c', (execOp ρ o).run P w = .ok (.value (.slice a' (j - i) c')) w ∧ Rd k enc ok H w (.slice a' (j - i) c') ((l.take j).drop i) := by
  obtain ⟨g1, g2, g3, g4⟩ := R.inv
  cases a with
  | none =>
    have hl := g4 rfl
    subst hl
    obtain ⟨a', cap, e1, _, _, _, h4⟩ := R.1.inv
    cases e1
    obtain ⟨_, hc⟩ := h4 rfl
    subst hc
    simp only [List.length_nil] at h2
    have hj : j = 0 := by omega
    subst hj
    have hi0 : i = 0 := by omega
    subst hi0
    obtain ⟨inf, q1, _⟩ := info_parts E.hT.info
    refine ⟨none, 0, ?_, ?_⟩
    · exact r_sliceNil E.ht ⟨inf, q1⟩ ho hx (by cases lo with | none => trivial | some p => exact hlo) (by cases hi with | none => trivial | some p => exact hhi)
    · exact Rd.nil
  | some ad =>
    obtain ⟨b, off, rfl⟩ := R.1.plain
    have hr := r_slice (w := w) (l := i) (h := j) E ho hx hlo hhi h1 (Nat.le_trans h2 g2)
    have ht := R.1.take j h2
    by_cases hc : c = i
    · subst hc
      have e1 : j = c := by omega
      subst e1
      have e2 : n = j := by omega
      refine ⟨some ⟨b, off, none⟩, 0, ?_, ?_, fun ad' n' c' e' hn => ?_⟩
      · rw [hr]; simp
      · have := ht.dropEnd
        simpa using this
      · cases e'; omega
    · refine ⟨some ⟨b, off + i * k, none⟩, c - i, ?_, ?_, fun ad' n' c' e' hn => ?_⟩
      · rw [hr]; simp [hc]
      · exact ht.drop i h1
      · cases e'
        exact R.2 ⟨b, off, none⟩ n c rfl (by omega)
theorem s_sliceR {ops : Array Oper} {Q : Exit → Act → World → Prop} {K : Act → World → Prop} {ac : Act} {d : Nat} {H : Nat → Prop} {a : Option Addr} {n c : Nat} {l : List α} {lo hi : Option Operand} (i j : Nat) (R : Rd k enc ok H w (.slice a n c) l) (E : ElemT P t e z k bytes enc)
    (hw : Region.wanted o (yielded ops ac.tmps) = true) (hd : o.dst = some d) (ho : o.op = .slice t x lo hi none) (hx : ac.eval x = .slice a n c) (hlo : idxIs ac.eval 0 lo i) (hhi : idxIs ac.eval n hi j) (h1 : i ≤ j) (h2 : j ≤ n)
    (kk : ∀ a' c' ac', ac' = ac.put (some d) (.slice a' (j - i) c') → Rd k enc ok H w (.slice a' (j - i) c') ((l.take j).drop i) → K ac' w) : st1 P ops Q o K ac w := by
  obtain ⟨a', c', h3, h4⟩ := r_sliceR (ρ := ac.eval) (i := i) (j := j) R E ho hx hlo hhi h1 h2
  exact s_val hw hd h3 fun _ e' => kk _ _ _ e' h4
theorem mv_of_own {w w' : World} {v v' : Value} {l l' : List α} (hO : Own e k enc ok w' v' l') (hk : KeepBut v.ownBlock.toList w w') (hm : Moved w v v') : Mv [ow e k enc ok v l] w [ow e k enc ok v' l'] w' := by
  refine ⟨At.one hO (fun b hb => hO.lt b (by have h : v'.ownBlock = some b := hb; simp [h])), ?_, Kp.of_keep hk (fun b hb => ⟨_, List.mem_singleton.2 rfl, show v.ownBlock = some b by simpa using hb⟩)⟩
  rintro b ⟨B, hB, hb⟩
  rcases List.mem_singleton.1 hB with rfl
  have hb' : v'.ownBlock = some b := hb
  rcases hm b (by simp [hb']) with h6 | h6
  · exact .inl ⟨_, List.mem_singleton.2 rfl, show v.ownBlock = some b by simpa using h6⟩
  · exact .inr h6
theorem mv_of_fresh {w w' : World} {v' : Value} {l' : List α} (hO : Own e k enc ok w' v' l') (hf : ∀ b ∈ v'.ownBlock.toList, w.heap.size ≤ b) (hb : Bl w w') : Mv [] w [ow e k enc ok v' l'] w' :=
  Bl.mv_new (At.one hO (fun b hb => hO.lt b (by have h : v'.ownBlock = some b := hb; simp [h]))) (fun b ⟨B, hB, hb⟩ => by rcases List.mem_singleton.1 hB with rfl; have h : v'.ownBlock = some b := hb; exact hf b (by simp [h])) hb
end
section
variable {P : Program} {ops : Array Oper} {Q : Exit → Act → World → Prop} {K : Act → World → Prop} {o : Oper} {a : Act} {w : World} {d : Nat}
theorem r_callv {f : FuncId} {x : Operand} {xs : Array Operand} {ats : Array TypeId} {fn : Func} {c : Code} {vs us : List Value} (hf : P.funcs[f]? = some fn) (hb : fn.body = some c) (hname : (fn.name == "runtime.NumGoroutine") = false) (hρ : a.eval x = .func (.func f) #[] us.toArray)
    (ho : o.op = .call { callee := .value x, args := xs, argTypes := ats }) (hx : xs.toList.map a.eval = vs) : (execOp a.eval o).run P w = .ok (.enter f (vs ++ us).toArray) w := by
  have h1 : fn.name ≠ "runtime.NumGoroutine" := by simpa using hname
  have h2 : xs.map a.eval = vs.toArray := by rw [← hx]; apply Array.ext'; simp
  simp [execOp, ho, resolve, h2, hρ, Deferred.ofValue, invoke, callFunc, hf, h1, hb]
theorem c_callv {f : FuncId} {x : Operand} {xs : Array Operand} {ats : Array TypeId} {vs us : List Value} {R : Ending → World → Prop} (C : CF P f) (hw : Region.wanted o (yielded ops a.tmps) = true) (hd : o.dst = some d)
    (ho : o.op = .call { callee := .value x, args := xs, argTypes := ats }) (hρ : a.eval x = .func (.func f) #[] us.toArray) (hx : xs.toList.map a.eval = vs) (hc : Calls P f (vs ++ us).toArray w R)
    (k : ∀ e w', R e w' → ∃ v, e = .returned v ∧ ∀ a', a' = a.put (some d) v → K a' w') : st1 P ops Q o K a w := by
  obtain ⟨fn, c, h1, h2, h3⟩ := C.ex
  exact s_call hw hd (r_callv h1 h2 h3 hρ ho hx) hc k
end
/-- An owned slice, read while the pieces 'is' may be written. -/
theorem At.rdOff {α : Type} {e k : Nat} {enc : α → List Value} {ok : α → Prop} {w : World} {L : List Atom} (h : At w L) (hk : ∀ x, (enc x).length = k) (i : Nat) {v : Value} {l : List α} (hL : nth L i = some (ow e k enc ok v l)) (is : List Nat) (hi : is.any (Nat.beq i) = false) : Rd k enc ok (fun b => ¬ fps (sel L is) b) w v l := by
  refine ⟨Own.rd hk (h.ok _ (nth_mem hL)), fun ad n c e' hn => ?_⟩
  have hb : v.ownBlock = some ad.block := by subst e'; rfl
  rintro ⟨B, hB, hb'⟩
  obtain ⟨j, h3, h4⟩ := sel_idx hB
  refine h.apartAt hL h4 (fun e => ?_) _ hb hb'
  subst e
  simp at hi
  exact hi _ h3 rfl
theorem At.ownInv {α : Type} {e k : Nat} {enc : α → List Value} {ok : α → Prop} {w : World} {L : List Atom} {a : Option Addr} {n c : Nat} {l : List α} (h : At w L) (hk : ∀ x, (enc x).length = k) (i : Nat) (hL : nth L i = some (ow e k enc ok (.slice a n c) l)) : n = l.length ∧ n ≤ c ∧ c ≤ 9223372036854775807 := by
  obtain ⟨h1, h2, h3, _⟩ := (h.rd hk i hL).inv
  exact ⟨h1, h2, h3⟩
end Go.Proofs.YtibgmijfnbnfkaaGreatDoor
