/-
  Texts laid together: Eng12, DatRc, Eng13.
-/
import Derived.Test.YtipdbeklopjbmaaGreatDoorP08
import Derived.Lib.AppendStr
import Derived.Lib.FrozenHead
import Derived.Lib.UnsafeStr
import Derived.Test.YtipdbeklopjbmaaGreatDoorP06
import Derived.Test.YtipdbeklopjbmaaGreatDoorP05
/-
  A text's bytes are appended to a slice of bytes; the buffer of a strings.Builder, whose head may be marked (String marks it).
-/

namespace Go.Proofs.YtipdbeklopjbmaaGreatDoor
open Go.ChangeShapes Go.WideShapes Go.ChangeAt Go.RowKit
theorem strCells_flat (s : ByteArray) (l : List Nat) (h : l = s.data.toList.map (·.toNat)) : Lib.strCells s = flat encB l := by
  subst h
  have h2 : ∀ bs : List Nat, flat encB bs = bs.map (fun x => Value.int .u8 ((x : Nat) : Int)) := by
    intro bs
    unfold flat encB
    induction bs with
    | nil => rfl
    | cons x l ih => simpa using ih
  rw [h2, List.map_map]
  rfl
section
variable {P : Program} {ops : Array Oper} {Q : Exit → Act → World → Prop} {K : Act → World → Prop} {o : Oper} {a : Act} {w : World} {L : List Atom} {d n : Nat} {m : List (Nat × Value)}
theorem run_append_room_stringX {t u ty e : TypeId} {i : TypeInfo} (ht : P.underlying t = some (.slice e)) (hu : P.underlying u = some .string) (hi : P.info? e = some i) (hs1 : i.size = 1)
    (g sLen sCap : Nat) (s : ByteArray) (hroom : sLen + s.size ≤ sCap) (m1 : ∀ j, j < (Lib.strCells s).length → (w.cell? ⟨g, sLen + j, none⟩).isSome = true) (m2 : ∀ j, j < (Lib.strCells s).length → w.frozen? ⟨g, sLen + j, none⟩ = false) :
    (Builtin.append_ #[t, u] ty #[.slice (some ⟨g, 0, none⟩) sLen sCap, .string s]).run P w = .ok (.slice (some ⟨g, 0, none⟩) (sLen + s.size) sCap) (w.setCells g sLen (Lib.strCells s)) := by
  have hf := Lib.run_firstCells_string (P := P) w 1 s
  have hst := run_storeCells_cells (P := P) g sLen (Lib.strCells s) 0 w (by simpa using m1) (by simpa using m2) (Lib.strCells_oneCell s)
  simp only [Nat.add_zero] at hst
  simp [Builtin.append_, run_underlying ht, run_underlying hu, sizeOf, typeInfo, hi, hs1, Builtin.lenOf, hroom, hf, Addr.add_lit, hst]
theorem r_appXs {ty : TypeId} {t u e bytes : Nat} {z : Value} {s x : Operand} {v : Value} {l bs : List Nat} {q : ByteArray} {ρ : Operand → Value} (E : ElemT P t e z 1 bytes encB) (hu : P.underlying u = some .string) (hz : z = .int .u8 0) (hby : bytes = 1) (A : At w L) (i : Nat) (hL : nth L i = some (owX e v l)) (ho : o.op = .call { callee := .builtin .append, args := #[s, x], argTypes := #[t, u] }) (hty : o.type = ty)
    (hs : ρ s = v) (hx : ρ x = .string q) (hbs : bs = q.data.toList.map (·.toNat)) (hbytes : l.length + q.size ≤ 140737488355328) (hok : okSel L.length [i] = true) :
    ∃ a n c w', (execOp ρ o).run P w = .ok (.value (.slice a n c)) w' ∧ n = (l ++ bs).length ∧ Mv L w ([owX e (.slice a n c) (l ++ bs)] ++ del L [i]) w' := by
  have hO : OwnX e w v l := A.ok _ (nth_mem hL)
  have hO1 := hO
  obtain ⟨g, cap, cur, mk, rfl, h1, h2, h3, h4, h5, h6, h7⟩ := hO
  obtain ⟨inf, hi, hz0, hz1, hz2⟩ := info_parts E.hT.info
  have hsc := strCells_flat q bs hbs
  have hbl : bs.length = q.size := by rw [hbs, List.length_map]; rfl
  have hb8 : ∀ y ∈ bs, okB y := fun y hy => by
    rw [hbs] at hy
    obtain ⟨c, _, rfl⟩ := List.mem_map.1 hy
    exact c.toNat_lt
  have hok' : ∀ y ∈ l ++ bs, okB y := fun y hy => (List.mem_append.1 hy).elim (h6 y) (hb8 y)
  have hcl : (Lib.strCells q).length = q.size := Lib.strCells_length q
  by_cases hr : l.length + q.size ≤ cap
  · obtain ⟨m1, m2, m3⟩ := mv_setX (off := l.length) (vs := Lib.strCells q) (l' := l ++ bs) A i hL hok (by omega) (by rw [List.length_append]; omega) (fun cur' q1 q2 => by rw [hsc]; exact takeX_app q2 rfl) hok'
    have hrun := run_append_room_stringX (P := P) (ty := ty) E.ht hu hi hz1 g l.length cap q hr m1 m2
    refine ⟨_, _, _, _, ?_, ?_, m3⟩
    · subst hty
      have e1 : (l ++ bs).length = l.length + q.size := by rw [List.length_append, hbl]
      rw [e1]
      simp [execOp, ho, resolve, invoke, builtin, hs, hx, hrun]
    · rfl
  · have hcells : ∀ j u, (flat encB l)[j]? = some u → w.cell? ((⟨g, 0, none⟩ : Addr).add j) = some u := fun j u hj => by
      have hj' : j < l.length := by
        have := (List.getElem?_eq_some_iff.1 hj).1
        rw [flat_length (enc := encB) (k := 1) (fun _ => rfl) l] at this
        omega
      have hx' : l[j]? = some l[j] := by simp [hj']
      have hf := flat_at (enc := encB) (k := 1) (fun _ => rfl) l j _ hx' 0 (by omega)
      simp only [Nat.mul_one, Nat.add_zero] at hf
      rw [hj] at hf
      have : u = .int .u8 ((l[j] : Nat) : Int) := Option.some.inj hf
      rw [this, add_flat, Nat.zero_add]
      exact hO1.cellAt j _ hx'
    have hrun := Lib.run_append_grow_string (P := P) w t u ty e inf z E.ht hu hi hz0 ⟨g, 0, none⟩ l.length cap (flat encB l) (by rw [hz1, flat_length (enc := encB) (k := 1) (fun _ => rfl) l]) hcells q (by omega) (by omega) (by rw [hz2, hby]; exact growslice_fits (by omega) (by omega))
    have hge := grownCap_ge w (l.length + q.size) cap e
    have hcm : grownCap w (l.length + q.size) cap e ≤ maxLen := grownCap_le_maxLen w (l.length + q.size) cap e (by unfold maxLen; omega)
    have hfl : (flat encB l).length = l.length := by rw [flat_length (enc := encB) (k := 1) (fun _ => rfl) l, Nat.mul_one]
    have hO2 : OwnX e (w.drew.alloc (.cells ((flat encB l).toArray ++ (Lib.strCells q).toArray ++ Builtin.zeroCells z.cells (grownCap w (l.length + q.size) cap e - (l.length + q.size))) e)) (.slice (some ⟨w.heap.size, 0, none⟩) (l.length + q.size) (grownCap w (l.length + q.size) cap e)) (l ++ bs) := by
      refine ⟨w.heap.size, _, ((flat encB l).toArray ++ (Lib.strCells q).toArray ++ Builtin.zeroCells z.cells (grownCap w (l.length + q.size) cap e - (l.length + q.size))).toList, (0, 0), by rw [List.length_append, hbl], by rw [Array.toArray_toList]; exact heap_alloc_new w.drew _, by rw [List.length_append, hbl]; exact hge, hcm, ?_, ?_, hok', .inr rfl⟩
      · have hz9 : z.cells.size = 1 := by rw [hz]; rfl
        simp only [Array.length_toList, Array.size_append, List.size_toArray, size_zeroCells, hz9, hfl, Lib.strCells_length]
        omega
      · rw [List.length_append, hbl, flat_append, ← hsc]
        simp only [Array.toList_append, List.append_assoc]
        rw [← List.append_assoc]
        exact List.take_left' (by rw [List.length_append, hfl, Lib.strCells_length])
    refine ⟨some ⟨w.heap.size, 0, none⟩, l.length + q.size, grownCap w (l.length + q.size) cap e, w.drew.alloc (.cells ((flat encB l).toArray ++ (Lib.strCells q).toArray ++ Builtin.zeroCells z.cells (grownCap w (l.length + q.size) cap e - (l.length + q.size))) e), ?_, by rw [List.length_append, hbl], ?_⟩
    · subst hty
      simp [execOp, ho, resolve, invoke, builtin, hs, hx, hrun]
    · have hM := mv_freshX (w := w) hO2 (fun b hb => by
        have : b = w.heap.size := by simpa [Value.ownBlock, eq_comm] using hb
        rw [this]; exact Nat.le_refl _) ⟨rfl, rfl, rfl, by simp, fun k hk => heap_alloc_old w.drew _ hk⟩
      have h9 := At.frame (New := [owX e (.slice (some ⟨w.heap.size, 0, none⟩) (l.length + q.size) (grownCap w (l.length + q.size) cap e)) (l ++ bs)]) (A.drop i).at' [] rfl hM
      rw [del_none] at h9
      exact (A.drop i).trans h9
theorem f_appXs {t u e bytes : Nat} {z : Value} {s x : Operand} {v : Value} {l bs : List Nat} {q : ByteArray} (F : Fr n m a) (A : At w L) (i : Nat) (E : ElemT P t e z 1 bytes encB) (hu : P.underlying u = some .string) (hz : z = .int .u8 0) (hby : bytes = 1) (hL : nth L i = some (owX e v l)) (hsel : okSel L.length [i] = true) (hw : Region.wanted o (yielded ops a.tmps) = true) (hd : o.dst = some d)
    (ho : o.op = .call { callee := .builtin .append, args := #[s, x], argTypes := #[t, u] }) (hp : Nat.blt d n = true) (hs : a.eval s = v) (hx : a.eval x = .string q) (hbs : bs = q.data.toList.map (·.toNat)) (hbytes : l.length + q.size ≤ 140737488355328)
    (kk : ∀ b q' c a' w', Fr n ((d, .slice b q' c) :: m) a' → Mv L w ([owX e (.slice b q' c) (l ++ bs)] ++ del L [i]) w' → q' = (l ++ bs).length → K a' w') : st1 P ops Q o K a w := by
  obtain ⟨b, q', c, w', h1, h2, h3⟩ := r_appXs (o := o) (ρ := a.eval) E hu hz hby A i hL ho rfl hs hx hbs hbytes hsel
  exact s_valw hw hd h1 fun _ e' => kk _ _ _ _ _ (F.put e' hp) h3 h2
end
def OwnB (e : Nat) (w : World) (v : Value) (l : List Nat) : Prop :=
  (v = .slice none 0 0 ∧ l = []) ∨ ∃ (g cap : Nat) (cur : List Value) (mk : Nat × Nat), v = .slice (some ⟨g, 0, none⟩) l.length cap ∧ w.heap[g]? = some (.cells cur.toArray e mk) ∧ l.length ≤ cap ∧ cap ≤ maxLen ∧ 1 ≤ cap ∧ cur.length = cap ∧ cur.take l.length = flat encB l ∧ (∀ x ∈ l, okB x) ∧ mk.2 ≤ l.length
theorem OwnB.same {e : Nat} {w w' : World} {v : Value} {l : List Nat} (h : OwnB e w v l) (hb : ∀ b, v.ownBlock = some b → w'.heap[b]? = w.heap[b]?) : OwnB e w' v l := by
  rcases h with h | ⟨g, cap, cur, mk, rfl, h1, h2⟩
  · exact .inl h
  · exact .inr ⟨g, cap, cur, mk, rfl, (hb g rfl).trans h1, h2⟩
theorem OwnB.lt {e : Nat} {w : World} {v : Value} {l : List Nat} (h : OwnB e w v l) {b : Nat} (hb : v.ownBlock = some b) : b < w.heap.size := by
  rcases h with ⟨rfl, _⟩ | ⟨g, cap, cur, mk, rfl, h1, h2⟩
  · cases hb
  · have : g = b := Option.some.inj hb
    subst this
    exact (Array.getElem?_eq_some_iff.1 h1).1
def owB (e : Nat) (v : Value) (l : List Nat) : Atom where
  fp := fun c => v.ownBlock = some c
  ok := fun w => OwnB e w v l
  st := fun _ _ h k => k.same h
theorem OwnB.inv {e : Nat} {w : World} {a : Option Addr} {n c : Nat} {l : List Nat} (h : OwnB e w (.slice a n c) l) : n = l.length ∧ n ≤ c ∧ c ≤ 9223372036854775807 := by
  rcases h with ⟨h, rfl⟩ | ⟨g, cap, cur, mk, h, h1, h2, h3, _⟩
  · cases h; exact ⟨rfl, Nat.le_refl _, by decide⟩
  · cases h; exact ⟨rfl, h2, by unfold maxLen at h3; exact h3⟩
theorem At.ownInvB {e : Nat} {w : World} {L : List Atom} {a : Option Addr} {n c : Nat} {l : List Nat} (h : At w L) (i : Nat) (hL : nth L i = some (owB e (.slice a n c) l)) : n = l.length ∧ n ≤ c ∧ c ≤ 9223372036854775807 := OwnB.inv (h.ok _ (nth_mem hL))
theorem mv_nilB {w : World} {L : List Atom} (A : At w L) (e : Nat) : Mv L w (owB e (.slice none 0 0) [] :: L) w := by
  have hM : Mv [] w [owB e (.slice none 0 0) []] w := Bl.mv_new (At.one (show OwnB e w (.slice none 0 0) [] from .inl ⟨rfl, rfl⟩) (fun b hb => by cases hb)) (fun b ⟨B, hB, hb⟩ => by rcases List.mem_singleton.1 hB with rfl; cases hb) (Bl.refl w)
  have := At.frame (New := [owB e (.slice none 0 0) []]) A [] rfl hM
  rw [del_none] at this
  exact this
theorem OwnB.cellAt {e : Nat} {w : World} {g n cap : Nat} {l : List Nat} (h : OwnB e w (.slice (some ⟨g, 0, none⟩) n cap) l) (i : Nat) (x : Nat) (hx : l[i]? = some x) : w.cell? ⟨g, i, none⟩ = some (.int .u8 ((x : Nat) : Int)) := by
  rcases h with ⟨h, _⟩ | ⟨g', cap', cur, mk, e1, h1, h2, h3, h0, h4, h5, h6, h7⟩
  · cases h
  cases e1
  have hi : i < l.length := (List.getElem?_eq_some_iff.1 hx).1
  have hf := flat_at (enc := encB) (k := 1) (fun _ => rfl) l i x hx 0 (by omega)
  have hc : cur[i]? = some (.int .u8 ((x : Nat) : Int)) := by
    have h8 : (cur.take l.length)[i]? = cur[i]? := by rw [List.getElem?_take, if_pos hi]
    rw [← h8, h5]
    simpa [encB] using hf
  simp [World.cell?, h1, hc]
section
variable {P : Program} {ops : Array Oper} {Q : Exit → Act → World → Prop} {K : Act → World → Prop} {o : Oper} {a : Act} {w : World} {L : List Atom} {d n : Nat} {m : List (Nat × Value)}
theorem mv_freshB {e : Nat} {w w' : World} {v : Value} {l : List Nat} (hO : OwnB e w' v l) (hf : ∀ b ∈ v.ownBlock.toList, w.heap.size ≤ b) (hb : Bl w w') : Mv [] w [owB e v l] w' :=
  Bl.mv_new (At.one hO (fun b hb => hO.lt hb)) (fun b ⟨B, hB, hb⟩ => by rcases List.mem_singleton.1 hB with rfl; have h : v.ownBlock = some b := hb; exact hf b (by simp [h])) hb
theorem mv_rowB {e g cap : Nat} {l l' : List Nat} {w' : World} {cur' : List Value} {mk' : Nat × Nat} (A : At w L) (i : Nat) (hL : nth L i = some (owB e (.slice (some ⟨g, 0, none⟩) l.length cap) l)) (hsel : okSel L.length [i] = true)
    (hh : w'.heap[g]? = some (.cells cur'.toArray e mk')) (ho : w'.os = w.os ∧ w'.tape = w.tape ∧ w'.output = w.output ∧ w'.heap.size = w.heap.size) (hq : ∀ q, q ≠ g → w'.heap[q]? = w.heap[q]?)
    (hl : l'.length ≤ cap) (hcl : cur'.length = cap) (hc : cur'.take l'.length = flat encB l') (hok : ∀ x ∈ l', okB x) (hm : mk'.2 ≤ l'.length) : Mv L w ([owB e (.slice (some ⟨g, 0, none⟩) l'.length cap) l'] ++ del L [i]) w' := by
  have hO : OwnB e w (.slice (some ⟨g, 0, none⟩) l.length cap) l := A.ok _ (nth_mem hL)
  have hlt := hO.lt (b := g) rfl
  obtain ⟨s1, s2, s3, s4⟩ := ho
  refine A.frame [i] hsel ?_
  have e2 : sel L [i] = [owB e (.slice (some ⟨g, 0, none⟩) l.length cap) l] := by simp [sel, hL]
  rw [e2]
  have hcap : cap ≤ maxLen ∧ 1 ≤ cap := by
    rcases hO with ⟨h, _⟩ | ⟨g', cap', cur, mk, e1, h1, h2, h3, h0, _⟩
    · cases h
    · cases e1; exact ⟨h3, h0⟩
  have hO2 : OwnB e w' (.slice (some ⟨g, 0, none⟩) l'.length cap) l' := .inr ⟨g, cap, cur', mk', rfl, hh, hl, hcap.1, hcap.2, hcl, hc, hok, hm⟩
  exact ⟨At.one hO2 (fun q hq => by have h : some g = some q := hq; cases h; rw [s4]; exact hlt), fun q ⟨B, hB, hq⟩ => by rcases List.mem_singleton.1 hB with rfl; exact .inl ⟨_, List.mem_singleton.2 rfl, hq⟩, ⟨s1, s2, s3, by rw [s4]; exact Nat.le_refl _, fun q _ hn => hq q (fun e => hn ⟨_, List.mem_singleton.2 rfl, by subst e; rfl⟩)⟩⟩
theorem r_appBs {ty : TypeId} {t u e bytes : Nat} {z : Value} {s x : Operand} {v : Value} {l bs : List Nat} {q : ByteArray} {ρ : Operand → Value} (E : ElemT P t e z 1 bytes encB) (hu : P.underlying u = some .string) (hz : z = .int .u8 0) (hby : bytes = 1) (A : At w L) (i : Nat) (hL : nth L i = some (owB e v l)) (ho : o.op = .call { callee := .builtin .append, args := #[s, x], argTypes := #[t, u] }) (hty : o.type = ty)
    (hs : ρ s = v) (hx : ρ x = .string q) (hbs : bs = q.data.toList.map (·.toNat)) (hbytes : l.length + q.size ≤ 140737488355328) (hok : okSel L.length [i] = true) :
    ∃ a n c w', (execOp ρ o).run P w = .ok (.value (.slice a n c)) w' ∧ n = (l ++ bs).length ∧ Mv L w ([owB e (.slice a n c) (l ++ bs)] ++ del L [i]) w' := by
  have hO : OwnB e w v l := A.ok _ (nth_mem hL)
  have hO1 := hO
  obtain ⟨inf, hi, hz0, hz1, hz2⟩ := info_parts E.hT.info
  have hsc := strCells_flat q bs hbs
  have hbl : bs.length = q.size := by rw [hbs, List.length_map]; rfl
  have hb8 : ∀ y ∈ bs, okB y := fun y hy => by
    rw [hbs] at hy
    obtain ⟨c, _, rfl⟩ := List.mem_map.1 hy
    exact c.toNat_lt
  have hcl : (Lib.strCells q).length = q.size := Lib.strCells_length q
  have hfl : (flat encB l).length = l.length := by rw [flat_length (enc := encB) (k := 1) (fun _ => rfl) l, Nat.mul_one]
  have fresh : ∀ (w' : World) (cap' : Nat) (cs : Array Value), (∀ y ∈ l ++ bs, okB y) → w'.heap[w.heap.size]? = some (.cells cs e (0, 0)) → Bl w w' → l.length + q.size ≤ cap' → cap' ≤ maxLen → 1 ≤ cap' → cs.size = cap' → cs.toList.take (l.length + q.size) = flat encB (l ++ bs) → Mv L w ([owB e (.slice (some ⟨w.heap.size, 0, none⟩) (l.length + q.size) cap') (l ++ bs)] ++ del L [i]) w' := fun w' cap' cs hok' hh hbl' g1 g2 g0 g3 g4 => by
    have e1 : (l ++ bs).length = l.length + q.size := by rw [List.length_append, hbl]
    have hO2 : OwnB e w' (.slice (some ⟨w.heap.size, 0, none⟩) (l.length + q.size) cap') (l ++ bs) := .inr ⟨w.heap.size, cap', cs.toList, (0, 0), by rw [e1], by simpa using hh, by omega, g2, g0, by simpa using g3, by rw [e1]; exact g4, hok', Nat.zero_le _⟩
    have hM := mv_freshB (w := w) hO2 (fun b hb => by
      have : b = w.heap.size := by simpa [Value.ownBlock, eq_comm] using hb
      rw [this]; exact Nat.le_refl _) hbl'
    have h9 := At.frame (New := [owB e (.slice (some ⟨w.heap.size, 0, none⟩) (l.length + q.size) cap') (l ++ bs)]) (A.drop i).at' [] rfl hM
    rw [del_none] at h9
    exact (A.drop i).trans h9
  have hz9 : z.cells.size = 1 := by rw [hz]; rfl
  rcases hO with ⟨rfl, rfl⟩ | ⟨g, cap, cur, mk, rfl, h1, h2, h3, h0, h4, h5, h6, h7⟩
  · by_cases hq0 : q.size = 0
    · have hb0 : bs = [] := List.eq_nil_of_length_eq_zero (by omega)
      subst hb0
      have hrun : (Builtin.append_ #[t, u] ty #[.slice none 0 0, .string q]).run P w = .ok (.slice none 0 0) w := by
        have hf := Lib.run_firstCells_string (P := P) w 1 q
        rw [hq0] at hf
        simp [Builtin.append_, run_underlying E.ht, run_underlying hu, sizeOf, typeInfo, hi, hz1, Builtin.lenOf, hq0, hf]
      refine ⟨none, 0, 0, w, ?_, rfl, ?_⟩
      · subst hty
        simp [execOp, ho, resolve, invoke, builtin, hs, hx, hrun]
      · have e2 : sel L [i] = [owB e (.slice none 0 0) []] := by simp [sel, hL]
        exact A.frame [i] hok (by rw [e2]; exact Mv.refl (e2 ▸ A.pick hok))
    · have hrun := run_append_nil_string (P := P) w t u ty e inf z E.ht hu hi hz0 q (by omega) (by omega) (by rw [hz2, hby]; omega)
      have hge := grownCap_ge w q.size 0 e
      have hcm : grownCap w q.size 0 e ≤ maxLen := grownCap_le_maxLen w q.size 0 e (by unfold maxLen; omega)
      have hsl : (q.data.map (fun b => Value.int .u8 b.toNat)).toList = Lib.strCells q := by simp [Lib.strCells]
      refine ⟨some ⟨w.heap.size, 0, none⟩, q.size, grownCap w q.size 0 e, w.drew.alloc (.cells (q.data.map (fun b => Value.int .u8 b.toNat) ++ Builtin.zeroCells z.cells (grownCap w q.size 0 e - q.size)) e), ?_, by rw [List.nil_append, hbl], ?_⟩
      · subst hty
        simp [execOp, ho, resolve, invoke, builtin, hs, hx, hrun]
      · have := fresh _ _ _ (fun y hy => hb8 y (by simpa using hy)) (heap_alloc_new w.drew (.cells (q.data.map (fun b => Value.int .u8 b.toNat) ++ Builtin.zeroCells z.cells (grownCap w q.size 0 e - q.size)) e)) ⟨rfl, rfl, rfl, by simp, fun k hk => heap_alloc_old w.drew _ hk⟩ (by simpa using hge) hcm (by omega)
          (by simp only [Array.size_append, Array.size_map, size_zeroCells, hz9]; have e9 : q.data.size = q.size := rfl; omega)
          (by rw [Array.toList_append, hsl, List.nil_append, ← hsc]; exact List.take_left' (by rw [hcl]; simp))
        simpa using this
  · have hok' : ∀ y ∈ l ++ bs, okB y := fun y hy => (List.mem_append.1 hy).elim (h6 y) (hb8 y)
    by_cases hr : l.length + q.size ≤ cap
    · have hrun := Lib.run_append_room_stringF (P := P) w t u ty e inf E.ht hu hi hz1 g l.length cap cur.toArray mk h1 h7 q hr (by simpa using (by omega : l.length + q.size ≤ cur.length))
      have e1 : (l ++ bs).length = l.length + q.size := by rw [List.length_append, hbl]
      refine ⟨some ⟨g, 0, none⟩, l.length + q.size, cap, w.setRow g (cur.take l.length ++ Lib.strCells q ++ cur.drop (l.length + q.size)).toArray, ?_, e1.symm, ?_⟩
      · subst hty
        simp [execOp, ho, resolve, invoke, builtin, hs, hx, hrun]
      · have hmv : Mv L w ([owB e (.slice (some ⟨g, 0, none⟩) (l ++ bs).length cap) (l ++ bs)] ++ del L [i]) (w.setRow g (cur.take l.length ++ Lib.strCells q ++ cur.drop (l.length + q.size)).toArray) := by
          refine mv_rowB A i hL hok (cur' := cur.take l.length ++ Lib.strCells q ++ cur.drop (l.length + q.size)) (mk' := mk) (setRow_heap w g cur.toArray _ e _ h1) ⟨rfl, rfl, rfl, by simp⟩ (fun k hk => setRow_other w g k _ hk) (by omega) ?_ ?_ hok' (by omega)
          · rw [List.length_append, List.length_append, List.length_take, List.length_drop, hcl]; omega
          · rw [h5, hsc, e1, flat_append]
            exact List.take_left' (by rw [List.length_append, hfl, ← hsc, hcl])
        rwa [e1] at hmv
    · have hcells : ∀ j u, (flat encB l)[j]? = some u → w.cell? ((⟨g, 0, none⟩ : Addr).add j) = some u := fun j u hj => by
        have hj' : j < l.length := by
          have := (List.getElem?_eq_some_iff.1 hj).1
          omega
        have hx' : l[j]? = some l[j] := by simp [hj']
        have hf := flat_at (enc := encB) (k := 1) (fun _ => rfl) l j _ hx' 0 (by omega)
        simp only [Nat.mul_one, Nat.add_zero] at hf
        rw [hj] at hf
        have : u = .int .u8 ((l[j] : Nat) : Int) := Option.some.inj hf
        rw [this, add_flat, Nat.zero_add]
        exact hO1.cellAt j _ hx'
      have hrun := Lib.run_append_grow_string (P := P) w t u ty e inf z E.ht hu hi hz0 ⟨g, 0, none⟩ l.length cap (flat encB l) (by rw [hz1, hfl, Nat.mul_one]) hcells q (by omega) (by omega) (by rw [hz2, hby]; exact growslice_fits (by omega) (by omega))
      have hge := grownCap_ge w (l.length + q.size) cap e
      have hcm : grownCap w (l.length + q.size) cap e ≤ maxLen := grownCap_le_maxLen w (l.length + q.size) cap e (by unfold maxLen; omega)
      refine ⟨some ⟨w.heap.size, 0, none⟩, l.length + q.size, grownCap w (l.length + q.size) cap e, w.drew.alloc (.cells ((flat encB l).toArray ++ (Lib.strCells q).toArray ++ Builtin.zeroCells z.cells (grownCap w (l.length + q.size) cap e - (l.length + q.size))) e), ?_, by rw [List.length_append, hbl], ?_⟩
      · subst hty
        simp [execOp, ho, resolve, invoke, builtin, hs, hx, hrun]
      · exact fresh _ _ _ hok' (heap_alloc_new w.drew _) ⟨rfl, rfl, rfl, by simp, fun k hk => heap_alloc_old w.drew _ hk⟩ hge hcm (by omega)
          (by simp only [Array.size_append, List.size_toArray, size_zeroCells, hz9, hfl, Lib.strCells_length]; omega)
          (by simp only [Array.toList_append, List.append_assoc]; rw [← List.append_assoc, flat_append, ← hsc]; exact List.take_left' (by rw [List.length_append, hfl, hcl]))
theorem f_appBs {t u e bytes : Nat} {z : Value} {s x : Operand} {v : Value} {l bs : List Nat} {q : ByteArray} (F : Fr n m a) (A : At w L) (i : Nat) (E : ElemT P t e z 1 bytes encB) (hu : P.underlying u = some .string) (hz : z = .int .u8 0) (hby : bytes = 1) (hL : nth L i = some (owB e v l)) (hsel : okSel L.length [i] = true) (hw : Region.wanted o (yielded ops a.tmps) = true) (hd : o.dst = some d)
    (ho : o.op = .call { callee := .builtin .append, args := #[s, x], argTypes := #[t, u] }) (hp : Nat.blt d n = true) (hs : a.eval s = v) (hx : a.eval x = .string q) (hbs : bs = q.data.toList.map (·.toNat)) (hbytes : l.length + q.size ≤ 140737488355328)
    (kk : ∀ b q' c a' w', Fr n ((d, .slice b q' c) :: m) a' → Mv L w ([owB e (.slice b q' c) (l ++ bs)] ++ del L [i]) w' → q' = (l ++ bs).length → K a' w') : st1 P ops Q o K a w := by
  obtain ⟨b, q', c, w', h1, h2, h3⟩ := r_appBs (o := o) (ρ := a.eval) E hu hz hby A i hL ho rfl hs hx hbs hbytes hsel
  exact s_valw hw hd h1 fun _ e' => kk _ _ _ _ _ (F.put e' hp) h3 h2
theorem froze_heap {g e n : Nat} {cur : Array Value} {mk : Nat × Nat} (h : w.heap[g]? = some (.cells cur e mk)) (hm : mk.2 ≤ n) (hn : n ≠ 0) : ∃ mk', (w.freeze ⟨g, 0, none⟩ n).heap[g]? = some (.cells cur e mk') ∧ mk'.2 ≤ n := by
  unfold World.freeze
  rw [if_neg hn]
  refine ⟨if mk.1 == mk.2 then (0, 0 + n) else (min mk.1 0, max mk.2 (0 + n)), ?_, ?_⟩
  · show (w.heap.modify g _)[g]? = _
    rw [Array.getElem?_modify, if_pos rfl, h]
    rfl
  · split
    · show 0 + n ≤ n; omega
    · show max mk.2 (0 + n) ≤ n; omega
theorem froze_others {g n q : Nat} (hq : q ≠ g) : (w.freeze ⟨g, 0, none⟩ n).heap[q]? = w.heap[q]? := by
  unfold World.freeze
  split
  · rfl
  · show (w.heap.modify g _)[q]? = _
    rw [Array.getElem?_modify, if_neg (Ne.symm hq)]
theorem mv_froze {e : Nat} {v : Value} {l : List Nat} (A : At w L) (i : Nat) {g cap : Nat} (hv : v = .slice (some ⟨g, 0, none⟩) l.length cap) (hL : nth L i = some (owB e v l)) (hsel : okSel L.length [i] = true) : Mv L w ([owB e v l] ++ del L [i]) (w.freeze ⟨g, 0, none⟩ l.length) := by
  subst hv
  have hO : OwnB e w (.slice (some ⟨g, 0, none⟩) l.length cap) l := A.ok _ (nth_mem hL)
  rcases hO with ⟨h, _⟩ | ⟨g', cap', cur, mk, e1, h1, h2, h3, h0, h4, h5, h6, h7⟩
  · cases h
  cases e1
  by_cases hn : l.length = 0
  · have e0 : w.freeze ⟨g, 0, none⟩ l.length = w := by unfold World.freeze; rw [if_pos hn]
    rw [e0]
    exact mv_rowB A i hL hsel h1 ⟨rfl, rfl, rfl, rfl⟩ (fun _ _ => rfl) h2 h4 h5 h6 h7
  · obtain ⟨mk', g1, g2⟩ := froze_heap h1 h7 hn
    refine mv_rowB A i hL hsel g1 ⟨?_, ?_, ?_, ?_⟩ (fun q hq => froze_others hq) h2 h4 h5 h6 g2 <;> (unfold World.freeze; rw [if_neg hn])
    simp
end
end Go.Proofs.YtipdbeklopjbmaaGreatDoor
/-
  Records: plain functions.
-/

namespace Go.Proofs.YtipdbeklopjbmaaGreatDoor
open Go.ChangeShapes Go.WideShapes Go.ChangeAt Go.RowKit
set_option maxRecDepth 100000
set_option maxHeartbeats 1000000

section
variable {P : Program} {ρ : Operand → Value} {w : World} {o : Oper} {x y z : Operand} {ts : Array TypeId}
end
section
variable {P : Program} {ops : Array Oper} {Q : Exit → Act → World → Prop} {K : Act → World → Prop} {o : Oper} {a : Act} {w : World} {L : List Atom} {d n : Nat} {m : List (Nat × Value)}
theorem f_sbytesX {src dst e : TypeId} {u : TypeDesc} {s : ByteArray} {x : Operand} (F : Fr n m a) (A : At w L) (hs : P.underlying src = some u) (hdt : P.underlying dst = some (.slice e)) (he : P.underlying e = some (.int .u8)) (hw : Region.wanted o (yielded ops a.tmps) = true) (hd : o.dst = some d) (ho : o.op = .convert src dst x) (hp : Nat.blt d n = true) (hx : a.eval x = .string s) (hz : s.size ≤ 9223372036854775807)
    (kk : ∀ b q c a' w', Fr n ((d, .slice (some ⟨b, 0, none⟩) q c) :: m) a' → Mv L w (owX e (.slice (some ⟨b, 0, none⟩) q c) (bytesN s) :: L) w' → q = s.size → K a' w') : st1 P ops Q o K a w := by
  have hO := bytesX (w := w) (e := e) s hz (bytesN s) (bytesN_length s) (bytesN_lt s) (fun i x hx => by
    unfold bytesN at hx
    rw [List.getElem?_map] at hx
    unfold List.getD
    cases hq : s.data.toList[i]? with
    | none => rw [hq] at hx; cases hx
    | some y => rw [hq] at hx; cases hx; rfl)
  have hM := At.frame (New := [owX e (.slice (some ⟨w.heap.size, 0, none⟩) s.size (grownCap w s.size 0 e)) (bytesN s)]) A [] rfl (mv_freshX (w := w) hO (fun b hb => by
    have : b = w.heap.size := by simpa [Value.ownBlock, eq_comm] using hb
    rw [this]; exact Nat.le_refl _) (Lib.bytesWorld_below w e s))
  rw [del_none] at hM
  refine s_valw hw hd (v := .slice (some ⟨w.heap.size, 0, none⟩) s.size (grownCap w s.size 0 e)) (w' := Lib.bytesWorld w e s) ?_ fun _ e' => kk _ _ _ _ _ (F.put e' hp) hM rfl
  simp [execOp, ho, hx, Lib.run_convert_string_bytes w src dst e s hs hdt he, Result.andThen]
end

def spN (c : Nat) : List Nat → List (List Nat)
  | [] => [[]]
  | x :: r => if x = c then [] :: spN c r else match spN c r with
    | [] => [[x]]
    | h :: t => (x :: h) :: t
theorem spN_no {c : Nat} : ∀ {a : List Nat}, c ∉ a → spN c a = [a]
  | [], _ => rfl
  | x :: r, h => by
    have h1 : x ≠ c := fun e => h (e ▸ List.mem_cons_self ..)
    rw [spN, if_neg h1, spN_no fun q => h (List.mem_cons_of_mem _ q)]
theorem spN_hit {c : Nat} : ∀ {a b : List Nat}, c ∉ a → spN c (a ++ c :: b) = a :: spN c b
  | [], b, _ => by rw [List.nil_append, spN, if_pos rfl]
  | x :: r, b, h => by
    have h1 : x ≠ c := fun e => h (e ▸ List.mem_cons_self ..)
    rw [List.cons_append, spN, if_neg h1, spN_hit fun q => h (List.mem_cons_of_mem _ q)]
theorem spN_words {c : Nat} {t : List Nat} (ht : c ∉ t) : ∀ {ws : List (List Nat)} {a : List Nat}, c ∉ a → (∀ w ∈ ws, c ∉ w) → spN c (a ++ (ws.flatMap (fun w => c :: w) ++ c :: t)) = a :: (ws ++ [t])
  | [], a, ha, _ => by
    rw [List.flatMap_nil, List.nil_append, spN_hit ha, spN_no ht]; rfl
  | w :: ws, a, ha, h => by
    rw [List.flatMap_cons, List.cons_append, List.cons_append, spN_hit ha, List.append_assoc, spN_words ht (h w (List.mem_cons_self ..)) fun q hq => h q (List.mem_cons_of_mem _ hq)]; rfl
theorem first_split {c : Nat} : ∀ {l : List Nat}, c ∈ l → ∃ a b, l = a ++ c :: b ∧ c ∉ a
  | x :: r, h => by
    by_cases e : x = c
    · exact ⟨[], r, by rw [e]; rfl, List.not_mem_nil⟩
    · obtain ⟨a, b, rfl, hn⟩ := first_split (l := r) ((List.mem_cons.1 h).resolve_left fun q => e q.symm)
      exact ⟨x :: a, b, rfl, fun q => (List.mem_cons.1 q).elim (fun q => e q.symm) hn⟩
def spS (c : Nat) (s : ByteArray) : List ByteArray := (spN c (bytesN s)).map bstr
theorem spN_ne (c : Nat) : ∀ l, spN c l ≠ []
  | [] => by rw [spN]; decide
  | x :: r => by
    rw [spN]
    split
    · exact List.cons_ne_nil _ _
    · cases spN c r <;> exact List.cons_ne_nil _ _
theorem spN_len (c : Nat) : ∀ l, (spN c l).length ≤ l.length + 1
  | [] => by rw [spN]; exact Nat.le_refl _
  | x :: r => by
    have ih := spN_len c r
    rw [spN]
    split
    · rw [List.length_cons, List.length_cons]; omega
    · cases e : spN c r with
      | nil => exact Nat.succ_le_succ (Nat.zero_le _)
      | cons q t =>
        rw [e] at ih
        simp only [List.length_cons] at *
        omega
def sumN (l : List Nat) : Nat := l.foldl (fun n c => (31 * n + c) % 9973) 7
theorem sumN_lt {l : List Nat} : sumN l < 9973 := by
  unfold sumN
  have : ∀ (l : List Nat) (n : Nat), n < 9973 → l.foldl (fun n c => (31 * n + c) % 9973) n < 9973 := by
    intro l
    induction l with
    | nil => exact fun n h => h
    | cons x l ih => exact fun n _ => ih _ (Nat.mod_lt _ (by decide))
  exact this l 7 (by decide)
def wordN (c : CellD) : List Nat := bytesN (hexS c.key) ++ 61 :: bytesN (hexS c.val)
def recN (seq : Int) (list : List CellD) : List Nat := bytesN (decS seq) ++ list.flatMap (fun c => 32 :: wordN c)
def recS (seq : Int) (list : List CellD) : ByteArray := bstr (recN seq list) ++ (⟨#[32, 35]⟩ : ByteArray) ++ decS ((sumN (recN seq list) : Nat) : Int) ++ (⟨#[10]⟩ : ByteArray)
def cellB (c : CellD) : Bool := keyOk c.key && decide (c.val.size ≤ 60)
def recT (seq : Int) (list : List CellD) : ByteArray := if inB seq 1 100000 = true ∧ list.all cellB = true ∧ (recS seq list).size ≤ 4000 then recS seq list else ⟨#[]⟩
theorem recN_snoc {seq : Int} {list : List CellD} {k : Nat} {c : CellD} (h : nth list k = some c) : recN seq (list.take (k + 1)) = recN seq (list.take k) ++ (32 :: wordN c) := by
  unfold recN
  rw [nth_take_snoc h, List.flatMap_append, List.append_assoc]
  simp
theorem recN_take (seq : Int) (list : List CellD) (k : Nat) : (recN seq (list.take k)).length ≤ (recN seq list).length := by
  unfold recN
  rw [List.length_append, List.length_append]
  have : (list.flatMap (fun c => 32 :: wordN c)) = ((list.take k).flatMap (fun c => 32 :: wordN c)) ++ ((list.drop k).flatMap (fun c => 32 :: wordN c)) := by
    rw [← List.flatMap_append, List.take_append_drop]
  rw [this, List.length_append]; omega
theorem recS_size (seq : Int) (list : List CellD) : (recN seq list).length ≤ (recS seq list).size := by
  unfold recS
  rw [ByteArray.size_append, ByteArray.size_append, ByteArray.size_append, bstr_size]; omega
theorem recT_no {seq : Int} {list : List CellD} (h : inB seq 1 100000 = false) : (⟨#[]⟩ : ByteArray) = recT seq list := (if_neg (fun g => by rw [h] at g; cases g.1)).symm
theorem recT_bad {seq : Int} {list : List CellD} {k : Nat} {c : CellD} (hc : nth list k = some c) (h : cellB c = false) : (⟨#[]⟩ : ByteArray) = recT seq list := (if_neg (fun g => by
  have := List.all_eq_true.1 g.2.1 c (nth_mem hc)
  rw [h] at this; cases this)).symm
theorem recT_long {seq : Int} {list : List CellD} {k n : Nat} (hn : n = (recN seq (list.take k)).length) (h : n > 4000) : (⟨#[]⟩ : ByteArray) = recT seq list := (if_neg (fun g => by
  have := recN_take seq list k
  have := recS_size seq list
  have := g.2.2
  omega)).symm
theorem recT_end {seq : Int} {list : List CellD} (h : (recS seq list).size > 4000) : (⟨#[]⟩ : ByteArray) = recT seq list := (if_neg (fun g => by have := g.2.2; omega)).symm
theorem recT_yes {seq : Int} {list : List CellD} (h1 : inB seq 1 100000 = true) (h2 : ∀ j, j < list.length → ∀ c, nth list j = some c → cellB c = true) (h3 : ¬ (recS seq list).size > 4000) : recS seq list = recT seq list := (if_pos ⟨h1, List.all_eq_true.2 fun c hc => by
  obtain ⟨j, hj, e⟩ := List.mem_iff_getElem.1 hc
  exact h2 j hj c (by rw [nth_eq, List.getElem?_eq_getElem hj, e]), by omega⟩).symm
def cutLN (l : List Nat) : List Nat := l.takeWhile (fun x => decide (x ≠ 61))
def cutRN (l : List Nat) : List Nat := (l.dropWhile (fun x => decide (x ≠ 61))).drop 1
def cutL_ (s : ByteArray) : ByteArray := bstr (cutLN (bytesN s))
def cutR_ (s : ByteArray) : ByteArray := bstr (cutRN (bytesN s))
def cellI (w : ByteArray) : CellD := ⟨unhexT (cutL_ w), unhexT (cutR_ w)⟩
def wds (text : ByteArray) : List ByteArray := spS 32 text
def midW (ws : List ByteArray) : List ByteArray := (ws.take (max ws.length 2 - 1)).drop 1
def decN (text : ByteArray) : Int := ((readN ((nth (wds text) 0).getD ⟨#[]⟩) : Nat) : Int)
def decC (text : ByteArray) : List CellD := (midW (wds text)).map cellI
def rrB (text : ByteArray) : Bool := decide (text.size ≤ 4000 ∧ text ≠ ⟨#[]⟩ ∧ recT (decN text) (decC text) = text)
def rrN (text : ByteArray) : Int := if rrB text = true then decN text else 0
def rrC (text : ByteArray) : List CellD := if rrB text = true then decC text else []
theorem takeWhile_hit {a b : List Nat} (h : 61 ∉ a) : cutLN (a ++ 61 :: b) = a ∧ cutRN (a ++ 61 :: b) = b := by
  induction a with
  | nil => exact ⟨rfl, rfl⟩
  | cons x r ih =>
    have h1 : x ≠ 61 := fun e => h (e ▸ List.mem_cons_self ..)
    have h2 := ih fun q => h (List.mem_cons_of_mem _ q)
    have hd : (decide (x ≠ 61)) = true := decide_eq_true h1
    unfold cutLN cutRN at *
    rw [List.cons_append, List.takeWhile_cons, List.dropWhile_cons, if_pos hd, if_pos hd]
    exact ⟨by rw [h2.1], h2.2⟩
theorem dec_no (n : Int) (hn : 0 ≤ n) {c : Nat} (hc : c < 48 ∨ 57 < c) : c ∉ bytesN (decS n) := by
  obtain ⟨m, rfl⟩ := Int.eq_ofNat_of_zero_le hn
  unfold bytesN
  intro h
  obtain ⟨x, hx, rfl⟩ := List.mem_map.1 h
  rw [decS_toList] at hx
  have := dec_all m x hx
  unfold isD at this
  omega
theorem hex_no (s : ByteArray) {c : Nat} (hc : c < 48 ∨ (57 < c ∧ c < 97)) : c ∉ bytesN (hexS s) := by
  rw [bytesN_hexS]
  unfold hexL
  intro h
  obtain ⟨x, hx, h⟩ := List.mem_flatMap.1 h
  have hb := bytesN_lt s x hx
  have hf : ∀ y, y < 16 → (48 ≤ fig y ∧ fig y ≤ 57) ∨ 97 ≤ fig y := fun y hy => by unfold fig; split <;> omega
  have h1 := hf (x / 16) (by omega)
  have h2 := hf (x % 16) (by omega)
  simp only [List.mem_cons, List.not_mem_nil, or_false] at h
  omega
theorem wordN_no (c : CellD) : 32 ∉ wordN c := by
  unfold wordN
  intro h
  rcases List.mem_append.1 h with h | h
  · exact hex_no _ (by omega) h
  · rcases List.mem_cons.1 h with h | h
    · cases h
    · exact hex_no _ (by omega) h
theorem bytesN_cat (a b : ByteArray) : bytesN (a ++ b) = bytesN a ++ bytesN b := by unfold bytesN; rw [toList_append, List.map_append]
theorem wordN_lt (c : CellD) : ∀ x ∈ wordN c, x < 256 := fun x h => by
  unfold wordN at h
  rcases List.mem_append.1 h with h | h
  · exact bytesN_lt _ x h
  · rcases List.mem_cons.1 h with h | h
    · omega
    · exact bytesN_lt _ x h
theorem recN_lt (seq : Int) (list : List CellD) : ∀ x ∈ recN seq list, x < 256 := fun x h => by
  unfold recN at h
  rcases List.mem_append.1 h with h | h
  · exact bytesN_lt _ x h
  · obtain ⟨c, _, h⟩ := List.mem_flatMap.1 h
    rcases List.mem_cons.1 h with h | h
    · omega
    · exact wordN_lt c x h
def tailN (seq : Int) (list : List CellD) : List Nat := 35 :: (bytesN (decS ((sumN (recN seq list) : Nat) : Int)) ++ [10])
theorem recS_bytes (seq : Int) (list : List CellD) : bytesN (recS seq list) = bytesN (decS seq) ++ ((list.map wordN).flatMap (fun w => 32 :: w) ++ 32 :: tailN seq list) := by
  unfold recS tailN
  rw [bytesN_cat, bytesN_cat, bytesN_cat, bytesN_bstr _ (recN_lt seq list)]
  unfold recN
  rw [List.flatMap_map, List.append_assoc, List.append_assoc, List.append_assoc]
  rfl
theorem recS_words {seq : Int} (list : List CellD) (h : 0 ≤ seq) : spN 32 (bytesN (recS seq list)) = bytesN (decS seq) :: (list.map wordN ++ [tailN seq list]) := by
  rw [recS_bytes]
  refine spN_words ?_ (dec_no seq h (by omega)) fun w hw => ?_
  · unfold tailN
    intro q
    rcases List.mem_cons.1 q with q | q
    · cases q
    · rcases List.mem_append.1 q with q | q
      · exact dec_no _ (by omega) (by omega) q
      · cases List.mem_singleton.1 q
  · obtain ⟨c, _, rfl⟩ := List.mem_map.1 hw
    exact wordN_no c
theorem bstr_bk (s : ByteArray) : bstr (bytesN s) = s := bytesN_inj (bytesN_bstr _ (bytesN_lt s))
theorem recS_wds {seq : Int} (list : List CellD) (h : 0 ≤ seq) : wds (recS seq list) = decS seq :: (list.map (fun c => bstr (wordN c)) ++ [bstr (tailN seq list)]) := by
  unfold wds spS
  rw [recS_words list h, List.map_cons, List.map_append, List.map_map, bstr_bk]; rfl
theorem midW_mid {a t : ByteArray} {ws : List ByteArray} : midW (a :: (ws ++ [t])) = ws := by
  unfold midW
  rw [show max (a :: (ws ++ [t])).length 2 - 1 = ws.length + 1 by rw [List.length_cons, List.length_append, List.length_singleton]; omega, List.take_succ_cons, List.drop_one, List.tail_cons]
  exact List.take_left' rfl
theorem recT_inv {seq : Int} {list : List CellD} {text : ByteArray} (h : recT seq list = text) (hne : text ≠ ⟨#[]⟩) : inB seq 1 100000 = true ∧ (∀ c ∈ list, cellB c = true) ∧ text = recS seq list ∧ text.size ≤ 4000 := by
  unfold recT at h
  split at h
  · rename_i g
    exact ⟨g.1, List.all_eq_true.1 g.2.1, h.symm, h ▸ g.2.2⟩
  · exact absurd h.symm hne
theorem rr_yes {text : ByteArray} (h : rrB text = true) : text.size ≤ 4000 ∧ text ≠ ⟨#[]⟩ ∧ recT (decN text) (decC text) = text := of_decide_eq_true h
theorem rr_words {text : ByteArray} (h : rrB text = true) : readB ((nth (wds text) 0).getD ⟨#[]⟩) = true ∧ ∀ w ∈ midW (wds text), ∃ a b, spN 61 (bytesN w) = [a, b] := by
  obtain ⟨_, h2, h3⟩ := rr_yes h
  obtain ⟨g1, g2, g3, g4⟩ := recT_inv h3 h2
  have hs := inB_bd g1
  have hw := recS_wds (seq := decN text) (decC text) (by omega)
  rw [← g3] at hw
  obtain ⟨n, hn⟩ := Int.eq_ofNat_of_zero_le (show 0 ≤ decN text by omega)
  refine ⟨?_, fun w hm => ?_⟩
  · rw [hw, hn]
    exact (read_yes (s := decS n) (n := n) (by omega) rfl).2
  · rw [hw, midW_mid] at hm
    obtain ⟨c, _, rfl⟩ := List.mem_map.1 hm
    rw [bytesN_bstr _ (wordN_lt c)]
    exact ⟨bytesN (hexS c.key), bytesN (hexS c.val), by
      unfold wordN
      rw [spN_hit (hex_no _ (by omega)), spN_no (hex_no _ (by omega))]⟩
theorem cut_two {l a b : List Nat} (h : spN 61 l = [a, b]) : cutLN l = a ∧ cutRN l = b := by
  have hm : 61 ∈ l := by
    apply Decidable.byContradiction
    intro hn
    rw [spN_no hn] at h
    cases h
  obtain ⟨p, q, rfl, hp⟩ := first_split hm
  rw [spN_hit hp] at h
  injection h with e1 e2
  subst e1
  have hq : 61 ∉ q := fun hq => by
    obtain ⟨r, s, rfl, hr⟩ := first_split hq
    rw [spN_hit hr] at e2
    injection e2 with _ e3
    exact absurd e3 (spN_ne 61 s)
  rw [spN_no hq] at e2
  injection e2 with e2
  subst e2
  exact takeWhile_hit hp
def segN (s : ByteArray) (b i : Nat) : List Nat := ((bytesN s).drop b).take (i - b)
theorem seg_str {s : ByteArray} {b i : Nat} : s.extract b i = bstr (segN s b i) := by
  apply bytesN_inj
  have h : ∀ x ∈ segN s b i, x < 256 := fun x hx => bytesN_lt s x (List.mem_of_mem_drop (List.mem_of_mem_take hx))
  rw [bytesN_bstr _ h]
  unfold bytesN segN
  rw [ByteArray.data_extract, Array.toList_extract, List.extract_eq_take_drop, List.map_take, List.map_drop]; rfl
theorem seg_split {s : ByteArray} {b i : Nat} (hb : b ≤ i) (hi : i < s.size) : (bytesN s).drop b = segN s b i ++ byteAt s i :: (bytesN s).drop (i + 1) := by
  have hl := bytesN_length s
  have e : byteAt s i = (bytesN s)[i]'(by omega) := by rw [byteAt_bytesN, List.getElem?_eq_getElem (by omega)]; rfl
  have h2 : (bytesN s).drop i = byteAt s i :: (bytesN s).drop (i + 1) := by rw [e]; exact List.drop_eq_getElem_cons (by omega)
  unfold segN
  rw [← h2]
  have := List.take_append_drop (i - b) ((bytesN s).drop b)
  rw [List.drop_drop, show b + (i - b) = i by omega] at this
  exact this.symm
theorem seg_snoc {s : ByteArray} {b i : Nat} (hb : b ≤ i) (hi : i < s.size) : segN s b (i + 1) = segN s b i ++ [byteAt s i] := by
  have hl := bytesN_length s
  unfold segN
  rw [show i + 1 - b = (i - b) + 1 by omega, List.take_add_one, List.getElem?_drop, show b + (i - b) = i by omega, List.getElem?_eq_getElem (by omega), byteAt_bytesN, List.getElem?_eq_getElem (by omega)]; rfl
theorem seg_all (s : ByteArray) (b : Nat) : segN s b s.size = (bytesN s).drop b := by
  unfold segN
  exact List.take_of_length_le (by rw [List.length_drop, bytesN_length]; exact Nat.le_refl _)
theorem seg_self (s : ByteArray) (b : Nat) : segN s b b = [] := by unfold segN; rw [Nat.sub_self]; rfl
def spInv (c : Nat) (s : ByteArray) (D : List ByteArray) (b i : Nat) : Prop := b ≤ i ∧ i ≤ s.size ∧ c ∉ segN s b i ∧ D ++ (spN c ((bytesN s).drop b)).map bstr = spS c s
theorem spInv.start (c : Nat) (s : ByteArray) : spInv c s [] 0 0 := ⟨Nat.le_refl _, Nat.zero_le _, by rw [seg_self]; exact List.not_mem_nil, rfl⟩
theorem spInv.on {c b i : Nat} {s : ByteArray} {D : List ByteArray} (h : spInv c s D b i) (hi : i < s.size) (hn : ¬ byteAt s i = c) : spInv c s D b (i + 1) := by
  obtain ⟨h1, h2, h3, h4⟩ := h
  refine ⟨by omega, by omega, ?_, h4⟩
  rw [seg_snoc h1 hi]
  intro q
  rcases List.mem_append.1 q with q | q
  · exact h3 q
  · exact hn (List.mem_singleton.1 q).symm
theorem spInv.cut {c b i : Nat} {s : ByteArray} {D : List ByteArray} (h : spInv c s D b i) (hi : i < s.size) (hn : byteAt s i = c) : spInv c s (D ++ [s.extract b i]) (i + 1) (i + 1) := by
  obtain ⟨h1, h2, h3, h4⟩ := h
  refine ⟨Nat.le_refl _, by omega, by rw [seg_self]; exact List.not_mem_nil, ?_⟩
  rw [seg_split h1 hi, hn, spN_hit h3, List.map_cons] at h4
  rw [← h4, List.append_assoc, seg_str]; rfl
theorem spInv.last {c b i : Nat} {s : ByteArray} {D : List ByteArray} (h : spInv c s D b i) (hi : i = s.size) : D ++ [s.extract b i] = spS c s := by
  obtain ⟨h1, h2, h3, h4⟩ := h
  subst hi
  rw [seg_all] at h3
  rw [spN_no h3] at h4
  rw [← h4, seg_str, seg_all]; rfl
def lnN (l : List Nat) : List (List Nat) := ((spN 10 l).dropLast).map (· ++ [10])
def lnS (s : ByteArray) : List ByteArray := (lnN (bytesN s)).map bstr
theorem lnN_no {a : List Nat} (h : 10 ∉ a) : lnN a = [] := by unfold lnN; rw [spN_no h]; rfl
theorem lnN_hit {a b : List Nat} (h : 10 ∉ a) : lnN (a ++ 10 :: b) = (a ++ [10]) :: lnN b := by
  unfold lnN
  rw [spN_hit h]
  have := spN_ne 10 b
  cases e : spN 10 b with
  | nil => exact absurd e this
  | cons x t => rfl
def lnInv (s : ByteArray) (D : List ByteArray) (b i : Nat) : Prop := b ≤ i ∧ i ≤ s.size ∧ 10 ∉ segN s b i ∧ D ++ (lnN ((bytesN s).drop b)).map bstr = lnS s
theorem lnInv.start (s : ByteArray) : lnInv s [] 0 0 := ⟨Nat.le_refl _, Nat.zero_le _, by rw [seg_self]; exact List.not_mem_nil, rfl⟩
theorem lnInv.on {b i : Nat} {s : ByteArray} {D : List ByteArray} (h : lnInv s D b i) (hi : i < s.size) (hn : ¬ byteAt s i = 10) : lnInv s D b (i + 1) := by
  obtain ⟨h1, h2, h3, h4⟩ := h
  refine ⟨by omega, by omega, ?_, h4⟩
  rw [seg_snoc h1 hi]
  intro q
  rcases List.mem_append.1 q with q | q
  · exact h3 q
  · exact hn (List.mem_singleton.1 q).symm
theorem lnInv.cut {b i : Nat} {s : ByteArray} {D : List ByteArray} (h : lnInv s D b i) (hi : i < s.size) (hn : byteAt s i = 10) : lnInv s (D ++ [s.extract b (i + 1)]) (i + 1) (i + 1) := by
  obtain ⟨h1, h2, h3, h4⟩ := h
  refine ⟨Nat.le_refl _, by omega, by rw [seg_self]; exact List.not_mem_nil, ?_⟩
  rw [seg_split h1 hi, hn, lnN_hit h3, List.map_cons] at h4
  rw [← h4, List.append_assoc, seg_str, seg_snoc h1 hi, hn]; rfl
theorem lnInv.done {b i : Nat} {s : ByteArray} {D : List ByteArray} (h : lnInv s D b i) (hi : i = s.size) : D = lnS s := by
  obtain ⟨h1, h2, h3, h4⟩ := h
  subst hi
  rw [seg_all] at h3
  rw [lnN_no h3, List.map_nil, List.append_nil] at h4
  exact h4
def rcGo (frm : Int) : List ByteArray → List (List CellD) → Nat → List (List CellD) × Nat
  | [], out, n => (out, n)
  | l :: ls, out, n => if rrB l = true then (if out = [] ∧ rrN l < frm then rcGo frm ls out (n + l.size) else if rrN l = frm + ((out.length : Nat) : Int) then rcGo frm ls (out ++ [rrC l]) (n + l.size) else (out, n)) else (out, n)
def recsIn (s : ByteArray) (frm : Int) : List (List CellD) × Nat := if inB frm 1 100000 = true then rcGo frm (lnS s) [] 0 else ([], 0)
theorem rc_drop {frm : Int} {L : List ByteArray} {k n : Nat} {out : List (List CellD)} {l : ByteArray} (hl : nth L k = some l) : rcGo frm (L.drop k) out n = (if rrB l = true then (if out = [] ∧ rrN l < frm then rcGo frm (L.drop (k + 1)) out (n + l.size) else if rrN l = frm + ((out.length : Nat) : Int) then rcGo frm (L.drop (k + 1)) (out ++ [rrC l]) (n + l.size) else (out, n)) else (out, n)) := by
  rw [nth_eq] at hl
  obtain ⟨hk, rfl⟩ := List.getElem?_eq_some_iff.1 hl
  rw [List.drop_eq_getElem_cons hk]; rfl
section
variable {frm : Int} {L : List ByteArray} {k n : Nat} {out : List (List CellD)} {l : ByteArray} {R : List (List CellD) × Nat}
theorem rc_bad (hl : nth L k = some l) (h : rcGo frm (L.drop k) out n = R) (hb : rrB l = false) : (out, n) = R := by rw [rc_drop hl, if_neg (by rw [hb]; decide)] at h; exact h
theorem rc_skip (hl : nth L k = some l) (h : rcGo frm (L.drop k) out n = R) (hb : rrB l = true) (h0 : out = []) (hs : rrN l < frm) : rcGo frm (L.drop (k + 1)) out (n + l.size) = R := by rw [rc_drop hl, if_pos hb, if_pos ⟨h0, hs⟩] at h; exact h
theorem rc_take (hl : nth L k = some l) (h : rcGo frm (L.drop k) out n = R) (hb : rrB l = true) (hs : rrN l = frm + ((out.length : Nat) : Int)) : rcGo frm (L.drop (k + 1)) (out ++ [rrC l]) (n + l.size) = R := by rw [rc_drop hl, if_pos hb, if_neg (fun q => by have := q.2; omega), if_pos hs] at h; exact h
theorem rc_stop (hl : nth L k = some l) (h : rcGo frm (L.drop k) out n = R) (hs : ¬ rrN l = frm + ((out.length : Nat) : Int)) (h2 : ¬ (out = [] ∧ rrN l < frm)) : (out, n) = R := by
  rw [rc_drop hl, if_neg h2, if_neg hs, ite_self] at h
  exact h
theorem rc_end (h : rcGo frm (L.drop k) out n = R) (hk : L.length ≤ k) : (out, n) = R := by rw [List.drop_eq_nil_of_le hk] at h; exact h
end
def putAll (s : List CellD) (l : List CellD) : List CellD := l.foldl (fun s c => putKey s c.key c.val) s
def putLists (s : List CellD) (ls : List (List CellD)) : List CellD := ls.foldl putAll s
theorem putAll_snoc {s l : List CellD} {k : Nat} {c : CellD} (h : nth l k = some c) : putAll s (l.take (k + 1)) = putKey (putAll s (l.take k)) c.key c.val := by
  unfold putAll
  rw [nth_take_snoc h, List.foldl_append]; rfl
theorem putLists_snoc {s : List CellD} {ls : List (List CellD)} {k : Nat} {l : List CellD} (h : nth ls k = some l) : putLists s (ls.take (k + 1)) = putAll (putLists s (ls.take k)) l := by
  unfold putLists
  rw [nth_take_snoc h, List.foldl_append]; rfl
theorem sum_step {s : ByteArray} {k : Nat} (h : k < s.size) : (31 * sumN ((bytesN s).take k) + byteAt s k) % 9973 = sumN ((bytesN s).take (k + 1)) := by
  have hl := bytesN_length s
  have e : (bytesN s).take (k + 1) = (bytesN s).take k ++ [byteAt s k] := by
    rw [List.take_add_one, byteAt_bytesN, List.getElem?_eq_getElem (by omega)]; rfl
  rw [e]
  unfold sumN
  rw [List.foldl_append]; rfl
theorem sum_all {s : ByteArray} {k : Nat} (h : k ≤ s.size) (h2 : ¬ k < s.size) : sumN ((bytesN s).take k) = sumN (bytesN s) := by rw [List.take_of_length_le (by rw [bytesN_length]; omega)]
def spI (c : Nat) (s : ByteArray) (D : List ByteArray) (b k : Nat) : Prop := D.length ≤ k ∧ k ≤ s.size + 1 ∧ (k ≤ s.size → spInv c s D b k) ∧ (k = s.size + 1 → D = spS c s)
theorem spI.start (c : Nat) (s : ByteArray) : spI c s [] 0 0 := ⟨Nat.le_refl _, Nat.zero_le _, fun _ => spInv.start c s, fun h => by omega⟩
section
variable {c b k : Nat} {s : ByteArray} {D : List ByteArray}
theorem spI.le (h : spI c s D b k) (hk : k ≤ s.size) : b ≤ k := (h.2.2.1 hk).1
theorem spI.on (h : spI c s D b k) (hk : k ≤ s.size) (h1 : ¬ k = s.size) (h2 : ¬ byteAt s k = c) : spI c s D b (k + 1) := ⟨by have := h.1; omega, by omega, fun _ => (h.2.2.1 hk).on (by omega) h2, fun e => by omega⟩
theorem spI.cut (h : spI c s D b k) (hk : k ≤ s.size) (h1 : ¬ k = s.size) (h2 : byteAt s k = c) : spI c s (D ++ [s.extract b k]) (k + 1) (k + 1) := ⟨by have := h.1; rw [List.length_append, List.length_singleton]; omega, by omega, fun _ => (h.2.2.1 hk).cut (by omega) h2, fun e => by omega⟩
theorem spI.last (h : spI c s D b k) (h1 : k = s.size) : spI c s (D ++ [s.extract b k]) (k + 1) (k + 1) := ⟨by have := h.1; rw [List.length_append, List.length_singleton]; omega, by omega, fun e => by omega, fun _ => (h.2.2.1 (by omega)).last h1⟩
theorem spI.done (h : spI c s D b k) (h1 : ¬ k ≤ s.size) : D = spS c s := h.2.2.2 (by have := h.2.1; omega)
theorem lnInv.len (h : lnInv s D b k) : D.length ≤ (lnS s).length := by rw [← h.2.2.2, List.length_append]; omega
end
theorem spS_len (c : Nat) (s : ByteArray) : 1 ≤ (spS c s).length ∧ (spS c s).length ≤ s.size + 1 := by
  unfold spS
  rw [List.length_map]
  have := spN_len c (bytesN s)
  have h2 := List.length_pos_iff.2 (spN_ne c (bytesN s))
  rw [bytesN_length] at this
  omega
theorem lnS_len (s : ByteArray) : (lnS s).length ≤ s.size := by
  unfold lnS lnN
  rw [List.length_map, List.length_map, List.length_dropLast]
  have := spN_len 10 (bytesN s)
  rw [bytesN_length] at this
  omega
theorem cellB_1 {c : CellD} (h : (!keyOk c.key) = true) : cellB c = false := by unfold cellB; rw [nt h]; rfl
theorem cellB_2 {c : CellD} (h : c.val.size > 60) : cellB c = false := by unfold cellB; rw [decide_eq_false (by omega), Bool.and_false]
theorem cellB_yes {c : CellD} (h1 : (!keyOk c.key) = false) (h2 : ¬ c.val.size > 60) : cellB c = true := by unfold cellB; rw [nf h1, decide_eq_true (by omega)]; rfl
theorem rec_step {seq : Int} {list : List CellD} {D : List Nat} {k : Nat} {c : CellD} (hD : D = recN seq (list.take k)) (h : nth list k = some c) : D ++ [32] ++ bytesN (hexS c.key) ++ [61] ++ bytesN (hexS c.val) = recN seq (list.take (k + 1)) := by
  rw [recN_snoc h, hD]
  unfold wordN
  simp [List.append_assoc]
theorem rec_all {list : List CellD} {k : Nat} (h : ∀ j, j < k → ∀ c, nth list j = some c → cellB c = true) {c : CellD} (hc : nth list k = some c) (hb : cellB c = true) : ∀ j, j < k + 1 → ∀ c, nth list j = some c → cellB c = true := fun j hj d hd => by
  rcases Nat.lt_or_ge j k with h1 | h1
  · exact h j h1 d hd
  · have : j = k := by omega
    subst this
    rw [hc] at hd
    cases hd
    exact hb
theorem rec_s {seq : Int} {list : List CellD} {D : List Nat} {k : Nat} (hD : D = recN seq (list.take k)) (hk : list.length ≤ k) : ((bstr D ++ (⟨#[32, 35]⟩ : ByteArray)) ++ decS ((sumN (bytesN (bstr D)) : Nat) : Int)) ++ (⟨#[10]⟩ : ByteArray) = recS seq list := by
  rw [List.take_of_length_le hk] at hD
  subst hD
  rw [bytesN_bstr _ (recN_lt seq list)]; rfl
end Go.Proofs.YtipdbeklopjbmaaGreatDoor
/-
  strings.Split, strings.Cut at a sign of one byte: they ask nothing of the library's variables. strings.Builder.String of a builder that holds something: the world behind it to the letter.
-/

namespace Go.Proofs.YtipdbeklopjbmaaGreatDoor
open Go.ChangeShapes Go.WideShapes Go.ChangeAt Go.RowKit Go.Shelf Go.Lib
section
variable {P : Program} {ρ : Ren}
theorem gen_split_one (L : Lays.n221 P ρ) (hi9 : (P.info? (ρ.t 9)).map (fun i => (i.zero, i.size, i.bytes)) = some (some (.string ByteArray.empty), 1, 16)) (s : ByteArray) (c : UInt8) (n : Int) (N : Nat) (w : World)
    (hs : s.size < 4294967281) (hn0 : n ≠ 0) (hn63 : n ≤ 9223372036854775807) (hN : (N : Int) = min (if n < 0 then (Lib.countB s ⟨#[c]⟩ : Int) + 1 else n) ((s.size : Int) + 1)) :
    Calls P (ρ.f 221) #[.string s, .string ⟨#[c]⟩, .int .i64 ((0 : Nat) : Int), .int .i64 n] w fun e w' =>
      e = .returned (.slice (some ⟨w.heap.size, 0, none⟩) (Lib.splitB ⟨#[c]⟩ 0 (N - 1) s).length N) ∧ w' = w.alloc (.cells (Lib.cellsOf (Lib.splitB ⟨#[c]⟩ 0 (N - 1) s) N) (ρ.t 9)) :=
  Any.strings_genSplit_core L hi9 s ⟨#[c]⟩ 0 n N w hs (Nat.le_refl 1) (Nat.zero_le _)
    (fun x d hx => (Any.strings_Index_one { L with } x c _).mono fun e w' ⟨h1, h2⟩ => ⟨by rw [h1]; show _ = Ending.returned (Value.int .i64 (Lib.index x.data.toList [c])); rw [Lib.index_one], h2⟩)
    ((Any.strings_Count_one { L with } s c w).mono fun e w' ⟨h1, h2⟩ => ⟨by
      rw [h1]
      show _ = Ending.returned (Value.int .i64 ((Lib.count s.data.toList [c] : Nat) : Int))
      rw [Lib.count_one]
      rfl, h2⟩) hn0 hn63 hN
set_option maxHeartbeats 1000000 in
theorem split_one (L : LaysM.n146 P ρ) (s : ByteArray) (c : UInt8) (w : World) (hs : s.size < 4294967281) :
    Calls P (ρ.f 146) #[.string s, .string ⟨#[c]⟩] w fun e w' =>
      e = .returned (.slice (some ⟨w.heap.size, 0, none⟩) (Lib.countB s ⟨#[c]⟩ + 1) (Lib.countB s ⟨#[c]⟩ + 1)) ∧ w' = w.alloc (.cells ((Lib.splitB ⟨#[c]⟩ 0 (Lib.countB s ⟨#[c]⟩) s).map Value.string).toArray (ρ.t 9)) := by
  have hle := Lib.countB_le ⟨#[c]⟩ (Nat.le_refl 1) s.size s (Nat.le_refl _)
  have hlen := Lib.splitB_all ⟨#[c]⟩ (Nat.le_refl 1) 0 _ s rfl
  have k := gen_split_one { L with } L.i9 s c (-1) (Lib.countB s ⟨#[c]⟩ + 1) w hs (by decide) (by decide) (by rw [if_pos (by decide)]; omega)
  rw [Nat.add_sub_cancel, hlen] at k
  have e2 : Lib.cellsOf (Lib.splitB ⟨#[c]⟩ 0 (Lib.countB s ⟨#[c]⟩) s) (Lib.countB s ⟨#[c]⟩ + 1) = ((Lib.splitB ⟨#[c]⟩ 0 (Lib.countB s ⟨#[c]⟩) s).map Value.string).toArray := by rw [← hlen]; exact Lib.cellsOf_full _
  rw [e2] at k
  have t3 := L.t3; have t9 := L.t9; have t31 := L.t31
  have a3 := L.a3; have a9 := L.a9; have a31 := L.a31
  have z3 := L.z3; have v3 := L.v3; have z9 := L.z9; have v9 := L.v9; have z31 := L.z31; have v31 := L.v31
  have e221 : ∀ args w, (callFunc (ρ.f 221) args).run P w = .ok (.enter (ρ.f 221) args) w := enters_of L.f221 (by kernel_rfl) rfl
  go_enter L.f146, Body.n146_ntmps ρ
  go_wp2_with (go_at_fn (ρ.f 221); refine k.mono ?_; rintro e w' ⟨rfl, hw⟩; rw [hw])
  go_ret
  exact ⟨rfl, rfl⟩
theorem index_lite_one (L : Lays.n219 P ρ) (s sep : ByteArray) (c : UInt8) (h : sep = ⟨#[c]⟩) (w : World) :
    Calls P (ρ.f 219) #[.string s, .string sep] w fun e w' => e = .returned (.int .i64 (Lib.index s.data.toList sep.data.toList)) ∧ w' = w := by
  subst h
  exact (Any.stringslite_Index_one L s c w).mono fun e w' ⟨h1, h2⟩ => ⟨by rw [h1]; show _ = Ending.returned (Value.int .i64 (Lib.index s.data.toList [c])); rw [Lib.index_one], h2⟩
set_option maxHeartbeats 2000000 in
set_option maxRecDepth 100000 in
theorem cut_lite_one (L : Lays.n220 P ρ) (s sep : ByteArray) (hI : ∀ w, Calls P (ρ.f 219) #[.string s, .string sep] w fun e w' => e = .returned (.int .i64 (Lib.index s.data.toList sep.data.toList)) ∧ w' = w) (w : World) (hs : s.size < 4294967281) :
    Calls P (ρ.f 220) #[.string s, .string sep] w fun e w' => e = .returned (.tuple #[.string ⟨(Lib.cut s.data.toList sep.data.toList).1.toArray⟩, .string ⟨(Lib.cut s.data.toList sep.data.toList).2.1.toArray⟩, .bool (Lib.cut s.data.toList sep.data.toList).2.2]) ∧ ∃ n, w' = w.drewN n := by
  rcases Lib.indexB_cases s sep with hix | ⟨i, hix, hroom⟩
  · obtain ⟨e1, e2, e3⟩ := Lib.cutB_miss s sep hix
    rw [e1, e2, e3]
    have t3 := L.t3; have t4 := L.t4; have t9 := L.t9
    have a3 : ∀ w, (isAgg (ρ.t 3)).run P w = .ok false w := run_isAgg_plain L.t3 rfl; have a4 : ∀ w, (isAgg (ρ.t 4)).run P w = .ok false w := run_isAgg_plain L.t4 rfl; have a9 : ∀ w, (isAgg (ρ.t 9)).run P w = .ok false w := run_isAgg_plain L.t9 rfl
    have e219 : ∀ args w, (callFunc (ρ.f 219) args).run P w = .ok (.enter (ρ.f 219) args) w := enters_of L.f219 (by kernel_rfl) rfl
    have mixed := L.mixed; have z3 := L.z3; have v3 := L.v3; have z4 := L.z4; have v4 := L.v4; have z9 := L.z9; have v9 := L.v9
    go_enter L.f220, Body.n220_ntmps ρ
    go_wp2_with (go_at_fn (ρ.f 219); refine (hI _).mono ?_; rintro e w' ⟨rfl, rfl⟩; rw [show Lib.index s.data.toList sep.data.toList = _ from hix])
    go_ret3
    exact ⟨rfl, 0, rfl⟩
  · obtain ⟨e1, e2, e3⟩ := Lib.cutB_hit s sep i hix
    rw [e1, e2, e3]
    have c1 : (0 : Int) ≤ ↑i := by omega
    have c2 : (↑i : Int) ≤ ↑s.size := by omega
    have c3 : (0 : Int) ≤ ↑i + ↑sep.size := by omega
    have c4 : (↑i + ↑sep.size : Int) ≤ ↑s.size := by omega
    have t3 := L.t3; have t4 := L.t4; have t9 := L.t9
    have a3 : ∀ w, (isAgg (ρ.t 3)).run P w = .ok false w := run_isAgg_plain L.t3 rfl; have a4 : ∀ w, (isAgg (ρ.t 4)).run P w = .ok false w := run_isAgg_plain L.t4 rfl; have a9 : ∀ w, (isAgg (ρ.t 9)).run P w = .ok false w := run_isAgg_plain L.t9 rfl
    have e219 : ∀ args w, (callFunc (ρ.f 219) args).run P w = .ok (.enter (ρ.f 219) args) w := enters_of L.f219 (by kernel_rfl) rfl
    have mixed := L.mixed; have z3 := L.z3; have v3 := L.v3; have z4 := L.z4; have v4 := L.v4; have z9 := L.z9; have v9 := L.v9
    go_enter L.f220, Body.n220_ntmps ρ
    go_wp2_with (go_at_fn (ρ.f 219); refine (hI _).mono ?_; rintro e w' ⟨rfl, rfl⟩; rw [show Lib.index s.data.toList sep.data.toList = _ from hix])
    go_region_o
    go_wp2
    go_ret3
    exact ⟨rfl, 1, rfl⟩
set_option maxHeartbeats 1000000 in
theorem cut_one1 (L : Lays.n145 P ρ) (s sep : ByteArray) (hC : ∀ w, Calls P (ρ.f 220) #[.string s, .string sep] w fun e w' => e = .returned (.tuple #[.string ⟨(Lib.cut s.data.toList sep.data.toList).1.toArray⟩, .string ⟨(Lib.cut s.data.toList sep.data.toList).2.1.toArray⟩, .bool (Lib.cut s.data.toList sep.data.toList).2.2]) ∧ ∃ n, w' = w.drewN n) (w : World) :
    Calls P (ρ.f 145) #[.string s, .string sep] w fun e w' => e = .returned (.tuple #[.string ⟨(Lib.cut s.data.toList sep.data.toList).1.toArray⟩, .string ⟨(Lib.cut s.data.toList sep.data.toList).2.1.toArray⟩, .bool (Lib.cut s.data.toList sep.data.toList).2.2]) ∧ ∃ n, w' = w.drewN n := by
  have t4 := L.t4; have t9 := L.t9; have t59 := L.t59
  have a4 : ∀ w, (isAgg (ρ.t 4)).run P w = .ok false w := run_isAgg_plain L.t4 rfl; have a9 : ∀ w, (isAgg (ρ.t 9)).run P w = .ok false w := run_isAgg_plain L.t9 rfl; have a59 : ∀ w, (isAgg (ρ.t 59)).run P w = .ok false w := run_isAgg_plain L.t59 rfl
  have e220 : ∀ args w, (callFunc (ρ.f 220) args).run P w = .ok (.enter (ρ.f 220) args) w := enters_of L.f220 (by kernel_rfl) rfl
  have mixed := L.mixed; have z4 := L.z4; have v4 := L.v4; have z9 := L.z9; have v9 := L.v9; have z59 := L.z59; have v59 := L.v59
  go_enter L.f145, Body.n145_ntmps ρ
  go_wp2_with (go_at_fn (ρ.f 220); refine (hC _).mono ?_; rintro e w' ⟨rfl, n, rfl⟩)
  go_ret3
  exact ⟨rfl, n, rfl⟩
theorem cut_one (L : Lays.n145 P ρ) (s sep : ByteArray) (c : UInt8) (h : sep = ⟨#[c]⟩) (w : World) (hs : s.size < 4294967281) :
    Calls P (ρ.f 145) #[.string s, .string sep] w fun e w' => e = .returned (.tuple #[.string ⟨(Lib.cut s.data.toList sep.data.toList).1.toArray⟩, .string ⟨(Lib.cut s.data.toList sep.data.toList).2.1.toArray⟩, .bool (Lib.cut s.data.toList sep.data.toList).2.2]) ∧ ∃ n, w' = w.drewN n :=
  cut_one1 L s sep (fun w => cut_lite_one { L with } s sep (fun w => index_lite_one { L with } s sep c h w) w hs) w
end
end Go.Proofs.YtipdbeklopjbmaaGreatDoor
