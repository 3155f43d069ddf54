/-
  Texts laid together: DatRd, Eng15, Eng16, DatRe, GenF.
-/
import Derived.Test.YtipdbeklopjbmaaGreatDoorP09
import Derived.RangeFuncIn
import Derived.RangeFuncRecord
import Derived.RangeFuncSeq
import Derived.RangeFuncCalls
import Derived.Test.YtipdbeklopjbmaaGreatDoorP04
import Derived.Shelf.Strings.BuilderF
import Derived.Test.YtipdbeklopjbmaaGreatDoorP06
/-
  Texts in parts, as the library parts them.
-/

namespace Go.Proofs.YtipdbeklopjbmaaGreatDoor
open Go.ChangeShapes Go.WideShapes Go.ChangeAt Go.RowKit
set_option maxRecDepth 100000
set_option maxHeartbeats 1000000

theorem mv_strs (w : World) (e : Nat) (l : List ByteArray) (hl : l.length ≤ 4294967296) (hok : ∀ x ∈ l, okS x) : Mv [] w [ow e 1 encS okS (.slice (some ⟨w.heap.size, 0, none⟩) l.length l.length) l] (w.alloc (.cells (l.map Value.string).toArray e)) := by
  have hf : flat encS l = l.map Value.string := by
    unfold flat
    induction l with
    | nil => rfl
    | cons x l ih => rw [List.flatMap_cons, List.map_cons, ih (by rw [List.length_cons] at hl; omega) fun y hy => hok y (List.mem_cons_of_mem _ hy)]; rfl
  refine Bl.mv_new (At.one (Own.ofRow (fun _ => rfl) hok rfl (heap_alloc_new _ _) (Nat.le_refl _) (by unfold maxLen; omega) (by simp) (by rw [Nat.mul_one, hf]; exact List.take_of_length_le (by simp))) (fun b hb => ?_)) (fun b ⟨B, hB, hb⟩ => ?_) ((Bl.refl w).alloc _)
  · have : w.heap.size = b := Option.some.inj hb
    subst this; simp
  · rcases List.mem_singleton.1 hB with rfl
    have : w.heap.size = b := Option.some.inj hb
    omega
theorem idx_no {c : UInt8} : ∀ {l : List UInt8}, c ∉ l → Lib.indexByte l c = -1
  | [], _ => rfl
  | b :: l, h => by
    have h1 : (b == c) = false := beq_eq_false_iff_ne.2 fun e => h (e ▸ List.mem_cons_self ..)
    show (if b == c then 0 else if Lib.indexByte l c == -1 then -1 else Lib.indexByte l c + 1) = -1
    rw [idx_no fun q => h (List.mem_cons_of_mem _ q), h1]
    first | done | rfl
theorem idx_hit {c : UInt8} : ∀ {a b : List UInt8}, c ∉ a → Lib.indexByte (a ++ c :: b) c = (a.length : Int)
  | [], b, _ => by
    show (if c == c then 0 else _) = _
    rw [if_pos (by simp)]; rfl
  | x :: r, b, h => by
    have h1 : (x == c) = false := beq_eq_false_iff_ne.2 fun e => h (e ▸ List.mem_cons_self ..)
    have ih := idx_hit (b := b) fun q => h (List.mem_cons_of_mem _ q)
    show (if x == c then 0 else if Lib.indexByte (r ++ c :: b) c == -1 then -1 else Lib.indexByte (r ++ c :: b) c + 1) = _
    rw [ih, h1, if_neg (by decide), if_neg (by simp <;> omega), List.length_cons]; omega
theorem split_cases (s : ByteArray) (c : UInt8) : (Lib.indexB s ⟨#[c]⟩ = -1 ∧ c ∉ s.data.toList) ∨ ∃ a b : List UInt8, s.data.toList = a ++ c :: b ∧ c ∉ a ∧ Lib.indexB s ⟨#[c]⟩ = (a.length : Int) := by
  have e : Lib.indexB s ⟨#[c]⟩ = Lib.indexByte s.data.toList c := Lib.index_one _ c
  by_cases h : c ∈ s.data.toList
  · obtain ⟨a, b, h1, h2⟩ := List.eq_append_cons_of_mem h
    exact .inr ⟨a, b, h1, h2, by rw [e, h1]; exact idx_hit h2⟩
  · exact .inl ⟨by rw [e]; exact idx_no h, h⟩
theorem mem_nat {c : UInt8} {l : List UInt8} (h : c ∉ l) : c.toNat ∉ l.map (·.toNat) := fun q => by
  obtain ⟨x, hx, e⟩ := List.mem_map.1 q
  have e2 : x = c := UInt8.toNat_inj.1 e
  exact h (e2 ▸ hx)
theorem bytesN_of {s : ByteArray} {l : List UInt8} (h : s.data.toList = l) : bytesN s = l.map (·.toNat) := by unfold bytesN; rw [h]
theorem of_bytes {s : ByteArray} {l : List UInt8} (h : s.data.toList = l) : s = bstr (l.map (·.toNat)) := by rw [← bytesN_of h, bstr_bk]
theorem ext_list (s : ByteArray) (i j : Nat) : (s.extract i j).data.toList = (s.data.toList.drop i).take (j - i) := by
  rw [ByteArray.data_extract, Array.toList_extract, List.extract_eq_take_drop]
theorem size_list (s : ByteArray) : s.size = s.data.toList.length := rfl
theorem sp_no {s : ByteArray} {c : UInt8} (h : c ∉ s.data.toList) : spS c.toNat s = [s] := by
  unfold spS
  rw [bytesN_of rfl, spN_no (mem_nat h), List.map_singleton, ← of_bytes rfl]
theorem split_sp (c : UInt8) : ∀ (k : Nat) (s : ByteArray), s.data.toList.count c ≤ k → Lib.splitB ⟨#[c]⟩ 0 k s = spS c.toNat s := by
  intro k
  induction k with
  | zero => exact fun s h => (sp_no (List.count_eq_zero.1 (by omega))).symm
  | succ k ih =>
    intro s h
    rcases split_cases s c with ⟨h1, h2⟩ | ⟨a, b, h1, h2, h3⟩
    · rw [Lib.splitB_miss _ _ _ _ h1, sp_no h2]
    · show (if Lib.indexB s ⟨#[c]⟩ == -1 then [s] else s.extract 0 ((Lib.indexB s ⟨#[c]⟩).toNat + 0) :: Lib.splitB ⟨#[c]⟩ 0 k (s.extract ((Lib.indexB s ⟨#[c]⟩).toNat + 1) s.size)) = _
      have hz := size_list s
      rw [h1, List.length_append, List.length_cons] at hz
      rw [h3, if_neg (by simp <;> omega), Int.toNat_natCast, Nat.add_zero]
      have e1 : (s.extract 0 a.length).data.toList = a := by
        rw [ext_list, h1, List.drop_zero, Nat.sub_zero, List.take_left' rfl]
      have e2 : (s.extract (a.length + 1) s.size).data.toList = b := by
        rw [ext_list, h1, List.take_of_length_le (by rw [List.length_drop, List.length_append, List.length_cons]; omega), show a ++ c :: b = (a ++ [c]) ++ b by simp]
        exact List.drop_left' (by simp)
      rw [ih _ (by rw [e2]; rw [h1, List.count_append, List.count_cons_self] at h; omega)]
      unfold spS
      rw [bytesN_of h1, bytesN_of e2, List.map_append, List.map_cons, spN_hit (mem_nat h2), List.map_cons, ← of_bytes e1]
theorem spN_part {c : Nat} : ∀ {l p : List Nat}, p ∈ spN c l → p.length ≤ l.length
  | [], p, h => by rw [List.mem_singleton.1 h]; exact Nat.le_refl _
  | x :: r, p, h => by
    have ih := fun {p} => spN_part (c := c) (l := r) (p := p)
    rw [spN] at h
    rw [List.length_cons]
    split at h
    · rcases List.mem_cons.1 h with rfl | h
      · exact Nat.zero_le _
      · have := ih h; omega
    · cases e : spN c r with
      | nil => exact absurd e (spN_ne c r)
      | cons q t =>
        rw [e] at h ih
        rcases List.mem_cons.1 h with rfl | h
        · have := ih (List.mem_cons_self ..)
          rw [List.length_cons]; omega
        · have := ih (List.mem_cons_of_mem _ h); omega
theorem spS_part {c : Nat} {s x : ByteArray} (h : x ∈ spS c s) : x.size ≤ s.size := by
  unfold spS at h
  obtain ⟨p, hp, rfl⟩ := List.mem_map.1 h
  have := spN_part hp
  rw [bstr_size]
  rw [bytesN_length] at this
  exact this
theorem lib_split (c : UInt8) (s : ByteArray) : Lib.splitB ⟨#[c]⟩ 0 (Lib.countB s ⟨#[c]⟩) s = spS c.toNat s ∧ Lib.countB s ⟨#[c]⟩ + 1 = (spS c.toNat s).length := by
  have e : Lib.splitB ⟨#[c]⟩ 0 (Lib.countB s ⟨#[c]⟩) s = spS c.toNat s := split_sp c _ s (Nat.le_of_eq (Lib.count_one c _).symm)
  exact ⟨e, by rw [← e, Lib.splitB_all ⟨#[c]⟩ (Nat.le_refl 1) 0 _ s rfl]⟩
theorem tw_all : ∀ {l : List Nat}, (∀ x ∈ l, x ≠ 61) → cutLN l = l ∧ cutRN l = []
  | [], _ => ⟨rfl, rfl⟩
  | x :: r, h => by
    have h2 := tw_all fun y hy => h y (List.mem_cons_of_mem _ hy)
    have hd : (decide (x ≠ 61)) = true := decide_eq_true (h x (List.mem_cons_self ..))
    unfold cutLN cutRN at *
    rw [List.takeWhile_cons, List.dropWhile_cons, if_pos hd, if_pos hd]
    exact ⟨by rw [h2.1], h2.2⟩
theorem lib_cut (s : ByteArray) : (⟨(Lib.cut s.data.toList (⟨#[61]⟩ : ByteArray).data.toList).1.toArray⟩ : ByteArray) = cutL_ s ∧ (⟨(Lib.cut s.data.toList (⟨#[61]⟩ : ByteArray).data.toList).2.1.toArray⟩ : ByteArray) = cutR_ s ∧ (Lib.cut s.data.toList (⟨#[61]⟩ : ByteArray).data.toList).2.2 = decide (61 ∈ bytesN s) := by
  rcases split_cases s 61 with ⟨h1, h2⟩ | ⟨a, b, h1, h2, h3⟩
  · obtain ⟨e1, e2, e3⟩ := Lib.cutB_miss s ⟨#[61]⟩ h1
    have hn : 61 ∉ bytesN s := by rw [bytesN_of rfl]; exact mem_nat (c := 61) h2
    obtain ⟨t1, t2⟩ := tw_all fun x hx e => hn (e ▸ hx)
    rw [e1, e2, e3]
    refine ⟨?_, ?_, (decide_eq_false hn).symm⟩
    · unfold cutL_; rw [t1, bstr_bk]
    · unfold cutR_; rw [t2]; rfl
  · obtain ⟨e1, e2, e3⟩ := Lib.cutB_hit s ⟨#[61]⟩ _ h3
    have hz := size_list s
    rw [h1, List.length_append, List.length_cons] at hz
    have g1 : (s.extract 0 a.length).data.toList = a := by
      rw [ext_list, h1, List.drop_zero, Nat.sub_zero, List.take_left' rfl]
    have g2 : (s.extract (a.length + (⟨#[61]⟩ : ByteArray).size) s.size).data.toList = b := by
      show (s.extract (a.length + 1) s.size).data.toList = b
      rw [ext_list, h1, List.take_of_length_le (by rw [List.length_drop, List.length_append, List.length_cons]; omega), show a ++ 61 :: b = (a ++ [61]) ++ b by simp]
      exact List.drop_left' (by simp)
    have hb : bytesN s = a.map (·.toNat) ++ 61 :: b.map (·.toNat) := by rw [bytesN_of h1, List.map_append, List.map_cons]; rfl
    have ht := takeWhile_hit (a := a.map (·.toNat)) (b := b.map (·.toNat)) (mem_nat (c := 61) h2)
    rw [e1, e2, e3]
    refine ⟨?_, ?_, (decide_eq_true (by rw [hb]; exact List.mem_append_right _ (List.mem_cons_self ..))).symm⟩
    · unfold cutL_; rw [hb, ht.1, of_bytes g1]
    · unfold cutR_; rw [hb, ht.2, of_bytes g2]
theorem cutL_size (s : ByteArray) : (cutL_ s).size ≤ s.size := by
  unfold cutL_ cutLN
  rw [bstr_size]
  exact Nat.le_trans (List.Sublist.length_le (List.takeWhile_sublist _)) (Nat.le_of_eq (bytesN_length s))
theorem cutR_size (s : ByteArray) : (cutR_ s).size ≤ s.size := by
  unfold cutR_ cutRN
  rw [bstr_size, List.length_drop]
  have := List.Sublist.length_le (List.dropWhile_sublist (fun x => decide (x ≠ 61)) (l := bytesN s))
  rw [bytesN_length] at this
  omega
end Go.Proofs.YtipdbeklopjbmaaGreatDoor
/-
  A range over a function, told by pieces: the loop's record and the block for its deferred calls are pieces too.
-/

namespace Go.Proofs.YtipdbeklopjbmaaGreatDoor
open Go.ChangeShapes Go.WideShapes Go.ChangeAt Go.RowKit
section
variable {w w' : World} {E L L' X : List Atom}
def ob (b : Nat) (o : Obj) : Atom where
  fp := fun c => c = b
  ok := fun w => w.heap[b]? = some o
  st := fun _ _ h k => (h b rfl).trans k
theorem mv_in (A : At w (E ++ (L ++ X))) (m : Mv L w L' w') : Mv (E ++ (L ++ X)) w (E ++ (L' ++ X)) w' := by
  have a1 := List.pairwise_append.1 A.apart
  have a2 := List.pairwise_append.1 a1.2.1
  have hm : ∀ B, B ∈ E ∨ B ∈ X → B ∈ E ++ (L ++ X) := fun B hB => hB.elim (List.mem_append_left _) fun h => List.mem_append_right _ (List.mem_append_right _ h)
  have hn : ∀ B, B ∈ E ∨ B ∈ X → ∀ b, B.fp b → b < w.heap.size ∧ ¬ fps L b := fun B hB b hb => ⟨A.lt b ⟨B, hm B hB, hb⟩, fun ⟨C, hC, hc⟩ => hB.elim (fun h => a1.2.2 B h C (List.mem_append_left _ hC) b hb hc) fun h => a2.2.2 C hC B h b hc hb⟩
  have hok : ∀ B, B ∈ E ∨ B ∈ X → B.ok w' := fun B hB => B.st w w' (fun b hb => m.kp.block b (hn B hB b hb).1 (hn B hB b hb).2) (A.ok B (hm B hB))
  have hx : ∀ B, B ∈ E ∨ B ∈ X → ∀ C ∈ L', ∀ b, B.fp b → ¬ C.fp b := fun B hB C hC b hb hc => (m.fresh b ⟨C, hC, hc⟩).elim (hn B hB b hb).2 fun h => by have := (hn B hB b hb).1; omega
  have hc : ∀ b, fps (E ++ (L' ++ X)) b → (∃ B, (B ∈ E ∨ B ∈ X) ∧ B.fp b) ∨ fps L' b := fun b ⟨B, hB, hb⟩ => by
    rcases List.mem_append.1 hB with h | h
    · exact .inl ⟨B, .inl h, hb⟩
    · rcases List.mem_append.1 h with h | h
      · exact .inr ⟨B, h, hb⟩
      · exact .inl ⟨B, .inr h, hb⟩
  refine ⟨⟨fun B hB => ?_, fun b hb => ?_, ?_⟩, fun b hb => ?_, ⟨m.kp.os, m.kp.tape, m.kp.output, m.kp.size, fun k hk h => m.kp.block k hk fun q => h (fps_append.2 (.inr (fps_append.2 (.inl q))))⟩⟩
  · rcases List.mem_append.1 hB with h | h
    · exact hok B (.inl h)
    · rcases List.mem_append.1 h with h | h
      · exact m.at'.ok B h
      · exact hok B (.inr h)
  · rcases hc b hb with ⟨B, hB, h⟩ | h
    · have := (hn B hB b h).1
      have := m.kp.size
      omega
    · exact m.at'.lt b h
  · refine List.pairwise_append.2 ⟨a1.1, List.pairwise_append.2 ⟨m.at'.apart, a2.2.1, fun C hC B hB b hc hb => hx B (.inr hB) C hC b hb hc⟩, fun B hB C hC b hb hc => ?_⟩
    rcases List.mem_append.1 hC with h | h
    · exact hx B (.inl hB) C h b hb hc
    · exact a1.2.2 B hB C (List.mem_append_right _ h) b hb hc
  · rcases hc b hb with ⟨B, hB, h⟩ | h
    · exact .inl ⟨B, hm B hB, h⟩
    · exact (m.fresh b h).imp (fun q => fps_append.2 (.inr (fps_append.2 (.inl q)))) id
theorem mv_right (A : At w (E ++ L)) (m : Mv L w L' w') : Mv (E ++ L) w (E ++ L') w' := by
  have := mv_in (X := []) (by rw [List.append_nil]; exact A) m
  rwa [List.append_nil, List.append_nil] at this
theorem mv_left (A : At w (L ++ X)) (m : Mv L w L' w') : Mv (L ++ X) w (L' ++ X) w' := mv_in (E := []) A m
theorem mv_obj (A : At w L) (o : Obj) : Mv L w (ob w.heap.size o :: L) (w.alloc o) := by
  have hM : Mv [] w [ob w.heap.size o] (w.alloc o) := Bl.mv_new (At.one (World.alloc_heap_new w o) (fun b hb => by have : b = w.heap.size := hb; subst this; simp)) (fun b ⟨B, hB, hb⟩ => by rcases List.mem_singleton.1 hB with rfl; have : b = w.heap.size := hb; omega) ((Bl.refl w).alloc _)
  have := At.frame (New := [ob w.heap.size o]) A [] rfl hM
  rw [del_none] at this
  exact this
theorem mv_put {b : Nat} {o : Obj} (A : At w (ob b o :: X)) (o' : Obj) : Mv (ob b o :: X) w (ob b o' :: X) (w.putObj b o') := by
  have hb : w.heap[b]? = some o := A.ok _ (List.mem_cons_self ..)
  have hlt := (Array.getElem?_eq_some_iff.1 hb).1
  have hM : Mv [ob b o] w [ob b o'] (w.putObj b o') := ⟨At.one (World.putObj_heap_same hlt) (fun c hc => by have : c = b := hc; subst this; simpa using hlt), fun _ hc => .inl (by rw [fps_one] at hc ⊢; exact hc), ⟨rfl, rfl, rfl, by simp, fun k _ hk => World.putObj_heap_other fun e => hk (fps_one.2 e)⟩⟩
  exact mv_left (L := [ob b o]) (L' := [ob b o']) A hM
theorem At.tail {A : Atom} (h : At w (A :: L)) : Mv (A :: L) w L w := Mv.same ⟨fun B hB => h.ok B (List.mem_cons_of_mem _ hB), fun b hb => h.lt b (fps_cons.2 (.inr hb)), (List.pairwise_cons.1 h.apart).2⟩ fun _ hb => fps_cons.2 (.inr hb)
end
theorem wp_range {P : Program} {σ α : Type} {g : Operand} {ps : Array Tmp} {assign body : Code} {Q : Exit → Act → World → Prop} {a : Act} {w : World} {gf : Nat} {lb : Array Value} {encs : α → Array Value} {LB : σ → List Atom} {s0 : σ} {okx : σ → α → Prop} {nx : σ → α → σ → Prop} {fin : σ → Prop}
    (A : At w (LB s0)) (hg : a.eval g = .func (.func gf) #[] lb) (eg : ∀ args w, (callFunc gf args).run P w = .ok (.enter gf args) w) (hps : ∀ x, (encs x).size = ps.size)
    (hseq : ∀ (l : Nat) (E : List Atom) (W : World), (∀ s x W, At W (E ++ LB s) → okx s x → YieldAt Fence.wide 1 P l (encs x) W fun e W' => e = .returned (.bool true) ∧ ∃ s', nx s x s' ∧ Mv (E ++ LB s) W (E ++ LB s') W') → At W (E ++ LB s0) →
      Calls P gf (#[.func (.yield l) #[] #[]] ++ lb) W fun e W' => (∃ v, e = .returned v) ∧ ∃ s', fin s' ∧ Mv (E ++ LB s0) W (E ++ LB s') W')
    (a₁ : α → Act)
    (hassign : ∀ (l : Nat) (x : α) (W : World) (K : Act → World → Prop), K (a₁ x) W → assign.wpIn (Fence.wide.inRound l) 1 P (Exit.then K (fun _ _ _ => False)) { tmps := (ps.zip (encs x)).foldl (fun t (p, v) => t.setIfInBounds p v) a.tmps, defers := [] } W)
    (hbody : ∀ (l : Nat) (E : List Atom) (s : σ) (x : α) (W : World), At W (E ++ LB s) → okx s x → body.wpIn (Fence.wide.inRound l) 1 P (fun e _ W' => e = .normal ∧ ∃ s', nx s x s' ∧ Mv (E ++ LB s) W (E ++ LB s') W') (a₁ x) W)
    (hdone : ∀ (D : Nat) (s' : σ) (W : World), fin s' → Mv (LB s0) w (ob D (.deferred (some [])) :: LB s') W → Q .normal { a with defers := { target := .collected D, args := #[] } :: a.defers } W) :
    (Code.rangeFunc g ps assign body).wp P Q a w := by
  refine (wpIn_wide (n := 3)).1 (wpIn_rangeFunc ?_)
  intro fn hfn
  obtain ⟨rec, hrec⟩ : ∃ rec : LoopState → Option Code → Loop, rec = fun st pe => { state := st, pending := pe, fn, tmps := a.tmps, params := ps, assign, body, defers := w.heap.size } := ⟨_, rfl⟩
  obtain ⟨l, hl⟩ : ∃ l, l = w.heap.size + 1 := ⟨_, rfl⟩
  obtain ⟨d, hd⟩ : ∃ d, d = w.heap.size := ⟨_, rfl⟩
  have m1 := mv_obj A (.deferred (some []))
  have m2 := mv_obj m1.at' (.loop (rec .ready none))
  rw [World.size_alloc, ← hl, ← hd] at m2
  rw [← hd] at m1
  have m0 := m1.trans m2
  obtain ⟨W1, hW1⟩ : ∃ W1, (w.alloc (.deferred (some []))).alloc (.loop (rec .ready none)) = W1 := ⟨_, rfl⟩
  rw [hW1] at m0
  refine ⟨l, [{ target := .collected d, args := #[] }], W1, { target := .fn (.func gf) lb, args := #[.func (.yield l) #[] #[]] }, W1, gf,
    #[.func (.yield l) #[] #[]] ++ lb, W1, ?_, ?_, fun _ _ => trivial, ?_, (fun h => by cases h), ?_⟩
  · rw [← hW1, hl, hd, hrec]; exact run_enterLoop_outer _ _ _ _ _
  · simp only [resolve, hg]
    simp [go_sem]
  · simp [invoke, go_sem, eg]
  · refine callsIn_wide.2 ((hseq l [ob l (.loop (rec .ready none)), ob d (.deferred (some []))] _ ?_ m0.at').mono ?_)
    · rintro s x W hA hx
      have hl1 : W.heap[l]? = some (.loop (rec .ready none)) := hA.ok _ (List.mem_cons_self ..)
      have hy := run_yield (P := P) (args := encs x) hl1 (by rw [hrec]; exact hps x)
      rw [hrec] at hy
      refine ⟨fn, _, assign, body, hy, roundIn_of_wpIn hfn (hassign l x W _ ⟨_, run_beginRound hl1 (by rw [hrec]), ?_⟩)⟩
      have k1 := mv_put (X := ob d (.deferred (some [])) :: LB s) hA (.loop { rec .ready none with state := .busy })
      refine wpIn_mono (hbody l [ob l (.loop { rec .ready none with state := .busy }), ob d (.deferred (some []))] s x _ k1.at' hx) ?_
      rintro e a3 W3 ⟨rfl, s', hn, k2⟩
      have hl3 : W3.heap[l]? = some (.loop { rec .ready none with state := .busy }) := k2.at'.ok _ (List.mem_cons_self ..)
      have hr := run_endRound (P := P) none hl3
      have e1 : ({ ({ rec .ready none with state := .busy } : Loop) with state := if (none : Option Code).isNone then LoopState.ready else LoopState.done, pending := none } : Loop) = rec .ready none := by rw [hrec]; rfl
      rw [e1] at hr
      exact ⟨_, _, hr, rfl, s', hn, k1.trans (k2.trans (mv_put (X := ob d (.deferred (some [])) :: LB s') k2.at' _))⟩
    · rintro e W2 ⟨⟨v, rfl⟩, s', hf, k⟩
      have hl2 : W2.heap[l]? = some (.loop (rec .ready none)) := k.at'.ok _ (List.mem_cons_self ..)
      have hp : (rec .ready none).pending = none := by rw [hrec]
      have he : (Instr.endLoop l).run P W2 = .ok none (W2.putObj l (.loop { rec .ready none with state := .exhausted })) := (run_endLoop (P := P) hl2 (by rw [hrec]; simp)).trans (congrArg (fun j => Result.ok j (W2.putObj l (.loop { rec .ready none with state := .exhausted }))) hp)
      have k3 := mv_put (X := ob d (.deferred (some [])) :: LB s') k.at' (.loop { rec .ready none with state := .exhausted })
      exact ⟨none, _, he, hdone d s' _ hf (m0.trans (k.trans (k3.trans (At.tail k3.at'))))⟩
end Go.Proofs.YtipdbeklopjbmaaGreatDoor
/-
  strings.Builder: what its methods ask of the program; copyCheck and String, told by pieces.
-/

namespace Go.Proofs.YtipdbeklopjbmaaGreatDoor
open Go.ChangeShapes Go.WideShapes Go.ChangeAt Go.RowKit Go.Shelf
theorem extraW : Builder.X72 Tryz.prog laysBWr_ren := { sizeBuilder := by kernel_rfl, liesBuilder := by kernel_rfl }
theorem extraS : Builder.Extra Tryz.prog laysBStr_ren :=
  { sizeBuilder := by kernel_rfl, liesBuilder := by kernel_rfl, t5 := laysIndex.t5, a5 := laysIndex.a5, z5 := laysIndex.z5, v5 := laysIndex.v5, infoByte := by kernel_rfl, cellsByte := by kernel_rfl, sizeByte := by kernel_rfl, neB5 := by decide }
theorem bx_at {w : World} {b : Nat} {cs : List Value} {T : TypeId} {X : List Atom} (A : At w (bx b cs T :: X)) : w.heap[b]? = some (.cells cs.toArray T (0, 0)) := A.ok _ (List.mem_cons_self ..)
theorem shape_bx {w : World} {b : Nat} {cs : Array Value} {T : TypeId} {mk : Nat × Nat} (h : w.heap[b]? = some (.cells cs T mk)) : w.shape? b = some (T, cs.size) := by simp [World.shape?, h]
theorem OwnB.bytes {e : Nat} {w : World} {v : Value} {l : List Nat} (h : OwnB e w v l) : ∀ x ∈ l, x < 256 := by
  rcases h with ⟨_, rfl⟩ | ⟨g, cap, cur, mk, e1, h1, h2, h3, h4, h5, h6, h7, h8⟩
  · exact fun _ h => by cases h
  · exact h7
theorem OwnB.len {e : Nat} {w : World} {v : Value} {l : List Nat} (h : OwnB e w v l) : l.length ≤ maxLen := by
  rcases h with ⟨_, rfl⟩ | ⟨g, cap, cur, mk, e1, h1, h2, h3, h4, h5, h6, h7, h8⟩
  · exact Nat.zero_le _
  · omega
theorem bld_set {w : World} {b : Nat} {T : TypeId} {v : Value} {X : List Atom} (p : Value) (A : At w (bx b [.pointer none, v] T :: X)) : Mv (bx b [.pointer none, v] T :: X) w (bx b [p, v] T :: X) (w.setCell ⟨b, 0, none⟩ p) := by
  have hb : w.heap[b]? = some (.cells [.pointer none, v].toArray T (0, 0)) := A.ok _ (List.mem_cons_self ..)
  have hlt := (Array.getElem?_eq_some_iff.1 hb).1
  have h1 := heap_setCells [p] 0 w [.pointer none, v] hb (by simp)
  obtain ⟨s1, s2, s3, s4, s5⟩ := setX_all b [p] 0 w
  have e : w.setCells b 0 [p] = w.setCell ⟨b, 0, none⟩ p := rfl
  rw [e] at h1 s1 s2 s3 s4 s5
  have hM : Mv [bx b [.pointer none, v] T] w [bx b [p, v] T] (w.setCell ⟨b, 0, none⟩ p) := ⟨At.one h1 (fun c hc => by have : c = b := hc; subst this; omega), fun c hc => .inl (by rw [fps_one] at hc ⊢; exact hc), ⟨s1, s2, s3, by omega, fun k _ hk => s5 k fun e => hk (fps_one.2 e)⟩⟩
  exact mv_left (L := [bx b [.pointer none, v] T]) (L' := [bx b [p, v] T]) A hM
section
variable {P : Program} {ρ : Ren}
set_option maxHeartbeats 2000000 in
set_option maxRecDepth 100000 in
theorem bld_string (L : Lays.n169 P ρ) (X : Builder.Extra P ρ) {b g cap : Nat} {cur : Array Value} {mk : Nat × Nat} {p : Value} (l : List UInt8) (w : World) (hbk : w.heap[b]? = some (.cells #[p, .slice (some ⟨g, 0, none⟩) l.length cap] (ρ.t 72) (0, 0)))
    (hg : w.heap[g]? = some (.cells cur (ρ.t 5) mk)) (h0 : l ≠ []) (hnc : l.length ≤ cap) (hcm : cap ≤ maxLen) (hcs : cur.size = cap) (hc : ∀ j (x : UInt8), l[j]? = some x → w.cell? ⟨g, j, none⟩ = some (.int .u8 ((x.toNat : Nat) : Int))) :
    Calls P (ρ.f 169) #[.pointer (some ⟨b, 0, none⟩)] w fun e w' => e = .returned (.string ⟨l.toArray⟩) ∧ w' = w.drew.freeze ⟨g, 0, none⟩ l.length := by
  have hl0 : l.length ≠ 0 := by simpa using h0
  have c1 : w.drew.cell? ⟨b, 1, none⟩ = some (.slice (some ⟨g, 0, none⟩) l.length cap) := by
    have : w.drew.heap[b]? = some (.cells #[p, .slice (some ⟨g, 0, none⟩) l.length cap] (ρ.t 72) (0, 0)) := hbk
    rw [Lib.cell_of_heap this]; rfl
  have hSD : (Builtin.unsafeSliceData_ #[(ρ.t 37)] (ρ.t 127) #[.slice (some ⟨g, 0, none⟩) l.length cap]).run P w.drew = .ok (.pointer (some ⟨g, 0, none⟩)) w.drew :=
    Lib.run_unsafeSliceData_row _ _ _ _ _ _ (by omega)
  have hUS : (Builtin.unsafeString_ #[(ρ.t 127), (ρ.t 3)] (ρ.t 9) #[.pointer (some ⟨g, 0, none⟩), .int .i64 l.length]).run P w.drew = .ok (.string ⟨l.toArray⟩) (w.drew.freeze ⟨g, 0, none⟩ l.length) := by
    refine Lib.run_unsafeString_row w.drew (ρ.t 127) (ρ.t 3) (ρ.t 9) (ρ.t 5) L.t127 X.cellsByte g cur.size (by have hg' : w.drew.heap[g]? = some (.cells cur (ρ.t 5) mk) := hg; simp [World.shape?, hg']) l h0 (by omega) (by unfold maxLen at hcm; omega) ?_
    intro j x hx
    rw [add_flat, Nat.zero_add]
    exact hc j x hx
  have mixed := L.mixed
  have t72 := L.t72; have a72 := L.a72; have z72 := L.z72; have v72 := L.v72; have u72 := run_underlying L.t72
  have t70 := L.t70; have a70 := L.a70; have z70 := L.z70; have v70 := L.v70; have u70 := run_underlying L.t70
  have t37 := L.t37; have a37 := L.a37; have z37 := L.z37; have v37 := L.v37; have u37 := run_underlying L.t37
  have t127 := L.t127; have a127 := L.a127; have z127 := L.z127; have v127 := L.v127; have u127 := run_underlying L.t127
  have t3 := L.t3; have a3 := L.a3; have z3 := L.z3; have v3 := L.v3; have u3 := run_underlying L.t3
  have t9 := L.t9; have a9 := L.a9; have z9 := L.z9; have v9 := L.v9; have u9 := run_underlying L.t9
  have t5 := X.t5; have a5 := X.a5; have z5 := X.z5; have v5 := X.v5; have u5 := run_underlying X.t5
  go_enter L.f169, Body.n169_ntmps ρ
  go_wp2
  go_region_o
  all_goals (go_wp2; go_ret; exact ⟨rfl, rfl⟩)
theorem bld_str_c (L : Lays.n169 P ρ) (X : Builder.Extra P ρ) {w : World} {b n cap : Nat} {a : Option Addr} {p : Value} (l : List UInt8) (h0 : l ≠ []) (A : At w [bx b [p, .slice a n cap] (ρ.t 72), owB (ρ.t 5) (.slice a n cap) (l.map (·.toNat))]) :
    Calls P (ρ.f 169) #[.pointer (some ⟨b, 0, none⟩)] w fun e w' => e = .returned (.string ⟨l.toArray⟩) ∧ Mv [bx b [p, .slice a n cap] (ρ.t 72), owB (ρ.t 5) (.slice a n cap) (l.map (·.toNat))] w [bx b [p, .slice a n cap] (ρ.t 72), owB (ρ.t 5) (.slice a n cap) (l.map (·.toNat))] w' := by
  have hO : OwnB (ρ.t 5) w (.slice a n cap) (l.map (·.toNat)) := A.ok _ (nth_mem (i := 1) rfl)
  have hb : w.heap[b]? = some (.cells [p, .slice a n cap].toArray (ρ.t 72) (0, 0)) := A.ok _ (nth_mem (i := 0) rfl)
  have hO1 := hO
  rcases hO with ⟨_, h⟩ | ⟨g, cap', cur, mk, e1, h1, h2, h3, h4, h5, h6, h7, h8⟩
  · exact absurd (List.map_eq_nil_iff.1 h) h0
  cases e1
  rw [List.length_map] at hb h2 h6 h8
  refine (bld_string L X l w hb h1 h0 h2 h3 (by simpa using h5) fun j x hx => hO1.cellAt j x.toNat (by rw [List.getElem?_map, hx]; rfl)).mono ?_
  rintro e w' ⟨rfl, rfl⟩
  refine ⟨rfl, ?_⟩
  have m1 := At.frame0 A (Mv.of_bl ((Bl.refl w).drew))
  have m2 := mv_froze m1.at' 1 (g := g) (cap := cap) rfl rfl rfl
  have m3 := (m1.trans m2).pick [1, 0] rfl
  have e : w.drew.freeze ⟨g, 0, none⟩ (l.map (·.toNat)).length = w.drew.freeze ⟨g, 0, none⟩ l.length := by rw [List.length_map]
  rw [← e]
  exact m3
end
end Go.Proofs.YtipdbeklopjbmaaGreatDoor
/-
  Records are read, one behind the other: plain functions.
-/

namespace Go.Proofs.YtipdbeklopjbmaaGreatDoor
open Go.ChangeShapes Go.WideShapes Go.ChangeAt Go.RowKit
set_option maxRecDepth 100000
set_option maxHeartbeats 1000000

structure BldD where
  addr : Unit
  buf : List Nat
theorem rec_stepB {seq : Int} {list : List CellD} {D : List Nat} {k : Nat} {c : CellD} (hD : D = recN seq (list.take k)) (h : nth list k = some c) : D ++ bytesN ((((⟨#[32]⟩ : ByteArray) ++ hexS c.key) ++ (⟨#[61]⟩ : ByteArray)) ++ hexS c.val) = recN seq (list.take (k + 1)) := by
  rw [bytesN_cat, bytesN_cat, bytesN_cat, ← rec_step hD h]
  show D ++ ((([32] ++ _) ++ [61]) ++ _) = _
  simp only [List.append_assoc]
theorem rec_startB (seq : Int) (list : List CellD) : ([] : List Nat) ++ bytesN (decS seq) = recN seq (list.take 0) := by
  unfold recN
  rw [List.take_zero, List.flatMap_nil, List.append_nil, List.nil_append]
theorem decDigits_ne (u : Nat) : Lib.decDigits u ≠ [] := by
  rw [Lib.decDigits]
  split <;> simp
theorem recN_ne {seq : Int} {list : List CellD} (h : 0 ≤ seq) : recN seq list ≠ [] := fun e => by
  obtain ⟨n, rfl⟩ := Int.eq_ofNat_of_zero_le h
  unfold recN at e
  have e1 := (List.append_eq_nil_iff.1 e).1
  unfold bytesN at e1
  have e2 := List.map_eq_nil_iff.1 e1
  have e3 := decS_toList n
  exact decDigits_ne n (e3.symm.trans e2)
theorem recD_ne {seq : Int} {list : List CellD} {D : List Nat} (h : (!inB seq 1 100000) = false) (hD : D = recN seq list) : D ≠ [] := by
  rw [hD]
  exact recN_ne (by have := inB_bd (nf h); omega)
theorem rr_long {text : ByteArray} (h : text.size > 4000) : rrB text = false := decide_eq_false (fun g => by have := g.1; omega)
theorem rr_empty {text : ByteArray} (h : text = (⟨#[]⟩ : ByteArray)) : rrB text = false := decide_eq_false (fun g => g.2.1 h)
theorem rr_diff {text : ByteArray} {n : Int} {l : List CellD} (hn : n = decN text) (hl : l = decC text) (h : recT n l ≠ text) : rrB text = false := decide_eq_false (fun g => h (by rw [hn, hl]; exact g.2.2))
theorem rr_no {text : ByteArray} (h : rrB text = false) : (0 : Int) = rrN text ∧ ([] : List CellD) = rrC text ∧ false = rrB text := by
  unfold rrN rrC
  rw [h]; exact ⟨rfl, rfl, rfl⟩
theorem rr_yes2 {text : ByteArray} {n : Int} {l : List CellD} (hn : n = decN text) (hl : l = decC text) (h1 : ¬ text.size > 4000) (h2 : ¬ text = (⟨#[]⟩ : ByteArray)) (h3 : recT n l = text) : n = rrN text ∧ l = rrC text ∧ true = rrB text := by
  have h : rrB text = true := decide_eq_true ⟨by omega, h2, by rw [← hn, ← hl]; exact h3⟩
  unfold rrN rrC
  rw [h]; exact ⟨hn, hl, rfl⟩
theorem rr_yes3 {text : ByteArray} {n : Int} {l : List CellD} (hn : n = decN text) (hl : l = decC text) (h1 : ¬ text.size > 4000) (h2 : ¬ recT n l = (⟨#[]⟩ : ByteArray)) (h3 : recT n l = text) : n = rrN text ∧ l = rrC text ∧ true = rrB text := rr_yes2 hn hl h1 (fun e => h2 (h3.trans e)) h3
theorem decN_at {text x : ByteArray} (h : nth (spS 32 text) 0 = some x) : ((readN x : Nat) : Int) = decN text := by
  unfold decN wds
  rw [h]; rfl
theorem map_snoc {α β : Type} {f : α → β} {l : List α} {k : Nat} {x : α} {D : List β} (hD : D = (l.take k).map f) (h : nth l k = some x) : D ++ [f x] = (l.take (k + 1)).map f := by
  rw [nth_take_snoc h, List.map_append, hD]; rfl
theorem map_all {α β : Type} {f : α → β} {l : List α} {k : Nat} {D : List β} (hD : D = (l.take k).map f) (h : l.length ≤ k) : D = l.map f := by rw [hD, List.take_of_length_le h]
theorem mx_a (n : Nat) : 1 ≤ max n 2 - 1 := by omega
theorem mx_b {n : Nat} (h : 1 ≤ n) : max n 2 - 1 ≤ n := by omega
theorem mx_c (n : Nat) : ((max n 2 : Nat) : Int) - 1 = ((max n 2 - 1 : Nat) : Int) := by
  obtain ⟨m, hm, h⟩ : ∃ m : Nat, max n 2 = m ∧ 1 ≤ m := ⟨_, rfl, by omega⟩
  rw [hm]; omega
theorem midW_len (ws : List ByteArray) : (midW ws).length = ws.length - 2 := by
  unfold midW
  rw [List.length_drop, List.length_take]; omega
theorem midW_at {ws : List ByteArray} {k : Nat} {x : ByteArray} (h : nth ws (k + 1) = some x) (hk : k + 2 < ws.length) : nth (midW ws) k = some x := by
  rw [nth_eq] at h ⊢
  unfold midW
  rw [List.getElem?_drop, List.getElem?_take, if_pos (by omega), Nat.add_comm]; exact h
theorem midW_is {text : ByteArray} {N : Nat} (h : N = (spS 32 text).length) : ((spS 32 text).take (max N 2 - 1)).drop 1 = midW (wds text) := by rw [h]; rfl
theorem mid_len {l : List ByteArray} {N : Nat} (h : N = l.length) (h1 : 1 ≤ N) : ((l.take (max N 2 - 1)).drop 1).length = max N 2 - 1 - 1 := by
  rw [List.length_drop, List.length_take]; omega
theorem decC_all {text : ByteArray} {k N : Nat} {D : List CellD} (h : N = (spS 32 text).length) (hD : D = ((((spS 32 text).take (max N 2 - 1)).drop 1).take k).map cellI) (hk : max N 2 - 1 - 1 ≤ k) : D = decC text := by
  have h1 := (spS_len 32 text).1
  have := map_all hD (by rw [mid_len h (by omega)]; exact hk)
  rw [midW_is h] at this
  exact this
theorem decC_allS {text : ByteArray} {k N : Nat} {D : List CellD} (h : N = (spS 32 text).length) (hD : D = ((midW (wds text)).take k).map cellI) (hk : N - 2 ≤ k) : D = decC text :=
  map_all hD (by rw [midW_len]; show (spS 32 text).length - 2 ≤ k; omega)
theorem sp_two {x y0 y1 : ByteArray} {n : Nat} (hn : n = (spS 61 x).length) (h2 : n = 2) (h0 : nth (spS 61 x) 0 = some y0) (h1 : nth (spS 61 x) 1 = some y1) : (⟨unhexT y0, unhexT y1⟩ : CellD) = cellI x := by
  unfold spS at hn h0 h1
  rw [List.length_map, h2] at hn
  match e : spN 61 (bytesN x), hn with
  | [a, b], _ =>
    rw [e] at h0 h1
    obtain ⟨c1, c2⟩ := cut_two e
    have e0 : bstr a = y0 := Option.some.inj h0
    have e1 : bstr b = y1 := Option.some.inj h1
    unfold cellI cutL_ cutR_
    rw [c1, c2, e0, e1]
theorem rr_two {text x : ByteArray} {k n N : Nat} (hN : N = (spS 32 text).length) (hx : nth (spS 32 text) (k + 1) = some x) (hk : k + 2 < N) (hn : n = (spS 61 x).length) (h : ¬ n = 2) : rrB text = false := by
  rcases Bool.eq_false_or_eq_true (rrB text) with hb | hb
  · obtain ⟨a, b, e⟩ := (rr_words hb).2 x (nth_mem (midW_at (ws := wds text) hx (by show k + 2 < (spS 32 text).length; omega)))
    unfold spS at hn
    rw [e] at hn
    exact absurd hn h
  · exact hb
theorem rr_num {text x : ByteArray} (h : nth (spS 32 text) 0 = some x) (hb : readB x = false) : rrB text = false := by
  rcases Bool.eq_false_or_eq_true (rrB text) with h1 | h1
  · have := (rr_words h1).1
    unfold wds at this
    rw [h] at this
    exact absurd this (by rw [show (some x).getD ⟨#[]⟩ = x from rfl, hb]; decide)
  · exact h1
theorem rr_none {text : ByteArray} {n : Int} {l : List CellD} (hn : n = decN text) (hl : l = decC text) (h : recT n l = (⟨#[]⟩ : ByteArray)) : rrB text = false := by
  by_cases e : text = (⟨#[]⟩ : ByteArray)
  · exact rr_empty e
  · exact rr_diff hn hl (by rw [h]; exact fun q => e q.symm)
section
variable {frm : Int} {L : List ByteArray} {k n N : Nat} {R : List CsH} {l : ByteArray} {T : List (List CellD) × Nat}
theorem rd_bad (hl : nth L k = some l) (h : rcGo frm (L.drop k) (R.map CsH.d) n = T) (hb : rrB l = false) : R.map CsH.d = T.1 ∧ ((n : Nat) : Int) = ((T.2 : Nat) : Int) := by rw [← rc_bad hl h hb]; exact ⟨rfl, rfl⟩
theorem rd_skip (hl : nth L k = some l) (h : rcGo frm (L.drop k) (R.map CsH.d) n = T) (hb : rrB l = true) (hN : N = R.length) (h0 : N = 0) (hs : rrN l < frm) : rcGo frm (L.drop (k + 1)) (R.map CsH.d) (n + l.size) = T :=
  rc_skip hl h hb (by rw [List.eq_nil_of_length_eq_zero (hN ▸ h0 : R.length = 0)]; rfl) hs
theorem rd_take {x : CsH} (hx : x.d = rrC l) (hl : nth L k = some l) (h : rcGo frm (L.drop k) (R.map CsH.d) n = T) (hb : rrB l = true) (hN : N = R.length) (hs : rrN l = frm + ((N : Nat) : Int)) : rcGo frm (L.drop (k + 1)) ((R ++ [x]).map CsH.d) (n + l.size) = T := by
  rw [List.map_append, List.map_singleton, hx]
  exact rc_take hl h hb (by rw [List.length_map, ← hN]; exact hs)
theorem rd_stop (hl : nth L k = some l) (h : rcGo frm (L.drop k) (R.map CsH.d) n = T) (hN : N = R.length) (hs : ¬ rrN l = frm + ((N : Nat) : Int)) (h2 : ¬ (N = 0 ∧ rrN l < frm)) : R.map CsH.d = T.1 ∧ ((n : Nat) : Int) = ((T.2 : Nat) : Int) := by
  rw [← rc_stop hl h (by rw [List.length_map, ← hN]; exact hs) (fun q => h2 ⟨by rw [hN, ← List.length_map (f := CsH.d), q.1]; rfl, q.2⟩)]; exact ⟨rfl, rfl⟩
theorem rd_end (h : rcGo frm (L.drop k) (R.map CsH.d) n = T) (hk : L.length ≤ k) : R.map CsH.d = T.1 ∧ ((n : Nat) : Int) = ((T.2 : Nat) : Int) := by rw [← rc_end h hk]; exact ⟨rfl, rfl⟩
end
theorem rd_start {s : ByteArray} {frm : Int} (h : (!inB frm 1 100000) = false) : rcGo frm ((lnS s).drop 0) (([] : List CsH).map CsH.d) 0 = recsIn s frm := by
  unfold recsIn
  rw [if_pos (nf h)]; rfl
theorem rd_none {s : ByteArray} {frm : Int} (h : (!inB frm 1 100000) = true) : ([] : List CsH).map CsH.d = (recsIn s frm).1 ∧ (0 : Int) = (((recsIn s frm).2 : Nat) : Int) := by
  unfold recsIn
  rw [if_neg (by rw [nt h]; decide)]; exact ⟨rfl, rfl⟩
theorem spS_part10 {s x : ByteArray} (h : x ∈ lnS s) : x.size ≤ s.size + 1 := by
  unfold lnS lnN at h
  obtain ⟨p, hp, rfl⟩ := List.mem_map.1 h
  obtain ⟨q, hq, rfl⟩ := List.mem_map.1 hp
  have := spN_part (List.dropLast_subset _ hq)
  rw [bytesN_length] at this
  rw [bstr_size, List.length_append, List.length_singleton]; omega
theorem rrC_len (text : ByteArray) : (rrC text).length ≤ 4000 := by
  unfold rrC
  split
  · rename_i h
    obtain ⟨_, h2, h3⟩ := rr_yes h
    obtain ⟨_, _, g3, g4⟩ := recT_inv h3 h2
    have h5 := recS_size (decN text) (decC text)
    have h6 : ∀ l : List CellD, l.length ≤ (l.flatMap (fun c => 32 :: wordN c)).length := by
      intro l
      induction l with
      | nil => exact Nat.le_refl _
      | cons c l ih => rw [List.flatMap_cons, List.length_append, List.length_cons, List.length_cons]; omega
    have h7 := h6 (decC text)
    unfold recN at h5
    rw [List.length_append] at h5
    rw [g3] at g4
    omega
  · exact Nat.zero_le _
theorem rcGo_fit {frm : Int} : ∀ (L : List ByteArray) (out : List (List CellD)) (n : Nat), (∀ l ∈ out, l.length ≤ 4000) → (∀ l ∈ (rcGo frm L out n).1, l.length ≤ 4000) ∧ (rcGo frm L out n).1.length ≤ out.length + L.length
  | [], out, n, h => ⟨h, Nat.le_refl _⟩
  | l :: ls, out, n, h => by
    rw [rcGo]
    split
    · split
      · have := rcGo_fit (frm := frm) ls out (n + l.size) h
        exact ⟨this.1, by rw [List.length_cons]; omega⟩
      · split
        · have := rcGo_fit (frm := frm) ls (out ++ [rrC l]) (n + l.size) (fun x hx => (List.mem_append.1 hx).elim (h x) fun q => by rw [List.mem_singleton.1 q]; exact rrC_len l)
          exact ⟨this.1, by rw [List.length_append, List.length_singleton] at this; rw [List.length_cons]; omega⟩
        · exact ⟨h, by rw [List.length_cons]; exact Nat.le_add_right _ _⟩
    · exact ⟨h, by rw [List.length_cons]; exact Nat.le_add_right _ _⟩
theorem recsIn_fit (s : ByteArray) (frm : Int) : (∀ l ∈ (recsIn s frm).1, l.length ≤ 4000) ∧ (recsIn s frm).1.length ≤ s.size := by
  unfold recsIn
  split
  · have h := rcGo_fit (frm := frm) (lnS s) [] 0 (fun _ h => (by cases h))
    have h2 := lnS_len s
    exact ⟨h.1, by rw [List.length_nil] at h; omega⟩
  · exact ⟨(fun _ h => by cases h), Nat.zero_le _⟩
theorem putAll_len (s : List CellD) : ∀ l : List CellD, (putAll s l).length ≤ s.length + l.length := by
  intro l
  unfold putAll
  induction l generalizing s with
  | nil => exact Nat.le_refl _
  | cons c l ih =>
    have h1 := ih (putKey s c.key c.val)
    have h2 := putKey_length s c.key c.val
    rw [List.foldl_cons, List.length_cons]; omega
theorem putA_start (s l : List CellD) : s = putAll s (l.take 0) := by rw [List.take_zero]; rfl
theorem putLists_len {m : Nat} : ∀ (ls : List (List CellD)) (s : List CellD), (∀ l ∈ ls, l.length ≤ m) → (putLists s ls).length ≤ s.length + ls.length * m
  | [], s, _ => by rw [List.length_nil]; exact Nat.le_add_right _ _
  | l :: ls, s, h => by
    have h1 := putLists_len ls (putAll s l) fun x hx => h x (List.mem_cons_of_mem _ hx)
    have h2 := putAll_len s l
    have h3 := h l (List.mem_cons_self ..)
    show (putLists (putAll s l) ls).length ≤ _
    rw [List.length_cons, Nat.add_mul, Nat.one_mul]; omega
end Go.Proofs.YtipdbeklopjbmaaGreatDoor
/-
  Walks: keys under a beginning.
-/

namespace Go.Proofs.YtipdbeklopjbmaaGreatDoor
open Go.ChangeShapes Go.WideShapes Go.ChangeAt Go.RowKit
set_option maxRecDepth 100000
set_option maxHeartbeats 1000000
end Go.Proofs.YtipdbeklopjbmaaGreatDoor
