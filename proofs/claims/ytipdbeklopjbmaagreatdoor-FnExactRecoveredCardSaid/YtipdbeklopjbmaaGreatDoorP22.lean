/-
  Texts laid together: LinesI, LinesR, GenRl.
-/
import Derived.Shelf.Abstract
import Derived.WalkKit
import Derived.OwnWalkIn
import Derived.TacticsInMore
import Derived.LoopNIn
import Derived.LoopIn
import Derived.RangeFuncLeaves
import Derived.Test.YtipdbeklopjbmaaGreatDoorP10
import Derived.Test.YtipdbeklopjbmaaGreatDoorGenRh
/-
  strings.SplitAfterSeq at a text and a sign of one byte: the iterator that it makes, told by pieces.
-/

namespace Go.Proofs.YtipdbeklopjbmaaGreatDoor
open Go.ChangeShapes Go.WideShapes Go.ChangeAt Go.RowKit Go.Shelf
theorem lnS_hit {s : ByteArray} {a b : List UInt8} (h : s.data.toList = a ++ 10 :: b) (hn : (10 : UInt8) ∉ a) : lnS s = s.extract 0 (a.length + 1) :: lnS (s.extract (a.length + 1) s.size) := by
  have hz := size_list s
  rw [h, List.length_append, List.length_cons] at hz
  have e0 : a ++ 10 :: b = (a ++ [10]) ++ b := by simp
  have e1 : (s.extract 0 (a.length + 1)).data.toList = a ++ [10] := by
    rw [ext_list, h, List.drop_zero, Nat.sub_zero, e0]
    exact List.take_left' (by simp)
  have e2 : (s.extract (a.length + 1) s.size).data.toList = b := by
    rw [ext_list, h, List.take_of_length_le (by rw [List.length_drop, List.length_append, List.length_cons]; omega), e0]
    exact List.drop_left' (by simp)
  unfold lnS
  rw [bytesN_of h, bytesN_of e2, List.map_append, List.map_cons]
  have := lnN_hit (a := a.map (·.toNat)) (b := b.map (·.toNat)) (mem_nat (c := 10) hn)
  rw [show (10 : UInt8).toNat = 10 from rfl, this, List.map_cons]
  have e3 := of_bytes e1
  rw [List.map_append] at e3
  rw [e3]; rfl
theorem lnS_miss {s : ByteArray} (h : (10 : UInt8) ∉ s.data.toList) : lnS s = [] := by
  unfold lnS
  rw [bytesN_of rfl, lnN_no (mem_nat (c := 10) h)]; rfl
theorem suf_yes {t : ByteArray} {a : List UInt8} (h : t.data.toList = a ++ [10]) : hasSuf t (⟨#[10]⟩ : ByteArray) = true := by
  have hz := size_list t
  rw [h, List.length_append, List.length_singleton] at hz
  have hp : (⟨#[10]⟩ : ByteArray).size = 1 := rfl
  refine decide_eq_true ⟨by omega, ?_⟩
  have e : (t.extract (t.size - (⟨#[10]⟩ : ByteArray).size) t.size).data.toList = [10] := by
    rw [ext_list, h, hp, hz, Nat.add_sub_cancel, List.drop_left' rfl]
    exact List.take_of_length_le (by simp)
  rw [of_bytes e]; rfl
theorem suf_no {t : ByteArray} (h : (10 : UInt8) ∉ t.data.toList) : hasSuf t (⟨#[10]⟩ : ByteArray) = false := decide_eq_false fun g => by
  have e : (t.extract (t.size - (⟨#[10]⟩ : ByteArray).size) t.size).data.toList = [10] := by rw [g.2]
  rw [ext_list] at e
  exact h (List.mem_of_mem_drop (List.mem_of_mem_take (e ▸ List.mem_singleton.2 rfl : (10 : UInt8) ∈ _)))
def LB (bs bp bv bo : Nat) (σ : List ByteArray × ByteArray × Value) : List Atom := [bx bs [.string σ.2.1] 9, bx bp [.string ⟨#[10]⟩] 9, bx bv [.int .i64 1] 3, bx bo [σ.2.2] 44, ow 9 1 encS okS σ.2.2 σ.1]
section
variable {w w' : World} {E : List Atom} {bs bp bv bo : Nat} {σ : List ByteArray × ByteArray × Value}
theorem cell_bx {b : Nat} {x : Value} {T : TypeId} (h : w.heap[b]? = some (.cells [x].toArray T (0, 0))) : w.cell? ⟨b, 0, none⟩ = some x ∧ w.frozen? ⟨b, 0, none⟩ = false := ⟨by rw [Lib.cell_of_heap h]; rfl, Lib.frozen_of_heap h 0⟩
theorem lb_at (A : At w (E ++ LB bs bp bv bo σ)) {B : Atom} (h : B ∈ LB bs bp bv bo σ) : B.ok w := A.ok B (List.mem_append_right _ h)
theorem mv_one {b : Nat} {x : Value} {T : TypeId} {X Y : List Atom} (y : Value) (A : At w (X ++ (bx b [x] T :: Y))) : Mv (X ++ (bx b [x] T :: Y)) w (X ++ (bx b [y] T :: Y)) (w.setCell ⟨b, 0, none⟩ y) := by
  have hb : w.heap[b]? = some (.cells [x].toArray T (0, 0)) := A.ok (bx b [x] T) (List.mem_append_right _ (List.mem_cons_self ..))
  have hlt := (Array.getElem?_eq_some_iff.1 hb).1
  have h1 := heap_setCells [y] 0 w [x] hb (by simp)
  obtain ⟨s1, s2, s3, s4, s5⟩ := setX_all b [y] 0 w
  have e : w.setCells b 0 [y] = w.setCell ⟨b, 0, none⟩ y := rfl
  rw [e] at h1 s1 s2 s3 s4 s5
  have hM : Mv [bx b [x] T] w [bx b [y] T] (w.setCell ⟨b, 0, none⟩ y) := ⟨At.one h1 (fun c hc => by have : c = b := hc; subst this; omega), fun _ hc => .inl (by rw [fps_one] at hc ⊢; exact hc), ⟨s1, s2, s3, by omega, fun k _ hk => s5 k fun e => hk (fps_one.2 e)⟩⟩
  exact mv_in (E := X) (L := [bx b [x] T]) (L' := [bx b [y] T]) (X := Y) A hM
theorem lb_set (A : At w (E ++ LB bs bp bv bo σ)) (s : ByteArray) : Mv (E ++ LB bs bp bv bo σ) w (E ++ LB bs bp bv bo (σ.1, s, σ.2.2)) (w.setCell ⟨bs, 0, none⟩ (.string s)) := mv_one (.string s) A
end
def cellSize (w : World) (b : Nat) : Nat := match w.cell? ⟨b, 0, none⟩ with
  | some (.string s) => s.size
  | _ => 0
theorem cellSize_eq {w : World} {b : Nat} {s : ByteArray} (h : w.cell? ⟨b, 0, none⟩ = some (.string s)) : cellSize w b = s.size := by unfold cellSize; rw [h]
theorem idx_c (s : ByteArray) (w : World) : Calls Tryz.prog 202 #[.string s, .string ⟨#[10]⟩] w fun e w' => e = .returned (.int .i64 (Lib.indexByte s.data.toList 10)) ∧ w' = w := Any.strings_Index_one laysIndex s 10 w
def okx (σ : List ByteArray × ByteArray × Value) (x : ByteArray) : Prop := σ.1.length ≤ 4294967280 ∧ okS x
def nx (σ : List ByteArray × ByteArray × Value) (x : ByteArray) (σ' : List ByteArray × ByteArray × Value) : Prop := σ'.2.1 = σ.2.1 ∧ σ'.1 = if hasSuf x (⟨#[10]⟩ : ByteArray) = true then σ.1 ++ [x] else σ.1
set_option maxRecDepth 100000 in
set_option maxHeartbeats 2000000 in
theorem iter_c {bs bp bv bo l : Nat} {E : List Atom} {w : World} {text : ByteArray} {v0 : Value}
    (hY : ∀ σ x W, At W (E ++ LB bs bp bv bo σ) → okx σ x → YieldAt Fence.wide 1 Tryz.prog l #[.string x] W fun e W' => e = .returned (.bool true) ∧ ∃ σ', nx σ x σ' ∧ Mv (E ++ LB bs bp bv bo σ) W (E ++ LB bs bp bv bo σ') W')
    (hT : text.size ≤ 4294967280) (h0 : At w (E ++ LB bs bp bv bo ([], text, v0))) :
    Calls Tryz.prog 200 #[.func (.yield l) #[] #[], .pointer (some ⟨bp, 0, none⟩), .pointer (some ⟨bs, 0, none⟩), .pointer (some ⟨bv, 0, none⟩)] w fun e W' => (∃ v, e = .returned v) ∧ ∃ σ', σ'.1 = lnS text ∧ Mv (E ++ LB bs bp bv bo ([], text, v0)) w (E ++ LB bs bp bv bo σ') W' := by
  refine callsIn_wide.1 (callsIn_of_wp (F := Fence.wide) (n := 2) Tryz.func200 rfl trivial ?_ rfl)
  simp only [Tryz.ntmps200, List.size_toArray, List.length_cons, List.length_nil, Nat.reduceAdd, Nat.reduceSub, Array.replicate_succ, Array.replicate_zero, List.push_toArray, List.append_toArray, List.nil_append, List.cons_append]
  have hz1 : (⟨#[10]⟩ : ByteArray).size = 1 := rfl
  obtain ⟨cp, fp⟩ := cell_bx (lb_at h0 (B := bx bp [.string ⟨#[10]⟩] 9) (List.mem_cons_of_mem _ (List.mem_cons_self ..)))
  gi_wp2
  gi_loopw [7] (fun _ wr => ∃ σ, Mv (E ++ LB bs bp bv bo ([], text, v0)) w (E ++ LB bs bp bv bo σ) wr ∧ σ.1 ++ lnS σ.2.1 = lnS text ∧ σ.1.length + σ.2.1.size ≤ text.size) (fun _ wr => cellSize wr bs)
  case atStart =>
    exact ⟨([], text, v0), Mv.refl h0, rfl, by simp⟩
  case round =>
    obtain ⟨⟨D, s, v⟩, hM, hD, hl⟩ := hrel
    have hA := hM.at'
    have hl : D.length + s.size ≤ text.size := hl
    obtain ⟨cs, fs⟩ := cell_bx (lb_at hA (B := bx bs [.string s] 9) (List.mem_cons_self ..))
    obtain ⟨cp, fp⟩ := cell_bx (lb_at hA (B := bx bp [.string ⟨#[10]⟩] 9) (List.mem_cons_of_mem _ (List.mem_cons_self ..)))
    obtain ⟨cv, fv⟩ := cell_bx (lb_at hA (B := bx bv [.int .i64 1] 3) (List.mem_cons_of_mem _ (List.mem_cons_of_mem _ (List.mem_cons_self ..))))
    have hss : s.size ≤ 4294967280 := by omega
    rcases split_cases s 10 with ⟨hx, hn⟩ | ⟨p, q, hs, hn, hx⟩
    · -- no more signs: the rest is handed out
      have hix : Lib.indexByte s.data.toList 10 = -1 := by rw [← Lib.index_one]; exact hx
      obtain ⟨fn, tmps, assign, body, hy, hR⟩ := hY (D, s, v) s wr hA ⟨(by show D.length ≤ _; omega), by unfold okS; omega⟩
      gi_wp2_with (refine ⟨trivial, ?_⟩; gi_at_call 202; refine (callsIn_wide.2 (idx_c s _)).mono ?_; rintro e w' ⟨rfl, rfl⟩; rw [hix])
      refine hR.mono ?_
      rintro e W3 ⟨rfl, σ', ⟨g1, g2⟩, hM3⟩
      gi_wp2
      go_end0
      have e1 : σ'.1 = lnS text := by
        rw [g2, suf_no hn, if_neg (by decide), ← hD]
        show D = D ++ lnS s
        rw [lnS_miss hn, List.append_nil]
      exact ⟨⟨_, rfl⟩, σ', e1, hM.trans hM3⟩
    · -- a line is handed out
      have hix : Lib.indexByte s.data.toList 10 = (p.length : Int) := by rw [← Lib.index_one]; exact hx
      have hz := size_list s
      rw [hs, List.length_append, List.length_cons] at hz
      have e0 : p ++ 10 :: q = (p ++ [10]) ++ q := by simp
      have e1 : (s.extract 0 (p.length + 1)).data.toList = p ++ [10] := by
        rw [ext_list, hs, List.drop_zero, Nat.sub_zero, e0]
        exact List.take_left' (by simp)
      have e2 : (s.extract (p.length + 1) s.size).data.toList = q := by
        rw [ext_list, hs, List.take_of_length_le (by rw [List.length_drop, List.length_append, List.length_cons]; omega), e0]
        exact List.drop_left' (by simp)
      have hz2 := size_list (s.extract 0 (p.length + 1))
      rw [e1, List.length_append, List.length_singleton] at hz2
      have hz3 := size_list (s.extract (p.length + 1) s.size)
      rw [e2] at hz3
      have hzA : p.length + (q.length + 1) ≤ s.size := by omega
      have hzB : s.size ≤ p.length + (q.length + 1) := by omega
      clear hz
      have c0 : ¬ (p.length : Int) < 0 := by omega
      have c1 : (0 : Int) ≤ (p.length : Int) + 1 := by omega
      have c2 : (p.length : Int) + 1 ≤ (s.size : Int) := by omega
      have c3 : ((p.length : Int) + 1).toNat = p.length + 1 := by omega
      obtain ⟨fn, tmps, assign, body, hy, hR⟩ := hY (D, s, v) (s.extract 0 (p.length + 1)) wr hA ⟨(by show D.length ≤ _; omega), by unfold okS; omega⟩
      gi_wp2_with (refine ⟨trivial, ?_⟩; gi_at_call 202; refine (callsIn_wide.2 (idx_c s _)).mono ?_; rintro e w' ⟨rfl, rfl⟩; rw [hix])
      refine hR.mono ?_
      rintro e W3 ⟨rfl, ⟨D', s', v'⟩, ⟨g1, g2⟩, hM3⟩
      obtain rfl : s' = s := g1
      have g3 : D' = D ++ [s'.extract 0 (p.length + 1)] := by
        rw [suf_yes e1, if_pos rfl] at g2
        exact g2
      obtain ⟨cs3, fs3⟩ := cell_bx (lb_at hM3.at' (B := bx bs [.string s'] 9) (List.mem_cons_self ..))
      obtain ⟨cp3, fp3⟩ := cell_bx (lb_at hM3.at' (B := bx bp [.string ⟨#[10]⟩] 9) (List.mem_cons_of_mem _ (List.mem_cons_self ..)))
      have hset := lb_set hM3.at' (s'.extract (p.length + 1) s'.size)
      have hcell := (cell_bx (lb_at hset.at' (B := bx bs [.string (s'.extract (p.length + 1) s'.size)] 9) (List.mem_cons_self ..))).1
      gi_wp2
      go_roundw
      case rel =>
        refine ⟨(D', s'.extract (p.length + 1) s'.size, v'), hM.trans (hM3.trans hset), ?_, ?_⟩
        · rw [← hD]
          show D' ++ lnS _ = D ++ lnS s'
          rw [lnS_hit hs hn, g3, List.append_assoc]; rfl
        · show D'.length + (s'.extract (p.length + 1) s'.size).size ≤ text.size
          rw [g3, List.length_append, List.length_singleton]; omega
      case measure =>
        rw [cellSize_eq hcell, cellSize_eq cs]; omega
end Go.Proofs.YtipdbeklopjbmaaGreatDoor
/-
  The lines of a text, by the library's iterator.
-/

namespace Go.Proofs.YtipdbeklopjbmaaGreatDoor
open Go.ChangeShapes Go.WideShapes Go.ChangeAt Go.RowKit Go.Shelf
set_option maxRecDepth 100000 in
set_option maxHeartbeats 1000000 in
theorem splitSeq_c (s sep : ByteArray) (k : Int) (w : World) :
    Calls Tryz.prog 169 #[.string s, .string sep, .int .i64 k] w fun e w' => e = .returned (.func (.func 200) #[] #[.pointer (some ⟨w.heap.size + 1, 0, none⟩), .pointer (some ⟨w.heap.size, 0, none⟩), .pointer (some ⟨w.heap.size + 2, 0, none⟩)]) ∧
      w' = ((w.alloc (.cells #[.string s] 9)).alloc (.cells #[.string sep] 9)).alloc (.cells #[.int .i64 k] 3) := by
  go_enter Tryz.func169, Tryz.ntmps169
  go_wp2
  go_ret
  exact ⟨rfl, rfl⟩
set_option maxRecDepth 100000 in
set_option maxHeartbeats 1000000 in
theorem splitAfter_c (s : ByteArray) (w : World) :
    Calls Tryz.prog 136 #[.string s, .string ⟨#[10]⟩] w fun e w' => e = .returned (.func (.func 200) #[] #[.pointer (some ⟨w.heap.size + 1, 0, none⟩), .pointer (some ⟨w.heap.size, 0, none⟩), .pointer (some ⟨w.heap.size + 2, 0, none⟩)]) ∧
      w' = ((w.alloc (.cells #[.string s] 9)).alloc (.cells #[.string ⟨#[10]⟩] 9)).alloc (.cells #[.int .i64 1] 3) := by
  refine callsIn_wide.1 (callsIn_of_wp (F := Fence.wide) (n := 2) Tryz.func136 rfl trivial ?_ rfl)
  simp only [Tryz.ntmps136, List.size_toArray, List.length_cons, List.length_nil, Nat.reduceAdd, Nat.reduceSub, Array.replicate_succ, Array.replicate_zero, List.push_toArray, List.append_toArray, List.nil_append, List.cons_append]
  gi_wp2_with (refine ⟨trivial, ?_⟩; gi_at_call 169; refine (callsIn_wide.2 (splitSeq_c s _ _ _)).mono ?_; rintro e w' ⟨rfl, rfl⟩)
  go_ret
  exact ⟨rfl, rfl⟩
theorem st1_in {P : Program} {l n : Nat} {ops : Array Oper} {Q : Exit → Act → World → Prop} {o : Oper} {rest : List Oper} {a : Act} {w : World} (hQ : ¬ LetsOut Q) (hd : ∀ c, o.op ≠ .defer c)
    (h : st1 P ops Q o (fun a' w' => wpListIn (Fence.wide.inRound l) n P ops Q rest a' w') a w) : wpListIn (Fence.wide.inRound l) n P ops Q (o :: rest) a w := by
  unfold wpListIn
  unfold st1 at h
  split
  · rename_i hw
    rw [if_pos hw] at h
    have h := h.resolve_right (fun q => hQ q.2)
    refine ⟨fun _ _ => trivial, ?_⟩
    unfold Oper.wp at h
    rw [Oper.semAt_plain _ _ _ hd]
    generalize (execOp a.eval o).run P w = r at h ⊢
    cases r with
    | ok nx w' =>
      cases nx with
      | enter f args => exact ⟨(fun h => by cases h), CallsIn.inRound l (callsIn_wide.2 h)⟩
      | row r args => exact ⟨(fun h => by cases h), fun c cs _ => let ⟨v, w', r, s⟩ := h c cs; ⟨v, w', r, stepsIn_wide.2 s⟩⟩
      | _ => first | exact h | exact h.elim
    | halt e w' => cases e <;> first | exact h | exact h.elim
  · rename_i hw
    rw [if_neg hw] at h
    exact ⟨fun _ _ => trivial, h⟩
theorem at_right {w : World} {E L : List Atom} (A : At w (E ++ L)) : At w L := ⟨fun B hB => A.ok B (List.mem_append_right _ hB), fun b hb => A.lt b (fps_append.2 (.inr hb)), (List.pairwise_append.1 A.apart).2.1⟩
def actL (n : Nat) (text x : ByteArray) : Act := { tmps := #[.string text, undef, .slice none 0 0, .pointer (some ⟨n, 0, none⟩), .string x, .string text, .func (.func 200) #[] #[.pointer (some ⟨n + 1 + 1, 0, none⟩), .pointer (some ⟨n + 1, 0, none⟩), .pointer (some ⟨n + 1 + 2, 0, none⟩)], .string x, undef, undef, undef, undef, undef, undef, undef], defers := [] }
theorem actL_fr (n : Nat) (text x : ByteArray) : Fr 15 [(4, .string x), (3, .pointer (some ⟨n, 0, none⟩))] (actL n text x) := ⟨rfl, rfl, fun t v h => by
  match t, h with
  | 0, h => cases h
  | 1, h => cases h
  | 2, h => cases h
  | 3, h => exact h
  | 4, h => exact h
  | n + 5, h =>
    have e4 : Nat.beq 4 (n + 5) = false := by
      cases g : Nat.beq 4 (n + 5) with
      | false => rfl
      | true => have := Nat.eq_of_beq_eq_true g; omega
    have e3 : Nat.beq 3 (n + 5) = false := by
      cases g : Nat.beq 3 (n + 5) with
      | false => rfl
      | true => have := Nat.eq_of_beq_eq_true g; omega
    unfold look at h
    rw [e4] at h
    unfold look at h
    rw [e3] at h
    cases h⟩
theorem CF_suf : CF Tryz.prog 137 := ⟨⟨_, _, Tryz.func137, rfl, by kernel_rfl⟩⟩
theorem TI_strs : TI Tryz.prog 44 false 1 := ti_mk Tryz.underlying44 rfl (by kernel_rfl)
set_option maxRecDepth 100000 in
set_option maxHeartbeats 1000000 in
theorem lines_c {w : World} {text : ByteArray} (p0 : text.size ≤ 4294967280) :
    Calls Tryz.prog 95 #[.string text] w fun e w' => ∃ (r0_a : Option Addr), ∃ (r0_n : Nat), ∃ (r0_c : Nat), e = .returned (.slice r0_a r0_n r0_c) ∧ Mv [] w [ow 9 1 encS okS (.slice r0_a r0_n r0_c) (lnS text)] w' := by
  refine callsIn_wide.1 (callsIn_of_wp_marks (F := Fence.wide) (n := 3) Tryz.func95 rfl trivial ?_ rfl)
  simp only [Tryz.ntmps95, List.size_toArray, List.length_cons, List.length_nil, Nat.reduceAdd, Nat.reduceSub, Array.replicate_succ, Array.replicate_zero, List.push_toArray, List.append_toArray, List.nil_append, List.cons_append]
  gi_wp2_with (refine ⟨trivial, ?_⟩; gi_at_call 136; refine (callsIn_wide.2 (splitAfter_c text _)).mono ?_; rintro e w' ⟨rfl, rfl⟩)
  have n0 : Mv [] w [ow 9 1 encS okS (.slice none 0 0) ([] : List ByteArray)] w := mv_nil (At.nil w)
  have m1 := mv_new n0.at' [.slice none 0 0] 44
  have m2 := mv_new m1.at' [.string text] 9
  have m3 := mv_new m2.at' [.string ⟨#[10]⟩] 9
  have m4 := mv_new m3.at' [.int .i64 1] 3
  simp only [World.size_alloc] at m2 m3 m4
  have hm0 := (n0.trans (m1.trans (m2.trans (m3.trans m4)))).pick [2, 1, 0, 3, 4] rfl
  refine wpIn_wide.2 (wp_range (LB := LB (w.heap.size + 1) (w.heap.size + 1 + 1) (w.heap.size + 1 + 2) w.heap.size) (s0 := ([], text, .slice none 0 0)) (okx := okx) (nx := nx) (fin := fun σ => σ.1 = lnS text) (encs := fun x : ByteArray => #[.string x])
    hm0.at' rfl (enters_of Tryz.func200 (by kernel_rfl) rfl) (fun _ => rfl) (fun l E W hY hA => iter_c hY p0 hA)
    (actL w.heap.size text) ?assign ?body ?done)
  case assign =>
    intro l x W K hK
    gi_wp2
    have hsem : ∀ (ρ : Operand → Value) (o : Oper), (∀ c, o.op ≠ .defer c) → Oper.semAt (some l) ρ o = execOp ρ o := fun ρ o h => Oper.semAt_plain (Fence.wide.inRound l) ρ o h
    rw [hsem]
    · rw [r_assign (v := .string x) rfl rfl]
      gi_wp2
      exact hK
    · intro c h; cases h
  case body =>
    rintro l E ⟨D, s, v⟩ x W hA ⟨hx1, hx2⟩
    have hx1 : D.length ≤ 4294967280 := hx1
    have F0 := actL_fr w.heap.size text x
    refine wpIn_block (wpIn_seq (wpIn_region_lit (st1_in (fun ⟨_, _, h⟩ => nomatch (show Exit.outgrown = Exit.normal ∧ _ from h).1) (fun c h => by cases h) ?_)))
    refine f_mv F0 rfl rfl rfl rfl rfl fun _ F1 => ?_
    refine st1_in (fun ⟨_, _, h⟩ => nomatch (show Exit.outgrown = Exit.normal ∧ _ from h).1) (fun c h => by cases h) ?_
    refine f_call F1 CF_suf rfl rfl rfl rfl (lc (F1.ev 8 rfl) (lc rfl rfl)) (strings_HasSuffix_c (H := fun _ => True) (s := x) (suffix := (⟨#[10]⟩ : ByteArray)) hx2 (by unfold okS; decide)) ?_
    rintro _ w1 ⟨rfl, m1⟩
    refine ⟨_, rfl, fun _ F2 => ?_⟩
    have hA1 := At.frame0 hA m1
    refine wpListIn_nil (wpIn_cond (F2.ev 9 rfl) ?_)
    cases hs : hasSuf x (⟨#[10]⟩ : ByteArray)
    · exact wpIn_skip ⟨rfl, (D, s, v), ⟨rfl, by rw [hs]; rfl⟩, hA1⟩
    · have hB := at_right hA1.at'
      refine wpIn_region_lit (st1_in (fun ⟨_, _, h⟩ => nomatch (show Exit.outgrown = Exit.normal ∧ _ from h).1) (fun c h => by cases h) ?_)
      refine f_val (v := v) F2 rfl rfl (r_loadB hB 3 TI_strs rfl rfl (F2.ev 3 rfl) rfl rfl (fun _ => rfl) rfl) rfl fun _ F3 => ?_
      refine st1_in (fun ⟨_, _, h⟩ => nomatch (show Exit.outgrown = Exit.normal ∧ _ from h).1) (fun c h => by cases h) ?_
      refine f_mv F3 rfl rfl rfl rfl rfl fun _ F4 => ?_
      refine st1_in (fun ⟨_, _, h⟩ => nomatch (show Exit.outgrown = Exit.normal ∧ _ from h).1) (fun c h => by cases h) ?_
      refine f_buildSl (ok := okS) (vs := [.string x]) F4 hB [x] ET_44 rfl rfl rfl rfl rfl rfl (lc (pr2 (F4.ev 11 rfl)) rfl) rfl rfl (fun y hy => (List.mem_singleton.1 hy) ▸ hx2) fun b _ w2 F5 S2 => ?_
      refine st1_in (fun ⟨_, _, h⟩ => nomatch (show Exit.outgrown = Exit.normal ∧ _ from h).1) (fun c h => by cases h) ?_
      refine f_app (news := [x]) F5 S2.at' 5 ET_44 rfl rfl rfl rfl rfl rfl (F5.ev 10 rfl) (F5.ev 12 rfl) ((At.rd S2.at' ET_44.hk 0 rfl)).1 (by rw [List.length_singleton]; omega) fun A7 N7 C7 _ w3 F6 S3 _ => ?_
      refine st1_in (fun ⟨_, _, h⟩ => nomatch (show Exit.outgrown = Exit.normal ∧ _ from h).1) (fun c h => by cases h) ?_
      refine s_store S3.at' 5 TI_strs rfl rfl rfl rfl rfl (F6.ev 3 rfl) (F6.ev 13 rfl) rfl rfl rfl rfl rfl fun w4 S4 => ?_
      refine wpListIn_nil ?_
      have hfin : Mv (LB (w.heap.size + 1) (w.heap.size + 1 + 1) (w.heap.size + 1 + 2) w.heap.size (D, s, v)) w1 (LB (w.heap.size + 1) (w.heap.size + 1 + 1) (w.heap.size + 1 + 2) w.heap.size (D ++ [x], s, .slice A7 N7 C7)) w4 := (S2.trans (S3.trans S4)).pick [3, 4, 5, 0, 1] rfl
      exact ⟨rfl, (D ++ [x], s, .slice A7 N7 C7), ⟨rfl, by rw [hs]; rfl⟩, hA1.trans (mv_right hA1.at' hfin)⟩
  case done =>
    rintro D ⟨D', s', v'⟩ W hf hm
    obtain rfl : D' = lnS text := hf
    have hO : Own 9 1 encS okS W v' (lnS text) := hm.at'.ok _ (nth_mem (i := 5) rfl)
    obtain ⟨ra, rn, rc, rfl⟩ := hO.isSl
    obtain ⟨cO, fO⟩ := cell_bx (hm.at'.ok (bx w.heap.size [.slice ra rn rc] 44) (nth_mem (i := 4) rfl))
    have hK : W.heap[D]? = some (.deferred (some [])) := hm.at'.ok _ (List.mem_cons_self ..)
    have hp := (hm0.trans (hm.trans (mv_put hm.at' (.deferred none)))).pick [5] rfl
    gi_wp2
    refine ⟨by simp, .inl ⟨_, _, rfl, run_takeDeferred hK, ?_⟩⟩
    exact ⟨_, results_tmp rfl _ _ _, ra, rn, rc, rfl, hp⟩
end Go.Proofs.YtipdbeklopjbmaaGreatDoor
/-
  Walks: lines, by the library's iterator.
-/

namespace Go.Proofs.YtipdbeklopjbmaaGreatDoor
open Go.ChangeShapes Go.WideShapes Go.ChangeAt Go.RowKit
set_option maxRecDepth 100000
set_option maxHeartbeats 1000000
theorem impl_LinesIn_c {w : World} {H : Nat → Prop} {text : ByteArray} (Q0 : okS text) (p0 : text.size ≤ 4294967280) :
    Calls Tryz.prog 95 #[.string text] w fun e w' => ∃ (r0_a : Option Addr), ∃ (r0_n : Nat), ∃ (r0_c : Nat), e = .returned (.slice r0_a r0_n r0_c) ∧ Mv [] w [ow 9 1 encS okS (.slice r0_a r0_n r0_c) (lnS text)] w' := by
  have uU : True := (fun _ _ => trivial) H Q0
  clear uU
  exact lines_c p0
end Go.Proofs.YtipdbeklopjbmaaGreatDoor
