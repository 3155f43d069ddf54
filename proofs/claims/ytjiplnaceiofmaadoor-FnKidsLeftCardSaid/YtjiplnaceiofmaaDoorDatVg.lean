/-
  Children.
-/
import Derived.Test.YtjiplnaceiofmaaDoorDatVa
namespace Go.Proofs.YtjiplnaceiofmaaDoor
open Go.ChangeShapes Go.WideShapes Go.ChangeAt Go.RowKit
set_option maxRecDepth 100000
set_option maxHeartbeats 1000000


/-! ### Children -/
def rpM (m : MachD) (id : Int) : MachD := wipeM (lookM (lookM (lookM m (keyNum (⟨#[114, 47]⟩ : ByteArray) id (⟨#[47, 112]⟩ : ByteArray))) (keyNum (⟨#[114, 47]⟩ : ByteArray) id (⟨#[47, 115]⟩ : ByteArray))) (keyNum (⟨#[114, 47]⟩ : ByteArray) id (⟨#[47, 120]⟩ : ByteArray))) (keyNum (⟨#[114, 47]⟩ : ByteArray) id (⟨#[47]⟩ : ByteArray))
theorem bdC.rp {b : Nat} {m : MachD} {id : Int} (h : bdC b m) : bdC (2 * b + 10) (rpM m id) := by
  unfold rpM
  exact h.look.look.look.wipe.le (by omega)
def kidsS (parent : Int) (st : MachD × List Int) (key : ByteArray) : MachD × List Int := if 5 ≤ key.size ∧ hasSuf key (⟨#[47, 112]⟩ : ByteArray) = true then (lookM st.1 key, if ((numK st.1 key : Nat) : Int) = parent then st.2 ++ [((numOf ((cutSuf key (⟨#[47, 112]⟩ : ByteArray)).extract 2 (cutSuf key (⟨#[47, 112]⟩ : ByteArray)).size) : Nat) : Int)] else st.2) else st
def kidsR (parent : Int) (m : MachD) (ks : List ByteArray) : MachD × List Int := ks.foldl (kidsS parent) (lookM m ((⟨#[114, 47]⟩ : ByteArray) ++ (⟨#[42]⟩ : ByteArray)), [])
theorem kidsR_step {parent : Int} {m : MachD} {ks : List ByteArray} {k : Nat} {x : ByteArray} (hx : nth ks k = some x) : kidsR parent m (ks.take (k + 1)) = kidsS parent (kidsR parent m (ks.take k)) x := by
  rw [nth_take_snoc hx]; unfold kidsR; rw [List.foldl_append]; rfl
theorem kids_a {parent : Int} {st : MachD × List Int} {M : MachD} {D : List Int} {x : ByteArray} (hM : M = st.1) (hD : D = st.2) (h1 : x.size ≥ 5) (h2 : hasSuf x (⟨#[47, 112]⟩ : ByteArray) = true) (h3 : ((numOf (getKey M.store x) : Nat) : Int) = parent) : lookM M x = (kidsS parent st x).1 ∧ D ++ [((numOf ((cutSuf x (⟨#[47, 112]⟩ : ByteArray)).extract 2 (cutSuf x (⟨#[47, 112]⟩ : ByteArray)).size) : Nat) : Int)] = (kidsS parent st x).2 := by
  subst hM; subst hD
  unfold kidsS
  rw [if_pos ⟨h1, h2⟩]
  exact ⟨rfl, (if_pos h3).symm⟩
theorem kids_b {parent : Int} {st : MachD × List Int} {M : MachD} {D : List Int} {x : ByteArray} (hM : M = st.1) (hD : D = st.2) (h1 : x.size ≥ 5) (h2 : hasSuf x (⟨#[47, 112]⟩ : ByteArray) = true) (h3 : ¬ ((numOf (getKey M.store x) : Nat) : Int) = parent) : lookM M x = (kidsS parent st x).1 ∧ D = (kidsS parent st x).2 := by
  subst hM; subst hD
  unfold kidsS
  rw [if_pos ⟨h1, h2⟩]
  exact ⟨rfl, (if_neg h3).symm⟩
theorem kids_c {parent : Int} {st : MachD × List Int} {M : MachD} {D : List Int} {x : ByteArray} (hM : M = st.1) (hD : D = st.2) (h1 : ¬ x.size ≥ 5) : M = (kidsS parent st x).1 ∧ D = (kidsS parent st x).2 := by
  subst hM; subst hD
  unfold kidsS
  rw [if_neg (fun h => h1 h.1)]
  exact ⟨rfl, rfl⟩
theorem kids_d {parent : Int} {st : MachD × List Int} {M : MachD} {D : List Int} {x : ByteArray} (hM : M = st.1) (hD : D = st.2) (h2 : hasSuf x (⟨#[47, 112]⟩ : ByteArray) = false) : M = (kidsS parent st x).1 ∧ D = (kidsS parent st x).2 := by
  subst hM; subst hD
  unfold kidsS
  rw [if_neg (fun h => by rw [h2] at h; exact absurd h.2 (by decide))]
  exact ⟨rfl, rfl⟩
theorem kidsS_bd {parent : Int} {st : MachD × List Int} {x : ByteArray} {b : Nat} (h : bdC b st.1) (hl : st.2.length ≤ b) : bdC (b + 1) (kidsS parent st x).1 ∧ (kidsS parent st x).2.length ≤ b + 1 := by
  unfold kidsS
  split
  · refine ⟨h.look, ?_⟩
    show (if _ then _ else _ : List Int).length ≤ _
    split
    · rw [List.length_append, List.length_singleton]; omega
    · omega
  · exact ⟨h.le (by omega), by omega⟩
theorem kidsR_bd {parent : Int} {m : MachD} {ks : List ByteArray} {b : Nat} (h : bdC b m) : bdC (b + 1 + ks.length) (kidsR parent m ks).1 ∧ (kidsR parent m ks).2.length ≤ b + 1 + ks.length := by
  have : ∀ (ks : List ByteArray) (st : MachD × List Int) (b : Nat), bdC b st.1 → st.2.length ≤ b → bdC (b + ks.length) (ks.foldl (kidsS parent) st).1 ∧ (ks.foldl (kidsS parent) st).2.length ≤ b + ks.length := by
    intro ks
    induction ks with
    | nil => intro st b h1 h2; exact ⟨h1, h2⟩
    | cons x ks ih =>
      intro st b h1 h2
      obtain ⟨h3, h4⟩ := kidsS_bd (parent := parent) (x := x) h1 h2
      have := ih _ (b + 1) h3 h4
      rw [List.length_cons]
      exact ⟨this.1.le (by omega), by have := this.2; rw [List.foldl_cons]; omega⟩
  exact this ks _ (b + 1) h.look (Nat.zero_le _)
theorem cutSuf_le (s p : ByteArray) : (cutSuf s p).size ≤ s.size := by
  unfold cutSuf
  split
  · rw [ByteArray.size_extract]; omega
  · exact Nat.le_refl _
theorem cutSuf_size5 {x : ByteArray} (h : x.size ≥ 5) : 3 ≤ (cutSuf x (⟨#[47, 112]⟩ : ByteArray)).size := by
  have e : ((⟨#[47, 112]⟩ : ByteArray)).size = 2 := rfl
  unfold cutSuf
  split
  · rw [ByteArray.size_extract]; omega
  · omega
/-- What becomes of the children: true: ended and reaped. -/
def kidStep (st : MachD × List Int) (b : Bool) : MachD × List Int := if b then (rpM (endM (spawnM st.1 1) ((spawnI st.1 : Nat) : Int) 3) ((spawnI st.1 : Nat) : Int), st.2) else (spawnM st.1 1, st.2 ++ [((spawnI st.1 : Nat) : Int)])
def kidRun (bs : List Bool) : MachD × List Int := bs.foldl kidStep (spawnM (⟨[], (⟨[], []⟩ : TouchD)⟩ : MachD) 0, [])
theorem kidRun_snoc (bs : List Bool) (b : Bool) : kidRun (bs ++ [b]) = kidStep (kidRun bs) b := by unfold kidRun; rw [List.foldl_append]; rfl
theorem kid_start : spawnM (⟨[], (⟨[], []⟩ : TouchD)⟩ : MachD) 0 = (kidRun []).1 ∧ ([] : List Int) = (kidRun []).2 := by
  unfold kidRun
  rw [List.foldl_nil]
  exact ⟨by dsimp only, by dsimp only⟩
theorem kid_t {bs : List Bool} {M : MachD} {D : List Int} {r : Nat} (hM : M = (kidRun bs).1) (hD : D = (kidRun bs).2) (h : r = 0) : rpM (endM (spawnM M 1) ((spawnI M : Nat) : Int) 3) ((spawnI M : Nat) : Int) = (kidRun (bs ++ [decide (r = 0)])).1 ∧ D = (kidRun (bs ++ [decide (r = 0)])).2 := by
  subst hM; subst hD
  rw [kidRun_snoc, decide_eq_true h]
  unfold kidStep
  rw [if_pos rfl]
  exact ⟨by dsimp only, by dsimp only⟩
theorem kid_f {bs : List Bool} {M : MachD} {D : List Int} {r : Nat} (hM : M = (kidRun bs).1) (hD : D = (kidRun bs).2) (h : ¬ r = 0) : spawnM M 1 = (kidRun (bs ++ [decide (r = 0)])).1 ∧ D ++ [((spawnI M : Nat) : Int)] = (kidRun (bs ++ [decide (r = 0)])).2 := by
  subst hM; subst hD
  rw [kidRun_snoc, decide_eq_false h]
  unfold kidStep
  rw [if_neg Bool.false_ne_true]
  exact ⟨by dsimp only, by dsimp only⟩
def bools : Nat → List (List Bool)
  | 0 => [[]]
  | n + 1 => (bools n).flatMap fun l => [true :: l, false :: l]
theorem bools_all : ∀ (n : Nat) (l : List Bool), l.length = n → l ∈ bools n
  | 0, l, h => by rw [List.length_eq_zero_iff.1 h]; exact List.mem_singleton.2 rfl
  | n + 1, [], h => by cases h
  | n + 1, b :: l, h => by
    have := bools_all n l (by rw [List.length_cons] at h; omega)
    refine List.mem_flatMap.2 ⟨l, this, ?_⟩
    cases b <;> simp
/-- What the walk asks of a round, of the end. -/
def kidGood (m : MachD) : Bool := decide (spawnI m ≤ 12) && decide (numK (spawnM m 1) (keyNum (⟨#[114, 47]⟩ : ByteArray) (spawnI m) (⟨#[47, 115]⟩ : ByteArray)) = 1) && decide (numK (endM (spawnM m 1) (spawnI m) 3) (keyNum (⟨#[114, 47]⟩ : ByteArray) (spawnI m) (⟨#[47, 112]⟩ : ByteArray)) = 1) && decide (numK (endM (spawnM m 1) (spawnI m) 3) (keyNum (⟨#[114, 47]⟩ : ByteArray) (spawnI m) (⟨#[47, 115]⟩ : ByteArray)) = 2)
def kidEnd (st : MachD × List Int) : Bool := decide ((kidsR 1 st.1 (keysUnder st.1.store (⟨#[114, 47]⟩ : ByteArray))).2 = st.2)
theorem kidGood_all : ∀ n, n < 4 → (bools n).all (fun l => kidGood (kidRun l).1) = true := by decide +kernel
theorem kidEnd_all : (bools 4).all (fun l => kidEnd (kidRun l)) = true := by decide +kernel
theorem kid_round {bs : List Bool} {M : MachD} (hM : M = (kidRun bs).1) (hl : bs.length < 4) : spawnI M ≤ 12 ∧ numK (spawnM M 1) (keyNum (⟨#[114, 47]⟩ : ByteArray) (spawnI M) (⟨#[47, 115]⟩ : ByteArray)) = 1 ∧ numK (endM (spawnM M 1) (spawnI M) 3) (keyNum (⟨#[114, 47]⟩ : ByteArray) (spawnI M) (⟨#[47, 112]⟩ : ByteArray)) = 1 ∧ numK (endM (spawnM M 1) (spawnI M) 3) (keyNum (⟨#[114, 47]⟩ : ByteArray) (spawnI M) (⟨#[47, 115]⟩ : ByteArray)) = 2 := by
  subst hM
  have := List.all_eq_true.1 (kidGood_all _ hl) bs (bools_all _ _ rfl)
  unfold kidGood at this
  simp only [Bool.and_eq_true, decide_eq_true_eq] at this
  exact ⟨this.1.1.1, this.1.1.2, this.1.2, this.2⟩
theorem kid_end {bs : List Bool} {M : MachD} {D : List Int} (hM : M = (kidRun bs).1) (hD : D = (kidRun bs).2) (hl : bs.length = 4) : (kidsR 1 M (keysUnder M.store (⟨#[114, 47]⟩ : ByteArray))).2 = D := by
  subst hM; subst hD
  have := List.all_eq_true.1 kidEnd_all bs (bools_all 4 bs hl)
  exact of_decide_eq_true this
theorem kid_first : spawnI (⟨[], (⟨[], []⟩ : TouchD)⟩ : MachD) = 1 := by decide +kernel
def kB : Nat → Nat
  | 0 => 20
  | k + 1 => 2 * (kB k + 20) + 40
theorem kB_succ (k : Nat) : kB (k + 1) = 2 * (kB k + 20) + 40 := rfl
theorem kid_bd1 {k : Nat} {M : MachD} {a b : Int} (h : bdC (kB k) M) : bdC (kB (k + 1)) (rpM (endM (spawnM M 1) a 3) b) := by
  rw [kB_succ]
  exact (bdC.rp (bdC.ends (bdC.spawn h))).le (by omega)
theorem kid_bd2 {k : Nat} {M : MachD} (h : bdC (kB k) M) : bdC (kB (k + 1)) (spawnM M 1) := by
  rw [kB_succ]
  exact (bdC.spawn h).le (by omega)
theorem kB_le {k : Nat} (h : k ≤ 4) : kB k ≤ 2000 := by
  have : ∀ k, k < 5 → kB k ≤ 2000 := by decide
  exact this k (by omega)
end Go.Proofs.YtjiplnaceiofmaaDoor
