/-
  What is changed is among the writes; what is wiped is gone.
-/
import Derived.Test.YtibgmijfnbnfkaaDoorDat7
import Derived.Test.YtibgmijfnbnfkaaDoorCellEq
namespace Go.Proofs.YtibgmijfnbnfkaaDoor
open Go.ChangeShapes Go.WideShapes Go.ChangeAt Go.RowKit
set_option maxRecDepth 100000
set_option maxHeartbeats 1000000

theorem touch_ne {a b : TouchD} (h : decide (a.reads = b.reads) = false) : decide (a = b) = false := decide_eq_false fun e => of_decide_eq_false h (by rw [e])
theorem touch_eq {a b : TouchD} (h : decide (a.reads = b.reads) = true) : decide (a = b) = decide (a.writes = b.writes) := by
  have h1 := of_decide_eq_true h
  cases a; cases b
  simp only at h1
  subst h1
  simp
theorem putL_mem {l : List ByteArray} {x y : ByteArray} : y ∈ putL l x ↔ y ∈ l ∨ y = x := by
  unfold putL
  split
  · rename_i h
    have hx : x ∈ l := List.mem_of_getElem? h
    exact ⟨.inl, fun h => h.elim id (fun e => e ▸ hx)⟩
  · unfold insAt
    rw [List.mem_append, List.mem_cons]
    have : y ∈ l ↔ y ∈ l.take (l.findIdx (geS x)) ∨ y ∈ l.drop (l.findIdx (geS x)) := by rw [← List.mem_append, List.take_append_drop]
    rw [this]
    constructor
    · rintro (h | h | h)
      · exact .inl (.inl h)
      · exact .inr h
      · exact .inl (.inr h)
    · rintro ((h | h) | h)
      · exact .inl h
      · exact .inr (.inr h)
      · exact .inr (.inl h)

theorem joinL_mem {l m : List ByteArray} {y : ByteArray} : y ∈ joinL l m ↔ y ∈ l ∨ y ∈ m := by
  induction m generalizing l with
  | nil => simp [joinL]
  | cons x m ih =>
    have : joinL l (x :: m) = joinL (putL l x) m := rfl
    rw [this, ih, putL_mem, List.mem_cons]
    constructor
    · rintro ((h | h) | h)
      · exact .inl h
      · exact .inr (.inl h)
      · exact .inr (.inr h)
    · rintro (h | h | h)
      · exact .inl (.inl h)
      · exact .inl (.inr h)
      · exact .inr h
theorem meetAny_join (l m k : List ByteArray) : meetAny (joinL l m) k = (meetAny l k || meetAny m k) := by
  rw [Bool.eq_iff_iff]
  simp only [meetAny, Bool.or_eq_true, List.any_eq_true, joinL_mem]
  constructor
  · rintro ⟨x, h | h, r⟩
    · exact .inl ⟨x, h, r⟩
    · exact .inr ⟨x, h, r⟩
  · rintro (⟨x, h, r⟩ | ⟨x, h, r⟩)
    · exact ⟨x, .inl h, r⟩
    · exact ⟨x, .inr h, r⟩
theorem clashT_comm (a b : TouchD) : clashT a b = clashT b a := by
  unfold clashT
  rw [meetAny_comm b.writes a.reads, meetAny_comm b.writes a.writes, meetAny_comm b.reads a.writes]
  cases meetAny a.writes b.reads <;> cases meetAny a.writes b.writes <;> cases meetAny a.reads b.writes <;> rfl
theorem clashT_join (a b x : TouchD) : clashT (joinT a b) x = (clashT a x || clashT b x) := by
  unfold clashT joinT
  simp only [meetAny_join]
  cases meetAny a.writes x.reads <;> cases meetAny b.writes x.reads <;> cases meetAny a.writes x.writes <;> cases meetAny b.writes x.writes <;> cases meetAny a.reads x.writes <;> cases meetAny b.reads x.writes <;> rfl
theorem clashT_j1 {a b x : TouchD} (h : clashT a x = true) : clashT (joinT a b) x = true := by rw [clashT_join, h]; rfl
theorem clashT_j2 {a b x : TouchD} (h : clashT a x = false) : clashT (joinT a b) x = clashT b x := by rw [clashT_join, h]; rfl
theorem putL_at2 (l : List ByteArray) (x : ByteArray) (h : ltS x x = false) : putL (putL l x) x = putL l x := by
  have hle : l.findIdx (geS x) ≤ l.length := List.findIdx_le_length
  have hlt : ∀ q, q < l.findIdx (geS x) → ∀ y, l[q]? = some y → geS x y = false := fun q hq y hy => by
    obtain ⟨h3, rfl⟩ := List.getElem?_eq_some_iff.1 hy
    have := List.not_of_lt_findIdx hq
    simpa using this
  have hge : geS x x = true := by simp [geS, h]
  by_cases hx : l[l.findIdx (geS x)]? = some x
  · have e : putL l x = l := by unfold putL; rw [if_pos hx]
    rw [e, e]
  · have e : putL l x = insAt l (l.findIdx (geS x)) x := by unfold putL; rw [if_neg hx]
    have hat : (insAt l (l.findIdx (geS x)) x)[l.findIdx (geS x)]? = some x := by
      unfold insAt
      rw [List.getElem?_append_right (by rw [List.length_take]; omega), List.length_take, Nat.min_eq_left hle, Nat.sub_self]
      rfl
    have hfi : (insAt l (l.findIdx (geS x)) x).findIdx (geS x) = l.findIdx (geS x) := findIdx_found _ _ _ x hat hge fun q hq y hy => by
      unfold insAt at hy
      rw [List.getElem?_append_left (by rw [List.length_take]; omega), List.getElem?_take_of_lt hq] at hy
      exact hlt q hq y hy
    rw [e]
    unfold putL
    rw [hfi, if_pos hat]
theorem ltS_self (x : ByteArray) : ltS x x = false := by
  have h : ∀ l : List UInt8, Op.bytesLess l l = false := by
    intro l
    induction l with
    | nil => rfl
    | cons a l ih => simp [Op.bytesLess, ih]
  exact h _
theorem putL_idem (l : List ByteArray) (x : ByteArray) : putL (putL l x) x = putL l x := putL_at2 l x (ltS_self x)

theorem mach_ne {a b : MachD} (h : decide (a.store = b.store) = false) : decide (a = b) = false := decide_eq_false fun e => of_decide_eq_false h (by rw [e])
theorem mach_eq {a b : MachD} (h : decide (a.store = b.store) = true) : decide (a = b) = decide (a.touch = b.touch) := by
  have h1 := of_decide_eq_true h
  cases a; cases b
  simp only at h1
  subst h1
  simp

theorem getKey_eq (l : List CellD) (key : ByteArray) : getKey l key = ((l.find? fun c : CellD => decide (c.key = key)).map (·.val)).getD ⟨#[]⟩ := by
  unfold getKey
  cases l.find? (fun c : CellD => decide (c.key = key)) <;> rfl
theorem getKey_del {l : List CellD} {key k : ByteArray} (h : k ≠ key) : getKey (delKey l key) k = getKey l k := by
  rw [getKey_eq, getKey_eq]
  unfold delKey
  rw [List.find?_filter]
  congr 3
  funext c
  by_cases e : c.key = k
  · simp [e, h]
  · simp [e]
theorem getKey_ins {l : List CellD} {key val k : ByteArray} (h : k ≠ key) : getKey (insK l key val) k = getKey l k := by
  rw [getKey_eq, getKey_eq]
  unfold insK insAt
  have e : ∀ i, (l.take i ++ ⟨key, val⟩ :: l.drop i).find? (fun c : CellD => decide (c.key = k)) = l.find? (fun c : CellD => decide (c.key = k)) := fun i => by
    rw [List.find?_append, List.find?_cons_of_neg (by simpa using fun e => h e.symm), ← List.find?_append, List.take_append_drop]
  rw [e]
theorem getKey_put {l : List CellD} {key val k : ByteArray} (h : k ≠ key) : getKey (putKey l key val) k = getKey l k := by
  unfold putKey
  split
  · split
    · exact getKey_del h
    · rw [getKey_ins h, getKey_del h]
  · rfl
/-- The keys whose values differ, out of the first cells of the two stores. -/
def diffStep (a b : List CellD) (o : List ByteArray) (c : CellD) : List ByteArray := if getKey a c.key ≠ getKey b c.key then putL o c.key else o
def diffK (a b : List CellD) (k : Nat) : List ByteArray := ((a ++ b).take k).foldl (diffStep a b) []
def diffL (a b : List CellD) : List ByteArray := (a ++ b).foldl (diffStep a b) []
theorem diffK_length (a b : List CellD) (k : Nat) : (diffK a b k).length ≤ k := by
  have h : ∀ (l : List CellD) (o : List ByteArray), (l.foldl (diffStep a b) o).length ≤ o.length + l.length := by
    intro l
    induction l with
    | nil => intro o; simp
    | cons c l ih =>
      intro o
      have h1 := ih (diffStep a b o c)
      have h2 : (diffStep a b o c).length ≤ o.length + 1 := by
        unfold diffStep
        split
        · exact putL_length ..
        · omega
      simp only [List.foldl_cons, List.length_cons]; omega
  have := h ((a ++ b).take k) []
  unfold diffK
  rw [List.length_take] at this
  simp only [List.length_nil] at this
  omega
theorem diffK_snoc {a b : List CellD} {k : Nat} {x : CellD} (hx : nth (a ++ b) k = some x) : diffK a b (k + 1) = diffStep a b (diffK a b k) x := by
  unfold diffK
  rw [nth_take_snoc hx, List.foldl_append]; rfl
theorem nth_left {α : Type} {a b : List α} {k : Nat} {x : α} (hx : nth a k = some x) : nth (a ++ b) k = some x := by
  have := nth_lt hx
  rw [nth_eq] at *
  rw [List.getElem?_append_left this]; exact hx
theorem nth_right {α : Type} {a b : List α} {k n : Nat} {x : α} (hn : n = a.length) (h : ¬ k < n) (hx : nth b (k - n) = some x) : nth (a ++ b) k = some x := by
  subst hn
  rw [nth_eq] at *
  rw [List.getElem?_append_right (by omega)]; exact hx
theorem diff_t {a b : List CellD} {k : Nat} {x : CellD} (hx : nth (a ++ b) k = some x) (h : getKey a x.key ≠ getKey b x.key) : putL (diffK a b k) x.key = diffK a b (k + 1) := by
  rw [diffK_snoc hx]; unfold diffStep; rw [if_pos h]
theorem diff_f {a b : List CellD} {k : Nat} {x : CellD} (hx : nth (a ++ b) k = some x) (h : ¬ getKey a x.key ≠ getKey b x.key) : diffK a b k = diffK a b (k + 1) := by
  rw [diffK_snoc hx]; unfold diffStep; rw [if_neg h]
theorem diffK_all {a b : List CellD} {k m n : Nat} (ha : m = a.length) (hb : n = b.length) (h : ¬ k < m + n) : diffK a b k = diffL a b := by
  unfold diffK diffL
  rw [List.take_of_length_le (by rw [List.length_append]; omega)]
theorem diffL_mem {a b : List CellD} {x : ByteArray} (hx : x ∈ diffL a b) : getKey a x ≠ getKey b x := by
  have h : ∀ (l : List CellD) (o : List ByteArray), (∀ y ∈ o, getKey a y ≠ getKey b y) → ∀ y ∈ l.foldl (diffStep a b) o, getKey a y ≠ getKey b y := by
    intro l
    induction l with
    | nil => intro o ho; exact ho
    | cons c l ih =>
      intro o ho
      refine ih _ ?_
      unfold diffStep
      split
      · rename_i hd
        intro y hy
        rcases putL_mem.1 hy with h | h
        · exact ho y h
        · exact h ▸ hd
      · exact ho
  exact h _ [] (fun y hy => absurd hy List.not_mem_nil) x hx
theorem begins_stem (k : ByteArray) (n : Nat) : begins k (k.extract 0 n) = true := by
  unfold begins
  by_cases h : n ≤ k.size
  · have e : (k.extract 0 n).size = n := by rw [ByteArray.size_extract]; omega
    rw [e]; exact decide_eq_true ⟨h, rfl⟩
  · have e : k.extract 0 n = k := by have := ByteArray.extract_zero_max_size (a := k) (i := n); rwa [Nat.max_eq_left (by omega)] at this
    rw [e]
    exact decide_eq_true ⟨Nat.le_refl _, by rw [ByteArray.extract_zero_size]⟩
theorem spanHas_self (k : ByteArray) : spanHas k k = true := by
  cases h : openS k
  · rw [spanHas_f h]; exact decide_eq_true rfl
  · rw [spanHas_t h, stemS_t h]; exact begins_stem k _
theorem openS_star (p : ByteArray) : openS (p ++ (⟨#[42]⟩ : ByteArray)) = true := by
  have h1 : (⟨#[42]⟩ : ByteArray).size = 1 := rfl
  refine decide_eq_true ⟨by rw [ByteArray.size_append]; omega, ?_⟩
  rw [ByteArray.size_append, h1, Nat.add_sub_cancel]
  exact ByteArray.extract_append_eq_right rfl (by rw [h1])
theorem stemS_star (p : ByteArray) : stemS (p ++ (⟨#[42]⟩ : ByteArray)) = p := by
  have h1 : (⟨#[42]⟩ : ByteArray).size = 1 := rfl
  rw [stemS_t (openS_star p), ByteArray.size_append, h1, Nat.add_sub_cancel]
  exact ByteArray.extract_append_eq_left rfl
theorem spanHas_star (p k : ByteArray) : spanHas (p ++ (⟨#[42]⟩ : ByteArray)) k = begins k p := by rw [spanHas_t (openS_star p), stemS_star]
theorem covers_of {l ks : List ByteArray} (h : ∀ k ∈ ks, k ∈ l) : coversL l ks = true := by
  unfold coversL
  rw [List.all_eq_true]
  intro k hk
  exact List.any_eq_true.2 ⟨k, h k hk, spanHas_self k⟩
theorem lay_noted (m : MachD) (key val k : ByteArray) (h : getKey m.store k ≠ getKey (layM m key val).store k) : k ∈ (layM m key val).touch.writes := by
  by_cases e : k = key
  · exact putL_mem.2 (.inr e)
  · exact absurd (getKey_put e).symm h
theorem covers_lay (m : MachD) (key val : ByteArray) : coversL (putL m.touch.writes key) (diffL m.store (putKey m.store key val)) = true := covers_of fun k hk => lay_noted m key val k (diffL_mem hk)
theorem wipeL_noted (m : MachD) (ks : List ByteArray) (k : ByteArray) (h : getKey m.store k ≠ getKey (wipeL m ks).store k) : k ∈ (wipeL m ks).touch.writes := by
  have g : ∀ (ks : List ByteArray) (m' : MachD), (getKey m.store k ≠ getKey m'.store k → k ∈ m'.touch.writes) → getKey m.store k ≠ getKey (wipeL m' ks).store k → k ∈ (wipeL m' ks).touch.writes := by
    intro ks
    induction ks with
    | nil => intro m' h; exact h
    | cons x ks ih =>
      intro m' h
      refine ih (layM m' x ⟨#[]⟩) fun hd => ?_
      by_cases e : k = x
      · exact putL_mem.2 (.inr e)
      · refine putL_mem.2 (.inl (h ?_))
        have : getKey (layM m' x ⟨#[]⟩).store k = getKey m'.store k := getKey_put e
        rw [this] at hd; exact hd
  exact g ks m (fun h => absurd rfl h) h
theorem wipeM_noted (m : MachD) (p k : ByteArray) (h : getKey m.store k ≠ getKey (wipeM m p).store k) : k ∈ (wipeM m p).touch.writes := by
  unfold wipeM at *
  exact wipeL_noted (lookM m (p ++ (⟨#[42]⟩ : ByteArray))) (keysUnder m.store p) k h
theorem covers_wipe (m : MachD) (p : ByteArray) : coversL (wipeM m p).touch.writes (diffL m.store (wipeM m p).store) = true := covers_of fun k hk => wipeM_noted m p k (diffL_mem hk)
theorem wipeL_reads (m : MachD) (ks : List ByteArray) : (wipeL m ks).touch.reads = m.touch.reads := by
  induction ks generalizing m with
  | nil => rfl
  | cons x ks ih => exact ih (layM m x ⟨#[]⟩)
theorem keysUnder_mem {l : List CellD} {p k : ByteArray} : k ∈ keysUnder l p ↔ (∃ c ∈ l, c.key = k) ∧ begins k p = true := by
  simp only [keysUnder, List.mem_map, List.mem_filter]
  constructor
  · rintro ⟨c, ⟨h1, h2⟩, rfl⟩; exact ⟨⟨c, h1, rfl⟩, h2⟩
  · rintro ⟨⟨c, h1, rfl⟩, h2⟩; exact ⟨c, ⟨h1, h2⟩, rfl⟩
theorem covers_under (m : MachD) (p : ByteArray) : coversL (wipeM m p).touch.reads (keysUnder m.store p) = true := by
  have e : (wipeM m p).touch.reads = putL m.touch.reads (p ++ (⟨#[42]⟩ : ByteArray)) := wipeL_reads ..
  rw [e]
  unfold coversL
  rw [List.all_eq_true]
  intro k hk
  exact List.any_eq_true.2 ⟨p ++ (⟨#[42]⟩ : ByteArray), putL_mem.2 (.inr rfl), by rw [spanHas_star]; exact (keysUnder_mem.1 hk).2⟩
/-- Is the cell at k as it should be? -/
def cellOk (s : List CellD) (k : Nat) : Bool := match nth s k with
  | some x => keyOk x.key && inB x.val.size 1 60 && (decide (k = 0) || match nth s (k - 1) with
    | some y => ltS y.key x.key
    | none => true)
  | none => true
def storeOk (s : List CellD) : Bool := (List.range s.length).all (cellOk s) && decide (s.length ≤ 900)
theorem ck_1 {s : List CellD} {k : Nat} {x : CellD} (hx : nth s k = some x) (h : (!keyOk x.key) = true) : true = !cellOk s k := by simp [cellOk, hx, nt h]
theorem ck_2 {s : List CellD} {k : Nat} {x : CellD} (hx : nth s k = some x) (_h1 : (!keyOk x.key) = false) (h2 : (!inB x.val.size 1 60) = true) : true = !cellOk s k := by simp [cellOk, hx, nt h2]
theorem ck_3 {s : List CellD} {k : Nat} {x : CellD} (hx : nth s k = some x) (h1 : (!keyOk x.key) = false) (h2 : (!inB x.val.size 1 60) = false) (h3 : ¬ k > 0) : false = !cellOk s k := by
  have : k = 0 := by omega
  subst this
  simp [cellOk, hx, nf h1, nf h2]
theorem ck_4 {s : List CellD} {k : Nat} {x y : CellD} (hx : nth s k = some x) (h1 : (!keyOk x.key) = false) (h2 : (!inB x.val.size 1 60) = false) (h3 : k > 0) (hy : nth s (k - 1) = some y) : (!ltS y.key x.key) = !cellOk s k := by
  have : ¬ k = 0 := by omega
  simp [cellOk, hx, nf h1, nf h2, hy, this]
theorem storeOk_bad {s : List CellD} {k : Nat} (hk : k < s.length) (h : cellOk s k = false) : storeOk s = false := by
  have : (List.range s.length).all (cellOk s) = false := List.all_eq_false.2 ⟨k, List.mem_range.2 hk, by simp [h]⟩
  simp [storeOk, this]
theorem storeOk_all {s : List CellD} (h : ∀ j, j < s.length → cellOk s j = true) : storeOk s = decide (s.length ≤ 900) := by
  have : (List.range s.length).all (cellOk s) = true := List.all_eq_true.2 fun j hj => h j (List.mem_range.1 hj)
  simp [storeOk, this]
theorem storeOk_keys {s : List CellD} (h : storeOk s = true) : ∀ c ∈ s, keyOk c.key = true := by
  intro c hc
  obtain ⟨j, hj, rfl⟩ := List.mem_iff_getElem.1 hc
  unfold storeOk at h
  simp only [Bool.and_eq_true, List.all_eq_true, List.mem_range] at h
  have := h.1 j hj
  have hx : nth s j = some s[j] := by rw [nth_eq]; simp [hj]
  unfold cellOk at this
  rw [hx] at this
  simp only [Bool.and_eq_true] at this
  exact this.1.1
theorem delKey_mem {s : List CellD} {key : ByteArray} {c : CellD} : c ∈ delKey s key ↔ c ∈ s ∧ c.key ≠ key := by
  unfold delKey
  rw [List.mem_filter]
  simp
theorem wipeL_gone {ks : List ByteArray} {m : MachD} (hk : ∀ k ∈ ks, keyOk k = true) {c : CellD} : c ∈ (wipeL m ks).store ↔ c ∈ m.store ∧ c.key ∉ ks := by
  induction ks generalizing m with
  | nil => simp [wipeL]
  | cons x ks ih =>
    have h1 : (layM m x ⟨#[]⟩).store = delKey m.store x := putKey_del (hk x (List.mem_cons_self ..)) rfl
    have : wipeL m (x :: ks) = wipeL (layM m x ⟨#[]⟩) ks := rfl
    rw [this, ih fun k hk' => hk k (List.mem_cons_of_mem _ hk'), h1, delKey_mem, List.mem_cons]
    constructor
    · rintro ⟨⟨a, b⟩, d⟩; exact ⟨a, fun e => e.elim b d⟩
    · rintro ⟨a, b⟩; exact ⟨⟨a, fun e => b (.inl e)⟩, fun e => b (.inr e)⟩
theorem wipe_gone {m : MachD} {p : ByteArray} (h : storeOk m.store = true) : keysUnder (wipeM m p).store p = [] := by
  rw [List.eq_nil_iff_forall_not_mem]
  intro k hk
  obtain ⟨⟨c, hc, rfl⟩, hb⟩ := keysUnder_mem.1 hk
  have hc' := (wipeL_gone (m := lookM m (p ++ (⟨#[42]⟩ : ByteArray))) (fun k hk => by obtain ⟨⟨d, hd, rfl⟩, _⟩ := keysUnder_mem.1 hk; exact storeOk_keys h d hd)).1 hc
  exact hc'.2 (keysUnder_mem.2 ⟨⟨c, hc'.1, rfl⟩, hb⟩)
theorem notOk {m : MachD} {p : ByteArray} {n : Nat} (hn : n = (keysUnder (wipeM m p).store p).length) (h : ¬ n = 0) : storeOk m.store = false := by
  cases e : storeOk m.store
  · rfl
  · rw [wipe_gone e] at hn; exact absurd hn h
end Go.Proofs.YtibgmijfnbnfkaaDoor
