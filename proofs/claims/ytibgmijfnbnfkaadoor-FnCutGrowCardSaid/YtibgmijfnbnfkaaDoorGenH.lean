/-
  Walks: texts in figures.
-/
import Derived.Shelf.Hex.DecodeOwns
import Derived.Shelf.Hex.More
import Derived.Lib.ConvBytes
import Derived.Lib.AtoiErrMem
import Derived.Test.YtibgmijfnbnfkaaDoorFactsB
import Derived.Test.YtibgmijfnbnfkaaDoorGenNb
import Derived.Test.YtibgmijfnbnfkaaDoorDatV
namespace Go.Proofs.YtibgmijfnbnfkaaDoor
open Go.ChangeShapes Go.WideShapes Go.ChangeAt Go.RowKit
set_option maxRecDepth 100000
set_option maxHeartbeats 1000000

theorem rd_bytes {H : Nat → Prop} (w : World) (e : Nat) (s : ByteArray) (hsz : s.size ≤ 9223372036854775807) : Rd 1 encB okB (Fsh H w) (Lib.bytesWorld w e s) (.slice (some ⟨w.heap.size, 0, none⟩) s.size (grownCap w s.size 0 e)) (bytesN s) := by
  have hl : (bytesN s).length = s.size := bytesN_length s
  refine ⟨RSl.mk w.heap.size 0 _ (by rw [hl]) (by rw [hl]; exact grownCap_ge w _ 0 e) (grownCap_le_maxLen w _ 0 e (by unfold maxLen; omega)) fun i x hx => ?_, fun ad n c e _ => by cases e; exact .inr (Nat.le_refl _)⟩
  have hi : i < (bytesN s).length := (List.getElem?_eq_some_iff.1 hx).1
  refine ⟨encB x, rfl, ⟨rfl, bytesN_lt s x (List.mem_of_getElem? hx)⟩, fun j u hj => ?_⟩
  cases j with
  | zero =>
    cases hj
    have h := Lib.bytesWorld_cell w e s i (by omega)
    have hx2 : (s.data.toList.getD i 0).toNat = x := by
      unfold bytesN at hx
      rw [List.getElem?_map] at hx
      unfold List.getD
      cases hq : s.data.toList[i]? with
      | none => rw [hq] at hx; cases hx
      | some y => rw [hq] at hx; cases hx; rfl
    rw [hx2] at h
    simpa using h
  | succ j => cases hj
section
variable {P : Program} {ops : Array Oper} {Q : Exit → Act → World → Prop} {K : Act → World → Prop} {o : Oper} {a : Act} {w : World} {L : List Atom} {d n : Nat} {m : List (Nat × Value)}
theorem f_sbytes {src dst e : TypeId} {u : TypeDesc} {s : ByteArray} {x : Operand} {G : Nat → Prop} {w0 : World} (F : Fr n m a) (A : At w L) (hg : w0.heap.size ≤ w.heap.size) (hs : P.underlying src = some u) (hdt : P.underlying dst = some (.slice e)) (he : P.underlying e = some (.int .u8)) (hw : Region.wanted o (yielded ops a.tmps) = true) (hd : o.dst = some d) (ho : o.op = .convert src dst x) (hp : Nat.blt d n = true) (hx : a.eval x = .string s) (hz : s.size ≤ 9223372036854775807)
    (kk : ∀ b q c a' w', Fr n ((d, .slice (some ⟨b, 0, none⟩) q c) :: m) a' → Mv L w L w' → Rd 1 encB okB (V G w0 L) w' (.slice (some ⟨b, 0, none⟩) q c) (bytesN s) → q = s.size → K a' w') : st1 P ops Q o K a w := by
  have hb := Lib.bytesWorld_below w e s
  have hM : Mv L w L (Lib.bytesWorld w e s) := At.frame0 A (mv_below hb)
  refine s_valw hw hd (v := .slice (some ⟨w.heap.size, 0, none⟩) s.size (grownCap w s.size 0 e)) (w' := Lib.bytesWorld w e s) ?_ fun _ e' => kk _ _ _ _ _ (F.put e' hp) hM (Rd.got0 A hg (rd_bytes w e s hz) hM) rfl
  simp [execOp, ho, hx, Lib.run_convert_string_bytes w src dst e s hs hdt he, Result.andThen]
end
section
variable {P : Program} {ρ : Operand → Value} {w : World} {o : Oper} {x y : Operand} {t u : TypeId}
theorem r_remC {m c : Nat} {n : Int} (hn : n = (c : Int)) (hc : 0 < c) (ho : o.op = .binOp .rem t x y u) (hx : ρ x = .int .i64 ((m : Nat) : Int)) (hy : ρ y = .int .i64 n) : (execOp ρ o).run P w = .ok (.value (.int .i64 ((m % c : Nat) : Int))) w := by
  subst hn
  have := r_remN (P := P) (w := w) (n := (c : Int)) (by omega) ho hx hy
  simpa using this
end
theorem rd_lt {H : Nat → Prop} {w : World} {a : Option Addr} {n c : Nat} {l : List Nat} (h : Rd 1 encB okB H w (.slice a n c) l) : ∀ x ∈ l, x < 256 := by
  intro x hx
  obtain ⟨i, hi, rfl⟩ := List.mem_iff_getElem.1 hx
  obtain ⟨a', cap, e1, h1, h2, h3, h4⟩ := h.1.inv
  cases e1
  obtain ⟨b', off', x', row, e3, hx', hr, ⟨_, h5⟩, _⟩ := h.1.at i hi
  rw [List.getElem?_eq_getElem hi] at hx'
  cases hx'
  exact h5
section
open Go.Shelf Go.Lib
variable {P : Program} {ρ : Ren}
set_option maxHeartbeats 1000000 in
/-- At a slice that is empty, but not nil. -/
theorem enc0 (L : Lays.p40 P ρ) (dst : Value) (b f c : Nat) (w : World) :
    Calls P (ρ.f 40) #[dst, .slice (some ⟨b, f, none⟩) 0 c] w fun e w' => e = .returned (.int .i64 0) ∧ w' = w := by
  have t0 := L.t0; have t3 := L.t3; have t5 := L.t5; have t9 := L.t9; have t30 := L.t30; have t46 := L.t46
  have a0 := L.a0; have a3 := L.a3; have a5 := L.a5; have a9 := L.a9; have a30 := L.a30; have a46 := L.a46
  have mixed := L.mixed; have z0 := L.z0; have v0 := L.v0; have z3 := L.z3; have v3 := L.v3; have z5 := L.z5; have v5 := L.v5; have z9 := L.z9; have v9 := L.v9; have z30 := L.z30; have v30 := L.v30; have z46 := L.z46; have v46 := L.v46
  go_enter L.f40, Body.p40_ntmps ρ
  go_wp2
  go_loop [5, 10] (fun vj vi => vi = .int .i64 0 ∧ vj = .int .i64 0) (fun _ _ => 0)
  case atStart => exact ⟨rfl, rfl⟩
  case round =>
    obtain ⟨rfl, rfl⟩ := hrel
    go_wp2
    go_ret
    exact ⟨rfl, rfl⟩
set_option maxHeartbeats 1000000 in
theorem encS0 (L : Lays.ph39 P ρ) (b0 f0 c0 : Nat) (w : World) :
    Calls P (ρ.f 39) #[.slice (some ⟨b0, f0, none⟩) 0 c0] w fun e w' => e = .returned (.string ⟨#[]⟩) ∧ Below w.heap.size w w' := by
  have t0 := L.t0; have t3 := L.t3; have t5 := L.t5; have t9 := L.t9; have t30 := L.t30; have t46 := L.t46
  have a0 := L.a0; have a3 := L.a3; have a5 := L.a5; have a9 := L.a9; have a30 := L.a30; have a46 := L.a46
  have mixed := L.mixed; have z0 := L.z0; have v0 := L.v0; have z3 := L.z3; have v3 := L.v3; have z5 := L.z5; have v5 := L.v5; have z9 := L.z9; have v9 := L.v9; have z30 := L.z30; have v30 := L.v30; have z46 := L.z46; have v46 := L.v46
  have e40 : ∀ args w, (callFunc (ρ.f 40) args).run P w = .ok (.enter (ρ.f 40) args) w := enters_of L.f40 (by kernel_rfl) rfl
  have e41 : ∀ args w, (callFunc (ρ.f 41) args).run P w = .ok (.enter (ρ.f 41) args) w := enters_of L.f41 (by kernel_rfl) rfl
  have hmk : ∀ w : World, (Instr.makeSlice (ρ.t 30) (.int .i64 0) (.int .i64 0)).run P w = .ok (.slice (some ⟨w.heap.size, 0, none⟩) 0 0) (w.alloc (.cells (madeCells #[.int .u8 0] 0) (ρ.t 5))) := fun w =>
    run_make_row' (P := P) (ρ.t 30) (ρ.t 5) (.int .u8 0) 1 L.t30 L.info5 rfl .i64 .i64 0 (by omega) (by omega) w
  have g : ∀ (w : World) (b : Nat), (convert (ρ.t 30) (ρ.t 9) (.slice (some ⟨b, 0, none⟩) 0 0)).run P w = .ok (.string (strOfNums [])) w := fun w b =>
    run_convert_bytes_arg (P := P) w (ρ.t 30) (ρ.t 5) L.t30 L.t5 b 0 0 0 [] rfl (fun i hi => absurd hi (Nat.not_lt_zero _)) (ρ.t 9) L.t9
  go_enter L.f39, Body.p39_ntmps ρ
  go_wp2_with (first
    | (go_at_fn (ρ.f 41); refine (Any.hex_EncodedLen { L with } 0 (by omega) (by omega) _).mono ?_; rintro e w' ⟨rfl, rfl⟩)
    | (go_at_fn (ρ.f 40); refine (enc0 { L with } _ _ _ _ _).mono ?_; rintro e w' ⟨rfl, rfl⟩))
  go_ret
  exact ⟨rfl, (Below.refl _ _).alloc (Nat.le_refl _) _⟩
end
/-- What hex.DecodeString has read, up to the first fault; how it ends. -/
def decL (s : ByteArray) : List Nat := (Lib.Hx.decode s.data.toList).1.map (·.toNat)
def hexR (s : ByteArray) (ev : Value) : Prop := isErr ev = true → (Lib.Hx.decode s.data.toList).2 ≠ .ok
theorem bstr_dec (s : ByteArray) : bstr (decL s) = ⟨(Lib.Hx.decode s.data.toList).1.toArray⟩ := by
  apply ByteArray.ext
  apply Array.toList_inj.1
  rw [bstr_toList]
  unfold decL
  rw [List.map_map]
  have : ∀ l : List UInt8, l.map (UInt8.ofNat ∘ fun x : UInt8 => x.toNat) = l := by
    intro l
    induction l with
    | nil => rfl
    | cons x l ih => rw [List.map_cons, ih]; congr 1; exact UInt8.ofNat_toNat
  exact this _
theorem decL_length (s : ByteArray) : (decL s).length = (Lib.Hx.decode s.data.toList).1.length := List.length_map ..
theorem uh_t {s : ByteArray} (h : unhexT s = ⟨#[]⟩ ∧ unhexB s = false) : (⟨#[]⟩ : ByteArray) = unhexT s := h.1.symm
theorem uh_b {s : ByteArray} (h : unhexT s = ⟨#[]⟩ ∧ unhexB s = false) : false = unhexB s := h.2.symm
theorem uh_e {s : ByteArray} {ev : Value} (q : hexR s ev) (h : isErr ev = true) : unhexT s = ⟨#[]⟩ ∧ unhexB s = false := unhex_err (q h)
theorem uh_l {s : ByteArray} {n : Nat} (hn : n = (decL s).length) (h : n > 20000) : unhexT s = ⟨#[]⟩ ∧ unhexB s = false := unhex_long (by rw [decL_length] at hn; omega)
theorem uh_k {s : ByteArray} (h : hexS (bstr (decL s)) ≠ s) : unhexT s = ⟨#[]⟩ ∧ unhexB s = false := unhex_back (bstr_dec s ▸ h)
theorem uh_w {s : ByteArray} {n : Nat} (hn : n = (decL s).length) (h : ¬ n > 20000) (h2 : ¬ hexS (bstr (decL s)) ≠ s) : bstr (decL s) = unhexT s ∧ true = unhexB s := by
  have := unhex_well (s := s) (by rw [decL_length] at hn; omega) (bstr_dec s ▸ Classical.not_not.1 h2)
  rw [bstr_dec]; exact ⟨this.1.symm, this.2.symm⟩
theorem unInv.step2 {s : ByteArray} {k : Nat} {D : List Nat} (h : unInv s k D) (hk : 2 * k + 1 < s.size) (h1 : ¬ vlow (byteAt s (2 * k)) < 0) (h2 : ¬ vlow (byteAt s (2 * k + 1)) < 0) : unInv s (k + 1) (D ++ [(16 * vlow (byteAt s (2 * k)) + vlow (byteAt s (2 * k + 1))).toNat]) := by
  have := h.step hk h1 h2
  have e : 16 * (vlow (byteAt s (2 * k))).toNat + (vlow (byteAt s (2 * k + 1))).toNat = (16 * vlow (byteAt s (2 * k)) + vlow (byteAt s (2 * k + 1))).toNat := by omega
  rwa [e] at this
theorem uh_d {s : ByteArray} {k : Nat} {D : List Nat} (h : unInv s k D) (hk : ¬ 2 * k < s.size) (hs : ¬ s.size > 40000) (he : 2 * k ≤ s.size) : bstr D = unhexT s ∧ true = unhexB s := by
  have := h.done (by omega) (by omega) he
  exact ⟨this.1.symm, this.2.symm⟩
theorem begins45 (s : ByteArray) : begins s ⟨#[45]⟩ = true ↔ s ≠ ⟨#[]⟩ ∧ byteAt s 0 = 45 := by
  obtain ⟨⟨l⟩⟩ := s
  cases l with
  | nil => constructor
           · intro h; exact absurd h (by decide)
           · intro h; exact absurd rfl h.1
  | cons x l =>
    unfold begins
    rw [decide_eq_true_iff]
    have e : (ByteArray.extract ⟨⟨x :: l⟩⟩ 0 1) = ⟨#[x]⟩ := by
      apply ByteArray.ext; apply Array.toList_inj.1; simp [ByteArray.data_extract]
    have e2 : byteAt ⟨⟨x :: l⟩⟩ 0 = x.toNat := rfl
    constructor
    · rintro ⟨_, h⟩
      have h2 : (ByteArray.extract ⟨⟨x :: l⟩⟩ 0 1) = ⟨#[45]⟩ := h
      rw [e] at h2
      have h3 : x = 45 := by
        have := congrArg (fun s : ByteArray => s.data.toList) h2
        simpa using this
      refine ⟨fun h => ?_, by rw [e2, h3]; rfl⟩
      have := congrArg (fun s : ByteArray => s.data.toList) h
      simp at this
    · rintro ⟨_, h⟩
      rw [e2] at h
      have h3 : x = 45 := UInt8.toNat_inj.1 h
      subst h3
      exact ⟨by show 1 ≤ (l.length + 1); omega, e⟩
theorem msg_t {s : ByteArray} (h : begins s ⟨#[45]⟩ = true) : unhexT (s.extract 1 s.size) = msgOf s := (if_pos h).symm
theorem msg_f {s : ByteArray} (h : begins s ⟨#[45]⟩ = false) : (⟨#[]⟩ : ByteArray) = msgOf s := (if_neg (by rw [h]; decide)).symm
theorem msg_a {s : ByteArray} (h : s ≠ ⟨#[]⟩) (h2 : byteAt s 0 = 45) : unhexT (s.extract 1 s.size) = msgOf s := msg_t ((begins45 s).2 ⟨h, h2⟩)
theorem msg_b {s : ByteArray} (h : ¬ byteAt s 0 = 45) : (⟨#[]⟩ : ByteArray) = msgOf s := msg_f (Bool.eq_false_iff.2 fun e => h ((begins45 s).1 e).2)
theorem msg_c {s : ByteArray} (h : ¬ s ≠ ⟨#[]⟩) : (⟨#[]⟩ : ByteArray) = msgOf s := msg_f (Bool.eq_false_iff.2 fun e => h ((begins45 s).1 e).1)
def cutPre (s p : ByteArray) : ByteArray := if begins s p then s.extract p.size s.size else s
theorem cutPre_t {s p : ByteArray} (h : begins s p = true) : s.extract p.size s.size = cutPre s p := (if_pos h).symm
theorem cutPre_f {s p : ByteArray} (h : begins s p = false) : s = cutPre s p := (if_neg (by rw [h]; decide)).symm
theorem begins_le {s p : ByteArray} (h : begins s p = true) : p.size ≤ s.size := by
  unfold begins at h
  exact (of_decide_eq_true h).1
theorem msg_p {s : ByteArray} (h : begins s ⟨#[45]⟩ = true) : unhexT (cutPre s ⟨#[45]⟩) = msgOf s := by rw [← cutPre_t h]; exact msg_t h
theorem cutPre_size (s p : ByteArray) : (cutPre s p).size ≤ s.size := by
  unfold cutPre
  split
  · rw [ByteArray.size_extract]; omega
  · exact Nat.le_refl _
theorem msgOf_size (s : ByteArray) : (msgOf s).size ≤ 20000 := by
  unfold msgOf
  split
  · exact unhexT_size _
  · exact Nat.zero_le _
theorem uh_n {s : ByteArray} (h : (!unhexB s) = true) : (⟨#[]⟩ : ByteArray) = unhexT s := by
  unfold unhexB at h
  unfold unhexT
  cases e : unhexO s with
  | none => rfl
  | some t => rw [e] at h; simp at h
theorem bstr_bytesN (s : ByteArray) : bstr (bytesN s) = s := bytesN_inj (bytesN_bstr _ (bytesN_lt s))
theorem ne_size {s : ByteArray} (h : s ≠ ⟨#[]⟩) : 0 < s.size := by
  rcases Nat.eq_zero_or_pos s.size with h0 | h0
  · exact absurd (ByteArray.ext (Array.eq_empty_of_size_eq_zero h0)) h
  · exact h0
/-- A page is stored, a page is loaded. -/
def pageB (page : Int) (text : ByteArray) : Bool := inB page 0 3 && decide (text.size ≤ 20)
def pageV (text : ByteArray) : ByteArray := if text = ⟨#[]⟩ then ⟨#[]⟩ else (⟨#[45]⟩ : ByteArray) ++ hexS text
def storeM (m : MachD) (key : ByteArray) (page : Int) (text : ByteArray) : MachD := if pageB page text then layM m key (pageV text) else m
def storeC (page : Int) (text : ByteArray) : Int := if pageB page text then 0 else 4
theorem pageB_t {page : Int} {text : ByteArray} (h : inB page 0 3 = true) (h2 : ¬ text.size > 20) : pageB page text = true := by unfold pageB; rw [h, decide_eq_true (Nat.le_of_not_lt h2)]; rfl
theorem pageB_f1 {page : Int} {text : ByteArray} (h : inB page 0 3 = false) : pageB page text = false := by unfold pageB; rw [h]; rfl
theorem pageB_f2 {page : Int} {text : ByteArray} (h2 : text.size > 20) : pageB page text = false := by unfold pageB; rw [decide_eq_false (Nat.not_le_of_lt h2), Bool.and_false]
theorem pageV_e {text : ByteArray} (h : text = ⟨#[]⟩) : (⟨#[]⟩ : ByteArray) = pageV text := (if_pos h).symm
theorem pageV_n {text : ByteArray} (h : ¬ text = ⟨#[]⟩) : (⟨#[45]⟩ : ByteArray) ++ hexS text = pageV text := (if_neg h).symm
theorem storeM_t {m : MachD} {key text : ByteArray} {page : Int} (h : pageB page text = true) : storeM m key page text = layM m key (pageV text) := if_pos h
theorem storeM_f {m : MachD} {key text : ByteArray} {page : Int} (h : pageB page text = false) : storeM m key page text = m := if_neg (by rw [h]; decide)
theorem storeC_t {text : ByteArray} {page : Int} (h : pageB page text = true) : 0 = storeC page text := (if_pos h).symm
theorem storeC_f {text : ByteArray} {page : Int} (h : pageB page text = false) : 4 = storeC page text := (if_neg (by rw [h]; decide)).symm
theorem bdC.store {b : Nat} {m : MachD} {key text : ByteArray} {a : Int} (h : bdC b m) : bdC (b + 1) (storeM m key a text) := by
  unfold storeM
  split
  · exact h.lay
  · exact h.le (Nat.le_succ _)
def loadM (m : MachD) (key : ByteArray) (page : Int) : MachD := if inB page 0 3 then lookM m key else m
def loadT (m : MachD) (key : ByteArray) (page : Int) : ByteArray := if inB page 0 3 then msgOf (getKey m.store key) else ⟨#[]⟩
def loadC (page : Int) : Int := if inB page 0 3 then 0 else 4
theorem loadM_t {m : MachD} {key : ByteArray} {a : Int} (h : inB a 0 3 = true) : loadM m key a = lookM m key := if_pos h
theorem loadM_f {m : MachD} {key : ByteArray} {a : Int} (h : inB a 0 3 = false) : loadM m key a = m := if_neg (by rw [h]; decide)
theorem loadT_t {m : MachD} {key : ByteArray} {a : Int} (h : inB a 0 3 = true) : msgOf (getKey m.store key) = loadT m key a := (if_pos h).symm
theorem loadT_f {m : MachD} {key : ByteArray} {a : Int} (h : inB a 0 3 = false) : (⟨#[]⟩ : ByteArray) = loadT m key a := (if_neg (by rw [h]; decide)).symm
theorem loadC_t {a : Int} (h : inB a 0 3 = true) : 0 = loadC a := (if_pos h).symm
theorem loadC_f {a : Int} (h : inB a 0 3 = false) : 4 = loadC a := (if_neg (by rw [h]; decide)).symm
theorem bdC.load {b : Nat} {m : MachD} {key : ByteArray} {a : Int} (h : bdC b m) : bdC (b + 1) (loadM m key a) := by
  unfold loadM
  split
  · exact h.look
  · exact h.le (Nat.le_succ _)
theorem encoding_hex_EncodeToString_c {w : World} {H : Nat → Prop} {l : List Nat} {l_a : Option Addr} {l_n l_c : Nat} (v_l : Rd 1 encB okB H w (.slice l_a l_n l_c) l) (p0 : l_n ≤ 140737488355328) :
    Calls Tryd.prog 51 #[.slice l_a l_n l_c] w fun e w' => e = .returned (.string (hexS (bstr l))) ∧ Mv [] w [] w' ∧ okS (hexS (bstr l)) := by
  have uU : True := (fun _ => trivial) p0
  clear uU
  obtain ⟨a', cap, e1, h1, h2, h3, h4⟩ := v_l.1.inv
  cases e1
  have hok : okS (hexS (bstr l)) := by unfold okS; rw [hexS_size, bstr_size]; omega
  cases l with
  | nil =>
    cases l_a with
    | none =>
      obtain ⟨_, rfl⟩ := h4 rfl
      refine (Any.hex_EncodeToString_nil laysHex w).mono ?_
      rintro e w' ⟨rfl, hw⟩
      exact ⟨rfl, mv_below hw, hok⟩
    | some ad =>
      obtain ⟨b, off, rfl⟩ := v_l.1.plain
      refine (encS0 laysHex b off l_c w).mono ?_
      rintro e w' ⟨rfl, hw⟩
      exact ⟨rfl, mv_below hw, hok⟩
  | cons x l0 =>
    cases l_a with
    | none => exact absurd (h4 rfl).1 (fun e => nomatch e)
    | some ad =>
      obtain ⟨b, off, rfl⟩ := v_l.1.plain
      have hlen : ((x :: l0).map UInt8.ofNat).length = (x :: l0).length := List.length_map ..
      have hlt := rd_lt v_l
      have h := Any.hex_EncodeToString_bytes laysHex b off l_c ((x :: l0).map UInt8.ofNat) w (fun i hi => by
        rw [hlen] at hi
        obtain ⟨b', off', x', row, e3, hx', hr, ⟨e5, h5⟩, hcell⟩ := v_l.1.at i hi
        cases e3
        have := hcell 0 (.int .u8 ((x' : Nat) : Int)) (by rw [e5]; rfl)
        rw [Nat.mul_one, Nat.add_zero] at this
        rw [this, List.getElem_map]
        have hg : (x :: l0)[i] = x' := by rw [List.getElem?_eq_getElem hi] at hx'; exact Option.some.inj hx'
        have h6 : x' < 256 := h5
        rw [hg, UInt8.toNat_ofNat']
        congr 2
        omega) (v_l.1.blk (by decide) (Nat.succ_pos _)) (by rw [hlen]; omega)
      rw [hlen] at h
      refine h.mono ?_
      rintro e w' ⟨rfl, hw⟩
      exact ⟨by unfold hexS; rw [bstr_toList], mv_below hw, hok⟩
theorem encoding_hex_DecodeString_c {w : World} {H : Nat → Prop} {s : ByteArray} (h_s : okS s) (tab2 : Tb 2 H w) (p0 : s.size ≤ 281474976710656) :
    Calls Tryd.prog 50 #[.string s] w fun e w' => ∃ (ev : Value), ∃ (r0_a : Option Addr), ∃ (r0_n : Nat), ∃ (r0_c : Nat), e = .returned (.tuple #[.slice r0_a r0_n r0_c, ev]) ∧ Mv [] w [ow 5 1 encB okB (.slice r0_a r0_n r0_c) (decL s)] w' ∧ errV ev ∧ hexR s ev := by
  have uU : True := (fun _ => trivial) h_s
  clear uU
  obtain ⟨ev0, he, hv⟩ := tab2.1
  refine (Any.hex_DecodeString_owns laysUnhex s w ev0 he p0).mono ?_
  rintro e w' ⟨v, rfl, ho, hb⟩
  have hO : Own 5 1 encB okB w' v (decL s) := by
    obtain ⟨h1, h2⟩ := ho
    refine ⟨⟨?_, ?_⟩, fun x hx => ?_⟩
    · rw [Nat.mul_one]; exact (flat_length (enc := encB) (k := 1) (fun _ => rfl) _).trans (Nat.mul_one _)
    · have ef : flat encB (decL s) = (Lib.Hx.decode s.data.toList).1.map fun b => Value.int .u8 (b.toNat : Int) := by
        unfold flat decL
        induction (Lib.Hx.decode s.data.toList).1 with
        | nil => rfl
        | cons x l ih => rw [List.map_cons, List.flatMap_cons, ih]; rfl
      rw [ef, decL_length]
      rcases h2 with h2 | ⟨g, cap, cur, h3, h4, h5⟩
      · exact .inl h2
      · exact .inr ⟨g, cap, cur, h3, Nat.zero_le _, h5⟩
    · obtain ⟨b, _, rfl⟩ := List.mem_map.1 hx
      exact b.toNat_lt
  have hf : ∀ b ∈ v.ownBlock.toList, w.heap.size ≤ b := fun b hb => (ho.lt b (by simpa using hb)).1
  have hM : Mv [] w [ow 5 1 encB okB v (decL s)] w' := mv_of_fresh hO hf ⟨hb.os, hb.tape, hb.output, hb.size, fun k hk => hb.block k hk⟩
  have hE : errV (Lib.Hx.errVal (laysUnhex_ren.t 47) ev0 (Lib.Hx.decode s.data.toList).2) ∧ hexR s (Lib.Hx.errVal (laysUnhex_ren.t 47) ev0 (Lib.Hx.decode s.data.toList).2) := by
    unfold hexR
    cases (Lib.Hx.decode s.data.toList).2 with
    | ok => exact ⟨.inl rfl, fun h => absurd h Bool.false_ne_true⟩
    | bad c => exact ⟨.inr ⟨_, _, rfl⟩, fun _ e => nomatch e⟩
    | odd => exact ⟨hv, fun _ e => nomatch e⟩
  obtain ⟨a, n, c, rfl⟩ : ∃ a n c, v = .slice a n c := by
    rcases ho.2 with ⟨rfl, _⟩ | ⟨g, cap, cur, rfl, _⟩
    · exact ⟨_, _, _, rfl⟩
    · exact ⟨_, _, _, rfl⟩
  exact ⟨_, a, n, c, rfl, hM, hE.1, hE.2⟩
theorem impl_Hex_c {w : World} {H : Nat → Prop} {text : ByteArray} (h_text : okS text) (p0 : text.size ≤ 20000) :
    Calls Tryd.prog 47 #[.string text] w fun e w' => e = .returned (.tuple #[.string (hexS text), .bool true]) ∧ Mv [] w [] w' ∧ okS (hexS text) := by
 have uU : True := (fun _ _ => trivial) h_text p0
 clear uU
 refine calls_enter 10 Tryd.func47 rfl Tryd.ntmps47 (Nat.le_of_ble_eq_true rfl) (fun _ F0i => ?_)
 have F0 : Fr 10 [(0, .string text)] _ := F0i
 clear F0i
 refine wp_seq (wp_region_lit (l_op (f_val F0 rfl rfl (r_assign rfl rfl) rfl fun _ F1 => ?_)))
 refine l_op (f_val F1 rfl rfl (r_assign rfl rfl) rfl fun _ F2 => ?_)
 have F3 : Fr 10 [(3, .bool false), (0, .string text)] _ := F2.cut rfl
 clear F0 F1 F2
 refine s_end (x_normal (wp_seq (wp_seq (wp_region_lit (l_op (f_mv F3 rfl rfl rfl rfl rfl fun _ F4 => ?_))))))
 refine l_op (f_val F4 rfl rfl (r_lenS (fun t ht => by cases ht; exact Tryd.underlying9) rfl rfl (F4.ev 4 rfl)) rfl fun _ F5 => ?_)
 refine l_op (f_val F5 rfl rfl (r_cmp (b := decide (text.size > 20000)) (.inr (.inr (.inr (.inr (.inl rfl))))) rfl (F5.ev 5 rfl) rfl (dec_of (by omega))) rfl fun _ F6 => ?_)
 have F7 : Fr 10 [(6, .bool (decide (text.size > 20000))), (0, .string text)] _ := F6.cut rfl
 clear F3 F4 F5 F6
 refine s_end (x_normal (x_cond (p := text.size > 20000) (F7.ev 6 rfl) (fun h8 => ?_) (fun h8 => ?_)))
 · skip
   refine wp_seq (wp_region_lit (l_op (f_val F7 rfl rfl (r_assign rfl rfl) rfl fun _ F9 => ?_)))
   refine l_op (f_val F9 rfl rfl (r_assign rfl rfl) rfl fun _ F10 => ?_)
   have F11 : Fr 10 [(3, .bool false), (2, .string (⟨#[]⟩ : ByteArray))] _ := F10.cut rfl
   clear F7 F9 F10
   refine s_end (x_normal (wp_ret (x_then_ret ?_)))
   refine x_done (v := .tuple #[.string (⟨#[]⟩ : ByteArray), .bool false]) F11 (results_2 Tryd.results47 (.tmp (F11.ev 2 rfl)) (.tmp (F11.ev 3 rfl))) ?_
   exact ⟨(by rw [(show (⟨#[]⟩ : ByteArray) = (hexS text) from by first | omega | rw [bstr_bytesN]), (show false = true from by first | omega | rw [bstr_bytesN])]), (Mv.pick (Mv.refl (At.nil w)) [] rfl), ((show (⟨#[]⟩ : ByteArray) = (hexS text) from by first | omega | rw [bstr_bytesN]) ▸ (by unfold okS; decide))⟩
 · skip
   refine wp_skip (x_normal (wp_seq (wp_region_lit (l_op (f_mv F7 rfl rfl rfl rfl rfl fun _ F12 => ?_)))))
   refine l_op (f_sbytes (G := H) (w0 := w) F12 (At.nil w) (Nat.le_refl _) Tryd.underlying9 Tryd.underlying22 Tryd.underlying5 rfl rfl rfl rfl (F12.ev 7 rfl) (by first | assumption | omega) fun b13 N13 C13 _ w13 F14 S13 V13 l13 => ?_)
   refine l_op (f_call F14 CF_51 rfl rfl rfl rfl (lc (F14.ev 8 rfl) rfl) (encoding_hex_EncodeToString_c (l := bytesN text) V13 (by first | assumption | omega | (simp <;> omega))) ?_)
   rintro _ w15 ⟨rfl, m15, ok_r0_15⟩
   refine ⟨_, rfl, fun _ F16 => ?_⟩
   have S15 := At.frame0 S13.at' m15
   clear m15
   refine l_op (f_as F16 rfl rfl rfl rfl rfl fun _ F17 => ?_)
   refine l_op (f_val F17 rfl rfl (r_assign rfl rfl) rfl fun _ F18 => ?_)
   have F19 : Fr 10 [(3, .bool true), (2, .string (hexS (bstr (bytesN text))))] _ := F18.cut rfl
   clear F7 F12 F14 F16 F17 F18
   have T20 : Mv _ _ [] _ := S15
   refine s_end (x_normal (wp_ret ?_))
   refine x_done (v := .tuple #[.string (hexS (bstr (bytesN text))), .bool true]) F19 (results_2 Tryd.results47 (.tmp (F19.ev 2 rfl)) (.tmp (F19.ev 3 rfl))) ?_
   exact ⟨(by rw [(show (hexS (bstr (bytesN text))) = (hexS text) from by first | omega | rw [bstr_bytesN])]), (Mv.pick (S13.trans T20) [] rfl), ((show (hexS (bstr (bytesN text))) = (hexS text) from by first | omega | rw [bstr_bytesN]) ▸ ok_r0_15)⟩
theorem impl_hexOf_c {w : World} {H : Nat → Prop} {text : ByteArray} (h_text : okS text) (p0 : text.size ≤ 20000) :
    Calls Tryd.prog 37 #[.string text] w fun e w' => e = .returned (.string (hexS text)) ∧ Mv [] w [] w' ∧ okS (hexS text) := by
 have uU : True := (fun _ _ => trivial) H p0
 clear uU
 refine calls_enter 11 Tryd.func37 rfl Tryd.ntmps37 (Nat.le_of_ble_eq_true rfl) (fun _ F0i => ?_)
 have F0 : Fr 11 [(0, .string text)] _ := F0i
 clear F0i
 refine wp_seq (wp_region_lit (l_op (f_val F0 rfl rfl (r_assign rfl rfl) rfl fun _ F1 => ?_)))
 have F2 : Fr 11 [(2, .string (⟨#[]⟩ : ByteArray)), (0, .string text)] _ := F1.cut rfl
 clear F0 F1
 refine s_end (x_normal (wp_seq (wp_region_lit (l_op (f_mv F2 rfl rfl rfl rfl rfl fun _ F3 => ?_)))))
 refine l_op (f_call F3 CF_47 rfl rfl rfl rfl (lc (F3.ev 6 rfl) rfl) (impl_Hex_c (H := fun _ => True) (text := text) h_text (by first | assumption | omega | (simp <;> omega))) ?_)
 rintro _ w4 ⟨rfl, m4, ok_r0_4⟩
 refine ⟨_, rfl, fun _ F5 => ?_⟩
 have S4 := At.frame0 (At.nil w) m4
 clear m4
 refine l_op (f_mv F5 rfl rfl rfl rfl rfl fun _ F6 => ?_)
 refine l_op (f_val (v := .string (hexS text)) F6 rfl rfl (r_extract rfl (F6.ev 5 rfl) rfl) rfl fun _ F7 => ?_)
 refine l_op (f_val (v := .bool true) F7 rfl rfl (r_extract rfl (F7.ev 5 rfl) rfl) rfl fun _ F8 => ?_)
 refine l_op (f_as F8 rfl rfl rfl rfl rfl fun _ F9 => ?_)
 refine l_op (f_as F9 rfl rfl rfl rfl rfl fun _ F10 => ?_)
 have F11 : Fr 11 [(4, .bool true), (3, .string (hexS text))] _ := F10.cut rfl
 clear F2 F3 F5 F6 F7 F8 F9 F10
 have T12 : Mv _ _ [] _ := S4
 refine s_end (x_normal (wp_seq (wp_region_lit (l_op (f_mv F11 rfl rfl rfl rfl rfl fun _ F13 => ?_)))))
 refine l_op (f_as F13 rfl rfl rfl rfl rfl fun _ F14 => ?_)
 have F15 : Fr 11 [(2, .string (hexS text))] _ := F14.cut rfl
 clear F11 F13 F14
 refine s_end (x_normal (wp_ret ?_))
 refine x_done (v := .string (hexS text)) F15 (results_1 Tryd.results37 (.tmp (F15.ev 2 rfl))) ?_
 exact ⟨rfl, (Mv.pick T12 [] rfl), ok_r0_4⟩
theorem impl_Unhex_c {w : World} {H : Nat → Prop} {text : ByteArray} (h_text : okS text) (tab2 : Tb 2 H w) (p0 : text.size ≤ 281474976710656) :
    Calls Tryd.prog 42 #[.string text] w fun e w' => e = .returned (.tuple #[.string (unhexT text), .bool (unhexB text)]) ∧ Mv [] w [] w' ∧ okS (unhexT text) := by
 have uU : True := (fun _ => trivial) p0
 clear uU
 have V_tab2 : Tb 2 (V H w []) w := Tb.start tab2 (fun _ _ => fps_nil _)
 refine calls_enter 26 Tryd.func42 rfl Tryd.ntmps42 (Nat.le_of_ble_eq_true rfl) (fun _ F0i => ?_)
 have F0 : Fr 26 [(0, .string text)] _ := F0i
 clear F0i
 refine wp_seq (wp_region_lit (l_op (f_val F0 rfl rfl (r_assign rfl rfl) rfl fun _ F1 => ?_)))
 refine l_op (f_val F1 rfl rfl (r_assign rfl rfl) rfl fun _ F2 => ?_)
 have F3 : Fr 26 [(3, .bool false), (0, .string text)] _ := F2.cut rfl
 clear F0 F1 F2
 refine s_end (x_normal (wp_seq (wp_region_lit (l_op (f_mv F3 rfl rfl rfl rfl rfl fun _ F4 => ?_)))))
 refine l_op (f_call F4 CF_50 rfl rfl rfl rfl (lc (F4.ev 7 rfl) rfl) (encoding_hex_DecodeString_c (s := text) h_text V_tab2 (by first | assumption | omega | (simp <;> omega))) ?_)
 rintro _ w5 ⟨ev_5, r0_a_5, r0_n_5, r0_c_5, rfl, m5, q5_0, q5_1⟩
 refine ⟨_, rfl, fun _ F6 => ?_⟩
 have S5 : Mv _ _ [ow 5 1 encB okB (.slice r0_a_5 r0_n_5 r0_c_5) (decL text)] _ := At.frame (At.nil w) [] rfl m5
 obtain ⟨lo5_0, lp5_0, lq5_0⟩ := At.ownInv S5.at' ET_22.hk 0 rfl
 clear m5
 refine l_op (f_mv F6 rfl rfl rfl rfl rfl fun _ F7 => ?_)
 refine l_op (f_val (v := .slice r0_a_5 r0_n_5 r0_c_5) F7 rfl rfl (r_extract rfl (F7.ev 6 rfl) rfl) rfl fun _ F8 => ?_)
 refine l_op (f_val (v := ev_5) F8 rfl rfl (r_extract rfl (F8.ev 6 rfl) rfl) rfl fun _ F9 => ?_)
 refine l_op (f_as F9 rfl rfl rfl rfl rfl fun _ F10 => ?_)
 refine l_op (f_as F10 rfl rfl rfl rfl rfl fun _ F11 => ?_)
 have F12 : Fr 26 [(5, ev_5), (4, .slice r0_a_5 r0_n_5 r0_c_5), (0, .string text)] _ := F11.cut rfl
 clear F3 F4 F6 F7 F8 F9 F10 F11
 refine s_end (x_normal (wp_seq (wp_seq (wp_region_lit (l_op (f_mv F12 rfl rfl rfl rfl rfl fun _ F13 => ?_))))))
 refine l_op (f_val F13 rfl rfl (r_errNe Tryd.underlying77 rfl (F13.ev 11 rfl) rfl (by assumption)) rfl fun _ F14 => ?_)
 refine l_op (f_mv F14 rfl rfl rfl rfl rfl fun _ F15 => ?_)
 rcases Bool.eq_false_or_eq_true (isErr ev_5) with h16 | h16
 · rw [h16] at F15
   refine l_op (f_skip F15 (wanted_g F15 rfl rfl rfl rfl) rfl rfl fun _ F17 => ?_)
   refine l_op (f_skip F17 (wanted_g F17 rfl rfl rfl rfl) rfl rfl fun _ F18 => ?_)
   refine l_op (f_skip F18 (wanted_g F18 rfl rfl rfl rfl) rfl rfl fun _ F19 => ?_)
   refine l_op (f_val F19 rfl rfl (r_pick (b := true) rfl (F19.ev 13 rfl) rfl) rfl fun _ F20 => ?_)
   refine l_op (f_mv F20 rfl rfl rfl rfl rfl fun _ F21 => ?_)
   refine l_op (f_skip F21 (wanted_g F21 rfl rfl rfl rfl) rfl rfl fun _ F22 => ?_)
   refine l_op (f_skip F22 (wanted_g F22 rfl rfl rfl rfl) rfl rfl fun _ F23 => ?_)
   refine l_op (f_skip F23 (wanted_g F23 rfl rfl rfl rfl) rfl rfl fun _ F24 => ?_)
   refine l_op (f_skip F24 (wanted_g F24 rfl rfl rfl rfl) rfl rfl fun _ F25 => ?_)
   refine l_op (f_val F25 rfl rfl (r_pick (b := true) rfl (F25.ev 18 rfl) rfl) rfl fun _ F26 => ?_)
   have F27 : Fr 26 [(23, .bool true), (4, .slice r0_a_5 r0_n_5 r0_c_5)] _ := F26.cut rfl
   clear F12 F13 F14 F15 F17 F18 F19 F20 F21 F22 F23 F24 F25 F26
   refine s_end (x_normal (wp_cond_true (F27.ev 23 rfl) (wp_seq (wp_region_lit (l_op (f_val F27 rfl rfl (r_assign rfl rfl) rfl fun _ F28 => ?_))))))
   refine l_op (f_val F28 rfl rfl (r_assign rfl rfl) rfl fun _ F29 => ?_)
   have F30 : Fr 26 [(3, .bool false), (2, .string (⟨#[]⟩ : ByteArray))] _ := F29.cut rfl
   clear F27 F28 F29
   refine s_end (x_normal (wp_ret (x_then_ret ?_)))
   refine x_done (v := .tuple #[.string (⟨#[]⟩ : ByteArray), .bool false]) F30 (results_2 Tryd.results42 (.tmp (F30.ev 2 rfl)) (.tmp (F30.ev 3 rfl))) ?_
   exact ⟨(by rw [(show (⟨#[]⟩ : ByteArray) = (unhexT text) from by first | exact uh_t (uh_e (by assumption) (by assumption)) | exact uh_b (uh_e (by assumption) (by assumption)) | exact uh_t (uh_l (by assumption) (by assumption)) | exact uh_b (uh_l (by assumption) (by assumption)) | exact uh_t (uh_k (by assumption)) | exact uh_b (uh_k (by assumption)) | exact (uh_w (by assumption) (by assumption) (by assumption)).1 | exact (uh_w (by assumption) (by assumption) (by assumption)).2), (show false = (unhexB text) from by first | exact uh_t (uh_e (by assumption) (by assumption)) | exact uh_b (uh_e (by assumption) (by assumption)) | exact uh_t (uh_l (by assumption) (by assumption)) | exact uh_b (uh_l (by assumption) (by assumption)) | exact uh_t (uh_k (by assumption)) | exact uh_b (uh_k (by assumption)) | exact (uh_w (by assumption) (by assumption) (by assumption)).1 | exact (uh_w (by assumption) (by assumption) (by assumption)).2)]), (Mv.pick S5 [] rfl), ((show (⟨#[]⟩ : ByteArray) = (unhexT text) from by first | exact uh_t (uh_e (by assumption) (by assumption)) | exact uh_b (uh_e (by assumption) (by assumption)) | exact uh_t (uh_l (by assumption) (by assumption)) | exact uh_b (uh_l (by assumption) (by assumption)) | exact uh_t (uh_k (by assumption)) | exact uh_b (uh_k (by assumption)) | exact (uh_w (by assumption) (by assumption) (by assumption)).1 | exact (uh_w (by assumption) (by assumption) (by assumption)).2) ▸ (by unfold okS; decide))⟩
 · rw [h16] at F15
   refine l_op (f_mv F15 (wanted_g F15 rfl rfl rfl rfl) rfl rfl rfl rfl fun _ F31 => ?_)
   refine l_op (f_val F31 (wanted_g F31 rfl rfl rfl rfl) rfl (r_len Tryd.underlying22 rfl (F31.ev 14 rfl)) rfl fun _ F32 => ?_)
   refine l_op (f_val F32 (wanted_g F32 rfl rfl rfl rfl) rfl (r_cmp (b := decide (r0_n_5 > 20000)) (.inr (.inr (.inr (.inr (.inl rfl))))) rfl (F32.ev 15 rfl) rfl (dec_of (by omega))) rfl fun _ F33 => ?_)
   refine l_op (f_val F33 rfl rfl (r_pick (b := false) rfl (F33.ev 13 rfl) (F33.ev 16 rfl)) rfl fun _ F34 => ?_)
   refine l_op (f_mv F34 rfl rfl rfl rfl rfl fun _ F35 => ?_)
   rcases Decidable.em (r0_n_5 > 20000) with h36 | h36
   · rw [decide_eq_true h36] at F35
     refine l_op (f_skip F35 (wanted_g F35 rfl rfl rfl rfl) rfl rfl fun _ F37 => ?_)
     refine l_op (f_skip F37 (wanted_g F37 rfl rfl rfl rfl) rfl rfl fun _ F38 => ?_)
     refine l_op (f_skip F38 (wanted_g F38 rfl rfl rfl rfl) rfl rfl fun _ F39 => ?_)
     refine l_op (f_skip F39 (wanted_g F39 rfl rfl rfl rfl) rfl rfl fun _ F40 => ?_)
     refine l_op (f_val F40 rfl rfl (r_pick (b := true) rfl (F40.ev 18 rfl) rfl) rfl fun _ F41 => ?_)
     have F42 : Fr 26 [(23, .bool true), (4, .slice r0_a_5 r0_n_5 r0_c_5)] _ := F41.cut rfl
     clear F12 F13 F14 F15 F31 F32 F33 F34 F35 F37 F38 F39 F40 F41
     refine s_end (x_normal (wp_cond_true (F42.ev 23 rfl) (wp_seq (wp_region_lit (l_op (f_val F42 rfl rfl (r_assign rfl rfl) rfl fun _ F43 => ?_))))))
     refine l_op (f_val F43 rfl rfl (r_assign rfl rfl) rfl fun _ F44 => ?_)
     have F45 : Fr 26 [(3, .bool false), (2, .string (⟨#[]⟩ : ByteArray))] _ := F44.cut rfl
     clear F42 F43 F44
     refine s_end (x_normal (wp_ret (x_then_ret ?_)))
     refine x_done (v := .tuple #[.string (⟨#[]⟩ : ByteArray), .bool false]) F45 (results_2 Tryd.results42 (.tmp (F45.ev 2 rfl)) (.tmp (F45.ev 3 rfl))) ?_
     exact ⟨(by rw [(show (⟨#[]⟩ : ByteArray) = (unhexT text) from by first | exact uh_t (uh_e (by assumption) (by assumption)) | exact uh_b (uh_e (by assumption) (by assumption)) | exact uh_t (uh_l (by assumption) (by assumption)) | exact uh_b (uh_l (by assumption) (by assumption)) | exact uh_t (uh_k (by assumption)) | exact uh_b (uh_k (by assumption)) | exact (uh_w (by assumption) (by assumption) (by assumption)).1 | exact (uh_w (by assumption) (by assumption) (by assumption)).2), (show false = (unhexB text) from by first | exact uh_t (uh_e (by assumption) (by assumption)) | exact uh_b (uh_e (by assumption) (by assumption)) | exact uh_t (uh_l (by assumption) (by assumption)) | exact uh_b (uh_l (by assumption) (by assumption)) | exact uh_t (uh_k (by assumption)) | exact uh_b (uh_k (by assumption)) | exact (uh_w (by assumption) (by assumption) (by assumption)).1 | exact (uh_w (by assumption) (by assumption) (by assumption)).2)]), (Mv.pick S5 [] rfl), ((show (⟨#[]⟩ : ByteArray) = (unhexT text) from by first | exact uh_t (uh_e (by assumption) (by assumption)) | exact uh_b (uh_e (by assumption) (by assumption)) | exact uh_t (uh_l (by assumption) (by assumption)) | exact uh_b (uh_l (by assumption) (by assumption)) | exact uh_t (uh_k (by assumption)) | exact uh_b (uh_k (by assumption)) | exact (uh_w (by assumption) (by assumption) (by assumption)).1 | exact (uh_w (by assumption) (by assumption) (by assumption)).2) ▸ (by unfold okS; decide))⟩
   · rw [decide_eq_false h36] at F35
     refine l_op (f_mv F35 (wanted_g F35 rfl rfl rfl rfl) rfl rfl rfl rfl fun _ F46 => ?_)
     refine l_op (f_call F46 CF_51 (wanted_g F46 rfl rfl rfl rfl) rfl rfl rfl (lc (F46.ev 19 rfl) rfl) (encoding_hex_EncodeToString_c (H := fun _ => True) (l := decL text) (At.rd S5.at' ET_22.hk 0 rfl) (by first | assumption | omega | (simp <;> omega))) ?_)
     rintro _ w47 ⟨rfl, m47, ok_r0_47⟩
     refine ⟨_, rfl, fun _ F48 => ?_⟩
     have S47 := At.frame0 S5.at' m47
     clear m47
     refine l_op (f_mv F48 (wanted_g F48 rfl rfl rfl rfl) rfl rfl rfl rfl fun _ F49 => ?_)
     refine l_op (f_val F49 (wanted_g F49 rfl rfl rfl rfl) rfl (r_cmps (b := (decide ((hexS (bstr (decL text))) ≠ text))) (.inr (.inl rfl)) rfl (F49.ev 20 rfl) (F49.ev 21 rfl) rfl) rfl fun _ F50 => ?_)
     refine l_op (f_val F50 rfl rfl (r_pick (b := false) rfl (F50.ev 18 rfl) (F50.ev 22 rfl)) rfl fun _ F51 => ?_)
     have F52 : Fr 26 [(23, .bool (decide ((hexS (bstr (decL text))) ≠ text))), (4, .slice r0_a_5 r0_n_5 r0_c_5)] _ := F51.cut rfl
     clear F12 F13 F14 F15 F31 F32 F33 F34 F35 F46 F48 F49 F50 F51
     have T53 : Mv _ _ [ow 5 1 encB okB (.slice r0_a_5 r0_n_5 r0_c_5) (decL text)] _ := S47
     refine s_end (x_normal (x_cond (p := (hexS (bstr (decL text))) ≠ text) (F52.ev 23 rfl) (fun h54 => ?_) (fun h54 => ?_)))
     · skip
       refine wp_seq (wp_region_lit (l_op (f_val F52 rfl rfl (r_assign rfl rfl) rfl fun _ F55 => ?_)))
       refine l_op (f_val F55 rfl rfl (r_assign rfl rfl) rfl fun _ F56 => ?_)
       have F57 : Fr 26 [(3, .bool false), (2, .string (⟨#[]⟩ : ByteArray))] _ := F56.cut rfl
       clear F52 F55 F56
       refine s_end (x_normal (wp_ret (x_then_ret ?_)))
       refine x_done (v := .tuple #[.string (⟨#[]⟩ : ByteArray), .bool false]) F57 (results_2 Tryd.results42 (.tmp (F57.ev 2 rfl)) (.tmp (F57.ev 3 rfl))) ?_
       exact ⟨(by rw [(show (⟨#[]⟩ : ByteArray) = (unhexT text) from by first | exact uh_t (uh_e (by assumption) (by assumption)) | exact uh_b (uh_e (by assumption) (by assumption)) | exact uh_t (uh_l (by assumption) (by assumption)) | exact uh_b (uh_l (by assumption) (by assumption)) | exact uh_t (uh_k (by assumption)) | exact uh_b (uh_k (by assumption)) | exact (uh_w (by assumption) (by assumption) (by assumption)).1 | exact (uh_w (by assumption) (by assumption) (by assumption)).2), (show false = (unhexB text) from by first | exact uh_t (uh_e (by assumption) (by assumption)) | exact uh_b (uh_e (by assumption) (by assumption)) | exact uh_t (uh_l (by assumption) (by assumption)) | exact uh_b (uh_l (by assumption) (by assumption)) | exact uh_t (uh_k (by assumption)) | exact uh_b (uh_k (by assumption)) | exact (uh_w (by assumption) (by assumption) (by assumption)).1 | exact (uh_w (by assumption) (by assumption) (by assumption)).2)]), (Mv.pick (S5.trans T53) [] rfl), ((show (⟨#[]⟩ : ByteArray) = (unhexT text) from by first | exact uh_t (uh_e (by assumption) (by assumption)) | exact uh_b (uh_e (by assumption) (by assumption)) | exact uh_t (uh_l (by assumption) (by assumption)) | exact uh_b (uh_l (by assumption) (by assumption)) | exact uh_t (uh_k (by assumption)) | exact uh_b (uh_k (by assumption)) | exact (uh_w (by assumption) (by assumption) (by assumption)).1 | exact (uh_w (by assumption) (by assumption) (by assumption)).2) ▸ (by unfold okS; decide))⟩
     · skip
       refine wp_skip (x_normal (wp_seq (wp_region_lit (l_op (f_mv F52 rfl rfl rfl rfl rfl fun _ F58 => ?_)))))
       refine l_op (f_val F58 rfl rfl (r_bstr Tryd.underlying22 Tryd.underlying5 Tryd.underlying9 ((At.rd T53.at' ET_22.hk 0 rfl)).1 rfl (F58.ev 24 rfl)) rfl fun _ F59 => ?_)
       refine l_op (f_as F59 rfl rfl rfl rfl rfl fun _ F60 => ?_)
       refine l_op (f_val F60 rfl rfl (r_assign rfl rfl) rfl fun _ F61 => ?_)
       have F62 : Fr 26 [(3, .bool true), (2, .string (bstr (decL text)))] _ := F61.cut rfl
       clear F52 F58 F59 F60 F61
       refine s_end (x_normal (wp_ret ?_))
       refine x_done (v := .tuple #[.string (bstr (decL text)), .bool true]) F62 (results_2 Tryd.results42 (.tmp (F62.ev 2 rfl)) (.tmp (F62.ev 3 rfl))) ?_
       exact ⟨(by rw [(show (bstr (decL text)) = (unhexT text) from by first | exact uh_t (uh_e (by assumption) (by assumption)) | exact uh_b (uh_e (by assumption) (by assumption)) | exact uh_t (uh_l (by assumption) (by assumption)) | exact uh_b (uh_l (by assumption) (by assumption)) | exact uh_t (uh_k (by assumption)) | exact uh_b (uh_k (by assumption)) | exact (uh_w (by assumption) (by assumption) (by assumption)).1 | exact (uh_w (by assumption) (by assumption) (by assumption)).2), (show true = (unhexB text) from by first | exact uh_t (uh_e (by assumption) (by assumption)) | exact uh_b (uh_e (by assumption) (by assumption)) | exact uh_t (uh_l (by assumption) (by assumption)) | exact uh_b (uh_l (by assumption) (by assumption)) | exact uh_t (uh_k (by assumption)) | exact uh_b (uh_k (by assumption)) | exact (uh_w (by assumption) (by assumption) (by assumption)).1 | exact (uh_w (by assumption) (by assumption) (by assumption)).2)]), (Mv.pick (S5.trans T53) [] rfl), ((show (bstr (decL text)) = (unhexT text) from by first | exact uh_t (uh_e (by assumption) (by assumption)) | exact uh_b (uh_e (by assumption) (by assumption)) | exact uh_t (uh_l (by assumption) (by assumption)) | exact uh_b (uh_l (by assumption) (by assumption)) | exact uh_t (uh_k (by assumption)) | exact uh_b (uh_k (by assumption)) | exact (uh_w (by assumption) (by assumption) (by assumption)).1 | exact (uh_w (by assumption) (by assumption) (by assumption)).2) ▸ (okS_bstr (by omega)))⟩
end Go.Proofs.YtibgmijfnbnfkaaDoor
