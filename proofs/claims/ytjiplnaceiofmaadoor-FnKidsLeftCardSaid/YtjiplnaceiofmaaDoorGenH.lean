/-
  Walks: texts in figures.
-/
import Derived.Shelf.Hex.DecodeOwns
import Derived.Shelf.Hex.More
import Derived.Lib.ConvBytes
import Derived.Lib.AtoiErrMem
import Derived.Test.YtjiplnaceiofmaaDoorFactsB
import Derived.Test.YtjiplnaceiofmaaDoorGenNb
import Derived.Test.YtjiplnaceiofmaaDoorDatV
namespace Go.Proofs.YtjiplnaceiofmaaDoor
open Go.ChangeShapes Go.WideShapes Go.ChangeAt Go.RowKit
set_option maxRecDepth 100000
set_option maxHeartbeats 1000000

theorem rd_bytes {H : Nat → Prop} (w : World) (e : Nat) (s : ByteArray) (hsz : s.size ≤ 9223372036854775807) : Rd 1 encB okB (Fsh H w) (Lib.bytesWorld w e s) (.slice (some ⟨w.heap.size, 0, none⟩) s.size (grownCap w s.size 0 e)) (bytesN s) := by
  have hl : (bytesN s).length = s.size := bytesN_length s
  refine ⟨RSl.mk w.heap.size 0 _ (by rw [hl]) (by rw [hl]; exact grownCap_ge w _ 0 e) (grownCap_le_maxLen w _ 0 e (by unfold maxLen; omega)) fun i x hx => ?_, fun ad n c e _ => by cases e; exact .inr (Nat.le_refl _)⟩
  have hi : i < (bytesN s).length := (List.getElem?_eq_some_iff.1 hx).1
  refine ⟨encB x, rfl, ⟨rfl, bytesN_lt s x (List.mem_of_getElem? hx)⟩, fun j u hj => ?_⟩
  cases j with
  | zero =>
    cases hj
    have h := Lib.bytesWorld_cell w e s i (by omega)
    have hx2 : (s.data.toList.getD i 0).toNat = x := by
      unfold bytesN at hx
      rw [List.getElem?_map] at hx
      unfold List.getD
      cases hq : s.data.toList[i]? with
      | none => rw [hq] at hx; cases hx
      | some y => rw [hq] at hx; cases hx; rfl
    rw [hx2] at h
    simpa using h
  | succ j => cases hj
section
variable {P : Program} {ops : Array Oper} {Q : Exit → Act → World → Prop} {K : Act → World → Prop} {o : Oper} {a : Act} {w : World} {L : List Atom} {d n : Nat} {m : List (Nat × Value)}
theorem f_sbytes {src dst e : TypeId} {u : TypeDesc} {s : ByteArray} {x : Operand} {G : Nat → Prop} {w0 : World} (F : Fr n m a) (A : At w L) (hg : w0.heap.size ≤ w.heap.size) (hs : P.underlying src = some u) (hdt : P.underlying dst = some (.slice e)) (he : P.underlying e = some (.int .u8)) (hw : Region.wanted o (yielded ops a.tmps) = true) (hd : o.dst = some d) (ho : o.op = .convert src dst x) (hp : Nat.blt d n = true) (hx : a.eval x = .string s) (hz : s.size ≤ 9223372036854775807)
    (kk : ∀ b q c a' w', Fr n ((d, .slice (some ⟨b, 0, none⟩) q c) :: m) a' → Mv L w L w' → Rd 1 encB okB (V G w0 L) w' (.slice (some ⟨b, 0, none⟩) q c) (bytesN s) → q = s.size → K a' w') : st1 P ops Q o K a w := by
  have hb := Lib.bytesWorld_below w e s
  have hM : Mv L w L (Lib.bytesWorld w e s) := At.frame0 A (mv_below hb)
  refine s_valw hw hd (v := .slice (some ⟨w.heap.size, 0, none⟩) s.size (grownCap w s.size 0 e)) (w' := Lib.bytesWorld w e s) ?_ fun _ e' => kk _ _ _ _ _ (F.put e' hp) hM (Rd.got0 A hg (rd_bytes w e s hz) hM) rfl
  simp [execOp, ho, hx, Lib.run_convert_string_bytes w src dst e s hs hdt he, Result.andThen]
end
section
variable {P : Program} {ρ : Operand → Value} {w : World} {o : Oper} {x y : Operand} {t u : TypeId}
theorem r_remC {m c : Nat} {n : Int} (hn : n = (c : Int)) (hc : 0 < c) (ho : o.op = .binOp .rem t x y u) (hx : ρ x = .int .i64 ((m : Nat) : Int)) (hy : ρ y = .int .i64 n) : (execOp ρ o).run P w = .ok (.value (.int .i64 ((m % c : Nat) : Int))) w := by
  subst hn
  have := r_remN (P := P) (w := w) (n := (c : Int)) (by omega) ho hx hy
  simpa using this
end
theorem rd_lt {H : Nat → Prop} {w : World} {a : Option Addr} {n c : Nat} {l : List Nat} (h : Rd 1 encB okB H w (.slice a n c) l) : ∀ x ∈ l, x < 256 := by
  intro x hx
  obtain ⟨i, hi, rfl⟩ := List.mem_iff_getElem.1 hx
  obtain ⟨a', cap, e1, h1, h2, h3, h4⟩ := h.1.inv
  cases e1
  obtain ⟨b', off', x', row, e3, hx', hr, ⟨_, h5⟩, _⟩ := h.1.at i hi
  rw [List.getElem?_eq_getElem hi] at hx'
  cases hx'
  exact h5
section
open Go.Shelf Go.Lib
variable {P : Program} {ρ : Ren}
set_option maxHeartbeats 1000000 in
/-- At a slice that is empty, but not nil. -/
theorem enc0 (L : Lays.p40 P ρ) (dst : Value) (b f c : Nat) (w : World) :
    Calls P (ρ.f 40) #[dst, .slice (some ⟨b, f, none⟩) 0 c] w fun e w' => e = .returned (.int .i64 0) ∧ w' = w := by
  have t0 := L.t0; have t3 := L.t3; have t5 := L.t5; have t9 := L.t9; have t30 := L.t30; have t46 := L.t46
  have a0 := L.a0; have a3 := L.a3; have a5 := L.a5; have a9 := L.a9; have a30 := L.a30; have a46 := L.a46
  have mixed := L.mixed; have z0 := L.z0; have v0 := L.v0; have z3 := L.z3; have v3 := L.v3; have z5 := L.z5; have v5 := L.v5; have z9 := L.z9; have v9 := L.v9; have z30 := L.z30; have v30 := L.v30; have z46 := L.z46; have v46 := L.v46
  go_enter L.f40, Body.p40_ntmps ρ
  go_wp2
  go_loop [5, 10] (fun vj vi => vi = .int .i64 0 ∧ vj = .int .i64 0) (fun _ _ => 0)
  case atStart => exact ⟨rfl, rfl⟩
  case round =>
    obtain ⟨rfl, rfl⟩ := hrel
    go_wp2
    go_ret
    exact ⟨rfl, rfl⟩
set_option maxHeartbeats 1000000 in
theorem encS0 (L : Lays.ph39 P ρ) (b0 f0 c0 : Nat) (w : World) :
    Calls P (ρ.f 39) #[.slice (some ⟨b0, f0, none⟩) 0 c0] w fun e w' => e = .returned (.string ⟨#[]⟩) ∧ Below w.heap.size w w' := by
  have t0 := L.t0; have t3 := L.t3; have t5 := L.t5; have t9 := L.t9; have t30 := L.t30; have t46 := L.t46
  have a0 := L.a0; have a3 := L.a3; have a5 := L.a5; have a9 := L.a9; have a30 := L.a30; have a46 := L.a46
  have mixed := L.mixed; have z0 := L.z0; have v0 := L.v0; have z3 := L.z3; have v3 := L.v3; have z5 := L.z5; have v5 := L.v5; have z9 := L.z9; have v9 := L.v9; have z30 := L.z30; have v30 := L.v30; have z46 := L.z46; have v46 := L.v46
  have e40 : ∀ args w, (callFunc (ρ.f 40) args).run P w = .ok (.enter (ρ.f 40) args) w := enters_of L.f40 (by kernel_rfl) rfl
  have e41 : ∀ args w, (callFunc (ρ.f 41) args).run P w = .ok (.enter (ρ.f 41) args) w := enters_of L.f41 (by kernel_rfl) rfl
  have hmk : ∀ w : World, (Instr.makeSlice (ρ.t 30) (.int .i64 0) (.int .i64 0)).run P w = .ok (.slice (some ⟨w.heap.size, 0, none⟩) 0 0) (w.alloc (.cells (madeCells #[.int .u8 0] 0) (ρ.t 5))) := fun w =>
    run_make_row' (P := P) (ρ.t 30) (ρ.t 5) (.int .u8 0) 1 L.t30 L.info5 rfl .i64 .i64 0 (by omega) (by omega) w
  have g : ∀ (w : World) (b : Nat), (convert (ρ.t 30) (ρ.t 9) (.slice (some ⟨b, 0, none⟩) 0 0)).run P w = .ok (.string (strOfNums [])) w := fun w b =>
    run_convert_bytes_arg (P := P) w (ρ.t 30) (ρ.t 5) L.t30 L.t5 b 0 0 0 [] rfl (fun i hi => absurd hi (Nat.not_lt_zero _)) (ρ.t 9) L.t9
  go_enter L.f39, Body.p39_ntmps ρ
  go_wp2_with (first
    | (go_at_fn (ρ.f 41); refine (Any.hex_EncodedLen { L with } 0 (by omega) (by omega) _).mono ?_; rintro e w' ⟨rfl, rfl⟩)
    | (go_at_fn (ρ.f 40); refine (enc0 { L with } _ _ _ _ _).mono ?_; rintro e w' ⟨rfl, rfl⟩))
  go_ret
  exact ⟨rfl, (Below.refl _ _).alloc (Nat.le_refl _) _⟩
end
/-- What hex.DecodeString has read, up to the first fault; how it ends. -/
def decL (s : ByteArray) : List Nat := (Lib.Hx.decode s.data.toList).1.map (·.toNat)
def hexR (s : ByteArray) (ev : Value) : Prop := isErr ev = true → (Lib.Hx.decode s.data.toList).2 ≠ .ok
theorem bstr_dec (s : ByteArray) : bstr (decL s) = ⟨(Lib.Hx.decode s.data.toList).1.toArray⟩ := by
  apply ByteArray.ext
  apply Array.toList_inj.1
  rw [bstr_toList]
  unfold decL
  rw [List.map_map]
  have : ∀ l : List UInt8, l.map (UInt8.ofNat ∘ fun x : UInt8 => x.toNat) = l := by
    intro l
    induction l with
    | nil => rfl
    | cons x l ih => rw [List.map_cons, ih]; congr 1; exact UInt8.ofNat_toNat
  exact this _
theorem decL_length (s : ByteArray) : (decL s).length = (Lib.Hx.decode s.data.toList).1.length := List.length_map ..
theorem uh_t {s : ByteArray} (h : unhexT s = ⟨#[]⟩ ∧ unhexB s = false) : (⟨#[]⟩ : ByteArray) = unhexT s := h.1.symm
theorem uh_b {s : ByteArray} (h : unhexT s = ⟨#[]⟩ ∧ unhexB s = false) : false = unhexB s := h.2.symm
theorem uh_e {s : ByteArray} {ev : Value} (q : hexR s ev) (h : isErr ev = true) : unhexT s = ⟨#[]⟩ ∧ unhexB s = false := unhex_err (q h)
theorem uh_l {s : ByteArray} {n : Nat} (hn : n = (decL s).length) (h : n > 20000) : unhexT s = ⟨#[]⟩ ∧ unhexB s = false := unhex_long (by rw [decL_length] at hn; omega)
theorem uh_k {s : ByteArray} (h : hexS (bstr (decL s)) ≠ s) : unhexT s = ⟨#[]⟩ ∧ unhexB s = false := unhex_back (bstr_dec s ▸ h)
theorem uh_w {s : ByteArray} {n : Nat} (hn : n = (decL s).length) (h : ¬ n > 20000) (h2 : ¬ hexS (bstr (decL s)) ≠ s) : bstr (decL s) = unhexT s ∧ true = unhexB s := by
  have := unhex_well (s := s) (by rw [decL_length] at hn; omega) (bstr_dec s ▸ Classical.not_not.1 h2)
  rw [bstr_dec]; exact ⟨this.1.symm, this.2.symm⟩
theorem unInv.step2 {s : ByteArray} {k : Nat} {D : List Nat} (h : unInv s k D) (hk : 2 * k + 1 < s.size) (h1 : ¬ vlow (byteAt s (2 * k)) < 0) (h2 : ¬ vlow (byteAt s (2 * k + 1)) < 0) : unInv s (k + 1) (D ++ [(16 * vlow (byteAt s (2 * k)) + vlow (byteAt s (2 * k + 1))).toNat]) := by
  have := h.step hk h1 h2
  have e : 16 * (vlow (byteAt s (2 * k))).toNat + (vlow (byteAt s (2 * k + 1))).toNat = (16 * vlow (byteAt s (2 * k)) + vlow (byteAt s (2 * k + 1))).toNat := by omega
  rwa [e] at this
theorem uh_d {s : ByteArray} {k : Nat} {D : List Nat} (h : unInv s k D) (hk : ¬ 2 * k < s.size) (hs : ¬ s.size > 40000) (he : 2 * k ≤ s.size) : bstr D = unhexT s ∧ true = unhexB s := by
  have := h.done (by omega) (by omega) he
  exact ⟨this.1.symm, this.2.symm⟩
theorem begins45 (s : ByteArray) : begins s ⟨#[45]⟩ = true ↔ s ≠ ⟨#[]⟩ ∧ byteAt s 0 = 45 := by
  obtain ⟨⟨l⟩⟩ := s
  cases l with
  | nil => constructor
           · intro h; exact absurd h (by decide)
           · intro h; exact absurd rfl h.1
  | cons x l =>
    unfold begins
    rw [decide_eq_true_iff]
    have e : (ByteArray.extract ⟨⟨x :: l⟩⟩ 0 1) = ⟨#[x]⟩ := by
      apply ByteArray.ext; apply Array.toList_inj.1; simp [ByteArray.data_extract]
    have e2 : byteAt ⟨⟨x :: l⟩⟩ 0 = x.toNat := rfl
    constructor
    · rintro ⟨_, h⟩
      have h2 : (ByteArray.extract ⟨⟨x :: l⟩⟩ 0 1) = ⟨#[45]⟩ := h
      rw [e] at h2
      have h3 : x = 45 := by
        have := congrArg (fun s : ByteArray => s.data.toList) h2
        simpa using this
      refine ⟨fun h => ?_, by rw [e2, h3]; rfl⟩
      have := congrArg (fun s : ByteArray => s.data.toList) h
      simp at this
    · rintro ⟨_, h⟩
      rw [e2] at h
      have h3 : x = 45 := UInt8.toNat_inj.1 h
      subst h3
      exact ⟨by show 1 ≤ (l.length + 1); omega, e⟩
theorem msg_t {s : ByteArray} (h : begins s ⟨#[45]⟩ = true) : unhexT (s.extract 1 s.size) = msgOf s := (if_pos h).symm
theorem msg_f {s : ByteArray} (h : begins s ⟨#[45]⟩ = false) : (⟨#[]⟩ : ByteArray) = msgOf s := (if_neg (by rw [h]; decide)).symm
theorem msg_a {s : ByteArray} (h : s ≠ ⟨#[]⟩) (h2 : byteAt s 0 = 45) : unhexT (s.extract 1 s.size) = msgOf s := msg_t ((begins45 s).2 ⟨h, h2⟩)
theorem msg_b {s : ByteArray} (h : ¬ byteAt s 0 = 45) : (⟨#[]⟩ : ByteArray) = msgOf s := msg_f (Bool.eq_false_iff.2 fun e => h ((begins45 s).1 e).2)
theorem msg_c {s : ByteArray} (h : ¬ s ≠ ⟨#[]⟩) : (⟨#[]⟩ : ByteArray) = msgOf s := msg_f (Bool.eq_false_iff.2 fun e => h ((begins45 s).1 e).1)
def cutPre (s p : ByteArray) : ByteArray := if begins s p then s.extract p.size s.size else s
theorem cutPre_t {s p : ByteArray} (h : begins s p = true) : s.extract p.size s.size = cutPre s p := (if_pos h).symm
theorem cutPre_f {s p : ByteArray} (h : begins s p = false) : s = cutPre s p := (if_neg (by rw [h]; decide)).symm
theorem begins_le {s p : ByteArray} (h : begins s p = true) : p.size ≤ s.size := by
  unfold begins at h
  exact (of_decide_eq_true h).1
theorem msg_p {s : ByteArray} (h : begins s ⟨#[45]⟩ = true) : unhexT (cutPre s ⟨#[45]⟩) = msgOf s := by rw [← cutPre_t h]; exact msg_t h
theorem cutPre_size (s p : ByteArray) : (cutPre s p).size ≤ s.size := by
  unfold cutPre
  split
  · rw [ByteArray.size_extract]; omega
  · exact Nat.le_refl _
theorem msgOf_size (s : ByteArray) : (msgOf s).size ≤ 20000 := by
  unfold msgOf
  split
  · exact unhexT_size _
  · exact Nat.zero_le _
theorem uh_n {s : ByteArray} (h : (!unhexB s) = true) : (⟨#[]⟩ : ByteArray) = unhexT s := by
  unfold unhexB at h
  unfold unhexT
  cases e : unhexO s with
  | none => rfl
  | some t => rw [e] at h; simp at h
theorem bstr_bytesN (s : ByteArray) : bstr (bytesN s) = s := bytesN_inj (bytesN_bstr _ (bytesN_lt s))
theorem ne_size {s : ByteArray} (h : s ≠ ⟨#[]⟩) : 0 < s.size := by
  rcases Nat.eq_zero_or_pos s.size with h0 | h0
  · exact absurd (ByteArray.ext (Array.eq_empty_of_size_eq_zero h0)) h
  · exact h0
/-- A page is stored, a page is loaded. -/
def pageB (page : Int) (text : ByteArray) : Bool := inB page 0 3 && decide (text.size ≤ 20)
def pageV (text : ByteArray) : ByteArray := if text = ⟨#[]⟩ then ⟨#[]⟩ else (⟨#[45]⟩ : ByteArray) ++ hexS text
def storeM (m : MachD) (key : ByteArray) (page : Int) (text : ByteArray) : MachD := if pageB page text then layM m key (pageV text) else m
def storeC (page : Int) (text : ByteArray) : Int := if pageB page text then 0 else 4
theorem pageB_t {page : Int} {text : ByteArray} (h : inB page 0 3 = true) (h2 : ¬ text.size > 20) : pageB page text = true := by unfold pageB; rw [h, decide_eq_true (Nat.le_of_not_lt h2)]; rfl
theorem pageB_f1 {page : Int} {text : ByteArray} (h : inB page 0 3 = false) : pageB page text = false := by unfold pageB; rw [h]; rfl
theorem pageB_f2 {page : Int} {text : ByteArray} (h2 : text.size > 20) : pageB page text = false := by unfold pageB; rw [decide_eq_false (Nat.not_le_of_lt h2), Bool.and_false]
theorem pageV_e {text : ByteArray} (h : text = ⟨#[]⟩) : (⟨#[]⟩ : ByteArray) = pageV text := (if_pos h).symm
theorem pageV_n {text : ByteArray} (h : ¬ text = ⟨#[]⟩) : (⟨#[45]⟩ : ByteArray) ++ hexS text = pageV text := (if_neg h).symm
theorem storeM_t {m : MachD} {key text : ByteArray} {page : Int} (h : pageB page text = true) : storeM m key page text = layM m key (pageV text) := if_pos h
theorem storeM_f {m : MachD} {key text : ByteArray} {page : Int} (h : pageB page text = false) : storeM m key page text = m := if_neg (by rw [h]; decide)
theorem storeC_t {text : ByteArray} {page : Int} (h : pageB page text = true) : 0 = storeC page text := (if_pos h).symm
theorem storeC_f {text : ByteArray} {page : Int} (h : pageB page text = false) : 4 = storeC page text := (if_neg (by rw [h]; decide)).symm
theorem bdC.store {b : Nat} {m : MachD} {key text : ByteArray} {a : Int} (h : bdC b m) : bdC (b + 1) (storeM m key a text) := by
  unfold storeM
  split
  · exact h.lay
  · exact h.le (Nat.le_succ _)
def loadM (m : MachD) (key : ByteArray) (page : Int) : MachD := if inB page 0 3 then lookM m key else m
def loadT (m : MachD) (key : ByteArray) (page : Int) : ByteArray := if inB page 0 3 then msgOf (getKey m.store key) else ⟨#[]⟩
def loadC (page : Int) : Int := if inB page 0 3 then 0 else 4
theorem loadM_t {m : MachD} {key : ByteArray} {a : Int} (h : inB a 0 3 = true) : loadM m key a = lookM m key := if_pos h
theorem loadM_f {m : MachD} {key : ByteArray} {a : Int} (h : inB a 0 3 = false) : loadM m key a = m := if_neg (by rw [h]; decide)
theorem loadT_t {m : MachD} {key : ByteArray} {a : Int} (h : inB a 0 3 = true) : msgOf (getKey m.store key) = loadT m key a := (if_pos h).symm
theorem loadT_f {m : MachD} {key : ByteArray} {a : Int} (h : inB a 0 3 = false) : (⟨#[]⟩ : ByteArray) = loadT m key a := (if_neg (by rw [h]; decide)).symm
theorem loadC_t {a : Int} (h : inB a 0 3 = true) : 0 = loadC a := (if_pos h).symm
theorem loadC_f {a : Int} (h : inB a 0 3 = false) : 4 = loadC a := (if_neg (by rw [h]; decide)).symm
theorem bdC.load {b : Nat} {m : MachD} {key : ByteArray} {a : Int} (h : bdC b m) : bdC (b + 1) (loadM m key a) := by
  unfold loadM
  split
  · exact h.look
  · exact h.le (Nat.le_succ _)
end Go.Proofs.YtjiplnaceiofmaaDoor
