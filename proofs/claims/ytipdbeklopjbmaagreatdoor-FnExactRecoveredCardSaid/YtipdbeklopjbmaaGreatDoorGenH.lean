/-
  Walks: texts in figures.
-/
import Derived.Shelf.Hex.DecodeOwns
import Derived.Shelf.Hex.More
import Derived.Lib.ConvBytes
import Derived.Lib.AtoiErrMem
import Derived.Test.YtipdbeklopjbmaaGreatDoorP05
import Derived.Test.YtipdbeklopjbmaaGreatDoorP13
import Derived.Test.YtipdbeklopjbmaaGreatDoorP06

namespace Go.Proofs.YtipdbeklopjbmaaGreatDoor
open Go.ChangeShapes Go.WideShapes Go.ChangeAt Go.RowKit
set_option maxRecDepth 100000
set_option maxHeartbeats 1000000

theorem rd_bytes {H : Nat → Prop} (w : World) (e : Nat) (s : ByteArray) (hsz : s.size ≤ 9223372036854775807) : Rd 1 encB okB (Fsh H w) (Lib.bytesWorld w e s) (.slice (some ⟨w.heap.size, 0, none⟩) s.size (grownCap w s.size 0 e)) (bytesN s) := by
  have hl : (bytesN s).length = s.size := bytesN_length s
  refine ⟨RSl.mk w.heap.size 0 _ (by rw [hl]) (by rw [hl]; exact grownCap_ge w _ 0 e) (grownCap_le_maxLen w _ 0 e (by unfold maxLen; omega)) fun i x hx => ?_, fun ad n c e _ => by cases e; exact .inr (Nat.le_refl _)⟩
  have hi : i < (bytesN s).length := (List.getElem?_eq_some_iff.1 hx).1
  refine ⟨encB x, rfl, ⟨rfl, bytesN_lt s x (List.mem_of_getElem? hx)⟩, fun j u hj => ?_⟩
  cases j with
  | zero =>
    cases hj
    have h := Lib.bytesWorld_cell w e s i (by omega)
    have hx2 : (s.data.toList.getD i 0).toNat = x := by
      unfold bytesN at hx
      rw [List.getElem?_map] at hx
      unfold List.getD
      cases hq : s.data.toList[i]? with
      | none => rw [hq] at hx; cases hx
      | some y => rw [hq] at hx; cases hx; rfl
    rw [hx2] at h
    simpa using h
  | succ j => cases hj
section
variable {P : Program} {ops : Array Oper} {Q : Exit → Act → World → Prop} {K : Act → World → Prop} {o : Oper} {a : Act} {w : World} {L : List Atom} {d n : Nat} {m : List (Nat × Value)}
theorem f_sbytes {src dst e : TypeId} {u : TypeDesc} {s : ByteArray} {x : Operand} {G : Nat → Prop} {w0 : World} (F : Fr n m a) (A : At w L) (hg : w0.heap.size ≤ w.heap.size) (hs : P.underlying src = some u) (hdt : P.underlying dst = some (.slice e)) (he : P.underlying e = some (.int .u8)) (hw : Region.wanted o (yielded ops a.tmps) = true) (hd : o.dst = some d) (ho : o.op = .convert src dst x) (hp : Nat.blt d n = true) (hx : a.eval x = .string s) (hz : s.size ≤ 9223372036854775807)
    (kk : ∀ b q c a' w', Fr n ((d, .slice (some ⟨b, 0, none⟩) q c) :: m) a' → Mv L w L w' → Rd 1 encB okB (V G w0 L) w' (.slice (some ⟨b, 0, none⟩) q c) (bytesN s) → q = s.size → K a' w') : st1 P ops Q o K a w := by
  have hb := Lib.bytesWorld_below w e s
  have hM : Mv L w L (Lib.bytesWorld w e s) := At.frame0 A (mv_below hb)
  refine s_valw hw hd (v := .slice (some ⟨w.heap.size, 0, none⟩) s.size (grownCap w s.size 0 e)) (w' := Lib.bytesWorld w e s) ?_ fun _ e' => kk _ _ _ _ _ (F.put e' hp) hM (Rd.got0 A hg (rd_bytes w e s hz) hM) rfl
  simp [execOp, ho, hx, Lib.run_convert_string_bytes w src dst e s hs hdt he, Result.andThen]
end
section
variable {P : Program} {ρ : Operand → Value} {w : World} {o : Oper} {x y : Operand} {t u : TypeId}
end
theorem rd_lt {H : Nat → Prop} {w : World} {a : Option Addr} {n c : Nat} {l : List Nat} (h : Rd 1 encB okB H w (.slice a n c) l) : ∀ x ∈ l, x < 256 := by
  intro x hx
  obtain ⟨i, hi, rfl⟩ := List.mem_iff_getElem.1 hx
  obtain ⟨a', cap, e1, h1, h2, h3, h4⟩ := h.1.inv
  cases e1
  obtain ⟨b', off', x', row, e3, hx', hr, ⟨_, h5⟩, _⟩ := h.1.at i hi
  rw [List.getElem?_eq_getElem hi] at hx'
  cases hx'
  exact h5
section
open Go.Shelf Go.Lib
variable {P : Program} {ρ : Ren}
set_option maxHeartbeats 1000000 in
theorem enc0 (L : Lays.p40 P ρ) (dst : Value) (b f c : Nat) (w : World) :
    Calls P (ρ.f 40) #[dst, .slice (some ⟨b, f, none⟩) 0 c] w fun e w' => e = .returned (.int .i64 0) ∧ w' = w := by
  have t0 := L.t0; have t3 := L.t3; have t5 := L.t5; have t9 := L.t9; have t30 := L.t30; have t46 := L.t46
  have a0 := L.a0; have a3 := L.a3; have a5 := L.a5; have a9 := L.a9; have a30 := L.a30; have a46 := L.a46
  have mixed := L.mixed; have z0 := L.z0; have v0 := L.v0; have z3 := L.z3; have v3 := L.v3; have z5 := L.z5; have v5 := L.v5; have z9 := L.z9; have v9 := L.v9; have z30 := L.z30; have v30 := L.v30; have z46 := L.z46; have v46 := L.v46
  go_enter L.f40, Body.p40_ntmps ρ
  go_wp2
  go_loop [5, 10] (fun vj vi => vi = .int .i64 0 ∧ vj = .int .i64 0) (fun _ _ => 0)
  case atStart => exact ⟨rfl, rfl⟩
  case round =>
    obtain ⟨rfl, rfl⟩ := hrel
    go_wp2
    go_ret
    exact ⟨rfl, rfl⟩
set_option maxHeartbeats 1000000 in
theorem encS0 (L : Lays.ph39 P ρ) (b0 f0 c0 : Nat) (w : World) :
    Calls P (ρ.f 39) #[.slice (some ⟨b0, f0, none⟩) 0 c0] w fun e w' => e = .returned (.string ⟨#[]⟩) ∧ Below w.heap.size w w' := by
  have t0 := L.t0; have t3 := L.t3; have t5 := L.t5; have t9 := L.t9; have t30 := L.t30; have t46 := L.t46
  have a0 := L.a0; have a3 := L.a3; have a5 := L.a5; have a9 := L.a9; have a30 := L.a30; have a46 := L.a46
  have mixed := L.mixed; have z0 := L.z0; have v0 := L.v0; have z3 := L.z3; have v3 := L.v3; have z5 := L.z5; have v5 := L.v5; have z9 := L.z9; have v9 := L.v9; have z30 := L.z30; have v30 := L.v30; have z46 := L.z46; have v46 := L.v46
  have e40 : ∀ args w, (callFunc (ρ.f 40) args).run P w = .ok (.enter (ρ.f 40) args) w := enters_of L.f40 (by kernel_rfl) rfl
  have e41 : ∀ args w, (callFunc (ρ.f 41) args).run P w = .ok (.enter (ρ.f 41) args) w := enters_of L.f41 (by kernel_rfl) rfl
  have hmk : ∀ w : World, (Instr.makeSlice (ρ.t 30) (.int .i64 0) (.int .i64 0)).run P w = .ok (.slice (some ⟨w.heap.size, 0, none⟩) 0 0) (w.alloc (.cells (madeCells #[.int .u8 0] 0) (ρ.t 5))) := fun w =>
    run_make_row' (P := P) (ρ.t 30) (ρ.t 5) (.int .u8 0) 1 L.t30 L.info5 rfl .i64 .i64 0 (by omega) (by omega) w
  have g : ∀ (w : World) (b : Nat), (convert (ρ.t 30) (ρ.t 9) (.slice (some ⟨b, 0, none⟩) 0 0)).run P w = .ok (.string (strOfNums [])) w := fun w b =>
    run_convert_bytes_arg (P := P) w (ρ.t 30) (ρ.t 5) L.t30 L.t5 b 0 0 0 [] rfl (fun i hi => absurd hi (Nat.not_lt_zero _)) (ρ.t 9) L.t9
  go_enter L.f39, Body.p39_ntmps ρ
  go_wp2_with (first
    | (go_at_fn (ρ.f 41); refine (Any.hex_EncodedLen { L with } 0 (by omega) (by omega) _).mono ?_; rintro e w' ⟨rfl, rfl⟩)
    | (go_at_fn (ρ.f 40); refine (enc0 { L with } _ _ _ _ _).mono ?_; rintro e w' ⟨rfl, rfl⟩))
  go_ret
  exact ⟨rfl, (Below.refl _ _).alloc (Nat.le_refl _) _⟩
end
def decL (s : ByteArray) : List Nat := (Lib.Hx.decode s.data.toList).1.map (·.toNat)
def hexR (s : ByteArray) (ev : Value) : Prop := isErr ev = true → (Lib.Hx.decode s.data.toList).2 ≠ .ok
theorem bstr_dec (s : ByteArray) : bstr (decL s) = ⟨(Lib.Hx.decode s.data.toList).1.toArray⟩ := by
  apply ByteArray.ext
  apply Array.toList_inj.1
  rw [bstr_toList]
  unfold decL
  rw [List.map_map]
  have : ∀ l : List UInt8, l.map (UInt8.ofNat ∘ fun x : UInt8 => x.toNat) = l := by
    intro l
    induction l with
    | nil => rfl
    | cons x l ih => rw [List.map_cons, ih]; congr 1; exact UInt8.ofNat_toNat
  exact this _
theorem decL_length (s : ByteArray) : (decL s).length = (Lib.Hx.decode s.data.toList).1.length := List.length_map ..
theorem uh_t {s : ByteArray} (h : unhexT s = ⟨#[]⟩ ∧ unhexB s = false) : (⟨#[]⟩ : ByteArray) = unhexT s := h.1.symm
theorem uh_b {s : ByteArray} (h : unhexT s = ⟨#[]⟩ ∧ unhexB s = false) : false = unhexB s := h.2.symm
theorem uh_e {s : ByteArray} {ev : Value} (q : hexR s ev) (h : isErr ev = true) : unhexT s = ⟨#[]⟩ ∧ unhexB s = false := unhex_err (q h)
theorem uh_l {s : ByteArray} {n : Nat} (hn : n = (decL s).length) (h : n > 20000) : unhexT s = ⟨#[]⟩ ∧ unhexB s = false := unhex_long (by rw [decL_length] at hn; omega)
theorem uh_k {s : ByteArray} (h : hexS (bstr (decL s)) ≠ s) : unhexT s = ⟨#[]⟩ ∧ unhexB s = false := unhex_back (bstr_dec s ▸ h)
theorem uh_w {s : ByteArray} {n : Nat} (hn : n = (decL s).length) (h : ¬ n > 20000) (h2 : ¬ hexS (bstr (decL s)) ≠ s) : bstr (decL s) = unhexT s ∧ true = unhexB s := by
  have := unhex_well (s := s) (by rw [decL_length] at hn; omega) (bstr_dec s ▸ Classical.not_not.1 h2)
  rw [bstr_dec]; exact ⟨this.1.symm, this.2.symm⟩
theorem unInv.step2 {s : ByteArray} {k : Nat} {D : List Nat} (h : unInv s k D) (hk : 2 * k + 1 < s.size) (h1 : ¬ vlow (byteAt s (2 * k)) < 0) (h2 : ¬ vlow (byteAt s (2 * k + 1)) < 0) : unInv s (k + 1) (D ++ [(16 * vlow (byteAt s (2 * k)) + vlow (byteAt s (2 * k + 1))).toNat]) := by
  have := h.step hk h1 h2
  have e : 16 * (vlow (byteAt s (2 * k))).toNat + (vlow (byteAt s (2 * k + 1))).toNat = (16 * vlow (byteAt s (2 * k)) + vlow (byteAt s (2 * k + 1))).toNat := by omega
  rwa [e] at this
theorem uh_d {s : ByteArray} {k : Nat} {D : List Nat} (h : unInv s k D) (hk : ¬ 2 * k < s.size) (hs : ¬ s.size > 40000) (he : 2 * k ≤ s.size) : bstr D = unhexT s ∧ true = unhexB s := by
  have := h.done (by omega) (by omega) he
  exact ⟨this.1.symm, this.2.symm⟩
theorem bstr_bytesN (s : ByteArray) : bstr (bytesN s) = s := bytesN_inj (bytesN_bstr _ (bytesN_lt s))
def pageB (page : Int) (text : ByteArray) : Bool := inB page 0 3 && decide (text.size ≤ 20)
def pageV (text : ByteArray) : ByteArray := if text = ⟨#[]⟩ then ⟨#[]⟩ else (⟨#[45]⟩ : ByteArray) ++ hexS text
def storeM (m : MachD) (key : ByteArray) (page : Int) (text : ByteArray) : MachD := if pageB page text then layM m key (pageV text) else m
theorem bdC.store {b : Nat} {m : MachD} {key text : ByteArray} {a : Int} (h : bdC b m) : bdC (b + 1) (storeM m key a text) := by
  unfold storeM
  split
  · exact h.lay
  · exact h.le (Nat.le_succ _)
def loadM (m : MachD) (key : ByteArray) (page : Int) : MachD := if inB page 0 3 then lookM m key else m
theorem bdC.load {b : Nat} {m : MachD} {key : ByteArray} {a : Int} (h : bdC b m) : bdC (b + 1) (loadM m key a) := by
  unfold loadM
  split
  · exact h.look
  · exact h.le (Nat.le_succ _)
theorem encoding_hex_EncodeToString_c {w : World} {H : Nat → Prop} {l : List Nat} {l_a : Option Addr} {l_n l_c : Nat} (v_l : Rd 1 encB okB H w (.slice l_a l_n l_c) l) (p0 : l_n ≤ 140737488355328) :
    Calls Tryz.prog 175 #[.slice l_a l_n l_c] w fun e w' => e = .returned (.string (hexS (bstr l))) ∧ Mv [] w [] w' ∧ okS (hexS (bstr l)) := by
  have uU : True := (fun _ => trivial) p0
  clear uU
  obtain ⟨a', cap, e1, h1, h2, h3, h4⟩ := v_l.1.inv
  cases e1
  have hok : okS (hexS (bstr l)) := by unfold okS; rw [hexS_size, bstr_size]; omega
  cases l with
  | nil =>
    cases l_a with
    | none =>
      obtain ⟨_, rfl⟩ := h4 rfl
      refine (Any.hex_EncodeToString_nil laysHex w).mono ?_
      rintro e w' ⟨rfl, hw⟩
      exact ⟨rfl, mv_below hw, hok⟩
    | some ad =>
      obtain ⟨b, off, rfl⟩ := v_l.1.plain
      refine (encS0 laysHex b off l_c w).mono ?_
      rintro e w' ⟨rfl, hw⟩
      exact ⟨rfl, mv_below hw, hok⟩
  | cons x l0 =>
    cases l_a with
    | none => exact absurd (h4 rfl).1 (fun e => nomatch e)
    | some ad =>
      obtain ⟨b, off, rfl⟩ := v_l.1.plain
      have hlen : ((x :: l0).map UInt8.ofNat).length = (x :: l0).length := List.length_map ..
      have hlt := rd_lt v_l
      have h := Any.hex_EncodeToString_bytes laysHex b off l_c ((x :: l0).map UInt8.ofNat) w (fun i hi => by
        rw [hlen] at hi
        obtain ⟨b', off', x', row, e3, hx', hr, ⟨e5, h5⟩, hcell⟩ := v_l.1.at i hi
        cases e3
        have := hcell 0 (.int .u8 ((x' : Nat) : Int)) (by rw [e5]; rfl)
        rw [Nat.mul_one, Nat.add_zero] at this
        rw [this, List.getElem_map]
        have hg : (x :: l0)[i] = x' := by rw [List.getElem?_eq_getElem hi] at hx'; exact Option.some.inj hx'
        have h6 : x' < 256 := h5
        rw [hg, UInt8.toNat_ofNat']
        congr 2
        omega) (v_l.1.blk (by decide) (Nat.succ_pos _)) (by rw [hlen]; omega)
      rw [hlen] at h
      refine h.mono ?_
      rintro e w' ⟨rfl, hw⟩
      exact ⟨by unfold hexS; rw [bstr_toList], mv_below hw, hok⟩
theorem encoding_hex_DecodeString_c {w : World} {H : Nat → Prop} {s : ByteArray} (h_s : okS s) (tab2 : Tb 2 H w) (p0 : s.size ≤ 281474976710656) :
    Calls Tryz.prog 174 #[.string s] w fun e w' => ∃ (ev : Value), ∃ (r0_a : Option Addr), ∃ (r0_n : Nat), ∃ (r0_c : Nat), e = .returned (.tuple #[.slice r0_a r0_n r0_c, ev]) ∧ Mv [] w [ow 5 1 encB okB (.slice r0_a r0_n r0_c) (decL s)] w' ∧ errV ev ∧ hexR s ev := by
  have uU : True := (fun _ => trivial) h_s
  clear uU
  obtain ⟨ev0, he, hv⟩ := tab2.1
  refine (Any.hex_DecodeString_owns laysUnhex s w ev0 he p0).mono ?_
  rintro e w' ⟨v, rfl, ho, hb⟩
  have hO : Own 5 1 encB okB w' v (decL s) := by
    obtain ⟨h1, h2⟩ := ho
    refine ⟨⟨?_, ?_⟩, fun x hx => ?_⟩
    · rw [Nat.mul_one]; exact (flat_length (enc := encB) (k := 1) (fun _ => rfl) _).trans (Nat.mul_one _)
    · have ef : flat encB (decL s) = (Lib.Hx.decode s.data.toList).1.map fun b => Value.int .u8 (b.toNat : Int) := by
        unfold flat decL
        induction (Lib.Hx.decode s.data.toList).1 with
        | nil => rfl
        | cons x l ih => rw [List.map_cons, List.flatMap_cons, ih]; rfl
      rw [ef, decL_length]
      rcases h2 with h2 | ⟨g, cap, cur, h3, h4, h5⟩
      · exact .inl h2
      · exact .inr ⟨g, cap, cur, h3, Nat.zero_le _, h5⟩
    · obtain ⟨b, _, rfl⟩ := List.mem_map.1 hx
      exact b.toNat_lt
  have hf : ∀ b ∈ v.ownBlock.toList, w.heap.size ≤ b := fun b hb => (ho.lt b (by simpa using hb)).1
  have hM : Mv [] w [ow 5 1 encB okB v (decL s)] w' := mv_of_fresh hO hf ⟨hb.os, hb.tape, hb.output, hb.size, fun k hk => hb.block k hk⟩
  have hE : errV (Lib.Hx.errVal (laysUnhex_ren.t 47) ev0 (Lib.Hx.decode s.data.toList).2) ∧ hexR s (Lib.Hx.errVal (laysUnhex_ren.t 47) ev0 (Lib.Hx.decode s.data.toList).2) := by
    unfold hexR
    cases (Lib.Hx.decode s.data.toList).2 with
    | ok => exact ⟨.inl rfl, fun h => absurd h Bool.false_ne_true⟩
    | bad c => exact ⟨.inr ⟨_, _, rfl⟩, fun _ e => nomatch e⟩
    | odd => exact ⟨hv, fun _ e => nomatch e⟩
  obtain ⟨a, n, c, rfl⟩ : ∃ a n c, v = .slice a n c := by
    rcases ho.2 with ⟨rfl, _⟩ | ⟨g, cap, cur, rfl, _⟩
    · exact ⟨_, _, _, rfl⟩
    · exact ⟨_, _, _, rfl⟩
  exact ⟨_, a, n, c, rfl, hM, hE.1, hE.2⟩
theorem impl_Hex_c {w : World} {H : Nat → Prop} {text : ByteArray} (Q0 : okS text) (p0 : text.size ≤ 20000) :
    Calls Tryz.prog 183 #[.string text] w fun e w' => e = .returned (.tuple #[.string (hexS text), .bool true]) ∧ Mv [] w [] w' ∧ okS (hexS text) := by
 have uU : True := (fun _ _ => trivial) Q0 p0
 clear uU
 refine calls_enter 10 Tryz.func183 rfl Tryz.ntmps183 (Nat.le_of_ble_eq_true rfl) (fun _ F0i => ?_)
 have F0 : Fr 10 [(0, .string text)] _ := F0i
 clear F0i
 refine wp_seq (wp_region_lit (l_op (f_val F0 rfl rfl (r_assign rfl rfl) rfl fun _ F1 => ?_)))
 refine l_op (f_val F1 rfl rfl (r_assign rfl rfl) rfl fun _ F2 => ?_)
 refine s_end (x_normal (wp_seq (wp_seq (wp_region_lit (l_op (f_mv F2 rfl rfl rfl rfl rfl fun _ F3 => ?_))))))
 refine l_op (f_val F3 rfl rfl (r_lenS (fun t ht => by cases ht; exact Tryz.underlying9) rfl rfl (F3.ev 4 rfl)) rfl fun _ F4 => ?_)
 refine l_op (f_val F4 rfl rfl (r_cmp (b := decide (text.size > 20000)) (.inr (.inr (.inr (.inr (.inl rfl))))) rfl (F4.ev 5 rfl) rfl (dec_of (by omega))) rfl fun _ F5 => ?_)
 refine s_end (x_normal (x_cond (p := text.size > 20000) (F5.ev 6 rfl) (fun h6 => ?_) (fun h6 => ?_)))
 · skip
   refine wp_seq (wp_region_lit (l_op (f_val F5 rfl rfl (r_assign rfl rfl) rfl fun _ F7 => ?_)))
   refine l_op (f_val F7 rfl rfl (r_assign rfl rfl) rfl fun _ F8 => ?_)
   refine s_end (x_normal (wp_ret (x_then_ret ?_)))
   refine x_done (v := .tuple #[.string bE_, .bool false]) F8 (results_2 Tryz.results183 (.tmp (F8.ev 2 rfl)) (.tmp (F8.ev 3 rfl))) ?_
   exact ⟨(by rw [(show bE_ = (hexS text) from by first | omega | rw [bstr_bytesN]), (show false = true from by first | omega | rw [bstr_bytesN])]), (Mv.pick (Mv.refl (At.nil w)) [] rfl), ((show bE_ = (hexS text) from by first | omega | rw [bstr_bytesN]) ▸ (by unfold okS; decide))⟩
 · skip
   refine wp_skip (x_normal (wp_seq (wp_region_lit (l_op (f_mv F5 rfl rfl rfl rfl rfl fun _ F9 => ?_)))))
   refine l_op (f_sbytes (G := H) (w0 := w) F9 (At.nil w) (Nat.le_refl _) Tryz.underlying9 Tryz.underlying62 Tryz.underlying5 rfl rfl rfl rfl (F9.ev 7 rfl) (by first | assumption | omega) fun b10 N10 C10 _ w10 F11 S10 V10 l10 => ?_)
   refine l_op (f_call F11 CF_175 rfl rfl rfl rfl (lc (F11.ev 8 rfl) rfl) (encoding_hex_EncodeToString_c (l := bytesN text) V10 (by first | assumption | omega | (simp <;> omega))) ?_)
   rintro _ w12 ⟨rfl, m12, Q1⟩
   refine ⟨_, rfl, fun _ F13 => ?_⟩
   have S12 := At.frame0 S10.at' m12
   clear m12
   refine l_op (f_as F13 rfl rfl rfl rfl rfl fun _ F14 => ?_)
   refine l_op (f_val F14 rfl rfl (r_assign rfl rfl) rfl fun _ F15 => ?_)
   refine s_end (x_normal (wp_ret ?_))
   refine x_done (v := .tuple #[.string (hexS (bstr (bytesN text))), .bool true]) F15 (results_2 Tryz.results183 (.tmp (F15.ev 2 rfl)) (.tmp (F15.ev 3 rfl))) ?_
   exact ⟨(by rw [(show (hexS (bstr (bytesN text))) = (hexS text) from by first | omega | rw [bstr_bytesN])]), (Mv.pick (S10.trans S12) [] rfl), ((show (hexS (bstr (bytesN text))) = (hexS text) from by first | omega | rw [bstr_bytesN]) ▸ Q1)⟩
theorem impl_hexOf_c {w : World} {H : Nat → Prop} {text : ByteArray} (Q0 : okS text) (p0 : text.size ≤ 20000) :
    Calls Tryz.prog 153 #[.string text] w fun e w' => e = .returned (.string (hexS text)) ∧ Mv [] w [] w' ∧ okS (hexS text) := by
 have uU : True := (fun _ _ => trivial) H p0
 clear uU
 refine calls_enter 11 Tryz.func153 rfl Tryz.ntmps153 (Nat.le_of_ble_eq_true rfl) (fun _ F0i => ?_)
 have F0 : Fr 11 [(0, .string text)] _ := F0i
 clear F0i
 refine wp_seq (wp_region_lit (l_op (f_val F0 rfl rfl (r_assign rfl rfl) rfl fun _ F1 => ?_)))
 refine s_end (x_normal (wp_seq (wp_region_lit (l_op (f_mv F1 rfl rfl rfl rfl rfl fun _ F2 => ?_)))))
 refine l_op (f_call F2 CF_183 rfl rfl rfl rfl (lc (F2.ev 6 rfl) rfl) (impl_Hex_c (H := fun _ => True) (text := text) Q0 (by first | assumption | omega | (simp <;> omega))) ?_)
 rintro _ w3 ⟨rfl, m3, Q1⟩
 refine ⟨_, rfl, fun _ F4 => ?_⟩
 have S3 := At.frame0 (At.nil w) m3
 clear m3
 refine l_op (f_mv F4 rfl rfl rfl rfl rfl fun _ F5 => ?_)
 refine l_op (f_val (v := .string (hexS text)) F5 rfl rfl (r_extract rfl (F5.ev 5 rfl) rfl) rfl fun _ F6 => ?_)
 refine l_op (f_val (v := .bool true) F6 rfl rfl (r_extract rfl (F6.ev 5 rfl) rfl) rfl fun _ F7 => ?_)
 refine l_op (f_as F7 rfl rfl rfl rfl rfl fun _ F8 => ?_)
 refine l_op (f_as F8 rfl rfl rfl rfl rfl fun _ F9 => ?_)
 refine s_end (x_normal (wp_seq (wp_region_lit (l_op (f_mv F9 rfl rfl rfl rfl rfl fun _ F10 => ?_)))))
 refine l_op (f_as F10 rfl rfl rfl rfl rfl fun _ F11 => ?_)
 refine s_end (x_normal (wp_ret ?_))
 refine x_done (v := .string (hexS text)) F11 (results_1 Tryz.results153 (.tmp (F11.ev 2 rfl))) ?_
 exact ⟨rfl, (Mv.pick S3 [] rfl), Q1⟩
theorem spec_l01Value_c {w : World} {H : Nat → Prop} {x : Nat} (h_x : x < 256) :
    Calls Tryz.prog 168 #[.int .u8 ((x : Nat) : Int)] w fun e w' => e = .returned (.int .i64 (vlow x)) ∧ Mv [] w [] w' ∧ -1 ≤ vlow x ∧ vlow x ≤ 15 := by
 have uU : True := (fun _ _ => trivial) H h_x
 clear uU
 refine calls_enter 22 Tryz.func168 rfl Tryz.ntmps168 (Nat.le_of_ble_eq_true rfl) (fun _ F0i => ?_)
 have F0 : Fr 22 [(0, .int .u8 ((x : Nat) : Int))] _ := F0i
 clear F0i
 refine wp_seq (wp_region_lit (l_op (f_val F0 rfl rfl (r_assign rfl rfl) rfl fun _ F1 => ?_)))
 refine s_end (x_normal (wp_seq (wp_seq (wp_region_lit (l_op (f_mv F1 rfl rfl rfl rfl rfl fun _ F2 => ?_))))))
 refine l_op (f_val F2 rfl rfl (r_cmp (b := decide (x ≥ 48)) (.inr (.inr (.inr (.inr (.inr rfl))))) rfl (F2.ev 3 rfl) rfl (dec_of (by omega))) rfl fun _ F3 => ?_)
 refine l_op (f_mv F3 rfl rfl rfl rfl rfl fun _ F4 => ?_)
 rcases Decidable.em (x ≥ 48) with h5 | h5
 · rw [decide_eq_true h5] at F4
   refine l_op (f_mv F4 (wanted_g F4 rfl rfl rfl rfl) rfl rfl rfl rfl fun _ F6 => ?_)
   refine l_op (f_val F6 (wanted_g F6 rfl rfl rfl rfl) rfl (r_cmp (b := decide (x ≤ 57)) (.inr (.inr (.inr (.inl rfl)))) rfl (F6.ev 6 rfl) rfl (dec_of (by omega))) rfl fun _ F7 => ?_)
   refine l_op (f_val F7 rfl rfl (r_pick (b := true) rfl (F7.ev 5 rfl) (F7.ev 7 rfl)) rfl fun _ F8 => ?_)
   refine s_end (x_normal (x_cond (p := x ≤ 57) (F8.ev 8 rfl) (fun h9 => ?_) (fun h9 => ?_)))
   · skip
     refine wp_seq (wp_region_lit (l_op (f_mv F8 rfl rfl rfl rfl rfl fun _ F10 => ?_)))
     refine l_op (f_val F10 rfl rfl (r_convU8 Tryz.underlying3 Tryz.underlying5 rfl (F10.ev 9 rfl) ⟨by omega, by first | omega | (have := trivial; omega)⟩) rfl fun _ F11 => ?_)
     refine l_op (f_val F11 rfl rfl (r_sub (z := (((x : Nat) : Int) - 48)) rfl (F11.ev 10 rfl) rfl (by first | rfl | omega) ⟨by first | omega | (unfold i64ok at *; omega), by first | omega | (unfold i64ok at *; omega)⟩) rfl fun _ F12 => ?_)
     refine l_op (f_as F12 rfl rfl rfl rfl rfl fun _ F13 => ?_)
     refine s_end (x_normal (wp_ret (x_then_ret ?_)))
     refine x_done (v := .int .i64 (((x : Nat) : Int) - 48)) F13 (results_1 Tryz.results168 (.tmp (F13.ev 2 rfl))) ?_
     exact ⟨(by rw [(show (((x : Nat) : Int) - 48) = (vlow x) from by unfold vlow; split <;> (try split) <;> omega)]), (Mv.pick (Mv.refl (At.nil w)) [] rfl), (vlow_bd x).1, (vlow_bd x).2⟩
   · skip
     refine wp_skip (x_normal (wp_seq (wp_seq (wp_region_lit (l_op (f_mv F8 rfl rfl rfl rfl rfl fun _ F14 => ?_))))))
     refine l_op (f_val F14 rfl rfl (r_cmp (b := decide (x ≥ 97)) (.inr (.inr (.inr (.inr (.inr rfl))))) rfl (F14.ev 12 rfl) rfl (dec_of (by omega))) rfl fun _ F15 => ?_)
     refine l_op (f_mv F15 rfl rfl rfl rfl rfl fun _ F16 => ?_)
     rcases Decidable.em (x ≥ 97) with h17 | h17
     · rw [decide_eq_true h17] at F16
       refine l_op (f_mv F16 (wanted_g F16 rfl rfl rfl rfl) rfl rfl rfl rfl fun _ F18 => ?_)
       refine l_op (f_val F18 (wanted_g F18 rfl rfl rfl rfl) rfl (r_cmp (b := decide (x ≤ 102)) (.inr (.inr (.inr (.inl rfl)))) rfl (F18.ev 15 rfl) rfl (dec_of (by omega))) rfl fun _ F19 => ?_)
       refine l_op (f_val F19 rfl rfl (r_pick (b := true) rfl (F19.ev 14 rfl) (F19.ev 16 rfl)) rfl fun _ F20 => ?_)
       refine s_end (x_normal (x_cond (p := x ≤ 102) (F20.ev 17 rfl) (fun h21 => ?_) (fun h21 => ?_)))
       · skip
         refine wp_seq (wp_region_lit (l_op (f_mv F20 rfl rfl rfl rfl rfl fun _ F22 => ?_)))
         refine l_op (f_val F22 rfl rfl (r_convU8 Tryz.underlying3 Tryz.underlying5 rfl (F22.ev 18 rfl) ⟨by omega, by first | omega | (have := trivial; omega)⟩) rfl fun _ F23 => ?_)
         refine l_op (f_val F23 rfl rfl (r_sub (z := (((x : Nat) : Int) - 97)) rfl (F23.ev 19 rfl) rfl (by first | rfl | omega) ⟨by first | omega | (unfold i64ok at *; omega), by first | omega | (unfold i64ok at *; omega)⟩) rfl fun _ F24 => ?_)
         refine l_op (f_val F24 rfl rfl (r_add (z := ((((x : Nat) : Int) - 97) + 10)) rfl (F24.ev 20 rfl) rfl (by first | rfl | omega) ⟨by first | omega | (unfold i64ok at *; omega), by first | omega | (unfold i64ok at *; omega)⟩) rfl fun _ F25 => ?_)
         refine l_op (f_as F25 rfl rfl rfl rfl rfl fun _ F26 => ?_)
         refine s_end (x_normal (wp_ret (x_then_ret ?_)))
         refine x_done (v := .int .i64 ((((x : Nat) : Int) - 97) + 10)) F26 (results_1 Tryz.results168 (.tmp (F26.ev 2 rfl))) ?_
         exact ⟨(by rw [(show ((((x : Nat) : Int) - 97) + 10) = (vlow x) from by unfold vlow; split <;> (try split) <;> omega)]), (Mv.pick (Mv.refl (At.nil w)) [] rfl), (vlow_bd x).1, (vlow_bd x).2⟩
       · skip
         refine wp_skip (x_normal (wp_seq (wp_region_lit (l_op (f_val F20 rfl rfl (r_assign rfl rfl) rfl fun _ F27 => ?_)))))
         refine s_end (x_normal (wp_ret ?_))
         refine x_done (v := .int .i64 (-1)) F27 (results_1 Tryz.results168 (.tmp (F27.ev 2 rfl))) ?_
         exact ⟨(by rw [(show (-1) = (vlow x) from by unfold vlow; split <;> (try split) <;> omega)]), (Mv.pick (Mv.refl (At.nil w)) [] rfl), (vlow_bd x).1, (vlow_bd x).2⟩
     · rw [decide_eq_false h17] at F16
       refine l_op (f_skip F16 (wanted_g F16 rfl rfl rfl rfl) rfl rfl fun _ F28 => ?_)
       refine l_op (f_skip F28 (wanted_g F28 rfl rfl rfl rfl) rfl rfl fun _ F29 => ?_)
       refine l_op (f_val F29 rfl rfl (r_pick (b := false) rfl (F29.ev 14 rfl) rfl) rfl fun _ F30 => ?_)
       refine s_end (x_normal (wp_cond_false (F30.ev 17 rfl) (wp_skip (x_normal (wp_seq (wp_region_lit (l_op (f_val F30 rfl rfl (r_assign rfl rfl) rfl fun _ F31 => ?_))))))))
       refine s_end (x_normal (wp_ret ?_))
       refine x_done (v := .int .i64 (-1)) F31 (results_1 Tryz.results168 (.tmp (F31.ev 2 rfl))) ?_
       exact ⟨(by rw [(show (-1) = (vlow x) from by unfold vlow; split <;> (try split) <;> omega)]), (Mv.pick (Mv.refl (At.nil w)) [] rfl), (vlow_bd x).1, (vlow_bd x).2⟩
 · rw [decide_eq_false h5] at F4
   refine l_op (f_skip F4 (wanted_g F4 rfl rfl rfl rfl) rfl rfl fun _ F32 => ?_)
   refine l_op (f_skip F32 (wanted_g F32 rfl rfl rfl rfl) rfl rfl fun _ F33 => ?_)
   refine l_op (f_val F33 rfl rfl (r_pick (b := false) rfl (F33.ev 5 rfl) rfl) rfl fun _ F34 => ?_)
   refine s_end (x_normal (wp_cond_false (F34.ev 8 rfl) (wp_skip (x_normal (wp_seq (wp_seq (wp_region_lit (l_op (f_mv F34 rfl rfl rfl rfl rfl fun _ F35 => ?_)))))))))
   refine l_op (f_val F35 rfl rfl (r_cmp (b := decide (x ≥ 97)) (.inr (.inr (.inr (.inr (.inr rfl))))) rfl (F35.ev 12 rfl) rfl (dec_of (by omega))) rfl fun _ F36 => ?_)
   refine l_op (f_mv F36 rfl rfl rfl rfl rfl fun _ F37 => ?_)
   rcases Decidable.em (x ≥ 97) with h38 | h38
   · rw [decide_eq_true h38] at F37
     refine l_op (f_mv F37 (wanted_g F37 rfl rfl rfl rfl) rfl rfl rfl rfl fun _ F39 => ?_)
     refine l_op (f_val F39 (wanted_g F39 rfl rfl rfl rfl) rfl (r_cmp (b := decide (x ≤ 102)) (.inr (.inr (.inr (.inl rfl)))) rfl (F39.ev 15 rfl) rfl (dec_of (by omega))) rfl fun _ F40 => ?_)
     refine l_op (f_val F40 rfl rfl (r_pick (b := true) rfl (F40.ev 14 rfl) (F40.ev 16 rfl)) rfl fun _ F41 => ?_)
     refine s_end (x_normal (x_cond (p := x ≤ 102) (F41.ev 17 rfl) (fun h42 => ?_) (fun h42 => ?_)))
     · skip
       refine wp_seq (wp_region_lit (l_op (f_mv F41 rfl rfl rfl rfl rfl fun _ F43 => ?_)))
       refine l_op (f_val F43 rfl rfl (r_convU8 Tryz.underlying3 Tryz.underlying5 rfl (F43.ev 18 rfl) ⟨by omega, by first | omega | (have := trivial; omega)⟩) rfl fun _ F44 => ?_)
       refine l_op (f_val F44 rfl rfl (r_sub (z := (((x : Nat) : Int) - 97)) rfl (F44.ev 19 rfl) rfl (by first | rfl | omega) ⟨by first | omega | (unfold i64ok at *; omega), by first | omega | (unfold i64ok at *; omega)⟩) rfl fun _ F45 => ?_)
       refine l_op (f_val F45 rfl rfl (r_add (z := ((((x : Nat) : Int) - 97) + 10)) rfl (F45.ev 20 rfl) rfl (by first | rfl | omega) ⟨by first | omega | (unfold i64ok at *; omega), by first | omega | (unfold i64ok at *; omega)⟩) rfl fun _ F46 => ?_)
       refine l_op (f_as F46 rfl rfl rfl rfl rfl fun _ F47 => ?_)
       refine s_end (x_normal (wp_ret (x_then_ret ?_)))
       refine x_done (v := .int .i64 ((((x : Nat) : Int) - 97) + 10)) F47 (results_1 Tryz.results168 (.tmp (F47.ev 2 rfl))) ?_
       exact ⟨(by rw [(show ((((x : Nat) : Int) - 97) + 10) = (vlow x) from by unfold vlow; split <;> (try split) <;> omega)]), (Mv.pick (Mv.refl (At.nil w)) [] rfl), (vlow_bd x).1, (vlow_bd x).2⟩
     · skip
       refine wp_skip (x_normal (wp_seq (wp_region_lit (l_op (f_val F41 rfl rfl (r_assign rfl rfl) rfl fun _ F48 => ?_)))))
       refine s_end (x_normal (wp_ret ?_))
       refine x_done (v := .int .i64 (-1)) F48 (results_1 Tryz.results168 (.tmp (F48.ev 2 rfl))) ?_
       exact ⟨(by rw [(show (-1) = (vlow x) from by unfold vlow; split <;> (try split) <;> omega)]), (Mv.pick (Mv.refl (At.nil w)) [] rfl), (vlow_bd x).1, (vlow_bd x).2⟩
   · rw [decide_eq_false h38] at F37
     refine l_op (f_skip F37 (wanted_g F37 rfl rfl rfl rfl) rfl rfl fun _ F49 => ?_)
     refine l_op (f_skip F49 (wanted_g F49 rfl rfl rfl rfl) rfl rfl fun _ F50 => ?_)
     refine l_op (f_val F50 rfl rfl (r_pick (b := false) rfl (F50.ev 14 rfl) rfl) rfl fun _ F51 => ?_)
     refine s_end (x_normal (wp_cond_false (F51.ev 17 rfl) (wp_skip (x_normal (wp_seq (wp_region_lit (l_op (f_val F51 rfl rfl (r_assign rfl rfl) rfl fun _ F52 => ?_))))))))
     refine s_end (x_normal (wp_ret ?_))
     refine x_done (v := .int .i64 (-1)) F52 (results_1 Tryz.results168 (.tmp (F52.ev 2 rfl))) ?_
     exact ⟨(by rw [(show (-1) = (vlow x) from by unfold vlow; split <;> (try split) <;> omega)]), (Mv.pick (Mv.refl (At.nil w)) [] rfl), (vlow_bd x).1, (vlow_bd x).2⟩
theorem spec_Hex_c {w : World} {H : Nat → Prop} {text : ByteArray} (Q0 : okS text) (p0 : text.size ≤ 20000) :
    Calls Tryz.prog 145 #[.string text] w fun e w' => e = .returned (.tuple #[.string (hexS text), .bool true]) ∧ Mv [] w [] w' ∧ okS (hexS text) := by
 have uU : True := (fun _ _ _ => trivial) H Q0 p0
 clear uU
 refine calls_enter 33 Tryz.func145 rfl Tryz.ntmps145 (Nat.le_of_ble_eq_true rfl) (fun _ F0i => ?_)
 have F0 : Fr 33 [(0, .string text)] _ := F0i
 clear F0i
 refine wp_seq (wp_region_lit (l_op (f_val F0 rfl rfl (r_assign rfl rfl) rfl fun _ F1 => ?_)))
 refine l_op (f_val F1 rfl rfl (r_assign rfl rfl) rfl fun _ F2 => ?_)
 refine s_end (x_normal (wp_seq (wp_seq (wp_region_lit (l_op (f_mv F2 rfl rfl rfl rfl rfl fun _ F3 => ?_))))))
 refine l_op (f_val F3 rfl rfl (r_lenS (fun t ht => by cases ht; exact Tryz.underlying9) rfl rfl (F3.ev 6 rfl)) rfl fun _ F4 => ?_)
 refine l_op (f_val F4 rfl rfl (r_cmp (b := decide (text.size > 20000)) (.inr (.inr (.inr (.inr (.inl rfl))))) rfl (F4.ev 7 rfl) rfl (dec_of (by omega))) rfl fun _ F5 => ?_)
 refine s_end (x_normal (x_cond (p := text.size > 20000) (F5.ev 8 rfl) (fun h6 => ?_) (fun h6 => ?_)))
 · skip
   refine wp_seq (wp_region_lit (l_op (f_val F5 rfl rfl (r_assign rfl rfl) rfl fun _ F7 => ?_)))
   refine l_op (f_val F7 rfl rfl (r_assign rfl rfl) rfl fun _ F8 => ?_)
   refine s_end (x_normal (wp_ret (x_then_ret ?_)))
   refine x_done (v := .tuple #[.string bE_, .bool false]) F8 (results_2 Tryz.results145 (.tmp (F8.ev 2 rfl)) (.tmp (F8.ev 3 rfl))) ?_
   exact ⟨(by rw [(show bE_ = (hexS text) from by first | omega | rw [hexN_all text ‹_› (by omega)]), (show false = true from by first | omega | rw [hexN_all text ‹_› (by omega)])]), (Mv.pick (Mv.refl (At.nil w)) [] rfl), ((show bE_ = (hexS text) from by first | omega | rw [hexN_all text ‹_› (by omega)]) ▸ (by unfold okS; decide))⟩
 · skip
   refine wp_skip (x_normal (wp_seq (wp_region_lit (l_op (f_buildSl (ok := okB) (vs := []) F5 (At.nil w) (([] : List Nat)) ET_62 rfl rfl rfl rfl rfl rfl rfl rfl rfl (by simp) fun b9 _ w9 F10 S9 => ?_)))))
   refine l_op (f_as F10 rfl rfl rfl rfl rfl fun _ F11 => ?_)
   refine s_end (x_normal (wp_seq (wp_seq (wp_region_lit (l_op (f_val F11 rfl rfl (r_assign rfl rfl) rfl fun _ F12 => ?_))))))
   refine s_end (x_normal (wp_block ?_))
   refine x_loop (fun (k : Nat) aZ wZ => ∃ (oa : Option Addr), ∃ (on : Nat), ∃ (oc : Nat), Fr 33 [(5, .int .i64 ((k : Nat) : Int)), (4, .slice oa on oc), (0, .string text)] aZ ∧ Mv [ow 5 1 encB okB (.slice (some ⟨b9, 0, none⟩) 0 0) ([] : List Nat)] w9 [ow 5 1 encB okB (.slice oa on oc) (hexN text k)] wZ ∧ (k ≤ text.size)) (fun (k : Nat) => text.size - k) (0) ?_ ?_
   · exact ⟨(some ⟨b9, 0, none⟩), 0, 0, F12.cut rfl, (Mv.refl S9.at'), by omega⟩
   · rintro k a13 w13 ⟨oa, on, oc, F13, S13, hk_0⟩
     have hbt := byteAt_lt text k
     have hxl := hexN_length text k
     refine wp_seq (wp_seq (wp_region_lit (l_op (f_mv F13 rfl rfl rfl rfl rfl fun _ F14 => ?_))))
     refine l_op (f_mv F14 rfl rfl rfl rfl rfl fun _ F15 => ?_)
     refine l_op (f_val F15 rfl rfl (r_lenS (fun t ht => by cases ht; exact Tryz.underlying9) rfl rfl (F15.ev 11 rfl)) rfl fun _ F16 => ?_)
     refine l_op (f_val F16 rfl rfl (r_cmp (b := decide (k < text.size)) (.inr (.inr (.inl rfl))) rfl (F16.ev 10 rfl) (F16.ev 12 rfl) (dec_of (by omega))) rfl fun _ F17 => ?_)
     refine s_end (x_normal (x_cond (p := k < text.size) (F17.ev 13 rfl) (fun h18 => ?_) (fun h18 => ?_)))
     · skip
       refine wp_skip (x_normal (wp_seq (wp_block ?_)))
       refine x_draw (fun aZ wZ => ∃ (b37 : Nat), ∃ (A39 : Option Addr), ∃ (N39 : Nat), ∃ (C39 : Nat), Fr 33 [(0, .string text), (4, .slice A39 N39 C39), (5, .int .i64 ((k : Nat) : Int))] aZ ∧ Mv [ow 5 1 encB okB (.slice oa on oc) (hexN text k)] w13 [ow 5 1 encB okB (.slice A39 N39 C39) ((hexN text k) ++ ([fig (((byteAt text k) / 16 : Nat) : Int).toNat, fig (((byteAt text k) % 16 : Nat) : Int).toNat]))] wZ) [] mixed S13.at' (listed := #[false, false, false, false, false, false, false, false, false, false, false, false, false, false, false, false]) rfl (fun w20 S20 => ?_) [] rfl ?_
       · skip
         refine g_take F17 rfl (i := 0) (listed' := #[true, false, false, false, false, false, false, false, false, false, false, false, false, false, false, false]) rfl (by kernel_rfl) (by kernel_rfl) (by kernel_rfl) (fun _ _ _ h => h) (Sd.of (Mv.refl S20.at') [] rfl) rfl rfl rfl rfl (fun _ hz => (r_move rfl (F17.ev 4 rfl))) fun _ F21 => ?_
         refine g_take F21 rfl (i := 1) (listed' := #[true, true, false, false, false, false, false, false, false, false, false, false, false, false, false, false]) rfl (by kernel_rfl) (by kernel_rfl) (by kernel_rfl) (fun _ _ _ h => h) (Sd.of (Mv.refl S20.at') [] rfl) rfl rfl rfl rfl (fun _ hz => (r_move rfl (F21.ev 0 rfl))) fun _ F22 => ?_
         refine g_take F22 rfl (i := 2) (listed' := #[true, true, true, false, false, false, false, false, false, false, false, false, false, false, false, false]) rfl (by kernel_rfl) (by kernel_rfl) (by kernel_rfl) (fun _ _ _ h => h) (Sd.of (Mv.refl S20.at') [] rfl) rfl rfl rfl rfl (fun _ hz => (r_move rfl (F22.ev 5 rfl))) fun _ F23 => ?_
         refine g_take F23 rfl (i := 3) (listed' := #[true, true, true, true, false, false, false, false, false, false, false, false, false, false, false, false]) rfl (by kernel_rfl) (by kernel_rfl) (by kernel_rfl) (fun _ _ _ h => h) (Sd.of (Mv.refl S20.at') [] rfl) rfl rfl rfl rfl (fun _ hz => (r_indexS (i := k) Tryz.underlying9 rfl (F23.ev 17 rfl) (F23.ev 18 rfl) (by omega) (by first | assumption | omega))) fun _ F24 => ?_
         refine g_take F24 rfl (i := 4) (listed' := #[true, true, true, true, true, false, false, false, false, false, false, false, false, false, false, false]) rfl (by kernel_rfl) (by kernel_rfl) (by kernel_rfl) (fun _ _ _ h => h) (Sd.of (Mv.refl S20.at') [] rfl) rfl rfl rfl rfl (fun _ hz => (r_convU8 Tryz.underlying3 Tryz.underlying5 rfl (F24.ev 19 rfl) ⟨by omega, by first | omega | (have := byteAt_lt text k; omega)⟩)) fun _ F25 => ?_
         refine g_take F25 rfl (i := 5) (listed' := #[true, true, true, true, true, true, false, false, false, false, false, false, false, false, false, false]) rfl (by kernel_rfl) (by kernel_rfl) (by kernel_rfl) (fun _ _ _ h => h) (Sd.of (Mv.refl S20.at') [] rfl) rfl rfl rfl rfl (fun _ hz => (r_quoN (c := 16) rfl (by decide) (by omega) rfl (F25.ev 20 rfl) rfl)) fun _ F26 => ?_
         refine g_take F26 rfl (i := 7) (listed' := #[true, true, true, true, true, true, false, true, false, false, false, false, false, false, false, false]) rfl (by kernel_rfl) (by kernel_rfl) (by kernel_rfl) (fun _ _ _ h => h) (Sd.of (Mv.refl S20.at') [] rfl) rfl rfl rfl rfl (fun _ hz => (r_move rfl (F26.ev 0 rfl))) fun _ F27 => ?_
         refine g_take F27 rfl (i := 8) (listed' := #[true, true, true, true, true, true, false, true, true, false, false, false, false, false, false, false]) rfl (by kernel_rfl) (by kernel_rfl) (by kernel_rfl) (fun _ _ _ h => h) (Sd.of (Mv.refl S20.at') [] rfl) rfl rfl rfl rfl (fun _ hz => (r_move rfl (F27.ev 5 rfl))) fun _ F28 => ?_
         refine g_take F28 rfl (i := 9) (listed' := #[true, true, true, true, true, true, false, true, true, true, false, false, false, false, false, false]) rfl (by kernel_rfl) (by kernel_rfl) (by kernel_rfl) (fun _ _ _ h => h) (Sd.of (Mv.refl S20.at') [] rfl) rfl rfl rfl rfl (fun _ hz => (r_indexS (i := k) Tryz.underlying9 rfl (F28.ev 23 rfl) (F28.ev 24 rfl) (by omega) (by first | assumption | omega))) fun _ F29 => ?_
         refine g_take F29 rfl (i := 10) (listed' := #[true, true, true, true, true, true, false, true, true, true, true, false, false, false, false, false]) rfl (by kernel_rfl) (by kernel_rfl) (by kernel_rfl) (fun _ _ _ h => h) (Sd.of (Mv.refl S20.at') [] rfl) rfl rfl rfl rfl (fun _ hz => (r_convU8 Tryz.underlying3 Tryz.underlying5 rfl (F29.ev 25 rfl) ⟨by omega, by first | omega | (have := byteAt_lt text k; omega)⟩)) fun _ F30 => ?_
         have rm31 := Nat.mod_lt (byteAt text k) (show 0 < 16 by decide)
         refine g_take F30 rfl (i := 11) (listed' := #[true, true, true, true, true, true, false, true, true, true, true, true, false, false, false, false]) rfl (by kernel_rfl) (by kernel_rfl) (by kernel_rfl) (fun _ _ _ h => h) (Sd.of (Mv.refl S20.at') [] rfl) rfl rfl rfl rfl (fun _ hz => (r_remK (c := 16) rfl (by decide) rfl (F30.ev 26 rfl) rfl)) fun _ F32 => ?_
         refine d_one (i := 6) (listed' := #[true, true, true, true, true, true, true, true, true, true, true, true, false, false, false, false]) rfl (by kernel_rfl) rfl rfl ?_
         refine f_call F32 CF_177 rfl rfl rfl rfl (lc (F32.ev 21 rfl) rfl) (spec_l01Figure_c (H := fun _ => True) (x := (((byteAt text k) / 16 : Nat) : Int)) (by first | assumption | exact ⟨by omega, by omega⟩ | (unfold i64ok at *; omega)) (by first | assumption | omega | (simp <;> omega)) (by first | assumption | omega | (simp <;> omega))) ?_
         rintro _ w33 ⟨rfl, m33, q33_0⟩
         refine ⟨_, rfl, fun _ F34 => ?_⟩
         have S33 := At.frame0 S20.at' m33
         clear m33
         refine ⟨Sd.of S33 [] rfl, ?_⟩
         refine d_one (i := 12) (listed' := #[true, true, true, true, true, true, true, true, true, true, true, true, true, false, false, false]) rfl (by kernel_rfl) rfl rfl ?_
         refine f_call F34 CF_177 rfl rfl rfl rfl (lc (F34.ev 27 rfl) rfl) (spec_l01Figure_c (H := fun _ => True) (x := (((byteAt text k) % 16 : Nat) : Int)) (by first | assumption | exact ⟨by omega, by omega⟩ | (unfold i64ok at *; omega)) (by first | assumption | omega | (simp <;> omega)) (by first | assumption | omega | (simp <;> omega))) ?_
         rintro _ w35 ⟨rfl, m35, q35_0⟩
         refine ⟨_, rfl, fun _ F36 => ?_⟩
         have S35 := At.frame0 S33.at' m35
         clear m35
         refine ⟨Sd.of (S33.trans S35) [] rfl, ?_⟩
         refine d_one (i := 13) (listed' := #[true, true, true, true, true, true, true, true, true, true, true, true, true, true, false, false]) rfl (by kernel_rfl) rfl rfl ?_
         refine f_buildSl (ok := okB) (vs := [.int .u8 ((fig (((byteAt text k) / 16 : Nat) : Int).toNat : Nat) : Int), .int .u8 ((fig (((byteAt text k) % 16 : Nat) : Int).toNat : Nat) : Int)]) F36 S35.at' ([fig (((byteAt text k) / 16 : Nat) : Int).toNat, fig (((byteAt text k) % 16 : Nat) : Int).toNat]) ET_62 rfl rfl rfl rfl rfl rfl (lc (pr2 (F36.ev 22 rfl)) (lc (pr2 (F36.ev 28 rfl)) rfl)) rfl rfl (fun x hx => by (repeat (first | (rcases List.mem_cons.1 hx with hx | hx; (subst hx; first | exact (show fig (((byteAt text k) / 16 : Nat) : Int).toNat < 256 by omega) | exact (show fig (((byteAt text k) % 16 : Nat) : Int).toNat < 256 by omega))) | exact (List.not_mem_nil hx).elim))) fun b37 _ w37 F38 S37 => ?_
         refine ⟨Sd.of (S33.trans (S35.trans S37)) [] rfl, ?_⟩
         refine d_one (i := 14) (listed' := #[true, true, true, true, true, true, true, true, true, true, true, true, true, true, true, false]) rfl (by kernel_rfl) rfl rfl ?_
         refine f_app (news := [fig (((byteAt text k) / 16 : Nat) : Int).toNat, fig (((byteAt text k) % 16 : Nat) : Int).toNat]) F38 S37.at' 1 ET_62 rfl rfl rfl rfl rfl rfl (F38.ev 16 rfl) (F38.ev 29 rfl) ((At.rd S37.at' ET_62.hk 0 rfl)).1 (by ((repeat (first | rw [List.length_append] | rw [List.length_cons] | rw [List.length_nil] | rw [List.length_take] | rw [List.length_drop])) <;> omega)) fun A39 N39 C39 _ w39 F40 S39 l39 => ?_
         have S41 := At.drop S39.at' 1
         refine ⟨Sd.of (S33.trans (S35.trans (S37.trans (S39.trans S41)))) [] rfl, ?_⟩
         refine g_take F40 rfl (i := 15) (listed' := #[true, true, true, true, true, true, true, true, true, true, true, true, true, true, true, true]) rfl (by kernel_rfl) (by kernel_rfl) (by kernel_rfl) (fun _ _ _ h => h) (Sd.of (S33.trans (S35.trans (S37.trans (S39.trans S41)))) [] rfl) rfl rfl rfl rfl (fun _ hz => (r_assign rfl (F40.ev 30 rfl))) fun _ F42 => ?_
         refine wpAnyH_done (by kernel_rfl) (x_normal ?_) _
         exact ⟨b37, A39, N39, C39, F42.cut rfl, ((S20.trans (S33.trans (S35.trans (S37.trans (S39.trans S41))))).pick [0] rfl)⟩
       · rintro a43 w43 ⟨b37, A39, N39, C39, F43, S43⟩
         obtain ⟨Q1, Q2, Q3⟩ := At.ownInv S43.at' ET_62.hk 0 rfl
         refine x_block_normal (x_normal (wp_region_lit (l_op (f_mv F43 rfl rfl rfl rfl rfl fun _ F44 => ?_))))
         refine l_op (f_val F44 rfl rfl (r_add (z := ((k + 1 : Nat) : Int)) rfl (F44.ev 14 rfl) rfl (by first | rfl | omega) ⟨by first | omega | (unfold i64ok at *; omega), by first | omega | (unfold i64ok at *; omega)⟩) rfl fun _ F45 => ?_)
         refine l_op (f_as F45 rfl rfl rfl rfl rfl fun _ F46 => ?_)
         refine s_end ?_
         refine x_normal ⟨k + 1, by omega, A39, N39, C39, F46.cut rfl, (Mv.cast ((S13.trans S43).pick [0] rfl) (by (rfl); all_goals rfl)), by omega⟩
     · skip
       refine wp_exit (x_then_exit (x_then_exit (x_block_here (x_normal (wp_seq (wp_region_lit (l_op (f_mv F17 rfl rfl rfl rfl rfl fun _ F47 => ?_))))))))
       refine l_op (f_val F47 rfl rfl (r_bstr Tryz.underlying62 Tryz.underlying5 Tryz.underlying9 ((At.rd S13.at' ET_62.hk 0 rfl)).1 rfl (F47.ev 31 rfl)) rfl fun _ F48 => ?_)
       refine l_op (f_as F48 rfl rfl rfl rfl rfl fun _ F49 => ?_)
       refine l_op (f_val F49 rfl rfl (r_assign rfl rfl) rfl fun _ F50 => ?_)
       refine s_end (x_normal (wp_ret ?_))
       refine x_done (v := .tuple #[.string (bstr (hexN text k)), .bool true]) F50 (results_2 Tryz.results145 (.tmp (F50.ev 2 rfl)) (.tmp (F50.ev 3 rfl))) ?_
       exact ⟨(by rw [(show (bstr (hexN text k)) = (hexS text) from by first | omega | rw [hexN_all text ‹_› (by omega)])]), (Mv.pick (S9.trans S13) [] rfl), ((show (bstr (hexN text k)) = (hexS text) from by first | omega | rw [hexN_all text ‹_› (by omega)]) ▸ (okS_bstr (by omega)))⟩
theorem impl_Unhex_c {w : World} {H : Nat → Prop} {text : ByteArray} (Q3 : okS text) (tab2 : Tb 2 H w) (p0 : text.size ≤ 281474976710656) :
    Calls Tryz.prog 141 #[.string text] w fun e w' => e = .returned (.tuple #[.string (unhexT text), .bool (unhexB text)]) ∧ Mv [] w [] w' ∧ okS (unhexT text) := by
 have uU : True := (fun _ => trivial) p0
 clear uU
 have V_tab2 : Tb 2 (V H w []) w := Tb.start tab2 (fun _ _ => fps_nil _)
 refine calls_enter 26 Tryz.func141 rfl Tryz.ntmps141 (Nat.le_of_ble_eq_true rfl) (fun _ F0i => ?_)
 have F0 : Fr 26 [(0, .string text)] _ := F0i
 clear F0i
 refine wp_seq (wp_region_lit (l_op (f_val F0 rfl rfl (r_assign rfl rfl) rfl fun _ F1 => ?_)))
 refine l_op (f_val F1 rfl rfl (r_assign rfl rfl) rfl fun _ F2 => ?_)
 refine s_end (x_normal (wp_seq (wp_region_lit (l_op (f_mv F2 rfl rfl rfl rfl rfl fun _ F3 => ?_)))))
 refine l_op (f_call F3 CF_174 rfl rfl rfl rfl (lc (F3.ev 7 rfl) rfl) (encoding_hex_DecodeString_c (s := text) Q3 V_tab2 (by first | assumption | omega | (simp <;> omega))) ?_)
 rintro _ w4 ⟨ev_4, Q1, Q0, Q2, rfl, m4, q4_0, q4_1⟩
 refine ⟨_, rfl, fun _ F5 => ?_⟩
 have S4 : Mv _ _ [ow 5 1 encB okB (.slice Q1 Q0 Q2) (decL text)] _ := At.frame (At.nil w) [] rfl m4
 obtain ⟨Q4, Q5, Q6⟩ := At.ownInv S4.at' ET_62.hk 0 rfl
 clear m4
 refine l_op (f_mv F5 rfl rfl rfl rfl rfl fun _ F6 => ?_)
 refine l_op (f_val (v := .slice Q1 Q0 Q2) F6 rfl rfl (r_extract rfl (F6.ev 6 rfl) rfl) rfl fun _ F7 => ?_)
 refine l_op (f_val (v := ev_4) F7 rfl rfl (r_extract rfl (F7.ev 6 rfl) rfl) rfl fun _ F8 => ?_)
 refine l_op (f_as F8 rfl rfl rfl rfl rfl fun _ F9 => ?_)
 refine l_op (f_as F9 rfl rfl rfl rfl rfl fun _ F10 => ?_)
 refine s_end (x_normal (wp_seq (wp_seq (wp_region_lit (l_op (f_mv F10 rfl rfl rfl rfl rfl fun _ F11 => ?_))))))
 refine l_op (f_val F11 rfl rfl (r_errNe Tryz.underlying197 rfl (F11.ev 11 rfl) rfl ‹_›) rfl fun _ F12 => ?_)
 refine l_op (f_mv F12 rfl rfl rfl rfl rfl fun _ F13 => ?_)
 rcases Bool.eq_false_or_eq_true (isErr ev_4) with h14 | h14
 · rw [h14] at F13
   refine l_op (f_skip F13 (wanted_g F13 rfl rfl rfl rfl) rfl rfl fun _ F15 => ?_)
   refine l_op (f_skip F15 (wanted_g F15 rfl rfl rfl rfl) rfl rfl fun _ F16 => ?_)
   refine l_op (f_skip F16 (wanted_g F16 rfl rfl rfl rfl) rfl rfl fun _ F17 => ?_)
   refine l_op (f_val F17 rfl rfl (r_pick (b := true) rfl (F17.ev 13 rfl) rfl) rfl fun _ F18 => ?_)
   refine l_op (f_mv F18 rfl rfl rfl rfl rfl fun _ F19 => ?_)
   refine l_op (f_skip F19 (wanted_g F19 rfl rfl rfl rfl) rfl rfl fun _ F20 => ?_)
   refine l_op (f_skip F20 (wanted_g F20 rfl rfl rfl rfl) rfl rfl fun _ F21 => ?_)
   refine l_op (f_skip F21 (wanted_g F21 rfl rfl rfl rfl) rfl rfl fun _ F22 => ?_)
   refine l_op (f_skip F22 (wanted_g F22 rfl rfl rfl rfl) rfl rfl fun _ F23 => ?_)
   refine l_op (f_val F23 rfl rfl (r_pick (b := true) rfl (F23.ev 18 rfl) rfl) rfl fun _ F24 => ?_)
   refine s_end (x_normal (wp_cond_true (F24.ev 23 rfl) (wp_seq (wp_region_lit (l_op (f_val F24 rfl rfl (r_assign rfl rfl) rfl fun _ F25 => ?_))))))
   refine l_op (f_val F25 rfl rfl (r_assign rfl rfl) rfl fun _ F26 => ?_)
   refine s_end (x_normal (wp_ret (x_then_ret ?_)))
   refine x_done (v := .tuple #[.string bE_, .bool false]) F26 (results_2 Tryz.results141 (.tmp (F26.ev 2 rfl)) (.tmp (F26.ev 3 rfl))) ?_
   exact ⟨(by rw [(show bE_ = (unhexT text) from by first | exact uh_t (uh_e ‹_› ‹_›) | exact uh_b (uh_e ‹_› ‹_›) | exact uh_t (uh_l ‹_› ‹_›) | exact uh_b (uh_l ‹_› ‹_›) | exact uh_t (uh_k ‹_›) | exact uh_b (uh_k ‹_›) | exact (uh_w ‹_› ‹_› ‹_›).1 | exact (uh_w ‹_› ‹_› ‹_›).2), (show false = (unhexB text) from by first | exact uh_t (uh_e ‹_› ‹_›) | exact uh_b (uh_e ‹_› ‹_›) | exact uh_t (uh_l ‹_› ‹_›) | exact uh_b (uh_l ‹_› ‹_›) | exact uh_t (uh_k ‹_›) | exact uh_b (uh_k ‹_›) | exact (uh_w ‹_› ‹_› ‹_›).1 | exact (uh_w ‹_› ‹_› ‹_›).2)]), (Mv.pick S4 [] rfl), ((show bE_ = (unhexT text) from by first | exact uh_t (uh_e ‹_› ‹_›) | exact uh_b (uh_e ‹_› ‹_›) | exact uh_t (uh_l ‹_› ‹_›) | exact uh_b (uh_l ‹_› ‹_›) | exact uh_t (uh_k ‹_›) | exact uh_b (uh_k ‹_›) | exact (uh_w ‹_› ‹_› ‹_›).1 | exact (uh_w ‹_› ‹_› ‹_›).2) ▸ (by unfold okS; decide))⟩
 · rw [h14] at F13
   refine l_op (f_mv F13 (wanted_g F13 rfl rfl rfl rfl) rfl rfl rfl rfl fun _ F27 => ?_)
   refine l_op (f_val F27 (wanted_g F27 rfl rfl rfl rfl) rfl (r_len Tryz.underlying62 rfl (F27.ev 14 rfl)) rfl fun _ F28 => ?_)
   refine l_op (f_val F28 (wanted_g F28 rfl rfl rfl rfl) rfl (r_cmp (b := decide (Q0 > 20000)) (.inr (.inr (.inr (.inr (.inl rfl))))) rfl (F28.ev 15 rfl) rfl (dec_of (by omega))) rfl fun _ F29 => ?_)
   refine l_op (f_val F29 rfl rfl (r_pick (b := false) rfl (F29.ev 13 rfl) (F29.ev 16 rfl)) rfl fun _ F30 => ?_)
   refine l_op (f_mv F30 rfl rfl rfl rfl rfl fun _ F31 => ?_)
   rcases Decidable.em (Q0 > 20000) with h32 | h32
   · rw [decide_eq_true h32] at F31
     refine l_op (f_skip F31 (wanted_g F31 rfl rfl rfl rfl) rfl rfl fun _ F33 => ?_)
     refine l_op (f_skip F33 (wanted_g F33 rfl rfl rfl rfl) rfl rfl fun _ F34 => ?_)
     refine l_op (f_skip F34 (wanted_g F34 rfl rfl rfl rfl) rfl rfl fun _ F35 => ?_)
     refine l_op (f_skip F35 (wanted_g F35 rfl rfl rfl rfl) rfl rfl fun _ F36 => ?_)
     refine l_op (f_val F36 rfl rfl (r_pick (b := true) rfl (F36.ev 18 rfl) rfl) rfl fun _ F37 => ?_)
     refine s_end (x_normal (wp_cond_true (F37.ev 23 rfl) (wp_seq (wp_region_lit (l_op (f_val F37 rfl rfl (r_assign rfl rfl) rfl fun _ F38 => ?_))))))
     refine l_op (f_val F38 rfl rfl (r_assign rfl rfl) rfl fun _ F39 => ?_)
     refine s_end (x_normal (wp_ret (x_then_ret ?_)))
     refine x_done (v := .tuple #[.string bE_, .bool false]) F39 (results_2 Tryz.results141 (.tmp (F39.ev 2 rfl)) (.tmp (F39.ev 3 rfl))) ?_
     exact ⟨(by rw [(show bE_ = (unhexT text) from by first | exact uh_t (uh_e ‹_› ‹_›) | exact uh_b (uh_e ‹_› ‹_›) | exact uh_t (uh_l ‹_› ‹_›) | exact uh_b (uh_l ‹_› ‹_›) | exact uh_t (uh_k ‹_›) | exact uh_b (uh_k ‹_›) | exact (uh_w ‹_› ‹_› ‹_›).1 | exact (uh_w ‹_› ‹_› ‹_›).2), (show false = (unhexB text) from by first | exact uh_t (uh_e ‹_› ‹_›) | exact uh_b (uh_e ‹_› ‹_›) | exact uh_t (uh_l ‹_› ‹_›) | exact uh_b (uh_l ‹_› ‹_›) | exact uh_t (uh_k ‹_›) | exact uh_b (uh_k ‹_›) | exact (uh_w ‹_› ‹_› ‹_›).1 | exact (uh_w ‹_› ‹_› ‹_›).2)]), (Mv.pick S4 [] rfl), ((show bE_ = (unhexT text) from by first | exact uh_t (uh_e ‹_› ‹_›) | exact uh_b (uh_e ‹_› ‹_›) | exact uh_t (uh_l ‹_› ‹_›) | exact uh_b (uh_l ‹_› ‹_›) | exact uh_t (uh_k ‹_›) | exact uh_b (uh_k ‹_›) | exact (uh_w ‹_› ‹_› ‹_›).1 | exact (uh_w ‹_› ‹_› ‹_›).2) ▸ (by unfold okS; decide))⟩
   · rw [decide_eq_false h32] at F31
     refine l_op (f_mv F31 (wanted_g F31 rfl rfl rfl rfl) rfl rfl rfl rfl fun _ F40 => ?_)
     refine l_op (f_call F40 CF_175 (wanted_g F40 rfl rfl rfl rfl) rfl rfl rfl (lc (F40.ev 19 rfl) rfl) (encoding_hex_EncodeToString_c (H := fun _ => True) (l := decL text) (At.rd S4.at' ET_62.hk 0 rfl) (by first | assumption | omega | (simp <;> omega))) ?_)
     rintro _ w41 ⟨rfl, m41, Q7⟩
     refine ⟨_, rfl, fun _ F42 => ?_⟩
     have S41 := At.frame0 S4.at' m41
     clear m41
     refine l_op (f_mv F42 (wanted_g F42 rfl rfl rfl rfl) rfl rfl rfl rfl fun _ F43 => ?_)
     refine l_op (f_val F43 (wanted_g F43 rfl rfl rfl rfl) rfl (r_cmps (b := (decide ((hexS (bstr (decL text))) ≠ text))) (.inr (.inl rfl)) rfl (F43.ev 20 rfl) (F43.ev 21 rfl) rfl) rfl fun _ F44 => ?_)
     refine l_op (f_val F44 rfl rfl (r_pick (b := false) rfl (F44.ev 18 rfl) (F44.ev 22 rfl)) rfl fun _ F45 => ?_)
     refine s_end (x_normal (x_cond (p := (hexS (bstr (decL text))) ≠ text) (F45.ev 23 rfl) (fun h46 => ?_) (fun h46 => ?_)))
     · skip
       refine wp_seq (wp_region_lit (l_op (f_val F45 rfl rfl (r_assign rfl rfl) rfl fun _ F47 => ?_)))
       refine l_op (f_val F47 rfl rfl (r_assign rfl rfl) rfl fun _ F48 => ?_)
       refine s_end (x_normal (wp_ret (x_then_ret ?_)))
       refine x_done (v := .tuple #[.string bE_, .bool false]) F48 (results_2 Tryz.results141 (.tmp (F48.ev 2 rfl)) (.tmp (F48.ev 3 rfl))) ?_
       exact ⟨(by rw [(show bE_ = (unhexT text) from by first | exact uh_t (uh_e ‹_› ‹_›) | exact uh_b (uh_e ‹_› ‹_›) | exact uh_t (uh_l ‹_› ‹_›) | exact uh_b (uh_l ‹_› ‹_›) | exact uh_t (uh_k ‹_›) | exact uh_b (uh_k ‹_›) | exact (uh_w ‹_› ‹_› ‹_›).1 | exact (uh_w ‹_› ‹_› ‹_›).2), (show false = (unhexB text) from by first | exact uh_t (uh_e ‹_› ‹_›) | exact uh_b (uh_e ‹_› ‹_›) | exact uh_t (uh_l ‹_› ‹_›) | exact uh_b (uh_l ‹_› ‹_›) | exact uh_t (uh_k ‹_›) | exact uh_b (uh_k ‹_›) | exact (uh_w ‹_› ‹_› ‹_›).1 | exact (uh_w ‹_› ‹_› ‹_›).2)]), (Mv.pick (S4.trans S41) [] rfl), ((show bE_ = (unhexT text) from by first | exact uh_t (uh_e ‹_› ‹_›) | exact uh_b (uh_e ‹_› ‹_›) | exact uh_t (uh_l ‹_› ‹_›) | exact uh_b (uh_l ‹_› ‹_›) | exact uh_t (uh_k ‹_›) | exact uh_b (uh_k ‹_›) | exact (uh_w ‹_› ‹_› ‹_›).1 | exact (uh_w ‹_› ‹_› ‹_›).2) ▸ (by unfold okS; decide))⟩
     · skip
       refine wp_skip (x_normal (wp_seq (wp_region_lit (l_op (f_mv F45 rfl rfl rfl rfl rfl fun _ F49 => ?_)))))
       refine l_op (f_val F49 rfl rfl (r_bstr Tryz.underlying62 Tryz.underlying5 Tryz.underlying9 ((At.rd S41.at' ET_62.hk 0 rfl)).1 rfl (F49.ev 24 rfl)) rfl fun _ F50 => ?_)
       refine l_op (f_as F50 rfl rfl rfl rfl rfl fun _ F51 => ?_)
       refine l_op (f_val F51 rfl rfl (r_assign rfl rfl) rfl fun _ F52 => ?_)
       refine s_end (x_normal (wp_ret ?_))
       refine x_done (v := .tuple #[.string (bstr (decL text)), .bool true]) F52 (results_2 Tryz.results141 (.tmp (F52.ev 2 rfl)) (.tmp (F52.ev 3 rfl))) ?_
       exact ⟨(by rw [(show (bstr (decL text)) = (unhexT text) from by first | exact uh_t (uh_e ‹_› ‹_›) | exact uh_b (uh_e ‹_› ‹_›) | exact uh_t (uh_l ‹_› ‹_›) | exact uh_b (uh_l ‹_› ‹_›) | exact uh_t (uh_k ‹_›) | exact uh_b (uh_k ‹_›) | exact (uh_w ‹_› ‹_› ‹_›).1 | exact (uh_w ‹_› ‹_› ‹_›).2), (show true = (unhexB text) from by first | exact uh_t (uh_e ‹_› ‹_›) | exact uh_b (uh_e ‹_› ‹_›) | exact uh_t (uh_l ‹_› ‹_›) | exact uh_b (uh_l ‹_› ‹_›) | exact uh_t (uh_k ‹_›) | exact uh_b (uh_k ‹_›) | exact (uh_w ‹_› ‹_› ‹_›).1 | exact (uh_w ‹_› ‹_› ‹_›).2)]), (Mv.pick (S4.trans S41) [] rfl), ((show (bstr (decL text)) = (unhexT text) from by first | exact uh_t (uh_e ‹_› ‹_›) | exact uh_b (uh_e ‹_› ‹_›) | exact uh_t (uh_l ‹_› ‹_›) | exact uh_b (uh_l ‹_› ‹_›) | exact uh_t (uh_k ‹_›) | exact uh_b (uh_k ‹_›) | exact (uh_w ‹_› ‹_› ‹_›).1 | exact (uh_w ‹_› ‹_› ‹_›).2) ▸ (okS_bstr (by omega)))⟩
theorem spec_Unhex_c {w : World} {H : Nat → Prop} {text : ByteArray} (Q0 : okS text) :
    Calls Tryz.prog 135 #[.string text] w fun e w' => e = .returned (.tuple #[.string (unhexT text), .bool (unhexB text)]) ∧ Mv [] w [] w' ∧ okS (unhexT text) := by
 have uU : True := (fun _ _ => trivial) H Q0
 clear uU
 refine calls_enter 49 Tryz.func135 rfl Tryz.ntmps135 (Nat.le_of_ble_eq_true rfl) (fun _ F0i => ?_)
 have F0 : Fr 49 [(0, .string text)] _ := F0i
 clear F0i
 refine wp_seq (wp_region_lit (l_op (f_val F0 rfl rfl (r_assign rfl rfl) rfl fun _ F1 => ?_)))
 refine l_op (f_val F1 rfl rfl (r_assign rfl rfl) rfl fun _ F2 => ?_)
 refine s_end (x_normal (wp_seq (wp_seq (wp_region_lit (l_op (f_mv F2 rfl rfl rfl rfl rfl fun _ F3 => ?_))))))
 refine l_op (f_val F3 rfl rfl (r_lenS (fun t ht => by cases ht; exact Tryz.underlying9) rfl rfl (F3.ev 8 rfl)) rfl fun _ F4 => ?_)
 refine l_op (f_val F4 rfl rfl (r_cmp (b := decide (text.size > 40000)) (.inr (.inr (.inr (.inr (.inl rfl))))) rfl (F4.ev 9 rfl) rfl (dec_of (by omega))) rfl fun _ F5 => ?_)
 refine l_op (f_mv F5 rfl rfl rfl rfl rfl fun _ F6 => ?_)
 rcases Decidable.em (text.size > 40000) with h7 | h7
 · rw [decide_eq_true h7] at F6
   refine l_op (f_skip F6 (wanted_g F6 rfl rfl rfl rfl) rfl rfl fun _ F8 => ?_)
   refine l_op (f_skip F8 (wanted_g F8 rfl rfl rfl rfl) rfl rfl fun _ F9 => ?_)
   refine l_op (f_skip F9 (wanted_g F9 rfl rfl rfl rfl) rfl rfl fun _ F10 => ?_)
   refine l_op (f_skip F10 (wanted_g F10 rfl rfl rfl rfl) rfl rfl fun _ F11 => ?_)
   refine l_op (f_val F11 rfl rfl (r_pick (b := true) rfl (F11.ev 11 rfl) rfl) rfl fun _ F12 => ?_)
   refine s_end (x_normal (wp_cond_true (F12.ev 16 rfl) (wp_seq (wp_region_lit (l_op (f_val F12 rfl rfl (r_assign rfl rfl) rfl fun _ F13 => ?_))))))
   refine l_op (f_val F13 rfl rfl (r_assign rfl rfl) rfl fun _ F14 => ?_)
   refine s_end (x_normal (wp_ret (x_then_ret ?_)))
   refine x_done (v := .tuple #[.string bE_, .bool false]) F14 (results_2 Tryz.results135 (.tmp (F14.ev 2 rfl)) (.tmp (F14.ev 3 rfl))) ?_
   exact ⟨(by rw [(show bE_ = (unhexT text) from by first | exact uh_t (unhex_big ‹_›) | exact uh_b (unhex_big ‹_›) | exact uh_t (unhex_odd ‹_›) | exact uh_b (unhex_odd ‹_›) | exact uh_t (unhex_fig (k := 2 * k) (by omega) ‹_›) | exact uh_b (unhex_fig (k := 2 * k) (by omega) ‹_›) | exact uh_t (unhex_fig (k := 2 * k + 1) (by omega) ‹_›) | exact uh_b (unhex_fig (k := 2 * k + 1) (by omega) ‹_›) | exact (uh_d (k := k) hk_1 ‹_› (by omega) (by omega)).1 | exact (uh_d (k := k) hk_1 ‹_› (by omega) (by omega)).2), (show false = (unhexB text) from by first | exact uh_t (unhex_big ‹_›) | exact uh_b (unhex_big ‹_›) | exact uh_t (unhex_odd ‹_›) | exact uh_b (unhex_odd ‹_›) | exact uh_t (unhex_fig (k := 2 * k) (by omega) ‹_›) | exact uh_b (unhex_fig (k := 2 * k) (by omega) ‹_›) | exact uh_t (unhex_fig (k := 2 * k + 1) (by omega) ‹_›) | exact uh_b (unhex_fig (k := 2 * k + 1) (by omega) ‹_›) | exact (uh_d (k := k) hk_1 ‹_› (by omega) (by omega)).1 | exact (uh_d (k := k) hk_1 ‹_› (by omega) (by omega)).2)]), (Mv.pick (Mv.refl (At.nil w)) [] rfl), ((show bE_ = (unhexT text) from by first | exact uh_t (unhex_big ‹_›) | exact uh_b (unhex_big ‹_›) | exact uh_t (unhex_odd ‹_›) | exact uh_b (unhex_odd ‹_›) | exact uh_t (unhex_fig (k := 2 * k) (by omega) ‹_›) | exact uh_b (unhex_fig (k := 2 * k) (by omega) ‹_›) | exact uh_t (unhex_fig (k := 2 * k + 1) (by omega) ‹_›) | exact uh_b (unhex_fig (k := 2 * k + 1) (by omega) ‹_›) | exact (uh_d (k := k) hk_1 ‹_› (by omega) (by omega)).1 | exact (uh_d (k := k) hk_1 ‹_› (by omega) (by omega)).2) ▸ (by unfold okS; decide))⟩
 · rw [decide_eq_false h7] at F6
   refine l_op (f_mv F6 (wanted_g F6 rfl rfl rfl rfl) rfl rfl rfl rfl fun _ F15 => ?_)
   refine l_op (f_val F15 (wanted_g F15 rfl rfl rfl rfl) rfl (r_lenS (fun t ht => by cases ht; exact Tryz.underlying9) rfl rfl (F15.ev 12 rfl)) rfl fun _ F16 => ?_)
   have rm17 := Nat.mod_lt text.size (show 0 < 2 by decide)
   refine l_op (f_val F16 (wanted_g F16 rfl rfl rfl rfl) rfl (r_remC (c := 2) rfl (by decide) rfl (F16.ev 13 rfl) rfl) rfl fun _ F18 => ?_)
   refine l_op (f_val F18 (wanted_g F18 rfl rfl rfl rfl) rfl (r_cmp (b := decide (text.size % 2 ≠ 0)) (.inr (.inl rfl)) rfl (F18.ev 14 rfl) rfl (dec_of (by omega))) rfl fun _ F19 => ?_)
   refine l_op (f_val F19 rfl rfl (r_pick (b := false) rfl (F19.ev 11 rfl) (F19.ev 15 rfl)) rfl fun _ F20 => ?_)
   refine s_end (x_normal (x_cond (p := text.size % 2 ≠ 0) (F20.ev 16 rfl) (fun h21 => ?_) (fun h21 => ?_)))
   · skip
     refine wp_seq (wp_region_lit (l_op (f_val F20 rfl rfl (r_assign rfl rfl) rfl fun _ F22 => ?_)))
     refine l_op (f_val F22 rfl rfl (r_assign rfl rfl) rfl fun _ F23 => ?_)
     refine s_end (x_normal (wp_ret (x_then_ret ?_)))
     refine x_done (v := .tuple #[.string bE_, .bool false]) F23 (results_2 Tryz.results135 (.tmp (F23.ev 2 rfl)) (.tmp (F23.ev 3 rfl))) ?_
     exact ⟨(by rw [(show bE_ = (unhexT text) from by first | exact uh_t (unhex_big ‹_›) | exact uh_b (unhex_big ‹_›) | exact uh_t (unhex_odd ‹_›) | exact uh_b (unhex_odd ‹_›) | exact uh_t (unhex_fig (k := 2 * k) (by omega) ‹_›) | exact uh_b (unhex_fig (k := 2 * k) (by omega) ‹_›) | exact uh_t (unhex_fig (k := 2 * k + 1) (by omega) ‹_›) | exact uh_b (unhex_fig (k := 2 * k + 1) (by omega) ‹_›) | exact (uh_d (k := k) hk_1 ‹_› (by omega) (by omega)).1 | exact (uh_d (k := k) hk_1 ‹_› (by omega) (by omega)).2), (show false = (unhexB text) from by first | exact uh_t (unhex_big ‹_›) | exact uh_b (unhex_big ‹_›) | exact uh_t (unhex_odd ‹_›) | exact uh_b (unhex_odd ‹_›) | exact uh_t (unhex_fig (k := 2 * k) (by omega) ‹_›) | exact uh_b (unhex_fig (k := 2 * k) (by omega) ‹_›) | exact uh_t (unhex_fig (k := 2 * k + 1) (by omega) ‹_›) | exact uh_b (unhex_fig (k := 2 * k + 1) (by omega) ‹_›) | exact (uh_d (k := k) hk_1 ‹_› (by omega) (by omega)).1 | exact (uh_d (k := k) hk_1 ‹_› (by omega) (by omega)).2)]), (Mv.pick (Mv.refl (At.nil w)) [] rfl), ((show bE_ = (unhexT text) from by first | exact uh_t (unhex_big ‹_›) | exact uh_b (unhex_big ‹_›) | exact uh_t (unhex_odd ‹_›) | exact uh_b (unhex_odd ‹_›) | exact uh_t (unhex_fig (k := 2 * k) (by omega) ‹_›) | exact uh_b (unhex_fig (k := 2 * k) (by omega) ‹_›) | exact uh_t (unhex_fig (k := 2 * k + 1) (by omega) ‹_›) | exact uh_b (unhex_fig (k := 2 * k + 1) (by omega) ‹_›) | exact (uh_d (k := k) hk_1 ‹_› (by omega) (by omega)).1 | exact (uh_d (k := k) hk_1 ‹_› (by omega) (by omega)).2) ▸ (by unfold okS; decide))⟩
   · skip
     refine wp_skip (x_normal (wp_seq (wp_region_lit (l_op (f_buildSl (ok := okB) (vs := []) F20 (At.nil w) (([] : List Nat)) ET_62 rfl rfl rfl rfl rfl rfl rfl rfl rfl (by simp) fun b24 _ w24 F25 S24 => ?_)))))
     refine l_op (f_as F25 rfl rfl rfl rfl rfl fun _ F26 => ?_)
     refine s_end (x_normal (wp_seq (wp_seq (wp_region_lit (l_op (f_val F26 rfl rfl (r_assign rfl rfl) rfl fun _ F27 => ?_))))))
     refine s_end (x_normal (wp_block ?_))
     refine x_loop (fun (k : Nat) aZ wZ => ∃ (D : List Nat), ∃ (oa : Option Addr), ∃ (on : Nat), ∃ (oc : Nat), Fr 49 [(5, .int .i64 ((2 * k : Nat) : Int)), (4, .slice oa on oc), (0, .string text)] aZ ∧ Mv [ow 5 1 encB okB (.slice (some ⟨b24, 0, none⟩) 0 0) ([] : List Nat)] w24 [ow 5 1 encB okB (.slice oa on oc) D] wZ ∧ (2 * k ≤ text.size) ∧ (unInv text k D)) (fun (k : Nat) => text.size - 2 * k) (0) ?_ ?_
     · exact ⟨([] : List Nat), (some ⟨b24, 0, none⟩), 0, 0, F27.cut rfl, (Mv.refl S24.at'), by omega, unInv.start _⟩
     · rintro k a28 w28 ⟨D, oa, on, oc, F28, S28, hk_0, hk_1⟩
       have hDl := hk_1.1
       have hb1 := byteAt_lt text (2 * k)
       have hb2 := byteAt_lt text (2 * k + 1)
       refine wp_seq (wp_seq (wp_region_lit (l_op (f_mv F28 rfl rfl rfl rfl rfl fun _ F29 => ?_))))
       refine l_op (f_mv F29 rfl rfl rfl rfl rfl fun _ F30 => ?_)
       refine l_op (f_val F30 rfl rfl (r_lenS (fun t ht => by cases ht; exact Tryz.underlying9) rfl rfl (F30.ev 19 rfl)) rfl fun _ F31 => ?_)
       refine l_op (f_val F31 rfl rfl (r_cmp (b := decide (2 * k < text.size)) (.inr (.inr (.inl rfl))) rfl (F31.ev 18 rfl) (F31.ev 20 rfl) (dec_of (by omega))) rfl fun _ F32 => ?_)
       refine s_end (x_normal (x_cond (p := 2 * k < text.size) (F32.ev 21 rfl) (fun h33 => ?_) (fun h33 => ?_)))
       · skip
         refine wp_skip (x_normal (wp_seq (wp_block (wp_seq (wp_region_lit (l_op (f_mv F32 rfl rfl rfl rfl rfl fun _ F34 => ?_)))))))
         refine l_op (f_mv F34 rfl rfl rfl rfl rfl fun _ F35 => ?_)
         refine l_op (f_val F35 rfl rfl (r_indexS (i := 2 * k) Tryz.underlying9 rfl (F35.ev 24 rfl) (F35.ev 25 rfl) (by omega) (by first | assumption | omega)) rfl fun _ F36 => ?_)
         refine l_op (f_call F36 CF_168 rfl rfl rfl rfl (lc (F36.ev 26 rfl) rfl) (spec_l01Value_c (H := fun _ => True) (x := byteAt text (2 * k)) (by omega)) ?_)
         rintro _ w37 ⟨rfl, m37, q37_0, q37_1⟩
         refine ⟨_, rfl, fun _ F38 => ?_⟩
         have S37 := At.frame0 S28.at' m37
         clear m37
         refine l_op (f_as F38 rfl rfl rfl rfl rfl fun _ F39 => ?_)
         refine s_end (x_normal (wp_seq (wp_region_lit (l_op (f_mv F39 rfl rfl rfl rfl rfl fun _ F40 => ?_)))))
         refine l_op (f_mv F40 rfl rfl rfl rfl rfl fun _ F41 => ?_)
         refine l_op (f_val F41 rfl rfl (r_add (z := (((2 * k) + 1 : Nat) : Int)) rfl (F41.ev 29 rfl) rfl (by first | rfl | omega) ⟨by first | omega | (unfold i64ok at *; omega), by first | omega | (unfold i64ok at *; omega)⟩) rfl fun _ F42 => ?_)
         refine l_op (f_val F42 rfl rfl (r_indexS (i := (2 * k) + 1) Tryz.underlying9 rfl (F42.ev 28 rfl) (F42.ev 30 rfl) (by omega) (by first | assumption | omega)) rfl fun _ F43 => ?_)
         refine l_op (f_call F43 CF_168 rfl rfl rfl rfl (lc (F43.ev 31 rfl) rfl) (spec_l01Value_c (H := fun _ => True) (x := byteAt text ((2 * k) + 1)) (by omega)) ?_)
         rintro _ w44 ⟨rfl, m44, q44_0, q44_1⟩
         refine ⟨_, rfl, fun _ F45 => ?_⟩
         have S44 := At.frame0 S37.at' m44
         clear m44
         refine l_op (f_as F45 rfl rfl rfl rfl rfl fun _ F46 => ?_)
         have T47 : Mv _ _ [ow 5 1 encB okB (.slice oa on oc) D] _ := S44
         refine s_end (x_normal (wp_seq (wp_seq (wp_region_lit (l_op (f_mv F46 rfl rfl rfl rfl rfl fun _ F48 => ?_))))))
         refine l_op (f_val F48 rfl rfl (r_cmp (b := decide ((vlow (byteAt text (2 * k))) < 0)) (.inr (.inr (.inl rfl))) rfl (F48.ev 33 rfl) rfl (dec_of (by omega))) rfl fun _ F49 => ?_)
         refine l_op (f_mv F49 rfl rfl rfl rfl rfl fun _ F50 => ?_)
         rcases Decidable.em ((vlow (byteAt text (2 * k))) < 0) with h51 | h51
         · rw [decide_eq_true h51] at F50
           refine l_op (f_skip F50 (wanted_g F50 rfl rfl rfl rfl) rfl rfl fun _ F52 => ?_)
           refine l_op (f_skip F52 (wanted_g F52 rfl rfl rfl rfl) rfl rfl fun _ F53 => ?_)
           refine l_op (f_val F53 rfl rfl (r_pick (b := true) rfl (F53.ev 35 rfl) rfl) rfl fun _ F54 => ?_)
           refine s_end (x_normal (wp_cond_true (F54.ev 38 rfl) (wp_seq (wp_region_lit (l_op (f_val F54 rfl rfl (r_assign rfl rfl) rfl fun _ F55 => ?_))))))
           refine l_op (f_val F55 rfl rfl (r_assign rfl rfl) rfl fun _ F56 => ?_)
           refine s_end (x_normal (wp_ret (x_then_ret (x_block_ret (x_then_ret (x_then_ret (x_block_ret (x_then_ret ?_))))))))
           refine x_done (v := .tuple #[.string bE_, .bool false]) F56 (results_2 Tryz.results135 (.tmp (F56.ev 2 rfl)) (.tmp (F56.ev 3 rfl))) ?_
           exact ⟨(by rw [(show bE_ = (unhexT text) from by first | exact uh_t (unhex_big ‹_›) | exact uh_b (unhex_big ‹_›) | exact uh_t (unhex_odd ‹_›) | exact uh_b (unhex_odd ‹_›) | exact uh_t (unhex_fig (k := 2 * k) (by omega) ‹_›) | exact uh_b (unhex_fig (k := 2 * k) (by omega) ‹_›) | exact uh_t (unhex_fig (k := 2 * k + 1) (by omega) ‹_›) | exact uh_b (unhex_fig (k := 2 * k + 1) (by omega) ‹_›) | exact (uh_d (k := k) hk_1 ‹_› (by omega) (by omega)).1 | exact (uh_d (k := k) hk_1 ‹_› (by omega) (by omega)).2), (show false = (unhexB text) from by first | exact uh_t (unhex_big ‹_›) | exact uh_b (unhex_big ‹_›) | exact uh_t (unhex_odd ‹_›) | exact uh_b (unhex_odd ‹_›) | exact uh_t (unhex_fig (k := 2 * k) (by omega) ‹_›) | exact uh_b (unhex_fig (k := 2 * k) (by omega) ‹_›) | exact uh_t (unhex_fig (k := 2 * k + 1) (by omega) ‹_›) | exact uh_b (unhex_fig (k := 2 * k + 1) (by omega) ‹_›) | exact (uh_d (k := k) hk_1 ‹_› (by omega) (by omega)).1 | exact (uh_d (k := k) hk_1 ‹_› (by omega) (by omega)).2)]), (Mv.pick (S24.trans (S28.trans (S37.trans T47))) [] rfl), ((show bE_ = (unhexT text) from by first | exact uh_t (unhex_big ‹_›) | exact uh_b (unhex_big ‹_›) | exact uh_t (unhex_odd ‹_›) | exact uh_b (unhex_odd ‹_›) | exact uh_t (unhex_fig (k := 2 * k) (by omega) ‹_›) | exact uh_b (unhex_fig (k := 2 * k) (by omega) ‹_›) | exact uh_t (unhex_fig (k := 2 * k + 1) (by omega) ‹_›) | exact uh_b (unhex_fig (k := 2 * k + 1) (by omega) ‹_›) | exact (uh_d (k := k) hk_1 ‹_› (by omega) (by omega)).1 | exact (uh_d (k := k) hk_1 ‹_› (by omega) (by omega)).2) ▸ (by unfold okS; decide))⟩
         · rw [decide_eq_false h51] at F50
           refine l_op (f_mv F50 (wanted_g F50 rfl rfl rfl rfl) rfl rfl rfl rfl fun _ F57 => ?_)
           refine l_op (f_val F57 (wanted_g F57 rfl rfl rfl rfl) rfl (r_cmp (b := decide ((vlow (byteAt text ((2 * k) + 1))) < 0)) (.inr (.inr (.inl rfl))) rfl (F57.ev 36 rfl) rfl (dec_of (by omega))) rfl fun _ F58 => ?_)
           refine l_op (f_val F58 rfl rfl (r_pick (b := false) rfl (F58.ev 35 rfl) (F58.ev 37 rfl)) rfl fun _ F59 => ?_)
           refine s_end (x_normal (x_cond (p := (vlow (byteAt text ((2 * k) + 1))) < 0) (F59.ev 38 rfl) (fun h60 => ?_) (fun h60 => ?_)))
           · skip
             refine wp_seq (wp_region_lit (l_op (f_val F59 rfl rfl (r_assign rfl rfl) rfl fun _ F61 => ?_)))
             refine l_op (f_val F61 rfl rfl (r_assign rfl rfl) rfl fun _ F62 => ?_)
             refine s_end (x_normal (wp_ret (x_then_ret (x_block_ret (x_then_ret (x_then_ret (x_block_ret (x_then_ret ?_))))))))
             refine x_done (v := .tuple #[.string bE_, .bool false]) F62 (results_2 Tryz.results135 (.tmp (F62.ev 2 rfl)) (.tmp (F62.ev 3 rfl))) ?_
             exact ⟨(by rw [(show bE_ = (unhexT text) from by first | exact uh_t (unhex_big ‹_›) | exact uh_b (unhex_big ‹_›) | exact uh_t (unhex_odd ‹_›) | exact uh_b (unhex_odd ‹_›) | exact uh_t (unhex_fig (k := 2 * k) (by omega) ‹_›) | exact uh_b (unhex_fig (k := 2 * k) (by omega) ‹_›) | exact uh_t (unhex_fig (k := 2 * k + 1) (by omega) ‹_›) | exact uh_b (unhex_fig (k := 2 * k + 1) (by omega) ‹_›) | exact (uh_d (k := k) hk_1 ‹_› (by omega) (by omega)).1 | exact (uh_d (k := k) hk_1 ‹_› (by omega) (by omega)).2), (show false = (unhexB text) from by first | exact uh_t (unhex_big ‹_›) | exact uh_b (unhex_big ‹_›) | exact uh_t (unhex_odd ‹_›) | exact uh_b (unhex_odd ‹_›) | exact uh_t (unhex_fig (k := 2 * k) (by omega) ‹_›) | exact uh_b (unhex_fig (k := 2 * k) (by omega) ‹_›) | exact uh_t (unhex_fig (k := 2 * k + 1) (by omega) ‹_›) | exact uh_b (unhex_fig (k := 2 * k + 1) (by omega) ‹_›) | exact (uh_d (k := k) hk_1 ‹_› (by omega) (by omega)).1 | exact (uh_d (k := k) hk_1 ‹_› (by omega) (by omega)).2)]), (Mv.pick (S24.trans (S28.trans (S37.trans T47))) [] rfl), ((show bE_ = (unhexT text) from by first | exact uh_t (unhex_big ‹_›) | exact uh_b (unhex_big ‹_›) | exact uh_t (unhex_odd ‹_›) | exact uh_b (unhex_odd ‹_›) | exact uh_t (unhex_fig (k := 2 * k) (by omega) ‹_›) | exact uh_b (unhex_fig (k := 2 * k) (by omega) ‹_›) | exact uh_t (unhex_fig (k := 2 * k + 1) (by omega) ‹_›) | exact uh_b (unhex_fig (k := 2 * k + 1) (by omega) ‹_›) | exact (uh_d (k := k) hk_1 ‹_› (by omega) (by omega)).1 | exact (uh_d (k := k) hk_1 ‹_› (by omega) (by omega)).2) ▸ (by unfold okS; decide))⟩
           · skip
             refine wp_skip (x_normal (wp_region_lit (l_op (f_mv F59 rfl rfl rfl rfl rfl fun _ F63 => ?_))))
             refine l_op (f_mv F63 rfl rfl rfl rfl rfl fun _ F64 => ?_)
             refine l_op (f_val F64 rfl rfl (r_mul (z := (16 * (vlow (byteAt text (2 * k))))) rfl rfl (F64.ev 40 rfl) (by first | rfl | omega) ⟨by first | omega | (unfold i64ok at *; omega), by first | omega | (unfold i64ok at *; omega)⟩) rfl fun _ F65 => ?_)
             refine l_op (f_mv F65 rfl rfl rfl rfl rfl fun _ F66 => ?_)
             refine l_op (f_val F66 rfl rfl (r_add (z := ((16 * (vlow (byteAt text (2 * k)))) + (vlow (byteAt text ((2 * k) + 1))))) rfl (F66.ev 41 rfl) (F66.ev 42 rfl) (by first | rfl | omega) ⟨by first | omega | (unfold i64ok at *; omega), by first | omega | (unfold i64ok at *; omega)⟩) rfl fun _ F67 => ?_)
             refine l_op (f_val F67 rfl rfl (r_conv8 Tryz.underlying5 Tryz.underlying3 rfl ((F67.ev 43 rfl).trans (congrArg _ (show (16 * (vlow (byteAt text (2 * k)))) + (vlow (byteAt text ((2 * k) + 1))) = ((((16 * (vlow (byteAt text (2 * k)))) + (vlow (byteAt text ((2 * k) + 1)))).toNat : Nat) : Int) by omega))) (by omega)) rfl fun _ F68 => ?_)
             refine l_op (f_buildSl (ok := okB) (vs := [.int .u8 ((((16 * (vlow (byteAt text (2 * k)))) + (vlow (byteAt text ((2 * k) + 1)))).toNat : Nat) : Int)]) F68 T47.at' ([((16 * (vlow (byteAt text (2 * k)))) + (vlow (byteAt text ((2 * k) + 1)))).toNat]) ET_62 rfl rfl rfl rfl rfl rfl (lc (pr2 (F68.ev 44 rfl)) rfl) rfl rfl (fun x hx => (List.mem_singleton.1 hx) ▸ (show ((16 * (vlow (byteAt text (2 * k)))) + (vlow (byteAt text ((2 * k) + 1)))).toNat < 256 by omega)) fun b69 _ w69 F70 S69 => ?_)
             refine l_op (f_app (news := [((16 * (vlow (byteAt text (2 * k)))) + (vlow (byteAt text ((2 * k) + 1)))).toNat]) F70 S69.at' 1 ET_62 rfl rfl rfl rfl rfl rfl (F70.ev 39 rfl) (F70.ev 45 rfl) ((At.rd S69.at' ET_62.hk 0 rfl)).1 (by ((repeat (first | rw [List.length_append] | rw [List.length_cons] | rw [List.length_nil] | rw [List.length_take] | rw [List.length_drop])) <;> omega)) fun A71 N71 C71 _ w71 F72 S71 l71 => ?_)
             have S73 := At.drop S71.at' 1
             refine l_op (f_as F72 rfl rfl rfl rfl rfl fun _ F74 => ?_)
             refine s_end (x_block_normal (x_normal (wp_region_lit (l_op (f_mv F74 rfl rfl rfl rfl rfl fun _ F75 => ?_)))))
             refine l_op (f_val F75 rfl rfl (r_add (z := (((2 * k) + 2 : Nat) : Int)) rfl (F75.ev 22 rfl) rfl (by first | rfl | omega) ⟨by first | omega | (unfold i64ok at *; omega), by first | omega | (unfold i64ok at *; omega)⟩) rfl fun _ F76 => ?_)
             refine l_op (f_as F76 rfl rfl rfl rfl rfl fun _ F77 => ?_)
             refine s_end ?_
             refine x_normal ⟨k + 1, by omega, D ++ ([((16 * (vlow (byteAt text (2 * k)))) + (vlow (byteAt text ((2 * k) + 1)))).toNat]), A71, N71, C71, F77.cut rfl, ((S28.trans (S37.trans (T47.trans (S69.trans (S71.trans S73))))).pick [0] rfl), by omega, by exact unInv.step2 hk_1 (by omega) ‹_› ‹_›⟩
       · skip
         refine wp_exit (x_then_exit (x_then_exit (x_block_here (x_normal (wp_seq (wp_region_lit (l_op (f_mv F32 rfl rfl rfl rfl rfl fun _ F78 => ?_))))))))
         refine l_op (f_val F78 rfl rfl (r_bstr Tryz.underlying62 Tryz.underlying5 Tryz.underlying9 ((At.rd S28.at' ET_62.hk 0 rfl)).1 rfl (F78.ev 47 rfl)) rfl fun _ F79 => ?_)
         refine l_op (f_as F79 rfl rfl rfl rfl rfl fun _ F80 => ?_)
         refine l_op (f_val F80 rfl rfl (r_assign rfl rfl) rfl fun _ F81 => ?_)
         refine s_end (x_normal (wp_ret ?_))
         refine x_done (v := .tuple #[.string (bstr D), .bool true]) F81 (results_2 Tryz.results135 (.tmp (F81.ev 2 rfl)) (.tmp (F81.ev 3 rfl))) ?_
         exact ⟨(by rw [(show (bstr D) = (unhexT text) from by first | exact uh_t (unhex_big ‹_›) | exact uh_b (unhex_big ‹_›) | exact uh_t (unhex_odd ‹_›) | exact uh_b (unhex_odd ‹_›) | exact uh_t (unhex_fig (k := 2 * k) (by omega) ‹_›) | exact uh_b (unhex_fig (k := 2 * k) (by omega) ‹_›) | exact uh_t (unhex_fig (k := 2 * k + 1) (by omega) ‹_›) | exact uh_b (unhex_fig (k := 2 * k + 1) (by omega) ‹_›) | exact (uh_d (k := k) hk_1 ‹_› (by omega) (by omega)).1 | exact (uh_d (k := k) hk_1 ‹_› (by omega) (by omega)).2), (show true = (unhexB text) from by first | exact uh_t (unhex_big ‹_›) | exact uh_b (unhex_big ‹_›) | exact uh_t (unhex_odd ‹_›) | exact uh_b (unhex_odd ‹_›) | exact uh_t (unhex_fig (k := 2 * k) (by omega) ‹_›) | exact uh_b (unhex_fig (k := 2 * k) (by omega) ‹_›) | exact uh_t (unhex_fig (k := 2 * k + 1) (by omega) ‹_›) | exact uh_b (unhex_fig (k := 2 * k + 1) (by omega) ‹_›) | exact (uh_d (k := k) hk_1 ‹_› (by omega) (by omega)).1 | exact (uh_d (k := k) hk_1 ‹_› (by omega) (by omega)).2)]), (Mv.pick (S24.trans S28) [] rfl), ((show (bstr D) = (unhexT text) from by first | exact uh_t (unhex_big ‹_›) | exact uh_b (unhex_big ‹_›) | exact uh_t (unhex_odd ‹_›) | exact uh_b (unhex_odd ‹_›) | exact uh_t (unhex_fig (k := 2 * k) (by omega) ‹_›) | exact uh_b (unhex_fig (k := 2 * k) (by omega) ‹_›) | exact uh_t (unhex_fig (k := 2 * k + 1) (by omega) ‹_›) | exact uh_b (unhex_fig (k := 2 * k + 1) (by omega) ‹_›) | exact (uh_d (k := k) hk_1 ‹_› (by omega) (by omega)).1 | exact (uh_d (k := k) hk_1 ‹_› (by omega) (by omega)).2) ▸ (okS_bstr (by omega)))⟩
end Go.Proofs.YtipdbeklopjbmaaGreatDoor
