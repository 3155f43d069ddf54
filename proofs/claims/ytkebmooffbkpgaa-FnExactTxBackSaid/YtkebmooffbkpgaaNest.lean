/-
  The data of structs that hold slices.
-/
import Derived.Test.YtkebmooffbkpgaaEng10
import Derived.Test.YtkebmooffbkpgaaTouch2
import Derived.Test.YtkebmooffbkpgaaCells
namespace Go.Proofs.Ytkebmooffbkpgaa
open Go.ChangeShapes Go.WideShapes Go.ChangeAt Go.RowKit
def encI (n : Int) : List Value := [.int .i64 n]
def okI (n : Int) : Prop := i64ok n
structure CallD where
  kind : Int
  name : ByteArray
  to_ : ByteArray
  a : Int
  b : Int
  text : ByteArray
def encK (c : CallD) : List Value := [.int .i64 c.kind, .string c.name, .string c.to_, .int .i64 c.a, .int .i64 c.b, .string c.text]
def okK (c : CallD) : Prop := i64ok c.kind ∧ okS c.name ∧ okS c.to_ ∧ i64ok c.a ∧ i64ok c.b ∧ okS c.text
structure AnsD where
  code : Int
  n : Int
  text : ByteArray
def encR (c : AnsD) : List Value := [.int .i64 c.code, .int .i64 c.n, .string c.text]
def okR (c : AnsD) : Prop := i64ok c.code ∧ i64ok c.n ∧ okS c.text
structure StepD where
  proc : Int
  call : CallD
def encStep (c : StepD) : List Value := [.int .i64 c.proc, .int .i64 c.call.kind, .string c.call.name, .string c.call.to_, .int .i64 c.call.a, .int .i64 c.call.b, .string c.call.text]
def okStep (c : StepD) : Prop := i64ok c.proc ∧ i64ok c.call.kind ∧ okS c.call.name ∧ okS c.call.to_ ∧ i64ok c.call.a ∧ i64ok c.call.b ∧ okS c.call.text
structure SlotD where
  seq : Int
  cells : List CellD
  whole : Bool
/-- .. and where its slices lie. -/
structure SlotH where
  d : SlotD
  a0 : Option Addr
  n0 : Nat
  c0 : Nat
def encSlot (x : SlotH) : List Value := [.int .i64 x.d.seq, .slice x.a0 x.n0 x.c0, .bool x.d.whole]
def okSlot (x : SlotH) : Prop := i64ok x.d.seq
structure TxD where
  id : Int
  age : Int
  proc : Int
  began : Int
  calls : List CallD
  answers : List AnsD
  touch : TouchD
  marks : List Int
  state : Int
/-- .. and where its slices lie. -/
structure TxH where
  d : TxD
  a0 : Option Addr
  n0 : Nat
  c0 : Nat
  a1 : Option Addr
  n1 : Nat
  c1 : Nat
  a2 : Option Addr
  n2 : Nat
  c2 : Nat
  a3 : Option Addr
  n3 : Nat
  c3 : Nat
  a4 : Option Addr
  n4 : Nat
  c4 : Nat
def encTx (x : TxH) : List Value := [.int .i64 x.d.id, .int .i64 x.d.age, .int .i64 x.d.proc, .int .i64 x.d.began, .slice x.a0 x.n0 x.c0, .slice x.a1 x.n1 x.c1, .slice x.a2 x.n2 x.c2, .slice x.a3 x.n3 x.c3, .slice x.a4 x.n4 x.c4, .int .i64 x.d.state]
def okTx (x : TxH) : Prop := i64ok x.d.id ∧ i64ok x.d.age ∧ i64ok x.d.proc ∧ i64ok x.d.began ∧ i64ok x.d.state
def inTx (x : TxH) : List Inn := [inn 56 6 encK okK (fun _ => rfl) (by decide) (.slice x.a0 x.n0 x.c0) x.d.calls, inn 59 3 encR okR (fun _ => rfl) (by decide) (.slice x.a1 x.n1 x.c1) x.d.answers, inn 9 1 encS okS (fun _ => rfl) (by decide) (.slice x.a2 x.n2 x.c2) x.d.touch.reads, inn 9 1 encS okS (fun _ => rfl) (by decide) (.slice x.a3 x.n3 x.c3) x.d.touch.writes, inn 3 1 encI okI (fun _ => rfl) (by decide) (.slice x.a4 x.n4 x.c4) x.d.marks]
structure EntryD where
  seq : Int
  kind : Int
  tx : Int
  steps : List StepD
  answers : List AnsD
  began : Int
  ended : Int
  laid : Bool
/-- .. and where its slices lie. -/
structure EntryH where
  d : EntryD
  a0 : Option Addr
  n0 : Nat
  c0 : Nat
  a1 : Option Addr
  n1 : Nat
  c1 : Nat
def encEntry (x : EntryH) : List Value := [.int .i64 x.d.seq, .int .i64 x.d.kind, .int .i64 x.d.tx, .slice x.a0 x.n0 x.c0, .slice x.a1 x.n1 x.c1, .int .i64 x.d.began, .int .i64 x.d.ended, .bool x.d.laid]
def okEntry (x : EntryH) : Prop := i64ok x.d.seq ∧ i64ok x.d.kind ∧ i64ok x.d.tx ∧ i64ok x.d.began ∧ i64ok x.d.ended
theorem own0 {α : Type} {e k : Nat} {enc : α → List Value} {ok : α → Prop} : (∀ b, ¬ (ow e k enc ok (.slice none 0 0) ([] : List α)).fp b) ∧ ∀ w, (ow e k enc ok (.slice none 0 0) ([] : List α)).ok w := ⟨fun _ h => (by cases h), fun w => own_nil w _ _ _ _⟩
def zSlot : SlotH := ⟨⟨0, [], false⟩, none, 0, 0⟩
def zTx : TxH := ⟨⟨0, 0, 0, 0, [], [], ⟨[], []⟩, [], 0⟩, none, 0, 0, none, 0, 0, none, 0, 0, none, 0, 0, none, 0, 0⟩
theorem zTx_nil : ∀ B ∈ pcs inTx zTx, (∀ b, ¬ B.fp b) ∧ ∀ w, B.ok w := by
  intro B hB
  simp only [pcs, inTx, zTx, List.map_cons, List.map_nil, List.mem_cons, List.not_mem_nil, or_false] at hB
  rcases hB with rfl | rfl | rfl | rfl | rfl <;> exact own0
theorem zTx_all (n : Nat) : ∀ x ∈ List.replicate n zTx, ∀ B ∈ pcs inTx x, (∀ b, ¬ B.fp b) ∧ ∀ w, B.ok w := fun x hx => by
  rw [List.eq_of_mem_replicate hx]; exact zTx_nil
def zEntry : EntryH := ⟨⟨0, 0, 0, [], [], 0, 0, false⟩, none, 0, 0, none, 0, 0⟩
end Go.Proofs.Ytkebmooffbkpgaa
