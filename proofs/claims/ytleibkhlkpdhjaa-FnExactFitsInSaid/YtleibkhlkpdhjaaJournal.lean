/-
  Contracts: journals (szJournal, toJournal, eqJournal, JournalOk, FitsIn), for every journal.
-/
import Derived.Test.YtleibkhlkpdhjaaBase
namespace Go.Proofs.Ytleibkhlkpdhjaa
open Go.ChangeShapes Go.WideShapes Go.ChangeAt Go.RowKit

/-- What a size function leaves of 'left': -1 if it is not enough. -/
def subOr (left : Int) (n : Nat) : Int := if (n : Int) ≤ left then left - n else -1
theorem subOr_bd (left : Int) (n : Nat) (h : 0 ≤ left) : -1 ≤ subOr left n ∧ subOr left n ≤ left := by unfold subOr; split <;> omega
theorem subOr_add (left : Int) (a b : Nat) : 0 ≤ subOr left a → subOr (subOr left a) b = subOr left (a + b) := by unfold subOr; split <;> split <;> split <;> omega
theorem subOr_neg (left : Int) (a b : Nat) : subOr left a < 0 → subOr left (a + b) = -1 := by unfold subOr; split <;> split <;> omega
theorem subOr_ge {left : Int} {a : Nat} : 0 ≤ subOr left a → subOr left a = left - a ∧ (a : Int) ≤ left := by unfold subOr; split <;> omega

def within (n lo hi : Int) : Bool := decide (lo ≤ n) && decide (n ≤ hi)
def jok (s : ByteArray) (y : Int) : Bool := decide ((s.size : Int) ≤ 20000) && within y 0 s.size
def fits (s : ByteArray) (y n : Int) : Bool := jok s y && decide (0 ≤ n) && decide (n ≤ 20000 - s.size)

set_option maxHeartbeats 1000000
theorem szJournal_c (s : ByteArray) (y n : Int) (w : World) (hs : s.size ≤ 9223372036854775807) (h0 : 0 ≤ n) (h1 : n ≤ 1048576) :
    Calls Try.prog 6 #[.agg #[.string s, .int .i64 y], .int .i64 n] w fun e w' => e = .returned (.int .i64 (subOr n s.size)) ∧ Bl w w' := by
  go_enter Try.func6, Try.ntmps6
  go_wp2
  all_goals go_ret
  all_goals refine ⟨ret_int ?_, (Bl.refl _).alloc _⟩
  all_goals unfold subOr; split <;> omega

theorem toJournal_c (s : ByteArray) (y : Int) (w : World) :
    Calls Try.prog 8 #[.agg #[.string s, .int .i64 y]] w fun e w' => e = .returned (.agg #[.string s, .int .i64 y]) ∧ Bl w w' := by
  go_enter Try.func8, Try.ntmps8
  go_wp2
  exact bodyPost_ret (v := .agg #[.string s, .int .i64 y]) (by simp [results, Try.results8, go_sem]) rfl ⟨rfl, by repeat (first | exact Bl.refl _ | refine Bl.alloc ?_ _)⟩

theorem within_c (n a b : Int) (w : World) : Calls Try.prog 30 #[.int .i64 n, .int .i64 a, .int .i64 b] w fun e w' => e = .returned (.bool (within n a b)) ∧ w = w' := by
  go_enter Try.func30, Try.ntmps30
  go_wp2
  all_goals go_ret
  all_goals refine ⟨ret_bool ?_, rfl⟩
  all_goals unfold within
  all_goals simp
  all_goals omega
theorem l01In_c (n a b : Int) (w : World) : Calls Try.prog 29 #[.int .i64 n, .int .i64 a, .int .i64 b] w fun e w' => e = .returned (.bool (within n a b)) ∧ w = w' := by
  go_enter Try.func29, Try.ntmps29
  go_wp2
  all_goals go_ret
  all_goals refine ⟨ret_bool ?_, rfl⟩
  all_goals unfold within
  all_goals simp
  all_goals omega
theorem iJournalOk_c (s : ByteArray) (y : Int) (w : World) (hs : s.size ≤ 9223372036854775807) : Calls Try.prog 20 #[.agg #[.string s, .int .i64 y]] w fun e w' => e = .returned (.bool (jok s y)) ∧ Bl w w' := by
  go_enter Try.func20, Try.ntmps20
  go_wp2_with (go_at_call 30; refine (within_c _ _ _ _).mono ?_; rintro e w' ⟨rfl, rfl⟩)
  all_goals go_ret
  all_goals refine ⟨ret_bool ?_, (Bl.refl _).alloc _⟩
  all_goals unfold jok
  all_goals simp; omega
theorem sJournalOk_c (s : ByteArray) (y : Int) (w : World) (hs : s.size ≤ 9223372036854775807) : Calls Try.prog 19 #[.agg #[.string s, .int .i64 y]] w fun e w' => e = .returned (.bool (jok s y)) ∧ Bl w w' := by
  go_enter Try.func19, Try.ntmps19
  go_wp2_with (go_at_call 29; refine (l01In_c _ _ _ _).mono ?_; rintro e w' ⟨rfl, rfl⟩)
  all_goals go_ret
  all_goals refine ⟨ret_bool ?_, (Bl.refl _).alloc _⟩
  all_goals unfold jok
  all_goals simp; omega

theorem jok_size {s : ByteArray} {y : Int} (h : jok s y = true) : (s.size : Int) ≤ 20000 := by
  unfold jok at h
  simp at h
  omega

theorem iFitsIn_c (s : ByteArray) (y n : Int) (w : World) (hs : s.size ≤ 9223372036854775807) : Calls Try.prog 9 #[.agg #[.string s, .int .i64 y], .int .i64 n] w fun e w' => e = .returned (.bool (fits s y n)) ∧ Bl w w' := by
  by_cases hj : jok s y = true
  · have hsz := jok_size hj
    by_cases hn : 0 ≤ n
    · go_enter Try.func9, Try.ntmps9
      go_wp2_with (go_at_call 20; refine (iJournalOk_c _ _ _ hs).mono ?_; rintro e w1 ⟨rfl, hb⟩; obtain ⟨hc, hf⟩ := bcell hb)
      all_goals go_ret
      all_goals refine ⟨ret_bool ?_, ((Bl.refl _).alloc _).trans hb⟩
      all_goals unfold fits
      all_goals first | (simp [hj, hn]; done) | (simp [hj]; omega)
    · have hn' : decide (0 ≤ n) = false := by simpa using hn
      go_enter Try.func9, Try.ntmps9
      go_wp2_with (go_at_call 20; refine (iJournalOk_c _ _ _ hs).mono ?_; rintro e w1 ⟨rfl, hb⟩; obtain ⟨hc, hf⟩ := bcell hb)
      all_goals go_ret
      all_goals refine ⟨ret_bool ?_, ((Bl.refl _).alloc _).trans hb⟩
      all_goals unfold fits
      all_goals first | (simp [hj, hn]; done) | (simp [hj]; omega)
  · have hj' : jok s y = false := by simpa using hj
    go_enter Try.func9, Try.ntmps9
    go_wp2_with (go_at_call 20; refine (iJournalOk_c _ _ _ hs).mono ?_; rintro e w1 ⟨rfl, hb⟩; obtain ⟨hc, hf⟩ := bcell hb)
    all_goals go_ret
    all_goals refine ⟨ret_bool ?_, ((Bl.refl _).alloc _).trans hb⟩
    all_goals unfold fits
    all_goals simp [hj']
theorem sFitsIn_c (s : ByteArray) (y n : Int) (w : World) (hs : s.size ≤ 9223372036854775807) : Calls Try.prog 7 #[.agg #[.string s, .int .i64 y], .int .i64 n] w fun e w' => e = .returned (.bool (fits s y n)) ∧ Bl w w' := by
  by_cases hj : jok s y = true
  · have hsz := jok_size hj
    by_cases hn : 0 ≤ n
    · go_enter Try.func7, Try.ntmps7
      go_wp2_with (go_at_call 19; refine (sJournalOk_c _ _ _ hs).mono ?_; rintro e w1 ⟨rfl, hb⟩; obtain ⟨hc, hf⟩ := bcell hb)
      all_goals go_ret
      all_goals refine ⟨ret_bool ?_, ((Bl.refl _).alloc _).trans hb⟩
      all_goals unfold fits
      all_goals first | (simp [hj, hn]; done) | (simp [hj]; omega)
    · have hn' : decide (0 ≤ n) = false := by simpa using hn
      go_enter Try.func7, Try.ntmps7
      go_wp2_with (go_at_call 19; refine (sJournalOk_c _ _ _ hs).mono ?_; rintro e w1 ⟨rfl, hb⟩; obtain ⟨hc, hf⟩ := bcell hb)
      all_goals go_ret
      all_goals refine ⟨ret_bool ?_, ((Bl.refl _).alloc _).trans hb⟩
      all_goals unfold fits
      all_goals first | (simp [hj, hn]; done) | (simp [hj]; omega)
  · have hj' : jok s y = false := by simpa using hj
    go_enter Try.func7, Try.ntmps7
    go_wp2_with (go_at_call 19; refine (sJournalOk_c _ _ _ hs).mono ?_; rintro e w1 ⟨rfl, hb⟩; obtain ⟨hc, hf⟩ := bcell hb)
    all_goals go_ret
    all_goals refine ⟨ret_bool ?_, ((Bl.refl _).alloc _).trans hb⟩
    all_goals unfold fits
    all_goals simp [hj']
end Go.Proofs.Ytleibkhlkpdhjaa
