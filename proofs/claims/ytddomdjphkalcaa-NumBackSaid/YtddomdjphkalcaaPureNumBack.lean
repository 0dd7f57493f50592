/- What is read off the wire may be a value of its type, and what may be is written, and read, as it was. No condition but that both are numbers of their kinds. -/
import Derived.Test.YtddomdjphkalcaaPx0
import Derived.Test.YtddomdjphkalcaaPx10
import Derived.Test.YtddomdjphkalcaaNum
namespace Go.Proofs.Ytddomdjphkalcaa.Pure
open Go.RowKit Go.Proofs.Ytddomdjphkalcaa.Px Go.Proofs.YtddomdjphkalcaaW.PrintWords Go.Proofs.YtddomdjphkalcaaW.PrintLast
set_option linter.unusedSimpArgs false
set_option linter.unusedVariables false

theorem from_range (t : Int) {n : Int} (hn : 0 ≤ n ∧ n ≤ 18446744073709551615) : 0 ≤ fromN t n ∧ fromN t n ≤ 18446744073709551615 := by
  unfold fromN
  repeat' split
  all_goals omega
theorem to_range (t : Int) {n : Int} (hn : 0 ≤ n ∧ n ≤ 18446744073709551615) : 0 ≤ toN t n ∧ toN t n ≤ 18446744073709551615 := by
  have := wrap64_range n
  unfold toN zigN
  repeat' split
  all_goals omega
theorem may_from {t n : Int} (ht : 1 ≤ t ∧ t ≤ 15) (hn : 0 ≤ n ∧ n ≤ 18446744073709551615) : mayB t (fromN t n) = true := by
  rcases ty_cases t with c | rfl | rfl | rfl | rfl | rfl | rfl | rfl | rfl | rfl | rfl | rfl | rfl | rfl | rfl | rfl
  · omega
  case inr.inr.inr.inr.inr.inr.inr.inl =>
    simp [mayB, fromN, isWide, isSigned, isWhole]
    split <;> omega
  all_goals
    simp [mayB, fromN, isWide, isSigned, isWhole, isNumber, fits32, wrap64, wrap32, zagN]
  all_goals first | omega | (split <;> omega)
theorem from_to {t n : Int} (ht : 1 ≤ t ∧ t ≤ 15) (hn : 0 ≤ n ∧ n ≤ 18446744073709551615) (hm : mayB t n = true) : fromN t (toN t n) = n := by
  rcases ty_cases t with c | rfl | rfl | rfl | rfl | rfl | rfl | rfl | rfl | rfl | rfl | rfl | rfl | rfl | rfl | rfl
  · omega
  all_goals
    simp [mayB, isWide, isSigned, isWhole, fits32, wrap64] at hm
    simp [fromN, toN, isNumber, wrap64, wrap32, zagN, zigN]
  all_goals first | omega | (repeat' split) <;> omega
theorem NumBack : ecdysislaw12_NumBack.Pure := by
  intro t n _ hn
  have hn := u64_bounds hn
  refine ⟨6, ?_⟩
  unfold ecdysislaw12_NumBack.f
  simp only [ecdysislaw12_NumBack.j0, num_From_eq 2 t hn, num_To_eq 2 t hn, num_From_eq 2 t (to_range t hn), ref_May_eq 3, live12_eq 2, Option.bind_some, if_true]
  by_cases c : t < 1 ∨ 15 < t
  · have a : ∀ i : Int, 1 ≤ i → i ≤ 15 → t ≠ i := by omega
    have e1 : isNumber t = false := by unfold isNumber; rw [decide_eq_false]; omega
    have f0 : fromN t n = 0 := by simp [fromN, a, e1]
    have t0 : toN t n = 0 := by simp [toN, a, e1]
    rw [f0, t0]
    by_cases c1 : t < 1
    · simp [c1]
    · rw [decide_eq_true (show t > 15 by omega)]; simp
  · rw [if_neg (by omega), decide_eq_false (show ¬ t > 15 by omega), may_from (by omega) hn]
    by_cases hm : mayB t n = true
    · rw [from_to (by omega) hn hm]; simp [hm]
    · simp [hm]

end Go.Proofs.Ytddomdjphkalcaa.Pure
