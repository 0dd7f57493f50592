/- Every type's number is at most one of whole, bool, enum and what has bytes; wide types are whole, and 0 may always be. No condition. -/
import Derived.Test.YtddomdjphkalcaaPx0
import Derived.Test.YtddomdjphkalcaaPx22
import Derived.Test.YtddomdjphkalcaaPx28
import Derived.Test.YtddomdjphkalcaaScal
namespace Go.Proofs.Ytddomdjphkalcaa.Pure
open Go.RowKit Go.Proofs.Ytddomdjphkalcaa.Px Go.Proofs.YtddomdjphkalcaaW.PrintWords Go.Proofs.YtddomdjphkalcaaW.PrintLast
set_option linter.unusedSimpArgs false
set_option linter.unusedVariables false

theorem ScalarAll : ecdysislaw11_ScalarAll.Pure := by
  intro t _
  refine ⟨20, ?_⟩
  unfold ecdysislaw11_ScalarAll.f
  simp only [ecdysislaw11_ScalarAll.j0, scalar_Word.f, scalar_Wire_eq 17, scalar_Whole_eq, scalar_Number_eq, scalar_Signed_eq, scalar_Wide_eq, scalar_May_eq 18 t (n := 0) (by omega), live11_eq 2, Option.bind_some]
  rcases ty_cases t with h | rfl | rfl | rfl | rfl | rfl | rfl | rfl | rfl | rfl | rfl | rfl | rfl | rfl | rfl | rfl
  · have e : wordN t = ⟨#[]⟩ := by unfold wordN; repeat rw [if_neg (by omega)]
    have e1 : isNumber t = false := by unfold isNumber; rw [decide_eq_false]; omega
    have e2 : isSigned t = false := by unfold isSigned; rw [decide_eq_false]; omega
    have e3 : isWide t = false := by unfold isWide; rw [decide_eq_false]; omega
    have e4 : mayB t 0 = false := by unfold mayB; rw [if_pos h]
    have e5 : (⟨#[]⟩ : ByteArray).toList = [] := ByteArray.toList_mk []
    by_cases c : t < 1
    · rw [if_pos c]; simp [e, e1, e2, e3, e4, e5]
    · rw [if_neg c, decide_eq_true (show t > 15 by omega)]; simp [e, e1, e2, e3, e4, e5]
  all_goals simp [isNumber, isWide, isWhole, isSigned, mayB, fits32, wrap64]

end Go.Proofs.Ytddomdjphkalcaa.Pure
