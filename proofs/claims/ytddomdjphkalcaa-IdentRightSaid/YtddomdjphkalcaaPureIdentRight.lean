/- Which texts are names: by the program just those that are by the document. No condition. -/
import Derived.Test.YtddomdjphkalcaaPx0
import Derived.Test.YtddomdjphkalcaaPx34
import Derived.Test.YtddomdjphkalcaaIdent
namespace Go.Proofs.Ytddomdjphkalcaa.Pure
open Go.RowKit Go.Proofs.Ytddomdjphkalcaa.Px Go.Proofs.YtddomdjphkalcaaW.PrintWords Go.Proofs.YtddomdjphkalcaaW.PrintLast
set_option linter.unusedSimpArgs false

theorem IdentRight : ecdysislaw09_IdentRight.Pure := by
  intro s _
  refine ⟨60, ?_⟩
  unfold ecdysislaw09_IdentRight.f
  simp only [ident_Right_eq, ref09_Right_eq 0, live09_eq, Option.bind_some, beq_self_eq_true, if_true]
  split <;> rfl
end Go.Proofs.Ytddomdjphkalcaa.Pure
