/- For every type's number its span is the document's, and every span around 0 has the same of its values. No condition but that the numbers are of their kinds. -/
import Derived.Test.YtddomdjphkalcaaPx0
import Derived.Test.YtddomdjphkalcaaPx17
import Derived.Test.YtddomdjphkalcaaSpan
namespace Go.Proofs.Ytddomdjphkalcaa.Pure
open Go.RowKit Go.Proofs.Ytddomdjphkalcaa.Px Go.Proofs.YtddomdjphkalcaaW.PrintWords Go.Proofs.YtddomdjphkalcaaW.PrintLast
set_option linter.unusedSimpArgs false
set_option linter.unusedVariables false

theorem SpanOf : ecdysislaw32_SpanOf.Pure := by
  intro t lo n _ _ hn
  have hn := u64_bounds hn
  refine ⟨6, ?_⟩
  unfold ecdysislaw32_SpanOf.f
  have h1 : ∀ x : Int, ecdysislaw32_SpanOf.j1 5 t x n = some true := by
    intro x
    simp only [ecdysislaw32_SpanOf.j1, span_In_eq 3 _ _ _ hn, ref_In_eq 2 _ _ _ hn, live32_eq 3, Option.bind_some, beq_self_eq_true, if_true]
    split <;> rfl
  simp only [ecdysislaw32_SpanOf.j0, span_Of_eq 5, ref_SpanOf_eq 5, h1, Option.bind_some, if_true, bne_self_eq_false, Bool.false_eq_true, if_false]
  split <;> rfl

end Go.Proofs.Ytddomdjphkalcaa.Pure
