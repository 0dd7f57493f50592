/- A value of one type is one of another just if its number is in the other one's span. No condition but that the numbers are of their kinds. -/
import Derived.Test.YtddomdjphkalcaaPx0
import Derived.Test.YtddomdjphkalcaaPx21
import Derived.Test.YtddomdjphkalcaaSpan
namespace Go.Proofs.Ytddomdjphkalcaa.Pure
open Go.RowKit Go.Proofs.Ytddomdjphkalcaa.Px Go.Proofs.YtddomdjphkalcaaW.PrintWords Go.Proofs.YtddomdjphkalcaaW.PrintLast
set_option linter.unusedSimpArgs false
set_option linter.unusedVariables false

theorem SpanTells : ecdysislaw32_SpanTells.Pure := by
  intro a b n _ _ hn
  have hn := u64_bounds hn
  refine ⟨8, ?_⟩
  unfold ecdysislaw32_SpanTells.f
  simp only [ecdysislaw32_SpanTells.j0, span_Of_eq 7, ref_Conv_eq 3, ref_Whole_eq, ref_May_eq 6, span_In_eq 6 _ _ _ hn, live32_eq 6, Option.bind_some]
  cases hb : isWhole b with
  | false =>
    have e1 : (spanN b).2.2 = false := by simp [spanN, hb]
    have e2 : (convN a b n).2 = false := by unfold convN readN; simp [hb]
    simp [e1, e2]
  | true =>
    have e1 : (spanN b).2.2 = true := by
      unfold spanN; rw [if_pos hb]
      repeat' split
      all_goals rfl
    cases ha : isWhole a with
    | false =>
      have e2 : (convN a b n).2 = false := by unfold convN; simp [ha]
      simp [e1, e2]
    | true =>
      cases hm : mayB a n with
      | false =>
        have e2 : (convN a b n).2 = false := by unfold convN; simp [hm]
        simp [e1, e2]
      | true => simp [e1, conv_span hn ha hb hm]

end Go.Proofs.Ytddomdjphkalcaa.Pure
