/- For every type's number and every number of 64 bits the program reads off the wire, and writes on it, what the document says. No condition but that both are numbers of their kinds. -/
import Derived.Test.YtddomdjphkalcaaPx0
import Derived.Test.YtddomdjphkalcaaPx8
import Derived.Test.YtddomdjphkalcaaNum
namespace Go.Proofs.Ytddomdjphkalcaa.Pure
open Go.RowKit Go.Proofs.Ytddomdjphkalcaa.Px Go.Proofs.YtddomdjphkalcaaW.PrintWords Go.Proofs.YtddomdjphkalcaaW.PrintLast
set_option linter.unusedSimpArgs false
set_option linter.unusedVariables false

theorem NumFrom : ecdysislaw12_NumFrom.Pure := by
  intro t n _ hn
  have hn := u64_bounds hn
  refine ⟨5, ?_⟩
  unfold ecdysislaw12_NumFrom.f
  simp only [num_From_eq 2 t hn, ref_From_eq 2 t hn, num_To_eq 2 t hn, ref_To_eq 2 t hn, live12_eq 2, Option.bind_some, if_true]

end Go.Proofs.Ytddomdjphkalcaa.Pure
