/- For every type's number and every value of 64 bits the program's word, wire type, kinds and what may be are the document's. No condition but that both are numbers of their kinds. -/
import Derived.Test.YtddomdjphkalcaaPx0
import Derived.Test.YtddomdjphkalcaaPx22
import Derived.Test.YtddomdjphkalcaaPx27
import Derived.Test.YtddomdjphkalcaaScal
namespace Go.Proofs.Ytddomdjphkalcaa.Pure
open Go.RowKit Go.Proofs.Ytddomdjphkalcaa.Px Go.Proofs.YtddomdjphkalcaaW.PrintWords Go.Proofs.YtddomdjphkalcaaW.PrintLast
set_option linter.unusedSimpArgs false
set_option linter.unusedVariables false

theorem ScalarTypes : ecdysislaw11_ScalarTypes.Pure := by
  intro t n _ hn
  have hn := u64_bounds hn
  refine ⟨20, ?_⟩
  unfold ecdysislaw11_ScalarTypes.f
  simp only [ecdysislaw11_ScalarTypes.j0, scalar_Word.f, ref_Word_eq, scalar_Wire_eq 18, ref_Wire_eq 18, scalar_Whole_eq, ref_Whole_eq, scalar_Number_eq, ref_Number_eq, scalar_Signed_eq, ref_Signed_eq,
    scalar_Wide_eq, ref_Wide_eq, scalar_May_eq 18 t hn, ref_May_eq 17, live11_eq 2, Option.bind_some, beq_self_eq_true, if_true]

end Go.Proofs.Ytddomdjphkalcaa.Pure
