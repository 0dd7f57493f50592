/- The value of every digits, if there is one: by the program just as by the document. No condition but that the numbers are of their kinds. -/
import Derived.Test.YticmmpiffekbiaaDoorPx0
import Derived.Test.YticmmpiffekbiaaDoorPx12
import Derived.Test.YticmmpiffekbiaaDoorRconv
import Derived.Test.YticmmpiffekbiaaDoorLive13
namespace Go.Proofs.YticmmpiffekbiaaDoor.Pure
open Go.RowKit Go.Proofs.YticmmpiffekbiaaDoor.Px Go.Proofs.YticmmpiffekbiaaDoorW.PrintWords Go.Proofs.YticmmpiffekbiaaDoorW.PrintLast
set_option linter.unusedSimpArgs false

theorem ConvReads : ecdysislaw13_ConvReads.Pure := by
  intro t n neg _ hn
  have hn := u64_bounds hn
  refine ⟨8, ?_⟩
  unfold ecdysislaw13_ConvReads.f
  simp only [conv_Read_eq 6 t neg hn, ref_Read_eq 4, live13_eq 6, Option.bind_some, if_true, beq_self_eq_true]
end Go.Proofs.YticmmpiffekbiaaDoor.Pure
