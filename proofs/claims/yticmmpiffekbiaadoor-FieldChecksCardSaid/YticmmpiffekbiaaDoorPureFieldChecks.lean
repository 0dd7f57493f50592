/- Which fields may be: by the program just those that are by the document. No condition. -/
import Derived.Test.YticmmpiffekbiaaDoorPx0
import Derived.Test.YticmmpiffekbiaaDoorPx12
import Derived.Test.YticmmpiffekbiaaDoorPx19
import Derived.Test.YticmmpiffekbiaaDoorPx23
import Derived.Test.YticmmpiffekbiaaDoorField
namespace Go.Proofs.YticmmpiffekbiaaDoor.Pure
open Go.RowKit Go.Proofs.YticmmpiffekbiaaDoor.Px Go.Proofs.YticmmpiffekbiaaDoorW.PrintWords Go.Proofs.YticmmpiffekbiaaDoorW.PrintLast
set_option linter.unusedSimpArgs false
set_option linter.unusedVariables false

theorem FieldChecks (name : ByteArray) (num ty : Int) (ref : ByteArray) (rep loose : Bool) (one : ByteArray) (w0 : name.size ≤ 140737488351232) (w1 : (Lit.int .i64 num).wf = true) (w2 : (Lit.int .i64 ty).wf = true)
    (w3 : ref.size ≤ 140737488351232) (w6 : one.size ≤ 140737488351232) : ∃ k, ecdysislaw14_FieldChecks.f k name num ty ref rep loose one = some true := by
  refine ⟨0 + 70, ?_⟩
  generalize (0 : Nat) = k
  unfold ecdysislaw14_FieldChecks.f ecdysislaw14_small.f ecdysislaw14_num.f
  rw [show k + 70 = (k + 67) + 3 from by omega, field_Check_eq, live14_eq, show k + 67 + 3 = k + 70 from by omega, ref14_Check_eq]
  generalize decide (wrap64 (wrap64 ((name.size : Int) + (ref.size : Int)) + (one.size : Int)) < 1000) = b
  generalize checkN name num ty ref rep loose one = c
  cases b <;> simp
end Go.Proofs.YticmmpiffekbiaaDoor.Pure
