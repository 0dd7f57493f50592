/- Every value of every type as one of another: by the program just as by the document, and back. No condition but that the numbers are of their kinds. -/
import Derived.Test.YticmmpiffekbiaaDoorPx0
import Derived.Test.YticmmpiffekbiaaDoorPx11
import Derived.Test.YticmmpiffekbiaaDoorRconv
import Derived.Test.YticmmpiffekbiaaDoorLive13
namespace Go.Proofs.YticmmpiffekbiaaDoor.Pure
open Go.RowKit Go.Proofs.YticmmpiffekbiaaDoor.Px Go.Proofs.YticmmpiffekbiaaDoorW.PrintWords Go.Proofs.YticmmpiffekbiaaDoorW.PrintLast
set_option linter.unusedSimpArgs false

theorem conv_range {a b n : Int} (h : 0 ≤ n ∧ n ≤ 18446744073709551615) : 0 ≤ (convN a b n).1 ∧ (convN a b n).1 ≤ 18446744073709551615 := by
  cases e : (convN a b n).2 with
  | true =>
    have := conv_back h (show convN a b n = ((convN a b n).1, true) from Prod.ext rfl e)
    exact this.2.2.2.2.2.2
  | false =>
    have e0 : (convN a b n).1 = 0 := by
      unfold convN readN at e ⊢
      repeat' split
      all_goals first | rfl | (exfalso; simp_all; done)
    rw [e0]; decide
theorem ConvConv : ecdysislaw13_ConvConv.Pure := by
  intro a b n _ _ hn
  have hn := u64_bounds hn
  have hm := conv_range (a := a) (b := b) hn
  refine ⟨8, ?_⟩
  unfold ecdysislaw13_ConvConv.f
  simp only [ecdysislaw13_ConvConv.j0, conv_Conv_eq 6 a b hn, conv_Conv_eq 5 b a hm, ref_Conv_eq 3, ref_May_eq 5, live13_eq 5, Option.bind_some, if_true, bne_self_eq_false, Bool.false_eq_true, if_false]
  cases e : (convN a b n).2 with
  | false => simp
  | true =>
    obtain ⟨h1, h2, _⟩ := conv_back hn (show convN a b n = ((convN a b n).1, true) from Prod.ext rfl e)
    simp [h1, h2]
end Go.Proofs.YticmmpiffekbiaaDoor.Pure
