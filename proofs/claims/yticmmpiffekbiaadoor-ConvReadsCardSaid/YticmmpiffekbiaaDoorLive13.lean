/- The page's examples of the layer of whole numbers as ones of another type. No condition. -/
import Derived.Test.YticmmpiffekbiaaDoorPx0
import Derived.Test.YticmmpiffekbiaaDoorPx10
import Derived.Test.YticmmpiffekbiaaDoorPx9
import Derived.Test.YticmmpiffekbiaaDoorRconv
namespace Go.Proofs.YticmmpiffekbiaaDoor.Px
open Go.RowKit Go.Proofs.YticmmpiffekbiaaDoorW.PrintWords Go.Proofs.YticmmpiffekbiaaDoorW.PrintLast
set_option linter.unusedSimpArgs false

theorem live13_eq (k : Nat) : ecdysislaw13_live.f (k + 2) = some true := by
  unfold ecdysislaw13_live.f conv_Digits.f
  rw [conv_Conv_eq k 2 3 (by omega), conv_right_eq (k + 1) 1 (by omega), conv_of_eq' 1 (by omega)]
  have e1 : convN 2 3 18446744073709551615 = (0, false) := by simp [convN, readN, splitN, isWhole, isSigned, isWide, mayB]
  have e2 : mayB 1 18446744073709551615 = true := by simp [mayB, isWide, isSigned, fits32, wrap64]
  have e3 : splitN 1 18446744073709551615 = (1, true) := by simp [splitN, isSigned]
  have e4 : isWhole 1 = true := by decide
  rw [e1, e2, e3, e4]
  simp only [Option.bind_some, Bool.false_eq_true, if_false, Bool.and_self, if_true]
  have e5 : lex_Digits.f 1 true = some ((⟨#[45]⟩ : ByteArray) ++ ⟨#[49]⟩) := by
    unfold lex_Digits.f strconv_FormatUint.f
    simp
    decide
  rw [e5]
  simp only [Option.bind_some]
  rw [ByteArray.toList_eq]
  decide +kernel
end Go.Proofs.YticmmpiffekbiaaDoor.Px
