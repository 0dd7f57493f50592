/- Plain laws of the scalar layer: the printed functions of the program and of the document's answer, each as one plain function of its type's number. No condition but that numbers are of their kinds. -/
import Derived.Test.YticmmpiffekbiaaDoorPx0
import Derived.Test.YticmmpiffekbiaaDoorPx15
import Derived.Test.YticmmpiffekbiaaDoorPx2
import Derived.Test.YticmmpiffekbiaaDoorPx21
import Derived.Test.YticmmpiffekbiaaDoorPx5
import Derived.Test.YticmmpiffekbiaaDoorPx6
import Derived.Test.YticmmpiffekbiaaDoorPx7
import Derived.Test.YticmmpiffekbiaaDoorBase
namespace Go.Proofs.YticmmpiffekbiaaDoor.Px
open Go.RowKit Go.Proofs.YticmmpiffekbiaaDoorW.PrintWords Go.Proofs.YticmmpiffekbiaaDoorW.PrintLast
set_option linter.unusedSimpArgs false
set_option linter.unusedVariables false

def isWhole (t : Int) : Bool := decide ((1 ≤ t ∧ t ≤ 6) ∨ (8 ≤ t ∧ t ≤ 11))
def isNumber (t : Int) : Bool := decide ((1 ≤ t ∧ t ≤ 11) ∨ t = 14)
def isSigned (t : Int) : Bool := decide (t = 1 ∨ t = 2 ∨ t = 5 ∨ t = 6 ∨ t = 10 ∨ t = 11 ∨ t = 14)
def isWide (t : Int) : Bool := decide (t = 2 ∨ t = 4 ∨ t = 6 ∨ t = 9 ∨ t = 11)
def fits32 (n : Int) : Bool := decide (-2147483648 ≤ n ∧ n ≤ 2147483647)
def mayB (t n : Int) : Bool :=
  if t < 1 ∨ 15 < t then false else if isWide t = true then true else if isSigned t = true then fits32 (wrap64 n)
  else if isWhole t = true then decide (n < 4294967296) else if t = 7 then decide (n < 2) else decide (n = 0)

theorem ty_cases (t : Int) : (t < 1 ∨ 15 < t) ∨ t = 1 ∨ t = 2 ∨ t = 3 ∨ t = 4 ∨ t = 5 ∨ t = 6 ∨ t = 7 ∨ t = 8 ∨ t = 9 ∨ t = 10 ∨ t = 11 ∨ t = 12 ∨ t = 13 ∨ t = 14 ∨ t = 15 := by omega
theorem kindN_out1 {a : Int} (h : a < 1 ∨ 15 < a) : kindN a = 0 := by
  unfold kindN
  repeat rw [if_neg (by omega)]
theorem scalar_Whole_eq (t : Int) : scalar_Whole.f t = some (isWhole t) := by
  unfold scalar_Whole.f scalar_kind.f
  simp only [Option.bind_some]
  rcases ty_cases t with h | rfl | rfl | rfl | rfl | rfl | rfl | rfl | rfl | rfl | rfl | rfl | rfl | rfl | rfl | rfl
  · rw [kindN_out1 h]
    have : isWhole t = false := by unfold isWhole; rw [decide_eq_false]; omega
    rw [this]; decide
  all_goals decide
theorem scalar_Signed_eq (t : Int) : scalar_Signed.f t = some (isSigned t) := by
  unfold scalar_Signed.f scalar_kind.f
  simp only [Option.bind_some]
  rcases ty_cases t with h | rfl | rfl | rfl | rfl | rfl | rfl | rfl | rfl | rfl | rfl | rfl | rfl | rfl | rfl | rfl
  · rw [kindN_out1 h]
    have : isSigned t = false := by unfold isSigned; rw [decide_eq_false]; omega
    rw [this]; decide
  all_goals decide
theorem scalar_Wide_eq (t : Int) : scalar_Wide.f t = some (isWide t) := by
  unfold scalar_Wide.f scalar_kind.f
  simp only [Option.bind_some]
  rcases ty_cases t with h | rfl | rfl | rfl | rfl | rfl | rfl | rfl | rfl | rfl | rfl | rfl | rfl | rfl | rfl | rfl
  · rw [kindN_out1 h]
    have : isWide t = false := by unfold isWide; rw [decide_eq_false]; omega
    rw [this]; decide
  all_goals decide
theorem scalar_Number_eq (t : Int) : scalar_Number.f t = some (isNumber t) := by
  unfold scalar_Number.f scalar_kind.f
  simp only [Option.bind_some]
  rcases ty_cases t with h | rfl | rfl | rfl | rfl | rfl | rfl | rfl | rfl | rfl | rfl | rfl | rfl | rfl | rfl | rfl
  · rw [kindN_out1 h]
    have : isNumber t = false := by unfold isNumber; rw [decide_eq_false]; omega
    rw [this]; decide
  all_goals decide
theorem ref_Whole_eq (t : Int) : ecdysisref11_Whole.f t = some (isWhole t) := by
  unfold ecdysisref11_Whole.f isWhole
  repeat' split
  all_goals (congr 1; first | (symm; rw [decide_eq_true_eq]; omega) | (symm; rw [decide_eq_false_iff_not]; omega) | (rw [decide_eq_decide]; omega))
theorem ref_Wide_eq (t : Int) : ecdysisref11_Wide.f t = some (isWide t) := by
  unfold ecdysisref11_Wide.f isWide
  repeat' split
  all_goals (congr 1; first | (symm; rw [decide_eq_true_eq]; omega) | (rw [Bool.beq_eq_decide_eq, decide_eq_decide]; omega))
theorem ref_Signed_eq (t : Int) : ecdysisref11_Signed.f t = some (isSigned t) := by
  unfold ecdysisref11_Signed.f isSigned
  repeat' split
  all_goals (congr 1; first | (symm; rw [decide_eq_true_eq]; omega) | (rw [Bool.beq_eq_decide_eq, decide_eq_decide]; omega))
theorem ref_Number_eq (t : Int) : ecdysisref11_Number.f t = some (isNumber t) := by
  unfold ecdysisref11_Number.f
  rw [ref_Whole_eq, Option.bind_some]
  unfold isWhole isNumber
  split <;> rename_i h <;> simp only [decide_eq_true_eq] at h
  · congr 1; symm; rw [decide_eq_true_eq]; omega
  · split
    · congr 1; symm; rw [decide_eq_true_eq]; omega
    · congr 1; rw [Bool.beq_eq_decide_eq, decide_eq_decide]; omega
theorem zig_Fits_eq {n : Int} (h : -9223372036854775808 ≤ n ∧ n ≤ 9223372036854775807) : zig_Fits.f n = some (fits32 n) := by
  unfold zig_Fits.f fits32
  congr 1
  rw [Bool.beq_eq_decide_eq, decide_eq_decide]
  unfold wrap64 wrap32; omega
theorem ref_Fits_eq (n : Int) : ecdysisref02_Fits.f n = some (fits32 n) := by
  unfold ecdysisref02_Fits.f fits32
  split
  · congr 1; rw [decide_eq_decide]; omega
  · congr 1; symm; rw [decide_eq_false_iff_not]; omega
theorem scalar_May_eq (k : Nat) (t : Int) {n : Int} (hn : 0 ≤ n ∧ n ≤ 18446744073709551615) : scalar_May.f (k + 1) t n = some (mayB t n) := by
  unfold scalar_May.f mayB
  simp only [scalar_May.j0, scalar_Whole_eq, scalar_Wide_eq, scalar_Signed_eq, zig_Fits_eq (wrap64_range n), Option.bind_some]
  by_cases c1 : t < 1
  · simp [c1]
  · by_cases c2 : 15 < t
    · simp [c1, c2]
    · simp only [c1, c2, if_false, decide_false, or_self, Bool.false_eq_true]
      by_cases d1 : isWide t = true
      · simp [d1]
      · by_cases d2 : isSigned t = true
        · simp [d1, d2]
        · by_cases d3 : isWhole t = true
          · simp only [d1, d2, d3, if_true, Bool.false_eq_true, if_false]
            congr 1; rw [Bool.beq_eq_decide_eq, decide_eq_decide]; omega
          · simp only [d1, d2, d3, Bool.false_eq_true, if_false]
            by_cases d4 : t = 7
            · simp only [d4, if_true]; congr 1; rw [decide_eq_decide]; omega
            · simp only [d4, if_false]; congr 1
theorem ref_May_eq (k : Nat) (t n : Int) : ecdysisref11_May.f (k + 2) t n = some (mayB t n) := by
  unfold ecdysisref11_May.f mayB
  simp only [ecdysisref11_May.j0, ecdysisref11_May.j1, ref_Wide_eq, ref_Signed_eq, ref_Fits_eq, Option.bind_some]
  by_cases c1 : t < 1
  · simp [c1]
  · by_cases c2 : 15 < t
    · simp [c1, c2]
    · simp only [c1, c2, if_false, decide_false, or_self, Bool.false_eq_true]
      by_cases d1 : isWide t = true
      · simp [d1]
      · by_cases d2 : isSigned t = true
        · simp [d1, d2]
        · simp only [d1, d2, Bool.false_eq_true, if_false]
          by_cases e3 : t = 3
          · subst e3; simp [isWhole]
          · by_cases e8 : t = 8
            · subst e8; simp [isWhole]
            · have d3 : isWhole t = false := by
                unfold isWhole isWide isSigned at *
                simp only [decide_eq_true_eq, decide_eq_false_iff_not] at *
                omega
              have e8' : (t == 8) = false := by simpa using e8
              simp only [e3, e8', d3, if_false, Bool.false_eq_true]
              by_cases d4 : t = 7
              · simp [d4]
              · simp only [d4, if_false]; congr 1

def ofN (s : ByteArray) : Int :=
  if s = ⟨#[105, 110, 116, 51, 50]⟩ then 1 else if s = ⟨#[105, 110, 116, 54, 52]⟩ then 2 else if s = ⟨#[117, 105, 110, 116, 51, 50]⟩ then 3 else if s = ⟨#[117, 105, 110, 116, 54, 52]⟩ then 4
  else if s = ⟨#[115, 105, 110, 116, 51, 50]⟩ then 5 else if s = ⟨#[115, 105, 110, 116, 54, 52]⟩ then 6 else if s = ⟨#[98, 111, 111, 108]⟩ then 7 else if s = ⟨#[102, 105, 120, 101, 100, 51, 50]⟩ then 8
  else if s = ⟨#[102, 105, 120, 101, 100, 54, 52]⟩ then 9 else if s = ⟨#[115, 102, 105, 120, 101, 100, 51, 50]⟩ then 10 else if s = ⟨#[115, 102, 105, 120, 101, 100, 54, 52]⟩ then 11
  else if s = ⟨#[115, 116, 114, 105, 110, 103]⟩ then 12 else if s = ⟨#[98, 121, 116, 101, 115]⟩ then 13 else 0
end Go.Proofs.YticmmpiffekbiaaDoor.Px
