/- Plain laws of the layers of spans and of whole numbers as ones of another type, of the document's answer: each printed function as one plain function. No condition but that numbers are of their kinds. -/
import Derived.Test.YtddomdjphkalcaaPx0
import Derived.Test.YtddomdjphkalcaaPx11
import Derived.Test.YtddomdjphkalcaaPx12
import Derived.Test.YtddomdjphkalcaaPx13
import Derived.Test.YtddomdjphkalcaaPx15
import Derived.Test.YtddomdjphkalcaaPx16
import Derived.Test.YtddomdjphkalcaaPx18
import Derived.Test.YtddomdjphkalcaaPx19
import Derived.Test.YtddomdjphkalcaaPx20
import Derived.Test.YtddomdjphkalcaaBase
import Derived.Test.YtddomdjphkalcaaScal
namespace Go.Proofs.Ytddomdjphkalcaa.Px
open Go.RowKit Go.Proofs.YtddomdjphkalcaaW.PrintWords Go.Proofs.YtddomdjphkalcaaW.PrintLast
set_option linter.unusedSimpArgs false
set_option linter.unusedVariables false

def spanN (t : Int) : Int × Int × Bool :=
  if isWhole t = true then
    if isSigned t = true then (if isWide t = true then (-9223372036854775808, 9223372036854775807, true) else (-2147483648, 2147483647, true))
    else (if isWide t = true then (0, 18446744073709551615, true) else (0, 4294967295, true))
  else (0, 0, false)
def inN (lo hi t n : Int) : Bool :=
  if isWhole t = true then if mayB t n = true then
    if isSigned t = true then (if wrap64 n < 0 then decide (lo ≤ wrap64 n) else decide (lo ≤ 0 ∧ n ≤ hi)) else decide (lo ≤ 0 ∧ n ≤ hi)
  else false else false
theorem span_Of_eq (k : Nat) (t : Int) : span_Of.f (k + 1) t = some (spanN t) := by
  unfold span_Of.f spanN
  simp only [span_Of.j0, scalar_Whole_eq, scalar_Signed_eq, scalar_Wide_eq, Option.bind_some, span_signed.f, span_plain.f]
  cases isWhole t <;> cases isSigned t <;> cases isWide t <;> simp
theorem ref_SpanOf_eq (k : Nat) (t : Int) : ecdysisref32_Of.f (k + 1) t = some (spanN t) := by
  unfold ecdysisref32_Of.f spanN
  simp only [ecdysisref32_Of.j0, ref_Whole_eq, ref_Signed_eq, ref_Wide_eq, Option.bind_some]
  cases isWhole t <;> cases isSigned t <;> cases isWide t <;> simp
theorem span_In_eq (k : Nat) (lo hi t : Int) {n : Int} (hn : 0 ≤ n ∧ n ≤ 18446744073709551615) : span_In.f (k + 1) lo hi t n = some (inN lo hi t n) := by
  unfold span_In.f inN
  simp only [span_In.j0, scalar_Whole_eq, scalar_Signed_eq, scalar_May_eq k t hn, Option.bind_some]
  cases isWhole t with
  | false => simp
  | true =>
    cases mayB t n with
    | false => simp
    | true =>
      simp only [if_true, Bool.not_true, Bool.false_eq_true, if_false]
      cases isSigned t <;> simp only [if_true, Bool.false_eq_true, if_false]
      · by_cases c : lo ≤ 0 <;> simp [c]
      · by_cases d : wrap64 n < 0
        · simp [d]
        · by_cases c : lo ≤ 0 <;> simp [d, c]
theorem ref_In_eq (k : Nat) (lo hi t : Int) {n : Int} (hn : 0 ≤ n ∧ n ≤ 18446744073709551615) : ecdysisref32_In.f (k + 2) lo hi t n = some (inN lo hi t n) := by
  have hw : (n ≥ 9223372036854775808) ↔ wrap64 n < 0 := by unfold wrap64; omega
  unfold ecdysisref32_In.f inN
  simp only [ecdysisref32_In.j0, ref_Whole_eq, ref_Signed_eq, ref_May_eq k t, Option.bind_some]
  cases isWhole t with
  | false => simp
  | true =>
    cases mayB t n with
    | false => simp
    | true =>
      simp only [if_true, Bool.not_true, Bool.false_eq_true, if_false, hw]
      cases isSigned t <;> simp only [if_true, Bool.false_eq_true, if_false]
      · by_cases c : n ≤ hi <;> simp [c]
      · by_cases d : wrap64 n < 0
        · simp [d]
        · by_cases c : n ≤ hi <;> simp [d, c]
theorem live32_eq (k : Nat) : ecdysislaw32_live.f (k + 1) = some true := by
  unfold ecdysislaw32_live.f
  rw [span_Of_eq]
  simp [spanN, isWhole, isSigned, isWide]
theorem may_whole {t : Int} (h : isWhole t = true) (n : Int) : mayB t n = (if isWide t = true then true else if isSigned t = true then fits32 (wrap64 n) else decide (n < 4294967296)) := by
  have hr : ¬ (t < 1 ∨ 15 < t) := by unfold isWhole at h; simp only [decide_eq_true_eq] at h; omega
  unfold mayB
  rw [if_neg hr, h]; simp
def readN (t n : Int) (neg : Bool) : Int × Bool :=
  if isWhole t = true then
    if neg = true ∧ n > 0 then
      (if isSigned t = true then if n > 9223372036854775808 then (0, false) else if mayB t ((-n) % 18446744073709551616) = true then ((-n) % 18446744073709551616, true) else (0, false) else (0, false))
    else if isSigned t = true ∧ n ≥ 9223372036854775808 then (0, false) else if mayB t n = true then (n, true) else (0, false)
  else (0, false)
theorem ref_Read_eq (k : Nat) (t n : Int) (neg : Bool) : ecdysisref13_Read.f (k + 4) t n neg = some (readN t n neg) := by
  unfold ecdysisref13_Read.f readN
  simp only [ecdysisref13_Read.j0, ecdysisref13_Read.j1, ecdysisref13_Read.j2, ref_Whole_eq, ref_Signed_eq, ref_May_eq k t, Option.bind_some, u64_wrap]
  cases isWhole t with
  | false => simp
  | true =>
    cases neg <;> by_cases c : n > 0 <;> cases isSigned t <;> by_cases d : n > 9223372036854775808 <;> by_cases e : n ≥ 9223372036854775808 <;> cases mayB t n <;> cases mayB t ((-n) % 18446744073709551616) <;> simp [c, d, e]
def splitN (t n : Int) : Int × Bool := if isSigned t = true ∧ n ≥ 9223372036854775808 then ((-n) % 18446744073709551616, true) else (n, false)
theorem ref_split_eq (t n : Int) : ecdysisref13_split.f t n = some (splitN t n) := by
  unfold ecdysisref13_split.f splitN
  rw [ref_Signed_eq, Option.bind_some, u64_wrap]
  cases isSigned t <;> by_cases c : n ≥ 9223372036854775808 <;> simp [c]
def convN (a b n : Int) : Int × Bool := if isWhole a = true ∧ mayB a n = true then readN b (splitN a n).1 (splitN a n).2 else (0, false)
theorem ref_Conv_eq (k : Nat) (a b n : Int) : ecdysisref13_Conv.f (k + 5) a b n = some (convN a b n) := by
  unfold ecdysisref13_Conv.f convN
  simp only [ecdysisref13_Conv.j0, ref_Whole_eq, ref_split_eq, ref_Read_eq k b, ref_May_eq (k + 3) a, Option.bind_some]
  cases isWhole a <;> cases mayB a n <;> simp
/-- A value of one whole type is one of another just if its number is in the other one's span. -/
theorem conv_span {a b n : Int} (hn : 0 ≤ n ∧ n ≤ 18446744073709551615) (ha : isWhole a = true) (hb : isWhole b = true) (hm : mayB a n = true) :
    (convN a b n).2 = inN (spanN b).1 (spanN b).2.1 a n := by
  unfold convN inN
  rw [if_pos ⟨ha, hm⟩, if_pos ha, if_pos hm]
  rw [may_whole ha] at hm
  unfold readN splitN spanN
  rw [if_pos hb, if_pos hb]
  simp only [may_whole hb]
  cases hsa : isSigned a <;> cases hwa : isWide a <;> cases hsb : isSigned b <;> cases hwb : isWide b <;> simp [hsa, hwa, hsb, hwb, fits32, wrap64] at hm ⊢
  all_goals (repeat' split)
  all_goals first | rfl | (simp <;> omega) | omega | (simp_all <;> omega)
end Go.Proofs.Ytddomdjphkalcaa.Px
