/- Plain laws of the layer of whole numbers as ones of another type, of the program and of the document's answer: each printed function as one plain function. No condition but that numbers are of their kinds. -/
import Derived.Test.YticmmpiffekbiaaDoorPx0
import Derived.Test.YticmmpiffekbiaaDoorPx11
import Derived.Test.YticmmpiffekbiaaDoorPx3
import Derived.Test.YticmmpiffekbiaaDoorPx4
import Derived.Test.YticmmpiffekbiaaDoorPx5
import Derived.Test.YticmmpiffekbiaaDoorPx8
import Derived.Test.YticmmpiffekbiaaDoorPx9
import Derived.Test.YticmmpiffekbiaaDoorBase
import Derived.Test.YticmmpiffekbiaaDoorScal
namespace Go.Proofs.YticmmpiffekbiaaDoor.Px
open Go.RowKit Go.Proofs.YticmmpiffekbiaaDoorW.PrintWords Go.Proofs.YticmmpiffekbiaaDoorW.PrintLast
set_option linter.unusedSimpArgs false
set_option linter.unusedVariables false

theorem may_whole {t : Int} (h : isWhole t = true) (n : Int) : mayB t n = (if isWide t = true then true else if isSigned t = true then fits32 (wrap64 n) else decide (n < 4294967296)) := by
  have hr : ¬ (t < 1 ∨ 15 < t) := by unfold isWhole at h; simp only [decide_eq_true_eq] at h; omega
  unfold mayB
  rw [if_neg hr, h]; simp
def readN (t n : Int) (neg : Bool) : Int × Bool :=
  if isWhole t = true then
    if neg = true ∧ n > 0 then
      (if isSigned t = true then if n > 9223372036854775808 then (0, false) else if mayB t ((-n) % 18446744073709551616) = true then ((-n) % 18446744073709551616, true) else (0, false) else (0, false))
    else if isSigned t = true ∧ n ≥ 9223372036854775808 then (0, false) else if mayB t n = true then (n, true) else (0, false)
  else (0, false)
theorem ref_Read_eq (k : Nat) (t n : Int) (neg : Bool) : ecdysisref13_Read.f (k + 4) t n neg = some (readN t n neg) := by
  unfold ecdysisref13_Read.f readN
  simp only [ecdysisref13_Read.j0, ecdysisref13_Read.j1, ecdysisref13_Read.j2, ref_Whole_eq, ref_Signed_eq, ref_May_eq k t, Option.bind_some, u64_wrap]
  cases isWhole t with
  | false => simp
  | true =>
    cases neg <;> by_cases c : n > 0 <;> cases isSigned t <;> by_cases d : n > 9223372036854775808 <;> by_cases e : n ≥ 9223372036854775808 <;> cases mayB t n <;> cases mayB t ((-n) % 18446744073709551616) <;> simp [c, d, e]
def splitN (t n : Int) : Int × Bool := if isSigned t = true ∧ n ≥ 9223372036854775808 then ((-n) % 18446744073709551616, true) else (n, false)
theorem ref_split_eq (t n : Int) : ecdysisref13_split.f t n = some (splitN t n) := by
  unfold ecdysisref13_split.f splitN
  rw [ref_Signed_eq, Option.bind_some, u64_wrap]
  cases isSigned t <;> by_cases c : n ≥ 9223372036854775808 <;> simp [c]
def convN (a b n : Int) : Int × Bool := if isWhole a = true ∧ mayB a n = true then readN b (splitN a n).1 (splitN a n).2 else (0, false)
theorem ref_Conv_eq (k : Nat) (a b n : Int) : ecdysisref13_Conv.f (k + 5) a b n = some (convN a b n) := by
  unfold ecdysisref13_Conv.f convN
  simp only [ecdysisref13_Conv.j0, ref_Whole_eq, ref_split_eq, ref_Read_eq k b, ref_May_eq (k + 3) a, Option.bind_some]
  cases isWhole a <;> cases mayB a n <;> simp

def valueN (t far : Int) (neg : Bool) : Int × Bool :=
  if isWhole t = true ∧ mayB t (if neg = true then (-far) % 18446744073709551616 else far) = true ∧ splitN t (if neg = true then (-far) % 18446744073709551616 else far) = (far, neg)
  then (if neg = true then (-far) % 18446744073709551616 else far, true) else (0, false)
theorem read_value {t far : Int} {neg : Bool} (h : 0 ≤ far ∧ far ≤ 18446744073709551615) (hn : neg = true → 0 < far) : readN t far neg = valueN t far neg := by
  unfold readN valueN splitN
  cases hw : isWhole t with
  | false => simp
  | true =>
    cases neg with
    | true =>
      have h0 := hn rfl
      simp only [if_true, true_and, h0, gt_iff_lt]
      have e : (-far) % 18446744073709551616 = 18446744073709551616 - far := by omega
      rw [e]
      cases hs : isSigned t with
      | false => simp
      | true =>
        simp only [if_true, true_and]
        by_cases c : far > 9223372036854775808
        · rw [if_pos c, if_neg (show ¬ (18446744073709551616 - far ≥ 9223372036854775808) by omega)]
          rw [if_neg]
          rintro ⟨_, h2⟩
          simp at h2
        · rw [if_neg c, if_pos (show 18446744073709551616 - far ≥ 9223372036854775808 by omega)]
          have e2 : (-(18446744073709551616 - far)) % 18446744073709551616 = far := by omega
          rw [e2]
          cases mayB t (18446744073709551616 - far) <;> simp
    | false =>
      simp only [if_true, Bool.false_eq_true, if_false, false_and, true_and]
      cases hs : isSigned t with
      | false => simp
      | true =>
        simp only [true_and]
        by_cases c : far ≥ 9223372036854775808
        · rw [if_pos c, if_pos c, if_neg]
          rintro ⟨_, h2⟩
          simp at h2
        · rw [if_neg c, if_neg c]
          cases mayB t far <;> simp
theorem split_range {t n : Int} (h : 0 ≤ n ∧ n ≤ 18446744073709551615) : (0 ≤ (splitN t n).1 ∧ (splitN t n).1 ≤ 18446744073709551615) ∧ ((splitN t n).2 = true → 0 < (splitN t n).1) := by
  unfold splitN
  split
  · rename_i c
    refine ⟨by show 0 ≤ (-n) % 18446744073709551616 ∧ (-n) % 18446744073709551616 ≤ _; omega, fun _ => ?_⟩
    show 0 < (-n) % 18446744073709551616
    omega
  · exact ⟨h, fun h2 => by cases h2⟩
theorem read_split {t n : Int} (h : 0 ≤ n ∧ n ≤ 18446744073709551615) (hw : isWhole t = true) (hm : mayB t n = true) : readN t (splitN t n).1 (splitN t n).2 = (n, true) := by
  have hr := split_range (t := t) h
  rw [read_value hr.1 hr.2]
  unfold valueN
  have e : (if (splitN t n).2 = true then (-(splitN t n).1) % 18446744073709551616 else (splitN t n).1) = n := by
    unfold splitN
    split
    · rename_i c
      simp only [if_true]; omega
    · simp
  rw [e, if_pos ⟨hw, hm, rfl⟩]
theorem read_back {t far m : Int} {neg : Bool} (h : 0 ≤ far ∧ far ≤ 18446744073709551615) (hn : neg = true → 0 < far) (he : readN t far neg = (m, true)) :
    isWhole t = true ∧ mayB t m = true ∧ splitN t m = (far, neg) ∧ 0 ≤ m ∧ m ≤ 18446744073709551615 := by
  rw [read_value h hn] at he
  unfold valueN at he
  have hr : 0 ≤ (if neg = true then (-far) % 18446744073709551616 else far) ∧ (if neg = true then (-far) % 18446744073709551616 else far) ≤ 18446744073709551615 := by split <;> omega
  generalize (if neg = true then (-far) % 18446744073709551616 else far) = n at he hr
  by_cases c : isWhole t = true ∧ mayB t n = true ∧ splitN t n = (far, neg)
  · rw [if_pos c] at he
    obtain ⟨rfl, _⟩ := Prod.mk.inj he
    exact ⟨c.1, c.2.1, c.2.2, hr⟩
  · rw [if_neg c] at he
    have := congrArg Prod.snd he
    simp at this
theorem conv_back {a b n m : Int} (h : 0 ≤ n ∧ n ≤ 18446744073709551615) (he : convN a b n = (m, true)) : mayB b m = true ∧ convN b a m = (n, true) ∧ isWhole b = true ∧ isWhole a = true ∧ mayB a n = true ∧ splitN b m = splitN a n ∧ 0 ≤ m ∧ m ≤ 18446744073709551615 := by
  unfold convN at he
  split at he
  · rename_i c
    have hr := split_range (t := a) h
    obtain ⟨h1, h2, h3, h4⟩ := read_back hr.1 hr.2 he
    refine ⟨h2, ?_, h1, c.1, c.2, h3, h4⟩
    unfold convN
    rw [if_pos ⟨h1, h2⟩, h3]
    exact read_split h c.1 c.2
  · have := congrArg Prod.snd he
    simp at this
theorem conv_right_eq (k : Nat) (t : Int) {n : Int} (h : 0 ≤ n ∧ n ≤ 18446744073709551615) : conv_right.f (k + 1) t n = some (isWhole t && mayB t n) := by
  unfold conv_right.f
  rw [scalar_Whole_eq, scalar_May_eq k t h]
  cases isWhole t <;> simp
theorem conv_of_eq (t n : Int) : conv_of.f t n = some (splitN t n) ∨ ¬ (0 ≤ n ∧ n ≤ 18446744073709551615) := by
  by_cases h : 0 ≤ n ∧ n ≤ 18446744073709551615
  · left
    unfold conv_of.f splitN
    have hw : (wrap64 n < 0) ↔ n ≥ 9223372036854775808 := by unfold wrap64; omega
    rw [scalar_Signed_eq, Option.bind_some, u64_wrap]
    cases isSigned t with
    | false => simp
    | true =>
      simp only [if_true, true_and, hw]
      split <;> rfl
  · exact .inr h
theorem conv_of_eq' (t : Int) {n : Int} (h : 0 ≤ n ∧ n ≤ 18446744073709551615) : conv_of.f t n = some (splitN t n) := (conv_of_eq t n).resolve_right (fun h2 => h2 h)
theorem conv_value_eq (k : Nat) (t : Int) {far : Int} (neg : Bool) (h : 0 ≤ far ∧ far ≤ 18446744073709551615) : conv_number_value.f (k + 2) far neg t = some (valueN t far neg) := by
  have e : conv_number_value.f (k + 2) far neg t = conv_number_value.j0 (k + 2) t (if neg = true then (-far) % 18446744073709551616 else far) far neg := by
    unfold conv_number_value.f
    rw [u64_wrap]
    split <;> rfl
  rw [e]
  unfold valueN
  have hn : 0 ≤ (if neg = true then (-far) % 18446744073709551616 else far) ∧ (if neg = true then (-far) % 18446744073709551616 else far) ≤ 18446744073709551615 := by split <;> omega
  generalize (if neg = true then (-far) % 18446744073709551616 else far) = n at hn ⊢
  simp only [conv_number_value.j0, scalar_Whole_eq, scalar_May_eq k t hn, conv_of_eq' t hn, Option.bind_some]
  cases isWhole t with
  | false => simp
  | true =>
    cases mayB t n with
    | false => simp
    | true =>
      simp only [if_true, true_and]
      have : ((!((splitN t n).1 == far) || (!((splitN t n).2 == neg))) = true) ↔ ¬ splitN t n = (far, neg) := by
        rw [Prod.ext_iff]
        cases h1 : ((splitN t n).1 == far) <;> cases h2 : ((splitN t n).2 == neg) <;> simp_all
      by_cases c : splitN t n = (far, neg)
      · rw [if_neg (by rw [this]; exact fun h => h c), if_pos c]
      · rw [if_pos (by rw [this]; exact c), if_neg c]
theorem conv_Conv_eq (k : Nat) (a b : Int) {n : Int} (h : 0 ≤ n ∧ n ≤ 18446744073709551615) : conv_Conv.f (k + 2) a b n = some (convN a b n) := by
  have hr := split_range (t := a) h
  unfold conv_Conv.f convN
  rw [conv_right_eq (k + 1) a h, conv_of_eq' a h]
  simp only [Option.bind_some]
  rw [conv_value_eq k b _ hr.1, ← read_value hr.1 hr.2]
  cases isWhole a <;> cases mayB a n <;> simp
theorem conv_Read_eq (k : Nat) (t : Int) {n : Int} (neg : Bool) (h : 0 ≤ n ∧ n ≤ 18446744073709551615) : conv_Read.f (k + 2) t n neg = some (readN t n neg) := by
  unfold conv_Read.f conv_zero.f
  by_cases c : n = 0
  · subst c
    rw [if_pos rfl]
    simp only [Option.bind_some]
    rw [conv_value_eq k t false (by omega), ← read_value (by omega) (fun h => by cases h)]
    simp only [Option.bind_some]
    unfold readN
    simp
  · rw [if_neg c, conv_value_eq k t neg h, ← read_value h (fun _ => by omega)]
    simp
end Go.Proofs.YticmmpiffekbiaaDoor.Px
