/- Plain laws of the layer of numbers on the wire: the printed functions of the program and of the document's answer, each as one plain function. No condition but that numbers are of their kinds. -/
import Derived.Test.YtddomdjphkalcaaPx0
import Derived.Test.YtddomdjphkalcaaPx2
import Derived.Test.YtddomdjphkalcaaPx3
import Derived.Test.YtddomdjphkalcaaPx4
import Derived.Test.YtddomdjphkalcaaPx5
import Derived.Test.YtddomdjphkalcaaPx6
import Derived.Test.YtddomdjphkalcaaPx7
import Derived.Test.YtddomdjphkalcaaBase
import Derived.Test.YtddomdjphkalcaaScal
namespace Go.Proofs.Ytddomdjphkalcaa.Px
open Go.RowKit Go.Proofs.YtddomdjphkalcaaW.PrintWords Go.Proofs.YtddomdjphkalcaaW.PrintLast
set_option linter.unusedSimpArgs false
set_option linter.unusedVariables false

def zagN (u : Int) : Int := if u % 2 = 0 then u / 2 else -(u / 2) - 1
def zigN (n : Int) : Int := if 0 ≤ n then 2 * n else -2 * n - 1
def fromN (t u : Int) : Int :=
  if t = 1 ∨ t = 10 ∨ t = 14 then wrap32 u % 18446744073709551616 else if t = 3 ∨ t = 8 then u % 4294967296 else if t = 5 then zagN (u % 4294967296) % 18446744073709551616
  else if t = 6 then zagN u % 18446744073709551616 else if t = 7 then (if u = 0 then 0 else 1) else if isNumber t = true then u else 0
def toN (t n : Int) : Int :=
  if t = 3 ∨ t = 8 ∨ t = 10 then n % 4294967296 else if t = 5 ∨ t = 6 then zigN (wrap64 n) else if isNumber t = true then n else 0
theorem zig_Wide_eq {u : Int} (h : 0 ≤ u ∧ u ≤ 18446744073709551615) : zig_Wide.f u = some (wrap32 u) := by
  unfold zig_Wide.f; congr 1; unfold wrap64 wrap32; omega
theorem ref_Wide32_eq {u : Int} (h : 0 ≤ u ∧ u ≤ 18446744073709551615) : ecdysisref02_Wide.f u = some (wrap32 u) := by
  unfold ecdysisref02_Wide.f
  rw [Int.tmod_eq_emod_of_nonneg h.1, wrap64_of (by omega), wrap64_of (by omega)]
  split <;> (congr 1; unfold wrap32; omega)
theorem num_low_eq {u : Int} (h : 0 ≤ u ∧ u ≤ 18446744073709551615) : num_low.f u = some (u % 4294967296) := by
  unfold num_low.f zig_Low.f
  rw [Option.bind_some, u64_wrap]; congr 1; unfold wrap64; omega
theorem zig_Zag_eq {u : Int} (h : 0 ≤ u ∧ u ≤ 18446744073709551615) : zig_Zag.f u = some (zagN u) := by
  unfold zig_Zag.f zagN
  rw [and_one_u64 u h.1 h.2]
  congr 1
  by_cases c : u % 2 = 0
  · rw [if_pos c, c, show wrap64 (-(wrap64 0)) = 0 from by simp [wrap64], xor64_zero, wrap64_of (n := u / 2) (by omega), wrap64_of (by omega)]
  · have c1 : u % 2 = 1 := by omega
    rw [if_neg c, c1, show wrap64 (-(wrap64 1)) = -1 from by simp [wrap64], xor64_ones, wrap64_of (n := u / 2) (by omega), wrap64_of (by omega)]
theorem ref_Zag_eq {u : Int} (h : 0 ≤ u ∧ u ≤ 18446744073709551615) : ecdysisref02_Zag.f u = some (zagN u) := by
  unfold ecdysisref02_Zag.f zagN
  rw [Int.tmod_eq_emod_of_nonneg h.1, Int.tdiv_eq_ediv_of_nonneg h.1, u64_of (n := u / 2) (by omega), wrap64_of (n := u / 2) (by omega), wrap64_of (n := -(u / 2)) (by omega), wrap64_of (n := -(u / 2) - 1) (by omega)]
  exact ite_some rfl
theorem zig_Zig_eq {n : Int} (h : -9223372036854775808 ≤ n ∧ n ≤ 9223372036854775807) : zig_Zig.f n = some (zigN n) := by
  unfold zig_Zig.f zigN
  congr 1
  by_cases c : 0 ≤ n
  · rw [if_pos c, u64_of (n := n) (by omega), wrap64_of (n := n) (by omega), show n / 9223372036854775808 = 0 from by omega, show IntKind.u64.wrap 0 = 0 from by decide, xoru_zero, u64_wrap]; omega
  · rw [if_neg c, u64_wrap n, show n % 18446744073709551616 = n + 18446744073709551616 from by omega, show wrap64 (n + 18446744073709551616) = n from by unfold wrap64; omega,
      show n / 9223372036854775808 = -1 from by omega, show IntKind.u64.wrap (-1) = 18446744073709551615 from by decide, xoru_ones, u64_wrap]; omega
theorem ref_Zig_eq {n : Int} (h : -9223372036854775808 ≤ n ∧ n ≤ 9223372036854775807) : ecdysisref02_Zig.f n = some (zigN n) := by
  unfold ecdysisref02_Zig.f zigN
  by_cases c : 0 ≤ n
  · rw [if_pos c, if_pos c, u64_of (n := n) (by omega), u64_of (by omega)]
  · rw [if_neg c, if_neg c, wrap64_of (n := n + 1) (by omega), wrap64_of (n := -(n + 1)) (by omega), u64_of (n := -(n + 1)) (by omega), u64_of (n := 2 * -(n + 1)) (by omega), u64_of (by omega)]
    congr 1; omega
theorem num_From_eq (k : Nat) (t : Int) {u : Int} (h : 0 ≤ u ∧ u ≤ 18446744073709551615) : num_From.f (k + 3) t u = some (fromN t u) := by
  have hz : 0 ≤ u % 4294967296 ∧ u % 4294967296 ≤ 18446744073709551615 := by omega
  unfold num_From.f fromN
  simp only [num_From.j0, num_From.j1, num_From.j2, zig_Wide_eq h, num_low_eq h, zig_Zag_eq h, zig_Zag_eq hz, scalar_Number_eq, Option.bind_some, u64_wrap]
  rcases ty_cases t with c | rfl | rfl | rfl | rfl | rfl | rfl | rfl | rfl | rfl | rfl | rfl | rfl | rfl | rfl | rfl
  · have a : ∀ i : Int, 1 ≤ i → i ≤ 15 → t ≠ i := by omega
    have e1 : isNumber t = false := by unfold isNumber; rw [decide_eq_false]; omega
    simp [a, e1]
  case inr.inr.inr.inr.inr.inr.inr.inl =>
    simp
    unfold mn
    by_cases c0 : u = 0
    · subst c0; decide
    · rw [if_neg c0]; split <;> omega
  all_goals simp [isNumber]
theorem ref_From_eq (k : Nat) (t : Int) {u : Int} (h : 0 ≤ u ∧ u ≤ 18446744073709551615) : ecdysisref12_From.f (k + 3) t u = some (fromN t u) := by
  have hz : 0 ≤ u % 4294967296 ∧ u % 4294967296 ≤ 18446744073709551615 := by omega
  unfold ecdysisref12_From.f fromN
  simp only [ecdysisref12_From.j0, ecdysisref12_From.j1, ref_Wide32_eq h, Int.tmod_eq_emod_of_nonneg h.1, ref_Zag_eq h, ref_Zag_eq hz, ref_Number_eq, Option.bind_some, u64_wrap]
  rcases ty_cases t with c | rfl | rfl | rfl | rfl | rfl | rfl | rfl | rfl | rfl | rfl | rfl | rfl | rfl | rfl | rfl
  · have a : ∀ i : Int, 1 ≤ i → i ≤ 15 → t ≠ i := by omega
    have e1 : isNumber t = false := by unfold isNumber; rw [decide_eq_false]; omega
    simp [a, e1]
  case inr.inr.inr.inr.inr.inr.inr.inl =>
    simp
    exact ite_some rfl
  all_goals simp [isNumber]
theorem num_To_eq (k : Nat) (t : Int) {n : Int} (h : 0 ≤ n ∧ n ≤ 18446744073709551615) : num_To.f (k + 3) t n = some (toN t n) := by
  unfold num_To.f toN
  simp only [num_To.j0, num_To.j1, num_low_eq h, zig_Zig_eq (wrap64_range n), scalar_Number_eq, Option.bind_some]
  rcases ty_cases t with c | rfl | rfl | rfl | rfl | rfl | rfl | rfl | rfl | rfl | rfl | rfl | rfl | rfl | rfl | rfl
  · have a : ∀ i : Int, 1 ≤ i → i ≤ 15 → t ≠ i := by omega
    have e1 : isNumber t = false := by unfold isNumber; rw [decide_eq_false]; omega
    simp [a, e1]
  all_goals simp [isNumber]
theorem ref_To_eq (k : Nat) (t : Int) {n : Int} (h : 0 ≤ n ∧ n ≤ 18446744073709551615) : ecdysisref12_To.f (k + 3) t n = some (toN t n) := by
  unfold ecdysisref12_To.f toN
  simp only [ecdysisref12_To.j0, ecdysisref12_To.j1, Int.tmod_eq_emod_of_nonneg h.1, ref_Zig_eq (wrap64_range n), ref_Number_eq, Option.bind_some]
  rcases ty_cases t with c | rfl | rfl | rfl | rfl | rfl | rfl | rfl | rfl | rfl | rfl | rfl | rfl | rfl | rfl | rfl
  · have a : ∀ i : Int, 1 ≤ i → i ≤ 15 → t ≠ i := by omega
    have e1 : isNumber t = false := by unfold isNumber; rw [decide_eq_false]; omega
    simp [a, e1]
  all_goals simp [isNumber]
theorem live12_eq (k : Nat) : ecdysislaw12_live.f (k + 3) = some true := by
  unfold ecdysislaw12_live.f
  rw [num_From_eq k 1 (by omega)]
  simp [fromN, wrap32]
end Go.Proofs.Ytddomdjphkalcaa.Px
