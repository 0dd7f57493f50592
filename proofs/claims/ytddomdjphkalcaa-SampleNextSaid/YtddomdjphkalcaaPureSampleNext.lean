/- The statement on seeds, over numbers alone: for every two seeds the program's next seed and its number are the document's, and two seeds have the same next one just if they are the same. No condition but that each seed is a number of 64 bits. -/
import Derived.Test.YtddomdjphkalcaaPSampleNextx1
namespace Go.Proofs.Ytddomdjphkalcaa.Pure
open Go.RowKit Go.Proofs.Ytddomdjphkalcaa.PSampleNext Go.Proofs.YtddomdjphkalcaaW.PrintWords Go.Proofs.YtddomdjphkalcaaW.PrintLast

theorem u64_wrap (x : Int) : IntKind.u64.wrap x = x % 18446744073709551616 := by
  simp [IntKind.wrap, IntKind.bits, IntKind.signed]
theorem u64_bounds {x : Int} (h : (Lit.int .u64 x).wf = true) : 0 ≤ x ∧ x ≤ 18446744073709551615 := by
  simpa [Lit.wf, IntKind.min, IntKind.max, IntKind.bits, IntKind.signed] using h
theorem n1 {a b : Int}
    (h : (a * 6364136223846793005 % 18446744073709551616 + 1442695040888963407) % 18446744073709551616 = (b * 6364136223846793005 % 18446744073709551616 + 1442695040888963407) % 18446744073709551616) :  a * 6364136223846793005 % 18446744073709551616 = b * 6364136223846793005 % 18446744073709551616 := by
  generalize a * 6364136223846793005 = x at *
  generalize b * 6364136223846793005 = y at *
  omega
theorem n2 {a : Int} (ha : 0 ≤ a ∧ a ≤ 18446744073709551615) : (a * 6364136223846793005 % 18446744073709551616) * 13877824140714322085 % 18446744073709551616 = a := by
  rw [Int.mul_emod, Int.emod_emod, ← Int.mul_emod, Int.mul_assoc, Int.mul_emod]
  simp only [show (6364136223846793005 * 13877824140714322085 : Int) % 18446744073709551616 = 1 from by simp]
  rw [Int.mul_one, Int.emod_emod]
  omega
theorem next_one {a b : Int} (ha : 0 ≤ a ∧ a ≤ 18446744073709551615) (hb : 0 ≤ b ∧ b ≤ 18446744073709551615)
    (h : (a * 6364136223846793005 % 18446744073709551616 + 1442695040888963407) % 18446744073709551616 = (b * 6364136223846793005 % 18446744073709551616 + 1442695040888963407) % 18446744073709551616) : a = b := by
  rw [← n2 ha, n1 h, n2 hb]

theorem SampleNext : ecdysislaw46_SampleNext.Pure := by
  intro a b ha hb
  have ha := u64_bounds ha
  have hb := u64_bounds hb
  have hl : ecdysislaw46_live.f = some true := by
    unfold ecdysislaw46_live.f sample_Next.f
    simp only [Option.bind_some, u64_wrap]
    simp
  unfold ecdysislaw46_SampleNext.f
  rw [hl]
  unfold sample_Next.f ecdysisref46_Next.f
  have hq : ∀ x : Int, Int.tdiv (x % 18446744073709551616) 4294967296 % 18446744073709551616 = x % 18446744073709551616 / 4294967296 := by
    intro x
    rw [Int.tdiv_eq_ediv_of_nonneg (by omega)]
    omega
  simp only [Option.bind_some, u64_wrap, hq, if_true]
  rw [if_pos]
  by_cases e : a = b
  · subst e; simp
  · have : ¬ (a * 6364136223846793005 % 18446744073709551616 + 1442695040888963407) % 18446744073709551616 = (b * 6364136223846793005 % 18446744073709551616 + 1442695040888963407) % 18446744073709551616 := fun h => e (next_one ha hb h)
    rw [beq_eq_false_iff_ne.mpr e, beq_eq_false_iff_ne.mpr this]; rfl

end Go.Proofs.Ytddomdjphkalcaa.Pure
