/- What types of 32 bits read hangs on the lowest 32 bits alone, and 0 is 0 on every wire. No condition but that the numbers are of their kinds. -/
import Derived.Test.YtddomdjphkalcaaPx0
import Derived.Test.YtddomdjphkalcaaPx11
import Derived.Test.YtddomdjphkalcaaNum
namespace Go.Proofs.Ytddomdjphkalcaa.Pure
open Go.RowKit Go.Proofs.Ytddomdjphkalcaa.Px Go.Proofs.YtddomdjphkalcaaW.PrintWords Go.Proofs.YtddomdjphkalcaaW.PrintLast
set_option linter.unusedSimpArgs false
set_option linter.unusedVariables false

theorem from_short {t l h : Int} (hl : 0 ≤ l ∧ l ≤ 4294967295) (hh : 0 ≤ h ∧ h ≤ 4294967295) (hw : isWhole t = true) (hs : isWide t = false) : fromN t (h * 4294967296 + l) = fromN t l := by
  rcases ty_cases t with c | rfl | rfl | rfl | rfl | rfl | rfl | rfl | rfl | rfl | rfl | rfl | rfl | rfl | rfl | rfl
  · unfold isWhole at hw; simp only [decide_eq_true_eq] at hw; omega
  all_goals first | (exfalso; revert hw hs; decide) | skip
  all_goals
    simp [fromN, wrap32, zagN]
  all_goals first | omega | (repeat' split) <;> omega
theorem NumShort : ecdysislaw12_NumShort.Pure := by
  intro t l h _ hl hh
  have hl := u32_bounds hl
  have hh := u32_bounds hh
  refine ⟨6, ?_⟩
  unfold ecdysislaw12_NumShort.f
  rw [u64_of (n := h) (by omega), u64_of (n := l) (by omega), u64_of (n := h * 4294967296) (by omega), or_high h l hh hl]
  simp only [ecdysislaw12_NumShort.j0, ref_Whole_eq, ref_Wide_eq, num_From_eq 2 t (u := 0) (by omega), num_To_eq 2 t (n := 0) (by omega), num_From_eq 3 t (u := h * 4294967296 + l) (by omega), num_From_eq 3 t (u := l) (by omega), live12_eq 2, Option.bind_some, if_true]
  have f0 : fromN t 0 = 0 := by simp [fromN, wrap32, zagN]
  have t0 : toN t 0 = 0 := by simp [toN, zigN, wrap64]
  rw [f0, t0]
  by_cases hw : isWhole t = true
  · cases hs : isWide t with
    | true => simp [hw]
    | false => simp [hw, from_short hl hh hw hs]
  · simp [hw]

end Go.Proofs.Ytddomdjphkalcaa.Pure
