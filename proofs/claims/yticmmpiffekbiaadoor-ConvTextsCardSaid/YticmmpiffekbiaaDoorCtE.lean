/- Types of values, the document's. -/
import Derived.Test.YticmmpiffekbiaaDoorCtD
namespace Go.Proofs.YticmmpiffekbiaaDoor.Ct
open Go Go.Proofs.YticmmpiffekbiaaDoor.Eng Go.Proofs.YticmmpiffekbiaaDoor.Eng.V
set_option linter.unusedSimpArgs false
set_option linter.unusedVariables false
def kindF (ty : Int) : Int := if ty < 0 then 0 else if 16 ≤ ty then 0 else [0, 7, 15, 3, 11, 7, 15, 2, 3, 11, 7, 15, 0, 0, 6, 0].getD ty.toNat 0
theorem d_kind (ty : Int) : dd i_scalar_kind [i64 ty] = some (i64 (kindF ty)) := by
  refine D_runE (V := v_scalar_kind) 1 rfl rfl rfl ?_
  rw [s_scalar_kind]
  by_cases h1 : ty < 0
  · simp [X, Y, Z, h1, kindF]
  · by_cases h2 : 16 ≤ ty
    · simp [X, Y, Z, h1, h2, kindF]
    · have : ty = 0 ∨ ty = 1 ∨ ty = 2 ∨ ty = 3 ∨ ty = 4 ∨ ty = 5 ∨ ty = 6 ∨ ty = 7 ∨ ty = 8 ∨ ty = 9 ∨ ty = 10 ∨ ty = 11 ∨ ty = 12 ∨ ty = 13 ∨ ty = 14 ∨ ty = 15 := by omega
      rcases this with rfl | rfl | rfl | rfl | rfl | rfl | rfl | rfl | rfl | rfl | rfl | rfl | rfl | rfl | rfl | rfl <;> simp [X, Y, Z, kindF]
def andK (m : Int) (ty : Int) : Bool := !decide (IntKind.i64.wrap (BitVec.ofInt 64 (kindF ty) &&& BitVec.ofInt 64 m).toNat = 0)
theorem d_Whole (ty : Int) : dd i_scalar_Whole [i64 ty] = some (bl (andK 1 ty)) := by
  refine D_runE (V := v_scalar_Whole) 1 rfl rfl rfl ?_
  rw [s_scalar_Whole]
  simp only [X, Y, Z, d_kind, andK]
  rfl
theorem d_Signed (ty : Int) : dd i_scalar_Signed [i64 ty] = some (bl (andK 4 ty)) := by
  refine D_runE (V := v_scalar_Signed) 1 rfl rfl rfl ?_
  rw [s_scalar_Signed]
  simp only [X, Y, Z, d_kind, andK]
  rfl
theorem d_Wide (ty : Int) : dd i_scalar_Wide [i64 ty] = some (bl (andK 8 ty)) := by
  refine D_runE (V := v_scalar_Wide) 1 rfl rfl rfl ?_
  rw [s_scalar_Wide]
  simp only [X, Y, Z, d_kind, andK]
  rfl
theorem d_Fits (n : Int) : dd i_zig_Fits [i64 n] = some (bl (decide (IntKind.i64.wrap (IntKind.i32.wrap n) = n))) := by
  refine D_runE (V := v_zig_Fits) 1 rfl rfl rfl ?_
  rw [s_zig_Fits]
  simp [X, Y, Z]
def mayF (ty n : Int) : Bool := if ty < 1 then false else if ty > 15 then false else bif andK 8 ty then true else bif andK 4 ty then decide (IntKind.i64.wrap (IntKind.i32.wrap (IntKind.i64.wrap n)) = IntKind.i64.wrap n) else bif andK 1 ty then decide (n.fdiv 4294967296 = 0) else bif decide (ty = 7) then decide (n ≤ 1) else decide (n = 0)
theorem d_May (ty n : Int) : dd i_scalar_May [i64 ty, u64 n] = some (bl (mayF ty n)) := by
  refine D_runE (V := v_scalar_May) 1 rfl rfl rfl ?_
  rw [s_scalar_May]
  by_cases h1 : ty < 1 <;> by_cases h2 : 15 < ty <;> cases h3 : andK 8 ty <;> cases h4 : andK 4 ty <;> cases h5 : andK 1 ty <;> cases h6 : decide (ty = 7) <;>
  simp only [X, Y, Z, d_Wide, d_Whole, d_Signed, d_Fits, mayF, h1, h2, h3, h4, h5, h6, decide_true, decide_false] <;> simp [X, Y, Z, IntKind.bits]
def rwholeF (ty : Int) : Bool := (decide (1 ≤ ty) && decide (ty ≤ 6)) || (decide (8 ≤ ty) && decide (ty ≤ 11))
theorem d_refWhole (ty : Int) : dd i_ref11_Whole [i64 ty] = some (bl (rwholeF ty)) := by
  refine D_runE (V := v_ref11_Whole) 1 rfl rfl rfl ?_
  rw [s_ref11_Whole]
  cases h1 : decide (1 ≤ ty) <;> cases h2 : decide (ty ≤ 6) <;> cases h3 : decide (8 ≤ ty) <;> simp only [X, Y, Z, rwholeF, h1, h2, h3] <;> rfl
def rsgnF (ty : Int) : Bool := decide (ty = 1) || (decide (ty = 2) || (decide (ty = 5) || (decide (ty = 6) || (decide (ty = 10) || (decide (ty = 11) || decide (ty = 14))))))
theorem d_refSigned (ty : Int) : dd i_ref11_Signed [i64 ty] = some (bl (rsgnF ty)) := by
  refine D_runE (V := v_ref11_Signed) 1 rfl rfl rfl ?_
  rw [s_ref11_Signed]
  unfold rsgnF
  cases h1 : decide (ty = 1) <;> cases h2 : decide (ty = 2) <;> cases h3 : decide (ty = 5) <;> cases h4 : decide (ty = 6) <;> cases h5 : decide (ty = 10) <;> cases h6 : decide (ty = 11) <;> simp only [X, Y, Z, h1, h2, h3, h4, h5, h6] <;> rfl
def rwideF (ty : Int) : Bool := decide (ty = 2) || (decide (ty = 4) || (decide (ty = 6) || (decide (ty = 9) || decide (ty = 11))))
theorem d_refWide (ty : Int) : dd i_ref11_Wide [i64 ty] = some (bl (rwideF ty)) := by
  refine D_runE (V := v_ref11_Wide) 1 rfl rfl rfl ?_
  rw [s_ref11_Wide]
  unfold rwideF
  cases h1 : decide (ty = 2) <;> cases h2 : decide (ty = 4) <;> cases h3 : decide (ty = 6) <;> cases h4 : decide (ty = 9) <;> simp only [X, Y, Z, h1, h2, h3, h4] <;> rfl
def rfitF (n : Int) : Bool := decide (-2147483648 ≤ n) && decide (n ≤ 2147483647)
theorem d_refFits (n : Int) : dd i_ref02_Fits [i64 n] = some (bl (rfitF n)) := by
  refine D_runE (V := v_ref02_Fits) 1 rfl rfl rfl ?_
  rw [s_ref02_Fits]
  unfold rfitF
  cases h1 : decide (-2147483648 ≤ n) <;> simp only [X, Y, Z, h1] <;> rfl
def rmayF (ty n : Int) : Bool := bif decide (ty < 1) || decide (15 < ty) then false else bif rwideF ty then true else bif rsgnF ty then rfitF (IntKind.i64.wrap n) else bif decide (ty = 3) || decide (ty = 8) then decide (n < 4294967296) else bif decide (ty = 7) then decide (n < 2) else decide (n = 0)
theorem d_refMay (ty n : Int) : dd i_ref11_May [i64 ty, u64 n] = some (bl (rmayF ty n)) := by
  refine D_runE (V := v_ref11_May) 1 rfl rfl rfl ?_
  rw [s_ref11_May]
  unfold rmayF
  cases h1 : decide (ty < 1) <;> cases h2 : decide (15 < ty) <;> cases h3 : rwideF ty <;> cases h4 : rsgnF ty <;> cases h5 : decide (ty = 3) <;> cases h6 : decide (ty = 8) <;> cases h7 : decide (ty = 7) <;>
  simp only [X, Y, Z, d_refWide, d_refSigned, d_refFits, h1, h2, h3, h4, h5, h6, h7] <;> rfl
theorem of_type {P : Int → Prop} (h0 : ∀ ty, ty < 1 → P ty) (h16 : ∀ ty, 15 < ty → P ty) (h : P 1 ∧ P 2 ∧ P 3 ∧ P 4 ∧ P 5 ∧ P 6 ∧ P 7 ∧ P 8 ∧ P 9 ∧ P 10 ∧ P 11 ∧ P 12 ∧ P 13 ∧ P 14 ∧ P 15) (ty : Int) : P ty := by
  by_cases h1 : ty < 1
  · exact h0 ty h1
  · by_cases h2 : 15 < ty
    · exact h16 ty h2
    · obtain ⟨a1, a2, a3, a4, a5, a6, a7, a8, a9, a10, a11, a12, a13, a14, a15⟩ := h
      have : ty = 1 ∨ ty = 2 ∨ ty = 3 ∨ ty = 4 ∨ ty = 5 ∨ ty = 6 ∨ ty = 7 ∨ ty = 8 ∨ ty = 9 ∨ ty = 10 ∨ ty = 11 ∨ ty = 12 ∨ ty = 13 ∨ ty = 14 ∨ ty = 15 := by omega
      rcases this with rfl | rfl | rfl | rfl | rfl | rfl | rfl | rfl | rfl | rfl | rfl | rfl | rfl | rfl | rfl <;> assumption
theorem kind_lo (ty : Int) (h : ty < 1) : kindF ty = 0 := by
  unfold kindF
  by_cases h1 : ty < 0
  · rw [if_pos h1]
  · have : ty = 0 := by omega
    subst this
    rfl
theorem kind_hi (ty : Int) (h : 15 < ty) : kindF ty = 0 := by
  unfold kindF
  rw [if_neg (by omega), if_pos (by omega)]
theorem whole_eq : ∀ ty, andK 1 ty = rwholeF ty := of_type (fun ty h => by
    unfold andK rwholeF; rw [kind_lo ty h]
    have e1 : decide (1 ≤ ty) = false := by rw [decide_eq_false_iff_not]; omega
    have e2 : decide (8 ≤ ty) = false := by rw [decide_eq_false_iff_not]; omega
    rw [e1, e2, Bool.false_and, Bool.false_and]; decide) (fun ty h => by
    unfold andK rwholeF; rw [kind_hi ty h]
    have e1 : decide (ty ≤ 6) = false := by rw [decide_eq_false_iff_not]; omega
    have e2 : decide (ty ≤ 11) = false := by rw [decide_eq_false_iff_not]; omega
    rw [e1, e2, Bool.and_false, Bool.and_false]; decide) (by decide)
theorem may_eq (ty n : Int) (h0 : 0 ≤ n) (h1 : n < 18446744073709551616) : mayF ty n = rmayF ty n := by
  have hf : decide (IntKind.i64.wrap (IntKind.i32.wrap (IntKind.i64.wrap n)) = IntKind.i64.wrap n) = rfitF (IntKind.i64.wrap n) := by
    rw [Bool.eq_iff_iff]
    simp [rfitF, IntKind.wrap, IntKind.bits, IntKind.signed]
    omega
  have hw : decide (n.fdiv 4294967296 = 0) = decide (n < 4294967296) := by
    rw [Int.fdiv_eq_ediv_of_nonneg _ (by decide), decide_eq_decide]
    omega
  have h7 : decide (n ≤ 1) = decide (n < 2) := by rw [decide_eq_decide]; omega
  unfold mayF rmayF
  rw [hf, hw, h7]
  generalize rfitF (IntKind.i64.wrap n) = b1
  generalize decide (n < 4294967296) = b2
  generalize decide (n < 2) = b3
  generalize decide (n = 0) = b4
  revert ty
  refine of_type (fun ty h => ?_) (fun ty h => ?_) ?_
  · rw [if_pos h, decide_eq_true h]; rfl
  · rw [if_neg (by omega), if_pos h, decide_eq_true h, Bool.or_true]; rfl
  · refine ⟨rfl, rfl, rfl, rfl, rfl, rfl, rfl, rfl, rfl, rfl, rfl, rfl, rfl, rfl, rfl⟩
end Go.Proofs.YticmmpiffekbiaaDoor.Ct
