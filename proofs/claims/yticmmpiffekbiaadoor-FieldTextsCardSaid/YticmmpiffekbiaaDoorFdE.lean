/- What the document's functions of fields come to. -/
import Derived.Test.YticmmpiffekbiaaDoorFdC
namespace Go.Proofs.YticmmpiffekbiaaDoor.Fd
open Go Go.Proofs.YticmmpiffekbiaaDoor.Eng Go.Proofs.YticmmpiffekbiaaDoor.Eng.V
set_option linter.unusedSimpArgs false
set_option linter.unusedVariables false
def rwholeF (ty : Int) : Bool := (decide (1 ≤ ty) && decide (ty ≤ 6)) || (decide (8 ≤ ty) && decide (ty ≤ 11))
theorem d_refWhole (ty : Int) : dd i_ref11_Whole [i64 ty] = some (bl (rwholeF ty)) := by
  refine D_runE (V := v_ref11_Whole) 1 rfl rfl rfl ?_
  rw [s_ref11_Whole]
  cases h1 : decide (1 ≤ ty) <;> cases h2 : decide (ty ≤ 6) <;> cases h3 : decide (8 ≤ ty) <;> simp only [X, Y, Z, rwholeF, h1, h2, h3] <;> rfl
def rnumF (ty : Int) : Bool := rwholeF ty || (decide (ty = 7) || decide (ty = 14))
theorem d_refNumber (ty : Int) : dd i_ref11_Number [i64 ty] = some (bl (rnumF ty)) := by
  refine D_runE (V := v_ref11_Number) 1 rfl rfl rfl ?_
  rw [s_ref11_Number]
  cases h1 : rwholeF ty <;> cases h2 : decide (ty = 7) <;> simp only [X, Y, Z, d_refWhole, rnumF, h1, h2] <;> rfl
theorem num_eq (ty : Int) : andK 2 ty = rnumF ty := by
  by_cases h1 : ty < 0
  · have e1 : kindF ty = 0 := if_pos h1
    unfold andK
    rw [e1]
    have e2 : rnumF ty = false := by
      unfold rnumF rwholeF
      rw [Bool.eq_false_iff]
      simp
      omega
    rw [e2]
    decide
  · by_cases h2 : 16 ≤ ty
    · have e1 : kindF ty = 0 := by unfold kindF; rw [if_neg h1, if_pos h2]
      unfold andK
      rw [e1]
      have e2 : rnumF ty = false := by
        unfold rnumF rwholeF
        rw [Bool.eq_false_iff]
        simp
        omega
      rw [e2]
      decide
    · have : ty = 0 ∨ ty = 1 ∨ ty = 2 ∨ ty = 3 ∨ ty = 4 ∨ ty = 5 ∨ ty = 6 ∨ ty = 7 ∨ ty = 8 ∨ ty = 9 ∨ ty = 10 ∨ ty = 11 ∨ ty = 12 ∨ ty = 13 ∨ ty = 14 ∨ ty = 15 := by omega
      rcases this with rfl | rfl | rfl | rfl | rfl | rfl | rfl | rfl | rfl | rfl | rfl | rfl | rfl | rfl | rfl | rfl <;> decide
theorem d_ref04Field (n : Int) : dd i_ref04_Field [i64 n] = some (bl (tagF n)) := by
  refine D_runE (V := v_ref04_Field) 1 rfl rfl rfl ?_
  rw [s_ref04_Field]
  unfold tagF tagnumF
  cases h1 : decide (1 ≤ n) <;> cases h2 : decide (n ≤ 536870911) <;> cases h3 : decide (n < 19000) <;> simp only [X, Y, Z, h1, h2, h3] <;> rfl
theorem d_ref11words : dd i_ref11_words [] = some (.own 1 true [[st noS], [st ⟨#[105, 110, 116, 51, 50]⟩], [st ⟨#[105, 110, 116, 54, 52]⟩], [st ⟨#[117, 105, 110, 116, 51, 50]⟩], [st ⟨#[117, 105, 110, 116, 54, 52]⟩], [st ⟨#[115, 105, 110, 116, 51, 50]⟩], [st ⟨#[115, 105, 110, 116, 54, 52]⟩], [st ⟨#[98, 111, 111, 108]⟩], [st ⟨#[102, 105, 120, 101, 100, 51, 50]⟩], [st ⟨#[102, 105, 120, 101, 100, 54, 52]⟩], [st ⟨#[115, 102, 105, 120, 101, 100, 51, 50]⟩], [st ⟨#[115, 102, 105, 120, 101, 100, 54, 52]⟩], [st ⟨#[115, 116, 114, 105, 110, 103]⟩], [st ⟨#[98, 121, 116, 101, 115]⟩]]) := D_runE (V := v_ref11_words) 1 rfl rfl rfl (by kernel_rfl)
theorem d_refWord (ty : Int) : dd i_ref11_Word [i64 ty] = some (st (wordT ty)) := by
  refine D_runE (V := v_ref11_Word) 1 rfl rfl rfl ?_
  rw [s_ref11_Word]
  by_cases h1 : ty < 1
  · have e : wordT ty = noS := by
      unfold wordT
      by_cases h : ty < 0
      · rw [if_pos h]
      · have : ty = 0 := by omega
        subst this
        rfl
    simp [X, Y, Z, h1, e]
  · by_cases h2 : 13 < ty
    · have e : wordT ty = noS := by
        unfold wordT
        rw [if_neg (by omega)]
        by_cases h : 16 ≤ ty
        · rw [if_pos h]
        · have : ty = 14 ∨ ty = 15 := by omega
          rcases this with rfl | rfl <;> rfl
      simp [X, Y, Z, h1, h2, e]
    · have : ty = 1 ∨ ty = 2 ∨ ty = 3 ∨ ty = 4 ∨ ty = 5 ∨ ty = 6 ∨ ty = 7 ∨ ty = 8 ∨ ty = 9 ∨ ty = 10 ∨ ty = 11 ∨ ty = 12 ∨ ty = 13 := by omega
      rcases this with rfl | rfl | rfl | rfl | rfl | rfl | rfl | rfl | rfl | rfl | rfl | rfl | rfl <;> simp [X, Y, Z, d_ref11words, Xi, wordT]
def rchk2 (f : Fld) : Int := bif !tagF f.Num || (decide (f.Ty < 1) || (decide (15 < f.Ty) || (f.Rep && !decide (f.One = noS)))) then 1 else bif f.Loose && (!f.Rep || !rnumF f.Ty) then 1 else 0
theorem j_rCheck (f : Fld) : J_ref14_Check_0 dd Prim.powG 1 [((1, 0), .var f.cells false)] (.ptr (1, 0) 0) = some (i64 (rchk2 f)) := by
  obtain ⟨a1, a2, a3, a4, rep, loose, one⟩ := f
  cases h0 : tagF a2
  · simp [J_ref14_Check_0, X, Y, Z, d_ref04Field, rchk2, h0]
  · by_cases h1 : a3 < 1
    · simp [J_ref14_Check_0, X, Y, Z, d_ref04Field, rchk2, h0, h1]
    · by_cases h2 : 15 < a3
      · simp [J_ref14_Check_0, X, Y, Z, d_ref04Field, rchk2, h0, h1, h2]
      · cases rep <;> cases loose <;> cases h3 : decide (one = noS) <;> cases h4 : rnumF a3 <;> simp [J_ref14_Check_0, X, Y, Z, d_ref04Field, d_refNumber, rchk2, h0, h1, h2, h3, h4]
def rcheckF (f : Fld) : Int := bif !rrightF f.Name || (!decide (f.One = noS) && !rrightF f.One) then 2 else bif refersF f.Ty then (bif !rrightF f.Ref then 2 else rchk2 f) else (bif !decide (f.Ref = noS) then 2 else rchk2 f)
theorem d_rCheck (f : Fld) : dd i_ref14_Check [fl f] = some (i64 (rcheckF f)) := by
  refine D_runE (V := v_ref14_Check) 1 rfl rfl rfl ?_
  rw [s_ref14_Check]
  have hj := j_rCheck f
  cases h1 : rrightF f.Name
  · simp [X, Y, Z, d_refRight, h1, rcheckF]
  · cases h2 : decide (f.One = noS) <;> cases h3 : rrightF f.One <;> cases h4 : decide (f.Ty = 14) <;> cases h5 : decide (f.Ty = 15) <;> cases h6 : rrightF f.Ref <;> cases h7 : decide (f.Ref = noS) <;>
    simp [X, Y, Z, d_refRight, h1, h2, h3, h4, h5, h6, h7, hj, rcheckF, refersF]
theorem check_eq (f : Fld) : checkF f = rcheckF f := by
  unfold checkF rcheckF namedF named2 chk2 rchk2
  simp only [right_eq, num_eq]
  cases rrightF f.Name <;> cases decide (f.One = noS) <;> cases rrightF f.One <;> cases refersF f.Ty <;> cases rrightF f.Ref <;> cases decide (f.Ref = noS) <;> cases tagF f.Num <;> cases decide (f.Ty < 1) <;> cases decide (15 < f.Ty) <;> cases f.Rep <;> cases f.Loose <;> cases rnumF f.Ty <;> rfl
theorem d_rPacked (f : Fld) : dd i_ref14_Packed [fl f] = some (bl (packedF f)) := by
  refine D_runE (V := v_ref14_Packed) 1 rfl rfl rfl ?_
  rw [s_ref14_Packed]
  unfold packedF
  rw [num_eq]
  obtain ⟨a1, a2, a3, a4, rep, loose, one⟩ := f
  cases rep <;> cases loose <;> cases h : rnumF a3 <;> simp [X, Y, Z, d_refNumber, h]
theorem d_rHidden (f : Fld) : dd i_ref14_Hidden [fl f] = some (bl (hiddenF f)) := by
  refine D_runE (V := v_ref14_Hidden) 1 rfl rfl rfl ?_
  rw [s_ref14_Hidden]
  obtain ⟨a1, a2, a3, a4, rep, loose, one⟩ := f
  cases rep <;> cases h2 : decide (one = noS) <;> simp [X, Y, Z, hiddenF, h2]
end Go.Proofs.YticmmpiffekbiaaDoor.Fd
