/- Texts of values. -/
import Derived.Test.YticmmpiffekbiaaDoorCtE
namespace Go.Proofs.YticmmpiffekbiaaDoor.Ct
open Go Go.Proofs.YticmmpiffekbiaaDoor.Eng Go.Proofs.YticmmpiffekbiaaDoor.Eng.V
set_option linter.unusedSimpArgs false
set_option linter.unusedVariables false
/-- A number: how far from 0, on which side. -/
abbrev nu (p : Int × Bool) : AV := .agg [u64 p.1, bl p.2]
def cofF (ty n : Int) : Int × Bool := bif andK 4 ty && decide (IntKind.i64.wrap n < 0) then (IntKind.u64.wrap (-n), true) else (n, false)
theorem d_cof (ty n : Int) : dd i_conv_of [i64 ty, u64 n] = some (nu (cofF ty n)) := by
  refine D_runE (V := v_conv_of) 1 rfl rfl rfl ?_
  rw [s_conv_of]
  cases h1 : andK 4 ty <;> by_cases h2 : IntKind.i64.wrap n < 0 <;> simp [X, Y, Z, d_Signed, cofF, h1, h2]
def rightF (ty n : Int) : Bool := andK 1 ty && mayF ty n
theorem d_cright (ty n : Int) : dd i_conv_right [i64 ty, u64 n] = some (bl (rightF ty n)) := by
  refine D_runE (V := v_conv_right) 1 rfl rfl rfl ?_
  rw [s_conv_right]
  cases h1 : andK 1 ty <;> simp [X, Y, Z, d_Whole, d_May, rightF, h1]
/-- The value of a type with a number. -/
def valF (p : Int × Bool) (ty : Int) : Int × Bool :=
  let n := if p.2 = true then IntKind.u64.wrap (-p.1) else p.1
  if rightF ty n = true ∧ cofF ty n = p then (n, true) else (0, false)
theorem d_cvalue (p : Int × Bool) (ty : Int) : dd i__conv_number__value [nu p, i64 ty] = some (.tup [u64 (valF p ty).1, bl (valF p ty).2]) := by
  refine D_runE (V := v__conv_number__value) 1 rfl rfl rfl ?_
  rw [s__conv_number__value]
  obtain ⟨f, g⟩ := p
  cases g
  · cases h1 : andK 1 ty <;> cases h2 : mayF ty f <;> by_cases h3 : (cofF ty f).1 = f <;> cases h4 : (cofF ty f).2 <;>
    simp [J__conv_number__value_0, X, Y, Z, d_Whole, d_May, d_cof, valF, rightF, h1, h2, h3, h4, Prod.ext_iff]
  · cases h1 : andK 1 ty <;> cases h2 : mayF ty (IntKind.u64.wrap (-f)) <;> by_cases h3 : (cofF ty (IntKind.u64.wrap (-f))).1 = f <;> cases h4 : (cofF ty (IntKind.u64.wrap (-f))).2 <;>
    simp [J__conv_number__value_0, X, Y, Z, d_Whole, d_May, d_cof, valF, rightF, h1, h2, h3, h4, Prod.ext_iff]
def convF (a b n : Int) : Int × Bool := if rightF a n = true then valF (cofF a n) b else (0, false)
theorem d_Conv (a b n : Int) : dd i_conv_Conv [i64 a, i64 b, u64 n] = some (.tup [u64 (convF a b n).1, bl (convF a b n).2]) := by
  refine D_runE (V := v_conv_Conv) 1 rfl rfl rfl ?_
  rw [s_conv_Conv]
  cases h1 : rightF a n <;> simp [X, Y, Z, d_cright, d_cof, d_cvalue, convF, h1]
/-- A number's digits. -/
def digU (n : Nat) : ByteArray := ⟨(Lib.decDigits n).toArray⟩
theorem d_FormatUint (n : Int) (h : 0 ≤ n) (h' : n < 18446744073709551616) : dd i_strconv_FormatUint [u64 n, i64 10] = some (st (digU n.toNat)) := D_prim (by simp [Prim.prims, h, h', digU])
def digF (n : Int) (neg : Bool) : ByteArray := bif neg && !decide (n = 0) then (⟨#[45]⟩ : ByteArray) ++ digU n.toNat else digU n.toNat
theorem digU_size (n : Nat) (h : n < 18446744073709551616) : (digU n).size ≤ 20 := by
  have e : (digU n).size = (Lib.decDigits n).length := by simp [digU, ByteArray.size]
  rw [e, Lib.decDigits_length]
  by_cases h1 : 1 ≤ n
  · have := Lib.numDigits_eq n h1 h; split at this <;> omega
  · have : n = 0 := by omega
    subst this
    simp [Lib.nDigits_small]
theorem d_lexDigits (n : Int) (neg : Bool) (h : 0 ≤ n) (h' : n < 18446744073709551616) : dd i_lex_Digits [u64 n, bl neg] = some (st (digF n neg)) := by
  refine D_runE (V := v_lex_Digits) 1 rfl rfl rfl ?_
  rw [s_lex_Digits]
  have hs := digU_size n.toNat (by omega)
  have hz : (⟨#[45]⟩ : ByteArray).size + (digU n.toNat).size ≤ 9223372036854775807 := by
    have : (⟨#[45]⟩ : ByteArray).size = 1 := rfl
    omega
  have hz' : decide ((⟨#[45]⟩ : ByteArray).size + (digU n.toNat).size ≤ 9223372036854775807) = true := decide_eq_true hz
  have hF := d_FormatUint n h h'
  cases neg <;> cases h0 : decide (n = 0) <;> simp only [X, Y, Z, hF, h0, digF, hz'] <;> rfl
def cdigF (ty n : Int) : ByteArray := if rightF ty n = true then digF (cofF ty n).1 (cofF ty n).2 else ⟨#[]⟩
theorem cof_range (ty n : Int) (h : 0 ≤ n) (h' : n < 18446744073709551616) : 0 ≤ (cofF ty n).1 ∧ (cofF ty n).1 < 18446744073709551616 := by
  unfold cofF
  cases andK 4 ty && decide (IntKind.i64.wrap n < 0)
  · exact ⟨h, h'⟩
  · simp only [cond_true, IntKind.wrap_u64]; omega
theorem d_convDigits (ty n : Int) (h : 0 ≤ n) (h' : n < 18446744073709551616) : dd i_conv_Digits [i64 ty, u64 n] = some (st (cdigF ty n)) := by
  refine D_runE (V := v_conv_Digits) 1 rfl rfl rfl ?_
  rw [s_conv_Digits]
  obtain ⟨r1, r2⟩ := cof_range ty n h h'
  cases h1 : rightF ty n <;> simp [X, Y, Z, d_cright, d_cof, d_lexDigits _ _ r1 r2, cdigF, h1]
theorem d_live13 : dd i_law13_live [] = some (bl true) := by
  refine D_runE (V := v_law13_live) 1 rfl rfl rfl ?_
  rw [s_law13_live]
  have e1 : convF 2 3 18446744073709551615 = (0, false) := by decide +kernel
  have e2 : cdigF 1 18446744073709551615 = ⟨#[45, 49]⟩ := by decide +kernel
  simp [X, Y, Z, d_Conv, d_convDigits, e1, e2]
theorem sgn_eq (ty : Int) (h1 : 1 ≤ ty) (h2 : ty ≤ 15) : andK 4 ty = rsgnF ty := by
  have : ty = 1 ∨ ty = 2 ∨ ty = 3 ∨ ty = 4 ∨ ty = 5 ∨ ty = 6 ∨ ty = 7 ∨ ty = 8 ∨ ty = 9 ∨ ty = 10 ∨ ty = 11 ∨ ty = 12 ∨ ty = 13 ∨ ty = 14 ∨ ty = 15 := by omega
  rcases this with rfl | rfl | rfl | rfl | rfl | rfl | rfl | rfl | rfl | rfl | rfl | rfl | rfl | rfl | rfl <;> rfl
theorem d_split (ty n : Int) (h0 : 0 ≤ n) (h' : n < 18446744073709551616) (h1 : 1 ≤ ty) (h2 : ty ≤ 15) : dd i_ref13_split [i64 ty, u64 n] = some (.tup [u64 (cofF ty n).1, bl (cofF ty n).2]) := by
  refine D_runE (V := v_ref13_split) 1 rfl rfl rfl ?_
  rw [s_ref13_split]
  have hd : decide (IntKind.i64.wrap n < 0) = decide (9223372036854775808 ≤ n) := by
    rw [decide_eq_decide]
    simp [IntKind.wrap, IntKind.bits, IntKind.signed]
    omega
  unfold cofF
  rw [sgn_eq ty h1 h2, hd]
  cases h3 : rsgnF ty <;> cases h4 : decide (9223372036854775808 ≤ n) <;> simp only [X, Y, Z, d_refSigned, h3, h4] <;> simp [X, Y, Z]
theorem cof_neg (ty n : Int) (h0 : 0 ≤ n) (h' : n < 18446744073709551616) (h : (cofF ty n).2 = true) : (cofF ty n).1 ≠ 0 ∧ (cofF ty n).1 ≤ 9223372036854775808 ∧ IntKind.u64.wrap (-(cofF ty n).1) = n := by
  unfold cofF at h ⊢
  cases hc : andK 4 ty && decide (IntKind.i64.wrap n < 0)
  · rw [hc] at h; cases h
  · simp only [cond_true]
    have h2 : IntKind.i64.wrap n < 0 := of_decide_eq_true (Bool.and_eq_true_iff.1 hc).2
    simp only [IntKind.wrap, IntKind.bits, IntKind.signed] at h2 ⊢
    simp at h2 ⊢
    omega
theorem cof_pos (ty n : Int) (h : (cofF ty n).2 = false) : (cofF ty n).1 = n := by
  unfold cofF at h ⊢
  cases hc : andK 4 ty && decide (IntKind.i64.wrap n < 0)
  · rfl
  · rw [hc] at h; cases h
theorem digF_eq (n : Int) (neg : Bool) (h0 : 0 ≤ n) : digF n neg = rdigF n.toNat neg := by
  unfold digF rdigF digU
  by_cases hz : n.toNat = 0
  · have : n = 0 := by omega
    subst this
    rw [if_pos hz]
    simp [Lib.decDigits_one]
  · rw [if_neg hz]
    have : ¬ n = 0 := by omega
    rw [decide_eq_false this, Bool.not_false, Bool.and_true]
theorem d_rDigits13 (ty n : Int) (h0 : 0 ≤ n) (h' : n < 18446744073709551616) : dd i_ref13_Digits [i64 ty, u64 n] = some (st (cdigF ty n)) := by
  refine D_runE (V := v_ref13_Digits) 1 rfl rfl rfl ?_
  rw [s_ref13_Digits]
  obtain ⟨r1, r2⟩ := cof_range ty n h0 h'
  have hw := whole_eq ty
  have hm := may_eq ty n h0 h'
  unfold cdigF rightF
  rw [hw, hm]
  cases h1 : rwholeF ty
  · simp [X, Y, Z, d_refWhole, h1]
  · cases h2 : rmayF ty n
    · simp [X, Y, Z, d_refWhole, d_refMay, h1, h2]
    · have hr : 1 ≤ ty ∧ ty ≤ 15 := by
        unfold rwholeF at h1
        simp at h1
        omega
      have hs := d_split ty n h0 h' hr.1 hr.2
      have hd := d_refDigits (cofF ty n).1.toNat (cofF ty n).2 (by omega)
      rw [Int.toNat_of_nonneg r1] at hd
      rw [if_pos (by rfl), digF_eq _ _ r1]
      simp [X, Y, Z, d_refWhole, d_refMay, h1, h2, hs, hd]
theorem d_zero : dd i_conv_zero [] = some (nu (0, false)) := D_runE (V := v_conv_zero) 1 rfl rfl rfl (by kernel_rfl)
theorem d_Read (ty m : Int) (neg : Bool) : dd i_conv_Read [i64 ty, u64 m, bl neg] = some (bif decide (m = 0) then .tup [u64 (valF (0, false) ty).1, bl (valF (0, false) ty).2] else .tup [u64 (valF (m, neg) ty).1, bl (valF (m, neg) ty).2]) := by
  refine D_runE (V := v_conv_Read) 1 rfl rfl rfl ?_
  rw [s_conv_Read]
  have k1 := d_cvalue (0, false) ty
  have k2 := d_cvalue (m, neg) ty
  cases h : decide (m = 0) <;> simp [X, Y, Z, d_zero, k1, k2, h]
theorem val_back (ty n : Int) (h0 : 0 ≤ n) (h' : n < 18446744073709551616) (hr : rightF ty n = true) : valF (cofF ty n) ty = (n, true) := by
  unfold valF
  cases hc : (cofF ty n).2
  · have := cof_pos ty n hc
    simp [hc, this, hr]
  · have := cof_neg ty n h0 h' hc
    simp [hc, this.2.2, hr]
theorem d_ConvTexts (ty n : Int) (h0 : 0 ≤ n) (h' : n < 18446744073709551616) : dd i_law13_ConvTexts [i64 ty, u64 n] = some (bl true) := by
  refine D_runE (V := v_law13_ConvTexts) 1 rfl rfl rfl ?_
  rw [s_law13_ConvTexts]
  have k1 := d_convDigits ty n h0 h'
  have k2 := d_rDigits13 ty n h0 h'
  obtain ⟨r1, r2⟩ := cof_range ty n h0 h'
  cases hr : rightF ty n
  · have e : cdigF ty n = ⟨#[]⟩ := by unfold cdigF; rw [hr]; rfl
    rw [e] at k1 k2
    unfold rightF at hr
    rw [whole_eq, may_eq ty n h0 h'] at hr
    cases h1 : rwholeF ty
    · simp [X, Y, Z, k1, k2, d_refWhole, d_refMay, h1, d_live13]
    · rw [h1, Bool.true_and] at hr
      simp [X, Y, Z, k1, k2, d_refWhole, d_refMay, h1, hr, d_live13]
  · have hb := val_back ty n h0 h' hr
    have e : cdigF ty n = rdigF (cofF ty n).1.toNat (cofF ty n).2 := by unfold cdigF; rw [hr, if_pos rfl, digF_eq _ _ r1]
    have hn : (cofF ty n).2 = true → (cofF ty n).1.toNat ≠ 0 ∧ (cofF ty n).1.toNat ≤ 9223372036854775808 := fun hc => by
      have := cof_neg ty n h0 h' hc
      omega
    have hA := d_All (cofF ty n).1.toNat (cofF ty n).2 (by omega) hn
    obtain ⟨f1, _⟩ := rdig_facts (cofF ty n).1.toNat (cofF ty n).2 (by omega) fun hc => (hn hc).1
    rw [Int.toNat_of_nonneg r1] at hA
    have hR := d_Read ty (cofF ty n).1 (cofF ty n).2
    have hz : (bif decide ((cofF ty n).1 = 0) then AV.tup [u64 (valF (0, false) ty).1, bl (valF (0, false) ty).2] else AV.tup [u64 (valF (cofF ty n) ty).1, bl (valF (cofF ty n) ty).2]) = .tup [u64 n, bl true] := by
      cases hd : decide ((cofF ty n).1 = 0)
      · rw [hb]; rfl
      · have hd' := of_decide_eq_true hd
        cases hc : (cofF ty n).2
        · have e0 : cofF ty n = (0, false) := Prod.ext hd' hc
          rw [e0] at hb
          rw [hb]; rfl
        · exact absurd hd' (cof_neg ty n h0 h' hc).1
    rw [show ((cofF ty n).1, (cofF ty n).2) = cofF ty n from rfl] at hR
    rw [hz] at hR
    rw [e] at k1 k2
    have ne : rdigF (cofF ty n).1.toNat (cofF ty n).2 ≠ ⟨#[]⟩ := fun hh => by rw [hh] at f1; exact absurd f1 (by decide)
    clear f1 e hz hn hb
    generalize rdigF (cofF ty n).1.toNat (cofF ty n).2 = s at *
    generalize (cofF ty n).1 = m at *
    generalize (cofF ty n).2 = g at *
    simp [X, Y, Z, Xi, k1, k2, ne, hA, hR, d_live13]
theorem law_ConvTexts (l0 l1 : List AV) (h0 : AvT Tryd.prog 3 l0) (h1 : AvT Tryd.prog 22 l1) : D defs Prim.prims Prim.powG i_law13_ConvTexts [argA false l0, argA false l1] = some (.v (.bool true)) := by
  obtain ⟨ty, rfl, _⟩ := h0.int_inv Tryd.underlying3
  obtain ⟨n, rfl, hn⟩ := h1.int_inv Tryd.underlying22
  simp only [Lit.wf, Bool.and_eq_true, decide_eq_true_eq] at hn
  simp [IntKind.min, IntKind.max, IntKind.bits, IntKind.signed] at hn
  exact d_ConvTexts ty n (by omega) (by omega)
end Go.Proofs.YticmmpiffekbiaaDoor.Ct
