/- What the functions of whole numbers come to. -/
import Derived.Test.YticmmpiffekbiaaDoorCvT
import Derived.Test.YticmmpiffekbiaaDoorPrim
import Derived.Test.YticmmpiffekbiaaDoorEng5
namespace Go.Proofs.YticmmpiffekbiaaDoor.Cv
open Go Go.Proofs.YticmmpiffekbiaaDoor.Eng Go.Proofs.YticmmpiffekbiaaDoor.Eng.V
set_option linter.unusedSimpArgs false
set_option linter.unusedVariables false
noncomputable abbrev dd : Eng.Call := D defs Prim.prims Prim.powG
abbrev i64 (n : Int) : AV := .v (.int .i64 n)
abbrev u64 (n : Int) : AV := .v (.int .u64 n)
abbrev bl (b : Bool) : AV := .v (.bool b)
abbrev st (s : ByteArray) : AV := .v (.string s)
def kindF (ty : Int) : Int := if ty < 0 then 0 else if 16 ≤ ty then 0 else [0, 7, 15, 3, 11, 7, 15, 2, 3, 11, 7, 15, 0, 0, 6, 0].getD ty.toNat 0
theorem d_kind (ty : Int) : dd i_scalar_kind [i64 ty] = some (i64 (kindF ty)) := by
  refine D_runE (V := v_scalar_kind) 1 rfl rfl rfl ?_
  rw [s_scalar_kind]
  by_cases h1 : ty < 0
  · simp [X, Y, Z, h1, kindF]
  · by_cases h2 : 16 ≤ ty
    · simp [X, Y, Z, h1, h2, kindF]
    · have : ty = 0 ∨ ty = 1 ∨ ty = 2 ∨ ty = 3 ∨ ty = 4 ∨ ty = 5 ∨ ty = 6 ∨ ty = 7 ∨ ty = 8 ∨ ty = 9 ∨ ty = 10 ∨ ty = 11 ∨ ty = 12 ∨ ty = 13 ∨ ty = 14 ∨ ty = 15 := by omega
      rcases this with rfl | rfl | rfl | rfl | rfl | rfl | rfl | rfl | rfl | rfl | rfl | rfl | rfl | rfl | rfl | rfl <;> simp [X, Y, Z, kindF]
def andK (m : Int) (ty : Int) : Bool := !decide (IntKind.i64.wrap (BitVec.ofInt 64 (kindF ty) &&& BitVec.ofInt 64 m).toNat = 0)
theorem d_Whole (ty : Int) : dd i_scalar_Whole [i64 ty] = some (bl (andK 1 ty)) := by
  refine D_runE (V := v_scalar_Whole) 1 rfl rfl rfl ?_
  rw [s_scalar_Whole]
  simp only [X, Y, Z, d_kind, andK]
  rfl
theorem d_Signed (ty : Int) : dd i_scalar_Signed [i64 ty] = some (bl (andK 4 ty)) := by
  refine D_runE (V := v_scalar_Signed) 1 rfl rfl rfl ?_
  rw [s_scalar_Signed]
  simp only [X, Y, Z, d_kind, andK]
  rfl
theorem d_Wide (ty : Int) : dd i_scalar_Wide [i64 ty] = some (bl (andK 8 ty)) := by
  refine D_runE (V := v_scalar_Wide) 1 rfl rfl rfl ?_
  rw [s_scalar_Wide]
  simp only [X, Y, Z, d_kind, andK]
  rfl
theorem d_Fits (n : Int) : dd i_zig_Fits [i64 n] = some (bl (decide (IntKind.i64.wrap (IntKind.i32.wrap n) = n))) := by
  refine D_runE (V := v_zig_Fits) 1 rfl rfl rfl ?_
  rw [s_zig_Fits]
  simp [X, Y, Z]
def mayF (ty n : Int) : Bool := if ty < 1 then false else if ty > 15 then false else bif andK 8 ty then true else bif andK 4 ty then decide (IntKind.i64.wrap (IntKind.i32.wrap (IntKind.i64.wrap n)) = IntKind.i64.wrap n) else bif andK 1 ty then decide (n.fdiv 4294967296 = 0) else bif decide (ty = 7) then decide (n ≤ 1) else decide (n = 0)
theorem d_May (ty n : Int) : dd i_scalar_May [i64 ty, u64 n] = some (bl (mayF ty n)) := by
  refine D_runE (V := v_scalar_May) 1 rfl rfl rfl ?_
  rw [s_scalar_May]
  by_cases h1 : ty < 1 <;> by_cases h2 : 15 < ty <;> cases h3 : andK 8 ty <;> cases h4 : andK 4 ty <;> cases h5 : andK 1 ty <;> cases h6 : decide (ty = 7) <;>
  simp only [X, Y, Z, d_Wide, d_Whole, d_Signed, d_Fits, mayF, h1, h2, h3, h4, h5, h6, decide_true, decide_false] <;> simp [X, Y, Z, IntKind.bits]
/-- A number: how far from 0, on which side. -/
abbrev nu (p : Int × Bool) : AV := .agg [u64 p.1, bl p.2]
def cofF (ty n : Int) : Int × Bool := bif andK 4 ty && decide (IntKind.i64.wrap n < 0) then (IntKind.u64.wrap (-n), true) else (n, false)
theorem d_cof (ty n : Int) : dd i_conv_of [i64 ty, u64 n] = some (nu (cofF ty n)) := by
  refine D_runE (V := v_conv_of) 1 rfl rfl rfl ?_
  rw [s_conv_of]
  cases h1 : andK 4 ty <;> by_cases h2 : IntKind.i64.wrap n < 0 <;> simp [X, Y, Z, d_Signed, cofF, h1, h2]
def rightF (ty n : Int) : Bool := andK 1 ty && mayF ty n
theorem d_cright (ty n : Int) : dd i_conv_right [i64 ty, u64 n] = some (bl (rightF ty n)) := by
  refine D_runE (V := v_conv_right) 1 rfl rfl rfl ?_
  rw [s_conv_right]
  cases h1 : andK 1 ty <;> simp [X, Y, Z, d_Whole, d_May, rightF, h1]
/-- The value of a type with a number. -/
def valF (p : Int × Bool) (ty : Int) : Int × Bool :=
  let n := if p.2 = true then IntKind.u64.wrap (-p.1) else p.1
  if rightF ty n = true ∧ cofF ty n = p then (n, true) else (0, false)
theorem d_cvalue (p : Int × Bool) (ty : Int) : dd i__conv_number__value [nu p, i64 ty] = some (.tup [u64 (valF p ty).1, bl (valF p ty).2]) := by
  refine D_runE (V := v__conv_number__value) 1 rfl rfl rfl ?_
  rw [s__conv_number__value]
  obtain ⟨f, g⟩ := p
  cases g
  · cases h1 : andK 1 ty <;> cases h2 : mayF ty f <;> by_cases h3 : (cofF ty f).1 = f <;> cases h4 : (cofF ty f).2 <;>
    simp [X, Y, Z, d_Whole, d_May, d_cof, valF, rightF, h1, h2, h3, h4, Prod.ext_iff]
  · cases h1 : andK 1 ty <;> cases h2 : mayF ty (IntKind.u64.wrap (-f)) <;> by_cases h3 : (cofF ty (IntKind.u64.wrap (-f))).1 = f <;> cases h4 : (cofF ty (IntKind.u64.wrap (-f))).2 <;>
    simp [X, Y, Z, d_Whole, d_May, d_cof, valF, rightF, h1, h2, h3, h4, Prod.ext_iff]
def convF (a b n : Int) : Int × Bool := if rightF a n = true then valF (cofF a n) b else (0, false)
theorem d_Conv (a b n : Int) : dd i_conv_Conv [i64 a, i64 b, u64 n] = some (.tup [u64 (convF a b n).1, bl (convF a b n).2]) := by
  refine D_runE (V := v_conv_Conv) 1 rfl rfl rfl ?_
  rw [s_conv_Conv]
  cases h1 : rightF a n <;> simp [X, Y, Z, d_cright, d_cof, d_cvalue, convF, h1]
/-- A number's digits. -/
def digU (n : Nat) : ByteArray := ⟨(Lib.decDigits n).toArray⟩
theorem d_FormatUint (n : Int) (h : 0 ≤ n) (h' : n < 18446744073709551616) : dd i_strconv_FormatUint [u64 n, i64 10] = some (st (digU n.toNat)) := D_prim (by simp [Prim.prims, h, h', digU])
def digF (n : Int) (neg : Bool) : ByteArray := bif neg && !decide (n = 0) then (⟨#[45]⟩ : ByteArray) ++ digU n.toNat else digU n.toNat
theorem digU_size (n : Nat) (h : n < 18446744073709551616) : (digU n).size ≤ 20 := by
  have e : (digU n).size = (Lib.decDigits n).length := by simp [digU, ByteArray.size]
  rw [e, Lib.decDigits_length]
  by_cases h1 : 1 ≤ n
  · have := Lib.numDigits_eq n h1 h; split at this <;> omega
  · have : n = 0 := by omega
    subst this
    simp [Lib.nDigits_small]
theorem d_lexDigits (n : Int) (neg : Bool) (h : 0 ≤ n) (h' : n < 18446744073709551616) : dd i_lex_Digits [u64 n, bl neg] = some (st (digF n neg)) := by
  refine D_runE (V := v_lex_Digits) 1 rfl rfl rfl ?_
  rw [s_lex_Digits]
  have hs := digU_size n.toNat (by omega)
  have hz : (⟨#[45]⟩ : ByteArray).size + (digU n.toNat).size ≤ 9223372036854775807 := by
    have : (⟨#[45]⟩ : ByteArray).size = 1 := rfl
    omega
  have hz' : decide ((⟨#[45]⟩ : ByteArray).size + (digU n.toNat).size ≤ 9223372036854775807) = true := decide_eq_true hz
  have hF := d_FormatUint n h h'
  cases neg <;> cases h0 : decide (n = 0) <;> simp only [X, Y, Z, hF, h0, digF, hz'] <;> rfl
def cdigF (ty n : Int) : ByteArray := if rightF ty n = true then digF (cofF ty n).1 (cofF ty n).2 else ⟨#[]⟩
theorem cof_range (ty n : Int) (h : 0 ≤ n) (h' : n < 18446744073709551616) : 0 ≤ (cofF ty n).1 ∧ (cofF ty n).1 < 18446744073709551616 := by
  unfold cofF
  cases andK 4 ty && decide (IntKind.i64.wrap n < 0)
  · exact ⟨h, h'⟩
  · simp only [cond_true, IntKind.wrap_u64]; omega
theorem d_convDigits (ty n : Int) (h : 0 ≤ n) (h' : n < 18446744073709551616) : dd i_conv_Digits [i64 ty, u64 n] = some (st (cdigF ty n)) := by
  refine D_runE (V := v_conv_Digits) 1 rfl rfl rfl ?_
  rw [s_conv_Digits]
  obtain ⟨r1, r2⟩ := cof_range ty n h h'
  cases h1 : rightF ty n <;> simp [X, Y, Z, d_cright, d_cof, d_lexDigits _ _ r1 r2, cdigF, h1]
theorem d_live13 : dd i_law13_live [] = some (bl true) := by
  refine D_runE (V := v_law13_live) 1 rfl rfl rfl ?_
  rw [s_law13_live]
  have e1 : convF 2 3 18446744073709551615 = (0, false) := by decide +kernel
  have e2 : cdigF 1 18446744073709551615 = ⟨#[45, 49]⟩ := by decide +kernel
  simp [X, Y, Z, d_Conv, d_convDigits, e1, e2]
theorem val_of {p : Int × Bool} {ty : Int} (h : (valF p ty).2 = true) : rightF ty (valF p ty).1 = true ∧ cofF ty (valF p ty).1 = p := by
  by_cases h2 : rightF ty (if p.2 = true then IntKind.u64.wrap (-p.1) else p.1) = true ∧ cofF ty (if p.2 = true then IntKind.u64.wrap (-p.1) else p.1) = p
  · have e : valF p ty = (if p.2 = true then IntKind.u64.wrap (-p.1) else p.1, true) := if_pos h2
    rw [e]
    exact h2
  · have e : valF p ty = (0, false) := if_neg h2
    rw [e] at h
    cases h
theorem conv_way (a b c n : Int) (h : (convF a b n).2 = true) : convF b c (convF a b n).1 = convF a c n := by
  unfold convF at h ⊢
  by_cases h1 : rightF a n = true
  · simp only [if_pos h1] at h ⊢
    obtain ⟨h2, h3⟩ := val_of h
    rw [if_pos h2, h3]
  · simp [h1] at h
theorem d_ConvWays (t0 t1 t2 n : Int) : dd i_law13_ConvWays [.agg [i64 t0, i64 t1, i64 t2], u64 n] = some (bl true) := by
  refine D_runE (V := v_law13_ConvWays) 1 rfl rfl rfl ?_
  rw [s_law13_ConvWays]
  cases h1 : (convF t0 t1 n).2
  · simp [X, Y, Z, d_Conv, d_live13, h1]
  · have hw := conv_way t0 t1 t2 n h1
    cases h2 : (convF t0 t2 n).2 <;> simp [X, Y, Z, d_Conv, d_live13, h1, hw, h2]
theorem law_ConvWays (l0 l1 : List AV) (h0 : AvT Tryd.prog 28 l0) (h1 : AvT Tryd.prog 22 l1) : D defs Prim.prims Prim.powG i_law13_ConvWays [argA true l0, argA false l1] = some (.v (.bool true)) := by
  obtain ⟨ps, rfl, hn, he⟩ := h0.array_inv Tryd.underlying28
  obtain ⟨n, rfl, _⟩ := h1.int_inv Tryd.underlying22
  match ps, hn with
  | [a, b, c], _ =>
    obtain ⟨x, rfl, _⟩ := (he a (by simp)).int_inv Tryd.underlying3
    obtain ⟨y, rfl, _⟩ := (he b (by simp)).int_inv Tryd.underlying3
    obtain ⟨z, rfl, _⟩ := (he c (by simp)).int_inv Tryd.underlying3
    exact d_ConvWays x y z n
end Go.Proofs.YticmmpiffekbiaaDoor.Cv
