/- What the functions of spans come to. -/
import Derived.Test.YtddomdjphkalcaaSmT
import Derived.Test.YtddomdjphkalcaaEng5
namespace Go.Proofs.Ytddomdjphkalcaa.Sm
open Go Go.Proofs.Ytddomdjphkalcaa.Eng Go.Proofs.Ytddomdjphkalcaa.Eng.V
set_option linter.unusedSimpArgs false
noncomputable abbrev dd : Eng.Call := D defs (fun _ _ => none) (fun _ => .undef)
abbrev i64 (n : Int) : AV := .v (.int .i64 n)
abbrev u64 (n : Int) : AV := .v (.int .u64 n)
abbrev bl (b : Bool) : AV := .v (.bool b)
def kindF (ty : Int) : Int := if ty < 0 then 0 else if 16 ≤ ty then 0 else [0, 7, 15, 3, 11, 7, 15, 2, 3, 11, 7, 15, 0, 0, 6, 0].getD ty.toNat 0
theorem d_kind (ty : Int) : dd i_scalar_kind [i64 ty] = some (i64 (kindF ty)) := by
  refine D_runE (V := v_scalar_kind) 1 rfl rfl rfl ?_
  rw [s_scalar_kind]
  by_cases h1 : ty < 0
  · simp [X, Y, Z, h1, kindF]
  · by_cases h2 : 16 ≤ ty
    · simp [X, Y, Z, h1, h2, kindF]
    · have : ty = 0 ∨ ty = 1 ∨ ty = 2 ∨ ty = 3 ∨ ty = 4 ∨ ty = 5 ∨ ty = 6 ∨ ty = 7 ∨ ty = 8 ∨ ty = 9 ∨ ty = 10 ∨ ty = 11 ∨ ty = 12 ∨ ty = 13 ∨ ty = 14 ∨ ty = 15 := by omega
      rcases this with rfl | rfl | rfl | rfl | rfl | rfl | rfl | rfl | rfl | rfl | rfl | rfl | rfl | rfl | rfl | rfl <;> simp [X, Y, Z, kindF]
def andK (m : Int) (ty : Int) : Bool := !decide (IntKind.i64.wrap (BitVec.ofInt 64 (kindF ty) &&& BitVec.ofInt 64 m).toNat = 0)
theorem d_Whole (ty : Int) : dd i_scalar_Whole [i64 ty] = some (bl (andK 1 ty)) := by
  refine D_runE (V := v_scalar_Whole) 1 rfl rfl rfl ?_
  rw [s_scalar_Whole]
  simp only [X, Y, Z, d_kind, andK]
  rfl
theorem d_Signed (ty : Int) : dd i_scalar_Signed [i64 ty] = some (bl (andK 4 ty)) := by
  refine D_runE (V := v_scalar_Signed) 1 rfl rfl rfl ?_
  rw [s_scalar_Signed]
  simp only [X, Y, Z, d_kind, andK]
  rfl
theorem d_Wide (ty : Int) : dd i_scalar_Wide [i64 ty] = some (bl (andK 8 ty)) := by
  refine D_runE (V := v_scalar_Wide) 1 rfl rfl rfl ?_
  rw [s_scalar_Wide]
  simp only [X, Y, Z, d_kind, andK]
  rfl
abbrev sp (p : Int × Int) : AV := .agg [i64 p.1, u64 p.2]
def sgF (b : Int) : Int × Int := if b = 32 then (-2147483648, 2147483647) else (-9223372036854775808, 9223372036854775807)
def plF (b : Int) : Int × Int := if b = 32 then (0, 4294967295) else (0, 18446744073709551615)
theorem d_signed (b : Int) (h : b = 32 ∨ b = 64) : dd i_span_signed [i64 b] = some (sp (sgF b)) := by
  rcases h with rfl | rfl <;> exact D_runE (V := v_span_signed) 1 rfl rfl rfl (by kernel_rfl)
theorem d_plain (b : Int) (h : b = 32 ∨ b = 64) : dd i_span_plain [i64 b] = some (sp (plF b)) := by
  rcases h with rfl | rfl <;> exact D_runE (V := v_span_plain) 1 rfl rfl rfl (by kernel_rfl)
def ofF (ty : Int) : Int × Int := let b : Int := bif andK 8 ty then 64 else 32; bif andK 1 ty then (bif andK 4 ty then sgF b else plF b) else (0, 0)
theorem d_Of (ty : Int) : dd i_span_Of [i64 ty] = some (.tup [sp (ofF ty), bl (andK 1 ty)]) := by
  refine D_runE (V := v_span_Of) 1 rfl rfl rfl ?_
  rw [s_span_Of]
  have e1 := d_signed 32 (.inl rfl)
  have e2 := d_signed 64 (.inr rfl)
  have e3 := d_plain 32 (.inl rfl)
  have e4 := d_plain 64 (.inr rfl)
  cases hw : andK 8 ty <;> cases ho : andK 1 ty <;> cases hs : andK 4 ty <;>
  simp [X, Y, Z, d_Wide, d_Whole, d_Signed, hw, ho, hs, e1, e2, e3, e4, ofF]
def meetF (p q : Int × Int) : Int × Int := (if q.1 > p.1 then q.1 else p.1, if q.2 < p.2 then q.2 else p.2)
theorem d_Meet (p q : Int × Int) : dd i_span_Meet [sp p, sp q] = some (sp (meetF p q)) := by
  refine D_runE (V := v_span_Meet) 1 rfl rfl rfl ?_
  rw [s_span_Meet]
  simp [X, Y, Z, meetF]
def eqF (p q : Int × Int) : Bool := decide (p.1 = q.1) && decide (p.2 = q.2)
theorem d_Covers (p q : Int × Int) : dd i_span_Covers [sp p, sp q] = some (bl (eqF (meetF p q) q)) := by
  refine D_runE (V := v_span_Covers) 1 rfl rfl rfl ?_
  rw [s_span_Covers]
  simp [X, Y, Z, d_Meet, eqF]
theorem d_Fits (n : Int) : dd i_zig_Fits [i64 n] = some (bl (decide (IntKind.i64.wrap (IntKind.i32.wrap n) = n))) := by
  refine D_runE (V := v_zig_Fits) 1 rfl rfl rfl ?_
  rw [s_zig_Fits]
  simp [X, Y, Z]
def mayF (ty n : Int) : Bool := if ty < 1 then false else if ty > 15 then false else bif andK 8 ty then true else bif andK 4 ty then decide (IntKind.i64.wrap (IntKind.i32.wrap (IntKind.i64.wrap n)) = IntKind.i64.wrap n) else bif andK 1 ty then decide (n.fdiv 4294967296 = 0) else bif decide (ty = 7) then decide (n ≤ 1) else decide (n = 0)
theorem d_May (ty n : Int) : dd i_scalar_May [i64 ty, u64 n] = some (bl (mayF ty n)) := by
  refine D_runE (V := v_scalar_May) 1 rfl rfl rfl ?_
  rw [s_scalar_May]
  by_cases h1 : ty < 1 <;> by_cases h2 : 15 < ty <;> cases h3 : andK 8 ty <;> cases h4 : andK 4 ty <;> cases h5 : andK 1 ty <;> cases h6 : decide (ty = 7) <;>
  simp only [X, Y, Z, d_Wide, d_Whole, d_Signed, d_Fits, mayF, h1, h2, h3, h4, h5, h6, decide_true, decide_false] <;> simp [X, Y, Z, IntKind.bits]
def inF (p : Int × Int) (ty n : Int) : Bool := bif !andK 1 ty then false else bif !mayF ty n then false else bif andK 4 ty && decide (IntKind.i64.wrap n < 0) then decide (p.1 ≤ IntKind.i64.wrap n) else decide (p.1 ≤ 0) && decide (n ≤ p.2)
theorem d_In (p : Int × Int) (ty n : Int) : dd i_span_In [sp p, i64 ty, u64 n] = some (bl (inF p ty n)) := by
  refine D_runE (V := v_span_In) 1 rfl rfl rfl ?_
  rw [s_span_In]
  cases h3 : mayF ty n <;> cases h4 : andK 4 ty <;> cases h5 : andK 1 ty <;> by_cases h6 : IntKind.i64.wrap n < 0 <;> by_cases h7 : p.1 ≤ 0 <;>
  simp [X, Y, Z, d_Whole, d_Signed, d_May, inF, h3, h4, h5, h6, h7]
theorem d_live : dd i_law32_live [] = some (bl true) := by
  refine D_runE (V := v_law32_live) 1 rfl rfl rfl ?_
  rw [s_law32_live]
  have h : andK 1 1 = true := by decide
  have h2 : ofF 1 = (-2147483648, 2147483647) := by decide
  simp [X, Y, Z, d_Of, h, h2]
theorem meet_in (p q : Int × Int) (ty n : Int) : inF (meetF p q) ty n = (inF p ty n && inF q ty n) := by
  unfold inF meetF
  cases andK 1 ty <;> cases mayF ty n <;> cases andK 4 ty <;> by_cases h : IntKind.i64.wrap n < 0 <;> simp [h] <;> (try rw [Bool.eq_iff_iff]) <;> simp <;> split <;> (try split) <;> omega
theorem meet_l (p q : Int × Int) : eqF (meetF p (meetF p q)) (meetF p q) = true := by
  unfold eqF meetF
  simp only [Bool.and_eq_true, decide_eq_true_eq]
  constructor
  · by_cases h : q.1 > p.1 <;> simp [h]
  · by_cases h : q.2 < p.2 <;> simp [h]
theorem meet_r (p q : Int × Int) : eqF (meetF q (meetF p q)) (meetF p q) = true := by
  unfold eqF meetF
  simp only [Bool.and_eq_true, decide_eq_true_eq]
  constructor
  · by_cases h : q.1 > p.1 <;> simp [h] <;> omega
  · by_cases h : q.2 < p.2 <;> simp [h] <;> omega
theorem d_SpanMeets (t0 t1 t2 n : Int) : dd i_law32_SpanMeets [.agg [i64 t0, i64 t1, i64 t2], u64 n] = some (bl true) := by
  refine D_runE (V := v_law32_SpanMeets) 1 rfl rfl rfl ?_
  rw [s_law32_SpanMeets]
  have m1 := meet_in (ofF t0) (ofF t1) t2 n
  have m2 := meet_l (ofF t0) (ofF t1)
  have m3 := meet_r (ofF t0) (ofF t1)
  have m4 : ∀ a b : Int × Int, (eqF a b == (decide (a.1 = b.1) && decide (a.2 = b.2))) = true := fun a b => by simp [eqF]
  cases h0 : andK 1 t0 <;> cases h1 : andK 1 t1 <;> cases ha : inF (ofF t0) t2 n <;> cases hb : inF (ofF t1) t2 n <;>
  simp [X, Y, Z, d_Of, d_live, d_Meet, d_In, d_Covers, m1, m2, m3, m4, h0, h1, ha, hb]
theorem law_SpanMeets (l0 l1 : List AV) (h0 : AvT Try.prog 46 l0) (h1 : AvT Try.prog 22 l1) : D defs (fun _ _ => none) (fun _ => .undef) i_law32_SpanMeets [argA true l0, argA false l1] = some (.v (.bool true)) := by
  obtain ⟨ps, rfl, hn, he⟩ := h0.array_inv Try.underlying46
  obtain ⟨n, rfl, _⟩ := h1.int_inv Try.underlying22
  match ps, hn with
  | [a, b, c], _ =>
    obtain ⟨x, rfl, _⟩ := (he a (by simp)).int_inv Try.underlying3
    obtain ⟨y, rfl, _⟩ := (he b (by simp)).int_inv Try.underlying3
    obtain ⟨z, rfl, _⟩ := (he c (by simp)).int_inv Try.underlying3
    exact d_SpanMeets x y z n
end Go.Proofs.Ytddomdjphkalcaa.Sm
