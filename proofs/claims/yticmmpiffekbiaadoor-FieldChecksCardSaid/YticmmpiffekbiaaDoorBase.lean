/- Small plain laws on numbers of the integer kinds and on byte strings. No condition. -/
import Derived.WalkKit
import Derived.RowKit
import Derived.Laws.Strings
import Derived.WalkSmall
import Derived.Test.YticmmpiffekbiaaDoorWWords
import Derived.Test.YticmmpiffekbiaaDoorWLast
namespace Go.Proofs.YticmmpiffekbiaaDoor.Px
open Go.RowKit Go.Proofs.YticmmpiffekbiaaDoorW.PrintWords Go.Proofs.YticmmpiffekbiaaDoorW.PrintLast
set_option linter.unusedSimpArgs false
set_option linter.unusedVariables false

theorem u64_wrap (x : Int) : IntKind.u64.wrap x = x % 18446744073709551616 := by
  simp [IntKind.wrap, IntKind.bits, IntKind.signed]
theorem u64_bounds {x : Int} (h : (Lit.int .u64 x).wf = true) : 0 ≤ x ∧ x ≤ 18446744073709551615 := by
  simpa [Lit.wf, IntKind.min, IntKind.max, IntKind.bits, IntKind.signed] using h
theorem i64_bounds {x : Int} (h : (Lit.int .i64 x).wf = true) : -9223372036854775808 ≤ x ∧ x ≤ 9223372036854775807 := by
  simpa [Lit.wf, IntKind.min, IntKind.max, IntKind.bits, IntKind.signed] using h
theorem u32_bounds {x : Int} (h : (Lit.int .u32 x).wf = true) : 0 ≤ x ∧ x ≤ 4294967295 := by
  simpa [Lit.wf, IntKind.min, IntKind.max, IntKind.bits, IntKind.signed] using h

theorem wrap64_range (n : Int) : -9223372036854775808 ≤ wrap64 n ∧ wrap64 n ≤ 9223372036854775807 := by unfold wrap64; omega
theorem wrap64_of {n : Int} (h : -9223372036854775808 ≤ n ∧ n ≤ 9223372036854775807) : wrap64 n = n := by unfold wrap64; omega
theorem u64_of {n : Int} (h : 0 ≤ n ∧ n ≤ 18446744073709551615) : IntKind.u64.wrap n = n := by rw [u64_wrap]; omega
theorem str_inj {a b : ByteArray} (h : a.toList = b.toList) : a = b := by
  rw [ByteArray.toList_eq, ByteArray.toList_eq] at h
  cases a; cases b
  congr 1
  exact Array.toList_inj.mp h
theorem str_eq_iff {a b : ByteArray} : a.toList = b.toList ↔ a = b := ⟨str_inj, fun h => by rw [h]⟩
theorem str_lit {a : ByteArray} {l : List UInt8} : a.toList = l ↔ a = ⟨l.toArray⟩ := by
  constructor
  · intro h; exact str_inj (h.trans (ByteArray.toList_mk l).symm)
  · rintro rfl; exact ByteArray.toList_mk l
theorem ite_some {α : Type} {c : Prop} [Decidable c] {a : α} {b : Option α} {x : α} (h : b = some x) : (if c then some a else b) = some (if c then a else x) := by
  rw [h]; split <;> rfl
theorem xor_i64 (x y : Int) : bits .xor .i64 x y = IntKind.i64.wrap ((BitVec.ofInt 64 x ^^^ BitVec.ofInt 64 y).toNat : Int) := rfl
theorem xor_u64 (x y : Int) : bits .xor .u64 x y = IntKind.u64.wrap ((BitVec.ofInt 64 x ^^^ BitVec.ofInt 64 y).toNat : Int) := rfl
theorem ofInt_toNat64 (x : Int) : ((BitVec.ofInt 64 x).toNat : Int) = x % 18446744073709551616 := by
  simp [BitVec.toNat_ofInt]
  omega
theorem xor64_zero (a : Int) : bits .xor .i64 a 0 = wrap64 a := by
  rw [xor_i64, show BitVec.ofInt 64 0 = 0#64 from rfl, BitVec.xor_zero, IntKind.wrap_i64, ofInt_toNat64]; unfold wrap64; omega
theorem xor64_ones (a : Int) : bits .xor .i64 a (-1) = wrap64 (-a - 1) := by
  rw [xor_i64, show BitVec.ofInt 64 (-1) = BitVec.allOnes 64 from by decide, BitVec.xor_allOnes, IntKind.wrap_i64, BitVec.toNat_not]
  have h := ofInt_toNat64 a
  have hl := (BitVec.ofInt 64 a).isLt
  unfold wrap64
  generalize (BitVec.ofInt 64 a).toNat = m at *
  omega
theorem xoru_zero (a : Int) : bits .xor .u64 a 0 = a % 18446744073709551616 := by
  rw [xor_u64, show BitVec.ofInt 64 0 = 0#64 from rfl, BitVec.xor_zero, ofInt_toNat64]
  simp only [IntKind.wrap, IntKind.bits, IntKind.signed]; simp
theorem xoru_ones (a : Int) : bits .xor .u64 a 18446744073709551615 = (-a - 1) % 18446744073709551616 := by
  rw [xor_u64, show BitVec.ofInt 64 18446744073709551615 = BitVec.allOnes 64 from by decide, BitVec.xor_allOnes, BitVec.toNat_not]
  have h := ofInt_toNat64 a
  have hl := (BitVec.ofInt 64 a).isLt
  generalize (BitVec.ofInt 64 a).toNat = m at *
  simp [IntKind.wrap, IntKind.bits, IntKind.signed]
  omega
theorem or_high (h l : Int) (hh : 0 ≤ h ∧ h ≤ 4294967295) (hl : 0 ≤ l ∧ l ≤ 4294967295) : bits .or .u64 (h * 4294967296) l = h * 4294967296 + l := by
  obtain ⟨n, rfl⟩ := Int.eq_ofNat_of_zero_le hh.1
  obtain ⟨m, rfl⟩ := Int.eq_ofNat_of_zero_le hl.1
  have := (bits_nat .u64 64 (by decide) (fun n h0 h1 => by simp [IntKind.wrap, IntKind.bits, IntKind.signed]; omega) (n * 4294967296) m (by omega) (by omega)).2
  rw [show ((n : Int) * 4294967296) = ((n * 4294967296 : Nat) : Int) from by omega, this]
  have e : n * 4294967296 ||| m = n * 4294967296 + m := by
    have := Nat.two_pow_add_eq_or_of_lt (i := 32) (b := m) (by omega) n
    rw [Nat.mul_comm]; exact this.symm
  rw [e]; omega
end Go.Proofs.YticmmpiffekbiaaDoor.Px
