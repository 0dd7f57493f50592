/- Digits. -/
import Derived.Test.YticmmpiffekbiaaDoorFdB
namespace Go.Proofs.YticmmpiffekbiaaDoor.Fd
open Go Go.Proofs.YticmmpiffekbiaaDoor.Eng Go.Proofs.YticmmpiffekbiaaDoor.Eng.V
set_option linter.unusedSimpArgs false
set_option linter.unusedVariables false
/-- A number's digits, by the document: none of 0. -/
def digsL : Nat → Nat → List UInt8
  | 0, _ => []
  | m + 1, n => if n = 0 then [] else digsL m (n / 10) ++ [UInt8.ofNat (48 + n % 10)]
theorem digsL_eq : ∀ (m n : Nat), n < 10 ^ m → n ≠ 0 → digsL m n = Lib.decDigits n
  | 0, n, h, h0 => by simp at h; omega
  | m + 1, n, h, h0 => by
    rw [Lib.decDigits, digsL, if_neg h0]
    by_cases c : n < 10
    · rw [dif_pos c]
      have : n / 10 = 0 := by omega
      rw [this, Nat.mod_eq_of_lt c]
      cases m <;> rfl
    · rw [dif_neg c, digsL_eq m (n / 10) (by rw [Nat.pow_succ] at h; omega) (by omega)]
theorem ba_cons (b : UInt8) (s : List UInt8) : (⟨#[b]⟩ : ByteArray) ++ ⟨s.toArray⟩ = ⟨(b :: s).toArray⟩ := by
  apply ByteArray.ext
  rw [ByteArray.data_append]
  simp
theorem ba_size (s : List UInt8) : (⟨s.toArray⟩ : ByteArray).size = s.length := by simp [ByteArray.size]
theorem R10_at (neg : Bool) : ∀ (m n : Nat) (s : List UInt8), n < 18446744073709551616 → n < 10 ^ m → s.length + m ≤ 1000 → R_ref10_Digits_0 dd Prim.powG 100 (m + 1) [] (bl neg) (u64 n) (st ⟨s.toArray⟩) = some (st (bif neg then ⟨#[45]⟩ ++ ⟨(digsL m n ++ s).toArray⟩ else ⟨(digsL m n ++ s).toArray⟩)) := by
  intro m
  induction m with
  | zero =>
    intro n s hn h hs
    have : n = 0 := by simp at h; omega
    subst this
    rw [R_ref10_Digits_0_s]
    have hz : (⟨#[45]⟩ : ByteArray).size + (⟨s.toArray⟩ : ByteArray).size ≤ 9223372036854775807 := by
      have : (⟨#[45]⟩ : ByteArray).size = 1 := rfl
      have h2 := ba_size s
      omega
    cases neg
    · simp [X, Y, Z, digsL]
    · simp [X, Y, Z, digsL, hz]
  | succ m ih =>
    intro n s hn h hs
    rw [R_ref10_Digits_0_s]
    by_cases h0 : n = 0
    · subst h0
      have hz : (⟨#[45]⟩ : ByteArray).size + (⟨s.toArray⟩ : ByteArray).size ≤ 9223372036854775807 := by
        have : (⟨#[45]⟩ : ByteArray).size = 1 := rfl
        have h2 := ba_size s
        omega
      cases neg
      · simp [X, Y, Z, digsL]
      · simp [X, Y, Z, digsL, hz]
    · have hp : 0 < n := by omega
      have hq : IntKind.u64.wrap ((n : Int) / 10) = ((n / 10 : Nat) : Int) := by
        rw [IntKind.wrap_u64]
        omega
      have hr : IntKind.u8.wrap (IntKind.u64.wrap (48 + (n : Int).tmod 10)) = ((48 + n % 10 : Nat) : Int) := by
        rw [Int.tmod_eq_emod_of_nonneg (by omega), IntKind.wrap_u64]
        simp [IntKind.wrap, IntKind.bits, IntKind.signed]
        omega
      have hz : (⟨#[UInt8.ofNat (48 + n % 10)]⟩ : ByteArray).size + (⟨s.toArray⟩ : ByteArray).size ≤ 9223372036854775807 := by
        have : (⟨#[UInt8.ofNat (48 + n % 10)]⟩ : ByteArray).size = 1 := rfl
        have h2 := ba_size s
        omega
      have hi := ih (n / 10) (UInt8.ofNat (48 + n % 10) :: s) (by omega) (by rw [Nat.pow_succ] at h; omega) (by simp; omega)
      have hd : digsL (m + 1) n ++ s = digsL m (n / 10) ++ (UInt8.ofNat (48 + n % 10) :: s) := by
        rw [digsL, if_neg h0]
        simp
      rw [hd]
      generalize hb : UInt8.ofNat (48 + n % 10) = b at hi hz ⊢
      have hb' : UInt8.ofNat (((48 + n % 10 : Nat) : Int)).toNat = b := by rw [Int.toNat_natCast]; exact hb
      generalize ((48 + n % 10 : Nat) : Int) = z at hr hb'
      generalize ((n / 10 : Nat) : Int) = y at hq hi
      simp [X, Y, Z, k_ref10_Digits_0, hp, hq, hr, hz, hb', ba_cons, hi]
def rdigF (n : Nat) (neg : Bool) : ByteArray := if n = 0 then ⟨#[48]⟩ else bif neg then ⟨#[45]⟩ ++ ⟨(Lib.decDigits n).toArray⟩ else ⟨(Lib.decDigits n).toArray⟩
theorem d_refDigits (n : Nat) (neg : Bool) (hn : n < 18446744073709551616) : dd i_ref10_Digits [u64 n, bl neg] = some (st (rdigF n neg)) := by
  refine D_runE (V := v_ref10_Digits) 100 rfl rfl rfl ?_
  rw [s_ref10_Digits]
  by_cases h0 : n = 0
  · subst h0
    simp [X, Y, Z, rdigF]
  · have hb : n < 10 ^ 99 := Nat.lt_of_lt_of_le hn (by decide +kernel)
    have h1 := R10_at neg 99 n [] hn hb (by simp)
    rw [List.append_nil, digsL_eq 99 n hb h0] at h1
    simp [X, Y, Z, h0, h1, rdigF]
end Go.Proofs.YticmmpiffekbiaaDoor.Fd
