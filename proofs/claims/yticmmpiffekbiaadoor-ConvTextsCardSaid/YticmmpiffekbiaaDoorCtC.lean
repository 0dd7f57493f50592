/- Numbers read. -/
import Derived.Test.YticmmpiffekbiaaDoorCtB
namespace Go.Proofs.YticmmpiffekbiaaDoor.Ct
open Go Go.Proofs.YticmmpiffekbiaaDoor.Eng Go.Proofs.YticmmpiffekbiaaDoor.Eng.V
set_option linter.unusedSimpArgs false
set_option linter.unusedVariables false
/-- A number's digits, by the document: none of 0. -/
def digsL : Nat → Nat → List UInt8
  | 0, _ => []
  | m + 1, n => if n = 0 then [] else digsL m (n / 10) ++ [UInt8.ofNat (48 + n % 10)]
theorem digsL_eq : ∀ (m n : Nat), n < 10 ^ m → n ≠ 0 → digsL m n = Lib.decDigits n
  | 0, n, h, h0 => by simp at h; omega
  | m + 1, n, h, h0 => by
    rw [Lib.decDigits, digsL, if_neg h0]
    by_cases c : n < 10
    · rw [dif_pos c]
      have : n / 10 = 0 := by omega
      rw [this, Nat.mod_eq_of_lt c]
      cases m <;> rfl
    · rw [dif_neg c, digsL_eq m (n / 10) (by rw [Nat.pow_succ] at h; omega) (by omega)]
theorem ba_cons (b : UInt8) (s : List UInt8) : (⟨#[b]⟩ : ByteArray) ++ ⟨s.toArray⟩ = ⟨(b :: s).toArray⟩ := by
  apply ByteArray.ext
  rw [ByteArray.data_append]
  simp
theorem ba_size (s : List UInt8) : (⟨s.toArray⟩ : ByteArray).size = s.length := by simp [ByteArray.size]
theorem R10_at (neg : Bool) : ∀ (m n : Nat) (s : List UInt8), n < 18446744073709551616 → n < 10 ^ m → s.length + m ≤ 1000 → R_ref10_Digits_0 dd Prim.powG 100 (m + 1) [] (bl neg) (u64 n) (st ⟨s.toArray⟩) = some (st (bif neg then ⟨#[45]⟩ ++ ⟨(digsL m n ++ s).toArray⟩ else ⟨(digsL m n ++ s).toArray⟩)) := by
  intro m
  induction m with
  | zero =>
    intro n s hn h hs
    have : n = 0 := by simp at h; omega
    subst this
    rw [R_ref10_Digits_0_s]
    have hz : (⟨#[45]⟩ : ByteArray).size + (⟨s.toArray⟩ : ByteArray).size ≤ 9223372036854775807 := by
      have : (⟨#[45]⟩ : ByteArray).size = 1 := rfl
      have h2 := ba_size s
      omega
    cases neg
    · simp [X, Y, Z, digsL]
    · simp [X, Y, Z, digsL, hz]
  | succ m ih =>
    intro n s hn h hs
    rw [R_ref10_Digits_0_s]
    by_cases h0 : n = 0
    · subst h0
      have hz : (⟨#[45]⟩ : ByteArray).size + (⟨s.toArray⟩ : ByteArray).size ≤ 9223372036854775807 := by
        have : (⟨#[45]⟩ : ByteArray).size = 1 := rfl
        have h2 := ba_size s
        omega
      cases neg
      · simp [X, Y, Z, digsL]
      · simp [X, Y, Z, digsL, hz]
    · have hp : 0 < n := by omega
      have hq : IntKind.u64.wrap ((n : Int) / 10) = ((n / 10 : Nat) : Int) := by
        rw [IntKind.wrap_u64]
        omega
      have hr : IntKind.u8.wrap (IntKind.u64.wrap (48 + (n : Int).tmod 10)) = ((48 + n % 10 : Nat) : Int) := by
        rw [Int.tmod_eq_emod_of_nonneg (by omega), IntKind.wrap_u64]
        simp [IntKind.wrap, IntKind.bits, IntKind.signed]
        omega
      have hz : (⟨#[UInt8.ofNat (48 + n % 10)]⟩ : ByteArray).size + (⟨s.toArray⟩ : ByteArray).size ≤ 9223372036854775807 := by
        have : (⟨#[UInt8.ofNat (48 + n % 10)]⟩ : ByteArray).size = 1 := rfl
        have h2 := ba_size s
        omega
      have hi := ih (n / 10) (UInt8.ofNat (48 + n % 10) :: s) (by omega) (by rw [Nat.pow_succ] at h; omega) (by simp; omega)
      have hd : digsL (m + 1) n ++ s = digsL m (n / 10) ++ (UInt8.ofNat (48 + n % 10) :: s) := by
        rw [digsL, if_neg h0]
        simp
      rw [hd]
      generalize hb : UInt8.ofNat (48 + n % 10) = b at hi hz ⊢
      have hb' : UInt8.ofNat (((48 + n % 10 : Nat) : Int)).toNat = b := by rw [Int.toNat_natCast]; exact hb
      generalize ((48 + n % 10 : Nat) : Int) = z at hr hb'
      generalize ((n / 10 : Nat) : Int) = y at hq hi
      simp [X, Y, Z, k_ref10_Digits_0, hp, hq, hr, hz, hb', ba_cons, hi]
def rdigF (n : Nat) (neg : Bool) : ByteArray := if n = 0 then ⟨#[48]⟩ else bif neg then ⟨#[45]⟩ ++ ⟨(Lib.decDigits n).toArray⟩ else ⟨(Lib.decDigits n).toArray⟩
theorem d_refDigits (n : Nat) (neg : Bool) (hn : n < 18446744073709551616) : dd i_ref10_Digits [u64 n, bl neg] = some (st (rdigF n neg)) := by
  refine D_runE (V := v_ref10_Digits) 100 rfl rfl rfl ?_
  rw [s_ref10_Digits]
  by_cases h0 : n = 0
  · subst h0
    simp [X, Y, Z, rdigF]
  · have hb : n < 10 ^ 99 := Nat.lt_of_lt_of_le hn (by decide +kernel)
    have h1 := R10_at neg 99 n [] hn hb (by simp)
    rw [List.append_nil, digsL_eq 99 n hb h0] at h1
    simp [X, Y, Z, h0, h1, rdigF]
def valL : List UInt8 → Nat → Nat
  | [], a => a
  | c :: cs, a => valL cs (10 * a + (c.toNat - 48))
theorem valL_ge : ∀ (l : List UInt8) (a : Nat), a ≤ valL l a
  | [], a => Nat.le_refl a
  | c :: cs, a => Nat.le_trans (by omega) (valL_ge cs (10 * a + (c.toNat - 48)))
theorem valL_app : ∀ (a b : List UInt8) (n : Nat), valL (a ++ b) n = valL b (valL a n)
  | [], b, n => rfl
  | c :: cs, b, n => valL_app cs b _
theorem dig_nat (n : Nat) (h : n < 10) : (UInt8.ofNat (48 + n)).toNat = 48 + n := by
  rw [UInt8.toNat_ofNat']
  omega
theorem dec_all : ∀ (m n : Nat), n < 10 ^ m → n ≠ 0 → valL (digsL m n) 0 = n ∧ (∀ c ∈ digsL m n, 48 ≤ c.toNat ∧ c.toNat ≤ 57) ∧ (digsL m n).length ≤ m ∧ 0 < (digsL m n).length := by
  intro m
  induction m with
  | zero => intro n h h0; simp at h; omega
  | succ m ih =>
    intro n h h0
    have e := dig_nat (n % 10) (by omega)
    rw [digsL, if_neg h0]
    by_cases c : n / 10 = 0
    · rw [c]
      have e0 : digsL m 0 = [] := by cases m <;> rfl
      rw [e0]
      refine ⟨?_, ?_, by simp, by simp⟩
      · simp only [List.nil_append, valL]; rw [e]; omega
      · intro c hc; simp only [List.nil_append, List.mem_singleton] at hc; subst hc; omega
    · obtain ⟨h1, h2, h3, h4⟩ := ih (n / 10) (by rw [Nat.pow_succ] at h; omega) c
      refine ⟨?_, ?_, by simp; omega, by simp⟩
      · rw [valL_app, h1]; simp only [valL]; rw [e]; omega
      · intro c hc
        rcases List.mem_append.1 hc with hc | hc
        · exact h2 c hc
        · simp only [List.mem_singleton] at hc; subst hc; omega
theorem dec_facts (n : Nat) (h : n < 18446744073709551616) : valL (Lib.decDigits n) 0 = n ∧ (∀ c ∈ Lib.decDigits n, 48 ≤ c.toNat ∧ c.toNat ≤ 57) ∧ (Lib.decDigits n).length ≤ 20 ∧ 0 < (Lib.decDigits n).length := by
  by_cases h0 : n = 0
  · subst h0
    rw [Lib.decDigits_one (by decide)]
    decide
  · have hb : n < 10 ^ 20 := Nat.lt_of_lt_of_le h (by decide +kernel)
    have := dec_all 20 n hb h0
    rwa [digsL_eq 20 n hb h0] at this
theorem ba_extract (s : ByteArray) : s.extract 0 s.size = s := by
  apply ByteArray.ext
  rw [ByteArray.data_extract]
  exact Array.extract_size
theorem sls_hi (s : ByteArray) : slsV s none (some (.c (i64 s.size))) = some s := by
  simp only [slsV, hiV, loV, bnd, ev]
  simp [ba_extract]
theorem sls_lo (s : ByteArray) : slsV s (some (.c (i64 0))) none = some s := by
  simp only [slsV, hiV, loV, bnd, ev]
  simp [ba_extract]
theorem R_num (s : ByteArray) (neg : Bool) (fr N : Nat) (hN : N < 18446744073709551616) (hf : fr < s.size) (hs : s.size < 90) (hd : rdigF N neg = s) (hneg : neg = true → N ≤ 9223372036854775808) : ∀ (d i m acc : Nat), s.size - i = d → i ≤ s.size → (∀ c ∈ s.data.toList.drop i, 48 ≤ c.toNat ∧ c.toNat ≤ 57) → valL (s.data.toList.drop i) acc = N → d < m → R_ref10_number_0 dd Prim.powG 100 m [] (st s) (bl neg) (i64 fr) (i64 i) (u64 acc) = some (.tup [u64 N, bl neg, i64 s.size]) := by
  have hlen : s.data.toList.length = s.size := rfl
  have hdd := d_refDigits N neg hN
  rw [hd] at hdd
  intro d
  induction d with
  | zero =>
    intro i m acc hdi hi hc hv hm
    obtain ⟨m, rfl⟩ : ∃ k, m = k + 1 := ⟨m - 1, by omega⟩
    obtain rfl : i = s.size := by omega
    rw [List.drop_of_length_le (by omega)] at hv
    have hv' : acc = N := hv
    subst hv'
    rw [R_ref10_number_0_s]
    have h1 : ¬ ((s.size : Int) = (fr : Int)) := by omega
    cases neg
    · simp [X, Y, Z, h1, hdd, sls_hi]
    · have h2 := hneg rfl
      have h3 : ¬ ((9223372036854775808 : Int) < (acc : Int)) := by omega
      simp [X, Y, Z, h1, h3, hdd, sls_hi]
  | succ d ih =>
    intro i m acc hdi hi hc hv hm
    obtain ⟨m, rfl⟩ : ∃ k, m = k + 1 := ⟨m - 1, by omega⟩
    have hl : i < s.size := by omega
    have hl' : (i : Int) < (s.size : Int) := by omega
    rw [R_ref10_number_0_s]
    have hdr : s.data.toList.drop i = s[i] :: s.data.toList.drop (i + 1) := List.drop_eq_getElem_cons (by omega)
    rw [hdr] at hc hv
    have g := byteArr_at hl
    generalize s[i] = c at g hc hv
    have hc0 := hc c (List.mem_cons_self ..)
    have hge : 10 * acc + (c.toNat - 48) ≤ N := by rw [← hv]; exact valL_ge _ _
    have hx := ih (i + 1) m (10 * acc + (c.toNat - 48)) (by omega) (by omega) (fun c h => hc c (List.mem_cons_of_mem _ h)) hv (by omega)
    push_cast at hx
    obtain ⟨q, hq⟩ : ∃ q, c.toNat = 48 + q := ⟨c.toNat - 48, by omega⟩
    have hq9 : q ≤ 9 := by omega
    have e0 : ((c.toNat : Nat) : Int) = 48 + (q : Int) := by omega
    have e1 : ((c.toNat - 48 : Nat) : Int) = (q : Int) := by omega
    rw [e1] at hx
    have w1 : IntKind.u8.wrap (48 + (q : Int) - 48) = (q : Int) := by simp [IntKind.wrap, IntKind.bits, IntKind.signed]; omega
    have w2 : IntKind.u64.wrap (q : Int) = (q : Int) := by rw [IntKind.wrap_u64]; omega
    have w3 : IntKind.u64.wrap (18446744073709551615 - (q : Int)) = 18446744073709551615 - (q : Int) := by rw [IntKind.wrap_u64]; omega
    have w4 : IntKind.u64.wrap ((18446744073709551615 - (q : Int)).tdiv 10) = (18446744073709551615 - (q : Int)) / 10 := by rw [Int.tdiv_eq_ediv_of_nonneg (by omega), IntKind.wrap_u64]; omega
    have w4' : IntKind.u64.wrap ((18446744073709551615 - (q : Int)) / 10) = (18446744073709551615 - (q : Int)) / 10 := by rw [IntKind.wrap_u64]; omega
    have w5 : ¬ ((18446744073709551615 - (q : Int)) / 10 < (acc : Int)) := by omega
    have w6 : IntKind.u64.wrap (10 * (acc : Int)) = 10 * (acc : Int) := by rw [IntKind.wrap_u64]; omega
    have w7 : IntKind.u64.wrap (10 * (acc : Int) + (q : Int)) = 10 * (acc : Int) + (q : Int) := by rw [IntKind.wrap_u64]; omega
    have w8 : digB (48 + (q : Int)) = true := by unfold digB; simp; omega
    have w9 := wrap_succ (show i < 4611686018427387904 by omega)
    simp [X, Y, Z, hl', g, e0, d_digit, w1, w2, w3, w4, w4', w5, w6, w7, w8, w9, hx]
end Go.Proofs.YticmmpiffekbiaaDoor.Ct
