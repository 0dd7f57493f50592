/- Fields as texts. -/
import Derived.Test.YtmhdapjmndfkgaaGreatDoorSpG
namespace Go.Proofs.YtmhdapjmndfkgaaGreatDoor.Sp.B
open Go Go.Proofs.YtmhdapjmndfkgaaGreatDoor.Eng Go.Proofs.YtmhdapjmndfkgaaGreatDoor.Eng.V
set_option linter.unusedSimpArgs false
set_option linter.unusedVariables false
open Sp
open Sp.W (lt2 riseP sl xi_at wrap_succ wrap_nat wrap_pred)
/-- A number's digits. -/
def digU (n : Nat) : ByteArray := ⟨(Lib.decDigits n).toArray⟩
theorem d_FormatUint (n : Int) (h : 0 ≤ n) (h' : n < 18446744073709551616) : dd i_strconv_FormatUint [u64 n, i64 10] = some (st (digU n.toNat)) := D_prim (by simp [Prim.primsJ, Prim.primsB, Prim.primsG, Prim.primsO, Prim.primsR, Prim.prims, h, h', digU])
def digF (n : Int) (neg : Bool) : ByteArray := bif neg && !decide (n = 0) then (⟨#[45]⟩ : ByteArray) ++ digU n.toNat else digU n.toNat
theorem digU_size (n : Nat) (h : n < 18446744073709551616) : (digU n).size ≤ 20 := by
  have e : (digU n).size = (Lib.decDigits n).length := by simp [digU, ByteArray.size]
  rw [e, Lib.decDigits_length]
  by_cases h1 : 1 ≤ n
  · have := Lib.numDigits_eq n h1 h; split at this <;> omega
  · have : n = 0 := by omega
    subst this
    simp [Lib.nDigits_small]
theorem d_lexDigits (n : Int) (neg : Bool) (h : 0 ≤ n) (h' : n < 18446744073709551616) : dd i_lex_Digits [u64 n, bl neg] = some (st (digF n neg)) := by
  refine D_runE (V := v_lex_Digits) 1 rfl rfl rfl ?_
  rw [s_lex_Digits]
  have hs := digU_size n.toNat (by omega)
  have hz : (⟨#[45]⟩ : ByteArray).size + (digU n.toNat).size ≤ 9223372036854775807 := by
    have : (⟨#[45]⟩ : ByteArray).size = 1 := rfl
    omega
  have hz' : decide ((⟨#[45]⟩ : ByteArray).size + (digU n.toNat).size ≤ 9223372036854775807) = true := decide_eq_true hz
  have hF := d_FormatUint n h h'
  cases neg <;> cases h0 : decide (n = 0) <;> simp only [X, Y, Z, hF, h0, digF, hz'] <;> rfl
/-- A number's digits, by the document: none of 0. -/
def digsL : Nat → Nat → List UInt8
  | 0, _ => []
  | m + 1, n => if n = 0 then [] else digsL m (n / 10) ++ [UInt8.ofNat (48 + n % 10)]
theorem digsL_eq : ∀ (m n : Nat), n < 10 ^ m → n ≠ 0 → digsL m n = Lib.decDigits n
  | 0, n, h, h0 => by simp at h; omega
  | m + 1, n, h, h0 => by
    rw [Lib.decDigits, digsL, if_neg h0]
    by_cases c : n < 10
    · rw [dif_pos c]
      have : n / 10 = 0 := by omega
      rw [this, Nat.mod_eq_of_lt c]
      cases m <;> rfl
    · rw [dif_neg c, digsL_eq m (n / 10) (by rw [Nat.pow_succ] at h; omega) (by omega)]
theorem ba_cons (b : UInt8) (s : List UInt8) : (⟨#[b]⟩ : ByteArray) ++ ⟨s.toArray⟩ = ⟨(b :: s).toArray⟩ := by
  apply ByteArray.ext
  rw [ByteArray.data_append]
  simp
theorem ba_size (s : List UInt8) : (⟨s.toArray⟩ : ByteArray).size = s.length := by simp [ByteArray.size]
theorem R10_at (neg : Bool) : ∀ (m n : Nat) (s : List UInt8), n < 18446744073709551616 → n < 10 ^ m → s.length + m ≤ 1000 → R_ref10_Digits_0 dd Prim.powG 100 (m + 1) [] (bl neg) (u64 n) (st ⟨s.toArray⟩) = some (st (bif neg then ⟨#[45]⟩ ++ ⟨(digsL m n ++ s).toArray⟩ else ⟨(digsL m n ++ s).toArray⟩)) := by
  intro m
  induction m with
  | zero =>
    intro n s hn h hs
    have : n = 0 := by simp at h; omega
    subst this
    rw [R_ref10_Digits_0_s]
    have hz : (⟨#[45]⟩ : ByteArray).size + (⟨s.toArray⟩ : ByteArray).size ≤ 9223372036854775807 := by
      have : (⟨#[45]⟩ : ByteArray).size = 1 := rfl
      have h2 := ba_size s
      omega
    cases neg
    · simp [X, Y, Z, digsL]
    · simp [X, Y, Z, digsL, hz]
  | succ m ih =>
    intro n s hn h hs
    rw [R_ref10_Digits_0_s]
    by_cases h0 : n = 0
    · subst h0
      have hz : (⟨#[45]⟩ : ByteArray).size + (⟨s.toArray⟩ : ByteArray).size ≤ 9223372036854775807 := by
        have : (⟨#[45]⟩ : ByteArray).size = 1 := rfl
        have h2 := ba_size s
        omega
      cases neg
      · simp [X, Y, Z, digsL]
      · simp [X, Y, Z, digsL, hz]
    · have hp : 0 < n := by omega
      have hq : IntKind.u64.wrap ((n : Int) / 10) = ((n / 10 : Nat) : Int) := by
        rw [IntKind.wrap_u64]
        omega
      have hr : IntKind.u8.wrap (IntKind.u64.wrap (48 + (n : Int).tmod 10)) = ((48 + n % 10 : Nat) : Int) := by
        rw [Int.tmod_eq_emod_of_nonneg (by omega), IntKind.wrap_u64]
        simp [IntKind.wrap, IntKind.bits, IntKind.signed]
        omega
      have hz : (⟨#[UInt8.ofNat (48 + n % 10)]⟩ : ByteArray).size + (⟨s.toArray⟩ : ByteArray).size ≤ 9223372036854775807 := by
        have : (⟨#[UInt8.ofNat (48 + n % 10)]⟩ : ByteArray).size = 1 := rfl
        have h2 := ba_size s
        omega
      have hi := ih (n / 10) (UInt8.ofNat (48 + n % 10) :: s) (by omega) (by rw [Nat.pow_succ] at h; omega) (by simp; omega)
      have hd : digsL (m + 1) n ++ s = digsL m (n / 10) ++ (UInt8.ofNat (48 + n % 10) :: s) := by
        rw [digsL, if_neg h0]
        simp
      rw [hd]
      generalize hb : UInt8.ofNat (48 + n % 10) = b at hi hz ⊢
      have hb' : UInt8.ofNat (((48 + n % 10 : Nat) : Int)).toNat = b := by rw [Int.toNat_natCast]; exact hb
      generalize ((48 + n % 10 : Nat) : Int) = z at hr hb'
      generalize ((n / 10 : Nat) : Int) = y at hq hi
      simp [X, Y, Z, k_ref10_Digits_0, hp, hq, hr, hz, hb', ba_cons, hi]
def rdigF (n : Nat) (neg : Bool) : ByteArray := if n = 0 then ⟨#[48]⟩ else bif neg then ⟨#[45]⟩ ++ ⟨(Lib.decDigits n).toArray⟩ else ⟨(Lib.decDigits n).toArray⟩
theorem d_refDigits (n : Nat) (neg : Bool) (hn : n < 18446744073709551616) : dd i_ref10_Digits [u64 n, bl neg] = some (st (rdigF n neg)) := by
  refine D_runE (V := v_ref10_Digits) 100 rfl rfl rfl ?_
  rw [s_ref10_Digits]
  by_cases h0 : n = 0
  · subst h0
    simp [X, Y, Z, rdigF]
  · have hb : n < 10 ^ 99 := Nat.lt_of_lt_of_le hn (by decide +kernel)
    have h1 := R10_at neg 99 n [] hn hb (by simp)
    rw [List.append_nil, digsL_eq 99 n hb h0] at h1
    simp [X, Y, Z, h0, h1, rdigF]
def wordT (ty : Int) : ByteArray := if ty < 0 then noS else if 16 ≤ ty then noS else [noS, ⟨#[105, 110, 116, 51, 50]⟩, ⟨#[105, 110, 116, 54, 52]⟩, ⟨#[117, 105, 110, 116, 51, 50]⟩, ⟨#[117, 105, 110, 116, 54, 52]⟩, ⟨#[115, 105, 110, 116, 51, 50]⟩, ⟨#[115, 105, 110, 116, 54, 52]⟩, ⟨#[98, 111, 111, 108]⟩, ⟨#[102, 105, 120, 101, 100, 51, 50]⟩, ⟨#[102, 105, 120, 101, 100, 54, 52]⟩, ⟨#[115, 102, 105, 120, 101, 100, 51, 50]⟩, ⟨#[115, 102, 105, 120, 101, 100, 54, 52]⟩, ⟨#[115, 116, 114, 105, 110, 103]⟩, ⟨#[98, 121, 116, 101, 115]⟩, noS, noS].getD ty.toNat noS
theorem d_Word (ty : Int) : dd i_scalar_Word [i64 ty] = some (st (wordT ty)) := by
  refine D_runE (V := v_scalar_Word) 1 rfl rfl rfl ?_
  rw [s_scalar_Word]
  by_cases h1 : ty < 0
  · simp [X, Y, Z, h1, wordT]
  · by_cases h2 : 16 ≤ ty
    · simp [X, Y, Z, h1, h2, wordT]
    · have : ty = 0 ∨ ty = 1 ∨ ty = 2 ∨ ty = 3 ∨ ty = 4 ∨ ty = 5 ∨ ty = 6 ∨ ty = 7 ∨ ty = 8 ∨ ty = 9 ∨ ty = 10 ∨ ty = 11 ∨ ty = 12 ∨ ty = 13 ∨ ty = 14 ∨ ty = 15 := by omega
      rcases this with rfl | rfl | rfl | rfl | rfl | rfl | rfl | rfl | rfl | rfl | rfl | rfl | rfl | rfl | rfl | rfl <;> simp [X, Y, Z, wordT]
theorem wordT_size (ty : Int) : (wordT ty).size ≤ 20 := by
  unfold wordT
  split
  · decide
  · split
    · decide
    · have : ty = 0 ∨ ty = 1 ∨ ty = 2 ∨ ty = 3 ∨ ty = 4 ∨ ty = 5 ∨ ty = 6 ∨ ty = 7 ∨ ty = 8 ∨ ty = 9 ∨ ty = 10 ∨ ty = 11 ∨ ty = 12 ∨ ty = 13 ∨ ty = 14 ∨ ty = 15 := by omega
      rcases this with rfl | rfl | rfl | rfl | rfl | rfl | rfl | rfl | rfl | rfl | rfl | rfl | rfl | rfl | rfl | rfl <;> decide
def aheadF (f : Fld) : ByteArray := bif f.Loose then ⟨#[108, 111, 111, 115, 101, 32]⟩ else bif f.Rep then ⟨#[114, 101, 112, 101, 97, 116, 101, 100, 32]⟩ else noS
theorem d_ahead (f : Fld) : dd i_field_ahead [fl f] = some (st (aheadF f)) := by
  refine D_runE (V := v_field_ahead) 1 rfl rfl rfl ?_
  rw [s_field_ahead]
  obtain ⟨a1, a2, a3, a4, rep, loose, one⟩ := f
  cases rep <;> cases loose <;> simp [X, Y, Z, aheadF]
theorem ahead_size (f : Fld) : (aheadF f).size ≤ 20 := by
  unfold aheadF
  cases f.Loose <;> cases f.Rep <;> decide
/-- Texts one behind the other. -/
theorem q_cat {a b : ByteArray} {k : AV → Out} {u : Tag k} (h : a.size + b.size ≤ 9223372036854775807) : Xq (.bin .add (.c (st a)) (.c (st b))) k u = k (st (a ++ b)) := by
  rw [q_sadd]
  simp [ifK, h]
def textB (f : Fld) (t : ByteArray) : ByteArray := aheadF f ++ t ++ ⟨#[32]⟩ ++ f.Name ++ ⟨#[32, 61, 32]⟩ ++ digF (IntKind.u64.wrap f.Num) false ++ ⟨#[59]⟩
theorem j_Text (f : Fld) (t : ByteArray) (hn : f.Name.size ≤ 100000) (ht : t.size ≤ 100000) : J_field_Text_0 dd Prim.powG 1 [((1, 0), .var f.cells false)] (.ptr (1, 0) 0) (st t) = some (st (textB f t)) := by
  have hw : 0 ≤ IntKind.u64.wrap f.Num ∧ IntKind.u64.wrap f.Num < 18446744073709551616 := by rw [IntKind.wrap_u64]; omega
  have hd := d_lexDigits (IntKind.u64.wrap f.Num) false hw.1 hw.2
  have hds : (digF (IntKind.u64.wrap f.Num) false).size ≤ 20 := by
    have := digU_size (IntKind.u64.wrap f.Num).toNat (by omega)
    simpa [digF] using this
  have ha := ahead_size f
  have l1 : (⟨#[32]⟩ : ByteArray).size = 1 := rfl
  have l2 : (⟨#[32, 61, 32]⟩ : ByteArray).size = 3 := rfl
  have l3 : (⟨#[59]⟩ : ByteArray).size = 1 := rfl
  have e1 : (aheadF f).size + t.size ≤ 9223372036854775807 := by omega
  have e2 : (aheadF f).size + t.size + (⟨#[32]⟩ : ByteArray).size ≤ 9223372036854775807 := by omega
  have e3 : (aheadF f).size + t.size + (⟨#[32]⟩ : ByteArray).size + f.Name.size ≤ 9223372036854775807 := by omega
  have e4 : (aheadF f).size + t.size + (⟨#[32]⟩ : ByteArray).size + f.Name.size + (⟨#[32, 61, 32]⟩ : ByteArray).size ≤ 9223372036854775807 := by omega
  have e5 : (aheadF f).size + t.size + (⟨#[32]⟩ : ByteArray).size + f.Name.size + (⟨#[32, 61, 32]⟩ : ByteArray).size + (digF (IntKind.u64.wrap f.Num) false).size ≤ 9223372036854775807 := by omega
  have e6 : (aheadF f).size + t.size + (⟨#[32]⟩ : ByteArray).size + f.Name.size + (⟨#[32, 61, 32]⟩ : ByteArray).size + (digF (IntKind.u64.wrap f.Num) false).size + (⟨#[59]⟩ : ByteArray).size ≤ 9223372036854775807 := by omega
  simp [J_field_Text_0, X, Y, Z, d_ahead, hd, e1, e2, e3, e4, e5, e6, textB]
def textF (f : Fld) : ByteArray := if checkF f = 0 then textB f (bif decide (f.Ref = noS) then wordT f.Ty else f.Ref) else noS
theorem d_fText (f : Fld) (hn : f.Name.size ≤ 100000) (hr : f.Ref.size ≤ 100000) : dd i_field_Text [fl f] = some (st (textF f)) := by
  refine D_runE (V := v_field_Text) 1 rfl rfl rfl ?_
  rw [s_field_Text]
  have hw := wordT_size f.Ty
  have j1 := j_Text f f.Ref hn hr
  have j2 := j_Text f (wordT f.Ty) hn (by omega)
  by_cases h1 : checkF f = 0 <;> cases h2 : decide (f.Ref = noS) <;> simp [X, Y, Z, d_fCheck, d_Word, h1, h2, j1, j2, textF]
theorem d_ref11words : dd i_ref11_words [] = some (.own 1 true [[st noS], [st ⟨#[105, 110, 116, 51, 50]⟩], [st ⟨#[105, 110, 116, 54, 52]⟩], [st ⟨#[117, 105, 110, 116, 51, 50]⟩], [st ⟨#[117, 105, 110, 116, 54, 52]⟩], [st ⟨#[115, 105, 110, 116, 51, 50]⟩], [st ⟨#[115, 105, 110, 116, 54, 52]⟩], [st ⟨#[98, 111, 111, 108]⟩], [st ⟨#[102, 105, 120, 101, 100, 51, 50]⟩], [st ⟨#[102, 105, 120, 101, 100, 54, 52]⟩], [st ⟨#[115, 102, 105, 120, 101, 100, 51, 50]⟩], [st ⟨#[115, 102, 105, 120, 101, 100, 54, 52]⟩], [st ⟨#[115, 116, 114, 105, 110, 103]⟩], [st ⟨#[98, 121, 116, 101, 115]⟩]]) := D_runE (V := v_ref11_words) 1 rfl rfl rfl (by kernel_rfl)
theorem d_refWord (ty : Int) : dd i_ref11_Word [i64 ty] = some (st (wordT ty)) := by
  refine D_runE (V := v_ref11_Word) 1 rfl rfl rfl ?_
  rw [s_ref11_Word]
  by_cases h1 : ty < 1
  · have e : wordT ty = noS := by
      unfold wordT
      by_cases h : ty < 0
      · rw [if_pos h]
      · have : ty = 0 := by omega
        subst this
        rfl
    simp [X, Y, Z, h1, e]
  · by_cases h2 : 13 < ty
    · have e : wordT ty = noS := by
        unfold wordT
        rw [if_neg (by omega)]
        by_cases h : 16 ≤ ty
        · rw [if_pos h]
        · have : ty = 14 ∨ ty = 15 := by omega
          rcases this with rfl | rfl <;> rfl
      simp [X, Y, Z, h1, h2, e]
    · have : ty = 1 ∨ ty = 2 ∨ ty = 3 ∨ ty = 4 ∨ ty = 5 ∨ ty = 6 ∨ ty = 7 ∨ ty = 8 ∨ ty = 9 ∨ ty = 10 ∨ ty = 11 ∨ ty = 12 ∨ ty = 13 := by omega
      rcases this with rfl | rfl | rfl | rfl | rfl | rfl | rfl | rfl | rfl | rfl | rfl | rfl | rfl <;> simp [X, Y, Z, d_ref11words, Xi, wordT]
def rtxtB (f : Fld) : ByteArray := wordT f.Ty ++ f.Ref ++ ⟨#[32]⟩ ++ f.Name ++ ⟨#[32, 61, 32]⟩ ++ rdigF (IntKind.u64.wrap f.Num).toNat false ++ ⟨#[59]⟩
def rtxtF (f : Fld) : ByteArray := bif !decide (rcheckF f = 0) then noS else bif f.Loose then ⟨#[108, 111, 111, 115, 101, 32]⟩ ++ rtxtB f else bif f.Rep then ⟨#[114, 101, 112, 101, 97, 116, 101, 100, 32]⟩ ++ rtxtB f else rtxtB f
theorem rdig_size (n : Nat) (h : n < 18446744073709551616) : (rdigF n false).size ≤ 20 := by
  unfold rdigF
  split
  · decide
  · exact digU_size n h
theorem d_rText (f : Fld) (hn : f.Name.size ≤ 100000) (hr : f.Ref.size ≤ 100000) : dd i_ref14_Text [fl f] = some (st (rtxtF f)) := by
  refine D_runE (V := v_ref14_Text) 1 rfl rfl rfl ?_
  rw [s_ref14_Text]
  have hw : 0 ≤ IntKind.u64.wrap f.Num ∧ IntKind.u64.wrap f.Num < 18446744073709551616 := by rw [IntKind.wrap_u64]; omega
  have hd := d_refDigits (IntKind.u64.wrap f.Num).toNat false (by omega)
  rw [Int.toNat_of_nonneg hw.1] at hd
  have hds := rdig_size (IntKind.u64.wrap f.Num).toNat (by omega)
  have hws := wordT_size f.Ty
  have l1 : (⟨#[32]⟩ : ByteArray).size = 1 := rfl
  have l2 : (⟨#[32, 61, 32]⟩ : ByteArray).size = 3 := rfl
  have l3 : (⟨#[59]⟩ : ByteArray).size = 1 := rfl
  have l4 : (⟨#[108, 111, 111, 115, 101, 32]⟩ : ByteArray).size = 6 := rfl
  have l5 : (⟨#[114, 101, 112, 101, 97, 116, 101, 100, 32]⟩ : ByteArray).size = 9 := rfl
  have hall : (rtxtB f).size ≤ 300000 := by
    unfold rtxtB
    simp only [ByteArray.size_append]
    omega
  have e1 : (wordT f.Ty).size + f.Ref.size ≤ 9223372036854775807 := by omega
  have e2 : (wordT f.Ty).size + f.Ref.size + (⟨#[32]⟩ : ByteArray).size ≤ 9223372036854775807 := by omega
  have e3 : (wordT f.Ty).size + f.Ref.size + (⟨#[32]⟩ : ByteArray).size + f.Name.size ≤ 9223372036854775807 := by omega
  have e4 : (wordT f.Ty).size + f.Ref.size + (⟨#[32]⟩ : ByteArray).size + f.Name.size + (⟨#[32, 61, 32]⟩ : ByteArray).size ≤ 9223372036854775807 := by omega
  have e5 : (wordT f.Ty).size + f.Ref.size + (⟨#[32]⟩ : ByteArray).size + f.Name.size + (⟨#[32, 61, 32]⟩ : ByteArray).size + (rdigF (IntKind.u64.wrap f.Num).toNat false).size ≤ 9223372036854775807 := by omega
  have e6 : (wordT f.Ty).size + f.Ref.size + (⟨#[32]⟩ : ByteArray).size + f.Name.size + (⟨#[32, 61, 32]⟩ : ByteArray).size + (rdigF (IntKind.u64.wrap f.Num).toNat false).size + (⟨#[59]⟩ : ByteArray).size ≤ 9223372036854775807 := by omega
  have e7 : (⟨#[108, 111, 111, 115, 101, 32]⟩ : ByteArray).size + ((wordT f.Ty).size + f.Ref.size + (⟨#[32]⟩ : ByteArray).size + f.Name.size + (⟨#[32, 61, 32]⟩ : ByteArray).size + (rdigF (IntKind.u64.wrap f.Num).toNat false).size + (⟨#[59]⟩ : ByteArray).size) ≤ 9223372036854775807 := by omega
  have e8 : (⟨#[114, 101, 112, 101, 97, 116, 101, 100, 32]⟩ : ByteArray).size + ((wordT f.Ty).size + f.Ref.size + (⟨#[32]⟩ : ByteArray).size + f.Name.size + (⟨#[32, 61, 32]⟩ : ByteArray).size + (rdigF (IntKind.u64.wrap f.Num).toNat false).size + (⟨#[59]⟩ : ByteArray).size) ≤ 9223372036854775807 := by omega
  cases h1 : decide (rcheckF f = 0)
  · simp [X, Y, Z, d_rCheck, h1, rtxtF]
  · simp [X, Y, Z, d_rCheck, h1, d_refWord, hd, e1, e2, e3, e4, e5, e6, rtxtF, rtxtB]
    cases f.Loose <;> cases f.Rep <;> simp [X, Y, Z, e7, e8]
theorem ba_nil (a : ByteArray) : noS ++ a = a := by
  apply ByteArray.ext
  rw [ByteArray.data_append]
  simp
theorem ba_nil' (a : ByteArray) : a ++ noS = a := by
  apply ByteArray.ext
  rw [ByteArray.data_append]
  simp
theorem text_eq (f : Fld) : textF f = rtxtF f := by
  unfold textF rtxtF
  rw [check_eq]
  by_cases h0 : rcheckF f = 0
  · rw [if_pos h0, decide_eq_true h0]
    have hd : digF (IntKind.u64.wrap f.Num) false = rdigF (IntKind.u64.wrap f.Num).toNat false := by
      unfold digF rdigF digU
      by_cases hz : (IntKind.u64.wrap f.Num).toNat = 0
      · rw [hz, if_pos rfl]
        simp [Lib.decDigits_one]
      · rw [if_neg hz]
        rfl
    have hw : (bif decide (f.Ref = noS) then wordT f.Ty else f.Ref) = wordT f.Ty ++ f.Ref := by
      by_cases hr : f.Ref = noS
      · rw [hr, ba_nil']
        simp
      · rw [decide_eq_false hr]
        have hre : refersF f.Ty = true := by
          cases hre : refersF f.Ty with
          | true => rfl
          | false =>
            exfalso
            unfold rcheckF at h0
            rw [hre, decide_eq_false hr] at h0
            revert h0
            cases (!rrightF f.Name || (!decide (f.One = noS) && !rrightF f.One)) <;> simp
        have ht : wordT f.Ty = noS := by
          unfold refersF at hre
          simp at hre
          rcases hre with h | h <;> rw [h] <;> rfl
        rw [ht, ba_nil]
        rfl
    rw [hw]
    unfold textB rtxtB aheadF
    rw [hd]
    cases f.Loose <;> cases f.Rep <;> simp only [cond_true, cond_false, Bool.not_true, ba_nil, ByteArray.append_assoc]
  · rw [if_neg h0, decide_eq_false h0]
    rfl
end Go.Proofs.YtmhdapjmndfkgaaGreatDoor.Sp.B
