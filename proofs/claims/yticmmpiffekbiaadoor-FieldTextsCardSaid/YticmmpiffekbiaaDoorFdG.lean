/- Texts of fields. -/
import Derived.Test.YticmmpiffekbiaaDoorFdE
namespace Go.Proofs.YticmmpiffekbiaaDoor.Fd
open Go Go.Proofs.YticmmpiffekbiaaDoor.Eng Go.Proofs.YticmmpiffekbiaaDoor.Eng.V
set_option linter.unusedSimpArgs false
set_option linter.unusedVariables false
def rtextB (f : Fld) : ByteArray := wordT f.Ty ++ f.Ref ++ ⟨#[32]⟩ ++ f.Name ++ ⟨#[32, 61, 32]⟩ ++ rdigF (IntKind.u64.wrap f.Num).toNat false ++ ⟨#[59]⟩
def rtextF (f : Fld) : ByteArray := bif !decide (rcheckF f = 0) then noS else bif f.Loose then ⟨#[108, 111, 111, 115, 101, 32]⟩ ++ rtextB f else bif f.Rep then ⟨#[114, 101, 112, 101, 97, 116, 101, 100, 32]⟩ ++ rtextB f else rtextB f
theorem rdig_size (n : Nat) (h : n < 18446744073709551616) : (rdigF n false).size ≤ 20 := by
  unfold rdigF
  split
  · decide
  · exact digU_size n h
theorem d_rText (f : Fld) (hn : f.Name.size ≤ 100000) (hr : f.Ref.size ≤ 100000) : dd i_ref14_Text [fl f] = some (st (rtextF f)) := by
  refine D_runE (V := v_ref14_Text) 1 rfl rfl rfl ?_
  rw [s_ref14_Text]
  have hw : 0 ≤ IntKind.u64.wrap f.Num ∧ IntKind.u64.wrap f.Num < 18446744073709551616 := by rw [IntKind.wrap_u64]; omega
  have hd := d_refDigits (IntKind.u64.wrap f.Num).toNat false (by omega)
  rw [Int.toNat_of_nonneg hw.1] at hd
  have hds := rdig_size (IntKind.u64.wrap f.Num).toNat (by omega)
  have hws := wordT_size f.Ty
  have l1 : (⟨#[32]⟩ : ByteArray).size = 1 := rfl
  have l2 : (⟨#[32, 61, 32]⟩ : ByteArray).size = 3 := rfl
  have l3 : (⟨#[59]⟩ : ByteArray).size = 1 := rfl
  have l4 : (⟨#[108, 111, 111, 115, 101, 32]⟩ : ByteArray).size = 6 := rfl
  have l5 : (⟨#[114, 101, 112, 101, 97, 116, 101, 100, 32]⟩ : ByteArray).size = 9 := rfl
  have hall : (rtextB f).size ≤ 300000 := by
    unfold rtextB
    simp only [ByteArray.size_append]
    omega
  have e1 : (wordT f.Ty).size + f.Ref.size ≤ 9223372036854775807 := by omega
  have e2 : (wordT f.Ty).size + f.Ref.size + (⟨#[32]⟩ : ByteArray).size ≤ 9223372036854775807 := by omega
  have e3 : (wordT f.Ty).size + f.Ref.size + (⟨#[32]⟩ : ByteArray).size + f.Name.size ≤ 9223372036854775807 := by omega
  have e4 : (wordT f.Ty).size + f.Ref.size + (⟨#[32]⟩ : ByteArray).size + f.Name.size + (⟨#[32, 61, 32]⟩ : ByteArray).size ≤ 9223372036854775807 := by omega
  have e5 : (wordT f.Ty).size + f.Ref.size + (⟨#[32]⟩ : ByteArray).size + f.Name.size + (⟨#[32, 61, 32]⟩ : ByteArray).size + (rdigF (IntKind.u64.wrap f.Num).toNat false).size ≤ 9223372036854775807 := by omega
  have e6 : (wordT f.Ty).size + f.Ref.size + (⟨#[32]⟩ : ByteArray).size + f.Name.size + (⟨#[32, 61, 32]⟩ : ByteArray).size + (rdigF (IntKind.u64.wrap f.Num).toNat false).size + (⟨#[59]⟩ : ByteArray).size ≤ 9223372036854775807 := by omega
  have e7 : (⟨#[108, 111, 111, 115, 101, 32]⟩ : ByteArray).size + ((wordT f.Ty).size + f.Ref.size + (⟨#[32]⟩ : ByteArray).size + f.Name.size + (⟨#[32, 61, 32]⟩ : ByteArray).size + (rdigF (IntKind.u64.wrap f.Num).toNat false).size + (⟨#[59]⟩ : ByteArray).size) ≤ 9223372036854775807 := by omega
  have e8 : (⟨#[114, 101, 112, 101, 97, 116, 101, 100, 32]⟩ : ByteArray).size + ((wordT f.Ty).size + f.Ref.size + (⟨#[32]⟩ : ByteArray).size + f.Name.size + (⟨#[32, 61, 32]⟩ : ByteArray).size + (rdigF (IntKind.u64.wrap f.Num).toNat false).size + (⟨#[59]⟩ : ByteArray).size) ≤ 9223372036854775807 := by omega
  cases h1 : decide (rcheckF f = 0)
  · simp [X, Y, Z, d_rCheck, h1, rtextF]
  · simp [X, Y, Z, d_rCheck, h1, d_refWord, hd, e1, e2, e3, e4, e5, e6, rtextF, rtextB]
    cases f.Loose <;> cases f.Rep <;> simp [X, Y, Z, e7, e8]
theorem ba_nil (a : ByteArray) : noS ++ a = a := by
  apply ByteArray.ext
  rw [ByteArray.data_append]
  simp
theorem ba_nil' (a : ByteArray) : a ++ noS = a := by
  apply ByteArray.ext
  rw [ByteArray.data_append]
  simp
theorem text_eq (f : Fld) : textF f = rtextF f := by
  unfold textF rtextF
  rw [check_eq]
  by_cases h0 : rcheckF f = 0
  · rw [if_pos h0, decide_eq_true h0]
    have hd : digF (IntKind.u64.wrap f.Num) false = rdigF (IntKind.u64.wrap f.Num).toNat false := by
      unfold digF rdigF digU
      by_cases hz : (IntKind.u64.wrap f.Num).toNat = 0
      · rw [hz, if_pos rfl]
        simp [Lib.decDigits_one]
      · rw [if_neg hz]
        rfl
    have hw : (bif decide (f.Ref = noS) then wordT f.Ty else f.Ref) = wordT f.Ty ++ f.Ref := by
      by_cases hr : f.Ref = noS
      · rw [hr, ba_nil']
        simp
      · rw [decide_eq_false hr]
        have hre : refersF f.Ty = true := by
          cases hre : refersF f.Ty with
          | true => rfl
          | false =>
            exfalso
            unfold rcheckF at h0
            rw [hre, decide_eq_false hr] at h0
            revert h0
            cases (!rrightF f.Name || (!decide (f.One = noS) && !rrightF f.One)) <;> simp
        have ht : wordT f.Ty = noS := by
          unfold refersF at hre
          simp at hre
          rcases hre with h | h <;> rw [h] <;> rfl
        rw [ht, ba_nil]
        rfl
    rw [hw]
    unfold textB rtextB aheadF
    rw [hd]
    cases f.Loose <;> cases f.Rep <;> simp only [cond_true, cond_false, Bool.not_true, ba_nil, ByteArray.append_assoc]
  · rw [if_neg h0, decide_eq_false h0]
    rfl
theorem d_num (n : Int) : dd i_law14_num [i64 n] = some (i64 n) := by
  refine D_runE (V := v_law14_num) 1 rfl rfl rfl ?_
  rw [s_law14_num]
  simp [X, Y, Z]
def smallF (f : Fld) : Bool := decide (IntKind.i64.wrap (IntKind.i64.wrap ((f.Name.size : Int) + f.Ref.size) + f.One.size) < 1000)
theorem d_small (f : Fld) : dd i_law14_small [fl f] = some (bl (smallF f)) := by
  refine D_runE (V := v_law14_small) 1 rfl rfl rfl ?_
  rw [s_law14_small]
  simp [X, Y, Z, smallF]
theorem small_size (f : Fld) (h1 : f.Name.size ≤ 140737488351232) (h2 : f.Ref.size ≤ 140737488351232) (h3 : f.One.size ≤ 140737488351232) (h : smallF f = true) : f.Name.size < 1000 ∧ f.Ref.size < 1000 := by
  unfold smallF at h
  rw [decide_eq_true_eq] at h
  simp [IntKind.wrap, IntKind.bits, IntKind.signed] at h
  omega
def live14 : Fld := ⟨⟨#[97]⟩, 1, 1, noS, true, false, noS⟩
theorem live14_text : textF live14 = ⟨#[114, 101, 112, 101, 97, 116, 101, 100, 32, 105, 110, 116, 51, 50, 32, 97, 32, 61, 32, 49, 59]⟩ := by
  rw [text_eq]
  have h0 : rcheckF live14 = 0 := by decide +kernel
  have h1 : IntKind.u64.wrap live14.Num = 1 := by decide +kernel
  unfold rtextF rtextB rdigF
  rw [h0, h1]
  have h2 : Lib.decDigits (1 : Int).toNat = [49] := Lib.decDigits_one (by decide)
  rw [h2]
  decide +kernel
theorem d_live14 : dd i_law14_live [] = some (bl true) := by
  refine D_runE (V := v_law14_live) 1 rfl rfl rfl ?_
  rw [s_law14_live]
  have h := d_fText live14 (by decide) (by decide)
  rw [live14_text] at h
  simp only [live14] at h
  simp [X, Y, Z, h]
end Go.Proofs.YticmmpiffekbiaaDoor.Fd
