/- All. -/
import Derived.Test.YticmmpiffekbiaaDoorCtC
namespace Go.Proofs.YticmmpiffekbiaaDoor.Ct
open Go Go.Proofs.YticmmpiffekbiaaDoor.Eng Go.Proofs.YticmmpiffekbiaaDoor.Eng.V
set_option linter.unusedSimpArgs false
set_option linter.unusedVariables false
theorem rdig_list (N : Nat) (neg : Bool) (h : neg = true → N ≠ 0) : (rdigF N neg).data.toList = (bif neg then [45] else []) ++ Lib.decDigits N := by
  unfold rdigF
  by_cases h0 : N = 0
  · subst h0
    cases neg
    · rw [if_pos rfl, Lib.decDigits_one (by decide)]; rfl
    · exact absurd rfl (h rfl)
  · rw [if_neg h0]
    cases neg
    · rfl
    · simp only [cond_true, ByteArray.data_append, Array.toList_append]
def tokA (N : Nat) (neg : Bool) : AV := .agg [i64 2, st ⟨#[]⟩, u64 N, bl neg, i64 0]
theorem rdig_facts (N : Nat) (neg : Bool) (hN : N < 18446744073709551616) (h : neg = true → N ≠ 0) : 0 < (rdigF N neg).size ∧ (rdigF N neg).size ≤ 21 ∧ (neg = true → 1 < (rdigF N neg).size ∧ byB (rdigF N neg) 0 = 45) ∧ (neg = false → 48 ≤ byB (rdigF N neg) 0 ∧ byB (rdigF N neg) 0 ≤ 57) := by
  have hl := rdig_list N neg h
  obtain ⟨_, h2, h3, h4⟩ := dec_facts N hN
  have hs : (rdigF N neg).size = (rdigF N neg).data.toList.length := rfl
  have hb : ∀ (c : UInt8) (t : List UInt8), (rdigF N neg).data.toList = c :: t → byB (rdigF N neg) 0 = (c.toNat : Int) := by
    intro c t e
    have hp : 0 < (rdigF N neg).size := by rw [hs, e]; simp
    have g := byteArr_at hp
    have e2 : (rdigF N neg)[0] = c := by
      have : (rdigF N neg)[0] = (rdigF N neg).data.toList[0]'(by rw [e]; simp) := rfl
      rw [this]
      simp [e]
    simp [byB, g, e2]
  cases neg
  · rw [hl] at hs
    simp only [cond_false, List.nil_append] at hs hl
    refine ⟨by omega, by omega, (fun h => by cases h), fun _ => ?_⟩
    cases hd : Lib.decDigits N with
    | nil => rw [hd] at h4; simp at h4
    | cons c t =>
      rw [hd] at hl h2
      rw [hb c t hl]
      have := h2 c (List.mem_cons_self ..)
      omega
  · rw [hl] at hs
    simp only [cond_true, List.length_append, List.length_singleton] at hs
    refine ⟨by omega, by omega, fun _ => ⟨by omega, ?_⟩, (fun h => by cases h)⟩
    rw [hb 45 _ hl]
    rfl
theorem d_number (N : Nat) (neg : Bool) (hN : N < 18446744073709551616) (h : neg = true → N ≠ 0 ∧ N ≤ 9223372036854775808) : dd i_ref10_number [st (rdigF N neg)] = some (.tup [u64 N, bl neg, i64 (rdigF N neg).size]) := by
  refine D_runE (V := v_ref10_number) 100 rfl rfl rfl ?_
  rw [s_ref10_number]
  have hl := rdig_list N neg fun e => (h e).1
  obtain ⟨f1, f2, f3, f4⟩ := rdig_facts N neg hN fun e => (h e).1
  obtain ⟨e1, e2, e3, e4⟩ := dec_facts N hN
  have g := byteArr_at f1
  have hb : byB (rdigF N neg) 0 = (((rdigF N neg)[0].toNat : Nat) : Int) := by simp [byB, g]
  rw [hb] at f3 f4
  cases neg
  · have r := R_num (rdigF N false) false 0 N hN f1 (by omega) rfl (fun e => by cases e) _ 0 100 0 rfl (Nat.zero_le _) (by rw [List.drop_zero, hl]; exact e2) (by rw [List.drop_zero, hl]; exact e1) (by omega)
    simp only [Int.natCast_zero] at r
    have k := f4 rfl
    have k2 : ¬ ((((rdigF N false)[0].toNat : Nat) : Int) = 45) := by omega
    generalize rdigF N false = s at *
    simp [X, Y, Z, f1, k2, r]
  · have r := R_num (rdigF N true) true 1 N hN (f3 rfl).1 (by omega) rfl (fun e => (h rfl).2) _ 1 100 0 rfl (by omega) (by rw [hl]; exact e2) (by rw [hl]; exact e1) (by omega)
    simp only [Int.natCast_zero, Int.natCast_one] at r
    have k2 := (f3 rfl).2
    generalize rdigF N true = s at *
    simp [X, Y, Z, f1, k2, r]
theorem d_one (N : Nat) (neg : Bool) (hN : N < 18446744073709551616) (h : neg = true → N ≠ 0 ∧ N ≤ 9223372036854775808) : dd i_ref10_one [st (rdigF N neg)] = some (.tup [tokA N neg, i64 (rdigF N neg).size]) := by
  refine D_runE (V := v_ref10_one) 1 rfl rfl rfl ?_
  rw [s_ref10_one]
  obtain ⟨f1, f2, f3, f4⟩ := rdig_facts N neg hN fun e => (h e).1
  have hw : letB (byB (rdigF N neg) 0) = false := by
    unfold letB
    cases neg
    · have := f4 rfl
      simp
      omega
    · rw [(f3 rfl).2]; rfl
  have k1 := d_word0 _ f1 hw
  have k2 := d_number N neg hN h
  generalize rdigF N neg = s at *
  simp [X, Y, Z, f1, k1, k2, tokA]
theorem d_All (N : Nat) (neg : Bool) (hN : N < 18446744073709551616) (h : neg = true → N ≠ 0 ∧ N ≤ 9223372036854775808) : dd i_ref10_All [st (rdigF N neg), i64 100] = some (.tup [.own 5 true [[i64 2, st ⟨#[]⟩, u64 N, bl neg, i64 0], [i64 0, st ⟨#[]⟩, u64 0, bl false, i64 (rdigF N neg).size]], i64 (rdigF N neg).size, i64 0]) := by
  refine D_runE (V := v_ref10_All) 100 rfl rfl rfl ?_
  rw [s_ref10_All]
  obtain ⟨f1, f2, f3, f4⟩ := rdig_facts N neg hN fun e => (h e).1
  have k1 := d_one N neg hN h
  have k2 := d_pass_end (rdigF N neg)
  have hp : byB (rdigF N neg) 0 ≠ 32 ∧ byB (rdigF N neg) 0 ≠ 10 ∧ byB (rdigF N neg) 0 ≠ 9 ∧ byB (rdigF N neg) 0 ≠ 47 := by
    cases neg
    · have := f4 rfl
      omega
    · rw [(f3 rfl).2]; decide
  have k3 := d_pass_at (rdigF N neg) 0 f1 hp.1 hp.2.1 hp.2.2.1 hp.2.2.2
  simp only [Int.natCast_zero] at k3
  have q1 : ¬ ((100 : Int) < ((rdigF N neg).size : Int)) := by omega
  have q2 : IntKind.i64.wrap (((rdigF N neg).size : Nat) : Int) = ((rdigF N neg).size : Int) := by
    simp [IntKind.wrap, IntKind.bits, IntKind.signed]; omega
  have q3 : ¬ (((rdigF N neg).size : Int) = 0) := by omega
  have q4 : (rdigF N neg).size ≠ 0 := by omega
  have q5 := sls_lo (rdigF N neg)
  clear f3 f4 hp
  generalize rdigF N neg = s at *
  simp [X, Y, Z, k_ref10_All_0, q1, k3]
  rw [show (100 : Nat) = 99 + 1 from rfl, R_ref10_All_0_s]
  simp [X, Y, Z, k_ref10_All_0, f1, q5, k1, tokA, q2, q3, q4, k2]
  rw [show (99 : Nat) = 98 + 1 from rfl, R_ref10_All_0_s]
  simp [X, Y, Z, k_ref10_All_0, q2, k2]
end Go.Proofs.YticmmpiffekbiaaDoor.Ct
