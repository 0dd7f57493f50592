/- The lexer. -/
import Derived.Test.YticmmpiffekbiaaDoorCtT
import Derived.Test.YticmmpiffekbiaaDoorPrim
import Derived.Test.YticmmpiffekbiaaDoorEng5
namespace Go.Proofs.YticmmpiffekbiaaDoor.Ct
open Go Go.Proofs.YticmmpiffekbiaaDoor.Eng Go.Proofs.YticmmpiffekbiaaDoor.Eng.V
set_option linter.unusedSimpArgs false
set_option linter.unusedVariables false
noncomputable abbrev dd : Eng.Call := D defs Prim.prims Prim.powG
abbrev i64 (n : Int) : AV := .v (.int .i64 n)
abbrev u64 (n : Int) : AV := .v (.int .u64 n)
abbrev bl (b : Bool) : AV := .v (.bool b)
abbrev st (s : ByteArray) : AV := .v (.string s)
theorem xi_at {α : Type} {e : α → List AV} {xs : List α} {n : Nat} {x : α} {k : List AV → Out} {u : Tag k} (h : xs[n]? = some x) : Xi (xs.map e) (n : Int) k u = k (e x) := by
  unfold Xi
  rw [if_pos (by omega)]
  simp [h]
theorem wrap_succ {n : Nat} (h : n < 4611686018427387904) : IntKind.i64.wrap ((n : Int) + 1) = (n : Int) + 1 := by
  simp [IntKind.wrap, IntKind.bits, IntKind.signed]
  omega
theorem byteArr_at {s : ByteArray} {i : Nat} (h : i < s.size) : s[i]? = some s[i] := getElem?_pos s i h
def letB (c : Int) : Bool := (decide (97 ≤ c) && decide (c ≤ 122)) || (decide (65 ≤ c) && decide (c ≤ 90))
theorem d_refLetter (c : Int) : dd i_ref09_Letter [.v (.int .u8 c)] = some (bl (letB c)) := by
  refine D_runE (V := v_ref09_Letter) 1 rfl rfl rfl ?_
  rw [s_ref09_Letter]
  cases h1 : decide (97 ≤ c) <;> cases h2 : decide (c ≤ 122) <;> cases h3 : decide (65 ≤ c) <;> simp only [X, Y, Z, letB, h1, h2, h3] <;> rfl
def digB (c : Int) : Bool := decide (48 ≤ c) && decide (c ≤ 57)
theorem d_digit (c : Int) : dd i_ref10_digit [.v (.int .u8 c)] = some (bl (digB c)) := by
  refine D_runE (V := v_ref10_digit) 1 rfl rfl rfl ?_
  rw [s_ref10_digit]
  cases h1 : decide (48 ≤ c) <;> simp only [X, Y, Z, digB, h1] <;> rfl
def byB (s : ByteArray) (i : Nat) : Int := ((s[i]?.getD 0).toNat : Int)
theorem d_pass_end (s : ByteArray) : dd i_ref10_pass [st s, i64 s.size] = some (i64 s.size) := by
  refine D_runE (V := v_ref10_pass) 100 rfl rfl rfl ?_
  rw [s_ref10_pass, show (100 : Nat) = 99 + 1 from rfl, R_ref10_pass_1_s]
  simp [X, Y, Z]
theorem d_pass_at (s : ByteArray) (i : Nat) (h : i < s.size) (h1 : byB s i ≠ 32) (h2 : byB s i ≠ 10) (h3 : byB s i ≠ 9) (h4 : byB s i ≠ 47) : dd i_ref10_pass [st s, i64 i] = some (i64 i) := by
  refine D_runE (V := v_ref10_pass) 100 rfl rfl rfl ?_
  have h0 : (i : Int) < (s.size : Int) := by omega
  have g := byteArr_at h
  have hb : byB s i = ((s[i].toNat : Nat) : Int) := by simp [byB, g]
  rw [hb] at h1 h2 h3 h4
  rw [s_ref10_pass, show (100 : Nat) = 99 + 1 from rfl, R_ref10_pass_1_s]
  generalize s[i] = c at g h1 h2 h3 h4
  generalize hc : ((c.toNat : Nat) : Int) = z at h1 h2 h3 h4
  simp [X, Y, Z, h0, g, hc, h1, h2, h3, h4]
theorem d_word0 (s : ByteArray) (h : 0 < s.size) (hl : letB (byB s 0) = false) : dd i_ref10_word [st s] = some (i64 0) := by
  refine D_runE (V := v_ref10_word) 100 rfl rfl rfl ?_
  have h0 : (0 : Int) < (s.size : Int) := by omega
  have g := byteArr_at h
  have hb : byB s 0 = ((s[0].toNat : Nat) : Int) := by simp [byB, g]
  rw [hb] at hl
  rw [s_ref10_word, show (100 : Nat) = 99 + 1 from rfl, R_ref10_word_0_s]
  simp [X, Y, Z, h, h0, g, hl, d_refLetter]
end Go.Proofs.YticmmpiffekbiaaDoor.Ct
