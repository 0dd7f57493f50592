/- For every text the program's type of it is the document's, and its word, where there is one, is the text. No condition. -/
import Derived.Test.YtddomdjphkalcaaScal
namespace Go.Proofs.Ytddomdjphkalcaa.Pure
open Go.RowKit Go.Proofs.Ytddomdjphkalcaa.Px Go.Proofs.YtddomdjphkalcaaW.PrintWords Go.Proofs.YtddomdjphkalcaaW.PrintLast
set_option linter.unusedSimpArgs false
set_option linter.unusedVariables false

def WordOf (s : ByteArray) (x : Int) : Prop := x = 0 ∨ wordN x = s
theorem word_ite {s z : ByteArray} {a b : Int} (h1 : wordN a = z) (h2 : WordOf s b) : WordOf s (if s = z then a else b) := by
  by_cases c : s = z
  · rw [if_pos c]; exact .inr (h1.trans c.symm)
  · rw [if_neg c]; exact h2
theorem word_of (s : ByteArray) : WordOf s (ofN s) := by
  unfold ofN
  repeat' refine word_ite rfl ?_
  exact .inl rfl
theorem ScalarWords : ecdysislaw11_ScalarWords.Pure := by
  intro s _
  refine ⟨20, ?_⟩
  unfold ecdysislaw11_ScalarWords.f
  simp only [scalar_Of_eq 3, ref_Of_eq 6, live11_eq 3, scalar_Word.f, Option.bind_some, if_true]
  split
  · rfl
  · rcases word_of s with h | h
    · rw [if_pos h]
    · rw [h]; simp

end Go.Proofs.Ytddomdjphkalcaa.Pure
