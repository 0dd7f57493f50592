/- Plain laws of the layer of names: which texts are names, by the program and by the document. No condition. -/
import Derived.Test.YticmmpiffekbiaaDoorPx0
import Derived.Test.YticmmpiffekbiaaDoorPx13
import Derived.Test.YticmmpiffekbiaaDoorPx14
import Derived.Test.YticmmpiffekbiaaDoorPx19
import Derived.Test.YticmmpiffekbiaaDoorPx20
import Derived.Test.YticmmpiffekbiaaDoorBase
namespace Go.Proofs.YticmmpiffekbiaaDoor.Px
open Go.RowKit Go.Proofs.YticmmpiffekbiaaDoorW.PrintWords Go.Proofs.YticmmpiffekbiaaDoorW.PrintLast
set_option linter.unusedSimpArgs false
set_option linter.unusedVariables false

def wordsLL : List (List UInt8) := [[101, 110, 117, 109], [109, 101, 115, 115, 97, 103, 101], [111, 110, 101, 111, 102], [114, 101, 112, 101, 97, 116, 101, 100], [114, 101, 115, 101, 114, 118, 101, 100], [108, 111, 111, 115, 101], [105, 110, 116, 51, 50], [105, 110, 116, 54, 52], [117, 105, 110, 116, 51, 50], [117, 105, 110, 116, 54, 52], [115, 105, 110, 116, 51, 50], [115, 105, 110, 116, 54, 52], [98, 111, 111, 108], [102, 105, 120, 101, 100, 51, 50], [102, 105, 120, 101, 100, 54, 52], [115, 102, 105, 120, 101, 100, 51, 50], [115, 102, 105, 120, 101, 100, 54, 52], [115, 116, 114, 105, 110, 103], [98, 121, 116, 101, 115], [114, 101, 110, 97, 109, 101], [114, 101, 110, 117, 109, 98, 101, 114], [114, 101, 116, 121, 112, 101], [115, 112, 108, 105, 116], [106, 111, 105, 110], [119, 114, 97, 112], [117, 110, 119, 114, 97, 112], [97, 100, 100], [100, 114, 111, 112], [116, 111], [105, 110, 116, 111], [97, 115], [111, 102], [100, 101, 102, 97, 117, 108, 116], [116, 114, 117, 101], [102, 97, 108, 115, 101]]
def wordB (s : ByteArray) : Bool := decide (s.toList ∈ wordsLL)
theorem ident_word_eq (k : Nat) (s : ByteArray) : ident_word.f (k + 4) s = some (wordB s) := by
  unfold wordB
  by_cases h : s.toList ∈ wordsLL
  · rw [decide_eq_true h]
    simp only [wordsLL, List.mem_cons, List.not_mem_nil, or_false] at h
    unfold ident_word.f
    simp only [ident_word.j0, ident_word.j1, ident_word.j2, ident_word.j3]
    rcases h with h | h | h | h | h | h | h | h | h | h | h | h | h | h | h | h | h | h | h | h | h | h | h | h | h | h | h | h | h | h | h | h | h | h | h <;> simp [h]
  · rw [decide_eq_false h]
    simp only [wordsLL, List.mem_cons, List.not_mem_nil, or_false, not_or] at h
    unfold ident_word.f
    simp only [ident_word.j0, ident_word.j1, ident_word.j2, ident_word.j3]
    simp [h]
def bytesOk (s : ByteArray) : Nat → Nat → Bool
  | 0, _ => true
  | b + 1, pos => if pos < s.size then okRune pos (bt s pos) && bytesOk s b (pos + 1) else true
theorem bt_byte {s : ByteArray} {pos : Nat} (h : pos < s.size) : bt s (pos : Int) = ((s[pos]'h).toNat : Int) := (bt_at s pos (by simpa using h)).symm
theorem okRune_high {i : Nat} {c : Int} (h : 128 ≤ c) : okRune i c = false := by
  have h1 : letterB c = false := by unfold letterB; exact decide_eq_false (by omega)
  have h2 : digitB c = false := by unfold digitB; exact decide_eq_false (by omega)
  unfold okRune
  rw [h1, h2]; simp
theorem runes_bytes (s : ByteArray) : ∀ b pos, runesOk s b pos = bytesOk s b pos
  | 0, _ => rfl
  | b + 1, pos => by
    by_cases hp : pos < s.size
    · by_cases ha : (s[pos]'hp).toNat < 128
      · have e := decode_ascii s pos hp ha
        simp only [runesOk, bytesOk, hp, if_true, e, bt_byte hp]
        rw [runes_bytes s b (pos + 1)]
      · have e := (decode_high s pos hp (by omega)).1
        simp only [runesOk, bytesOk, hp, if_true]
        rw [okRune_high (by omega), okRune_high (by rw [bt_byte hp]; omega)]
        rfl
    · simp [runesOk, bytesOk, hp]
theorem ref_Letter_eq (c : Int) : ecdysisref09_Letter.f c = some (letterB c) := by
  unfold ecdysisref09_Letter.f letterB
  repeat' split
  all_goals (congr 1; first | (symm; rw [decide_eq_true_eq]; omega) | (symm; rw [decide_eq_false_iff_not]; omega) | (rw [decide_eq_decide]; omega))
theorem ref09_l1 (s : ByteArray) (ws : List ByteArray) (hw : ws.length < 1000) (d : Nat) : ∀ (k i : Nat), ws.length - i = d → i ≤ ws.length → d < k →
    ecdysisref09_Right.l1 k s ws i = some (!(ws.drop i).any (fun x => decide (x = s))) := by
  induction d with
  | zero =>
    intro k i hd hi hk
    obtain ⟨k, rfl⟩ : ∃ m, k = m + 1 := ⟨k - 1, by omega⟩
    have e : ws.drop i = [] := List.drop_of_length_le (by omega)
    simp only [ecdysisref09_Right.l1, e]
    rw [if_neg (by omega)]; simp
  | succ d ih =>
    intro k i hd hi hk
    obtain ⟨k, rfl⟩ : ∃ m, k = m + 1 := ⟨k - 1, by omega⟩
    have hl : i < ws.length := by omega
    have e : ws.drop i = ws[i] :: ws.drop (i + 1) := List.drop_eq_getElem_cons hl
    have er : rdOf ByteArray.empty ws (i : Int) = ws[i] := by
      unfold rdOf
      simp [List.getD_eq_getElem?_getD, hl]
    simp only [ecdysisref09_Right.l1]
    rw [if_pos (by omega), if_pos (by omega), er, e]
    by_cases c : ws[i] = s
    · rw [if_pos (by rw [c]), List.any_cons, decide_eq_true c]; rfl
    · rw [if_neg (fun h => c (str_inj h)), wrap64_of (by omega), show ((i : Int) + 1) = ((i + 1 : Nat) : Int) from by omega, ih k (i + 1) (by omega) (by omega) (by omega)]
      congr 1
      rw [List.any_cons, decide_eq_false c, Bool.false_or]
theorem words_len : ∀ ws, ecdysisref09_words.f = some ws → ws.length = 35 := by
  intro ws h
  unfold ecdysisref09_words.f at h
  obtain rfl := Option.some.inj h
  rfl
theorem words_mem (s : ByteArray) : ∀ ws, ecdysisref09_words.f = some ws → (s ∈ ws ↔ s.toList ∈ wordsLL) := by
  intro ws h
  unfold ecdysisref09_words.f at h
  obtain rfl := Option.some.inj h
  simp only [wordsLL, List.mem_cons, List.not_mem_nil, or_false, str_lit]
theorem ref09_tail (k : Nat) (s : ByteArray) : ((ecdysisref09_words.f).bind fun t => ecdysisref09_Right.l1 (k + 40) s t 0) = some (!wordB s) := by
  cases h : ecdysisref09_words.f with
  | none => unfold ecdysisref09_words.f at h; cases h
  | some ws =>
    have hl := words_len ws h
    have hm := words_mem s ws h
    rw [Option.bind_some]
    have e := ref09_l1 s ws (by omega) 35 (k + 40) 0 (by omega) (by omega) (by omega)
    simp only [Int.natCast_zero, List.drop_zero] at e
    rw [e]
    unfold wordB
    congr 1
    congr 1
    rw [Bool.eq_iff_iff, List.any_eq_true, decide_eq_true_eq, ← hm]
    constructor
    · rintro ⟨x, hx, he⟩
      rw [decide_eq_true_eq] at he
      exact he ▸ hx
    · intro h
      exact ⟨s, h, decide_eq_true rfl⟩
theorem ref09_l0 (s : ByteArray) (hs : s.size ≤ 12) (d : Nat) : ∀ (k i : Nat), s.size - i = d → (i = 0 → 0 < s.size → letterB (bt s 0) = true) →
    ecdysisref09_Right.l0 (k + d + 41) s i = if bytesOk s d i = true then some (!wordB s) else some false := by
  induction d with
  | zero =>
    intro k i hd _
    simp only [ecdysisref09_Right.l0, bytesOk, if_true]
    rw [if_neg (by omega)]
    exact ref09_tail k s
  | succ d ih =>
    intro k i hd hf
    have hl : i < s.size := by omega
    have ih := ih k (i + 1) (by omega) (by omega)
    rw [show k + (d + 1) + 41 = (k + d + 41) + 1 from by omega]
    generalize k + d + 41 = K at ih ⊢
    simp only [ecdysisref09_Right.l0, ref_Letter_eq, Option.bind_some]
    have hli : (i : Int) < (s.size : Int) := by omega
    have h0i : (0 : Int) ≤ (i : Int) := by omega
    have hwi : wrap64 ((i : Int) + 1) = ((i + 1 : Nat) : Int) := by rw [wrap64_of (by omega)]; omega
    rw [if_pos hli, if_pos h0i, hwi, ih]
    clear hwi
    simp only [bytesOk, hl, if_true]
    by_cases hL : letterB (bt s i) = true
    · rw [if_pos hL]; simp [okRune, hL]
    · rw [if_neg hL]
      have hi : i ≠ 0 := by
        rintro rfl
        exact hL (hf rfl hl)
      have hL' : letterB (bt s i) = false := by simpa using hL
      simp only [okRune, hL', Bool.false_or, decide_eq_true hi, Bool.true_and]
      by_cases hD : digitB (bt s i) = true
      · simp only [hD, Bool.true_and]
        unfold digitB at hD
        rw [decide_eq_true_eq] at hD
        by_cases c1 : bt s i < 48
        · have h95 : bt s i = 95 := by omega
          rw [if_pos c1, if_pos h95]
        · rw [if_neg c1]
          by_cases c2 : bt s i > 57
          · have h95 : bt s i = 95 := by omega
            rw [if_pos c2, if_pos h95]
          · rw [if_neg c2]
      · have hD' : digitB (bt s i) = false := by simpa using hD
        simp only [hD', Bool.false_and, Bool.false_eq_true, if_false]
        unfold digitB at hD
        rw [decide_eq_true_eq] at hD
        by_cases c1 : bt s i < 48
        · have h95 : ¬ bt s i = 95 := by omega
          rw [if_pos c1, if_neg h95]
        · rw [if_neg c1]
          by_cases c2 : bt s i > 57
          · have h95 : ¬ bt s i = 95 := by omega
            rw [if_pos c2, if_neg h95]
          · exfalso; omega
def rightB (s : ByteArray) : Bool := decide (1 ≤ s.size ∧ s.size ≤ 12) && bytesOk s s.size 0 && !wordB s
theorem size_zero {s : ByteArray} : s.toList = [] ↔ s.size = 0 := by
  rw [ByteArray.toList_eq]
  constructor
  · intro h; have := congrArg List.length h; rw [Array.length_toList] at this; exact this
  · intro h; apply List.eq_nil_of_length_eq_zero; rw [Array.length_toList]; exact h
theorem ident_Right_eq (s : ByteArray) : ident_Right.f s = some (rightB s) := by
  unfold ident_Right.f rightB
  rw [runes_bytes, ident_word_eq 0, Option.bind_some]
  cases bytesOk s s.size 0 with
  | false => simp
  | true =>
    simp only [if_true, Bool.and_true]
    by_cases c : s.toList = []
    · rw [if_pos c]
      have := size_zero.mp c
      rw [decide_eq_false (by omega)]; simp
    · have : s.size ≠ 0 := fun h => c (size_zero.mpr h)
      rw [if_neg c]
      by_cases d : (s.size : Int) ≤ 12
      · rw [if_pos d, decide_eq_true (by omega)]; simp
      · rw [if_neg d, decide_eq_false (by omega)]; simp
theorem bytesOk_first {s : ByteArray} (h : 0 < s.size) (hL : letterB (bt s 0) = false) : bytesOk s s.size 0 = false := by
  obtain ⟨n, hn⟩ : ∃ n, s.size = n + 1 := ⟨s.size - 1, by omega⟩
  rw [hn]
  simp only [bytesOk]
  rw [if_pos h]
  have : okRune 0 (bt s ((0 : Nat) : Int)) = false := by
    unfold okRune
    simp only [Int.natCast_zero, hL]; simp
  rw [this]; rfl
theorem ref09_Right_eq (k : Nat) (s : ByteArray) : ecdysisref09_Right.f (k + 60) s = some (rightB s) := by
  unfold ecdysisref09_Right.f rightB
  simp only [ref_Letter_eq, Option.bind_some, ecdysisref09_Right.j0]
  by_cases c1 : (s.size : Int) < 1
  · rw [if_pos c1, decide_eq_false (by omega)]; simp
  · rw [if_neg c1]
    by_cases c2 : (s.size : Int) > 12
    · rw [if_pos c2, decide_eq_false (by omega)]; simp
    · rw [if_neg c2, if_pos (by omega), decide_eq_true (by omega)]
      cases hL : letterB (bt s 0) with
      | false => rw [bytesOk_first (by omega) hL]; simp
      | true =>
        have e := ref09_l0 s (by omega) s.size (k + 18 - s.size) 0 (by omega) (fun _ _ => hL)
        rw [show k + 18 - s.size + s.size + 41 = k + 59 from by omega] at e
        simp only [Int.natCast_zero] at e
        simp only [Bool.not_true, Bool.false_eq_true, if_false]
        rw [e]
        cases bytesOk s s.size 0 <;> simp
end Go.Proofs.YticmmpiffekbiaaDoor.Px
