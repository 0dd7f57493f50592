/- What the document's functions of names come to. -/
import Derived.Test.YticmmpiffekbiaaDoorFdA
namespace Go.Proofs.YticmmpiffekbiaaDoor.Fd
open Go Go.Proofs.YticmmpiffekbiaaDoor.Eng Go.Proofs.YticmmpiffekbiaaDoor.Eng.V
set_option linter.unusedSimpArgs false
set_option linter.unusedVariables false
theorem xi_at {α : Type} {e : α → List AV} {xs : List α} {n : Nat} {x : α} {k : List AV → Out} {u : Tag k} (h : xs[n]? = some x) : Xi (xs.map e) (n : Int) k u = k (e x) := by
  unfold Xi
  rw [if_pos (by omega)]
  simp [h]
theorem wrap_succ {n : Nat} (h : n < 4611686018427387904) : IntKind.i64.wrap ((n : Int) + 1) = (n : Int) + 1 := by
  simp [IntKind.wrap, IntKind.bits, IntKind.signed]
  omega
theorem byteArr_at {s : ByteArray} {i : Nat} (h : i < s.size) : s[i]? = some s[i] := getElem?_pos s i h
def letB (c : Int) : Bool := (decide (97 ≤ c) && decide (c ≤ 122)) || (decide (65 ≤ c) && decide (c ≤ 90))
theorem d_refLetter (c : Int) : dd i_ref09_Letter [.v (.int .u8 c)] = some (bl (letB c)) := by
  refine D_runE (V := v_ref09_Letter) 1 rfl rfl rfl ?_
  rw [s_ref09_Letter]
  cases h1 : decide (97 ≤ c) <;> cases h2 : decide (c ≤ 122) <;> cases h3 : decide (65 ≤ c) <;> simp only [X, Y, Z, letB, h1, h2, h3] <;> rfl
def wordsL : List ByteArray := Fd.W.wordsB0 ++ (Fd.W.wordsB1 ++ (Fd.W.wordsB2 ++ (Fd.W.wordsB3 ++ Fd.W.wordsB4)))
theorem d_refwords : dd i_ref09_words [] = some (.own 1 true (wordsL.map fun w => [st w])) := D_runE (V := v_ref09_words) 1 rfl rfl rfl (by kernel_rfl)
theorem R1_at (s : ByteArray) (ws : List ByteArray) (hw : ws.length < 4000000) : ∀ (d i m : Nat), ws.length - i = d → d < m → R_ref09_Right_1 dd Prim.powG 100 m [] (st s) (.fsl (ws.map fun w => [st w])) (i64 i) = some (bl (!(ws.drop i).any fun w => decide (w = s))) := by
  intro d
  induction d with
  | zero =>
    intro i m hd hm
    obtain ⟨m, rfl⟩ : ∃ k, m = k + 1 := ⟨m - 1, by omega⟩
    rw [R_ref09_Right_1_s]
    have h1 : ¬ ((i : Int) < (ws.length : Int)) := by omega
    have h2 : ws.drop i = [] := List.drop_of_length_le (by omega)
    simp [X, Y, Z, h1, h2]
  | succ d ih =>
    intro i m hd hm
    obtain ⟨m, rfl⟩ : ∃ k, m = k + 1 := ⟨m - 1, by omega⟩
    rw [R_ref09_Right_1_s]
    have hi : i < ws.length := by omega
    have h1 : (i : Int) < (ws.length : Int) := by omega
    have h2 : ws.drop i = ws[i] :: ws.drop (i + 1) := List.drop_eq_getElem_cons hi
    have h3 : ws[i]? = some ws[i] := List.getElem?_eq_getElem hi
    have h4 := ih (i + 1) m (by omega) (by omega)
    push_cast at h4
    rw [h2]
    generalize ws[i] = x at h3 ⊢
    cases h5 : decide (x = s)
    · simp [X, Y, Z, h1, xi_at h3, h5, wrap_succ (show i < 4611686018427387904 by omega), h4]
    · simp [X, Y, Z, h1, xi_at h3, h5]
def okB (i : Nat) (c : Int) : Bool := letB c || (!((decide (c < 48) || decide (57 < c)) && !decide (c = 95)))
def byB (s : ByteArray) (i : Nat) : Int := ((s[i]?.getD 0).toNat : Int)
def allB (s : ByteArray) : Nat → Nat → Bool
  | 0, _ => true
  | d + 1, i => okB i (byB s i) && allB s d (i + 1)
def notWord (s : ByteArray) : Bool := !wordsL.any fun w => decide (w = s)
theorem R0_at (s : ByteArray) : ∀ (d i m : Nat), s.size - i = d → i ≤ s.size → s.size < 100 → d < m → R_ref09_Right_0 dd Prim.powG 100 m [] (st s) (i64 i) = some (bl (allB s d i && notWord s)) := by
  intro d
  induction d with
  | zero =>
    intro i m hd hi hs hm
    obtain ⟨m, rfl⟩ : ∃ k, m = k + 1 := ⟨m - 1, by omega⟩
    rw [R_ref09_Right_0_s]
    have h1 : ¬ ((i : Int) < (s.size : Int)) := by omega
    have h2 := R1_at s wordsL (by decide) 35 0 100 (by decide) (by omega)
    simp only [Int.natCast_zero, List.drop_zero] at h2
    simp [X, Y, Z, h1, d_refwords, h2, allB, notWord]
  | succ d ih =>
    intro i m hd hi hs hm
    obtain ⟨m, rfl⟩ : ∃ k, m = k + 1 := ⟨m - 1, by omega⟩
    rw [R_ref09_Right_0_s]
    have hl : i < s.size := by omega
    have h1 : (i : Int) < (s.size : Int) := by omega
    have h2 := byteArr_at hl
    have h4 := ih (i + 1) m (by omega) (by omega) hs (by omega)
    push_cast at h4
    have hb : byB s i = ((s[i].toNat : Nat) : Int) := by simp [byB, h2]
    unfold allB
    rw [hb]
    generalize s[i] = c at h2 ⊢
    generalize hc : ((c.toNat : Nat) : Int) = z
    cases h5 : letB z <;> cases h6 : decide (z < 48) <;> cases h7 : decide (57 < z) <;> cases h8 : decide (z = 95) <;>
    simp [X, Y, Z, h1, h2, hc, h5, h6, h7, h8, d_refLetter, okB, wrap_succ (show i < 4611686018427387904 by omega), h4]
def rrightF (s : ByteArray) : Bool := decide (1 ≤ s.size) && (decide (s.size ≤ 12) && (letB (byB s 0) && (allB s s.size 0 && notWord s)))
theorem d_refRight (s : ByteArray) : dd i_ref09_Right [st s] = some (bl (rrightF s)) := by
  refine D_runE (V := v_ref09_Right) 100 rfl rfl rfl ?_
  rw [s_ref09_Right]
  by_cases h1 : 1 ≤ s.size
  · by_cases h2 : s.size ≤ 12
    · have e1 : ¬ ((s.size : Int) < 1) := by omega
      have e2 : ¬ (12 < (s.size : Int)) := by omega
      have h3 := byteArr_at (show 0 < s.size by omega)
      have hb : byB s 0 = ((s[0].toNat : Nat) : Int) := by simp [byB, h3]
      have h4 := R0_at s s.size 0 100 (by omega) (by omega) (by omega) (by omega)
      simp only [Int.natCast_zero] at h4
      unfold rrightF
      rw [hb]
      generalize s[0] = c at h3 ⊢
      generalize hc : ((c.toNat : Nat) : Int) = z
      cases h5 : letB z <;> simp [X, Y, Z, e1, e2, h1, h2, h3, hc, h5, d_refLetter, h4]
    · have e1 : ¬ ((s.size : Int) < 1) := by omega
      have e2 : (12 < (s.size : Int)) := by omega
      simp [X, Y, Z, e1, e2, h1, h2, rrightF]
  · have e1 : ((s.size : Int) < 1) := by omega
    simp [X, Y, Z, e1, h1, rrightF]
theorem letB_eq (c : Int) : Prim.letterB c = letB c := by
  unfold Prim.letterB letB
  rw [Bool.eq_iff_iff]
  simp
theorem okRune_eq {i : Nat} (h : i ≠ 0) (c : Int) : Prim.okRune i c = okB i c := by
  unfold Prim.okRune okB Prim.digitB
  rw [letB_eq]
  cases letB c
  · rw [Bool.eq_iff_iff]
    simp [h]
    try omega
  · rfl
theorem okRune_zero (c : Int) : Prim.okRune 0 c = letB c := by
  unfold Prim.okRune
  rw [letB_eq]
  simp
theorem okRune_high {i : Nat} {c : Int} (h : 128 ≤ c) : Prim.okRune i c = false := by
  have h1 : Prim.letterB c = false := by unfold Prim.letterB; exact decide_eq_false (by omega)
  have h2 : Prim.digitB c = false := by unfold Prim.digitB; exact decide_eq_false (by omega)
  unfold Prim.okRune
  rw [h1, h2]; simp
theorem byB_at {s : ByteArray} {i : Nat} (h : i < s.size) : byB s i = ((s[i]'h).toNat : Int) := by simp [byB, byteArr_at h]
def bytesOk (s : ByteArray) : Nat → Nat → Bool
  | 0, _ => true
  | b + 1, pos => if pos < s.size then Prim.okRune pos (byB s pos) && bytesOk s b (pos + 1) else true
theorem runes_bytes (s : ByteArray) : ∀ b pos, Prim.runesOk s b pos = bytesOk s b pos
  | 0, _ => rfl
  | b + 1, pos => by
    by_cases hp : pos < s.size
    · by_cases ha : (s[pos]'hp).toNat < 128
      · have e := decode_ascii s pos hp ha
        simp only [Prim.runesOk, bytesOk, hp, if_true, e, byB_at hp]
        rw [runes_bytes s b (pos + 1)]
      · have e := (decode_high s pos hp (by omega)).1
        simp only [Prim.runesOk, bytesOk, hp, if_true]
        rw [okRune_high (by omega), okRune_high (by rw [byB_at hp]; omega)]
        rfl
    · simp [Prim.runesOk, bytesOk, hp]
theorem bytes_all (s : ByteArray) : ∀ d i, i ≠ 0 → s.size - i = d → bytesOk s d i = allB s d i
  | 0, _, _, _ => rfl
  | d + 1, i, hi, hd => by
    simp only [bytesOk, allB]
    rw [if_pos (by omega), okRune_eq hi, bytes_all s d (i + 1) (by omega) (by omega)]
theorem size_nil {s : ByteArray} : s.toList = [] ↔ s.size = 0 := by
  rw [ByteArray.toList_eq]
  constructor
  · intro h; have := congrArg List.length h; rw [Array.length_toList] at this; exact this
  · intro h; apply List.eq_nil_of_length_eq_zero; rw [Array.length_toList]; exact h
theorem notWord_eq (s : ByteArray) : (!Fd.W.wordF s) = notWord s := by
  unfold notWord wordsL Fd.W.wordF Fd.W.anyW
  simp only [List.any_append, eq_comm]
theorem right_eq (s : ByteArray) : Prim.rightF s = rrightF s := by
  unfold Prim.rightF Prim.rightO rrightF
  rw [runes_bytes, notWord_eq]
  by_cases h0 : s.size = 0
  · have hn := size_nil.2 h0
    rw [if_pos hn, decide_eq_false (show ¬ 1 ≤ s.size by omega)]
    split <;> rfl
  · have hn : ¬ s.toList = [] := fun h => h0 (size_nil.1 h)
    rw [if_neg hn, decide_eq_true (show 1 ≤ s.size by omega)]
    obtain ⟨d, hd⟩ : ∃ d, s.size = d + 1 := ⟨s.size - 1, by omega⟩
    have e1 : bytesOk s s.size 0 = (letB (byB s 0) && allB s d 1) := by
      rw [hd]
      simp only [bytesOk]
      rw [if_pos (by omega), okRune_zero, bytes_all s d 1 (by omega) (by omega)]
    have e2 : allB s s.size 0 = (okB 0 (byB s 0) && allB s d 1) := by
      rw [hd]
      rfl
    rw [e1, e2]
    by_cases h12 : s.size ≤ 12
    · have : (s.size : Int) ≤ 12 := by omega
      rw [if_pos this, decide_eq_true h12]
      unfold okB
      cases letB (byB s 0) <;> cases allB s d 1 <;> simp
    · have : ¬ (s.size : Int) ≤ 12 := by omega
      rw [if_neg this, decide_eq_false h12]
      split <;> rfl
end Go.Proofs.YticmmpiffekbiaaDoor.Fd
