/- Words. -/
import Derived.Test.YtmhdapjmndfkgaaGreatDoorSpT
import Derived.Test.YtmhdapjmndfkgaaGreatDoorPrim
import Derived.Test.YtmhdapjmndfkgaaGreatDoorEng6
namespace Go.Proofs.YtmhdapjmndfkgaaGreatDoor.Sp.W
open Go Go.Proofs.YtmhdapjmndfkgaaGreatDoor.Eng Go.Proofs.YtmhdapjmndfkgaaGreatDoor.Eng.V
set_option linter.unusedSimpArgs false
set_option linter.unusedVariables false
noncomputable abbrev dd : Eng.Call := D defs Prim.prims Prim.powG
abbrev i64 (n : Int) : AV := .v (.int .i64 n)
abbrev u64 (n : Int) : AV := .v (.int .u64 n)
abbrev bl (b : Bool) : AV := .v (.bool b)
abbrev st (s : ByteArray) : AV := .v (.string s)
/-- The words of the languages. -/
def wordsB0 : List ByteArray := [⟨#[101, 110, 117, 109]⟩, ⟨#[109, 101, 115, 115, 97, 103, 101]⟩, ⟨#[111, 110, 101, 111, 102]⟩, ⟨#[114, 101, 112, 101, 97, 116, 101, 100]⟩, ⟨#[114, 101, 115, 101, 114, 118, 101, 100]⟩, ⟨#[108, 111, 111, 115, 101]⟩]
def wordsB1 : List ByteArray := [⟨#[105, 110, 116, 51, 50]⟩, ⟨#[105, 110, 116, 54, 52]⟩, ⟨#[117, 105, 110, 116, 51, 50]⟩, ⟨#[117, 105, 110, 116, 54, 52]⟩, ⟨#[115, 105, 110, 116, 51, 50]⟩, ⟨#[115, 105, 110, 116, 54, 52]⟩, ⟨#[98, 111, 111, 108]⟩]
def wordsB2 : List ByteArray := [⟨#[102, 105, 120, 101, 100, 51, 50]⟩, ⟨#[102, 105, 120, 101, 100, 54, 52]⟩, ⟨#[115, 102, 105, 120, 101, 100, 51, 50]⟩, ⟨#[115, 102, 105, 120, 101, 100, 54, 52]⟩, ⟨#[115, 116, 114, 105, 110, 103]⟩, ⟨#[98, 121, 116, 101, 115]⟩]
def wordsB3 : List ByteArray := [⟨#[114, 101, 110, 97, 109, 101]⟩, ⟨#[114, 101, 110, 117, 109, 98, 101, 114]⟩, ⟨#[114, 101, 116, 121, 112, 101]⟩, ⟨#[115, 112, 108, 105, 116]⟩, ⟨#[106, 111, 105, 110]⟩, ⟨#[119, 114, 97, 112]⟩, ⟨#[117, 110, 119, 114, 97, 112]⟩, ⟨#[97, 100, 100]⟩, ⟨#[100, 114, 111, 112]⟩]
def wordsB4 : List ByteArray := [⟨#[116, 111]⟩, ⟨#[105, 110, 116, 111]⟩, ⟨#[97, 115]⟩, ⟨#[111, 102]⟩, ⟨#[100, 101, 102, 97, 117, 108, 116]⟩, ⟨#[116, 114, 117, 101]⟩, ⟨#[102, 97, 108, 115, 101]⟩]
def anyW (l : List ByteArray) (s : ByteArray) : Bool := l.any fun w => decide (s = w)
def wordF (s : ByteArray) : Bool := anyW wordsB0 s || (anyW wordsB1 s || (anyW wordsB2 s || (anyW wordsB3 s || anyW wordsB4 s)))
theorem jw0 (s : ByteArray) (b : Bool) : J_ident_word_0 dd Prim.powG 1 [] (st s) (bl b) = some (bl (b || anyW wordsB4 s)) := by
  cases b
  rotate_left
  · rfl
  cases h0 : decide (s = ⟨#[116, 111]⟩)
  rotate_left
  · simp only [X, Y, Z, J_ident_word_0, Bool.true_or, Bool.or_true, Bool.false_or, anyW, wordsB4, List.any_cons, List.any_nil, h0]
    try rfl
  cases h1 : decide (s = ⟨#[105, 110, 116, 111]⟩)
  rotate_left
  · simp only [X, Y, Z, J_ident_word_0, Bool.true_or, Bool.or_true, Bool.false_or, anyW, wordsB4, List.any_cons, List.any_nil, h0, h1]
    try rfl
  cases h2 : decide (s = ⟨#[97, 115]⟩)
  rotate_left
  · simp only [X, Y, Z, J_ident_word_0, Bool.true_or, Bool.or_true, Bool.false_or, anyW, wordsB4, List.any_cons, List.any_nil, h0, h1, h2]
    try rfl
  cases h3 : decide (s = ⟨#[111, 102]⟩)
  rotate_left
  · simp only [X, Y, Z, J_ident_word_0, Bool.true_or, Bool.or_true, Bool.false_or, anyW, wordsB4, List.any_cons, List.any_nil, h0, h1, h2, h3]
    try rfl
  cases h4 : decide (s = ⟨#[100, 101, 102, 97, 117, 108, 116]⟩)
  rotate_left
  · simp only [X, Y, Z, J_ident_word_0, Bool.true_or, Bool.or_true, Bool.false_or, anyW, wordsB4, List.any_cons, List.any_nil, h0, h1, h2, h3, h4]
    try rfl
  cases h5 : decide (s = ⟨#[116, 114, 117, 101]⟩)
  rotate_left
  · simp only [X, Y, Z, J_ident_word_0, Bool.true_or, Bool.or_true, Bool.false_or, anyW, wordsB4, List.any_cons, List.any_nil, h0, h1, h2, h3, h4, h5]
    try rfl
  cases h6 : decide (s = ⟨#[102, 97, 108, 115, 101]⟩)
  rotate_left
  · simp only [X, Y, Z, J_ident_word_0, Bool.true_or, Bool.or_true, Bool.false_or, anyW, wordsB4, List.any_cons, List.any_nil, h0, h1, h2, h3, h4, h5, h6]
    try rfl
  simp only [X, Y, Z, J_ident_word_0, Bool.true_or, Bool.or_true, Bool.false_or, anyW, wordsB4, List.any_cons, List.any_nil, h0, h1, h2, h3, h4, h5, h6]
  try rfl
theorem jw1 (s : ByteArray) (b : Bool) : J_ident_word_1 dd Prim.powG 1 [] (st s) (bl b) = some (bl (b || (anyW wordsB3 s || anyW wordsB4 s))) := by
  cases b
  rotate_left
  · rfl
  have hj : ∀ b, J_ident_word_0 dd Prim.powG 1 [] (st s) (bl b) = some (bl (b || anyW wordsB4 s)) := jw0 s
  generalize anyW wordsB4 s = rr at hj ⊢
  cases h0 : decide (s = ⟨#[114, 101, 110, 97, 109, 101]⟩)
  rotate_left
  · simp only [X, Y, Z, J_ident_word_1, hj, Bool.true_or, Bool.or_true, Bool.false_or, anyW, wordsB3, List.any_cons, List.any_nil, h0]
    try rfl
  cases h1 : decide (s = ⟨#[114, 101, 110, 117, 109, 98, 101, 114]⟩)
  rotate_left
  · simp only [X, Y, Z, J_ident_word_1, hj, Bool.true_or, Bool.or_true, Bool.false_or, anyW, wordsB3, List.any_cons, List.any_nil, h0, h1]
    try rfl
  cases h2 : decide (s = ⟨#[114, 101, 116, 121, 112, 101]⟩)
  rotate_left
  · simp only [X, Y, Z, J_ident_word_1, hj, Bool.true_or, Bool.or_true, Bool.false_or, anyW, wordsB3, List.any_cons, List.any_nil, h0, h1, h2]
    try rfl
  cases h3 : decide (s = ⟨#[115, 112, 108, 105, 116]⟩)
  rotate_left
  · simp only [X, Y, Z, J_ident_word_1, hj, Bool.true_or, Bool.or_true, Bool.false_or, anyW, wordsB3, List.any_cons, List.any_nil, h0, h1, h2, h3]
    try rfl
  cases h4 : decide (s = ⟨#[106, 111, 105, 110]⟩)
  rotate_left
  · simp only [X, Y, Z, J_ident_word_1, hj, Bool.true_or, Bool.or_true, Bool.false_or, anyW, wordsB3, List.any_cons, List.any_nil, h0, h1, h2, h3, h4]
    try rfl
  cases h5 : decide (s = ⟨#[119, 114, 97, 112]⟩)
  rotate_left
  · simp only [X, Y, Z, J_ident_word_1, hj, Bool.true_or, Bool.or_true, Bool.false_or, anyW, wordsB3, List.any_cons, List.any_nil, h0, h1, h2, h3, h4, h5]
    try rfl
  cases h6 : decide (s = ⟨#[117, 110, 119, 114, 97, 112]⟩)
  rotate_left
  · simp only [X, Y, Z, J_ident_word_1, hj, Bool.true_or, Bool.or_true, Bool.false_or, anyW, wordsB3, List.any_cons, List.any_nil, h0, h1, h2, h3, h4, h5, h6]
    try rfl
  cases h7 : decide (s = ⟨#[97, 100, 100]⟩)
  rotate_left
  · simp only [X, Y, Z, J_ident_word_1, hj, Bool.true_or, Bool.or_true, Bool.false_or, anyW, wordsB3, List.any_cons, List.any_nil, h0, h1, h2, h3, h4, h5, h6, h7]
    try rfl
  cases h8 : decide (s = ⟨#[100, 114, 111, 112]⟩)
  rotate_left
  · simp only [X, Y, Z, J_ident_word_1, hj, Bool.true_or, Bool.or_true, Bool.false_or, anyW, wordsB3, List.any_cons, List.any_nil, h0, h1, h2, h3, h4, h5, h6, h7, h8]
    try rfl
  simp only [X, Y, Z, J_ident_word_1, hj, Bool.true_or, Bool.or_true, Bool.false_or, anyW, wordsB3, List.any_cons, List.any_nil, h0, h1, h2, h3, h4, h5, h6, h7, h8]
  try rfl
theorem jw2 (s : ByteArray) (b : Bool) : J_ident_word_2 dd Prim.powG 1 [] (st s) (bl b) = some (bl (b || (anyW wordsB2 s || (anyW wordsB3 s || anyW wordsB4 s)))) := by
  cases b
  rotate_left
  · rfl
  have hj : ∀ b, J_ident_word_1 dd Prim.powG 1 [] (st s) (bl b) = some (bl (b || (anyW wordsB3 s || anyW wordsB4 s))) := jw1 s
  generalize (anyW wordsB3 s || anyW wordsB4 s) = rr at hj ⊢
  cases h0 : decide (s = ⟨#[102, 105, 120, 101, 100, 51, 50]⟩)
  rotate_left
  · simp only [X, Y, Z, J_ident_word_2, hj, Bool.true_or, Bool.or_true, Bool.false_or, anyW, wordsB2, List.any_cons, List.any_nil, h0]
    try rfl
  cases h1 : decide (s = ⟨#[102, 105, 120, 101, 100, 54, 52]⟩)
  rotate_left
  · simp only [X, Y, Z, J_ident_word_2, hj, Bool.true_or, Bool.or_true, Bool.false_or, anyW, wordsB2, List.any_cons, List.any_nil, h0, h1]
    try rfl
  cases h2 : decide (s = ⟨#[115, 102, 105, 120, 101, 100, 51, 50]⟩)
  rotate_left
  · simp only [X, Y, Z, J_ident_word_2, hj, Bool.true_or, Bool.or_true, Bool.false_or, anyW, wordsB2, List.any_cons, List.any_nil, h0, h1, h2]
    try rfl
  cases h3 : decide (s = ⟨#[115, 102, 105, 120, 101, 100, 54, 52]⟩)
  rotate_left
  · simp only [X, Y, Z, J_ident_word_2, hj, Bool.true_or, Bool.or_true, Bool.false_or, anyW, wordsB2, List.any_cons, List.any_nil, h0, h1, h2, h3]
    try rfl
  cases h4 : decide (s = ⟨#[115, 116, 114, 105, 110, 103]⟩)
  rotate_left
  · simp only [X, Y, Z, J_ident_word_2, hj, Bool.true_or, Bool.or_true, Bool.false_or, anyW, wordsB2, List.any_cons, List.any_nil, h0, h1, h2, h3, h4]
    try rfl
  cases h5 : decide (s = ⟨#[98, 121, 116, 101, 115]⟩)
  rotate_left
  · simp only [X, Y, Z, J_ident_word_2, hj, Bool.true_or, Bool.or_true, Bool.false_or, anyW, wordsB2, List.any_cons, List.any_nil, h0, h1, h2, h3, h4, h5]
    try rfl
  simp only [X, Y, Z, J_ident_word_2, hj, Bool.true_or, Bool.or_true, Bool.false_or, anyW, wordsB2, List.any_cons, List.any_nil, h0, h1, h2, h3, h4, h5]
  try rfl
theorem jw3 (s : ByteArray) (b : Bool) : J_ident_word_3 dd Prim.powG 1 [] (st s) (bl b) = some (bl (b || (anyW wordsB1 s || (anyW wordsB2 s || (anyW wordsB3 s || anyW wordsB4 s))))) := by
  cases b
  rotate_left
  · rfl
  have hj : ∀ b, J_ident_word_2 dd Prim.powG 1 [] (st s) (bl b) = some (bl (b || (anyW wordsB2 s || (anyW wordsB3 s || anyW wordsB4 s)))) := jw2 s
  generalize (anyW wordsB2 s || (anyW wordsB3 s || anyW wordsB4 s)) = rr at hj ⊢
  cases h0 : decide (s = ⟨#[105, 110, 116, 51, 50]⟩)
  rotate_left
  · simp only [X, Y, Z, J_ident_word_3, hj, Bool.true_or, Bool.or_true, Bool.false_or, anyW, wordsB1, List.any_cons, List.any_nil, h0]
    try rfl
  cases h1 : decide (s = ⟨#[105, 110, 116, 54, 52]⟩)
  rotate_left
  · simp only [X, Y, Z, J_ident_word_3, hj, Bool.true_or, Bool.or_true, Bool.false_or, anyW, wordsB1, List.any_cons, List.any_nil, h0, h1]
    try rfl
  cases h2 : decide (s = ⟨#[117, 105, 110, 116, 51, 50]⟩)
  rotate_left
  · simp only [X, Y, Z, J_ident_word_3, hj, Bool.true_or, Bool.or_true, Bool.false_or, anyW, wordsB1, List.any_cons, List.any_nil, h0, h1, h2]
    try rfl
  cases h3 : decide (s = ⟨#[117, 105, 110, 116, 54, 52]⟩)
  rotate_left
  · simp only [X, Y, Z, J_ident_word_3, hj, Bool.true_or, Bool.or_true, Bool.false_or, anyW, wordsB1, List.any_cons, List.any_nil, h0, h1, h2, h3]
    try rfl
  cases h4 : decide (s = ⟨#[115, 105, 110, 116, 51, 50]⟩)
  rotate_left
  · simp only [X, Y, Z, J_ident_word_3, hj, Bool.true_or, Bool.or_true, Bool.false_or, anyW, wordsB1, List.any_cons, List.any_nil, h0, h1, h2, h3, h4]
    try rfl
  cases h5 : decide (s = ⟨#[115, 105, 110, 116, 54, 52]⟩)
  rotate_left
  · simp only [X, Y, Z, J_ident_word_3, hj, Bool.true_or, Bool.or_true, Bool.false_or, anyW, wordsB1, List.any_cons, List.any_nil, h0, h1, h2, h3, h4, h5]
    try rfl
  cases h6 : decide (s = ⟨#[98, 111, 111, 108]⟩)
  rotate_left
  · simp only [X, Y, Z, J_ident_word_3, hj, Bool.true_or, Bool.or_true, Bool.false_or, anyW, wordsB1, List.any_cons, List.any_nil, h0, h1, h2, h3, h4, h5, h6]
    try rfl
  simp only [X, Y, Z, J_ident_word_3, hj, Bool.true_or, Bool.or_true, Bool.false_or, anyW, wordsB1, List.any_cons, List.any_nil, h0, h1, h2, h3, h4, h5, h6]
  try rfl
theorem d_word (s : ByteArray) : dd i_ident_word [st s] = some (bl (wordF s)) := by
  refine D_runE (V := v_ident_word) 1 rfl rfl rfl ?_
  rw [s_ident_word]
  have hj : ∀ b, J_ident_word_3 dd Prim.powG 1 [] (st s) (bl b) = some (bl (b || (anyW wordsB1 s || (anyW wordsB2 s || (anyW wordsB3 s || anyW wordsB4 s))))) := jw3 s
  unfold wordF
  generalize (anyW wordsB1 s || (anyW wordsB2 s || (anyW wordsB3 s || anyW wordsB4 s))) = rr at hj ⊢
  cases h0 : decide (s = ⟨#[101, 110, 117, 109]⟩)
  rotate_left
  · simp only [X, Y, Z, hj, Bool.true_or, Bool.or_true, Bool.false_or, anyW, wordsB0, List.any_cons, List.any_nil, h0]
    try rfl
  cases h1 : decide (s = ⟨#[109, 101, 115, 115, 97, 103, 101]⟩)
  rotate_left
  · simp only [X, Y, Z, hj, Bool.true_or, Bool.or_true, Bool.false_or, anyW, wordsB0, List.any_cons, List.any_nil, h0, h1]
    try rfl
  cases h2 : decide (s = ⟨#[111, 110, 101, 111, 102]⟩)
  rotate_left
  · simp only [X, Y, Z, hj, Bool.true_or, Bool.or_true, Bool.false_or, anyW, wordsB0, List.any_cons, List.any_nil, h0, h1, h2]
    try rfl
  cases h3 : decide (s = ⟨#[114, 101, 112, 101, 97, 116, 101, 100]⟩)
  rotate_left
  · simp only [X, Y, Z, hj, Bool.true_or, Bool.or_true, Bool.false_or, anyW, wordsB0, List.any_cons, List.any_nil, h0, h1, h2, h3]
    try rfl
  cases h4 : decide (s = ⟨#[114, 101, 115, 101, 114, 118, 101, 100]⟩)
  rotate_left
  · simp only [X, Y, Z, hj, Bool.true_or, Bool.or_true, Bool.false_or, anyW, wordsB0, List.any_cons, List.any_nil, h0, h1, h2, h3, h4]
    try rfl
  cases h5 : decide (s = ⟨#[108, 111, 111, 115, 101]⟩)
  rotate_left
  · simp only [X, Y, Z, hj, Bool.true_or, Bool.or_true, Bool.false_or, anyW, wordsB0, List.any_cons, List.any_nil, h0, h1, h2, h3, h4, h5]
    try rfl
  simp only [X, Y, Z, hj, Bool.true_or, Bool.or_true, Bool.false_or, anyW, wordsB0, List.any_cons, List.any_nil, h0, h1, h2, h3, h4, h5]
  try rfl
def lt2 (a b : ByteArray) : Bool := Op.bytesLess a.toList b.toList
def riseP : Option ByteArray → List ByteArray → Bool
  | _, [] => true
  | none, x :: l => riseP (some x) l
  | some y, x :: l => lt2 y x && riseP (some x) l
abbrev sl (l : List ByteArray) : AV := .fsl (l.map fun w => [st w])
theorem xi_at {α : Type} {e : α → List AV} {xs : List α} {n : Nat} {x : α} {k : List AV → Out} {u : Tag k} (h : xs[n]? = some x) : Xi (xs.map e) (n : Int) k u = k (e x) := by
  unfold Xi
  rw [if_pos (by omega)]
  simp [h]
theorem wrap_succ {n : Nat} (h : n < 4611686018427387904) : IntKind.i64.wrap ((n : Int) + 1) = (n : Int) + 1 := by
  simp [IntKind.wrap, IntKind.bits, IntKind.signed]
  omega
theorem wrap_nat {n : Nat} (h : n < 4611686018427387904) : IntKind.i64.wrap (n : Int) = (n : Int) := by
  simp [IntKind.wrap, IntKind.bits, IntKind.signed]
  omega
theorem wrap_pred {n : Nat} (h : n < 4611686018427387904) : IntKind.i64.wrap ((n : Int) + 1 - 1) = (n : Int) := by
  simp [IntKind.wrap, IntKind.bits, IntKind.signed]
  omega
theorem R_rise (l : List ByteArray) (hw : l.length < 4611686018427387904) (N : Nat) : ∀ (d i m : Nat) (p : ByteArray), l.length - (i + 1) = d → d < m → l[i]? = some p → R_ident_Rise_0 dd Prim.powG N m [] (sl l) (sl l) (i64 l.length) (i64 ((i : Int) + 1)) = some (bl (riseP (some p) (l.drop (i + 1)))) := by
  intro d
  induction d with
  | zero =>
    intro i m p hd hm hp
    obtain ⟨m, rfl⟩ : ∃ k, m = k + 1 := ⟨m - 1, by omega⟩
    rw [R_ident_Rise_0_s]
    have h1 : ¬ ((i : Int) + 1 < (l.length : Int)) := by omega
    have h2 : l.drop (i + 1) = [] := List.drop_of_length_le (by omega)
    simp [X, Y, Z, h1, h2, riseP]
  | succ d ih =>
    intro i m p hd hm hp
    obtain ⟨m, rfl⟩ : ∃ k, m = k + 1 := ⟨m - 1, by omega⟩
    rw [R_ident_Rise_0_s]
    have hi : i + 1 < l.length := by omega
    have h1 : (i : Int) + 1 < (l.length : Int) := by omega
    have h0 : (0 : Int) < (i : Int) + 1 := by omega
    have h2 : l.drop (i + 1) = l[i + 1] :: l.drop (i + 1 + 1) := List.drop_eq_getElem_cons hi
    have h3 : l[i + 1]? = some l[i + 1] := List.getElem?_eq_getElem hi
    have h4 := ih (i + 1) m _ (by omega) (by omega) h3
    push_cast at h4
    rw [h2]
    generalize l[i + 1] = x at h3 h4 ⊢
    have h3' := fun (k : List AV → Out) (u : Tag k) => xi_at (e := fun w => [st w]) (k := k) (u := u) h3
    push_cast at h3'
    have h7 := wrap_succ (show i + 1 < 4611686018427387904 by omega)
    push_cast at h7
    cases h5 : Op.bytesLess p.toList x.toList
    · simp [X, Y, Z, h1, h0, h3', xi_at hp, h5, wrap_nat (show i < 4611686018427387904 by omega), riseP, lt2]
    · simp [X, Y, Z, h1, h0, h3', xi_at hp, h5, wrap_nat (show i < 4611686018427387904 by omega), h7, h4, riseP, lt2]
theorem d_rise (l : List ByteArray) (hw : l.length < 4611686018427387904) : dd i_ident_Rise [sl l] = some (bl (riseP none l)) := by
  refine D_runE (V := v_ident_Rise) (l.length + 2) rfl rfl rfl ?_
  rw [s_ident_Rise]
  cases l with
  | nil =>
    simp only [X, Y, Z]
    rw [R_ident_Rise_0_s]
    simp [X, Y, Z, riseP]
  | cons x l =>
    have h0 : (x :: l)[0]? = some x := rfl
    have h4 := R_rise (x :: l) hw (l.length + 2 + 1) l.length 0 (l.length + 2) x (by simp) (by omega) rfl
    have h1 : (0 : Int) < (((x :: l).length : Nat) : Int) := by simp only [List.length_cons]; omega
    have h3 := fun (k : List AV → Out) (u : Tag k) => xi_at (e := fun w => [st w]) (k := k) (u := u) h0
    have h8 : riseP none (x :: l) = riseP (some x) ((x :: l).drop (0 + 1)) := rfl
    rw [h8]
    have h9 : (x :: l).length = l.length + 1 := rfl
    generalize hL : x :: l = L at h0 h4 h1 h3 h9 ⊢
    simp only [X, Y, Z, List.length_map]
    rw [show L.length + 2 = (l.length + 2) + 1 by omega, R_ident_Rise_0_s]
    have h1n : 0 < L.length := by omega
    have h7 : IntKind.i64.wrap 1 = 1 := by decide
    simp at h3 h4
    simp [X, Y, Z, h1n, h3, h4, h7]
end Go.Proofs.YtmhdapjmndfkgaaGreatDoor.Sp.W
