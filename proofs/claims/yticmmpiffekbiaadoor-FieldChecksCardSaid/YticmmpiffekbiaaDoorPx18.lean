-- Printed by myprint.py, a program of this session's repo, over the kit's printer; hand texts of the session stand in it
import Derived.Test.YticmmpiffekbiaaDoorPx0
import Derived.Test.YticmmpiffekbiaaDoorPx9
import Derived.Test.YticmmpiffekbiaaDoorPx16
import Derived.Test.YticmmpiffekbiaaDoorPx17
namespace Go.Proofs.YticmmpiffekbiaaDoor.Px
open Go.RowKit Go.Proofs.YticmmpiffekbiaaDoorW.PrintWords Go.Proofs.YticmmpiffekbiaaDoorW.PrintLast Go.Proofs.YticmmpiffekbiaaDoorW.PrintMore
attribute [local go_sem] max2_int min2_int max_two min_two max_three min_three max_four min_four   -- for this text's walks alone
set_option linter.unusedVariables false
set_option linter.unusedSimpArgs false

/-! ### field_Text: function 25 -/
def field_Text.f (k : Nat) (a0_0 : ByteArray) (a0_1 : Int) (a0_2 : Int) (a0_3 : ByteArray) (a0_4 : Bool) (a0_5 : Bool) (a0_6 : ByteArray) : Option (ByteArray) := (field_Check.f k a0_0 a0_1 a0_2 a0_3 a0_4 a0_5 a0_6).bind fun t184 => (if t184 = 0 then (if a0_3.toList = ([] : List UInt8) then ((scalar_Word.f a0_2).bind fun t185 => ((field_ahead.f a0_0 a0_1 a0_2 a0_3 a0_4 a0_5 a0_6).bind fun t186 => (if t186.size + t185.size ≤ 9223372036854775807 then (if (t186 ++ t185).size + 1 ≤ 9223372036854775807 then (if ((t186 ++ t185) ++ (⟨#[32]⟩ : ByteArray)).size + a0_0.size ≤ 9223372036854775807 then (if (((t186 ++ t185) ++ (⟨#[32]⟩ : ByteArray)) ++ a0_0).size + 3 ≤ 9223372036854775807 then ((lex_Digits.f (IntKind.u64.wrap (a0_1)) false).bind fun t187 => (if ((((t186 ++ t185) ++ (⟨#[32]⟩ : ByteArray)) ++ a0_0) ++ (⟨#[32, 61, 32]⟩ : ByteArray)).size + t187.size ≤ 9223372036854775807 then (if (((((t186 ++ t185) ++ (⟨#[32]⟩ : ByteArray)) ++ a0_0) ++ (⟨#[32, 61, 32]⟩ : ByteArray)) ++ t187).size + 1 ≤ 9223372036854775807 then (some ((((((t186 ++ t185) ++ (⟨#[32]⟩ : ByteArray)) ++ a0_0) ++ (⟨#[32, 61, 32]⟩ : ByteArray)) ++ t187) ++ (⟨#[59]⟩ : ByteArray))) else (none)) else (none))) else (none)) else (none)) else (none)) else (none)))) else ((field_ahead.f a0_0 a0_1 a0_2 a0_3 a0_4 a0_5 a0_6).bind fun t188 => (if t188.size + a0_3.size ≤ 9223372036854775807 then (if (t188 ++ a0_3).size + 1 ≤ 9223372036854775807 then (if ((t188 ++ a0_3) ++ (⟨#[32]⟩ : ByteArray)).size + a0_0.size ≤ 9223372036854775807 then (if (((t188 ++ a0_3) ++ (⟨#[32]⟩ : ByteArray)) ++ a0_0).size + 3 ≤ 9223372036854775807 then ((lex_Digits.f (IntKind.u64.wrap (a0_1)) false).bind fun t189 => (if ((((t188 ++ a0_3) ++ (⟨#[32]⟩ : ByteArray)) ++ a0_0) ++ (⟨#[32, 61, 32]⟩ : ByteArray)).size + t189.size ≤ 9223372036854775807 then (if (((((t188 ++ a0_3) ++ (⟨#[32]⟩ : ByteArray)) ++ a0_0) ++ (⟨#[32, 61, 32]⟩ : ByteArray)) ++ t189).size + 1 ≤ 9223372036854775807 then (some ((((((t188 ++ a0_3) ++ (⟨#[32]⟩ : ByteArray)) ++ a0_0) ++ (⟨#[32, 61, 32]⟩ : ByteArray)) ++ t189) ++ (⟨#[59]⟩ : ByteArray))) else (none)) else (none))) else (none)) else (none)) else (none)) else (none)))) else (some (⟨#[]⟩ : ByteArray)))
theorem field_Text.mono : ∀ a0 a1 a2 a3 a4 a5 a6 k, LeO (field_Text.f k a0 a1 a2 a3 a4 a5 a6) (field_Text.f (k + 1) a0 a1 a2 a3 a4 a5 a6) := by
  intro a0 a1 a2 a3 a4 a5 a6 k
  unfold field_Text.f
  repeat' first
      | (with_reducible exact field_Check.mono _ _ _ _ _ _ _ _)
      | (with_reducible exact LeO.refl _)
      | (with_reducible exact LeO.none _)
      | (with_reducible refine LeO.ite ?_ ?_)
      | (with_reducible refine LeO.bind ?_ (fun _ => ?_))
      | exact field_Check.mono _ _ _ _ _ _ _ _
      | exact LeO.none _
      | refine LeO.ite ?_ ?_
      | refine LeO.bind ?_ (fun _ => ?_)
def field_Text.T6 : Bool × List (List Nat × List Nat) := (true, [([], []), ([0], [0]), ([], []), ([1, 2], [1, 2]), ([3], [3]), ([], []), ([5], [5]), ([4, 6], [4, 6]), ([7], [7]), ([], []), ([9], [9]), ([10], [10]), ([11, 1], [11]), ([8, 12], [8, 12]), ([13], [13]), ([14, 12, 0, 1, 2, 3, 4, 5, 6, 7, 8, 9, 10, 11, 12, 13, 14], [14])])
def field_Text.B6 : List Nat := [0, 1, 0, 7, 15, 0, 32, 127, 255, 0, 512, 1536, 3587, 8191, 16383, 32767]
theorem field_Text.tab6 : rtab .any (opsOf Tryd.f25 6) = field_Text.T6 := by kernel_rfl
theorem field_Text.bits6 : waitsOk field_Text.T6.2 field_Text.B6 = true := by kernel_rfl
set_option maxHeartbeats 8000000 in
set_option maxRecDepth 100000 in
theorem field_Text.calls (k : Nat) (a0_0 : ByteArray) (a0_1 : Int) (a0_2 : Int) (a0_3 : ByteArray) (a0_4 : Bool) (a0_5 : Bool) (a0_6 : ByteArray) (r : ByteArray) (w : World) (h : field_Text.f k a0_0 a0_1 a0_2 a0_3 a0_4 a0_5 a0_6 = some r) :
    Calls Tryd.prog 25 #[.agg #[.string a0_0, .int .i64 a0_1, .int .i64 a0_2, .string a0_3, .bool a0_4, .bool a0_5, .string a0_6]] w fun e w' => e = .returned (.string r) ∧ Below w.heap.size w w' := by
  have hu40 := Tryd.underlying40
  have HB := Aside0.mk (Below.refl w.heap.size w)
  have H : ((field_Check.f k a0_0 a0_1 a0_2 a0_3 a0_4 a0_5 a0_6).bind fun t184 => (if t184 = 0 then (if a0_3.toList = ([] : List UInt8) then ((scalar_Word.f a0_2).bind fun t185 => ((field_ahead.f a0_0 a0_1 a0_2 a0_3 a0_4 a0_5 a0_6).bind fun t186 => (if t186.size + t185.size ≤ 9223372036854775807 then (if (t186 ++ t185).size + 1 ≤ 9223372036854775807 then (if ((t186 ++ t185) ++ (⟨#[32]⟩ : ByteArray)).size + a0_0.size ≤ 9223372036854775807 then (if (((t186 ++ t185) ++ (⟨#[32]⟩ : ByteArray)) ++ a0_0).size + 3 ≤ 9223372036854775807 then ((lex_Digits.f (IntKind.u64.wrap (a0_1)) false).bind fun t187 => (if ((((t186 ++ t185) ++ (⟨#[32]⟩ : ByteArray)) ++ a0_0) ++ (⟨#[32, 61, 32]⟩ : ByteArray)).size + t187.size ≤ 9223372036854775807 then (if (((((t186 ++ t185) ++ (⟨#[32]⟩ : ByteArray)) ++ a0_0) ++ (⟨#[32, 61, 32]⟩ : ByteArray)) ++ t187).size + 1 ≤ 9223372036854775807 then (some ((((((t186 ++ t185) ++ (⟨#[32]⟩ : ByteArray)) ++ a0_0) ++ (⟨#[32, 61, 32]⟩ : ByteArray)) ++ t187) ++ (⟨#[59]⟩ : ByteArray))) else (none)) else (none))) else (none)) else (none)) else (none)) else (none)))) else ((field_ahead.f a0_0 a0_1 a0_2 a0_3 a0_4 a0_5 a0_6).bind fun t188 => (if t188.size + a0_3.size ≤ 9223372036854775807 then (if (t188 ++ a0_3).size + 1 ≤ 9223372036854775807 then (if ((t188 ++ a0_3) ++ (⟨#[32]⟩ : ByteArray)).size + a0_0.size ≤ 9223372036854775807 then (if (((t188 ++ a0_3) ++ (⟨#[32]⟩ : ByteArray)) ++ a0_0).size + 3 ≤ 9223372036854775807 then ((lex_Digits.f (IntKind.u64.wrap (a0_1)) false).bind fun t189 => (if ((((t188 ++ a0_3) ++ (⟨#[32]⟩ : ByteArray)) ++ a0_0) ++ (⟨#[32, 61, 32]⟩ : ByteArray)).size + t189.size ≤ 9223372036854775807 then (if (((((t188 ++ a0_3) ++ (⟨#[32]⟩ : ByteArray)) ++ a0_0) ++ (⟨#[32, 61, 32]⟩ : ByteArray)) ++ t189).size + 1 ≤ 9223372036854775807 then (some ((((((t188 ++ a0_3) ++ (⟨#[32]⟩ : ByteArray)) ++ a0_0) ++ (⟨#[32, 61, 32]⟩ : ByteArray)) ++ t189) ++ (⟨#[59]⟩ : ByteArray))) else (none)) else (none))) else (none)) else (none)) else (none)) else (none)))) else (some (⟨#[]⟩ : ByteArray)))) = some r := h
  clear h
  replace H := Option.bind_eq_some_iff.mp H
  obtain ⟨t184, A20, H⟩ := H
  replace H : (if t184 = 0 then (if a0_3.toList = ([] : List UInt8) then ((scalar_Word.f a0_2).bind fun t185 => ((field_ahead.f a0_0 a0_1 a0_2 a0_3 a0_4 a0_5 a0_6).bind fun t186 => (if t186.size + t185.size ≤ 9223372036854775807 then (if (t186 ++ t185).size + 1 ≤ 9223372036854775807 then (if ((t186 ++ t185) ++ (⟨#[32]⟩ : ByteArray)).size + a0_0.size ≤ 9223372036854775807 then (if (((t186 ++ t185) ++ (⟨#[32]⟩ : ByteArray)) ++ a0_0).size + 3 ≤ 9223372036854775807 then ((lex_Digits.f (IntKind.u64.wrap (a0_1)) false).bind fun t187 => (if ((((t186 ++ t185) ++ (⟨#[32]⟩ : ByteArray)) ++ a0_0) ++ (⟨#[32, 61, 32]⟩ : ByteArray)).size + t187.size ≤ 9223372036854775807 then (if (((((t186 ++ t185) ++ (⟨#[32]⟩ : ByteArray)) ++ a0_0) ++ (⟨#[32, 61, 32]⟩ : ByteArray)) ++ t187).size + 1 ≤ 9223372036854775807 then (some ((((((t186 ++ t185) ++ (⟨#[32]⟩ : ByteArray)) ++ a0_0) ++ (⟨#[32, 61, 32]⟩ : ByteArray)) ++ t187) ++ (⟨#[59]⟩ : ByteArray))) else (none)) else (none))) else (none)) else (none)) else (none)) else (none)))) else ((field_ahead.f a0_0 a0_1 a0_2 a0_3 a0_4 a0_5 a0_6).bind fun t188 => (if t188.size + a0_3.size ≤ 9223372036854775807 then (if (t188 ++ a0_3).size + 1 ≤ 9223372036854775807 then (if ((t188 ++ a0_3) ++ (⟨#[32]⟩ : ByteArray)).size + a0_0.size ≤ 9223372036854775807 then (if (((t188 ++ a0_3) ++ (⟨#[32]⟩ : ByteArray)) ++ a0_0).size + 3 ≤ 9223372036854775807 then ((lex_Digits.f (IntKind.u64.wrap (a0_1)) false).bind fun t189 => (if ((((t188 ++ a0_3) ++ (⟨#[32]⟩ : ByteArray)) ++ a0_0) ++ (⟨#[32, 61, 32]⟩ : ByteArray)).size + t189.size ≤ 9223372036854775807 then (if (((((t188 ++ a0_3) ++ (⟨#[32]⟩ : ByteArray)) ++ a0_0) ++ (⟨#[32, 61, 32]⟩ : ByteArray)) ++ t189).size + 1 ≤ 9223372036854775807 then (some ((((((t188 ++ a0_3) ++ (⟨#[32]⟩ : ByteArray)) ++ a0_0) ++ (⟨#[32, 61, 32]⟩ : ByteArray)) ++ t189) ++ (⟨#[59]⟩ : ByteArray))) else (none)) else (none))) else (none)) else (none)) else (none)) else (none)))) else (some (⟨#[]⟩ : ByteArray))) = some r := H
  have A2 := Aside0.mk A20
  clear A20
  by_cases c3 : t184 = 0
  · rw [if_pos c3] at H
    have c3b0 : (t184 == 0) = true := beq_iff_eq.mpr c3
    have c3b1 : (t184 != 0) = false := bne_eq_false_iff_eq.mpr c3
    clear c3
    by_cases c4 : a0_3.toList = ([] : List UInt8)
    · rw [if_pos c4] at H
      have c4b0 : (a0_3.toList == ([] : List UInt8)) = true := beq_iff_eq.mpr c4
      have c4b1 : (a0_3.toList != ([] : List UInt8)) = false := bne_eq_false_iff_eq.mpr c4
      clear c4
      replace H := Option.bind_eq_some_iff.mp H
      obtain ⟨t185, A50, H⟩ := H
      replace H : ((field_ahead.f a0_0 a0_1 a0_2 a0_3 a0_4 a0_5 a0_6).bind fun t186 => (if t186.size + t185.size ≤ 9223372036854775807 then (if (t186 ++ t185).size + 1 ≤ 9223372036854775807 then (if ((t186 ++ t185) ++ (⟨#[32]⟩ : ByteArray)).size + a0_0.size ≤ 9223372036854775807 then (if (((t186 ++ t185) ++ (⟨#[32]⟩ : ByteArray)) ++ a0_0).size + 3 ≤ 9223372036854775807 then ((lex_Digits.f (IntKind.u64.wrap (a0_1)) false).bind fun t187 => (if ((((t186 ++ t185) ++ (⟨#[32]⟩ : ByteArray)) ++ a0_0) ++ (⟨#[32, 61, 32]⟩ : ByteArray)).size + t187.size ≤ 9223372036854775807 then (if (((((t186 ++ t185) ++ (⟨#[32]⟩ : ByteArray)) ++ a0_0) ++ (⟨#[32, 61, 32]⟩ : ByteArray)) ++ t187).size + 1 ≤ 9223372036854775807 then (some ((((((t186 ++ t185) ++ (⟨#[32]⟩ : ByteArray)) ++ a0_0) ++ (⟨#[32, 61, 32]⟩ : ByteArray)) ++ t187) ++ (⟨#[59]⟩ : ByteArray))) else (none)) else (none))) else (none)) else (none)) else (none)) else (none))) = some r := H
      have A5 := Aside0.mk A50
      clear A50
      replace H := Option.bind_eq_some_iff.mp H
      obtain ⟨t186, A60, H⟩ := H
      replace H : (if t186.size + t185.size ≤ 9223372036854775807 then (if (t186 ++ t185).size + 1 ≤ 9223372036854775807 then (if ((t186 ++ t185) ++ (⟨#[32]⟩ : ByteArray)).size + a0_0.size ≤ 9223372036854775807 then (if (((t186 ++ t185) ++ (⟨#[32]⟩ : ByteArray)) ++ a0_0).size + 3 ≤ 9223372036854775807 then ((lex_Digits.f (IntKind.u64.wrap (a0_1)) false).bind fun t187 => (if ((((t186 ++ t185) ++ (⟨#[32]⟩ : ByteArray)) ++ a0_0) ++ (⟨#[32, 61, 32]⟩ : ByteArray)).size + t187.size ≤ 9223372036854775807 then (if (((((t186 ++ t185) ++ (⟨#[32]⟩ : ByteArray)) ++ a0_0) ++ (⟨#[32, 61, 32]⟩ : ByteArray)) ++ t187).size + 1 ≤ 9223372036854775807 then (some ((((((t186 ++ t185) ++ (⟨#[32]⟩ : ByteArray)) ++ a0_0) ++ (⟨#[32, 61, 32]⟩ : ByteArray)) ++ t187) ++ (⟨#[59]⟩ : ByteArray))) else (none)) else (none))) else (none)) else (none)) else (none)) else (none)) = some r := H
      have A6 := Aside0.mk A60
      clear A60
      by_cases c7 : t186.size + t185.size ≤ 9223372036854775807
      · rw [if_pos c7] at H
        have c7b0 := eq_true c7
        have c7b1 : decide (t186.size + t185.size ≤ 9223372036854775807) = true := decide_eq_true c7
        try have c7b2 : (9223372036854775807 < t186.size + t185.size) = False := eq_false (Nat.not_lt.2 c7)
        (try (have c7b2s := c7b2; simp only [ByteArray.size_append, lit_size, List.length_cons, List.length_nil, Nat.zero_add, Nat.reduceAdd] at c7b2s))
        by_cases c8 : (t186 ++ t185).size + 1 ≤ 9223372036854775807
        · rw [if_pos c8] at H
          have c8b0 := eq_true c8
          have c8b1 : decide ((t186 ++ t185).size + 1 ≤ 9223372036854775807) = true := decide_eq_true c8
          try have c8b2 : (9223372036854775807 < (t186 ++ t185).size + 1) = False := eq_false (Nat.not_lt.2 c8)
          (try (have c8b2s := c8b2; simp only [ByteArray.size_append, lit_size, List.length_cons, List.length_nil, Nat.zero_add, Nat.reduceAdd] at c8b2s))
          by_cases c9 : ((t186 ++ t185) ++ (⟨#[32]⟩ : ByteArray)).size + a0_0.size ≤ 9223372036854775807
          · rw [if_pos c9] at H
            have c9b0 := eq_true c9
            have c9b1 : decide (((t186 ++ t185) ++ (⟨#[32]⟩ : ByteArray)).size + a0_0.size ≤ 9223372036854775807) = true := decide_eq_true c9
            try have c9b2 : (9223372036854775807 < ((t186 ++ t185) ++ (⟨#[32]⟩ : ByteArray)).size + a0_0.size) = False := eq_false (Nat.not_lt.2 c9)
            (try (have c9b2s := c9b2; simp only [ByteArray.size_append, lit_size, List.length_cons, List.length_nil, Nat.zero_add, Nat.reduceAdd] at c9b2s))
            by_cases c10 : (((t186 ++ t185) ++ (⟨#[32]⟩ : ByteArray)) ++ a0_0).size + 3 ≤ 9223372036854775807
            · rw [if_pos c10] at H
              have c10b0 := eq_true c10
              have c10b1 : decide ((((t186 ++ t185) ++ (⟨#[32]⟩ : ByteArray)) ++ a0_0).size + 3 ≤ 9223372036854775807) = true := decide_eq_true c10
              try have c10b2 : (9223372036854775807 < (((t186 ++ t185) ++ (⟨#[32]⟩ : ByteArray)) ++ a0_0).size + 3) = False := eq_false (Nat.not_lt.2 c10)
              (try (have c10b2s := c10b2; simp only [ByteArray.size_append, lit_size, List.length_cons, List.length_nil, Nat.zero_add, Nat.reduceAdd] at c10b2s))
              replace H := Option.bind_eq_some_iff.mp H
              obtain ⟨t187, A110, H⟩ := H
              replace H : (if ((((t186 ++ t185) ++ (⟨#[32]⟩ : ByteArray)) ++ a0_0) ++ (⟨#[32, 61, 32]⟩ : ByteArray)).size + t187.size ≤ 9223372036854775807 then (if (((((t186 ++ t185) ++ (⟨#[32]⟩ : ByteArray)) ++ a0_0) ++ (⟨#[32, 61, 32]⟩ : ByteArray)) ++ t187).size + 1 ≤ 9223372036854775807 then (some ((((((t186 ++ t185) ++ (⟨#[32]⟩ : ByteArray)) ++ a0_0) ++ (⟨#[32, 61, 32]⟩ : ByteArray)) ++ t187) ++ (⟨#[59]⟩ : ByteArray))) else (none)) else (none)) = some r := H
              have A11 := Aside0.mk A110
              clear A110
              by_cases c12 : ((((t186 ++ t185) ++ (⟨#[32]⟩ : ByteArray)) ++ a0_0) ++ (⟨#[32, 61, 32]⟩ : ByteArray)).size + t187.size ≤ 9223372036854775807
              · rw [if_pos c12] at H
                have c12b0 := eq_true c12
                have c12b1 : decide (((((t186 ++ t185) ++ (⟨#[32]⟩ : ByteArray)) ++ a0_0) ++ (⟨#[32, 61, 32]⟩ : ByteArray)).size + t187.size ≤ 9223372036854775807) = true := decide_eq_true c12
                try have c12b2 : (9223372036854775807 < ((((t186 ++ t185) ++ (⟨#[32]⟩ : ByteArray)) ++ a0_0) ++ (⟨#[32, 61, 32]⟩ : ByteArray)).size + t187.size) = False := eq_false (Nat.not_lt.2 c12)
                (try (have c12b2s := c12b2; simp only [ByteArray.size_append, lit_size, List.length_cons, List.length_nil, Nat.zero_add, Nat.reduceAdd] at c12b2s))
                by_cases c13 : (((((t186 ++ t185) ++ (⟨#[32]⟩ : ByteArray)) ++ a0_0) ++ (⟨#[32, 61, 32]⟩ : ByteArray)) ++ t187).size + 1 ≤ 9223372036854775807
                · rw [if_pos c13] at H
                  have c13b0 := eq_true c13
                  have c13b1 : decide ((((((t186 ++ t185) ++ (⟨#[32]⟩ : ByteArray)) ++ a0_0) ++ (⟨#[32, 61, 32]⟩ : ByteArray)) ++ t187).size + 1 ≤ 9223372036854775807) = true := decide_eq_true c13
                  try have c13b2 : (9223372036854775807 < (((((t186 ++ t185) ++ (⟨#[32]⟩ : ByteArray)) ++ a0_0) ++ (⟨#[32, 61, 32]⟩ : ByteArray)) ++ t187).size + 1) = False := eq_false (Nat.not_lt.2 c13)
                  (try (have c13b2s := c13b2; simp only [ByteArray.size_append, lit_size, List.length_cons, List.length_nil, Nat.zero_add, Nat.reduceAdd] at c13b2s))
                  obtain rfl := Option.some.inj H
                  go_enter Tryd.func25, Tryd.ntmps25
                  try go_wp2_with (first | ((with_reducible refine gate_dst (N := 1) rfl ?_); refine box_event ?hg (N := 1) ?hd (cs := #[.string a0_0, .int .i64 a0_1, .int .i64 a0_2, .string a0_3, .bool a0_4, .bool a0_5, .string a0_6]) (t := 40) ?hr ?_; (case hd => rfl); (case hg => rfl); (case hr => first | (go_simp; done) | (go_simp; rfl)); intro gb183 hg w14 hbox hb; have n0_ := Aside0.mk (below_step (by repeat (first | (with_reducible first | exact HB.out | apply below_alloc | apply pw_below_drewN | apply below_drew1) | exact HB.out)) hb); have n1_ := Aside0.mk (hbox); have n2_ := Aside0.mk ((by rw [hg]; exact (below_size (by repeat (first | (with_reducible first | exact HB.out | apply below_alloc | apply pw_below_drewN | apply below_drew1) | exact HB.out))) : w.heap.size ≤ gb183)); have n3_ := Aside0.mk ((by rw [hg]; exact (below_size (by repeat (first | (with_reducible first | exact HB.out | apply below_alloc | apply pw_below_drewN | apply below_drew1) | exact HB.out))) : w.heap.size ≤ gb183)); clear HB; have HB := n0_; have BK183 := n1_; have GW183 := n2_; have GE183 := n3_; clear n0_ n1_ n2_ n3_; clear hb hbox hg; have hcz15_0 : w14.cell? ⟨gb183, 0, none⟩ = some (.string a0_0) := (blk_cell BK183.out 0).trans rfl; have hcz15_1 : w14.cell? ⟨gb183, 1, none⟩ = some (.int .i64 a0_1) := (blk_cell BK183.out 1).trans rfl; have hcz15_2 : w14.cell? ⟨gb183, 2, none⟩ = some (.int .i64 a0_2) := (blk_cell BK183.out 2).trans rfl; have hcz15_3 : w14.cell? ⟨gb183, 3, none⟩ = some (.string a0_3) := (blk_cell BK183.out 3).trans rfl; have hcz15_4 : w14.cell? ⟨gb183, 4, none⟩ = some (.bool a0_4) := (blk_cell BK183.out 4).trans rfl; have hcz15_5 : w14.cell? ⟨gb183, 5, none⟩ = some (.bool a0_5) := (blk_cell BK183.out 5).trans rfl; have hcz15_6 : w14.cell? ⟨gb183, 6, none⟩ = some (.string a0_6) := (blk_cell BK183.out 6).trans rfl; have hfz15_0 := blk_frozen BK183.out 0; have hfz15_1 := blk_frozen BK183.out 1; have hfz15_2 := blk_frozen BK183.out 2; have hfz15_3 := blk_frozen BK183.out 3; have hfz15_4 := blk_frozen BK183.out 4; have hfz15_5 := blk_frozen BK183.out 5; have hfz15_6 := blk_frozen BK183.out 6) | ((with_reducible refine gate_callee (f := 23) rfl ?_); refine goesL_ (some 5) rfl rfl Tryd.func23 (by kernel_rfl) rfl #[.agg #[.string a0_0, .int .i64 a0_1, .int .i64 a0_2, .string a0_3, .bool a0_4, .bool a0_5, .string a0_6]] rfl (by (try simp only [List.map_toArray, List.map_cons, List.map_nil]); first | done | rfl | (simp only [List.length_drop, List.length_take]; rfl)) ?_; (with_reducible refine (field_Check.calls k a0_0 a0_1 a0_2 a0_3 a0_4 a0_5 a0_6 t184 _ A2.out).mono ?_); rintro e w16 ⟨rfl, hb⟩; refine ⟨_, rfl, ?_⟩; have n0_ := Aside0.mk (blk_below (g := gb183) (o := .cells #[.string a0_0, .int .i64 a0_1, .int .i64 a0_2, .string a0_3, .bool a0_4, .bool a0_5, .string a0_6] 40 (0, 0)) (by (with_reducible repeat (first | refine blk_drewN ?_ _ | refine blk_drew ?_ | refine blk_alloc ?_ _)); exact BK183.out) hb); have n1_ := Aside0.mk (below_step (by repeat (first | (with_reducible first | exact HB.out | apply below_alloc | apply pw_below_drewN | apply below_drew1 | refine below_set ?_ GE183.out) | exact HB.out)) hb); clear BK183; clear HB; have BK183 := n0_; have HB := n1_; clear n0_ n1_; (try clear hb); (try clear hb2); (try clear hk); (try clear hi); have hcz17_0 : w16.cell? ⟨gb183, 0, none⟩ = some (.string a0_0) := (blk_cell BK183.out 0).trans rfl; have hcz17_1 : w16.cell? ⟨gb183, 1, none⟩ = some (.int .i64 a0_1) := (blk_cell BK183.out 1).trans rfl; have hcz17_2 : w16.cell? ⟨gb183, 2, none⟩ = some (.int .i64 a0_2) := (blk_cell BK183.out 2).trans rfl; have hcz17_3 : w16.cell? ⟨gb183, 3, none⟩ = some (.string a0_3) := (blk_cell BK183.out 3).trans rfl; have hcz17_4 : w16.cell? ⟨gb183, 4, none⟩ = some (.bool a0_4) := (blk_cell BK183.out 4).trans rfl; have hcz17_5 : w16.cell? ⟨gb183, 5, none⟩ = some (.bool a0_5) := (blk_cell BK183.out 5).trans rfl; have hcz17_6 : w16.cell? ⟨gb183, 6, none⟩ = some (.string a0_6) := (blk_cell BK183.out 6).trans rfl; have hfz17_0 := blk_frozen BK183.out 0; have hfz17_1 := blk_frozen BK183.out 1; have hfz17_2 := blk_frozen BK183.out 2; have hfz17_3 := blk_frozen BK183.out 3; have hfz17_4 := blk_frozen BK183.out 4; have hfz17_5 := blk_frozen BK183.out 5; have hfz17_6 := blk_frozen BK183.out 6) | ((with_reducible refine gate_callee (f := 49) rfl ?_); refine goesL_ (some 13) rfl rfl Tryd.func49 (by kernel_rfl) rfl #[.int .i64 a0_2] rfl (by (try simp only [List.map_toArray, List.map_cons, List.map_nil]); first | done | rfl | (simp only [List.length_drop, List.length_take]; rfl)) ?_; (with_reducible refine (scalar_Word.calls a0_2 t185 _ A5.out).mono ?_); rintro e w' ⟨rfl, ⟨nd, rfl⟩⟩; refine ⟨_, rfl, ?_⟩))
                  (try (rw [drewN_self w16]; generalize hq_ : World.drewN w16 _ = w16; have n0_ : Aside0 (w16.heap[gb183]? = some (.cells #[.string a0_0, .int .i64 a0_1, .int .i64 a0_2, .string a0_3, .bool a0_4, .bool a0_5, .string a0_6] 40 (0, 0))) := ⟨by rw [← hq_]; exact (by (with_reducible repeat (first | refine blk_drewN ?_ _ | refine blk_drew ?_ | refine blk_alloc ?_ _)); exact BK183.out)⟩; have n1_ : Aside0 (Below w.heap.size w w16) := ⟨by rw [← hq_]; exact (by repeat (first | (with_reducible first | exact HB.out | apply below_alloc | apply pw_below_drewN | apply below_drew1 | refine below_set ?_ GE183.out) | exact HB.out))⟩; clear BK183 HB hq_; have BK183 := n0_; have HB := n1_; clear n0_ n1_))
                  have n0_ := Aside0.mk (blk_drew BK183.out)
                  have n1_ := Aside0.mk (below_drew1 HB.out)
                  clear BK183
                  clear HB
                  have BK183 := n0_
                  have HB := n1_
                  clear n0_ n1_
                  refine start_ (n := 16) (S := fun w' => w'.cell? ⟨gb183, 0, none⟩ = some (.string a0_0) ∧ w'.cell? ⟨gb183, 1, none⟩ = some (.int .i64 a0_1) ∧ w'.cell? ⟨gb183, 2, none⟩ = some (.int .i64 a0_2) ∧ w'.cell? ⟨gb183, 3, none⟩ = some (.string a0_3) ∧ w'.cell? ⟨gb183, 4, none⟩ = some (.bool a0_4) ∧ w'.cell? ⟨gb183, 5, none⟩ = some (.bool a0_5) ∧ w'.cell? ⟨gb183, 6, none⟩ = some (.string a0_6)) (ds := []) #[false, false, false, false, false, false, false, false, false, false, false, false, false, false, false, false] (by kernel_rfl) rfl rfl ⟨(blk_cell BK183.out 0).trans rfl, (blk_cell BK183.out 1).trans rfl, (blk_cell BK183.out 2).trans rfl, (blk_cell BK183.out 3).trans rfl, (blk_cell BK183.out 4).trans rfl, (blk_cell BK183.out 5).trans rfl, (blk_cell BK183.out 6).trans rfl⟩ (fun hHeld => ?_); refine with_tabW field_Text.tab6 field_Text.bits6 (fun HT_ HW_ => ?_)
                  generalize w16.drew = w18 at BK183 HB hHeld ⊢
                  refine pure_ (i := 2) (N := some 16) (v := ?_) (a' := ?_) #[false, false, true, false, false, false, false, false, false, false, false, false, false, false, false, false] rfl rfl (any_of HT_.out (by kernel_rfl)) (fun _ _ _ h => h) (Or.inl ⟨by rfl, ?_⟩) ?_ ?_
                  rotate_left
                  · intro w'
                    go_simp
                    with_reducible rfl
                  rotate_left
                  · simp only [Act.put, List.setIfInBounds_toArray, List.set_cons_zero, List.set_cons_succ, i64_w, i32_w]
                    rfl
                  refine pure_ (i := 5) (N := some 19) (v := ?_) (a' := ?_) #[false, false, true, false, false, true, false, false, false, false, false, false, false, false, false, false] rfl rfl (any_of HT_.out (by kernel_rfl)) (fun _ _ _ h => h) (Or.inl ⟨by rfl, ?_⟩) ?_ ?_
                  rotate_left
                  · intro w'
                    go_simp
                    with_reducible rfl
                  rotate_left
                  · simp only [Act.put, List.setIfInBounds_toArray, List.set_cons_zero, List.set_cons_succ, i64_w, i32_w]
                    rfl
                  refine pure_ (i := 9) (N := some 23) (v := ?_) (a' := ?_) #[false, false, true, false, false, true, false, false, false, true, false, false, false, false, false, false] rfl rfl (any_of HT_.out (by kernel_rfl)) (fun _ _ _ h => h) (Or.inl ⟨by rfl, ?_⟩) ?_ ?_
                  rotate_left
                  · intro w'
                    go_simp
                    with_reducible rfl
                  rotate_left
                  · simp only [Act.put, List.setIfInBounds_toArray, List.set_cons_zero, List.set_cons_succ, i64_w, i32_w]
                    rfl
                  refine take_ (i := 0) (N := some 14) (v := ?_) (a' := ?_) #[true, false, true, false, false, true, false, false, false, true, false, false, false, false, false, false] rfl rfl (take_ofW HT_.out HW_.out (by kernel_rfl)) (fun _ _ _ h => h) (Or.inl ⟨by rfl, ?_⟩) hHeld ?_ ?_
                  rotate_left
                  · rintro w' ⟨s0, s1, s2, s3, s4, s5, s6⟩
                    go_simp
                    with_reducible rfl
                  rotate_left
                  · simp only [Act.put, List.setIfInBounds_toArray, List.set_cons_zero, List.set_cons_succ, i64_w, i32_w]
                    rfl
                  refine take_ (i := 6) (N := some 20) (v := ?_) (a' := ?_) #[true, false, true, false, false, true, true, false, false, true, false, false, false, false, false, false] rfl rfl (take_ofW HT_.out HW_.out (by kernel_rfl)) (fun _ _ _ h => h) (Or.inl ⟨by rfl, ?_⟩) hHeld ?_ ?_
                  rotate_left
                  · rintro w' ⟨s0, s1, s2, s3, s4, s5, s6⟩
                    go_simp
                    with_reducible rfl
                  rotate_left
                  · simp only [Act.put, List.setIfInBounds_toArray, List.set_cons_zero, List.set_cons_succ, i64_w, i32_w]
                    rfl
                  refine take_ (i := 10) (N := some 24) (v := ?_) (a' := ?_) #[true, false, true, false, false, true, true, false, false, true, true, false, false, false, false, false] rfl rfl (take_ofW HT_.out HW_.out (by kernel_rfl)) (fun _ _ _ h => h) (Or.inl ⟨by rfl, ?_⟩) hHeld ?_ ?_
                  rotate_left
                  · rintro w' ⟨s0, s1, s2, s3, s4, s5, s6⟩
                    go_simp
                    with_reducible rfl
                  rotate_left
                  · simp only [Act.put, List.setIfInBounds_toArray, List.set_cons_zero, List.set_cons_succ, i64_w, i32_w]
                    rfl
                  refine pure_ (i := 11) (N := some 25) (v := ?_) (a' := ?_) #[true, false, true, false, false, true, true, false, false, true, true, true, false, false, false, false] rfl rfl (any_of HT_.out (by kernel_rfl)) (fun _ _ _ h => h) (Or.inl ⟨by rfl, ?_⟩) ?_ ?_
                  rotate_left
                  · intro w'
                    go_simp
                    with_reducible rfl
                  rotate_left
                  · simp only [Act.put, List.setIfInBounds_toArray, List.set_cons_zero, List.set_cons_succ, i64_w, i32_w]
                    rfl
                  refine one_ (i := 1) (N := some 15) #[true, true, true, false, false, true, true, false, false, true, true, true, false, false, false, false] rfl rfl (one_of HT_.out (by kernel_rfl)) (by decide) (fun K hK => ?_)
                  refine goes_ Tryd.func50 (by kernel_rfl) rfl #[.agg #[.string a0_0, .int .i64 a0_1, .int .i64 a0_2, .string a0_3, .bool a0_4, .bool a0_5, .string a0_6]] (by rfl) rfl rfl (by (try simp only [List.map_toArray, List.map_cons, List.map_nil]); first | done | rfl | (simp only [List.length_drop, List.length_take]; rfl)) ?_
                  with_reducible refine (field_ahead.calls a0_0 a0_1 a0_2 a0_3 a0_4 a0_5 a0_6 t186 _ A6.out).mono ?_
                  rintro e w19 ⟨rfl, hb⟩
                  refine ⟨_, rfl, ?_⟩
                  have n0_ := Aside0.mk (blk_below (g := gb183) (o := .cells #[.string a0_0, .int .i64 a0_1, .int .i64 a0_2, .string a0_3, .bool a0_4, .bool a0_5, .string a0_6] 40 (0, 0)) (by (with_reducible repeat (first | refine blk_drewN ?_ _ | refine blk_drew ?_ | refine blk_alloc ?_ _)); exact BK183.out) hb)
                  have n1_ := Aside0.mk (below_step (by repeat (first | (with_reducible first | exact HB.out | apply below_alloc | apply pw_below_drewN | apply below_drew1 | refine below_set ?_ GE183.out) | exact HB.out)) hb)
                  clear BK183
                  clear HB
                  have BK183 := n0_
                  have HB := n1_
                  clear n0_ n1_
                  (try clear hb)
                  (try clear hb2)
                  (try clear hk)
                  (try clear hi)
                  refine hK.out _ _ ⟨(blk_cell BK183.out 0).trans rfl, (blk_cell BK183.out 1).trans rfl, (blk_cell BK183.out 2).trans rfl, (blk_cell BK183.out 3).trans rfl, (blk_cell BK183.out 4).trans rfl, (blk_cell BK183.out 5).trans rfl, (blk_cell BK183.out 6).trans rfl⟩ (fun hHeld => ?_)
                  clear hK K
                  refine norm_ (a' := ?_) ?_ ?_
                  rotate_left
                  · show Act.put _ (some 15) _ = _
                    simp only [Act.put, List.setIfInBounds_toArray, List.set_cons_zero, List.set_cons_succ, i64_w, i32_w]
                    rfl
                  refine pure_ (i := 3) (N := some 17) (v := ?_) (a' := ?_) #[true, true, true, true, false, true, true, false, false, true, true, true, false, false, false, false] rfl rfl (any_of HT_.out (by kernel_rfl)) (fun _ _ _ h => h) (Or.inl ⟨by rfl, ?_⟩) ?_ ?_
                  rotate_left
                  · intro w'
                    go_simp
                    with_reducible rfl
                  rotate_left
                  · simp only [Act.put, List.setIfInBounds_toArray, List.set_cons_zero, List.set_cons_succ, i64_w, i32_w]
                    rfl
                  refine pure_ (i := 4) (N := some 18) (v := ?_) (a' := ?_) #[true, true, true, true, true, true, true, false, false, true, true, true, false, false, false, false] rfl rfl (any_of HT_.out (by kernel_rfl)) (fun _ _ _ h => h) (Or.inl ⟨by rfl, ?_⟩) ?_ ?_
                  rotate_left
                  · intro w'
                    go_simp
                    with_reducible rfl
                  rotate_left
                  · simp only [Act.put, List.setIfInBounds_toArray, List.set_cons_zero, List.set_cons_succ, i64_w, i32_w]
                    rfl
                  refine pure_ (i := 7) (N := some 21) (v := ?_) (a' := ?_) #[true, true, true, true, true, true, true, true, false, true, true, true, false, false, false, false] rfl rfl (any_of HT_.out (by kernel_rfl)) (fun _ _ _ h => h) (Or.inl ⟨by rfl, ?_⟩) ?_ ?_
                  rotate_left
                  · intro w'
                    go_simp
                    with_reducible rfl
                  rotate_left
                  · simp only [Act.put, List.setIfInBounds_toArray, List.set_cons_zero, List.set_cons_succ, i64_w, i32_w]
                    rfl
                  refine pure_ (i := 8) (N := some 22) (v := ?_) (a' := ?_) #[true, true, true, true, true, true, true, true, true, true, true, true, false, false, false, false] rfl rfl (any_of HT_.out (by kernel_rfl)) (fun _ _ _ h => h) (Or.inl ⟨by rfl, ?_⟩) ?_ ?_
                  rotate_left
                  · intro w'
                    go_simp
                    with_reducible rfl
                  rotate_left
                  · simp only [Act.put, List.setIfInBounds_toArray, List.set_cons_zero, List.set_cons_succ, i64_w, i32_w]
                    rfl
                  refine one_ (i := 12) (N := some 26) #[true, true, true, true, true, true, true, true, true, true, true, true, true, false, false, false] rfl rfl (one_of HT_.out (by kernel_rfl)) (by decide) (fun K hK => ?_)
                  refine goes_ Tryd.func39 (by kernel_rfl) rfl #[.int .u64 (IntKind.u64.wrap (a0_1)), .bool false] (by rfl) rfl rfl (by (try simp only [List.map_toArray, List.map_cons, List.map_nil]); first | done | rfl | (simp only [List.length_drop, List.length_take]; rfl)) ?_
                  with_reducible refine (lex_Digits.calls (IntKind.u64.wrap (a0_1)) false t187 _ A11.out).mono ?_
                  rintro e w' ⟨rfl, ⟨nd, rfl⟩⟩
                  refine ⟨_, rfl, ?_⟩
                  refine hK.out _ _ ⟨(blk_cell BK183.out 0).trans rfl, (blk_cell BK183.out 1).trans rfl, (blk_cell BK183.out 2).trans rfl, (blk_cell BK183.out 3).trans rfl, (blk_cell BK183.out 4).trans rfl, (blk_cell BK183.out 5).trans rfl, (blk_cell BK183.out 6).trans rfl⟩ (fun hHeld => ?_)
                  clear hK K
                  refine norm_ (a' := ?_) ?_ ?_
                  rotate_left
                  · show Act.put _ (some 26) _ = _
                    simp only [Act.put, List.setIfInBounds_toArray, List.set_cons_zero, List.set_cons_succ, i64_w, i32_w]
                    rfl
                  refine pure_ (i := 13) (N := some 27) (v := ?_) (a' := ?_) #[true, true, true, true, true, true, true, true, true, true, true, true, true, true, false, false] rfl rfl (any_of HT_.out (by kernel_rfl)) (fun _ _ _ h => h) (Or.inl ⟨by rfl, ?_⟩) ?_ ?_
                  rotate_left
                  · intro w'
                    go_simp
                    with_reducible rfl
                  rotate_left
                  · simp only [Act.put, List.setIfInBounds_toArray, List.set_cons_zero, List.set_cons_succ, i64_w, i32_w]
                    rfl
                  refine pure_ (i := 14) (N := some 28) (v := ?_) (a' := ?_) #[true, true, true, true, true, true, true, true, true, true, true, true, true, true, true, false] rfl rfl (any_of HT_.out (by kernel_rfl)) (fun _ _ _ h => h) (Or.inl ⟨by rfl, ?_⟩) ?_ ?_
                  rotate_left
                  · intro w'
                    go_simp
                    with_reducible rfl
                  rotate_left
                  · simp only [Act.put, List.setIfInBounds_toArray, List.set_cons_zero, List.set_cons_succ, i64_w, i32_w]
                    rfl
                  refine pure_ (i := 15) (N := some 2) (v := ?_) (a' := ?_) #[true, true, true, true, true, true, true, true, true, true, true, true, true, true, true, true] rfl rfl (any_of HT_.out (by kernel_rfl)) (fun _ _ _ h => h) (Or.inl ⟨by rfl, ?_⟩) ?_ ?_
                  rotate_left
                  · intro w'
                    go_simp
                    with_reducible rfl
                  rotate_left
                  · simp only [Act.put, List.setIfInBounds_toArray, List.set_cons_zero, List.set_cons_succ, i64_w, i32_w]
                    rfl
                  refine done_ (done_of HT_.out (by kernel_rfl)) ?_
                  try go_wp2
                  go_ret
                  exact ⟨by first | rfl | (simp [errW_none, errW_some] <;> rfl) | (simp [*, errW_none, errW_some] <;> rfl), by repeat (first | (with_reducible first | exact HB.out | apply below_alloc | apply pw_below_drewN | apply below_drew1 | refine below_set ?_ GE183.out) | exact HB.out)⟩
                · rw [if_neg c13] at H
                  exact absurd H (by simp)
              · rw [if_neg c12] at H
                exact absurd H (by simp)
            · rw [if_neg c10] at H
              exact absurd H (by simp)
          · rw [if_neg c9] at H
            exact absurd H (by simp)
        · rw [if_neg c8] at H
          exact absurd H (by simp)
      · rw [if_neg c7] at H
        exact absurd H (by simp)
    · rw [if_neg c4] at H
      have c4b0 : (a0_3.toList == ([] : List UInt8)) = false := beq_eq_false_iff_ne.mpr c4
      have c4b1 : (a0_3.toList != ([] : List UInt8)) = true := bne_iff_ne.mpr c4
      replace H := Option.bind_eq_some_iff.mp H
      obtain ⟨t188, A200, H⟩ := H
      replace H : (if t188.size + a0_3.size ≤ 9223372036854775807 then (if (t188 ++ a0_3).size + 1 ≤ 9223372036854775807 then (if ((t188 ++ a0_3) ++ (⟨#[32]⟩ : ByteArray)).size + a0_0.size ≤ 9223372036854775807 then (if (((t188 ++ a0_3) ++ (⟨#[32]⟩ : ByteArray)) ++ a0_0).size + 3 ≤ 9223372036854775807 then ((lex_Digits.f (IntKind.u64.wrap (a0_1)) false).bind fun t189 => (if ((((t188 ++ a0_3) ++ (⟨#[32]⟩ : ByteArray)) ++ a0_0) ++ (⟨#[32, 61, 32]⟩ : ByteArray)).size + t189.size ≤ 9223372036854775807 then (if (((((t188 ++ a0_3) ++ (⟨#[32]⟩ : ByteArray)) ++ a0_0) ++ (⟨#[32, 61, 32]⟩ : ByteArray)) ++ t189).size + 1 ≤ 9223372036854775807 then (some ((((((t188 ++ a0_3) ++ (⟨#[32]⟩ : ByteArray)) ++ a0_0) ++ (⟨#[32, 61, 32]⟩ : ByteArray)) ++ t189) ++ (⟨#[59]⟩ : ByteArray))) else (none)) else (none))) else (none)) else (none)) else (none)) else (none)) = some r := H
      have A20 := Aside0.mk A200
      clear A200
      by_cases c21 : t188.size + a0_3.size ≤ 9223372036854775807
      · rw [if_pos c21] at H
        have c21b0 := eq_true c21
        have c21b1 : decide (t188.size + a0_3.size ≤ 9223372036854775807) = true := decide_eq_true c21
        try have c21b2 : (9223372036854775807 < t188.size + a0_3.size) = False := eq_false (Nat.not_lt.2 c21)
        (try (have c21b2s := c21b2; simp only [ByteArray.size_append, lit_size, List.length_cons, List.length_nil, Nat.zero_add, Nat.reduceAdd] at c21b2s))
        by_cases c22 : (t188 ++ a0_3).size + 1 ≤ 9223372036854775807
        · rw [if_pos c22] at H
          have c22b0 := eq_true c22
          have c22b1 : decide ((t188 ++ a0_3).size + 1 ≤ 9223372036854775807) = true := decide_eq_true c22
          try have c22b2 : (9223372036854775807 < (t188 ++ a0_3).size + 1) = False := eq_false (Nat.not_lt.2 c22)
          (try (have c22b2s := c22b2; simp only [ByteArray.size_append, lit_size, List.length_cons, List.length_nil, Nat.zero_add, Nat.reduceAdd] at c22b2s))
          by_cases c23 : ((t188 ++ a0_3) ++ (⟨#[32]⟩ : ByteArray)).size + a0_0.size ≤ 9223372036854775807
          · rw [if_pos c23] at H
            have c23b0 := eq_true c23
            have c23b1 : decide (((t188 ++ a0_3) ++ (⟨#[32]⟩ : ByteArray)).size + a0_0.size ≤ 9223372036854775807) = true := decide_eq_true c23
            try have c23b2 : (9223372036854775807 < ((t188 ++ a0_3) ++ (⟨#[32]⟩ : ByteArray)).size + a0_0.size) = False := eq_false (Nat.not_lt.2 c23)
            (try (have c23b2s := c23b2; simp only [ByteArray.size_append, lit_size, List.length_cons, List.length_nil, Nat.zero_add, Nat.reduceAdd] at c23b2s))
            by_cases c24 : (((t188 ++ a0_3) ++ (⟨#[32]⟩ : ByteArray)) ++ a0_0).size + 3 ≤ 9223372036854775807
            · rw [if_pos c24] at H
              have c24b0 := eq_true c24
              have c24b1 : decide ((((t188 ++ a0_3) ++ (⟨#[32]⟩ : ByteArray)) ++ a0_0).size + 3 ≤ 9223372036854775807) = true := decide_eq_true c24
              try have c24b2 : (9223372036854775807 < (((t188 ++ a0_3) ++ (⟨#[32]⟩ : ByteArray)) ++ a0_0).size + 3) = False := eq_false (Nat.not_lt.2 c24)
              (try (have c24b2s := c24b2; simp only [ByteArray.size_append, lit_size, List.length_cons, List.length_nil, Nat.zero_add, Nat.reduceAdd] at c24b2s))
              replace H := Option.bind_eq_some_iff.mp H
              obtain ⟨t189, A250, H⟩ := H
              replace H : (if ((((t188 ++ a0_3) ++ (⟨#[32]⟩ : ByteArray)) ++ a0_0) ++ (⟨#[32, 61, 32]⟩ : ByteArray)).size + t189.size ≤ 9223372036854775807 then (if (((((t188 ++ a0_3) ++ (⟨#[32]⟩ : ByteArray)) ++ a0_0) ++ (⟨#[32, 61, 32]⟩ : ByteArray)) ++ t189).size + 1 ≤ 9223372036854775807 then (some ((((((t188 ++ a0_3) ++ (⟨#[32]⟩ : ByteArray)) ++ a0_0) ++ (⟨#[32, 61, 32]⟩ : ByteArray)) ++ t189) ++ (⟨#[59]⟩ : ByteArray))) else (none)) else (none)) = some r := H
              have A25 := Aside0.mk A250
              clear A250
              by_cases c26 : ((((t188 ++ a0_3) ++ (⟨#[32]⟩ : ByteArray)) ++ a0_0) ++ (⟨#[32, 61, 32]⟩ : ByteArray)).size + t189.size ≤ 9223372036854775807
              · rw [if_pos c26] at H
                have c26b0 := eq_true c26
                have c26b1 : decide (((((t188 ++ a0_3) ++ (⟨#[32]⟩ : ByteArray)) ++ a0_0) ++ (⟨#[32, 61, 32]⟩ : ByteArray)).size + t189.size ≤ 9223372036854775807) = true := decide_eq_true c26
                try have c26b2 : (9223372036854775807 < ((((t188 ++ a0_3) ++ (⟨#[32]⟩ : ByteArray)) ++ a0_0) ++ (⟨#[32, 61, 32]⟩ : ByteArray)).size + t189.size) = False := eq_false (Nat.not_lt.2 c26)
                (try (have c26b2s := c26b2; simp only [ByteArray.size_append, lit_size, List.length_cons, List.length_nil, Nat.zero_add, Nat.reduceAdd] at c26b2s))
                by_cases c27 : (((((t188 ++ a0_3) ++ (⟨#[32]⟩ : ByteArray)) ++ a0_0) ++ (⟨#[32, 61, 32]⟩ : ByteArray)) ++ t189).size + 1 ≤ 9223372036854775807
                · rw [if_pos c27] at H
                  have c27b0 := eq_true c27
                  have c27b1 : decide ((((((t188 ++ a0_3) ++ (⟨#[32]⟩ : ByteArray)) ++ a0_0) ++ (⟨#[32, 61, 32]⟩ : ByteArray)) ++ t189).size + 1 ≤ 9223372036854775807) = true := decide_eq_true c27
                  try have c27b2 : (9223372036854775807 < (((((t188 ++ a0_3) ++ (⟨#[32]⟩ : ByteArray)) ++ a0_0) ++ (⟨#[32, 61, 32]⟩ : ByteArray)) ++ t189).size + 1) = False := eq_false (Nat.not_lt.2 c27)
                  (try (have c27b2s := c27b2; simp only [ByteArray.size_append, lit_size, List.length_cons, List.length_nil, Nat.zero_add, Nat.reduceAdd] at c27b2s))
                  obtain rfl := Option.some.inj H
                  go_enter Tryd.func25, Tryd.ntmps25
                  try go_wp2_with (first | ((with_reducible refine gate_dst (N := 1) rfl ?_); refine box_event ?hg (N := 1) ?hd (cs := #[.string a0_0, .int .i64 a0_1, .int .i64 a0_2, .string a0_3, .bool a0_4, .bool a0_5, .string a0_6]) (t := 40) ?hr ?_; (case hd => rfl); (case hg => rfl); (case hr => first | (go_simp; done) | (go_simp; rfl)); intro gb183 hg w28 hbox hb; have n0_ := Aside0.mk (below_step (by repeat (first | (with_reducible first | exact HB.out | apply below_alloc | apply pw_below_drewN | apply below_drew1) | exact HB.out)) hb); have n1_ := Aside0.mk (hbox); have n2_ := Aside0.mk ((by rw [hg]; exact (below_size (by repeat (first | (with_reducible first | exact HB.out | apply below_alloc | apply pw_below_drewN | apply below_drew1) | exact HB.out))) : w.heap.size ≤ gb183)); have n3_ := Aside0.mk ((by rw [hg]; exact (below_size (by repeat (first | (with_reducible first | exact HB.out | apply below_alloc | apply pw_below_drewN | apply below_drew1) | exact HB.out))) : w.heap.size ≤ gb183)); clear HB; have HB := n0_; have BK183 := n1_; have GW183 := n2_; have GE183 := n3_; clear n0_ n1_ n2_ n3_; clear hb hbox hg; have hcz29_0 : w28.cell? ⟨gb183, 0, none⟩ = some (.string a0_0) := (blk_cell BK183.out 0).trans rfl; have hcz29_1 : w28.cell? ⟨gb183, 1, none⟩ = some (.int .i64 a0_1) := (blk_cell BK183.out 1).trans rfl; have hcz29_2 : w28.cell? ⟨gb183, 2, none⟩ = some (.int .i64 a0_2) := (blk_cell BK183.out 2).trans rfl; have hcz29_3 : w28.cell? ⟨gb183, 3, none⟩ = some (.string a0_3) := (blk_cell BK183.out 3).trans rfl; have hcz29_4 : w28.cell? ⟨gb183, 4, none⟩ = some (.bool a0_4) := (blk_cell BK183.out 4).trans rfl; have hcz29_5 : w28.cell? ⟨gb183, 5, none⟩ = some (.bool a0_5) := (blk_cell BK183.out 5).trans rfl; have hcz29_6 : w28.cell? ⟨gb183, 6, none⟩ = some (.string a0_6) := (blk_cell BK183.out 6).trans rfl; have hfz29_0 := blk_frozen BK183.out 0; have hfz29_1 := blk_frozen BK183.out 1; have hfz29_2 := blk_frozen BK183.out 2; have hfz29_3 := blk_frozen BK183.out 3; have hfz29_4 := blk_frozen BK183.out 4; have hfz29_5 := blk_frozen BK183.out 5; have hfz29_6 := blk_frozen BK183.out 6) | ((with_reducible refine gate_callee (f := 23) rfl ?_); refine goesL_ (some 5) rfl rfl Tryd.func23 (by kernel_rfl) rfl #[.agg #[.string a0_0, .int .i64 a0_1, .int .i64 a0_2, .string a0_3, .bool a0_4, .bool a0_5, .string a0_6]] rfl (by (try simp only [List.map_toArray, List.map_cons, List.map_nil]); first | done | rfl | (simp only [List.length_drop, List.length_take]; rfl)) ?_; (with_reducible refine (field_Check.calls k a0_0 a0_1 a0_2 a0_3 a0_4 a0_5 a0_6 t184 _ A2.out).mono ?_); rintro e w30 ⟨rfl, hb⟩; refine ⟨_, rfl, ?_⟩; have n0_ := Aside0.mk (blk_below (g := gb183) (o := .cells #[.string a0_0, .int .i64 a0_1, .int .i64 a0_2, .string a0_3, .bool a0_4, .bool a0_5, .string a0_6] 40 (0, 0)) (by (with_reducible repeat (first | refine blk_drewN ?_ _ | refine blk_drew ?_ | refine blk_alloc ?_ _)); exact BK183.out) hb); have n1_ := Aside0.mk (below_step (by repeat (first | (with_reducible first | exact HB.out | apply below_alloc | apply pw_below_drewN | apply below_drew1 | refine below_set ?_ GE183.out) | exact HB.out)) hb); clear BK183; clear HB; have BK183 := n0_; have HB := n1_; clear n0_ n1_; (try clear hb); (try clear hb2); (try clear hk); (try clear hi); have hcz31_0 : w30.cell? ⟨gb183, 0, none⟩ = some (.string a0_0) := (blk_cell BK183.out 0).trans rfl; have hcz31_1 : w30.cell? ⟨gb183, 1, none⟩ = some (.int .i64 a0_1) := (blk_cell BK183.out 1).trans rfl; have hcz31_2 : w30.cell? ⟨gb183, 2, none⟩ = some (.int .i64 a0_2) := (blk_cell BK183.out 2).trans rfl; have hcz31_3 : w30.cell? ⟨gb183, 3, none⟩ = some (.string a0_3) := (blk_cell BK183.out 3).trans rfl; have hcz31_4 : w30.cell? ⟨gb183, 4, none⟩ = some (.bool a0_4) := (blk_cell BK183.out 4).trans rfl; have hcz31_5 : w30.cell? ⟨gb183, 5, none⟩ = some (.bool a0_5) := (blk_cell BK183.out 5).trans rfl; have hcz31_6 : w30.cell? ⟨gb183, 6, none⟩ = some (.string a0_6) := (blk_cell BK183.out 6).trans rfl; have hfz31_0 := blk_frozen BK183.out 0; have hfz31_1 := blk_frozen BK183.out 1; have hfz31_2 := blk_frozen BK183.out 2; have hfz31_3 := blk_frozen BK183.out 3; have hfz31_4 := blk_frozen BK183.out 4; have hfz31_5 := blk_frozen BK183.out 5; have hfz31_6 := blk_frozen BK183.out 6))
                  have n0_ := Aside0.mk (blk_drew BK183.out)
                  have n1_ := Aside0.mk (below_drew1 HB.out)
                  clear BK183
                  clear HB
                  have BK183 := n0_
                  have HB := n1_
                  clear n0_ n1_
                  refine start_ (n := 16) (S := fun w' => w'.cell? ⟨gb183, 0, none⟩ = some (.string a0_0) ∧ w'.cell? ⟨gb183, 1, none⟩ = some (.int .i64 a0_1) ∧ w'.cell? ⟨gb183, 2, none⟩ = some (.int .i64 a0_2) ∧ w'.cell? ⟨gb183, 3, none⟩ = some (.string a0_3) ∧ w'.cell? ⟨gb183, 4, none⟩ = some (.bool a0_4) ∧ w'.cell? ⟨gb183, 5, none⟩ = some (.bool a0_5) ∧ w'.cell? ⟨gb183, 6, none⟩ = some (.string a0_6)) (ds := []) #[false, false, false, false, false, false, false, false, false, false, false, false, false, false, false, false] (by kernel_rfl) rfl rfl ⟨(blk_cell BK183.out 0).trans rfl, (blk_cell BK183.out 1).trans rfl, (blk_cell BK183.out 2).trans rfl, (blk_cell BK183.out 3).trans rfl, (blk_cell BK183.out 4).trans rfl, (blk_cell BK183.out 5).trans rfl, (blk_cell BK183.out 6).trans rfl⟩ (fun hHeld => ?_); refine with_tabW field_Text.tab6 field_Text.bits6 (fun HT_ HW_ => ?_)
                  generalize w30.drew = w32 at BK183 HB hHeld ⊢
                  refine pure_ (i := 2) (N := some 16) (v := ?_) (a' := ?_) #[false, false, true, false, false, false, false, false, false, false, false, false, false, false, false, false] rfl rfl (any_of HT_.out (by kernel_rfl)) (fun _ _ _ h => h) (Or.inl ⟨by rfl, ?_⟩) ?_ ?_
                  rotate_left
                  · intro w'
                    go_simp
                    with_reducible rfl
                  rotate_left
                  · simp only [Act.put, List.setIfInBounds_toArray, List.set_cons_zero, List.set_cons_succ, i64_w, i32_w]
                    rfl
                  refine pure_ (i := 5) (N := some 19) (v := ?_) (a' := ?_) #[false, false, true, false, false, true, false, false, false, false, false, false, false, false, false, false] rfl rfl (any_of HT_.out (by kernel_rfl)) (fun _ _ _ h => h) (Or.inl ⟨by rfl, ?_⟩) ?_ ?_
                  rotate_left
                  · intro w'
                    go_simp
                    with_reducible rfl
                  rotate_left
                  · simp only [Act.put, List.setIfInBounds_toArray, List.set_cons_zero, List.set_cons_succ, i64_w, i32_w]
                    rfl
                  refine pure_ (i := 9) (N := some 23) (v := ?_) (a' := ?_) #[false, false, true, false, false, true, false, false, false, true, false, false, false, false, false, false] rfl rfl (any_of HT_.out (by kernel_rfl)) (fun _ _ _ h => h) (Or.inl ⟨by rfl, ?_⟩) ?_ ?_
                  rotate_left
                  · intro w'
                    go_simp
                    with_reducible rfl
                  rotate_left
                  · simp only [Act.put, List.setIfInBounds_toArray, List.set_cons_zero, List.set_cons_succ, i64_w, i32_w]
                    rfl
                  refine take_ (i := 0) (N := some 14) (v := ?_) (a' := ?_) #[true, false, true, false, false, true, false, false, false, true, false, false, false, false, false, false] rfl rfl (take_ofW HT_.out HW_.out (by kernel_rfl)) (fun _ _ _ h => h) (Or.inl ⟨by rfl, ?_⟩) hHeld ?_ ?_
                  rotate_left
                  · rintro w' ⟨s0, s1, s2, s3, s4, s5, s6⟩
                    go_simp
                    with_reducible rfl
                  rotate_left
                  · simp only [Act.put, List.setIfInBounds_toArray, List.set_cons_zero, List.set_cons_succ, i64_w, i32_w]
                    rfl
                  refine take_ (i := 6) (N := some 20) (v := ?_) (a' := ?_) #[true, false, true, false, false, true, true, false, false, true, false, false, false, false, false, false] rfl rfl (take_ofW HT_.out HW_.out (by kernel_rfl)) (fun _ _ _ h => h) (Or.inl ⟨by rfl, ?_⟩) hHeld ?_ ?_
                  rotate_left
                  · rintro w' ⟨s0, s1, s2, s3, s4, s5, s6⟩
                    go_simp
                    with_reducible rfl
                  rotate_left
                  · simp only [Act.put, List.setIfInBounds_toArray, List.set_cons_zero, List.set_cons_succ, i64_w, i32_w]
                    rfl
                  refine take_ (i := 10) (N := some 24) (v := ?_) (a' := ?_) #[true, false, true, false, false, true, true, false, false, true, true, false, false, false, false, false] rfl rfl (take_ofW HT_.out HW_.out (by kernel_rfl)) (fun _ _ _ h => h) (Or.inl ⟨by rfl, ?_⟩) hHeld ?_ ?_
                  rotate_left
                  · rintro w' ⟨s0, s1, s2, s3, s4, s5, s6⟩
                    go_simp
                    with_reducible rfl
                  rotate_left
                  · simp only [Act.put, List.setIfInBounds_toArray, List.set_cons_zero, List.set_cons_succ, i64_w, i32_w]
                    rfl
                  refine pure_ (i := 11) (N := some 25) (v := ?_) (a' := ?_) #[true, false, true, false, false, true, true, false, false, true, true, true, false, false, false, false] rfl rfl (any_of HT_.out (by kernel_rfl)) (fun _ _ _ h => h) (Or.inl ⟨by rfl, ?_⟩) ?_ ?_
                  rotate_left
                  · intro w'
                    go_simp
                    with_reducible rfl
                  rotate_left
                  · simp only [Act.put, List.setIfInBounds_toArray, List.set_cons_zero, List.set_cons_succ, i64_w, i32_w]
                    rfl
                  refine one_ (i := 1) (N := some 15) #[true, true, true, false, false, true, true, false, false, true, true, true, false, false, false, false] rfl rfl (one_of HT_.out (by kernel_rfl)) (by decide) (fun K hK => ?_)
                  refine goes_ Tryd.func50 (by kernel_rfl) rfl #[.agg #[.string a0_0, .int .i64 a0_1, .int .i64 a0_2, .string a0_3, .bool a0_4, .bool a0_5, .string a0_6]] (by rfl) rfl rfl (by (try simp only [List.map_toArray, List.map_cons, List.map_nil]); first | done | rfl | (simp only [List.length_drop, List.length_take]; rfl)) ?_
                  with_reducible refine (field_ahead.calls a0_0 a0_1 a0_2 a0_3 a0_4 a0_5 a0_6 t188 _ A20.out).mono ?_
                  rintro e w33 ⟨rfl, hb⟩
                  refine ⟨_, rfl, ?_⟩
                  have n0_ := Aside0.mk (blk_below (g := gb183) (o := .cells #[.string a0_0, .int .i64 a0_1, .int .i64 a0_2, .string a0_3, .bool a0_4, .bool a0_5, .string a0_6] 40 (0, 0)) (by (with_reducible repeat (first | refine blk_drewN ?_ _ | refine blk_drew ?_ | refine blk_alloc ?_ _)); exact BK183.out) hb)
                  have n1_ := Aside0.mk (below_step (by repeat (first | (with_reducible first | exact HB.out | apply below_alloc | apply pw_below_drewN | apply below_drew1 | refine below_set ?_ GE183.out) | exact HB.out)) hb)
                  clear BK183
                  clear HB
                  have BK183 := n0_
                  have HB := n1_
                  clear n0_ n1_
                  (try clear hb)
                  (try clear hb2)
                  (try clear hk)
                  (try clear hi)
                  refine hK.out _ _ ⟨(blk_cell BK183.out 0).trans rfl, (blk_cell BK183.out 1).trans rfl, (blk_cell BK183.out 2).trans rfl, (blk_cell BK183.out 3).trans rfl, (blk_cell BK183.out 4).trans rfl, (blk_cell BK183.out 5).trans rfl, (blk_cell BK183.out 6).trans rfl⟩ (fun hHeld => ?_)
                  clear hK K
                  refine norm_ (a' := ?_) ?_ ?_
                  rotate_left
                  · show Act.put _ (some 15) _ = _
                    simp only [Act.put, List.setIfInBounds_toArray, List.set_cons_zero, List.set_cons_succ, i64_w, i32_w]
                    rfl
                  refine pure_ (i := 3) (N := some 17) (v := ?_) (a' := ?_) #[true, true, true, true, false, true, true, false, false, true, true, true, false, false, false, false] rfl rfl (any_of HT_.out (by kernel_rfl)) (fun _ _ _ h => h) (Or.inl ⟨by rfl, ?_⟩) ?_ ?_
                  rotate_left
                  · intro w'
                    go_simp
                    with_reducible rfl
                  rotate_left
                  · simp only [Act.put, List.setIfInBounds_toArray, List.set_cons_zero, List.set_cons_succ, i64_w, i32_w]
                    rfl
                  refine pure_ (i := 4) (N := some 18) (v := ?_) (a' := ?_) #[true, true, true, true, true, true, true, false, false, true, true, true, false, false, false, false] rfl rfl (any_of HT_.out (by kernel_rfl)) (fun _ _ _ h => h) (Or.inl ⟨by rfl, ?_⟩) ?_ ?_
                  rotate_left
                  · intro w'
                    go_simp
                    with_reducible rfl
                  rotate_left
                  · simp only [Act.put, List.setIfInBounds_toArray, List.set_cons_zero, List.set_cons_succ, i64_w, i32_w]
                    rfl
                  refine pure_ (i := 7) (N := some 21) (v := ?_) (a' := ?_) #[true, true, true, true, true, true, true, true, false, true, true, true, false, false, false, false] rfl rfl (any_of HT_.out (by kernel_rfl)) (fun _ _ _ h => h) (Or.inl ⟨by rfl, ?_⟩) ?_ ?_
                  rotate_left
                  · intro w'
                    go_simp
                    with_reducible rfl
                  rotate_left
                  · simp only [Act.put, List.setIfInBounds_toArray, List.set_cons_zero, List.set_cons_succ, i64_w, i32_w]
                    rfl
                  refine pure_ (i := 8) (N := some 22) (v := ?_) (a' := ?_) #[true, true, true, true, true, true, true, true, true, true, true, true, false, false, false, false] rfl rfl (any_of HT_.out (by kernel_rfl)) (fun _ _ _ h => h) (Or.inl ⟨by rfl, ?_⟩) ?_ ?_
                  rotate_left
                  · intro w'
                    go_simp
                    with_reducible rfl
                  rotate_left
                  · simp only [Act.put, List.setIfInBounds_toArray, List.set_cons_zero, List.set_cons_succ, i64_w, i32_w]
                    rfl
                  refine one_ (i := 12) (N := some 26) #[true, true, true, true, true, true, true, true, true, true, true, true, true, false, false, false] rfl rfl (one_of HT_.out (by kernel_rfl)) (by decide) (fun K hK => ?_)
                  refine goes_ Tryd.func39 (by kernel_rfl) rfl #[.int .u64 (IntKind.u64.wrap (a0_1)), .bool false] (by rfl) rfl rfl (by (try simp only [List.map_toArray, List.map_cons, List.map_nil]); first | done | rfl | (simp only [List.length_drop, List.length_take]; rfl)) ?_
                  with_reducible refine (lex_Digits.calls (IntKind.u64.wrap (a0_1)) false t189 _ A25.out).mono ?_
                  rintro e w' ⟨rfl, ⟨nd, rfl⟩⟩
                  refine ⟨_, rfl, ?_⟩
                  refine hK.out _ _ ⟨(blk_cell BK183.out 0).trans rfl, (blk_cell BK183.out 1).trans rfl, (blk_cell BK183.out 2).trans rfl, (blk_cell BK183.out 3).trans rfl, (blk_cell BK183.out 4).trans rfl, (blk_cell BK183.out 5).trans rfl, (blk_cell BK183.out 6).trans rfl⟩ (fun hHeld => ?_)
                  clear hK K
                  refine norm_ (a' := ?_) ?_ ?_
                  rotate_left
                  · show Act.put _ (some 26) _ = _
                    simp only [Act.put, List.setIfInBounds_toArray, List.set_cons_zero, List.set_cons_succ, i64_w, i32_w]
                    rfl
                  refine pure_ (i := 13) (N := some 27) (v := ?_) (a' := ?_) #[true, true, true, true, true, true, true, true, true, true, true, true, true, true, false, false] rfl rfl (any_of HT_.out (by kernel_rfl)) (fun _ _ _ h => h) (Or.inl ⟨by rfl, ?_⟩) ?_ ?_
                  rotate_left
                  · intro w'
                    go_simp
                    with_reducible rfl
                  rotate_left
                  · simp only [Act.put, List.setIfInBounds_toArray, List.set_cons_zero, List.set_cons_succ, i64_w, i32_w]
                    rfl
                  refine pure_ (i := 14) (N := some 28) (v := ?_) (a' := ?_) #[true, true, true, true, true, true, true, true, true, true, true, true, true, true, true, false] rfl rfl (any_of HT_.out (by kernel_rfl)) (fun _ _ _ h => h) (Or.inl ⟨by rfl, ?_⟩) ?_ ?_
                  rotate_left
                  · intro w'
                    go_simp
                    with_reducible rfl
                  rotate_left
                  · simp only [Act.put, List.setIfInBounds_toArray, List.set_cons_zero, List.set_cons_succ, i64_w, i32_w]
                    rfl
                  refine pure_ (i := 15) (N := some 2) (v := ?_) (a' := ?_) #[true, true, true, true, true, true, true, true, true, true, true, true, true, true, true, true] rfl rfl (any_of HT_.out (by kernel_rfl)) (fun _ _ _ h => h) (Or.inl ⟨by rfl, ?_⟩) ?_ ?_
                  rotate_left
                  · intro w'
                    go_simp
                    with_reducible rfl
                  rotate_left
                  · simp only [Act.put, List.setIfInBounds_toArray, List.set_cons_zero, List.set_cons_succ, i64_w, i32_w]
                    rfl
                  refine done_ (done_of HT_.out (by kernel_rfl)) ?_
                  try go_wp2
                  go_ret
                  exact ⟨by first | rfl | (simp [errW_none, errW_some] <;> rfl) | (simp [*, errW_none, errW_some] <;> rfl), by repeat (first | (with_reducible first | exact HB.out | apply below_alloc | apply pw_below_drewN | apply below_drew1 | refine below_set ?_ GE183.out) | exact HB.out)⟩
                · rw [if_neg c27] at H
                  exact absurd H (by simp)
              · rw [if_neg c26] at H
                exact absurd H (by simp)
            · rw [if_neg c24] at H
              exact absurd H (by simp)
          · rw [if_neg c23] at H
            exact absurd H (by simp)
        · rw [if_neg c22] at H
          exact absurd H (by simp)
      · rw [if_neg c21] at H
        exact absurd H (by simp)
  · rw [if_neg c3] at H
    have c3b0 : (t184 == 0) = false := beq_eq_false_iff_ne.mpr c3
    have c3b1 : (t184 != 0) = true := bne_iff_ne.mpr c3
    obtain rfl := Option.some.inj H
    go_enter Tryd.func25, Tryd.ntmps25
    go_wp2_with (first | ((with_reducible refine gate_dst (N := 1) rfl ?_); refine box_event ?hg (N := 1) ?hd (cs := #[.string a0_0, .int .i64 a0_1, .int .i64 a0_2, .string a0_3, .bool a0_4, .bool a0_5, .string a0_6]) (t := 40) ?hr ?_; (case hd => rfl); (case hg => rfl); (case hr => first | (go_simp; done) | (go_simp; rfl)); intro gb183 hg w34 hbox hb; have n0_ := Aside0.mk (below_step (by repeat (first | (with_reducible first | exact HB.out | apply below_alloc | apply pw_below_drewN | apply below_drew1) | exact HB.out)) hb); have n1_ := Aside0.mk (hbox); have n2_ := Aside0.mk ((by rw [hg]; exact (below_size (by repeat (first | (with_reducible first | exact HB.out | apply below_alloc | apply pw_below_drewN | apply below_drew1) | exact HB.out))) : w.heap.size ≤ gb183)); have n3_ := Aside0.mk ((by rw [hg]; exact (below_size (by repeat (first | (with_reducible first | exact HB.out | apply below_alloc | apply pw_below_drewN | apply below_drew1) | exact HB.out))) : w.heap.size ≤ gb183)); clear HB; have HB := n0_; have BK183 := n1_; have GW183 := n2_; have GE183 := n3_; clear n0_ n1_ n2_ n3_; clear hb hbox hg; have hcz35_0 : w34.cell? ⟨gb183, 0, none⟩ = some (.string a0_0) := (blk_cell BK183.out 0).trans rfl; have hcz35_1 : w34.cell? ⟨gb183, 1, none⟩ = some (.int .i64 a0_1) := (blk_cell BK183.out 1).trans rfl; have hcz35_2 : w34.cell? ⟨gb183, 2, none⟩ = some (.int .i64 a0_2) := (blk_cell BK183.out 2).trans rfl; have hcz35_3 : w34.cell? ⟨gb183, 3, none⟩ = some (.string a0_3) := (blk_cell BK183.out 3).trans rfl; have hcz35_4 : w34.cell? ⟨gb183, 4, none⟩ = some (.bool a0_4) := (blk_cell BK183.out 4).trans rfl; have hcz35_5 : w34.cell? ⟨gb183, 5, none⟩ = some (.bool a0_5) := (blk_cell BK183.out 5).trans rfl; have hcz35_6 : w34.cell? ⟨gb183, 6, none⟩ = some (.string a0_6) := (blk_cell BK183.out 6).trans rfl; have hfz35_0 := blk_frozen BK183.out 0; have hfz35_1 := blk_frozen BK183.out 1; have hfz35_2 := blk_frozen BK183.out 2; have hfz35_3 := blk_frozen BK183.out 3; have hfz35_4 := blk_frozen BK183.out 4; have hfz35_5 := blk_frozen BK183.out 5; have hfz35_6 := blk_frozen BK183.out 6) | ((with_reducible refine gate_callee (f := 23) rfl ?_); refine goesL_ (some 5) rfl rfl Tryd.func23 (by kernel_rfl) rfl #[.agg #[.string a0_0, .int .i64 a0_1, .int .i64 a0_2, .string a0_3, .bool a0_4, .bool a0_5, .string a0_6]] rfl (by (try simp only [List.map_toArray, List.map_cons, List.map_nil]); first | done | rfl | (simp only [List.length_drop, List.length_take]; rfl)) ?_; (with_reducible refine (field_Check.calls k a0_0 a0_1 a0_2 a0_3 a0_4 a0_5 a0_6 t184 _ A2.out).mono ?_); rintro e w36 ⟨rfl, hb⟩; refine ⟨_, rfl, ?_⟩; have n0_ := Aside0.mk (blk_below (g := gb183) (o := .cells #[.string a0_0, .int .i64 a0_1, .int .i64 a0_2, .string a0_3, .bool a0_4, .bool a0_5, .string a0_6] 40 (0, 0)) (by (with_reducible repeat (first | refine blk_drewN ?_ _ | refine blk_drew ?_ | refine blk_alloc ?_ _)); exact BK183.out) hb); have n1_ := Aside0.mk (below_step (by repeat (first | (with_reducible first | exact HB.out | apply below_alloc | apply pw_below_drewN | apply below_drew1 | refine below_set ?_ GE183.out) | exact HB.out)) hb); clear BK183; clear HB; have BK183 := n0_; have HB := n1_; clear n0_ n1_; (try clear hb); (try clear hb2); (try clear hk); (try clear hi)))
    go_ret
    exact ⟨by first | rfl | (simp [errW_none, errW_some] <;> rfl) | (simp [*, errW_none, errW_some] <;> rfl), by repeat (first | (with_reducible first | exact HB.out | apply below_alloc | apply pw_below_drewN | apply below_drew1 | refine below_set ?_ GE183.out) | exact HB.out)⟩

end Go.Proofs.YticmmpiffekbiaaDoor.Px
