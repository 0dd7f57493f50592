/- Plain laws of the layer of a schema's fields: the printed functions of the program and of the document's answer, each as one plain function. No condition. -/
import Derived.Test.YticmmpiffekbiaaDoorPx0
import Derived.Test.YticmmpiffekbiaaDoorPx12
import Derived.Test.YticmmpiffekbiaaDoorPx15
import Derived.Test.YticmmpiffekbiaaDoorPx16
import Derived.Test.YticmmpiffekbiaaDoorPx17
import Derived.Test.YticmmpiffekbiaaDoorPx18
import Derived.Test.YticmmpiffekbiaaDoorPx19
import Derived.Test.YticmmpiffekbiaaDoorPx21
import Derived.Test.YticmmpiffekbiaaDoorPx22
import Derived.Test.YticmmpiffekbiaaDoorPx9
import Derived.Test.YticmmpiffekbiaaDoorBase
import Derived.Test.YticmmpiffekbiaaDoorScal
import Derived.Test.YticmmpiffekbiaaDoorIdent
namespace Go.Proofs.YticmmpiffekbiaaDoor.Px
open Go.RowKit Go.Proofs.YticmmpiffekbiaaDoorW.PrintWords Go.Proofs.YticmmpiffekbiaaDoorW.PrintLast
set_option linter.unusedSimpArgs false
set_option linter.unusedVariables false

def emptyB (s : ByteArray) : Bool := decide (s.toList = [])
def tagFieldB (n : Int) : Bool := decide (1 ≤ n ∧ n ≤ 536870911 ∧ (n < 19000 ∨ 19999 < n))
def namedB (name : ByteArray) (ty : Int) (ref one : ByteArray) : Bool := (if ty = 14 ∨ ty = 15 then rightB ref else emptyB ref) && rightB name && (emptyB one || rightB one)
def badB (num ty : Int) (rep loose : Bool) (one : ByteArray) : Bool := decide (ty < 1 ∨ 15 < ty) || (rep && !emptyB one) || (loose && !(rep && isNumber ty)) || !tagFieldB num
def checkN (name : ByteArray) (num ty : Int) (ref : ByteArray) (rep loose : Bool) (one : ByteArray) : Int :=
  if namedB name ty ref one = true then if badB num ty rep loose one = true then 1 else 0 else 2
theorem tag_Field_eq (n : Int) : tag_Field.f n = some (tagFieldB n) := by
  unfold tag_Field.f tag_number.f tagFieldB
  by_cases c1 : n ≥ 1
  · by_cases c2 : n ≤ 536870911
    · by_cases c3 : n < 19000
      · simp [c1, c2, c3]
      · simp [c1, c2, c3]
    · simp [c1, c2]
  · simp [c1]
theorem ref_tagField_eq (n : Int) : ecdysisref04_Field.f n = some (tagFieldB n) := by
  unfold ecdysisref04_Field.f tagFieldB
  by_cases c1 : n ≥ 1
  · by_cases c2 : n ≤ 536870911
    · by_cases c3 : n < 19000
      · simp [c1, c2, c3]
      · simp [c1, c2, c3]
    · simp [c1, c2]
  · simp [c1]
theorem field_named_eq (name : ByteArray) (num ty : Int) (ref : ByteArray) (rep loose : Bool) (one : ByteArray) : field_named.f name num ty ref rep loose one = some (namedB name ty ref one) := by
  unfold field_named.f field_refers.f namedB emptyB
  simp only [ident_Right_eq, Option.bind_some]
  by_cases h1 : ty = 14
  · subst h1; cases rightB ref <;> cases rightB name <;> by_cases c : one.toList = [] <;> cases rightB one <;> simp [c]
  · by_cases h2 : ty = 15
    · subst h2; cases rightB ref <;> cases rightB name <;> by_cases c : one.toList = [] <;> cases rightB one <;> simp [c]
    · have h3 : (ty == 15) = false := by simpa using h2
      by_cases d : ref.toList = [] <;> cases rightB name <;> by_cases c : one.toList = [] <;> cases rightB one <;> simp [c, d, h1, h2, h3]
theorem field_Check_eq (k : Nat) (name : ByteArray) (num ty : Int) (ref : ByteArray) (rep loose : Bool) (one : ByteArray) : field_Check.f (k + 3) name num ty ref rep loose one = some (checkN name num ty ref rep loose one) := by
  unfold field_Check.f checkN
  simp only [field_Check.j0, field_Check.j1, field_Check.j2, field_named_eq, scalar_Number_eq, tag_Field_eq, Option.bind_some]
  cases namedB name ty ref one with
  | false => simp
  | true =>
    unfold badB emptyB
    by_cases c1 : ty < 1
    · simp [c1]
    · by_cases c2 : 15 < ty
      · simp [c1, c2]
      · cases rep <;> cases loose <;> cases isNumber ty <;> cases tagFieldB num <;> by_cases c : one.toList = [] <;> simp [c1, c2, c]
theorem ref14_Check_eq (k : Nat) (name : ByteArray) (num ty : Int) (ref : ByteArray) (rep loose : Bool) (one : ByteArray) : ecdysisref14_Check.f (k + 70) name num ty ref rep loose one = some (checkN name num ty ref rep loose one) := by
  have hj3 : ∀ (k : Nat) (b : Bool), ecdysisref14_Check.j3 (k + 1) b name num ty ref rep loose one = some (if (b || (loose && !(rep && isNumber ty))) = true then 1 else 0) := by
    intro k b
    simp only [ecdysisref14_Check.j3, ref_Number_eq, Option.bind_some]
    cases b <;> cases rep <;> cases loose <;> cases isNumber ty <;> simp
  have hj2 : ∀ k : Nat, ecdysisref14_Check.j2 (k + 2) name num ty ref rep loose one = some (if badB num ty rep loose one = true then 1 else 0) := by
    intro k
    simp only [ecdysisref14_Check.j2, hj3, ref_tagField_eq, Option.bind_some]
    unfold badB emptyB
    cases tagFieldB num with
    | false => simp
    | true =>
      by_cases c1 : ty < 1
      · simp [c1]
      · by_cases c2 : 15 < ty
        · simp [c1, c2]
        · cases rep <;> by_cases c : one.toList = [] <;> simp [c1, c2, c]
  have hj1 : ∀ (k : Nat) (b : Bool), ecdysisref14_Check.j1 (k + 63) b name num ty ref rep loose one = if (if b = true then rightB ref else emptyB ref) = true then some (if badB num ty rep loose one = true then 1 else 0) else some 2 := by
    intro k b
    rw [show k + 63 = (k + 60 + 2) + 1 from by omega]
    simp only [ecdysisref14_Check.j1]
    rw [hj2, ref09_Right_eq (k + 2)]
    unfold emptyB
    cases b <;> cases rightB ref <;> by_cases c : ref.toList = [] <;> simp [c]
  have hj0 : ∀ (k : Nat) (b : Bool), ecdysisref14_Check.j0 (k + 64) b name num ty ref rep loose one = if b = true then some 2 else if (if ty = 14 ∨ ty = 15 then rightB ref else emptyB ref) = true then some (if badB num ty rep loose one = true then 1 else 0) else some 2 := by
    intro k b
    rw [show k + 64 = (k + 63) + 1 from by omega]
    simp only [ecdysisref14_Check.j0]
    rw [hj1, hj1]
    cases b with
    | true => simp
    | false =>
      by_cases h1 : ty = 14
      · simp [h1]
      · by_cases h2 : ty = 15
        · simp [h2]
        · have h3 : (ty == 15) = false := by simpa using h2
          simp [h1, h2, h3]
  unfold ecdysisref14_Check.f checkN namedB
  rw [ref09_Right_eq (k + 10), ref09_Right_eq (k + 10), show k + 70 = (k + 6) + 64 from by omega]
  simp only [Option.bind_some]
  rw [hj0, hj0, hj0]
  generalize (if ty = 14 ∨ ty = 15 then rightB ref else emptyB ref) = g
  unfold emptyB
  cases g <;> cases rightB name <;> cases rightB one <;> by_cases c : one.toList = [] <;> simp [c]
def aheadN (rep loose : Bool) : ByteArray := if loose = true then ⟨#[108, 111, 111, 115, 101, 32]⟩ else if rep = true then ⟨#[114, 101, 112, 101, 97, 116, 101, 100, 32]⟩ else ⟨#[]⟩
theorem live14_eq (k : Nat) : ecdysislaw14_live.f (k + 3) = some true := by
  have e1 : checkN ⟨#[97]⟩ 1 1 ⟨#[]⟩ true false ⟨#[]⟩ = 0 := by decide +kernel
  have e2 : lex_Digits.f (IntKind.u64.wrap 1) false = some ⟨#[49]⟩ := by
    rw [u64_of (by omega)]
    unfold lex_Digits.f strconv_FormatUint.f
    simp
  have e3 : (⟨#[]⟩ : ByteArray).toList = [] := ByteArray.toList_mk []
  unfold ecdysislaw14_live.f field_Text.f
  rw [field_Check_eq, e1]
  simp only [Option.bind_some, if_true, e3, scalar_Word.f, field_ahead.f, e2]
  decide +kernel
end Go.Proofs.YticmmpiffekbiaaDoor.Px
