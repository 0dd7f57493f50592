/- The small code is the program's. -/
import Derived.Test.YticmmpiffekbiaaDoorFd0
import Derived.Test.YticmmpiffekbiaaDoorRows
import Derived.Test.YticmmpiffekbiaaDoorEng5
namespace Go.Proofs.YticmmpiffekbiaaDoor.Fd
open Go Go.Proofs.YticmmpiffekbiaaDoor.Eng Go.RowKit
set_option linter.unusedVariables false
def table : List (FuncId × CF) := [(8, c_law14_FieldTexts), (9, c_law14_FieldOnes), (18, c_ref11_Whole), (20, c_law14_small), (21, c_law14_live), (22, c_law14_num), (23, c_field_Check), (24, c_ref14_Check), (25, c_field_Text), (26, c_ref14_Text), (27, c_field_Packed), (28, c_ref14_Packed), (29, c_field_Hidden), (30, c_ref14_Hidden), (39, c_lex_Digits), (40, c_ref10_Digits), (43, c_field_named), (44, c_scalar_Number), (45, c_tag_Field), (46, c_ref09_Right), (47, c_ref04_Field), (48, c_ref11_Number), (49, c_scalar_Word), (50, c_field_ahead), (51, c_ref11_Word), (60, c_field_refers), (62, c_scalar_kind), (63, c_tag_number), (64, c_ref09_Letter), (65, c_ref09_words), (66, c_ref11_words), (72, c_ident_word)]
def defs (f : FuncId) : Option CF := (table.find? fun p => p.1 == f).map fun p => p.2
theorem ok_law14_FieldTexts : ∃ fn ow, Tryd.prog.funcs[8]? = some fn ∧ (fn.name == "runtime.NumGoroutine") = false ∧ cF Tryd.prog ow fn = some { c_law14_FieldTexts with code := eraseK c_law14_FieldTexts.code } := ⟨Tryd.f8, fun _ => false, Tryd.func8, by kernel_rfl, by kernel_rfl⟩
theorem ok_law14_FieldOnes : ∃ fn ow, Tryd.prog.funcs[9]? = some fn ∧ (fn.name == "runtime.NumGoroutine") = false ∧ cF Tryd.prog ow fn = some { c_law14_FieldOnes with code := eraseK c_law14_FieldOnes.code } := ⟨Tryd.f9, fun _ => false, Tryd.func9, by kernel_rfl, by kernel_rfl⟩
theorem ok_ref11_Whole : ∃ fn ow, Tryd.prog.funcs[18]? = some fn ∧ (fn.name == "runtime.NumGoroutine") = false ∧ cF Tryd.prog ow fn = some { c_ref11_Whole with code := eraseK c_ref11_Whole.code } := ⟨Tryd.f18, fun _ => false, Tryd.func18, by kernel_rfl, by kernel_rfl⟩
theorem ok_law14_small : ∃ fn ow, Tryd.prog.funcs[20]? = some fn ∧ (fn.name == "runtime.NumGoroutine") = false ∧ cF Tryd.prog ow fn = some { c_law14_small with code := eraseK c_law14_small.code } := ⟨Tryd.f20, fun _ => false, Tryd.func20, by kernel_rfl, by kernel_rfl⟩
theorem ok_law14_live : ∃ fn ow, Tryd.prog.funcs[21]? = some fn ∧ (fn.name == "runtime.NumGoroutine") = false ∧ cF Tryd.prog ow fn = some { c_law14_live with code := eraseK c_law14_live.code } := ⟨Tryd.f21, fun _ => false, Tryd.func21, by kernel_rfl, by kernel_rfl⟩
theorem ok_law14_num : ∃ fn ow, Tryd.prog.funcs[22]? = some fn ∧ (fn.name == "runtime.NumGoroutine") = false ∧ cF Tryd.prog ow fn = some { c_law14_num with code := eraseK c_law14_num.code } := ⟨Tryd.f22, fun _ => false, Tryd.func22, by kernel_rfl, by kernel_rfl⟩
theorem ok_field_Check : ∃ fn ow, Tryd.prog.funcs[23]? = some fn ∧ (fn.name == "runtime.NumGoroutine") = false ∧ cF Tryd.prog ow fn = some { c_field_Check with code := eraseK c_field_Check.code } := ⟨Tryd.f23, fun _ => false, Tryd.func23, by kernel_rfl, by kernel_rfl⟩
theorem ok_ref14_Check : ∃ fn ow, Tryd.prog.funcs[24]? = some fn ∧ (fn.name == "runtime.NumGoroutine") = false ∧ cF Tryd.prog ow fn = some { c_ref14_Check with code := eraseK c_ref14_Check.code } := ⟨Tryd.f24, fun _ => false, Tryd.func24, by kernel_rfl, by kernel_rfl⟩
theorem ok_field_Text : ∃ fn ow, Tryd.prog.funcs[25]? = some fn ∧ (fn.name == "runtime.NumGoroutine") = false ∧ cF Tryd.prog ow fn = some { c_field_Text with code := eraseK c_field_Text.code } := ⟨Tryd.f25, fun _ => false, Tryd.func25, by kernel_rfl, by kernel_rfl⟩
theorem ok_ref14_Text : ∃ fn ow, Tryd.prog.funcs[26]? = some fn ∧ (fn.name == "runtime.NumGoroutine") = false ∧ cF Tryd.prog ow fn = some { c_ref14_Text with code := eraseK c_ref14_Text.code } := ⟨Tryd.f26, fun _ => false, Tryd.func26, by kernel_rfl, by kernel_rfl⟩
theorem ok_field_Packed : ∃ fn ow, Tryd.prog.funcs[27]? = some fn ∧ (fn.name == "runtime.NumGoroutine") = false ∧ cF Tryd.prog ow fn = some { c_field_Packed with code := eraseK c_field_Packed.code } := ⟨Tryd.f27, fun _ => false, Tryd.func27, by kernel_rfl, by kernel_rfl⟩
theorem ok_ref14_Packed : ∃ fn ow, Tryd.prog.funcs[28]? = some fn ∧ (fn.name == "runtime.NumGoroutine") = false ∧ cF Tryd.prog ow fn = some { c_ref14_Packed with code := eraseK c_ref14_Packed.code } := ⟨Tryd.f28, fun _ => false, Tryd.func28, by kernel_rfl, by kernel_rfl⟩
theorem ok_field_Hidden : ∃ fn ow, Tryd.prog.funcs[29]? = some fn ∧ (fn.name == "runtime.NumGoroutine") = false ∧ cF Tryd.prog ow fn = some { c_field_Hidden with code := eraseK c_field_Hidden.code } := ⟨Tryd.f29, fun _ => false, Tryd.func29, by kernel_rfl, by kernel_rfl⟩
theorem ok_ref14_Hidden : ∃ fn ow, Tryd.prog.funcs[30]? = some fn ∧ (fn.name == "runtime.NumGoroutine") = false ∧ cF Tryd.prog ow fn = some { c_ref14_Hidden with code := eraseK c_ref14_Hidden.code } := ⟨Tryd.f30, fun _ => false, Tryd.func30, by kernel_rfl, by kernel_rfl⟩
theorem ok_lex_Digits : ∃ fn ow, Tryd.prog.funcs[39]? = some fn ∧ (fn.name == "runtime.NumGoroutine") = false ∧ cF Tryd.prog ow fn = some { c_lex_Digits with code := eraseK c_lex_Digits.code } := ⟨Tryd.f39, fun _ => false, Tryd.func39, by kernel_rfl, by kernel_rfl⟩
theorem ok_ref10_Digits : ∃ fn ow, Tryd.prog.funcs[40]? = some fn ∧ (fn.name == "runtime.NumGoroutine") = false ∧ cF Tryd.prog ow fn = some { c_ref10_Digits with code := eraseK c_ref10_Digits.code } := ⟨Tryd.f40, fun _ => false, Tryd.func40, by kernel_rfl, by kernel_rfl⟩
theorem ok_field_named : ∃ fn ow, Tryd.prog.funcs[43]? = some fn ∧ (fn.name == "runtime.NumGoroutine") = false ∧ cF Tryd.prog ow fn = some { c_field_named with code := eraseK c_field_named.code } := ⟨Tryd.f43, fun _ => false, Tryd.func43, by kernel_rfl, by kernel_rfl⟩
theorem ok_scalar_Number : ∃ fn ow, Tryd.prog.funcs[44]? = some fn ∧ (fn.name == "runtime.NumGoroutine") = false ∧ cF Tryd.prog ow fn = some { c_scalar_Number with code := eraseK c_scalar_Number.code } := ⟨Tryd.f44, fun _ => false, Tryd.func44, by kernel_rfl, by kernel_rfl⟩
theorem ok_tag_Field : ∃ fn ow, Tryd.prog.funcs[45]? = some fn ∧ (fn.name == "runtime.NumGoroutine") = false ∧ cF Tryd.prog ow fn = some { c_tag_Field with code := eraseK c_tag_Field.code } := ⟨Tryd.f45, fun _ => false, Tryd.func45, by kernel_rfl, by kernel_rfl⟩
theorem ok_ref09_Right : ∃ fn ow, Tryd.prog.funcs[46]? = some fn ∧ (fn.name == "runtime.NumGoroutine") = false ∧ cF Tryd.prog ow fn = some { c_ref09_Right with code := eraseK c_ref09_Right.code } := ⟨Tryd.f46, fun _ => false, Tryd.func46, by kernel_rfl, by kernel_rfl⟩
theorem ok_ref04_Field : ∃ fn ow, Tryd.prog.funcs[47]? = some fn ∧ (fn.name == "runtime.NumGoroutine") = false ∧ cF Tryd.prog ow fn = some { c_ref04_Field with code := eraseK c_ref04_Field.code } := ⟨Tryd.f47, fun _ => false, Tryd.func47, by kernel_rfl, by kernel_rfl⟩
theorem ok_ref11_Number : ∃ fn ow, Tryd.prog.funcs[48]? = some fn ∧ (fn.name == "runtime.NumGoroutine") = false ∧ cF Tryd.prog ow fn = some { c_ref11_Number with code := eraseK c_ref11_Number.code } := ⟨Tryd.f48, fun _ => false, Tryd.func48, by kernel_rfl, by kernel_rfl⟩
theorem ok_scalar_Word : ∃ fn ow, Tryd.prog.funcs[49]? = some fn ∧ (fn.name == "runtime.NumGoroutine") = false ∧ cF Tryd.prog ow fn = some { c_scalar_Word with code := eraseK c_scalar_Word.code } := ⟨Tryd.f49, fun _ => false, Tryd.func49, by kernel_rfl, by kernel_rfl⟩
theorem ok_field_ahead : ∃ fn ow, Tryd.prog.funcs[50]? = some fn ∧ (fn.name == "runtime.NumGoroutine") = false ∧ cF Tryd.prog ow fn = some { c_field_ahead with code := eraseK c_field_ahead.code } := ⟨Tryd.f50, fun _ => false, Tryd.func50, by kernel_rfl, by kernel_rfl⟩
theorem ok_ref11_Word : ∃ fn ow, Tryd.prog.funcs[51]? = some fn ∧ (fn.name == "runtime.NumGoroutine") = false ∧ cF Tryd.prog ow fn = some { c_ref11_Word with code := eraseK c_ref11_Word.code } := ⟨Tryd.f51, fun _ => false, Tryd.func51, by kernel_rfl, by kernel_rfl⟩
theorem ok_field_refers : ∃ fn ow, Tryd.prog.funcs[60]? = some fn ∧ (fn.name == "runtime.NumGoroutine") = false ∧ cF Tryd.prog ow fn = some { c_field_refers with code := eraseK c_field_refers.code } := ⟨Tryd.f60, fun _ => false, Tryd.func60, by kernel_rfl, by kernel_rfl⟩
theorem ok_scalar_kind : ∃ fn ow, Tryd.prog.funcs[62]? = some fn ∧ (fn.name == "runtime.NumGoroutine") = false ∧ cF Tryd.prog ow fn = some { c_scalar_kind with code := eraseK c_scalar_kind.code } := ⟨Tryd.f62, fun _ => false, Tryd.func62, by kernel_rfl, by kernel_rfl⟩
theorem ok_tag_number : ∃ fn ow, Tryd.prog.funcs[63]? = some fn ∧ (fn.name == "runtime.NumGoroutine") = false ∧ cF Tryd.prog ow fn = some { c_tag_number with code := eraseK c_tag_number.code } := ⟨Tryd.f63, fun _ => false, Tryd.func63, by kernel_rfl, by kernel_rfl⟩
theorem ok_ref09_Letter : ∃ fn ow, Tryd.prog.funcs[64]? = some fn ∧ (fn.name == "runtime.NumGoroutine") = false ∧ cF Tryd.prog ow fn = some { c_ref09_Letter with code := eraseK c_ref09_Letter.code } := ⟨Tryd.f64, fun _ => false, Tryd.func64, by kernel_rfl, by kernel_rfl⟩
theorem ok_ref09_words : ∃ fn ow, Tryd.prog.funcs[65]? = some fn ∧ (fn.name == "runtime.NumGoroutine") = false ∧ cF Tryd.prog ow fn = some { c_ref09_words with code := eraseK c_ref09_words.code } := ⟨Tryd.f65, fun _ => false, Tryd.func65, by kernel_rfl, by kernel_rfl⟩
theorem ok_ref11_words : ∃ fn ow, Tryd.prog.funcs[66]? = some fn ∧ (fn.name == "runtime.NumGoroutine") = false ∧ cF Tryd.prog ow fn = some { c_ref11_words with code := eraseK c_ref11_words.code } := ⟨Tryd.f66, fun _ => false, Tryd.func66, by kernel_rfl, by kernel_rfl⟩
theorem ok_ident_word : ∃ fn ow, Tryd.prog.funcs[72]? = some fn ∧ (fn.name == "runtime.NumGoroutine") = false ∧ cF Tryd.prog ow fn = some { c_ident_word with code := eraseK c_ident_word.code } := ⟨Tryd.f72, fun _ => false, Tryd.func72, by kernel_rfl, by kernel_rfl⟩
theorem defsOk : DefsOk Tryd.prog defs := by
  intro f cf h
  unfold defs at h
  obtain ⟨p, hp, rfl⟩ := Option.map_eq_some_iff.1 h
  have hf : p.1 = f := by simpa using List.find?_some hp
  have hm := List.mem_of_find?_eq_some hp
  subst hf
  clear h hp
  revert p
  unfold table
  simp only [List.forall_mem_cons]
  exact ⟨ok_law14_FieldTexts, ok_law14_FieldOnes, ok_ref11_Whole, ok_law14_small, ok_law14_live, ok_law14_num, ok_field_Check, ok_ref14_Check, ok_field_Text, ok_ref14_Text, ok_field_Packed, ok_ref14_Packed, ok_field_Hidden, ok_ref14_Hidden, ok_lex_Digits, ok_ref10_Digits, ok_field_named, ok_scalar_Number, ok_tag_Field, ok_ref09_Right, ok_ref04_Field, ok_ref11_Number, ok_scalar_Word, ok_field_ahead, ok_ref11_Word, ok_field_refers, ok_scalar_kind, ok_tag_number, ok_ref09_Letter, ok_ref09_words, ok_ref11_words, ok_ident_word, fun _ h => by cases h⟩
theorem mixed : Tryd.prog.follows .mixedOrders = true := by kernel_rfl
end Go.Proofs.YticmmpiffekbiaaDoor.Fd
