/- The small code is the program's. -/
import Derived.Test.YticmmpiffekbiaaDoorCt0
import Derived.Test.YticmmpiffekbiaaDoorRows
import Derived.Test.YticmmpiffekbiaaDoorEng5
namespace Go.Proofs.YticmmpiffekbiaaDoor.Ct
open Go Go.Proofs.YticmmpiffekbiaaDoor.Eng Go.RowKit
set_option linter.unusedVariables false
def table : List (FuncId × CF) := [(6, c_law13_ConvTexts), (10, c_conv_Conv), (12, c_ref11_May), (13, c_law13_live), (14, c_conv_Read), (16, c_conv_Digits), (17, c_ref13_Digits), (18, c_ref11_Whole), (19, c_ref10_All), (31, c_conv_right), (32, c_conv_of), (33, c__conv_number__value), (34, c_ref13_split), (35, c_ref11_Wide), (36, c_ref11_Signed), (37, c_ref02_Fits), (38, c_conv_zero), (39, c_lex_Digits), (40, c_ref10_Digits), (41, c_ref10_pass), (42, c_ref10_one), (52, c_scalar_Whole), (53, c_scalar_May), (54, c_scalar_Signed), (56, c_ref10_word), (57, c_ref10_number), (58, c_ref10_text), (59, c_ref10_mark), (62, c_scalar_kind), (64, c_ref09_Letter), (67, c_scalar_Wide), (68, c_zig_Fits), (70, c_ref10_digit)]
def defs (f : FuncId) : Option CF := (table.find? fun p => p.1 == f).map fun p => p.2
theorem ok_law13_ConvTexts : ∃ fn ow, Tryd.prog.funcs[6]? = some fn ∧ (fn.name == "runtime.NumGoroutine") = false ∧ cF Tryd.prog ow fn = some { c_law13_ConvTexts with code := eraseK c_law13_ConvTexts.code } := ⟨Tryd.f6, fun _ => false, Tryd.func6, by kernel_rfl, by kernel_rfl⟩
theorem ok_conv_Conv : ∃ fn ow, Tryd.prog.funcs[10]? = some fn ∧ (fn.name == "runtime.NumGoroutine") = false ∧ cF Tryd.prog ow fn = some { c_conv_Conv with code := eraseK c_conv_Conv.code } := ⟨Tryd.f10, fun _ => false, Tryd.func10, by kernel_rfl, by kernel_rfl⟩
theorem ok_ref11_May : ∃ fn ow, Tryd.prog.funcs[12]? = some fn ∧ (fn.name == "runtime.NumGoroutine") = false ∧ cF Tryd.prog ow fn = some { c_ref11_May with code := eraseK c_ref11_May.code } := ⟨Tryd.f12, fun _ => false, Tryd.func12, by kernel_rfl, by kernel_rfl⟩
theorem ok_law13_live : ∃ fn ow, Tryd.prog.funcs[13]? = some fn ∧ (fn.name == "runtime.NumGoroutine") = false ∧ cF Tryd.prog ow fn = some { c_law13_live with code := eraseK c_law13_live.code } := ⟨Tryd.f13, fun _ => false, Tryd.func13, by kernel_rfl, by kernel_rfl⟩
theorem ok_conv_Read : ∃ fn ow, Tryd.prog.funcs[14]? = some fn ∧ (fn.name == "runtime.NumGoroutine") = false ∧ cF Tryd.prog ow fn = some { c_conv_Read with code := eraseK c_conv_Read.code } := ⟨Tryd.f14, fun _ => false, Tryd.func14, by kernel_rfl, by kernel_rfl⟩
theorem ok_conv_Digits : ∃ fn ow, Tryd.prog.funcs[16]? = some fn ∧ (fn.name == "runtime.NumGoroutine") = false ∧ cF Tryd.prog ow fn = some { c_conv_Digits with code := eraseK c_conv_Digits.code } := ⟨Tryd.f16, fun _ => false, Tryd.func16, by kernel_rfl, by kernel_rfl⟩
theorem ok_ref13_Digits : ∃ fn ow, Tryd.prog.funcs[17]? = some fn ∧ (fn.name == "runtime.NumGoroutine") = false ∧ cF Tryd.prog ow fn = some { c_ref13_Digits with code := eraseK c_ref13_Digits.code } := ⟨Tryd.f17, fun _ => false, Tryd.func17, by kernel_rfl, by kernel_rfl⟩
theorem ok_ref11_Whole : ∃ fn ow, Tryd.prog.funcs[18]? = some fn ∧ (fn.name == "runtime.NumGoroutine") = false ∧ cF Tryd.prog ow fn = some { c_ref11_Whole with code := eraseK c_ref11_Whole.code } := ⟨Tryd.f18, fun _ => false, Tryd.func18, by kernel_rfl, by kernel_rfl⟩
theorem ok_ref10_All : ∃ fn ow, Tryd.prog.funcs[19]? = some fn ∧ (fn.name == "runtime.NumGoroutine") = false ∧ cF Tryd.prog ow fn = some { c_ref10_All with code := eraseK c_ref10_All.code } := ⟨Tryd.f19, fun _ => false, Tryd.func19, by kernel_rfl, by kernel_rfl⟩
theorem ok_conv_right : ∃ fn ow, Tryd.prog.funcs[31]? = some fn ∧ (fn.name == "runtime.NumGoroutine") = false ∧ cF Tryd.prog ow fn = some { c_conv_right with code := eraseK c_conv_right.code } := ⟨Tryd.f31, fun _ => false, Tryd.func31, by kernel_rfl, by kernel_rfl⟩
theorem ok_conv_of : ∃ fn ow, Tryd.prog.funcs[32]? = some fn ∧ (fn.name == "runtime.NumGoroutine") = false ∧ cF Tryd.prog ow fn = some { c_conv_of with code := eraseK c_conv_of.code } := ⟨Tryd.f32, fun _ => false, Tryd.func32, by kernel_rfl, by kernel_rfl⟩
theorem ok__conv_number__value : ∃ fn ow, Tryd.prog.funcs[33]? = some fn ∧ (fn.name == "runtime.NumGoroutine") = false ∧ cF Tryd.prog ow fn = some { c__conv_number__value with code := eraseK c__conv_number__value.code } := ⟨Tryd.f33, fun _ => false, Tryd.func33, by kernel_rfl, by kernel_rfl⟩
theorem ok_ref13_split : ∃ fn ow, Tryd.prog.funcs[34]? = some fn ∧ (fn.name == "runtime.NumGoroutine") = false ∧ cF Tryd.prog ow fn = some { c_ref13_split with code := eraseK c_ref13_split.code } := ⟨Tryd.f34, fun _ => false, Tryd.func34, by kernel_rfl, by kernel_rfl⟩
theorem ok_ref11_Wide : ∃ fn ow, Tryd.prog.funcs[35]? = some fn ∧ (fn.name == "runtime.NumGoroutine") = false ∧ cF Tryd.prog ow fn = some { c_ref11_Wide with code := eraseK c_ref11_Wide.code } := ⟨Tryd.f35, fun _ => false, Tryd.func35, by kernel_rfl, by kernel_rfl⟩
theorem ok_ref11_Signed : ∃ fn ow, Tryd.prog.funcs[36]? = some fn ∧ (fn.name == "runtime.NumGoroutine") = false ∧ cF Tryd.prog ow fn = some { c_ref11_Signed with code := eraseK c_ref11_Signed.code } := ⟨Tryd.f36, fun _ => false, Tryd.func36, by kernel_rfl, by kernel_rfl⟩
theorem ok_ref02_Fits : ∃ fn ow, Tryd.prog.funcs[37]? = some fn ∧ (fn.name == "runtime.NumGoroutine") = false ∧ cF Tryd.prog ow fn = some { c_ref02_Fits with code := eraseK c_ref02_Fits.code } := ⟨Tryd.f37, fun _ => false, Tryd.func37, by kernel_rfl, by kernel_rfl⟩
theorem ok_conv_zero : ∃ fn ow, Tryd.prog.funcs[38]? = some fn ∧ (fn.name == "runtime.NumGoroutine") = false ∧ cF Tryd.prog ow fn = some { c_conv_zero with code := eraseK c_conv_zero.code } := ⟨Tryd.f38, fun _ => false, Tryd.func38, by kernel_rfl, by kernel_rfl⟩
theorem ok_lex_Digits : ∃ fn ow, Tryd.prog.funcs[39]? = some fn ∧ (fn.name == "runtime.NumGoroutine") = false ∧ cF Tryd.prog ow fn = some { c_lex_Digits with code := eraseK c_lex_Digits.code } := ⟨Tryd.f39, fun _ => false, Tryd.func39, by kernel_rfl, by kernel_rfl⟩
theorem ok_ref10_Digits : ∃ fn ow, Tryd.prog.funcs[40]? = some fn ∧ (fn.name == "runtime.NumGoroutine") = false ∧ cF Tryd.prog ow fn = some { c_ref10_Digits with code := eraseK c_ref10_Digits.code } := ⟨Tryd.f40, fun _ => false, Tryd.func40, by kernel_rfl, by kernel_rfl⟩
theorem ok_ref10_pass : ∃ fn ow, Tryd.prog.funcs[41]? = some fn ∧ (fn.name == "runtime.NumGoroutine") = false ∧ cF Tryd.prog ow fn = some { c_ref10_pass with code := eraseK c_ref10_pass.code } := ⟨Tryd.f41, fun _ => false, Tryd.func41, by kernel_rfl, by kernel_rfl⟩
theorem ok_ref10_one : ∃ fn ow, Tryd.prog.funcs[42]? = some fn ∧ (fn.name == "runtime.NumGoroutine") = false ∧ cF Tryd.prog ow fn = some { c_ref10_one with code := eraseK c_ref10_one.code } := ⟨Tryd.f42, fun _ => false, Tryd.func42, by kernel_rfl, by kernel_rfl⟩
theorem ok_scalar_Whole : ∃ fn ow, Tryd.prog.funcs[52]? = some fn ∧ (fn.name == "runtime.NumGoroutine") = false ∧ cF Tryd.prog ow fn = some { c_scalar_Whole with code := eraseK c_scalar_Whole.code } := ⟨Tryd.f52, fun _ => false, Tryd.func52, by kernel_rfl, by kernel_rfl⟩
theorem ok_scalar_May : ∃ fn ow, Tryd.prog.funcs[53]? = some fn ∧ (fn.name == "runtime.NumGoroutine") = false ∧ cF Tryd.prog ow fn = some { c_scalar_May with code := eraseK c_scalar_May.code } := ⟨Tryd.f53, fun _ => false, Tryd.func53, by kernel_rfl, by kernel_rfl⟩
theorem ok_scalar_Signed : ∃ fn ow, Tryd.prog.funcs[54]? = some fn ∧ (fn.name == "runtime.NumGoroutine") = false ∧ cF Tryd.prog ow fn = some { c_scalar_Signed with code := eraseK c_scalar_Signed.code } := ⟨Tryd.f54, fun _ => false, Tryd.func54, by kernel_rfl, by kernel_rfl⟩
theorem ok_ref10_word : ∃ fn ow, Tryd.prog.funcs[56]? = some fn ∧ (fn.name == "runtime.NumGoroutine") = false ∧ cF Tryd.prog ow fn = some { c_ref10_word with code := eraseK c_ref10_word.code } := ⟨Tryd.f56, fun _ => false, Tryd.func56, by kernel_rfl, by kernel_rfl⟩
theorem ok_ref10_number : ∃ fn ow, Tryd.prog.funcs[57]? = some fn ∧ (fn.name == "runtime.NumGoroutine") = false ∧ cF Tryd.prog ow fn = some { c_ref10_number with code := eraseK c_ref10_number.code } := ⟨Tryd.f57, fun _ => false, Tryd.func57, by kernel_rfl, by kernel_rfl⟩
theorem ok_ref10_text : ∃ fn ow, Tryd.prog.funcs[58]? = some fn ∧ (fn.name == "runtime.NumGoroutine") = false ∧ cF Tryd.prog ow fn = some { c_ref10_text with code := eraseK c_ref10_text.code } := ⟨Tryd.f58, fun _ => false, Tryd.func58, by kernel_rfl, by kernel_rfl⟩
theorem ok_ref10_mark : ∃ fn ow, Tryd.prog.funcs[59]? = some fn ∧ (fn.name == "runtime.NumGoroutine") = false ∧ cF Tryd.prog ow fn = some { c_ref10_mark with code := eraseK c_ref10_mark.code } := ⟨Tryd.f59, fun _ => false, Tryd.func59, by kernel_rfl, by kernel_rfl⟩
theorem ok_scalar_kind : ∃ fn ow, Tryd.prog.funcs[62]? = some fn ∧ (fn.name == "runtime.NumGoroutine") = false ∧ cF Tryd.prog ow fn = some { c_scalar_kind with code := eraseK c_scalar_kind.code } := ⟨Tryd.f62, fun _ => false, Tryd.func62, by kernel_rfl, by kernel_rfl⟩
theorem ok_ref09_Letter : ∃ fn ow, Tryd.prog.funcs[64]? = some fn ∧ (fn.name == "runtime.NumGoroutine") = false ∧ cF Tryd.prog ow fn = some { c_ref09_Letter with code := eraseK c_ref09_Letter.code } := ⟨Tryd.f64, fun _ => false, Tryd.func64, by kernel_rfl, by kernel_rfl⟩
theorem ok_scalar_Wide : ∃ fn ow, Tryd.prog.funcs[67]? = some fn ∧ (fn.name == "runtime.NumGoroutine") = false ∧ cF Tryd.prog ow fn = some { c_scalar_Wide with code := eraseK c_scalar_Wide.code } := ⟨Tryd.f67, fun _ => false, Tryd.func67, by kernel_rfl, by kernel_rfl⟩
theorem ok_zig_Fits : ∃ fn ow, Tryd.prog.funcs[68]? = some fn ∧ (fn.name == "runtime.NumGoroutine") = false ∧ cF Tryd.prog ow fn = some { c_zig_Fits with code := eraseK c_zig_Fits.code } := ⟨Tryd.f68, fun _ => false, Tryd.func68, by kernel_rfl, by kernel_rfl⟩
theorem ok_ref10_digit : ∃ fn ow, Tryd.prog.funcs[70]? = some fn ∧ (fn.name == "runtime.NumGoroutine") = false ∧ cF Tryd.prog ow fn = some { c_ref10_digit with code := eraseK c_ref10_digit.code } := ⟨Tryd.f70, fun _ => false, Tryd.func70, by kernel_rfl, by kernel_rfl⟩
theorem defsOk : DefsOk Tryd.prog defs := by
  intro f cf h
  unfold defs at h
  obtain ⟨p, hp, rfl⟩ := Option.map_eq_some_iff.1 h
  have hf : p.1 = f := by simpa using List.find?_some hp
  have hm := List.mem_of_find?_eq_some hp
  subst hf
  clear h hp
  revert p
  unfold table
  simp only [List.forall_mem_cons]
  exact ⟨ok_law13_ConvTexts, ok_conv_Conv, ok_ref11_May, ok_law13_live, ok_conv_Read, ok_conv_Digits, ok_ref13_Digits, ok_ref11_Whole, ok_ref10_All, ok_conv_right, ok_conv_of, ok__conv_number__value, ok_ref13_split, ok_ref11_Wide, ok_ref11_Signed, ok_ref02_Fits, ok_conv_zero, ok_lex_Digits, ok_ref10_Digits, ok_ref10_pass, ok_ref10_one, ok_scalar_Whole, ok_scalar_May, ok_scalar_Signed, ok_ref10_word, ok_ref10_number, ok_ref10_text, ok_ref10_mark, ok_scalar_kind, ok_ref09_Letter, ok_scalar_Wide, ok_zig_Fits, ok_ref10_digit, fun _ h => by cases h⟩
theorem mixed : Tryd.prog.follows .mixedOrders = true := by kernel_rfl
end Go.Proofs.YticmmpiffekbiaaDoor.Ct
