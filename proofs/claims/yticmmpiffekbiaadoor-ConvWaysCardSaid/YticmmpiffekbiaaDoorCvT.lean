/- The small code is the program's. -/
import Derived.Test.YticmmpiffekbiaaDoorCv0
import Derived.Test.YticmmpiffekbiaaDoorRows
import Derived.Test.YticmmpiffekbiaaDoorEng5
namespace Go.Proofs.YticmmpiffekbiaaDoor.Cv
open Go Go.Proofs.YticmmpiffekbiaaDoor.Eng Go.RowKit
set_option linter.unusedVariables false
def table : List (FuncId × CF) := [(4, c_law13_ConvWays), (10, c_conv_Conv), (13, c_law13_live), (16, c_conv_Digits), (31, c_conv_right), (32, c_conv_of), (33, c__conv_number__value), (39, c_lex_Digits), (52, c_scalar_Whole), (53, c_scalar_May), (54, c_scalar_Signed), (62, c_scalar_kind), (67, c_scalar_Wide), (68, c_zig_Fits)]
def defs (f : FuncId) : Option CF := (table.find? fun p => p.1 == f).map fun p => p.2
theorem ok_law13_ConvWays : ∃ fn ow, Tryd.prog.funcs[4]? = some fn ∧ (fn.name == "runtime.NumGoroutine") = false ∧ cF Tryd.prog ow fn = some { c_law13_ConvWays with code := eraseK c_law13_ConvWays.code } := ⟨Tryd.f4, fun _ => false, Tryd.func4, by kernel_rfl, by kernel_rfl⟩
theorem ok_conv_Conv : ∃ fn ow, Tryd.prog.funcs[10]? = some fn ∧ (fn.name == "runtime.NumGoroutine") = false ∧ cF Tryd.prog ow fn = some { c_conv_Conv with code := eraseK c_conv_Conv.code } := ⟨Tryd.f10, fun _ => false, Tryd.func10, by kernel_rfl, by kernel_rfl⟩
theorem ok_law13_live : ∃ fn ow, Tryd.prog.funcs[13]? = some fn ∧ (fn.name == "runtime.NumGoroutine") = false ∧ cF Tryd.prog ow fn = some { c_law13_live with code := eraseK c_law13_live.code } := ⟨Tryd.f13, fun _ => false, Tryd.func13, by kernel_rfl, by kernel_rfl⟩
theorem ok_conv_Digits : ∃ fn ow, Tryd.prog.funcs[16]? = some fn ∧ (fn.name == "runtime.NumGoroutine") = false ∧ cF Tryd.prog ow fn = some { c_conv_Digits with code := eraseK c_conv_Digits.code } := ⟨Tryd.f16, fun _ => false, Tryd.func16, by kernel_rfl, by kernel_rfl⟩
theorem ok_conv_right : ∃ fn ow, Tryd.prog.funcs[31]? = some fn ∧ (fn.name == "runtime.NumGoroutine") = false ∧ cF Tryd.prog ow fn = some { c_conv_right with code := eraseK c_conv_right.code } := ⟨Tryd.f31, fun _ => false, Tryd.func31, by kernel_rfl, by kernel_rfl⟩
theorem ok_conv_of : ∃ fn ow, Tryd.prog.funcs[32]? = some fn ∧ (fn.name == "runtime.NumGoroutine") = false ∧ cF Tryd.prog ow fn = some { c_conv_of with code := eraseK c_conv_of.code } := ⟨Tryd.f32, fun _ => false, Tryd.func32, by kernel_rfl, by kernel_rfl⟩
theorem ok__conv_number__value : ∃ fn ow, Tryd.prog.funcs[33]? = some fn ∧ (fn.name == "runtime.NumGoroutine") = false ∧ cF Tryd.prog ow fn = some { c__conv_number__value with code := eraseK c__conv_number__value.code } := ⟨Tryd.f33, fun _ => false, Tryd.func33, by kernel_rfl, by kernel_rfl⟩
theorem ok_lex_Digits : ∃ fn ow, Tryd.prog.funcs[39]? = some fn ∧ (fn.name == "runtime.NumGoroutine") = false ∧ cF Tryd.prog ow fn = some { c_lex_Digits with code := eraseK c_lex_Digits.code } := ⟨Tryd.f39, fun _ => false, Tryd.func39, by kernel_rfl, by kernel_rfl⟩
theorem ok_scalar_Whole : ∃ fn ow, Tryd.prog.funcs[52]? = some fn ∧ (fn.name == "runtime.NumGoroutine") = false ∧ cF Tryd.prog ow fn = some { c_scalar_Whole with code := eraseK c_scalar_Whole.code } := ⟨Tryd.f52, fun _ => false, Tryd.func52, by kernel_rfl, by kernel_rfl⟩
theorem ok_scalar_May : ∃ fn ow, Tryd.prog.funcs[53]? = some fn ∧ (fn.name == "runtime.NumGoroutine") = false ∧ cF Tryd.prog ow fn = some { c_scalar_May with code := eraseK c_scalar_May.code } := ⟨Tryd.f53, fun _ => false, Tryd.func53, by kernel_rfl, by kernel_rfl⟩
theorem ok_scalar_Signed : ∃ fn ow, Tryd.prog.funcs[54]? = some fn ∧ (fn.name == "runtime.NumGoroutine") = false ∧ cF Tryd.prog ow fn = some { c_scalar_Signed with code := eraseK c_scalar_Signed.code } := ⟨Tryd.f54, fun _ => false, Tryd.func54, by kernel_rfl, by kernel_rfl⟩
theorem ok_scalar_kind : ∃ fn ow, Tryd.prog.funcs[62]? = some fn ∧ (fn.name == "runtime.NumGoroutine") = false ∧ cF Tryd.prog ow fn = some { c_scalar_kind with code := eraseK c_scalar_kind.code } := ⟨Tryd.f62, fun _ => false, Tryd.func62, by kernel_rfl, by kernel_rfl⟩
theorem ok_scalar_Wide : ∃ fn ow, Tryd.prog.funcs[67]? = some fn ∧ (fn.name == "runtime.NumGoroutine") = false ∧ cF Tryd.prog ow fn = some { c_scalar_Wide with code := eraseK c_scalar_Wide.code } := ⟨Tryd.f67, fun _ => false, Tryd.func67, by kernel_rfl, by kernel_rfl⟩
theorem ok_zig_Fits : ∃ fn ow, Tryd.prog.funcs[68]? = some fn ∧ (fn.name == "runtime.NumGoroutine") = false ∧ cF Tryd.prog ow fn = some { c_zig_Fits with code := eraseK c_zig_Fits.code } := ⟨Tryd.f68, fun _ => false, Tryd.func68, by kernel_rfl, by kernel_rfl⟩
theorem defsOk : DefsOk Tryd.prog defs := by
  intro f cf h
  unfold defs at h
  obtain ⟨p, hp, rfl⟩ := Option.map_eq_some_iff.1 h
  have hf : p.1 = f := by simpa using List.find?_some hp
  have hm := List.mem_of_find?_eq_some hp
  subst hf
  clear h hp
  revert p
  unfold table
  simp only [List.forall_mem_cons]
  exact ⟨ok_law13_ConvWays, ok_conv_Conv, ok_law13_live, ok_conv_Digits, ok_conv_right, ok_conv_of, ok__conv_number__value, ok_lex_Digits, ok_scalar_Whole, ok_scalar_May, ok_scalar_Signed, ok_scalar_kind, ok_scalar_Wide, ok_zig_Fits, fun _ h => by cases h⟩
theorem mixed : Tryd.prog.follows .mixedOrders = true := by kernel_rfl
end Go.Proofs.YticmmpiffekbiaaDoor.Cv
