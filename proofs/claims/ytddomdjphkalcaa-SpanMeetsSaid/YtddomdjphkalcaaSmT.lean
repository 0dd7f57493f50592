/- The small code is the program's. -/
import Derived.Test.YtddomdjphkalcaaSm0
import Derived.Test.YtddomdjphkalcaaRows
import Derived.Test.YtddomdjphkalcaaEng5
namespace Go.Proofs.Ytddomdjphkalcaa.Sm
open Go Go.Proofs.Ytddomdjphkalcaa.Eng Go.RowKit
set_option linter.unusedVariables false
def table : List (FuncId × CF) := [(10, c_law32_SpanMeets), (28, c_span_Of), (30, c_span_In), (32, c_law32_live), (34, c_span_Meet), (35, c_span_Covers), (43, c_scalar_Whole), (46, c_scalar_Signed), (48, c_scalar_Wide), (49, c_scalar_May), (62, c_span_signed), (63, c_span_plain), (67, c_scalar_kind), (68, c_zig_Fits)]
def defs (f : FuncId) : Option CF := (table.find? fun p => p.1 == f).map fun p => p.2
theorem ok_law32_SpanMeets : ∃ fn ow, Try.prog.funcs[10]? = some fn ∧ (fn.name == "runtime.NumGoroutine") = false ∧ cF Try.prog ow fn = some { c_law32_SpanMeets with code := eraseK c_law32_SpanMeets.code } := ⟨Try.f10, fun _ => false, Try.func10, by kernel_rfl, by kernel_rfl⟩
theorem ok_span_Of : ∃ fn ow, Try.prog.funcs[28]? = some fn ∧ (fn.name == "runtime.NumGoroutine") = false ∧ cF Try.prog ow fn = some { c_span_Of with code := eraseK c_span_Of.code } := ⟨Try.f28, fun _ => false, Try.func28, by kernel_rfl, by kernel_rfl⟩
theorem ok_span_In : ∃ fn ow, Try.prog.funcs[30]? = some fn ∧ (fn.name == "runtime.NumGoroutine") = false ∧ cF Try.prog ow fn = some { c_span_In with code := eraseK c_span_In.code } := ⟨Try.f30, fun _ => false, Try.func30, by kernel_rfl, by kernel_rfl⟩
theorem ok_law32_live : ∃ fn ow, Try.prog.funcs[32]? = some fn ∧ (fn.name == "runtime.NumGoroutine") = false ∧ cF Try.prog ow fn = some { c_law32_live with code := eraseK c_law32_live.code } := ⟨Try.f32, fun _ => false, Try.func32, by kernel_rfl, by kernel_rfl⟩
theorem ok_span_Meet : ∃ fn ow, Try.prog.funcs[34]? = some fn ∧ (fn.name == "runtime.NumGoroutine") = false ∧ cF Try.prog ow fn = some { c_span_Meet with code := eraseK c_span_Meet.code } := ⟨Try.f34, fun _ => false, Try.func34, by kernel_rfl, by kernel_rfl⟩
theorem ok_span_Covers : ∃ fn ow, Try.prog.funcs[35]? = some fn ∧ (fn.name == "runtime.NumGoroutine") = false ∧ cF Try.prog ow fn = some { c_span_Covers with code := eraseK c_span_Covers.code } := ⟨Try.f35, fun _ => false, Try.func35, by kernel_rfl, by kernel_rfl⟩
theorem ok_scalar_Whole : ∃ fn ow, Try.prog.funcs[43]? = some fn ∧ (fn.name == "runtime.NumGoroutine") = false ∧ cF Try.prog ow fn = some { c_scalar_Whole with code := eraseK c_scalar_Whole.code } := ⟨Try.f43, fun _ => false, Try.func43, by kernel_rfl, by kernel_rfl⟩
theorem ok_scalar_Signed : ∃ fn ow, Try.prog.funcs[46]? = some fn ∧ (fn.name == "runtime.NumGoroutine") = false ∧ cF Try.prog ow fn = some { c_scalar_Signed with code := eraseK c_scalar_Signed.code } := ⟨Try.f46, fun _ => false, Try.func46, by kernel_rfl, by kernel_rfl⟩
theorem ok_scalar_Wide : ∃ fn ow, Try.prog.funcs[48]? = some fn ∧ (fn.name == "runtime.NumGoroutine") = false ∧ cF Try.prog ow fn = some { c_scalar_Wide with code := eraseK c_scalar_Wide.code } := ⟨Try.f48, fun _ => false, Try.func48, by kernel_rfl, by kernel_rfl⟩
theorem ok_scalar_May : ∃ fn ow, Try.prog.funcs[49]? = some fn ∧ (fn.name == "runtime.NumGoroutine") = false ∧ cF Try.prog ow fn = some { c_scalar_May with code := eraseK c_scalar_May.code } := ⟨Try.f49, fun _ => false, Try.func49, by kernel_rfl, by kernel_rfl⟩
theorem ok_span_signed : ∃ fn ow, Try.prog.funcs[62]? = some fn ∧ (fn.name == "runtime.NumGoroutine") = false ∧ cF Try.prog ow fn = some { c_span_signed with code := eraseK c_span_signed.code } := ⟨Try.f62, fun _ => false, Try.func62, by kernel_rfl, by kernel_rfl⟩
theorem ok_span_plain : ∃ fn ow, Try.prog.funcs[63]? = some fn ∧ (fn.name == "runtime.NumGoroutine") = false ∧ cF Try.prog ow fn = some { c_span_plain with code := eraseK c_span_plain.code } := ⟨Try.f63, fun _ => false, Try.func63, by kernel_rfl, by kernel_rfl⟩
theorem ok_scalar_kind : ∃ fn ow, Try.prog.funcs[67]? = some fn ∧ (fn.name == "runtime.NumGoroutine") = false ∧ cF Try.prog ow fn = some { c_scalar_kind with code := eraseK c_scalar_kind.code } := ⟨Try.f67, fun _ => false, Try.func67, by kernel_rfl, by kernel_rfl⟩
theorem ok_zig_Fits : ∃ fn ow, Try.prog.funcs[68]? = some fn ∧ (fn.name == "runtime.NumGoroutine") = false ∧ cF Try.prog ow fn = some { c_zig_Fits with code := eraseK c_zig_Fits.code } := ⟨Try.f68, fun _ => false, Try.func68, by kernel_rfl, by kernel_rfl⟩
theorem defsOk : DefsOk Try.prog defs := by
  intro f cf h
  unfold defs at h
  obtain ⟨p, hp, rfl⟩ := Option.map_eq_some_iff.1 h
  have hf : p.1 = f := by simpa using List.find?_some hp
  have hm := List.mem_of_find?_eq_some hp
  subst hf
  clear h hp
  revert p
  unfold table
  simp only [List.forall_mem_cons]
  exact ⟨ok_law32_SpanMeets, ok_span_Of, ok_span_In, ok_law32_live, ok_span_Meet, ok_span_Covers, ok_scalar_Whole, ok_scalar_Signed, ok_scalar_Wide, ok_scalar_May, ok_span_signed, ok_span_plain, ok_scalar_kind, ok_zig_Fits, fun _ h => by cases h⟩
theorem mixed : Try.prog.follows .mixedOrders = true := by kernel_rfl
end Go.Proofs.Ytddomdjphkalcaa.Sm
