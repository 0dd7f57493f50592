/- The small code is the program's. -/
import Derived.Test.YticmmpiffekbiaaIl0
import Derived.Test.YticmmpiffekbiaaRows
import Derived.Test.YticmmpiffekbiaaEng5
namespace Go.Proofs.Yticmmpiffekbiaa.Il
open Go Go.Proofs.Yticmmpiffekbiaa.Eng Go.RowKit
set_option linter.unusedVariables false
def table : List (FuncId × CF) := [(3, c_law09_IdentLists), (4, c_law09_IdentOrder), (5, c_law09_live), (6, c_ident_Rise), (7, c_ref09_Rise), (9, c_ref09_Once), (14, c_ident_word)]
def defs (f : FuncId) : Option CF := (table.find? fun p => p.1 == f).map fun p => p.2
theorem ok_law09_IdentLists : ∃ fn ow, Try.prog.funcs[3]? = some fn ∧ (fn.name == "runtime.NumGoroutine") = false ∧ cF Try.prog ow fn = some { c_law09_IdentLists with code := eraseK c_law09_IdentLists.code } := ⟨Try.f3, fun _ => false, Try.func3, by kernel_rfl, by kernel_rfl⟩
theorem ok_law09_IdentOrder : ∃ fn ow, Try.prog.funcs[4]? = some fn ∧ (fn.name == "runtime.NumGoroutine") = false ∧ cF Try.prog ow fn = some { c_law09_IdentOrder with code := eraseK c_law09_IdentOrder.code } := ⟨Try.f4, fun _ => false, Try.func4, by kernel_rfl, by kernel_rfl⟩
theorem ok_law09_live : ∃ fn ow, Try.prog.funcs[5]? = some fn ∧ (fn.name == "runtime.NumGoroutine") = false ∧ cF Try.prog ow fn = some { c_law09_live with code := eraseK c_law09_live.code } := ⟨Try.f5, fun _ => false, Try.func5, by kernel_rfl, by kernel_rfl⟩
theorem ok_ident_Rise : ∃ fn ow, Try.prog.funcs[6]? = some fn ∧ (fn.name == "runtime.NumGoroutine") = false ∧ cF Try.prog ow fn = some { c_ident_Rise with code := eraseK c_ident_Rise.code } := ⟨Try.f6, fun _ => false, Try.func6, by kernel_rfl, by kernel_rfl⟩
theorem ok_ref09_Rise : ∃ fn ow, Try.prog.funcs[7]? = some fn ∧ (fn.name == "runtime.NumGoroutine") = false ∧ cF Try.prog ow fn = some { c_ref09_Rise with code := eraseK c_ref09_Rise.code } := ⟨Try.f7, fun _ => false, Try.func7, by kernel_rfl, by kernel_rfl⟩
theorem ok_ref09_Once : ∃ fn ow, Try.prog.funcs[9]? = some fn ∧ (fn.name == "runtime.NumGoroutine") = false ∧ cF Try.prog ow fn = some { c_ref09_Once with code := eraseK c_ref09_Once.code } := ⟨Try.f9, fun _ => false, Try.func9, by kernel_rfl, by kernel_rfl⟩
theorem ok_ident_word : ∃ fn ow, Try.prog.funcs[14]? = some fn ∧ (fn.name == "runtime.NumGoroutine") = false ∧ cF Try.prog ow fn = some { c_ident_word with code := eraseK c_ident_word.code } := ⟨Try.f14, fun _ => false, Try.func14, by kernel_rfl, by kernel_rfl⟩
theorem defsOk : DefsOk Try.prog defs := by
  intro f cf h
  unfold defs at h
  obtain ⟨p, hp, rfl⟩ := Option.map_eq_some_iff.1 h
  have hf : p.1 = f := by simpa using List.find?_some hp
  have hm := List.mem_of_find?_eq_some hp
  subst hf
  clear h hp
  revert p
  unfold table
  simp only [List.forall_mem_cons]
  exact ⟨ok_law09_IdentLists, ok_law09_IdentOrder, ok_law09_live, ok_ident_Rise, ok_ref09_Rise, ok_ref09_Once, ok_ident_word, fun _ h => by cases h⟩
theorem mixed : Try.prog.follows .mixedOrders = true := by kernel_rfl
end Go.Proofs.Yticmmpiffekbiaa.Il
