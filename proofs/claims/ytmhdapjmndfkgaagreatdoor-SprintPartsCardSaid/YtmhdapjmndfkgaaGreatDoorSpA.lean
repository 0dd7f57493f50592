/- Schemas as lists; looking for something in a list. -/
import Derived.Test.YtmhdapjmndfkgaaGreatDoorSpT
import Derived.Test.YtmhdapjmndfkgaaGreatDoorJoin
import Derived.Test.YtmhdapjmndfkgaaGreatDoorSpW
namespace Go.Proofs.YtmhdapjmndfkgaaGreatDoor.Sp
open Go Go.Proofs.YtmhdapjmndfkgaaGreatDoor.Eng Go.Proofs.YtmhdapjmndfkgaaGreatDoor.Eng.V
set_option linter.unusedSimpArgs false
set_option linter.unusedVariables false
noncomputable abbrev dd : Eng.Call := D defs Prim.primsJ Prim.powG
abbrev i64 (n : Int) : AV := .v (.int .i64 n)
abbrev u64 (n : Int) : AV := .v (.int .u64 n)
abbrev bl (b : Bool) : AV := .v (.bool b)
abbrev st (s : ByteArray) : AV := .v (.string s)
open Sp.W (lt2 riseP sl xi_at wrap_succ wrap_nat)
/-- A loop over a list, place after place. -/
theorem loop_ind {α : Type} (xs : List α) {P : Nat → List α → Nat → Prop} (h0 : ∀ m, P xs.length [] (m + 1)) (h1 : ∀ (i : Nat) (x : α) (r : List α) (m : Nat), i < xs.length → xs[i]? = some x → r = xs.drop (i + 1) → P (i + 1) r m → P i (x :: r) (m + 1)) : ∀ i m, i ≤ xs.length → xs.length - i < m → P i (xs.drop i) m := by
  intro i m
  generalize hd : xs.length - i = d
  induction d generalizing i m with
  | zero =>
    intro hi hm
    obtain ⟨m, rfl⟩ : ∃ k, m = k + 1 := ⟨m - 1, by omega⟩
    have e : i = xs.length := by omega
    subst e
    rw [List.drop_of_length_le (Nat.le_refl _)]
    exact h0 m
  | succ d ih =>
    intro hi hm
    obtain ⟨m, rfl⟩ : ∃ k, m = k + 1 := ⟨m - 1, by omega⟩
    have hlt : i < xs.length := by omega
    rw [List.drop_eq_getElem_cons hlt]
    exact h1 i _ _ m hlt (List.getElem?_eq_getElem hlt) rfl (ih (i + 1) m (by omega) (by omega) (by omega))
theorem mem_at {α : Type} {xs : List α} {i : Nat} {x : α} (h : xs[i]? = some x) : x ∈ xs := List.mem_of_getElem? h
/-- The place of the first such one. -/
def fiF {α : Type} (p : α → Bool) : List α → Nat → Int
  | [], _ => -1
  | x :: l, i => bif p x then (i : Int) else fiF p l (i + 1)
theorem fi_any {α : Type} (p : α → Bool) : ∀ (l : List α) (i : Nat), decide (0 ≤ fiF p l i) = l.any p
  | [], _ => rfl
  | x :: l, i => by
    cases h : p x
    · simp only [fiF, h, List.any_cons, cond_false, Bool.false_or]
      exact fi_any p l (i + 1)
    · simp [fiF, h]
/-- A loop over a list from its start, with what it has done. -/
theorem loop_acc {α : Type} (xs : List α) {P : List α → List α → Nat → Prop} (h0 : ∀ m, P xs [] (m + 1)) (h1 : ∀ (dn : List α) (x : α) (r : List α) (m : Nat), xs = dn ++ x :: r → dn.length < xs.length → xs[dn.length]? = some x → P (dn ++ [x]) r m → P dn (x :: r) (m + 1)) : ∀ m, xs.length < m → P [] xs m := by
  have key : ∀ (r dn : List α) (m : Nat), xs = dn ++ r → r.length < m → P dn r m := by
    intro r
    induction r with
    | nil =>
      intro dn m he hm
      obtain ⟨m, rfl⟩ : ∃ k, m = k + 1 := ⟨m - 1, by omega⟩
      rw [List.append_nil] at he
      subst he
      exact h0 m
    | cons x r ih =>
      intro dn m he hm
      obtain ⟨m, rfl⟩ : ∃ k, m = k + 1 := ⟨m - 1, by omega⟩
      rw [List.length_cons] at hm
      refine h1 dn x r m he ?_ ?_ (ih (dn ++ [x]) m ?_ (by omega))
      · rw [he, List.length_append, List.length_cons]; omega
      · rw [he, List.getElem?_append_right (Nat.le_refl _), Nat.sub_self]; rfl
      · rw [he, List.append_assoc]; rfl
  intro m hm
  exact key xs [] m rfl hm
theorem lenOk_map {α : Type} {n : Nat} (e : α → List AV) (h : ∀ x, (e x).length = n) (l : List α) : lenOk n (l.map e) = true := by
  unfold lenOk
  rw [List.all_map, List.all_eq_true]
  intro x _
  simp [h x]
theorem lenOk_st (l : List ByteArray) : lenOk 1 (l.map fun w => [st w]) = true := lenOk_map (n := 1) (fun w => [st w]) (fun _ => rfl) l
theorem slc_lo1 {es : List (List AV)} (h : 1 ≤ es.length) : slcV es (some (.c (i64 1))) none = some es.tail := by
  simp [slcV, hiV, loV, bnd, show (1 : Int) ≤ es.length by omega]
structure Fld where
  Name : ByteArray
  Num : Int
  Ty : Int
  Ref : ByteArray
  Rep : Bool
  Loose : Bool
  One : ByteArray
abbrev Fld.cells (f : Fld) : List AV := [st f.Name, i64 f.Num, i64 f.Ty, st f.Ref, bl f.Rep, bl f.Loose, st f.One]
abbrev fl (f : Fld) : AV := .agg f.cells
abbrev noS : ByteArray := ⟨#[]⟩
structure Vl where
  Name : ByteArray
  Num : Int
abbrev eV (v : Vl) : List AV := [st v.Name, i64 v.Num]
structure En where
  Name : ByteArray
  Values : List Vl
abbrev eE (e : En) : List AV := [st e.Name, .fsl (e.Values.map eV)]
abbrev aE (e : En) : AV := .agg (eE e)
structure Ms where
  Name : ByteArray
  Fields : List Fld
  Barred : List Int
abbrev eI (n : Int) : List AV := [i64 n]
abbrev eS (s : ByteArray) : List AV := [st s]
abbrev eM (m : Ms) : List AV := [st m.Name, .fsl (m.Fields.map Fld.cells), .fsl (m.Barred.map eI)]
abbrev aM (m : Ms) : AV := .agg (eM m)
structure Sch where
  Enums : List En
  Messages : List Ms
abbrev sch (s : Sch) : AV := .agg [.fsl (s.Enums.map eE), .fsl (s.Messages.map eM)]
/-- Lengths that may be. -/
abbrev big : Nat := 1000
structure SchOk (s : Sch) : Prop where
  enums : s.Enums.length < 1000
  messages : s.Messages.length < 1000
  en : ∀ e ∈ s.Enums, e.Values.length < 1000
  mf : ∀ m ∈ s.Messages, m.Fields.length < 1000
  mb : ∀ m ∈ s.Messages, m.Barred.length < 1000
theorem R_if_E (es : List En) (hw : es.length < 4611686018427387904) (f : FuncId) (caps : List AV) (p : En → Bool) (hF : ∀ e ∈ es, dd f (aE e :: caps) = some (bl (p e))) (N : Nat) : ∀ i m, i ≤ es.length → es.length - i < m → R_slices_IndexFunc_Lapi_Enum_api_Enum__0 dd Prim.powG N m [] (.fsl (es.map eE)) (.fn f caps) (i64 es.length) (i64 i) = some (i64 (fiF p (es.drop i) i)) := by
  refine loop_ind es (P := fun i r m => R_slices_IndexFunc_Lapi_Enum_api_Enum__0 dd Prim.powG N m [] (.fsl (es.map eE)) (.fn f caps) (i64 es.length) (i64 i) = some (i64 (fiF p r i))) ?_ ?_
  · intro m
    rw [R_slices_IndexFunc_Lapi_Enum_api_Enum__0_s]
    simp [X, Y, Z, fiF]
  · intro i x r m hi hx hr ih
    rw [R_slices_IndexFunc_Lapi_Enum_api_Enum__0_s]
    have hc := hF x (mem_at hx)
    push_cast at ih
    cases hp : p x <;> simp [X, Y, Z, hi, xi_at hx, eE, hc, hp, wrap_succ (show i < 4611686018427387904 by omega), ih, fiF]
theorem d_if_E (es : List En) (hw : es.length < 4611686018427387904) (f : FuncId) (caps : List AV) (p : En → Bool) (hF : ∀ e ∈ es, dd f (aE e :: caps) = some (bl (p e))) : dd i_slices_IndexFunc_Lapi_Enum_api_Enum_ [.fsl (es.map eE), .fn f caps] = some (i64 (fiF p es 0)) := by
  refine D_runE (V := v_slices_IndexFunc_Lapi_Enum_api_Enum_) (es.length + 1) rfl rfl rfl ?_
  rw [s_slices_IndexFunc_Lapi_Enum_api_Enum_]
  have h := R_if_E es hw f caps p hF (es.length + 1) 0 (es.length + 1) (by omega) (by omega)
  simp only [X, Y, Z, List.length_map]
  exact h
theorem d_cf_E (es : List En) (hw : es.length < 4611686018427387904) (f : FuncId) (caps : List AV) (p : En → Bool) (hF : ∀ e ∈ es, dd f (aE e :: caps) = some (bl (p e))) : dd i_slices_ContainsFunc_Lapi_Enum_api_Enum_ [.fsl (es.map eE), .fn f caps] = some (bl (es.any p)) := by
  refine D_runE (V := v_slices_ContainsFunc_Lapi_Enum_api_Enum_) 1 rfl rfl rfl ?_
  rw [s_slices_ContainsFunc_Lapi_Enum_api_Enum_]
  simp [X, Y, Z, d_if_E es hw f caps p hF, fi_any]
theorem R_if_M (es : List Ms) (hw : es.length < 4611686018427387904) (f : FuncId) (caps : List AV) (p : Ms → Bool) (hF : ∀ e ∈ es, dd f (aM e :: caps) = some (bl (p e))) (N : Nat) : ∀ i m, i ≤ es.length → es.length - i < m → R_slices_IndexFunc_Lapi_Message_api_Message__0 dd Prim.powG N m [] (.fsl (es.map eM)) (.fn f caps) (i64 es.length) (i64 i) = some (i64 (fiF p (es.drop i) i)) := by
  refine loop_ind es (P := fun i r m => R_slices_IndexFunc_Lapi_Message_api_Message__0 dd Prim.powG N m [] (.fsl (es.map eM)) (.fn f caps) (i64 es.length) (i64 i) = some (i64 (fiF p r i))) ?_ ?_
  · intro m
    rw [R_slices_IndexFunc_Lapi_Message_api_Message__0_s]
    simp [X, Y, Z, fiF]
  · intro i x r m hi hx hr ih
    rw [R_slices_IndexFunc_Lapi_Message_api_Message__0_s]
    have hc := hF x (mem_at hx)
    push_cast at ih
    cases hp : p x <;> simp [X, Y, Z, hi, xi_at hx, eM, hc, hp, wrap_succ (show i < 4611686018427387904 by omega), ih, fiF]
theorem d_if_M (es : List Ms) (hw : es.length < 4611686018427387904) (f : FuncId) (caps : List AV) (p : Ms → Bool) (hF : ∀ e ∈ es, dd f (aM e :: caps) = some (bl (p e))) : dd i_slices_IndexFunc_Lapi_Message_api_Message_ [.fsl (es.map eM), .fn f caps] = some (i64 (fiF p es 0)) := by
  refine D_runE (V := v_slices_IndexFunc_Lapi_Message_api_Message_) (es.length + 1) rfl rfl rfl ?_
  rw [s_slices_IndexFunc_Lapi_Message_api_Message_]
  have h := R_if_M es hw f caps p hF (es.length + 1) 0 (es.length + 1) (by omega) (by omega)
  simp only [X, Y, Z, List.length_map]
  exact h
theorem d_cf_M (es : List Ms) (hw : es.length < 4611686018427387904) (f : FuncId) (caps : List AV) (p : Ms → Bool) (hF : ∀ e ∈ es, dd f (aM e :: caps) = some (bl (p e))) : dd i_slices_ContainsFunc_Lapi_Message_api_Message_ [.fsl (es.map eM), .fn f caps] = some (bl (es.any p)) := by
  refine D_runE (V := v_slices_ContainsFunc_Lapi_Message_api_Message_) 1 rfl rfl rfl ?_
  rw [s_slices_ContainsFunc_Lapi_Message_api_Message_]
  simp [X, Y, Z, d_if_M es hw f caps p hF, fi_any]
theorem R_if_F (es : List Fld) (hw : es.length < 4611686018427387904) (f : FuncId) (caps : List AV) (p : Fld → Bool) (hF : ∀ e ∈ es, dd f (fl e :: caps) = some (bl (p e))) (N : Nat) : ∀ i m, i ≤ es.length → es.length - i < m → R_slices_IndexFunc_Lapi_Field_api_Field__0 dd Prim.powG N m [] (.fsl (es.map Fld.cells)) (.fn f caps) (i64 es.length) (i64 i) = some (i64 (fiF p (es.drop i) i)) := by
  refine loop_ind es (P := fun i r m => R_slices_IndexFunc_Lapi_Field_api_Field__0 dd Prim.powG N m [] (.fsl (es.map Fld.cells)) (.fn f caps) (i64 es.length) (i64 i) = some (i64 (fiF p r i))) ?_ ?_
  · intro m
    rw [R_slices_IndexFunc_Lapi_Field_api_Field__0_s]
    simp [X, Y, Z, fiF]
  · intro i x r m hi hx hr ih
    rw [R_slices_IndexFunc_Lapi_Field_api_Field__0_s]
    have hc := hF x (mem_at hx)
    push_cast at ih
    cases hp : p x <;> simp [X, Y, Z, hi, xi_at hx, Fld.cells, hc, hp, wrap_succ (show i < 4611686018427387904 by omega), ih, fiF]
theorem d_if_F (es : List Fld) (hw : es.length < 4611686018427387904) (f : FuncId) (caps : List AV) (p : Fld → Bool) (hF : ∀ e ∈ es, dd f (fl e :: caps) = some (bl (p e))) : dd i_slices_IndexFunc_Lapi_Field_api_Field_ [.fsl (es.map Fld.cells), .fn f caps] = some (i64 (fiF p es 0)) := by
  refine D_runE (V := v_slices_IndexFunc_Lapi_Field_api_Field_) (es.length + 1) rfl rfl rfl ?_
  rw [s_slices_IndexFunc_Lapi_Field_api_Field_]
  have h := R_if_F es hw f caps p hF (es.length + 1) 0 (es.length + 1) (by omega) (by omega)
  simp only [X, Y, Z, List.length_map]
  exact h
theorem d_cf_F (es : List Fld) (hw : es.length < 4611686018427387904) (f : FuncId) (caps : List AV) (p : Fld → Bool) (hF : ∀ e ∈ es, dd f (fl e :: caps) = some (bl (p e))) : dd i_slices_ContainsFunc_Lapi_Field_api_Field_ [.fsl (es.map Fld.cells), .fn f caps] = some (bl (es.any p)) := by
  refine D_runE (V := v_slices_ContainsFunc_Lapi_Field_api_Field_) 1 rfl rfl rfl ?_
  rw [s_slices_ContainsFunc_Lapi_Field_api_Field_]
  simp [X, Y, Z, d_if_F es hw f caps p hF, fi_any]
theorem R_if_S (es : List ByteArray) (hw : es.length < 4611686018427387904) (f : FuncId) (caps : List AV) (p : ByteArray → Bool) (hF : ∀ e ∈ es, dd f (st e :: caps) = some (bl (p e))) (N : Nat) : ∀ i m, i ≤ es.length → es.length - i < m → R_slices_IndexFunc_Lstring_string__0 dd Prim.powG N m [] (.fsl (es.map eS)) (.fn f caps) (i64 es.length) (i64 i) = some (i64 (fiF p (es.drop i) i)) := by
  refine loop_ind es (P := fun i r m => R_slices_IndexFunc_Lstring_string__0 dd Prim.powG N m [] (.fsl (es.map eS)) (.fn f caps) (i64 es.length) (i64 i) = some (i64 (fiF p r i))) ?_ ?_
  · intro m
    rw [R_slices_IndexFunc_Lstring_string__0_s]
    simp [X, Y, Z, fiF]
  · intro i x r m hi hx hr ih
    rw [R_slices_IndexFunc_Lstring_string__0_s]
    have hc := hF x (mem_at hx)
    push_cast at ih
    cases hp : p x <;> simp [X, Y, Z, hi, xi_at hx, eS, hc, hp, wrap_succ (show i < 4611686018427387904 by omega), ih, fiF]
theorem d_if_S (es : List ByteArray) (hw : es.length < 4611686018427387904) (f : FuncId) (caps : List AV) (p : ByteArray → Bool) (hF : ∀ e ∈ es, dd f (st e :: caps) = some (bl (p e))) : dd i_slices_IndexFunc_Lstring_string_ [.fsl (es.map eS), .fn f caps] = some (i64 (fiF p es 0)) := by
  refine D_runE (V := v_slices_IndexFunc_Lstring_string_) (es.length + 1) rfl rfl rfl ?_
  rw [s_slices_IndexFunc_Lstring_string_]
  have h := R_if_S es hw f caps p hF (es.length + 1) 0 (es.length + 1) (by omega) (by omega)
  simp only [X, Y, Z, List.length_map]
  exact h
theorem d_cf_S (es : List ByteArray) (hw : es.length < 4611686018427387904) (f : FuncId) (caps : List AV) (p : ByteArray → Bool) (hF : ∀ e ∈ es, dd f (st e :: caps) = some (bl (p e))) : dd i_slices_ContainsFunc_Lstring_string_ [.fsl (es.map eS), .fn f caps] = some (bl (es.any p)) := by
  refine D_runE (V := v_slices_ContainsFunc_Lstring_string_) 1 rfl rfl rfl ?_
  rw [s_slices_ContainsFunc_Lstring_string_]
  simp [X, Y, Z, d_if_S es hw f caps p hF, fi_any]
theorem R_if_I (es : List Int) (hw : es.length < 4611686018427387904) (f : FuncId) (caps : List AV) (p : Int → Bool) (hF : ∀ e ∈ es, dd f (i64 e :: caps) = some (bl (p e))) (N : Nat) : ∀ i m, i ≤ es.length → es.length - i < m → R_slices_IndexFunc_Lint_int__0 dd Prim.powG N m [] (.fsl (es.map eI)) (.fn f caps) (i64 es.length) (i64 i) = some (i64 (fiF p (es.drop i) i)) := by
  refine loop_ind es (P := fun i r m => R_slices_IndexFunc_Lint_int__0 dd Prim.powG N m [] (.fsl (es.map eI)) (.fn f caps) (i64 es.length) (i64 i) = some (i64 (fiF p r i))) ?_ ?_
  · intro m
    rw [R_slices_IndexFunc_Lint_int__0_s]
    simp [X, Y, Z, fiF]
  · intro i x r m hi hx hr ih
    rw [R_slices_IndexFunc_Lint_int__0_s]
    have hc := hF x (mem_at hx)
    push_cast at ih
    cases hp : p x <;> simp [X, Y, Z, hi, xi_at hx, eI, hc, hp, wrap_succ (show i < 4611686018427387904 by omega), ih, fiF]
theorem d_if_I (es : List Int) (hw : es.length < 4611686018427387904) (f : FuncId) (caps : List AV) (p : Int → Bool) (hF : ∀ e ∈ es, dd f (i64 e :: caps) = some (bl (p e))) : dd i_slices_IndexFunc_Lint_int_ [.fsl (es.map eI), .fn f caps] = some (i64 (fiF p es 0)) := by
  refine D_runE (V := v_slices_IndexFunc_Lint_int_) (es.length + 1) rfl rfl rfl ?_
  rw [s_slices_IndexFunc_Lint_int_]
  have h := R_if_I es hw f caps p hF (es.length + 1) 0 (es.length + 1) (by omega) (by omega)
  simp only [X, Y, Z, List.length_map]
  exact h
theorem d_cf_I (es : List Int) (hw : es.length < 4611686018427387904) (f : FuncId) (caps : List AV) (p : Int → Bool) (hF : ∀ e ∈ es, dd f (i64 e :: caps) = some (bl (p e))) : dd i_slices_ContainsFunc_Lint_int_ [.fsl (es.map eI), .fn f caps] = some (bl (es.any p)) := by
  refine D_runE (V := v_slices_ContainsFunc_Lint_int_) 1 rfl rfl rfl ?_
  rw [s_slices_ContainsFunc_Lint_int_]
  simp [X, Y, Z, d_if_I es hw f caps p hF, fi_any]
theorem R_ix_S (es : List ByteArray) (hw : es.length < 4611686018427387904) (v : ByteArray) (N : Nat) : ∀ i m, i ≤ es.length → es.length - i < m → R_slices_Index_Lstring_string__0 dd Prim.powG N m [] (.fsl (es.map eS)) (st v) (i64 es.length) (i64 i) = some (i64 (fiF (fun e => decide (v = e)) (es.drop i) i)) := by
  refine loop_ind es (P := fun i r m => R_slices_Index_Lstring_string__0 dd Prim.powG N m [] (.fsl (es.map eS)) (st v) (i64 es.length) (i64 i) = some (i64 (fiF (fun e => decide (v = e)) r i))) ?_ ?_
  · intro m
    rw [R_slices_Index_Lstring_string__0_s]
    simp [X, Y, Z, fiF]
  · intro i x r m hi hx hr ih
    rw [R_slices_Index_Lstring_string__0_s]
    push_cast at ih
    cases hp : decide (v = x) <;> simp [X, Y, Z, hi, xi_at hx, eS, hp, wrap_succ (show i < 4611686018427387904 by omega), ih, fiF]
theorem d_ix_S (es : List ByteArray) (hw : es.length < 4611686018427387904) (v : ByteArray) : dd i_slices_Index_Lstring_string_ [.fsl (es.map eS), st v] = some (i64 (fiF (fun e => decide (v = e)) es 0)) := by
  refine D_runE (V := v_slices_Index_Lstring_string_) (es.length + 1) rfl rfl rfl ?_
  rw [s_slices_Index_Lstring_string_]
  have h := R_ix_S es hw v (es.length + 1) 0 (es.length + 1) (by omega) (by omega)
  simp only [X, Y, Z, List.length_map]
  exact h
theorem d_has_S (es : List ByteArray) (hw : es.length < 4611686018427387904) (v : ByteArray) : dd i_slices_Contains_Lstring_string_ [.fsl (es.map eS), st v] = some (bl (es.any fun e => decide (v = e))) := by
  refine D_runE (V := v_slices_Contains_Lstring_string_) 1 rfl rfl rfl ?_
  rw [s_slices_Contains_Lstring_string_]
  simp [X, Y, Z, d_ix_S es hw v, fi_any]
theorem R_ix_I (es : List Int) (hw : es.length < 4611686018427387904) (v : Int) (N : Nat) : ∀ i m, i ≤ es.length → es.length - i < m → R_slices_Index_Lint_int__0 dd Prim.powG N m [] (.fsl (es.map eI)) (i64 v) (i64 es.length) (i64 i) = some (i64 (fiF (fun e => decide (v = e)) (es.drop i) i)) := by
  refine loop_ind es (P := fun i r m => R_slices_Index_Lint_int__0 dd Prim.powG N m [] (.fsl (es.map eI)) (i64 v) (i64 es.length) (i64 i) = some (i64 (fiF (fun e => decide (v = e)) r i))) ?_ ?_
  · intro m
    rw [R_slices_Index_Lint_int__0_s]
    simp [X, Y, Z, fiF]
  · intro i x r m hi hx hr ih
    rw [R_slices_Index_Lint_int__0_s]
    push_cast at ih
    cases hp : decide (v = x) <;> simp [X, Y, Z, hi, xi_at hx, eI, hp, wrap_succ (show i < 4611686018427387904 by omega), ih, fiF]
theorem d_ix_I (es : List Int) (hw : es.length < 4611686018427387904) (v : Int) : dd i_slices_Index_Lint_int_ [.fsl (es.map eI), i64 v] = some (i64 (fiF (fun e => decide (v = e)) es 0)) := by
  refine D_runE (V := v_slices_Index_Lint_int_) (es.length + 1) rfl rfl rfl ?_
  rw [s_slices_Index_Lint_int_]
  have h := R_ix_I es hw v (es.length + 1) 0 (es.length + 1) (by omega) (by omega)
  simp only [X, Y, Z, List.length_map]
  exact h
theorem d_has_I (es : List Int) (hw : es.length < 4611686018427387904) (v : Int) : dd i_slices_Contains_Lint_int_ [.fsl (es.map eI), i64 v] = some (bl (es.any fun e => decide (v = e))) := by
  refine D_runE (V := v_slices_Contains_Lint_int_) 1 rfl rfl rfl ?_
  rw [s_slices_Contains_Lint_int_]
  simp [X, Y, Z, d_ix_I es hw v, fi_any]
end Go.Proofs.YtmhdapjmndfkgaaGreatDoor.Sp
