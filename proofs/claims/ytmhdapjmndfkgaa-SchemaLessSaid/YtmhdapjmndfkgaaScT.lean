/- The small code is the program's. -/
import Derived.Test.YtmhdapjmndfkgaaSc0
import Derived.Test.YtmhdapjmndfkgaaRows
import Derived.Test.YtmhdapjmndfkgaaEng6
namespace Go.Proofs.Ytmhdapjmndfkgaa.Sc
open Go Go.Proofs.Ytmhdapjmndfkgaa.Eng Go.RowKit
set_option linter.unusedVariables false
noncomputable def table : List (FuncId × CF) := [(3, c_law15_SchemaLess), (4, c_ref15_Small), (5, c_law15_num), (6, c_schema_Check), (7, c_law15_live), (8, c_ref15_Copy), (9, c_schema_many), (10, c_schema_none), (11, c_schema_misnamed), (12, c_schema_fields), (13, c_schema_twice), (14, c_schema_disordered), (15, c_schema_barred), (16, c_schema_lost), (17, c_schema_eachEnum), (18, c_schema_many_1), (19, c_schema_eachMessage), (20, c_schema_many_2), (21, c_schema_none_1), (22, c_schema_misnamed_1), (24, c_schema_misnamed_2), (25, c_slices_ContainsFunc_Lstring_string_), (26, c_schema_valueNames), (27, c_schema_misnamed_3), (28, c_field_Check), (29, c_schema_names), (31, c_slices_Concat_Lstring_string_), (32, c_schema_twice_1), (33, c_schema_twice_2), (34, c_schema_fieldNames), (35, c_slices_ContainsFunc_Lapi_Field_api_Field_), (36, c_schema_twice_2_1), (37, c_slices_Contains_Lstring_string_), (38, c_ident_Rise), (39, c_schema_disordered_1), (40, c_schema_valued), (41, c_schema_disordered_2), (42, c_schema_numbered), (43, c_schema_barred_1), (44, c_schema_barred_1_1), (45, c_slices_Contains_Lint_int_), (46, c_schema_lost_1), (47, c_schema_lost_1_1), (48, c_slices_ContainsFunc_Lapi_Enum_api_Enum_), (49, c_slices_ContainsFunc_Lapi_Message_api_Message_), (51, c_ident_word), (52, c_slices_IndexFunc_Lstring_string_), (53, c_field_named), (54, c_scalar_Number), (55, c_tag_Field), (59, c_slices_IndexFunc_Lapi_Field_api_Field_), (60, c_slices_Index_Lstring_string_), (61, c_schema_rises), (62, c_schema_numbered_1), (63, c_tag_Right), (64, c_slices_ContainsFunc_Lint_int_), (65, c_slices_Index_Lint_int_), (66, c_slices_IndexFunc_Lapi_Enum_api_Enum_), (67, c_slices_IndexFunc_Lapi_Message_api_Message_), (68, c_field_refers), (69, c_scalar_kind), (70, c_tag_number), (73, c_slices_IndexFunc_Lint_int_)]
noncomputable def defs (f : FuncId) : Option CF := (table.find? fun p => p.1 == f).map fun p => p.2
theorem defsOk : DefsOk Try.prog defs := by
  intro f cf h
  unfold defs at h
  obtain ⟨p, hp, rfl⟩ := Option.map_eq_some_iff.1 h
  have hf : p.1 = f := by simpa using List.find?_some hp
  have hm := List.mem_of_find?_eq_some hp
  subst hf
  clear h hp
  revert p
  unfold table
  simp only [List.forall_mem_cons]
  exact ⟨okK Try.func3 (by kernel_rfl) (by kernel_rfl),
    okK Try.func4 (by kernel_rfl) (by kernel_rfl),
    okK Try.func5 (by kernel_rfl) (by kernel_rfl),
    okK Try.func6 (by kernel_rfl) (by kernel_rfl),
    okK Try.func7 (by kernel_rfl) (by kernel_rfl),
    okK Try.func8 (by kernel_rfl) (by kernel_rfl),
    okK Try.func9 (by kernel_rfl) (by kernel_rfl),
    okK Try.func10 (by kernel_rfl) (by kernel_rfl),
    okK Try.func11 (by kernel_rfl) (by kernel_rfl),
    okK Try.func12 (by kernel_rfl) (by kernel_rfl),
    okK Try.func13 (by kernel_rfl) (by kernel_rfl),
    okK Try.func14 (by kernel_rfl) (by kernel_rfl),
    okK Try.func15 (by kernel_rfl) (by kernel_rfl),
    okK Try.func16 (by kernel_rfl) (by kernel_rfl),
    okK Try.func17 (by kernel_rfl) (by kernel_rfl),
    okK Try.func18 (by kernel_rfl) (by kernel_rfl),
    okK Try.func19 (by kernel_rfl) (by kernel_rfl),
    okK Try.func20 (by kernel_rfl) (by kernel_rfl),
    okK Try.func21 (by kernel_rfl) (by kernel_rfl),
    okK Try.func22 (by kernel_rfl) (by kernel_rfl),
    okK Try.func24 (by kernel_rfl) (by kernel_rfl),
    okK Try.func25 (by kernel_rfl) (by kernel_rfl),
    okK Try.func26 (by kernel_rfl) (by kernel_rfl),
    okK Try.func27 (by kernel_rfl) (by kernel_rfl),
    okK Try.func28 (by kernel_rfl) (by kernel_rfl),
    okK Try.func29 (by kernel_rfl) (by kernel_rfl),
    okK Try.func31 (by kernel_rfl) (by kernel_rfl),
    okK Try.func32 (by kernel_rfl) (by kernel_rfl),
    okK Try.func33 (by kernel_rfl) (by kernel_rfl),
    okK Try.func34 (by kernel_rfl) (by kernel_rfl),
    okK Try.func35 (by kernel_rfl) (by kernel_rfl),
    okK Try.func36 (by kernel_rfl) (by kernel_rfl),
    okK Try.func37 (by kernel_rfl) (by kernel_rfl),
    okK Try.func38 (by kernel_rfl) (by kernel_rfl),
    okK Try.func39 (by kernel_rfl) (by kernel_rfl),
    okK Try.func40 (by kernel_rfl) (by kernel_rfl),
    okK Try.func41 (by kernel_rfl) (by kernel_rfl),
    okK Try.func42 (by kernel_rfl) (by kernel_rfl),
    okK Try.func43 (by kernel_rfl) (by kernel_rfl),
    okK Try.func44 (by kernel_rfl) (by kernel_rfl),
    okK Try.func45 (by kernel_rfl) (by kernel_rfl),
    okK Try.func46 (by kernel_rfl) (by kernel_rfl),
    okK Try.func47 (by kernel_rfl) (by kernel_rfl),
    okK Try.func48 (by kernel_rfl) (by kernel_rfl),
    okK Try.func49 (by kernel_rfl) (by kernel_rfl),
    okK Try.func51 (by kernel_rfl) (by kernel_rfl),
    okK Try.func52 (by kernel_rfl) (by kernel_rfl),
    okK Try.func53 (by kernel_rfl) (by kernel_rfl),
    okK Try.func54 (by kernel_rfl) (by kernel_rfl),
    okK Try.func55 (by kernel_rfl) (by kernel_rfl),
    okK Try.func59 (by kernel_rfl) (by kernel_rfl),
    okK Try.func60 (by kernel_rfl) (by kernel_rfl),
    okK Try.func61 (by kernel_rfl) (by kernel_rfl),
    okK Try.func62 (by kernel_rfl) (by kernel_rfl),
    okK Try.func63 (by kernel_rfl) (by kernel_rfl),
    okK Try.func64 (by kernel_rfl) (by kernel_rfl),
    okK Try.func65 (by kernel_rfl) (by kernel_rfl),
    okK Try.func66 (by kernel_rfl) (by kernel_rfl),
    okK Try.func67 (by kernel_rfl) (by kernel_rfl),
    okK Try.func68 (by kernel_rfl) (by kernel_rfl),
    okK Try.func69 (by kernel_rfl) (by kernel_rfl),
    okK Try.func70 (by kernel_rfl) (by kernel_rfl),
    okK Try.func73 (by kernel_rfl) (by kernel_rfl),
    fun _ h => by cases h⟩
theorem mixed : Try.prog.follows .mixedOrders = true := by kernel_rfl
end Go.Proofs.Ytmhdapjmndfkgaa.Sc
