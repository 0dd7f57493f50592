/- The small code of what the statement reaches, and what it comes to with names for slots. -/
import Derived.Test.YtmhdapjmndfkgaaGreatEng6
import Derived.WalkKit
import Derived.ProofKit
namespace Go.Proofs.YtmhdapjmndfkgaaGreat.Sk
open Go Go.Proofs.YtmhdapjmndfkgaaGreat.Eng
set_option linter.unusedVariables false
abbrev i_law15_SchemaChecks : FuncId := 3
abbrev i_law15_SchemaSame : FuncId := 4
abbrev i_ref15_Small : FuncId := 9
abbrev i_law15_live : FuncId := 10
abbrev i_law15_num : FuncId := 11
abbrev i_schema_Check : FuncId := 12
abbrev i_ref15_Check : FuncId := 13
abbrev i_ref15_Copy : FuncId := 14
abbrev i_schema_Copy : FuncId := 15
abbrev i_schema_Same : FuncId := 16
abbrev i_ref15_Same : FuncId := 17
abbrev i_schema_many : FuncId := 30
abbrev i_schema_none : FuncId := 31
abbrev i_schema_misnamed : FuncId := 32
abbrev i_schema_fields : FuncId := 33
abbrev i_schema_twice : FuncId := 34
abbrev i_schema_disordered : FuncId := 35
abbrev i_schema_barred : FuncId := 36
abbrev i_schema_lost : FuncId := 37
abbrev i_ref15_many : FuncId := 38
abbrev i_ref15_none : FuncId := 39
abbrev i_ref15_text : FuncId := 40
abbrev i_ref15_fields : FuncId := 41
abbrev i_ref15_twice : FuncId := 42
abbrev i_ref15_order : FuncId := 43
abbrev i_ref15_barred : FuncId := 44
abbrev i_ref15_refs : FuncId := 45
abbrev i_slices_Clone_Lapi_Enum_api_Enum_ : FuncId := 46
abbrev i_slices_Clone_Lapi_Message_api_Message_ : FuncId := 47
abbrev i_slices_Clone_Lapi_Value_api_Value_ : FuncId := 48
abbrev i_slices_Clone_Lapi_Field_api_Field_ : FuncId := 49
abbrev i_slices_Clone_Lint_int_ : FuncId := 50
abbrev i_slices_EqualFunc_Lapi_Enum_Lapi_Enum_api_Enum_api_Enum_ : FuncId := 51
abbrev i_schema_Same_1 : FuncId := 52
abbrev i_slices_Equal_Lapi_Value_api_Value_ : FuncId := 53
abbrev i_slices_EqualFunc_Lapi_Message_Lapi_Message_api_Message_api_Message_ : FuncId := 54
abbrev i_schema_Same_2 : FuncId := 55
abbrev i_slices_Equal_Lapi_Field_api_Field_ : FuncId := 56
abbrev i_slices_Equal_Lint_int_ : FuncId := 57
abbrev i_ref15_SameMessage : FuncId := 58
abbrev i_ref15_Message : FuncId := 62
abbrev i_ref01_Ints : FuncId := 75
abbrev i_slices_Concat_Lstring_string_ : FuncId := 76
abbrev i_ref15_Enum : FuncId := 79
abbrev i_schema_eachEnum : FuncId := 81
abbrev i_schema_many_1 : FuncId := 82
abbrev i_schema_eachMessage : FuncId := 83
abbrev i_schema_many_2 : FuncId := 84
abbrev i_schema_none_1 : FuncId := 85
abbrev i_schema_misnamed_1 : FuncId := 86
abbrev i_ident_Right : FuncId := 87
abbrev i_schema_misnamed_2 : FuncId := 88
abbrev i_slices_ContainsFunc_Lstring_string_ : FuncId := 89
abbrev i_schema_valueNames : FuncId := 90
abbrev i_schema_misnamed_3 : FuncId := 91
abbrev i_field_Check : FuncId := 92
abbrev i_schema_names : FuncId := 93
abbrev i_ident_Once : FuncId := 94
abbrev i_schema_twice_1 : FuncId := 95
abbrev i_schema_twice_2 : FuncId := 96
abbrev i_schema_fieldNames : FuncId := 97
abbrev i_slices_ContainsFunc_Lapi_Field_api_Field_ : FuncId := 98
abbrev i_schema_twice_2_1 : FuncId := 99
abbrev i_slices_Contains_Lstring_string_ : FuncId := 100
abbrev i_ident_Rise : FuncId := 101
abbrev i_schema_disordered_1 : FuncId := 102
abbrev i_schema_valued : FuncId := 103
abbrev i_schema_disordered_2 : FuncId := 104
abbrev i_schema_numbered : FuncId := 105
abbrev i_schema_barred_1 : FuncId := 106
abbrev i_schema_barred_1_1 : FuncId := 107
abbrev i_slices_Contains_Lint_int_ : FuncId := 108
abbrev i_schema_lost_1 : FuncId := 109
abbrev i_schema_lost_1_1 : FuncId := 110
abbrev i_ref09_Right : FuncId := 111
abbrev i_ref14_Check : FuncId := 112
abbrev i_ref09_Once : FuncId := 113
abbrev i_ref15_Rises : FuncId := 114
abbrev i_ref09_Rise : FuncId := 115
abbrev i_ref15_Nums : FuncId := 116
abbrev i_ref15_Has : FuncId := 117
abbrev i_slices_IndexFunc_Lapi_Message_api_Message_ : FuncId := 118
abbrev i_slices_Grow_Lstring_string_ : FuncId := 129
abbrev i_slices_ContainsFunc_Lapi_Enum_api_Enum_ : FuncId := 134
abbrev i_slices_ContainsFunc_Lapi_Message_api_Message_ : FuncId := 135
abbrev i_ident_word : FuncId := 137
abbrev i_slices_IndexFunc_Lstring_string_ : FuncId := 138
abbrev i_field_named : FuncId := 139
abbrev i_scalar_Number : FuncId := 140
abbrev i_tag_Field : FuncId := 141
abbrev i_slices_IndexFunc_Lapi_Field_api_Field_ : FuncId := 143
abbrev i_slices_Index_Lstring_string_ : FuncId := 144
abbrev i_schema_rises : FuncId := 145
abbrev i_schema_numbered_1 : FuncId := 146
abbrev i_tag_Right : FuncId := 147
abbrev i_slices_ContainsFunc_Lint_int_ : FuncId := 148
abbrev i_slices_Index_Lint_int_ : FuncId := 149
abbrev i_ref09_Letter : FuncId := 150
abbrev i_ref09_words : FuncId := 151
abbrev i_ref04_Field : FuncId := 152
abbrev i_ref11_Number : FuncId := 153
abbrev i_slices_IndexFunc_Lapi_Enum_api_Enum_ : FuncId := 164
abbrev i_field_refers : FuncId := 165
abbrev i_scalar_kind : FuncId := 166
abbrev i_tag_number : FuncId := 167
abbrev i_slices_IndexFunc_Lint_int_ : FuncId := 168
abbrev i_ref11_Whole : FuncId := 169
def c_law15_SchemaChecks : CF := ⟨1, 16,
  .seq (.reg [] [
  ⟨(some 1), none, .box 2 [2, 3] (.t 0)⟩,
  ⟨(some 2), none, .mv (.c (.v (.bool false)))⟩]) (
  .seq (.seq (.reg [] [
  ⟨(some 3), none, .ld true 2 (.t 1)⟩,
  ⟨(some 4), none, .call false i_ref15_Small [(.t 3)]⟩,
  ⟨(some 5), none, .not (.t 4)⟩]) (
  .cond (.t 5) (
  .seq (.reg [] [
  ⟨(some 6), none, .call false i_law15_live []⟩,
  ⟨(some 2), none, .mv (.t 6)⟩]) (
  .ret)) (
  .skip))) (
  .seq (.reg [
  ⟨(some 7), none, .ld true 2 (.t 1)⟩,
  ⟨(some 8), none, .call false i_schema_Check [(.t 7)]⟩,
  ⟨(some 9), none, .call false i_law15_num [(.t 8)]⟩,
  ⟨(some 10), none, .ld true 2 (.t 1)⟩] [
  ⟨(some 11), none, .call false i_ref15_Check [(.t 10)]⟩,
  ⟨(some 12), none, .bin .eql (.t 9) (.t 11)⟩,
  ⟨(some 13), none, .mv (.t 12)⟩,
  ⟨(some 14), (some (13, true)), .call false i_law15_live []⟩,
  ⟨(some 15), none, .pick (.t 13) (.t 14) (.c (.v (.bool false)))⟩,
  ⟨(some 2), none, .mv (.t 15)⟩]) (
  .ret))),
  [.t 2]⟩
def v_law15_SchemaChecks : List Nat := []
set_option maxRecDepth 100000 in
theorem s_law15_SchemaChecks (call : Eng.Call) (G : Nat → AV) (n : Nat) (x0 : AV) : denFE call G v_law15_SchemaChecks n c_law15_SchemaChecks [x0] =
 Xx call [] 1 (.box 2 [2, 3] (.c x0)) (fun x1 ox1 =>
 Xx call ox1 3 (.ld true 2 (.c x1)) (fun x2 ox2 =>
 Xx call ox2 4 (.call false i_ref15_Small [(.c x2)]) (fun x3 ox3 =>
 Xq (.not (.c x3)) (fun x4 =>
 Xc x4 (fun _ =>
 Xx call ox3 6 (.call false i_law15_live []) (fun x5 ox5 =>
 Xr ox5 [some x5]) ()) (fun _ =>
 Xp call ox3 7 (.ld true 2 (.c x1)) (fun x6 nx6 sx6 =>
 Xp call ox3 8 (.call false i_schema_Check [(.c x6)]) (fun x7 nx7 sx7 =>
 Xp call ox3 9 (.call false i_law15_num [(.c x7)]) (fun x8 nx8 sx8 =>
 Xp call ox3 10 (.ld true 2 (.c x1)) (fun x9 nx9 sx9 =>
 Xx call (finO ox3 (nx6 ++ nx7 ++ nx8 ++ nx9) (sx6 ++ sx7 ++ sx8 ++ sx9)) 11 (.call false i_ref15_Check [(.c x9)]) (fun x10 ox10 =>
 Xq (.bin .eql (.c x8) (.c x10)) (fun x11 =>
 Xxg call x11 true ox10 14 (.call false i_law15_live []) (fun x12 ox12 =>
 Xq (.pick (.c x11) (.c x12) (.c (.v (.bool false)))) (fun x13 =>
 Xr ox12 [some x13]) ()) ()) ()) ()) ()) ()) ()) ()) () ()) ()) ()) ()) () := by kernel_rfl
def k_law15_SchemaSame_0 : List Nat := [7, 5, 6, 2, 8, 3]
def c_law15_SchemaSame_b0 : CC := .seq (.seq (.reg [] [
  ⟨(some 51), none, .mv (.t 8)⟩,
  ⟨(some 52), none, .fad (.t 5) 1⟩,
  ⟨(some 53), none, .ld false 1 (.t 52)⟩,
  ⟨(some 54), none, .mv (.t 7)⟩,
  ⟨(some 55), none, .ias 3 (.t 53) (.t 54)⟩,
  ⟨(some 56), none, .fad (.t 55) 1⟩,
  ⟨(some 57), none, .ld false 1 (.t 56)⟩,
  ⟨(some 58), none, .len false (.t 57)⟩,
  ⟨(some 59), none, .bin .lss (.t 51) (.t 58)⟩]) (
  .cond (.t 59) (
  .skip) (
  .exit 2))) (
  .seq (.block 3 (
  .reg [] [
  ⟨(some 62), none, .fad (.t 5) 1⟩,
  ⟨(some 63), none, .ld false 1 (.t 62)⟩,
  ⟨(some 64), none, .mv (.t 7)⟩,
  ⟨(some 65), none, .ias 3 (.t 63) (.t 64)⟩,
  ⟨(some 66), none, .fad (.t 65) 1⟩,
  ⟨(some 67), none, .ld false 1 (.t 66)⟩,
  ⟨(some 68), none, .mv (.t 8)⟩,
  ⟨(some 69), none, .ias 7 (.t 67) (.t 68)⟩,
  ⟨(some 70), none, .fad (.t 69) 0⟩,
  ⟨none, none, .st 1 (.t 70) (.c (.v (.string ⟨#[99, 104, 97, 110, 103, 101, 100]⟩)))⟩])) (
  .reg [] [
  ⟨(some 60), none, .mv (.t 8)⟩,
  ⟨(some 61), none, .bin .add (.t 60) (.c (.v (.int .i64 1)))⟩,
  ⟨(some 8), none, .mv (.t 61)⟩]))
def k_law15_SchemaSame_1 : List Nat := [7, 5, 6, 2, 9, 3]
def c_law15_SchemaSame_b1 : CC := .seq (.seq (.reg [] [
  ⟨(some 71), none, .mv (.t 9)⟩,
  ⟨(some 72), none, .fad (.t 5) 1⟩,
  ⟨(some 73), none, .ld false 1 (.t 72)⟩,
  ⟨(some 74), none, .mv (.t 7)⟩,
  ⟨(some 75), none, .ias 3 (.t 73) (.t 74)⟩,
  ⟨(some 76), none, .fad (.t 75) 2⟩,
  ⟨(some 77), none, .ld false 1 (.t 76)⟩,
  ⟨(some 78), none, .len false (.t 77)⟩,
  ⟨(some 79), none, .bin .lss (.t 71) (.t 78)⟩]) (
  .cond (.t 79) (
  .skip) (
  .exit 4))) (
  .seq (.block 5 (
  .reg [] [
  ⟨(some 82), none, .fad (.t 5) 1⟩,
  ⟨(some 83), none, .ld false 1 (.t 82)⟩,
  ⟨(some 84), none, .mv (.t 7)⟩,
  ⟨(some 85), none, .ias 3 (.t 83) (.t 84)⟩,
  ⟨(some 86), none, .fad (.t 85) 2⟩,
  ⟨(some 87), none, .ld false 1 (.t 86)⟩,
  ⟨(some 88), none, .mv (.t 9)⟩,
  ⟨(some 89), none, .ias 1 (.t 87) (.t 88)⟩,
  ⟨none, none, .st 1 (.t 89) (.c (.v (.int .i64 (-5))))⟩])) (
  .reg [] [
  ⟨(some 80), none, .mv (.t 9)⟩,
  ⟨(some 81), none, .bin .add (.t 80) (.c (.v (.int .i64 1)))⟩,
  ⟨(some 9), none, .mv (.t 81)⟩]))
def c_law15_SchemaSame_s0 : CC := .reg [] [
  ⟨(some 90), none, .fad (.t 5) 1⟩,
  ⟨(some 91), none, .ld false 1 (.t 90)⟩,
  ⟨(some 92), none, .mv (.t 7)⟩,
  ⟨(some 93), none, .ias 3 (.t 91) (.t 92)⟩,
  ⟨(some 94), none, .fad (.t 93) 0⟩,
  ⟨none, none, .st 1 (.t 94) (.c (.v (.string ⟨#[99, 104, 97, 110, 103, 101, 100]⟩)))⟩]
def c_law15_SchemaSame_s1 : CC := .seq (.seq (.reg [] [
  ⟨(some 9), none, .mv (.c (.v (.int .i64 0)))⟩]) (
  .block 4 (
  .loop k_law15_SchemaSame_1 c_law15_SchemaSame_b1))) c_law15_SchemaSame_s0
def c_law15_SchemaSame_s2 : CC := .reg [] [
  ⟨(some 49), none, .mv (.t 7)⟩,
  ⟨(some 50), none, .bin .add (.t 49) (.c (.v (.int .i64 1)))⟩,
  ⟨(some 7), none, .mv (.t 50)⟩]
def k_law15_SchemaSame_2 : List Nat := [7, 5, 6, 2, 3]
def c_law15_SchemaSame_b2 : CC := .seq (.seq (.reg [] [
  ⟨(some 44), none, .mv (.t 7)⟩,
  ⟨(some 45), none, .fad (.t 5) 1⟩,
  ⟨(some 46), none, .ld false 1 (.t 45)⟩,
  ⟨(some 47), none, .len false (.t 46)⟩,
  ⟨(some 48), none, .bin .lss (.t 44) (.t 47)⟩]) (
  .cond (.t 48) (
  .skip) (
  .exit 0))) (
  .seq (.block 1 (
  .seq (.seq (.reg [] [
  ⟨(some 8), none, .mv (.c (.v (.int .i64 0)))⟩]) (
  .block 2 (
  .loop k_law15_SchemaSame_0 c_law15_SchemaSame_b0))) c_law15_SchemaSame_s1)) c_law15_SchemaSame_s2)
def k_law15_SchemaSame_3 : List Nat := [10, 5, 6, 2, 11, 3]
def c_law15_SchemaSame_b3 : CC := .seq (.seq (.reg [] [
  ⟨(some 102), none, .mv (.t 11)⟩,
  ⟨(some 103), none, .fad (.t 5) 0⟩,
  ⟨(some 104), none, .ld false 1 (.t 103)⟩,
  ⟨(some 105), none, .mv (.t 10)⟩,
  ⟨(some 106), none, .ias 2 (.t 104) (.t 105)⟩,
  ⟨(some 107), none, .fad (.t 106) 1⟩,
  ⟨(some 108), none, .ld false 1 (.t 107)⟩,
  ⟨(some 109), none, .len false (.t 108)⟩,
  ⟨(some 110), none, .bin .lss (.t 102) (.t 109)⟩]) (
  .cond (.t 110) (
  .skip) (
  .exit 8))) (
  .seq (.block 9 (
  .reg [] [
  ⟨(some 113), none, .fad (.t 5) 0⟩,
  ⟨(some 114), none, .ld false 1 (.t 113)⟩,
  ⟨(some 115), none, .mv (.t 10)⟩,
  ⟨(some 116), none, .ias 2 (.t 114) (.t 115)⟩,
  ⟨(some 117), none, .fad (.t 116) 1⟩,
  ⟨(some 118), none, .ld false 1 (.t 117)⟩,
  ⟨(some 119), none, .mv (.t 11)⟩,
  ⟨(some 120), none, .ias 2 (.t 118) (.t 119)⟩,
  ⟨(some 121), none, .fad (.t 120) 1⟩,
  ⟨none, none, .st 1 (.t 121) (.c (.v (.int .i64 (-5))))⟩])) (
  .reg [] [
  ⟨(some 111), none, .mv (.t 11)⟩,
  ⟨(some 112), none, .bin .add (.t 111) (.c (.v (.int .i64 1)))⟩,
  ⟨(some 11), none, .mv (.t 112)⟩]))
def c_law15_SchemaSame_s3 : CC := .reg [] [
  ⟨(some 122), none, .fad (.t 5) 0⟩,
  ⟨(some 123), none, .ld false 1 (.t 122)⟩,
  ⟨(some 124), none, .mv (.t 10)⟩,
  ⟨(some 125), none, .ias 2 (.t 123) (.t 124)⟩,
  ⟨(some 126), none, .fad (.t 125) 0⟩,
  ⟨none, none, .st 1 (.t 126) (.c (.v (.string ⟨#[99, 104, 97, 110, 103, 101, 100]⟩)))⟩]
def c_law15_SchemaSame_s4 : CC := .reg [] [
  ⟨(some 100), none, .mv (.t 10)⟩,
  ⟨(some 101), none, .bin .add (.t 100) (.c (.v (.int .i64 1)))⟩,
  ⟨(some 10), none, .mv (.t 101)⟩]
def k_law15_SchemaSame_4 : List Nat := [10, 5, 6, 2, 3]
def c_law15_SchemaSame_b4 : CC := .seq (.seq (.reg [] [
  ⟨(some 95), none, .mv (.t 10)⟩,
  ⟨(some 96), none, .fad (.t 5) 0⟩,
  ⟨(some 97), none, .ld false 1 (.t 96)⟩,
  ⟨(some 98), none, .len false (.t 97)⟩,
  ⟨(some 99), none, .bin .lss (.t 95) (.t 98)⟩]) (
  .cond (.t 99) (
  .skip) (
  .exit 6))) (
  .seq (.block 7 (
  .seq (.seq (.reg [] [
  ⟨(some 11), none, .mv (.c (.v (.int .i64 0)))⟩]) (
  .block 8 (
  .loop k_law15_SchemaSame_3 c_law15_SchemaSame_b3))) c_law15_SchemaSame_s3)) c_law15_SchemaSame_s4)
def c_law15_SchemaSame_s5 : CC := .seq (.reg [] [
  ⟨(some 127), none, .ld true 2 (.t 2)⟩,
  ⟨(some 128), none, .ld true 2 (.t 6)⟩,
  ⟨(some 129), none, .call false i_ref15_Same [(.t 127), (.t 128)]⟩,
  ⟨(some 130), none, .mv (.t 129)⟩,
  ⟨(some 131), (some (130, true)), .call false i_law15_live []⟩,
  ⟨(some 132), none, .pick (.t 130) (.t 131) (.c (.v (.bool false)))⟩,
  ⟨(some 4), none, .mv (.t 132)⟩]) (
  .ret)
def c_law15_SchemaSame_s6 : CC := .seq (.seq (.reg [] [
  ⟨(some 10), none, .mv (.c (.v (.int .i64 0)))⟩]) (
  .block 6 (
  .loop k_law15_SchemaSame_4 c_law15_SchemaSame_b4))) c_law15_SchemaSame_s5
def c_law15_SchemaSame : CF := ⟨2, 133,
  .seq (.reg [] [
  ⟨(some 2), none, .box 2 [2, 3] (.t 0)⟩,
  ⟨(some 3), none, .box 2 [2, 3] (.t 1)⟩,
  ⟨(some 4), none, .mv (.c (.v (.bool false)))⟩]) (
  .seq (.seq (.reg [] [
  ⟨(some 12), none, .ld true 2 (.t 2)⟩,
  ⟨(some 13), none, .call false i_ref15_Small [(.t 12)]⟩,
  ⟨(some 14), none, .not (.t 13)⟩,
  ⟨(some 15), none, .mv (.t 14)⟩,
  ⟨(some 16), (some (15, false)), .ld true 2 (.t 3)⟩,
  ⟨(some 17), (some (15, false)), .call false i_ref15_Small [(.t 16)]⟩,
  ⟨(some 18), (some (15, false)), .not (.t 17)⟩,
  ⟨(some 19), none, .pick (.t 15) (.c (.v (.bool true))) (.t 18)⟩]) (
  .cond (.t 19) (
  .seq (.reg [] [
  ⟨(some 20), none, .call false i_law15_live []⟩,
  ⟨(some 4), none, .mv (.t 20)⟩]) (
  .ret)) (
  .skip))) (
  .seq (.reg [] [
  ⟨(some 21), none, .ld true 2 (.t 2)⟩,
  ⟨(some 22), none, .call false i_ref15_Copy [(.t 21)]⟩,
  ⟨(some 5), none, .alloc [.nilsl, .nilsl] [2, 3]⟩,
  ⟨none, none, .st 2 (.t 5) (.t 22)⟩]) (
  .seq (.reg [] [
  ⟨(some 23), none, .ld true 2 (.t 5)⟩,
  ⟨(some 24), none, .call false i_schema_Copy [(.t 23)]⟩,
  ⟨(some 6), none, .alloc [.nilsl, .nilsl] [2, 3]⟩,
  ⟨none, none, .st 2 (.t 6) (.t 24)⟩]) (
  .seq (.seq (.reg [
  ⟨(some 25), none, .ld true 2 (.t 2)⟩,
  ⟨(some 26), none, .ld true 2 (.t 3)⟩,
  ⟨(some 27), none, .call false i_schema_Same [(.t 25), (.t 26)]⟩,
  ⟨(some 28), none, .ld true 2 (.t 2)⟩,
  ⟨(some 29), none, .ld true 2 (.t 3)⟩,
  ⟨(some 30), none, .call false i_ref15_Same [(.t 28), (.t 29)]⟩,
  ⟨(some 31), none, .eqb true (.t 27) (.t 30)⟩,
  ⟨(some 32), none, .mv (.t 31)⟩,
  ⟨(some 33), (some (32, false)), .ld true 2 (.t 2)⟩,
  ⟨(some 34), (some (32, false)), .ld true 2 (.t 6)⟩,
  ⟨(some 35), (some (32, false)), .call false i_schema_Same [(.t 33), (.t 34)]⟩,
  ⟨(some 36), (some (32, false)), .not (.t 35)⟩,
  ⟨(some 37), none, .pick (.t 32) (.c (.v (.bool true))) (.t 36)⟩,
  ⟨(some 38), none, .mv (.t 37)⟩,
  ⟨(some 39), (some (38, false)), .ld true 2 (.t 2)⟩,
  ⟨(some 40), (some (38, false)), .ld true 2 (.t 6)⟩] [
  ⟨(some 41), (some (38, false)), .call false i_ref15_Same [(.t 39), (.t 40)]⟩,
  ⟨(some 42), (some (38, false)), .not (.t 41)⟩,
  ⟨(some 43), none, .pick (.t 38) (.c (.v (.bool true))) (.t 42)⟩]) (
  .cond (.t 43) (
  .seq (.reg [] [
  ⟨(some 4), none, .mv (.c (.v (.bool false)))⟩]) (
  .ret)) (
  .skip))) (
  .seq (.seq (.reg [] [
  ⟨(some 7), none, .mv (.c (.v (.int .i64 0)))⟩]) (
  .block 0 (
  .loop k_law15_SchemaSame_2 c_law15_SchemaSame_b2))) c_law15_SchemaSame_s6))))),
  [.t 4]⟩
def v_law15_SchemaSame : List Nat := [5, 6]
def R_law15_SchemaSame_1 (call : Eng.Call) (G : Nat → AV) (n m1 m2 : Nat) (o : Objs) (y7 y5 y6 y2 y9 y3 : AV) : Out := roundsE k_law15_SchemaSame_1 (denE 133 call G v_law15_SchemaSame n c_law15_SchemaSame_b1) m1 [y7, y5, y6, y2, y9, y3] o (eBlock 4 (eSeq (denE 133 call G v_law15_SchemaSame n c_law15_SchemaSame_s0) (eBlock 1 (eSeq (denE 133 call G v_law15_SchemaSame n c_law15_SchemaSame_s2) (eLoop k_law15_SchemaSame_2 (denE 133 call G v_law15_SchemaSame n c_law15_SchemaSame_b2) m2 (eBlock 0 (eSeq (denE 133 call G v_law15_SchemaSame n c_law15_SchemaSame_s6) (eEnd [.t 4]))))))))
def R_law15_SchemaSame_0 (call : Eng.Call) (G : Nat → AV) (n m0 m2 : Nat) (o : Objs) (y7 y5 y6 y2 y8 y3 : AV) : Out := roundsE k_law15_SchemaSame_0 (denE 133 call G v_law15_SchemaSame n c_law15_SchemaSame_b0) m0 [y7, y5, y6, y2, y8, y3] o (eBlock 2 (eSeq (denE 133 call G v_law15_SchemaSame n c_law15_SchemaSame_s1) (eBlock 1 (eSeq (denE 133 call G v_law15_SchemaSame n c_law15_SchemaSame_s2) (eLoop k_law15_SchemaSame_2 (denE 133 call G v_law15_SchemaSame n c_law15_SchemaSame_b2) m2 (eBlock 0 (eSeq (denE 133 call G v_law15_SchemaSame n c_law15_SchemaSame_s6) (eEnd [.t 4]))))))))
def R_law15_SchemaSame_3 (call : Eng.Call) (G : Nat → AV) (n m3 m4 : Nat) (o : Objs) (y10 y5 y6 y2 y11 y3 : AV) : Out := roundsE k_law15_SchemaSame_3 (denE 133 call G v_law15_SchemaSame n c_law15_SchemaSame_b3) m3 [y10, y5, y6, y2, y11, y3] o (eBlock 8 (eSeq (denE 133 call G v_law15_SchemaSame n c_law15_SchemaSame_s3) (eBlock 7 (eSeq (denE 133 call G v_law15_SchemaSame n c_law15_SchemaSame_s4) (eLoop k_law15_SchemaSame_4 (denE 133 call G v_law15_SchemaSame n c_law15_SchemaSame_b4) m4 (eBlock 6 (eSeq (denE 133 call G v_law15_SchemaSame n c_law15_SchemaSame_s5) (eEnd [.t 4]))))))))
def R_law15_SchemaSame_4 (call : Eng.Call) (G : Nat → AV) (n m4 : Nat) (o : Objs) (y10 y5 y6 y2 y3 : AV) : Out := roundsE k_law15_SchemaSame_4 (denE 133 call G v_law15_SchemaSame n c_law15_SchemaSame_b4) m4 [y10, y5, y6, y2, y3] o (eBlock 6 (eSeq (denE 133 call G v_law15_SchemaSame n c_law15_SchemaSame_s5) (eEnd [.t 4])))
def R_law15_SchemaSame_2 (call : Eng.Call) (G : Nat → AV) (n m2 : Nat) (o : Objs) (y7 y5 y6 y2 y3 : AV) : Out := roundsE k_law15_SchemaSame_2 (denE 133 call G v_law15_SchemaSame n c_law15_SchemaSame_b2) m2 [y7, y5, y6, y2, y3] o (eBlock 0 (eSeq (denE 133 call G v_law15_SchemaSame n c_law15_SchemaSame_s6) (eEnd [.t 4])))
set_option maxRecDepth 100000 in
theorem R_law15_SchemaSame_1_s (call : Eng.Call) (G : Nat → AV) (n m1 m2 : Nat) (o : Objs) (y7 y5 y6 y2 y9 y3 : AV) : R_law15_SchemaSame_1 call G n (m1 + 1) m2 o y7 y5 y6 y2 y9 y3 =
 Xq (.fad (.c y5) 1) (fun x57 =>
 Xx call o 73 (.ld false 1 (.c x57)) (fun x58 ox58 =>
 Xq (.ias 3 (.c x58) (.c y7)) (fun x59 =>
 Xq (.fad (.c x59) 2) (fun x60 =>
 Xx call ox58 77 (.ld false 1 (.c x60)) (fun x61 ox61 =>
 Xq (.len false (.c x61)) (fun x62 =>
 Xq (.bin .lss (.c y9) (.c x62)) (fun x63 =>
 Xc x63 (fun _ =>
 Xq (.fad (.c y5) 1) (fun x64 =>
 Xx call ox61 83 (.ld false 1 (.c x64)) (fun x65 ox65 =>
 Xq (.ias 3 (.c x65) (.c y7)) (fun x66 =>
 Xq (.fad (.c x66) 2) (fun x67 =>
 Xx call ox65 87 (.ld false 1 (.c x67)) (fun x68 ox68 =>
 Xq (.ias 1 (.c x68) (.c y9)) (fun x69 =>
 Xs ox68 1 x69 (.v (.int .i64 (-5))) (fun px70 ox70 =>
 Xq (.bin .add (.c (px70 y9)) (.c (.v (.int .i64 1)))) (fun x71 =>
 R_law15_SchemaSame_1 call G n m1 m2 (maskO k_law15_SchemaSame_1 ox70) (msk k_law15_SchemaSame_1 (px70 y7)) (msk k_law15_SchemaSame_1 (px70 y5)) (msk k_law15_SchemaSame_1 (px70 y6)) (msk k_law15_SchemaSame_1 (px70 y2)) (msk k_law15_SchemaSame_1 x71) (msk k_law15_SchemaSame_1 (px70 y3))) ()) ()) ()) ()) ()) ()) ()) ()) (fun _ =>
 Xq (.fad (.c y5) 1) (fun x72 =>
 Xx call ox61 91 (.ld false 1 (.c x72)) (fun x73 ox73 =>
 Xq (.ias 3 (.c x73) (.c y7)) (fun x74 =>
 Xq (.fad (.c x74) 0) (fun x75 =>
 Xs ox73 1 x75 (.v (.string ⟨#[99, 104, 97, 110, 103, 101, 100]⟩)) (fun px76 ox76 =>
 Xq (.bin .add (.c (px76 y7)) (.c (.v (.int .i64 1)))) (fun x77 =>
 R_law15_SchemaSame_2 call G n m2 (maskO k_law15_SchemaSame_2 ox76) (msk k_law15_SchemaSame_2 x77) (msk k_law15_SchemaSame_2 (px76 y5)) (msk k_law15_SchemaSame_2 (px76 y6)) (msk k_law15_SchemaSame_2 (px76 y2)) (msk k_law15_SchemaSame_2 (px76 y3))) ()) ()) ()) ()) ()) ()) () ()) ()) ()) ()) ()) ()) ()) () := by kernel_rfl
set_option maxRecDepth 100000 in
theorem R_law15_SchemaSame_0_s (call : Eng.Call) (G : Nat → AV) (n m0 m2 : Nat) (o : Objs) (y7 y5 y6 y2 y8 y3 : AV) : R_law15_SchemaSame_0 call G n (m0 + 1) m2 o y7 y5 y6 y2 y8 y3 =
 Xq (.fad (.c y5) 1) (fun x41 =>
 Xx call o 53 (.ld false 1 (.c x41)) (fun x42 ox42 =>
 Xq (.ias 3 (.c x42) (.c y7)) (fun x43 =>
 Xq (.fad (.c x43) 1) (fun x44 =>
 Xx call ox42 57 (.ld false 1 (.c x44)) (fun x45 ox45 =>
 Xq (.len false (.c x45)) (fun x46 =>
 Xq (.bin .lss (.c y8) (.c x46)) (fun x47 =>
 Xc x47 (fun _ =>
 Xq (.fad (.c y5) 1) (fun x48 =>
 Xx call ox45 63 (.ld false 1 (.c x48)) (fun x49 ox49 =>
 Xq (.ias 3 (.c x49) (.c y7)) (fun x50 =>
 Xq (.fad (.c x50) 1) (fun x51 =>
 Xx call ox49 67 (.ld false 1 (.c x51)) (fun x52 ox52 =>
 Xq (.ias 7 (.c x52) (.c y8)) (fun x53 =>
 Xq (.fad (.c x53) 0) (fun x54 =>
 Xs ox52 1 x54 (.v (.string ⟨#[99, 104, 97, 110, 103, 101, 100]⟩)) (fun px55 ox55 =>
 Xq (.bin .add (.c (px55 y8)) (.c (.v (.int .i64 1)))) (fun x56 =>
 R_law15_SchemaSame_0 call G n m0 m2 (maskO k_law15_SchemaSame_0 ox55) (msk k_law15_SchemaSame_0 (px55 y7)) (msk k_law15_SchemaSame_0 (px55 y5)) (msk k_law15_SchemaSame_0 (px55 y6)) (msk k_law15_SchemaSame_0 (px55 y2)) (msk k_law15_SchemaSame_0 x56) (msk k_law15_SchemaSame_0 (px55 y3))) ()) ()) ()) ()) ()) ()) ()) ()) ()) (fun _ =>
 R_law15_SchemaSame_1 call G n n m2 (maskO k_law15_SchemaSame_1 ox45) (msk k_law15_SchemaSame_1 y7) (msk k_law15_SchemaSame_1 y5) (msk k_law15_SchemaSame_1 y6) (msk k_law15_SchemaSame_1 y2) (msk k_law15_SchemaSame_1 (.v (.int .i64 0))) (msk k_law15_SchemaSame_1 y3)) () ()) ()) ()) ()) ()) ()) ()) () := by kernel_rfl
set_option maxRecDepth 100000 in
theorem R_law15_SchemaSame_3_s (call : Eng.Call) (G : Nat → AV) (n m3 m4 : Nat) (o : Objs) (y10 y5 y6 y2 y11 y3 : AV) : R_law15_SchemaSame_3 call G n (m3 + 1) m4 o y10 y5 y6 y2 y11 y3 =
 Xq (.fad (.c y5) 0) (fun x82 =>
 Xx call o 104 (.ld false 1 (.c x82)) (fun x83 ox83 =>
 Xq (.ias 2 (.c x83) (.c y10)) (fun x84 =>
 Xq (.fad (.c x84) 1) (fun x85 =>
 Xx call ox83 108 (.ld false 1 (.c x85)) (fun x86 ox86 =>
 Xq (.len false (.c x86)) (fun x87 =>
 Xq (.bin .lss (.c y11) (.c x87)) (fun x88 =>
 Xc x88 (fun _ =>
 Xq (.fad (.c y5) 0) (fun x89 =>
 Xx call ox86 114 (.ld false 1 (.c x89)) (fun x90 ox90 =>
 Xq (.ias 2 (.c x90) (.c y10)) (fun x91 =>
 Xq (.fad (.c x91) 1) (fun x92 =>
 Xx call ox90 118 (.ld false 1 (.c x92)) (fun x93 ox93 =>
 Xq (.ias 2 (.c x93) (.c y11)) (fun x94 =>
 Xq (.fad (.c x94) 1) (fun x95 =>
 Xs ox93 1 x95 (.v (.int .i64 (-5))) (fun px96 ox96 =>
 Xq (.bin .add (.c (px96 y11)) (.c (.v (.int .i64 1)))) (fun x97 =>
 R_law15_SchemaSame_3 call G n m3 m4 (maskO k_law15_SchemaSame_3 ox96) (msk k_law15_SchemaSame_3 (px96 y10)) (msk k_law15_SchemaSame_3 (px96 y5)) (msk k_law15_SchemaSame_3 (px96 y6)) (msk k_law15_SchemaSame_3 (px96 y2)) (msk k_law15_SchemaSame_3 x97) (msk k_law15_SchemaSame_3 (px96 y3))) ()) ()) ()) ()) ()) ()) ()) ()) ()) (fun _ =>
 Xq (.fad (.c y5) 0) (fun x98 =>
 Xx call ox86 123 (.ld false 1 (.c x98)) (fun x99 ox99 =>
 Xq (.ias 2 (.c x99) (.c y10)) (fun x100 =>
 Xq (.fad (.c x100) 0) (fun x101 =>
 Xs ox99 1 x101 (.v (.string ⟨#[99, 104, 97, 110, 103, 101, 100]⟩)) (fun px102 ox102 =>
 Xq (.bin .add (.c (px102 y10)) (.c (.v (.int .i64 1)))) (fun x103 =>
 R_law15_SchemaSame_4 call G n m4 (maskO k_law15_SchemaSame_4 ox102) (msk k_law15_SchemaSame_4 x103) (msk k_law15_SchemaSame_4 (px102 y5)) (msk k_law15_SchemaSame_4 (px102 y6)) (msk k_law15_SchemaSame_4 (px102 y2)) (msk k_law15_SchemaSame_4 (px102 y3))) ()) ()) ()) ()) ()) ()) () ()) ()) ()) ()) ()) ()) ()) () := by kernel_rfl
set_option maxRecDepth 100000 in
theorem R_law15_SchemaSame_4_s (call : Eng.Call) (G : Nat → AV) (n m4 : Nat) (o : Objs) (y10 y5 y6 y2 y3 : AV) : R_law15_SchemaSame_4 call G n (m4 + 1) o y10 y5 y6 y2 y3 =
 Xq (.fad (.c y5) 0) (fun x78 =>
 Xx call o 97 (.ld false 1 (.c x78)) (fun x79 ox79 =>
 Xq (.len false (.c x79)) (fun x80 =>
 Xq (.bin .lss (.c y10) (.c x80)) (fun x81 =>
 Xc x81 (fun _ =>
 R_law15_SchemaSame_3 call G n n m4 (maskO k_law15_SchemaSame_3 ox79) (msk k_law15_SchemaSame_3 y10) (msk k_law15_SchemaSame_3 y5) (msk k_law15_SchemaSame_3 y6) (msk k_law15_SchemaSame_3 y2) (msk k_law15_SchemaSame_3 (.v (.int .i64 0))) (msk k_law15_SchemaSame_3 y3)) (fun _ =>
 Xx call ox79 127 (.ld true 2 (.c y2)) (fun x104 ox104 =>
 Xx call ox104 128 (.ld true 2 (.c y6)) (fun x105 ox105 =>
 Xx call ox105 129 (.call false i_ref15_Same [(.c x104), (.c x105)]) (fun x106 ox106 =>
 Xxg call x106 true ox106 131 (.call false i_law15_live []) (fun x107 ox107 =>
 Xq (.pick (.c x106) (.c x107) (.c (.v (.bool false)))) (fun x108 =>
 Xr ox107 [some x108]) ()) ()) ()) ()) ()) () ()) ()) ()) ()) () := by kernel_rfl
set_option maxRecDepth 100000 in
theorem R_law15_SchemaSame_2_s (call : Eng.Call) (G : Nat → AV) (n m2 : Nat) (o : Objs) (y7 y5 y6 y2 y3 : AV) : R_law15_SchemaSame_2 call G n (m2 + 1) o y7 y5 y6 y2 y3 =
 Xq (.fad (.c y5) 1) (fun x37 =>
 Xx call o 46 (.ld false 1 (.c x37)) (fun x38 ox38 =>
 Xq (.len false (.c x38)) (fun x39 =>
 Xq (.bin .lss (.c y7) (.c x39)) (fun x40 =>
 Xc x40 (fun _ =>
 R_law15_SchemaSame_0 call G n n m2 (maskO k_law15_SchemaSame_0 ox38) (msk k_law15_SchemaSame_0 y7) (msk k_law15_SchemaSame_0 y5) (msk k_law15_SchemaSame_0 y6) (msk k_law15_SchemaSame_0 y2) (msk k_law15_SchemaSame_0 (.v (.int .i64 0))) (msk k_law15_SchemaSame_0 y3)) (fun _ =>
 R_law15_SchemaSame_4 call G n n (maskO k_law15_SchemaSame_4 ox38) (msk k_law15_SchemaSame_4 (.v (.int .i64 0))) (msk k_law15_SchemaSame_4 y5) (msk k_law15_SchemaSame_4 y6) (msk k_law15_SchemaSame_4 y2) (msk k_law15_SchemaSame_4 y3)) () ()) ()) ()) ()) () := by kernel_rfl
set_option maxRecDepth 100000 in
theorem s_law15_SchemaSame (call : Eng.Call) (G : Nat → AV) (n : Nat) (x0 x1 : AV) : denFE call G v_law15_SchemaSame n c_law15_SchemaSame [x0, x1] =
 Xx call [] 2 (.box 2 [2, 3] (.c x0)) (fun x2 ox2 =>
 Xx call ox2 3 (.box 2 [2, 3] (.c x1)) (fun x3 ox3 =>
 Xx call ox3 12 (.ld true 2 (.c x2)) (fun x4 ox4 =>
 Xx call ox4 13 (.call false i_ref15_Small [(.c x4)]) (fun x5 ox5 =>
 Xq (.not (.c x5)) (fun x6 =>
 Xxg call x6 false ox5 16 (.ld true 2 (.c x3)) (fun x7 ox7 =>
 Xxg call x6 false ox7 17 (.call false i_ref15_Small [(.c x7)]) (fun x8 ox8 =>
 Xgq x6 false (.not (.c x8)) (fun x9 =>
 Xq (.pick (.c x6) (.c (.v (.bool true))) (.c x9)) (fun x10 =>
 Xc x10 (fun _ =>
 Xx call ox8 20 (.call false i_law15_live []) (fun x11 ox11 =>
 Xr ox11 [some x11]) ()) (fun _ =>
 Xx call ox8 21 (.ld true 2 (.c x2)) (fun x12 ox12 =>
 Xx call ox12 22 (.call false i_ref15_Copy [(.c x12)]) (fun x13 ox13 =>
 Xx call ox13 5 (.alloc [.nilsl, .nilsl] [2, 3]) (fun x14 ox14 =>
 Xv ox14 2 x14 x13 (fun ox15 =>
 Xx call ox15 23 (.ld true 2 (.c x14)) (fun x16 ox16 =>
 Xx call ox16 24 (.call false i_schema_Copy [(.c x16)]) (fun x17 ox17 =>
 Xx call ox17 6 (.alloc [.nilsl, .nilsl] [2, 3]) (fun x18 ox18 =>
 Xv ox18 2 x18 x17 (fun ox19 =>
 Xp call ox19 25 (.ld true 2 (.c x2)) (fun x20 nx20 sx20 =>
 Xp call ox19 26 (.ld true 2 (.c x3)) (fun x21 nx21 sx21 =>
 Xp call ox19 27 (.call false i_schema_Same [(.c x20), (.c x21)]) (fun x22 nx22 sx22 =>
 Xp call ox19 28 (.ld true 2 (.c x2)) (fun x23 nx23 sx23 =>
 Xp call ox19 29 (.ld true 2 (.c x3)) (fun x24 nx24 sx24 =>
 Xp call ox19 30 (.call false i_ref15_Same [(.c x23), (.c x24)]) (fun x25 nx25 sx25 =>
 Xq (.eqb true (.c x22) (.c x25)) (fun x26 =>
 Xpg call x26 false ox19 33 (.ld true 2 (.c x2)) (fun x27 nx27 sx27 =>
 Xpg call x26 false ox19 34 (.ld true 2 (.c x18)) (fun x28 nx28 sx28 =>
 Xpg call x26 false ox19 35 (.call false i_schema_Same [(.c x27), (.c x28)]) (fun x29 nx29 sx29 =>
 Xgq x26 false (.not (.c x29)) (fun x30 =>
 Xq (.pick (.c x26) (.c (.v (.bool true))) (.c x30)) (fun x31 =>
 Xpg call x31 false ox19 39 (.ld true 2 (.c x2)) (fun x32 nx32 sx32 =>
 Xpg call x31 false ox19 40 (.ld true 2 (.c x18)) (fun x33 nx33 sx33 =>
 Xxg call x31 false (finO ox19 (nx20 ++ nx21 ++ nx22 ++ nx23 ++ nx24 ++ nx25 ++ nx27 ++ nx28 ++ nx29 ++ nx32 ++ nx33) (sx20 ++ sx21 ++ sx22 ++ sx23 ++ sx24 ++ sx25 ++ sx27 ++ sx28 ++ sx29 ++ sx32 ++ sx33)) 41 (.call false i_ref15_Same [(.c x32), (.c x33)]) (fun x34 ox34 =>
 Xgq x31 false (.not (.c x34)) (fun x35 =>
 Xq (.pick (.c x31) (.c (.v (.bool true))) (.c x35)) (fun x36 =>
 Xc x36 (fun _ =>
 Xr ox34 [some (.v (.bool false))]) (fun _ =>
 R_law15_SchemaSame_2 call G n n (maskO k_law15_SchemaSame_2 ox34) (msk k_law15_SchemaSame_2 (.v (.int .i64 0))) (msk k_law15_SchemaSame_2 x14) (msk k_law15_SchemaSame_2 x18) (msk k_law15_SchemaSame_2 x2) (msk k_law15_SchemaSame_2 x3)) () ()) ()) ()) ()) ()) ()) ()) ()) ()) ()) ()) ()) ()) ()) ()) ()) ()) ()) ()) ()) ()) ()) ()) ()) ()) ()) () ()) ()) ()) ()) ()) ()) ()) ()) ()) () := by kernel_rfl
def k_ref15_Small_0 : List Nat := [1, 4, 3, 10]
def c_ref15_Small_b0 : CC := .seq (.seq (.reg [] [
  ⟨(some 18), none, .mv (.t 4)⟩,
  ⟨(some 19), none, .fad (.t 1) 0⟩,
  ⟨(some 20), none, .ld false 1 (.t 19)⟩,
  ⟨(some 21), none, .len false (.t 20)⟩,
  ⟨(some 22), none, .bin .lss (.t 18) (.t 21)⟩,
  ⟨(some 23), none, .mv (.t 22)⟩,
  ⟨(some 24), (some (23, true)), .mv (.t 3)⟩,
  ⟨(some 25), (some (23, true)), .bin .lss (.t 24) (.c (.v (.int .i64 200)))⟩,
  ⟨(some 26), none, .pick (.t 23) (.t 25) (.c (.v (.bool false)))⟩]) (
  .cond (.t 26) (
  .skip) (
  .exit 0))) (
  .seq (.block 1 (
  .reg [
  ⟨(some 29), none, .mv (.t 3)⟩,
  ⟨(some 30), none, .fad (.t 1) 0⟩,
  ⟨(some 31), none, .ld false 1 (.t 30)⟩,
  ⟨(some 32), none, .mv (.t 4)⟩,
  ⟨(some 33), none, .ias 2 (.t 31) (.t 32)⟩,
  ⟨(some 34), none, .fad (.t 33) 1⟩,
  ⟨(some 35), none, .ld false 1 (.t 34)⟩,
  ⟨(some 36), none, .len false (.t 35)⟩,
  ⟨(some 37), none, .bin .add (.t 29) (.t 36)⟩,
  ⟨(some 38), none, .fad (.t 1) 0⟩,
  ⟨(some 39), none, .ld false 1 (.t 38)⟩,
  ⟨(some 40), none, .mv (.t 4)⟩,
  ⟨(some 41), none, .ias 2 (.t 39) (.t 40)⟩,
  ⟨(some 42), none, .fad (.t 41) 0⟩,
  ⟨(some 43), none, .ld false 1 (.t 42)⟩,
  ⟨(some 44), none, .len true (.t 43)⟩,
  ⟨(some 45), none, .bin .quo (.t 44) (.c (.v (.int .i64 10)))⟩] [
  ⟨(some 46), none, .bin .add (.t 37) (.t 45)⟩,
  ⟨(some 3), none, .mv (.t 46)⟩])) (
  .reg [] [
  ⟨(some 27), none, .mv (.t 4)⟩,
  ⟨(some 28), none, .bin .add (.t 27) (.c (.v (.int .i64 1)))⟩,
  ⟨(some 4), none, .mv (.t 28)⟩]))
def k_ref15_Small_1 : List Nat := [1, 5, 3, 10]
def c_ref15_Small_b1 : CC := .seq (.seq (.reg [] [
  ⟨(some 47), none, .mv (.t 5)⟩,
  ⟨(some 48), none, .fad (.t 1) 1⟩,
  ⟨(some 49), none, .ld false 1 (.t 48)⟩,
  ⟨(some 50), none, .len false (.t 49)⟩,
  ⟨(some 51), none, .bin .lss (.t 47) (.t 50)⟩,
  ⟨(some 52), none, .mv (.t 51)⟩,
  ⟨(some 53), (some (52, true)), .mv (.t 3)⟩,
  ⟨(some 54), (some (52, true)), .bin .lss (.t 53) (.c (.v (.int .i64 200)))⟩,
  ⟨(some 55), none, .pick (.t 52) (.t 54) (.c (.v (.bool false)))⟩]) (
  .cond (.t 55) (
  .skip) (
  .exit 2))) (
  .seq (.block 3 (
  .reg [
  ⟨(some 58), none, .mv (.t 3)⟩,
  ⟨(some 59), none, .fad (.t 1) 1⟩,
  ⟨(some 60), none, .ld false 1 (.t 59)⟩,
  ⟨(some 61), none, .mv (.t 5)⟩,
  ⟨(some 62), none, .ias 3 (.t 60) (.t 61)⟩,
  ⟨(some 63), none, .fad (.t 62) 1⟩,
  ⟨(some 64), none, .ld false 1 (.t 63)⟩,
  ⟨(some 65), none, .len false (.t 64)⟩,
  ⟨(some 66), none, .bin .add (.t 58) (.t 65)⟩,
  ⟨(some 67), none, .fad (.t 1) 1⟩,
  ⟨(some 68), none, .ld false 1 (.t 67)⟩,
  ⟨(some 69), none, .mv (.t 5)⟩,
  ⟨(some 70), none, .ias 3 (.t 68) (.t 69)⟩,
  ⟨(some 71), none, .fad (.t 70) 2⟩,
  ⟨(some 72), none, .ld false 1 (.t 71)⟩,
  ⟨(some 73), none, .len false (.t 72)⟩,
  ⟨(some 74), none, .bin .add (.t 66) (.t 73)⟩,
  ⟨(some 75), none, .fad (.t 1) 1⟩,
  ⟨(some 76), none, .ld false 1 (.t 75)⟩,
  ⟨(some 77), none, .mv (.t 5)⟩,
  ⟨(some 78), none, .ias 3 (.t 76) (.t 77)⟩,
  ⟨(some 79), none, .fad (.t 78) 0⟩,
  ⟨(some 80), none, .ld false 1 (.t 79)⟩,
  ⟨(some 81), none, .len true (.t 80)⟩,
  ⟨(some 82), none, .bin .quo (.t 81) (.c (.v (.int .i64 10)))⟩] [
  ⟨(some 83), none, .bin .add (.t 74) (.t 82)⟩,
  ⟨(some 3), none, .mv (.t 83)⟩])) (
  .reg [] [
  ⟨(some 56), none, .mv (.t 5)⟩,
  ⟨(some 57), none, .bin .add (.t 56) (.c (.v (.int .i64 1)))⟩,
  ⟨(some 5), none, .mv (.t 57)⟩]))
def k_ref15_Small_2 : List Nat := [6, 1, 7, 10]
def c_ref15_Small_b2 : CC := .seq (.seq (.reg [] [
  ⟨(some 93), none, .mv (.t 7)⟩,
  ⟨(some 94), none, .fad (.t 1) 0⟩,
  ⟨(some 95), none, .ld false 1 (.t 94)⟩,
  ⟨(some 96), none, .mv (.t 6)⟩,
  ⟨(some 97), none, .ias 2 (.t 95) (.t 96)⟩,
  ⟨(some 98), none, .fad (.t 97) 1⟩,
  ⟨(some 99), none, .ld false 1 (.t 98)⟩,
  ⟨(some 100), none, .len false (.t 99)⟩,
  ⟨(some 101), none, .bin .lss (.t 93) (.t 100)⟩]) (
  .cond (.t 101) (
  .skip) (
  .exit 6))) (
  .seq (.block 7 (
  .seq (.reg [] [
  ⟨(some 104), none, .fad (.t 1) 0⟩,
  ⟨(some 105), none, .ld false 1 (.t 104)⟩,
  ⟨(some 106), none, .mv (.t 6)⟩,
  ⟨(some 107), none, .ias 2 (.t 105) (.t 106)⟩,
  ⟨(some 108), none, .fad (.t 107) 1⟩,
  ⟨(some 109), none, .ld false 1 (.t 108)⟩,
  ⟨(some 110), none, .mv (.t 7)⟩,
  ⟨(some 111), none, .ias 2 (.t 109) (.t 110)⟩,
  ⟨(some 112), none, .fad (.t 111) 0⟩,
  ⟨(some 113), none, .ld false 1 (.t 112)⟩,
  ⟨(some 114), none, .len true (.t 113)⟩,
  ⟨(some 115), none, .bin .gtr (.t 114) (.c (.v (.int .i64 1000)))⟩]) (
  .cond (.t 115) (
  .seq (.reg [] [
  ⟨(some 2), none, .mv (.c (.v (.bool false)))⟩]) (
  .ret)) (
  .skip)))) (
  .reg [] [
  ⟨(some 102), none, .mv (.t 7)⟩,
  ⟨(some 103), none, .bin .add (.t 102) (.c (.v (.int .i64 1)))⟩,
  ⟨(some 7), none, .mv (.t 103)⟩]))
def c_ref15_Small_s0 : CC := .reg [] [
  ⟨(some 91), none, .mv (.t 6)⟩,
  ⟨(some 92), none, .bin .add (.t 91) (.c (.v (.int .i64 1)))⟩,
  ⟨(some 6), none, .mv (.t 92)⟩]
def k_ref15_Small_3 : List Nat := [6, 1, 10]
def c_ref15_Small_b3 : CC := .seq (.seq (.reg [] [
  ⟨(some 86), none, .mv (.t 6)⟩,
  ⟨(some 87), none, .fad (.t 1) 0⟩,
  ⟨(some 88), none, .ld false 1 (.t 87)⟩,
  ⟨(some 89), none, .len false (.t 88)⟩,
  ⟨(some 90), none, .bin .lss (.t 86) (.t 89)⟩]) (
  .cond (.t 90) (
  .skip) (
  .exit 4))) (
  .seq (.block 5 (
  .seq (.reg [] [
  ⟨(some 7), none, .mv (.c (.v (.int .i64 0)))⟩]) (
  .block 6 (
  .loop k_ref15_Small_2 c_ref15_Small_b2)))) c_ref15_Small_s0)
def k_ref15_Small_4 : List Nat := [8, 1, 9]
def c_ref15_Small_b4 : CC := .seq (.seq (.reg [] [
  ⟨(some 123), none, .mv (.t 9)⟩,
  ⟨(some 124), none, .fad (.t 1) 1⟩,
  ⟨(some 125), none, .ld false 1 (.t 124)⟩,
  ⟨(some 126), none, .mv (.t 8)⟩,
  ⟨(some 127), none, .ias 3 (.t 125) (.t 126)⟩,
  ⟨(some 128), none, .fad (.t 127) 1⟩,
  ⟨(some 129), none, .ld false 1 (.t 128)⟩,
  ⟨(some 130), none, .len false (.t 129)⟩,
  ⟨(some 131), none, .bin .lss (.t 123) (.t 130)⟩]) (
  .cond (.t 131) (
  .skip) (
  .exit 10))) (
  .seq (.block 11 (
  .seq (.reg [] [
  ⟨(some 134), none, .fad (.t 1) 1⟩,
  ⟨(some 135), none, .ld false 1 (.t 134)⟩,
  ⟨(some 136), none, .mv (.t 8)⟩,
  ⟨(some 137), none, .ias 3 (.t 135) (.t 136)⟩,
  ⟨(some 138), none, .fad (.t 137) 1⟩,
  ⟨(some 139), none, .ld false 1 (.t 138)⟩,
  ⟨(some 140), none, .mv (.t 9)⟩,
  ⟨(some 141), none, .ias 7 (.t 139) (.t 140)⟩,
  ⟨(some 142), none, .ld true 7 (.t 141)⟩,
  ⟨(some 10), none, .alloc [(.v (.string ⟨#[]⟩)), (.v (.int .i64 0)), (.v (.int .i64 0)), (.v (.string ⟨#[]⟩)), (.v (.bool false)), (.v (.bool false)), (.v (.string ⟨#[]⟩))] [0, 0, 0, 0, 0, 0, 0]⟩,
  ⟨none, none, .st 7 (.t 10) (.t 142)⟩]) (
  .seq (.reg [] [
  ⟨(some 143), none, .fad (.t 10) 0⟩,
  ⟨(some 144), none, .ld false 1 (.t 143)⟩,
  ⟨(some 145), none, .len true (.t 144)⟩,
  ⟨(some 146), none, .bin .gtr (.t 145) (.c (.v (.int .i64 1000)))⟩,
  ⟨(some 147), none, .mv (.t 146)⟩,
  ⟨(some 148), (some (147, false)), .fad (.t 10) 3⟩,
  ⟨(some 149), (some (147, false)), .ld false 1 (.t 148)⟩,
  ⟨(some 150), (some (147, false)), .len true (.t 149)⟩,
  ⟨(some 151), (some (147, false)), .bin .gtr (.t 150) (.c (.v (.int .i64 1000)))⟩,
  ⟨(some 152), none, .pick (.t 147) (.c (.v (.bool true))) (.t 151)⟩,
  ⟨(some 153), none, .mv (.t 152)⟩,
  ⟨(some 154), (some (153, false)), .fad (.t 10) 6⟩,
  ⟨(some 155), (some (153, false)), .ld false 1 (.t 154)⟩,
  ⟨(some 156), (some (153, false)), .len true (.t 155)⟩,
  ⟨(some 157), (some (153, false)), .bin .gtr (.t 156) (.c (.v (.int .i64 1000)))⟩,
  ⟨(some 158), none, .pick (.t 153) (.c (.v (.bool true))) (.t 157)⟩]) (
  .cond (.t 158) (
  .seq (.reg [] [
  ⟨(some 2), none, .mv (.c (.v (.bool false)))⟩]) (
  .ret)) (
  .skip))))) (
  .reg [] [
  ⟨(some 132), none, .mv (.t 9)⟩,
  ⟨(some 133), none, .bin .add (.t 132) (.c (.v (.int .i64 1)))⟩,
  ⟨(some 9), none, .mv (.t 133)⟩]))
def c_ref15_Small_s1 : CC := .reg [] [
  ⟨(some 121), none, .mv (.t 8)⟩,
  ⟨(some 122), none, .bin .add (.t 121) (.c (.v (.int .i64 1)))⟩,
  ⟨(some 8), none, .mv (.t 122)⟩]
def k_ref15_Small_5 : List Nat := [8, 1]
def c_ref15_Small_b5 : CC := .seq (.seq (.reg [] [
  ⟨(some 116), none, .mv (.t 8)⟩,
  ⟨(some 117), none, .fad (.t 1) 1⟩,
  ⟨(some 118), none, .ld false 1 (.t 117)⟩,
  ⟨(some 119), none, .len false (.t 118)⟩,
  ⟨(some 120), none, .bin .lss (.t 116) (.t 119)⟩]) (
  .cond (.t 120) (
  .skip) (
  .exit 8))) (
  .seq (.block 9 (
  .seq (.reg [] [
  ⟨(some 9), none, .mv (.c (.v (.int .i64 0)))⟩]) (
  .block 10 (
  .loop k_ref15_Small_4 c_ref15_Small_b4)))) c_ref15_Small_s1)
def c_ref15_Small_s2 : CC := .seq (.reg [] [
  ⟨(some 2), none, .mv (.c (.v (.bool true)))⟩]) (
  .ret)
def c_ref15_Small_s3 : CC := .seq (.seq (.reg [] [
  ⟨(some 8), none, .mv (.c (.v (.int .i64 0)))⟩]) (
  .block 8 (
  .loop k_ref15_Small_5 c_ref15_Small_b5))) c_ref15_Small_s2
def c_ref15_Small_s4 : CC := .seq (.seq (.reg [] [
  ⟨(some 84), none, .mv (.t 3)⟩,
  ⟨(some 85), none, .bin .geq (.t 84) (.c (.v (.int .i64 200)))⟩]) (
  .cond (.t 85) (
  .seq (.reg [] [
  ⟨(some 2), none, .mv (.c (.v (.bool false)))⟩]) (
  .ret)) (
  .skip))) (
  .seq (.seq (.reg [] [
  ⟨(some 6), none, .mv (.c (.v (.int .i64 0)))⟩]) (
  .block 4 (
  .loop k_ref15_Small_3 c_ref15_Small_b3))) c_ref15_Small_s3)
def c_ref15_Small_s5 : CC := .seq (.seq (.reg [] [
  ⟨(some 5), none, .mv (.c (.v (.int .i64 0)))⟩]) (
  .block 2 (
  .loop k_ref15_Small_1 c_ref15_Small_b1))) c_ref15_Small_s4
def c_ref15_Small : CF := ⟨1, 159,
  .seq (.reg [] [
  ⟨(some 1), none, .box 2 [2, 3] (.t 0)⟩,
  ⟨(some 2), none, .mv (.c (.v (.bool false)))⟩]) (
  .seq (.reg [] [
  ⟨(some 11), none, .fad (.t 1) 0⟩,
  ⟨(some 12), none, .ld false 1 (.t 11)⟩,
  ⟨(some 13), none, .len false (.t 12)⟩,
  ⟨(some 14), none, .fad (.t 1) 1⟩,
  ⟨(some 15), none, .ld false 1 (.t 14)⟩,
  ⟨(some 16), none, .len false (.t 15)⟩,
  ⟨(some 17), none, .bin .add (.t 13) (.t 16)⟩,
  ⟨(some 3), none, .mv (.t 17)⟩]) (
  .seq (.seq (.reg [] [
  ⟨(some 4), none, .mv (.c (.v (.int .i64 0)))⟩]) (
  .block 0 (
  .loop k_ref15_Small_0 c_ref15_Small_b0))) c_ref15_Small_s5)),
  [.t 2]⟩
def v_ref15_Small : List Nat := [10]
def R_ref15_Small_2 (call : Eng.Call) (G : Nat → AV) (n m2 m3 : Nat) (o : Objs) (y6 y1 y7 y10 : AV) : Out := roundsE k_ref15_Small_2 (denE 159 call G v_ref15_Small n c_ref15_Small_b2) m2 [y6, y1, y7, y10] o (eBlock 6 (eBlock 5 (eSeq (denE 159 call G v_ref15_Small n c_ref15_Small_s0) (eLoop k_ref15_Small_3 (denE 159 call G v_ref15_Small n c_ref15_Small_b3) m3 (eBlock 4 (eSeq (denE 159 call G v_ref15_Small n c_ref15_Small_s3) (eEnd [.t 2])))))))
def R_ref15_Small_4 (call : Eng.Call) (G : Nat → AV) (n m4 m5 : Nat) (o : Objs) (y8 y1 y9 : AV) : Out := roundsE k_ref15_Small_4 (denE 159 call G v_ref15_Small n c_ref15_Small_b4) m4 [y8, y1, y9] o (eBlock 10 (eBlock 9 (eSeq (denE 159 call G v_ref15_Small n c_ref15_Small_s1) (eLoop k_ref15_Small_5 (denE 159 call G v_ref15_Small n c_ref15_Small_b5) m5 (eBlock 8 (eSeq (denE 159 call G v_ref15_Small n c_ref15_Small_s2) (eEnd [.t 2])))))))
def R_ref15_Small_5 (call : Eng.Call) (G : Nat → AV) (n m5 : Nat) (o : Objs) (y8 y1 : AV) : Out := roundsE k_ref15_Small_5 (denE 159 call G v_ref15_Small n c_ref15_Small_b5) m5 [y8, y1] o (eBlock 8 (eSeq (denE 159 call G v_ref15_Small n c_ref15_Small_s2) (eEnd [.t 2])))
def R_ref15_Small_3 (call : Eng.Call) (G : Nat → AV) (n m3 : Nat) (o : Objs) (y6 y1 y10 : AV) : Out := roundsE k_ref15_Small_3 (denE 159 call G v_ref15_Small n c_ref15_Small_b3) m3 [y6, y1, y10] o (eBlock 4 (eSeq (denE 159 call G v_ref15_Small n c_ref15_Small_s3) (eEnd [.t 2])))
def R_ref15_Small_1 (call : Eng.Call) (G : Nat → AV) (n m1 : Nat) (o : Objs) (y1 y5 y3 y10 : AV) : Out := roundsE k_ref15_Small_1 (denE 159 call G v_ref15_Small n c_ref15_Small_b1) m1 [y1, y5, y3, y10] o (eBlock 2 (eSeq (denE 159 call G v_ref15_Small n c_ref15_Small_s4) (eEnd [.t 2])))
def R_ref15_Small_0 (call : Eng.Call) (G : Nat → AV) (n m0 : Nat) (o : Objs) (y1 y4 y3 y10 : AV) : Out := roundsE k_ref15_Small_0 (denE 159 call G v_ref15_Small n c_ref15_Small_b0) m0 [y1, y4, y3, y10] o (eBlock 0 (eSeq (denE 159 call G v_ref15_Small n c_ref15_Small_s5) (eEnd [.t 2])))
set_option maxRecDepth 100000 in
theorem R_ref15_Small_2_s (call : Eng.Call) (G : Nat → AV) (n m2 m3 : Nat) (o : Objs) (y6 y1 y7 y10 : AV) : R_ref15_Small_2 call G n (m2 + 1) m3 o y6 y1 y7 y10 =
 Xq (.fad (.c y1) 0) (fun x67 =>
 Xx call o 95 (.ld false 1 (.c x67)) (fun x68 ox68 =>
 Xq (.ias 2 (.c x68) (.c y6)) (fun x69 =>
 Xq (.fad (.c x69) 1) (fun x70 =>
 Xx call ox68 99 (.ld false 1 (.c x70)) (fun x71 ox71 =>
 Xq (.len false (.c x71)) (fun x72 =>
 Xq (.bin .lss (.c y7) (.c x72)) (fun x73 =>
 Xc x73 (fun _ =>
 Xq (.fad (.c y1) 0) (fun x74 =>
 Xx call ox71 105 (.ld false 1 (.c x74)) (fun x75 ox75 =>
 Xq (.ias 2 (.c x75) (.c y6)) (fun x76 =>
 Xq (.fad (.c x76) 1) (fun x77 =>
 Xx call ox75 109 (.ld false 1 (.c x77)) (fun x78 ox78 =>
 Xq (.ias 2 (.c x78) (.c y7)) (fun x79 =>
 Xq (.fad (.c x79) 0) (fun x80 =>
 Xx call ox78 113 (.ld false 1 (.c x80)) (fun x81 ox81 =>
 Xq (.len true (.c x81)) (fun x82 =>
 Xq (.bin .gtr (.c x82) (.c (.v (.int .i64 1000)))) (fun x83 =>
 Xc x83 (fun _ =>
 Xr ox81 [some (.v (.bool false))]) (fun _ =>
 Xq (.bin .add (.c y7) (.c (.v (.int .i64 1)))) (fun x84 =>
 R_ref15_Small_2 call G n m2 m3 (maskO k_ref15_Small_2 ox81) (msk k_ref15_Small_2 y6) (msk k_ref15_Small_2 y1) (msk k_ref15_Small_2 x84) (msk k_ref15_Small_2 y10)) ()) () ()) ()) ()) ()) ()) ()) ()) ()) ()) ()) ()) (fun _ =>
 Xq (.bin .add (.c y6) (.c (.v (.int .i64 1)))) (fun x85 =>
 R_ref15_Small_3 call G n m3 (maskO k_ref15_Small_3 ox71) (msk k_ref15_Small_3 x85) (msk k_ref15_Small_3 y1) (msk k_ref15_Small_3 y10)) ()) () ()) ()) ()) ()) ()) ()) ()) () := by kernel_rfl
set_option maxRecDepth 100000 in
theorem R_ref15_Small_4_s (call : Eng.Call) (G : Nat → AV) (n m4 m5 : Nat) (o : Objs) (y8 y1 y9 : AV) : R_ref15_Small_4 call G n (m4 + 1) m5 o y8 y1 y9 =
 Xq (.fad (.c y1) 1) (fun x90 =>
 Xx call o 125 (.ld false 1 (.c x90)) (fun x91 ox91 =>
 Xq (.ias 3 (.c x91) (.c y8)) (fun x92 =>
 Xq (.fad (.c x92) 1) (fun x93 =>
 Xx call ox91 129 (.ld false 1 (.c x93)) (fun x94 ox94 =>
 Xq (.len false (.c x94)) (fun x95 =>
 Xq (.bin .lss (.c y9) (.c x95)) (fun x96 =>
 Xc x96 (fun _ =>
 Xq (.fad (.c y1) 1) (fun x97 =>
 Xx call ox94 135 (.ld false 1 (.c x97)) (fun x98 ox98 =>
 Xq (.ias 3 (.c x98) (.c y8)) (fun x99 =>
 Xq (.fad (.c x99) 1) (fun x100 =>
 Xx call ox98 139 (.ld false 1 (.c x100)) (fun x101 ox101 =>
 Xq (.ias 7 (.c x101) (.c y9)) (fun x102 =>
 Xx call ox101 142 (.ld true 7 (.c x102)) (fun x103 ox103 =>
 Xx call ox103 10 (.alloc [(.v (.string ⟨#[]⟩)), (.v (.int .i64 0)), (.v (.int .i64 0)), (.v (.string ⟨#[]⟩)), (.v (.bool false)), (.v (.bool false)), (.v (.string ⟨#[]⟩))] [0, 0, 0, 0, 0, 0, 0]) (fun x104 ox104 =>
 Xv ox104 7 x104 x103 (fun ox105 =>
 Xq (.fad (.c x104) 0) (fun x106 =>
 Xx call ox105 144 (.ld false 1 (.c x106)) (fun x107 ox107 =>
 Xq (.len true (.c x107)) (fun x108 =>
 Xq (.bin .gtr (.c x108) (.c (.v (.int .i64 1000)))) (fun x109 =>
 Xgq x109 false (.fad (.c x104) 3) (fun x110 =>
 Xxg call x109 false ox107 149 (.ld false 1 (.c x110)) (fun x111 ox111 =>
 Xgq x109 false (.len true (.c x111)) (fun x112 =>
 Xgq x109 false (.bin .gtr (.c x112) (.c (.v (.int .i64 1000)))) (fun x113 =>
 Xq (.pick (.c x109) (.c (.v (.bool true))) (.c x113)) (fun x114 =>
 Xgq x114 false (.fad (.c x104) 6) (fun x115 =>
 Xxg call x114 false ox111 155 (.ld false 1 (.c x115)) (fun x116 ox116 =>
 Xgq x114 false (.len true (.c x116)) (fun x117 =>
 Xgq x114 false (.bin .gtr (.c x117) (.c (.v (.int .i64 1000)))) (fun x118 =>
 Xq (.pick (.c x114) (.c (.v (.bool true))) (.c x118)) (fun x119 =>
 Xc x119 (fun _ =>
 Xr ox116 [some (.v (.bool false))]) (fun _ =>
 Xq (.bin .add (.c y9) (.c (.v (.int .i64 1)))) (fun x120 =>
 R_ref15_Small_4 call G n m4 m5 (maskO k_ref15_Small_4 ox116) (msk k_ref15_Small_4 y8) (msk k_ref15_Small_4 y1) (msk k_ref15_Small_4 x120)) ()) () ()) ()) ()) ()) ()) ()) ()) ()) ()) ()) ()) ()) ()) ()) ()) ()) ()) ()) ()) ()) ()) ()) ()) ()) (fun _ =>
 Xq (.bin .add (.c y8) (.c (.v (.int .i64 1)))) (fun x121 =>
 R_ref15_Small_5 call G n m5 (maskO k_ref15_Small_5 ox94) (msk k_ref15_Small_5 x121) (msk k_ref15_Small_5 y1)) ()) () ()) ()) ()) ()) ()) ()) ()) () := by kernel_rfl
set_option maxRecDepth 100000 in
theorem R_ref15_Small_5_s (call : Eng.Call) (G : Nat → AV) (n m5 : Nat) (o : Objs) (y8 y1 : AV) : R_ref15_Small_5 call G n (m5 + 1) o y8 y1 =
 Xq (.fad (.c y1) 1) (fun x86 =>
 Xx call o 118 (.ld false 1 (.c x86)) (fun x87 ox87 =>
 Xq (.len false (.c x87)) (fun x88 =>
 Xq (.bin .lss (.c y8) (.c x88)) (fun x89 =>
 Xc x89 (fun _ =>
 R_ref15_Small_4 call G n n m5 (maskO k_ref15_Small_4 ox87) (msk k_ref15_Small_4 y8) (msk k_ref15_Small_4 y1) (msk k_ref15_Small_4 (.v (.int .i64 0)))) (fun _ =>
 Xr ox87 [some (.v (.bool true))]) () ()) ()) ()) ()) () := by kernel_rfl
set_option maxRecDepth 100000 in
theorem R_ref15_Small_3_s (call : Eng.Call) (G : Nat → AV) (n m3 : Nat) (o : Objs) (y6 y1 y10 : AV) : R_ref15_Small_3 call G n (m3 + 1) o y6 y1 y10 =
 Xq (.fad (.c y1) 0) (fun x63 =>
 Xx call o 88 (.ld false 1 (.c x63)) (fun x64 ox64 =>
 Xq (.len false (.c x64)) (fun x65 =>
 Xq (.bin .lss (.c y6) (.c x65)) (fun x66 =>
 Xc x66 (fun _ =>
 R_ref15_Small_2 call G n n m3 (maskO k_ref15_Small_2 ox64) (msk k_ref15_Small_2 y6) (msk k_ref15_Small_2 y1) (msk k_ref15_Small_2 (.v (.int .i64 0))) (msk k_ref15_Small_2 y10)) (fun _ =>
 R_ref15_Small_5 call G n n (maskO k_ref15_Small_5 ox64) (msk k_ref15_Small_5 (.v (.int .i64 0))) (msk k_ref15_Small_5 y1)) () ()) ()) ()) ()) () := by kernel_rfl
set_option maxRecDepth 100000 in
theorem R_ref15_Small_1_s (call : Eng.Call) (G : Nat → AV) (n m1 : Nat) (o : Objs) (y1 y5 y3 y10 : AV) : R_ref15_Small_1 call G n (m1 + 1) o y1 y5 y3 y10 =
 Xq (.fad (.c y1) 1) (fun x32 =>
 Xx call o 49 (.ld false 1 (.c x32)) (fun x33 ox33 =>
 Xq (.len false (.c x33)) (fun x34 =>
 Xq (.bin .lss (.c y5) (.c x34)) (fun x35 =>
 Xgq x35 true (.mv (.c y3)) (fun x36 =>
 Xgq x35 true (.bin .lss (.c x36) (.c (.v (.int .i64 200)))) (fun x37 =>
 Xq (.pick (.c x35) (.c x37) (.c (.v (.bool false)))) (fun x38 =>
 Xc x38 (fun _ =>
 Xq (.fad (.c y1) 1) (fun x39 =>
 Xp call ox33 60 (.ld false 1 (.c x39)) (fun x40 nx40 sx40 =>
 Xq (.ias 3 (.c x40) (.c y5)) (fun x41 =>
 Xq (.fad (.c x41) 1) (fun x42 =>
 Xp call ox33 64 (.ld false 1 (.c x42)) (fun x43 nx43 sx43 =>
 Xq (.len false (.c x43)) (fun x44 =>
 Xq (.bin .add (.c y3) (.c x44)) (fun x45 =>
 Xq (.fad (.c y1) 1) (fun x46 =>
 Xp call ox33 68 (.ld false 1 (.c x46)) (fun x47 nx47 sx47 =>
 Xq (.ias 3 (.c x47) (.c y5)) (fun x48 =>
 Xq (.fad (.c x48) 2) (fun x49 =>
 Xp call ox33 72 (.ld false 1 (.c x49)) (fun x50 nx50 sx50 =>
 Xq (.len false (.c x50)) (fun x51 =>
 Xq (.bin .add (.c x45) (.c x51)) (fun x52 =>
 Xq (.fad (.c y1) 1) (fun x53 =>
 Xp call ox33 76 (.ld false 1 (.c x53)) (fun x54 nx54 sx54 =>
 Xq (.ias 3 (.c x54) (.c y5)) (fun x55 =>
 Xq (.fad (.c x55) 0) (fun x56 =>
 Xp call ox33 80 (.ld false 1 (.c x56)) (fun x57 nx57 sx57 =>
 Xq (.len true (.c x57)) (fun x58 =>
 Xq (.bin .quo (.c x58) (.c (.v (.int .i64 10)))) (fun x59 =>
 Xq (.bin .add (.c x52) (.c x59)) (fun x60 =>
 Xq (.bin .add (.c y5) (.c (.v (.int .i64 1)))) (fun x61 =>
 R_ref15_Small_1 call G n m1 (maskO k_ref15_Small_1 (finO ox33 (nx40 ++ nx43 ++ nx47 ++ nx50 ++ nx54 ++ nx57) (sx40 ++ sx43 ++ sx47 ++ sx50 ++ sx54 ++ sx57))) (msk k_ref15_Small_1 y1) (msk k_ref15_Small_1 x61) (msk k_ref15_Small_1 x60) (msk k_ref15_Small_1 y10)) ()) ()) ()) ()) ()) ()) ()) ()) ()) ()) ()) ()) ()) ()) ()) ()) ()) ()) ()) ()) ()) ()) ()) (fun _ =>
 Xq (.bin .geq (.c y3) (.c (.v (.int .i64 200)))) (fun x62 =>
 Xc x62 (fun _ =>
 Xr ox33 [some (.v (.bool false))]) (fun _ =>
 R_ref15_Small_3 call G n n (maskO k_ref15_Small_3 ox33) (msk k_ref15_Small_3 (.v (.int .i64 0))) (msk k_ref15_Small_3 y1) (msk k_ref15_Small_3 y10)) () ()) ()) () ()) ()) ()) ()) ()) ()) ()) () := by kernel_rfl
set_option maxRecDepth 100000 in
theorem R_ref15_Small_0_s (call : Eng.Call) (G : Nat → AV) (n m0 : Nat) (o : Objs) (y1 y4 y3 y10 : AV) : R_ref15_Small_0 call G n (m0 + 1) o y1 y4 y3 y10 =
 Xq (.fad (.c y1) 0) (fun x9 =>
 Xx call o 20 (.ld false 1 (.c x9)) (fun x10 ox10 =>
 Xq (.len false (.c x10)) (fun x11 =>
 Xq (.bin .lss (.c y4) (.c x11)) (fun x12 =>
 Xgq x12 true (.mv (.c y3)) (fun x13 =>
 Xgq x12 true (.bin .lss (.c x13) (.c (.v (.int .i64 200)))) (fun x14 =>
 Xq (.pick (.c x12) (.c x14) (.c (.v (.bool false)))) (fun x15 =>
 Xc x15 (fun _ =>
 Xq (.fad (.c y1) 0) (fun x16 =>
 Xp call ox10 31 (.ld false 1 (.c x16)) (fun x17 nx17 sx17 =>
 Xq (.ias 2 (.c x17) (.c y4)) (fun x18 =>
 Xq (.fad (.c x18) 1) (fun x19 =>
 Xp call ox10 35 (.ld false 1 (.c x19)) (fun x20 nx20 sx20 =>
 Xq (.len false (.c x20)) (fun x21 =>
 Xq (.bin .add (.c y3) (.c x21)) (fun x22 =>
 Xq (.fad (.c y1) 0) (fun x23 =>
 Xp call ox10 39 (.ld false 1 (.c x23)) (fun x24 nx24 sx24 =>
 Xq (.ias 2 (.c x24) (.c y4)) (fun x25 =>
 Xq (.fad (.c x25) 0) (fun x26 =>
 Xp call ox10 43 (.ld false 1 (.c x26)) (fun x27 nx27 sx27 =>
 Xq (.len true (.c x27)) (fun x28 =>
 Xq (.bin .quo (.c x28) (.c (.v (.int .i64 10)))) (fun x29 =>
 Xq (.bin .add (.c x22) (.c x29)) (fun x30 =>
 Xq (.bin .add (.c y4) (.c (.v (.int .i64 1)))) (fun x31 =>
 R_ref15_Small_0 call G n m0 (maskO k_ref15_Small_0 (finO ox10 (nx17 ++ nx20 ++ nx24 ++ nx27) (sx17 ++ sx20 ++ sx24 ++ sx27))) (msk k_ref15_Small_0 y1) (msk k_ref15_Small_0 x31) (msk k_ref15_Small_0 x30) (msk k_ref15_Small_0 y10)) ()) ()) ()) ()) ()) ()) ()) ()) ()) ()) ()) ()) ()) ()) ()) ()) (fun _ =>
 R_ref15_Small_1 call G n n (maskO k_ref15_Small_1 ox10) (msk k_ref15_Small_1 y1) (msk k_ref15_Small_1 (.v (.int .i64 0))) (msk k_ref15_Small_1 y3) (msk k_ref15_Small_1 y10)) () ()) ()) ()) ()) ()) ()) ()) () := by kernel_rfl
set_option maxRecDepth 100000 in
theorem s_ref15_Small (call : Eng.Call) (G : Nat → AV) (n : Nat) (x0 : AV) : denFE call G v_ref15_Small n c_ref15_Small [x0] =
 Xx call [] 1 (.box 2 [2, 3] (.c x0)) (fun x1 ox1 =>
 Xq (.fad (.c x1) 0) (fun x2 =>
 Xx call ox1 12 (.ld false 1 (.c x2)) (fun x3 ox3 =>
 Xq (.len false (.c x3)) (fun x4 =>
 Xq (.fad (.c x1) 1) (fun x5 =>
 Xx call ox3 15 (.ld false 1 (.c x5)) (fun x6 ox6 =>
 Xq (.len false (.c x6)) (fun x7 =>
 Xq (.bin .add (.c x4) (.c x7)) (fun x8 =>
 R_ref15_Small_0 call G n n (maskO k_ref15_Small_0 ox6) (msk k_ref15_Small_0 x1) (msk k_ref15_Small_0 (.v (.int .i64 0))) (msk k_ref15_Small_0 x8) (msk k_ref15_Small_0 .undef)) ()) ()) ()) ()) ()) ()) ()) () := by kernel_rfl
def c_law15_live : CF := ⟨0, 17,
  .seq (.reg [] [
  ⟨(some 0), none, .mv (.c (.v (.bool false)))⟩]) (
  .seq (.reg [] [
  ⟨(some 2), none, .build [(.v (.string ⟨#[]⟩)), (.v (.int .i64 0)), (.v (.int .i64 0)), (.v (.string ⟨#[]⟩)), (.v (.bool false)), (.v (.bool false)), (.v (.string ⟨#[]⟩))] [(0, 1, (.c (.v (.string ⟨#[97]⟩)))), (1, 1, (.c (.v (.int .i64 1)))), (2, 1, (.c (.v (.int .i64 15)))), (3, 1, (.c (.v (.string ⟨#[77]⟩))))]⟩,
  ⟨(some 3), none, .bsl 1 7 [(.v (.string ⟨#[]⟩)), (.v (.int .i64 0)), (.v (.int .i64 0)), (.v (.string ⟨#[]⟩)), (.v (.bool false)), (.v (.bool false)), (.v (.string ⟨#[]⟩))] [(0, (.t 2))]⟩,
  ⟨(some 4), none, .build [(.v (.string ⟨#[]⟩)), .nilsl, .nilsl] [(0, 1, (.c (.v (.string ⟨#[77]⟩)))), (1, 1, (.t 3))]⟩,
  ⟨(some 5), none, .bsl 1 3 [(.v (.string ⟨#[]⟩)), (.fsl []), (.fsl [])] [(0, (.t 4))]⟩,
  ⟨(some 6), none, .build [.nilsl, .nilsl] [(1, 1, (.t 5))]⟩,
  ⟨(some 1), none, .alloc [.nilsl, .nilsl] [2, 3]⟩,
  ⟨none, none, .st 2 (.t 1) (.t 6)⟩]) (
  .seq (.reg [] [
  ⟨(some 7), none, .ld true 2 (.t 1)⟩,
  ⟨(some 8), none, .call false i_schema_Check [(.t 7)]⟩,
  ⟨(some 9), none, .call false i_law15_num [(.t 8)]⟩,
  ⟨(some 10), none, .bin .eql (.t 9) (.c (.v (.int .i64 0)))⟩,
  ⟨(some 11), none, .mv (.t 10)⟩,
  ⟨(some 12), (some (11, true)), .build [.nilsl, .nilsl] []⟩,
  ⟨(some 13), (some (11, true)), .call false i_schema_Check [(.t 12)]⟩,
  ⟨(some 14), (some (11, true)), .call false i_law15_num [(.t 13)]⟩,
  ⟨(some 15), (some (11, true)), .bin .eql (.t 14) (.c (.v (.int .i64 5)))⟩,
  ⟨(some 16), none, .pick (.t 11) (.t 15) (.c (.v (.bool false)))⟩,
  ⟨(some 0), none, .mv (.t 16)⟩]) (
  .ret))),
  [.t 0]⟩
def v_law15_live : List Nat := [1]
set_option maxRecDepth 100000 in
theorem s_law15_live (call : Eng.Call) (G : Nat → AV) (n : Nat) : denFE call G v_law15_live n c_law15_live [] =
 Xq (.build [(.v (.string ⟨#[]⟩)), (.v (.int .i64 0)), (.v (.int .i64 0)), (.v (.string ⟨#[]⟩)), (.v (.bool false)), (.v (.bool false)), (.v (.string ⟨#[]⟩))] [(0, 1, (.c (.v (.string ⟨#[97]⟩)))), (1, 1, (.c (.v (.int .i64 1)))), (2, 1, (.c (.v (.int .i64 15)))), (3, 1, (.c (.v (.string ⟨#[77]⟩))))]) (fun x0 =>
 Xx call [] 3 (.bsl 1 7 [(.v (.string ⟨#[]⟩)), (.v (.int .i64 0)), (.v (.int .i64 0)), (.v (.string ⟨#[]⟩)), (.v (.bool false)), (.v (.bool false)), (.v (.string ⟨#[]⟩))] [(0, (.c x0))]) (fun x1 ox1 =>
 Xq (.build [(.v (.string ⟨#[]⟩)), .nilsl, .nilsl] [(0, 1, (.c (.v (.string ⟨#[77]⟩)))), (1, 1, (.c x1))]) (fun x2 =>
 Xx call ox1 5 (.bsl 1 3 [(.v (.string ⟨#[]⟩)), (.fsl []), (.fsl [])] [(0, (.c x2))]) (fun x3 ox3 =>
 Xq (.build [.nilsl, .nilsl] [(1, 1, (.c x3))]) (fun x4 =>
 Xx call ox3 1 (.alloc [.nilsl, .nilsl] [2, 3]) (fun x5 ox5 =>
 Xv ox5 2 x5 x4 (fun ox6 =>
 Xx call ox6 7 (.ld true 2 (.c x5)) (fun x7 ox7 =>
 Xx call ox7 8 (.call false i_schema_Check [(.c x7)]) (fun x8 ox8 =>
 Xx call ox8 9 (.call false i_law15_num [(.c x8)]) (fun x9 ox9 =>
 Xq (.bin .eql (.c x9) (.c (.v (.int .i64 0)))) (fun x10 =>
 Xgq x10 true (.build [.nilsl, .nilsl] []) (fun x11 =>
 Xxg call x10 true ox9 13 (.call false i_schema_Check [(.c x11)]) (fun x12 ox12 =>
 Xxg call x10 true ox12 14 (.call false i_law15_num [(.c x12)]) (fun x13 ox13 =>
 Xgq x10 true (.bin .eql (.c x13) (.c (.v (.int .i64 5)))) (fun x14 =>
 Xq (.pick (.c x10) (.c x14) (.c (.v (.bool false)))) (fun x15 =>
 Xr ox13 [some x15]) ()) ()) ()) ()) ()) ()) ()) ()) ()) ()) ()) ()) ()) ()) ()) () := by kernel_rfl
def c_law15_num : CF := ⟨1, 4,
  .seq (.reg [] [
  ⟨(some 2), none, .mv (.c (.v (.int .i64 0)))⟩]) (
  .seq (.reg [] [
  ⟨(some 3), none, .mv (.t 0)⟩,
  ⟨(some 2), none, .mv (.t 3)⟩]) (
  .ret)),
  [.t 2]⟩
def v_law15_num : List Nat := []
set_option maxRecDepth 100000 in
theorem s_law15_num (call : Eng.Call) (G : Nat → AV) (n : Nat) (x0 : AV) : denFE call G v_law15_num n c_law15_num [x0] =
 Xr [] [some x0] := by kernel_rfl
def c_schema_Check : CF := ⟨1, 30,
  .seq (.reg [] [
  ⟨(some 1), none, .box 2 [2, 3] (.t 0)⟩,
  ⟨(some 2), none, .mv (.c (.v (.int .i64 0)))⟩]) (
  .seq (.block 0 (
  .seq (.reg [] [
  ⟨(some 5), none, .ld true 2 (.t 1)⟩,
  ⟨(some 6), none, .call false i_schema_many [(.t 5)]⟩,
  ⟨(some 4), none, .mv (.t 6)⟩]) (
  .cond (.t 4) (
  .seq (.reg [] [
  ⟨(some 2), none, .mv (.c (.v (.int .i64 4)))⟩]) (
  .ret)) (
  .seq (.reg [] [
  ⟨(some 8), none, .ld true 2 (.t 1)⟩,
  ⟨(some 9), none, .call false i_schema_none [(.t 8)]⟩,
  ⟨(some 7), none, .mv (.t 9)⟩]) (
  .cond (.t 7) (
  .seq (.reg [] [
  ⟨(some 2), none, .mv (.c (.v (.int .i64 5)))⟩]) (
  .ret)) (
  .seq (.reg [] [
  ⟨(some 11), none, .ld true 2 (.t 1)⟩,
  ⟨(some 12), none, .call false i_schema_misnamed [(.t 11)]⟩,
  ⟨(some 10), none, .mv (.t 12)⟩]) (
  .cond (.t 10) (
  .seq (.reg [] [
  ⟨(some 2), none, .mv (.c (.v (.int .i64 2)))⟩]) (
  .ret)) (
  .skip)))))))) (
  .seq (.seq (.reg [] [
  ⟨(some 13), none, .ld true 2 (.t 1)⟩,
  ⟨(some 14), none, .call false i_schema_fields [(.t 13)]⟩,
  ⟨(some 3), none, .mv (.t 14)⟩]) (
  .seq (.reg [] [
  ⟨(some 15), none, .mv (.t 3)⟩,
  ⟨(some 16), none, .bin .neq (.t 15) (.c (.v (.int .i64 0)))⟩]) (
  .cond (.t 16) (
  .seq (.reg [] [
  ⟨(some 17), none, .mv (.t 3)⟩,
  ⟨(some 2), none, .mv (.t 17)⟩]) (
  .ret)) (
  .skip)))) (
  .seq (.block 1 (
  .seq (.reg [] [
  ⟨(some 19), none, .ld true 2 (.t 1)⟩,
  ⟨(some 20), none, .call false i_schema_twice [(.t 19)]⟩,
  ⟨(some 18), none, .mv (.t 20)⟩]) (
  .cond (.t 18) (
  .seq (.reg [] [
  ⟨(some 2), none, .mv (.c (.v (.int .i64 6)))⟩]) (
  .ret)) (
  .seq (.reg [] [
  ⟨(some 22), none, .ld true 2 (.t 1)⟩,
  ⟨(some 23), none, .call false i_schema_disordered [(.t 22)]⟩,
  ⟨(some 21), none, .mv (.t 23)⟩]) (
  .cond (.t 21) (
  .seq (.reg [] [
  ⟨(some 2), none, .mv (.c (.v (.int .i64 1)))⟩]) (
  .ret)) (
  .seq (.reg [] [
  ⟨(some 25), none, .ld true 2 (.t 1)⟩,
  ⟨(some 26), none, .call false i_schema_barred [(.t 25)]⟩,
  ⟨(some 24), none, .mv (.t 26)⟩]) (
  .cond (.t 24) (
  .seq (.reg [] [
  ⟨(some 2), none, .mv (.c (.v (.int .i64 6)))⟩]) (
  .ret)) (
  .seq (.reg [] [
  ⟨(some 28), none, .ld true 2 (.t 1)⟩,
  ⟨(some 29), none, .call false i_schema_lost [(.t 28)]⟩,
  ⟨(some 27), none, .mv (.t 29)⟩]) (
  .cond (.t 27) (
  .seq (.reg [] [
  ⟨(some 2), none, .mv (.c (.v (.int .i64 5)))⟩]) (
  .ret)) (
  .skip)))))))))) (
  .seq (.reg [] [
  ⟨(some 2), none, .mv (.c (.v (.int .i64 0)))⟩]) (
  .ret))))),
  [.t 2]⟩
def v_schema_Check : List Nat := []
set_option maxRecDepth 100000 in
theorem s_schema_Check (call : Eng.Call) (G : Nat → AV) (n : Nat) (x0 : AV) : denFE call G v_schema_Check n c_schema_Check [x0] =
 Xx call [] 1 (.box 2 [2, 3] (.c x0)) (fun x1 ox1 =>
 Xx call ox1 5 (.ld true 2 (.c x1)) (fun x2 ox2 =>
 Xx call ox2 6 (.call false i_schema_many [(.c x2)]) (fun x3 ox3 =>
 Xc x3 (fun _ =>
 Xr ox3 [some (.v (.int .i64 4))]) (fun _ =>
 Xx call ox3 8 (.ld true 2 (.c x1)) (fun x4 ox4 =>
 Xx call ox4 9 (.call false i_schema_none [(.c x4)]) (fun x5 ox5 =>
 Xc x5 (fun _ =>
 Xr ox5 [some (.v (.int .i64 5))]) (fun _ =>
 Xx call ox5 11 (.ld true 2 (.c x1)) (fun x6 ox6 =>
 Xx call ox6 12 (.call false i_schema_misnamed [(.c x6)]) (fun x7 ox7 =>
 Xc x7 (fun _ =>
 Xr ox7 [some (.v (.int .i64 2))]) (fun _ =>
 Xx call ox7 13 (.ld true 2 (.c x1)) (fun x8 ox8 =>
 Xx call ox8 14 (.call false i_schema_fields [(.c x8)]) (fun x9 ox9 =>
 Xq (.bin .neq (.c x9) (.c (.v (.int .i64 0)))) (fun x10 =>
 Xc x10 (fun _ =>
 Xr ox9 [some x9]) (fun _ =>
 Xx call ox9 19 (.ld true 2 (.c x1)) (fun x11 ox11 =>
 Xx call ox11 20 (.call false i_schema_twice [(.c x11)]) (fun x12 ox12 =>
 Xc x12 (fun _ =>
 Xr ox12 [some (.v (.int .i64 6))]) (fun _ =>
 Xx call ox12 22 (.ld true 2 (.c x1)) (fun x13 ox13 =>
 Xx call ox13 23 (.call false i_schema_disordered [(.c x13)]) (fun x14 ox14 =>
 Xc x14 (fun _ =>
 Xr ox14 [some (.v (.int .i64 1))]) (fun _ =>
 Xx call ox14 25 (.ld true 2 (.c x1)) (fun x15 ox15 =>
 Xx call ox15 26 (.call false i_schema_barred [(.c x15)]) (fun x16 ox16 =>
 Xc x16 (fun _ =>
 Xr ox16 [some (.v (.int .i64 6))]) (fun _ =>
 Xx call ox16 28 (.ld true 2 (.c x1)) (fun x17 ox17 =>
 Xx call ox17 29 (.call false i_schema_lost [(.c x17)]) (fun x18 ox18 =>
 Xc x18 (fun _ =>
 Xr ox18 [some (.v (.int .i64 5))]) (fun _ =>
 Xr ox18 [some (.v (.int .i64 0))]) () ()) ()) ()) () ()) ()) ()) () ()) ()) ()) () ()) ()) ()) () ()) ()) ()) ()) () ()) ()) ()) () ()) ()) ()) () ()) ()) ()) () := by kernel_rfl
def c_ref15_Check : CF := ⟨1, 23,
  .seq (.reg [] [
  ⟨(some 1), none, .box 2 [2, 3] (.t 0)⟩,
  ⟨(some 2), none, .mv (.c (.v (.int .i64 0)))⟩]) (
  .seq (.seq (.reg [] [
  ⟨(some 4), none, .ld true 2 (.t 1)⟩,
  ⟨(some 5), none, .call false i_ref15_many [(.t 4)]⟩]) (
  .cond (.t 5) (
  .seq (.reg [] [
  ⟨(some 2), none, .mv (.c (.v (.int .i64 4)))⟩]) (
  .ret)) (
  .skip))) (
  .seq (.seq (.reg [] [
  ⟨(some 6), none, .ld true 2 (.t 1)⟩,
  ⟨(some 7), none, .call false i_ref15_none [(.t 6)]⟩]) (
  .cond (.t 7) (
  .seq (.reg [] [
  ⟨(some 2), none, .mv (.c (.v (.int .i64 5)))⟩]) (
  .ret)) (
  .skip))) (
  .seq (.seq (.reg [] [
  ⟨(some 8), none, .ld true 2 (.t 1)⟩,
  ⟨(some 9), none, .call false i_ref15_text [(.t 8)]⟩]) (
  .cond (.t 9) (
  .seq (.reg [] [
  ⟨(some 2), none, .mv (.c (.v (.int .i64 2)))⟩]) (
  .ret)) (
  .skip))) (
  .seq (.seq (.reg [] [
  ⟨(some 10), none, .ld true 2 (.t 1)⟩,
  ⟨(some 11), none, .call false i_ref15_fields [(.t 10)]⟩,
  ⟨(some 3), none, .mv (.t 11)⟩]) (
  .seq (.reg [] [
  ⟨(some 12), none, .mv (.t 3)⟩,
  ⟨(some 13), none, .bin .neq (.t 12) (.c (.v (.int .i64 0)))⟩]) (
  .cond (.t 13) (
  .seq (.reg [] [
  ⟨(some 14), none, .mv (.t 3)⟩,
  ⟨(some 2), none, .mv (.t 14)⟩]) (
  .ret)) (
  .skip)))) (
  .seq (.seq (.reg [] [
  ⟨(some 15), none, .ld true 2 (.t 1)⟩,
  ⟨(some 16), none, .call false i_ref15_twice [(.t 15)]⟩]) (
  .cond (.t 16) (
  .seq (.reg [] [
  ⟨(some 2), none, .mv (.c (.v (.int .i64 6)))⟩]) (
  .ret)) (
  .skip))) (
  .seq (.seq (.reg [] [
  ⟨(some 17), none, .ld true 2 (.t 1)⟩,
  ⟨(some 18), none, .call false i_ref15_order [(.t 17)]⟩]) (
  .cond (.t 18) (
  .seq (.reg [] [
  ⟨(some 2), none, .mv (.c (.v (.int .i64 1)))⟩]) (
  .ret)) (
  .skip))) (
  .seq (.seq (.reg [] [
  ⟨(some 19), none, .ld true 2 (.t 1)⟩,
  ⟨(some 20), none, .call false i_ref15_barred [(.t 19)]⟩]) (
  .cond (.t 20) (
  .seq (.reg [] [
  ⟨(some 2), none, .mv (.c (.v (.int .i64 6)))⟩]) (
  .ret)) (
  .skip))) (
  .seq (.seq (.reg [] [
  ⟨(some 21), none, .ld true 2 (.t 1)⟩,
  ⟨(some 22), none, .call false i_ref15_refs [(.t 21)]⟩]) (
  .cond (.t 22) (
  .seq (.reg [] [
  ⟨(some 2), none, .mv (.c (.v (.int .i64 5)))⟩]) (
  .ret)) (
  .skip))) (
  .seq (.reg [] [
  ⟨(some 2), none, .mv (.c (.v (.int .i64 0)))⟩]) (
  .ret)))))))))),
  [.t 2]⟩
def v_ref15_Check : List Nat := []
set_option maxRecDepth 100000 in
theorem s_ref15_Check (call : Eng.Call) (G : Nat → AV) (n : Nat) (x0 : AV) : denFE call G v_ref15_Check n c_ref15_Check [x0] =
 Xx call [] 1 (.box 2 [2, 3] (.c x0)) (fun x1 ox1 =>
 Xx call ox1 4 (.ld true 2 (.c x1)) (fun x2 ox2 =>
 Xx call ox2 5 (.call false i_ref15_many [(.c x2)]) (fun x3 ox3 =>
 Xc x3 (fun _ =>
 Xr ox3 [some (.v (.int .i64 4))]) (fun _ =>
 Xx call ox3 6 (.ld true 2 (.c x1)) (fun x4 ox4 =>
 Xx call ox4 7 (.call false i_ref15_none [(.c x4)]) (fun x5 ox5 =>
 Xc x5 (fun _ =>
 Xr ox5 [some (.v (.int .i64 5))]) (fun _ =>
 Xx call ox5 8 (.ld true 2 (.c x1)) (fun x6 ox6 =>
 Xx call ox6 9 (.call false i_ref15_text [(.c x6)]) (fun x7 ox7 =>
 Xc x7 (fun _ =>
 Xr ox7 [some (.v (.int .i64 2))]) (fun _ =>
 Xx call ox7 10 (.ld true 2 (.c x1)) (fun x8 ox8 =>
 Xx call ox8 11 (.call false i_ref15_fields [(.c x8)]) (fun x9 ox9 =>
 Xq (.bin .neq (.c x9) (.c (.v (.int .i64 0)))) (fun x10 =>
 Xc x10 (fun _ =>
 Xr ox9 [some x9]) (fun _ =>
 Xx call ox9 15 (.ld true 2 (.c x1)) (fun x11 ox11 =>
 Xx call ox11 16 (.call false i_ref15_twice [(.c x11)]) (fun x12 ox12 =>
 Xc x12 (fun _ =>
 Xr ox12 [some (.v (.int .i64 6))]) (fun _ =>
 Xx call ox12 17 (.ld true 2 (.c x1)) (fun x13 ox13 =>
 Xx call ox13 18 (.call false i_ref15_order [(.c x13)]) (fun x14 ox14 =>
 Xc x14 (fun _ =>
 Xr ox14 [some (.v (.int .i64 1))]) (fun _ =>
 Xx call ox14 19 (.ld true 2 (.c x1)) (fun x15 ox15 =>
 Xx call ox15 20 (.call false i_ref15_barred [(.c x15)]) (fun x16 ox16 =>
 Xc x16 (fun _ =>
 Xr ox16 [some (.v (.int .i64 6))]) (fun _ =>
 Xx call ox16 21 (.ld true 2 (.c x1)) (fun x17 ox17 =>
 Xx call ox17 22 (.call false i_ref15_refs [(.c x17)]) (fun x18 ox18 =>
 Xc x18 (fun _ =>
 Xr ox18 [some (.v (.int .i64 5))]) (fun _ =>
 Xr ox18 [some (.v (.int .i64 0))]) () ()) ()) ()) () ()) ()) ()) () ()) ()) ()) () ()) ()) ()) () ()) ()) ()) ()) () ()) ()) ()) () ()) ()) ()) () ()) ()) ()) () := by kernel_rfl
def k_ref15_Copy_0 : List Nat := [3, 1, 2, 4, 6, 51, 54, 55, 58, 60, 61]
def c_ref15_Copy_b0 : CC := .seq (.seq (.reg [] [
  ⟨(some 8), none, .mv (.t 4)⟩,
  ⟨(some 9), none, .fad (.t 1) 0⟩,
  ⟨(some 10), none, .ld false 1 (.t 9)⟩,
  ⟨(some 11), none, .len false (.t 10)⟩,
  ⟨(some 12), none, .bin .lss (.t 8) (.t 11)⟩]) (
  .cond (.t 12) (
  .skip) (
  .exit 0))) (
  .seq (.block 1 (
  .reg [
  ⟨(some 15), none, .fad (.t 3) 0⟩,
  ⟨(some 16), none, .ld false 1 (.t 15)⟩,
  ⟨(some 17), none, .fad (.t 1) 0⟩,
  ⟨(some 18), none, .ld false 1 (.t 17)⟩,
  ⟨(some 19), none, .mv (.t 4)⟩,
  ⟨(some 20), none, .ias 2 (.t 18) (.t 19)⟩,
  ⟨(some 21), none, .fad (.t 20) 0⟩,
  ⟨(some 22), none, .ld false 1 (.t 21)⟩,
  ⟨(some 23), none, .bsl 0 2 [] []⟩,
  ⟨(some 24), none, .fad (.t 1) 0⟩,
  ⟨(some 25), none, .ld false 1 (.t 24)⟩,
  ⟨(some 26), none, .mv (.t 4)⟩,
  ⟨(some 27), none, .ias 2 (.t 25) (.t 26)⟩,
  ⟨(some 28), none, .fad (.t 27) 1⟩,
  ⟨(some 29), none, .ld false 1 (.t 28)⟩,
  ⟨(some 30), none, .apd 23 false 2 24 (.t 23) (.t 29)⟩,
  ⟨(some 31), none, .build [(.v (.string ⟨#[]⟩)), .nilsl] [(0, 1, (.t 22)), (1, 1, (.t 30))]⟩,
  ⟨(some 32), none, .bsl 1 2 [(.v (.string ⟨#[]⟩)), (.fsl [])] [(0, (.t 31))]⟩] [
  ⟨(some 33), none, .app false 2 40 (.t 16) (.t 32)⟩,
  ⟨(some 34), none, .fad (.t 3) 0⟩,
  ⟨none, none, .st 1 (.t 34) (.t 33)⟩])) (
  .reg [] [
  ⟨(some 13), none, .mv (.t 4)⟩,
  ⟨(some 14), none, .bin .add (.t 13) (.c (.v (.int .i64 1)))⟩,
  ⟨(some 4), none, .mv (.t 14)⟩]))
def k_ref15_Copy_1 : List Nat := [3, 1, 2, 5, 23, 30, 32, 33]
def c_ref15_Copy_b1 : CC := .seq (.seq (.reg [] [
  ⟨(some 35), none, .mv (.t 5)⟩,
  ⟨(some 36), none, .fad (.t 1) 1⟩,
  ⟨(some 37), none, .ld false 1 (.t 36)⟩,
  ⟨(some 38), none, .len false (.t 37)⟩,
  ⟨(some 39), none, .bin .lss (.t 35) (.t 38)⟩]) (
  .cond (.t 39) (
  .skip) (
  .exit 2))) (
  .seq (.block 3 (
  .seq (.reg [] [
  ⟨(some 42), none, .fad (.t 1) 1⟩,
  ⟨(some 43), none, .ld false 1 (.t 42)⟩,
  ⟨(some 44), none, .mv (.t 5)⟩,
  ⟨(some 45), none, .ias 3 (.t 43) (.t 44)⟩,
  ⟨(some 46), none, .ld true 3 (.t 45)⟩,
  ⟨(some 6), none, .alloc [(.v (.string ⟨#[]⟩)), .nilsl, .nilsl] [0, 7, 1]⟩,
  ⟨none, none, .st 3 (.t 6) (.t 46)⟩]) (
  .reg [
  ⟨(some 47), none, .fad (.t 3) 1⟩,
  ⟨(some 48), none, .ld false 1 (.t 47)⟩,
  ⟨(some 49), none, .fad (.t 6) 0⟩,
  ⟨(some 50), none, .ld false 1 (.t 49)⟩,
  ⟨(some 51), none, .bsl 0 7 [] []⟩,
  ⟨(some 52), none, .fad (.t 6) 1⟩,
  ⟨(some 53), none, .ld false 1 (.t 52)⟩,
  ⟨(some 54), none, .apd 51 false 7 72 (.t 51) (.t 53)⟩,
  ⟨(some 55), none, .bsl 0 1 [] []⟩,
  ⟨(some 56), none, .fad (.t 6) 2⟩,
  ⟨(some 57), none, .ld false 1 (.t 56)⟩,
  ⟨(some 58), none, .apd 55 false 1 8 (.t 55) (.t 57)⟩,
  ⟨(some 59), none, .build [(.v (.string ⟨#[]⟩)), .nilsl, .nilsl] [(0, 1, (.t 50)), (1, 1, (.t 54)), (2, 1, (.t 58))]⟩,
  ⟨(some 60), none, .bsl 1 3 [(.v (.string ⟨#[]⟩)), (.fsl []), (.fsl [])] [(0, (.t 59))]⟩] [
  ⟨(some 61), none, .app false 3 64 (.t 48) (.t 60)⟩,
  ⟨(some 62), none, .fad (.t 3) 1⟩,
  ⟨none, none, .st 1 (.t 62) (.t 61)⟩]))) (
  .reg [] [
  ⟨(some 40), none, .mv (.t 5)⟩,
  ⟨(some 41), none, .bin .add (.t 40) (.c (.v (.int .i64 1)))⟩,
  ⟨(some 5), none, .mv (.t 41)⟩]))
def c_ref15_Copy_s0 : CC := .seq (.reg [] [
  ⟨(some 63), none, .ld true 2 (.t 3)⟩,
  ⟨none, none, .st 2 (.t 2) (.t 63)⟩]) (
  .ret)
def c_ref15_Copy_s1 : CC := .seq (.seq (.reg [] [
  ⟨(some 5), none, .mv (.c (.v (.int .i64 0)))⟩]) (
  .block 2 (
  .loop k_ref15_Copy_1 c_ref15_Copy_b1))) c_ref15_Copy_s0
def c_ref15_Copy : CF := ⟨1, 64,
  .seq (.reg [] [
  ⟨(some 1), none, .box 2 [2, 3] (.t 0)⟩,
  ⟨(some 2), none, .alloc [.nilsl, .nilsl] [2, 3]⟩]) (
  .seq (.reg [] [
  ⟨(some 7), none, .build [.nilsl, .nilsl] []⟩,
  ⟨(some 3), none, .alloc [.nilsl, .nilsl] [2, 3]⟩,
  ⟨none, none, .st 2 (.t 3) (.t 7)⟩]) (
  .seq (.seq (.reg [] [
  ⟨(some 4), none, .mv (.c (.v (.int .i64 0)))⟩]) (
  .block 0 (
  .loop k_ref15_Copy_0 c_ref15_Copy_b0))) c_ref15_Copy_s1)),
  [.cell 2 true 2]⟩
def v_ref15_Copy : List Nat := [2, 3, 34, 6, 62]
def R_ref15_Copy_1 (call : Eng.Call) (G : Nat → AV) (n m1 : Nat) (o : Objs) (y3 y1 y2 y5 y23 y30 y32 y33 : AV) : Out := roundsE k_ref15_Copy_1 (denE 64 call G v_ref15_Copy n c_ref15_Copy_b1) m1 [y3, y1, y2, y5, y23, y30, y32, y33] o (eBlock 2 (eSeq (denE 64 call G v_ref15_Copy n c_ref15_Copy_s0) (eEnd [.cell 2 true 2])))
def R_ref15_Copy_0 (call : Eng.Call) (G : Nat → AV) (n m0 : Nat) (o : Objs) (y3 y1 y2 y4 y6 y51 y54 y55 y58 y60 y61 : AV) : Out := roundsE k_ref15_Copy_0 (denE 64 call G v_ref15_Copy n c_ref15_Copy_b0) m0 [y3, y1, y2, y4, y6, y51, y54, y55, y58, y60, y61] o (eBlock 0 (eSeq (denE 64 call G v_ref15_Copy n c_ref15_Copy_s1) (eEnd [.cell 2 true 2])))
set_option maxRecDepth 100000 in
theorem R_ref15_Copy_1_s (call : Eng.Call) (G : Nat → AV) (n m1 : Nat) (o : Objs) (y3 y1 y2 y5 y23 y30 y32 y33 : AV) : R_ref15_Copy_1 call G n (m1 + 1) o y3 y1 y2 y5 y23 y30 y32 y33 =
 Xq (.fad (.c y1) 1) (fun x30 =>
 Xx call o 37 (.ld false 1 (.c x30)) (fun x31 ox31 =>
 Xq (.len false (.c x31)) (fun x32 =>
 Xq (.bin .lss (.c y5) (.c x32)) (fun x33 =>
 Xc x33 (fun _ =>
 Xq (.fad (.c y1) 1) (fun x34 =>
 Xx call ox31 43 (.ld false 1 (.c x34)) (fun x35 ox35 =>
 Xq (.ias 3 (.c x35) (.c y5)) (fun x36 =>
 Xx call ox35 46 (.ld true 3 (.c x36)) (fun x37 ox37 =>
 Xx call ox37 6 (.alloc [(.v (.string ⟨#[]⟩)), .nilsl, .nilsl] [0, 7, 1]) (fun x38 ox38 =>
 Xv ox38 3 x38 x37 (fun ox39 =>
 Xq (.fad (.c y3) 1) (fun x40 =>
 Xp call ox39 48 (.ld false 1 (.c x40)) (fun x41 nx41 sx41 =>
 Xq (.fad (.c x38) 0) (fun x42 =>
 Xp call ox39 50 (.ld false 1 (.c x42)) (fun x43 nx43 sx43 =>
 Xp call ox39 51 (.bsl 0 7 [] []) (fun x44 nx44 sx44 =>
 Xq (.fad (.c x38) 1) (fun x45 =>
 Xp call ox39 53 (.ld false 1 (.c x45)) (fun x46 nx46 sx46 =>
 Xd (nx41 ++ nx43 ++ nx44 ++ nx46) [] 51 false 7 72 x44 x46 (fun x47 lx47 =>
 Xp call ox39 55 (.bsl 0 1 [] []) (fun x48 nx48 sx48 =>
 Xq (.fad (.c x38) 2) (fun x49 =>
 Xp call ox39 57 (.ld false 1 (.c x49)) (fun x50 nx50 sx50 =>
 Xd (nx41 ++ nx43 ++ nx44 ++ nx46 ++ nx48 ++ nx50) lx47 55 false 1 8 x48 x50 (fun x51 lx51 =>
 Xq (.build [(.v (.string ⟨#[]⟩)), .nilsl, .nilsl] [(0, 1, (.c x43)), (1, 1, (.c x47)), (2, 1, (.c x51))]) (fun x52 =>
 Xp call ox39 60 (.bsl 1 3 [(.v (.string ⟨#[]⟩)), (.fsl []), (.fsl [])] [(0, (.c x52))]) (fun x53 nx53 sx53 =>
 Xa (finL (finO ox39 (nx41 ++ nx43 ++ nx44 ++ nx46 ++ nx48 ++ nx50 ++ nx53) (sx41 ++ sx43 ++ sx44 ++ sx46 ++ sx48 ++ sx50 ++ sx53)) lx51) 61 false 3 64 x41 x53 (fun x54 ox54 =>
 Xq (.fad (.c y3) 1) (fun x55 =>
 Xv ox54 1 x55 x54 (fun ox56 =>
 Xq (.bin .add (.c y5) (.c (.v (.int .i64 1)))) (fun x57 =>
 R_ref15_Copy_1 call G n m1 (maskO k_ref15_Copy_1 ox56) (msk k_ref15_Copy_1 y3) (msk k_ref15_Copy_1 y1) (msk k_ref15_Copy_1 y2) (msk k_ref15_Copy_1 x57) (msk k_ref15_Copy_1 y23) (msk k_ref15_Copy_1 y30) (msk k_ref15_Copy_1 y32) (msk k_ref15_Copy_1 y33)) ()) ()) ()) ()) ()) ()) ()) ()) ()) ()) ()) ()) ()) ()) ()) ()) ()) ()) ()) ()) ()) ()) ()) ()) (fun _ =>
 Xx call ox31 63 (.ld true 2 (.c y3)) (fun x58 ox58 =>
 Xv ox58 2 y2 x58 (fun ox59 =>
 Xr ox59 [cellR ox59 y2 true 2]) ()) ()) () ()) ()) ()) ()) () := by kernel_rfl
set_option maxRecDepth 100000 in
theorem R_ref15_Copy_0_s (call : Eng.Call) (G : Nat → AV) (n m0 : Nat) (o : Objs) (y3 y1 y2 y4 y6 y51 y54 y55 y58 y60 y61 : AV) : R_ref15_Copy_0 call G n (m0 + 1) o y3 y1 y2 y4 y6 y51 y54 y55 y58 y60 y61 =
 Xq (.fad (.c y1) 0) (fun x6 =>
 Xx call o 10 (.ld false 1 (.c x6)) (fun x7 ox7 =>
 Xq (.len false (.c x7)) (fun x8 =>
 Xq (.bin .lss (.c y4) (.c x8)) (fun x9 =>
 Xc x9 (fun _ =>
 Xq (.fad (.c y3) 0) (fun x10 =>
 Xp call ox7 16 (.ld false 1 (.c x10)) (fun x11 nx11 sx11 =>
 Xq (.fad (.c y1) 0) (fun x12 =>
 Xp call ox7 18 (.ld false 1 (.c x12)) (fun x13 nx13 sx13 =>
 Xq (.ias 2 (.c x13) (.c y4)) (fun x14 =>
 Xq (.fad (.c x14) 0) (fun x15 =>
 Xp call ox7 22 (.ld false 1 (.c x15)) (fun x16 nx16 sx16 =>
 Xp call ox7 23 (.bsl 0 2 [] []) (fun x17 nx17 sx17 =>
 Xq (.fad (.c y1) 0) (fun x18 =>
 Xp call ox7 25 (.ld false 1 (.c x18)) (fun x19 nx19 sx19 =>
 Xq (.ias 2 (.c x19) (.c y4)) (fun x20 =>
 Xq (.fad (.c x20) 1) (fun x21 =>
 Xp call ox7 29 (.ld false 1 (.c x21)) (fun x22 nx22 sx22 =>
 Xd (nx11 ++ nx13 ++ nx16 ++ nx17 ++ nx19 ++ nx22) [] 23 false 2 24 x17 x22 (fun x23 lx23 =>
 Xq (.build [(.v (.string ⟨#[]⟩)), .nilsl] [(0, 1, (.c x16)), (1, 1, (.c x23))]) (fun x24 =>
 Xp call ox7 32 (.bsl 1 2 [(.v (.string ⟨#[]⟩)), (.fsl [])] [(0, (.c x24))]) (fun x25 nx25 sx25 =>
 Xa (finL (finO ox7 (nx11 ++ nx13 ++ nx16 ++ nx17 ++ nx19 ++ nx22 ++ nx25) (sx11 ++ sx13 ++ sx16 ++ sx17 ++ sx19 ++ sx22 ++ sx25)) lx23) 33 false 2 40 x11 x25 (fun x26 ox26 =>
 Xq (.fad (.c y3) 0) (fun x27 =>
 Xv ox26 1 x27 x26 (fun ox28 =>
 Xq (.bin .add (.c y4) (.c (.v (.int .i64 1)))) (fun x29 =>
 R_ref15_Copy_0 call G n m0 (maskO k_ref15_Copy_0 ox28) (msk k_ref15_Copy_0 y3) (msk k_ref15_Copy_0 y1) (msk k_ref15_Copy_0 y2) (msk k_ref15_Copy_0 x29) (msk k_ref15_Copy_0 y6) (msk k_ref15_Copy_0 y51) (msk k_ref15_Copy_0 y54) (msk k_ref15_Copy_0 y55) (msk k_ref15_Copy_0 y58) (msk k_ref15_Copy_0 y60) (msk k_ref15_Copy_0 y61)) ()) ()) ()) ()) ()) ()) ()) ()) ()) ()) ()) ()) ()) ()) ()) ()) ()) ()) ()) ()) (fun _ =>
 R_ref15_Copy_1 call G n n (maskO k_ref15_Copy_1 ox7) (msk k_ref15_Copy_1 y3) (msk k_ref15_Copy_1 y1) (msk k_ref15_Copy_1 y2) (msk k_ref15_Copy_1 (.v (.int .i64 0))) (msk k_ref15_Copy_1 .undef) (msk k_ref15_Copy_1 .undef) (msk k_ref15_Copy_1 .undef) (msk k_ref15_Copy_1 .undef)) () ()) ()) ()) ()) () := by kernel_rfl
set_option maxRecDepth 100000 in
theorem s_ref15_Copy (call : Eng.Call) (G : Nat → AV) (n : Nat) (x0 : AV) : denFE call G v_ref15_Copy n c_ref15_Copy [x0] =
 Xx call [] 1 (.box 2 [2, 3] (.c x0)) (fun x1 ox1 =>
 Xx call ox1 2 (.alloc [.nilsl, .nilsl] [2, 3]) (fun x2 ox2 =>
 Xq (.build [.nilsl, .nilsl] []) (fun x3 =>
 Xx call ox2 3 (.alloc [.nilsl, .nilsl] [2, 3]) (fun x4 ox4 =>
 Xv ox4 2 x4 x3 (fun ox5 =>
 R_ref15_Copy_0 call G n n (maskO k_ref15_Copy_0 ox5) (msk k_ref15_Copy_0 x4) (msk k_ref15_Copy_0 x1) (msk k_ref15_Copy_0 x2) (msk k_ref15_Copy_0 (.v (.int .i64 0))) (msk k_ref15_Copy_0 .undef) (msk k_ref15_Copy_0 .undef) (msk k_ref15_Copy_0 .undef) (msk k_ref15_Copy_0 .undef) (msk k_ref15_Copy_0 .undef) (msk k_ref15_Copy_0 .undef) (msk k_ref15_Copy_0 .undef)) ()) ()) ()) ()) () := by kernel_rfl
def k_schema_Copy_0 : List Nat := [3, 2, 15, 16, 1]
def c_schema_Copy_b0 : CC := .seq (.reg [] [
  ⟨(some 17), none, .bin .lss (.t 16) (.t 15)⟩]) (
  .seq (.cond (.t 17) (
  .skip) (
  .exit 0)) (
  .seq (.block 1 (
  .seq (.reg [] [
  ⟨(some 18), none, .mv (.t 16)⟩,
  ⟨(some 4), none, .mv (.t 18)⟩]) (
  .reg [
  ⟨(some 19), none, .fad (.t 3) 0⟩,
  ⟨(some 20), none, .ld false 1 (.t 19)⟩,
  ⟨(some 21), none, .mv (.t 4)⟩,
  ⟨(some 22), none, .fad (.t 3) 0⟩,
  ⟨(some 23), none, .ld false 1 (.t 22)⟩,
  ⟨(some 24), none, .mv (.t 4)⟩,
  ⟨(some 25), none, .ias 2 (.t 23) (.t 24)⟩,
  ⟨(some 26), none, .fad (.t 25) 1⟩,
  ⟨(some 27), none, .ld false 1 (.t 26)⟩,
  ⟨(some 28), none, .call false i_slices_Clone_Lapi_Value_api_Value_ [(.t 27)]⟩] [
  ⟨(some 29), none, .ias 2 (.t 20) (.t 21)⟩,
  ⟨(some 30), none, .fad (.t 29) 1⟩,
  ⟨none, none, .st 1 (.t 30) (.t 28)⟩]))) (
  .reg [] [
  ⟨(some 31), none, .bin .add (.t 16) (.c (.v (.int .i64 1)))⟩,
  ⟨(some 16), none, .mv (.t 31)⟩])))
def k_schema_Copy_1 : List Nat := [3, 2, 34, 35, 1]
def c_schema_Copy_b1 : CC := .seq (.reg [] [
  ⟨(some 36), none, .bin .lss (.t 35) (.t 34)⟩]) (
  .seq (.cond (.t 36) (
  .skip) (
  .exit 2)) (
  .seq (.block 3 (
  .seq (.reg [] [
  ⟨(some 37), none, .mv (.t 35)⟩,
  ⟨(some 5), none, .mv (.t 37)⟩]) (
  .seq (.reg [
  ⟨(some 38), none, .fad (.t 3) 1⟩,
  ⟨(some 39), none, .ld false 1 (.t 38)⟩,
  ⟨(some 40), none, .mv (.t 5)⟩,
  ⟨(some 41), none, .fad (.t 3) 1⟩,
  ⟨(some 42), none, .ld false 1 (.t 41)⟩,
  ⟨(some 43), none, .mv (.t 5)⟩,
  ⟨(some 44), none, .ias 3 (.t 42) (.t 43)⟩,
  ⟨(some 45), none, .fad (.t 44) 1⟩,
  ⟨(some 46), none, .ld false 1 (.t 45)⟩,
  ⟨(some 47), none, .call false i_slices_Clone_Lapi_Field_api_Field_ [(.t 46)]⟩] [
  ⟨(some 48), none, .ias 3 (.t 39) (.t 40)⟩,
  ⟨(some 49), none, .fad (.t 48) 1⟩,
  ⟨none, none, .st 1 (.t 49) (.t 47)⟩]) (
  .reg [
  ⟨(some 50), none, .fad (.t 3) 1⟩,
  ⟨(some 51), none, .ld false 1 (.t 50)⟩,
  ⟨(some 52), none, .mv (.t 5)⟩,
  ⟨(some 53), none, .fad (.t 3) 1⟩,
  ⟨(some 54), none, .ld false 1 (.t 53)⟩,
  ⟨(some 55), none, .mv (.t 5)⟩,
  ⟨(some 56), none, .ias 3 (.t 54) (.t 55)⟩,
  ⟨(some 57), none, .fad (.t 56) 2⟩,
  ⟨(some 58), none, .ld false 1 (.t 57)⟩,
  ⟨(some 59), none, .call false i_slices_Clone_Lint_int_ [(.t 58)]⟩] [
  ⟨(some 60), none, .ias 3 (.t 51) (.t 52)⟩,
  ⟨(some 61), none, .fad (.t 60) 2⟩,
  ⟨none, none, .st 1 (.t 61) (.t 59)⟩])))) (
  .reg [] [
  ⟨(some 62), none, .bin .add (.t 35) (.c (.v (.int .i64 1)))⟩,
  ⟨(some 35), none, .mv (.t 62)⟩])))
def c_schema_Copy_s0 : CC := .seq (.reg [] [
  ⟨(some 63), none, .ld true 2 (.t 3)⟩,
  ⟨none, none, .st 2 (.t 2) (.t 63)⟩]) (
  .ret)
def c_schema_Copy_s1 : CC := .seq (.seq (.reg [] [
  ⟨(some 32), none, .fad (.t 3) 1⟩,
  ⟨(some 33), none, .ld false 1 (.t 32)⟩,
  ⟨(some 34), none, .len false (.t 33)⟩,
  ⟨(some 35), none, .mv (.c (.v (.int .i64 0)))⟩]) (
  .block 2 (
  .loop k_schema_Copy_1 c_schema_Copy_b1))) c_schema_Copy_s0
def c_schema_Copy : CF := ⟨1, 64,
  .seq (.reg [] [
  ⟨(some 1), none, .box 2 [2, 3] (.t 0)⟩,
  ⟨(some 2), none, .alloc [.nilsl, .nilsl] [2, 3]⟩]) (
  .seq (.reg [
  ⟨(some 6), none, .fad (.t 1) 0⟩,
  ⟨(some 7), none, .ld false 1 (.t 6)⟩,
  ⟨(some 8), none, .call false i_slices_Clone_Lapi_Enum_api_Enum_ [(.t 7)]⟩,
  ⟨(some 9), none, .fad (.t 1) 1⟩,
  ⟨(some 10), none, .ld false 1 (.t 9)⟩,
  ⟨(some 11), none, .call false i_slices_Clone_Lapi_Message_api_Message_ [(.t 10)]⟩,
  ⟨(some 12), none, .build [.nilsl, .nilsl] [(0, 1, (.t 8)), (1, 1, (.t 11))]⟩,
  ⟨(some 3), none, .alloc [.nilsl, .nilsl] [2, 3]⟩] [
  ⟨none, none, .st 2 (.t 3) (.t 12)⟩]) (
  .seq (.seq (.reg [] [
  ⟨(some 13), none, .fad (.t 3) 0⟩,
  ⟨(some 14), none, .ld false 1 (.t 13)⟩,
  ⟨(some 15), none, .len false (.t 14)⟩,
  ⟨(some 16), none, .mv (.c (.v (.int .i64 0)))⟩]) (
  .block 0 (
  .loop k_schema_Copy_0 c_schema_Copy_b0))) c_schema_Copy_s1)),
  [.cell 2 true 2]⟩
def v_schema_Copy : List Nat := [2, 3]
def R_schema_Copy_1 (call : Eng.Call) (G : Nat → AV) (n m1 : Nat) (o : Objs) (y3 y2 y34 y35 y1 : AV) : Out := roundsE k_schema_Copy_1 (denE 64 call G v_schema_Copy n c_schema_Copy_b1) m1 [y3, y2, y34, y35, y1] o (eBlock 2 (eSeq (denE 64 call G v_schema_Copy n c_schema_Copy_s0) (eEnd [.cell 2 true 2])))
def R_schema_Copy_0 (call : Eng.Call) (G : Nat → AV) (n m0 : Nat) (o : Objs) (y3 y2 y15 y16 y1 : AV) : Out := roundsE k_schema_Copy_0 (denE 64 call G v_schema_Copy n c_schema_Copy_b0) m0 [y3, y2, y15, y16, y1] o (eBlock 0 (eSeq (denE 64 call G v_schema_Copy n c_schema_Copy_s1) (eEnd [.cell 2 true 2])))
set_option maxRecDepth 100000 in
theorem R_schema_Copy_1_s (call : Eng.Call) (G : Nat → AV) (n m1 : Nat) (o : Objs) (y3 y2 y34 y35 y1 : AV) : R_schema_Copy_1 call G n (m1 + 1) o y3 y2 y34 y35 y1 =
 Xq (.bin .lss (.c y35) (.c y34)) (fun x31 =>
 Xc x31 (fun _ =>
 Xq (.fad (.c y3) 1) (fun x32 =>
 Xp call o 39 (.ld false 1 (.c x32)) (fun x33 nx33 sx33 =>
 Xq (.fad (.c y3) 1) (fun x34 =>
 Xp call o 42 (.ld false 1 (.c x34)) (fun x35 nx35 sx35 =>
 Xq (.ias 3 (.c x35) (.c y35)) (fun x36 =>
 Xq (.fad (.c x36) 1) (fun x37 =>
 Xp call o 46 (.ld false 1 (.c x37)) (fun x38 nx38 sx38 =>
 Xp call o 47 (.call false i_slices_Clone_Lapi_Field_api_Field_ [(.c x38)]) (fun x39 nx39 sx39 =>
 Xq (.ias 3 (.c x33) (.c y35)) (fun x40 =>
 Xq (.fad (.c x40) 1) (fun x41 =>
 Xs (finO o (nx33 ++ nx35 ++ nx38 ++ nx39) (sx33 ++ sx35 ++ sx38 ++ sx39)) 1 x41 x39 (fun px42 ox42 =>
 Xq (.fad (.c (px42 y3)) 1) (fun x43 =>
 Xp call ox42 51 (.ld false 1 (.c x43)) (fun x44 nx44 sx44 =>
 Xq (.fad (.c (px42 y3)) 1) (fun x45 =>
 Xp call ox42 54 (.ld false 1 (.c x45)) (fun x46 nx46 sx46 =>
 Xq (.ias 3 (.c x46) (.c (px42 y35))) (fun x47 =>
 Xq (.fad (.c x47) 2) (fun x48 =>
 Xp call ox42 58 (.ld false 1 (.c x48)) (fun x49 nx49 sx49 =>
 Xp call ox42 59 (.call false i_slices_Clone_Lint_int_ [(.c x49)]) (fun x50 nx50 sx50 =>
 Xq (.ias 3 (.c x44) (.c (px42 y35))) (fun x51 =>
 Xq (.fad (.c x51) 2) (fun x52 =>
 Xs (finO ox42 (nx44 ++ nx46 ++ nx49 ++ nx50) (sx44 ++ sx46 ++ sx49 ++ sx50)) 1 x52 x50 (fun px53 ox53 =>
 Xq (.bin .add (.c (px53 (px42 y35))) (.c (.v (.int .i64 1)))) (fun x54 =>
 R_schema_Copy_1 call G n m1 (maskO k_schema_Copy_1 ox53) (msk k_schema_Copy_1 (px53 (px42 y3))) (msk k_schema_Copy_1 (px53 (px42 y2))) (msk k_schema_Copy_1 (px53 (px42 y34))) (msk k_schema_Copy_1 x54) (msk k_schema_Copy_1 (px53 (px42 y1)))) ()) ()) ()) ()) ()) ()) ()) ()) ()) ()) ()) ()) ()) ()) ()) ()) ()) ()) ()) ()) ()) ()) ()) (fun _ =>
 Xx call o 63 (.ld true 2 (.c y3)) (fun x55 ox55 =>
 Xv ox55 2 y2 x55 (fun ox56 =>
 Xr ox56 [cellR ox56 y2 true 2]) ()) ()) () ()) () := by kernel_rfl
set_option maxRecDepth 100000 in
theorem R_schema_Copy_0_s (call : Eng.Call) (G : Nat → AV) (n m0 : Nat) (o : Objs) (y3 y2 y15 y16 y1 : AV) : R_schema_Copy_0 call G n (m0 + 1) o y3 y2 y15 y16 y1 =
 Xq (.bin .lss (.c y16) (.c y15)) (fun x15 =>
 Xc x15 (fun _ =>
 Xq (.fad (.c y3) 0) (fun x16 =>
 Xp call o 20 (.ld false 1 (.c x16)) (fun x17 nx17 sx17 =>
 Xq (.fad (.c y3) 0) (fun x18 =>
 Xp call o 23 (.ld false 1 (.c x18)) (fun x19 nx19 sx19 =>
 Xq (.ias 2 (.c x19) (.c y16)) (fun x20 =>
 Xq (.fad (.c x20) 1) (fun x21 =>
 Xp call o 27 (.ld false 1 (.c x21)) (fun x22 nx22 sx22 =>
 Xp call o 28 (.call false i_slices_Clone_Lapi_Value_api_Value_ [(.c x22)]) (fun x23 nx23 sx23 =>
 Xq (.ias 2 (.c x17) (.c y16)) (fun x24 =>
 Xq (.fad (.c x24) 1) (fun x25 =>
 Xs (finO o (nx17 ++ nx19 ++ nx22 ++ nx23) (sx17 ++ sx19 ++ sx22 ++ sx23)) 1 x25 x23 (fun px26 ox26 =>
 Xq (.bin .add (.c (px26 y16)) (.c (.v (.int .i64 1)))) (fun x27 =>
 R_schema_Copy_0 call G n m0 (maskO k_schema_Copy_0 ox26) (msk k_schema_Copy_0 (px26 y3)) (msk k_schema_Copy_0 (px26 y2)) (msk k_schema_Copy_0 (px26 y15)) (msk k_schema_Copy_0 x27) (msk k_schema_Copy_0 (px26 y1))) ()) ()) ()) ()) ()) ()) ()) ()) ()) ()) ()) ()) (fun _ =>
 Xq (.fad (.c y3) 1) (fun x28 =>
 Xx call o 33 (.ld false 1 (.c x28)) (fun x29 ox29 =>
 Xq (.len false (.c x29)) (fun x30 =>
 R_schema_Copy_1 call G n n (maskO k_schema_Copy_1 ox29) (msk k_schema_Copy_1 y3) (msk k_schema_Copy_1 y2) (msk k_schema_Copy_1 x30) (msk k_schema_Copy_1 (.v (.int .i64 0))) (msk k_schema_Copy_1 y1)) ()) ()) ()) () ()) () := by kernel_rfl
set_option maxRecDepth 100000 in
theorem s_schema_Copy (call : Eng.Call) (G : Nat → AV) (n : Nat) (x0 : AV) : denFE call G v_schema_Copy n c_schema_Copy [x0] =
 Xx call [] 1 (.box 2 [2, 3] (.c x0)) (fun x1 ox1 =>
 Xx call ox1 2 (.alloc [.nilsl, .nilsl] [2, 3]) (fun x2 ox2 =>
 Xq (.fad (.c x1) 0) (fun x3 =>
 Xp call ox2 7 (.ld false 1 (.c x3)) (fun x4 nx4 sx4 =>
 Xp call ox2 8 (.call false i_slices_Clone_Lapi_Enum_api_Enum_ [(.c x4)]) (fun x5 nx5 sx5 =>
 Xq (.fad (.c x1) 1) (fun x6 =>
 Xp call ox2 10 (.ld false 1 (.c x6)) (fun x7 nx7 sx7 =>
 Xp call ox2 11 (.call false i_slices_Clone_Lapi_Message_api_Message_ [(.c x7)]) (fun x8 nx8 sx8 =>
 Xq (.build [.nilsl, .nilsl] [(0, 1, (.c x5)), (1, 1, (.c x8))]) (fun x9 =>
 Xp call ox2 3 (.alloc [.nilsl, .nilsl] [2, 3]) (fun x10 nx10 sx10 =>
 Xv (finO ox2 (nx4 ++ nx5 ++ nx7 ++ nx8 ++ nx10) (sx4 ++ sx5 ++ sx7 ++ sx8 ++ sx10)) 2 x10 x9 (fun ox11 =>
 Xq (.fad (.c x10) 0) (fun x12 =>
 Xx call ox11 14 (.ld false 1 (.c x12)) (fun x13 ox13 =>
 Xq (.len false (.c x13)) (fun x14 =>
 R_schema_Copy_0 call G n n (maskO k_schema_Copy_0 ox13) (msk k_schema_Copy_0 x10) (msk k_schema_Copy_0 x2) (msk k_schema_Copy_0 x14) (msk k_schema_Copy_0 (.v (.int .i64 0))) (msk k_schema_Copy_0 x1)) ()) ()) ()) ()) ()) ()) ()) ()) ()) ()) ()) ()) ()) () := by kernel_rfl
def c_schema_Same : CF := ⟨2, 19,
  .seq (.reg [] [
  ⟨(some 2), none, .box 2 [2, 3] (.t 0)⟩,
  ⟨(some 3), none, .box 2 [2, 3] (.t 1)⟩,
  ⟨(some 4), none, .mv (.c (.v (.bool false)))⟩]) (
  .seq (.reg [] [
  ⟨(some 6), none, .fad (.t 2) 0⟩,
  ⟨(some 7), none, .ld false 1 (.t 6)⟩,
  ⟨(some 8), none, .fad (.t 3) 0⟩,
  ⟨(some 9), none, .ld false 1 (.t 8)⟩,
  ⟨(some 10), none, .call false i_slices_EqualFunc_Lapi_Enum_Lapi_Enum_api_Enum_api_Enum_ [(.t 7), (.t 9), (.c (.fn i_schema_Same_1 []))]⟩,
  ⟨(some 5), none, .mv (.t 10)⟩]) (
  .seq (.reg [] [
  ⟨(some 11), none, .mv (.t 5)⟩,
  ⟨(some 12), none, .mv (.t 11)⟩,
  ⟨(some 13), (some (12, true)), .fad (.t 2) 1⟩,
  ⟨(some 14), (some (12, true)), .ld false 1 (.t 13)⟩,
  ⟨(some 15), (some (12, true)), .fad (.t 3) 1⟩,
  ⟨(some 16), (some (12, true)), .ld false 1 (.t 15)⟩,
  ⟨(some 17), (some (12, true)), .call false i_slices_EqualFunc_Lapi_Message_Lapi_Message_api_Message_api_Message_ [(.t 14), (.t 16), (.c (.fn i_schema_Same_2 []))]⟩,
  ⟨(some 18), none, .pick (.t 12) (.t 17) (.c (.v (.bool false)))⟩,
  ⟨(some 4), none, .mv (.t 18)⟩]) (
  .ret))),
  [.t 4]⟩
def v_schema_Same : List Nat := []
set_option maxRecDepth 100000 in
theorem s_schema_Same (call : Eng.Call) (G : Nat → AV) (n : Nat) (x0 x1 : AV) : denFE call G v_schema_Same n c_schema_Same [x0, x1] =
 Xx call [] 2 (.box 2 [2, 3] (.c x0)) (fun x2 ox2 =>
 Xx call ox2 3 (.box 2 [2, 3] (.c x1)) (fun x3 ox3 =>
 Xq (.fad (.c x2) 0) (fun x4 =>
 Xx call ox3 7 (.ld false 1 (.c x4)) (fun x5 ox5 =>
 Xq (.fad (.c x3) 0) (fun x6 =>
 Xx call ox5 9 (.ld false 1 (.c x6)) (fun x7 ox7 =>
 Xx call ox7 10 (.call false i_slices_EqualFunc_Lapi_Enum_Lapi_Enum_api_Enum_api_Enum_ [(.c x5), (.c x7), (.c (.fn i_schema_Same_1 []))]) (fun x8 ox8 =>
 Xgq x8 true (.fad (.c x2) 1) (fun x9 =>
 Xxg call x8 true ox8 14 (.ld false 1 (.c x9)) (fun x10 ox10 =>
 Xgq x8 true (.fad (.c x3) 1) (fun x11 =>
 Xxg call x8 true ox10 16 (.ld false 1 (.c x11)) (fun x12 ox12 =>
 Xxg call x8 true ox12 17 (.call false i_slices_EqualFunc_Lapi_Message_Lapi_Message_api_Message_api_Message_ [(.c x10), (.c x12), (.c (.fn i_schema_Same_2 []))]) (fun x13 ox13 =>
 Xq (.pick (.c x8) (.c x13) (.c (.v (.bool false)))) (fun x14 =>
 Xr ox13 [some x14]) ()) ()) ()) ()) ()) ()) ()) ()) ()) ()) ()) ()) () := by kernel_rfl
def k_ref15_Same_0 : List Nat := [5, 3, 2, 6]
def c_ref15_Same_b0 : CC := .seq (.seq (.reg [] [
  ⟨(some 61), none, .mv (.t 6)⟩,
  ⟨(some 62), none, .fad (.t 2) 0⟩,
  ⟨(some 63), none, .ld false 1 (.t 62)⟩,
  ⟨(some 64), none, .mv (.t 5)⟩,
  ⟨(some 65), none, .ias 2 (.t 63) (.t 64)⟩,
  ⟨(some 66), none, .fad (.t 65) 1⟩,
  ⟨(some 67), none, .ld false 1 (.t 66)⟩,
  ⟨(some 68), none, .len false (.t 67)⟩,
  ⟨(some 69), none, .bin .lss (.t 61) (.t 68)⟩]) (
  .cond (.t 69) (
  .skip) (
  .exit 2))) (
  .seq (.block 3 (
  .seq (.reg [
  ⟨(some 72), none, .fad (.t 2) 0⟩,
  ⟨(some 73), none, .ld false 1 (.t 72)⟩,
  ⟨(some 74), none, .mv (.t 5)⟩,
  ⟨(some 75), none, .ias 2 (.t 73) (.t 74)⟩,
  ⟨(some 76), none, .fad (.t 75) 1⟩,
  ⟨(some 77), none, .ld false 1 (.t 76)⟩,
  ⟨(some 78), none, .mv (.t 6)⟩,
  ⟨(some 79), none, .ias 2 (.t 77) (.t 78)⟩,
  ⟨(some 80), none, .ld true 2 (.t 79)⟩,
  ⟨(some 81), none, .fad (.t 3) 0⟩,
  ⟨(some 82), none, .ld false 1 (.t 81)⟩,
  ⟨(some 83), none, .mv (.t 5)⟩,
  ⟨(some 84), none, .ias 2 (.t 82) (.t 83)⟩,
  ⟨(some 85), none, .fad (.t 84) 1⟩,
  ⟨(some 86), none, .ld false 1 (.t 85)⟩,
  ⟨(some 87), none, .mv (.t 6)⟩,
  ⟨(some 88), none, .ias 2 (.t 86) (.t 87)⟩,
  ⟨(some 89), none, .ld true 2 (.t 88)⟩] [
  ⟨(some 90), none, .eqs true [2, 0] (.t 80) (.t 89)⟩]) (
  .cond (.t 90) (
  .seq (.reg [] [
  ⟨(some 4), none, .mv (.c (.v (.bool false)))⟩]) (
  .ret)) (
  .skip)))) (
  .reg [] [
  ⟨(some 70), none, .mv (.t 6)⟩,
  ⟨(some 71), none, .bin .add (.t 70) (.c (.v (.int .i64 1)))⟩,
  ⟨(some 6), none, .mv (.t 71)⟩]))
def c_ref15_Same_s0 : CC := .reg [] [
  ⟨(some 29), none, .mv (.t 5)⟩,
  ⟨(some 30), none, .bin .add (.t 29) (.c (.v (.int .i64 1)))⟩,
  ⟨(some 5), none, .mv (.t 30)⟩]
def k_ref15_Same_1 : List Nat := [5, 3, 2]
def c_ref15_Same_b1 : CC := .seq (.seq (.reg [] [
  ⟨(some 24), none, .mv (.t 5)⟩,
  ⟨(some 25), none, .fad (.t 2) 0⟩,
  ⟨(some 26), none, .ld false 1 (.t 25)⟩,
  ⟨(some 27), none, .len false (.t 26)⟩,
  ⟨(some 28), none, .bin .lss (.t 24) (.t 27)⟩]) (
  .cond (.t 28) (
  .skip) (
  .exit 0))) (
  .seq (.block 1 (
  .seq (.seq (.reg [
  ⟨(some 31), none, .fad (.t 2) 0⟩,
  ⟨(some 32), none, .ld false 1 (.t 31)⟩,
  ⟨(some 33), none, .mv (.t 5)⟩,
  ⟨(some 34), none, .ias 2 (.t 32) (.t 33)⟩,
  ⟨(some 35), none, .fad (.t 34) 0⟩,
  ⟨(some 36), none, .ld false 1 (.t 35)⟩,
  ⟨(some 37), none, .fad (.t 3) 0⟩,
  ⟨(some 38), none, .ld false 1 (.t 37)⟩,
  ⟨(some 39), none, .mv (.t 5)⟩,
  ⟨(some 40), none, .ias 2 (.t 38) (.t 39)⟩,
  ⟨(some 41), none, .fad (.t 40) 0⟩,
  ⟨(some 42), none, .ld false 1 (.t 41)⟩,
  ⟨(some 43), none, .bin .neq (.t 36) (.t 42)⟩,
  ⟨(some 44), none, .mv (.t 43)⟩,
  ⟨(some 45), (some (44, false)), .fad (.t 2) 0⟩,
  ⟨(some 46), (some (44, false)), .ld false 1 (.t 45)⟩,
  ⟨(some 47), (some (44, false)), .mv (.t 5)⟩,
  ⟨(some 48), (some (44, false)), .ias 2 (.t 46) (.t 47)⟩,
  ⟨(some 49), (some (44, false)), .fad (.t 48) 1⟩,
  ⟨(some 50), (some (44, false)), .ld false 1 (.t 49)⟩,
  ⟨(some 51), (some (44, false)), .len false (.t 50)⟩,
  ⟨(some 52), (some (44, false)), .fad (.t 3) 0⟩,
  ⟨(some 53), (some (44, false)), .ld false 1 (.t 52)⟩,
  ⟨(some 54), (some (44, false)), .mv (.t 5)⟩,
  ⟨(some 55), (some (44, false)), .ias 2 (.t 53) (.t 54)⟩,
  ⟨(some 56), (some (44, false)), .fad (.t 55) 1⟩,
  ⟨(some 57), (some (44, false)), .ld false 1 (.t 56)⟩,
  ⟨(some 58), (some (44, false)), .len false (.t 57)⟩] [
  ⟨(some 59), (some (44, false)), .bin .neq (.t 51) (.t 58)⟩,
  ⟨(some 60), none, .pick (.t 44) (.c (.v (.bool true))) (.t 59)⟩]) (
  .cond (.t 60) (
  .seq (.reg [] [
  ⟨(some 4), none, .mv (.c (.v (.bool false)))⟩]) (
  .ret)) (
  .skip))) (
  .seq (.reg [] [
  ⟨(some 6), none, .mv (.c (.v (.int .i64 0)))⟩]) (
  .block 2 (
  .loop k_ref15_Same_0 c_ref15_Same_b0))))) c_ref15_Same_s0)
def k_ref15_Same_2 : List Nat := [3, 2, 7]
def c_ref15_Same_b2 : CC := .seq (.seq (.reg [] [
  ⟨(some 91), none, .mv (.t 7)⟩,
  ⟨(some 92), none, .fad (.t 2) 1⟩,
  ⟨(some 93), none, .ld false 1 (.t 92)⟩,
  ⟨(some 94), none, .len false (.t 93)⟩,
  ⟨(some 95), none, .bin .lss (.t 91) (.t 94)⟩]) (
  .cond (.t 95) (
  .skip) (
  .exit 4))) (
  .seq (.block 5 (
  .seq (.reg [
  ⟨(some 98), none, .fad (.t 2) 1⟩,
  ⟨(some 99), none, .ld false 1 (.t 98)⟩,
  ⟨(some 100), none, .mv (.t 7)⟩,
  ⟨(some 101), none, .ias 3 (.t 99) (.t 100)⟩,
  ⟨(some 102), none, .ld true 3 (.t 101)⟩,
  ⟨(some 103), none, .fad (.t 3) 1⟩,
  ⟨(some 104), none, .ld false 1 (.t 103)⟩,
  ⟨(some 105), none, .mv (.t 7)⟩,
  ⟨(some 106), none, .ias 3 (.t 104) (.t 105)⟩,
  ⟨(some 107), none, .ld true 3 (.t 106)⟩] [
  ⟨(some 108), none, .call false i_ref15_SameMessage [(.t 102), (.t 107)]⟩,
  ⟨(some 109), none, .not (.t 108)⟩]) (
  .cond (.t 109) (
  .seq (.reg [] [
  ⟨(some 4), none, .mv (.c (.v (.bool false)))⟩]) (
  .ret)) (
  .skip)))) (
  .reg [] [
  ⟨(some 96), none, .mv (.t 7)⟩,
  ⟨(some 97), none, .bin .add (.t 96) (.c (.v (.int .i64 1)))⟩,
  ⟨(some 7), none, .mv (.t 97)⟩]))
def c_ref15_Same_s1 : CC := .seq (.reg [] [
  ⟨(some 4), none, .mv (.c (.v (.bool true)))⟩]) (
  .ret)
def c_ref15_Same_s2 : CC := .seq (.seq (.reg [] [
  ⟨(some 7), none, .mv (.c (.v (.int .i64 0)))⟩]) (
  .block 4 (
  .loop k_ref15_Same_2 c_ref15_Same_b2))) c_ref15_Same_s1
def c_ref15_Same : CF := ⟨2, 110,
  .seq (.reg [] [
  ⟨(some 2), none, .box 2 [2, 3] (.t 0)⟩,
  ⟨(some 3), none, .box 2 [2, 3] (.t 1)⟩,
  ⟨(some 4), none, .mv (.c (.v (.bool false)))⟩]) (
  .seq (.seq (.reg [] [
  ⟨(some 8), none, .fad (.t 2) 0⟩,
  ⟨(some 9), none, .ld false 1 (.t 8)⟩,
  ⟨(some 10), none, .len false (.t 9)⟩,
  ⟨(some 11), none, .fad (.t 3) 0⟩,
  ⟨(some 12), none, .ld false 1 (.t 11)⟩,
  ⟨(some 13), none, .len false (.t 12)⟩,
  ⟨(some 14), none, .bin .neq (.t 10) (.t 13)⟩,
  ⟨(some 15), none, .mv (.t 14)⟩,
  ⟨(some 16), (some (15, false)), .fad (.t 2) 1⟩,
  ⟨(some 17), (some (15, false)), .ld false 1 (.t 16)⟩,
  ⟨(some 18), (some (15, false)), .len false (.t 17)⟩,
  ⟨(some 19), (some (15, false)), .fad (.t 3) 1⟩,
  ⟨(some 20), (some (15, false)), .ld false 1 (.t 19)⟩,
  ⟨(some 21), (some (15, false)), .len false (.t 20)⟩,
  ⟨(some 22), (some (15, false)), .bin .neq (.t 18) (.t 21)⟩,
  ⟨(some 23), none, .pick (.t 15) (.c (.v (.bool true))) (.t 22)⟩]) (
  .cond (.t 23) (
  .seq (.reg [] [
  ⟨(some 4), none, .mv (.c (.v (.bool false)))⟩]) (
  .ret)) (
  .skip))) (
  .seq (.seq (.reg [] [
  ⟨(some 5), none, .mv (.c (.v (.int .i64 0)))⟩]) (
  .block 0 (
  .loop k_ref15_Same_1 c_ref15_Same_b1))) c_ref15_Same_s2)),
  [.t 4]⟩
def v_ref15_Same : List Nat := []
def R_ref15_Same_0 (call : Eng.Call) (G : Nat → AV) (n m0 m1 : Nat) (o : Objs) (y5 y3 y2 y6 : AV) : Out := roundsE k_ref15_Same_0 (denE 110 call G v_ref15_Same n c_ref15_Same_b0) m0 [y5, y3, y2, y6] o (eBlock 2 (eBlock 1 (eSeq (denE 110 call G v_ref15_Same n c_ref15_Same_s0) (eLoop k_ref15_Same_1 (denE 110 call G v_ref15_Same n c_ref15_Same_b1) m1 (eBlock 0 (eSeq (denE 110 call G v_ref15_Same n c_ref15_Same_s2) (eEnd [.t 4])))))))
def R_ref15_Same_2 (call : Eng.Call) (G : Nat → AV) (n m2 : Nat) (o : Objs) (y3 y2 y7 : AV) : Out := roundsE k_ref15_Same_2 (denE 110 call G v_ref15_Same n c_ref15_Same_b2) m2 [y3, y2, y7] o (eBlock 4 (eSeq (denE 110 call G v_ref15_Same n c_ref15_Same_s1) (eEnd [.t 4])))
def R_ref15_Same_1 (call : Eng.Call) (G : Nat → AV) (n m1 : Nat) (o : Objs) (y5 y3 y2 : AV) : Out := roundsE k_ref15_Same_1 (denE 110 call G v_ref15_Same n c_ref15_Same_b1) m1 [y5, y3, y2] o (eBlock 0 (eSeq (denE 110 call G v_ref15_Same n c_ref15_Same_s2) (eEnd [.t 4])))
set_option maxRecDepth 100000 in
theorem R_ref15_Same_0_s (call : Eng.Call) (G : Nat → AV) (n m0 m1 : Nat) (o : Objs) (y5 y3 y2 y6 : AV) : R_ref15_Same_0 call G n (m0 + 1) m1 o y5 y3 y2 y6 =
 Xq (.fad (.c y2) 0) (fun x50 =>
 Xx call o 63 (.ld false 1 (.c x50)) (fun x51 ox51 =>
 Xq (.ias 2 (.c x51) (.c y5)) (fun x52 =>
 Xq (.fad (.c x52) 1) (fun x53 =>
 Xx call ox51 67 (.ld false 1 (.c x53)) (fun x54 ox54 =>
 Xq (.len false (.c x54)) (fun x55 =>
 Xq (.bin .lss (.c y6) (.c x55)) (fun x56 =>
 Xc x56 (fun _ =>
 Xq (.fad (.c y2) 0) (fun x57 =>
 Xp call ox54 73 (.ld false 1 (.c x57)) (fun x58 nx58 sx58 =>
 Xq (.ias 2 (.c x58) (.c y5)) (fun x59 =>
 Xq (.fad (.c x59) 1) (fun x60 =>
 Xp call ox54 77 (.ld false 1 (.c x60)) (fun x61 nx61 sx61 =>
 Xq (.ias 2 (.c x61) (.c y6)) (fun x62 =>
 Xp call ox54 80 (.ld true 2 (.c x62)) (fun x63 nx63 sx63 =>
 Xq (.fad (.c y3) 0) (fun x64 =>
 Xp call ox54 82 (.ld false 1 (.c x64)) (fun x65 nx65 sx65 =>
 Xq (.ias 2 (.c x65) (.c y5)) (fun x66 =>
 Xq (.fad (.c x66) 1) (fun x67 =>
 Xp call ox54 86 (.ld false 1 (.c x67)) (fun x68 nx68 sx68 =>
 Xq (.ias 2 (.c x68) (.c y6)) (fun x69 =>
 Xp call ox54 89 (.ld true 2 (.c x69)) (fun x70 nx70 sx70 =>
 Xq (.eqs true [2, 0] (.c x63) (.c x70)) (fun x71 =>
 Xc x71 (fun _ =>
 Xr (finO ox54 (nx58 ++ nx61 ++ nx63 ++ nx65 ++ nx68 ++ nx70) (sx58 ++ sx61 ++ sx63 ++ sx65 ++ sx68 ++ sx70)) [some (.v (.bool false))]) (fun _ =>
 Xq (.bin .add (.c y6) (.c (.v (.int .i64 1)))) (fun x72 =>
 R_ref15_Same_0 call G n m0 m1 (maskO k_ref15_Same_0 (finO ox54 (nx58 ++ nx61 ++ nx63 ++ nx65 ++ nx68 ++ nx70) (sx58 ++ sx61 ++ sx63 ++ sx65 ++ sx68 ++ sx70))) (msk k_ref15_Same_0 y5) (msk k_ref15_Same_0 y3) (msk k_ref15_Same_0 y2) (msk k_ref15_Same_0 x72)) ()) () ()) ()) ()) ()) ()) ()) ()) ()) ()) ()) ()) ()) ()) ()) ()) ()) (fun _ =>
 Xq (.bin .add (.c y5) (.c (.v (.int .i64 1)))) (fun x73 =>
 R_ref15_Same_1 call G n m1 (maskO k_ref15_Same_1 ox54) (msk k_ref15_Same_1 x73) (msk k_ref15_Same_1 y3) (msk k_ref15_Same_1 y2)) ()) () ()) ()) ()) ()) ()) ()) ()) () := by kernel_rfl
set_option maxRecDepth 100000 in
theorem R_ref15_Same_2_s (call : Eng.Call) (G : Nat → AV) (n m2 : Nat) (o : Objs) (y3 y2 y7 : AV) : R_ref15_Same_2 call G n (m2 + 1) o y3 y2 y7 =
 Xq (.fad (.c y2) 1) (fun x74 =>
 Xx call o 93 (.ld false 1 (.c x74)) (fun x75 ox75 =>
 Xq (.len false (.c x75)) (fun x76 =>
 Xq (.bin .lss (.c y7) (.c x76)) (fun x77 =>
 Xc x77 (fun _ =>
 Xq (.fad (.c y2) 1) (fun x78 =>
 Xp call ox75 99 (.ld false 1 (.c x78)) (fun x79 nx79 sx79 =>
 Xq (.ias 3 (.c x79) (.c y7)) (fun x80 =>
 Xp call ox75 102 (.ld true 3 (.c x80)) (fun x81 nx81 sx81 =>
 Xq (.fad (.c y3) 1) (fun x82 =>
 Xp call ox75 104 (.ld false 1 (.c x82)) (fun x83 nx83 sx83 =>
 Xq (.ias 3 (.c x83) (.c y7)) (fun x84 =>
 Xp call ox75 107 (.ld true 3 (.c x84)) (fun x85 nx85 sx85 =>
 Xx call (finO ox75 (nx79 ++ nx81 ++ nx83 ++ nx85) (sx79 ++ sx81 ++ sx83 ++ sx85)) 108 (.call false i_ref15_SameMessage [(.c x81), (.c x85)]) (fun x86 ox86 =>
 Xq (.not (.c x86)) (fun x87 =>
 Xc x87 (fun _ =>
 Xr ox86 [some (.v (.bool false))]) (fun _ =>
 Xq (.bin .add (.c y7) (.c (.v (.int .i64 1)))) (fun x88 =>
 R_ref15_Same_2 call G n m2 (maskO k_ref15_Same_2 ox86) (msk k_ref15_Same_2 y3) (msk k_ref15_Same_2 y2) (msk k_ref15_Same_2 x88)) ()) () ()) ()) ()) ()) ()) ()) ()) ()) ()) ()) ()) (fun _ =>
 Xr ox75 [some (.v (.bool true))]) () ()) ()) ()) ()) () := by kernel_rfl
set_option maxRecDepth 100000 in
theorem R_ref15_Same_1_s (call : Eng.Call) (G : Nat → AV) (n m1 : Nat) (o : Objs) (y5 y3 y2 : AV) : R_ref15_Same_1 call G n (m1 + 1) o y5 y3 y2 =
 Xq (.fad (.c y2) 0) (fun x19 =>
 Xx call o 26 (.ld false 1 (.c x19)) (fun x20 ox20 =>
 Xq (.len false (.c x20)) (fun x21 =>
 Xq (.bin .lss (.c y5) (.c x21)) (fun x22 =>
 Xc x22 (fun _ =>
 Xq (.fad (.c y2) 0) (fun x23 =>
 Xp call ox20 32 (.ld false 1 (.c x23)) (fun x24 nx24 sx24 =>
 Xq (.ias 2 (.c x24) (.c y5)) (fun x25 =>
 Xq (.fad (.c x25) 0) (fun x26 =>
 Xp call ox20 36 (.ld false 1 (.c x26)) (fun x27 nx27 sx27 =>
 Xq (.fad (.c y3) 0) (fun x28 =>
 Xp call ox20 38 (.ld false 1 (.c x28)) (fun x29 nx29 sx29 =>
 Xq (.ias 2 (.c x29) (.c y5)) (fun x30 =>
 Xq (.fad (.c x30) 0) (fun x31 =>
 Xp call ox20 42 (.ld false 1 (.c x31)) (fun x32 nx32 sx32 =>
 Xq (.bin .neq (.c x27) (.c x32)) (fun x33 =>
 Xgq x33 false (.fad (.c y2) 0) (fun x34 =>
 Xpg call x33 false ox20 46 (.ld false 1 (.c x34)) (fun x35 nx35 sx35 =>
 Xgq x33 false (.mv (.c y5)) (fun x36 =>
 Xgq x33 false (.ias 2 (.c x35) (.c x36)) (fun x37 =>
 Xgq x33 false (.fad (.c x37) 1) (fun x38 =>
 Xpg call x33 false ox20 50 (.ld false 1 (.c x38)) (fun x39 nx39 sx39 =>
 Xgq x33 false (.len false (.c x39)) (fun x40 =>
 Xgq x33 false (.fad (.c y3) 0) (fun x41 =>
 Xpg call x33 false ox20 53 (.ld false 1 (.c x41)) (fun x42 nx42 sx42 =>
 Xgq x33 false (.mv (.c y5)) (fun x43 =>
 Xgq x33 false (.ias 2 (.c x42) (.c x43)) (fun x44 =>
 Xgq x33 false (.fad (.c x44) 1) (fun x45 =>
 Xpg call x33 false ox20 57 (.ld false 1 (.c x45)) (fun x46 nx46 sx46 =>
 Xgq x33 false (.len false (.c x46)) (fun x47 =>
 Xgq x33 false (.bin .neq (.c x40) (.c x47)) (fun x48 =>
 Xq (.pick (.c x33) (.c (.v (.bool true))) (.c x48)) (fun x49 =>
 Xc x49 (fun _ =>
 Xr (finO ox20 (nx24 ++ nx27 ++ nx29 ++ nx32 ++ nx35 ++ nx39 ++ nx42 ++ nx46) (sx24 ++ sx27 ++ sx29 ++ sx32 ++ sx35 ++ sx39 ++ sx42 ++ sx46)) [some (.v (.bool false))]) (fun _ =>
 R_ref15_Same_0 call G n n m1 (maskO k_ref15_Same_0 (finO ox20 (nx24 ++ nx27 ++ nx29 ++ nx32 ++ nx35 ++ nx39 ++ nx42 ++ nx46) (sx24 ++ sx27 ++ sx29 ++ sx32 ++ sx35 ++ sx39 ++ sx42 ++ sx46))) (msk k_ref15_Same_0 y5) (msk k_ref15_Same_0 y3) (msk k_ref15_Same_0 y2) (msk k_ref15_Same_0 (.v (.int .i64 0)))) () ()) ()) ()) ()) ()) ()) ()) ()) ()) ()) ()) ()) ()) ()) ()) ()) ()) ()) ()) ()) ()) ()) ()) ()) ()) ()) ()) ()) (fun _ =>
 R_ref15_Same_2 call G n n (maskO k_ref15_Same_2 ox20) (msk k_ref15_Same_2 y3) (msk k_ref15_Same_2 y2) (msk k_ref15_Same_2 (.v (.int .i64 0)))) () ()) ()) ()) ()) () := by kernel_rfl
set_option maxRecDepth 100000 in
theorem s_ref15_Same (call : Eng.Call) (G : Nat → AV) (n : Nat) (x0 x1 : AV) : denFE call G v_ref15_Same n c_ref15_Same [x0, x1] =
 Xx call [] 2 (.box 2 [2, 3] (.c x0)) (fun x2 ox2 =>
 Xx call ox2 3 (.box 2 [2, 3] (.c x1)) (fun x3 ox3 =>
 Xq (.fad (.c x2) 0) (fun x4 =>
 Xx call ox3 9 (.ld false 1 (.c x4)) (fun x5 ox5 =>
 Xq (.len false (.c x5)) (fun x6 =>
 Xq (.fad (.c x3) 0) (fun x7 =>
 Xx call ox5 12 (.ld false 1 (.c x7)) (fun x8 ox8 =>
 Xq (.len false (.c x8)) (fun x9 =>
 Xq (.bin .neq (.c x6) (.c x9)) (fun x10 =>
 Xgq x10 false (.fad (.c x2) 1) (fun x11 =>
 Xxg call x10 false ox8 17 (.ld false 1 (.c x11)) (fun x12 ox12 =>
 Xgq x10 false (.len false (.c x12)) (fun x13 =>
 Xgq x10 false (.fad (.c x3) 1) (fun x14 =>
 Xxg call x10 false ox12 20 (.ld false 1 (.c x14)) (fun x15 ox15 =>
 Xgq x10 false (.len false (.c x15)) (fun x16 =>
 Xgq x10 false (.bin .neq (.c x13) (.c x16)) (fun x17 =>
 Xq (.pick (.c x10) (.c (.v (.bool true))) (.c x17)) (fun x18 =>
 Xc x18 (fun _ =>
 Xr ox15 [some (.v (.bool false))]) (fun _ =>
 R_ref15_Same_1 call G n n (maskO k_ref15_Same_1 ox15) (msk k_ref15_Same_1 (.v (.int .i64 0))) (msk k_ref15_Same_1 x3) (msk k_ref15_Same_1 x2)) () ()) ()) ()) ()) ()) ()) ()) ()) ()) ()) ()) ()) ()) ()) ()) ()) ()) () := by kernel_rfl
def c_schema_many : CF := ⟨1, 19,
  .seq (.reg [] [
  ⟨(some 1), none, .box 2 [2, 3] (.t 0)⟩,
  ⟨(some 2), none, .mv (.c (.v (.bool false)))⟩]) (
  .seq (.seq (.reg [] [
  ⟨(some 3), none, .fad (.t 1) 0⟩,
  ⟨(some 4), none, .ld false 1 (.t 3)⟩,
  ⟨(some 5), none, .len false (.t 4)⟩,
  ⟨(some 6), none, .bin .gtr (.t 5) (.c (.v (.int .i64 3)))⟩,
  ⟨(some 7), none, .mv (.t 6)⟩,
  ⟨(some 8), (some (7, false)), .fad (.t 1) 1⟩,
  ⟨(some 9), (some (7, false)), .ld false 1 (.t 8)⟩,
  ⟨(some 10), (some (7, false)), .len false (.t 9)⟩,
  ⟨(some 11), (some (7, false)), .bin .gtr (.t 10) (.c (.v (.int .i64 6)))⟩,
  ⟨(some 12), none, .pick (.t 7) (.c (.v (.bool true))) (.t 11)⟩]) (
  .cond (.t 12) (
  .seq (.reg [] [
  ⟨(some 2), none, .mv (.c (.v (.bool true)))⟩]) (
  .ret)) (
  .skip))) (
  .seq (.reg [] [
  ⟨(some 13), none, .ld true 2 (.t 1)⟩,
  ⟨(some 14), none, .call false i_schema_eachEnum [(.t 13), (.c (.fn i_schema_many_1 []))]⟩,
  ⟨(some 15), none, .mv (.t 14)⟩,
  ⟨(some 16), (some (15, false)), .ld true 2 (.t 1)⟩,
  ⟨(some 17), (some (15, false)), .call false i_schema_eachMessage [(.t 16), (.c (.fn i_schema_many_2 []))]⟩,
  ⟨(some 18), none, .pick (.t 15) (.c (.v (.bool true))) (.t 17)⟩,
  ⟨(some 2), none, .mv (.t 18)⟩]) (
  .ret))),
  [.t 2]⟩
def v_schema_many : List Nat := []
set_option maxRecDepth 100000 in
theorem s_schema_many (call : Eng.Call) (G : Nat → AV) (n : Nat) (x0 : AV) : denFE call G v_schema_many n c_schema_many [x0] =
 Xx call [] 1 (.box 2 [2, 3] (.c x0)) (fun x1 ox1 =>
 Xq (.fad (.c x1) 0) (fun x2 =>
 Xx call ox1 4 (.ld false 1 (.c x2)) (fun x3 ox3 =>
 Xq (.len false (.c x3)) (fun x4 =>
 Xq (.bin .gtr (.c x4) (.c (.v (.int .i64 3)))) (fun x5 =>
 Xgq x5 false (.fad (.c x1) 1) (fun x6 =>
 Xxg call x5 false ox3 9 (.ld false 1 (.c x6)) (fun x7 ox7 =>
 Xgq x5 false (.len false (.c x7)) (fun x8 =>
 Xgq x5 false (.bin .gtr (.c x8) (.c (.v (.int .i64 6)))) (fun x9 =>
 Xq (.pick (.c x5) (.c (.v (.bool true))) (.c x9)) (fun x10 =>
 Xc x10 (fun _ =>
 Xr ox7 [some (.v (.bool true))]) (fun _ =>
 Xx call ox7 13 (.ld true 2 (.c x1)) (fun x11 ox11 =>
 Xx call ox11 14 (.call false i_schema_eachEnum [(.c x11), (.c (.fn i_schema_many_1 []))]) (fun x12 ox12 =>
 Xxg call x12 false ox12 16 (.ld true 2 (.c x1)) (fun x13 ox13 =>
 Xxg call x12 false ox13 17 (.call false i_schema_eachMessage [(.c x13), (.c (.fn i_schema_many_2 []))]) (fun x14 ox14 =>
 Xq (.pick (.c x12) (.c (.v (.bool true))) (.c x14)) (fun x15 =>
 Xr ox14 [some x15]) ()) ()) ()) ()) ()) () ()) ()) ()) ()) ()) ()) ()) ()) ()) ()) () := by kernel_rfl
def c_schema_none : CF := ⟨1, 11,
  .seq (.reg [] [
  ⟨(some 1), none, .box 2 [2, 3] (.t 0)⟩,
  ⟨(some 2), none, .mv (.c (.v (.bool false)))⟩]) (
  .seq (.reg [] [
  ⟨(some 3), none, .fad (.t 1) 1⟩,
  ⟨(some 4), none, .ld false 1 (.t 3)⟩,
  ⟨(some 5), none, .len false (.t 4)⟩,
  ⟨(some 6), none, .bin .eql (.t 5) (.c (.v (.int .i64 0)))⟩,
  ⟨(some 7), none, .mv (.t 6)⟩,
  ⟨(some 8), (some (7, false)), .ld true 2 (.t 1)⟩,
  ⟨(some 9), (some (7, false)), .call false i_schema_eachEnum [(.t 8), (.c (.fn i_schema_none_1 []))]⟩,
  ⟨(some 10), none, .pick (.t 7) (.c (.v (.bool true))) (.t 9)⟩,
  ⟨(some 2), none, .mv (.t 10)⟩]) (
  .ret)),
  [.t 2]⟩
def v_schema_none : List Nat := []
set_option maxRecDepth 100000 in
theorem s_schema_none (call : Eng.Call) (G : Nat → AV) (n : Nat) (x0 : AV) : denFE call G v_schema_none n c_schema_none [x0] =
 Xx call [] 1 (.box 2 [2, 3] (.c x0)) (fun x1 ox1 =>
 Xq (.fad (.c x1) 1) (fun x2 =>
 Xx call ox1 4 (.ld false 1 (.c x2)) (fun x3 ox3 =>
 Xq (.len false (.c x3)) (fun x4 =>
 Xq (.bin .eql (.c x4) (.c (.v (.int .i64 0)))) (fun x5 =>
 Xxg call x5 false ox3 8 (.ld true 2 (.c x1)) (fun x6 ox6 =>
 Xxg call x5 false ox6 9 (.call false i_schema_eachEnum [(.c x6), (.c (.fn i_schema_none_1 []))]) (fun x7 ox7 =>
 Xq (.pick (.c x5) (.c (.v (.bool true))) (.c x7)) (fun x8 =>
 Xr ox7 [some x8]) ()) ()) ()) ()) ()) ()) ()) () := by kernel_rfl
def c_schema_misnamed : CF := ⟨1, 12,
  .seq (.reg [] [
  ⟨(some 1), none, .box 2 [2, 3] (.t 0)⟩,
  ⟨(some 2), none, .mv (.c (.v (.bool false)))⟩]) (
  .seq (.reg [] [
  ⟨(some 3), none, .alloc [(.v .nilFunc)] [0]⟩,
  ⟨none, none, .st 1 (.t 3) (.c (.fn i_schema_misnamed_1 []))⟩]) (
  .seq (.reg [] [
  ⟨(some 4), none, .ld true 2 (.t 1)⟩,
  ⟨(some 5), none, .mkf i_schema_misnamed_2 [(.t 3)]⟩,
  ⟨(some 6), none, .call false i_schema_eachEnum [(.t 4), (.t 5)]⟩,
  ⟨(some 7), none, .mv (.t 6)⟩,
  ⟨(some 8), (some (7, false)), .ld true 2 (.t 1)⟩,
  ⟨(some 9), (some (7, false)), .mkf i_schema_misnamed_3 [(.t 3)]⟩,
  ⟨(some 10), (some (7, false)), .call false i_schema_eachMessage [(.t 8), (.t 9)]⟩,
  ⟨(some 11), none, .pick (.t 7) (.c (.v (.bool true))) (.t 10)⟩,
  ⟨(some 2), none, .mv (.t 11)⟩]) (
  .ret))),
  [.t 2]⟩
def v_schema_misnamed : List Nat := [3]
set_option maxRecDepth 100000 in
theorem s_schema_misnamed (call : Eng.Call) (G : Nat → AV) (n : Nat) (x0 : AV) : denFE call G v_schema_misnamed n c_schema_misnamed [x0] =
 Xx call [] 1 (.box 2 [2, 3] (.c x0)) (fun x1 ox1 =>
 Xx call ox1 3 (.alloc [(.v .nilFunc)] [0]) (fun x2 ox2 =>
 Xv ox2 1 x2 (.fn i_schema_misnamed_1 []) (fun ox3 =>
 Xx call ox3 4 (.ld true 2 (.c x1)) (fun x4 ox4 =>
 Xx call ox4 5 (.mkf i_schema_misnamed_2 [(.c x2)]) (fun x5 ox5 =>
 Xx call ox5 6 (.call false i_schema_eachEnum [(.c x4), (.c x5)]) (fun x6 ox6 =>
 Xxg call x6 false ox6 8 (.ld true 2 (.c x1)) (fun x7 ox7 =>
 Xxg call x6 false ox7 9 (.mkf i_schema_misnamed_3 [(.c x2)]) (fun x8 ox8 =>
 Xxg call x6 false ox8 10 (.call false i_schema_eachMessage [(.c x7), (.c x8)]) (fun x9 ox9 =>
 Xq (.pick (.c x6) (.c (.v (.bool true))) (.c x9)) (fun x10 =>
 Xr ox9 [some x10]) ()) ()) ()) ()) ()) ()) ()) ()) ()) () := by kernel_rfl
def k_schema_fields_0 : List Nat := [16, 9, 10, 11, 17, 18, 1, 4]
def c_schema_fields_b0 : CC := .seq (.reg [] [
  ⟨(some 19), none, .bin .lss (.t 18) (.t 17)⟩]) (
  .seq (.cond (.t 19) (
  .skip) (
  .exit 2)) (
  .seq (.block 3 (
  .seq (.reg [] [
  ⟨(some 20), none, .ias 7 (.t 16) (.t 18)⟩,
  ⟨(some 21), none, .ld true 7 (.t 20)⟩,
  ⟨(some 6), none, .alloc [(.v (.string ⟨#[]⟩)), (.v (.int .i64 0)), (.v (.int .i64 0)), (.v (.string ⟨#[]⟩)), (.v (.bool false)), (.v (.bool false)), (.v (.string ⟨#[]⟩))] [0, 0, 0, 0, 0, 0, 0]⟩,
  ⟨none, none, .st 7 (.t 6) (.t 21)⟩]) (
  .seq (.reg [] [
  ⟨(some 22), none, .ld true 7 (.t 6)⟩,
  ⟨(some 23), none, .call false i_field_Check [(.t 22)]⟩,
  ⟨(some 7), none, .mv (.t 23)⟩]) (
  .seq (.reg [] [
  ⟨(some 24), none, .mv (.t 7)⟩,
  ⟨(some 25), none, .bin .neq (.t 24) (.c (.v (.int .i64 0)))⟩]) (
  .cond (.t 25) (
  .seq (.reg [] [
  ⟨(some 26), none, .mv (.t 7)⟩,
  ⟨(some 2), none, .mv (.t 26)⟩]) (
  .ret)) (
  .skip)))))) (
  .reg [] [
  ⟨(some 27), none, .bin .add (.t 18) (.c (.v (.int .i64 1)))⟩,
  ⟨(some 18), none, .mv (.t 27)⟩])))
def c_schema_fields_s0 : CC := .reg [] [
  ⟨(some 28), none, .bin .add (.t 11) (.c (.v (.int .i64 1)))⟩,
  ⟨(some 11), none, .mv (.t 28)⟩]
def k_schema_fields_1 : List Nat := [9, 10, 11, 1]
def c_schema_fields_b1 : CC := .seq (.reg [] [
  ⟨(some 12), none, .bin .lss (.t 11) (.t 10)⟩]) (
  .seq (.cond (.t 12) (
  .skip) (
  .exit 0)) (
  .seq (.block 1 (
  .seq (.reg [] [
  ⟨(some 13), none, .ias 3 (.t 9) (.t 11)⟩,
  ⟨(some 14), none, .ld true 3 (.t 13)⟩,
  ⟨(some 4), none, .alloc [(.v (.string ⟨#[]⟩)), .nilsl, .nilsl] [0, 7, 1]⟩,
  ⟨none, none, .st 3 (.t 4) (.t 14)⟩]) (
  .seq (.reg [] [
  ⟨(some 15), none, .fad (.t 4) 1⟩,
  ⟨(some 16), none, .ld false 1 (.t 15)⟩,
  ⟨(some 17), none, .len false (.t 16)⟩,
  ⟨(some 18), none, .mv (.c (.v (.int .i64 0)))⟩]) (
  .block 2 (
  .loop k_schema_fields_0 c_schema_fields_b0))))) c_schema_fields_s0))
def c_schema_fields_s1 : CC := .seq (.reg [] [
  ⟨(some 2), none, .mv (.c (.v (.int .i64 0)))⟩]) (
  .ret)
def c_schema_fields : CF := ⟨1, 29,
  .seq (.reg [] [
  ⟨(some 1), none, .box 2 [2, 3] (.t 0)⟩,
  ⟨(some 2), none, .mv (.c (.v (.int .i64 0)))⟩]) (
  .seq (.seq (.reg [] [
  ⟨(some 8), none, .fad (.t 1) 1⟩,
  ⟨(some 9), none, .ld false 1 (.t 8)⟩,
  ⟨(some 10), none, .len false (.t 9)⟩,
  ⟨(some 11), none, .mv (.c (.v (.int .i64 0)))⟩]) (
  .block 0 (
  .loop k_schema_fields_1 c_schema_fields_b1))) c_schema_fields_s1),
  [.t 2]⟩
def v_schema_fields : List Nat := [4, 6]
def R_schema_fields_0 (call : Eng.Call) (G : Nat → AV) (n m0 m1 : Nat) (o : Objs) (y16 y9 y10 y11 y17 y18 y1 y4 : AV) : Out := roundsE k_schema_fields_0 (denE 29 call G v_schema_fields n c_schema_fields_b0) m0 [y16, y9, y10, y11, y17, y18, y1, y4] o (eBlock 2 (eBlock 1 (eSeq (denE 29 call G v_schema_fields n c_schema_fields_s0) (eLoop k_schema_fields_1 (denE 29 call G v_schema_fields n c_schema_fields_b1) m1 (eBlock 0 (eSeq (denE 29 call G v_schema_fields n c_schema_fields_s1) (eEnd [.t 2])))))))
def R_schema_fields_1 (call : Eng.Call) (G : Nat → AV) (n m1 : Nat) (o : Objs) (y9 y10 y11 y1 : AV) : Out := roundsE k_schema_fields_1 (denE 29 call G v_schema_fields n c_schema_fields_b1) m1 [y9, y10, y11, y1] o (eBlock 0 (eSeq (denE 29 call G v_schema_fields n c_schema_fields_s1) (eEnd [.t 2])))
set_option maxRecDepth 100000 in
theorem R_schema_fields_0_s (call : Eng.Call) (G : Nat → AV) (n m0 m1 : Nat) (o : Objs) (y16 y9 y10 y11 y17 y18 y1 y4 : AV) : R_schema_fields_0 call G n (m0 + 1) m1 o y16 y9 y10 y11 y17 y18 y1 y4 =
 Xq (.bin .lss (.c y18) (.c y17)) (fun x13 =>
 Xc x13 (fun _ =>
 Xq (.ias 7 (.c y16) (.c y18)) (fun x14 =>
 Xx call o 21 (.ld true 7 (.c x14)) (fun x15 ox15 =>
 Xx call ox15 6 (.alloc [(.v (.string ⟨#[]⟩)), (.v (.int .i64 0)), (.v (.int .i64 0)), (.v (.string ⟨#[]⟩)), (.v (.bool false)), (.v (.bool false)), (.v (.string ⟨#[]⟩))] [0, 0, 0, 0, 0, 0, 0]) (fun x16 ox16 =>
 Xv ox16 7 x16 x15 (fun ox17 =>
 Xx call ox17 22 (.ld true 7 (.c x16)) (fun x18 ox18 =>
 Xx call ox18 23 (.call false i_field_Check [(.c x18)]) (fun x19 ox19 =>
 Xq (.bin .neq (.c x19) (.c (.v (.int .i64 0)))) (fun x20 =>
 Xc x20 (fun _ =>
 Xr ox19 [some x19]) (fun _ =>
 Xq (.bin .add (.c y18) (.c (.v (.int .i64 1)))) (fun x21 =>
 R_schema_fields_0 call G n m0 m1 (maskO k_schema_fields_0 ox19) (msk k_schema_fields_0 y16) (msk k_schema_fields_0 y9) (msk k_schema_fields_0 y10) (msk k_schema_fields_0 y11) (msk k_schema_fields_0 y17) (msk k_schema_fields_0 x21) (msk k_schema_fields_0 y1) (msk k_schema_fields_0 y4)) ()) () ()) ()) ()) ()) ()) ()) ()) ()) (fun _ =>
 Xq (.bin .add (.c y11) (.c (.v (.int .i64 1)))) (fun x22 =>
 R_schema_fields_1 call G n m1 (maskO k_schema_fields_1 o) (msk k_schema_fields_1 y9) (msk k_schema_fields_1 y10) (msk k_schema_fields_1 x22) (msk k_schema_fields_1 y1)) ()) () ()) () := by kernel_rfl
set_option maxRecDepth 100000 in
theorem R_schema_fields_1_s (call : Eng.Call) (G : Nat → AV) (n m1 : Nat) (o : Objs) (y9 y10 y11 y1 : AV) : R_schema_fields_1 call G n (m1 + 1) o y9 y10 y11 y1 =
 Xq (.bin .lss (.c y11) (.c y10)) (fun x5 =>
 Xc x5 (fun _ =>
 Xq (.ias 3 (.c y9) (.c y11)) (fun x6 =>
 Xx call o 14 (.ld true 3 (.c x6)) (fun x7 ox7 =>
 Xx call ox7 4 (.alloc [(.v (.string ⟨#[]⟩)), .nilsl, .nilsl] [0, 7, 1]) (fun x8 ox8 =>
 Xv ox8 3 x8 x7 (fun ox9 =>
 Xq (.fad (.c x8) 1) (fun x10 =>
 Xx call ox9 16 (.ld false 1 (.c x10)) (fun x11 ox11 =>
 Xq (.len false (.c x11)) (fun x12 =>
 R_schema_fields_0 call G n n m1 (maskO k_schema_fields_0 ox11) (msk k_schema_fields_0 x11) (msk k_schema_fields_0 y9) (msk k_schema_fields_0 y10) (msk k_schema_fields_0 y11) (msk k_schema_fields_0 x12) (msk k_schema_fields_0 (.v (.int .i64 0))) (msk k_schema_fields_0 y1) (msk k_schema_fields_0 x8)) ()) ()) ()) ()) ()) ()) ()) (fun _ =>
 Xr o [some (.v (.int .i64 0))]) () ()) () := by kernel_rfl
set_option maxRecDepth 100000 in
theorem s_schema_fields (call : Eng.Call) (G : Nat → AV) (n : Nat) (x0 : AV) : denFE call G v_schema_fields n c_schema_fields [x0] =
 Xx call [] 1 (.box 2 [2, 3] (.c x0)) (fun x1 ox1 =>
 Xq (.fad (.c x1) 1) (fun x2 =>
 Xx call ox1 9 (.ld false 1 (.c x2)) (fun x3 ox3 =>
 Xq (.len false (.c x3)) (fun x4 =>
 R_schema_fields_1 call G n n (maskO k_schema_fields_1 ox3) (msk k_schema_fields_1 x3) (msk k_schema_fields_1 x4) (msk k_schema_fields_1 (.v (.int .i64 0))) (msk k_schema_fields_1 x1)) ()) ()) ()) () := by kernel_rfl
def c_schema_twice : CF := ⟨1, 24,
  .seq (.reg [] [
  ⟨(some 1), none, .box 2 [2, 3] (.t 0)⟩,
  ⟨(some 2), none, .mv (.c (.v (.bool false)))⟩]) (
  .seq (.reg [] [
  ⟨(some 6), none, .ld true 2 (.t 1)⟩,
  ⟨(some 7), none, .call false i_schema_names [(.t 6)]⟩,
  ⟨(some 5), none, .mv (.t 7)⟩,
  ⟨(some 8), none, .ext (.t 5) 0⟩,
  ⟨(some 9), none, .ext (.t 5) 1⟩,
  ⟨(some 3), none, .mv (.t 8)⟩,
  ⟨(some 4), none, .mv (.t 9)⟩]) (
  .seq (.reg [] [
  ⟨(some 10), none, .mv (.t 3)⟩,
  ⟨(some 11), none, .mv (.t 4)⟩,
  ⟨(some 12), none, .bsl 2 1 [(.fsl [])] [(0, (.t 10)), (1, (.t 11))]⟩,
  ⟨(some 13), none, .call false i_slices_Concat_Lstring_string_ [(.t 12)]⟩,
  ⟨(some 14), none, .call false i_ident_Once [(.t 13)]⟩,
  ⟨(some 15), none, .not (.t 14)⟩,
  ⟨(some 16), none, .mv (.t 15)⟩,
  ⟨(some 17), (some (16, false)), .ld true 2 (.t 1)⟩,
  ⟨(some 18), (some (16, false)), .call false i_schema_eachEnum [(.t 17), (.c (.fn i_schema_twice_1 []))]⟩,
  ⟨(some 19), none, .pick (.t 16) (.c (.v (.bool true))) (.t 18)⟩,
  ⟨(some 20), none, .mv (.t 19)⟩,
  ⟨(some 21), (some (20, false)), .ld true 2 (.t 1)⟩,
  ⟨(some 22), (some (20, false)), .call false i_schema_eachMessage [(.t 21), (.c (.fn i_schema_twice_2 []))]⟩,
  ⟨(some 23), none, .pick (.t 20) (.c (.v (.bool true))) (.t 22)⟩,
  ⟨(some 2), none, .mv (.t 23)⟩]) (
  .ret))),
  [.t 2]⟩
def v_schema_twice : List Nat := []
set_option maxRecDepth 100000 in
theorem s_schema_twice (call : Eng.Call) (G : Nat → AV) (n : Nat) (x0 : AV) : denFE call G v_schema_twice n c_schema_twice [x0] =
 Xx call [] 1 (.box 2 [2, 3] (.c x0)) (fun x1 ox1 =>
 Xx call ox1 6 (.ld true 2 (.c x1)) (fun x2 ox2 =>
 Xx call ox2 7 (.call false i_schema_names [(.c x2)]) (fun x3 ox3 =>
 Xq (.ext (.c x3) 0) (fun x4 =>
 Xq (.ext (.c x3) 1) (fun x5 =>
 Xx call ox3 12 (.bsl 2 1 [(.fsl [])] [(0, (.c x4)), (1, (.c x5))]) (fun x6 ox6 =>
 Xx call ox6 13 (.call false i_slices_Concat_Lstring_string_ [(.c x6)]) (fun x7 ox7 =>
 Xx call ox7 14 (.call false i_ident_Once [(.c x7)]) (fun x8 ox8 =>
 Xq (.not (.c x8)) (fun x9 =>
 Xxg call x9 false ox8 17 (.ld true 2 (.c x1)) (fun x10 ox10 =>
 Xxg call x9 false ox10 18 (.call false i_schema_eachEnum [(.c x10), (.c (.fn i_schema_twice_1 []))]) (fun x11 ox11 =>
 Xq (.pick (.c x9) (.c (.v (.bool true))) (.c x11)) (fun x12 =>
 Xxg call x12 false ox11 21 (.ld true 2 (.c x1)) (fun x13 ox13 =>
 Xxg call x12 false ox13 22 (.call false i_schema_eachMessage [(.c x13), (.c (.fn i_schema_twice_2 []))]) (fun x14 ox14 =>
 Xq (.pick (.c x12) (.c (.v (.bool true))) (.c x14)) (fun x15 =>
 Xr ox14 [some x15]) ()) ()) ()) ()) ()) ()) ()) ()) ()) ()) ()) ()) ()) ()) () := by kernel_rfl
def c_schema_disordered : CF := ⟨1, 27,
  .seq (.reg [] [
  ⟨(some 1), none, .box 2 [2, 3] (.t 0)⟩,
  ⟨(some 2), none, .mv (.c (.v (.bool false)))⟩]) (
  .seq (.reg [] [
  ⟨(some 6), none, .ld true 2 (.t 1)⟩,
  ⟨(some 7), none, .call false i_schema_names [(.t 6)]⟩,
  ⟨(some 5), none, .mv (.t 7)⟩,
  ⟨(some 8), none, .ext (.t 5) 0⟩,
  ⟨(some 9), none, .ext (.t 5) 1⟩,
  ⟨(some 3), none, .mv (.t 8)⟩,
  ⟨(some 4), none, .mv (.t 9)⟩]) (
  .seq (.reg [] [
  ⟨(some 10), none, .mv (.t 3)⟩,
  ⟨(some 11), none, .call false i_ident_Rise [(.t 10)]⟩,
  ⟨(some 12), none, .not (.t 11)⟩,
  ⟨(some 13), none, .mv (.t 12)⟩,
  ⟨(some 14), (some (13, false)), .mv (.t 4)⟩,
  ⟨(some 15), (some (13, false)), .slc 1 (.t 14) (some (.c (.v (.int .i64 1)))) none⟩,
  ⟨(some 16), (some (13, false)), .call false i_ident_Rise [(.t 15)]⟩,
  ⟨(some 17), (some (13, false)), .not (.t 16)⟩,
  ⟨(some 18), none, .pick (.t 13) (.c (.v (.bool true))) (.t 17)⟩,
  ⟨(some 19), none, .mv (.t 18)⟩,
  ⟨(some 20), (some (19, false)), .ld true 2 (.t 1)⟩,
  ⟨(some 21), (some (19, false)), .call false i_schema_eachEnum [(.t 20), (.c (.fn i_schema_disordered_1 []))]⟩,
  ⟨(some 22), none, .pick (.t 19) (.c (.v (.bool true))) (.t 21)⟩,
  ⟨(some 23), none, .mv (.t 22)⟩,
  ⟨(some 24), (some (23, false)), .ld true 2 (.t 1)⟩,
  ⟨(some 25), (some (23, false)), .call false i_schema_eachMessage [(.t 24), (.c (.fn i_schema_disordered_2 []))]⟩,
  ⟨(some 26), none, .pick (.t 23) (.c (.v (.bool true))) (.t 25)⟩,
  ⟨(some 2), none, .mv (.t 26)⟩]) (
  .ret))),
  [.t 2]⟩
def v_schema_disordered : List Nat := []
set_option maxRecDepth 100000 in
theorem s_schema_disordered (call : Eng.Call) (G : Nat → AV) (n : Nat) (x0 : AV) : denFE call G v_schema_disordered n c_schema_disordered [x0] =
 Xx call [] 1 (.box 2 [2, 3] (.c x0)) (fun x1 ox1 =>
 Xx call ox1 6 (.ld true 2 (.c x1)) (fun x2 ox2 =>
 Xx call ox2 7 (.call false i_schema_names [(.c x2)]) (fun x3 ox3 =>
 Xq (.ext (.c x3) 0) (fun x4 =>
 Xq (.ext (.c x3) 1) (fun x5 =>
 Xx call ox3 11 (.call false i_ident_Rise [(.c x4)]) (fun x6 ox6 =>
 Xq (.not (.c x6)) (fun x7 =>
 Xgq x7 false (.mv (.c x5)) (fun x8 =>
 Xxg call x7 false ox6 15 (.slc 1 (.c x8) (some (.c (.v (.int .i64 1)))) none) (fun x9 ox9 =>
 Xxg call x7 false ox9 16 (.call false i_ident_Rise [(.c x9)]) (fun x10 ox10 =>
 Xgq x7 false (.not (.c x10)) (fun x11 =>
 Xq (.pick (.c x7) (.c (.v (.bool true))) (.c x11)) (fun x12 =>
 Xxg call x12 false ox10 20 (.ld true 2 (.c x1)) (fun x13 ox13 =>
 Xxg call x12 false ox13 21 (.call false i_schema_eachEnum [(.c x13), (.c (.fn i_schema_disordered_1 []))]) (fun x14 ox14 =>
 Xq (.pick (.c x12) (.c (.v (.bool true))) (.c x14)) (fun x15 =>
 Xxg call x15 false ox14 24 (.ld true 2 (.c x1)) (fun x16 ox16 =>
 Xxg call x15 false ox16 25 (.call false i_schema_eachMessage [(.c x16), (.c (.fn i_schema_disordered_2 []))]) (fun x17 ox17 =>
 Xq (.pick (.c x15) (.c (.v (.bool true))) (.c x17)) (fun x18 =>
 Xr ox17 [some x18]) ()) ()) ()) ()) ()) ()) ()) ()) ()) ()) ()) ()) ()) ()) ()) ()) ()) () := by kernel_rfl
def c_schema_barred : CF := ⟨1, 5,
  .seq (.reg [] [
  ⟨(some 1), none, .box 2 [2, 3] (.t 0)⟩,
  ⟨(some 2), none, .mv (.c (.v (.bool false)))⟩]) (
  .seq (.reg [] [
  ⟨(some 3), none, .ld true 2 (.t 1)⟩,
  ⟨(some 4), none, .call false i_schema_eachMessage [(.t 3), (.c (.fn i_schema_barred_1 []))]⟩,
  ⟨(some 2), none, .mv (.t 4)⟩]) (
  .ret)),
  [.t 2]⟩
def v_schema_barred : List Nat := []
set_option maxRecDepth 100000 in
theorem s_schema_barred (call : Eng.Call) (G : Nat → AV) (n : Nat) (x0 : AV) : denFE call G v_schema_barred n c_schema_barred [x0] =
 Xx call [] 1 (.box 2 [2, 3] (.c x0)) (fun x1 ox1 =>
 Xx call ox1 3 (.ld true 2 (.c x1)) (fun x2 ox2 =>
 Xx call ox2 4 (.call false i_schema_eachMessage [(.c x2), (.c (.fn i_schema_barred_1 []))]) (fun x3 ox3 =>
 Xr ox3 [some x3]) ()) ()) () := by kernel_rfl
def c_schema_lost : CF := ⟨1, 13,
  .seq (.reg [] [
  ⟨(some 1), none, .box 2 [2, 3] (.t 0)⟩,
  ⟨(some 2), none, .mv (.c (.v (.bool false)))⟩]) (
  .seq (.reg [] [
  ⟨(some 6), none, .ld true 2 (.t 1)⟩,
  ⟨(some 7), none, .call false i_schema_names [(.t 6)]⟩,
  ⟨(some 5), none, .mv (.t 7)⟩,
  ⟨(some 8), none, .ext (.t 5) 0⟩,
  ⟨(some 9), none, .ext (.t 5) 1⟩,
  ⟨(some 3), none, .alloc [.nilsl] [1]⟩,
  ⟨(some 4), none, .alloc [.nilsl] [1]⟩,
  ⟨none, none, .st 1 (.t 3) (.t 8)⟩,
  ⟨none, none, .st 1 (.t 4) (.t 9)⟩]) (
  .seq (.reg [] [
  ⟨(some 10), none, .ld true 2 (.t 1)⟩,
  ⟨(some 11), none, .mkf i_schema_lost_1 [(.t 3), (.t 4)]⟩,
  ⟨(some 12), none, .call false i_schema_eachMessage [(.t 10), (.t 11)]⟩,
  ⟨(some 2), none, .mv (.t 12)⟩]) (
  .ret))),
  [.t 2]⟩
def v_schema_lost : List Nat := [3, 4]
set_option maxRecDepth 100000 in
theorem s_schema_lost (call : Eng.Call) (G : Nat → AV) (n : Nat) (x0 : AV) : denFE call G v_schema_lost n c_schema_lost [x0] =
 Xx call [] 1 (.box 2 [2, 3] (.c x0)) (fun x1 ox1 =>
 Xx call ox1 6 (.ld true 2 (.c x1)) (fun x2 ox2 =>
 Xx call ox2 7 (.call false i_schema_names [(.c x2)]) (fun x3 ox3 =>
 Xq (.ext (.c x3) 0) (fun x4 =>
 Xq (.ext (.c x3) 1) (fun x5 =>
 Xx call ox3 3 (.alloc [.nilsl] [1]) (fun x6 ox6 =>
 Xx call ox6 4 (.alloc [.nilsl] [1]) (fun x7 ox7 =>
 Xv ox7 1 x6 x4 (fun ox8 =>
 Xv ox8 1 x7 x5 (fun ox9 =>
 Xx call ox9 10 (.ld true 2 (.c x1)) (fun x10 ox10 =>
 Xx call ox10 11 (.mkf i_schema_lost_1 [(.c x6), (.c x7)]) (fun x11 ox11 =>
 Xx call ox11 12 (.call false i_schema_eachMessage [(.c x10), (.c x11)]) (fun x12 ox12 =>
 Xr ox12 [some x12]) ()) ()) ()) ()) ()) ()) ()) ()) ()) ()) ()) () := by kernel_rfl
def k_ref15_many_0 : List Nat := [1, 4, 3]
def c_ref15_many_b0 : CC := .seq (.seq (.reg [] [
  ⟨(some 16), none, .mv (.t 4)⟩,
  ⟨(some 17), none, .fad (.t 1) 0⟩,
  ⟨(some 18), none, .ld false 1 (.t 17)⟩,
  ⟨(some 19), none, .len false (.t 18)⟩,
  ⟨(some 20), none, .bin .lss (.t 16) (.t 19)⟩]) (
  .cond (.t 20) (
  .skip) (
  .exit 0))) (
  .seq (.block 1 (
  .reg [] [
  ⟨(some 23), none, .mv (.t 3)⟩,
  ⟨(some 24), none, .mv (.t 23)⟩,
  ⟨(some 25), (some (24, false)), .fad (.t 1) 0⟩,
  ⟨(some 26), (some (24, false)), .ld false 1 (.t 25)⟩,
  ⟨(some 27), (some (24, false)), .mv (.t 4)⟩,
  ⟨(some 28), (some (24, false)), .ias 2 (.t 26) (.t 27)⟩,
  ⟨(some 29), (some (24, false)), .fad (.t 28) 1⟩,
  ⟨(some 30), (some (24, false)), .ld false 1 (.t 29)⟩,
  ⟨(some 31), (some (24, false)), .len false (.t 30)⟩,
  ⟨(some 32), (some (24, false)), .bin .gtr (.t 31) (.c (.v (.int .i64 8)))⟩,
  ⟨(some 33), none, .pick (.t 24) (.c (.v (.bool true))) (.t 32)⟩,
  ⟨(some 3), none, .mv (.t 33)⟩])) (
  .reg [] [
  ⟨(some 21), none, .mv (.t 4)⟩,
  ⟨(some 22), none, .bin .add (.t 21) (.c (.v (.int .i64 1)))⟩,
  ⟨(some 4), none, .mv (.t 22)⟩]))
def k_ref15_many_1 : List Nat := [1, 5, 3]
def c_ref15_many_b1 : CC := .seq (.seq (.reg [] [
  ⟨(some 34), none, .mv (.t 5)⟩,
  ⟨(some 35), none, .fad (.t 1) 1⟩,
  ⟨(some 36), none, .ld false 1 (.t 35)⟩,
  ⟨(some 37), none, .len false (.t 36)⟩,
  ⟨(some 38), none, .bin .lss (.t 34) (.t 37)⟩]) (
  .cond (.t 38) (
  .skip) (
  .exit 2))) (
  .seq (.block 3 (
  .reg [] [
  ⟨(some 41), none, .mv (.t 3)⟩,
  ⟨(some 42), none, .mv (.t 41)⟩,
  ⟨(some 43), (some (42, false)), .fad (.t 1) 1⟩,
  ⟨(some 44), (some (42, false)), .ld false 1 (.t 43)⟩,
  ⟨(some 45), (some (42, false)), .mv (.t 5)⟩,
  ⟨(some 46), (some (42, false)), .ias 3 (.t 44) (.t 45)⟩,
  ⟨(some 47), (some (42, false)), .fad (.t 46) 1⟩,
  ⟨(some 48), (some (42, false)), .ld false 1 (.t 47)⟩,
  ⟨(some 49), (some (42, false)), .len false (.t 48)⟩,
  ⟨(some 50), (some (42, false)), .bin .gtr (.t 49) (.c (.v (.int .i64 10)))⟩,
  ⟨(some 51), none, .pick (.t 42) (.c (.v (.bool true))) (.t 50)⟩,
  ⟨(some 52), none, .mv (.t 51)⟩,
  ⟨(some 53), (some (52, false)), .fad (.t 1) 1⟩,
  ⟨(some 54), (some (52, false)), .ld false 1 (.t 53)⟩,
  ⟨(some 55), (some (52, false)), .mv (.t 5)⟩,
  ⟨(some 56), (some (52, false)), .ias 3 (.t 54) (.t 55)⟩,
  ⟨(some 57), (some (52, false)), .fad (.t 56) 2⟩,
  ⟨(some 58), (some (52, false)), .ld false 1 (.t 57)⟩,
  ⟨(some 59), (some (52, false)), .len false (.t 58)⟩,
  ⟨(some 60), (some (52, false)), .bin .gtr (.t 59) (.c (.v (.int .i64 8)))⟩,
  ⟨(some 61), none, .pick (.t 52) (.c (.v (.bool true))) (.t 60)⟩,
  ⟨(some 3), none, .mv (.t 61)⟩])) (
  .reg [] [
  ⟨(some 39), none, .mv (.t 5)⟩,
  ⟨(some 40), none, .bin .add (.t 39) (.c (.v (.int .i64 1)))⟩,
  ⟨(some 5), none, .mv (.t 40)⟩]))
def c_ref15_many_s0 : CC := .seq (.reg [] [
  ⟨(some 62), none, .mv (.t 3)⟩,
  ⟨(some 2), none, .mv (.t 62)⟩]) (
  .ret)
def c_ref15_many_s1 : CC := .seq (.seq (.reg [] [
  ⟨(some 5), none, .mv (.c (.v (.int .i64 0)))⟩]) (
  .block 2 (
  .loop k_ref15_many_1 c_ref15_many_b1))) c_ref15_many_s0
def c_ref15_many : CF := ⟨1, 63,
  .seq (.reg [] [
  ⟨(some 1), none, .box 2 [2, 3] (.t 0)⟩,
  ⟨(some 2), none, .mv (.c (.v (.bool false)))⟩]) (
  .seq (.reg [] [
  ⟨(some 6), none, .fad (.t 1) 0⟩,
  ⟨(some 7), none, .ld false 1 (.t 6)⟩,
  ⟨(some 8), none, .len false (.t 7)⟩,
  ⟨(some 9), none, .bin .gtr (.t 8) (.c (.v (.int .i64 3)))⟩,
  ⟨(some 10), none, .mv (.t 9)⟩,
  ⟨(some 11), (some (10, false)), .fad (.t 1) 1⟩,
  ⟨(some 12), (some (10, false)), .ld false 1 (.t 11)⟩,
  ⟨(some 13), (some (10, false)), .len false (.t 12)⟩,
  ⟨(some 14), (some (10, false)), .bin .gtr (.t 13) (.c (.v (.int .i64 6)))⟩,
  ⟨(some 15), none, .pick (.t 10) (.c (.v (.bool true))) (.t 14)⟩,
  ⟨(some 3), none, .mv (.t 15)⟩]) (
  .seq (.seq (.reg [] [
  ⟨(some 4), none, .mv (.c (.v (.int .i64 0)))⟩]) (
  .block 0 (
  .loop k_ref15_many_0 c_ref15_many_b0))) c_ref15_many_s1)),
  [.t 2]⟩
def v_ref15_many : List Nat := []
def R_ref15_many_1 (call : Eng.Call) (G : Nat → AV) (n m1 : Nat) (o : Objs) (y1 y5 y3 : AV) : Out := roundsE k_ref15_many_1 (denE 63 call G v_ref15_many n c_ref15_many_b1) m1 [y1, y5, y3] o (eBlock 2 (eSeq (denE 63 call G v_ref15_many n c_ref15_many_s0) (eEnd [.t 2])))
def R_ref15_many_0 (call : Eng.Call) (G : Nat → AV) (n m0 : Nat) (o : Objs) (y1 y4 y3 : AV) : Out := roundsE k_ref15_many_0 (denE 63 call G v_ref15_many n c_ref15_many_b0) m0 [y1, y4, y3] o (eBlock 0 (eSeq (denE 63 call G v_ref15_many n c_ref15_many_s1) (eEnd [.t 2])))
set_option maxRecDepth 100000 in
theorem R_ref15_many_1_s (call : Eng.Call) (G : Nat → AV) (n m1 : Nat) (o : Objs) (y1 y5 y3 : AV) : R_ref15_many_1 call G n (m1 + 1) o y1 y5 y3 =
 Xq (.fad (.c y1) 1) (fun x25 =>
 Xx call o 36 (.ld false 1 (.c x25)) (fun x26 ox26 =>
 Xq (.len false (.c x26)) (fun x27 =>
 Xq (.bin .lss (.c y5) (.c x27)) (fun x28 =>
 Xc x28 (fun _ =>
 Xgq y3 false (.fad (.c y1) 1) (fun x29 =>
 Xxg call y3 false ox26 44 (.ld false 1 (.c x29)) (fun x30 ox30 =>
 Xgq y3 false (.mv (.c y5)) (fun x31 =>
 Xgq y3 false (.ias 3 (.c x30) (.c x31)) (fun x32 =>
 Xgq y3 false (.fad (.c x32) 1) (fun x33 =>
 Xxg call y3 false ox30 48 (.ld false 1 (.c x33)) (fun x34 ox34 =>
 Xgq y3 false (.len false (.c x34)) (fun x35 =>
 Xgq y3 false (.bin .gtr (.c x35) (.c (.v (.int .i64 10)))) (fun x36 =>
 Xq (.pick (.c y3) (.c (.v (.bool true))) (.c x36)) (fun x37 =>
 Xgq x37 false (.fad (.c y1) 1) (fun x38 =>
 Xxg call x37 false ox34 54 (.ld false 1 (.c x38)) (fun x39 ox39 =>
 Xgq x37 false (.mv (.c y5)) (fun x40 =>
 Xgq x37 false (.ias 3 (.c x39) (.c x40)) (fun x41 =>
 Xgq x37 false (.fad (.c x41) 2) (fun x42 =>
 Xxg call x37 false ox39 58 (.ld false 1 (.c x42)) (fun x43 ox43 =>
 Xgq x37 false (.len false (.c x43)) (fun x44 =>
 Xgq x37 false (.bin .gtr (.c x44) (.c (.v (.int .i64 8)))) (fun x45 =>
 Xq (.pick (.c x37) (.c (.v (.bool true))) (.c x45)) (fun x46 =>
 Xq (.bin .add (.c y5) (.c (.v (.int .i64 1)))) (fun x47 =>
 R_ref15_many_1 call G n m1 (maskO k_ref15_many_1 ox43) (msk k_ref15_many_1 y1) (msk k_ref15_many_1 x47) (msk k_ref15_many_1 x46)) ()) ()) ()) ()) ()) ()) ()) ()) ()) ()) ()) ()) ()) ()) ()) ()) ()) ()) ()) (fun _ =>
 Xr ox26 [some y3]) () ()) ()) ()) ()) () := by kernel_rfl
set_option maxRecDepth 100000 in
theorem R_ref15_many_0_s (call : Eng.Call) (G : Nat → AV) (n m0 : Nat) (o : Objs) (y1 y4 y3 : AV) : R_ref15_many_0 call G n (m0 + 1) o y1 y4 y3 =
 Xq (.fad (.c y1) 0) (fun x11 =>
 Xx call o 18 (.ld false 1 (.c x11)) (fun x12 ox12 =>
 Xq (.len false (.c x12)) (fun x13 =>
 Xq (.bin .lss (.c y4) (.c x13)) (fun x14 =>
 Xc x14 (fun _ =>
 Xgq y3 false (.fad (.c y1) 0) (fun x15 =>
 Xxg call y3 false ox12 26 (.ld false 1 (.c x15)) (fun x16 ox16 =>
 Xgq y3 false (.mv (.c y4)) (fun x17 =>
 Xgq y3 false (.ias 2 (.c x16) (.c x17)) (fun x18 =>
 Xgq y3 false (.fad (.c x18) 1) (fun x19 =>
 Xxg call y3 false ox16 30 (.ld false 1 (.c x19)) (fun x20 ox20 =>
 Xgq y3 false (.len false (.c x20)) (fun x21 =>
 Xgq y3 false (.bin .gtr (.c x21) (.c (.v (.int .i64 8)))) (fun x22 =>
 Xq (.pick (.c y3) (.c (.v (.bool true))) (.c x22)) (fun x23 =>
 Xq (.bin .add (.c y4) (.c (.v (.int .i64 1)))) (fun x24 =>
 R_ref15_many_0 call G n m0 (maskO k_ref15_many_0 ox20) (msk k_ref15_many_0 y1) (msk k_ref15_many_0 x24) (msk k_ref15_many_0 x23)) ()) ()) ()) ()) ()) ()) ()) ()) ()) ()) (fun _ =>
 R_ref15_many_1 call G n n (maskO k_ref15_many_1 ox12) (msk k_ref15_many_1 y1) (msk k_ref15_many_1 (.v (.int .i64 0))) (msk k_ref15_many_1 y3)) () ()) ()) ()) ()) () := by kernel_rfl
set_option maxRecDepth 100000 in
theorem s_ref15_many (call : Eng.Call) (G : Nat → AV) (n : Nat) (x0 : AV) : denFE call G v_ref15_many n c_ref15_many [x0] =
 Xx call [] 1 (.box 2 [2, 3] (.c x0)) (fun x1 ox1 =>
 Xq (.fad (.c x1) 0) (fun x2 =>
 Xx call ox1 7 (.ld false 1 (.c x2)) (fun x3 ox3 =>
 Xq (.len false (.c x3)) (fun x4 =>
 Xq (.bin .gtr (.c x4) (.c (.v (.int .i64 3)))) (fun x5 =>
 Xgq x5 false (.fad (.c x1) 1) (fun x6 =>
 Xxg call x5 false ox3 12 (.ld false 1 (.c x6)) (fun x7 ox7 =>
 Xgq x5 false (.len false (.c x7)) (fun x8 =>
 Xgq x5 false (.bin .gtr (.c x8) (.c (.v (.int .i64 6)))) (fun x9 =>
 Xq (.pick (.c x5) (.c (.v (.bool true))) (.c x9)) (fun x10 =>
 R_ref15_many_0 call G n n (maskO k_ref15_many_0 ox7) (msk k_ref15_many_0 x1) (msk k_ref15_many_0 (.v (.int .i64 0))) (msk k_ref15_many_0 x10)) ()) ()) ()) ()) ()) ()) ()) ()) ()) () := by kernel_rfl
def k_ref15_none_0 : List Nat := [1, 4, 3]
def c_ref15_none_b0 : CC := .seq (.seq (.reg [] [
  ⟨(some 9), none, .mv (.t 4)⟩,
  ⟨(some 10), none, .fad (.t 1) 0⟩,
  ⟨(some 11), none, .ld false 1 (.t 10)⟩,
  ⟨(some 12), none, .len false (.t 11)⟩,
  ⟨(some 13), none, .bin .lss (.t 9) (.t 12)⟩]) (
  .cond (.t 13) (
  .skip) (
  .exit 0))) (
  .seq (.block 1 (
  .reg [] [
  ⟨(some 16), none, .mv (.t 3)⟩,
  ⟨(some 17), none, .mv (.t 16)⟩,
  ⟨(some 18), (some (17, false)), .fad (.t 1) 0⟩,
  ⟨(some 19), (some (17, false)), .ld false 1 (.t 18)⟩,
  ⟨(some 20), (some (17, false)), .mv (.t 4)⟩,
  ⟨(some 21), (some (17, false)), .ias 2 (.t 19) (.t 20)⟩,
  ⟨(some 22), (some (17, false)), .fad (.t 21) 1⟩,
  ⟨(some 23), (some (17, false)), .ld false 1 (.t 22)⟩,
  ⟨(some 24), (some (17, false)), .len false (.t 23)⟩,
  ⟨(some 25), (some (17, false)), .bin .eql (.t 24) (.c (.v (.int .i64 0)))⟩,
  ⟨(some 26), none, .pick (.t 17) (.c (.v (.bool true))) (.t 25)⟩,
  ⟨(some 3), none, .mv (.t 26)⟩])) (
  .reg [] [
  ⟨(some 14), none, .mv (.t 4)⟩,
  ⟨(some 15), none, .bin .add (.t 14) (.c (.v (.int .i64 1)))⟩,
  ⟨(some 4), none, .mv (.t 15)⟩]))
def c_ref15_none_s0 : CC := .seq (.reg [] [
  ⟨(some 27), none, .mv (.t 3)⟩,
  ⟨(some 2), none, .mv (.t 27)⟩]) (
  .ret)
def c_ref15_none : CF := ⟨1, 28,
  .seq (.reg [] [
  ⟨(some 1), none, .box 2 [2, 3] (.t 0)⟩,
  ⟨(some 2), none, .mv (.c (.v (.bool false)))⟩]) (
  .seq (.reg [] [
  ⟨(some 5), none, .fad (.t 1) 1⟩,
  ⟨(some 6), none, .ld false 1 (.t 5)⟩,
  ⟨(some 7), none, .len false (.t 6)⟩,
  ⟨(some 8), none, .bin .eql (.t 7) (.c (.v (.int .i64 0)))⟩,
  ⟨(some 3), none, .mv (.t 8)⟩]) (
  .seq (.seq (.reg [] [
  ⟨(some 4), none, .mv (.c (.v (.int .i64 0)))⟩]) (
  .block 0 (
  .loop k_ref15_none_0 c_ref15_none_b0))) c_ref15_none_s0)),
  [.t 2]⟩
def v_ref15_none : List Nat := []
def R_ref15_none_0 (call : Eng.Call) (G : Nat → AV) (n m0 : Nat) (o : Objs) (y1 y4 y3 : AV) : Out := roundsE k_ref15_none_0 (denE 28 call G v_ref15_none n c_ref15_none_b0) m0 [y1, y4, y3] o (eBlock 0 (eSeq (denE 28 call G v_ref15_none n c_ref15_none_s0) (eEnd [.t 2])))
set_option maxRecDepth 100000 in
theorem R_ref15_none_0_s (call : Eng.Call) (G : Nat → AV) (n m0 : Nat) (o : Objs) (y1 y4 y3 : AV) : R_ref15_none_0 call G n (m0 + 1) o y1 y4 y3 =
 Xq (.fad (.c y1) 0) (fun x6 =>
 Xx call o 11 (.ld false 1 (.c x6)) (fun x7 ox7 =>
 Xq (.len false (.c x7)) (fun x8 =>
 Xq (.bin .lss (.c y4) (.c x8)) (fun x9 =>
 Xc x9 (fun _ =>
 Xgq y3 false (.fad (.c y1) 0) (fun x10 =>
 Xxg call y3 false ox7 19 (.ld false 1 (.c x10)) (fun x11 ox11 =>
 Xgq y3 false (.mv (.c y4)) (fun x12 =>
 Xgq y3 false (.ias 2 (.c x11) (.c x12)) (fun x13 =>
 Xgq y3 false (.fad (.c x13) 1) (fun x14 =>
 Xxg call y3 false ox11 23 (.ld false 1 (.c x14)) (fun x15 ox15 =>
 Xgq y3 false (.len false (.c x15)) (fun x16 =>
 Xgq y3 false (.bin .eql (.c x16) (.c (.v (.int .i64 0)))) (fun x17 =>
 Xq (.pick (.c y3) (.c (.v (.bool true))) (.c x17)) (fun x18 =>
 Xq (.bin .add (.c y4) (.c (.v (.int .i64 1)))) (fun x19 =>
 R_ref15_none_0 call G n m0 (maskO k_ref15_none_0 ox15) (msk k_ref15_none_0 y1) (msk k_ref15_none_0 x19) (msk k_ref15_none_0 x18)) ()) ()) ()) ()) ()) ()) ()) ()) ()) ()) (fun _ =>
 Xr ox7 [some y3]) () ()) ()) ()) ()) () := by kernel_rfl
set_option maxRecDepth 100000 in
theorem s_ref15_none (call : Eng.Call) (G : Nat → AV) (n : Nat) (x0 : AV) : denFE call G v_ref15_none n c_ref15_none [x0] =
 Xx call [] 1 (.box 2 [2, 3] (.c x0)) (fun x1 ox1 =>
 Xq (.fad (.c x1) 1) (fun x2 =>
 Xx call ox1 6 (.ld false 1 (.c x2)) (fun x3 ox3 =>
 Xq (.len false (.c x3)) (fun x4 =>
 Xq (.bin .eql (.c x4) (.c (.v (.int .i64 0)))) (fun x5 =>
 R_ref15_none_0 call G n n (maskO k_ref15_none_0 ox3) (msk k_ref15_none_0 x1) (msk k_ref15_none_0 (.v (.int .i64 0))) (msk k_ref15_none_0 x5)) ()) ()) ()) ()) () := by kernel_rfl
def k_ref15_text_0 : List Nat := [4, 1, 5, 3]
def c_ref15_text_b0 : CC := .seq (.seq (.reg [] [
  ⟨(some 25), none, .mv (.t 5)⟩,
  ⟨(some 26), none, .fad (.t 1) 0⟩,
  ⟨(some 27), none, .ld false 1 (.t 26)⟩,
  ⟨(some 28), none, .mv (.t 4)⟩,
  ⟨(some 29), none, .ias 2 (.t 27) (.t 28)⟩,
  ⟨(some 30), none, .fad (.t 29) 1⟩,
  ⟨(some 31), none, .ld false 1 (.t 30)⟩,
  ⟨(some 32), none, .len false (.t 31)⟩,
  ⟨(some 33), none, .bin .lss (.t 25) (.t 32)⟩]) (
  .cond (.t 33) (
  .skip) (
  .exit 2))) (
  .seq (.block 3 (
  .reg [] [
  ⟨(some 36), none, .mv (.t 3)⟩,
  ⟨(some 37), none, .mv (.t 36)⟩,
  ⟨(some 38), (some (37, false)), .fad (.t 1) 0⟩,
  ⟨(some 39), (some (37, false)), .ld false 1 (.t 38)⟩,
  ⟨(some 40), (some (37, false)), .mv (.t 4)⟩,
  ⟨(some 41), (some (37, false)), .ias 2 (.t 39) (.t 40)⟩,
  ⟨(some 42), (some (37, false)), .fad (.t 41) 1⟩,
  ⟨(some 43), (some (37, false)), .ld false 1 (.t 42)⟩,
  ⟨(some 44), (some (37, false)), .mv (.t 5)⟩,
  ⟨(some 45), (some (37, false)), .ias 2 (.t 43) (.t 44)⟩,
  ⟨(some 46), (some (37, false)), .fad (.t 45) 0⟩,
  ⟨(some 47), (some (37, false)), .ld false 1 (.t 46)⟩,
  ⟨(some 48), (some (37, false)), .call false i_ref09_Right [(.t 47)]⟩,
  ⟨(some 49), (some (37, false)), .not (.t 48)⟩,
  ⟨(some 50), none, .pick (.t 37) (.c (.v (.bool true))) (.t 49)⟩,
  ⟨(some 3), none, .mv (.t 50)⟩])) (
  .reg [] [
  ⟨(some 34), none, .mv (.t 5)⟩,
  ⟨(some 35), none, .bin .add (.t 34) (.c (.v (.int .i64 1)))⟩,
  ⟨(some 5), none, .mv (.t 35)⟩]))
def c_ref15_text_s0 : CC := .reg [] [
  ⟨(some 12), none, .mv (.t 4)⟩,
  ⟨(some 13), none, .bin .add (.t 12) (.c (.v (.int .i64 1)))⟩,
  ⟨(some 4), none, .mv (.t 13)⟩]
def k_ref15_text_1 : List Nat := [4, 1, 3]
def c_ref15_text_b1 : CC := .seq (.seq (.reg [] [
  ⟨(some 7), none, .mv (.t 4)⟩,
  ⟨(some 8), none, .fad (.t 1) 0⟩,
  ⟨(some 9), none, .ld false 1 (.t 8)⟩,
  ⟨(some 10), none, .len false (.t 9)⟩,
  ⟨(some 11), none, .bin .lss (.t 7) (.t 10)⟩]) (
  .cond (.t 11) (
  .skip) (
  .exit 0))) (
  .seq (.block 1 (
  .seq (.reg [] [
  ⟨(some 14), none, .mv (.t 3)⟩,
  ⟨(some 15), none, .mv (.t 14)⟩,
  ⟨(some 16), (some (15, false)), .fad (.t 1) 0⟩,
  ⟨(some 17), (some (15, false)), .ld false 1 (.t 16)⟩,
  ⟨(some 18), (some (15, false)), .mv (.t 4)⟩,
  ⟨(some 19), (some (15, false)), .ias 2 (.t 17) (.t 18)⟩,
  ⟨(some 20), (some (15, false)), .fad (.t 19) 0⟩,
  ⟨(some 21), (some (15, false)), .ld false 1 (.t 20)⟩,
  ⟨(some 22), (some (15, false)), .call false i_ref09_Right [(.t 21)]⟩,
  ⟨(some 23), (some (15, false)), .not (.t 22)⟩,
  ⟨(some 24), none, .pick (.t 15) (.c (.v (.bool true))) (.t 23)⟩,
  ⟨(some 3), none, .mv (.t 24)⟩]) (
  .seq (.reg [] [
  ⟨(some 5), none, .mv (.c (.v (.int .i64 0)))⟩]) (
  .block 2 (
  .loop k_ref15_text_0 c_ref15_text_b0))))) c_ref15_text_s0)
def k_ref15_text_2 : List Nat := [1, 6, 3]
def c_ref15_text_b2 : CC := .seq (.seq (.reg [] [
  ⟨(some 51), none, .mv (.t 6)⟩,
  ⟨(some 52), none, .fad (.t 1) 1⟩,
  ⟨(some 53), none, .ld false 1 (.t 52)⟩,
  ⟨(some 54), none, .len false (.t 53)⟩,
  ⟨(some 55), none, .bin .lss (.t 51) (.t 54)⟩]) (
  .cond (.t 55) (
  .skip) (
  .exit 4))) (
  .seq (.block 5 (
  .reg [] [
  ⟨(some 58), none, .mv (.t 3)⟩,
  ⟨(some 59), none, .mv (.t 58)⟩,
  ⟨(some 60), (some (59, false)), .fad (.t 1) 1⟩,
  ⟨(some 61), (some (59, false)), .ld false 1 (.t 60)⟩,
  ⟨(some 62), (some (59, false)), .mv (.t 6)⟩,
  ⟨(some 63), (some (59, false)), .ias 3 (.t 61) (.t 62)⟩,
  ⟨(some 64), (some (59, false)), .fad (.t 63) 0⟩,
  ⟨(some 65), (some (59, false)), .ld false 1 (.t 64)⟩,
  ⟨(some 66), (some (59, false)), .call false i_ref09_Right [(.t 65)]⟩,
  ⟨(some 67), (some (59, false)), .not (.t 66)⟩,
  ⟨(some 68), none, .pick (.t 59) (.c (.v (.bool true))) (.t 67)⟩,
  ⟨(some 3), none, .mv (.t 68)⟩])) (
  .reg [] [
  ⟨(some 56), none, .mv (.t 6)⟩,
  ⟨(some 57), none, .bin .add (.t 56) (.c (.v (.int .i64 1)))⟩,
  ⟨(some 6), none, .mv (.t 57)⟩]))
def c_ref15_text_s1 : CC := .seq (.reg [] [
  ⟨(some 69), none, .mv (.t 3)⟩,
  ⟨(some 2), none, .mv (.t 69)⟩]) (
  .ret)
def c_ref15_text_s2 : CC := .seq (.seq (.reg [] [
  ⟨(some 6), none, .mv (.c (.v (.int .i64 0)))⟩]) (
  .block 4 (
  .loop k_ref15_text_2 c_ref15_text_b2))) c_ref15_text_s1
def c_ref15_text : CF := ⟨1, 70,
  .seq (.reg [] [
  ⟨(some 1), none, .box 2 [2, 3] (.t 0)⟩,
  ⟨(some 2), none, .mv (.c (.v (.bool false)))⟩]) (
  .seq (.reg [] [
  ⟨(some 3), none, .mv (.c (.v (.bool false)))⟩]) (
  .seq (.seq (.reg [] [
  ⟨(some 4), none, .mv (.c (.v (.int .i64 0)))⟩]) (
  .block 0 (
  .loop k_ref15_text_1 c_ref15_text_b1))) c_ref15_text_s2)),
  [.t 2]⟩
def v_ref15_text : List Nat := []
def R_ref15_text_0 (call : Eng.Call) (G : Nat → AV) (n m0 m1 : Nat) (o : Objs) (y4 y1 y5 y3 : AV) : Out := roundsE k_ref15_text_0 (denE 70 call G v_ref15_text n c_ref15_text_b0) m0 [y4, y1, y5, y3] o (eBlock 2 (eBlock 1 (eSeq (denE 70 call G v_ref15_text n c_ref15_text_s0) (eLoop k_ref15_text_1 (denE 70 call G v_ref15_text n c_ref15_text_b1) m1 (eBlock 0 (eSeq (denE 70 call G v_ref15_text n c_ref15_text_s2) (eEnd [.t 2])))))))
def R_ref15_text_2 (call : Eng.Call) (G : Nat → AV) (n m2 : Nat) (o : Objs) (y1 y6 y3 : AV) : Out := roundsE k_ref15_text_2 (denE 70 call G v_ref15_text n c_ref15_text_b2) m2 [y1, y6, y3] o (eBlock 4 (eSeq (denE 70 call G v_ref15_text n c_ref15_text_s1) (eEnd [.t 2])))
def R_ref15_text_1 (call : Eng.Call) (G : Nat → AV) (n m1 : Nat) (o : Objs) (y4 y1 y3 : AV) : Out := roundsE k_ref15_text_1 (denE 70 call G v_ref15_text n c_ref15_text_b1) m1 [y4, y1, y3] o (eBlock 0 (eSeq (denE 70 call G v_ref15_text n c_ref15_text_s2) (eEnd [.t 2])))
set_option maxRecDepth 100000 in
theorem R_ref15_text_0_s (call : Eng.Call) (G : Nat → AV) (n m0 m1 : Nat) (o : Objs) (y4 y1 y5 y3 : AV) : R_ref15_text_0 call G n (m0 + 1) m1 o y4 y1 y5 y3 =
 Xq (.fad (.c y1) 0) (fun x15 =>
 Xx call o 27 (.ld false 1 (.c x15)) (fun x16 ox16 =>
 Xq (.ias 2 (.c x16) (.c y4)) (fun x17 =>
 Xq (.fad (.c x17) 1) (fun x18 =>
 Xx call ox16 31 (.ld false 1 (.c x18)) (fun x19 ox19 =>
 Xq (.len false (.c x19)) (fun x20 =>
 Xq (.bin .lss (.c y5) (.c x20)) (fun x21 =>
 Xc x21 (fun _ =>
 Xgq y3 false (.fad (.c y1) 0) (fun x22 =>
 Xxg call y3 false ox19 39 (.ld false 1 (.c x22)) (fun x23 ox23 =>
 Xgq y3 false (.mv (.c y4)) (fun x24 =>
 Xgq y3 false (.ias 2 (.c x23) (.c x24)) (fun x25 =>
 Xgq y3 false (.fad (.c x25) 1) (fun x26 =>
 Xxg call y3 false ox23 43 (.ld false 1 (.c x26)) (fun x27 ox27 =>
 Xgq y3 false (.mv (.c y5)) (fun x28 =>
 Xgq y3 false (.ias 2 (.c x27) (.c x28)) (fun x29 =>
 Xgq y3 false (.fad (.c x29) 0) (fun x30 =>
 Xxg call y3 false ox27 47 (.ld false 1 (.c x30)) (fun x31 ox31 =>
 Xxg call y3 false ox31 48 (.call false i_ref09_Right [(.c x31)]) (fun x32 ox32 =>
 Xgq y3 false (.not (.c x32)) (fun x33 =>
 Xq (.pick (.c y3) (.c (.v (.bool true))) (.c x33)) (fun x34 =>
 Xq (.bin .add (.c y5) (.c (.v (.int .i64 1)))) (fun x35 =>
 R_ref15_text_0 call G n m0 m1 (maskO k_ref15_text_0 ox32) (msk k_ref15_text_0 y4) (msk k_ref15_text_0 y1) (msk k_ref15_text_0 x35) (msk k_ref15_text_0 x34)) ()) ()) ()) ()) ()) ()) ()) ()) ()) ()) ()) ()) ()) ()) (fun _ =>
 Xq (.bin .add (.c y4) (.c (.v (.int .i64 1)))) (fun x36 =>
 R_ref15_text_1 call G n m1 (maskO k_ref15_text_1 ox19) (msk k_ref15_text_1 x36) (msk k_ref15_text_1 y1) (msk k_ref15_text_1 y3)) ()) () ()) ()) ()) ()) ()) ()) ()) () := by kernel_rfl
set_option maxRecDepth 100000 in
theorem R_ref15_text_2_s (call : Eng.Call) (G : Nat → AV) (n m2 : Nat) (o : Objs) (y1 y6 y3 : AV) : R_ref15_text_2 call G n (m2 + 1) o y1 y6 y3 =
 Xq (.fad (.c y1) 1) (fun x37 =>
 Xx call o 53 (.ld false 1 (.c x37)) (fun x38 ox38 =>
 Xq (.len false (.c x38)) (fun x39 =>
 Xq (.bin .lss (.c y6) (.c x39)) (fun x40 =>
 Xc x40 (fun _ =>
 Xgq y3 false (.fad (.c y1) 1) (fun x41 =>
 Xxg call y3 false ox38 61 (.ld false 1 (.c x41)) (fun x42 ox42 =>
 Xgq y3 false (.mv (.c y6)) (fun x43 =>
 Xgq y3 false (.ias 3 (.c x42) (.c x43)) (fun x44 =>
 Xgq y3 false (.fad (.c x44) 0) (fun x45 =>
 Xxg call y3 false ox42 65 (.ld false 1 (.c x45)) (fun x46 ox46 =>
 Xxg call y3 false ox46 66 (.call false i_ref09_Right [(.c x46)]) (fun x47 ox47 =>
 Xgq y3 false (.not (.c x47)) (fun x48 =>
 Xq (.pick (.c y3) (.c (.v (.bool true))) (.c x48)) (fun x49 =>
 Xq (.bin .add (.c y6) (.c (.v (.int .i64 1)))) (fun x50 =>
 R_ref15_text_2 call G n m2 (maskO k_ref15_text_2 ox47) (msk k_ref15_text_2 y1) (msk k_ref15_text_2 x50) (msk k_ref15_text_2 x49)) ()) ()) ()) ()) ()) ()) ()) ()) ()) ()) (fun _ =>
 Xr ox38 [some y3]) () ()) ()) ()) ()) () := by kernel_rfl
set_option maxRecDepth 100000 in
theorem R_ref15_text_1_s (call : Eng.Call) (G : Nat → AV) (n m1 : Nat) (o : Objs) (y4 y1 y3 : AV) : R_ref15_text_1 call G n (m1 + 1) o y4 y1 y3 =
 Xq (.fad (.c y1) 0) (fun x2 =>
 Xx call o 9 (.ld false 1 (.c x2)) (fun x3 ox3 =>
 Xq (.len false (.c x3)) (fun x4 =>
 Xq (.bin .lss (.c y4) (.c x4)) (fun x5 =>
 Xc x5 (fun _ =>
 Xgq y3 false (.fad (.c y1) 0) (fun x6 =>
 Xxg call y3 false ox3 17 (.ld false 1 (.c x6)) (fun x7 ox7 =>
 Xgq y3 false (.mv (.c y4)) (fun x8 =>
 Xgq y3 false (.ias 2 (.c x7) (.c x8)) (fun x9 =>
 Xgq y3 false (.fad (.c x9) 0) (fun x10 =>
 Xxg call y3 false ox7 21 (.ld false 1 (.c x10)) (fun x11 ox11 =>
 Xxg call y3 false ox11 22 (.call false i_ref09_Right [(.c x11)]) (fun x12 ox12 =>
 Xgq y3 false (.not (.c x12)) (fun x13 =>
 Xq (.pick (.c y3) (.c (.v (.bool true))) (.c x13)) (fun x14 =>
 R_ref15_text_0 call G n n m1 (maskO k_ref15_text_0 ox12) (msk k_ref15_text_0 y4) (msk k_ref15_text_0 y1) (msk k_ref15_text_0 (.v (.int .i64 0))) (msk k_ref15_text_0 x14)) ()) ()) ()) ()) ()) ()) ()) ()) ()) (fun _ =>
 R_ref15_text_2 call G n n (maskO k_ref15_text_2 ox3) (msk k_ref15_text_2 y1) (msk k_ref15_text_2 (.v (.int .i64 0))) (msk k_ref15_text_2 y3)) () ()) ()) ()) ()) () := by kernel_rfl
set_option maxRecDepth 100000 in
theorem s_ref15_text (call : Eng.Call) (G : Nat → AV) (n : Nat) (x0 : AV) : denFE call G v_ref15_text n c_ref15_text [x0] =
 Xx call [] 1 (.box 2 [2, 3] (.c x0)) (fun x1 ox1 =>
 R_ref15_text_1 call G n n (maskO k_ref15_text_1 ox1) (msk k_ref15_text_1 (.v (.int .i64 0))) (msk k_ref15_text_1 x1) (msk k_ref15_text_1 (.v (.bool false)))) () := by kernel_rfl
def k_ref15_fields_0 : List Nat := [3, 1, 4]
def c_ref15_fields_b0 : CC := .seq (.seq (.reg [] [
  ⟨(some 13), none, .mv (.t 4)⟩,
  ⟨(some 14), none, .fad (.t 1) 1⟩,
  ⟨(some 15), none, .ld false 1 (.t 14)⟩,
  ⟨(some 16), none, .mv (.t 3)⟩,
  ⟨(some 17), none, .ias 3 (.t 15) (.t 16)⟩,
  ⟨(some 18), none, .fad (.t 17) 1⟩,
  ⟨(some 19), none, .ld false 1 (.t 18)⟩,
  ⟨(some 20), none, .len false (.t 19)⟩,
  ⟨(some 21), none, .bin .lss (.t 13) (.t 20)⟩]) (
  .cond (.t 21) (
  .skip) (
  .exit 2))) (
  .seq (.block 3 (
  .seq (.reg [] [
  ⟨(some 24), none, .fad (.t 1) 1⟩,
  ⟨(some 25), none, .ld false 1 (.t 24)⟩,
  ⟨(some 26), none, .mv (.t 3)⟩,
  ⟨(some 27), none, .ias 3 (.t 25) (.t 26)⟩,
  ⟨(some 28), none, .fad (.t 27) 1⟩,
  ⟨(some 29), none, .ld false 1 (.t 28)⟩,
  ⟨(some 30), none, .mv (.t 4)⟩,
  ⟨(some 31), none, .ias 7 (.t 29) (.t 30)⟩,
  ⟨(some 32), none, .ld true 7 (.t 31)⟩,
  ⟨(some 33), none, .call false i_ref14_Check [(.t 32)]⟩,
  ⟨(some 5), none, .mv (.t 33)⟩]) (
  .seq (.reg [] [
  ⟨(some 34), none, .mv (.t 5)⟩,
  ⟨(some 35), none, .bin .neq (.t 34) (.c (.v (.int .i64 0)))⟩]) (
  .cond (.t 35) (
  .seq (.reg [] [
  ⟨(some 36), none, .mv (.t 5)⟩,
  ⟨(some 2), none, .mv (.t 36)⟩]) (
  .ret)) (
  .skip))))) (
  .reg [] [
  ⟨(some 22), none, .mv (.t 4)⟩,
  ⟨(some 23), none, .bin .add (.t 22) (.c (.v (.int .i64 1)))⟩,
  ⟨(some 4), none, .mv (.t 23)⟩]))
def c_ref15_fields_s0 : CC := .reg [] [
  ⟨(some 11), none, .mv (.t 3)⟩,
  ⟨(some 12), none, .bin .add (.t 11) (.c (.v (.int .i64 1)))⟩,
  ⟨(some 3), none, .mv (.t 12)⟩]
def k_ref15_fields_1 : List Nat := [3, 1]
def c_ref15_fields_b1 : CC := .seq (.seq (.reg [] [
  ⟨(some 6), none, .mv (.t 3)⟩,
  ⟨(some 7), none, .fad (.t 1) 1⟩,
  ⟨(some 8), none, .ld false 1 (.t 7)⟩,
  ⟨(some 9), none, .len false (.t 8)⟩,
  ⟨(some 10), none, .bin .lss (.t 6) (.t 9)⟩]) (
  .cond (.t 10) (
  .skip) (
  .exit 0))) (
  .seq (.block 1 (
  .seq (.reg [] [
  ⟨(some 4), none, .mv (.c (.v (.int .i64 0)))⟩]) (
  .block 2 (
  .loop k_ref15_fields_0 c_ref15_fields_b0)))) c_ref15_fields_s0)
def c_ref15_fields_s1 : CC := .seq (.reg [] [
  ⟨(some 2), none, .mv (.c (.v (.int .i64 0)))⟩]) (
  .ret)
def c_ref15_fields : CF := ⟨1, 37,
  .seq (.reg [] [
  ⟨(some 1), none, .box 2 [2, 3] (.t 0)⟩,
  ⟨(some 2), none, .mv (.c (.v (.int .i64 0)))⟩]) (
  .seq (.seq (.reg [] [
  ⟨(some 3), none, .mv (.c (.v (.int .i64 0)))⟩]) (
  .block 0 (
  .loop k_ref15_fields_1 c_ref15_fields_b1))) c_ref15_fields_s1),
  [.t 2]⟩
def v_ref15_fields : List Nat := []
def R_ref15_fields_0 (call : Eng.Call) (G : Nat → AV) (n m0 m1 : Nat) (o : Objs) (y3 y1 y4 : AV) : Out := roundsE k_ref15_fields_0 (denE 37 call G v_ref15_fields n c_ref15_fields_b0) m0 [y3, y1, y4] o (eBlock 2 (eBlock 1 (eSeq (denE 37 call G v_ref15_fields n c_ref15_fields_s0) (eLoop k_ref15_fields_1 (denE 37 call G v_ref15_fields n c_ref15_fields_b1) m1 (eBlock 0 (eSeq (denE 37 call G v_ref15_fields n c_ref15_fields_s1) (eEnd [.t 2])))))))
def R_ref15_fields_1 (call : Eng.Call) (G : Nat → AV) (n m1 : Nat) (o : Objs) (y3 y1 : AV) : Out := roundsE k_ref15_fields_1 (denE 37 call G v_ref15_fields n c_ref15_fields_b1) m1 [y3, y1] o (eBlock 0 (eSeq (denE 37 call G v_ref15_fields n c_ref15_fields_s1) (eEnd [.t 2])))
set_option maxRecDepth 100000 in
theorem R_ref15_fields_0_s (call : Eng.Call) (G : Nat → AV) (n m0 m1 : Nat) (o : Objs) (y3 y1 y4 : AV) : R_ref15_fields_0 call G n (m0 + 1) m1 o y3 y1 y4 =
 Xq (.fad (.c y1) 1) (fun x6 =>
 Xx call o 15 (.ld false 1 (.c x6)) (fun x7 ox7 =>
 Xq (.ias 3 (.c x7) (.c y3)) (fun x8 =>
 Xq (.fad (.c x8) 1) (fun x9 =>
 Xx call ox7 19 (.ld false 1 (.c x9)) (fun x10 ox10 =>
 Xq (.len false (.c x10)) (fun x11 =>
 Xq (.bin .lss (.c y4) (.c x11)) (fun x12 =>
 Xc x12 (fun _ =>
 Xq (.fad (.c y1) 1) (fun x13 =>
 Xx call ox10 25 (.ld false 1 (.c x13)) (fun x14 ox14 =>
 Xq (.ias 3 (.c x14) (.c y3)) (fun x15 =>
 Xq (.fad (.c x15) 1) (fun x16 =>
 Xx call ox14 29 (.ld false 1 (.c x16)) (fun x17 ox17 =>
 Xq (.ias 7 (.c x17) (.c y4)) (fun x18 =>
 Xx call ox17 32 (.ld true 7 (.c x18)) (fun x19 ox19 =>
 Xx call ox19 33 (.call false i_ref14_Check [(.c x19)]) (fun x20 ox20 =>
 Xq (.bin .neq (.c x20) (.c (.v (.int .i64 0)))) (fun x21 =>
 Xc x21 (fun _ =>
 Xr ox20 [some x20]) (fun _ =>
 Xq (.bin .add (.c y4) (.c (.v (.int .i64 1)))) (fun x22 =>
 R_ref15_fields_0 call G n m0 m1 (maskO k_ref15_fields_0 ox20) (msk k_ref15_fields_0 y3) (msk k_ref15_fields_0 y1) (msk k_ref15_fields_0 x22)) ()) () ()) ()) ()) ()) ()) ()) ()) ()) ()) ()) (fun _ =>
 Xq (.bin .add (.c y3) (.c (.v (.int .i64 1)))) (fun x23 =>
 R_ref15_fields_1 call G n m1 (maskO k_ref15_fields_1 ox10) (msk k_ref15_fields_1 x23) (msk k_ref15_fields_1 y1)) ()) () ()) ()) ()) ()) ()) ()) ()) () := by kernel_rfl
set_option maxRecDepth 100000 in
theorem R_ref15_fields_1_s (call : Eng.Call) (G : Nat → AV) (n m1 : Nat) (o : Objs) (y3 y1 : AV) : R_ref15_fields_1 call G n (m1 + 1) o y3 y1 =
 Xq (.fad (.c y1) 1) (fun x2 =>
 Xx call o 8 (.ld false 1 (.c x2)) (fun x3 ox3 =>
 Xq (.len false (.c x3)) (fun x4 =>
 Xq (.bin .lss (.c y3) (.c x4)) (fun x5 =>
 Xc x5 (fun _ =>
 R_ref15_fields_0 call G n n m1 (maskO k_ref15_fields_0 ox3) (msk k_ref15_fields_0 y3) (msk k_ref15_fields_0 y1) (msk k_ref15_fields_0 (.v (.int .i64 0)))) (fun _ =>
 Xr ox3 [some (.v (.int .i64 0))]) () ()) ()) ()) ()) () := by kernel_rfl
set_option maxRecDepth 100000 in
theorem s_ref15_fields (call : Eng.Call) (G : Nat → AV) (n : Nat) (x0 : AV) : denFE call G v_ref15_fields n c_ref15_fields [x0] =
 Xx call [] 1 (.box 2 [2, 3] (.c x0)) (fun x1 ox1 =>
 R_ref15_fields_1 call G n n (maskO k_ref15_fields_1 ox1) (msk k_ref15_fields_1 (.v (.int .i64 0))) (msk k_ref15_fields_1 x1)) () := by kernel_rfl
def k_ref15_twice_0 : List Nat := [5, 1, 3, 4, 7, 6, 13, 28, 29, 30, 75, 76, 83, 96, 97, 119, 121, 127, 128]
def c_ref15_twice_b0 : CC := .seq (.seq (.reg [] [
  ⟨(some 31), none, .mv (.t 7)⟩,
  ⟨(some 32), none, .fad (.t 1) 0⟩,
  ⟨(some 33), none, .ld false 1 (.t 32)⟩,
  ⟨(some 34), none, .mv (.t 5)⟩,
  ⟨(some 35), none, .ias 2 (.t 33) (.t 34)⟩,
  ⟨(some 36), none, .fad (.t 35) 1⟩,
  ⟨(some 37), none, .ld false 1 (.t 36)⟩,
  ⟨(some 38), none, .len false (.t 37)⟩,
  ⟨(some 39), none, .bin .lss (.t 31) (.t 38)⟩]) (
  .cond (.t 39) (
  .skip) (
  .exit 2))) (
  .seq (.block 3 (
  .reg [] [
  ⟨(some 42), none, .mv (.t 6)⟩,
  ⟨(some 43), none, .fad (.t 1) 0⟩,
  ⟨(some 44), none, .ld false 1 (.t 43)⟩,
  ⟨(some 45), none, .mv (.t 5)⟩,
  ⟨(some 46), none, .ias 2 (.t 44) (.t 45)⟩,
  ⟨(some 47), none, .fad (.t 46) 1⟩,
  ⟨(some 48), none, .ld false 1 (.t 47)⟩,
  ⟨(some 49), none, .mv (.t 7)⟩,
  ⟨(some 50), none, .ias 2 (.t 48) (.t 49)⟩,
  ⟨(some 51), none, .fad (.t 50) 0⟩,
  ⟨(some 52), none, .ld false 1 (.t 51)⟩,
  ⟨(some 53), none, .bsl 1 1 [(.v (.string ⟨#[]⟩))] [(0, (.t 52))]⟩,
  ⟨(some 54), none, .app false 1 16 (.t 42) (.t 53)⟩,
  ⟨(some 6), none, .mv (.t 54)⟩])) (
  .reg [] [
  ⟨(some 40), none, .mv (.t 7)⟩,
  ⟨(some 41), none, .bin .add (.t 40) (.c (.v (.int .i64 1)))⟩,
  ⟨(some 7), none, .mv (.t 41)⟩]))
def c_ref15_twice_s0 : CC := .reg [] [
  ⟨(some 55), none, .mv (.t 4)⟩,
  ⟨(some 56), none, .mv (.t 55)⟩,
  ⟨(some 57), (some (56, false)), .mv (.t 6)⟩,
  ⟨(some 58), (some (56, false)), .call false i_ref09_Once [(.t 57)]⟩,
  ⟨(some 59), (some (56, false)), .not (.t 58)⟩,
  ⟨(some 60), none, .pick (.t 56) (.c (.v (.bool true))) (.t 59)⟩,
  ⟨(some 4), none, .mv (.t 60)⟩]
def c_ref15_twice_s1 : CC := .reg [] [
  ⟨(some 19), none, .mv (.t 5)⟩,
  ⟨(some 20), none, .bin .add (.t 19) (.c (.v (.int .i64 1)))⟩,
  ⟨(some 5), none, .mv (.t 20)⟩]
def k_ref15_twice_1 : List Nat := [5, 1, 4, 3, 13, 75, 76, 83, 96, 97, 119, 121, 127, 128]
def c_ref15_twice_b1 : CC := .seq (.seq (.reg [] [
  ⟨(some 14), none, .mv (.t 5)⟩,
  ⟨(some 15), none, .fad (.t 1) 0⟩,
  ⟨(some 16), none, .ld false 1 (.t 15)⟩,
  ⟨(some 17), none, .len false (.t 16)⟩,
  ⟨(some 18), none, .bin .lss (.t 14) (.t 17)⟩]) (
  .cond (.t 18) (
  .skip) (
  .exit 0))) (
  .seq (.block 1 (
  .seq (.reg [] [
  ⟨(some 21), none, .mv (.t 3)⟩,
  ⟨(some 22), none, .fad (.t 1) 0⟩,
  ⟨(some 23), none, .ld false 1 (.t 22)⟩,
  ⟨(some 24), none, .mv (.t 5)⟩,
  ⟨(some 25), none, .ias 2 (.t 23) (.t 24)⟩,
  ⟨(some 26), none, .fad (.t 25) 0⟩,
  ⟨(some 27), none, .ld false 1 (.t 26)⟩,
  ⟨(some 28), none, .bsl 1 1 [(.v (.string ⟨#[]⟩))] [(0, (.t 27))]⟩,
  ⟨(some 29), none, .app false 1 16 (.t 21) (.t 28)⟩,
  ⟨(some 3), none, .mv (.t 29)⟩]) (
  .seq (.reg [] [
  ⟨(some 30), none, .bsl 0 1 [] []⟩,
  ⟨(some 6), none, .mv (.t 30)⟩]) (
  .seq (.seq (.reg [] [
  ⟨(some 7), none, .mv (.c (.v (.int .i64 0)))⟩]) (
  .block 2 (
  .loop k_ref15_twice_0 c_ref15_twice_b0))) c_ref15_twice_s0)))) c_ref15_twice_s1)
def k_ref15_twice_2 : List Nat := [9, 1, 3, 8, 4, 11, 10, 13, 28, 29, 30, 53, 54, 75, 76, 83, 119, 121, 127, 128]
def c_ref15_twice_b2 : CC := .seq (.seq (.reg [] [
  ⟨(some 84), none, .mv (.t 11)⟩,
  ⟨(some 85), none, .mv (.t 9)⟩,
  ⟨(some 86), none, .len false (.t 85)⟩,
  ⟨(some 87), none, .bin .lss (.t 84) (.t 86)⟩]) (
  .cond (.t 87) (
  .skip) (
  .exit 6))) (
  .seq (.block 7 (
  .reg [] [
  ⟨(some 90), none, .mv (.t 10)⟩,
  ⟨(some 91), none, .mv (.t 9)⟩,
  ⟨(some 92), none, .mv (.t 11)⟩,
  ⟨(some 93), none, .ias 7 (.t 91) (.t 92)⟩,
  ⟨(some 94), none, .fad (.t 93) 0⟩,
  ⟨(some 95), none, .ld false 1 (.t 94)⟩,
  ⟨(some 96), none, .bsl 1 1 [(.v (.string ⟨#[]⟩))] [(0, (.t 95))]⟩,
  ⟨(some 97), none, .app false 1 16 (.t 90) (.t 96)⟩,
  ⟨(some 10), none, .mv (.t 97)⟩])) (
  .reg [] [
  ⟨(some 88), none, .mv (.t 11)⟩,
  ⟨(some 89), none, .bin .add (.t 88) (.c (.v (.int .i64 1)))⟩,
  ⟨(some 11), none, .mv (.t 89)⟩]))
def k_ref15_twice_3 : List Nat := [9, 10, 1, 3, 8, 12, 4, 13, 28, 29, 30, 53, 54, 75, 76, 83, 96, 97]
def c_ref15_twice_b3 : CC := .seq (.seq (.reg [] [
  ⟨(some 104), none, .mv (.t 12)⟩,
  ⟨(some 105), none, .mv (.t 9)⟩,
  ⟨(some 106), none, .len false (.t 105)⟩,
  ⟨(some 107), none, .bin .lss (.t 104) (.t 106)⟩]) (
  .cond (.t 107) (
  .skip) (
  .exit 8))) (
  .seq (.block 9 (
  .reg [
  ⟨(some 110), none, .mv (.t 4)⟩,
  ⟨(some 111), none, .mv (.t 110)⟩,
  ⟨(some 112), (some (111, false)), .mv (.t 9)⟩,
  ⟨(some 113), (some (111, false)), .mv (.t 12)⟩,
  ⟨(some 114), (some (111, false)), .ias 7 (.t 112) (.t 113)⟩,
  ⟨(some 115), (some (111, false)), .fad (.t 114) 6⟩,
  ⟨(some 116), (some (111, false)), .ld false 1 (.t 115)⟩,
  ⟨(some 117), (some (111, false)), .bin .neq (.t 116) (.c (.v (.string ⟨#[]⟩)))⟩,
  ⟨(some 118), (some (111, false)), .mv (.t 117)⟩,
  ⟨(some 119), (some (118, true)), .bsl 0 1 [] []⟩,
  ⟨(some 120), (some (118, true)), .mv (.t 10)⟩,
  ⟨(some 121), (some (118, true)), .apd 119 false 1 16 (.t 119) (.t 120)⟩,
  ⟨(some 122), (some (118, true)), .mv (.t 9)⟩,
  ⟨(some 123), (some (118, true)), .mv (.t 12)⟩,
  ⟨(some 124), (some (118, true)), .ias 7 (.t 122) (.t 123)⟩,
  ⟨(some 125), (some (118, true)), .fad (.t 124) 6⟩,
  ⟨(some 126), (some (118, true)), .ld false 1 (.t 125)⟩,
  ⟨(some 127), (some (118, true)), .bsl 1 1 [(.v (.string ⟨#[]⟩))] [(0, (.t 126))]⟩] [
  ⟨(some 128), (some (118, true)), .app false 1 16 (.t 121) (.t 127)⟩,
  ⟨(some 129), (some (118, true)), .call false i_ref09_Once [(.t 128)]⟩,
  ⟨(some 130), (some (118, true)), .not (.t 129)⟩,
  ⟨(some 131), (some (111, false)), .pick (.t 118) (.t 130) (.c (.v (.bool false)))⟩,
  ⟨(some 132), none, .pick (.t 111) (.c (.v (.bool true))) (.t 131)⟩,
  ⟨(some 4), none, .mv (.t 132)⟩])) (
  .reg [] [
  ⟨(some 108), none, .mv (.t 12)⟩,
  ⟨(some 109), none, .bin .add (.t 108) (.c (.v (.int .i64 1)))⟩,
  ⟨(some 12), none, .mv (.t 109)⟩]))
def c_ref15_twice_s2 : CC := .seq (.reg [] [
  ⟨(some 98), none, .mv (.t 4)⟩,
  ⟨(some 99), none, .mv (.t 98)⟩,
  ⟨(some 100), (some (99, false)), .mv (.t 10)⟩,
  ⟨(some 101), (some (99, false)), .call false i_ref09_Once [(.t 100)]⟩,
  ⟨(some 102), (some (99, false)), .not (.t 101)⟩,
  ⟨(some 103), none, .pick (.t 99) (.c (.v (.bool true))) (.t 102)⟩,
  ⟨(some 4), none, .mv (.t 103)⟩]) (
  .seq (.reg [] [
  ⟨(some 12), none, .mv (.c (.v (.int .i64 0)))⟩]) (
  .block 8 (
  .loop k_ref15_twice_3 c_ref15_twice_b3)))
def c_ref15_twice_s3 : CC := .reg [] [
  ⟨(some 66), none, .mv (.t 8)⟩,
  ⟨(some 67), none, .bin .add (.t 66) (.c (.v (.int .i64 1)))⟩,
  ⟨(some 8), none, .mv (.t 67)⟩]
def k_ref15_twice_4 : List Nat := [1, 8, 4, 3, 13, 28, 29, 30, 53, 54]
def c_ref15_twice_b4 : CC := .seq (.seq (.reg [] [
  ⟨(some 61), none, .mv (.t 8)⟩,
  ⟨(some 62), none, .fad (.t 1) 1⟩,
  ⟨(some 63), none, .ld false 1 (.t 62)⟩,
  ⟨(some 64), none, .len false (.t 63)⟩,
  ⟨(some 65), none, .bin .lss (.t 61) (.t 64)⟩]) (
  .cond (.t 65) (
  .skip) (
  .exit 4))) (
  .seq (.block 5 (
  .seq (.reg [] [
  ⟨(some 68), none, .mv (.t 3)⟩,
  ⟨(some 69), none, .fad (.t 1) 1⟩,
  ⟨(some 70), none, .ld false 1 (.t 69)⟩,
  ⟨(some 71), none, .mv (.t 8)⟩,
  ⟨(some 72), none, .ias 3 (.t 70) (.t 71)⟩,
  ⟨(some 73), none, .fad (.t 72) 0⟩,
  ⟨(some 74), none, .ld false 1 (.t 73)⟩,
  ⟨(some 75), none, .bsl 1 1 [(.v (.string ⟨#[]⟩))] [(0, (.t 74))]⟩,
  ⟨(some 76), none, .app false 1 16 (.t 68) (.t 75)⟩,
  ⟨(some 3), none, .mv (.t 76)⟩]) (
  .seq (.reg [] [
  ⟨(some 77), none, .fad (.t 1) 1⟩,
  ⟨(some 78), none, .ld false 1 (.t 77)⟩,
  ⟨(some 79), none, .mv (.t 8)⟩,
  ⟨(some 80), none, .ias 3 (.t 78) (.t 79)⟩,
  ⟨(some 81), none, .fad (.t 80) 1⟩,
  ⟨(some 82), none, .ld false 1 (.t 81)⟩,
  ⟨(some 9), none, .mv (.t 82)⟩]) (
  .seq (.reg [] [
  ⟨(some 83), none, .bsl 0 1 [] []⟩,
  ⟨(some 10), none, .mv (.t 83)⟩]) (
  .seq (.seq (.reg [] [
  ⟨(some 11), none, .mv (.c (.v (.int .i64 0)))⟩]) (
  .block 6 (
  .loop k_ref15_twice_2 c_ref15_twice_b2))) c_ref15_twice_s2))))) c_ref15_twice_s3)
def c_ref15_twice_s4 : CC := .seq (.reg [] [
  ⟨(some 133), none, .mv (.t 4)⟩,
  ⟨(some 134), none, .mv (.t 133)⟩,
  ⟨(some 135), (some (134, false)), .mv (.t 3)⟩,
  ⟨(some 136), (some (134, false)), .call false i_ref09_Once [(.t 135)]⟩,
  ⟨(some 137), (some (134, false)), .not (.t 136)⟩,
  ⟨(some 138), none, .pick (.t 134) (.c (.v (.bool true))) (.t 137)⟩,
  ⟨(some 2), none, .mv (.t 138)⟩]) (
  .ret)
def c_ref15_twice_s5 : CC := .seq (.seq (.reg [] [
  ⟨(some 8), none, .mv (.c (.v (.int .i64 0)))⟩]) (
  .block 4 (
  .loop k_ref15_twice_4 c_ref15_twice_b4))) c_ref15_twice_s4
def c_ref15_twice : CF := ⟨1, 139,
  .seq (.reg [] [
  ⟨(some 1), none, .box 2 [2, 3] (.t 0)⟩,
  ⟨(some 2), none, .mv (.c (.v (.bool false)))⟩]) (
  .seq (.reg [] [
  ⟨(some 13), none, .bsl 0 1 [] []⟩,
  ⟨(some 3), none, .mv (.t 13)⟩]) (
  .seq (.reg [] [
  ⟨(some 4), none, .mv (.c (.v (.bool false)))⟩]) (
  .seq (.seq (.reg [] [
  ⟨(some 5), none, .mv (.c (.v (.int .i64 0)))⟩]) (
  .block 0 (
  .loop k_ref15_twice_1 c_ref15_twice_b1))) c_ref15_twice_s5))),
  [.t 2]⟩
def v_ref15_twice : List Nat := []
def R_ref15_twice_0 (call : Eng.Call) (G : Nat → AV) (n m0 m1 : Nat) (o : Objs) (y5 y1 y3 y4 y7 y6 y13 y28 y29 y30 y75 y76 y83 y96 y97 y119 y121 y127 y128 : AV) : Out := roundsE k_ref15_twice_0 (denE 139 call G v_ref15_twice n c_ref15_twice_b0) m0 [y5, y1, y3, y4, y7, y6, y13, y28, y29, y30, y75, y76, y83, y96, y97, y119, y121, y127, y128] o (eBlock 2 (eSeq (denE 139 call G v_ref15_twice n c_ref15_twice_s0) (eBlock 1 (eSeq (denE 139 call G v_ref15_twice n c_ref15_twice_s1) (eLoop k_ref15_twice_1 (denE 139 call G v_ref15_twice n c_ref15_twice_b1) m1 (eBlock 0 (eSeq (denE 139 call G v_ref15_twice n c_ref15_twice_s5) (eEnd [.t 2]))))))))
def R_ref15_twice_3 (call : Eng.Call) (G : Nat → AV) (n m3 m4 : Nat) (o : Objs) (y9 y10 y1 y3 y8 y12 y4 y13 y28 y29 y30 y53 y54 y75 y76 y83 y96 y97 : AV) : Out := roundsE k_ref15_twice_3 (denE 139 call G v_ref15_twice n c_ref15_twice_b3) m3 [y9, y10, y1, y3, y8, y12, y4, y13, y28, y29, y30, y53, y54, y75, y76, y83, y96, y97] o (eBlock 8 (eBlock 5 (eSeq (denE 139 call G v_ref15_twice n c_ref15_twice_s3) (eLoop k_ref15_twice_4 (denE 139 call G v_ref15_twice n c_ref15_twice_b4) m4 (eBlock 4 (eSeq (denE 139 call G v_ref15_twice n c_ref15_twice_s4) (eEnd [.t 2])))))))
def R_ref15_twice_2 (call : Eng.Call) (G : Nat → AV) (n m2 m4 : Nat) (o : Objs) (y9 y1 y3 y8 y4 y11 y10 y13 y28 y29 y30 y53 y54 y75 y76 y83 y119 y121 y127 y128 : AV) : Out := roundsE k_ref15_twice_2 (denE 139 call G v_ref15_twice n c_ref15_twice_b2) m2 [y9, y1, y3, y8, y4, y11, y10, y13, y28, y29, y30, y53, y54, y75, y76, y83, y119, y121, y127, y128] o (eBlock 6 (eSeq (denE 139 call G v_ref15_twice n c_ref15_twice_s2) (eBlock 5 (eSeq (denE 139 call G v_ref15_twice n c_ref15_twice_s3) (eLoop k_ref15_twice_4 (denE 139 call G v_ref15_twice n c_ref15_twice_b4) m4 (eBlock 4 (eSeq (denE 139 call G v_ref15_twice n c_ref15_twice_s4) (eEnd [.t 2]))))))))
def R_ref15_twice_4 (call : Eng.Call) (G : Nat → AV) (n m4 : Nat) (o : Objs) (y1 y8 y4 y3 y13 y28 y29 y30 y53 y54 : AV) : Out := roundsE k_ref15_twice_4 (denE 139 call G v_ref15_twice n c_ref15_twice_b4) m4 [y1, y8, y4, y3, y13, y28, y29, y30, y53, y54] o (eBlock 4 (eSeq (denE 139 call G v_ref15_twice n c_ref15_twice_s4) (eEnd [.t 2])))
def R_ref15_twice_1 (call : Eng.Call) (G : Nat → AV) (n m1 : Nat) (o : Objs) (y5 y1 y4 y3 y13 y75 y76 y83 y96 y97 y119 y121 y127 y128 : AV) : Out := roundsE k_ref15_twice_1 (denE 139 call G v_ref15_twice n c_ref15_twice_b1) m1 [y5, y1, y4, y3, y13, y75, y76, y83, y96, y97, y119, y121, y127, y128] o (eBlock 0 (eSeq (denE 139 call G v_ref15_twice n c_ref15_twice_s5) (eEnd [.t 2])))
set_option maxRecDepth 100000 in
theorem R_ref15_twice_0_s (call : Eng.Call) (G : Nat → AV) (n m0 m1 : Nat) (o : Objs) (y5 y1 y3 y4 y7 y6 y13 y28 y29 y30 y75 y76 y83 y96 y97 y119 y121 y127 y128 : AV) : R_ref15_twice_0 call G n (m0 + 1) m1 o y5 y1 y3 y4 y7 y6 y13 y28 y29 y30 y75 y76 y83 y96 y97 y119 y121 y127 y128 =
 Xq (.fad (.c y1) 0) (fun x15 =>
 Xx call o 33 (.ld false 1 (.c x15)) (fun x16 ox16 =>
 Xq (.ias 2 (.c x16) (.c y5)) (fun x17 =>
 Xq (.fad (.c x17) 1) (fun x18 =>
 Xx call ox16 37 (.ld false 1 (.c x18)) (fun x19 ox19 =>
 Xq (.len false (.c x19)) (fun x20 =>
 Xq (.bin .lss (.c y7) (.c x20)) (fun x21 =>
 Xc x21 (fun _ =>
 Xq (.fad (.c y1) 0) (fun x22 =>
 Xx call ox19 44 (.ld false 1 (.c x22)) (fun x23 ox23 =>
 Xq (.ias 2 (.c x23) (.c y5)) (fun x24 =>
 Xq (.fad (.c x24) 1) (fun x25 =>
 Xx call ox23 48 (.ld false 1 (.c x25)) (fun x26 ox26 =>
 Xq (.ias 2 (.c x26) (.c y7)) (fun x27 =>
 Xq (.fad (.c x27) 0) (fun x28 =>
 Xx call ox26 52 (.ld false 1 (.c x28)) (fun x29 ox29 =>
 Xx call ox29 53 (.bsl 1 1 [(.v (.string ⟨#[]⟩))] [(0, (.c x29))]) (fun x30 ox30 =>
 Xa ox30 54 false 1 16 y6 x30 (fun x31 ox31 =>
 Xq (.bin .add (.c y7) (.c (.v (.int .i64 1)))) (fun x32 =>
 R_ref15_twice_0 call G n m0 m1 (maskO k_ref15_twice_0 ox31) (msk k_ref15_twice_0 y5) (msk k_ref15_twice_0 y1) (msk k_ref15_twice_0 y3) (msk k_ref15_twice_0 y4) (msk k_ref15_twice_0 x32) (msk k_ref15_twice_0 x31) (msk k_ref15_twice_0 y13) (msk k_ref15_twice_0 y28) (msk k_ref15_twice_0 y29) (msk k_ref15_twice_0 y30) (msk k_ref15_twice_0 y75) (msk k_ref15_twice_0 y76) (msk k_ref15_twice_0 y83) (msk k_ref15_twice_0 y96) (msk k_ref15_twice_0 y97) (msk k_ref15_twice_0 y119) (msk k_ref15_twice_0 y121) (msk k_ref15_twice_0 y127) (msk k_ref15_twice_0 y128)) ()) ()) ()) ()) ()) ()) ()) ()) ()) ()) ()) (fun _ =>
 Xgq y4 false (.mv (.c y6)) (fun x33 =>
 Xxg call y4 false ox19 58 (.call false i_ref09_Once [(.c x33)]) (fun x34 ox34 =>
 Xgq y4 false (.not (.c x34)) (fun x35 =>
 Xq (.pick (.c y4) (.c (.v (.bool true))) (.c x35)) (fun x36 =>
 Xq (.bin .add (.c y5) (.c (.v (.int .i64 1)))) (fun x37 =>
 R_ref15_twice_1 call G n m1 (maskO k_ref15_twice_1 ox34) (msk k_ref15_twice_1 x37) (msk k_ref15_twice_1 y1) (msk k_ref15_twice_1 x36) (msk k_ref15_twice_1 y3) (msk k_ref15_twice_1 y13) (msk k_ref15_twice_1 y75) (msk k_ref15_twice_1 y76) (msk k_ref15_twice_1 y83) (msk k_ref15_twice_1 y96) (msk k_ref15_twice_1 y97) (msk k_ref15_twice_1 y119) (msk k_ref15_twice_1 y121) (msk k_ref15_twice_1 y127) (msk k_ref15_twice_1 y128)) ()) ()) ()) ()) ()) () ()) ()) ()) ()) ()) ()) ()) () := by kernel_rfl
set_option maxRecDepth 100000 in
theorem R_ref15_twice_3_s (call : Eng.Call) (G : Nat → AV) (n m3 m4 : Nat) (o : Objs) (y9 y10 y1 y3 y8 y12 y4 y13 y28 y29 y30 y53 y54 y75 y76 y83 y96 y97 : AV) : R_ref15_twice_3 call G n (m3 + 1) m4 o y9 y10 y1 y3 y8 y12 y4 y13 y28 y29 y30 y53 y54 y75 y76 y83 y96 y97 =
 Xq (.len false (.c y9)) (fun x67 =>
 Xq (.bin .lss (.c y12) (.c x67)) (fun x68 =>
 Xc x68 (fun _ =>
 Xgq y4 false (.mv (.c y9)) (fun x69 =>
 Xgq y4 false (.mv (.c y12)) (fun x70 =>
 Xgq y4 false (.ias 7 (.c x69) (.c x70)) (fun x71 =>
 Xgq y4 false (.fad (.c x71) 6) (fun x72 =>
 Xpg call y4 false o 116 (.ld false 1 (.c x72)) (fun x73 nx73 sx73 =>
 Xgq y4 false (.bin .neq (.c x73) (.c (.v (.string ⟨#[]⟩)))) (fun x74 =>
 Xgq y4 false (.mv (.c x74)) (fun x75 =>
 Xpg call x75 true o 119 (.bsl 0 1 [] []) (fun x76 nx76 sx76 =>
 Xgq x75 true (.mv (.c y10)) (fun x77 =>
 Xdg x75 true (nx73 ++ nx76) [] 119 false 1 16 x76 x77 (fun x78 lx78 =>
 Xgq x75 true (.mv (.c y9)) (fun x79 =>
 Xgq x75 true (.mv (.c y12)) (fun x80 =>
 Xgq x75 true (.ias 7 (.c x79) (.c x80)) (fun x81 =>
 Xgq x75 true (.fad (.c x81) 6) (fun x82 =>
 Xpg call x75 true o 126 (.ld false 1 (.c x82)) (fun x83 nx83 sx83 =>
 Xpg call x75 true o 127 (.bsl 1 1 [(.v (.string ⟨#[]⟩))] [(0, (.c x83))]) (fun x84 nx84 sx84 =>
 Xag x75 true (finL (finO o (nx73 ++ nx76 ++ nx83 ++ nx84) (sx73 ++ sx76 ++ sx83 ++ sx84)) lx78) 128 false 1 16 x78 x84 (fun x85 ox85 =>
 Xxg call x75 true ox85 129 (.call false i_ref09_Once [(.c x85)]) (fun x86 ox86 =>
 Xgq x75 true (.not (.c x86)) (fun x87 =>
 Xgq y4 false (.pick (.c x75) (.c x87) (.c (.v (.bool false)))) (fun x88 =>
 Xq (.pick (.c y4) (.c (.v (.bool true))) (.c x88)) (fun x89 =>
 Xq (.bin .add (.c y12) (.c (.v (.int .i64 1)))) (fun x90 =>
 R_ref15_twice_3 call G n m3 m4 (maskO k_ref15_twice_3 ox86) (msk k_ref15_twice_3 y9) (msk k_ref15_twice_3 y10) (msk k_ref15_twice_3 y1) (msk k_ref15_twice_3 y3) (msk k_ref15_twice_3 y8) (msk k_ref15_twice_3 x90) (msk k_ref15_twice_3 x89) (msk k_ref15_twice_3 y13) (msk k_ref15_twice_3 y28) (msk k_ref15_twice_3 y29) (msk k_ref15_twice_3 y30) (msk k_ref15_twice_3 y53) (msk k_ref15_twice_3 y54) (msk k_ref15_twice_3 y75) (msk k_ref15_twice_3 y76) (msk k_ref15_twice_3 y83) (msk k_ref15_twice_3 y96) (msk k_ref15_twice_3 y97)) ()) ()) ()) ()) ()) ()) ()) ()) ()) ()) ()) ()) ()) ()) ()) ()) ()) ()) ()) ()) ()) ()) (fun _ =>
 Xq (.bin .add (.c y8) (.c (.v (.int .i64 1)))) (fun x91 =>
 R_ref15_twice_4 call G n m4 (maskO k_ref15_twice_4 o) (msk k_ref15_twice_4 y1) (msk k_ref15_twice_4 x91) (msk k_ref15_twice_4 y4) (msk k_ref15_twice_4 y3) (msk k_ref15_twice_4 y13) (msk k_ref15_twice_4 y28) (msk k_ref15_twice_4 y29) (msk k_ref15_twice_4 y30) (msk k_ref15_twice_4 y53) (msk k_ref15_twice_4 y54)) ()) () ()) ()) () := by kernel_rfl
set_option maxRecDepth 100000 in
theorem R_ref15_twice_2_s (call : Eng.Call) (G : Nat → AV) (n m2 m4 : Nat) (o : Objs) (y9 y1 y3 y8 y4 y11 y10 y13 y28 y29 y30 y53 y54 y75 y76 y83 y119 y121 y127 y128 : AV) : R_ref15_twice_2 call G n (m2 + 1) m4 o y9 y1 y3 y8 y4 y11 y10 y13 y28 y29 y30 y53 y54 y75 y76 y83 y119 y121 y127 y128 =
 Xq (.len false (.c y9)) (fun x55 =>
 Xq (.bin .lss (.c y11) (.c x55)) (fun x56 =>
 Xc x56 (fun _ =>
 Xq (.ias 7 (.c y9) (.c y11)) (fun x57 =>
 Xq (.fad (.c x57) 0) (fun x58 =>
 Xx call o 95 (.ld false 1 (.c x58)) (fun x59 ox59 =>
 Xx call ox59 96 (.bsl 1 1 [(.v (.string ⟨#[]⟩))] [(0, (.c x59))]) (fun x60 ox60 =>
 Xa ox60 97 false 1 16 y10 x60 (fun x61 ox61 =>
 Xq (.bin .add (.c y11) (.c (.v (.int .i64 1)))) (fun x62 =>
 R_ref15_twice_2 call G n m2 m4 (maskO k_ref15_twice_2 ox61) (msk k_ref15_twice_2 y9) (msk k_ref15_twice_2 y1) (msk k_ref15_twice_2 y3) (msk k_ref15_twice_2 y8) (msk k_ref15_twice_2 y4) (msk k_ref15_twice_2 x62) (msk k_ref15_twice_2 x61) (msk k_ref15_twice_2 y13) (msk k_ref15_twice_2 y28) (msk k_ref15_twice_2 y29) (msk k_ref15_twice_2 y30) (msk k_ref15_twice_2 y53) (msk k_ref15_twice_2 y54) (msk k_ref15_twice_2 y75) (msk k_ref15_twice_2 y76) (msk k_ref15_twice_2 y83) (msk k_ref15_twice_2 y119) (msk k_ref15_twice_2 y121) (msk k_ref15_twice_2 y127) (msk k_ref15_twice_2 y128)) ()) ()) ()) ()) ()) ()) (fun _ =>
 Xgq y4 false (.mv (.c y10)) (fun x63 =>
 Xxg call y4 false o 101 (.call false i_ref09_Once [(.c x63)]) (fun x64 ox64 =>
 Xgq y4 false (.not (.c x64)) (fun x65 =>
 Xq (.pick (.c y4) (.c (.v (.bool true))) (.c x65)) (fun x66 =>
 R_ref15_twice_3 call G n n m4 (maskO k_ref15_twice_3 ox64) (msk k_ref15_twice_3 y9) (msk k_ref15_twice_3 y10) (msk k_ref15_twice_3 y1) (msk k_ref15_twice_3 y3) (msk k_ref15_twice_3 y8) (msk k_ref15_twice_3 (.v (.int .i64 0))) (msk k_ref15_twice_3 x66) (msk k_ref15_twice_3 y13) (msk k_ref15_twice_3 y28) (msk k_ref15_twice_3 y29) (msk k_ref15_twice_3 y30) (msk k_ref15_twice_3 y53) (msk k_ref15_twice_3 y54) (msk k_ref15_twice_3 y75) (msk k_ref15_twice_3 y76) (msk k_ref15_twice_3 y83) (msk k_ref15_twice_3 .undef) (msk k_ref15_twice_3 .undef)) ()) ()) ()) ()) () ()) ()) () := by kernel_rfl
set_option maxRecDepth 100000 in
theorem R_ref15_twice_4_s (call : Eng.Call) (G : Nat → AV) (n m4 : Nat) (o : Objs) (y1 y8 y4 y3 y13 y28 y29 y30 y53 y54 : AV) : R_ref15_twice_4 call G n (m4 + 1) o y1 y8 y4 y3 y13 y28 y29 y30 y53 y54 =
 Xq (.fad (.c y1) 1) (fun x38 =>
 Xx call o 63 (.ld false 1 (.c x38)) (fun x39 ox39 =>
 Xq (.len false (.c x39)) (fun x40 =>
 Xq (.bin .lss (.c y8) (.c x40)) (fun x41 =>
 Xc x41 (fun _ =>
 Xq (.fad (.c y1) 1) (fun x42 =>
 Xx call ox39 70 (.ld false 1 (.c x42)) (fun x43 ox43 =>
 Xq (.ias 3 (.c x43) (.c y8)) (fun x44 =>
 Xq (.fad (.c x44) 0) (fun x45 =>
 Xx call ox43 74 (.ld false 1 (.c x45)) (fun x46 ox46 =>
 Xx call ox46 75 (.bsl 1 1 [(.v (.string ⟨#[]⟩))] [(0, (.c x46))]) (fun x47 ox47 =>
 Xa ox47 76 false 1 16 y3 x47 (fun x48 ox48 =>
 Xq (.fad (.c y1) 1) (fun x49 =>
 Xx call ox48 78 (.ld false 1 (.c x49)) (fun x50 ox50 =>
 Xq (.ias 3 (.c x50) (.c y8)) (fun x51 =>
 Xq (.fad (.c x51) 1) (fun x52 =>
 Xx call ox50 82 (.ld false 1 (.c x52)) (fun x53 ox53 =>
 Xx call ox53 83 (.bsl 0 1 [] []) (fun x54 ox54 =>
 R_ref15_twice_2 call G n n m4 (maskO k_ref15_twice_2 ox54) (msk k_ref15_twice_2 x53) (msk k_ref15_twice_2 y1) (msk k_ref15_twice_2 x48) (msk k_ref15_twice_2 y8) (msk k_ref15_twice_2 y4) (msk k_ref15_twice_2 (.v (.int .i64 0))) (msk k_ref15_twice_2 x54) (msk k_ref15_twice_2 y13) (msk k_ref15_twice_2 y28) (msk k_ref15_twice_2 y29) (msk k_ref15_twice_2 y30) (msk k_ref15_twice_2 y53) (msk k_ref15_twice_2 y54) (msk k_ref15_twice_2 x47) (msk k_ref15_twice_2 x48) (msk k_ref15_twice_2 x54) (msk k_ref15_twice_2 .undef) (msk k_ref15_twice_2 .undef) (msk k_ref15_twice_2 .undef) (msk k_ref15_twice_2 .undef)) ()) ()) ()) ()) ()) ()) ()) ()) ()) ()) ()) ()) ()) (fun _ =>
 Xgq y4 false (.mv (.c y3)) (fun x92 =>
 Xxg call y4 false ox39 136 (.call false i_ref09_Once [(.c x92)]) (fun x93 ox93 =>
 Xgq y4 false (.not (.c x93)) (fun x94 =>
 Xq (.pick (.c y4) (.c (.v (.bool true))) (.c x94)) (fun x95 =>
 Xr ox93 [some x95]) ()) ()) ()) ()) () ()) ()) ()) ()) () := by kernel_rfl
set_option maxRecDepth 100000 in
theorem R_ref15_twice_1_s (call : Eng.Call) (G : Nat → AV) (n m1 : Nat) (o : Objs) (y5 y1 y4 y3 y13 y75 y76 y83 y96 y97 y119 y121 y127 y128 : AV) : R_ref15_twice_1 call G n (m1 + 1) o y5 y1 y4 y3 y13 y75 y76 y83 y96 y97 y119 y121 y127 y128 =
 Xq (.fad (.c y1) 0) (fun x3 =>
 Xx call o 16 (.ld false 1 (.c x3)) (fun x4 ox4 =>
 Xq (.len false (.c x4)) (fun x5 =>
 Xq (.bin .lss (.c y5) (.c x5)) (fun x6 =>
 Xc x6 (fun _ =>
 Xq (.fad (.c y1) 0) (fun x7 =>
 Xx call ox4 23 (.ld false 1 (.c x7)) (fun x8 ox8 =>
 Xq (.ias 2 (.c x8) (.c y5)) (fun x9 =>
 Xq (.fad (.c x9) 0) (fun x10 =>
 Xx call ox8 27 (.ld false 1 (.c x10)) (fun x11 ox11 =>
 Xx call ox11 28 (.bsl 1 1 [(.v (.string ⟨#[]⟩))] [(0, (.c x11))]) (fun x12 ox12 =>
 Xa ox12 29 false 1 16 y3 x12 (fun x13 ox13 =>
 Xx call ox13 30 (.bsl 0 1 [] []) (fun x14 ox14 =>
 R_ref15_twice_0 call G n n m1 (maskO k_ref15_twice_0 ox14) (msk k_ref15_twice_0 y5) (msk k_ref15_twice_0 y1) (msk k_ref15_twice_0 x13) (msk k_ref15_twice_0 y4) (msk k_ref15_twice_0 (.v (.int .i64 0))) (msk k_ref15_twice_0 x14) (msk k_ref15_twice_0 y13) (msk k_ref15_twice_0 x12) (msk k_ref15_twice_0 x13) (msk k_ref15_twice_0 x14) (msk k_ref15_twice_0 y75) (msk k_ref15_twice_0 y76) (msk k_ref15_twice_0 y83) (msk k_ref15_twice_0 y96) (msk k_ref15_twice_0 y97) (msk k_ref15_twice_0 y119) (msk k_ref15_twice_0 y121) (msk k_ref15_twice_0 y127) (msk k_ref15_twice_0 y128)) ()) ()) ()) ()) ()) ()) ()) ()) (fun _ =>
 R_ref15_twice_4 call G n n (maskO k_ref15_twice_4 ox4) (msk k_ref15_twice_4 y1) (msk k_ref15_twice_4 (.v (.int .i64 0))) (msk k_ref15_twice_4 y4) (msk k_ref15_twice_4 y3) (msk k_ref15_twice_4 y13) (msk k_ref15_twice_4 .undef) (msk k_ref15_twice_4 .undef) (msk k_ref15_twice_4 .undef) (msk k_ref15_twice_4 .undef) (msk k_ref15_twice_4 .undef)) () ()) ()) ()) ()) () := by kernel_rfl
set_option maxRecDepth 100000 in
theorem s_ref15_twice (call : Eng.Call) (G : Nat → AV) (n : Nat) (x0 : AV) : denFE call G v_ref15_twice n c_ref15_twice [x0] =
 Xx call [] 1 (.box 2 [2, 3] (.c x0)) (fun x1 ox1 =>
 Xx call ox1 13 (.bsl 0 1 [] []) (fun x2 ox2 =>
 R_ref15_twice_1 call G n n (maskO k_ref15_twice_1 ox2) (msk k_ref15_twice_1 (.v (.int .i64 0))) (msk k_ref15_twice_1 x1) (msk k_ref15_twice_1 (.v (.bool false))) (msk k_ref15_twice_1 x2) (msk k_ref15_twice_1 x2) (msk k_ref15_twice_1 .undef) (msk k_ref15_twice_1 .undef) (msk k_ref15_twice_1 .undef) (msk k_ref15_twice_1 .undef) (msk k_ref15_twice_1 .undef) (msk k_ref15_twice_1 .undef) (msk k_ref15_twice_1 .undef) (msk k_ref15_twice_1 .undef) (msk k_ref15_twice_1 .undef)) ()) () := by kernel_rfl
def k_ref15_order_0 : List Nat := [5, 1, 4, 3, 7, 6, 10, 25, 26, 27, 79, 96, 97]
def c_ref15_order_b0 : CC := .seq (.seq (.reg [] [
  ⟨(some 28), none, .mv (.t 7)⟩,
  ⟨(some 29), none, .fad (.t 1) 0⟩,
  ⟨(some 30), none, .ld false 1 (.t 29)⟩,
  ⟨(some 31), none, .mv (.t 5)⟩,
  ⟨(some 32), none, .ias 2 (.t 30) (.t 31)⟩,
  ⟨(some 33), none, .fad (.t 32) 1⟩,
  ⟨(some 34), none, .ld false 1 (.t 33)⟩,
  ⟨(some 35), none, .len false (.t 34)⟩,
  ⟨(some 36), none, .bin .lss (.t 28) (.t 35)⟩]) (
  .cond (.t 36) (
  .skip) (
  .exit 2))) (
  .seq (.block 3 (
  .reg [] [
  ⟨(some 39), none, .mv (.t 6)⟩,
  ⟨(some 40), none, .fad (.t 1) 0⟩,
  ⟨(some 41), none, .ld false 1 (.t 40)⟩,
  ⟨(some 42), none, .mv (.t 5)⟩,
  ⟨(some 43), none, .ias 2 (.t 41) (.t 42)⟩,
  ⟨(some 44), none, .fad (.t 43) 1⟩,
  ⟨(some 45), none, .ld false 1 (.t 44)⟩,
  ⟨(some 46), none, .mv (.t 7)⟩,
  ⟨(some 47), none, .ias 2 (.t 45) (.t 46)⟩,
  ⟨(some 48), none, .fad (.t 47) 1⟩,
  ⟨(some 49), none, .ld false 1 (.t 48)⟩,
  ⟨(some 50), none, .bsl 1 1 [(.v (.int .i64 0))] [(0, (.t 49))]⟩,
  ⟨(some 51), none, .app false 1 8 (.t 39) (.t 50)⟩,
  ⟨(some 6), none, .mv (.t 51)⟩])) (
  .reg [] [
  ⟨(some 37), none, .mv (.t 7)⟩,
  ⟨(some 38), none, .bin .add (.t 37) (.c (.v (.int .i64 1)))⟩,
  ⟨(some 7), none, .mv (.t 38)⟩]))
def c_ref15_order_s0 : CC := .reg [] [
  ⟨(some 52), none, .mv (.t 3)⟩,
  ⟨(some 53), none, .mv (.t 52)⟩,
  ⟨(some 54), (some (53, false)), .mv (.t 6)⟩,
  ⟨(some 55), (some (53, false)), .call false i_ref15_Rises [(.t 54)]⟩,
  ⟨(some 56), (some (53, false)), .not (.t 55)⟩,
  ⟨(some 57), none, .pick (.t 53) (.c (.v (.bool true))) (.t 56)⟩,
  ⟨(some 58), none, .mv (.t 57)⟩,
  ⟨(some 59), (some (58, false)), .mv (.t 6)⟩,
  ⟨(some 60), (some (58, false)), .ias 1 (.t 59) (.c (.v (.int .i64 0)))⟩,
  ⟨(some 61), (some (58, false)), .ld false 1 (.t 60)⟩,
  ⟨(some 62), (some (58, false)), .bin .neq (.t 61) (.c (.v (.int .i64 0)))⟩,
  ⟨(some 63), none, .pick (.t 58) (.c (.v (.bool true))) (.t 62)⟩,
  ⟨(some 64), none, .mv (.t 63)⟩,
  ⟨(some 65), (some (64, false)), .mv (.t 6)⟩,
  ⟨(some 66), (some (64, false)), .mv (.t 6)⟩,
  ⟨(some 67), (some (64, false)), .len false (.t 66)⟩,
  ⟨(some 68), (some (64, false)), .bin .sub (.t 67) (.c (.v (.int .i64 1)))⟩,
  ⟨(some 69), (some (64, false)), .ias 1 (.t 65) (.t 68)⟩,
  ⟨(some 70), (some (64, false)), .ld false 1 (.t 69)⟩,
  ⟨(some 71), (some (64, false)), .bin .gtr (.t 70) (.c (.v (.int .i64 1048576)))⟩,
  ⟨(some 72), none, .pick (.t 64) (.c (.v (.bool true))) (.t 71)⟩,
  ⟨(some 3), none, .mv (.t 72)⟩]
def c_ref15_order_s1 : CC := .reg [] [
  ⟨(some 16), none, .mv (.t 5)⟩,
  ⟨(some 17), none, .bin .add (.t 16) (.c (.v (.int .i64 1)))⟩,
  ⟨(some 5), none, .mv (.t 17)⟩]
def k_ref15_order_1 : List Nat := [5, 1, 3, 4, 10, 79, 96, 97]
def c_ref15_order_b1 : CC := .seq (.seq (.reg [] [
  ⟨(some 11), none, .mv (.t 5)⟩,
  ⟨(some 12), none, .fad (.t 1) 0⟩,
  ⟨(some 13), none, .ld false 1 (.t 12)⟩,
  ⟨(some 14), none, .len false (.t 13)⟩,
  ⟨(some 15), none, .bin .lss (.t 11) (.t 14)⟩]) (
  .cond (.t 15) (
  .skip) (
  .exit 0))) (
  .seq (.block 1 (
  .seq (.reg [] [
  ⟨(some 18), none, .mv (.t 4)⟩,
  ⟨(some 19), none, .fad (.t 1) 0⟩,
  ⟨(some 20), none, .ld false 1 (.t 19)⟩,
  ⟨(some 21), none, .mv (.t 5)⟩,
  ⟨(some 22), none, .ias 2 (.t 20) (.t 21)⟩,
  ⟨(some 23), none, .fad (.t 22) 0⟩,
  ⟨(some 24), none, .ld false 1 (.t 23)⟩,
  ⟨(some 25), none, .bsl 1 1 [(.v (.string ⟨#[]⟩))] [(0, (.t 24))]⟩,
  ⟨(some 26), none, .app false 1 16 (.t 18) (.t 25)⟩,
  ⟨(some 4), none, .mv (.t 26)⟩]) (
  .seq (.reg [] [
  ⟨(some 27), none, .bsl 0 1 [] []⟩,
  ⟨(some 6), none, .mv (.t 27)⟩]) (
  .seq (.seq (.reg [] [
  ⟨(some 7), none, .mv (.c (.v (.int .i64 0)))⟩]) (
  .block 2 (
  .loop k_ref15_order_0 c_ref15_order_b0))) c_ref15_order_s0)))) c_ref15_order_s1)
def k_ref15_order_2 : List Nat := [1, 8, 3, 4, 10, 25, 26, 27, 50, 51, 79]
def c_ref15_order_b2 : CC := .seq (.seq (.reg [] [
  ⟨(some 80), none, .mv (.t 8)⟩,
  ⟨(some 81), none, .fad (.t 1) 1⟩,
  ⟨(some 82), none, .ld false 1 (.t 81)⟩,
  ⟨(some 83), none, .len false (.t 82)⟩,
  ⟨(some 84), none, .bin .lss (.t 80) (.t 83)⟩]) (
  .cond (.t 84) (
  .skip) (
  .exit 4))) (
  .seq (.block 5 (
  .seq (.seq (.reg [] [
  ⟨(some 87), none, .mv (.t 8)⟩,
  ⟨(some 88), none, .bin .gtr (.t 87) (.c (.v (.int .i64 0)))⟩]) (
  .cond (.t 88) (
  .reg [] [
  ⟨(some 89), none, .mv (.t 4)⟩,
  ⟨(some 90), none, .fad (.t 1) 1⟩,
  ⟨(some 91), none, .ld false 1 (.t 90)⟩,
  ⟨(some 92), none, .mv (.t 8)⟩,
  ⟨(some 93), none, .ias 3 (.t 91) (.t 92)⟩,
  ⟨(some 94), none, .fad (.t 93) 0⟩,
  ⟨(some 95), none, .ld false 1 (.t 94)⟩,
  ⟨(some 96), none, .bsl 1 1 [(.v (.string ⟨#[]⟩))] [(0, (.t 95))]⟩,
  ⟨(some 97), none, .app false 1 16 (.t 89) (.t 96)⟩,
  ⟨(some 4), none, .mv (.t 97)⟩]) (
  .skip))) (
  .seq (.reg [] [
  ⟨(some 98), none, .fad (.t 1) 1⟩,
  ⟨(some 99), none, .ld false 1 (.t 98)⟩,
  ⟨(some 100), none, .mv (.t 8)⟩,
  ⟨(some 101), none, .ias 3 (.t 99) (.t 100)⟩,
  ⟨(some 102), none, .fad (.t 101) 2⟩,
  ⟨(some 103), none, .ld false 1 (.t 102)⟩,
  ⟨(some 9), none, .mv (.t 103)⟩]) (
  .seq (.reg [] [
  ⟨(some 104), none, .mv (.t 3)⟩,
  ⟨(some 105), none, .mv (.t 104)⟩,
  ⟨(some 106), (some (105, false)), .fad (.t 1) 1⟩,
  ⟨(some 107), (some (105, false)), .ld false 1 (.t 106)⟩,
  ⟨(some 108), (some (105, false)), .mv (.t 8)⟩,
  ⟨(some 109), (some (105, false)), .ias 3 (.t 107) (.t 108)⟩,
  ⟨(some 110), (some (105, false)), .ld true 3 (.t 109)⟩,
  ⟨(some 111), (some (105, false)), .call false i_ref15_Nums [(.t 110)]⟩,
  ⟨(some 112), (some (105, false)), .call false i_ref15_Rises [(.t 111)]⟩,
  ⟨(some 113), (some (105, false)), .not (.t 112)⟩,
  ⟨(some 114), none, .pick (.t 105) (.c (.v (.bool true))) (.t 113)⟩,
  ⟨(some 115), none, .mv (.t 114)⟩,
  ⟨(some 116), (some (115, false)), .mv (.t 9)⟩,
  ⟨(some 117), (some (115, false)), .call false i_ref15_Rises [(.t 116)]⟩,
  ⟨(some 118), (some (115, false)), .not (.t 117)⟩,
  ⟨(some 119), none, .pick (.t 115) (.c (.v (.bool true))) (.t 118)⟩,
  ⟨(some 3), none, .mv (.t 119)⟩]) (
  .reg [] [
  ⟨(some 120), none, .mv (.t 3)⟩,
  ⟨(some 121), none, .mv (.t 120)⟩,
  ⟨(some 122), (some (121, false)), .mv (.t 9)⟩,
  ⟨(some 123), (some (121, false)), .len false (.t 122)⟩,
  ⟨(some 124), (some (121, false)), .bin .gtr (.t 123) (.c (.v (.int .i64 0)))⟩,
  ⟨(some 125), (some (121, false)), .mv (.t 124)⟩,
  ⟨(some 126), (some (125, true)), .mv (.t 9)⟩,
  ⟨(some 127), (some (125, true)), .ias 1 (.t 126) (.c (.v (.int .i64 0)))⟩,
  ⟨(some 128), (some (125, true)), .ld false 1 (.t 127)⟩,
  ⟨(some 129), (some (125, true)), .bin .lss (.t 128) (.c (.v (.int .i64 1)))⟩,
  ⟨(some 130), (some (125, true)), .mv (.t 129)⟩,
  ⟨(some 131), (some (130, false)), .mv (.t 9)⟩,
  ⟨(some 132), (some (130, false)), .mv (.t 9)⟩,
  ⟨(some 133), (some (130, false)), .len false (.t 132)⟩,
  ⟨(some 134), (some (130, false)), .bin .sub (.t 133) (.c (.v (.int .i64 1)))⟩,
  ⟨(some 135), (some (130, false)), .ias 1 (.t 131) (.t 134)⟩,
  ⟨(some 136), (some (130, false)), .ld false 1 (.t 135)⟩,
  ⟨(some 137), (some (130, false)), .bin .gtr (.t 136) (.c (.v (.int .i64 536870911)))⟩,
  ⟨(some 138), (some (125, true)), .pick (.t 130) (.c (.v (.bool true))) (.t 137)⟩,
  ⟨(some 139), (some (121, false)), .pick (.t 125) (.t 138) (.c (.v (.bool false)))⟩,
  ⟨(some 140), none, .pick (.t 121) (.c (.v (.bool true))) (.t 139)⟩,
  ⟨(some 3), none, .mv (.t 140)⟩]))))) (
  .reg [] [
  ⟨(some 85), none, .mv (.t 8)⟩,
  ⟨(some 86), none, .bin .add (.t 85) (.c (.v (.int .i64 1)))⟩,
  ⟨(some 8), none, .mv (.t 86)⟩]))
def c_ref15_order_s2 : CC := .seq (.reg [] [
  ⟨(some 141), none, .mv (.t 3)⟩,
  ⟨(some 142), none, .mv (.t 141)⟩,
  ⟨(some 143), (some (142, false)), .mv (.t 4)⟩,
  ⟨(some 144), (some (142, false)), .call false i_ref09_Rise [(.t 143)]⟩,
  ⟨(some 145), (some (142, false)), .not (.t 144)⟩,
  ⟨(some 146), none, .pick (.t 142) (.c (.v (.bool true))) (.t 145)⟩,
  ⟨(some 2), none, .mv (.t 146)⟩]) (
  .ret)
def c_ref15_order_s3 : CC := .seq (.reg [] [
  ⟨(some 73), none, .mv (.t 3)⟩,
  ⟨(some 74), none, .mv (.t 73)⟩,
  ⟨(some 75), (some (74, false)), .mv (.t 4)⟩,
  ⟨(some 76), (some (74, false)), .call false i_ref09_Rise [(.t 75)]⟩,
  ⟨(some 77), (some (74, false)), .not (.t 76)⟩,
  ⟨(some 78), none, .pick (.t 74) (.c (.v (.bool true))) (.t 77)⟩,
  ⟨(some 3), none, .mv (.t 78)⟩]) (
  .seq (.reg [] [
  ⟨(some 79), none, .bsl 0 1 [] []⟩,
  ⟨(some 4), none, .mv (.t 79)⟩]) (
  .seq (.seq (.reg [] [
  ⟨(some 8), none, .mv (.c (.v (.int .i64 0)))⟩]) (
  .block 4 (
  .loop k_ref15_order_2 c_ref15_order_b2))) c_ref15_order_s2))
def c_ref15_order : CF := ⟨1, 147,
  .seq (.reg [] [
  ⟨(some 1), none, .box 2 [2, 3] (.t 0)⟩,
  ⟨(some 2), none, .mv (.c (.v (.bool false)))⟩]) (
  .seq (.reg [] [
  ⟨(some 3), none, .mv (.c (.v (.bool false)))⟩]) (
  .seq (.reg [] [
  ⟨(some 10), none, .bsl 0 1 [] []⟩,
  ⟨(some 4), none, .mv (.t 10)⟩]) (
  .seq (.seq (.reg [] [
  ⟨(some 5), none, .mv (.c (.v (.int .i64 0)))⟩]) (
  .block 0 (
  .loop k_ref15_order_1 c_ref15_order_b1))) c_ref15_order_s3))),
  [.t 2]⟩
def v_ref15_order : List Nat := []
def R_ref15_order_0 (call : Eng.Call) (G : Nat → AV) (n m0 m1 : Nat) (o : Objs) (y5 y1 y4 y3 y7 y6 y10 y25 y26 y27 y79 y96 y97 : AV) : Out := roundsE k_ref15_order_0 (denE 147 call G v_ref15_order n c_ref15_order_b0) m0 [y5, y1, y4, y3, y7, y6, y10, y25, y26, y27, y79, y96, y97] o (eBlock 2 (eSeq (denE 147 call G v_ref15_order n c_ref15_order_s0) (eBlock 1 (eSeq (denE 147 call G v_ref15_order n c_ref15_order_s1) (eLoop k_ref15_order_1 (denE 147 call G v_ref15_order n c_ref15_order_b1) m1 (eBlock 0 (eSeq (denE 147 call G v_ref15_order n c_ref15_order_s3) (eEnd [.t 2]))))))))
def R_ref15_order_2 (call : Eng.Call) (G : Nat → AV) (n m2 : Nat) (o : Objs) (y1 y8 y3 y4 y10 y25 y26 y27 y50 y51 y79 : AV) : Out := roundsE k_ref15_order_2 (denE 147 call G v_ref15_order n c_ref15_order_b2) m2 [y1, y8, y3, y4, y10, y25, y26, y27, y50, y51, y79] o (eBlock 4 (eSeq (denE 147 call G v_ref15_order n c_ref15_order_s2) (eEnd [.t 2])))
def R_ref15_order_1 (call : Eng.Call) (G : Nat → AV) (n m1 : Nat) (o : Objs) (y5 y1 y3 y4 y10 y79 y96 y97 : AV) : Out := roundsE k_ref15_order_1 (denE 147 call G v_ref15_order n c_ref15_order_b1) m1 [y5, y1, y3, y4, y10, y79, y96, y97] o (eBlock 0 (eSeq (denE 147 call G v_ref15_order n c_ref15_order_s3) (eEnd [.t 2])))
def J_ref15_order_0 (call : Eng.Call) (G : Nat → AV) (n m2 : Nat) (oJ : Objs) (z1z z3z z4z z8z z10z z25z z26z z27z z50z z51z z79z : AV) : Out :=
 Xq (.fad (.c z1z) 1) (fun x60 =>
 Xx call oJ 99 (.ld false 1 (.c x60)) (fun x61 ox61 =>
 Xq (.ias 3 (.c x61) (.c z8z)) (fun x62 =>
 Xq (.fad (.c x62) 2) (fun x63 =>
 Xx call ox61 103 (.ld false 1 (.c x63)) (fun x64 ox64 =>
 Xgq z3z false (.fad (.c z1z) 1) (fun x65 =>
 Xxg call z3z false ox64 107 (.ld false 1 (.c x65)) (fun x66 ox66 =>
 Xgq z3z false (.mv (.c z8z)) (fun x67 =>
 Xgq z3z false (.ias 3 (.c x66) (.c x67)) (fun x68 =>
 Xxg call z3z false ox66 110 (.ld true 3 (.c x68)) (fun x69 ox69 =>
 Xxg call z3z false ox69 111 (.call false i_ref15_Nums [(.c x69)]) (fun x70 ox70 =>
 Xxg call z3z false ox70 112 (.call false i_ref15_Rises [(.c x70)]) (fun x71 ox71 =>
 Xgq z3z false (.not (.c x71)) (fun x72 =>
 Xq (.pick (.c z3z) (.c (.v (.bool true))) (.c x72)) (fun x73 =>
 Xgq x73 false (.mv (.c x64)) (fun x74 =>
 Xxg call x73 false ox71 117 (.call false i_ref15_Rises [(.c x74)]) (fun x75 ox75 =>
 Xgq x73 false (.not (.c x75)) (fun x76 =>
 Xq (.pick (.c x73) (.c (.v (.bool true))) (.c x76)) (fun x77 =>
 Xgq x77 false (.mv (.c x64)) (fun x78 =>
 Xgq x77 false (.len false (.c x78)) (fun x79 =>
 Xgq x77 false (.bin .gtr (.c x79) (.c (.v (.int .i64 0)))) (fun x80 =>
 Xgq x77 false (.mv (.c x80)) (fun x81 =>
 Xgq x81 true (.mv (.c x64)) (fun x82 =>
 Xgq x81 true (.ias 1 (.c x82) (.c (.v (.int .i64 0)))) (fun x83 =>
 Xxg call x81 true ox75 128 (.ld false 1 (.c x83)) (fun x84 ox84 =>
 Xgq x81 true (.bin .lss (.c x84) (.c (.v (.int .i64 1)))) (fun x85 =>
 Xgq x81 true (.mv (.c x85)) (fun x86 =>
 Xgq x86 false (.mv (.c x64)) (fun x87 =>
 Xgq x86 false (.mv (.c x64)) (fun x88 =>
 Xgq x86 false (.len false (.c x88)) (fun x89 =>
 Xgq x86 false (.bin .sub (.c x89) (.c (.v (.int .i64 1)))) (fun x90 =>
 Xgq x86 false (.ias 1 (.c x87) (.c x90)) (fun x91 =>
 Xxg call x86 false ox84 136 (.ld false 1 (.c x91)) (fun x92 ox92 =>
 Xgq x86 false (.bin .gtr (.c x92) (.c (.v (.int .i64 536870911)))) (fun x93 =>
 Xgq x81 true (.pick (.c x86) (.c (.v (.bool true))) (.c x93)) (fun x94 =>
 Xgq x77 false (.pick (.c x81) (.c x94) (.c (.v (.bool false)))) (fun x95 =>
 Xq (.pick (.c x77) (.c (.v (.bool true))) (.c x95)) (fun x96 =>
 Xq (.bin .add (.c z8z) (.c (.v (.int .i64 1)))) (fun x97 =>
 R_ref15_order_2 call G n m2 (maskO k_ref15_order_2 ox92) (msk k_ref15_order_2 z1z) (msk k_ref15_order_2 x97) (msk k_ref15_order_2 x96) (msk k_ref15_order_2 z4z) (msk k_ref15_order_2 z10z) (msk k_ref15_order_2 z25z) (msk k_ref15_order_2 z26z) (msk k_ref15_order_2 z27z) (msk k_ref15_order_2 z50z) (msk k_ref15_order_2 z51z) (msk k_ref15_order_2 z79z)) ()) ()) ()) ()) ()) ()) ()) ()) ()) ()) ()) ()) ()) ()) ()) ()) ()) ()) ()) ()) ()) ()) ()) ()) ()) ()) ()) ()) ()) ()) ()) ()) ()) ()) ()) ()) ()) ()
set_option maxRecDepth 100000 in
theorem R_ref15_order_0_s (call : Eng.Call) (G : Nat → AV) (n m0 m1 : Nat) (o : Objs) (y5 y1 y4 y3 y7 y6 y10 y25 y26 y27 y79 y96 y97 : AV) : R_ref15_order_0 call G n (m0 + 1) m1 o y5 y1 y4 y3 y7 y6 y10 y25 y26 y27 y79 y96 y97 =
 Xq (.fad (.c y1) 0) (fun x15 =>
 Xx call o 30 (.ld false 1 (.c x15)) (fun x16 ox16 =>
 Xq (.ias 2 (.c x16) (.c y5)) (fun x17 =>
 Xq (.fad (.c x17) 1) (fun x18 =>
 Xx call ox16 34 (.ld false 1 (.c x18)) (fun x19 ox19 =>
 Xq (.len false (.c x19)) (fun x20 =>
 Xq (.bin .lss (.c y7) (.c x20)) (fun x21 =>
 Xc x21 (fun _ =>
 Xq (.fad (.c y1) 0) (fun x22 =>
 Xx call ox19 41 (.ld false 1 (.c x22)) (fun x23 ox23 =>
 Xq (.ias 2 (.c x23) (.c y5)) (fun x24 =>
 Xq (.fad (.c x24) 1) (fun x25 =>
 Xx call ox23 45 (.ld false 1 (.c x25)) (fun x26 ox26 =>
 Xq (.ias 2 (.c x26) (.c y7)) (fun x27 =>
 Xq (.fad (.c x27) 1) (fun x28 =>
 Xx call ox26 49 (.ld false 1 (.c x28)) (fun x29 ox29 =>
 Xx call ox29 50 (.bsl 1 1 [(.v (.int .i64 0))] [(0, (.c x29))]) (fun x30 ox30 =>
 Xa ox30 51 false 1 8 y6 x30 (fun x31 ox31 =>
 Xq (.bin .add (.c y7) (.c (.v (.int .i64 1)))) (fun x32 =>
 R_ref15_order_0 call G n m0 m1 (maskO k_ref15_order_0 ox31) (msk k_ref15_order_0 y5) (msk k_ref15_order_0 y1) (msk k_ref15_order_0 y4) (msk k_ref15_order_0 y3) (msk k_ref15_order_0 x32) (msk k_ref15_order_0 x31) (msk k_ref15_order_0 y10) (msk k_ref15_order_0 y25) (msk k_ref15_order_0 y26) (msk k_ref15_order_0 y27) (msk k_ref15_order_0 y79) (msk k_ref15_order_0 y96) (msk k_ref15_order_0 y97)) ()) ()) ()) ()) ()) ()) ()) ()) ()) ()) ()) (fun _ =>
 Xgq y3 false (.mv (.c y6)) (fun x33 =>
 Xxg call y3 false ox19 55 (.call false i_ref15_Rises [(.c x33)]) (fun x34 ox34 =>
 Xgq y3 false (.not (.c x34)) (fun x35 =>
 Xq (.pick (.c y3) (.c (.v (.bool true))) (.c x35)) (fun x36 =>
 Xgq x36 false (.mv (.c y6)) (fun x37 =>
 Xgq x36 false (.ias 1 (.c x37) (.c (.v (.int .i64 0)))) (fun x38 =>
 Xxg call x36 false ox34 61 (.ld false 1 (.c x38)) (fun x39 ox39 =>
 Xgq x36 false (.bin .neq (.c x39) (.c (.v (.int .i64 0)))) (fun x40 =>
 Xq (.pick (.c x36) (.c (.v (.bool true))) (.c x40)) (fun x41 =>
 Xgq x41 false (.mv (.c y6)) (fun x42 =>
 Xgq x41 false (.mv (.c y6)) (fun x43 =>
 Xgq x41 false (.len false (.c x43)) (fun x44 =>
 Xgq x41 false (.bin .sub (.c x44) (.c (.v (.int .i64 1)))) (fun x45 =>
 Xgq x41 false (.ias 1 (.c x42) (.c x45)) (fun x46 =>
 Xxg call x41 false ox39 70 (.ld false 1 (.c x46)) (fun x47 ox47 =>
 Xgq x41 false (.bin .gtr (.c x47) (.c (.v (.int .i64 1048576)))) (fun x48 =>
 Xq (.pick (.c x41) (.c (.v (.bool true))) (.c x48)) (fun x49 =>
 Xq (.bin .add (.c y5) (.c (.v (.int .i64 1)))) (fun x50 =>
 R_ref15_order_1 call G n m1 (maskO k_ref15_order_1 ox47) (msk k_ref15_order_1 x50) (msk k_ref15_order_1 y1) (msk k_ref15_order_1 x49) (msk k_ref15_order_1 y4) (msk k_ref15_order_1 y10) (msk k_ref15_order_1 y79) (msk k_ref15_order_1 y96) (msk k_ref15_order_1 y97)) ()) ()) ()) ()) ()) ()) ()) ()) ()) ()) ()) ()) ()) ()) ()) ()) ()) ()) () ()) ()) ()) ()) ()) ()) ()) () := by kernel_rfl
set_option maxRecDepth 100000 in
theorem R_ref15_order_2_s (call : Eng.Call) (G : Nat → AV) (n m2 : Nat) (o : Objs) (y1 y8 y3 y4 y10 y25 y26 y27 y50 y51 y79 : AV) : R_ref15_order_2 call G n (m2 + 1) o y1 y8 y3 y4 y10 y25 y26 y27 y50 y51 y79 =
 Xq (.fad (.c y1) 1) (fun x56 =>
 Xx call o 82 (.ld false 1 (.c x56)) (fun x57 ox57 =>
 Xq (.len false (.c x57)) (fun x58 =>
 Xq (.bin .lss (.c y8) (.c x58)) (fun x59 =>
 Xc x59 (fun _ =>
 Xq (.bin .gtr (.c y8) (.c (.v (.int .i64 0)))) (fun x98 =>
 Xc x98 (fun _ =>
 Xq (.fad (.c y1) 1) (fun x99 =>
 Xx call ox57 91 (.ld false 1 (.c x99)) (fun x100 ox100 =>
 Xq (.ias 3 (.c x100) (.c y8)) (fun x101 =>
 Xq (.fad (.c x101) 0) (fun x102 =>
 Xx call ox100 95 (.ld false 1 (.c x102)) (fun x103 ox103 =>
 Xx call ox103 96 (.bsl 1 1 [(.v (.string ⟨#[]⟩))] [(0, (.c x103))]) (fun x104 ox104 =>
 Xa ox104 97 false 1 16 y4 x104 (fun x105 ox105 =>
 J_ref15_order_0 call G n m2 ox105 y1 y3 x105 y8 y10 y25 y26 y27 y50 y51 y79) ()) ()) ()) ()) ()) ()) ()) (fun _ =>
 J_ref15_order_0 call G n m2 ox57 y1 y3 y4 y8 y10 y25 y26 y27 y50 y51 y79) () ()) ()) (fun _ =>
 Xgq y3 false (.mv (.c y4)) (fun x106 =>
 Xxg call y3 false ox57 144 (.call false i_ref09_Rise [(.c x106)]) (fun x107 ox107 =>
 Xgq y3 false (.not (.c x107)) (fun x108 =>
 Xq (.pick (.c y3) (.c (.v (.bool true))) (.c x108)) (fun x109 =>
 Xr ox107 [some x109]) ()) ()) ()) ()) () ()) ()) ()) ()) () := by kernel_rfl
set_option maxRecDepth 100000 in
theorem R_ref15_order_1_s (call : Eng.Call) (G : Nat → AV) (n m1 : Nat) (o : Objs) (y5 y1 y3 y4 y10 y79 y96 y97 : AV) : R_ref15_order_1 call G n (m1 + 1) o y5 y1 y3 y4 y10 y79 y96 y97 =
 Xq (.fad (.c y1) 0) (fun x3 =>
 Xx call o 13 (.ld false 1 (.c x3)) (fun x4 ox4 =>
 Xq (.len false (.c x4)) (fun x5 =>
 Xq (.bin .lss (.c y5) (.c x5)) (fun x6 =>
 Xc x6 (fun _ =>
 Xq (.fad (.c y1) 0) (fun x7 =>
 Xx call ox4 20 (.ld false 1 (.c x7)) (fun x8 ox8 =>
 Xq (.ias 2 (.c x8) (.c y5)) (fun x9 =>
 Xq (.fad (.c x9) 0) (fun x10 =>
 Xx call ox8 24 (.ld false 1 (.c x10)) (fun x11 ox11 =>
 Xx call ox11 25 (.bsl 1 1 [(.v (.string ⟨#[]⟩))] [(0, (.c x11))]) (fun x12 ox12 =>
 Xa ox12 26 false 1 16 y4 x12 (fun x13 ox13 =>
 Xx call ox13 27 (.bsl 0 1 [] []) (fun x14 ox14 =>
 R_ref15_order_0 call G n n m1 (maskO k_ref15_order_0 ox14) (msk k_ref15_order_0 y5) (msk k_ref15_order_0 y1) (msk k_ref15_order_0 x13) (msk k_ref15_order_0 y3) (msk k_ref15_order_0 (.v (.int .i64 0))) (msk k_ref15_order_0 x14) (msk k_ref15_order_0 y10) (msk k_ref15_order_0 x12) (msk k_ref15_order_0 x13) (msk k_ref15_order_0 x14) (msk k_ref15_order_0 y79) (msk k_ref15_order_0 y96) (msk k_ref15_order_0 y97)) ()) ()) ()) ()) ()) ()) ()) ()) (fun _ =>
 Xgq y3 false (.mv (.c y4)) (fun x51 =>
 Xxg call y3 false ox4 76 (.call false i_ref09_Rise [(.c x51)]) (fun x52 ox52 =>
 Xgq y3 false (.not (.c x52)) (fun x53 =>
 Xq (.pick (.c y3) (.c (.v (.bool true))) (.c x53)) (fun x54 =>
 Xx call ox52 79 (.bsl 0 1 [] []) (fun x55 ox55 =>
 R_ref15_order_2 call G n n (maskO k_ref15_order_2 ox55) (msk k_ref15_order_2 y1) (msk k_ref15_order_2 (.v (.int .i64 0))) (msk k_ref15_order_2 x54) (msk k_ref15_order_2 x55) (msk k_ref15_order_2 y10) (msk k_ref15_order_2 .undef) (msk k_ref15_order_2 .undef) (msk k_ref15_order_2 .undef) (msk k_ref15_order_2 .undef) (msk k_ref15_order_2 .undef) (msk k_ref15_order_2 x55)) ()) ()) ()) ()) ()) () ()) ()) ()) ()) () := by kernel_rfl
set_option maxRecDepth 100000 in
theorem s_ref15_order (call : Eng.Call) (G : Nat → AV) (n : Nat) (x0 : AV) : denFE call G v_ref15_order n c_ref15_order [x0] =
 Xx call [] 1 (.box 2 [2, 3] (.c x0)) (fun x1 ox1 =>
 Xx call ox1 10 (.bsl 0 1 [] []) (fun x2 ox2 =>
 R_ref15_order_1 call G n n (maskO k_ref15_order_1 ox2) (msk k_ref15_order_1 (.v (.int .i64 0))) (msk k_ref15_order_1 x1) (msk k_ref15_order_1 (.v (.bool false))) (msk k_ref15_order_1 x2) (msk k_ref15_order_1 x2) (msk k_ref15_order_1 .undef) (msk k_ref15_order_1 .undef) (msk k_ref15_order_1 .undef)) ()) () := by kernel_rfl
def k_ref15_barred_0 : List Nat := [3, 1, 4]
def c_ref15_barred_b0 : CC := .seq (.seq (.reg [] [
  ⟨(some 12), none, .mv (.t 4)⟩,
  ⟨(some 13), none, .fad (.t 1) 1⟩,
  ⟨(some 14), none, .ld false 1 (.t 13)⟩,
  ⟨(some 15), none, .mv (.t 3)⟩,
  ⟨(some 16), none, .ias 3 (.t 14) (.t 15)⟩,
  ⟨(some 17), none, .fad (.t 16) 1⟩,
  ⟨(some 18), none, .ld false 1 (.t 17)⟩,
  ⟨(some 19), none, .len false (.t 18)⟩,
  ⟨(some 20), none, .bin .lss (.t 12) (.t 19)⟩]) (
  .cond (.t 20) (
  .skip) (
  .exit 2))) (
  .seq (.block 3 (
  .seq (.reg [
  ⟨(some 23), none, .fad (.t 1) 1⟩,
  ⟨(some 24), none, .ld false 1 (.t 23)⟩,
  ⟨(some 25), none, .mv (.t 3)⟩,
  ⟨(some 26), none, .ias 3 (.t 24) (.t 25)⟩,
  ⟨(some 27), none, .fad (.t 26) 2⟩,
  ⟨(some 28), none, .ld false 1 (.t 27)⟩,
  ⟨(some 29), none, .fad (.t 1) 1⟩,
  ⟨(some 30), none, .ld false 1 (.t 29)⟩,
  ⟨(some 31), none, .mv (.t 3)⟩,
  ⟨(some 32), none, .ias 3 (.t 30) (.t 31)⟩,
  ⟨(some 33), none, .fad (.t 32) 1⟩,
  ⟨(some 34), none, .ld false 1 (.t 33)⟩,
  ⟨(some 35), none, .mv (.t 4)⟩,
  ⟨(some 36), none, .ias 7 (.t 34) (.t 35)⟩,
  ⟨(some 37), none, .fad (.t 36) 1⟩,
  ⟨(some 38), none, .ld false 1 (.t 37)⟩] [
  ⟨(some 39), none, .call false i_ref15_Has [(.t 28), (.t 38)]⟩]) (
  .cond (.t 39) (
  .seq (.reg [] [
  ⟨(some 2), none, .mv (.c (.v (.bool true)))⟩]) (
  .ret)) (
  .skip)))) (
  .reg [] [
  ⟨(some 21), none, .mv (.t 4)⟩,
  ⟨(some 22), none, .bin .add (.t 21) (.c (.v (.int .i64 1)))⟩,
  ⟨(some 4), none, .mv (.t 22)⟩]))
def c_ref15_barred_s0 : CC := .reg [] [
  ⟨(some 10), none, .mv (.t 3)⟩,
  ⟨(some 11), none, .bin .add (.t 10) (.c (.v (.int .i64 1)))⟩,
  ⟨(some 3), none, .mv (.t 11)⟩]
def k_ref15_barred_1 : List Nat := [3, 1]
def c_ref15_barred_b1 : CC := .seq (.seq (.reg [] [
  ⟨(some 5), none, .mv (.t 3)⟩,
  ⟨(some 6), none, .fad (.t 1) 1⟩,
  ⟨(some 7), none, .ld false 1 (.t 6)⟩,
  ⟨(some 8), none, .len false (.t 7)⟩,
  ⟨(some 9), none, .bin .lss (.t 5) (.t 8)⟩]) (
  .cond (.t 9) (
  .skip) (
  .exit 0))) (
  .seq (.block 1 (
  .seq (.reg [] [
  ⟨(some 4), none, .mv (.c (.v (.int .i64 0)))⟩]) (
  .block 2 (
  .loop k_ref15_barred_0 c_ref15_barred_b0)))) c_ref15_barred_s0)
def c_ref15_barred_s1 : CC := .seq (.reg [] [
  ⟨(some 2), none, .mv (.c (.v (.bool false)))⟩]) (
  .ret)
def c_ref15_barred : CF := ⟨1, 40,
  .seq (.reg [] [
  ⟨(some 1), none, .box 2 [2, 3] (.t 0)⟩,
  ⟨(some 2), none, .mv (.c (.v (.bool false)))⟩]) (
  .seq (.seq (.reg [] [
  ⟨(some 3), none, .mv (.c (.v (.int .i64 0)))⟩]) (
  .block 0 (
  .loop k_ref15_barred_1 c_ref15_barred_b1))) c_ref15_barred_s1),
  [.t 2]⟩
def v_ref15_barred : List Nat := []
def R_ref15_barred_0 (call : Eng.Call) (G : Nat → AV) (n m0 m1 : Nat) (o : Objs) (y3 y1 y4 : AV) : Out := roundsE k_ref15_barred_0 (denE 40 call G v_ref15_barred n c_ref15_barred_b0) m0 [y3, y1, y4] o (eBlock 2 (eBlock 1 (eSeq (denE 40 call G v_ref15_barred n c_ref15_barred_s0) (eLoop k_ref15_barred_1 (denE 40 call G v_ref15_barred n c_ref15_barred_b1) m1 (eBlock 0 (eSeq (denE 40 call G v_ref15_barred n c_ref15_barred_s1) (eEnd [.t 2])))))))
def R_ref15_barred_1 (call : Eng.Call) (G : Nat → AV) (n m1 : Nat) (o : Objs) (y3 y1 : AV) : Out := roundsE k_ref15_barred_1 (denE 40 call G v_ref15_barred n c_ref15_barred_b1) m1 [y3, y1] o (eBlock 0 (eSeq (denE 40 call G v_ref15_barred n c_ref15_barred_s1) (eEnd [.t 2])))
set_option maxRecDepth 100000 in
theorem R_ref15_barred_0_s (call : Eng.Call) (G : Nat → AV) (n m0 m1 : Nat) (o : Objs) (y3 y1 y4 : AV) : R_ref15_barred_0 call G n (m0 + 1) m1 o y3 y1 y4 =
 Xq (.fad (.c y1) 1) (fun x6 =>
 Xx call o 14 (.ld false 1 (.c x6)) (fun x7 ox7 =>
 Xq (.ias 3 (.c x7) (.c y3)) (fun x8 =>
 Xq (.fad (.c x8) 1) (fun x9 =>
 Xx call ox7 18 (.ld false 1 (.c x9)) (fun x10 ox10 =>
 Xq (.len false (.c x10)) (fun x11 =>
 Xq (.bin .lss (.c y4) (.c x11)) (fun x12 =>
 Xc x12 (fun _ =>
 Xq (.fad (.c y1) 1) (fun x13 =>
 Xp call ox10 24 (.ld false 1 (.c x13)) (fun x14 nx14 sx14 =>
 Xq (.ias 3 (.c x14) (.c y3)) (fun x15 =>
 Xq (.fad (.c x15) 2) (fun x16 =>
 Xp call ox10 28 (.ld false 1 (.c x16)) (fun x17 nx17 sx17 =>
 Xq (.fad (.c y1) 1) (fun x18 =>
 Xp call ox10 30 (.ld false 1 (.c x18)) (fun x19 nx19 sx19 =>
 Xq (.ias 3 (.c x19) (.c y3)) (fun x20 =>
 Xq (.fad (.c x20) 1) (fun x21 =>
 Xp call ox10 34 (.ld false 1 (.c x21)) (fun x22 nx22 sx22 =>
 Xq (.ias 7 (.c x22) (.c y4)) (fun x23 =>
 Xq (.fad (.c x23) 1) (fun x24 =>
 Xp call ox10 38 (.ld false 1 (.c x24)) (fun x25 nx25 sx25 =>
 Xx call (finO ox10 (nx14 ++ nx17 ++ nx19 ++ nx22 ++ nx25) (sx14 ++ sx17 ++ sx19 ++ sx22 ++ sx25)) 39 (.call false i_ref15_Has [(.c x17), (.c x25)]) (fun x26 ox26 =>
 Xc x26 (fun _ =>
 Xr ox26 [some (.v (.bool true))]) (fun _ =>
 Xq (.bin .add (.c y4) (.c (.v (.int .i64 1)))) (fun x27 =>
 R_ref15_barred_0 call G n m0 m1 (maskO k_ref15_barred_0 ox26) (msk k_ref15_barred_0 y3) (msk k_ref15_barred_0 y1) (msk k_ref15_barred_0 x27)) ()) () ()) ()) ()) ()) ()) ()) ()) ()) ()) ()) ()) ()) ()) ()) ()) (fun _ =>
 Xq (.bin .add (.c y3) (.c (.v (.int .i64 1)))) (fun x28 =>
 R_ref15_barred_1 call G n m1 (maskO k_ref15_barred_1 ox10) (msk k_ref15_barred_1 x28) (msk k_ref15_barred_1 y1)) ()) () ()) ()) ()) ()) ()) ()) ()) () := by kernel_rfl
set_option maxRecDepth 100000 in
theorem R_ref15_barred_1_s (call : Eng.Call) (G : Nat → AV) (n m1 : Nat) (o : Objs) (y3 y1 : AV) : R_ref15_barred_1 call G n (m1 + 1) o y3 y1 =
 Xq (.fad (.c y1) 1) (fun x2 =>
 Xx call o 7 (.ld false 1 (.c x2)) (fun x3 ox3 =>
 Xq (.len false (.c x3)) (fun x4 =>
 Xq (.bin .lss (.c y3) (.c x4)) (fun x5 =>
 Xc x5 (fun _ =>
 R_ref15_barred_0 call G n n m1 (maskO k_ref15_barred_0 ox3) (msk k_ref15_barred_0 y3) (msk k_ref15_barred_0 y1) (msk k_ref15_barred_0 (.v (.int .i64 0)))) (fun _ =>
 Xr ox3 [some (.v (.bool false))]) () ()) ()) ()) ()) () := by kernel_rfl
set_option maxRecDepth 100000 in
theorem s_ref15_barred (call : Eng.Call) (G : Nat → AV) (n : Nat) (x0 : AV) : denFE call G v_ref15_barred n c_ref15_barred [x0] =
 Xx call [] 1 (.box 2 [2, 3] (.c x0)) (fun x1 ox1 =>
 R_ref15_barred_1 call G n n (maskO k_ref15_barred_1 ox1) (msk k_ref15_barred_1 (.v (.int .i64 0))) (msk k_ref15_barred_1 x1)) () := by kernel_rfl
def k_ref15_refs_0 : List Nat := [1, 3, 4]
def c_ref15_refs_b0 : CC := .seq (.seq (.reg [] [
  ⟨(some 13), none, .mv (.t 4)⟩,
  ⟨(some 14), none, .fad (.t 1) 1⟩,
  ⟨(some 15), none, .ld false 1 (.t 14)⟩,
  ⟨(some 16), none, .mv (.t 3)⟩,
  ⟨(some 17), none, .ias 3 (.t 15) (.t 16)⟩,
  ⟨(some 18), none, .fad (.t 17) 1⟩,
  ⟨(some 19), none, .ld false 1 (.t 18)⟩,
  ⟨(some 20), none, .len false (.t 19)⟩,
  ⟨(some 21), none, .bin .lss (.t 13) (.t 20)⟩]) (
  .cond (.t 21) (
  .skip) (
  .exit 2))) (
  .seq (.block 3 (
  .seq (.reg [] [
  ⟨(some 24), none, .fad (.t 1) 1⟩,
  ⟨(some 25), none, .ld false 1 (.t 24)⟩,
  ⟨(some 26), none, .mv (.t 3)⟩,
  ⟨(some 27), none, .ias 3 (.t 25) (.t 26)⟩,
  ⟨(some 28), none, .fad (.t 27) 1⟩,
  ⟨(some 29), none, .ld false 1 (.t 28)⟩,
  ⟨(some 30), none, .mv (.t 4)⟩,
  ⟨(some 31), none, .ias 7 (.t 29) (.t 30)⟩,
  ⟨(some 32), none, .ld true 7 (.t 31)⟩,
  ⟨(some 5), none, .alloc [(.v (.string ⟨#[]⟩)), (.v (.int .i64 0)), (.v (.int .i64 0)), (.v (.string ⟨#[]⟩)), (.v (.bool false)), (.v (.bool false)), (.v (.string ⟨#[]⟩))] [0, 0, 0, 0, 0, 0, 0]⟩,
  ⟨none, none, .st 7 (.t 5) (.t 32)⟩]) (
  .seq (.reg [] [
  ⟨(some 33), none, .fad (.t 5) 2⟩,
  ⟨(some 34), none, .ld false 1 (.t 33)⟩,
  ⟨(some 35), none, .bin .eql (.t 34) (.c (.v (.int .i64 14)))⟩,
  ⟨(some 36), none, .mv (.t 35)⟩,
  ⟨(some 37), (some (36, true)), .ld true 2 (.t 1)⟩,
  ⟨(some 38), (some (36, true)), .fad (.t 5) 3⟩,
  ⟨(some 39), (some (36, true)), .ld false 1 (.t 38)⟩,
  ⟨(some 40), (some (36, true)), .call false i_ref15_Enum [(.t 37), (.t 39)]⟩,
  ⟨(some 41), (some (36, true)), .bin .lss (.t 40) (.c (.v (.int .i64 0)))⟩,
  ⟨(some 42), none, .pick (.t 36) (.t 41) (.c (.v (.bool false)))⟩,
  ⟨(some 43), none, .mv (.t 42)⟩,
  ⟨(some 44), (some (43, false)), .fad (.t 5) 2⟩,
  ⟨(some 45), (some (43, false)), .ld false 1 (.t 44)⟩,
  ⟨(some 46), (some (43, false)), .bin .eql (.t 45) (.c (.v (.int .i64 15)))⟩,
  ⟨(some 47), (some (43, false)), .mv (.t 46)⟩,
  ⟨(some 48), (some (47, true)), .ld true 2 (.t 1)⟩,
  ⟨(some 49), (some (47, true)), .fad (.t 5) 3⟩,
  ⟨(some 50), (some (47, true)), .ld false 1 (.t 49)⟩,
  ⟨(some 51), (some (47, true)), .call false i_ref15_Message [(.t 48), (.t 50)]⟩,
  ⟨(some 52), (some (47, true)), .bin .lss (.t 51) (.c (.v (.int .i64 0)))⟩,
  ⟨(some 53), (some (43, false)), .pick (.t 47) (.t 52) (.c (.v (.bool false)))⟩,
  ⟨(some 54), none, .pick (.t 43) (.c (.v (.bool true))) (.t 53)⟩]) (
  .cond (.t 54) (
  .seq (.reg [] [
  ⟨(some 2), none, .mv (.c (.v (.bool true)))⟩]) (
  .ret)) (
  .skip))))) (
  .reg [] [
  ⟨(some 22), none, .mv (.t 4)⟩,
  ⟨(some 23), none, .bin .add (.t 22) (.c (.v (.int .i64 1)))⟩,
  ⟨(some 4), none, .mv (.t 23)⟩]))
def c_ref15_refs_s0 : CC := .reg [] [
  ⟨(some 11), none, .mv (.t 3)⟩,
  ⟨(some 12), none, .bin .add (.t 11) (.c (.v (.int .i64 1)))⟩,
  ⟨(some 3), none, .mv (.t 12)⟩]
def k_ref15_refs_1 : List Nat := [1, 3]
def c_ref15_refs_b1 : CC := .seq (.seq (.reg [] [
  ⟨(some 6), none, .mv (.t 3)⟩,
  ⟨(some 7), none, .fad (.t 1) 1⟩,
  ⟨(some 8), none, .ld false 1 (.t 7)⟩,
  ⟨(some 9), none, .len false (.t 8)⟩,
  ⟨(some 10), none, .bin .lss (.t 6) (.t 9)⟩]) (
  .cond (.t 10) (
  .skip) (
  .exit 0))) (
  .seq (.block 1 (
  .seq (.reg [] [
  ⟨(some 4), none, .mv (.c (.v (.int .i64 0)))⟩]) (
  .block 2 (
  .loop k_ref15_refs_0 c_ref15_refs_b0)))) c_ref15_refs_s0)
def c_ref15_refs_s1 : CC := .seq (.reg [] [
  ⟨(some 2), none, .mv (.c (.v (.bool false)))⟩]) (
  .ret)
def c_ref15_refs : CF := ⟨1, 55,
  .seq (.reg [] [
  ⟨(some 1), none, .box 2 [2, 3] (.t 0)⟩,
  ⟨(some 2), none, .mv (.c (.v (.bool false)))⟩]) (
  .seq (.seq (.reg [] [
  ⟨(some 3), none, .mv (.c (.v (.int .i64 0)))⟩]) (
  .block 0 (
  .loop k_ref15_refs_1 c_ref15_refs_b1))) c_ref15_refs_s1),
  [.t 2]⟩
def v_ref15_refs : List Nat := [5]
def R_ref15_refs_0 (call : Eng.Call) (G : Nat → AV) (n m0 m1 : Nat) (o : Objs) (y1 y3 y4 : AV) : Out := roundsE k_ref15_refs_0 (denE 55 call G v_ref15_refs n c_ref15_refs_b0) m0 [y1, y3, y4] o (eBlock 2 (eBlock 1 (eSeq (denE 55 call G v_ref15_refs n c_ref15_refs_s0) (eLoop k_ref15_refs_1 (denE 55 call G v_ref15_refs n c_ref15_refs_b1) m1 (eBlock 0 (eSeq (denE 55 call G v_ref15_refs n c_ref15_refs_s1) (eEnd [.t 2])))))))
def R_ref15_refs_1 (call : Eng.Call) (G : Nat → AV) (n m1 : Nat) (o : Objs) (y1 y3 : AV) : Out := roundsE k_ref15_refs_1 (denE 55 call G v_ref15_refs n c_ref15_refs_b1) m1 [y1, y3] o (eBlock 0 (eSeq (denE 55 call G v_ref15_refs n c_ref15_refs_s1) (eEnd [.t 2])))
set_option maxRecDepth 100000 in
theorem R_ref15_refs_0_s (call : Eng.Call) (G : Nat → AV) (n m0 m1 : Nat) (o : Objs) (y1 y3 y4 : AV) : R_ref15_refs_0 call G n (m0 + 1) m1 o y1 y3 y4 =
 Xq (.fad (.c y1) 1) (fun x6 =>
 Xx call o 15 (.ld false 1 (.c x6)) (fun x7 ox7 =>
 Xq (.ias 3 (.c x7) (.c y3)) (fun x8 =>
 Xq (.fad (.c x8) 1) (fun x9 =>
 Xx call ox7 19 (.ld false 1 (.c x9)) (fun x10 ox10 =>
 Xq (.len false (.c x10)) (fun x11 =>
 Xq (.bin .lss (.c y4) (.c x11)) (fun x12 =>
 Xc x12 (fun _ =>
 Xq (.fad (.c y1) 1) (fun x13 =>
 Xx call ox10 25 (.ld false 1 (.c x13)) (fun x14 ox14 =>
 Xq (.ias 3 (.c x14) (.c y3)) (fun x15 =>
 Xq (.fad (.c x15) 1) (fun x16 =>
 Xx call ox14 29 (.ld false 1 (.c x16)) (fun x17 ox17 =>
 Xq (.ias 7 (.c x17) (.c y4)) (fun x18 =>
 Xx call ox17 32 (.ld true 7 (.c x18)) (fun x19 ox19 =>
 Xx call ox19 5 (.alloc [(.v (.string ⟨#[]⟩)), (.v (.int .i64 0)), (.v (.int .i64 0)), (.v (.string ⟨#[]⟩)), (.v (.bool false)), (.v (.bool false)), (.v (.string ⟨#[]⟩))] [0, 0, 0, 0, 0, 0, 0]) (fun x20 ox20 =>
 Xv ox20 7 x20 x19 (fun ox21 =>
 Xq (.fad (.c x20) 2) (fun x22 =>
 Xx call ox21 34 (.ld false 1 (.c x22)) (fun x23 ox23 =>
 Xq (.bin .eql (.c x23) (.c (.v (.int .i64 14)))) (fun x24 =>
 Xxg call x24 true ox23 37 (.ld true 2 (.c y1)) (fun x25 ox25 =>
 Xgq x24 true (.fad (.c x20) 3) (fun x26 =>
 Xxg call x24 true ox25 39 (.ld false 1 (.c x26)) (fun x27 ox27 =>
 Xxg call x24 true ox27 40 (.call false i_ref15_Enum [(.c x25), (.c x27)]) (fun x28 ox28 =>
 Xgq x24 true (.bin .lss (.c x28) (.c (.v (.int .i64 0)))) (fun x29 =>
 Xq (.pick (.c x24) (.c x29) (.c (.v (.bool false)))) (fun x30 =>
 Xgq x30 false (.fad (.c x20) 2) (fun x31 =>
 Xxg call x30 false ox28 45 (.ld false 1 (.c x31)) (fun x32 ox32 =>
 Xgq x30 false (.bin .eql (.c x32) (.c (.v (.int .i64 15)))) (fun x33 =>
 Xgq x30 false (.mv (.c x33)) (fun x34 =>
 Xxg call x34 true ox32 48 (.ld true 2 (.c y1)) (fun x35 ox35 =>
 Xgq x34 true (.fad (.c x20) 3) (fun x36 =>
 Xxg call x34 true ox35 50 (.ld false 1 (.c x36)) (fun x37 ox37 =>
 Xxg call x34 true ox37 51 (.call false i_ref15_Message [(.c x35), (.c x37)]) (fun x38 ox38 =>
 Xgq x34 true (.bin .lss (.c x38) (.c (.v (.int .i64 0)))) (fun x39 =>
 Xgq x30 false (.pick (.c x34) (.c x39) (.c (.v (.bool false)))) (fun x40 =>
 Xq (.pick (.c x30) (.c (.v (.bool true))) (.c x40)) (fun x41 =>
 Xc x41 (fun _ =>
 Xr ox38 [some (.v (.bool true))]) (fun _ =>
 Xq (.bin .add (.c y4) (.c (.v (.int .i64 1)))) (fun x42 =>
 R_ref15_refs_0 call G n m0 m1 (maskO k_ref15_refs_0 ox38) (msk k_ref15_refs_0 y1) (msk k_ref15_refs_0 y3) (msk k_ref15_refs_0 x42)) ()) () ()) ()) ()) ()) ()) ()) ()) ()) ()) ()) ()) ()) ()) ()) ()) ()) ()) ()) ()) ()) ()) ()) ()) ()) ()) ()) ()) ()) ()) ()) (fun _ =>
 Xq (.bin .add (.c y3) (.c (.v (.int .i64 1)))) (fun x43 =>
 R_ref15_refs_1 call G n m1 (maskO k_ref15_refs_1 ox10) (msk k_ref15_refs_1 y1) (msk k_ref15_refs_1 x43)) ()) () ()) ()) ()) ()) ()) ()) ()) () := by kernel_rfl
set_option maxRecDepth 100000 in
theorem R_ref15_refs_1_s (call : Eng.Call) (G : Nat → AV) (n m1 : Nat) (o : Objs) (y1 y3 : AV) : R_ref15_refs_1 call G n (m1 + 1) o y1 y3 =
 Xq (.fad (.c y1) 1) (fun x2 =>
 Xx call o 8 (.ld false 1 (.c x2)) (fun x3 ox3 =>
 Xq (.len false (.c x3)) (fun x4 =>
 Xq (.bin .lss (.c y3) (.c x4)) (fun x5 =>
 Xc x5 (fun _ =>
 R_ref15_refs_0 call G n n m1 (maskO k_ref15_refs_0 ox3) (msk k_ref15_refs_0 y1) (msk k_ref15_refs_0 y3) (msk k_ref15_refs_0 (.v (.int .i64 0)))) (fun _ =>
 Xr ox3 [some (.v (.bool false))]) () ()) ()) ()) ()) () := by kernel_rfl
set_option maxRecDepth 100000 in
theorem s_ref15_refs (call : Eng.Call) (G : Nat → AV) (n : Nat) (x0 : AV) : denFE call G v_ref15_refs n c_ref15_refs [x0] =
 Xx call [] 1 (.box 2 [2, 3] (.c x0)) (fun x1 ox1 =>
 R_ref15_refs_1 call G n n (maskO k_ref15_refs_1 ox1) (msk k_ref15_refs_1 x1) (msk k_ref15_refs_1 (.v (.int .i64 0)))) () := by kernel_rfl
def c_slices_Clone_Lapi_Enum_api_Enum_ : CF := ⟨1, 8,
  .seq (.reg [] [
  ⟨(some 2), none, .nil 2⟩]) (
  .seq (.seq (.reg [] [
  ⟨(some 3), none, .mv (.t 0)⟩,
  ⟨(some 4), none, .eqn 0 false (.t 3)⟩]) (
  .cond (.t 4) (
  .seq (.reg [] [
  ⟨(some 2), none, .nil 2⟩]) (
  .ret)) (
  .skip))) (
  .seq (.reg [] [
  ⟨(some 5), none, .bsl 0 2 [] []⟩,
  ⟨(some 6), none, .mv (.t 0)⟩,
  ⟨(some 7), none, .app false 2 40 (.t 5) (.t 6)⟩,
  ⟨(some 2), none, .mv (.t 7)⟩]) (
  .ret))),
  [.t 2]⟩
def v_slices_Clone_Lapi_Enum_api_Enum_ : List Nat := []
set_option maxRecDepth 100000 in
theorem s_slices_Clone_Lapi_Enum_api_Enum_ (call : Eng.Call) (G : Nat → AV) (n : Nat) (x0 : AV) : denFE call G v_slices_Clone_Lapi_Enum_api_Enum_ n c_slices_Clone_Lapi_Enum_api_Enum_ [x0] =
 Xx call [] 2 (.nil 2) (fun x1 ox1 =>
 Xq (.eqn 0 false (.c x0)) (fun x2 =>
 Xc x2 (fun _ =>
 Xx call ox1 2 (.nil 2) (fun x3 ox3 =>
 Xr ox3 [some x3]) ()) (fun _ =>
 Xx call ox1 5 (.bsl 0 2 [] []) (fun x4 ox4 =>
 Xa ox4 7 false 2 40 x4 x0 (fun x5 ox5 =>
 Xr ox5 [some x5]) ()) ()) () ()) ()) () := by kernel_rfl
def c_slices_Clone_Lapi_Message_api_Message_ : CF := ⟨1, 8,
  .seq (.reg [] [
  ⟨(some 2), none, .nil 3⟩]) (
  .seq (.seq (.reg [] [
  ⟨(some 3), none, .mv (.t 0)⟩,
  ⟨(some 4), none, .eqn 0 false (.t 3)⟩]) (
  .cond (.t 4) (
  .seq (.reg [] [
  ⟨(some 2), none, .nil 3⟩]) (
  .ret)) (
  .skip))) (
  .seq (.reg [] [
  ⟨(some 5), none, .bsl 0 3 [] []⟩,
  ⟨(some 6), none, .mv (.t 0)⟩,
  ⟨(some 7), none, .app false 3 64 (.t 5) (.t 6)⟩,
  ⟨(some 2), none, .mv (.t 7)⟩]) (
  .ret))),
  [.t 2]⟩
def v_slices_Clone_Lapi_Message_api_Message_ : List Nat := []
set_option maxRecDepth 100000 in
theorem s_slices_Clone_Lapi_Message_api_Message_ (call : Eng.Call) (G : Nat → AV) (n : Nat) (x0 : AV) : denFE call G v_slices_Clone_Lapi_Message_api_Message_ n c_slices_Clone_Lapi_Message_api_Message_ [x0] =
 Xx call [] 2 (.nil 3) (fun x1 ox1 =>
 Xq (.eqn 0 false (.c x0)) (fun x2 =>
 Xc x2 (fun _ =>
 Xx call ox1 2 (.nil 3) (fun x3 ox3 =>
 Xr ox3 [some x3]) ()) (fun _ =>
 Xx call ox1 5 (.bsl 0 3 [] []) (fun x4 ox4 =>
 Xa ox4 7 false 3 64 x4 x0 (fun x5 ox5 =>
 Xr ox5 [some x5]) ()) ()) () ()) ()) () := by kernel_rfl
def c_slices_Clone_Lapi_Value_api_Value_ : CF := ⟨1, 8,
  .seq (.reg [] [
  ⟨(some 2), none, .nil 2⟩]) (
  .seq (.seq (.reg [] [
  ⟨(some 3), none, .mv (.t 0)⟩,
  ⟨(some 4), none, .eqn 0 false (.t 3)⟩]) (
  .cond (.t 4) (
  .seq (.reg [] [
  ⟨(some 2), none, .nil 2⟩]) (
  .ret)) (
  .skip))) (
  .seq (.reg [] [
  ⟨(some 5), none, .bsl 0 2 [] []⟩,
  ⟨(some 6), none, .mv (.t 0)⟩,
  ⟨(some 7), none, .app false 2 24 (.t 5) (.t 6)⟩,
  ⟨(some 2), none, .mv (.t 7)⟩]) (
  .ret))),
  [.t 2]⟩
def v_slices_Clone_Lapi_Value_api_Value_ : List Nat := []
set_option maxRecDepth 100000 in
theorem s_slices_Clone_Lapi_Value_api_Value_ (call : Eng.Call) (G : Nat → AV) (n : Nat) (x0 : AV) : denFE call G v_slices_Clone_Lapi_Value_api_Value_ n c_slices_Clone_Lapi_Value_api_Value_ [x0] =
 Xx call [] 2 (.nil 2) (fun x1 ox1 =>
 Xq (.eqn 0 false (.c x0)) (fun x2 =>
 Xc x2 (fun _ =>
 Xx call ox1 2 (.nil 2) (fun x3 ox3 =>
 Xr ox3 [some x3]) ()) (fun _ =>
 Xx call ox1 5 (.bsl 0 2 [] []) (fun x4 ox4 =>
 Xa ox4 7 false 2 24 x4 x0 (fun x5 ox5 =>
 Xr ox5 [some x5]) ()) ()) () ()) ()) () := by kernel_rfl
def c_slices_Clone_Lapi_Field_api_Field_ : CF := ⟨1, 8,
  .seq (.reg [] [
  ⟨(some 2), none, .nil 7⟩]) (
  .seq (.seq (.reg [] [
  ⟨(some 3), none, .mv (.t 0)⟩,
  ⟨(some 4), none, .eqn 0 false (.t 3)⟩]) (
  .cond (.t 4) (
  .seq (.reg [] [
  ⟨(some 2), none, .nil 7⟩]) (
  .ret)) (
  .skip))) (
  .seq (.reg [] [
  ⟨(some 5), none, .bsl 0 7 [] []⟩,
  ⟨(some 6), none, .mv (.t 0)⟩,
  ⟨(some 7), none, .app false 7 72 (.t 5) (.t 6)⟩,
  ⟨(some 2), none, .mv (.t 7)⟩]) (
  .ret))),
  [.t 2]⟩
def v_slices_Clone_Lapi_Field_api_Field_ : List Nat := []
set_option maxRecDepth 100000 in
theorem s_slices_Clone_Lapi_Field_api_Field_ (call : Eng.Call) (G : Nat → AV) (n : Nat) (x0 : AV) : denFE call G v_slices_Clone_Lapi_Field_api_Field_ n c_slices_Clone_Lapi_Field_api_Field_ [x0] =
 Xx call [] 2 (.nil 7) (fun x1 ox1 =>
 Xq (.eqn 0 false (.c x0)) (fun x2 =>
 Xc x2 (fun _ =>
 Xx call ox1 2 (.nil 7) (fun x3 ox3 =>
 Xr ox3 [some x3]) ()) (fun _ =>
 Xx call ox1 5 (.bsl 0 7 [] []) (fun x4 ox4 =>
 Xa ox4 7 false 7 72 x4 x0 (fun x5 ox5 =>
 Xr ox5 [some x5]) ()) ()) () ()) ()) () := by kernel_rfl
def c_slices_Clone_Lint_int_ : CF := ⟨1, 8,
  .seq (.reg [] [
  ⟨(some 2), none, .nil 1⟩]) (
  .seq (.seq (.reg [] [
  ⟨(some 3), none, .mv (.t 0)⟩,
  ⟨(some 4), none, .eqn 0 false (.t 3)⟩]) (
  .cond (.t 4) (
  .seq (.reg [] [
  ⟨(some 2), none, .nil 1⟩]) (
  .ret)) (
  .skip))) (
  .seq (.reg [] [
  ⟨(some 5), none, .bsl 0 1 [] []⟩,
  ⟨(some 6), none, .mv (.t 0)⟩,
  ⟨(some 7), none, .app false 1 8 (.t 5) (.t 6)⟩,
  ⟨(some 2), none, .mv (.t 7)⟩]) (
  .ret))),
  [.t 2]⟩
def v_slices_Clone_Lint_int_ : List Nat := []
set_option maxRecDepth 100000 in
theorem s_slices_Clone_Lint_int_ (call : Eng.Call) (G : Nat → AV) (n : Nat) (x0 : AV) : denFE call G v_slices_Clone_Lint_int_ n c_slices_Clone_Lint_int_ [x0] =
 Xx call [] 2 (.nil 1) (fun x1 ox1 =>
 Xq (.eqn 0 false (.c x0)) (fun x2 =>
 Xc x2 (fun _ =>
 Xx call ox1 2 (.nil 1) (fun x3 ox3 =>
 Xr ox3 [some x3]) ()) (fun _ =>
 Xx call ox1 5 (.bsl 0 1 [] []) (fun x4 ox4 =>
 Xa ox4 7 false 1 8 x4 x0 (fun x5 ox5 =>
 Xr ox5 [some x5]) ()) ()) () ()) ()) () := by kernel_rfl
def k_slices_EqualFunc_Lapi_Enum_Lapi_Enum_api_Enum_api_Enum__0 : List Nat := [2, 1, 15, 16, 17]
def c_slices_EqualFunc_Lapi_Enum_Lapi_Enum_api_Enum_api_Enum__b0 : CC := .seq (.reg [] [
  ⟨(some 18), none, .bin .lss (.t 17) (.t 16)⟩]) (
  .seq (.cond (.t 18) (
  .skip) (
  .exit 0)) (
  .seq (.block 1 (
  .seq (.reg [] [
  ⟨(some 19), none, .mv (.t 17)⟩,
  ⟨(some 20), none, .ias 2 (.t 15) (.t 17)⟩,
  ⟨(some 21), none, .ld true 2 (.t 20)⟩,
  ⟨(some 8), none, .alloc [(.v (.string ⟨#[]⟩)), .nilsl] [0, 2]⟩,
  ⟨(some 7), none, .mv (.t 19)⟩,
  ⟨none, none, .st 2 (.t 8) (.t 21)⟩]) (
  .seq (.reg [] [
  ⟨(some 22), none, .mv (.t 1)⟩,
  ⟨(some 23), none, .mv (.t 7)⟩,
  ⟨(some 24), none, .ias 2 (.t 22) (.t 23)⟩,
  ⟨(some 25), none, .ld true 2 (.t 24)⟩,
  ⟨(some 9), none, .alloc [(.v (.string ⟨#[]⟩)), .nilsl] [0, 2]⟩,
  ⟨none, none, .st 2 (.t 9) (.t 25)⟩]) (
  .seq (.reg [] [
  ⟨(some 26), none, .mv (.t 2)⟩,
  ⟨(some 27), none, .ld true 2 (.t 8)⟩,
  ⟨(some 28), none, .ld true 2 (.t 9)⟩,
  ⟨(some 29), none, .cal false (.t 26) [(.t 27), (.t 28)]⟩,
  ⟨(some 30), none, .not (.t 29)⟩]) (
  .cond (.t 30) (
  .seq (.reg [] [
  ⟨(some 6), none, .mv (.c (.v (.bool false)))⟩]) (
  .ret)) (
  .skip)))))) (
  .reg [] [
  ⟨(some 31), none, .bin .add (.t 17) (.c (.v (.int .i64 1)))⟩,
  ⟨(some 17), none, .mv (.t 31)⟩])))
def c_slices_EqualFunc_Lapi_Enum_Lapi_Enum_api_Enum_api_Enum__s0 : CC := .seq (.reg [] [
  ⟨(some 6), none, .mv (.c (.v (.bool true)))⟩]) (
  .ret)
def c_slices_EqualFunc_Lapi_Enum_Lapi_Enum_api_Enum_api_Enum_ : CF := ⟨3, 32,
  .seq (.reg [] [
  ⟨(some 6), none, .mv (.c (.v (.bool false)))⟩]) (
  .seq (.seq (.reg [] [
  ⟨(some 10), none, .mv (.t 0)⟩,
  ⟨(some 11), none, .len false (.t 10)⟩,
  ⟨(some 12), none, .mv (.t 1)⟩,
  ⟨(some 13), none, .len false (.t 12)⟩,
  ⟨(some 14), none, .bin .neq (.t 11) (.t 13)⟩]) (
  .cond (.t 14) (
  .seq (.reg [] [
  ⟨(some 6), none, .mv (.c (.v (.bool false)))⟩]) (
  .ret)) (
  .skip))) (
  .seq (.seq (.reg [] [
  ⟨(some 15), none, .mv (.t 0)⟩,
  ⟨(some 16), none, .len false (.t 15)⟩,
  ⟨(some 17), none, .mv (.c (.v (.int .i64 0)))⟩]) (
  .block 0 (
  .loop k_slices_EqualFunc_Lapi_Enum_Lapi_Enum_api_Enum_api_Enum__0 c_slices_EqualFunc_Lapi_Enum_Lapi_Enum_api_Enum_api_Enum__b0))) c_slices_EqualFunc_Lapi_Enum_Lapi_Enum_api_Enum_api_Enum__s0)),
  [.t 6]⟩
def v_slices_EqualFunc_Lapi_Enum_Lapi_Enum_api_Enum_api_Enum_ : List Nat := [8, 9]
def R_slices_EqualFunc_Lapi_Enum_Lapi_Enum_api_Enum_api_Enum__0 (call : Eng.Call) (G : Nat → AV) (n m0 : Nat) (o : Objs) (y2 y1 y15 y16 y17 : AV) : Out := roundsE k_slices_EqualFunc_Lapi_Enum_Lapi_Enum_api_Enum_api_Enum__0 (denE 32 call G v_slices_EqualFunc_Lapi_Enum_Lapi_Enum_api_Enum_api_Enum_ n c_slices_EqualFunc_Lapi_Enum_Lapi_Enum_api_Enum_api_Enum__b0) m0 [y2, y1, y15, y16, y17] o (eBlock 0 (eSeq (denE 32 call G v_slices_EqualFunc_Lapi_Enum_Lapi_Enum_api_Enum_api_Enum_ n c_slices_EqualFunc_Lapi_Enum_Lapi_Enum_api_Enum_api_Enum__s0) (eEnd [.t 6])))
set_option maxRecDepth 100000 in
theorem R_slices_EqualFunc_Lapi_Enum_Lapi_Enum_api_Enum_api_Enum__0_s (call : Eng.Call) (G : Nat → AV) (n m0 : Nat) (o : Objs) (y2 y1 y15 y16 y17 : AV) : R_slices_EqualFunc_Lapi_Enum_Lapi_Enum_api_Enum_api_Enum__0 call G n (m0 + 1) o y2 y1 y15 y16 y17 =
 Xq (.bin .lss (.c y17) (.c y16)) (fun x7 =>
 Xc x7 (fun _ =>
 Xq (.ias 2 (.c y15) (.c y17)) (fun x8 =>
 Xx call o 21 (.ld true 2 (.c x8)) (fun x9 ox9 =>
 Xx call ox9 8 (.alloc [(.v (.string ⟨#[]⟩)), .nilsl] [0, 2]) (fun x10 ox10 =>
 Xv ox10 2 x10 x9 (fun ox11 =>
 Xq (.ias 2 (.c y1) (.c y17)) (fun x12 =>
 Xx call ox11 25 (.ld true 2 (.c x12)) (fun x13 ox13 =>
 Xx call ox13 9 (.alloc [(.v (.string ⟨#[]⟩)), .nilsl] [0, 2]) (fun x14 ox14 =>
 Xv ox14 2 x14 x13 (fun ox15 =>
 Xx call ox15 27 (.ld true 2 (.c x10)) (fun x16 ox16 =>
 Xx call ox16 28 (.ld true 2 (.c x14)) (fun x17 ox17 =>
 Xx call ox17 29 (.cal false (.c y2) [(.c x16), (.c x17)]) (fun x18 ox18 =>
 Xq (.not (.c x18)) (fun x19 =>
 Xc x19 (fun _ =>
 Xr ox18 [some (.v (.bool false))]) (fun _ =>
 Xq (.bin .add (.c y17) (.c (.v (.int .i64 1)))) (fun x20 =>
 R_slices_EqualFunc_Lapi_Enum_Lapi_Enum_api_Enum_api_Enum__0 call G n m0 (maskO k_slices_EqualFunc_Lapi_Enum_Lapi_Enum_api_Enum_api_Enum__0 ox18) (msk k_slices_EqualFunc_Lapi_Enum_Lapi_Enum_api_Enum_api_Enum__0 y2) (msk k_slices_EqualFunc_Lapi_Enum_Lapi_Enum_api_Enum_api_Enum__0 y1) (msk k_slices_EqualFunc_Lapi_Enum_Lapi_Enum_api_Enum_api_Enum__0 y15) (msk k_slices_EqualFunc_Lapi_Enum_Lapi_Enum_api_Enum_api_Enum__0 y16) (msk k_slices_EqualFunc_Lapi_Enum_Lapi_Enum_api_Enum_api_Enum__0 x20)) ()) () ()) ()) ()) ()) ()) ()) ()) ()) ()) ()) ()) ()) ()) (fun _ =>
 Xr o [some (.v (.bool true))]) () ()) () := by kernel_rfl
set_option maxRecDepth 100000 in
theorem s_slices_EqualFunc_Lapi_Enum_Lapi_Enum_api_Enum_api_Enum_ (call : Eng.Call) (G : Nat → AV) (n : Nat) (x0 x1 x2 : AV) : denFE call G v_slices_EqualFunc_Lapi_Enum_Lapi_Enum_api_Enum_api_Enum_ n c_slices_EqualFunc_Lapi_Enum_Lapi_Enum_api_Enum_api_Enum_ [x0, x1, x2] =
 Xq (.len false (.c x0)) (fun x3 =>
 Xq (.len false (.c x1)) (fun x4 =>
 Xq (.bin .neq (.c x3) (.c x4)) (fun x5 =>
 Xc x5 (fun _ =>
 Xr [] [some (.v (.bool false))]) (fun _ =>
 Xq (.len false (.c x0)) (fun x6 =>
 R_slices_EqualFunc_Lapi_Enum_Lapi_Enum_api_Enum_api_Enum__0 call G n n (maskO k_slices_EqualFunc_Lapi_Enum_Lapi_Enum_api_Enum_api_Enum__0 []) (msk k_slices_EqualFunc_Lapi_Enum_Lapi_Enum_api_Enum_api_Enum__0 x2) (msk k_slices_EqualFunc_Lapi_Enum_Lapi_Enum_api_Enum_api_Enum__0 x1) (msk k_slices_EqualFunc_Lapi_Enum_Lapi_Enum_api_Enum_api_Enum__0 x0) (msk k_slices_EqualFunc_Lapi_Enum_Lapi_Enum_api_Enum_api_Enum__0 x6) (msk k_slices_EqualFunc_Lapi_Enum_Lapi_Enum_api_Enum_api_Enum__0 (.v (.int .i64 0)))) ()) () ()) ()) ()) () := by kernel_rfl
def c_schema_Same_1 : CF := ⟨2, 17,
  .seq (.reg [] [
  ⟨(some 2), none, .box 2 [0, 2] (.t 0)⟩,
  ⟨(some 3), none, .box 2 [0, 2] (.t 1)⟩,
  ⟨(some 4), none, .mv (.c (.v (.bool false)))⟩]) (
  .seq (.reg [] [
  ⟨(some 5), none, .fad (.t 2) 0⟩,
  ⟨(some 6), none, .ld false 1 (.t 5)⟩,
  ⟨(some 7), none, .fad (.t 3) 0⟩,
  ⟨(some 8), none, .ld false 1 (.t 7)⟩,
  ⟨(some 9), none, .bin .eql (.t 6) (.t 8)⟩,
  ⟨(some 10), none, .mv (.t 9)⟩,
  ⟨(some 11), (some (10, true)), .fad (.t 2) 1⟩,
  ⟨(some 12), (some (10, true)), .ld false 1 (.t 11)⟩,
  ⟨(some 13), (some (10, true)), .fad (.t 3) 1⟩,
  ⟨(some 14), (some (10, true)), .ld false 1 (.t 13)⟩,
  ⟨(some 15), (some (10, true)), .call false i_slices_Equal_Lapi_Value_api_Value_ [(.t 12), (.t 14)]⟩,
  ⟨(some 16), none, .pick (.t 10) (.t 15) (.c (.v (.bool false)))⟩,
  ⟨(some 4), none, .mv (.t 16)⟩]) (
  .ret)),
  [.t 4]⟩
def v_schema_Same_1 : List Nat := []
set_option maxRecDepth 100000 in
theorem s_schema_Same_1 (call : Eng.Call) (G : Nat → AV) (n : Nat) (x0 x1 : AV) : denFE call G v_schema_Same_1 n c_schema_Same_1 [x0, x1] =
 Xx call [] 2 (.box 2 [0, 2] (.c x0)) (fun x2 ox2 =>
 Xx call ox2 3 (.box 2 [0, 2] (.c x1)) (fun x3 ox3 =>
 Xq (.fad (.c x2) 0) (fun x4 =>
 Xx call ox3 6 (.ld false 1 (.c x4)) (fun x5 ox5 =>
 Xq (.fad (.c x3) 0) (fun x6 =>
 Xx call ox5 8 (.ld false 1 (.c x6)) (fun x7 ox7 =>
 Xq (.bin .eql (.c x5) (.c x7)) (fun x8 =>
 Xgq x8 true (.fad (.c x2) 1) (fun x9 =>
 Xxg call x8 true ox7 12 (.ld false 1 (.c x9)) (fun x10 ox10 =>
 Xgq x8 true (.fad (.c x3) 1) (fun x11 =>
 Xxg call x8 true ox10 14 (.ld false 1 (.c x11)) (fun x12 ox12 =>
 Xxg call x8 true ox12 15 (.call false i_slices_Equal_Lapi_Value_api_Value_ [(.c x10), (.c x12)]) (fun x13 ox13 =>
 Xq (.pick (.c x8) (.c x13) (.c (.v (.bool false)))) (fun x14 =>
 Xr ox13 [some x14]) ()) ()) ()) ()) ()) ()) ()) ()) ()) ()) ()) ()) () := by kernel_rfl
def k_slices_Equal_Lapi_Value_api_Value__0 : List Nat := [1, 0, 12, 13]
def c_slices_Equal_Lapi_Value_api_Value__b0 : CC := .seq (.reg [] [
  ⟨(some 14), none, .bin .lss (.t 13) (.t 12)⟩]) (
  .seq (.cond (.t 14) (
  .skip) (
  .exit 0)) (
  .seq (.block 1 (
  .seq (.reg [] [
  ⟨(some 15), none, .mv (.t 13)⟩,
  ⟨(some 5), none, .mv (.t 15)⟩]) (
  .seq (.reg [
  ⟨(some 16), none, .mv (.t 0)⟩,
  ⟨(some 17), none, .mv (.t 5)⟩,
  ⟨(some 18), none, .ias 2 (.t 16) (.t 17)⟩,
  ⟨(some 19), none, .ld true 2 (.t 18)⟩,
  ⟨(some 20), none, .mv (.t 1)⟩,
  ⟨(some 21), none, .mv (.t 5)⟩,
  ⟨(some 22), none, .ias 2 (.t 20) (.t 21)⟩,
  ⟨(some 23), none, .ld true 2 (.t 22)⟩] [
  ⟨(some 24), none, .eqs true [2, 0] (.t 19) (.t 23)⟩]) (
  .cond (.t 24) (
  .seq (.reg [] [
  ⟨(some 4), none, .mv (.c (.v (.bool false)))⟩]) (
  .ret)) (
  .skip))))) (
  .reg [] [
  ⟨(some 25), none, .bin .add (.t 13) (.c (.v (.int .i64 1)))⟩,
  ⟨(some 13), none, .mv (.t 25)⟩])))
def c_slices_Equal_Lapi_Value_api_Value__s0 : CC := .seq (.reg [] [
  ⟨(some 4), none, .mv (.c (.v (.bool true)))⟩]) (
  .ret)
def c_slices_Equal_Lapi_Value_api_Value_ : CF := ⟨2, 26,
  .seq (.reg [] [
  ⟨(some 4), none, .mv (.c (.v (.bool false)))⟩]) (
  .seq (.seq (.reg [] [
  ⟨(some 6), none, .mv (.t 0)⟩,
  ⟨(some 7), none, .len false (.t 6)⟩,
  ⟨(some 8), none, .mv (.t 1)⟩,
  ⟨(some 9), none, .len false (.t 8)⟩,
  ⟨(some 10), none, .bin .neq (.t 7) (.t 9)⟩]) (
  .cond (.t 10) (
  .seq (.reg [] [
  ⟨(some 4), none, .mv (.c (.v (.bool false)))⟩]) (
  .ret)) (
  .skip))) (
  .seq (.seq (.reg [] [
  ⟨(some 11), none, .mv (.t 0)⟩,
  ⟨(some 12), none, .len false (.t 11)⟩,
  ⟨(some 13), none, .mv (.c (.v (.int .i64 0)))⟩]) (
  .block 0 (
  .loop k_slices_Equal_Lapi_Value_api_Value__0 c_slices_Equal_Lapi_Value_api_Value__b0))) c_slices_Equal_Lapi_Value_api_Value__s0)),
  [.t 4]⟩
def v_slices_Equal_Lapi_Value_api_Value_ : List Nat := []
def R_slices_Equal_Lapi_Value_api_Value__0 (call : Eng.Call) (G : Nat → AV) (n m0 : Nat) (o : Objs) (y1 y0 y12 y13 : AV) : Out := roundsE k_slices_Equal_Lapi_Value_api_Value__0 (denE 26 call G v_slices_Equal_Lapi_Value_api_Value_ n c_slices_Equal_Lapi_Value_api_Value__b0) m0 [y1, y0, y12, y13] o (eBlock 0 (eSeq (denE 26 call G v_slices_Equal_Lapi_Value_api_Value_ n c_slices_Equal_Lapi_Value_api_Value__s0) (eEnd [.t 4])))
set_option maxRecDepth 100000 in
theorem R_slices_Equal_Lapi_Value_api_Value__0_s (call : Eng.Call) (G : Nat → AV) (n m0 : Nat) (o : Objs) (y1 y0 y12 y13 : AV) : R_slices_Equal_Lapi_Value_api_Value__0 call G n (m0 + 1) o y1 y0 y12 y13 =
 Xq (.bin .lss (.c y13) (.c y12)) (fun x6 =>
 Xc x6 (fun _ =>
 Xq (.ias 2 (.c y0) (.c y13)) (fun x7 =>
 Xp call o 19 (.ld true 2 (.c x7)) (fun x8 nx8 sx8 =>
 Xq (.ias 2 (.c y1) (.c y13)) (fun x9 =>
 Xp call o 23 (.ld true 2 (.c x9)) (fun x10 nx10 sx10 =>
 Xq (.eqs true [2, 0] (.c x8) (.c x10)) (fun x11 =>
 Xc x11 (fun _ =>
 Xr (finO o (nx8 ++ nx10) (sx8 ++ sx10)) [some (.v (.bool false))]) (fun _ =>
 Xq (.bin .add (.c y13) (.c (.v (.int .i64 1)))) (fun x12 =>
 R_slices_Equal_Lapi_Value_api_Value__0 call G n m0 (maskO k_slices_Equal_Lapi_Value_api_Value__0 (finO o (nx8 ++ nx10) (sx8 ++ sx10))) (msk k_slices_Equal_Lapi_Value_api_Value__0 y1) (msk k_slices_Equal_Lapi_Value_api_Value__0 y0) (msk k_slices_Equal_Lapi_Value_api_Value__0 y12) (msk k_slices_Equal_Lapi_Value_api_Value__0 x12)) ()) () ()) ()) ()) ()) ()) ()) (fun _ =>
 Xr o [some (.v (.bool true))]) () ()) () := by kernel_rfl
set_option maxRecDepth 100000 in
theorem s_slices_Equal_Lapi_Value_api_Value_ (call : Eng.Call) (G : Nat → AV) (n : Nat) (x0 x1 : AV) : denFE call G v_slices_Equal_Lapi_Value_api_Value_ n c_slices_Equal_Lapi_Value_api_Value_ [x0, x1] =
 Xq (.len false (.c x0)) (fun x2 =>
 Xq (.len false (.c x1)) (fun x3 =>
 Xq (.bin .neq (.c x2) (.c x3)) (fun x4 =>
 Xc x4 (fun _ =>
 Xr [] [some (.v (.bool false))]) (fun _ =>
 Xq (.len false (.c x0)) (fun x5 =>
 R_slices_Equal_Lapi_Value_api_Value__0 call G n n (maskO k_slices_Equal_Lapi_Value_api_Value__0 []) (msk k_slices_Equal_Lapi_Value_api_Value__0 x1) (msk k_slices_Equal_Lapi_Value_api_Value__0 x0) (msk k_slices_Equal_Lapi_Value_api_Value__0 x5) (msk k_slices_Equal_Lapi_Value_api_Value__0 (.v (.int .i64 0)))) ()) () ()) ()) ()) () := by kernel_rfl
def k_slices_EqualFunc_Lapi_Message_Lapi_Message_api_Message_api_Message__0 : List Nat := [2, 1, 15, 16, 17]
def c_slices_EqualFunc_Lapi_Message_Lapi_Message_api_Message_api_Message__b0 : CC := .seq (.reg [] [
  ⟨(some 18), none, .bin .lss (.t 17) (.t 16)⟩]) (
  .seq (.cond (.t 18) (
  .skip) (
  .exit 0)) (
  .seq (.block 1 (
  .seq (.reg [] [
  ⟨(some 19), none, .mv (.t 17)⟩,
  ⟨(some 20), none, .ias 3 (.t 15) (.t 17)⟩,
  ⟨(some 21), none, .ld true 3 (.t 20)⟩,
  ⟨(some 8), none, .alloc [(.v (.string ⟨#[]⟩)), .nilsl, .nilsl] [0, 7, 1]⟩,
  ⟨(some 7), none, .mv (.t 19)⟩,
  ⟨none, none, .st 3 (.t 8) (.t 21)⟩]) (
  .seq (.reg [] [
  ⟨(some 22), none, .mv (.t 1)⟩,
  ⟨(some 23), none, .mv (.t 7)⟩,
  ⟨(some 24), none, .ias 3 (.t 22) (.t 23)⟩,
  ⟨(some 25), none, .ld true 3 (.t 24)⟩,
  ⟨(some 9), none, .alloc [(.v (.string ⟨#[]⟩)), .nilsl, .nilsl] [0, 7, 1]⟩,
  ⟨none, none, .st 3 (.t 9) (.t 25)⟩]) (
  .seq (.reg [] [
  ⟨(some 26), none, .mv (.t 2)⟩,
  ⟨(some 27), none, .ld true 3 (.t 8)⟩,
  ⟨(some 28), none, .ld true 3 (.t 9)⟩,
  ⟨(some 29), none, .cal false (.t 26) [(.t 27), (.t 28)]⟩,
  ⟨(some 30), none, .not (.t 29)⟩]) (
  .cond (.t 30) (
  .seq (.reg [] [
  ⟨(some 6), none, .mv (.c (.v (.bool false)))⟩]) (
  .ret)) (
  .skip)))))) (
  .reg [] [
  ⟨(some 31), none, .bin .add (.t 17) (.c (.v (.int .i64 1)))⟩,
  ⟨(some 17), none, .mv (.t 31)⟩])))
def c_slices_EqualFunc_Lapi_Message_Lapi_Message_api_Message_api_Message__s0 : CC := .seq (.reg [] [
  ⟨(some 6), none, .mv (.c (.v (.bool true)))⟩]) (
  .ret)
def c_slices_EqualFunc_Lapi_Message_Lapi_Message_api_Message_api_Message_ : CF := ⟨3, 32,
  .seq (.reg [] [
  ⟨(some 6), none, .mv (.c (.v (.bool false)))⟩]) (
  .seq (.seq (.reg [] [
  ⟨(some 10), none, .mv (.t 0)⟩,
  ⟨(some 11), none, .len false (.t 10)⟩,
  ⟨(some 12), none, .mv (.t 1)⟩,
  ⟨(some 13), none, .len false (.t 12)⟩,
  ⟨(some 14), none, .bin .neq (.t 11) (.t 13)⟩]) (
  .cond (.t 14) (
  .seq (.reg [] [
  ⟨(some 6), none, .mv (.c (.v (.bool false)))⟩]) (
  .ret)) (
  .skip))) (
  .seq (.seq (.reg [] [
  ⟨(some 15), none, .mv (.t 0)⟩,
  ⟨(some 16), none, .len false (.t 15)⟩,
  ⟨(some 17), none, .mv (.c (.v (.int .i64 0)))⟩]) (
  .block 0 (
  .loop k_slices_EqualFunc_Lapi_Message_Lapi_Message_api_Message_api_Message__0 c_slices_EqualFunc_Lapi_Message_Lapi_Message_api_Message_api_Message__b0))) c_slices_EqualFunc_Lapi_Message_Lapi_Message_api_Message_api_Message__s0)),
  [.t 6]⟩
def v_slices_EqualFunc_Lapi_Message_Lapi_Message_api_Message_api_Message_ : List Nat := [8, 9]
def R_slices_EqualFunc_Lapi_Message_Lapi_Message_api_Message_api_Message__0 (call : Eng.Call) (G : Nat → AV) (n m0 : Nat) (o : Objs) (y2 y1 y15 y16 y17 : AV) : Out := roundsE k_slices_EqualFunc_Lapi_Message_Lapi_Message_api_Message_api_Message__0 (denE 32 call G v_slices_EqualFunc_Lapi_Message_Lapi_Message_api_Message_api_Message_ n c_slices_EqualFunc_Lapi_Message_Lapi_Message_api_Message_api_Message__b0) m0 [y2, y1, y15, y16, y17] o (eBlock 0 (eSeq (denE 32 call G v_slices_EqualFunc_Lapi_Message_Lapi_Message_api_Message_api_Message_ n c_slices_EqualFunc_Lapi_Message_Lapi_Message_api_Message_api_Message__s0) (eEnd [.t 6])))
set_option maxRecDepth 100000 in
theorem R_slices_EqualFunc_Lapi_Message_Lapi_Message_api_Message_api_Message__0_s (call : Eng.Call) (G : Nat → AV) (n m0 : Nat) (o : Objs) (y2 y1 y15 y16 y17 : AV) : R_slices_EqualFunc_Lapi_Message_Lapi_Message_api_Message_api_Message__0 call G n (m0 + 1) o y2 y1 y15 y16 y17 =
 Xq (.bin .lss (.c y17) (.c y16)) (fun x7 =>
 Xc x7 (fun _ =>
 Xq (.ias 3 (.c y15) (.c y17)) (fun x8 =>
 Xx call o 21 (.ld true 3 (.c x8)) (fun x9 ox9 =>
 Xx call ox9 8 (.alloc [(.v (.string ⟨#[]⟩)), .nilsl, .nilsl] [0, 7, 1]) (fun x10 ox10 =>
 Xv ox10 3 x10 x9 (fun ox11 =>
 Xq (.ias 3 (.c y1) (.c y17)) (fun x12 =>
 Xx call ox11 25 (.ld true 3 (.c x12)) (fun x13 ox13 =>
 Xx call ox13 9 (.alloc [(.v (.string ⟨#[]⟩)), .nilsl, .nilsl] [0, 7, 1]) (fun x14 ox14 =>
 Xv ox14 3 x14 x13 (fun ox15 =>
 Xx call ox15 27 (.ld true 3 (.c x10)) (fun x16 ox16 =>
 Xx call ox16 28 (.ld true 3 (.c x14)) (fun x17 ox17 =>
 Xx call ox17 29 (.cal false (.c y2) [(.c x16), (.c x17)]) (fun x18 ox18 =>
 Xq (.not (.c x18)) (fun x19 =>
 Xc x19 (fun _ =>
 Xr ox18 [some (.v (.bool false))]) (fun _ =>
 Xq (.bin .add (.c y17) (.c (.v (.int .i64 1)))) (fun x20 =>
 R_slices_EqualFunc_Lapi_Message_Lapi_Message_api_Message_api_Message__0 call G n m0 (maskO k_slices_EqualFunc_Lapi_Message_Lapi_Message_api_Message_api_Message__0 ox18) (msk k_slices_EqualFunc_Lapi_Message_Lapi_Message_api_Message_api_Message__0 y2) (msk k_slices_EqualFunc_Lapi_Message_Lapi_Message_api_Message_api_Message__0 y1) (msk k_slices_EqualFunc_Lapi_Message_Lapi_Message_api_Message_api_Message__0 y15) (msk k_slices_EqualFunc_Lapi_Message_Lapi_Message_api_Message_api_Message__0 y16) (msk k_slices_EqualFunc_Lapi_Message_Lapi_Message_api_Message_api_Message__0 x20)) ()) () ()) ()) ()) ()) ()) ()) ()) ()) ()) ()) ()) ()) ()) (fun _ =>
 Xr o [some (.v (.bool true))]) () ()) () := by kernel_rfl
set_option maxRecDepth 100000 in
theorem s_slices_EqualFunc_Lapi_Message_Lapi_Message_api_Message_api_Message_ (call : Eng.Call) (G : Nat → AV) (n : Nat) (x0 x1 x2 : AV) : denFE call G v_slices_EqualFunc_Lapi_Message_Lapi_Message_api_Message_api_Message_ n c_slices_EqualFunc_Lapi_Message_Lapi_Message_api_Message_api_Message_ [x0, x1, x2] =
 Xq (.len false (.c x0)) (fun x3 =>
 Xq (.len false (.c x1)) (fun x4 =>
 Xq (.bin .neq (.c x3) (.c x4)) (fun x5 =>
 Xc x5 (fun _ =>
 Xr [] [some (.v (.bool false))]) (fun _ =>
 Xq (.len false (.c x0)) (fun x6 =>
 R_slices_EqualFunc_Lapi_Message_Lapi_Message_api_Message_api_Message__0 call G n n (maskO k_slices_EqualFunc_Lapi_Message_Lapi_Message_api_Message_api_Message__0 []) (msk k_slices_EqualFunc_Lapi_Message_Lapi_Message_api_Message_api_Message__0 x2) (msk k_slices_EqualFunc_Lapi_Message_Lapi_Message_api_Message_api_Message__0 x1) (msk k_slices_EqualFunc_Lapi_Message_Lapi_Message_api_Message_api_Message__0 x0) (msk k_slices_EqualFunc_Lapi_Message_Lapi_Message_api_Message_api_Message__0 x6) (msk k_slices_EqualFunc_Lapi_Message_Lapi_Message_api_Message_api_Message__0 (.v (.int .i64 0)))) ()) () ()) ()) ()) () := by kernel_rfl
def c_schema_Same_2 : CF := ⟨2, 24,
  .seq (.reg [] [
  ⟨(some 2), none, .box 3 [0, 7, 1] (.t 0)⟩,
  ⟨(some 3), none, .box 3 [0, 7, 1] (.t 1)⟩,
  ⟨(some 4), none, .mv (.c (.v (.bool false)))⟩]) (
  .seq (.reg [] [
  ⟨(some 5), none, .fad (.t 2) 0⟩,
  ⟨(some 6), none, .ld false 1 (.t 5)⟩,
  ⟨(some 7), none, .fad (.t 3) 0⟩,
  ⟨(some 8), none, .ld false 1 (.t 7)⟩,
  ⟨(some 9), none, .bin .eql (.t 6) (.t 8)⟩,
  ⟨(some 10), none, .mv (.t 9)⟩,
  ⟨(some 11), (some (10, true)), .fad (.t 2) 1⟩,
  ⟨(some 12), (some (10, true)), .ld false 1 (.t 11)⟩,
  ⟨(some 13), (some (10, true)), .fad (.t 3) 1⟩,
  ⟨(some 14), (some (10, true)), .ld false 1 (.t 13)⟩,
  ⟨(some 15), (some (10, true)), .call false i_slices_Equal_Lapi_Field_api_Field_ [(.t 12), (.t 14)]⟩,
  ⟨(some 16), none, .pick (.t 10) (.t 15) (.c (.v (.bool false)))⟩,
  ⟨(some 17), none, .mv (.t 16)⟩,
  ⟨(some 18), (some (17, true)), .fad (.t 2) 2⟩,
  ⟨(some 19), (some (17, true)), .ld false 1 (.t 18)⟩,
  ⟨(some 20), (some (17, true)), .fad (.t 3) 2⟩,
  ⟨(some 21), (some (17, true)), .ld false 1 (.t 20)⟩,
  ⟨(some 22), (some (17, true)), .call false i_slices_Equal_Lint_int_ [(.t 19), (.t 21)]⟩,
  ⟨(some 23), none, .pick (.t 17) (.t 22) (.c (.v (.bool false)))⟩,
  ⟨(some 4), none, .mv (.t 23)⟩]) (
  .ret)),
  [.t 4]⟩
def v_schema_Same_2 : List Nat := []
set_option maxRecDepth 100000 in
theorem s_schema_Same_2 (call : Eng.Call) (G : Nat → AV) (n : Nat) (x0 x1 : AV) : denFE call G v_schema_Same_2 n c_schema_Same_2 [x0, x1] =
 Xx call [] 2 (.box 3 [0, 7, 1] (.c x0)) (fun x2 ox2 =>
 Xx call ox2 3 (.box 3 [0, 7, 1] (.c x1)) (fun x3 ox3 =>
 Xq (.fad (.c x2) 0) (fun x4 =>
 Xx call ox3 6 (.ld false 1 (.c x4)) (fun x5 ox5 =>
 Xq (.fad (.c x3) 0) (fun x6 =>
 Xx call ox5 8 (.ld false 1 (.c x6)) (fun x7 ox7 =>
 Xq (.bin .eql (.c x5) (.c x7)) (fun x8 =>
 Xgq x8 true (.fad (.c x2) 1) (fun x9 =>
 Xxg call x8 true ox7 12 (.ld false 1 (.c x9)) (fun x10 ox10 =>
 Xgq x8 true (.fad (.c x3) 1) (fun x11 =>
 Xxg call x8 true ox10 14 (.ld false 1 (.c x11)) (fun x12 ox12 =>
 Xxg call x8 true ox12 15 (.call false i_slices_Equal_Lapi_Field_api_Field_ [(.c x10), (.c x12)]) (fun x13 ox13 =>
 Xq (.pick (.c x8) (.c x13) (.c (.v (.bool false)))) (fun x14 =>
 Xgq x14 true (.fad (.c x2) 2) (fun x15 =>
 Xxg call x14 true ox13 19 (.ld false 1 (.c x15)) (fun x16 ox16 =>
 Xgq x14 true (.fad (.c x3) 2) (fun x17 =>
 Xxg call x14 true ox16 21 (.ld false 1 (.c x17)) (fun x18 ox18 =>
 Xxg call x14 true ox18 22 (.call false i_slices_Equal_Lint_int_ [(.c x16), (.c x18)]) (fun x19 ox19 =>
 Xq (.pick (.c x14) (.c x19) (.c (.v (.bool false)))) (fun x20 =>
 Xr ox19 [some x20]) ()) ()) ()) ()) ()) ()) ()) ()) ()) ()) ()) ()) ()) ()) ()) ()) ()) ()) () := by kernel_rfl
def k_slices_Equal_Lapi_Field_api_Field__0 : List Nat := [1, 0, 12, 13]
def c_slices_Equal_Lapi_Field_api_Field__b0 : CC := .seq (.reg [] [
  ⟨(some 14), none, .bin .lss (.t 13) (.t 12)⟩]) (
  .seq (.cond (.t 14) (
  .skip) (
  .exit 0)) (
  .seq (.block 1 (
  .seq (.reg [] [
  ⟨(some 15), none, .mv (.t 13)⟩,
  ⟨(some 5), none, .mv (.t 15)⟩]) (
  .seq (.reg [
  ⟨(some 16), none, .mv (.t 0)⟩,
  ⟨(some 17), none, .mv (.t 5)⟩,
  ⟨(some 18), none, .ias 7 (.t 16) (.t 17)⟩,
  ⟨(some 19), none, .ld true 7 (.t 18)⟩,
  ⟨(some 20), none, .mv (.t 1)⟩,
  ⟨(some 21), none, .mv (.t 5)⟩,
  ⟨(some 22), none, .ias 7 (.t 20) (.t 21)⟩,
  ⟨(some 23), none, .ld true 7 (.t 22)⟩] [
  ⟨(some 24), none, .eqs true [2, 0, 0, 2, 1, 1, 2] (.t 19) (.t 23)⟩]) (
  .cond (.t 24) (
  .seq (.reg [] [
  ⟨(some 4), none, .mv (.c (.v (.bool false)))⟩]) (
  .ret)) (
  .skip))))) (
  .reg [] [
  ⟨(some 25), none, .bin .add (.t 13) (.c (.v (.int .i64 1)))⟩,
  ⟨(some 13), none, .mv (.t 25)⟩])))
def c_slices_Equal_Lapi_Field_api_Field__s0 : CC := .seq (.reg [] [
  ⟨(some 4), none, .mv (.c (.v (.bool true)))⟩]) (
  .ret)
def c_slices_Equal_Lapi_Field_api_Field_ : CF := ⟨2, 26,
  .seq (.reg [] [
  ⟨(some 4), none, .mv (.c (.v (.bool false)))⟩]) (
  .seq (.seq (.reg [] [
  ⟨(some 6), none, .mv (.t 0)⟩,
  ⟨(some 7), none, .len false (.t 6)⟩,
  ⟨(some 8), none, .mv (.t 1)⟩,
  ⟨(some 9), none, .len false (.t 8)⟩,
  ⟨(some 10), none, .bin .neq (.t 7) (.t 9)⟩]) (
  .cond (.t 10) (
  .seq (.reg [] [
  ⟨(some 4), none, .mv (.c (.v (.bool false)))⟩]) (
  .ret)) (
  .skip))) (
  .seq (.seq (.reg [] [
  ⟨(some 11), none, .mv (.t 0)⟩,
  ⟨(some 12), none, .len false (.t 11)⟩,
  ⟨(some 13), none, .mv (.c (.v (.int .i64 0)))⟩]) (
  .block 0 (
  .loop k_slices_Equal_Lapi_Field_api_Field__0 c_slices_Equal_Lapi_Field_api_Field__b0))) c_slices_Equal_Lapi_Field_api_Field__s0)),
  [.t 4]⟩
def v_slices_Equal_Lapi_Field_api_Field_ : List Nat := []
def R_slices_Equal_Lapi_Field_api_Field__0 (call : Eng.Call) (G : Nat → AV) (n m0 : Nat) (o : Objs) (y1 y0 y12 y13 : AV) : Out := roundsE k_slices_Equal_Lapi_Field_api_Field__0 (denE 26 call G v_slices_Equal_Lapi_Field_api_Field_ n c_slices_Equal_Lapi_Field_api_Field__b0) m0 [y1, y0, y12, y13] o (eBlock 0 (eSeq (denE 26 call G v_slices_Equal_Lapi_Field_api_Field_ n c_slices_Equal_Lapi_Field_api_Field__s0) (eEnd [.t 4])))
set_option maxRecDepth 100000 in
theorem R_slices_Equal_Lapi_Field_api_Field__0_s (call : Eng.Call) (G : Nat → AV) (n m0 : Nat) (o : Objs) (y1 y0 y12 y13 : AV) : R_slices_Equal_Lapi_Field_api_Field__0 call G n (m0 + 1) o y1 y0 y12 y13 =
 Xq (.bin .lss (.c y13) (.c y12)) (fun x6 =>
 Xc x6 (fun _ =>
 Xq (.ias 7 (.c y0) (.c y13)) (fun x7 =>
 Xp call o 19 (.ld true 7 (.c x7)) (fun x8 nx8 sx8 =>
 Xq (.ias 7 (.c y1) (.c y13)) (fun x9 =>
 Xp call o 23 (.ld true 7 (.c x9)) (fun x10 nx10 sx10 =>
 Xq (.eqs true [2, 0, 0, 2, 1, 1, 2] (.c x8) (.c x10)) (fun x11 =>
 Xc x11 (fun _ =>
 Xr (finO o (nx8 ++ nx10) (sx8 ++ sx10)) [some (.v (.bool false))]) (fun _ =>
 Xq (.bin .add (.c y13) (.c (.v (.int .i64 1)))) (fun x12 =>
 R_slices_Equal_Lapi_Field_api_Field__0 call G n m0 (maskO k_slices_Equal_Lapi_Field_api_Field__0 (finO o (nx8 ++ nx10) (sx8 ++ sx10))) (msk k_slices_Equal_Lapi_Field_api_Field__0 y1) (msk k_slices_Equal_Lapi_Field_api_Field__0 y0) (msk k_slices_Equal_Lapi_Field_api_Field__0 y12) (msk k_slices_Equal_Lapi_Field_api_Field__0 x12)) ()) () ()) ()) ()) ()) ()) ()) (fun _ =>
 Xr o [some (.v (.bool true))]) () ()) () := by kernel_rfl
set_option maxRecDepth 100000 in
theorem s_slices_Equal_Lapi_Field_api_Field_ (call : Eng.Call) (G : Nat → AV) (n : Nat) (x0 x1 : AV) : denFE call G v_slices_Equal_Lapi_Field_api_Field_ n c_slices_Equal_Lapi_Field_api_Field_ [x0, x1] =
 Xq (.len false (.c x0)) (fun x2 =>
 Xq (.len false (.c x1)) (fun x3 =>
 Xq (.bin .neq (.c x2) (.c x3)) (fun x4 =>
 Xc x4 (fun _ =>
 Xr [] [some (.v (.bool false))]) (fun _ =>
 Xq (.len false (.c x0)) (fun x5 =>
 R_slices_Equal_Lapi_Field_api_Field__0 call G n n (maskO k_slices_Equal_Lapi_Field_api_Field__0 []) (msk k_slices_Equal_Lapi_Field_api_Field__0 x1) (msk k_slices_Equal_Lapi_Field_api_Field__0 x0) (msk k_slices_Equal_Lapi_Field_api_Field__0 x5) (msk k_slices_Equal_Lapi_Field_api_Field__0 (.v (.int .i64 0)))) ()) () ()) ()) ()) () := by kernel_rfl
def k_slices_Equal_Lint_int__0 : List Nat := [1, 0, 12, 13]
def c_slices_Equal_Lint_int__b0 : CC := .seq (.reg [] [
  ⟨(some 14), none, .bin .lss (.t 13) (.t 12)⟩]) (
  .seq (.cond (.t 14) (
  .skip) (
  .exit 0)) (
  .seq (.block 1 (
  .seq (.reg [] [
  ⟨(some 15), none, .mv (.t 13)⟩,
  ⟨(some 5), none, .mv (.t 15)⟩]) (
  .seq (.reg [
  ⟨(some 16), none, .mv (.t 0)⟩,
  ⟨(some 17), none, .mv (.t 5)⟩,
  ⟨(some 18), none, .ias 1 (.t 16) (.t 17)⟩,
  ⟨(some 19), none, .ld false 1 (.t 18)⟩,
  ⟨(some 20), none, .mv (.t 1)⟩,
  ⟨(some 21), none, .mv (.t 5)⟩,
  ⟨(some 22), none, .ias 1 (.t 20) (.t 21)⟩,
  ⟨(some 23), none, .ld false 1 (.t 22)⟩] [
  ⟨(some 24), none, .bin .neq (.t 19) (.t 23)⟩]) (
  .cond (.t 24) (
  .seq (.reg [] [
  ⟨(some 4), none, .mv (.c (.v (.bool false)))⟩]) (
  .ret)) (
  .skip))))) (
  .reg [] [
  ⟨(some 25), none, .bin .add (.t 13) (.c (.v (.int .i64 1)))⟩,
  ⟨(some 13), none, .mv (.t 25)⟩])))
def c_slices_Equal_Lint_int__s0 : CC := .seq (.reg [] [
  ⟨(some 4), none, .mv (.c (.v (.bool true)))⟩]) (
  .ret)
def c_slices_Equal_Lint_int_ : CF := ⟨2, 26,
  .seq (.reg [] [
  ⟨(some 4), none, .mv (.c (.v (.bool false)))⟩]) (
  .seq (.seq (.reg [] [
  ⟨(some 6), none, .mv (.t 0)⟩,
  ⟨(some 7), none, .len false (.t 6)⟩,
  ⟨(some 8), none, .mv (.t 1)⟩,
  ⟨(some 9), none, .len false (.t 8)⟩,
  ⟨(some 10), none, .bin .neq (.t 7) (.t 9)⟩]) (
  .cond (.t 10) (
  .seq (.reg [] [
  ⟨(some 4), none, .mv (.c (.v (.bool false)))⟩]) (
  .ret)) (
  .skip))) (
  .seq (.seq (.reg [] [
  ⟨(some 11), none, .mv (.t 0)⟩,
  ⟨(some 12), none, .len false (.t 11)⟩,
  ⟨(some 13), none, .mv (.c (.v (.int .i64 0)))⟩]) (
  .block 0 (
  .loop k_slices_Equal_Lint_int__0 c_slices_Equal_Lint_int__b0))) c_slices_Equal_Lint_int__s0)),
  [.t 4]⟩
def v_slices_Equal_Lint_int_ : List Nat := []
def R_slices_Equal_Lint_int__0 (call : Eng.Call) (G : Nat → AV) (n m0 : Nat) (o : Objs) (y1 y0 y12 y13 : AV) : Out := roundsE k_slices_Equal_Lint_int__0 (denE 26 call G v_slices_Equal_Lint_int_ n c_slices_Equal_Lint_int__b0) m0 [y1, y0, y12, y13] o (eBlock 0 (eSeq (denE 26 call G v_slices_Equal_Lint_int_ n c_slices_Equal_Lint_int__s0) (eEnd [.t 4])))
set_option maxRecDepth 100000 in
theorem R_slices_Equal_Lint_int__0_s (call : Eng.Call) (G : Nat → AV) (n m0 : Nat) (o : Objs) (y1 y0 y12 y13 : AV) : R_slices_Equal_Lint_int__0 call G n (m0 + 1) o y1 y0 y12 y13 =
 Xq (.bin .lss (.c y13) (.c y12)) (fun x6 =>
 Xc x6 (fun _ =>
 Xq (.ias 1 (.c y0) (.c y13)) (fun x7 =>
 Xp call o 19 (.ld false 1 (.c x7)) (fun x8 nx8 sx8 =>
 Xq (.ias 1 (.c y1) (.c y13)) (fun x9 =>
 Xp call o 23 (.ld false 1 (.c x9)) (fun x10 nx10 sx10 =>
 Xq (.bin .neq (.c x8) (.c x10)) (fun x11 =>
 Xc x11 (fun _ =>
 Xr (finO o (nx8 ++ nx10) (sx8 ++ sx10)) [some (.v (.bool false))]) (fun _ =>
 Xq (.bin .add (.c y13) (.c (.v (.int .i64 1)))) (fun x12 =>
 R_slices_Equal_Lint_int__0 call G n m0 (maskO k_slices_Equal_Lint_int__0 (finO o (nx8 ++ nx10) (sx8 ++ sx10))) (msk k_slices_Equal_Lint_int__0 y1) (msk k_slices_Equal_Lint_int__0 y0) (msk k_slices_Equal_Lint_int__0 y12) (msk k_slices_Equal_Lint_int__0 x12)) ()) () ()) ()) ()) ()) ()) ()) (fun _ =>
 Xr o [some (.v (.bool true))]) () ()) () := by kernel_rfl
set_option maxRecDepth 100000 in
theorem s_slices_Equal_Lint_int_ (call : Eng.Call) (G : Nat → AV) (n : Nat) (x0 x1 : AV) : denFE call G v_slices_Equal_Lint_int_ n c_slices_Equal_Lint_int_ [x0, x1] =
 Xq (.len false (.c x0)) (fun x2 =>
 Xq (.len false (.c x1)) (fun x3 =>
 Xq (.bin .neq (.c x2) (.c x3)) (fun x4 =>
 Xc x4 (fun _ =>
 Xr [] [some (.v (.bool false))]) (fun _ =>
 Xq (.len false (.c x0)) (fun x5 =>
 R_slices_Equal_Lint_int__0 call G n n (maskO k_slices_Equal_Lint_int__0 []) (msk k_slices_Equal_Lint_int__0 x1) (msk k_slices_Equal_Lint_int__0 x0) (msk k_slices_Equal_Lint_int__0 x5) (msk k_slices_Equal_Lint_int__0 (.v (.int .i64 0)))) ()) () ()) ()) ()) () := by kernel_rfl
def k_ref15_SameMessage_0 : List Nat := [3, 2, 5]
def c_ref15_SameMessage_b0 : CC := .seq (.seq (.reg [] [
  ⟨(some 28), none, .mv (.t 5)⟩,
  ⟨(some 29), none, .fad (.t 2) 1⟩,
  ⟨(some 30), none, .ld false 1 (.t 29)⟩,
  ⟨(some 31), none, .len false (.t 30)⟩,
  ⟨(some 32), none, .bin .lss (.t 28) (.t 31)⟩]) (
  .cond (.t 32) (
  .skip) (
  .exit 0))) (
  .seq (.block 1 (
  .seq (.reg [
  ⟨(some 35), none, .fad (.t 2) 1⟩,
  ⟨(some 36), none, .ld false 1 (.t 35)⟩,
  ⟨(some 37), none, .mv (.t 5)⟩,
  ⟨(some 38), none, .ias 7 (.t 36) (.t 37)⟩,
  ⟨(some 39), none, .ld true 7 (.t 38)⟩,
  ⟨(some 40), none, .fad (.t 3) 1⟩,
  ⟨(some 41), none, .ld false 1 (.t 40)⟩,
  ⟨(some 42), none, .mv (.t 5)⟩,
  ⟨(some 43), none, .ias 7 (.t 41) (.t 42)⟩,
  ⟨(some 44), none, .ld true 7 (.t 43)⟩] [
  ⟨(some 45), none, .eqs true [2, 0, 0, 2, 1, 1, 2] (.t 39) (.t 44)⟩]) (
  .cond (.t 45) (
  .seq (.reg [] [
  ⟨(some 4), none, .mv (.c (.v (.bool false)))⟩]) (
  .ret)) (
  .skip)))) (
  .reg [] [
  ⟨(some 33), none, .mv (.t 5)⟩,
  ⟨(some 34), none, .bin .add (.t 33) (.c (.v (.int .i64 1)))⟩,
  ⟨(some 5), none, .mv (.t 34)⟩]))
def c_ref15_SameMessage_s0 : CC := .seq (.reg [] [
  ⟨(some 4), none, .mv (.c (.v (.bool true)))⟩]) (
  .ret)
def c_ref15_SameMessage : CF := ⟨2, 46,
  .seq (.reg [] [
  ⟨(some 2), none, .box 3 [0, 7, 1] (.t 0)⟩,
  ⟨(some 3), none, .box 3 [0, 7, 1] (.t 1)⟩,
  ⟨(some 4), none, .mv (.c (.v (.bool false)))⟩]) (
  .seq (.seq (.reg [] [
  ⟨(some 6), none, .fad (.t 2) 0⟩,
  ⟨(some 7), none, .ld false 1 (.t 6)⟩,
  ⟨(some 8), none, .fad (.t 3) 0⟩,
  ⟨(some 9), none, .ld false 1 (.t 8)⟩,
  ⟨(some 10), none, .bin .neq (.t 7) (.t 9)⟩,
  ⟨(some 11), none, .mv (.t 10)⟩,
  ⟨(some 12), (some (11, false)), .fad (.t 2) 2⟩,
  ⟨(some 13), (some (11, false)), .ld false 1 (.t 12)⟩,
  ⟨(some 14), (some (11, false)), .fad (.t 3) 2⟩,
  ⟨(some 15), (some (11, false)), .ld false 1 (.t 14)⟩,
  ⟨(some 16), (some (11, false)), .call false i_ref01_Ints [(.t 13), (.t 15)]⟩,
  ⟨(some 17), (some (11, false)), .not (.t 16)⟩,
  ⟨(some 18), none, .pick (.t 11) (.c (.v (.bool true))) (.t 17)⟩,
  ⟨(some 19), none, .mv (.t 18)⟩,
  ⟨(some 20), (some (19, false)), .fad (.t 2) 1⟩,
  ⟨(some 21), (some (19, false)), .ld false 1 (.t 20)⟩,
  ⟨(some 22), (some (19, false)), .len false (.t 21)⟩,
  ⟨(some 23), (some (19, false)), .fad (.t 3) 1⟩,
  ⟨(some 24), (some (19, false)), .ld false 1 (.t 23)⟩,
  ⟨(some 25), (some (19, false)), .len false (.t 24)⟩,
  ⟨(some 26), (some (19, false)), .bin .neq (.t 22) (.t 25)⟩,
  ⟨(some 27), none, .pick (.t 19) (.c (.v (.bool true))) (.t 26)⟩]) (
  .cond (.t 27) (
  .seq (.reg [] [
  ⟨(some 4), none, .mv (.c (.v (.bool false)))⟩]) (
  .ret)) (
  .skip))) (
  .seq (.seq (.reg [] [
  ⟨(some 5), none, .mv (.c (.v (.int .i64 0)))⟩]) (
  .block 0 (
  .loop k_ref15_SameMessage_0 c_ref15_SameMessage_b0))) c_ref15_SameMessage_s0)),
  [.t 4]⟩
def v_ref15_SameMessage : List Nat := []
def R_ref15_SameMessage_0 (call : Eng.Call) (G : Nat → AV) (n m0 : Nat) (o : Objs) (y3 y2 y5 : AV) : Out := roundsE k_ref15_SameMessage_0 (denE 46 call G v_ref15_SameMessage n c_ref15_SameMessage_b0) m0 [y3, y2, y5] o (eBlock 0 (eSeq (denE 46 call G v_ref15_SameMessage n c_ref15_SameMessage_s0) (eEnd [.t 4])))
set_option maxRecDepth 100000 in
theorem R_ref15_SameMessage_0_s (call : Eng.Call) (G : Nat → AV) (n m0 : Nat) (o : Objs) (y3 y2 y5 : AV) : R_ref15_SameMessage_0 call G n (m0 + 1) o y3 y2 y5 =
 Xq (.fad (.c y2) 1) (fun x24 =>
 Xx call o 30 (.ld false 1 (.c x24)) (fun x25 ox25 =>
 Xq (.len false (.c x25)) (fun x26 =>
 Xq (.bin .lss (.c y5) (.c x26)) (fun x27 =>
 Xc x27 (fun _ =>
 Xq (.fad (.c y2) 1) (fun x28 =>
 Xp call ox25 36 (.ld false 1 (.c x28)) (fun x29 nx29 sx29 =>
 Xq (.ias 7 (.c x29) (.c y5)) (fun x30 =>
 Xp call ox25 39 (.ld true 7 (.c x30)) (fun x31 nx31 sx31 =>
 Xq (.fad (.c y3) 1) (fun x32 =>
 Xp call ox25 41 (.ld false 1 (.c x32)) (fun x33 nx33 sx33 =>
 Xq (.ias 7 (.c x33) (.c y5)) (fun x34 =>
 Xp call ox25 44 (.ld true 7 (.c x34)) (fun x35 nx35 sx35 =>
 Xq (.eqs true [2, 0, 0, 2, 1, 1, 2] (.c x31) (.c x35)) (fun x36 =>
 Xc x36 (fun _ =>
 Xr (finO ox25 (nx29 ++ nx31 ++ nx33 ++ nx35) (sx29 ++ sx31 ++ sx33 ++ sx35)) [some (.v (.bool false))]) (fun _ =>
 Xq (.bin .add (.c y5) (.c (.v (.int .i64 1)))) (fun x37 =>
 R_ref15_SameMessage_0 call G n m0 (maskO k_ref15_SameMessage_0 (finO ox25 (nx29 ++ nx31 ++ nx33 ++ nx35) (sx29 ++ sx31 ++ sx33 ++ sx35))) (msk k_ref15_SameMessage_0 y3) (msk k_ref15_SameMessage_0 y2) (msk k_ref15_SameMessage_0 x37)) ()) () ()) ()) ()) ()) ()) ()) ()) ()) ()) ()) (fun _ =>
 Xr ox25 [some (.v (.bool true))]) () ()) ()) ()) ()) () := by kernel_rfl
set_option maxRecDepth 100000 in
theorem s_ref15_SameMessage (call : Eng.Call) (G : Nat → AV) (n : Nat) (x0 x1 : AV) : denFE call G v_ref15_SameMessage n c_ref15_SameMessage [x0, x1] =
 Xx call [] 2 (.box 3 [0, 7, 1] (.c x0)) (fun x2 ox2 =>
 Xx call ox2 3 (.box 3 [0, 7, 1] (.c x1)) (fun x3 ox3 =>
 Xq (.fad (.c x2) 0) (fun x4 =>
 Xx call ox3 7 (.ld false 1 (.c x4)) (fun x5 ox5 =>
 Xq (.fad (.c x3) 0) (fun x6 =>
 Xx call ox5 9 (.ld false 1 (.c x6)) (fun x7 ox7 =>
 Xq (.bin .neq (.c x5) (.c x7)) (fun x8 =>
 Xgq x8 false (.fad (.c x2) 2) (fun x9 =>
 Xxg call x8 false ox7 13 (.ld false 1 (.c x9)) (fun x10 ox10 =>
 Xgq x8 false (.fad (.c x3) 2) (fun x11 =>
 Xxg call x8 false ox10 15 (.ld false 1 (.c x11)) (fun x12 ox12 =>
 Xxg call x8 false ox12 16 (.call false i_ref01_Ints [(.c x10), (.c x12)]) (fun x13 ox13 =>
 Xgq x8 false (.not (.c x13)) (fun x14 =>
 Xq (.pick (.c x8) (.c (.v (.bool true))) (.c x14)) (fun x15 =>
 Xgq x15 false (.fad (.c x2) 1) (fun x16 =>
 Xxg call x15 false ox13 21 (.ld false 1 (.c x16)) (fun x17 ox17 =>
 Xgq x15 false (.len false (.c x17)) (fun x18 =>
 Xgq x15 false (.fad (.c x3) 1) (fun x19 =>
 Xxg call x15 false ox17 24 (.ld false 1 (.c x19)) (fun x20 ox20 =>
 Xgq x15 false (.len false (.c x20)) (fun x21 =>
 Xgq x15 false (.bin .neq (.c x18) (.c x21)) (fun x22 =>
 Xq (.pick (.c x15) (.c (.v (.bool true))) (.c x22)) (fun x23 =>
 Xc x23 (fun _ =>
 Xr ox20 [some (.v (.bool false))]) (fun _ =>
 R_ref15_SameMessage_0 call G n n (maskO k_ref15_SameMessage_0 ox20) (msk k_ref15_SameMessage_0 x3) (msk k_ref15_SameMessage_0 x2) (msk k_ref15_SameMessage_0 (.v (.int .i64 0)))) () ()) ()) ()) ()) ()) ()) ()) ()) ()) ()) ()) ()) ()) ()) ()) ()) ()) ()) ()) ()) ()) ()) () := by kernel_rfl
def k_ref15_Message_0 : List Nat := [5, 1, 2]
def c_ref15_Message_b0 : CC := .seq (.seq (.reg [] [
  ⟨(some 6), none, .mv (.t 5)⟩,
  ⟨(some 7), none, .fad (.t 2) 1⟩,
  ⟨(some 8), none, .ld false 1 (.t 7)⟩,
  ⟨(some 9), none, .len false (.t 8)⟩,
  ⟨(some 10), none, .bin .lss (.t 6) (.t 9)⟩]) (
  .cond (.t 10) (
  .skip) (
  .exit 0))) (
  .seq (.block 1 (
  .seq (.reg [] [
  ⟨(some 13), none, .fad (.t 2) 1⟩,
  ⟨(some 14), none, .ld false 1 (.t 13)⟩,
  ⟨(some 15), none, .mv (.t 5)⟩,
  ⟨(some 16), none, .ias 3 (.t 14) (.t 15)⟩,
  ⟨(some 17), none, .fad (.t 16) 0⟩,
  ⟨(some 18), none, .ld false 1 (.t 17)⟩,
  ⟨(some 19), none, .mv (.t 1)⟩,
  ⟨(some 20), none, .bin .eql (.t 18) (.t 19)⟩]) (
  .cond (.t 20) (
  .seq (.reg [] [
  ⟨(some 21), none, .mv (.t 5)⟩,
  ⟨(some 4), none, .mv (.t 21)⟩]) (
  .ret)) (
  .skip)))) (
  .reg [] [
  ⟨(some 11), none, .mv (.t 5)⟩,
  ⟨(some 12), none, .bin .add (.t 11) (.c (.v (.int .i64 1)))⟩,
  ⟨(some 5), none, .mv (.t 12)⟩]))
def c_ref15_Message_s0 : CC := .seq (.reg [] [
  ⟨(some 4), none, .mv (.c (.v (.int .i64 (-1))))⟩]) (
  .ret)
def c_ref15_Message : CF := ⟨2, 22,
  .seq (.reg [] [
  ⟨(some 2), none, .box 2 [2, 3] (.t 0)⟩,
  ⟨(some 4), none, .mv (.c (.v (.int .i64 0)))⟩]) (
  .seq (.seq (.reg [] [
  ⟨(some 5), none, .mv (.c (.v (.int .i64 0)))⟩]) (
  .block 0 (
  .loop k_ref15_Message_0 c_ref15_Message_b0))) c_ref15_Message_s0),
  [.t 4]⟩
def v_ref15_Message : List Nat := []
def R_ref15_Message_0 (call : Eng.Call) (G : Nat → AV) (n m0 : Nat) (o : Objs) (y5 y1 y2 : AV) : Out := roundsE k_ref15_Message_0 (denE 22 call G v_ref15_Message n c_ref15_Message_b0) m0 [y5, y1, y2] o (eBlock 0 (eSeq (denE 22 call G v_ref15_Message n c_ref15_Message_s0) (eEnd [.t 4])))
set_option maxRecDepth 100000 in
theorem R_ref15_Message_0_s (call : Eng.Call) (G : Nat → AV) (n m0 : Nat) (o : Objs) (y5 y1 y2 : AV) : R_ref15_Message_0 call G n (m0 + 1) o y5 y1 y2 =
 Xq (.fad (.c y2) 1) (fun x3 =>
 Xx call o 8 (.ld false 1 (.c x3)) (fun x4 ox4 =>
 Xq (.len false (.c x4)) (fun x5 =>
 Xq (.bin .lss (.c y5) (.c x5)) (fun x6 =>
 Xc x6 (fun _ =>
 Xq (.fad (.c y2) 1) (fun x7 =>
 Xx call ox4 14 (.ld false 1 (.c x7)) (fun x8 ox8 =>
 Xq (.ias 3 (.c x8) (.c y5)) (fun x9 =>
 Xq (.fad (.c x9) 0) (fun x10 =>
 Xx call ox8 18 (.ld false 1 (.c x10)) (fun x11 ox11 =>
 Xq (.bin .eql (.c x11) (.c y1)) (fun x12 =>
 Xc x12 (fun _ =>
 Xr ox11 [some y5]) (fun _ =>
 Xq (.bin .add (.c y5) (.c (.v (.int .i64 1)))) (fun x13 =>
 R_ref15_Message_0 call G n m0 (maskO k_ref15_Message_0 ox11) (msk k_ref15_Message_0 x13) (msk k_ref15_Message_0 y1) (msk k_ref15_Message_0 y2)) ()) () ()) ()) ()) ()) ()) ()) ()) (fun _ =>
 Xr ox4 [some (.v (.int .i64 (-1)))]) () ()) ()) ()) ()) () := by kernel_rfl
set_option maxRecDepth 100000 in
theorem s_ref15_Message (call : Eng.Call) (G : Nat → AV) (n : Nat) (x0 x1 : AV) : denFE call G v_ref15_Message n c_ref15_Message [x0, x1] =
 Xx call [] 2 (.box 2 [2, 3] (.c x0)) (fun x2 ox2 =>
 R_ref15_Message_0 call G n n (maskO k_ref15_Message_0 ox2) (msk k_ref15_Message_0 (.v (.int .i64 0))) (msk k_ref15_Message_0 x1) (msk k_ref15_Message_0 x2)) () := by kernel_rfl
def k_ref01_Ints_0 : List Nat := [1, 0, 5]
def c_ref01_Ints_b0 : CC := .seq (.seq (.reg [] [
  ⟨(some 11), none, .mv (.t 5)⟩,
  ⟨(some 12), none, .mv (.t 0)⟩,
  ⟨(some 13), none, .len false (.t 12)⟩,
  ⟨(some 14), none, .bin .lss (.t 11) (.t 13)⟩]) (
  .cond (.t 14) (
  .skip) (
  .exit 0))) (
  .seq (.block 1 (
  .seq (.reg [
  ⟨(some 17), none, .mv (.t 0)⟩,
  ⟨(some 18), none, .mv (.t 5)⟩,
  ⟨(some 19), none, .ias 1 (.t 17) (.t 18)⟩,
  ⟨(some 20), none, .ld false 1 (.t 19)⟩,
  ⟨(some 21), none, .mv (.t 1)⟩,
  ⟨(some 22), none, .mv (.t 5)⟩,
  ⟨(some 23), none, .ias 1 (.t 21) (.t 22)⟩,
  ⟨(some 24), none, .ld false 1 (.t 23)⟩] [
  ⟨(some 25), none, .bin .neq (.t 20) (.t 24)⟩]) (
  .cond (.t 25) (
  .seq (.reg [] [
  ⟨(some 4), none, .mv (.c (.v (.bool false)))⟩]) (
  .ret)) (
  .skip)))) (
  .reg [] [
  ⟨(some 15), none, .mv (.t 5)⟩,
  ⟨(some 16), none, .bin .add (.t 15) (.c (.v (.int .i64 1)))⟩,
  ⟨(some 5), none, .mv (.t 16)⟩]))
def c_ref01_Ints_s0 : CC := .seq (.reg [] [
  ⟨(some 4), none, .mv (.c (.v (.bool true)))⟩]) (
  .ret)
def c_ref01_Ints : CF := ⟨2, 26,
  .seq (.reg [] [
  ⟨(some 4), none, .mv (.c (.v (.bool false)))⟩]) (
  .seq (.seq (.reg [] [
  ⟨(some 6), none, .mv (.t 0)⟩,
  ⟨(some 7), none, .len false (.t 6)⟩,
  ⟨(some 8), none, .mv (.t 1)⟩,
  ⟨(some 9), none, .len false (.t 8)⟩,
  ⟨(some 10), none, .bin .neq (.t 7) (.t 9)⟩]) (
  .cond (.t 10) (
  .seq (.reg [] [
  ⟨(some 4), none, .mv (.c (.v (.bool false)))⟩]) (
  .ret)) (
  .skip))) (
  .seq (.seq (.reg [] [
  ⟨(some 5), none, .mv (.c (.v (.int .i64 0)))⟩]) (
  .block 0 (
  .loop k_ref01_Ints_0 c_ref01_Ints_b0))) c_ref01_Ints_s0)),
  [.t 4]⟩
def v_ref01_Ints : List Nat := []
def R_ref01_Ints_0 (call : Eng.Call) (G : Nat → AV) (n m0 : Nat) (o : Objs) (y1 y0 y5 : AV) : Out := roundsE k_ref01_Ints_0 (denE 26 call G v_ref01_Ints n c_ref01_Ints_b0) m0 [y1, y0, y5] o (eBlock 0 (eSeq (denE 26 call G v_ref01_Ints n c_ref01_Ints_s0) (eEnd [.t 4])))
set_option maxRecDepth 100000 in
theorem R_ref01_Ints_0_s (call : Eng.Call) (G : Nat → AV) (n m0 : Nat) (o : Objs) (y1 y0 y5 : AV) : R_ref01_Ints_0 call G n (m0 + 1) o y1 y0 y5 =
 Xq (.len false (.c y0)) (fun x5 =>
 Xq (.bin .lss (.c y5) (.c x5)) (fun x6 =>
 Xc x6 (fun _ =>
 Xq (.ias 1 (.c y0) (.c y5)) (fun x7 =>
 Xp call o 20 (.ld false 1 (.c x7)) (fun x8 nx8 sx8 =>
 Xq (.ias 1 (.c y1) (.c y5)) (fun x9 =>
 Xp call o 24 (.ld false 1 (.c x9)) (fun x10 nx10 sx10 =>
 Xq (.bin .neq (.c x8) (.c x10)) (fun x11 =>
 Xc x11 (fun _ =>
 Xr (finO o (nx8 ++ nx10) (sx8 ++ sx10)) [some (.v (.bool false))]) (fun _ =>
 Xq (.bin .add (.c y5) (.c (.v (.int .i64 1)))) (fun x12 =>
 R_ref01_Ints_0 call G n m0 (maskO k_ref01_Ints_0 (finO o (nx8 ++ nx10) (sx8 ++ sx10))) (msk k_ref01_Ints_0 y1) (msk k_ref01_Ints_0 y0) (msk k_ref01_Ints_0 x12)) ()) () ()) ()) ()) ()) ()) ()) (fun _ =>
 Xr o [some (.v (.bool true))]) () ()) ()) () := by kernel_rfl
set_option maxRecDepth 100000 in
theorem s_ref01_Ints (call : Eng.Call) (G : Nat → AV) (n : Nat) (x0 x1 : AV) : denFE call G v_ref01_Ints n c_ref01_Ints [x0, x1] =
 Xq (.len false (.c x0)) (fun x2 =>
 Xq (.len false (.c x1)) (fun x3 =>
 Xq (.bin .neq (.c x2) (.c x3)) (fun x4 =>
 Xc x4 (fun _ =>
 Xr [] [some (.v (.bool false))]) (fun _ =>
 R_ref01_Ints_0 call G n n (maskO k_ref01_Ints_0 []) (msk k_ref01_Ints_0 x1) (msk k_ref01_Ints_0 x0) (msk k_ref01_Ints_0 (.v (.int .i64 0)))) () ()) ()) ()) () := by kernel_rfl
end Go.Proofs.YtmhdapjmndfkgaaGreat.Sk
