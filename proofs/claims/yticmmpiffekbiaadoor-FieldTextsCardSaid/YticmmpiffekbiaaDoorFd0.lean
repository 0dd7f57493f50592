/- The small code of what the statement reaches, and what it comes to with names for slots. -/
import Derived.Test.YticmmpiffekbiaaDoorEng5
import Derived.WalkKit
import Derived.ProofKit
namespace Go.Proofs.YticmmpiffekbiaaDoor.Fd
open Go Go.Proofs.YticmmpiffekbiaaDoor.Eng
set_option linter.unusedVariables false
abbrev i_law14_FieldTexts : FuncId := 8
abbrev i_law14_FieldOnes : FuncId := 9
abbrev i_ref11_Whole : FuncId := 18
abbrev i_law14_small : FuncId := 20
abbrev i_law14_live : FuncId := 21
abbrev i_law14_num : FuncId := 22
abbrev i_field_Check : FuncId := 23
abbrev i_ref14_Check : FuncId := 24
abbrev i_field_Text : FuncId := 25
abbrev i_ref14_Text : FuncId := 26
abbrev i_field_Packed : FuncId := 27
abbrev i_ref14_Packed : FuncId := 28
abbrev i_field_Hidden : FuncId := 29
abbrev i_ref14_Hidden : FuncId := 30
abbrev i_lex_Digits : FuncId := 39
abbrev i_ref10_Digits : FuncId := 40
abbrev i_field_named : FuncId := 43
abbrev i_scalar_Number : FuncId := 44
abbrev i_tag_Field : FuncId := 45
abbrev i_ref09_Right : FuncId := 46
abbrev i_ref04_Field : FuncId := 47
abbrev i_ref11_Number : FuncId := 48
abbrev i_scalar_Word : FuncId := 49
abbrev i_field_ahead : FuncId := 50
abbrev i_ref11_Word : FuncId := 51
abbrev i_strconv_FormatUint : FuncId := 55
abbrev i_field_refers : FuncId := 60
abbrev i_ident_Right : FuncId := 61
abbrev i_scalar_kind : FuncId := 62
abbrev i_tag_number : FuncId := 63
abbrev i_ref09_Letter : FuncId := 64
abbrev i_ref09_words : FuncId := 65
abbrev i_ref11_words : FuncId := 66
abbrev i_ident_word : FuncId := 72
def c_law14_FieldTexts : CF := ⟨1, 29,
  .seq (.reg [] [
  ⟨(some 1), none, .box 7 [0, 0, 0, 0, 0, 0, 0] (.t 0)⟩,
  ⟨(some 2), none, .mv (.c (.v (.bool false)))⟩]) (
  .seq (.seq (.reg [] [
  ⟨(some 3), none, .ld true 7 (.t 1)⟩,
  ⟨(some 4), none, .call false i_law14_small [(.t 3)]⟩,
  ⟨(some 5), none, .not (.t 4)⟩]) (
  .cond (.t 5) (
  .seq (.reg [] [
  ⟨(some 6), none, .call false i_law14_live []⟩,
  ⟨(some 2), none, .mv (.t 6)⟩]) (
  .ret)) (
  .skip))) (
  .seq (.reg [
  ⟨(some 7), none, .ld true 7 (.t 1)⟩,
  ⟨(some 8), none, .call false i_field_Text [(.t 7)]⟩,
  ⟨(some 9), none, .ld true 7 (.t 1)⟩,
  ⟨(some 10), none, .call false i_ref14_Text [(.t 9)]⟩,
  ⟨(some 11), none, .bin .eql (.t 8) (.t 10)⟩,
  ⟨(some 12), none, .mv (.t 11)⟩,
  ⟨(some 13), (some (12, true)), .ld true 7 (.t 1)⟩,
  ⟨(some 14), (some (12, true)), .call false i_field_Packed [(.t 13)]⟩,
  ⟨(some 15), (some (12, true)), .ld true 7 (.t 1)⟩,
  ⟨(some 16), (some (12, true)), .call false i_ref14_Packed [(.t 15)]⟩,
  ⟨(some 17), (some (12, true)), .eqb false (.t 14) (.t 16)⟩,
  ⟨(some 18), none, .pick (.t 12) (.t 17) (.c (.v (.bool false)))⟩,
  ⟨(some 19), none, .mv (.t 18)⟩,
  ⟨(some 20), (some (19, true)), .ld true 7 (.t 1)⟩,
  ⟨(some 21), (some (19, true)), .call false i_field_Hidden [(.t 20)]⟩,
  ⟨(some 22), (some (19, true)), .ld true 7 (.t 1)⟩] [
  ⟨(some 23), (some (19, true)), .call false i_ref14_Hidden [(.t 22)]⟩,
  ⟨(some 24), (some (19, true)), .eqb false (.t 21) (.t 23)⟩,
  ⟨(some 25), none, .pick (.t 19) (.t 24) (.c (.v (.bool false)))⟩,
  ⟨(some 26), none, .mv (.t 25)⟩,
  ⟨(some 27), (some (26, true)), .call false i_law14_live []⟩,
  ⟨(some 28), none, .pick (.t 26) (.t 27) (.c (.v (.bool false)))⟩,
  ⟨(some 2), none, .mv (.t 28)⟩]) (
  .ret))),
  [.t 2]⟩
def v_law14_FieldTexts : List Nat := []
set_option maxRecDepth 100000 in
theorem s_law14_FieldTexts (call : Eng.Call) (G : Nat → AV) (n : Nat) (x0 : AV) : denFE call G v_law14_FieldTexts n c_law14_FieldTexts [x0] =
 Xx call [] 1 (.box 7 [0, 0, 0, 0, 0, 0, 0] (.c x0)) (fun x1 ox1 =>
 Xx call ox1 3 (.ld true 7 (.c x1)) (fun x2 ox2 =>
 Xx call ox2 4 (.call false i_law14_small [(.c x2)]) (fun x3 ox3 =>
 Xq (.not (.c x3)) (fun x4 =>
 Xc x4 (fun _ =>
 Xx call ox3 6 (.call false i_law14_live []) (fun x5 ox5 =>
 Xr ox5 [some x5]) ()) (fun _ =>
 Xp call ox3 7 (.ld true 7 (.c x1)) (fun x6 nx6 sx6 =>
 Xp call ox3 8 (.call false i_field_Text [(.c x6)]) (fun x7 nx7 sx7 =>
 Xp call ox3 9 (.ld true 7 (.c x1)) (fun x8 nx8 sx8 =>
 Xp call ox3 10 (.call false i_ref14_Text [(.c x8)]) (fun x9 nx9 sx9 =>
 Xq (.bin .eql (.c x7) (.c x9)) (fun x10 =>
 Xpg call x10 true ox3 13 (.ld true 7 (.c x1)) (fun x11 nx11 sx11 =>
 Xpg call x10 true ox3 14 (.call false i_field_Packed [(.c x11)]) (fun x12 nx12 sx12 =>
 Xpg call x10 true ox3 15 (.ld true 7 (.c x1)) (fun x13 nx13 sx13 =>
 Xpg call x10 true ox3 16 (.call false i_ref14_Packed [(.c x13)]) (fun x14 nx14 sx14 =>
 Xgq x10 true (.eqb false (.c x12) (.c x14)) (fun x15 =>
 Xq (.pick (.c x10) (.c x15) (.c (.v (.bool false)))) (fun x16 =>
 Xpg call x16 true ox3 20 (.ld true 7 (.c x1)) (fun x17 nx17 sx17 =>
 Xpg call x16 true ox3 21 (.call false i_field_Hidden [(.c x17)]) (fun x18 nx18 sx18 =>
 Xpg call x16 true ox3 22 (.ld true 7 (.c x1)) (fun x19 nx19 sx19 =>
 Xxg call x16 true (finO ox3 (nx6 ++ nx7 ++ nx8 ++ nx9 ++ nx11 ++ nx12 ++ nx13 ++ nx14 ++ nx17 ++ nx18 ++ nx19) (sx6 ++ sx7 ++ sx8 ++ sx9 ++ sx11 ++ sx12 ++ sx13 ++ sx14 ++ sx17 ++ sx18 ++ sx19)) 23 (.call false i_ref14_Hidden [(.c x19)]) (fun x20 ox20 =>
 Xgq x16 true (.eqb false (.c x18) (.c x20)) (fun x21 =>
 Xq (.pick (.c x16) (.c x21) (.c (.v (.bool false)))) (fun x22 =>
 Xxg call x22 true ox20 27 (.call false i_law14_live []) (fun x23 ox23 =>
 Xq (.pick (.c x22) (.c x23) (.c (.v (.bool false)))) (fun x24 =>
 Xr ox23 [some x24]) ()) ()) ()) ()) ()) ()) ()) ()) ()) ()) ()) ()) ()) ()) ()) ()) ()) ()) ()) () ()) ()) ()) ()) () := by kernel_rfl
def c_law14_FieldOnes : CF := ⟨1, 61,
  .seq (.reg [] [
  ⟨(some 1), none, .box 7 [0, 0, 0, 0, 0, 0, 0] (.t 0)⟩,
  ⟨(some 2), none, .mv (.c (.v (.bool false)))⟩]) (
  .seq (.seq (.reg [] [
  ⟨(some 4), none, .ld true 7 (.t 1)⟩,
  ⟨(some 5), none, .call false i_law14_small [(.t 4)]⟩,
  ⟨(some 6), none, .not (.t 5)⟩,
  ⟨(some 7), none, .mv (.t 6)⟩,
  ⟨(some 8), (some (7, false)), .ld true 7 (.t 1)⟩,
  ⟨(some 9), (some (7, false)), .call false i_field_Check [(.t 8)]⟩,
  ⟨(some 10), (some (7, false)), .call false i_law14_num [(.t 9)]⟩,
  ⟨(some 11), (some (7, false)), .bin .neq (.t 10) (.c (.v (.int .i64 0)))⟩,
  ⟨(some 12), none, .pick (.t 7) (.c (.v (.bool true))) (.t 11)⟩]) (
  .cond (.t 12) (
  .seq (.reg [] [
  ⟨(some 13), none, .ld true 7 (.t 1)⟩,
  ⟨(some 14), none, .call false i_field_Packed [(.t 13)]⟩,
  ⟨(some 15), none, .mv (.t 14)⟩,
  ⟨(some 16), (some (15, true)), .ld true 7 (.t 1)⟩,
  ⟨(some 17), (some (15, true)), .call false i_field_Hidden [(.t 16)]⟩,
  ⟨(some 18), none, .pick (.t 15) (.t 17) (.c (.v (.bool false)))⟩,
  ⟨(some 19), none, .not (.t 18)⟩,
  ⟨(some 20), none, .mv (.t 19)⟩,
  ⟨(some 21), (some (20, true)), .call false i_law14_live []⟩,
  ⟨(some 22), none, .pick (.t 20) (.t 21) (.c (.v (.bool false)))⟩,
  ⟨(some 2), none, .mv (.t 22)⟩]) (
  .ret)) (
  .skip))) (
  .seq (.reg [] [
  ⟨(some 23), none, .ld true 7 (.t 1)⟩,
  ⟨(some 3), none, .alloc [(.v (.string ⟨#[]⟩)), (.v (.int .i64 0)), (.v (.int .i64 0)), (.v (.string ⟨#[]⟩)), (.v (.bool false)), (.v (.bool false)), (.v (.string ⟨#[]⟩))] [0, 0, 0, 0, 0, 0, 0]⟩,
  ⟨none, none, .st 7 (.t 3) (.t 23)⟩]) (
  .seq (.reg [] [
  ⟨(some 24), none, .fad (.t 3) 6⟩,
  ⟨none, none, .st 1 (.t 24) (.c (.v (.string ⟨#[]⟩)))⟩]) (
  .seq (.seq (.reg [
  ⟨(some 25), none, .ld true 7 (.t 3)⟩,
  ⟨(some 26), none, .call false i_field_Check [(.t 25)]⟩,
  ⟨(some 27), none, .call false i_law14_num [(.t 26)]⟩,
  ⟨(some 28), none, .bin .neq (.t 27) (.c (.v (.int .i64 0)))⟩,
  ⟨(some 29), none, .mv (.t 28)⟩,
  ⟨(some 30), (some (29, false)), .ld true 7 (.t 3)⟩,
  ⟨(some 31), (some (29, false)), .call false i_field_Text [(.t 30)]⟩,
  ⟨(some 32), (some (29, false)), .ld true 7 (.t 1)⟩] [
  ⟨(some 33), (some (29, false)), .call false i_field_Text [(.t 32)]⟩,
  ⟨(some 34), (some (29, false)), .bin .neq (.t 31) (.t 33)⟩,
  ⟨(some 35), none, .pick (.t 29) (.c (.v (.bool true))) (.t 34)⟩,
  ⟨(some 36), none, .mv (.t 35)⟩,
  ⟨(some 37), (some (36, false)), .ld true 7 (.t 1)⟩,
  ⟨(some 38), (some (36, false)), .call false i_field_Packed [(.t 37)]⟩,
  ⟨(some 39), (some (36, false)), .mv (.t 38)⟩,
  ⟨(some 40), (some (39, true)), .ld true 7 (.t 1)⟩,
  ⟨(some 41), (some (39, true)), .call false i_field_Hidden [(.t 40)]⟩,
  ⟨(some 42), (some (36, false)), .pick (.t 39) (.t 41) (.c (.v (.bool false)))⟩,
  ⟨(some 43), none, .pick (.t 36) (.c (.v (.bool true))) (.t 42)⟩]) (
  .cond (.t 43) (
  .seq (.reg [] [
  ⟨(some 2), none, .mv (.c (.v (.bool false)))⟩]) (
  .ret)) (
  .skip))) (
  .seq (.seq (.reg [] [
  ⟨(some 44), none, .ld true 7 (.t 1)⟩,
  ⟨(some 45), none, .call false i_field_Packed [(.t 44)]⟩,
  ⟨(some 46), none, .not (.t 45)⟩]) (
  .cond (.t 46) (
  .seq (.reg [] [
  ⟨(some 47), none, .call false i_law14_live []⟩,
  ⟨(some 2), none, .mv (.t 47)⟩]) (
  .ret)) (
  .skip))) (
  .seq (.reg [] [
  ⟨(some 48), none, .fad (.t 3) 5⟩,
  ⟨none, none, .st 1 (.t 48) (.c (.v (.bool true)))⟩]) (
  .seq (.reg [] [
  ⟨(some 49), none, .ld true 7 (.t 3)⟩,
  ⟨(some 50), none, .call false i_field_Check [(.t 49)]⟩,
  ⟨(some 51), none, .call false i_law14_num [(.t 50)]⟩,
  ⟨(some 52), none, .bin .eql (.t 51) (.c (.v (.int .i64 0)))⟩,
  ⟨(some 53), none, .mv (.t 52)⟩,
  ⟨(some 54), (some (53, true)), .ld true 7 (.t 3)⟩,
  ⟨(some 55), (some (53, true)), .call false i_field_Packed [(.t 54)]⟩,
  ⟨(some 56), (some (53, true)), .not (.t 55)⟩,
  ⟨(some 57), none, .pick (.t 53) (.t 56) (.c (.v (.bool false)))⟩,
  ⟨(some 58), none, .mv (.t 57)⟩,
  ⟨(some 59), (some (58, true)), .call false i_law14_live []⟩,
  ⟨(some 60), none, .pick (.t 58) (.t 59) (.c (.v (.bool false)))⟩,
  ⟨(some 2), none, .mv (.t 60)⟩]) (
  .ret)))))))),
  [.t 2]⟩
def v_law14_FieldOnes : List Nat := [3, 24, 48]
set_option maxRecDepth 100000 in
theorem s_law14_FieldOnes (call : Eng.Call) (G : Nat → AV) (n : Nat) (x0 : AV) : denFE call G v_law14_FieldOnes n c_law14_FieldOnes [x0] =
 Xx call [] 1 (.box 7 [0, 0, 0, 0, 0, 0, 0] (.c x0)) (fun x1 ox1 =>
 Xx call ox1 4 (.ld true 7 (.c x1)) (fun x2 ox2 =>
 Xx call ox2 5 (.call false i_law14_small [(.c x2)]) (fun x3 ox3 =>
 Xq (.not (.c x3)) (fun x4 =>
 Xxg call x4 false ox3 8 (.ld true 7 (.c x1)) (fun x5 ox5 =>
 Xxg call x4 false ox5 9 (.call false i_field_Check [(.c x5)]) (fun x6 ox6 =>
 Xxg call x4 false ox6 10 (.call false i_law14_num [(.c x6)]) (fun x7 ox7 =>
 Xgq x4 false (.bin .neq (.c x7) (.c (.v (.int .i64 0)))) (fun x8 =>
 Xq (.pick (.c x4) (.c (.v (.bool true))) (.c x8)) (fun x9 =>
 Xc x9 (fun _ =>
 Xx call ox7 13 (.ld true 7 (.c x1)) (fun x10 ox10 =>
 Xx call ox10 14 (.call false i_field_Packed [(.c x10)]) (fun x11 ox11 =>
 Xxg call x11 true ox11 16 (.ld true 7 (.c x1)) (fun x12 ox12 =>
 Xxg call x11 true ox12 17 (.call false i_field_Hidden [(.c x12)]) (fun x13 ox13 =>
 Xq (.pick (.c x11) (.c x13) (.c (.v (.bool false)))) (fun x14 =>
 Xq (.not (.c x14)) (fun x15 =>
 Xxg call x15 true ox13 21 (.call false i_law14_live []) (fun x16 ox16 =>
 Xq (.pick (.c x15) (.c x16) (.c (.v (.bool false)))) (fun x17 =>
 Xr ox16 [some x17]) ()) ()) ()) ()) ()) ()) ()) ()) (fun _ =>
 Xx call ox7 23 (.ld true 7 (.c x1)) (fun x18 ox18 =>
 Xx call ox18 3 (.alloc [(.v (.string ⟨#[]⟩)), (.v (.int .i64 0)), (.v (.int .i64 0)), (.v (.string ⟨#[]⟩)), (.v (.bool false)), (.v (.bool false)), (.v (.string ⟨#[]⟩))] [0, 0, 0, 0, 0, 0, 0]) (fun x19 ox19 =>
 Xv ox19 7 x19 x18 (fun ox20 =>
 Xq (.fad (.c x19) 6) (fun x21 =>
 Xv ox20 1 x21 (.v (.string ⟨#[]⟩)) (fun ox22 =>
 Xp call ox22 25 (.ld true 7 (.c x19)) (fun x23 nx23 sx23 =>
 Xp call ox22 26 (.call false i_field_Check [(.c x23)]) (fun x24 nx24 sx24 =>
 Xp call ox22 27 (.call false i_law14_num [(.c x24)]) (fun x25 nx25 sx25 =>
 Xq (.bin .neq (.c x25) (.c (.v (.int .i64 0)))) (fun x26 =>
 Xpg call x26 false ox22 30 (.ld true 7 (.c x19)) (fun x27 nx27 sx27 =>
 Xpg call x26 false ox22 31 (.call false i_field_Text [(.c x27)]) (fun x28 nx28 sx28 =>
 Xpg call x26 false ox22 32 (.ld true 7 (.c x1)) (fun x29 nx29 sx29 =>
 Xxg call x26 false (finO ox22 (nx23 ++ nx24 ++ nx25 ++ nx27 ++ nx28 ++ nx29) (sx23 ++ sx24 ++ sx25 ++ sx27 ++ sx28 ++ sx29)) 33 (.call false i_field_Text [(.c x29)]) (fun x30 ox30 =>
 Xgq x26 false (.bin .neq (.c x28) (.c x30)) (fun x31 =>
 Xq (.pick (.c x26) (.c (.v (.bool true))) (.c x31)) (fun x32 =>
 Xxg call x32 false ox30 37 (.ld true 7 (.c x1)) (fun x33 ox33 =>
 Xxg call x32 false ox33 38 (.call false i_field_Packed [(.c x33)]) (fun x34 ox34 =>
 Xgq x32 false (.mv (.c x34)) (fun x35 =>
 Xxg call x35 true ox34 40 (.ld true 7 (.c x1)) (fun x36 ox36 =>
 Xxg call x35 true ox36 41 (.call false i_field_Hidden [(.c x36)]) (fun x37 ox37 =>
 Xgq x32 false (.pick (.c x35) (.c x37) (.c (.v (.bool false)))) (fun x38 =>
 Xq (.pick (.c x32) (.c (.v (.bool true))) (.c x38)) (fun x39 =>
 Xc x39 (fun _ =>
 Xr ox37 [some (.v (.bool false))]) (fun _ =>
 Xx call ox37 44 (.ld true 7 (.c x1)) (fun x40 ox40 =>
 Xx call ox40 45 (.call false i_field_Packed [(.c x40)]) (fun x41 ox41 =>
 Xq (.not (.c x41)) (fun x42 =>
 Xc x42 (fun _ =>
 Xx call ox41 47 (.call false i_law14_live []) (fun x43 ox43 =>
 Xr ox43 [some x43]) ()) (fun _ =>
 Xq (.fad (.c x19) 5) (fun x44 =>
 Xv ox41 1 x44 (.v (.bool true)) (fun ox45 =>
 Xx call ox45 49 (.ld true 7 (.c x19)) (fun x46 ox46 =>
 Xx call ox46 50 (.call false i_field_Check [(.c x46)]) (fun x47 ox47 =>
 Xx call ox47 51 (.call false i_law14_num [(.c x47)]) (fun x48 ox48 =>
 Xq (.bin .eql (.c x48) (.c (.v (.int .i64 0)))) (fun x49 =>
 Xxg call x49 true ox48 54 (.ld true 7 (.c x19)) (fun x50 ox50 =>
 Xxg call x49 true ox50 55 (.call false i_field_Packed [(.c x50)]) (fun x51 ox51 =>
 Xgq x49 true (.not (.c x51)) (fun x52 =>
 Xq (.pick (.c x49) (.c x52) (.c (.v (.bool false)))) (fun x53 =>
 Xxg call x53 true ox51 59 (.call false i_law14_live []) (fun x54 ox54 =>
 Xq (.pick (.c x53) (.c x54) (.c (.v (.bool false)))) (fun x55 =>
 Xr ox54 [some x55]) ()) ()) ()) ()) ()) ()) ()) ()) ()) ()) ()) ()) () ()) ()) ()) ()) () ()) ()) ()) ()) ()) ()) ()) ()) ()) ()) ()) ()) ()) ()) ()) ()) ()) ()) ()) ()) ()) ()) ()) () ()) ()) ()) ()) ()) ()) ()) ()) ()) () := by kernel_rfl
def c_ref11_Whole : CF := ⟨1, 17,
  .seq (.reg [] [
  ⟨(some 2), none, .mv (.c (.v (.bool false)))⟩]) (
  .seq (.reg [] [
  ⟨(some 3), none, .mv (.t 0)⟩,
  ⟨(some 4), none, .bin .geq (.t 3) (.c (.v (.int .i64 1)))⟩,
  ⟨(some 5), none, .mv (.t 4)⟩,
  ⟨(some 6), (some (5, true)), .mv (.t 0)⟩,
  ⟨(some 7), (some (5, true)), .bin .leq (.t 6) (.c (.v (.int .i64 6)))⟩,
  ⟨(some 8), none, .pick (.t 5) (.t 7) (.c (.v (.bool false)))⟩,
  ⟨(some 9), none, .mv (.t 8)⟩,
  ⟨(some 10), (some (9, false)), .mv (.t 0)⟩,
  ⟨(some 11), (some (9, false)), .bin .geq (.t 10) (.c (.v (.int .i64 8)))⟩,
  ⟨(some 12), (some (9, false)), .mv (.t 11)⟩,
  ⟨(some 13), (some (12, true)), .mv (.t 0)⟩,
  ⟨(some 14), (some (12, true)), .bin .leq (.t 13) (.c (.v (.int .i64 11)))⟩,
  ⟨(some 15), (some (9, false)), .pick (.t 12) (.t 14) (.c (.v (.bool false)))⟩,
  ⟨(some 16), none, .pick (.t 9) (.c (.v (.bool true))) (.t 15)⟩,
  ⟨(some 2), none, .mv (.t 16)⟩]) (
  .ret)),
  [.t 2]⟩
def v_ref11_Whole : List Nat := []
set_option maxRecDepth 100000 in
theorem s_ref11_Whole (call : Eng.Call) (G : Nat → AV) (n : Nat) (x0 : AV) : denFE call G v_ref11_Whole n c_ref11_Whole [x0] =
 Xq (.bin .geq (.c x0) (.c (.v (.int .i64 1)))) (fun x1 =>
 Xgq x1 true (.mv (.c x0)) (fun x2 =>
 Xgq x1 true (.bin .leq (.c x2) (.c (.v (.int .i64 6)))) (fun x3 =>
 Xq (.pick (.c x1) (.c x3) (.c (.v (.bool false)))) (fun x4 =>
 Xgq x4 false (.mv (.c x0)) (fun x5 =>
 Xgq x4 false (.bin .geq (.c x5) (.c (.v (.int .i64 8)))) (fun x6 =>
 Xgq x4 false (.mv (.c x6)) (fun x7 =>
 Xgq x7 true (.mv (.c x0)) (fun x8 =>
 Xgq x7 true (.bin .leq (.c x8) (.c (.v (.int .i64 11)))) (fun x9 =>
 Xgq x4 false (.pick (.c x7) (.c x9) (.c (.v (.bool false)))) (fun x10 =>
 Xq (.pick (.c x4) (.c (.v (.bool true))) (.c x10)) (fun x11 =>
 Xr [] [some x11]) ()) ()) ()) ()) ()) ()) ()) ()) ()) ()) () := by kernel_rfl
def c_law14_small : CF := ⟨1, 15,
  .seq (.reg [] [
  ⟨(some 1), none, .box 7 [0, 0, 0, 0, 0, 0, 0] (.t 0)⟩,
  ⟨(some 2), none, .mv (.c (.v (.bool false)))⟩]) (
  .seq (.reg [] [
  ⟨(some 3), none, .fad (.t 1) 0⟩,
  ⟨(some 4), none, .ld false 1 (.t 3)⟩,
  ⟨(some 5), none, .len true (.t 4)⟩,
  ⟨(some 6), none, .fad (.t 1) 3⟩,
  ⟨(some 7), none, .ld false 1 (.t 6)⟩,
  ⟨(some 8), none, .len true (.t 7)⟩,
  ⟨(some 9), none, .bin .add (.t 5) (.t 8)⟩,
  ⟨(some 10), none, .fad (.t 1) 6⟩,
  ⟨(some 11), none, .ld false 1 (.t 10)⟩,
  ⟨(some 12), none, .len true (.t 11)⟩,
  ⟨(some 13), none, .bin .add (.t 9) (.t 12)⟩,
  ⟨(some 14), none, .bin .lss (.t 13) (.c (.v (.int .i64 1000)))⟩,
  ⟨(some 2), none, .mv (.t 14)⟩]) (
  .ret)),
  [.t 2]⟩
def v_law14_small : List Nat := []
set_option maxRecDepth 100000 in
theorem s_law14_small (call : Eng.Call) (G : Nat → AV) (n : Nat) (x0 : AV) : denFE call G v_law14_small n c_law14_small [x0] =
 Xx call [] 1 (.box 7 [0, 0, 0, 0, 0, 0, 0] (.c x0)) (fun x1 ox1 =>
 Xq (.fad (.c x1) 0) (fun x2 =>
 Xx call ox1 4 (.ld false 1 (.c x2)) (fun x3 ox3 =>
 Xq (.len true (.c x3)) (fun x4 =>
 Xq (.fad (.c x1) 3) (fun x5 =>
 Xx call ox3 7 (.ld false 1 (.c x5)) (fun x6 ox6 =>
 Xq (.len true (.c x6)) (fun x7 =>
 Xq (.bin .add (.c x4) (.c x7)) (fun x8 =>
 Xq (.fad (.c x1) 6) (fun x9 =>
 Xx call ox6 11 (.ld false 1 (.c x9)) (fun x10 ox10 =>
 Xq (.len true (.c x10)) (fun x11 =>
 Xq (.bin .add (.c x8) (.c x11)) (fun x12 =>
 Xq (.bin .lss (.c x12) (.c (.v (.int .i64 1000)))) (fun x13 =>
 Xr ox10 [some x13]) ()) ()) ()) ()) ()) ()) ()) ()) ()) ()) ()) ()) () := by kernel_rfl
def c_law14_live : CF := ⟨0, 4,
  .seq (.reg [] [
  ⟨(some 0), none, .mv (.c (.v (.bool false)))⟩]) (
  .seq (.reg [] [
  ⟨(some 1), none, .build [(.v (.string ⟨#[]⟩)), (.v (.int .i64 0)), (.v (.int .i64 0)), (.v (.string ⟨#[]⟩)), (.v (.bool false)), (.v (.bool false)), (.v (.string ⟨#[]⟩))] [(0, 1, (.c (.v (.string ⟨#[97]⟩)))), (1, 1, (.c (.v (.int .i64 1)))), (2, 1, (.c (.v (.int .i64 1)))), (4, 1, (.c (.v (.bool true))))]⟩,
  ⟨(some 2), none, .call false i_field_Text [(.t 1)]⟩,
  ⟨(some 3), none, .bin .eql (.t 2) (.c (.v (.string ⟨#[114, 101, 112, 101, 97, 116, 101, 100, 32, 105, 110, 116, 51, 50, 32, 97, 32, 61, 32, 49, 59]⟩)))⟩,
  ⟨(some 0), none, .mv (.t 3)⟩]) (
  .ret)),
  [.t 0]⟩
def v_law14_live : List Nat := []
set_option maxRecDepth 100000 in
theorem s_law14_live (call : Eng.Call) (G : Nat → AV) (n : Nat) : denFE call G v_law14_live n c_law14_live [] =
 Xq (.build [(.v (.string ⟨#[]⟩)), (.v (.int .i64 0)), (.v (.int .i64 0)), (.v (.string ⟨#[]⟩)), (.v (.bool false)), (.v (.bool false)), (.v (.string ⟨#[]⟩))] [(0, 1, (.c (.v (.string ⟨#[97]⟩)))), (1, 1, (.c (.v (.int .i64 1)))), (2, 1, (.c (.v (.int .i64 1)))), (4, 1, (.c (.v (.bool true))))]) (fun x0 =>
 Xx call [] 2 (.call false i_field_Text [(.c x0)]) (fun x1 ox1 =>
 Xq (.bin .eql (.c x1) (.c (.v (.string ⟨#[114, 101, 112, 101, 97, 116, 101, 100, 32, 105, 110, 116, 51, 50, 32, 97, 32, 61, 32, 49, 59]⟩)))) (fun x2 =>
 Xr ox1 [some x2]) ()) ()) () := by kernel_rfl
def c_law14_num : CF := ⟨1, 4,
  .seq (.reg [] [
  ⟨(some 2), none, .mv (.c (.v (.int .i64 0)))⟩]) (
  .seq (.reg [] [
  ⟨(some 3), none, .mv (.t 0)⟩,
  ⟨(some 2), none, .mv (.t 3)⟩]) (
  .ret)),
  [.t 2]⟩
def v_law14_num : List Nat := []
set_option maxRecDepth 100000 in
theorem s_law14_num (call : Eng.Call) (G : Nat → AV) (n : Nat) (x0 : AV) : denFE call G v_law14_num n c_law14_num [x0] =
 Xr [] [some x0] := by kernel_rfl
def c_field_Check : CF := ⟨1, 42,
  .seq (.reg [] [
  ⟨(some 1), none, .box 7 [0, 0, 0, 0, 0, 0, 0] (.t 0)⟩,
  ⟨(some 2), none, .mv (.c (.v (.int .i64 0)))⟩]) (
  .seq (.reg [] [
  ⟨(some 3), none, .mv (.c (.v (.int .i64 0)))⟩]) (
  .seq (.block 0 (
  .seq (.block 5 (
  .block 4 (
  .block 3 (
  .block 2 (
  .seq (.block 1 (
  .seq (.seq (.seq (.reg [] [
  ⟨(some 5), none, .ld true 7 (.t 1)⟩,
  ⟨(some 6), none, .call false i_field_named [(.t 5)]⟩,
  ⟨(some 7), none, .not (.t 6)⟩,
  ⟨(some 4), none, .mv (.t 7)⟩]) (
  .cond (.t 4) (
  .exit 1) (
  .skip))) (
  .seq (.seq (.seq (.reg [] [
  ⟨(some 9), none, .fad (.t 1) 2⟩,
  ⟨(some 10), none, .ld false 1 (.t 9)⟩,
  ⟨(some 11), none, .bin .lss (.t 10) (.c (.v (.int .i64 1)))⟩,
  ⟨(some 8), none, .mv (.t 11)⟩]) (
  .cond (.t 8) (
  .skip) (
  .reg [] [
  ⟨(some 12), none, .fad (.t 1) 2⟩,
  ⟨(some 13), none, .ld false 1 (.t 12)⟩,
  ⟨(some 14), none, .bin .gtr (.t 13) (.c (.v (.int .i64 15)))⟩,
  ⟨(some 8), none, .mv (.t 14)⟩]))) (
  .cond (.t 8) (
  .exit 2) (
  .skip))) (
  .seq (.seq (.reg [] [
  ⟨(some 16), none, .fad (.t 1) 4⟩,
  ⟨(some 17), none, .ld false 1 (.t 16)⟩,
  ⟨(some 18), none, .mv (.t 17)⟩,
  ⟨(some 19), (some (18, true)), .fad (.t 1) 6⟩,
  ⟨(some 20), (some (18, true)), .ld false 1 (.t 19)⟩,
  ⟨(some 21), (some (18, true)), .bin .neq (.t 20) (.c (.v (.string ⟨#[]⟩)))⟩,
  ⟨(some 22), none, .pick (.t 18) (.t 21) (.c (.v (.bool false)))⟩,
  ⟨(some 15), none, .mv (.t 22)⟩]) (
  .cond (.t 15) (
  .exit 3) (
  .skip))) (
  .seq (.seq (.reg [] [
  ⟨(some 24), none, .fad (.t 1) 5⟩,
  ⟨(some 25), none, .ld false 1 (.t 24)⟩,
  ⟨(some 26), none, .mv (.t 25)⟩,
  ⟨(some 27), (some (26, true)), .fad (.t 1) 4⟩,
  ⟨(some 28), (some (26, true)), .ld false 1 (.t 27)⟩,
  ⟨(some 29), (some (26, true)), .mv (.t 28)⟩,
  ⟨(some 30), (some (29, true)), .fad (.t 1) 2⟩,
  ⟨(some 31), (some (29, true)), .ld false 1 (.t 30)⟩,
  ⟨(some 32), (some (29, true)), .call false i_scalar_Number [(.t 31)]⟩,
  ⟨(some 33), (some (26, true)), .pick (.t 29) (.t 32) (.c (.v (.bool false)))⟩,
  ⟨(some 34), (some (26, true)), .not (.t 33)⟩,
  ⟨(some 35), none, .pick (.t 26) (.t 34) (.c (.v (.bool false)))⟩,
  ⟨(some 23), none, .mv (.t 35)⟩]) (
  .cond (.t 23) (
  .exit 4) (
  .skip))) (
  .seq (.reg [] [
  ⟨(some 37), none, .fad (.t 1) 1⟩,
  ⟨(some 38), none, .ld false 1 (.t 37)⟩,
  ⟨(some 39), none, .call false i_tag_Field [(.t 38)]⟩,
  ⟨(some 40), none, .not (.t 39)⟩,
  ⟨(some 36), none, .mv (.t 40)⟩]) (
  .cond (.t 36) (
  .exit 5) (
  .skip))))))) (
  .exit 0))) (
  .seq (.reg [] [
  ⟨(some 3), none, .mv (.c (.v (.int .i64 2)))⟩]) (
  .exit 0))))))) (
  .seq (.reg [] [
  ⟨(some 3), none, .mv (.c (.v (.int .i64 1)))⟩]) (
  .exit 0)))) (
  .seq (.reg [] [
  ⟨(some 41), none, .mv (.t 3)⟩,
  ⟨(some 2), none, .mv (.t 41)⟩]) (
  .ret)))),
  [.t 2]⟩
def v_field_Check : List Nat := []
def J_field_Check_0 (call : Eng.Call) (G : Nat → AV) (n : Nat) (oJ : Objs) (z1z z3z z8z : AV) : Out :=
 Xc z8z (fun _ =>
 Xr oJ [some (.v (.int .i64 1))]) (fun _ =>
 Xq (.fad (.c z1z) 4) (fun x5 =>
 Xx call oJ 17 (.ld false 1 (.c x5)) (fun x6 ox6 =>
 Xgq x6 true (.fad (.c z1z) 6) (fun x7 =>
 Xxg call x6 true ox6 20 (.ld false 1 (.c x7)) (fun x8 ox8 =>
 Xgq x6 true (.bin .neq (.c x8) (.c (.v (.string ⟨#[]⟩)))) (fun x9 =>
 Xq (.pick (.c x6) (.c x9) (.c (.v (.bool false)))) (fun x10 =>
 Xc x10 (fun _ =>
 Xr ox8 [some (.v (.int .i64 1))]) (fun _ =>
 Xq (.fad (.c z1z) 5) (fun x11 =>
 Xx call ox8 25 (.ld false 1 (.c x11)) (fun x12 ox12 =>
 Xgq x12 true (.fad (.c z1z) 4) (fun x13 =>
 Xxg call x12 true ox12 28 (.ld false 1 (.c x13)) (fun x14 ox14 =>
 Xgq x12 true (.mv (.c x14)) (fun x15 =>
 Xgq x15 true (.fad (.c z1z) 2) (fun x16 =>
 Xxg call x15 true ox14 31 (.ld false 1 (.c x16)) (fun x17 ox17 =>
 Xxg call x15 true ox17 32 (.call false i_scalar_Number [(.c x17)]) (fun x18 ox18 =>
 Xgq x12 true (.pick (.c x15) (.c x18) (.c (.v (.bool false)))) (fun x19 =>
 Xgq x12 true (.not (.c x19)) (fun x20 =>
 Xq (.pick (.c x12) (.c x20) (.c (.v (.bool false)))) (fun x21 =>
 Xc x21 (fun _ =>
 Xr ox18 [some (.v (.int .i64 1))]) (fun _ =>
 Xq (.fad (.c z1z) 1) (fun x22 =>
 Xx call ox18 38 (.ld false 1 (.c x22)) (fun x23 ox23 =>
 Xx call ox23 39 (.call false i_tag_Field [(.c x23)]) (fun x24 ox24 =>
 Xq (.not (.c x24)) (fun x25 =>
 Xc x25 (fun _ =>
 Xr ox24 [some (.v (.int .i64 1))]) (fun _ =>
 Xr ox24 [some z3z]) () ()) ()) ()) ()) ()) () ()) ()) ()) ()) ()) ()) ()) ()) ()) ()) ()) ()) () ()) ()) ()) ()) ()) ()) ()) () ()
set_option maxRecDepth 100000 in
theorem s_field_Check (call : Eng.Call) (G : Nat → AV) (n : Nat) (x0 : AV) : denFE call G v_field_Check n c_field_Check [x0] =
 Xx call [] 1 (.box 7 [0, 0, 0, 0, 0, 0, 0] (.c x0)) (fun x1 ox1 =>
 Xx call ox1 5 (.ld true 7 (.c x1)) (fun x2 ox2 =>
 Xx call ox2 6 (.call false i_field_named [(.c x2)]) (fun x3 ox3 =>
 Xq (.not (.c x3)) (fun x4 =>
 Xc x4 (fun _ =>
 Xr ox3 [some (.v (.int .i64 2))]) (fun _ =>
 Xq (.fad (.c x1) 2) (fun x26 =>
 Xx call ox3 10 (.ld false 1 (.c x26)) (fun x27 ox27 =>
 Xq (.bin .lss (.c x27) (.c (.v (.int .i64 1)))) (fun x28 =>
 Xc x28 (fun _ =>
 J_field_Check_0 call G n ox27 x1 (.v (.int .i64 0)) x28) (fun _ =>
 Xq (.fad (.c x1) 2) (fun x29 =>
 Xx call ox27 13 (.ld false 1 (.c x29)) (fun x30 ox30 =>
 Xq (.bin .gtr (.c x30) (.c (.v (.int .i64 15)))) (fun x31 =>
 J_field_Check_0 call G n ox30 x1 (.v (.int .i64 0)) x31) ()) ()) ()) () ()) ()) ()) ()) () ()) ()) ()) ()) () := by kernel_rfl
def c_ref14_Check : CF := ⟨1, 69,
  .seq (.reg [] [
  ⟨(some 1), none, .box 7 [0, 0, 0, 0, 0, 0, 0] (.t 0)⟩,
  ⟨(some 2), none, .mv (.c (.v (.int .i64 0)))⟩]) (
  .seq (.seq (.reg [] [
  ⟨(some 3), none, .fad (.t 1) 0⟩,
  ⟨(some 4), none, .ld false 1 (.t 3)⟩,
  ⟨(some 5), none, .call false i_ref09_Right [(.t 4)]⟩,
  ⟨(some 6), none, .not (.t 5)⟩,
  ⟨(some 7), none, .mv (.t 6)⟩,
  ⟨(some 8), (some (7, false)), .fad (.t 1) 6⟩,
  ⟨(some 9), (some (7, false)), .ld false 1 (.t 8)⟩,
  ⟨(some 10), (some (7, false)), .bin .neq (.t 9) (.c (.v (.string ⟨#[]⟩)))⟩,
  ⟨(some 11), (some (7, false)), .mv (.t 10)⟩,
  ⟨(some 12), (some (11, true)), .fad (.t 1) 6⟩,
  ⟨(some 13), (some (11, true)), .ld false 1 (.t 12)⟩,
  ⟨(some 14), (some (11, true)), .call false i_ref09_Right [(.t 13)]⟩,
  ⟨(some 15), (some (11, true)), .not (.t 14)⟩,
  ⟨(some 16), (some (7, false)), .pick (.t 11) (.t 15) (.c (.v (.bool false)))⟩,
  ⟨(some 17), none, .pick (.t 7) (.c (.v (.bool true))) (.t 16)⟩]) (
  .cond (.t 17) (
  .seq (.reg [] [
  ⟨(some 2), none, .mv (.c (.v (.int .i64 2)))⟩]) (
  .ret)) (
  .skip))) (
  .seq (.seq (.reg [] [
  ⟨(some 18), none, .fad (.t 1) 2⟩,
  ⟨(some 19), none, .ld false 1 (.t 18)⟩,
  ⟨(some 20), none, .bin .eql (.t 19) (.c (.v (.int .i64 14)))⟩,
  ⟨(some 21), none, .mv (.t 20)⟩,
  ⟨(some 22), (some (21, false)), .fad (.t 1) 2⟩,
  ⟨(some 23), (some (21, false)), .ld false 1 (.t 22)⟩,
  ⟨(some 24), (some (21, false)), .bin .eql (.t 23) (.c (.v (.int .i64 15)))⟩,
  ⟨(some 25), none, .pick (.t 21) (.c (.v (.bool true))) (.t 24)⟩]) (
  .cond (.t 25) (
  .seq (.reg [] [
  ⟨(some 26), none, .fad (.t 1) 3⟩,
  ⟨(some 27), none, .ld false 1 (.t 26)⟩,
  ⟨(some 28), none, .call false i_ref09_Right [(.t 27)]⟩,
  ⟨(some 29), none, .not (.t 28)⟩]) (
  .cond (.t 29) (
  .seq (.reg [] [
  ⟨(some 2), none, .mv (.c (.v (.int .i64 2)))⟩]) (
  .ret)) (
  .skip))) (
  .seq (.reg [] [
  ⟨(some 30), none, .fad (.t 1) 3⟩,
  ⟨(some 31), none, .ld false 1 (.t 30)⟩,
  ⟨(some 32), none, .bin .neq (.t 31) (.c (.v (.string ⟨#[]⟩)))⟩]) (
  .cond (.t 32) (
  .seq (.reg [] [
  ⟨(some 2), none, .mv (.c (.v (.int .i64 2)))⟩]) (
  .ret)) (
  .skip))))) (
  .seq (.seq (.reg [] [
  ⟨(some 33), none, .fad (.t 1) 1⟩,
  ⟨(some 34), none, .ld false 1 (.t 33)⟩,
  ⟨(some 35), none, .call false i_ref04_Field [(.t 34)]⟩,
  ⟨(some 36), none, .not (.t 35)⟩,
  ⟨(some 37), none, .mv (.t 36)⟩,
  ⟨(some 38), (some (37, false)), .fad (.t 1) 2⟩,
  ⟨(some 39), (some (37, false)), .ld false 1 (.t 38)⟩,
  ⟨(some 40), (some (37, false)), .bin .lss (.t 39) (.c (.v (.int .i64 1)))⟩,
  ⟨(some 41), none, .pick (.t 37) (.c (.v (.bool true))) (.t 40)⟩,
  ⟨(some 42), none, .mv (.t 41)⟩,
  ⟨(some 43), (some (42, false)), .fad (.t 1) 2⟩,
  ⟨(some 44), (some (42, false)), .ld false 1 (.t 43)⟩,
  ⟨(some 45), (some (42, false)), .bin .gtr (.t 44) (.c (.v (.int .i64 15)))⟩,
  ⟨(some 46), none, .pick (.t 42) (.c (.v (.bool true))) (.t 45)⟩,
  ⟨(some 47), none, .mv (.t 46)⟩,
  ⟨(some 48), (some (47, false)), .fad (.t 1) 4⟩,
  ⟨(some 49), (some (47, false)), .ld false 1 (.t 48)⟩,
  ⟨(some 50), (some (47, false)), .mv (.t 49)⟩,
  ⟨(some 51), (some (50, true)), .fad (.t 1) 6⟩,
  ⟨(some 52), (some (50, true)), .ld false 1 (.t 51)⟩,
  ⟨(some 53), (some (50, true)), .bin .neq (.t 52) (.c (.v (.string ⟨#[]⟩)))⟩,
  ⟨(some 54), (some (47, false)), .pick (.t 50) (.t 53) (.c (.v (.bool false)))⟩,
  ⟨(some 55), none, .pick (.t 47) (.c (.v (.bool true))) (.t 54)⟩]) (
  .cond (.t 55) (
  .seq (.reg [] [
  ⟨(some 2), none, .mv (.c (.v (.int .i64 1)))⟩]) (
  .ret)) (
  .skip))) (
  .seq (.seq (.reg [] [
  ⟨(some 56), none, .fad (.t 1) 5⟩,
  ⟨(some 57), none, .ld false 1 (.t 56)⟩,
  ⟨(some 58), none, .mv (.t 57)⟩,
  ⟨(some 59), (some (58, true)), .fad (.t 1) 4⟩,
  ⟨(some 60), (some (58, true)), .ld false 1 (.t 59)⟩,
  ⟨(some 61), (some (58, true)), .not (.t 60)⟩,
  ⟨(some 62), (some (58, true)), .mv (.t 61)⟩,
  ⟨(some 63), (some (62, false)), .fad (.t 1) 2⟩,
  ⟨(some 64), (some (62, false)), .ld false 1 (.t 63)⟩,
  ⟨(some 65), (some (62, false)), .call false i_ref11_Number [(.t 64)]⟩,
  ⟨(some 66), (some (62, false)), .not (.t 65)⟩,
  ⟨(some 67), (some (58, true)), .pick (.t 62) (.c (.v (.bool true))) (.t 66)⟩,
  ⟨(some 68), none, .pick (.t 58) (.t 67) (.c (.v (.bool false)))⟩]) (
  .cond (.t 68) (
  .seq (.reg [] [
  ⟨(some 2), none, .mv (.c (.v (.int .i64 1)))⟩]) (
  .ret)) (
  .skip))) (
  .seq (.reg [] [
  ⟨(some 2), none, .mv (.c (.v (.int .i64 0)))⟩]) (
  .ret)))))),
  [.t 2]⟩
def v_ref14_Check : List Nat := []
def J_ref14_Check_0 (call : Eng.Call) (G : Nat → AV) (n : Nat) (oJ : Objs) (z1z : AV) : Out :=
 Xq (.fad (.c z1z) 1) (fun x16 =>
 Xx call oJ 34 (.ld false 1 (.c x16)) (fun x17 ox17 =>
 Xx call ox17 35 (.call false i_ref04_Field [(.c x17)]) (fun x18 ox18 =>
 Xq (.not (.c x18)) (fun x19 =>
 Xgq x19 false (.fad (.c z1z) 2) (fun x20 =>
 Xxg call x19 false ox18 39 (.ld false 1 (.c x20)) (fun x21 ox21 =>
 Xgq x19 false (.bin .lss (.c x21) (.c (.v (.int .i64 1)))) (fun x22 =>
 Xq (.pick (.c x19) (.c (.v (.bool true))) (.c x22)) (fun x23 =>
 Xgq x23 false (.fad (.c z1z) 2) (fun x24 =>
 Xxg call x23 false ox21 44 (.ld false 1 (.c x24)) (fun x25 ox25 =>
 Xgq x23 false (.bin .gtr (.c x25) (.c (.v (.int .i64 15)))) (fun x26 =>
 Xq (.pick (.c x23) (.c (.v (.bool true))) (.c x26)) (fun x27 =>
 Xgq x27 false (.fad (.c z1z) 4) (fun x28 =>
 Xxg call x27 false ox25 49 (.ld false 1 (.c x28)) (fun x29 ox29 =>
 Xgq x27 false (.mv (.c x29)) (fun x30 =>
 Xgq x30 true (.fad (.c z1z) 6) (fun x31 =>
 Xxg call x30 true ox29 52 (.ld false 1 (.c x31)) (fun x32 ox32 =>
 Xgq x30 true (.bin .neq (.c x32) (.c (.v (.string ⟨#[]⟩)))) (fun x33 =>
 Xgq x27 false (.pick (.c x30) (.c x33) (.c (.v (.bool false)))) (fun x34 =>
 Xq (.pick (.c x27) (.c (.v (.bool true))) (.c x34)) (fun x35 =>
 Xc x35 (fun _ =>
 Xr ox32 [some (.v (.int .i64 1))]) (fun _ =>
 Xq (.fad (.c z1z) 5) (fun x36 =>
 Xx call ox32 57 (.ld false 1 (.c x36)) (fun x37 ox37 =>
 Xgq x37 true (.fad (.c z1z) 4) (fun x38 =>
 Xxg call x37 true ox37 60 (.ld false 1 (.c x38)) (fun x39 ox39 =>
 Xgq x37 true (.not (.c x39)) (fun x40 =>
 Xgq x37 true (.mv (.c x40)) (fun x41 =>
 Xgq x41 false (.fad (.c z1z) 2) (fun x42 =>
 Xxg call x41 false ox39 64 (.ld false 1 (.c x42)) (fun x43 ox43 =>
 Xxg call x41 false ox43 65 (.call false i_ref11_Number [(.c x43)]) (fun x44 ox44 =>
 Xgq x41 false (.not (.c x44)) (fun x45 =>
 Xgq x37 true (.pick (.c x41) (.c (.v (.bool true))) (.c x45)) (fun x46 =>
 Xq (.pick (.c x37) (.c x46) (.c (.v (.bool false)))) (fun x47 =>
 Xc x47 (fun _ =>
 Xr ox44 [some (.v (.int .i64 1))]) (fun _ =>
 Xr ox44 [some (.v (.int .i64 0))]) () ()) ()) ()) ()) ()) ()) ()) ()) ()) ()) ()) ()) ()) () ()) ()) ()) ()) ()) ()) ()) ()) ()) ()) ()) ()) ()) ()) ()) ()) ()) ()) ()) ()) ()
set_option maxRecDepth 100000 in
theorem s_ref14_Check (call : Eng.Call) (G : Nat → AV) (n : Nat) (x0 : AV) : denFE call G v_ref14_Check n c_ref14_Check [x0] =
 Xx call [] 1 (.box 7 [0, 0, 0, 0, 0, 0, 0] (.c x0)) (fun x1 ox1 =>
 Xq (.fad (.c x1) 0) (fun x2 =>
 Xx call ox1 4 (.ld false 1 (.c x2)) (fun x3 ox3 =>
 Xx call ox3 5 (.call false i_ref09_Right [(.c x3)]) (fun x4 ox4 =>
 Xq (.not (.c x4)) (fun x5 =>
 Xgq x5 false (.fad (.c x1) 6) (fun x6 =>
 Xxg call x5 false ox4 9 (.ld false 1 (.c x6)) (fun x7 ox7 =>
 Xgq x5 false (.bin .neq (.c x7) (.c (.v (.string ⟨#[]⟩)))) (fun x8 =>
 Xgq x5 false (.mv (.c x8)) (fun x9 =>
 Xgq x9 true (.fad (.c x1) 6) (fun x10 =>
 Xxg call x9 true ox7 13 (.ld false 1 (.c x10)) (fun x11 ox11 =>
 Xxg call x9 true ox11 14 (.call false i_ref09_Right [(.c x11)]) (fun x12 ox12 =>
 Xgq x9 true (.not (.c x12)) (fun x13 =>
 Xgq x5 false (.pick (.c x9) (.c x13) (.c (.v (.bool false)))) (fun x14 =>
 Xq (.pick (.c x5) (.c (.v (.bool true))) (.c x14)) (fun x15 =>
 Xc x15 (fun _ =>
 Xr ox12 [some (.v (.int .i64 2))]) (fun _ =>
 Xq (.fad (.c x1) 2) (fun x48 =>
 Xx call ox12 19 (.ld false 1 (.c x48)) (fun x49 ox49 =>
 Xq (.bin .eql (.c x49) (.c (.v (.int .i64 14)))) (fun x50 =>
 Xgq x50 false (.fad (.c x1) 2) (fun x51 =>
 Xxg call x50 false ox49 23 (.ld false 1 (.c x51)) (fun x52 ox52 =>
 Xgq x50 false (.bin .eql (.c x52) (.c (.v (.int .i64 15)))) (fun x53 =>
 Xq (.pick (.c x50) (.c (.v (.bool true))) (.c x53)) (fun x54 =>
 Xc x54 (fun _ =>
 Xq (.fad (.c x1) 3) (fun x55 =>
 Xx call ox52 27 (.ld false 1 (.c x55)) (fun x56 ox56 =>
 Xx call ox56 28 (.call false i_ref09_Right [(.c x56)]) (fun x57 ox57 =>
 Xq (.not (.c x57)) (fun x58 =>
 Xc x58 (fun _ =>
 Xr ox57 [some (.v (.int .i64 2))]) (fun _ =>
 J_ref14_Check_0 call G n ox57 x1) () ()) ()) ()) ()) ()) (fun _ =>
 Xq (.fad (.c x1) 3) (fun x59 =>
 Xx call ox52 31 (.ld false 1 (.c x59)) (fun x60 ox60 =>
 Xq (.bin .neq (.c x60) (.c (.v (.string ⟨#[]⟩)))) (fun x61 =>
 Xc x61 (fun _ =>
 Xr ox60 [some (.v (.int .i64 2))]) (fun _ =>
 J_ref14_Check_0 call G n ox60 x1) () ()) ()) ()) ()) () ()) ()) ()) ()) ()) ()) ()) ()) () ()) ()) ()) ()) ()) ()) ()) ()) ()) ()) ()) ()) ()) ()) ()) () := by kernel_rfl
def c_field_Text : CF := ⟨1, 29,
  .seq (.reg [] [
  ⟨(some 1), none, .box 7 [0, 0, 0, 0, 0, 0, 0] (.t 0)⟩,
  ⟨(some 2), none, .mv (.c (.v (.string ⟨#[]⟩)))⟩]) (
  .seq (.seq (.reg [] [
  ⟨(some 4), none, .ld true 7 (.t 1)⟩,
  ⟨(some 5), none, .call false i_field_Check [(.t 4)]⟩,
  ⟨(some 6), none, .bin .neq (.t 5) (.c (.v (.int .i64 0)))⟩]) (
  .cond (.t 6) (
  .seq (.reg [] [
  ⟨(some 2), none, .mv (.c (.v (.string ⟨#[]⟩)))⟩]) (
  .ret)) (
  .skip))) (
  .seq (.reg [] [
  ⟨(some 7), none, .fad (.t 1) 3⟩,
  ⟨(some 8), none, .ld false 1 (.t 7)⟩,
  ⟨(some 3), none, .mv (.t 8)⟩]) (
  .seq (.seq (.reg [] [
  ⟨(some 9), none, .mv (.t 3)⟩,
  ⟨(some 10), none, .bin .eql (.t 9) (.c (.v (.string ⟨#[]⟩)))⟩]) (
  .cond (.t 10) (
  .reg [] [
  ⟨(some 11), none, .fad (.t 1) 2⟩,
  ⟨(some 12), none, .ld false 1 (.t 11)⟩,
  ⟨(some 13), none, .call false i_scalar_Word [(.t 12)]⟩,
  ⟨(some 3), none, .mv (.t 13)⟩]) (
  .skip))) (
  .seq (.reg [
  ⟨(some 14), none, .ld true 7 (.t 1)⟩,
  ⟨(some 15), none, .call false i_field_ahead [(.t 14)]⟩,
  ⟨(some 16), none, .mv (.t 3)⟩,
  ⟨(some 17), none, .bin .add (.t 15) (.t 16)⟩,
  ⟨(some 18), none, .bin .add (.t 17) (.c (.v (.string ⟨#[32]⟩)))⟩,
  ⟨(some 19), none, .fad (.t 1) 0⟩,
  ⟨(some 20), none, .ld false 1 (.t 19)⟩,
  ⟨(some 21), none, .bin .add (.t 18) (.t 20)⟩,
  ⟨(some 22), none, .bin .add (.t 21) (.c (.v (.string ⟨#[32, 61, 32]⟩)))⟩,
  ⟨(some 23), none, .fad (.t 1) 1⟩,
  ⟨(some 24), none, .ld false 1 (.t 23)⟩,
  ⟨(some 25), none, .cvi .u64 (.t 24)⟩,
  ⟨(some 26), none, .call false i_lex_Digits [(.t 25), (.c (.v (.bool false)))]⟩] [
  ⟨(some 27), none, .bin .add (.t 22) (.t 26)⟩,
  ⟨(some 28), none, .bin .add (.t 27) (.c (.v (.string ⟨#[59]⟩)))⟩,
  ⟨(some 2), none, .mv (.t 28)⟩]) (
  .ret))))),
  [.t 2]⟩
def v_field_Text : List Nat := []
def J_field_Text_0 (call : Eng.Call) (G : Nat → AV) (n : Nat) (oJ : Objs) (z1z z3z : AV) : Out :=
 Xp call oJ 14 (.ld true 7 (.c z1z)) (fun x7 nx7 sx7 =>
 Xp call oJ 15 (.call false i_field_ahead [(.c x7)]) (fun x8 nx8 sx8 =>
 Xq (.bin .add (.c x8) (.c z3z)) (fun x9 =>
 Xq (.bin .add (.c x9) (.c (.v (.string ⟨#[32]⟩)))) (fun x10 =>
 Xq (.fad (.c z1z) 0) (fun x11 =>
 Xp call oJ 20 (.ld false 1 (.c x11)) (fun x12 nx12 sx12 =>
 Xq (.bin .add (.c x10) (.c x12)) (fun x13 =>
 Xq (.bin .add (.c x13) (.c (.v (.string ⟨#[32, 61, 32]⟩)))) (fun x14 =>
 Xq (.fad (.c z1z) 1) (fun x15 =>
 Xp call oJ 24 (.ld false 1 (.c x15)) (fun x16 nx16 sx16 =>
 Xq (.cvi .u64 (.c x16)) (fun x17 =>
 Xp call oJ 26 (.call false i_lex_Digits [(.c x17), (.c (.v (.bool false)))]) (fun x18 nx18 sx18 =>
 Xq (.bin .add (.c x14) (.c x18)) (fun x19 =>
 Xq (.bin .add (.c x19) (.c (.v (.string ⟨#[59]⟩)))) (fun x20 =>
 Xr (finO oJ (nx7 ++ nx8 ++ nx12 ++ nx16 ++ nx18) (sx7 ++ sx8 ++ sx12 ++ sx16 ++ sx18)) [some x20]) ()) ()) ()) ()) ()) ()) ()) ()) ()) ()) ()) ()) ()) ()
set_option maxRecDepth 100000 in
theorem s_field_Text (call : Eng.Call) (G : Nat → AV) (n : Nat) (x0 : AV) : denFE call G v_field_Text n c_field_Text [x0] =
 Xx call [] 1 (.box 7 [0, 0, 0, 0, 0, 0, 0] (.c x0)) (fun x1 ox1 =>
 Xx call ox1 4 (.ld true 7 (.c x1)) (fun x2 ox2 =>
 Xx call ox2 5 (.call false i_field_Check [(.c x2)]) (fun x3 ox3 =>
 Xq (.bin .neq (.c x3) (.c (.v (.int .i64 0)))) (fun x4 =>
 Xc x4 (fun _ =>
 Xr ox3 [some (.v (.string ⟨#[]⟩))]) (fun _ =>
 Xq (.fad (.c x1) 3) (fun x5 =>
 Xx call ox3 8 (.ld false 1 (.c x5)) (fun x6 ox6 =>
 Xq (.bin .eql (.c x6) (.c (.v (.string ⟨#[]⟩)))) (fun x21 =>
 Xc x21 (fun _ =>
 Xq (.fad (.c x1) 2) (fun x22 =>
 Xx call ox6 12 (.ld false 1 (.c x22)) (fun x23 ox23 =>
 Xx call ox23 13 (.call false i_scalar_Word [(.c x23)]) (fun x24 ox24 =>
 J_field_Text_0 call G n ox24 x1 x24) ()) ()) ()) (fun _ =>
 J_field_Text_0 call G n ox6 x1 x6) () ()) ()) ()) ()) () ()) ()) ()) ()) () := by kernel_rfl
def c_ref14_Text : CF := ⟨1, 33,
  .seq (.reg [] [
  ⟨(some 1), none, .box 7 [0, 0, 0, 0, 0, 0, 0] (.t 0)⟩,
  ⟨(some 2), none, .mv (.c (.v (.string ⟨#[]⟩)))⟩]) (
  .seq (.seq (.reg [] [
  ⟨(some 4), none, .ld true 7 (.t 1)⟩,
  ⟨(some 5), none, .call false i_ref14_Check [(.t 4)]⟩,
  ⟨(some 6), none, .bin .neq (.t 5) (.c (.v (.int .i64 0)))⟩]) (
  .cond (.t 6) (
  .seq (.reg [] [
  ⟨(some 2), none, .mv (.c (.v (.string ⟨#[]⟩)))⟩]) (
  .ret)) (
  .skip))) (
  .seq (.reg [
  ⟨(some 7), none, .fad (.t 1) 2⟩,
  ⟨(some 8), none, .ld false 1 (.t 7)⟩,
  ⟨(some 9), none, .call false i_ref11_Word [(.t 8)]⟩,
  ⟨(some 10), none, .fad (.t 1) 3⟩,
  ⟨(some 11), none, .ld false 1 (.t 10)⟩,
  ⟨(some 12), none, .bin .add (.t 9) (.t 11)⟩,
  ⟨(some 13), none, .bin .add (.t 12) (.c (.v (.string ⟨#[32]⟩)))⟩,
  ⟨(some 14), none, .fad (.t 1) 0⟩,
  ⟨(some 15), none, .ld false 1 (.t 14)⟩,
  ⟨(some 16), none, .bin .add (.t 13) (.t 15)⟩,
  ⟨(some 17), none, .bin .add (.t 16) (.c (.v (.string ⟨#[32, 61, 32]⟩)))⟩,
  ⟨(some 18), none, .fad (.t 1) 1⟩,
  ⟨(some 19), none, .ld false 1 (.t 18)⟩,
  ⟨(some 20), none, .cvi .u64 (.t 19)⟩,
  ⟨(some 21), none, .call false i_ref10_Digits [(.t 20), (.c (.v (.bool false)))]⟩] [
  ⟨(some 22), none, .bin .add (.t 17) (.t 21)⟩,
  ⟨(some 23), none, .bin .add (.t 22) (.c (.v (.string ⟨#[59]⟩)))⟩,
  ⟨(some 3), none, .mv (.t 23)⟩]) (
  .seq (.seq (.reg [] [
  ⟨(some 24), none, .fad (.t 1) 5⟩,
  ⟨(some 25), none, .ld false 1 (.t 24)⟩]) (
  .cond (.t 25) (
  .seq (.reg [] [
  ⟨(some 26), none, .mv (.t 3)⟩,
  ⟨(some 27), none, .bin .add (.c (.v (.string ⟨#[108, 111, 111, 115, 101, 32]⟩))) (.t 26)⟩,
  ⟨(some 2), none, .mv (.t 27)⟩]) (
  .ret)) (
  .skip))) (
  .seq (.seq (.reg [] [
  ⟨(some 28), none, .fad (.t 1) 4⟩,
  ⟨(some 29), none, .ld false 1 (.t 28)⟩]) (
  .cond (.t 29) (
  .seq (.reg [] [
  ⟨(some 30), none, .mv (.t 3)⟩,
  ⟨(some 31), none, .bin .add (.c (.v (.string ⟨#[114, 101, 112, 101, 97, 116, 101, 100, 32]⟩))) (.t 30)⟩,
  ⟨(some 2), none, .mv (.t 31)⟩]) (
  .ret)) (
  .skip))) (
  .seq (.reg [] [
  ⟨(some 32), none, .mv (.t 3)⟩,
  ⟨(some 2), none, .mv (.t 32)⟩]) (
  .ret)))))),
  [.t 2]⟩
def v_ref14_Text : List Nat := []
set_option maxRecDepth 100000 in
theorem s_ref14_Text (call : Eng.Call) (G : Nat → AV) (n : Nat) (x0 : AV) : denFE call G v_ref14_Text n c_ref14_Text [x0] =
 Xx call [] 1 (.box 7 [0, 0, 0, 0, 0, 0, 0] (.c x0)) (fun x1 ox1 =>
 Xx call ox1 4 (.ld true 7 (.c x1)) (fun x2 ox2 =>
 Xx call ox2 5 (.call false i_ref14_Check [(.c x2)]) (fun x3 ox3 =>
 Xq (.bin .neq (.c x3) (.c (.v (.int .i64 0)))) (fun x4 =>
 Xc x4 (fun _ =>
 Xr ox3 [some (.v (.string ⟨#[]⟩))]) (fun _ =>
 Xq (.fad (.c x1) 2) (fun x5 =>
 Xp call ox3 8 (.ld false 1 (.c x5)) (fun x6 nx6 sx6 =>
 Xp call ox3 9 (.call false i_ref11_Word [(.c x6)]) (fun x7 nx7 sx7 =>
 Xq (.fad (.c x1) 3) (fun x8 =>
 Xp call ox3 11 (.ld false 1 (.c x8)) (fun x9 nx9 sx9 =>
 Xq (.bin .add (.c x7) (.c x9)) (fun x10 =>
 Xq (.bin .add (.c x10) (.c (.v (.string ⟨#[32]⟩)))) (fun x11 =>
 Xq (.fad (.c x1) 0) (fun x12 =>
 Xp call ox3 15 (.ld false 1 (.c x12)) (fun x13 nx13 sx13 =>
 Xq (.bin .add (.c x11) (.c x13)) (fun x14 =>
 Xq (.bin .add (.c x14) (.c (.v (.string ⟨#[32, 61, 32]⟩)))) (fun x15 =>
 Xq (.fad (.c x1) 1) (fun x16 =>
 Xp call ox3 19 (.ld false 1 (.c x16)) (fun x17 nx17 sx17 =>
 Xq (.cvi .u64 (.c x17)) (fun x18 =>
 Xp call ox3 21 (.call false i_ref10_Digits [(.c x18), (.c (.v (.bool false)))]) (fun x19 nx19 sx19 =>
 Xq (.bin .add (.c x15) (.c x19)) (fun x20 =>
 Xq (.bin .add (.c x20) (.c (.v (.string ⟨#[59]⟩)))) (fun x21 =>
 Xq (.fad (.c x1) 5) (fun x22 =>
 Xx call (finO ox3 (nx6 ++ nx7 ++ nx9 ++ nx13 ++ nx17 ++ nx19) (sx6 ++ sx7 ++ sx9 ++ sx13 ++ sx17 ++ sx19)) 25 (.ld false 1 (.c x22)) (fun x23 ox23 =>
 Xc x23 (fun _ =>
 Xq (.bin .add (.c (.v (.string ⟨#[108, 111, 111, 115, 101, 32]⟩))) (.c x21)) (fun x24 =>
 Xr ox23 [some x24]) ()) (fun _ =>
 Xq (.fad (.c x1) 4) (fun x25 =>
 Xx call ox23 29 (.ld false 1 (.c x25)) (fun x26 ox26 =>
 Xc x26 (fun _ =>
 Xq (.bin .add (.c (.v (.string ⟨#[114, 101, 112, 101, 97, 116, 101, 100, 32]⟩))) (.c x21)) (fun x27 =>
 Xr ox26 [some x27]) ()) (fun _ =>
 Xr ox26 [some x21]) () ()) ()) ()) () ()) ()) ()) ()) ()) ()) ()) ()) ()) ()) ()) ()) ()) ()) ()) ()) ()) ()) ()) ()) () ()) ()) ()) ()) () := by kernel_rfl
def c_field_Packed : CF := ⟨1, 15,
  .seq (.reg [] [
  ⟨(some 1), none, .box 7 [0, 0, 0, 0, 0, 0, 0] (.t 0)⟩,
  ⟨(some 2), none, .mv (.c (.v (.bool false)))⟩]) (
  .seq (.reg [] [
  ⟨(some 3), none, .fad (.t 1) 4⟩,
  ⟨(some 4), none, .ld false 1 (.t 3)⟩,
  ⟨(some 5), none, .mv (.t 4)⟩,
  ⟨(some 6), (some (5, true)), .fad (.t 1) 5⟩,
  ⟨(some 7), (some (5, true)), .ld false 1 (.t 6)⟩,
  ⟨(some 8), (some (5, true)), .not (.t 7)⟩,
  ⟨(some 9), none, .pick (.t 5) (.t 8) (.c (.v (.bool false)))⟩,
  ⟨(some 10), none, .mv (.t 9)⟩,
  ⟨(some 11), (some (10, true)), .fad (.t 1) 2⟩,
  ⟨(some 12), (some (10, true)), .ld false 1 (.t 11)⟩,
  ⟨(some 13), (some (10, true)), .call false i_scalar_Number [(.t 12)]⟩,
  ⟨(some 14), none, .pick (.t 10) (.t 13) (.c (.v (.bool false)))⟩,
  ⟨(some 2), none, .mv (.t 14)⟩]) (
  .ret)),
  [.t 2]⟩
def v_field_Packed : List Nat := []
set_option maxRecDepth 100000 in
theorem s_field_Packed (call : Eng.Call) (G : Nat → AV) (n : Nat) (x0 : AV) : denFE call G v_field_Packed n c_field_Packed [x0] =
 Xx call [] 1 (.box 7 [0, 0, 0, 0, 0, 0, 0] (.c x0)) (fun x1 ox1 =>
 Xq (.fad (.c x1) 4) (fun x2 =>
 Xx call ox1 4 (.ld false 1 (.c x2)) (fun x3 ox3 =>
 Xgq x3 true (.fad (.c x1) 5) (fun x4 =>
 Xxg call x3 true ox3 7 (.ld false 1 (.c x4)) (fun x5 ox5 =>
 Xgq x3 true (.not (.c x5)) (fun x6 =>
 Xq (.pick (.c x3) (.c x6) (.c (.v (.bool false)))) (fun x7 =>
 Xgq x7 true (.fad (.c x1) 2) (fun x8 =>
 Xxg call x7 true ox5 12 (.ld false 1 (.c x8)) (fun x9 ox9 =>
 Xxg call x7 true ox9 13 (.call false i_scalar_Number [(.c x9)]) (fun x10 ox10 =>
 Xq (.pick (.c x7) (.c x10) (.c (.v (.bool false)))) (fun x11 =>
 Xr ox10 [some x11]) ()) ()) ()) ()) ()) ()) ()) ()) ()) ()) () := by kernel_rfl
def c_ref14_Packed : CF := ⟨1, 15,
  .seq (.reg [] [
  ⟨(some 1), none, .box 7 [0, 0, 0, 0, 0, 0, 0] (.t 0)⟩,
  ⟨(some 2), none, .mv (.c (.v (.bool false)))⟩]) (
  .seq (.reg [] [
  ⟨(some 3), none, .fad (.t 1) 4⟩,
  ⟨(some 4), none, .ld false 1 (.t 3)⟩,
  ⟨(some 5), none, .mv (.t 4)⟩,
  ⟨(some 6), (some (5, true)), .fad (.t 1) 2⟩,
  ⟨(some 7), (some (5, true)), .ld false 1 (.t 6)⟩,
  ⟨(some 8), (some (5, true)), .call false i_ref11_Number [(.t 7)]⟩,
  ⟨(some 9), none, .pick (.t 5) (.t 8) (.c (.v (.bool false)))⟩,
  ⟨(some 10), none, .mv (.t 9)⟩,
  ⟨(some 11), (some (10, true)), .fad (.t 1) 5⟩,
  ⟨(some 12), (some (10, true)), .ld false 1 (.t 11)⟩,
  ⟨(some 13), (some (10, true)), .not (.t 12)⟩,
  ⟨(some 14), none, .pick (.t 10) (.t 13) (.c (.v (.bool false)))⟩,
  ⟨(some 2), none, .mv (.t 14)⟩]) (
  .ret)),
  [.t 2]⟩
def v_ref14_Packed : List Nat := []
set_option maxRecDepth 100000 in
theorem s_ref14_Packed (call : Eng.Call) (G : Nat → AV) (n : Nat) (x0 : AV) : denFE call G v_ref14_Packed n c_ref14_Packed [x0] =
 Xx call [] 1 (.box 7 [0, 0, 0, 0, 0, 0, 0] (.c x0)) (fun x1 ox1 =>
 Xq (.fad (.c x1) 4) (fun x2 =>
 Xx call ox1 4 (.ld false 1 (.c x2)) (fun x3 ox3 =>
 Xgq x3 true (.fad (.c x1) 2) (fun x4 =>
 Xxg call x3 true ox3 7 (.ld false 1 (.c x4)) (fun x5 ox5 =>
 Xxg call x3 true ox5 8 (.call false i_ref11_Number [(.c x5)]) (fun x6 ox6 =>
 Xq (.pick (.c x3) (.c x6) (.c (.v (.bool false)))) (fun x7 =>
 Xgq x7 true (.fad (.c x1) 5) (fun x8 =>
 Xxg call x7 true ox6 12 (.ld false 1 (.c x8)) (fun x9 ox9 =>
 Xgq x7 true (.not (.c x9)) (fun x10 =>
 Xq (.pick (.c x7) (.c x10) (.c (.v (.bool false)))) (fun x11 =>
 Xr ox9 [some x11]) ()) ()) ()) ()) ()) ()) ()) ()) ()) ()) () := by kernel_rfl
def c_field_Hidden : CF := ⟨1, 16,
  .seq (.reg [] [
  ⟨(some 1), none, .box 7 [0, 0, 0, 0, 0, 0, 0] (.t 0)⟩,
  ⟨(some 2), none, .mv (.c (.v (.bool false)))⟩]) (
  .seq (.reg [] [
  ⟨(some 3), none, .fad (.t 1) 4⟩,
  ⟨(some 4), none, .ld false 1 (.t 3)⟩,
  ⟨(some 5), none, .not (.t 4)⟩,
  ⟨(some 6), none, .mv (.t 5)⟩,
  ⟨(some 7), (some (6, true)), .fad (.t 1) 6⟩,
  ⟨(some 8), (some (6, true)), .ld false 1 (.t 7)⟩,
  ⟨(some 9), (some (6, true)), .bin .eql (.t 8) (.c (.v (.string ⟨#[]⟩)))⟩,
  ⟨(some 10), none, .pick (.t 6) (.t 9) (.c (.v (.bool false)))⟩,
  ⟨(some 11), none, .mv (.t 10)⟩,
  ⟨(some 12), (some (11, true)), .fad (.t 1) 2⟩,
  ⟨(some 13), (some (11, true)), .ld false 1 (.t 12)⟩,
  ⟨(some 14), (some (11, true)), .bin .neq (.t 13) (.c (.v (.int .i64 15)))⟩,
  ⟨(some 15), none, .pick (.t 11) (.t 14) (.c (.v (.bool false)))⟩,
  ⟨(some 2), none, .mv (.t 15)⟩]) (
  .ret)),
  [.t 2]⟩
def v_field_Hidden : List Nat := []
set_option maxRecDepth 100000 in
theorem s_field_Hidden (call : Eng.Call) (G : Nat → AV) (n : Nat) (x0 : AV) : denFE call G v_field_Hidden n c_field_Hidden [x0] =
 Xx call [] 1 (.box 7 [0, 0, 0, 0, 0, 0, 0] (.c x0)) (fun x1 ox1 =>
 Xq (.fad (.c x1) 4) (fun x2 =>
 Xx call ox1 4 (.ld false 1 (.c x2)) (fun x3 ox3 =>
 Xq (.not (.c x3)) (fun x4 =>
 Xgq x4 true (.fad (.c x1) 6) (fun x5 =>
 Xxg call x4 true ox3 8 (.ld false 1 (.c x5)) (fun x6 ox6 =>
 Xgq x4 true (.bin .eql (.c x6) (.c (.v (.string ⟨#[]⟩)))) (fun x7 =>
 Xq (.pick (.c x4) (.c x7) (.c (.v (.bool false)))) (fun x8 =>
 Xgq x8 true (.fad (.c x1) 2) (fun x9 =>
 Xxg call x8 true ox6 13 (.ld false 1 (.c x9)) (fun x10 ox10 =>
 Xgq x8 true (.bin .neq (.c x10) (.c (.v (.int .i64 15)))) (fun x11 =>
 Xq (.pick (.c x8) (.c x11) (.c (.v (.bool false)))) (fun x12 =>
 Xr ox10 [some x12]) ()) ()) ()) ()) ()) ()) ()) ()) ()) ()) ()) () := by kernel_rfl
def c_ref14_Hidden : CF := ⟨1, 16,
  .seq (.reg [] [
  ⟨(some 1), none, .box 7 [0, 0, 0, 0, 0, 0, 0] (.t 0)⟩,
  ⟨(some 2), none, .mv (.c (.v (.bool false)))⟩]) (
  .seq (.reg [] [
  ⟨(some 3), none, .fad (.t 1) 4⟩,
  ⟨(some 4), none, .ld false 1 (.t 3)⟩,
  ⟨(some 5), none, .not (.t 4)⟩,
  ⟨(some 6), none, .mv (.t 5)⟩,
  ⟨(some 7), (some (6, true)), .fad (.t 1) 6⟩,
  ⟨(some 8), (some (6, true)), .ld false 1 (.t 7)⟩,
  ⟨(some 9), (some (6, true)), .bin .eql (.t 8) (.c (.v (.string ⟨#[]⟩)))⟩,
  ⟨(some 10), none, .pick (.t 6) (.t 9) (.c (.v (.bool false)))⟩,
  ⟨(some 11), none, .mv (.t 10)⟩,
  ⟨(some 12), (some (11, true)), .fad (.t 1) 2⟩,
  ⟨(some 13), (some (11, true)), .ld false 1 (.t 12)⟩,
  ⟨(some 14), (some (11, true)), .bin .neq (.t 13) (.c (.v (.int .i64 15)))⟩,
  ⟨(some 15), none, .pick (.t 11) (.t 14) (.c (.v (.bool false)))⟩,
  ⟨(some 2), none, .mv (.t 15)⟩]) (
  .ret)),
  [.t 2]⟩
def v_ref14_Hidden : List Nat := []
set_option maxRecDepth 100000 in
theorem s_ref14_Hidden (call : Eng.Call) (G : Nat → AV) (n : Nat) (x0 : AV) : denFE call G v_ref14_Hidden n c_ref14_Hidden [x0] =
 Xx call [] 1 (.box 7 [0, 0, 0, 0, 0, 0, 0] (.c x0)) (fun x1 ox1 =>
 Xq (.fad (.c x1) 4) (fun x2 =>
 Xx call ox1 4 (.ld false 1 (.c x2)) (fun x3 ox3 =>
 Xq (.not (.c x3)) (fun x4 =>
 Xgq x4 true (.fad (.c x1) 6) (fun x5 =>
 Xxg call x4 true ox3 8 (.ld false 1 (.c x5)) (fun x6 ox6 =>
 Xgq x4 true (.bin .eql (.c x6) (.c (.v (.string ⟨#[]⟩)))) (fun x7 =>
 Xq (.pick (.c x4) (.c x7) (.c (.v (.bool false)))) (fun x8 =>
 Xgq x8 true (.fad (.c x1) 2) (fun x9 =>
 Xxg call x8 true ox6 13 (.ld false 1 (.c x9)) (fun x10 ox10 =>
 Xgq x8 true (.bin .neq (.c x10) (.c (.v (.int .i64 15)))) (fun x11 =>
 Xq (.pick (.c x8) (.c x11) (.c (.v (.bool false)))) (fun x12 =>
 Xr ox10 [some x12]) ()) ()) ()) ()) ()) ()) ()) ()) ()) ()) ()) () := by kernel_rfl
def c_lex_Digits : CF := ⟨2, 16,
  .seq (.reg [] [
  ⟨(some 4), none, .mv (.c (.v (.string ⟨#[]⟩)))⟩]) (
  .seq (.reg [] [
  ⟨(some 6), none, .mv (.t 0)⟩,
  ⟨(some 7), none, .call false i_strconv_FormatUint [(.t 6), (.c (.v (.int .i64 10)))]⟩,
  ⟨(some 5), none, .mv (.t 7)⟩]) (
  .seq (.seq (.reg [] [
  ⟨(some 8), none, .mv (.t 1)⟩,
  ⟨(some 9), none, .mv (.t 8)⟩,
  ⟨(some 10), (some (9, true)), .mv (.t 0)⟩,
  ⟨(some 11), (some (9, true)), .bin .neq (.t 10) (.c (.v (.int .u64 0)))⟩,
  ⟨(some 12), none, .pick (.t 9) (.t 11) (.c (.v (.bool false)))⟩]) (
  .cond (.t 12) (
  .seq (.reg [] [
  ⟨(some 13), none, .mv (.t 5)⟩,
  ⟨(some 14), none, .bin .add (.c (.v (.string ⟨#[45]⟩))) (.t 13)⟩,
  ⟨(some 4), none, .mv (.t 14)⟩]) (
  .ret)) (
  .skip))) (
  .seq (.reg [] [
  ⟨(some 15), none, .mv (.t 5)⟩,
  ⟨(some 4), none, .mv (.t 15)⟩]) (
  .ret)))),
  [.t 4]⟩
def v_lex_Digits : List Nat := []
set_option maxRecDepth 100000 in
theorem s_lex_Digits (call : Eng.Call) (G : Nat → AV) (n : Nat) (x0 x1 : AV) : denFE call G v_lex_Digits n c_lex_Digits [x0, x1] =
 Xx call [] 7 (.call false i_strconv_FormatUint [(.c x0), (.c (.v (.int .i64 10)))]) (fun x2 ox2 =>
 Xgq x1 true (.mv (.c x0)) (fun x3 =>
 Xgq x1 true (.bin .neq (.c x3) (.c (.v (.int .u64 0)))) (fun x4 =>
 Xq (.pick (.c x1) (.c x4) (.c (.v (.bool false)))) (fun x5 =>
 Xc x5 (fun _ =>
 Xq (.bin .add (.c (.v (.string ⟨#[45]⟩))) (.c x2)) (fun x6 =>
 Xr ox2 [some x6]) ()) (fun _ =>
 Xr ox2 [some x2]) () ()) ()) ()) ()) () := by kernel_rfl
def k_ref10_Digits_0 : List Nat := [1, 6, 5]
def c_ref10_Digits_b0 : CC := .seq (.seq (.reg [] [
  ⟨(some 10), none, .mv (.t 6)⟩,
  ⟨(some 11), none, .bin .gtr (.t 10) (.c (.v (.int .u64 0)))⟩]) (
  .cond (.t 11) (
  .skip) (
  .exit 0))) (
  .seq (.block 1 (
  .reg [] [
  ⟨(some 14), none, .mv (.t 6)⟩,
  ⟨(some 15), none, .bin .rem (.t 14) (.c (.v (.int .u64 10)))⟩,
  ⟨(some 16), none, .bin .add (.c (.v (.int .u64 48))) (.t 15)⟩,
  ⟨(some 17), none, .cvi .u8 (.t 16)⟩,
  ⟨(some 18), none, .bsl 1 1 [(.v (.int .u8 0))] [(0, (.t 17))]⟩,
  ⟨(some 19), none, .b2s (.t 18)⟩,
  ⟨(some 20), none, .mv (.t 5)⟩,
  ⟨(some 21), none, .bin .add (.t 19) (.t 20)⟩,
  ⟨(some 5), none, .mv (.t 21)⟩])) (
  .reg [] [
  ⟨(some 12), none, .mv (.t 6)⟩,
  ⟨(some 13), none, .bin .quo (.t 12) (.c (.v (.int .u64 10)))⟩,
  ⟨(some 6), none, .mv (.t 13)⟩]))
def c_ref10_Digits_s0 : CC := .seq (.seq (.reg [] [
  ⟨(some 22), none, .mv (.t 1)⟩]) (
  .cond (.t 22) (
  .seq (.reg [] [
  ⟨(some 23), none, .mv (.t 5)⟩,
  ⟨(some 24), none, .bin .add (.c (.v (.string ⟨#[45]⟩))) (.t 23)⟩,
  ⟨(some 4), none, .mv (.t 24)⟩]) (
  .ret)) (
  .skip))) (
  .seq (.reg [] [
  ⟨(some 25), none, .mv (.t 5)⟩,
  ⟨(some 4), none, .mv (.t 25)⟩]) (
  .ret))
def c_ref10_Digits : CF := ⟨2, 26,
  .seq (.reg [] [
  ⟨(some 4), none, .mv (.c (.v (.string ⟨#[]⟩)))⟩]) (
  .seq (.reg [] [
  ⟨(some 5), none, .mv (.c (.v (.string ⟨#[]⟩)))⟩]) (
  .seq (.seq (.reg [] [
  ⟨(some 7), none, .mv (.t 0)⟩,
  ⟨(some 8), none, .bin .eql (.t 7) (.c (.v (.int .u64 0)))⟩]) (
  .cond (.t 8) (
  .seq (.reg [] [
  ⟨(some 4), none, .mv (.c (.v (.string ⟨#[48]⟩)))⟩]) (
  .ret)) (
  .skip))) (
  .seq (.seq (.reg [] [
  ⟨(some 9), none, .mv (.t 0)⟩,
  ⟨(some 6), none, .mv (.t 9)⟩]) (
  .block 0 (
  .loop k_ref10_Digits_0 c_ref10_Digits_b0))) c_ref10_Digits_s0))),
  [.t 4]⟩
def v_ref10_Digits : List Nat := []
def R_ref10_Digits_0 (call : Eng.Call) (G : Nat → AV) (n m0 : Nat) (o : Objs) (y1 y6 y5 : AV) : Out := roundsE k_ref10_Digits_0 (denE 26 call G v_ref10_Digits n c_ref10_Digits_b0) m0 [y1, y6, y5] o (eBlock 0 (eSeq (denE 26 call G v_ref10_Digits n c_ref10_Digits_s0) (eEnd [.t 4])))
set_option maxRecDepth 100000 in
theorem R_ref10_Digits_0_s (call : Eng.Call) (G : Nat → AV) (n m0 : Nat) (o : Objs) (y1 y6 y5 : AV) : R_ref10_Digits_0 call G n (m0 + 1) o y1 y6 y5 =
 Xq (.bin .gtr (.c y6) (.c (.v (.int .u64 0)))) (fun x3 =>
 Xc x3 (fun _ =>
 Xq (.bin .rem (.c y6) (.c (.v (.int .u64 10)))) (fun x4 =>
 Xq (.bin .add (.c (.v (.int .u64 48))) (.c x4)) (fun x5 =>
 Xq (.cvi .u8 (.c x5)) (fun x6 =>
 Xx call o 18 (.bsl 1 1 [(.v (.int .u8 0))] [(0, (.c x6))]) (fun x7 ox7 =>
 Xq (.b2s (.c x7)) (fun x8 =>
 Xq (.bin .add (.c x8) (.c y5)) (fun x9 =>
 Xq (.bin .quo (.c y6) (.c (.v (.int .u64 10)))) (fun x10 =>
 R_ref10_Digits_0 call G n m0 (maskO k_ref10_Digits_0 ox7) (msk k_ref10_Digits_0 y1) (msk k_ref10_Digits_0 x10) (msk k_ref10_Digits_0 x9)) ()) ()) ()) ()) ()) ()) ()) (fun _ =>
 Xc y1 (fun _ =>
 Xq (.bin .add (.c (.v (.string ⟨#[45]⟩))) (.c y5)) (fun x11 =>
 Xr o [some x11]) ()) (fun _ =>
 Xr o [some y5]) () ()) () ()) () := by kernel_rfl
set_option maxRecDepth 100000 in
theorem s_ref10_Digits (call : Eng.Call) (G : Nat → AV) (n : Nat) (x0 x1 : AV) : denFE call G v_ref10_Digits n c_ref10_Digits [x0, x1] =
 Xq (.bin .eql (.c x0) (.c (.v (.int .u64 0)))) (fun x2 =>
 Xc x2 (fun _ =>
 Xr [] [some (.v (.string ⟨#[48]⟩))]) (fun _ =>
 R_ref10_Digits_0 call G n n (maskO k_ref10_Digits_0 []) (msk k_ref10_Digits_0 x1) (msk k_ref10_Digits_0 x0) (msk k_ref10_Digits_0 (.v (.string ⟨#[]⟩)))) () ()) () := by kernel_rfl
def c_field_named : CF := ⟨1, 29,
  .seq (.reg [] [
  ⟨(some 1), none, .box 7 [0, 0, 0, 0, 0, 0, 0] (.t 0)⟩,
  ⟨(some 2), none, .mv (.c (.v (.bool false)))⟩]) (
  .seq (.reg [] [
  ⟨(some 4), none, .fad (.t 1) 3⟩,
  ⟨(some 5), none, .ld false 1 (.t 4)⟩,
  ⟨(some 6), none, .bin .eql (.t 5) (.c (.v (.string ⟨#[]⟩)))⟩,
  ⟨(some 3), none, .mv (.t 6)⟩]) (
  .seq (.seq (.reg [] [
  ⟨(some 7), none, .fad (.t 1) 2⟩,
  ⟨(some 8), none, .ld false 1 (.t 7)⟩,
  ⟨(some 9), none, .call false i_field_refers [(.t 8)]⟩]) (
  .cond (.t 9) (
  .reg [] [
  ⟨(some 10), none, .fad (.t 1) 3⟩,
  ⟨(some 11), none, .ld false 1 (.t 10)⟩,
  ⟨(some 12), none, .call false i_ident_Right [(.t 11)]⟩,
  ⟨(some 3), none, .mv (.t 12)⟩]) (
  .skip))) (
  .seq (.reg [] [
  ⟨(some 13), none, .mv (.t 3)⟩,
  ⟨(some 14), none, .mv (.t 13)⟩,
  ⟨(some 15), (some (14, true)), .fad (.t 1) 0⟩,
  ⟨(some 16), (some (14, true)), .ld false 1 (.t 15)⟩,
  ⟨(some 17), (some (14, true)), .call false i_ident_Right [(.t 16)]⟩,
  ⟨(some 18), none, .pick (.t 14) (.t 17) (.c (.v (.bool false)))⟩,
  ⟨(some 19), none, .mv (.t 18)⟩,
  ⟨(some 20), (some (19, true)), .fad (.t 1) 6⟩,
  ⟨(some 21), (some (19, true)), .ld false 1 (.t 20)⟩,
  ⟨(some 22), (some (19, true)), .bin .eql (.t 21) (.c (.v (.string ⟨#[]⟩)))⟩,
  ⟨(some 23), (some (19, true)), .mv (.t 22)⟩,
  ⟨(some 24), (some (23, false)), .fad (.t 1) 6⟩,
  ⟨(some 25), (some (23, false)), .ld false 1 (.t 24)⟩,
  ⟨(some 26), (some (23, false)), .call false i_ident_Right [(.t 25)]⟩,
  ⟨(some 27), (some (19, true)), .pick (.t 23) (.c (.v (.bool true))) (.t 26)⟩,
  ⟨(some 28), none, .pick (.t 19) (.t 27) (.c (.v (.bool false)))⟩,
  ⟨(some 2), none, .mv (.t 28)⟩]) (
  .ret)))),
  [.t 2]⟩
def v_field_named : List Nat := []
def J_field_named_0 (call : Eng.Call) (G : Nat → AV) (n : Nat) (oJ : Objs) (z1z z3z : AV) : Out :=
 Xgq z3z true (.fad (.c z1z) 0) (fun x5 =>
 Xxg call z3z true oJ 16 (.ld false 1 (.c x5)) (fun x6 ox6 =>
 Xxg call z3z true ox6 17 (.call false i_ident_Right [(.c x6)]) (fun x7 ox7 =>
 Xq (.pick (.c z3z) (.c x7) (.c (.v (.bool false)))) (fun x8 =>
 Xgq x8 true (.fad (.c z1z) 6) (fun x9 =>
 Xxg call x8 true ox7 21 (.ld false 1 (.c x9)) (fun x10 ox10 =>
 Xgq x8 true (.bin .eql (.c x10) (.c (.v (.string ⟨#[]⟩)))) (fun x11 =>
 Xgq x8 true (.mv (.c x11)) (fun x12 =>
 Xgq x12 false (.fad (.c z1z) 6) (fun x13 =>
 Xxg call x12 false ox10 25 (.ld false 1 (.c x13)) (fun x14 ox14 =>
 Xxg call x12 false ox14 26 (.call false i_ident_Right [(.c x14)]) (fun x15 ox15 =>
 Xgq x8 true (.pick (.c x12) (.c (.v (.bool true))) (.c x15)) (fun x16 =>
 Xq (.pick (.c x8) (.c x16) (.c (.v (.bool false)))) (fun x17 =>
 Xr ox15 [some x17]) ()) ()) ()) ()) ()) ()) ()) ()) ()) ()) ()) ()) ()
set_option maxRecDepth 100000 in
theorem s_field_named (call : Eng.Call) (G : Nat → AV) (n : Nat) (x0 : AV) : denFE call G v_field_named n c_field_named [x0] =
 Xx call [] 1 (.box 7 [0, 0, 0, 0, 0, 0, 0] (.c x0)) (fun x1 ox1 =>
 Xq (.fad (.c x1) 3) (fun x2 =>
 Xx call ox1 5 (.ld false 1 (.c x2)) (fun x3 ox3 =>
 Xq (.bin .eql (.c x3) (.c (.v (.string ⟨#[]⟩)))) (fun x4 =>
 Xq (.fad (.c x1) 2) (fun x18 =>
 Xx call ox3 8 (.ld false 1 (.c x18)) (fun x19 ox19 =>
 Xx call ox19 9 (.call false i_field_refers [(.c x19)]) (fun x20 ox20 =>
 Xc x20 (fun _ =>
 Xq (.fad (.c x1) 3) (fun x21 =>
 Xx call ox20 11 (.ld false 1 (.c x21)) (fun x22 ox22 =>
 Xx call ox22 12 (.call false i_ident_Right [(.c x22)]) (fun x23 ox23 =>
 J_field_named_0 call G n ox23 x1 x23) ()) ()) ()) (fun _ =>
 J_field_named_0 call G n ox20 x1 x4) () ()) ()) ()) ()) ()) ()) ()) () := by kernel_rfl
def c_scalar_Number : CF := ⟨1, 7,
  .seq (.reg [] [
  ⟨(some 2), none, .mv (.c (.v (.bool false)))⟩]) (
  .seq (.reg [] [
  ⟨(some 3), none, .mv (.t 0)⟩,
  ⟨(some 4), none, .call false i_scalar_kind [(.t 3)]⟩,
  ⟨(some 5), none, .bin .and (.t 4) (.c (.v (.int .i64 2)))⟩,
  ⟨(some 6), none, .bin .neq (.t 5) (.c (.v (.int .i64 0)))⟩,
  ⟨(some 2), none, .mv (.t 6)⟩]) (
  .ret)),
  [.t 2]⟩
def v_scalar_Number : List Nat := []
set_option maxRecDepth 100000 in
theorem s_scalar_Number (call : Eng.Call) (G : Nat → AV) (n : Nat) (x0 : AV) : denFE call G v_scalar_Number n c_scalar_Number [x0] =
 Xx call [] 4 (.call false i_scalar_kind [(.c x0)]) (fun x1 ox1 =>
 Xq (.bin .and (.c x1) (.c (.v (.int .i64 2)))) (fun x2 =>
 Xq (.bin .neq (.c x2) (.c (.v (.int .i64 0)))) (fun x3 =>
 Xr ox1 [some x3]) ()) ()) () := by kernel_rfl
def c_tag_Field : CF := ⟨1, 13,
  .seq (.reg [] [
  ⟨(some 2), none, .mv (.c (.v (.bool false)))⟩]) (
  .seq (.reg [] [
  ⟨(some 3), none, .mv (.t 0)⟩,
  ⟨(some 4), none, .call false i_tag_number [(.t 3)]⟩,
  ⟨(some 5), none, .mv (.t 4)⟩,
  ⟨(some 6), (some (5, true)), .mv (.t 0)⟩,
  ⟨(some 7), (some (5, true)), .bin .lss (.t 6) (.c (.v (.int .i64 19000)))⟩,
  ⟨(some 8), (some (5, true)), .mv (.t 7)⟩,
  ⟨(some 9), (some (8, false)), .mv (.t 0)⟩,
  ⟨(some 10), (some (8, false)), .bin .gtr (.t 9) (.c (.v (.int .i64 19999)))⟩,
  ⟨(some 11), (some (5, true)), .pick (.t 8) (.c (.v (.bool true))) (.t 10)⟩,
  ⟨(some 12), none, .pick (.t 5) (.t 11) (.c (.v (.bool false)))⟩,
  ⟨(some 2), none, .mv (.t 12)⟩]) (
  .ret)),
  [.t 2]⟩
def v_tag_Field : List Nat := []
set_option maxRecDepth 100000 in
theorem s_tag_Field (call : Eng.Call) (G : Nat → AV) (n : Nat) (x0 : AV) : denFE call G v_tag_Field n c_tag_Field [x0] =
 Xx call [] 4 (.call false i_tag_number [(.c x0)]) (fun x1 ox1 =>
 Xgq x1 true (.mv (.c x0)) (fun x2 =>
 Xgq x1 true (.bin .lss (.c x2) (.c (.v (.int .i64 19000)))) (fun x3 =>
 Xgq x1 true (.mv (.c x3)) (fun x4 =>
 Xgq x4 false (.mv (.c x0)) (fun x5 =>
 Xgq x4 false (.bin .gtr (.c x5) (.c (.v (.int .i64 19999)))) (fun x6 =>
 Xgq x1 true (.pick (.c x4) (.c (.v (.bool true))) (.c x6)) (fun x7 =>
 Xq (.pick (.c x1) (.c x7) (.c (.v (.bool false)))) (fun x8 =>
 Xr ox1 [some x8]) ()) ()) ()) ()) ()) ()) ()) () := by kernel_rfl
def k_ref09_Right_0 : List Nat := [0, 3]
def c_ref09_Right_b0 : CC := .seq (.seq (.reg [] [
  ⟨(some 20), none, .mv (.t 3)⟩,
  ⟨(some 21), none, .mv (.t 0)⟩,
  ⟨(some 22), none, .len true (.t 21)⟩,
  ⟨(some 23), none, .bin .lss (.t 20) (.t 22)⟩]) (
  .cond (.t 23) (
  .skip) (
  .exit 0))) (
  .seq (.block 1 (
  .seq (.reg [] [
  ⟨(some 26), none, .mv (.t 0)⟩,
  ⟨(some 27), none, .mv (.t 3)⟩,
  ⟨(some 28), none, .ixs (.t 26) (.t 27)⟩,
  ⟨(some 29), none, .call false i_ref09_Letter [(.t 28)]⟩,
  ⟨(some 30), none, .not (.t 29)⟩,
  ⟨(some 31), none, .mv (.t 30)⟩,
  ⟨(some 32), (some (31, true)), .mv (.t 0)⟩,
  ⟨(some 33), (some (31, true)), .mv (.t 3)⟩,
  ⟨(some 34), (some (31, true)), .ixs (.t 32) (.t 33)⟩,
  ⟨(some 35), (some (31, true)), .bin .lss (.t 34) (.c (.v (.int .u8 48)))⟩,
  ⟨(some 36), (some (31, true)), .mv (.t 35)⟩,
  ⟨(some 37), (some (36, false)), .mv (.t 0)⟩,
  ⟨(some 38), (some (36, false)), .mv (.t 3)⟩,
  ⟨(some 39), (some (36, false)), .ixs (.t 37) (.t 38)⟩,
  ⟨(some 40), (some (36, false)), .bin .gtr (.t 39) (.c (.v (.int .u8 57)))⟩,
  ⟨(some 41), (some (31, true)), .pick (.t 36) (.c (.v (.bool true))) (.t 40)⟩,
  ⟨(some 42), none, .pick (.t 31) (.t 41) (.c (.v (.bool false)))⟩,
  ⟨(some 43), none, .mv (.t 42)⟩,
  ⟨(some 44), (some (43, true)), .mv (.t 0)⟩,
  ⟨(some 45), (some (43, true)), .mv (.t 3)⟩,
  ⟨(some 46), (some (43, true)), .ixs (.t 44) (.t 45)⟩,
  ⟨(some 47), (some (43, true)), .bin .neq (.t 46) (.c (.v (.int .u8 95)))⟩,
  ⟨(some 48), none, .pick (.t 43) (.t 47) (.c (.v (.bool false)))⟩]) (
  .cond (.t 48) (
  .seq (.reg [] [
  ⟨(some 2), none, .mv (.c (.v (.bool false)))⟩]) (
  .ret)) (
  .skip)))) (
  .reg [] [
  ⟨(some 24), none, .mv (.t 3)⟩,
  ⟨(some 25), none, .bin .add (.t 24) (.c (.v (.int .i64 1)))⟩,
  ⟨(some 3), none, .mv (.t 25)⟩]))
def k_ref09_Right_1 : List Nat := [0, 4, 5]
def c_ref09_Right_b1 : CC := .seq (.seq (.reg [] [
  ⟨(some 50), none, .mv (.t 5)⟩,
  ⟨(some 51), none, .mv (.t 4)⟩,
  ⟨(some 52), none, .len false (.t 51)⟩,
  ⟨(some 53), none, .bin .lss (.t 50) (.t 52)⟩]) (
  .cond (.t 53) (
  .skip) (
  .exit 2))) (
  .seq (.block 3 (
  .seq (.reg [] [
  ⟨(some 56), none, .mv (.t 4)⟩,
  ⟨(some 57), none, .mv (.t 5)⟩,
  ⟨(some 58), none, .ias 1 (.t 56) (.t 57)⟩,
  ⟨(some 59), none, .ld false 1 (.t 58)⟩,
  ⟨(some 60), none, .mv (.t 0)⟩,
  ⟨(some 61), none, .bin .eql (.t 59) (.t 60)⟩]) (
  .cond (.t 61) (
  .seq (.reg [] [
  ⟨(some 2), none, .mv (.c (.v (.bool false)))⟩]) (
  .ret)) (
  .skip)))) (
  .reg [] [
  ⟨(some 54), none, .mv (.t 5)⟩,
  ⟨(some 55), none, .bin .add (.t 54) (.c (.v (.int .i64 1)))⟩,
  ⟨(some 5), none, .mv (.t 55)⟩]))
def c_ref09_Right_s0 : CC := .seq (.reg [] [
  ⟨(some 2), none, .mv (.c (.v (.bool true)))⟩]) (
  .ret)
def c_ref09_Right_s1 : CC := .seq (.reg [] [
  ⟨(some 49), none, .call false i_ref09_words []⟩,
  ⟨(some 4), none, .mv (.t 49)⟩]) (
  .seq (.seq (.reg [] [
  ⟨(some 5), none, .mv (.c (.v (.int .i64 0)))⟩]) (
  .block 2 (
  .loop k_ref09_Right_1 c_ref09_Right_b1))) c_ref09_Right_s0)
def c_ref09_Right : CF := ⟨1, 62,
  .seq (.reg [] [
  ⟨(some 2), none, .mv (.c (.v (.bool false)))⟩]) (
  .seq (.seq (.reg [] [
  ⟨(some 6), none, .mv (.t 0)⟩,
  ⟨(some 7), none, .len true (.t 6)⟩,
  ⟨(some 8), none, .bin .lss (.t 7) (.c (.v (.int .i64 1)))⟩,
  ⟨(some 9), none, .mv (.t 8)⟩,
  ⟨(some 10), (some (9, false)), .mv (.t 0)⟩,
  ⟨(some 11), (some (9, false)), .len true (.t 10)⟩,
  ⟨(some 12), (some (9, false)), .bin .gtr (.t 11) (.c (.v (.int .i64 12)))⟩,
  ⟨(some 13), none, .pick (.t 9) (.c (.v (.bool true))) (.t 12)⟩,
  ⟨(some 14), none, .mv (.t 13)⟩,
  ⟨(some 15), (some (14, false)), .mv (.t 0)⟩,
  ⟨(some 16), (some (14, false)), .ixs (.t 15) (.c (.v (.int .i64 0)))⟩,
  ⟨(some 17), (some (14, false)), .call false i_ref09_Letter [(.t 16)]⟩,
  ⟨(some 18), (some (14, false)), .not (.t 17)⟩,
  ⟨(some 19), none, .pick (.t 14) (.c (.v (.bool true))) (.t 18)⟩]) (
  .cond (.t 19) (
  .seq (.reg [] [
  ⟨(some 2), none, .mv (.c (.v (.bool false)))⟩]) (
  .ret)) (
  .skip))) (
  .seq (.seq (.reg [] [
  ⟨(some 3), none, .mv (.c (.v (.int .i64 0)))⟩]) (
  .block 0 (
  .loop k_ref09_Right_0 c_ref09_Right_b0))) c_ref09_Right_s1)),
  [.t 2]⟩
def v_ref09_Right : List Nat := []
def R_ref09_Right_1 (call : Eng.Call) (G : Nat → AV) (n m1 : Nat) (o : Objs) (y0 y4 y5 : AV) : Out := roundsE k_ref09_Right_1 (denE 62 call G v_ref09_Right n c_ref09_Right_b1) m1 [y0, y4, y5] o (eBlock 2 (eSeq (denE 62 call G v_ref09_Right n c_ref09_Right_s0) (eEnd [.t 2])))
def R_ref09_Right_0 (call : Eng.Call) (G : Nat → AV) (n m0 : Nat) (o : Objs) (y0 y3 : AV) : Out := roundsE k_ref09_Right_0 (denE 62 call G v_ref09_Right n c_ref09_Right_b0) m0 [y0, y3] o (eBlock 0 (eSeq (denE 62 call G v_ref09_Right n c_ref09_Right_s1) (eEnd [.t 2])))
set_option maxRecDepth 100000 in
theorem R_ref09_Right_1_s (call : Eng.Call) (G : Nat → AV) (n m1 : Nat) (o : Objs) (y0 y4 y5 : AV) : R_ref09_Right_1 call G n (m1 + 1) o y0 y4 y5 =
 Xq (.len false (.c y4)) (fun x35 =>
 Xq (.bin .lss (.c y5) (.c x35)) (fun x36 =>
 Xc x36 (fun _ =>
 Xq (.ias 1 (.c y4) (.c y5)) (fun x37 =>
 Xx call o 59 (.ld false 1 (.c x37)) (fun x38 ox38 =>
 Xq (.bin .eql (.c x38) (.c y0)) (fun x39 =>
 Xc x39 (fun _ =>
 Xr ox38 [some (.v (.bool false))]) (fun _ =>
 Xq (.bin .add (.c y5) (.c (.v (.int .i64 1)))) (fun x40 =>
 R_ref09_Right_1 call G n m1 (maskO k_ref09_Right_1 ox38) (msk k_ref09_Right_1 y0) (msk k_ref09_Right_1 y4) (msk k_ref09_Right_1 x40)) ()) () ()) ()) ()) ()) (fun _ =>
 Xr o [some (.v (.bool true))]) () ()) ()) () := by kernel_rfl
set_option maxRecDepth 100000 in
theorem R_ref09_Right_0_s (call : Eng.Call) (G : Nat → AV) (n m0 : Nat) (o : Objs) (y0 y3 : AV) : R_ref09_Right_0 call G n (m0 + 1) o y0 y3 =
 Xq (.len true (.c y0)) (fun x12 =>
 Xq (.bin .lss (.c y3) (.c x12)) (fun x13 =>
 Xc x13 (fun _ =>
 Xq (.ixs (.c y0) (.c y3)) (fun x14 =>
 Xx call o 29 (.call false i_ref09_Letter [(.c x14)]) (fun x15 ox15 =>
 Xq (.not (.c x15)) (fun x16 =>
 Xgq x16 true (.mv (.c y0)) (fun x17 =>
 Xgq x16 true (.mv (.c y3)) (fun x18 =>
 Xgq x16 true (.ixs (.c x17) (.c x18)) (fun x19 =>
 Xgq x16 true (.bin .lss (.c x19) (.c (.v (.int .u8 48)))) (fun x20 =>
 Xgq x16 true (.mv (.c x20)) (fun x21 =>
 Xgq x21 false (.mv (.c y0)) (fun x22 =>
 Xgq x21 false (.mv (.c y3)) (fun x23 =>
 Xgq x21 false (.ixs (.c x22) (.c x23)) (fun x24 =>
 Xgq x21 false (.bin .gtr (.c x24) (.c (.v (.int .u8 57)))) (fun x25 =>
 Xgq x16 true (.pick (.c x21) (.c (.v (.bool true))) (.c x25)) (fun x26 =>
 Xq (.pick (.c x16) (.c x26) (.c (.v (.bool false)))) (fun x27 =>
 Xgq x27 true (.mv (.c y0)) (fun x28 =>
 Xgq x27 true (.mv (.c y3)) (fun x29 =>
 Xgq x27 true (.ixs (.c x28) (.c x29)) (fun x30 =>
 Xgq x27 true (.bin .neq (.c x30) (.c (.v (.int .u8 95)))) (fun x31 =>
 Xq (.pick (.c x27) (.c x31) (.c (.v (.bool false)))) (fun x32 =>
 Xc x32 (fun _ =>
 Xr ox15 [some (.v (.bool false))]) (fun _ =>
 Xq (.bin .add (.c y3) (.c (.v (.int .i64 1)))) (fun x33 =>
 R_ref09_Right_0 call G n m0 (maskO k_ref09_Right_0 ox15) (msk k_ref09_Right_0 y0) (msk k_ref09_Right_0 x33)) ()) () ()) ()) ()) ()) ()) ()) ()) ()) ()) ()) ()) ()) ()) ()) ()) ()) ()) ()) ()) ()) (fun _ =>
 Xx call o 49 (.call false i_ref09_words []) (fun x34 ox34 =>
 R_ref09_Right_1 call G n n (maskO k_ref09_Right_1 ox34) (msk k_ref09_Right_1 y0) (msk k_ref09_Right_1 x34) (msk k_ref09_Right_1 (.v (.int .i64 0)))) ()) () ()) ()) () := by kernel_rfl
set_option maxRecDepth 100000 in
theorem s_ref09_Right (call : Eng.Call) (G : Nat → AV) (n : Nat) (x0 : AV) : denFE call G v_ref09_Right n c_ref09_Right [x0] =
 Xq (.len true (.c x0)) (fun x1 =>
 Xq (.bin .lss (.c x1) (.c (.v (.int .i64 1)))) (fun x2 =>
 Xgq x2 false (.mv (.c x0)) (fun x3 =>
 Xgq x2 false (.len true (.c x3)) (fun x4 =>
 Xgq x2 false (.bin .gtr (.c x4) (.c (.v (.int .i64 12)))) (fun x5 =>
 Xq (.pick (.c x2) (.c (.v (.bool true))) (.c x5)) (fun x6 =>
 Xgq x6 false (.mv (.c x0)) (fun x7 =>
 Xgq x6 false (.ixs (.c x7) (.c (.v (.int .i64 0)))) (fun x8 =>
 Xxg call x6 false [] 17 (.call false i_ref09_Letter [(.c x8)]) (fun x9 ox9 =>
 Xgq x6 false (.not (.c x9)) (fun x10 =>
 Xq (.pick (.c x6) (.c (.v (.bool true))) (.c x10)) (fun x11 =>
 Xc x11 (fun _ =>
 Xr ox9 [some (.v (.bool false))]) (fun _ =>
 R_ref09_Right_0 call G n n (maskO k_ref09_Right_0 ox9) (msk k_ref09_Right_0 x0) (msk k_ref09_Right_0 (.v (.int .i64 0)))) () ()) ()) ()) ()) ()) ()) ()) ()) ()) ()) ()) () := by kernel_rfl
def c_ref04_Field : CF := ⟨1, 17,
  .seq (.reg [] [
  ⟨(some 2), none, .mv (.c (.v (.bool false)))⟩]) (
  .seq (.reg [] [
  ⟨(some 3), none, .mv (.t 0)⟩,
  ⟨(some 4), none, .bin .geq (.t 3) (.c (.v (.int .i64 1)))⟩,
  ⟨(some 5), none, .mv (.t 4)⟩,
  ⟨(some 6), (some (5, true)), .mv (.t 0)⟩,
  ⟨(some 7), (some (5, true)), .bin .leq (.t 6) (.c (.v (.int .i64 536870911)))⟩,
  ⟨(some 8), none, .pick (.t 5) (.t 7) (.c (.v (.bool false)))⟩,
  ⟨(some 9), none, .mv (.t 8)⟩,
  ⟨(some 10), (some (9, true)), .mv (.t 0)⟩,
  ⟨(some 11), (some (9, true)), .bin .lss (.t 10) (.c (.v (.int .i64 19000)))⟩,
  ⟨(some 12), (some (9, true)), .mv (.t 11)⟩,
  ⟨(some 13), (some (12, false)), .mv (.t 0)⟩,
  ⟨(some 14), (some (12, false)), .bin .gtr (.t 13) (.c (.v (.int .i64 19999)))⟩,
  ⟨(some 15), (some (9, true)), .pick (.t 12) (.c (.v (.bool true))) (.t 14)⟩,
  ⟨(some 16), none, .pick (.t 9) (.t 15) (.c (.v (.bool false)))⟩,
  ⟨(some 2), none, .mv (.t 16)⟩]) (
  .ret)),
  [.t 2]⟩
def v_ref04_Field : List Nat := []
set_option maxRecDepth 100000 in
theorem s_ref04_Field (call : Eng.Call) (G : Nat → AV) (n : Nat) (x0 : AV) : denFE call G v_ref04_Field n c_ref04_Field [x0] =
 Xq (.bin .geq (.c x0) (.c (.v (.int .i64 1)))) (fun x1 =>
 Xgq x1 true (.mv (.c x0)) (fun x2 =>
 Xgq x1 true (.bin .leq (.c x2) (.c (.v (.int .i64 536870911)))) (fun x3 =>
 Xq (.pick (.c x1) (.c x3) (.c (.v (.bool false)))) (fun x4 =>
 Xgq x4 true (.mv (.c x0)) (fun x5 =>
 Xgq x4 true (.bin .lss (.c x5) (.c (.v (.int .i64 19000)))) (fun x6 =>
 Xgq x4 true (.mv (.c x6)) (fun x7 =>
 Xgq x7 false (.mv (.c x0)) (fun x8 =>
 Xgq x7 false (.bin .gtr (.c x8) (.c (.v (.int .i64 19999)))) (fun x9 =>
 Xgq x4 true (.pick (.c x7) (.c (.v (.bool true))) (.c x9)) (fun x10 =>
 Xq (.pick (.c x4) (.c x10) (.c (.v (.bool false)))) (fun x11 =>
 Xr [] [some x11]) ()) ()) ()) ()) ()) ()) ()) ()) ()) ()) () := by kernel_rfl
def c_ref11_Number : CF := ⟨1, 13,
  .seq (.reg [] [
  ⟨(some 2), none, .mv (.c (.v (.bool false)))⟩]) (
  .seq (.reg [] [
  ⟨(some 3), none, .mv (.t 0)⟩,
  ⟨(some 4), none, .call false i_ref11_Whole [(.t 3)]⟩,
  ⟨(some 5), none, .mv (.t 4)⟩,
  ⟨(some 6), (some (5, false)), .mv (.t 0)⟩,
  ⟨(some 7), (some (5, false)), .bin .eql (.t 6) (.c (.v (.int .i64 7)))⟩,
  ⟨(some 8), none, .pick (.t 5) (.c (.v (.bool true))) (.t 7)⟩,
  ⟨(some 9), none, .mv (.t 8)⟩,
  ⟨(some 10), (some (9, false)), .mv (.t 0)⟩,
  ⟨(some 11), (some (9, false)), .bin .eql (.t 10) (.c (.v (.int .i64 14)))⟩,
  ⟨(some 12), none, .pick (.t 9) (.c (.v (.bool true))) (.t 11)⟩,
  ⟨(some 2), none, .mv (.t 12)⟩]) (
  .ret)),
  [.t 2]⟩
def v_ref11_Number : List Nat := []
set_option maxRecDepth 100000 in
theorem s_ref11_Number (call : Eng.Call) (G : Nat → AV) (n : Nat) (x0 : AV) : denFE call G v_ref11_Number n c_ref11_Number [x0] =
 Xx call [] 4 (.call false i_ref11_Whole [(.c x0)]) (fun x1 ox1 =>
 Xgq x1 false (.mv (.c x0)) (fun x2 =>
 Xgq x1 false (.bin .eql (.c x2) (.c (.v (.int .i64 7)))) (fun x3 =>
 Xq (.pick (.c x1) (.c (.v (.bool true))) (.c x3)) (fun x4 =>
 Xgq x4 false (.mv (.c x0)) (fun x5 =>
 Xgq x4 false (.bin .eql (.c x5) (.c (.v (.int .i64 14)))) (fun x6 =>
 Xq (.pick (.c x4) (.c (.v (.bool true))) (.c x6)) (fun x7 =>
 Xr ox1 [some x7]) ()) ()) ()) ()) ()) ()) () := by kernel_rfl
def c_scalar_Word : CF := ⟨1, 12,
  .seq (.reg [] [
  ⟨(some 2), none, .mv (.c (.v (.string ⟨#[]⟩)))⟩]) (
  .seq (.seq (.reg [] [
  ⟨(some 3), none, .mv (.t 0)⟩,
  ⟨(some 4), none, .bin .lss (.t 3) (.c (.v (.int .i64 0)))⟩,
  ⟨(some 5), none, .mv (.t 4)⟩,
  ⟨(some 6), (some (5, false)), .mv (.t 0)⟩,
  ⟨(some 7), (some (5, false)), .bin .geq (.t 6) (.c (.v (.int .i64 16)))⟩,
  ⟨(some 8), none, .pick (.t 5) (.c (.v (.bool true))) (.t 7)⟩]) (
  .cond (.t 8) (
  .seq (.reg [] [
  ⟨(some 2), none, .mv (.c (.v (.string ⟨#[]⟩)))⟩]) (
  .ret)) (
  .skip))) (
  .seq (.reg [] [
  ⟨(some 9), none, .build [(.v (.string ⟨#[]⟩)), (.v (.string ⟨#[]⟩)), (.v (.string ⟨#[]⟩)), (.v (.string ⟨#[]⟩)), (.v (.string ⟨#[]⟩)), (.v (.string ⟨#[]⟩)), (.v (.string ⟨#[]⟩)), (.v (.string ⟨#[]⟩)), (.v (.string ⟨#[]⟩)), (.v (.string ⟨#[]⟩)), (.v (.string ⟨#[]⟩)), (.v (.string ⟨#[]⟩)), (.v (.string ⟨#[]⟩)), (.v (.string ⟨#[]⟩)), (.v (.string ⟨#[]⟩)), (.v (.string ⟨#[]⟩))] [(1, 1, (.c (.v (.string ⟨#[105, 110, 116, 51, 50]⟩)))), (2, 1, (.c (.v (.string ⟨#[105, 110, 116, 54, 52]⟩)))), (3, 1, (.c (.v (.string ⟨#[117, 105, 110, 116, 51, 50]⟩)))), (4, 1, (.c (.v (.string ⟨#[117, 105, 110, 116, 54, 52]⟩)))), (5, 1, (.c (.v (.string ⟨#[115, 105, 110, 116, 51, 50]⟩)))), (6, 1, (.c (.v (.string ⟨#[115, 105, 110, 116, 54, 52]⟩)))), (7, 1, (.c (.v (.string ⟨#[98, 111, 111, 108]⟩)))), (8, 1, (.c (.v (.string ⟨#[102, 105, 120, 101, 100, 51, 50]⟩)))), (9, 1, (.c (.v (.string ⟨#[102, 105, 120, 101, 100, 54, 52]⟩)))), (10, 1, (.c (.v (.string ⟨#[115, 102, 105, 120, 101, 100, 51, 50]⟩)))), (11, 1, (.c (.v (.string ⟨#[115, 102, 105, 120, 101, 100, 54, 52]⟩)))), (12, 1, (.c (.v (.string ⟨#[115, 116, 114, 105, 110, 103]⟩)))), (13, 1, (.c (.v (.string ⟨#[98, 121, 116, 101, 115]⟩))))]⟩,
  ⟨(some 10), none, .mv (.t 0)⟩,
  ⟨(some 11), none, .ixa 16 1 false (.t 9) (.t 10)⟩,
  ⟨(some 2), none, .mv (.t 11)⟩]) (
  .ret))),
  [.t 2]⟩
def v_scalar_Word : List Nat := []
set_option maxRecDepth 100000 in
theorem s_scalar_Word (call : Eng.Call) (G : Nat → AV) (n : Nat) (x0 : AV) : denFE call G v_scalar_Word n c_scalar_Word [x0] =
 Xq (.bin .lss (.c x0) (.c (.v (.int .i64 0)))) (fun x1 =>
 Xgq x1 false (.mv (.c x0)) (fun x2 =>
 Xgq x1 false (.bin .geq (.c x2) (.c (.v (.int .i64 16)))) (fun x3 =>
 Xq (.pick (.c x1) (.c (.v (.bool true))) (.c x3)) (fun x4 =>
 Xc x4 (fun _ =>
 Xr [] [some (.v (.string ⟨#[]⟩))]) (fun _ =>
 Xq (.build [(.v (.string ⟨#[]⟩)), (.v (.string ⟨#[]⟩)), (.v (.string ⟨#[]⟩)), (.v (.string ⟨#[]⟩)), (.v (.string ⟨#[]⟩)), (.v (.string ⟨#[]⟩)), (.v (.string ⟨#[]⟩)), (.v (.string ⟨#[]⟩)), (.v (.string ⟨#[]⟩)), (.v (.string ⟨#[]⟩)), (.v (.string ⟨#[]⟩)), (.v (.string ⟨#[]⟩)), (.v (.string ⟨#[]⟩)), (.v (.string ⟨#[]⟩)), (.v (.string ⟨#[]⟩)), (.v (.string ⟨#[]⟩))] [(1, 1, (.c (.v (.string ⟨#[105, 110, 116, 51, 50]⟩)))), (2, 1, (.c (.v (.string ⟨#[105, 110, 116, 54, 52]⟩)))), (3, 1, (.c (.v (.string ⟨#[117, 105, 110, 116, 51, 50]⟩)))), (4, 1, (.c (.v (.string ⟨#[117, 105, 110, 116, 54, 52]⟩)))), (5, 1, (.c (.v (.string ⟨#[115, 105, 110, 116, 51, 50]⟩)))), (6, 1, (.c (.v (.string ⟨#[115, 105, 110, 116, 54, 52]⟩)))), (7, 1, (.c (.v (.string ⟨#[98, 111, 111, 108]⟩)))), (8, 1, (.c (.v (.string ⟨#[102, 105, 120, 101, 100, 51, 50]⟩)))), (9, 1, (.c (.v (.string ⟨#[102, 105, 120, 101, 100, 54, 52]⟩)))), (10, 1, (.c (.v (.string ⟨#[115, 102, 105, 120, 101, 100, 51, 50]⟩)))), (11, 1, (.c (.v (.string ⟨#[115, 102, 105, 120, 101, 100, 54, 52]⟩)))), (12, 1, (.c (.v (.string ⟨#[115, 116, 114, 105, 110, 103]⟩)))), (13, 1, (.c (.v (.string ⟨#[98, 121, 116, 101, 115]⟩))))]) (fun x5 =>
 Xq (.ixa 16 1 false (.c x5) (.c x0)) (fun x6 =>
 Xr [] [some x6]) ()) ()) () ()) ()) ()) ()) () := by kernel_rfl
def c_field_ahead : CF := ⟨1, 9,
  .seq (.reg [] [
  ⟨(some 1), none, .box 7 [0, 0, 0, 0, 0, 0, 0] (.t 0)⟩,
  ⟨(some 2), none, .mv (.c (.v (.string ⟨#[]⟩)))⟩]) (
  .seq (.block 0 (
  .seq (.reg [] [
  ⟨(some 4), none, .fad (.t 1) 5⟩,
  ⟨(some 5), none, .ld false 1 (.t 4)⟩,
  ⟨(some 3), none, .mv (.t 5)⟩]) (
  .cond (.t 3) (
  .seq (.reg [] [
  ⟨(some 2), none, .mv (.c (.v (.string ⟨#[108, 111, 111, 115, 101, 32]⟩)))⟩]) (
  .ret)) (
  .seq (.reg [] [
  ⟨(some 7), none, .fad (.t 1) 4⟩,
  ⟨(some 8), none, .ld false 1 (.t 7)⟩,
  ⟨(some 6), none, .mv (.t 8)⟩]) (
  .cond (.t 6) (
  .seq (.reg [] [
  ⟨(some 2), none, .mv (.c (.v (.string ⟨#[114, 101, 112, 101, 97, 116, 101, 100, 32]⟩)))⟩]) (
  .ret)) (
  .skip)))))) (
  .seq (.reg [] [
  ⟨(some 2), none, .mv (.c (.v (.string ⟨#[]⟩)))⟩]) (
  .ret))),
  [.t 2]⟩
def v_field_ahead : List Nat := []
set_option maxRecDepth 100000 in
theorem s_field_ahead (call : Eng.Call) (G : Nat → AV) (n : Nat) (x0 : AV) : denFE call G v_field_ahead n c_field_ahead [x0] =
 Xx call [] 1 (.box 7 [0, 0, 0, 0, 0, 0, 0] (.c x0)) (fun x1 ox1 =>
 Xq (.fad (.c x1) 5) (fun x2 =>
 Xx call ox1 5 (.ld false 1 (.c x2)) (fun x3 ox3 =>
 Xc x3 (fun _ =>
 Xr ox3 [some (.v (.string ⟨#[108, 111, 111, 115, 101, 32]⟩))]) (fun _ =>
 Xq (.fad (.c x1) 4) (fun x4 =>
 Xx call ox3 8 (.ld false 1 (.c x4)) (fun x5 ox5 =>
 Xc x5 (fun _ =>
 Xr ox5 [some (.v (.string ⟨#[114, 101, 112, 101, 97, 116, 101, 100, 32]⟩))]) (fun _ =>
 Xr ox5 [some (.v (.string ⟨#[]⟩))]) () ()) ()) ()) () ()) ()) ()) () := by kernel_rfl
def c_ref11_Word : CF := ⟨1, 13,
  .seq (.reg [] [
  ⟨(some 2), none, .mv (.c (.v (.string ⟨#[]⟩)))⟩]) (
  .seq (.seq (.reg [] [
  ⟨(some 3), none, .mv (.t 0)⟩,
  ⟨(some 4), none, .bin .lss (.t 3) (.c (.v (.int .i64 1)))⟩,
  ⟨(some 5), none, .mv (.t 4)⟩,
  ⟨(some 6), (some (5, false)), .mv (.t 0)⟩,
  ⟨(some 7), (some (5, false)), .bin .gtr (.t 6) (.c (.v (.int .i64 13)))⟩,
  ⟨(some 8), none, .pick (.t 5) (.c (.v (.bool true))) (.t 7)⟩]) (
  .cond (.t 8) (
  .seq (.reg [] [
  ⟨(some 2), none, .mv (.c (.v (.string ⟨#[]⟩)))⟩]) (
  .ret)) (
  .skip))) (
  .seq (.reg [] [
  ⟨(some 9), none, .call false i_ref11_words []⟩,
  ⟨(some 10), none, .mv (.t 0)⟩,
  ⟨(some 11), none, .ias 1 (.t 9) (.t 10)⟩,
  ⟨(some 12), none, .ld false 1 (.t 11)⟩,
  ⟨(some 2), none, .mv (.t 12)⟩]) (
  .ret))),
  [.t 2]⟩
def v_ref11_Word : List Nat := []
set_option maxRecDepth 100000 in
theorem s_ref11_Word (call : Eng.Call) (G : Nat → AV) (n : Nat) (x0 : AV) : denFE call G v_ref11_Word n c_ref11_Word [x0] =
 Xq (.bin .lss (.c x0) (.c (.v (.int .i64 1)))) (fun x1 =>
 Xgq x1 false (.mv (.c x0)) (fun x2 =>
 Xgq x1 false (.bin .gtr (.c x2) (.c (.v (.int .i64 13)))) (fun x3 =>
 Xq (.pick (.c x1) (.c (.v (.bool true))) (.c x3)) (fun x4 =>
 Xc x4 (fun _ =>
 Xr [] [some (.v (.string ⟨#[]⟩))]) (fun _ =>
 Xx call [] 9 (.call false i_ref11_words []) (fun x5 ox5 =>
 Xq (.ias 1 (.c x5) (.c x0)) (fun x6 =>
 Xx call ox5 12 (.ld false 1 (.c x6)) (fun x7 ox7 =>
 Xr ox7 [some x7]) ()) ()) ()) () ()) ()) ()) ()) () := by kernel_rfl
def c_field_refers : CF := ⟨1, 9,
  .seq (.reg [] [
  ⟨(some 2), none, .mv (.c (.v (.bool false)))⟩]) (
  .seq (.reg [] [
  ⟨(some 3), none, .mv (.t 0)⟩,
  ⟨(some 4), none, .bin .eql (.t 3) (.c (.v (.int .i64 14)))⟩,
  ⟨(some 5), none, .mv (.t 4)⟩,
  ⟨(some 6), (some (5, false)), .mv (.t 0)⟩,
  ⟨(some 7), (some (5, false)), .bin .eql (.t 6) (.c (.v (.int .i64 15)))⟩,
  ⟨(some 8), none, .pick (.t 5) (.c (.v (.bool true))) (.t 7)⟩,
  ⟨(some 2), none, .mv (.t 8)⟩]) (
  .ret)),
  [.t 2]⟩
def v_field_refers : List Nat := []
set_option maxRecDepth 100000 in
theorem s_field_refers (call : Eng.Call) (G : Nat → AV) (n : Nat) (x0 : AV) : denFE call G v_field_refers n c_field_refers [x0] =
 Xq (.bin .eql (.c x0) (.c (.v (.int .i64 14)))) (fun x1 =>
 Xgq x1 false (.mv (.c x0)) (fun x2 =>
 Xgq x1 false (.bin .eql (.c x2) (.c (.v (.int .i64 15)))) (fun x3 =>
 Xq (.pick (.c x1) (.c (.v (.bool true))) (.c x3)) (fun x4 =>
 Xr [] [some x4]) ()) ()) ()) () := by kernel_rfl
def c_scalar_kind : CF := ⟨1, 12,
  .seq (.reg [] [
  ⟨(some 2), none, .mv (.c (.v (.int .i64 0)))⟩]) (
  .seq (.seq (.reg [] [
  ⟨(some 3), none, .mv (.t 0)⟩,
  ⟨(some 4), none, .bin .lss (.t 3) (.c (.v (.int .i64 0)))⟩,
  ⟨(some 5), none, .mv (.t 4)⟩,
  ⟨(some 6), (some (5, false)), .mv (.t 0)⟩,
  ⟨(some 7), (some (5, false)), .bin .geq (.t 6) (.c (.v (.int .i64 16)))⟩,
  ⟨(some 8), none, .pick (.t 5) (.c (.v (.bool true))) (.t 7)⟩]) (
  .cond (.t 8) (
  .seq (.reg [] [
  ⟨(some 2), none, .mv (.c (.v (.int .i64 0)))⟩]) (
  .ret)) (
  .skip))) (
  .seq (.reg [] [
  ⟨(some 9), none, .build [(.v (.int .i64 0)), (.v (.int .i64 0)), (.v (.int .i64 0)), (.v (.int .i64 0)), (.v (.int .i64 0)), (.v (.int .i64 0)), (.v (.int .i64 0)), (.v (.int .i64 0)), (.v (.int .i64 0)), (.v (.int .i64 0)), (.v (.int .i64 0)), (.v (.int .i64 0)), (.v (.int .i64 0)), (.v (.int .i64 0)), (.v (.int .i64 0)), (.v (.int .i64 0))] [(1, 1, (.c (.v (.int .i64 7)))), (2, 1, (.c (.v (.int .i64 15)))), (3, 1, (.c (.v (.int .i64 3)))), (4, 1, (.c (.v (.int .i64 11)))), (5, 1, (.c (.v (.int .i64 7)))), (6, 1, (.c (.v (.int .i64 15)))), (7, 1, (.c (.v (.int .i64 2)))), (8, 1, (.c (.v (.int .i64 3)))), (9, 1, (.c (.v (.int .i64 11)))), (10, 1, (.c (.v (.int .i64 7)))), (11, 1, (.c (.v (.int .i64 15)))), (14, 1, (.c (.v (.int .i64 6))))]⟩,
  ⟨(some 10), none, .mv (.t 0)⟩,
  ⟨(some 11), none, .ixa 16 1 false (.t 9) (.t 10)⟩,
  ⟨(some 2), none, .mv (.t 11)⟩]) (
  .ret))),
  [.t 2]⟩
def v_scalar_kind : List Nat := []
set_option maxRecDepth 100000 in
theorem s_scalar_kind (call : Eng.Call) (G : Nat → AV) (n : Nat) (x0 : AV) : denFE call G v_scalar_kind n c_scalar_kind [x0] =
 Xq (.bin .lss (.c x0) (.c (.v (.int .i64 0)))) (fun x1 =>
 Xgq x1 false (.mv (.c x0)) (fun x2 =>
 Xgq x1 false (.bin .geq (.c x2) (.c (.v (.int .i64 16)))) (fun x3 =>
 Xq (.pick (.c x1) (.c (.v (.bool true))) (.c x3)) (fun x4 =>
 Xc x4 (fun _ =>
 Xr [] [some (.v (.int .i64 0))]) (fun _ =>
 Xq (.build [(.v (.int .i64 0)), (.v (.int .i64 0)), (.v (.int .i64 0)), (.v (.int .i64 0)), (.v (.int .i64 0)), (.v (.int .i64 0)), (.v (.int .i64 0)), (.v (.int .i64 0)), (.v (.int .i64 0)), (.v (.int .i64 0)), (.v (.int .i64 0)), (.v (.int .i64 0)), (.v (.int .i64 0)), (.v (.int .i64 0)), (.v (.int .i64 0)), (.v (.int .i64 0))] [(1, 1, (.c (.v (.int .i64 7)))), (2, 1, (.c (.v (.int .i64 15)))), (3, 1, (.c (.v (.int .i64 3)))), (4, 1, (.c (.v (.int .i64 11)))), (5, 1, (.c (.v (.int .i64 7)))), (6, 1, (.c (.v (.int .i64 15)))), (7, 1, (.c (.v (.int .i64 2)))), (8, 1, (.c (.v (.int .i64 3)))), (9, 1, (.c (.v (.int .i64 11)))), (10, 1, (.c (.v (.int .i64 7)))), (11, 1, (.c (.v (.int .i64 15)))), (14, 1, (.c (.v (.int .i64 6))))]) (fun x5 =>
 Xq (.ixa 16 1 false (.c x5) (.c x0)) (fun x6 =>
 Xr [] [some x6]) ()) ()) () ()) ()) ()) ()) () := by kernel_rfl
def c_tag_number : CF := ⟨1, 9,
  .seq (.reg [] [
  ⟨(some 2), none, .mv (.c (.v (.bool false)))⟩]) (
  .seq (.reg [] [
  ⟨(some 3), none, .mv (.t 0)⟩,
  ⟨(some 4), none, .bin .geq (.t 3) (.c (.v (.int .i64 1)))⟩,
  ⟨(some 5), none, .mv (.t 4)⟩,
  ⟨(some 6), (some (5, true)), .mv (.t 0)⟩,
  ⟨(some 7), (some (5, true)), .bin .leq (.t 6) (.c (.v (.int .i64 536870911)))⟩,
  ⟨(some 8), none, .pick (.t 5) (.t 7) (.c (.v (.bool false)))⟩,
  ⟨(some 2), none, .mv (.t 8)⟩]) (
  .ret)),
  [.t 2]⟩
def v_tag_number : List Nat := []
set_option maxRecDepth 100000 in
theorem s_tag_number (call : Eng.Call) (G : Nat → AV) (n : Nat) (x0 : AV) : denFE call G v_tag_number n c_tag_number [x0] =
 Xq (.bin .geq (.c x0) (.c (.v (.int .i64 1)))) (fun x1 =>
 Xgq x1 true (.mv (.c x0)) (fun x2 =>
 Xgq x1 true (.bin .leq (.c x2) (.c (.v (.int .i64 536870911)))) (fun x3 =>
 Xq (.pick (.c x1) (.c x3) (.c (.v (.bool false)))) (fun x4 =>
 Xr [] [some x4]) ()) ()) ()) () := by kernel_rfl
def c_ref09_Letter : CF := ⟨1, 17,
  .seq (.reg [] [
  ⟨(some 2), none, .mv (.c (.v (.bool false)))⟩]) (
  .seq (.reg [] [
  ⟨(some 3), none, .mv (.t 0)⟩,
  ⟨(some 4), none, .bin .geq (.t 3) (.c (.v (.int .u8 97)))⟩,
  ⟨(some 5), none, .mv (.t 4)⟩,
  ⟨(some 6), (some (5, true)), .mv (.t 0)⟩,
  ⟨(some 7), (some (5, true)), .bin .leq (.t 6) (.c (.v (.int .u8 122)))⟩,
  ⟨(some 8), none, .pick (.t 5) (.t 7) (.c (.v (.bool false)))⟩,
  ⟨(some 9), none, .mv (.t 8)⟩,
  ⟨(some 10), (some (9, false)), .mv (.t 0)⟩,
  ⟨(some 11), (some (9, false)), .bin .geq (.t 10) (.c (.v (.int .u8 65)))⟩,
  ⟨(some 12), (some (9, false)), .mv (.t 11)⟩,
  ⟨(some 13), (some (12, true)), .mv (.t 0)⟩,
  ⟨(some 14), (some (12, true)), .bin .leq (.t 13) (.c (.v (.int .u8 90)))⟩,
  ⟨(some 15), (some (9, false)), .pick (.t 12) (.t 14) (.c (.v (.bool false)))⟩,
  ⟨(some 16), none, .pick (.t 9) (.c (.v (.bool true))) (.t 15)⟩,
  ⟨(some 2), none, .mv (.t 16)⟩]) (
  .ret)),
  [.t 2]⟩
def v_ref09_Letter : List Nat := []
set_option maxRecDepth 100000 in
theorem s_ref09_Letter (call : Eng.Call) (G : Nat → AV) (n : Nat) (x0 : AV) : denFE call G v_ref09_Letter n c_ref09_Letter [x0] =
 Xq (.bin .geq (.c x0) (.c (.v (.int .u8 97)))) (fun x1 =>
 Xgq x1 true (.mv (.c x0)) (fun x2 =>
 Xgq x1 true (.bin .leq (.c x2) (.c (.v (.int .u8 122)))) (fun x3 =>
 Xq (.pick (.c x1) (.c x3) (.c (.v (.bool false)))) (fun x4 =>
 Xgq x4 false (.mv (.c x0)) (fun x5 =>
 Xgq x4 false (.bin .geq (.c x5) (.c (.v (.int .u8 65)))) (fun x6 =>
 Xgq x4 false (.mv (.c x6)) (fun x7 =>
 Xgq x7 true (.mv (.c x0)) (fun x8 =>
 Xgq x7 true (.bin .leq (.c x8) (.c (.v (.int .u8 90)))) (fun x9 =>
 Xgq x4 false (.pick (.c x7) (.c x9) (.c (.v (.bool false)))) (fun x10 =>
 Xq (.pick (.c x4) (.c (.v (.bool true))) (.c x10)) (fun x11 =>
 Xr [] [some x11]) ()) ()) ()) ()) ()) ()) ()) ()) ()) ()) () := by kernel_rfl
def c_ref09_words : CF := ⟨0, 2,
  .seq (.reg [] [
  ⟨(some 0), none, .nil 1⟩]) (
  .seq (.reg [] [
  ⟨(some 1), none, .bsl 35 1 [(.v (.string ⟨#[]⟩))] [(0, (.c (.v (.string ⟨#[101, 110, 117, 109]⟩)))), (1, (.c (.v (.string ⟨#[109, 101, 115, 115, 97, 103, 101]⟩)))), (2, (.c (.v (.string ⟨#[111, 110, 101, 111, 102]⟩)))), (3, (.c (.v (.string ⟨#[114, 101, 112, 101, 97, 116, 101, 100]⟩)))), (4, (.c (.v (.string ⟨#[114, 101, 115, 101, 114, 118, 101, 100]⟩)))), (5, (.c (.v (.string ⟨#[108, 111, 111, 115, 101]⟩)))), (6, (.c (.v (.string ⟨#[105, 110, 116, 51, 50]⟩)))), (7, (.c (.v (.string ⟨#[105, 110, 116, 54, 52]⟩)))), (8, (.c (.v (.string ⟨#[117, 105, 110, 116, 51, 50]⟩)))), (9, (.c (.v (.string ⟨#[117, 105, 110, 116, 54, 52]⟩)))), (10, (.c (.v (.string ⟨#[115, 105, 110, 116, 51, 50]⟩)))), (11, (.c (.v (.string ⟨#[115, 105, 110, 116, 54, 52]⟩)))), (12, (.c (.v (.string ⟨#[98, 111, 111, 108]⟩)))), (13, (.c (.v (.string ⟨#[102, 105, 120, 101, 100, 51, 50]⟩)))), (14, (.c (.v (.string ⟨#[102, 105, 120, 101, 100, 54, 52]⟩)))), (15, (.c (.v (.string ⟨#[115, 102, 105, 120, 101, 100, 51, 50]⟩)))), (16, (.c (.v (.string ⟨#[115, 102, 105, 120, 101, 100, 54, 52]⟩)))), (17, (.c (.v (.string ⟨#[115, 116, 114, 105, 110, 103]⟩)))), (18, (.c (.v (.string ⟨#[98, 121, 116, 101, 115]⟩)))), (19, (.c (.v (.string ⟨#[114, 101, 110, 97, 109, 101]⟩)))), (20, (.c (.v (.string ⟨#[114, 101, 110, 117, 109, 98, 101, 114]⟩)))), (21, (.c (.v (.string ⟨#[114, 101, 116, 121, 112, 101]⟩)))), (22, (.c (.v (.string ⟨#[115, 112, 108, 105, 116]⟩)))), (23, (.c (.v (.string ⟨#[106, 111, 105, 110]⟩)))), (24, (.c (.v (.string ⟨#[119, 114, 97, 112]⟩)))), (25, (.c (.v (.string ⟨#[117, 110, 119, 114, 97, 112]⟩)))), (26, (.c (.v (.string ⟨#[97, 100, 100]⟩)))), (27, (.c (.v (.string ⟨#[100, 114, 111, 112]⟩)))), (28, (.c (.v (.string ⟨#[116, 111]⟩)))), (29, (.c (.v (.string ⟨#[105, 110, 116, 111]⟩)))), (30, (.c (.v (.string ⟨#[97, 115]⟩)))), (31, (.c (.v (.string ⟨#[111, 102]⟩)))), (32, (.c (.v (.string ⟨#[100, 101, 102, 97, 117, 108, 116]⟩)))), (33, (.c (.v (.string ⟨#[116, 114, 117, 101]⟩)))), (34, (.c (.v (.string ⟨#[102, 97, 108, 115, 101]⟩))))]⟩,
  ⟨(some 0), none, .mv (.t 1)⟩]) (
  .ret)),
  [.t 0]⟩
def v_ref09_words : List Nat := []
set_option maxRecDepth 100000 in
theorem s_ref09_words (call : Eng.Call) (G : Nat → AV) (n : Nat) : denFE call G v_ref09_words n c_ref09_words [] =
 Xx call [] 0 (.nil 1) (fun x0 ox0 =>
 Xx call ox0 1 (.bsl 35 1 [(.v (.string ⟨#[]⟩))] [(0, (.c (.v (.string ⟨#[101, 110, 117, 109]⟩)))), (1, (.c (.v (.string ⟨#[109, 101, 115, 115, 97, 103, 101]⟩)))), (2, (.c (.v (.string ⟨#[111, 110, 101, 111, 102]⟩)))), (3, (.c (.v (.string ⟨#[114, 101, 112, 101, 97, 116, 101, 100]⟩)))), (4, (.c (.v (.string ⟨#[114, 101, 115, 101, 114, 118, 101, 100]⟩)))), (5, (.c (.v (.string ⟨#[108, 111, 111, 115, 101]⟩)))), (6, (.c (.v (.string ⟨#[105, 110, 116, 51, 50]⟩)))), (7, (.c (.v (.string ⟨#[105, 110, 116, 54, 52]⟩)))), (8, (.c (.v (.string ⟨#[117, 105, 110, 116, 51, 50]⟩)))), (9, (.c (.v (.string ⟨#[117, 105, 110, 116, 54, 52]⟩)))), (10, (.c (.v (.string ⟨#[115, 105, 110, 116, 51, 50]⟩)))), (11, (.c (.v (.string ⟨#[115, 105, 110, 116, 54, 52]⟩)))), (12, (.c (.v (.string ⟨#[98, 111, 111, 108]⟩)))), (13, (.c (.v (.string ⟨#[102, 105, 120, 101, 100, 51, 50]⟩)))), (14, (.c (.v (.string ⟨#[102, 105, 120, 101, 100, 54, 52]⟩)))), (15, (.c (.v (.string ⟨#[115, 102, 105, 120, 101, 100, 51, 50]⟩)))), (16, (.c (.v (.string ⟨#[115, 102, 105, 120, 101, 100, 54, 52]⟩)))), (17, (.c (.v (.string ⟨#[115, 116, 114, 105, 110, 103]⟩)))), (18, (.c (.v (.string ⟨#[98, 121, 116, 101, 115]⟩)))), (19, (.c (.v (.string ⟨#[114, 101, 110, 97, 109, 101]⟩)))), (20, (.c (.v (.string ⟨#[114, 101, 110, 117, 109, 98, 101, 114]⟩)))), (21, (.c (.v (.string ⟨#[114, 101, 116, 121, 112, 101]⟩)))), (22, (.c (.v (.string ⟨#[115, 112, 108, 105, 116]⟩)))), (23, (.c (.v (.string ⟨#[106, 111, 105, 110]⟩)))), (24, (.c (.v (.string ⟨#[119, 114, 97, 112]⟩)))), (25, (.c (.v (.string ⟨#[117, 110, 119, 114, 97, 112]⟩)))), (26, (.c (.v (.string ⟨#[97, 100, 100]⟩)))), (27, (.c (.v (.string ⟨#[100, 114, 111, 112]⟩)))), (28, (.c (.v (.string ⟨#[116, 111]⟩)))), (29, (.c (.v (.string ⟨#[105, 110, 116, 111]⟩)))), (30, (.c (.v (.string ⟨#[97, 115]⟩)))), (31, (.c (.v (.string ⟨#[111, 102]⟩)))), (32, (.c (.v (.string ⟨#[100, 101, 102, 97, 117, 108, 116]⟩)))), (33, (.c (.v (.string ⟨#[116, 114, 117, 101]⟩)))), (34, (.c (.v (.string ⟨#[102, 97, 108, 115, 101]⟩))))]) (fun x1 ox1 =>
 Xr ox1 [some x1]) ()) () := by kernel_rfl
def c_ref11_words : CF := ⟨0, 2,
  .seq (.reg [] [
  ⟨(some 0), none, .nil 1⟩]) (
  .seq (.reg [] [
  ⟨(some 1), none, .bsl 14 1 [(.v (.string ⟨#[]⟩))] [(0, (.c (.v (.string ⟨#[]⟩)))), (1, (.c (.v (.string ⟨#[105, 110, 116, 51, 50]⟩)))), (2, (.c (.v (.string ⟨#[105, 110, 116, 54, 52]⟩)))), (3, (.c (.v (.string ⟨#[117, 105, 110, 116, 51, 50]⟩)))), (4, (.c (.v (.string ⟨#[117, 105, 110, 116, 54, 52]⟩)))), (5, (.c (.v (.string ⟨#[115, 105, 110, 116, 51, 50]⟩)))), (6, (.c (.v (.string ⟨#[115, 105, 110, 116, 54, 52]⟩)))), (7, (.c (.v (.string ⟨#[98, 111, 111, 108]⟩)))), (8, (.c (.v (.string ⟨#[102, 105, 120, 101, 100, 51, 50]⟩)))), (9, (.c (.v (.string ⟨#[102, 105, 120, 101, 100, 54, 52]⟩)))), (10, (.c (.v (.string ⟨#[115, 102, 105, 120, 101, 100, 51, 50]⟩)))), (11, (.c (.v (.string ⟨#[115, 102, 105, 120, 101, 100, 54, 52]⟩)))), (12, (.c (.v (.string ⟨#[115, 116, 114, 105, 110, 103]⟩)))), (13, (.c (.v (.string ⟨#[98, 121, 116, 101, 115]⟩))))]⟩,
  ⟨(some 0), none, .mv (.t 1)⟩]) (
  .ret)),
  [.t 0]⟩
def v_ref11_words : List Nat := []
set_option maxRecDepth 100000 in
theorem s_ref11_words (call : Eng.Call) (G : Nat → AV) (n : Nat) : denFE call G v_ref11_words n c_ref11_words [] =
 Xx call [] 0 (.nil 1) (fun x0 ox0 =>
 Xx call ox0 1 (.bsl 14 1 [(.v (.string ⟨#[]⟩))] [(0, (.c (.v (.string ⟨#[]⟩)))), (1, (.c (.v (.string ⟨#[105, 110, 116, 51, 50]⟩)))), (2, (.c (.v (.string ⟨#[105, 110, 116, 54, 52]⟩)))), (3, (.c (.v (.string ⟨#[117, 105, 110, 116, 51, 50]⟩)))), (4, (.c (.v (.string ⟨#[117, 105, 110, 116, 54, 52]⟩)))), (5, (.c (.v (.string ⟨#[115, 105, 110, 116, 51, 50]⟩)))), (6, (.c (.v (.string ⟨#[115, 105, 110, 116, 54, 52]⟩)))), (7, (.c (.v (.string ⟨#[98, 111, 111, 108]⟩)))), (8, (.c (.v (.string ⟨#[102, 105, 120, 101, 100, 51, 50]⟩)))), (9, (.c (.v (.string ⟨#[102, 105, 120, 101, 100, 54, 52]⟩)))), (10, (.c (.v (.string ⟨#[115, 102, 105, 120, 101, 100, 51, 50]⟩)))), (11, (.c (.v (.string ⟨#[115, 102, 105, 120, 101, 100, 54, 52]⟩)))), (12, (.c (.v (.string ⟨#[115, 116, 114, 105, 110, 103]⟩)))), (13, (.c (.v (.string ⟨#[98, 121, 116, 101, 115]⟩))))]) (fun x1 ox1 =>
 Xr ox1 [some x1]) ()) () := by kernel_rfl
def c_ident_word : CF := ⟨1, 44,
  .seq (.reg [] [
  ⟨(some 2), none, .mv (.c (.v (.bool false)))⟩]) (
  .seq (.seq (.reg [] [
  ⟨(some 3), none, .mv (.t 0)⟩]) (
  .block 0 (
  .seq (.seq (.reg [] [
  ⟨(some 5), none, .bin .eql (.t 3) (.c (.v (.string ⟨#[101, 110, 117, 109]⟩)))⟩,
  ⟨(some 4), none, .mv (.t 5)⟩]) (
  .cond (.t 4) (
  .skip) (
  .seq (.reg [] [
  ⟨(some 6), none, .bin .eql (.t 3) (.c (.v (.string ⟨#[109, 101, 115, 115, 97, 103, 101]⟩)))⟩,
  ⟨(some 4), none, .mv (.t 6)⟩]) (
  .cond (.t 4) (
  .skip) (
  .seq (.reg [] [
  ⟨(some 7), none, .bin .eql (.t 3) (.c (.v (.string ⟨#[111, 110, 101, 111, 102]⟩)))⟩,
  ⟨(some 4), none, .mv (.t 7)⟩]) (
  .cond (.t 4) (
  .skip) (
  .seq (.reg [] [
  ⟨(some 8), none, .bin .eql (.t 3) (.c (.v (.string ⟨#[114, 101, 112, 101, 97, 116, 101, 100]⟩)))⟩,
  ⟨(some 4), none, .mv (.t 8)⟩]) (
  .cond (.t 4) (
  .skip) (
  .seq (.reg [] [
  ⟨(some 9), none, .bin .eql (.t 3) (.c (.v (.string ⟨#[114, 101, 115, 101, 114, 118, 101, 100]⟩)))⟩,
  ⟨(some 4), none, .mv (.t 9)⟩]) (
  .cond (.t 4) (
  .skip) (
  .reg [] [
  ⟨(some 10), none, .bin .eql (.t 3) (.c (.v (.string ⟨#[108, 111, 111, 115, 101]⟩)))⟩,
  ⟨(some 4), none, .mv (.t 10)⟩]))))))))))) (
  .cond (.t 4) (
  .skip) (
  .seq (.seq (.reg [] [
  ⟨(some 12), none, .bin .eql (.t 3) (.c (.v (.string ⟨#[105, 110, 116, 51, 50]⟩)))⟩,
  ⟨(some 11), none, .mv (.t 12)⟩]) (
  .cond (.t 11) (
  .skip) (
  .seq (.reg [] [
  ⟨(some 13), none, .bin .eql (.t 3) (.c (.v (.string ⟨#[105, 110, 116, 54, 52]⟩)))⟩,
  ⟨(some 11), none, .mv (.t 13)⟩]) (
  .cond (.t 11) (
  .skip) (
  .seq (.reg [] [
  ⟨(some 14), none, .bin .eql (.t 3) (.c (.v (.string ⟨#[117, 105, 110, 116, 51, 50]⟩)))⟩,
  ⟨(some 11), none, .mv (.t 14)⟩]) (
  .cond (.t 11) (
  .skip) (
  .seq (.reg [] [
  ⟨(some 15), none, .bin .eql (.t 3) (.c (.v (.string ⟨#[117, 105, 110, 116, 54, 52]⟩)))⟩,
  ⟨(some 11), none, .mv (.t 15)⟩]) (
  .cond (.t 11) (
  .skip) (
  .seq (.reg [] [
  ⟨(some 16), none, .bin .eql (.t 3) (.c (.v (.string ⟨#[115, 105, 110, 116, 51, 50]⟩)))⟩,
  ⟨(some 11), none, .mv (.t 16)⟩]) (
  .cond (.t 11) (
  .skip) (
  .seq (.reg [] [
  ⟨(some 17), none, .bin .eql (.t 3) (.c (.v (.string ⟨#[115, 105, 110, 116, 54, 52]⟩)))⟩,
  ⟨(some 11), none, .mv (.t 17)⟩]) (
  .cond (.t 11) (
  .skip) (
  .reg [] [
  ⟨(some 18), none, .bin .eql (.t 3) (.c (.v (.string ⟨#[98, 111, 111, 108]⟩)))⟩,
  ⟨(some 11), none, .mv (.t 18)⟩]))))))))))))) (
  .cond (.t 11) (
  .skip) (
  .seq (.seq (.reg [] [
  ⟨(some 20), none, .bin .eql (.t 3) (.c (.v (.string ⟨#[102, 105, 120, 101, 100, 51, 50]⟩)))⟩,
  ⟨(some 19), none, .mv (.t 20)⟩]) (
  .cond (.t 19) (
  .skip) (
  .seq (.reg [] [
  ⟨(some 21), none, .bin .eql (.t 3) (.c (.v (.string ⟨#[102, 105, 120, 101, 100, 54, 52]⟩)))⟩,
  ⟨(some 19), none, .mv (.t 21)⟩]) (
  .cond (.t 19) (
  .skip) (
  .seq (.reg [] [
  ⟨(some 22), none, .bin .eql (.t 3) (.c (.v (.string ⟨#[115, 102, 105, 120, 101, 100, 51, 50]⟩)))⟩,
  ⟨(some 19), none, .mv (.t 22)⟩]) (
  .cond (.t 19) (
  .skip) (
  .seq (.reg [] [
  ⟨(some 23), none, .bin .eql (.t 3) (.c (.v (.string ⟨#[115, 102, 105, 120, 101, 100, 54, 52]⟩)))⟩,
  ⟨(some 19), none, .mv (.t 23)⟩]) (
  .cond (.t 19) (
  .skip) (
  .seq (.reg [] [
  ⟨(some 24), none, .bin .eql (.t 3) (.c (.v (.string ⟨#[115, 116, 114, 105, 110, 103]⟩)))⟩,
  ⟨(some 19), none, .mv (.t 24)⟩]) (
  .cond (.t 19) (
  .skip) (
  .reg [] [
  ⟨(some 25), none, .bin .eql (.t 3) (.c (.v (.string ⟨#[98, 121, 116, 101, 115]⟩)))⟩,
  ⟨(some 19), none, .mv (.t 25)⟩]))))))))))) (
  .cond (.t 19) (
  .skip) (
  .seq (.seq (.reg [] [
  ⟨(some 27), none, .bin .eql (.t 3) (.c (.v (.string ⟨#[114, 101, 110, 97, 109, 101]⟩)))⟩,
  ⟨(some 26), none, .mv (.t 27)⟩]) (
  .cond (.t 26) (
  .skip) (
  .seq (.reg [] [
  ⟨(some 28), none, .bin .eql (.t 3) (.c (.v (.string ⟨#[114, 101, 110, 117, 109, 98, 101, 114]⟩)))⟩,
  ⟨(some 26), none, .mv (.t 28)⟩]) (
  .cond (.t 26) (
  .skip) (
  .seq (.reg [] [
  ⟨(some 29), none, .bin .eql (.t 3) (.c (.v (.string ⟨#[114, 101, 116, 121, 112, 101]⟩)))⟩,
  ⟨(some 26), none, .mv (.t 29)⟩]) (
  .cond (.t 26) (
  .skip) (
  .seq (.reg [] [
  ⟨(some 30), none, .bin .eql (.t 3) (.c (.v (.string ⟨#[115, 112, 108, 105, 116]⟩)))⟩,
  ⟨(some 26), none, .mv (.t 30)⟩]) (
  .cond (.t 26) (
  .skip) (
  .seq (.reg [] [
  ⟨(some 31), none, .bin .eql (.t 3) (.c (.v (.string ⟨#[106, 111, 105, 110]⟩)))⟩,
  ⟨(some 26), none, .mv (.t 31)⟩]) (
  .cond (.t 26) (
  .skip) (
  .seq (.reg [] [
  ⟨(some 32), none, .bin .eql (.t 3) (.c (.v (.string ⟨#[119, 114, 97, 112]⟩)))⟩,
  ⟨(some 26), none, .mv (.t 32)⟩]) (
  .cond (.t 26) (
  .skip) (
  .seq (.reg [] [
  ⟨(some 33), none, .bin .eql (.t 3) (.c (.v (.string ⟨#[117, 110, 119, 114, 97, 112]⟩)))⟩,
  ⟨(some 26), none, .mv (.t 33)⟩]) (
  .cond (.t 26) (
  .skip) (
  .seq (.reg [] [
  ⟨(some 34), none, .bin .eql (.t 3) (.c (.v (.string ⟨#[97, 100, 100]⟩)))⟩,
  ⟨(some 26), none, .mv (.t 34)⟩]) (
  .cond (.t 26) (
  .skip) (
  .reg [] [
  ⟨(some 35), none, .bin .eql (.t 3) (.c (.v (.string ⟨#[100, 114, 111, 112]⟩)))⟩,
  ⟨(some 26), none, .mv (.t 35)⟩]))))))))))))))))) (
  .cond (.t 26) (
  .skip) (
  .seq (.seq (.reg [] [
  ⟨(some 37), none, .bin .eql (.t 3) (.c (.v (.string ⟨#[116, 111]⟩)))⟩,
  ⟨(some 36), none, .mv (.t 37)⟩]) (
  .cond (.t 36) (
  .skip) (
  .seq (.reg [] [
  ⟨(some 38), none, .bin .eql (.t 3) (.c (.v (.string ⟨#[105, 110, 116, 111]⟩)))⟩,
  ⟨(some 36), none, .mv (.t 38)⟩]) (
  .cond (.t 36) (
  .skip) (
  .seq (.reg [] [
  ⟨(some 39), none, .bin .eql (.t 3) (.c (.v (.string ⟨#[97, 115]⟩)))⟩,
  ⟨(some 36), none, .mv (.t 39)⟩]) (
  .cond (.t 36) (
  .skip) (
  .seq (.reg [] [
  ⟨(some 40), none, .bin .eql (.t 3) (.c (.v (.string ⟨#[111, 102]⟩)))⟩,
  ⟨(some 36), none, .mv (.t 40)⟩]) (
  .cond (.t 36) (
  .skip) (
  .seq (.reg [] [
  ⟨(some 41), none, .bin .eql (.t 3) (.c (.v (.string ⟨#[100, 101, 102, 97, 117, 108, 116]⟩)))⟩,
  ⟨(some 36), none, .mv (.t 41)⟩]) (
  .cond (.t 36) (
  .skip) (
  .seq (.reg [] [
  ⟨(some 42), none, .bin .eql (.t 3) (.c (.v (.string ⟨#[116, 114, 117, 101]⟩)))⟩,
  ⟨(some 36), none, .mv (.t 42)⟩]) (
  .cond (.t 36) (
  .skip) (
  .reg [] [
  ⟨(some 43), none, .bin .eql (.t 3) (.c (.v (.string ⟨#[102, 97, 108, 115, 101]⟩)))⟩,
  ⟨(some 36), none, .mv (.t 43)⟩]))))))))))))) (
  .cond (.t 36) (
  .skip) (
  .seq (.reg [] [
  ⟨(some 2), none, .mv (.c (.v (.bool false)))⟩]) (
  .ret)))))))))))))) (
  .seq (.reg [] [
  ⟨(some 2), none, .mv (.c (.v (.bool true)))⟩]) (
  .ret))),
  [.t 2]⟩
def v_ident_word : List Nat := []
def J_ident_word_0 (call : Eng.Call) (G : Nat → AV) (n : Nat) (oJ : Objs) (z3z z26z : AV) : Out :=
 Xc z26z (fun _ =>
 Xr oJ [some (.v (.bool true))]) (fun _ =>
 Xq (.bin .eql (.c z3z) (.c (.v (.string ⟨#[116, 111]⟩)))) (fun x1 =>
 Xc x1 (fun _ =>
 Xc x1 (fun _ =>
 Xr oJ [some (.v (.bool true))]) (fun _ =>
 Xr oJ [some (.v (.bool false))]) () ()) (fun _ =>
 Xq (.bin .eql (.c z3z) (.c (.v (.string ⟨#[105, 110, 116, 111]⟩)))) (fun x2 =>
 Xc x2 (fun _ =>
 Xc x2 (fun _ =>
 Xr oJ [some (.v (.bool true))]) (fun _ =>
 Xr oJ [some (.v (.bool false))]) () ()) (fun _ =>
 Xq (.bin .eql (.c z3z) (.c (.v (.string ⟨#[97, 115]⟩)))) (fun x3 =>
 Xc x3 (fun _ =>
 Xc x3 (fun _ =>
 Xr oJ [some (.v (.bool true))]) (fun _ =>
 Xr oJ [some (.v (.bool false))]) () ()) (fun _ =>
 Xq (.bin .eql (.c z3z) (.c (.v (.string ⟨#[111, 102]⟩)))) (fun x4 =>
 Xc x4 (fun _ =>
 Xc x4 (fun _ =>
 Xr oJ [some (.v (.bool true))]) (fun _ =>
 Xr oJ [some (.v (.bool false))]) () ()) (fun _ =>
 Xq (.bin .eql (.c z3z) (.c (.v (.string ⟨#[100, 101, 102, 97, 117, 108, 116]⟩)))) (fun x5 =>
 Xc x5 (fun _ =>
 Xc x5 (fun _ =>
 Xr oJ [some (.v (.bool true))]) (fun _ =>
 Xr oJ [some (.v (.bool false))]) () ()) (fun _ =>
 Xq (.bin .eql (.c z3z) (.c (.v (.string ⟨#[116, 114, 117, 101]⟩)))) (fun x6 =>
 Xc x6 (fun _ =>
 Xc x6 (fun _ =>
 Xr oJ [some (.v (.bool true))]) (fun _ =>
 Xr oJ [some (.v (.bool false))]) () ()) (fun _ =>
 Xq (.bin .eql (.c z3z) (.c (.v (.string ⟨#[102, 97, 108, 115, 101]⟩)))) (fun x7 =>
 Xc x7 (fun _ =>
 Xr oJ [some (.v (.bool true))]) (fun _ =>
 Xr oJ [some (.v (.bool false))]) () ()) ()) () ()) ()) () ()) ()) () ()) ()) () ()) ()) () ()) ()) () ()) ()) () ()
def J_ident_word_1 (call : Eng.Call) (G : Nat → AV) (n : Nat) (oJ : Objs) (z3z z19z : AV) : Out :=
 Xc z19z (fun _ =>
 Xr oJ [some (.v (.bool true))]) (fun _ =>
 Xq (.bin .eql (.c z3z) (.c (.v (.string ⟨#[114, 101, 110, 97, 109, 101]⟩)))) (fun x8 =>
 Xc x8 (fun _ =>
 J_ident_word_0 call G n oJ z3z x8) (fun _ =>
 Xq (.bin .eql (.c z3z) (.c (.v (.string ⟨#[114, 101, 110, 117, 109, 98, 101, 114]⟩)))) (fun x9 =>
 Xc x9 (fun _ =>
 J_ident_word_0 call G n oJ z3z x9) (fun _ =>
 Xq (.bin .eql (.c z3z) (.c (.v (.string ⟨#[114, 101, 116, 121, 112, 101]⟩)))) (fun x10 =>
 Xc x10 (fun _ =>
 J_ident_word_0 call G n oJ z3z x10) (fun _ =>
 Xq (.bin .eql (.c z3z) (.c (.v (.string ⟨#[115, 112, 108, 105, 116]⟩)))) (fun x11 =>
 Xc x11 (fun _ =>
 J_ident_word_0 call G n oJ z3z x11) (fun _ =>
 Xq (.bin .eql (.c z3z) (.c (.v (.string ⟨#[106, 111, 105, 110]⟩)))) (fun x12 =>
 Xc x12 (fun _ =>
 J_ident_word_0 call G n oJ z3z x12) (fun _ =>
 Xq (.bin .eql (.c z3z) (.c (.v (.string ⟨#[119, 114, 97, 112]⟩)))) (fun x13 =>
 Xc x13 (fun _ =>
 J_ident_word_0 call G n oJ z3z x13) (fun _ =>
 Xq (.bin .eql (.c z3z) (.c (.v (.string ⟨#[117, 110, 119, 114, 97, 112]⟩)))) (fun x14 =>
 Xc x14 (fun _ =>
 J_ident_word_0 call G n oJ z3z x14) (fun _ =>
 Xq (.bin .eql (.c z3z) (.c (.v (.string ⟨#[97, 100, 100]⟩)))) (fun x15 =>
 Xc x15 (fun _ =>
 J_ident_word_0 call G n oJ z3z x15) (fun _ =>
 Xq (.bin .eql (.c z3z) (.c (.v (.string ⟨#[100, 114, 111, 112]⟩)))) (fun x16 =>
 J_ident_word_0 call G n oJ z3z x16) ()) () ()) ()) () ()) ()) () ()) ()) () ()) ()) () ()) ()) () ()) ()) () ()) ()) () ()) ()) () ()
def J_ident_word_2 (call : Eng.Call) (G : Nat → AV) (n : Nat) (oJ : Objs) (z3z z11z : AV) : Out :=
 Xc z11z (fun _ =>
 Xr oJ [some (.v (.bool true))]) (fun _ =>
 Xq (.bin .eql (.c z3z) (.c (.v (.string ⟨#[102, 105, 120, 101, 100, 51, 50]⟩)))) (fun x17 =>
 Xc x17 (fun _ =>
 J_ident_word_1 call G n oJ z3z x17) (fun _ =>
 Xq (.bin .eql (.c z3z) (.c (.v (.string ⟨#[102, 105, 120, 101, 100, 54, 52]⟩)))) (fun x18 =>
 Xc x18 (fun _ =>
 J_ident_word_1 call G n oJ z3z x18) (fun _ =>
 Xq (.bin .eql (.c z3z) (.c (.v (.string ⟨#[115, 102, 105, 120, 101, 100, 51, 50]⟩)))) (fun x19 =>
 Xc x19 (fun _ =>
 J_ident_word_1 call G n oJ z3z x19) (fun _ =>
 Xq (.bin .eql (.c z3z) (.c (.v (.string ⟨#[115, 102, 105, 120, 101, 100, 54, 52]⟩)))) (fun x20 =>
 Xc x20 (fun _ =>
 J_ident_word_1 call G n oJ z3z x20) (fun _ =>
 Xq (.bin .eql (.c z3z) (.c (.v (.string ⟨#[115, 116, 114, 105, 110, 103]⟩)))) (fun x21 =>
 Xc x21 (fun _ =>
 J_ident_word_1 call G n oJ z3z x21) (fun _ =>
 Xq (.bin .eql (.c z3z) (.c (.v (.string ⟨#[98, 121, 116, 101, 115]⟩)))) (fun x22 =>
 J_ident_word_1 call G n oJ z3z x22) ()) () ()) ()) () ()) ()) () ()) ()) () ()) ()) () ()) ()) () ()
def J_ident_word_3 (call : Eng.Call) (G : Nat → AV) (n : Nat) (oJ : Objs) (z3z z4z : AV) : Out :=
 Xc z4z (fun _ =>
 Xr oJ [some (.v (.bool true))]) (fun _ =>
 Xq (.bin .eql (.c z3z) (.c (.v (.string ⟨#[105, 110, 116, 51, 50]⟩)))) (fun x23 =>
 Xc x23 (fun _ =>
 J_ident_word_2 call G n oJ z3z x23) (fun _ =>
 Xq (.bin .eql (.c z3z) (.c (.v (.string ⟨#[105, 110, 116, 54, 52]⟩)))) (fun x24 =>
 Xc x24 (fun _ =>
 J_ident_word_2 call G n oJ z3z x24) (fun _ =>
 Xq (.bin .eql (.c z3z) (.c (.v (.string ⟨#[117, 105, 110, 116, 51, 50]⟩)))) (fun x25 =>
 Xc x25 (fun _ =>
 J_ident_word_2 call G n oJ z3z x25) (fun _ =>
 Xq (.bin .eql (.c z3z) (.c (.v (.string ⟨#[117, 105, 110, 116, 54, 52]⟩)))) (fun x26 =>
 Xc x26 (fun _ =>
 J_ident_word_2 call G n oJ z3z x26) (fun _ =>
 Xq (.bin .eql (.c z3z) (.c (.v (.string ⟨#[115, 105, 110, 116, 51, 50]⟩)))) (fun x27 =>
 Xc x27 (fun _ =>
 J_ident_word_2 call G n oJ z3z x27) (fun _ =>
 Xq (.bin .eql (.c z3z) (.c (.v (.string ⟨#[115, 105, 110, 116, 54, 52]⟩)))) (fun x28 =>
 Xc x28 (fun _ =>
 J_ident_word_2 call G n oJ z3z x28) (fun _ =>
 Xq (.bin .eql (.c z3z) (.c (.v (.string ⟨#[98, 111, 111, 108]⟩)))) (fun x29 =>
 J_ident_word_2 call G n oJ z3z x29) ()) () ()) ()) () ()) ()) () ()) ()) () ()) ()) () ()) ()) () ()) ()) () ()
set_option maxRecDepth 100000 in
theorem s_ident_word (call : Eng.Call) (G : Nat → AV) (n : Nat) (x0 : AV) : denFE call G v_ident_word n c_ident_word [x0] =
 Xq (.bin .eql (.c x0) (.c (.v (.string ⟨#[101, 110, 117, 109]⟩)))) (fun x30 =>
 Xc x30 (fun _ =>
 J_ident_word_3 call G n [] x0 x30) (fun _ =>
 Xq (.bin .eql (.c x0) (.c (.v (.string ⟨#[109, 101, 115, 115, 97, 103, 101]⟩)))) (fun x31 =>
 Xc x31 (fun _ =>
 J_ident_word_3 call G n [] x0 x31) (fun _ =>
 Xq (.bin .eql (.c x0) (.c (.v (.string ⟨#[111, 110, 101, 111, 102]⟩)))) (fun x32 =>
 Xc x32 (fun _ =>
 J_ident_word_3 call G n [] x0 x32) (fun _ =>
 Xq (.bin .eql (.c x0) (.c (.v (.string ⟨#[114, 101, 112, 101, 97, 116, 101, 100]⟩)))) (fun x33 =>
 Xc x33 (fun _ =>
 J_ident_word_3 call G n [] x0 x33) (fun _ =>
 Xq (.bin .eql (.c x0) (.c (.v (.string ⟨#[114, 101, 115, 101, 114, 118, 101, 100]⟩)))) (fun x34 =>
 Xc x34 (fun _ =>
 J_ident_word_3 call G n [] x0 x34) (fun _ =>
 Xq (.bin .eql (.c x0) (.c (.v (.string ⟨#[108, 111, 111, 115, 101]⟩)))) (fun x35 =>
 J_ident_word_3 call G n [] x0 x35) ()) () ()) ()) () ()) ()) () ()) ()) () ()) ()) () ()) () := by kernel_rfl
end Go.Proofs.YticmmpiffekbiaaDoor.Fd
