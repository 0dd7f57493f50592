/- The small code of what the statement reaches, and what it comes to with names for slots. -/
import Derived.Test.YticmmpiffekbiaaDoorEng5
import Derived.WalkKit
import Derived.ProofKit
namespace Go.Proofs.YticmmpiffekbiaaDoor.Ct
open Go Go.Proofs.YticmmpiffekbiaaDoor.Eng
set_option linter.unusedVariables false
abbrev i_law13_ConvTexts : FuncId := 6
abbrev i_conv_Conv : FuncId := 10
abbrev i_ref11_May : FuncId := 12
abbrev i_law13_live : FuncId := 13
abbrev i_conv_Read : FuncId := 14
abbrev i_conv_Digits : FuncId := 16
abbrev i_ref13_Digits : FuncId := 17
abbrev i_ref11_Whole : FuncId := 18
abbrev i_ref10_All : FuncId := 19
abbrev i_conv_right : FuncId := 31
abbrev i_conv_of : FuncId := 32
abbrev i__conv_number__value : FuncId := 33
abbrev i_ref13_split : FuncId := 34
abbrev i_ref11_Wide : FuncId := 35
abbrev i_ref11_Signed : FuncId := 36
abbrev i_ref02_Fits : FuncId := 37
abbrev i_conv_zero : FuncId := 38
abbrev i_lex_Digits : FuncId := 39
abbrev i_ref10_Digits : FuncId := 40
abbrev i_ref10_pass : FuncId := 41
abbrev i_ref10_one : FuncId := 42
abbrev i_scalar_Whole : FuncId := 52
abbrev i_scalar_May : FuncId := 53
abbrev i_scalar_Signed : FuncId := 54
abbrev i_strconv_FormatUint : FuncId := 55
abbrev i_ref10_word : FuncId := 56
abbrev i_ref10_number : FuncId := 57
abbrev i_ref10_text : FuncId := 58
abbrev i_ref10_mark : FuncId := 59
abbrev i_scalar_kind : FuncId := 62
abbrev i_ref09_Letter : FuncId := 64
abbrev i_scalar_Wide : FuncId := 67
abbrev i_zig_Fits : FuncId := 68
abbrev i_ref10_digit : FuncId := 70
def c_law13_ConvTexts : CF := ⟨2, 75,
  .seq (.reg [] [
  ⟨(some 4), none, .mv (.c (.v (.bool false)))⟩]) (
  .seq (.reg [] [
  ⟨(some 11), none, .mv (.t 0)⟩,
  ⟨(some 12), none, .mv (.t 1)⟩,
  ⟨(some 13), none, .call false i_conv_Digits [(.t 11), (.t 12)]⟩,
  ⟨(some 5), none, .mv (.t 13)⟩]) (
  .seq (.seq (.reg [] [
  ⟨(some 14), none, .mv (.t 5)⟩,
  ⟨(some 15), none, .mv (.t 0)⟩,
  ⟨(some 16), none, .mv (.t 1)⟩,
  ⟨(some 17), none, .call false i_ref13_Digits [(.t 15), (.t 16)]⟩,
  ⟨(some 18), none, .bin .neq (.t 14) (.t 17)⟩]) (
  .cond (.t 18) (
  .seq (.reg [] [
  ⟨(some 4), none, .mv (.c (.v (.bool false)))⟩]) (
  .ret)) (
  .skip))) (
  .seq (.seq (.reg [] [
  ⟨(some 19), none, .mv (.t 5)⟩,
  ⟨(some 20), none, .bin .eql (.t 19) (.c (.v (.string ⟨#[]⟩)))⟩]) (
  .cond (.t 20) (
  .seq (.reg [] [
  ⟨(some 21), none, .mv (.t 0)⟩,
  ⟨(some 22), none, .call false i_ref11_Whole [(.t 21)]⟩,
  ⟨(some 23), none, .not (.t 22)⟩,
  ⟨(some 24), none, .mv (.t 23)⟩,
  ⟨(some 25), (some (24, false)), .mv (.t 0)⟩,
  ⟨(some 26), (some (24, false)), .mv (.t 1)⟩,
  ⟨(some 27), (some (24, false)), .call false i_ref11_May [(.t 25), (.t 26)]⟩,
  ⟨(some 28), (some (24, false)), .not (.t 27)⟩,
  ⟨(some 29), none, .pick (.t 24) (.c (.v (.bool true))) (.t 28)⟩,
  ⟨(some 30), none, .mv (.t 29)⟩,
  ⟨(some 31), (some (30, true)), .call false i_law13_live []⟩,
  ⟨(some 32), none, .pick (.t 30) (.t 31) (.c (.v (.bool false)))⟩,
  ⟨(some 4), none, .mv (.t 32)⟩]) (
  .ret)) (
  .skip))) (
  .seq (.reg [] [
  ⟨(some 34), none, .mv (.t 5)⟩,
  ⟨(some 35), none, .call false i_ref10_All [(.t 34), (.c (.v (.int .i64 100)))]⟩,
  ⟨(some 33), none, .mv (.t 35)⟩,
  ⟨(some 36), none, .ext (.t 33) 0⟩,
  ⟨(some 37), none, .ext (.t 33) 1⟩,
  ⟨(some 38), none, .ext (.t 33) 2⟩,
  ⟨(some 6), none, .mv (.t 36)⟩,
  ⟨(some 7), none, .mv (.t 37)⟩,
  ⟨(some 8), none, .mv (.t 38)⟩]) (
  .seq (.seq (.reg [] [
  ⟨(some 39), none, .mv (.t 8)⟩,
  ⟨(some 40), none, .bin .neq (.t 39) (.c (.v (.int .i64 0)))⟩,
  ⟨(some 41), none, .mv (.t 40)⟩,
  ⟨(some 42), (some (41, false)), .mv (.t 6)⟩,
  ⟨(some 43), (some (41, false)), .len false (.t 42)⟩,
  ⟨(some 44), (some (41, false)), .bin .neq (.t 43) (.c (.v (.int .i64 2)))⟩,
  ⟨(some 45), none, .pick (.t 41) (.c (.v (.bool true))) (.t 44)⟩,
  ⟨(some 46), none, .mv (.t 45)⟩,
  ⟨(some 47), (some (46, false)), .mv (.t 6)⟩,
  ⟨(some 48), (some (46, false)), .ias 5 (.t 47) (.c (.v (.int .i64 0)))⟩,
  ⟨(some 49), (some (46, false)), .fad (.t 48) 0⟩,
  ⟨(some 50), (some (46, false)), .ld false 1 (.t 49)⟩,
  ⟨(some 51), (some (46, false)), .bin .neq (.t 50) (.c (.v (.int .i64 2)))⟩,
  ⟨(some 52), none, .pick (.t 46) (.c (.v (.bool true))) (.t 51)⟩]) (
  .cond (.t 52) (
  .seq (.reg [] [
  ⟨(some 4), none, .mv (.c (.v (.bool false)))⟩]) (
  .ret)) (
  .skip))) (
  .seq (.reg [
  ⟨(some 54), none, .mv (.t 0)⟩,
  ⟨(some 55), none, .mv (.t 6)⟩,
  ⟨(some 56), none, .ias 5 (.t 55) (.c (.v (.int .i64 0)))⟩,
  ⟨(some 57), none, .fad (.t 56) 2⟩,
  ⟨(some 58), none, .ld false 1 (.t 57)⟩,
  ⟨(some 59), none, .mv (.t 6)⟩,
  ⟨(some 60), none, .ias 5 (.t 59) (.c (.v (.int .i64 0)))⟩,
  ⟨(some 61), none, .fad (.t 60) 3⟩,
  ⟨(some 62), none, .ld false 1 (.t 61)⟩,
  ⟨(some 63), none, .call false i_conv_Read [(.t 54), (.t 58), (.t 62)]⟩,
  ⟨(some 53), none, .mv (.t 63)⟩,
  ⟨(some 64), none, .ext (.t 53) 0⟩,
  ⟨(some 65), none, .ext (.t 53) 1⟩,
  ⟨(some 9), none, .mv (.t 64)⟩] [
  ⟨(some 10), none, .mv (.t 65)⟩]) (
  .seq (.reg [] [
  ⟨(some 66), none, .mv (.t 10)⟩,
  ⟨(some 67), none, .mv (.t 66)⟩,
  ⟨(some 68), (some (67, true)), .mv (.t 9)⟩,
  ⟨(some 69), (some (67, true)), .mv (.t 1)⟩,
  ⟨(some 70), (some (67, true)), .bin .eql (.t 68) (.t 69)⟩,
  ⟨(some 71), none, .pick (.t 67) (.t 70) (.c (.v (.bool false)))⟩,
  ⟨(some 72), none, .mv (.t 71)⟩,
  ⟨(some 73), (some (72, true)), .call false i_law13_live []⟩,
  ⟨(some 74), none, .pick (.t 72) (.t 73) (.c (.v (.bool false)))⟩,
  ⟨(some 4), none, .mv (.t 74)⟩]) (
  .ret)))))))),
  [.t 4]⟩
def v_law13_ConvTexts : List Nat := []
set_option maxRecDepth 100000 in
theorem s_law13_ConvTexts (call : Eng.Call) (G : Nat → AV) (n : Nat) (x0 x1 : AV) : denFE call G v_law13_ConvTexts n c_law13_ConvTexts [x0, x1] =
 Xx call [] 13 (.call false i_conv_Digits [(.c x0), (.c x1)]) (fun x2 ox2 =>
 Xx call ox2 17 (.call false i_ref13_Digits [(.c x0), (.c x1)]) (fun x3 ox3 =>
 Xq (.bin .neq (.c x2) (.c x3)) (fun x4 =>
 Xc x4 (fun _ =>
 Xr ox3 [some (.v (.bool false))]) (fun _ =>
 Xq (.bin .eql (.c x2) (.c (.v (.string ⟨#[]⟩)))) (fun x5 =>
 Xc x5 (fun _ =>
 Xx call ox3 22 (.call false i_ref11_Whole [(.c x0)]) (fun x6 ox6 =>
 Xq (.not (.c x6)) (fun x7 =>
 Xgq x7 false (.mv (.c x0)) (fun x8 =>
 Xgq x7 false (.mv (.c x1)) (fun x9 =>
 Xxg call x7 false ox6 27 (.call false i_ref11_May [(.c x8), (.c x9)]) (fun x10 ox10 =>
 Xgq x7 false (.not (.c x10)) (fun x11 =>
 Xq (.pick (.c x7) (.c (.v (.bool true))) (.c x11)) (fun x12 =>
 Xxg call x12 true ox10 31 (.call false i_law13_live []) (fun x13 ox13 =>
 Xq (.pick (.c x12) (.c x13) (.c (.v (.bool false)))) (fun x14 =>
 Xr ox13 [some x14]) ()) ()) ()) ()) ()) ()) ()) ()) ()) (fun _ =>
 Xx call ox3 35 (.call false i_ref10_All [(.c x2), (.c (.v (.int .i64 100)))]) (fun x15 ox15 =>
 Xq (.ext (.c x15) 0) (fun x16 =>
 Xq (.ext (.c x15) 1) (fun x17 =>
 Xq (.ext (.c x15) 2) (fun x18 =>
 Xq (.bin .neq (.c x18) (.c (.v (.int .i64 0)))) (fun x19 =>
 Xgq x19 false (.mv (.c x16)) (fun x20 =>
 Xgq x19 false (.len false (.c x20)) (fun x21 =>
 Xgq x19 false (.bin .neq (.c x21) (.c (.v (.int .i64 2)))) (fun x22 =>
 Xq (.pick (.c x19) (.c (.v (.bool true))) (.c x22)) (fun x23 =>
 Xgq x23 false (.mv (.c x16)) (fun x24 =>
 Xgq x23 false (.ias 5 (.c x24) (.c (.v (.int .i64 0)))) (fun x25 =>
 Xgq x23 false (.fad (.c x25) 0) (fun x26 =>
 Xxg call x23 false ox15 50 (.ld false 1 (.c x26)) (fun x27 ox27 =>
 Xgq x23 false (.bin .neq (.c x27) (.c (.v (.int .i64 2)))) (fun x28 =>
 Xq (.pick (.c x23) (.c (.v (.bool true))) (.c x28)) (fun x29 =>
 Xc x29 (fun _ =>
 Xr ox27 [some (.v (.bool false))]) (fun _ =>
 Xq (.ias 5 (.c x16) (.c (.v (.int .i64 0)))) (fun x30 =>
 Xq (.fad (.c x30) 2) (fun x31 =>
 Xp call ox27 58 (.ld false 1 (.c x31)) (fun x32 nx32 sx32 =>
 Xq (.ias 5 (.c x16) (.c (.v (.int .i64 0)))) (fun x33 =>
 Xq (.fad (.c x33) 3) (fun x34 =>
 Xp call ox27 62 (.ld false 1 (.c x34)) (fun x35 nx35 sx35 =>
 Xp call ox27 63 (.call false i_conv_Read [(.c x0), (.c x32), (.c x35)]) (fun x36 nx36 sx36 =>
 Xq (.ext (.c x36) 0) (fun x37 =>
 Xq (.ext (.c x36) 1) (fun x38 =>
 Xgq x38 true (.mv (.c x37)) (fun x39 =>
 Xgq x38 true (.mv (.c x1)) (fun x40 =>
 Xgq x38 true (.bin .eql (.c x39) (.c x40)) (fun x41 =>
 Xq (.pick (.c x38) (.c x41) (.c (.v (.bool false)))) (fun x42 =>
 Xxg call x42 true (finO ox27 (nx32 ++ nx35 ++ nx36) (sx32 ++ sx35 ++ sx36)) 73 (.call false i_law13_live []) (fun x43 ox43 =>
 Xq (.pick (.c x42) (.c x43) (.c (.v (.bool false)))) (fun x44 =>
 Xr ox43 [some x44]) ()) ()) ()) ()) ()) ()) ()) ()) ()) ()) ()) ()) ()) ()) ()) () ()) ()) ()) ()) ()) ()) ()) ()) ()) ()) ()) ()) ()) ()) ()) ()) () ()) ()) () ()) ()) ()) () := by kernel_rfl
def c_conv_Conv : CF := ⟨3, 19,
  .seq (.reg [] [
  ⟨(some 6), none, .mv (.c (.v (.int .u64 0)))⟩,
  ⟨(some 7), none, .mv (.c (.v (.bool false)))⟩]) (
  .seq (.seq (.reg [] [
  ⟨(some 8), none, .mv (.t 0)⟩,
  ⟨(some 9), none, .mv (.t 2)⟩,
  ⟨(some 10), none, .call false i_conv_right [(.t 8), (.t 9)]⟩,
  ⟨(some 11), none, .not (.t 10)⟩]) (
  .cond (.t 11) (
  .seq (.reg [] [
  ⟨(some 6), none, .mv (.c (.v (.int .u64 0)))⟩,
  ⟨(some 7), none, .mv (.c (.v (.bool false)))⟩]) (
  .ret)) (
  .skip))) (
  .seq (.reg [] [
  ⟨(some 12), none, .mv (.t 0)⟩,
  ⟨(some 13), none, .mv (.t 2)⟩,
  ⟨(some 14), none, .call false i_conv_of [(.t 12), (.t 13)]⟩,
  ⟨(some 15), none, .mv (.t 1)⟩,
  ⟨(some 16), none, .call false i__conv_number__value [(.t 14), (.t 15)]⟩,
  ⟨(some 17), none, .ext (.t 16) 0⟩,
  ⟨(some 18), none, .ext (.t 16) 1⟩,
  ⟨(some 6), none, .mv (.t 17)⟩,
  ⟨(some 7), none, .mv (.t 18)⟩]) (
  .ret))),
  [.t 6, .t 7]⟩
def v_conv_Conv : List Nat := []
set_option maxRecDepth 100000 in
theorem s_conv_Conv (call : Eng.Call) (G : Nat → AV) (n : Nat) (x0 x1 x2 : AV) : denFE call G v_conv_Conv n c_conv_Conv [x0, x1, x2] =
 Xx call [] 10 (.call false i_conv_right [(.c x0), (.c x2)]) (fun x3 ox3 =>
 Xq (.not (.c x3)) (fun x4 =>
 Xc x4 (fun _ =>
 Xr ox3 [some (.v (.int .u64 0)), some (.v (.bool false))]) (fun _ =>
 Xx call ox3 14 (.call false i_conv_of [(.c x0), (.c x2)]) (fun x5 ox5 =>
 Xx call ox5 16 (.call false i__conv_number__value [(.c x5), (.c x1)]) (fun x6 ox6 =>
 Xq (.ext (.c x6) 0) (fun x7 =>
 Xq (.ext (.c x6) 1) (fun x8 =>
 Xr ox6 [some x7, some x8]) ()) ()) ()) ()) () ()) ()) () := by kernel_rfl
def c_ref11_May : CF := ⟨2, 32,
  .seq (.reg [] [
  ⟨(some 4), none, .mv (.c (.v (.bool false)))⟩]) (
  .seq (.seq (.reg [] [
  ⟨(some 5), none, .mv (.t 0)⟩,
  ⟨(some 6), none, .bin .lss (.t 5) (.c (.v (.int .i64 1)))⟩,
  ⟨(some 7), none, .mv (.t 6)⟩,
  ⟨(some 8), (some (7, false)), .mv (.t 0)⟩,
  ⟨(some 9), (some (7, false)), .bin .gtr (.t 8) (.c (.v (.int .i64 15)))⟩,
  ⟨(some 10), none, .pick (.t 7) (.c (.v (.bool true))) (.t 9)⟩]) (
  .cond (.t 10) (
  .seq (.reg [] [
  ⟨(some 4), none, .mv (.c (.v (.bool false)))⟩]) (
  .ret)) (
  .skip))) (
  .seq (.seq (.reg [] [
  ⟨(some 11), none, .mv (.t 0)⟩,
  ⟨(some 12), none, .call false i_ref11_Wide [(.t 11)]⟩]) (
  .cond (.t 12) (
  .seq (.reg [] [
  ⟨(some 4), none, .mv (.c (.v (.bool true)))⟩]) (
  .ret)) (
  .skip))) (
  .seq (.seq (.reg [] [
  ⟨(some 13), none, .mv (.t 0)⟩,
  ⟨(some 14), none, .call false i_ref11_Signed [(.t 13)]⟩]) (
  .cond (.t 14) (
  .seq (.reg [] [
  ⟨(some 15), none, .mv (.t 1)⟩,
  ⟨(some 16), none, .cvi .i64 (.t 15)⟩,
  ⟨(some 17), none, .call false i_ref02_Fits [(.t 16)]⟩,
  ⟨(some 4), none, .mv (.t 17)⟩]) (
  .ret)) (
  .skip))) (
  .seq (.seq (.reg [] [
  ⟨(some 18), none, .mv (.t 0)⟩,
  ⟨(some 19), none, .bin .eql (.t 18) (.c (.v (.int .i64 3)))⟩,
  ⟨(some 20), none, .mv (.t 19)⟩,
  ⟨(some 21), (some (20, false)), .mv (.t 0)⟩,
  ⟨(some 22), (some (20, false)), .bin .eql (.t 21) (.c (.v (.int .i64 8)))⟩,
  ⟨(some 23), none, .pick (.t 20) (.c (.v (.bool true))) (.t 22)⟩]) (
  .cond (.t 23) (
  .seq (.reg [] [
  ⟨(some 24), none, .mv (.t 1)⟩,
  ⟨(some 25), none, .bin .lss (.t 24) (.c (.v (.int .u64 4294967296)))⟩,
  ⟨(some 4), none, .mv (.t 25)⟩]) (
  .ret)) (
  .skip))) (
  .seq (.seq (.reg [] [
  ⟨(some 26), none, .mv (.t 0)⟩,
  ⟨(some 27), none, .bin .eql (.t 26) (.c (.v (.int .i64 7)))⟩]) (
  .cond (.t 27) (
  .seq (.reg [] [
  ⟨(some 28), none, .mv (.t 1)⟩,
  ⟨(some 29), none, .bin .lss (.t 28) (.c (.v (.int .u64 2)))⟩,
  ⟨(some 4), none, .mv (.t 29)⟩]) (
  .ret)) (
  .skip))) (
  .seq (.reg [] [
  ⟨(some 30), none, .mv (.t 1)⟩,
  ⟨(some 31), none, .bin .eql (.t 30) (.c (.v (.int .u64 0)))⟩,
  ⟨(some 4), none, .mv (.t 31)⟩]) (
  .ret))))))),
  [.t 4]⟩
def v_ref11_May : List Nat := []
set_option maxRecDepth 100000 in
theorem s_ref11_May (call : Eng.Call) (G : Nat → AV) (n : Nat) (x0 x1 : AV) : denFE call G v_ref11_May n c_ref11_May [x0, x1] =
 Xq (.bin .lss (.c x0) (.c (.v (.int .i64 1)))) (fun x2 =>
 Xgq x2 false (.mv (.c x0)) (fun x3 =>
 Xgq x2 false (.bin .gtr (.c x3) (.c (.v (.int .i64 15)))) (fun x4 =>
 Xq (.pick (.c x2) (.c (.v (.bool true))) (.c x4)) (fun x5 =>
 Xc x5 (fun _ =>
 Xr [] [some (.v (.bool false))]) (fun _ =>
 Xx call [] 12 (.call false i_ref11_Wide [(.c x0)]) (fun x6 ox6 =>
 Xc x6 (fun _ =>
 Xr ox6 [some (.v (.bool true))]) (fun _ =>
 Xx call ox6 14 (.call false i_ref11_Signed [(.c x0)]) (fun x7 ox7 =>
 Xc x7 (fun _ =>
 Xq (.cvi .i64 (.c x1)) (fun x8 =>
 Xx call ox7 17 (.call false i_ref02_Fits [(.c x8)]) (fun x9 ox9 =>
 Xr ox9 [some x9]) ()) ()) (fun _ =>
 Xq (.bin .eql (.c x0) (.c (.v (.int .i64 3)))) (fun x10 =>
 Xgq x10 false (.mv (.c x0)) (fun x11 =>
 Xgq x10 false (.bin .eql (.c x11) (.c (.v (.int .i64 8)))) (fun x12 =>
 Xq (.pick (.c x10) (.c (.v (.bool true))) (.c x12)) (fun x13 =>
 Xc x13 (fun _ =>
 Xq (.bin .lss (.c x1) (.c (.v (.int .u64 4294967296)))) (fun x14 =>
 Xr ox7 [some x14]) ()) (fun _ =>
 Xq (.bin .eql (.c x0) (.c (.v (.int .i64 7)))) (fun x15 =>
 Xc x15 (fun _ =>
 Xq (.bin .lss (.c x1) (.c (.v (.int .u64 2)))) (fun x16 =>
 Xr ox7 [some x16]) ()) (fun _ =>
 Xq (.bin .eql (.c x1) (.c (.v (.int .u64 0)))) (fun x17 =>
 Xr ox7 [some x17]) ()) () ()) ()) () ()) ()) ()) ()) ()) () ()) ()) () ()) ()) () ()) ()) ()) ()) () := by kernel_rfl
def c_law13_live : CF := ⟨0, 13,
  .seq (.reg [] [
  ⟨(some 0), none, .mv (.c (.v (.bool false)))⟩]) (
  .seq (.reg [] [
  ⟨(some 4), none, .call false i_conv_Conv [(.c (.v (.int .i64 2))), (.c (.v (.int .i64 3))), (.c (.v (.int .u64 18446744073709551615)))]⟩,
  ⟨(some 3), none, .mv (.t 4)⟩,
  ⟨(some 5), none, .ext (.t 3) 0⟩,
  ⟨(some 6), none, .ext (.t 3) 1⟩,
  ⟨(some 1), none, .mv (.t 5)⟩,
  ⟨(some 2), none, .mv (.t 6)⟩]) (
  .seq (.reg [] [
  ⟨(some 7), none, .mv (.t 2)⟩,
  ⟨(some 8), none, .not (.t 7)⟩,
  ⟨(some 9), none, .mv (.t 8)⟩,
  ⟨(some 10), (some (9, true)), .call false i_conv_Digits [(.c (.v (.int .i64 1))), (.c (.v (.int .u64 18446744073709551615)))]⟩,
  ⟨(some 11), (some (9, true)), .bin .eql (.t 10) (.c (.v (.string ⟨#[45, 49]⟩)))⟩,
  ⟨(some 12), none, .pick (.t 9) (.t 11) (.c (.v (.bool false)))⟩,
  ⟨(some 0), none, .mv (.t 12)⟩]) (
  .ret))),
  [.t 0]⟩
def v_law13_live : List Nat := []
set_option maxRecDepth 100000 in
theorem s_law13_live (call : Eng.Call) (G : Nat → AV) (n : Nat) : denFE call G v_law13_live n c_law13_live [] =
 Xx call [] 4 (.call false i_conv_Conv [(.c (.v (.int .i64 2))), (.c (.v (.int .i64 3))), (.c (.v (.int .u64 18446744073709551615)))]) (fun x0 ox0 =>
 Xq (.ext (.c x0) 0) (fun x1 =>
 Xq (.ext (.c x0) 1) (fun x2 =>
 Xq (.not (.c x2)) (fun x3 =>
 Xxg call x3 true ox0 10 (.call false i_conv_Digits [(.c (.v (.int .i64 1))), (.c (.v (.int .u64 18446744073709551615)))]) (fun x4 ox4 =>
 Xgq x3 true (.bin .eql (.c x4) (.c (.v (.string ⟨#[45, 49]⟩)))) (fun x5 =>
 Xq (.pick (.c x3) (.c x5) (.c (.v (.bool false)))) (fun x6 =>
 Xr ox4 [some x6]) ()) ()) ()) ()) ()) ()) () := by kernel_rfl
def c_conv_Read : CF := ⟨3, 20,
  .seq (.reg [] [
  ⟨(some 6), none, .mv (.c (.v (.int .u64 0)))⟩,
  ⟨(some 7), none, .mv (.c (.v (.bool false)))⟩]) (
  .seq (.reg [] [
  ⟨(some 9), none, .mv (.t 1)⟩,
  ⟨(some 10), none, .mv (.t 2)⟩,
  ⟨(some 11), none, .build [(.v (.int .u64 0)), (.v (.bool false))] [(0, 1, (.t 9)), (1, 1, (.t 10))]⟩,
  ⟨(some 8), none, .alloc [(.v (.int .u64 0)), (.v (.bool false))] [0, 0]⟩,
  ⟨none, none, .st 2 (.t 8) (.t 11)⟩]) (
  .seq (.seq (.reg [] [
  ⟨(some 12), none, .mv (.t 1)⟩,
  ⟨(some 13), none, .bin .eql (.t 12) (.c (.v (.int .u64 0)))⟩]) (
  .cond (.t 13) (
  .reg [] [
  ⟨(some 14), none, .call false i_conv_zero []⟩,
  ⟨none, none, .st 2 (.t 8) (.t 14)⟩]) (
  .skip))) (
  .seq (.reg [] [
  ⟨(some 15), none, .ld true 2 (.t 8)⟩,
  ⟨(some 16), none, .mv (.t 0)⟩,
  ⟨(some 17), none, .call false i__conv_number__value [(.t 15), (.t 16)]⟩,
  ⟨(some 18), none, .ext (.t 17) 0⟩,
  ⟨(some 19), none, .ext (.t 17) 1⟩,
  ⟨(some 6), none, .mv (.t 18)⟩,
  ⟨(some 7), none, .mv (.t 19)⟩]) (
  .ret)))),
  [.t 6, .t 7]⟩
def v_conv_Read : List Nat := [8]
set_option maxRecDepth 100000 in
theorem s_conv_Read (call : Eng.Call) (G : Nat → AV) (n : Nat) (x0 x1 x2 : AV) : denFE call G v_conv_Read n c_conv_Read [x0, x1, x2] =
 Xq (.build [(.v (.int .u64 0)), (.v (.bool false))] [(0, 1, (.c x1)), (1, 1, (.c x2))]) (fun x3 =>
 Xx call [] 8 (.alloc [(.v (.int .u64 0)), (.v (.bool false))] [0, 0]) (fun x4 ox4 =>
 Xv ox4 2 x4 x3 (fun ox5 =>
 Xq (.bin .eql (.c x1) (.c (.v (.int .u64 0)))) (fun x6 =>
 Xc x6 (fun _ =>
 Xx call ox5 14 (.call false i_conv_zero []) (fun x7 ox7 =>
 Xv ox7 2 x4 x7 (fun ox8 =>
 Xx call ox8 15 (.ld true 2 (.c x4)) (fun x9 ox9 =>
 Xx call ox9 17 (.call false i__conv_number__value [(.c x9), (.c x0)]) (fun x10 ox10 =>
 Xq (.ext (.c x10) 0) (fun x11 =>
 Xq (.ext (.c x10) 1) (fun x12 =>
 Xr ox10 [some x11, some x12]) ()) ()) ()) ()) ()) ()) (fun _ =>
 Xx call ox5 15 (.ld true 2 (.c x4)) (fun x13 ox13 =>
 Xx call ox13 17 (.call false i__conv_number__value [(.c x13), (.c x0)]) (fun x14 ox14 =>
 Xq (.ext (.c x14) 0) (fun x15 =>
 Xq (.ext (.c x14) 1) (fun x16 =>
 Xr ox14 [some x15, some x16]) ()) ()) ()) ()) () ()) ()) ()) ()) () := by kernel_rfl
def c_conv_Digits : CF := ⟨2, 18,
  .seq (.reg [] [
  ⟨(some 4), none, .mv (.c (.v (.string ⟨#[]⟩)))⟩]) (
  .seq (.seq (.reg [] [
  ⟨(some 6), none, .mv (.t 0)⟩,
  ⟨(some 7), none, .mv (.t 1)⟩,
  ⟨(some 8), none, .call false i_conv_right [(.t 6), (.t 7)]⟩,
  ⟨(some 9), none, .not (.t 8)⟩]) (
  .cond (.t 9) (
  .seq (.reg [] [
  ⟨(some 4), none, .mv (.c (.v (.string ⟨#[]⟩)))⟩]) (
  .ret)) (
  .skip))) (
  .seq (.reg [] [
  ⟨(some 10), none, .mv (.t 0)⟩,
  ⟨(some 11), none, .mv (.t 1)⟩,
  ⟨(some 12), none, .call false i_conv_of [(.t 10), (.t 11)]⟩,
  ⟨(some 5), none, .alloc [(.v (.int .u64 0)), (.v (.bool false))] [0, 0]⟩,
  ⟨none, none, .st 2 (.t 5) (.t 12)⟩]) (
  .seq (.reg [] [
  ⟨(some 13), none, .fad (.t 5) 0⟩,
  ⟨(some 14), none, .ld false 1 (.t 13)⟩,
  ⟨(some 15), none, .fad (.t 5) 1⟩,
  ⟨(some 16), none, .ld false 1 (.t 15)⟩,
  ⟨(some 17), none, .call false i_lex_Digits [(.t 14), (.t 16)]⟩,
  ⟨(some 4), none, .mv (.t 17)⟩]) (
  .ret)))),
  [.t 4]⟩
def v_conv_Digits : List Nat := [5]
set_option maxRecDepth 100000 in
theorem s_conv_Digits (call : Eng.Call) (G : Nat → AV) (n : Nat) (x0 x1 : AV) : denFE call G v_conv_Digits n c_conv_Digits [x0, x1] =
 Xx call [] 8 (.call false i_conv_right [(.c x0), (.c x1)]) (fun x2 ox2 =>
 Xq (.not (.c x2)) (fun x3 =>
 Xc x3 (fun _ =>
 Xr ox2 [some (.v (.string ⟨#[]⟩))]) (fun _ =>
 Xx call ox2 12 (.call false i_conv_of [(.c x0), (.c x1)]) (fun x4 ox4 =>
 Xx call ox4 5 (.alloc [(.v (.int .u64 0)), (.v (.bool false))] [0, 0]) (fun x5 ox5 =>
 Xv ox5 2 x5 x4 (fun ox6 =>
 Xq (.fad (.c x5) 0) (fun x7 =>
 Xx call ox6 14 (.ld false 1 (.c x7)) (fun x8 ox8 =>
 Xq (.fad (.c x5) 1) (fun x9 =>
 Xx call ox8 16 (.ld false 1 (.c x9)) (fun x10 ox10 =>
 Xx call ox10 17 (.call false i_lex_Digits [(.c x8), (.c x10)]) (fun x11 ox11 =>
 Xr ox11 [some x11]) ()) ()) ()) ()) ()) ()) ()) ()) () ()) ()) () := by kernel_rfl
def c_ref13_Digits : CF := ⟨2, 25,
  .seq (.reg [] [
  ⟨(some 4), none, .mv (.c (.v (.string ⟨#[]⟩)))⟩]) (
  .seq (.seq (.reg [] [
  ⟨(some 7), none, .mv (.t 0)⟩,
  ⟨(some 8), none, .call false i_ref11_Whole [(.t 7)]⟩,
  ⟨(some 9), none, .not (.t 8)⟩,
  ⟨(some 10), none, .mv (.t 9)⟩,
  ⟨(some 11), (some (10, false)), .mv (.t 0)⟩,
  ⟨(some 12), (some (10, false)), .mv (.t 1)⟩,
  ⟨(some 13), (some (10, false)), .call false i_ref11_May [(.t 11), (.t 12)]⟩,
  ⟨(some 14), (some (10, false)), .not (.t 13)⟩,
  ⟨(some 15), none, .pick (.t 10) (.c (.v (.bool true))) (.t 14)⟩]) (
  .cond (.t 15) (
  .seq (.reg [] [
  ⟨(some 4), none, .mv (.c (.v (.string ⟨#[]⟩)))⟩]) (
  .ret)) (
  .skip))) (
  .seq (.reg [] [
  ⟨(some 17), none, .mv (.t 0)⟩,
  ⟨(some 18), none, .mv (.t 1)⟩,
  ⟨(some 19), none, .call false i_ref13_split [(.t 17), (.t 18)]⟩,
  ⟨(some 16), none, .mv (.t 19)⟩,
  ⟨(some 20), none, .ext (.t 16) 0⟩,
  ⟨(some 21), none, .ext (.t 16) 1⟩,
  ⟨(some 5), none, .mv (.t 20)⟩,
  ⟨(some 6), none, .mv (.t 21)⟩]) (
  .seq (.reg [] [
  ⟨(some 22), none, .mv (.t 5)⟩,
  ⟨(some 23), none, .mv (.t 6)⟩,
  ⟨(some 24), none, .call false i_ref10_Digits [(.t 22), (.t 23)]⟩,
  ⟨(some 4), none, .mv (.t 24)⟩]) (
  .ret)))),
  [.t 4]⟩
def v_ref13_Digits : List Nat := []
set_option maxRecDepth 100000 in
theorem s_ref13_Digits (call : Eng.Call) (G : Nat → AV) (n : Nat) (x0 x1 : AV) : denFE call G v_ref13_Digits n c_ref13_Digits [x0, x1] =
 Xx call [] 8 (.call false i_ref11_Whole [(.c x0)]) (fun x2 ox2 =>
 Xq (.not (.c x2)) (fun x3 =>
 Xgq x3 false (.mv (.c x0)) (fun x4 =>
 Xgq x3 false (.mv (.c x1)) (fun x5 =>
 Xxg call x3 false ox2 13 (.call false i_ref11_May [(.c x4), (.c x5)]) (fun x6 ox6 =>
 Xgq x3 false (.not (.c x6)) (fun x7 =>
 Xq (.pick (.c x3) (.c (.v (.bool true))) (.c x7)) (fun x8 =>
 Xc x8 (fun _ =>
 Xr ox6 [some (.v (.string ⟨#[]⟩))]) (fun _ =>
 Xx call ox6 19 (.call false i_ref13_split [(.c x0), (.c x1)]) (fun x9 ox9 =>
 Xq (.ext (.c x9) 0) (fun x10 =>
 Xq (.ext (.c x9) 1) (fun x11 =>
 Xx call ox9 24 (.call false i_ref10_Digits [(.c x10), (.c x11)]) (fun x12 ox12 =>
 Xr ox12 [some x12]) ()) ()) ()) ()) () ()) ()) ()) ()) ()) ()) ()) () := by kernel_rfl
def c_ref11_Whole : CF := ⟨1, 17,
  .seq (.reg [] [
  ⟨(some 2), none, .mv (.c (.v (.bool false)))⟩]) (
  .seq (.reg [] [
  ⟨(some 3), none, .mv (.t 0)⟩,
  ⟨(some 4), none, .bin .geq (.t 3) (.c (.v (.int .i64 1)))⟩,
  ⟨(some 5), none, .mv (.t 4)⟩,
  ⟨(some 6), (some (5, true)), .mv (.t 0)⟩,
  ⟨(some 7), (some (5, true)), .bin .leq (.t 6) (.c (.v (.int .i64 6)))⟩,
  ⟨(some 8), none, .pick (.t 5) (.t 7) (.c (.v (.bool false)))⟩,
  ⟨(some 9), none, .mv (.t 8)⟩,
  ⟨(some 10), (some (9, false)), .mv (.t 0)⟩,
  ⟨(some 11), (some (9, false)), .bin .geq (.t 10) (.c (.v (.int .i64 8)))⟩,
  ⟨(some 12), (some (9, false)), .mv (.t 11)⟩,
  ⟨(some 13), (some (12, true)), .mv (.t 0)⟩,
  ⟨(some 14), (some (12, true)), .bin .leq (.t 13) (.c (.v (.int .i64 11)))⟩,
  ⟨(some 15), (some (9, false)), .pick (.t 12) (.t 14) (.c (.v (.bool false)))⟩,
  ⟨(some 16), none, .pick (.t 9) (.c (.v (.bool true))) (.t 15)⟩,
  ⟨(some 2), none, .mv (.t 16)⟩]) (
  .ret)),
  [.t 2]⟩
def v_ref11_Whole : List Nat := []
set_option maxRecDepth 100000 in
theorem s_ref11_Whole (call : Eng.Call) (G : Nat → AV) (n : Nat) (x0 : AV) : denFE call G v_ref11_Whole n c_ref11_Whole [x0] =
 Xq (.bin .geq (.c x0) (.c (.v (.int .i64 1)))) (fun x1 =>
 Xgq x1 true (.mv (.c x0)) (fun x2 =>
 Xgq x1 true (.bin .leq (.c x2) (.c (.v (.int .i64 6)))) (fun x3 =>
 Xq (.pick (.c x1) (.c x3) (.c (.v (.bool false)))) (fun x4 =>
 Xgq x4 false (.mv (.c x0)) (fun x5 =>
 Xgq x4 false (.bin .geq (.c x5) (.c (.v (.int .i64 8)))) (fun x6 =>
 Xgq x4 false (.mv (.c x6)) (fun x7 =>
 Xgq x7 true (.mv (.c x0)) (fun x8 =>
 Xgq x7 true (.bin .leq (.c x8) (.c (.v (.int .i64 11)))) (fun x9 =>
 Xgq x4 false (.pick (.c x7) (.c x9) (.c (.v (.bool false)))) (fun x10 =>
 Xq (.pick (.c x4) (.c (.v (.bool true))) (.c x10)) (fun x11 =>
 Xr [] [some x11]) ()) ()) ()) ()) ()) ()) ()) ()) ()) ()) () := by kernel_rfl
def k_ref10_All_0 : List Nat := [8, 0, 7, 15, 47, 48]
def c_ref10_All_b0 : CC := .seq (.seq (.reg [] [
  ⟨(some 18), none, .mv (.t 8)⟩,
  ⟨(some 19), none, .mv (.t 0)⟩,
  ⟨(some 20), none, .len true (.t 19)⟩,
  ⟨(some 21), none, .bin .lss (.t 18) (.t 20)⟩]) (
  .cond (.t 21) (
  .skip) (
  .exit 0))) (
  .block 1 (
  .seq (.reg [] [
  ⟨(some 23), none, .mv (.t 0)⟩,
  ⟨(some 24), none, .mv (.t 8)⟩,
  ⟨(some 25), none, .sls (.t 23) (some (.t 24)) none⟩,
  ⟨(some 26), none, .call false i_ref10_one [(.t 25)]⟩,
  ⟨(some 22), none, .mv (.t 26)⟩,
  ⟨(some 27), none, .ext (.t 22) 0⟩,
  ⟨(some 28), none, .ext (.t 22) 1⟩,
  ⟨(some 9), none, .alloc [(.v (.int .i64 0)), (.v (.string ⟨#[]⟩)), (.v (.int .u64 0)), (.v (.bool false)), (.v (.int .i64 0))] [0, 0, 0, 0, 0]⟩,
  ⟨none, none, .st 5 (.t 9) (.t 27)⟩,
  ⟨(some 10), none, .mv (.t 28)⟩]) (
  .seq (.seq (.reg [] [
  ⟨(some 29), none, .mv (.t 10)⟩,
  ⟨(some 30), none, .bin .eql (.t 29) (.c (.v (.int .i64 0)))⟩]) (
  .cond (.t 30) (
  .seq (.reg [] [
  ⟨(some 31), none, .mv (.t 8)⟩,
  ⟨(some 4), none, .nil 5⟩,
  ⟨(some 5), none, .mv (.t 31)⟩,
  ⟨(some 6), none, .mv (.c (.v (.int .i64 2)))⟩]) (
  .ret)) (
  .skip))) (
  .seq (.reg [] [
  ⟨(some 32), none, .mv (.t 8)⟩,
  ⟨(some 33), none, .fad (.t 9) 4⟩,
  ⟨none, none, .st 1 (.t 33) (.t 32)⟩]) (
  .seq (.reg [] [
  ⟨(some 34), none, .mv (.t 7)⟩,
  ⟨(some 35), none, .ld true 5 (.t 9)⟩,
  ⟨(some 36), none, .bsl 1 5 [(.v (.int .i64 0)), (.v (.string ⟨#[]⟩)), (.v (.int .u64 0)), (.v (.bool false)), (.v (.int .i64 0))] [(0, (.t 35))]⟩,
  ⟨(some 37), none, .app false 5 48 (.t 34) (.t 36)⟩,
  ⟨(some 7), none, .mv (.t 37)⟩]) (
  .reg [] [
  ⟨(some 38), none, .mv (.t 0)⟩,
  ⟨(some 39), none, .mv (.t 8)⟩,
  ⟨(some 40), none, .mv (.t 10)⟩,
  ⟨(some 41), none, .bin .add (.t 39) (.t 40)⟩,
  ⟨(some 42), none, .call false i_ref10_pass [(.t 38), (.t 41)]⟩,
  ⟨(some 8), none, .mv (.t 42)⟩]))))))
def c_ref10_All_s0 : CC := .seq (.reg [] [
  ⟨(some 43), none, .mv (.t 7)⟩,
  ⟨(some 44), none, .mv (.t 0)⟩,
  ⟨(some 45), none, .len true (.t 44)⟩,
  ⟨(some 46), none, .build [(.v (.int .i64 0)), (.v (.string ⟨#[]⟩)), (.v (.int .u64 0)), (.v (.bool false)), (.v (.int .i64 0))] [(4, 1, (.t 45))]⟩,
  ⟨(some 47), none, .bsl 1 5 [(.v (.int .i64 0)), (.v (.string ⟨#[]⟩)), (.v (.int .u64 0)), (.v (.bool false)), (.v (.int .i64 0))] [(0, (.t 46))]⟩,
  ⟨(some 48), none, .app false 5 48 (.t 43) (.t 47)⟩,
  ⟨(some 49), none, .mv (.t 0)⟩,
  ⟨(some 50), none, .len true (.t 49)⟩,
  ⟨(some 4), none, .mv (.t 48)⟩,
  ⟨(some 5), none, .mv (.t 50)⟩,
  ⟨(some 6), none, .mv (.c (.v (.int .i64 0)))⟩]) (
  .ret)
def c_ref10_All : CF := ⟨2, 51,
  .seq (.reg [] [
  ⟨(some 4), none, .nil 5⟩,
  ⟨(some 5), none, .mv (.c (.v (.int .i64 0)))⟩,
  ⟨(some 6), none, .mv (.c (.v (.int .i64 0)))⟩]) (
  .seq (.seq (.reg [] [
  ⟨(some 11), none, .mv (.t 0)⟩,
  ⟨(some 12), none, .len true (.t 11)⟩,
  ⟨(some 13), none, .mv (.t 1)⟩,
  ⟨(some 14), none, .bin .gtr (.t 12) (.t 13)⟩]) (
  .cond (.t 14) (
  .seq (.reg [] [
  ⟨(some 4), none, .nil 5⟩,
  ⟨(some 5), none, .mv (.c (.v (.int .i64 0)))⟩,
  ⟨(some 6), none, .mv (.c (.v (.int .i64 3)))⟩]) (
  .ret)) (
  .skip))) (
  .seq (.reg [] [
  ⟨(some 15), none, .bsl 0 5 [] []⟩,
  ⟨(some 7), none, .mv (.t 15)⟩]) (
  .seq (.reg [] [
  ⟨(some 16), none, .mv (.t 0)⟩,
  ⟨(some 17), none, .call false i_ref10_pass [(.t 16), (.c (.v (.int .i64 0)))]⟩,
  ⟨(some 8), none, .mv (.t 17)⟩]) (
  .seq (.block 0 (
  .loop k_ref10_All_0 c_ref10_All_b0)) c_ref10_All_s0)))),
  [.t 4, .t 5, .t 6]⟩
def v_ref10_All : List Nat := [9, 33]
def R_ref10_All_0 (call : Eng.Call) (G : Nat → AV) (n m0 : Nat) (o : Objs) (y8 y0 y7 y15 y47 y48 : AV) : Out := roundsE k_ref10_All_0 (denE 51 call G v_ref10_All n c_ref10_All_b0) m0 [y8, y0, y7, y15, y47, y48] o (eBlock 0 (eSeq (denE 51 call G v_ref10_All n c_ref10_All_s0) (eEnd [.t 4, .t 5, .t 6])))
set_option maxRecDepth 100000 in
theorem R_ref10_All_0_s (call : Eng.Call) (G : Nat → AV) (n m0 : Nat) (o : Objs) (y8 y0 y7 y15 y47 y48 : AV) : R_ref10_All_0 call G n (m0 + 1) o y8 y0 y7 y15 y47 y48 =
 Xq (.len true (.c y0)) (fun x8 =>
 Xq (.bin .lss (.c y8) (.c x8)) (fun x9 =>
 Xc x9 (fun _ =>
 Xq (.sls (.c y0) (some (.c y8)) none) (fun x10 =>
 Xx call o 26 (.call false i_ref10_one [(.c x10)]) (fun x11 ox11 =>
 Xq (.ext (.c x11) 0) (fun x12 =>
 Xq (.ext (.c x11) 1) (fun x13 =>
 Xx call ox11 9 (.alloc [(.v (.int .i64 0)), (.v (.string ⟨#[]⟩)), (.v (.int .u64 0)), (.v (.bool false)), (.v (.int .i64 0))] [0, 0, 0, 0, 0]) (fun x14 ox14 =>
 Xv ox14 5 x14 x12 (fun ox15 =>
 Xq (.bin .eql (.c x13) (.c (.v (.int .i64 0)))) (fun x16 =>
 Xc x16 (fun _ =>
 Xx call ox15 4 (.nil 5) (fun x17 ox17 =>
 Xr ox17 [some x17, some y8, some (.v (.int .i64 2))]) ()) (fun _ =>
 Xq (.fad (.c x14) 4) (fun x18 =>
 Xv ox15 1 x18 y8 (fun ox19 =>
 Xx call ox19 35 (.ld true 5 (.c x14)) (fun x20 ox20 =>
 Xx call ox20 36 (.bsl 1 5 [(.v (.int .i64 0)), (.v (.string ⟨#[]⟩)), (.v (.int .u64 0)), (.v (.bool false)), (.v (.int .i64 0))] [(0, (.c x20))]) (fun x21 ox21 =>
 Xa ox21 37 false 5 48 y7 x21 (fun x22 ox22 =>
 Xq (.bin .add (.c y8) (.c x13)) (fun x23 =>
 Xx call ox22 42 (.call false i_ref10_pass [(.c y0), (.c x23)]) (fun x24 ox24 =>
 R_ref10_All_0 call G n m0 (maskO k_ref10_All_0 ox24) (msk k_ref10_All_0 x24) (msk k_ref10_All_0 y0) (msk k_ref10_All_0 x22) (msk k_ref10_All_0 y15) (msk k_ref10_All_0 y47) (msk k_ref10_All_0 y48)) ()) ()) ()) ()) ()) ()) ()) () ()) ()) ()) ()) ()) ()) ()) ()) (fun _ =>
 Xq (.len true (.c y0)) (fun x25 =>
 Xq (.build [(.v (.int .i64 0)), (.v (.string ⟨#[]⟩)), (.v (.int .u64 0)), (.v (.bool false)), (.v (.int .i64 0))] [(4, 1, (.c x25))]) (fun x26 =>
 Xx call o 47 (.bsl 1 5 [(.v (.int .i64 0)), (.v (.string ⟨#[]⟩)), (.v (.int .u64 0)), (.v (.bool false)), (.v (.int .i64 0))] [(0, (.c x26))]) (fun x27 ox27 =>
 Xa ox27 48 false 5 48 y7 x27 (fun x28 ox28 =>
 Xq (.len true (.c y0)) (fun x29 =>
 Xr ox28 [some x28, some x29, some (.v (.int .i64 0))]) ()) ()) ()) ()) ()) () ()) ()) () := by kernel_rfl
set_option maxRecDepth 100000 in
theorem s_ref10_All (call : Eng.Call) (G : Nat → AV) (n : Nat) (x0 x1 : AV) : denFE call G v_ref10_All n c_ref10_All [x0, x1] =
 Xx call [] 4 (.nil 5) (fun x2 ox2 =>
 Xq (.len true (.c x0)) (fun x3 =>
 Xq (.bin .gtr (.c x3) (.c x1)) (fun x4 =>
 Xc x4 (fun _ =>
 Xx call ox2 4 (.nil 5) (fun x5 ox5 =>
 Xr ox5 [some x5, some (.v (.int .i64 0)), some (.v (.int .i64 3))]) ()) (fun _ =>
 Xx call ox2 15 (.bsl 0 5 [] []) (fun x6 ox6 =>
 Xx call ox6 17 (.call false i_ref10_pass [(.c x0), (.c (.v (.int .i64 0)))]) (fun x7 ox7 =>
 R_ref10_All_0 call G n n (maskO k_ref10_All_0 ox7) (msk k_ref10_All_0 x7) (msk k_ref10_All_0 x0) (msk k_ref10_All_0 x6) (msk k_ref10_All_0 x6) (msk k_ref10_All_0 .undef) (msk k_ref10_All_0 .undef)) ()) ()) () ()) ()) ()) () := by kernel_rfl
def c_conv_right : CF := ⟨2, 12,
  .seq (.reg [] [
  ⟨(some 4), none, .mv (.c (.v (.bool false)))⟩]) (
  .seq (.reg [] [
  ⟨(some 5), none, .mv (.t 0)⟩,
  ⟨(some 6), none, .call false i_scalar_Whole [(.t 5)]⟩,
  ⟨(some 7), none, .mv (.t 6)⟩,
  ⟨(some 8), (some (7, true)), .mv (.t 0)⟩,
  ⟨(some 9), (some (7, true)), .mv (.t 1)⟩,
  ⟨(some 10), (some (7, true)), .call false i_scalar_May [(.t 8), (.t 9)]⟩,
  ⟨(some 11), none, .pick (.t 7) (.t 10) (.c (.v (.bool false)))⟩,
  ⟨(some 4), none, .mv (.t 11)⟩]) (
  .ret)),
  [.t 4]⟩
def v_conv_right : List Nat := []
set_option maxRecDepth 100000 in
theorem s_conv_right (call : Eng.Call) (G : Nat → AV) (n : Nat) (x0 x1 : AV) : denFE call G v_conv_right n c_conv_right [x0, x1] =
 Xx call [] 6 (.call false i_scalar_Whole [(.c x0)]) (fun x2 ox2 =>
 Xgq x2 true (.mv (.c x0)) (fun x3 =>
 Xgq x2 true (.mv (.c x1)) (fun x4 =>
 Xxg call x2 true ox2 10 (.call false i_scalar_May [(.c x3), (.c x4)]) (fun x5 ox5 =>
 Xq (.pick (.c x2) (.c x5) (.c (.v (.bool false)))) (fun x6 =>
 Xr ox5 [some x6]) ()) ()) ()) ()) () := by kernel_rfl
def c_conv_of : CF := ⟨2, 17,
  .seq (.reg [] [
  ⟨(some 4), none, .alloc [(.v (.int .u64 0)), (.v (.bool false))] [0, 0]⟩]) (
  .seq (.seq (.reg [] [
  ⟨(some 5), none, .mv (.t 0)⟩,
  ⟨(some 6), none, .call false i_scalar_Signed [(.t 5)]⟩,
  ⟨(some 7), none, .mv (.t 6)⟩,
  ⟨(some 8), (some (7, true)), .mv (.t 1)⟩,
  ⟨(some 9), (some (7, true)), .cvi .i64 (.t 8)⟩,
  ⟨(some 10), (some (7, true)), .bin .lss (.t 9) (.c (.v (.int .i64 0)))⟩,
  ⟨(some 11), none, .pick (.t 7) (.t 10) (.c (.v (.bool false)))⟩]) (
  .cond (.t 11) (
  .seq (.reg [] [
  ⟨(some 12), none, .mv (.t 1)⟩,
  ⟨(some 13), none, .neg (.t 12)⟩,
  ⟨(some 14), none, .build [(.v (.int .u64 0)), (.v (.bool false))] [(0, 1, (.t 13)), (1, 1, (.c (.v (.bool true))))]⟩,
  ⟨none, none, .st 2 (.t 4) (.t 14)⟩]) (
  .ret)) (
  .skip))) (
  .seq (.reg [] [
  ⟨(some 15), none, .mv (.t 1)⟩,
  ⟨(some 16), none, .build [(.v (.int .u64 0)), (.v (.bool false))] [(0, 1, (.t 15)), (1, 1, (.c (.v (.bool false))))]⟩,
  ⟨none, none, .st 2 (.t 4) (.t 16)⟩]) (
  .ret))),
  [.cell 4 true 2]⟩
def v_conv_of : List Nat := [4]
set_option maxRecDepth 100000 in
theorem s_conv_of (call : Eng.Call) (G : Nat → AV) (n : Nat) (x0 x1 : AV) : denFE call G v_conv_of n c_conv_of [x0, x1] =
 Xx call [] 4 (.alloc [(.v (.int .u64 0)), (.v (.bool false))] [0, 0]) (fun x2 ox2 =>
 Xx call ox2 6 (.call false i_scalar_Signed [(.c x0)]) (fun x3 ox3 =>
 Xgq x3 true (.mv (.c x1)) (fun x4 =>
 Xgq x3 true (.cvi .i64 (.c x4)) (fun x5 =>
 Xgq x3 true (.bin .lss (.c x5) (.c (.v (.int .i64 0)))) (fun x6 =>
 Xq (.pick (.c x3) (.c x6) (.c (.v (.bool false)))) (fun x7 =>
 Xc x7 (fun _ =>
 Xq (.neg (.c x1)) (fun x8 =>
 Xq (.build [(.v (.int .u64 0)), (.v (.bool false))] [(0, 1, (.c x8)), (1, 1, (.c (.v (.bool true))))]) (fun x9 =>
 Xv ox3 2 x2 x9 (fun ox10 =>
 Xr ox10 [cellR ox10 x2 true 2]) ()) ()) ()) (fun _ =>
 Xq (.build [(.v (.int .u64 0)), (.v (.bool false))] [(0, 1, (.c x1)), (1, 1, (.c (.v (.bool false))))]) (fun x11 =>
 Xv ox3 2 x2 x11 (fun ox12 =>
 Xr ox12 [cellR ox12 x2 true 2]) ()) ()) () ()) ()) ()) ()) ()) ()) () := by kernel_rfl
def c__conv_number__value : CF := ⟨2, 30,
  .seq (.reg [] [
  ⟨(some 2), none, .box 2 [0, 0] (.t 0)⟩,
  ⟨(some 4), none, .mv (.c (.v (.int .u64 0)))⟩,
  ⟨(some 5), none, .mv (.c (.v (.bool false)))⟩]) (
  .seq (.reg [] [
  ⟨(some 7), none, .fad (.t 2) 0⟩,
  ⟨(some 8), none, .ld false 1 (.t 7)⟩,
  ⟨(some 6), none, .mv (.t 8)⟩]) (
  .seq (.seq (.reg [] [
  ⟨(some 9), none, .fad (.t 2) 1⟩,
  ⟨(some 10), none, .ld false 1 (.t 9)⟩]) (
  .cond (.t 10) (
  .reg [] [
  ⟨(some 11), none, .mv (.t 6)⟩,
  ⟨(some 12), none, .neg (.t 11)⟩,
  ⟨(some 6), none, .mv (.t 12)⟩]) (
  .skip))) (
  .seq (.seq (.reg [
  ⟨(some 13), none, .mv (.t 1)⟩,
  ⟨(some 14), none, .call false i_scalar_Whole [(.t 13)]⟩,
  ⟨(some 15), none, .not (.t 14)⟩,
  ⟨(some 16), none, .mv (.t 15)⟩,
  ⟨(some 17), (some (16, false)), .mv (.t 1)⟩,
  ⟨(some 18), (some (16, false)), .mv (.t 6)⟩,
  ⟨(some 19), (some (16, false)), .call false i_scalar_May [(.t 17), (.t 18)]⟩,
  ⟨(some 20), (some (16, false)), .not (.t 19)⟩,
  ⟨(some 21), none, .pick (.t 16) (.c (.v (.bool true))) (.t 20)⟩,
  ⟨(some 22), none, .mv (.t 21)⟩,
  ⟨(some 23), (some (22, false)), .mv (.t 1)⟩,
  ⟨(some 24), (some (22, false)), .mv (.t 6)⟩,
  ⟨(some 25), (some (22, false)), .call false i_conv_of [(.t 23), (.t 24)]⟩,
  ⟨(some 26), (some (22, false)), .ld true 2 (.t 2)⟩] [
  ⟨(some 27), (some (22, false)), .eqs true [0, 1] (.t 25) (.t 26)⟩,
  ⟨(some 28), none, .pick (.t 22) (.c (.v (.bool true))) (.t 27)⟩]) (
  .cond (.t 28) (
  .seq (.reg [] [
  ⟨(some 4), none, .mv (.c (.v (.int .u64 0)))⟩,
  ⟨(some 5), none, .mv (.c (.v (.bool false)))⟩]) (
  .ret)) (
  .skip))) (
  .seq (.reg [] [
  ⟨(some 29), none, .mv (.t 6)⟩,
  ⟨(some 4), none, .mv (.t 29)⟩,
  ⟨(some 5), none, .mv (.c (.v (.bool true)))⟩]) (
  .ret))))),
  [.t 4, .t 5]⟩
def v__conv_number__value : List Nat := []
def J__conv_number__value_0 (call : Eng.Call) (G : Nat → AV) (n : Nat) (oJ : Objs) (z1z z2z z6z : AV) : Out :=
 Xp call oJ 14 (.call false i_scalar_Whole [(.c z1z)]) (fun x5 nx5 sx5 =>
 Xq (.not (.c x5)) (fun x6 =>
 Xgq x6 false (.mv (.c z1z)) (fun x7 =>
 Xgq x6 false (.mv (.c z6z)) (fun x8 =>
 Xpg call x6 false oJ 19 (.call false i_scalar_May [(.c x7), (.c x8)]) (fun x9 nx9 sx9 =>
 Xgq x6 false (.not (.c x9)) (fun x10 =>
 Xq (.pick (.c x6) (.c (.v (.bool true))) (.c x10)) (fun x11 =>
 Xgq x11 false (.mv (.c z1z)) (fun x12 =>
 Xgq x11 false (.mv (.c z6z)) (fun x13 =>
 Xpg call x11 false oJ 25 (.call false i_conv_of [(.c x12), (.c x13)]) (fun x14 nx14 sx14 =>
 Xpg call x11 false oJ 26 (.ld true 2 (.c z2z)) (fun x15 nx15 sx15 =>
 Xgq x11 false (.eqs true [0, 1] (.c x14) (.c x15)) (fun x16 =>
 Xq (.pick (.c x11) (.c (.v (.bool true))) (.c x16)) (fun x17 =>
 Xc x17 (fun _ =>
 Xr (finO oJ (nx5 ++ nx9 ++ nx14 ++ nx15) (sx5 ++ sx9 ++ sx14 ++ sx15)) [some (.v (.int .u64 0)), some (.v (.bool false))]) (fun _ =>
 Xr (finO oJ (nx5 ++ nx9 ++ nx14 ++ nx15) (sx5 ++ sx9 ++ sx14 ++ sx15)) [some z6z, some (.v (.bool true))]) () ()) ()) ()) ()) ()) ()) ()) ()) ()) ()) ()) ()) ()) ()
set_option maxRecDepth 100000 in
theorem s__conv_number__value (call : Eng.Call) (G : Nat → AV) (n : Nat) (x0 x1 : AV) : denFE call G v__conv_number__value n c__conv_number__value [x0, x1] =
 Xx call [] 2 (.box 2 [0, 0] (.c x0)) (fun x2 ox2 =>
 Xq (.fad (.c x2) 0) (fun x3 =>
 Xx call ox2 8 (.ld false 1 (.c x3)) (fun x4 ox4 =>
 Xq (.fad (.c x2) 1) (fun x18 =>
 Xx call ox4 10 (.ld false 1 (.c x18)) (fun x19 ox19 =>
 Xc x19 (fun _ =>
 Xq (.neg (.c x4)) (fun x20 =>
 J__conv_number__value_0 call G n ox19 x1 x2 x20) ()) (fun _ =>
 J__conv_number__value_0 call G n ox19 x1 x2 x4) () ()) ()) ()) ()) ()) () := by kernel_rfl
def c_ref13_split : CF := ⟨2, 15,
  .seq (.reg [] [
  ⟨(some 4), none, .mv (.c (.v (.int .u64 0)))⟩,
  ⟨(some 5), none, .mv (.c (.v (.bool false)))⟩]) (
  .seq (.seq (.reg [] [
  ⟨(some 6), none, .mv (.t 0)⟩,
  ⟨(some 7), none, .call false i_ref11_Signed [(.t 6)]⟩,
  ⟨(some 8), none, .mv (.t 7)⟩,
  ⟨(some 9), (some (8, true)), .mv (.t 1)⟩,
  ⟨(some 10), (some (8, true)), .bin .geq (.t 9) (.c (.v (.int .u64 9223372036854775808)))⟩,
  ⟨(some 11), none, .pick (.t 8) (.t 10) (.c (.v (.bool false)))⟩]) (
  .cond (.t 11) (
  .seq (.reg [] [
  ⟨(some 12), none, .mv (.t 1)⟩,
  ⟨(some 13), none, .bin .sub (.c (.v (.int .u64 0))) (.t 12)⟩,
  ⟨(some 4), none, .mv (.t 13)⟩,
  ⟨(some 5), none, .mv (.c (.v (.bool true)))⟩]) (
  .ret)) (
  .skip))) (
  .seq (.reg [] [
  ⟨(some 14), none, .mv (.t 1)⟩,
  ⟨(some 4), none, .mv (.t 14)⟩,
  ⟨(some 5), none, .mv (.c (.v (.bool false)))⟩]) (
  .ret))),
  [.t 4, .t 5]⟩
def v_ref13_split : List Nat := []
set_option maxRecDepth 100000 in
theorem s_ref13_split (call : Eng.Call) (G : Nat → AV) (n : Nat) (x0 x1 : AV) : denFE call G v_ref13_split n c_ref13_split [x0, x1] =
 Xx call [] 7 (.call false i_ref11_Signed [(.c x0)]) (fun x2 ox2 =>
 Xgq x2 true (.mv (.c x1)) (fun x3 =>
 Xgq x2 true (.bin .geq (.c x3) (.c (.v (.int .u64 9223372036854775808)))) (fun x4 =>
 Xq (.pick (.c x2) (.c x4) (.c (.v (.bool false)))) (fun x5 =>
 Xc x5 (fun _ =>
 Xq (.bin .sub (.c (.v (.int .u64 0))) (.c x1)) (fun x6 =>
 Xr ox2 [some x6, some (.v (.bool true))]) ()) (fun _ =>
 Xr ox2 [some x1, some (.v (.bool false))]) () ()) ()) ()) ()) () := by kernel_rfl
def c_ref11_Wide : CF := ⟨1, 21,
  .seq (.reg [] [
  ⟨(some 2), none, .mv (.c (.v (.bool false)))⟩]) (
  .seq (.reg [] [
  ⟨(some 3), none, .mv (.t 0)⟩,
  ⟨(some 4), none, .bin .eql (.t 3) (.c (.v (.int .i64 2)))⟩,
  ⟨(some 5), none, .mv (.t 4)⟩,
  ⟨(some 6), (some (5, false)), .mv (.t 0)⟩,
  ⟨(some 7), (some (5, false)), .bin .eql (.t 6) (.c (.v (.int .i64 4)))⟩,
  ⟨(some 8), none, .pick (.t 5) (.c (.v (.bool true))) (.t 7)⟩,
  ⟨(some 9), none, .mv (.t 8)⟩,
  ⟨(some 10), (some (9, false)), .mv (.t 0)⟩,
  ⟨(some 11), (some (9, false)), .bin .eql (.t 10) (.c (.v (.int .i64 6)))⟩,
  ⟨(some 12), none, .pick (.t 9) (.c (.v (.bool true))) (.t 11)⟩,
  ⟨(some 13), none, .mv (.t 12)⟩,
  ⟨(some 14), (some (13, false)), .mv (.t 0)⟩,
  ⟨(some 15), (some (13, false)), .bin .eql (.t 14) (.c (.v (.int .i64 9)))⟩,
  ⟨(some 16), none, .pick (.t 13) (.c (.v (.bool true))) (.t 15)⟩,
  ⟨(some 17), none, .mv (.t 16)⟩,
  ⟨(some 18), (some (17, false)), .mv (.t 0)⟩,
  ⟨(some 19), (some (17, false)), .bin .eql (.t 18) (.c (.v (.int .i64 11)))⟩,
  ⟨(some 20), none, .pick (.t 17) (.c (.v (.bool true))) (.t 19)⟩,
  ⟨(some 2), none, .mv (.t 20)⟩]) (
  .ret)),
  [.t 2]⟩
def v_ref11_Wide : List Nat := []
set_option maxRecDepth 100000 in
theorem s_ref11_Wide (call : Eng.Call) (G : Nat → AV) (n : Nat) (x0 : AV) : denFE call G v_ref11_Wide n c_ref11_Wide [x0] =
 Xq (.bin .eql (.c x0) (.c (.v (.int .i64 2)))) (fun x1 =>
 Xgq x1 false (.mv (.c x0)) (fun x2 =>
 Xgq x1 false (.bin .eql (.c x2) (.c (.v (.int .i64 4)))) (fun x3 =>
 Xq (.pick (.c x1) (.c (.v (.bool true))) (.c x3)) (fun x4 =>
 Xgq x4 false (.mv (.c x0)) (fun x5 =>
 Xgq x4 false (.bin .eql (.c x5) (.c (.v (.int .i64 6)))) (fun x6 =>
 Xq (.pick (.c x4) (.c (.v (.bool true))) (.c x6)) (fun x7 =>
 Xgq x7 false (.mv (.c x0)) (fun x8 =>
 Xgq x7 false (.bin .eql (.c x8) (.c (.v (.int .i64 9)))) (fun x9 =>
 Xq (.pick (.c x7) (.c (.v (.bool true))) (.c x9)) (fun x10 =>
 Xgq x10 false (.mv (.c x0)) (fun x11 =>
 Xgq x10 false (.bin .eql (.c x11) (.c (.v (.int .i64 11)))) (fun x12 =>
 Xq (.pick (.c x10) (.c (.v (.bool true))) (.c x12)) (fun x13 =>
 Xr [] [some x13]) ()) ()) ()) ()) ()) ()) ()) ()) ()) ()) ()) ()) () := by kernel_rfl
def c_ref11_Signed : CF := ⟨1, 29,
  .seq (.reg [] [
  ⟨(some 2), none, .mv (.c (.v (.bool false)))⟩]) (
  .seq (.reg [] [
  ⟨(some 3), none, .mv (.t 0)⟩,
  ⟨(some 4), none, .bin .eql (.t 3) (.c (.v (.int .i64 1)))⟩,
  ⟨(some 5), none, .mv (.t 4)⟩,
  ⟨(some 6), (some (5, false)), .mv (.t 0)⟩,
  ⟨(some 7), (some (5, false)), .bin .eql (.t 6) (.c (.v (.int .i64 2)))⟩,
  ⟨(some 8), none, .pick (.t 5) (.c (.v (.bool true))) (.t 7)⟩,
  ⟨(some 9), none, .mv (.t 8)⟩,
  ⟨(some 10), (some (9, false)), .mv (.t 0)⟩,
  ⟨(some 11), (some (9, false)), .bin .eql (.t 10) (.c (.v (.int .i64 5)))⟩,
  ⟨(some 12), none, .pick (.t 9) (.c (.v (.bool true))) (.t 11)⟩,
  ⟨(some 13), none, .mv (.t 12)⟩,
  ⟨(some 14), (some (13, false)), .mv (.t 0)⟩,
  ⟨(some 15), (some (13, false)), .bin .eql (.t 14) (.c (.v (.int .i64 6)))⟩,
  ⟨(some 16), none, .pick (.t 13) (.c (.v (.bool true))) (.t 15)⟩,
  ⟨(some 17), none, .mv (.t 16)⟩,
  ⟨(some 18), (some (17, false)), .mv (.t 0)⟩,
  ⟨(some 19), (some (17, false)), .bin .eql (.t 18) (.c (.v (.int .i64 10)))⟩,
  ⟨(some 20), none, .pick (.t 17) (.c (.v (.bool true))) (.t 19)⟩,
  ⟨(some 21), none, .mv (.t 20)⟩,
  ⟨(some 22), (some (21, false)), .mv (.t 0)⟩,
  ⟨(some 23), (some (21, false)), .bin .eql (.t 22) (.c (.v (.int .i64 11)))⟩,
  ⟨(some 24), none, .pick (.t 21) (.c (.v (.bool true))) (.t 23)⟩,
  ⟨(some 25), none, .mv (.t 24)⟩,
  ⟨(some 26), (some (25, false)), .mv (.t 0)⟩,
  ⟨(some 27), (some (25, false)), .bin .eql (.t 26) (.c (.v (.int .i64 14)))⟩,
  ⟨(some 28), none, .pick (.t 25) (.c (.v (.bool true))) (.t 27)⟩,
  ⟨(some 2), none, .mv (.t 28)⟩]) (
  .ret)),
  [.t 2]⟩
def v_ref11_Signed : List Nat := []
set_option maxRecDepth 100000 in
theorem s_ref11_Signed (call : Eng.Call) (G : Nat → AV) (n : Nat) (x0 : AV) : denFE call G v_ref11_Signed n c_ref11_Signed [x0] =
 Xq (.bin .eql (.c x0) (.c (.v (.int .i64 1)))) (fun x1 =>
 Xgq x1 false (.mv (.c x0)) (fun x2 =>
 Xgq x1 false (.bin .eql (.c x2) (.c (.v (.int .i64 2)))) (fun x3 =>
 Xq (.pick (.c x1) (.c (.v (.bool true))) (.c x3)) (fun x4 =>
 Xgq x4 false (.mv (.c x0)) (fun x5 =>
 Xgq x4 false (.bin .eql (.c x5) (.c (.v (.int .i64 5)))) (fun x6 =>
 Xq (.pick (.c x4) (.c (.v (.bool true))) (.c x6)) (fun x7 =>
 Xgq x7 false (.mv (.c x0)) (fun x8 =>
 Xgq x7 false (.bin .eql (.c x8) (.c (.v (.int .i64 6)))) (fun x9 =>
 Xq (.pick (.c x7) (.c (.v (.bool true))) (.c x9)) (fun x10 =>
 Xgq x10 false (.mv (.c x0)) (fun x11 =>
 Xgq x10 false (.bin .eql (.c x11) (.c (.v (.int .i64 10)))) (fun x12 =>
 Xq (.pick (.c x10) (.c (.v (.bool true))) (.c x12)) (fun x13 =>
 Xgq x13 false (.mv (.c x0)) (fun x14 =>
 Xgq x13 false (.bin .eql (.c x14) (.c (.v (.int .i64 11)))) (fun x15 =>
 Xq (.pick (.c x13) (.c (.v (.bool true))) (.c x15)) (fun x16 =>
 Xgq x16 false (.mv (.c x0)) (fun x17 =>
 Xgq x16 false (.bin .eql (.c x17) (.c (.v (.int .i64 14)))) (fun x18 =>
 Xq (.pick (.c x16) (.c (.v (.bool true))) (.c x18)) (fun x19 =>
 Xr [] [some x19]) ()) ()) ()) ()) ()) ()) ()) ()) ()) ()) ()) ()) ()) ()) ()) ()) ()) ()) () := by kernel_rfl
def c_ref02_Fits : CF := ⟨1, 9,
  .seq (.reg [] [
  ⟨(some 2), none, .mv (.c (.v (.bool false)))⟩]) (
  .seq (.reg [] [
  ⟨(some 3), none, .mv (.t 0)⟩,
  ⟨(some 4), none, .bin .geq (.t 3) (.c (.v (.int .i64 (-2147483648))))⟩,
  ⟨(some 5), none, .mv (.t 4)⟩,
  ⟨(some 6), (some (5, true)), .mv (.t 0)⟩,
  ⟨(some 7), (some (5, true)), .bin .leq (.t 6) (.c (.v (.int .i64 2147483647)))⟩,
  ⟨(some 8), none, .pick (.t 5) (.t 7) (.c (.v (.bool false)))⟩,
  ⟨(some 2), none, .mv (.t 8)⟩]) (
  .ret)),
  [.t 2]⟩
def v_ref02_Fits : List Nat := []
set_option maxRecDepth 100000 in
theorem s_ref02_Fits (call : Eng.Call) (G : Nat → AV) (n : Nat) (x0 : AV) : denFE call G v_ref02_Fits n c_ref02_Fits [x0] =
 Xq (.bin .geq (.c x0) (.c (.v (.int .i64 (-2147483648))))) (fun x1 =>
 Xgq x1 true (.mv (.c x0)) (fun x2 =>
 Xgq x1 true (.bin .leq (.c x2) (.c (.v (.int .i64 2147483647)))) (fun x3 =>
 Xq (.pick (.c x1) (.c x3) (.c (.v (.bool false)))) (fun x4 =>
 Xr [] [some x4]) ()) ()) ()) () := by kernel_rfl
def c_conv_zero : CF := ⟨0, 2,
  .seq (.reg [] [
  ⟨(some 0), none, .alloc [(.v (.int .u64 0)), (.v (.bool false))] [0, 0]⟩]) (
  .seq (.reg [] [
  ⟨(some 1), none, .build [(.v (.int .u64 0)), (.v (.bool false))] []⟩,
  ⟨none, none, .st 2 (.t 0) (.t 1)⟩]) (
  .ret)),
  [.cell 0 true 2]⟩
def v_conv_zero : List Nat := [0]
set_option maxRecDepth 100000 in
theorem s_conv_zero (call : Eng.Call) (G : Nat → AV) (n : Nat) : denFE call G v_conv_zero n c_conv_zero [] =
 Xx call [] 0 (.alloc [(.v (.int .u64 0)), (.v (.bool false))] [0, 0]) (fun x0 ox0 =>
 Xq (.build [(.v (.int .u64 0)), (.v (.bool false))] []) (fun x1 =>
 Xv ox0 2 x0 x1 (fun ox2 =>
 Xr ox2 [cellR ox2 x0 true 2]) ()) ()) () := by kernel_rfl
def c_lex_Digits : CF := ⟨2, 16,
  .seq (.reg [] [
  ⟨(some 4), none, .mv (.c (.v (.string ⟨#[]⟩)))⟩]) (
  .seq (.reg [] [
  ⟨(some 6), none, .mv (.t 0)⟩,
  ⟨(some 7), none, .call false i_strconv_FormatUint [(.t 6), (.c (.v (.int .i64 10)))]⟩,
  ⟨(some 5), none, .mv (.t 7)⟩]) (
  .seq (.seq (.reg [] [
  ⟨(some 8), none, .mv (.t 1)⟩,
  ⟨(some 9), none, .mv (.t 8)⟩,
  ⟨(some 10), (some (9, true)), .mv (.t 0)⟩,
  ⟨(some 11), (some (9, true)), .bin .neq (.t 10) (.c (.v (.int .u64 0)))⟩,
  ⟨(some 12), none, .pick (.t 9) (.t 11) (.c (.v (.bool false)))⟩]) (
  .cond (.t 12) (
  .seq (.reg [] [
  ⟨(some 13), none, .mv (.t 5)⟩,
  ⟨(some 14), none, .bin .add (.c (.v (.string ⟨#[45]⟩))) (.t 13)⟩,
  ⟨(some 4), none, .mv (.t 14)⟩]) (
  .ret)) (
  .skip))) (
  .seq (.reg [] [
  ⟨(some 15), none, .mv (.t 5)⟩,
  ⟨(some 4), none, .mv (.t 15)⟩]) (
  .ret)))),
  [.t 4]⟩
def v_lex_Digits : List Nat := []
set_option maxRecDepth 100000 in
theorem s_lex_Digits (call : Eng.Call) (G : Nat → AV) (n : Nat) (x0 x1 : AV) : denFE call G v_lex_Digits n c_lex_Digits [x0, x1] =
 Xx call [] 7 (.call false i_strconv_FormatUint [(.c x0), (.c (.v (.int .i64 10)))]) (fun x2 ox2 =>
 Xgq x1 true (.mv (.c x0)) (fun x3 =>
 Xgq x1 true (.bin .neq (.c x3) (.c (.v (.int .u64 0)))) (fun x4 =>
 Xq (.pick (.c x1) (.c x4) (.c (.v (.bool false)))) (fun x5 =>
 Xc x5 (fun _ =>
 Xq (.bin .add (.c (.v (.string ⟨#[45]⟩))) (.c x2)) (fun x6 =>
 Xr ox2 [some x6]) ()) (fun _ =>
 Xr ox2 [some x2]) () ()) ()) ()) ()) () := by kernel_rfl
def k_ref10_Digits_0 : List Nat := [1, 6, 5]
def c_ref10_Digits_b0 : CC := .seq (.seq (.reg [] [
  ⟨(some 10), none, .mv (.t 6)⟩,
  ⟨(some 11), none, .bin .gtr (.t 10) (.c (.v (.int .u64 0)))⟩]) (
  .cond (.t 11) (
  .skip) (
  .exit 0))) (
  .seq (.block 1 (
  .reg [] [
  ⟨(some 14), none, .mv (.t 6)⟩,
  ⟨(some 15), none, .bin .rem (.t 14) (.c (.v (.int .u64 10)))⟩,
  ⟨(some 16), none, .bin .add (.c (.v (.int .u64 48))) (.t 15)⟩,
  ⟨(some 17), none, .cvi .u8 (.t 16)⟩,
  ⟨(some 18), none, .bsl 1 1 [(.v (.int .u8 0))] [(0, (.t 17))]⟩,
  ⟨(some 19), none, .b2s (.t 18)⟩,
  ⟨(some 20), none, .mv (.t 5)⟩,
  ⟨(some 21), none, .bin .add (.t 19) (.t 20)⟩,
  ⟨(some 5), none, .mv (.t 21)⟩])) (
  .reg [] [
  ⟨(some 12), none, .mv (.t 6)⟩,
  ⟨(some 13), none, .bin .quo (.t 12) (.c (.v (.int .u64 10)))⟩,
  ⟨(some 6), none, .mv (.t 13)⟩]))
def c_ref10_Digits_s0 : CC := .seq (.seq (.reg [] [
  ⟨(some 22), none, .mv (.t 1)⟩]) (
  .cond (.t 22) (
  .seq (.reg [] [
  ⟨(some 23), none, .mv (.t 5)⟩,
  ⟨(some 24), none, .bin .add (.c (.v (.string ⟨#[45]⟩))) (.t 23)⟩,
  ⟨(some 4), none, .mv (.t 24)⟩]) (
  .ret)) (
  .skip))) (
  .seq (.reg [] [
  ⟨(some 25), none, .mv (.t 5)⟩,
  ⟨(some 4), none, .mv (.t 25)⟩]) (
  .ret))
def c_ref10_Digits : CF := ⟨2, 26,
  .seq (.reg [] [
  ⟨(some 4), none, .mv (.c (.v (.string ⟨#[]⟩)))⟩]) (
  .seq (.reg [] [
  ⟨(some 5), none, .mv (.c (.v (.string ⟨#[]⟩)))⟩]) (
  .seq (.seq (.reg [] [
  ⟨(some 7), none, .mv (.t 0)⟩,
  ⟨(some 8), none, .bin .eql (.t 7) (.c (.v (.int .u64 0)))⟩]) (
  .cond (.t 8) (
  .seq (.reg [] [
  ⟨(some 4), none, .mv (.c (.v (.string ⟨#[48]⟩)))⟩]) (
  .ret)) (
  .skip))) (
  .seq (.seq (.reg [] [
  ⟨(some 9), none, .mv (.t 0)⟩,
  ⟨(some 6), none, .mv (.t 9)⟩]) (
  .block 0 (
  .loop k_ref10_Digits_0 c_ref10_Digits_b0))) c_ref10_Digits_s0))),
  [.t 4]⟩
def v_ref10_Digits : List Nat := []
def R_ref10_Digits_0 (call : Eng.Call) (G : Nat → AV) (n m0 : Nat) (o : Objs) (y1 y6 y5 : AV) : Out := roundsE k_ref10_Digits_0 (denE 26 call G v_ref10_Digits n c_ref10_Digits_b0) m0 [y1, y6, y5] o (eBlock 0 (eSeq (denE 26 call G v_ref10_Digits n c_ref10_Digits_s0) (eEnd [.t 4])))
set_option maxRecDepth 100000 in
theorem R_ref10_Digits_0_s (call : Eng.Call) (G : Nat → AV) (n m0 : Nat) (o : Objs) (y1 y6 y5 : AV) : R_ref10_Digits_0 call G n (m0 + 1) o y1 y6 y5 =
 Xq (.bin .gtr (.c y6) (.c (.v (.int .u64 0)))) (fun x3 =>
 Xc x3 (fun _ =>
 Xq (.bin .rem (.c y6) (.c (.v (.int .u64 10)))) (fun x4 =>
 Xq (.bin .add (.c (.v (.int .u64 48))) (.c x4)) (fun x5 =>
 Xq (.cvi .u8 (.c x5)) (fun x6 =>
 Xx call o 18 (.bsl 1 1 [(.v (.int .u8 0))] [(0, (.c x6))]) (fun x7 ox7 =>
 Xq (.b2s (.c x7)) (fun x8 =>
 Xq (.bin .add (.c x8) (.c y5)) (fun x9 =>
 Xq (.bin .quo (.c y6) (.c (.v (.int .u64 10)))) (fun x10 =>
 R_ref10_Digits_0 call G n m0 (maskO k_ref10_Digits_0 ox7) (msk k_ref10_Digits_0 y1) (msk k_ref10_Digits_0 x10) (msk k_ref10_Digits_0 x9)) ()) ()) ()) ()) ()) ()) ()) (fun _ =>
 Xc y1 (fun _ =>
 Xq (.bin .add (.c (.v (.string ⟨#[45]⟩))) (.c y5)) (fun x11 =>
 Xr o [some x11]) ()) (fun _ =>
 Xr o [some y5]) () ()) () ()) () := by kernel_rfl
set_option maxRecDepth 100000 in
theorem s_ref10_Digits (call : Eng.Call) (G : Nat → AV) (n : Nat) (x0 x1 : AV) : denFE call G v_ref10_Digits n c_ref10_Digits [x0, x1] =
 Xq (.bin .eql (.c x0) (.c (.v (.int .u64 0)))) (fun x2 =>
 Xc x2 (fun _ =>
 Xr [] [some (.v (.string ⟨#[48]⟩))]) (fun _ =>
 R_ref10_Digits_0 call G n n (maskO k_ref10_Digits_0 []) (msk k_ref10_Digits_0 x1) (msk k_ref10_Digits_0 x0) (msk k_ref10_Digits_0 (.v (.string ⟨#[]⟩)))) () ()) () := by kernel_rfl
def k_ref10_pass_0 : List Nat := [0, 1]
def c_ref10_pass_b0 : CC := .seq (.seq (.reg [] [
  ⟨(some 46), none, .mv (.t 1)⟩,
  ⟨(some 47), none, .mv (.t 0)⟩,
  ⟨(some 48), none, .len true (.t 47)⟩,
  ⟨(some 49), none, .bin .lss (.t 46) (.t 48)⟩,
  ⟨(some 50), none, .mv (.t 49)⟩,
  ⟨(some 51), (some (50, true)), .mv (.t 0)⟩,
  ⟨(some 52), (some (50, true)), .mv (.t 1)⟩,
  ⟨(some 53), (some (50, true)), .ixs (.t 51) (.t 52)⟩,
  ⟨(some 54), (some (50, true)), .bin .neq (.t 53) (.c (.v (.int .u8 10)))⟩,
  ⟨(some 55), none, .pick (.t 50) (.t 54) (.c (.v (.bool false)))⟩]) (
  .cond (.t 55) (
  .skip) (
  .exit 2))) (
  .block 3 (
  .reg [] [
  ⟨(some 56), none, .mv (.t 1)⟩,
  ⟨(some 57), none, .bin .add (.t 56) (.c (.v (.int .i64 1)))⟩,
  ⟨(some 1), none, .mv (.t 57)⟩]))
def k_ref10_pass_1 : List Nat := [0, 1]
def c_ref10_pass_b1 : CC := .seq (.seq (.reg [] [
  ⟨(some 5), none, .mv (.t 1)⟩,
  ⟨(some 6), none, .mv (.t 0)⟩,
  ⟨(some 7), none, .len true (.t 6)⟩,
  ⟨(some 8), none, .bin .lss (.t 5) (.t 7)⟩]) (
  .cond (.t 8) (
  .skip) (
  .exit 0))) (
  .block 1 (
  .seq (.seq (.reg [] [
  ⟨(some 9), none, .mv (.t 0)⟩,
  ⟨(some 10), none, .mv (.t 1)⟩,
  ⟨(some 11), none, .ixs (.t 9) (.t 10)⟩,
  ⟨(some 12), none, .bin .eql (.t 11) (.c (.v (.int .u8 32)))⟩,
  ⟨(some 13), none, .mv (.t 12)⟩,
  ⟨(some 14), (some (13, false)), .mv (.t 0)⟩,
  ⟨(some 15), (some (13, false)), .mv (.t 1)⟩,
  ⟨(some 16), (some (13, false)), .ixs (.t 14) (.t 15)⟩,
  ⟨(some 17), (some (13, false)), .bin .eql (.t 16) (.c (.v (.int .u8 10)))⟩,
  ⟨(some 18), none, .pick (.t 13) (.c (.v (.bool true))) (.t 17)⟩,
  ⟨(some 19), none, .mv (.t 18)⟩,
  ⟨(some 20), (some (19, false)), .mv (.t 0)⟩,
  ⟨(some 21), (some (19, false)), .mv (.t 1)⟩,
  ⟨(some 22), (some (19, false)), .ixs (.t 20) (.t 21)⟩,
  ⟨(some 23), (some (19, false)), .bin .eql (.t 22) (.c (.v (.int .u8 9)))⟩,
  ⟨(some 24), none, .pick (.t 19) (.c (.v (.bool true))) (.t 23)⟩]) (
  .cond (.t 24) (
  .seq (.reg [] [
  ⟨(some 25), none, .mv (.t 1)⟩,
  ⟨(some 26), none, .bin .add (.t 25) (.c (.v (.int .i64 1)))⟩,
  ⟨(some 1), none, .mv (.t 26)⟩]) (
  .exit 1)) (
  .skip))) (
  .seq (.seq (.reg [] [
  ⟨(some 27), none, .mv (.t 0)⟩,
  ⟨(some 28), none, .mv (.t 1)⟩,
  ⟨(some 29), none, .ixs (.t 27) (.t 28)⟩,
  ⟨(some 30), none, .bin .neq (.t 29) (.c (.v (.int .u8 47)))⟩,
  ⟨(some 31), none, .mv (.t 30)⟩,
  ⟨(some 32), (some (31, false)), .mv (.t 1)⟩,
  ⟨(some 33), (some (31, false)), .bin .add (.t 32) (.c (.v (.int .i64 1)))⟩,
  ⟨(some 34), (some (31, false)), .mv (.t 0)⟩,
  ⟨(some 35), (some (31, false)), .len true (.t 34)⟩,
  ⟨(some 36), (some (31, false)), .bin .geq (.t 33) (.t 35)⟩,
  ⟨(some 37), none, .pick (.t 31) (.c (.v (.bool true))) (.t 36)⟩,
  ⟨(some 38), none, .mv (.t 37)⟩,
  ⟨(some 39), (some (38, false)), .mv (.t 0)⟩,
  ⟨(some 40), (some (38, false)), .mv (.t 1)⟩,
  ⟨(some 41), (some (38, false)), .bin .add (.t 40) (.c (.v (.int .i64 1)))⟩,
  ⟨(some 42), (some (38, false)), .ixs (.t 39) (.t 41)⟩,
  ⟨(some 43), (some (38, false)), .bin .neq (.t 42) (.c (.v (.int .u8 47)))⟩,
  ⟨(some 44), none, .pick (.t 38) (.c (.v (.bool true))) (.t 43)⟩]) (
  .cond (.t 44) (
  .seq (.reg [] [
  ⟨(some 45), none, .mv (.t 1)⟩,
  ⟨(some 4), none, .mv (.t 45)⟩]) (
  .ret)) (
  .skip))) (
  .block 2 (
  .loop k_ref10_pass_0 c_ref10_pass_b0)))))
def c_ref10_pass_s0 : CC := .seq (.reg [] [
  ⟨(some 58), none, .mv (.t 1)⟩,
  ⟨(some 4), none, .mv (.t 58)⟩]) (
  .ret)
def c_ref10_pass : CF := ⟨2, 59,
  .seq (.reg [] [
  ⟨(some 4), none, .mv (.c (.v (.int .i64 0)))⟩]) (
  .seq (.block 0 (
  .loop k_ref10_pass_1 c_ref10_pass_b1)) c_ref10_pass_s0),
  [.t 4]⟩
def v_ref10_pass : List Nat := []
def R_ref10_pass_0 (call : Eng.Call) (G : Nat → AV) (n m0 m1 : Nat) (o : Objs) (y0 y1 : AV) : Out := roundsE k_ref10_pass_0 (denE 59 call G v_ref10_pass n c_ref10_pass_b0) m0 [y0, y1] o (eBlock 2 (eBlock 1 (eLoop k_ref10_pass_1 (denE 59 call G v_ref10_pass n c_ref10_pass_b1) m1 (eBlock 0 (eSeq (denE 59 call G v_ref10_pass n c_ref10_pass_s0) (eEnd [.t 4]))))))
def R_ref10_pass_1 (call : Eng.Call) (G : Nat → AV) (n m1 : Nat) (o : Objs) (y0 y1 : AV) : Out := roundsE k_ref10_pass_1 (denE 59 call G v_ref10_pass n c_ref10_pass_b1) m1 [y0, y1] o (eBlock 0 (eSeq (denE 59 call G v_ref10_pass n c_ref10_pass_s0) (eEnd [.t 4])))
set_option maxRecDepth 100000 in
theorem R_ref10_pass_0_s (call : Eng.Call) (G : Nat → AV) (n m0 m1 : Nat) (o : Objs) (y0 y1 : AV) : R_ref10_pass_0 call G n (m0 + 1) m1 o y0 y1 =
 Xq (.len true (.c y0)) (fun x31 =>
 Xq (.bin .lss (.c y1) (.c x31)) (fun x32 =>
 Xgq x32 true (.mv (.c y0)) (fun x33 =>
 Xgq x32 true (.mv (.c y1)) (fun x34 =>
 Xgq x32 true (.ixs (.c x33) (.c x34)) (fun x35 =>
 Xgq x32 true (.bin .neq (.c x35) (.c (.v (.int .u8 10)))) (fun x36 =>
 Xq (.pick (.c x32) (.c x36) (.c (.v (.bool false)))) (fun x37 =>
 Xc x37 (fun _ =>
 Xq (.bin .add (.c y1) (.c (.v (.int .i64 1)))) (fun x38 =>
 R_ref10_pass_0 call G n m0 m1 (maskO k_ref10_pass_0 o) (msk k_ref10_pass_0 y0) (msk k_ref10_pass_0 x38)) ()) (fun _ =>
 R_ref10_pass_1 call G n m1 (maskO k_ref10_pass_1 o) (msk k_ref10_pass_1 y0) (msk k_ref10_pass_1 y1)) () ()) ()) ()) ()) ()) ()) ()) () := by kernel_rfl
set_option maxRecDepth 100000 in
theorem R_ref10_pass_1_s (call : Eng.Call) (G : Nat → AV) (n m1 : Nat) (o : Objs) (y0 y1 : AV) : R_ref10_pass_1 call G n (m1 + 1) o y0 y1 =
 Xq (.len true (.c y0)) (fun x2 =>
 Xq (.bin .lss (.c y1) (.c x2)) (fun x3 =>
 Xc x3 (fun _ =>
 Xq (.ixs (.c y0) (.c y1)) (fun x4 =>
 Xq (.bin .eql (.c x4) (.c (.v (.int .u8 32)))) (fun x5 =>
 Xgq x5 false (.mv (.c y0)) (fun x6 =>
 Xgq x5 false (.mv (.c y1)) (fun x7 =>
 Xgq x5 false (.ixs (.c x6) (.c x7)) (fun x8 =>
 Xgq x5 false (.bin .eql (.c x8) (.c (.v (.int .u8 10)))) (fun x9 =>
 Xq (.pick (.c x5) (.c (.v (.bool true))) (.c x9)) (fun x10 =>
 Xgq x10 false (.mv (.c y0)) (fun x11 =>
 Xgq x10 false (.mv (.c y1)) (fun x12 =>
 Xgq x10 false (.ixs (.c x11) (.c x12)) (fun x13 =>
 Xgq x10 false (.bin .eql (.c x13) (.c (.v (.int .u8 9)))) (fun x14 =>
 Xq (.pick (.c x10) (.c (.v (.bool true))) (.c x14)) (fun x15 =>
 Xc x15 (fun _ =>
 Xq (.bin .add (.c y1) (.c (.v (.int .i64 1)))) (fun x16 =>
 R_ref10_pass_1 call G n m1 (maskO k_ref10_pass_1 o) (msk k_ref10_pass_1 y0) (msk k_ref10_pass_1 x16)) ()) (fun _ =>
 Xq (.ixs (.c y0) (.c y1)) (fun x17 =>
 Xq (.bin .neq (.c x17) (.c (.v (.int .u8 47)))) (fun x18 =>
 Xgq x18 false (.mv (.c y1)) (fun x19 =>
 Xgq x18 false (.bin .add (.c x19) (.c (.v (.int .i64 1)))) (fun x20 =>
 Xgq x18 false (.mv (.c y0)) (fun x21 =>
 Xgq x18 false (.len true (.c x21)) (fun x22 =>
 Xgq x18 false (.bin .geq (.c x20) (.c x22)) (fun x23 =>
 Xq (.pick (.c x18) (.c (.v (.bool true))) (.c x23)) (fun x24 =>
 Xgq x24 false (.mv (.c y0)) (fun x25 =>
 Xgq x24 false (.mv (.c y1)) (fun x26 =>
 Xgq x24 false (.bin .add (.c x26) (.c (.v (.int .i64 1)))) (fun x27 =>
 Xgq x24 false (.ixs (.c x25) (.c x27)) (fun x28 =>
 Xgq x24 false (.bin .neq (.c x28) (.c (.v (.int .u8 47)))) (fun x29 =>
 Xq (.pick (.c x24) (.c (.v (.bool true))) (.c x29)) (fun x30 =>
 Xc x30 (fun _ =>
 Xr o [some y1]) (fun _ =>
 R_ref10_pass_0 call G n n m1 (maskO k_ref10_pass_0 o) (msk k_ref10_pass_0 y0) (msk k_ref10_pass_0 y1)) () ()) ()) ()) ()) ()) ()) ()) ()) ()) ()) ()) ()) ()) ()) ()) () ()) ()) ()) ()) ()) ()) ()) ()) ()) ()) ()) ()) ()) (fun _ =>
 Xr o [some y1]) () ()) ()) () := by kernel_rfl
set_option maxRecDepth 100000 in
theorem s_ref10_pass (call : Eng.Call) (G : Nat → AV) (n : Nat) (x0 x1 : AV) : denFE call G v_ref10_pass n c_ref10_pass [x0, x1] =
 R_ref10_pass_1 call G n n (maskO k_ref10_pass_1 []) (msk k_ref10_pass_1 x0) (msk k_ref10_pass_1 x1) := by kernel_rfl
def c_ref10_one : CF := ⟨1, 53,
  .seq (.reg [] [
  ⟨(some 2), none, .alloc [(.v (.int .i64 0)), (.v (.string ⟨#[]⟩)), (.v (.int .u64 0)), (.v (.bool false)), (.v (.int .i64 0))] [0, 0, 0, 0, 0]⟩,
  ⟨(some 3), none, .mv (.c (.v (.int .i64 0)))⟩]) (
  .seq (.seq (.reg [] [
  ⟨(some 10), none, .mv (.t 0)⟩,
  ⟨(some 11), none, .call false i_ref10_word [(.t 10)]⟩,
  ⟨(some 4), none, .mv (.t 11)⟩]) (
  .seq (.reg [] [
  ⟨(some 12), none, .mv (.t 4)⟩,
  ⟨(some 13), none, .bin .gtr (.t 12) (.c (.v (.int .i64 0)))⟩]) (
  .cond (.t 13) (
  .seq (.reg [] [
  ⟨(some 14), none, .mv (.t 0)⟩,
  ⟨(some 15), none, .mv (.t 4)⟩,
  ⟨(some 16), none, .sls (.t 14) none (some (.t 15))⟩,
  ⟨(some 17), none, .build [(.v (.int .i64 0)), (.v (.string ⟨#[]⟩)), (.v (.int .u64 0)), (.v (.bool false)), (.v (.int .i64 0))] [(0, 1, (.c (.v (.int .i64 1)))), (1, 1, (.t 16))]⟩,
  ⟨(some 18), none, .mv (.t 4)⟩,
  ⟨none, none, .st 5 (.t 2) (.t 17)⟩,
  ⟨(some 3), none, .mv (.t 18)⟩]) (
  .ret)) (
  .skip)))) (
  .seq (.seq (.reg [] [
  ⟨(some 20), none, .mv (.t 0)⟩,
  ⟨(some 21), none, .call false i_ref10_number [(.t 20)]⟩,
  ⟨(some 19), none, .mv (.t 21)⟩,
  ⟨(some 22), none, .ext (.t 19) 0⟩,
  ⟨(some 23), none, .ext (.t 19) 1⟩,
  ⟨(some 24), none, .ext (.t 19) 2⟩,
  ⟨(some 5), none, .mv (.t 22)⟩,
  ⟨(some 6), none, .mv (.t 23)⟩,
  ⟨(some 7), none, .mv (.t 24)⟩]) (
  .seq (.reg [] [
  ⟨(some 25), none, .mv (.t 7)⟩,
  ⟨(some 26), none, .bin .gtr (.t 25) (.c (.v (.int .i64 0)))⟩]) (
  .cond (.t 26) (
  .seq (.reg [] [
  ⟨(some 27), none, .mv (.t 5)⟩,
  ⟨(some 28), none, .mv (.t 6)⟩,
  ⟨(some 29), none, .build [(.v (.int .i64 0)), (.v (.string ⟨#[]⟩)), (.v (.int .u64 0)), (.v (.bool false)), (.v (.int .i64 0))] [(0, 1, (.c (.v (.int .i64 2)))), (2, 1, (.t 27)), (3, 1, (.t 28))]⟩,
  ⟨(some 30), none, .mv (.t 7)⟩,
  ⟨none, none, .st 5 (.t 2) (.t 29)⟩,
  ⟨(some 3), none, .mv (.t 30)⟩]) (
  .ret)) (
  .skip)))) (
  .seq (.seq (.reg [] [
  ⟨(some 32), none, .mv (.t 0)⟩,
  ⟨(some 33), none, .call false i_ref10_text [(.t 32)]⟩,
  ⟨(some 31), none, .mv (.t 33)⟩,
  ⟨(some 34), none, .ext (.t 31) 0⟩,
  ⟨(some 35), none, .ext (.t 31) 1⟩,
  ⟨(some 8), none, .mv (.t 34)⟩,
  ⟨(some 9), none, .mv (.t 35)⟩]) (
  .seq (.reg [] [
  ⟨(some 36), none, .mv (.t 9)⟩,
  ⟨(some 37), none, .bin .gtr (.t 36) (.c (.v (.int .i64 0)))⟩]) (
  .cond (.t 37) (
  .seq (.reg [] [
  ⟨(some 38), none, .mv (.t 8)⟩,
  ⟨(some 39), none, .build [(.v (.int .i64 0)), (.v (.string ⟨#[]⟩)), (.v (.int .u64 0)), (.v (.bool false)), (.v (.int .i64 0))] [(0, 1, (.c (.v (.int .i64 3)))), (1, 1, (.t 38))]⟩,
  ⟨(some 40), none, .mv (.t 9)⟩,
  ⟨none, none, .st 5 (.t 2) (.t 39)⟩,
  ⟨(some 3), none, .mv (.t 40)⟩]) (
  .ret)) (
  .skip)))) (
  .seq (.seq (.reg [] [
  ⟨(some 41), none, .mv (.t 0)⟩,
  ⟨(some 42), none, .len true (.t 41)⟩,
  ⟨(some 43), none, .bin .gtr (.t 42) (.c (.v (.int .i64 0)))⟩,
  ⟨(some 44), none, .mv (.t 43)⟩,
  ⟨(some 45), (some (44, true)), .mv (.t 0)⟩,
  ⟨(some 46), (some (44, true)), .ixs (.t 45) (.c (.v (.int .i64 0)))⟩,
  ⟨(some 47), (some (44, true)), .call false i_ref10_mark [(.t 46)]⟩,
  ⟨(some 48), none, .pick (.t 44) (.t 47) (.c (.v (.bool false)))⟩]) (
  .cond (.t 48) (
  .seq (.reg [] [
  ⟨(some 49), none, .mv (.t 0)⟩,
  ⟨(some 50), none, .sls (.t 49) none (some (.c (.v (.int .i64 1))))⟩,
  ⟨(some 51), none, .build [(.v (.int .i64 0)), (.v (.string ⟨#[]⟩)), (.v (.int .u64 0)), (.v (.bool false)), (.v (.int .i64 0))] [(0, 1, (.c (.v (.int .i64 4)))), (1, 1, (.t 50))]⟩,
  ⟨none, none, .st 5 (.t 2) (.t 51)⟩,
  ⟨(some 3), none, .mv (.c (.v (.int .i64 1)))⟩]) (
  .ret)) (
  .skip))) (
  .seq (.reg [] [
  ⟨(some 52), none, .build [(.v (.int .i64 0)), (.v (.string ⟨#[]⟩)), (.v (.int .u64 0)), (.v (.bool false)), (.v (.int .i64 0))] []⟩,
  ⟨none, none, .st 5 (.t 2) (.t 52)⟩,
  ⟨(some 3), none, .mv (.c (.v (.int .i64 0)))⟩]) (
  .ret)))))),
  [.cell 2 true 5, .t 3]⟩
def v_ref10_one : List Nat := [2]
set_option maxRecDepth 100000 in
theorem s_ref10_one (call : Eng.Call) (G : Nat → AV) (n : Nat) (x0 : AV) : denFE call G v_ref10_one n c_ref10_one [x0] =
 Xx call [] 2 (.alloc [(.v (.int .i64 0)), (.v (.string ⟨#[]⟩)), (.v (.int .u64 0)), (.v (.bool false)), (.v (.int .i64 0))] [0, 0, 0, 0, 0]) (fun x1 ox1 =>
 Xx call ox1 11 (.call false i_ref10_word [(.c x0)]) (fun x2 ox2 =>
 Xq (.bin .gtr (.c x2) (.c (.v (.int .i64 0)))) (fun x3 =>
 Xc x3 (fun _ =>
 Xq (.sls (.c x0) none (some (.c x2))) (fun x4 =>
 Xq (.build [(.v (.int .i64 0)), (.v (.string ⟨#[]⟩)), (.v (.int .u64 0)), (.v (.bool false)), (.v (.int .i64 0))] [(0, 1, (.c (.v (.int .i64 1)))), (1, 1, (.c x4))]) (fun x5 =>
 Xv ox2 5 x1 x5 (fun ox6 =>
 Xr ox6 [cellR ox6 x1 true 5, some x2]) ()) ()) ()) (fun _ =>
 Xx call ox2 21 (.call false i_ref10_number [(.c x0)]) (fun x7 ox7 =>
 Xq (.ext (.c x7) 0) (fun x8 =>
 Xq (.ext (.c x7) 1) (fun x9 =>
 Xq (.ext (.c x7) 2) (fun x10 =>
 Xq (.bin .gtr (.c x10) (.c (.v (.int .i64 0)))) (fun x11 =>
 Xc x11 (fun _ =>
 Xq (.build [(.v (.int .i64 0)), (.v (.string ⟨#[]⟩)), (.v (.int .u64 0)), (.v (.bool false)), (.v (.int .i64 0))] [(0, 1, (.c (.v (.int .i64 2)))), (2, 1, (.c x8)), (3, 1, (.c x9))]) (fun x12 =>
 Xv ox7 5 x1 x12 (fun ox13 =>
 Xr ox13 [cellR ox13 x1 true 5, some x10]) ()) ()) (fun _ =>
 Xx call ox7 33 (.call false i_ref10_text [(.c x0)]) (fun x14 ox14 =>
 Xq (.ext (.c x14) 0) (fun x15 =>
 Xq (.ext (.c x14) 1) (fun x16 =>
 Xq (.bin .gtr (.c x16) (.c (.v (.int .i64 0)))) (fun x17 =>
 Xc x17 (fun _ =>
 Xq (.build [(.v (.int .i64 0)), (.v (.string ⟨#[]⟩)), (.v (.int .u64 0)), (.v (.bool false)), (.v (.int .i64 0))] [(0, 1, (.c (.v (.int .i64 3)))), (1, 1, (.c x15))]) (fun x18 =>
 Xv ox14 5 x1 x18 (fun ox19 =>
 Xr ox19 [cellR ox19 x1 true 5, some x16]) ()) ()) (fun _ =>
 Xq (.len true (.c x0)) (fun x20 =>
 Xq (.bin .gtr (.c x20) (.c (.v (.int .i64 0)))) (fun x21 =>
 Xgq x21 true (.mv (.c x0)) (fun x22 =>
 Xgq x21 true (.ixs (.c x22) (.c (.v (.int .i64 0)))) (fun x23 =>
 Xxg call x21 true ox14 47 (.call false i_ref10_mark [(.c x23)]) (fun x24 ox24 =>
 Xq (.pick (.c x21) (.c x24) (.c (.v (.bool false)))) (fun x25 =>
 Xc x25 (fun _ =>
 Xq (.sls (.c x0) none (some (.c (.v (.int .i64 1))))) (fun x26 =>
 Xq (.build [(.v (.int .i64 0)), (.v (.string ⟨#[]⟩)), (.v (.int .u64 0)), (.v (.bool false)), (.v (.int .i64 0))] [(0, 1, (.c (.v (.int .i64 4)))), (1, 1, (.c x26))]) (fun x27 =>
 Xv ox24 5 x1 x27 (fun ox28 =>
 Xr ox28 [cellR ox28 x1 true 5, some (.v (.int .i64 1))]) ()) ()) ()) (fun _ =>
 Xq (.build [(.v (.int .i64 0)), (.v (.string ⟨#[]⟩)), (.v (.int .u64 0)), (.v (.bool false)), (.v (.int .i64 0))] []) (fun x29 =>
 Xv ox24 5 x1 x29 (fun ox30 =>
 Xr ox30 [cellR ox30 x1 true 5, some (.v (.int .i64 0))]) ()) ()) () ()) ()) ()) ()) ()) ()) ()) () ()) ()) ()) ()) ()) () ()) ()) ()) ()) ()) ()) () ()) ()) ()) () := by kernel_rfl
def c_scalar_Whole : CF := ⟨1, 7,
  .seq (.reg [] [
  ⟨(some 2), none, .mv (.c (.v (.bool false)))⟩]) (
  .seq (.reg [] [
  ⟨(some 3), none, .mv (.t 0)⟩,
  ⟨(some 4), none, .call false i_scalar_kind [(.t 3)]⟩,
  ⟨(some 5), none, .bin .and (.t 4) (.c (.v (.int .i64 1)))⟩,
  ⟨(some 6), none, .bin .neq (.t 5) (.c (.v (.int .i64 0)))⟩,
  ⟨(some 2), none, .mv (.t 6)⟩]) (
  .ret)),
  [.t 2]⟩
def v_scalar_Whole : List Nat := []
set_option maxRecDepth 100000 in
theorem s_scalar_Whole (call : Eng.Call) (G : Nat → AV) (n : Nat) (x0 : AV) : denFE call G v_scalar_Whole n c_scalar_Whole [x0] =
 Xx call [] 4 (.call false i_scalar_kind [(.c x0)]) (fun x1 ox1 =>
 Xq (.bin .and (.c x1) (.c (.v (.int .i64 1)))) (fun x2 =>
 Xq (.bin .neq (.c x2) (.c (.v (.int .i64 0)))) (fun x3 =>
 Xr ox1 [some x3]) ()) ()) () := by kernel_rfl
def c_scalar_May : CF := ⟨2, 34,
  .seq (.reg [] [
  ⟨(some 4), none, .mv (.c (.v (.bool false)))⟩]) (
  .seq (.block 0 (
  .seq (.reg [] [
  ⟨(some 6), none, .mv (.t 0)⟩,
  ⟨(some 7), none, .bin .lss (.t 6) (.c (.v (.int .i64 1)))⟩,
  ⟨(some 8), none, .mv (.t 7)⟩,
  ⟨(some 9), (some (8, false)), .mv (.t 0)⟩,
  ⟨(some 10), (some (8, false)), .bin .gtr (.t 9) (.c (.v (.int .i64 15)))⟩,
  ⟨(some 11), none, .pick (.t 8) (.c (.v (.bool true))) (.t 10)⟩,
  ⟨(some 5), none, .mv (.t 11)⟩]) (
  .cond (.t 5) (
  .seq (.reg [] [
  ⟨(some 4), none, .mv (.c (.v (.bool false)))⟩]) (
  .ret)) (
  .seq (.reg [] [
  ⟨(some 13), none, .mv (.t 0)⟩,
  ⟨(some 14), none, .call false i_scalar_Wide [(.t 13)]⟩,
  ⟨(some 12), none, .mv (.t 14)⟩]) (
  .cond (.t 12) (
  .seq (.reg [] [
  ⟨(some 4), none, .mv (.c (.v (.bool true)))⟩]) (
  .ret)) (
  .seq (.reg [] [
  ⟨(some 16), none, .mv (.t 0)⟩,
  ⟨(some 17), none, .call false i_scalar_Signed [(.t 16)]⟩,
  ⟨(some 15), none, .mv (.t 17)⟩]) (
  .cond (.t 15) (
  .seq (.reg [] [
  ⟨(some 18), none, .mv (.t 1)⟩,
  ⟨(some 19), none, .cvi .i64 (.t 18)⟩,
  ⟨(some 20), none, .call false i_zig_Fits [(.t 19)]⟩,
  ⟨(some 4), none, .mv (.t 20)⟩]) (
  .ret)) (
  .seq (.reg [] [
  ⟨(some 22), none, .mv (.t 0)⟩,
  ⟨(some 23), none, .call false i_scalar_Whole [(.t 22)]⟩,
  ⟨(some 21), none, .mv (.t 23)⟩]) (
  .cond (.t 21) (
  .seq (.reg [] [
  ⟨(some 24), none, .mv (.t 1)⟩,
  ⟨(some 25), none, .bin .shr (.t 24) (.c (.v (.int .u64 32)))⟩,
  ⟨(some 26), none, .bin .eql (.t 25) (.c (.v (.int .u64 0)))⟩,
  ⟨(some 4), none, .mv (.t 26)⟩]) (
  .ret)) (
  .seq (.reg [] [
  ⟨(some 28), none, .mv (.t 0)⟩,
  ⟨(some 29), none, .bin .eql (.t 28) (.c (.v (.int .i64 7)))⟩,
  ⟨(some 27), none, .mv (.t 29)⟩]) (
  .cond (.t 27) (
  .seq (.reg [] [
  ⟨(some 30), none, .mv (.t 1)⟩,
  ⟨(some 31), none, .bin .leq (.t 30) (.c (.v (.int .u64 1)))⟩,
  ⟨(some 4), none, .mv (.t 31)⟩]) (
  .ret)) (
  .skip)))))))))))) (
  .seq (.reg [] [
  ⟨(some 32), none, .mv (.t 1)⟩,
  ⟨(some 33), none, .bin .eql (.t 32) (.c (.v (.int .u64 0)))⟩,
  ⟨(some 4), none, .mv (.t 33)⟩]) (
  .ret))),
  [.t 4]⟩
def v_scalar_May : List Nat := []
set_option maxRecDepth 100000 in
theorem s_scalar_May (call : Eng.Call) (G : Nat → AV) (n : Nat) (x0 x1 : AV) : denFE call G v_scalar_May n c_scalar_May [x0, x1] =
 Xq (.bin .lss (.c x0) (.c (.v (.int .i64 1)))) (fun x2 =>
 Xgq x2 false (.mv (.c x0)) (fun x3 =>
 Xgq x2 false (.bin .gtr (.c x3) (.c (.v (.int .i64 15)))) (fun x4 =>
 Xq (.pick (.c x2) (.c (.v (.bool true))) (.c x4)) (fun x5 =>
 Xc x5 (fun _ =>
 Xr [] [some (.v (.bool false))]) (fun _ =>
 Xx call [] 14 (.call false i_scalar_Wide [(.c x0)]) (fun x6 ox6 =>
 Xc x6 (fun _ =>
 Xr ox6 [some (.v (.bool true))]) (fun _ =>
 Xx call ox6 17 (.call false i_scalar_Signed [(.c x0)]) (fun x7 ox7 =>
 Xc x7 (fun _ =>
 Xq (.cvi .i64 (.c x1)) (fun x8 =>
 Xx call ox7 20 (.call false i_zig_Fits [(.c x8)]) (fun x9 ox9 =>
 Xr ox9 [some x9]) ()) ()) (fun _ =>
 Xx call ox7 23 (.call false i_scalar_Whole [(.c x0)]) (fun x10 ox10 =>
 Xc x10 (fun _ =>
 Xq (.bin .shr (.c x1) (.c (.v (.int .u64 32)))) (fun x11 =>
 Xq (.bin .eql (.c x11) (.c (.v (.int .u64 0)))) (fun x12 =>
 Xr ox10 [some x12]) ()) ()) (fun _ =>
 Xq (.bin .eql (.c x0) (.c (.v (.int .i64 7)))) (fun x13 =>
 Xc x13 (fun _ =>
 Xq (.bin .leq (.c x1) (.c (.v (.int .u64 1)))) (fun x14 =>
 Xr ox10 [some x14]) ()) (fun _ =>
 Xq (.bin .eql (.c x1) (.c (.v (.int .u64 0)))) (fun x15 =>
 Xr ox10 [some x15]) ()) () ()) ()) () ()) ()) () ()) ()) () ()) ()) () ()) ()) ()) ()) () := by kernel_rfl
def c_scalar_Signed : CF := ⟨1, 7,
  .seq (.reg [] [
  ⟨(some 2), none, .mv (.c (.v (.bool false)))⟩]) (
  .seq (.reg [] [
  ⟨(some 3), none, .mv (.t 0)⟩,
  ⟨(some 4), none, .call false i_scalar_kind [(.t 3)]⟩,
  ⟨(some 5), none, .bin .and (.t 4) (.c (.v (.int .i64 4)))⟩,
  ⟨(some 6), none, .bin .neq (.t 5) (.c (.v (.int .i64 0)))⟩,
  ⟨(some 2), none, .mv (.t 6)⟩]) (
  .ret)),
  [.t 2]⟩
def v_scalar_Signed : List Nat := []
set_option maxRecDepth 100000 in
theorem s_scalar_Signed (call : Eng.Call) (G : Nat → AV) (n : Nat) (x0 : AV) : denFE call G v_scalar_Signed n c_scalar_Signed [x0] =
 Xx call [] 4 (.call false i_scalar_kind [(.c x0)]) (fun x1 ox1 =>
 Xq (.bin .and (.c x1) (.c (.v (.int .i64 4)))) (fun x2 =>
 Xq (.bin .neq (.c x2) (.c (.v (.int .i64 0)))) (fun x3 =>
 Xr ox1 [some x3]) ()) ()) () := by kernel_rfl
def k_ref10_word_0 : List Nat := [0, 3]
def c_ref10_word_b0 : CC := .seq (.seq (.reg [] [
  ⟨(some 4), none, .mv (.t 3)⟩,
  ⟨(some 5), none, .mv (.t 0)⟩,
  ⟨(some 6), none, .len true (.t 5)⟩,
  ⟨(some 7), none, .bin .lss (.t 4) (.t 6)⟩,
  ⟨(some 8), none, .mv (.t 7)⟩,
  ⟨(some 9), (some (8, true)), .mv (.t 0)⟩,
  ⟨(some 10), (some (8, true)), .mv (.t 3)⟩,
  ⟨(some 11), (some (8, true)), .ixs (.t 9) (.t 10)⟩,
  ⟨(some 12), (some (8, true)), .call false i_ref09_Letter [(.t 11)]⟩,
  ⟨(some 13), (some (8, true)), .mv (.t 12)⟩,
  ⟨(some 14), (some (13, false)), .mv (.t 3)⟩,
  ⟨(some 15), (some (13, false)), .bin .gtr (.t 14) (.c (.v (.int .i64 0)))⟩,
  ⟨(some 16), (some (13, false)), .mv (.t 15)⟩,
  ⟨(some 17), (some (16, true)), .mv (.t 0)⟩,
  ⟨(some 18), (some (16, true)), .mv (.t 3)⟩,
  ⟨(some 19), (some (16, true)), .ixs (.t 17) (.t 18)⟩,
  ⟨(some 20), (some (16, true)), .call false i_ref10_digit [(.t 19)]⟩,
  ⟨(some 21), (some (16, true)), .mv (.t 20)⟩,
  ⟨(some 22), (some (21, false)), .mv (.t 0)⟩,
  ⟨(some 23), (some (21, false)), .mv (.t 3)⟩,
  ⟨(some 24), (some (21, false)), .ixs (.t 22) (.t 23)⟩,
  ⟨(some 25), (some (21, false)), .bin .eql (.t 24) (.c (.v (.int .u8 95)))⟩,
  ⟨(some 26), (some (16, true)), .pick (.t 21) (.c (.v (.bool true))) (.t 25)⟩,
  ⟨(some 27), (some (13, false)), .pick (.t 16) (.t 26) (.c (.v (.bool false)))⟩,
  ⟨(some 28), (some (8, true)), .pick (.t 13) (.c (.v (.bool true))) (.t 27)⟩,
  ⟨(some 29), none, .pick (.t 8) (.t 28) (.c (.v (.bool false)))⟩]) (
  .cond (.t 29) (
  .skip) (
  .exit 0))) (
  .block 1 (
  .reg [] [
  ⟨(some 30), none, .mv (.t 3)⟩,
  ⟨(some 31), none, .bin .add (.t 30) (.c (.v (.int .i64 1)))⟩,
  ⟨(some 3), none, .mv (.t 31)⟩]))
def c_ref10_word_s0 : CC := .seq (.reg [] [
  ⟨(some 32), none, .mv (.t 3)⟩,
  ⟨(some 2), none, .mv (.t 32)⟩]) (
  .ret)
def c_ref10_word : CF := ⟨1, 33,
  .seq (.reg [] [
  ⟨(some 2), none, .mv (.c (.v (.int .i64 0)))⟩]) (
  .seq (.reg [] [
  ⟨(some 3), none, .mv (.c (.v (.int .i64 0)))⟩]) (
  .seq (.block 0 (
  .loop k_ref10_word_0 c_ref10_word_b0)) c_ref10_word_s0)),
  [.t 2]⟩
def v_ref10_word : List Nat := []
def R_ref10_word_0 (call : Eng.Call) (G : Nat → AV) (n m0 : Nat) (o : Objs) (y0 y3 : AV) : Out := roundsE k_ref10_word_0 (denE 33 call G v_ref10_word n c_ref10_word_b0) m0 [y0, y3] o (eBlock 0 (eSeq (denE 33 call G v_ref10_word n c_ref10_word_s0) (eEnd [.t 2])))
set_option maxRecDepth 100000 in
theorem R_ref10_word_0_s (call : Eng.Call) (G : Nat → AV) (n m0 : Nat) (o : Objs) (y0 y3 : AV) : R_ref10_word_0 call G n (m0 + 1) o y0 y3 =
 Xq (.len true (.c y0)) (fun x1 =>
 Xq (.bin .lss (.c y3) (.c x1)) (fun x2 =>
 Xgq x2 true (.mv (.c y0)) (fun x3 =>
 Xgq x2 true (.mv (.c y3)) (fun x4 =>
 Xgq x2 true (.ixs (.c x3) (.c x4)) (fun x5 =>
 Xxg call x2 true o 12 (.call false i_ref09_Letter [(.c x5)]) (fun x6 ox6 =>
 Xgq x2 true (.mv (.c x6)) (fun x7 =>
 Xgq x7 false (.mv (.c y3)) (fun x8 =>
 Xgq x7 false (.bin .gtr (.c x8) (.c (.v (.int .i64 0)))) (fun x9 =>
 Xgq x7 false (.mv (.c x9)) (fun x10 =>
 Xgq x10 true (.mv (.c y0)) (fun x11 =>
 Xgq x10 true (.mv (.c y3)) (fun x12 =>
 Xgq x10 true (.ixs (.c x11) (.c x12)) (fun x13 =>
 Xxg call x10 true ox6 20 (.call false i_ref10_digit [(.c x13)]) (fun x14 ox14 =>
 Xgq x10 true (.mv (.c x14)) (fun x15 =>
 Xgq x15 false (.mv (.c y0)) (fun x16 =>
 Xgq x15 false (.mv (.c y3)) (fun x17 =>
 Xgq x15 false (.ixs (.c x16) (.c x17)) (fun x18 =>
 Xgq x15 false (.bin .eql (.c x18) (.c (.v (.int .u8 95)))) (fun x19 =>
 Xgq x10 true (.pick (.c x15) (.c (.v (.bool true))) (.c x19)) (fun x20 =>
 Xgq x7 false (.pick (.c x10) (.c x20) (.c (.v (.bool false)))) (fun x21 =>
 Xgq x2 true (.pick (.c x7) (.c (.v (.bool true))) (.c x21)) (fun x22 =>
 Xq (.pick (.c x2) (.c x22) (.c (.v (.bool false)))) (fun x23 =>
 Xc x23 (fun _ =>
 Xq (.bin .add (.c y3) (.c (.v (.int .i64 1)))) (fun x24 =>
 R_ref10_word_0 call G n m0 (maskO k_ref10_word_0 ox14) (msk k_ref10_word_0 y0) (msk k_ref10_word_0 x24)) ()) (fun _ =>
 Xr ox14 [some y3]) () ()) ()) ()) ()) ()) ()) ()) ()) ()) ()) ()) ()) ()) ()) ()) ()) ()) ()) ()) ()) ()) ()) ()) () := by kernel_rfl
set_option maxRecDepth 100000 in
theorem s_ref10_word (call : Eng.Call) (G : Nat → AV) (n : Nat) (x0 : AV) : denFE call G v_ref10_word n c_ref10_word [x0] =
 R_ref10_word_0 call G n n (maskO k_ref10_word_0 []) (msk k_ref10_word_0 x0) (msk k_ref10_word_0 (.v (.int .i64 0))) := by kernel_rfl
def k_ref10_number_0 : List Nat := [0, 6, 7, 5, 8]
def c_ref10_number_b0 : CC := .seq (.seq (.reg [] [
  ⟨(some 20), none, .mv (.t 5)⟩,
  ⟨(some 21), none, .mv (.t 0)⟩,
  ⟨(some 22), none, .len true (.t 21)⟩,
  ⟨(some 23), none, .bin .lss (.t 20) (.t 22)⟩,
  ⟨(some 24), none, .mv (.t 23)⟩,
  ⟨(some 25), (some (24, true)), .mv (.t 0)⟩,
  ⟨(some 26), (some (24, true)), .mv (.t 5)⟩,
  ⟨(some 27), (some (24, true)), .ixs (.t 25) (.t 26)⟩,
  ⟨(some 28), (some (24, true)), .call false i_ref10_digit [(.t 27)]⟩,
  ⟨(some 29), none, .pick (.t 24) (.t 28) (.c (.v (.bool false)))⟩]) (
  .cond (.t 29) (
  .skip) (
  .exit 0))) (
  .block 1 (
  .seq (.reg [] [
  ⟨(some 30), none, .mv (.t 0)⟩,
  ⟨(some 31), none, .mv (.t 5)⟩,
  ⟨(some 32), none, .ixs (.t 30) (.t 31)⟩,
  ⟨(some 33), none, .bin .sub (.t 32) (.c (.v (.int .u8 48)))⟩,
  ⟨(some 34), none, .cvi .u64 (.t 33)⟩,
  ⟨(some 9), none, .mv (.t 34)⟩]) (
  .seq (.seq (.reg [] [
  ⟨(some 35), none, .mv (.t 8)⟩,
  ⟨(some 36), none, .mv (.t 9)⟩,
  ⟨(some 37), none, .bin .sub (.c (.v (.int .u64 18446744073709551615))) (.t 36)⟩,
  ⟨(some 38), none, .bin .quo (.t 37) (.c (.v (.int .u64 10)))⟩,
  ⟨(some 39), none, .bin .gtr (.t 35) (.t 38)⟩]) (
  .cond (.t 39) (
  .seq (.reg [] [
  ⟨(some 2), none, .mv (.c (.v (.int .u64 0)))⟩,
  ⟨(some 3), none, .mv (.c (.v (.bool false)))⟩,
  ⟨(some 4), none, .mv (.c (.v (.int .i64 0)))⟩]) (
  .ret)) (
  .skip))) (
  .seq (.reg [] [
  ⟨(some 40), none, .mv (.t 8)⟩,
  ⟨(some 41), none, .bin .mul (.c (.v (.int .u64 10))) (.t 40)⟩,
  ⟨(some 42), none, .mv (.t 9)⟩,
  ⟨(some 43), none, .bin .add (.t 41) (.t 42)⟩,
  ⟨(some 8), none, .mv (.t 43)⟩]) (
  .reg [] [
  ⟨(some 44), none, .mv (.t 5)⟩,
  ⟨(some 45), none, .bin .add (.t 44) (.c (.v (.int .i64 1)))⟩,
  ⟨(some 5), none, .mv (.t 45)⟩])))))
def c_ref10_number_s0 : CC := .seq (.seq (.reg [
  ⟨(some 46), none, .mv (.t 5)⟩,
  ⟨(some 47), none, .mv (.t 7)⟩,
  ⟨(some 48), none, .bin .eql (.t 46) (.t 47)⟩,
  ⟨(some 49), none, .mv (.t 48)⟩,
  ⟨(some 50), (some (49, false)), .mv (.t 8)⟩,
  ⟨(some 51), (some (49, false)), .mv (.t 6)⟩,
  ⟨(some 52), (some (49, false)), .call false i_ref10_Digits [(.t 50), (.t 51)]⟩,
  ⟨(some 53), (some (49, false)), .mv (.t 0)⟩,
  ⟨(some 54), (some (49, false)), .mv (.t 5)⟩,
  ⟨(some 55), (some (49, false)), .sls (.t 53) none (some (.t 54))⟩] [
  ⟨(some 56), (some (49, false)), .bin .neq (.t 52) (.t 55)⟩,
  ⟨(some 57), none, .pick (.t 49) (.c (.v (.bool true))) (.t 56)⟩,
  ⟨(some 58), none, .mv (.t 57)⟩,
  ⟨(some 59), (some (58, false)), .mv (.t 6)⟩,
  ⟨(some 60), (some (58, false)), .mv (.t 59)⟩,
  ⟨(some 61), (some (60, true)), .mv (.t 8)⟩,
  ⟨(some 62), (some (60, true)), .bin .gtr (.t 61) (.c (.v (.int .u64 9223372036854775808)))⟩,
  ⟨(some 63), (some (58, false)), .pick (.t 60) (.t 62) (.c (.v (.bool false)))⟩,
  ⟨(some 64), none, .pick (.t 58) (.c (.v (.bool true))) (.t 63)⟩]) (
  .cond (.t 64) (
  .seq (.reg [] [
  ⟨(some 2), none, .mv (.c (.v (.int .u64 0)))⟩,
  ⟨(some 3), none, .mv (.c (.v (.bool false)))⟩,
  ⟨(some 4), none, .mv (.c (.v (.int .i64 0)))⟩]) (
  .ret)) (
  .skip))) (
  .seq (.reg [] [
  ⟨(some 65), none, .mv (.t 8)⟩,
  ⟨(some 66), none, .mv (.t 6)⟩,
  ⟨(some 67), none, .mv (.t 5)⟩,
  ⟨(some 2), none, .mv (.t 65)⟩,
  ⟨(some 3), none, .mv (.t 66)⟩,
  ⟨(some 4), none, .mv (.t 67)⟩]) (
  .ret))
def c_ref10_number : CF := ⟨1, 68,
  .seq (.reg [] [
  ⟨(some 2), none, .mv (.c (.v (.int .u64 0)))⟩,
  ⟨(some 3), none, .mv (.c (.v (.bool false)))⟩,
  ⟨(some 4), none, .mv (.c (.v (.int .i64 0)))⟩]) (
  .seq (.reg [] [
  ⟨(some 5), none, .mv (.c (.v (.int .i64 0)))⟩]) (
  .seq (.reg [] [
  ⟨(some 10), none, .mv (.t 0)⟩,
  ⟨(some 11), none, .len true (.t 10)⟩,
  ⟨(some 12), none, .bin .gtr (.t 11) (.c (.v (.int .i64 0)))⟩,
  ⟨(some 13), none, .mv (.t 12)⟩,
  ⟨(some 14), (some (13, true)), .mv (.t 0)⟩,
  ⟨(some 15), (some (13, true)), .ixs (.t 14) (.c (.v (.int .i64 0)))⟩,
  ⟨(some 16), (some (13, true)), .bin .eql (.t 15) (.c (.v (.int .u8 45)))⟩,
  ⟨(some 17), none, .pick (.t 13) (.t 16) (.c (.v (.bool false)))⟩,
  ⟨(some 6), none, .mv (.t 17)⟩]) (
  .seq (.seq (.reg [] [
  ⟨(some 18), none, .mv (.t 6)⟩]) (
  .cond (.t 18) (
  .reg [] [
  ⟨(some 5), none, .mv (.c (.v (.int .i64 1)))⟩]) (
  .skip))) (
  .seq (.reg [] [
  ⟨(some 19), none, .mv (.t 5)⟩,
  ⟨(some 7), none, .mv (.t 19)⟩,
  ⟨(some 8), none, .mv (.c (.v (.int .u64 0)))⟩]) (
  .seq (.block 0 (
  .loop k_ref10_number_0 c_ref10_number_b0)) c_ref10_number_s0))))),
  [.t 2, .t 3, .t 4]⟩
def v_ref10_number : List Nat := []
def R_ref10_number_0 (call : Eng.Call) (G : Nat → AV) (n m0 : Nat) (o : Objs) (y0 y6 y7 y5 y8 : AV) : Out := roundsE k_ref10_number_0 (denE 68 call G v_ref10_number n c_ref10_number_b0) m0 [y0, y6, y7, y5, y8] o (eBlock 0 (eSeq (denE 68 call G v_ref10_number n c_ref10_number_s0) (eEnd [.t 2, .t 3, .t 4])))
set_option maxRecDepth 100000 in
theorem R_ref10_number_0_s (call : Eng.Call) (G : Nat → AV) (n m0 : Nat) (o : Objs) (y0 y6 y7 y5 y8 : AV) : R_ref10_number_0 call G n (m0 + 1) o y0 y6 y7 y5 y8 =
 Xq (.len true (.c y0)) (fun x7 =>
 Xq (.bin .lss (.c y5) (.c x7)) (fun x8 =>
 Xgq x8 true (.mv (.c y0)) (fun x9 =>
 Xgq x8 true (.mv (.c y5)) (fun x10 =>
 Xgq x8 true (.ixs (.c x9) (.c x10)) (fun x11 =>
 Xxg call x8 true o 28 (.call false i_ref10_digit [(.c x11)]) (fun x12 ox12 =>
 Xq (.pick (.c x8) (.c x12) (.c (.v (.bool false)))) (fun x13 =>
 Xc x13 (fun _ =>
 Xq (.ixs (.c y0) (.c y5)) (fun x14 =>
 Xq (.bin .sub (.c x14) (.c (.v (.int .u8 48)))) (fun x15 =>
 Xq (.cvi .u64 (.c x15)) (fun x16 =>
 Xq (.bin .sub (.c (.v (.int .u64 18446744073709551615))) (.c x16)) (fun x17 =>
 Xq (.bin .quo (.c x17) (.c (.v (.int .u64 10)))) (fun x18 =>
 Xq (.bin .gtr (.c y8) (.c x18)) (fun x19 =>
 Xc x19 (fun _ =>
 Xr ox12 [some (.v (.int .u64 0)), some (.v (.bool false)), some (.v (.int .i64 0))]) (fun _ =>
 Xq (.bin .mul (.c (.v (.int .u64 10))) (.c y8)) (fun x20 =>
 Xq (.bin .add (.c x20) (.c x16)) (fun x21 =>
 Xq (.bin .add (.c y5) (.c (.v (.int .i64 1)))) (fun x22 =>
 R_ref10_number_0 call G n m0 (maskO k_ref10_number_0 ox12) (msk k_ref10_number_0 y0) (msk k_ref10_number_0 y6) (msk k_ref10_number_0 y7) (msk k_ref10_number_0 x22) (msk k_ref10_number_0 x21)) ()) ()) ()) () ()) ()) ()) ()) ()) ()) ()) (fun _ =>
 Xq (.bin .eql (.c y5) (.c y7)) (fun x23 =>
 Xgq x23 false (.mv (.c y8)) (fun x24 =>
 Xgq x23 false (.mv (.c y6)) (fun x25 =>
 Xpg call x23 false ox12 52 (.call false i_ref10_Digits [(.c x24), (.c x25)]) (fun x26 nx26 sx26 =>
 Xgq x23 false (.mv (.c y0)) (fun x27 =>
 Xgq x23 false (.mv (.c y5)) (fun x28 =>
 Xgq x23 false (.sls (.c x27) none (some (.c x28))) (fun x29 =>
 Xgq x23 false (.bin .neq (.c x26) (.c x29)) (fun x30 =>
 Xq (.pick (.c x23) (.c (.v (.bool true))) (.c x30)) (fun x31 =>
 Xgq x31 false (.mv (.c y6)) (fun x32 =>
 Xgq x31 false (.mv (.c x32)) (fun x33 =>
 Xgq x33 true (.mv (.c y8)) (fun x34 =>
 Xgq x33 true (.bin .gtr (.c x34) (.c (.v (.int .u64 9223372036854775808)))) (fun x35 =>
 Xgq x31 false (.pick (.c x33) (.c x35) (.c (.v (.bool false)))) (fun x36 =>
 Xq (.pick (.c x31) (.c (.v (.bool true))) (.c x36)) (fun x37 =>
 Xc x37 (fun _ =>
 Xr (finO ox12 (nx26) (sx26)) [some (.v (.int .u64 0)), some (.v (.bool false)), some (.v (.int .i64 0))]) (fun _ =>
 Xr (finO ox12 (nx26) (sx26)) [some y8, some y6, some y5]) () ()) ()) ()) ()) ()) ()) ()) ()) ()) ()) ()) ()) ()) ()) ()) ()) () ()) ()) ()) ()) ()) ()) ()) () := by kernel_rfl
set_option maxRecDepth 100000 in
theorem s_ref10_number (call : Eng.Call) (G : Nat → AV) (n : Nat) (x0 : AV) : denFE call G v_ref10_number n c_ref10_number [x0] =
 Xq (.len true (.c x0)) (fun x1 =>
 Xq (.bin .gtr (.c x1) (.c (.v (.int .i64 0)))) (fun x2 =>
 Xgq x2 true (.mv (.c x0)) (fun x3 =>
 Xgq x2 true (.ixs (.c x3) (.c (.v (.int .i64 0)))) (fun x4 =>
 Xgq x2 true (.bin .eql (.c x4) (.c (.v (.int .u8 45)))) (fun x5 =>
 Xq (.pick (.c x2) (.c x5) (.c (.v (.bool false)))) (fun x6 =>
 Xc x6 (fun _ =>
 R_ref10_number_0 call G n n (maskO k_ref10_number_0 []) (msk k_ref10_number_0 x0) (msk k_ref10_number_0 x6) (msk k_ref10_number_0 (.v (.int .i64 1))) (msk k_ref10_number_0 (.v (.int .i64 1))) (msk k_ref10_number_0 (.v (.int .u64 0)))) (fun _ =>
 R_ref10_number_0 call G n n (maskO k_ref10_number_0 []) (msk k_ref10_number_0 x0) (msk k_ref10_number_0 x6) (msk k_ref10_number_0 (.v (.int .i64 0))) (msk k_ref10_number_0 (.v (.int .i64 0))) (msk k_ref10_number_0 (.v (.int .u64 0)))) () ()) ()) ()) ()) ()) ()) () := by kernel_rfl
def k_ref10_text_0 : List Nat := [0, 5, 4, 6]
def c_ref10_text_b0 : CC := .seq (.seq (.reg [] [
  ⟨(some 7), none, .mv (.t 0)⟩,
  ⟨(some 8), none, .len true (.t 7)⟩,
  ⟨(some 9), none, .bin .gtr (.t 8) (.c (.v (.int .i64 0)))⟩,
  ⟨(some 10), none, .mv (.t 9)⟩,
  ⟨(some 11), (some (10, true)), .mv (.t 0)⟩,
  ⟨(some 12), (some (10, true)), .ixs (.t 11) (.c (.v (.int .i64 0)))⟩,
  ⟨(some 13), (some (10, true)), .bin .eql (.t 12) (.c (.v (.int .u8 39)))⟩,
  ⟨(some 14), none, .pick (.t 10) (.t 13) (.c (.v (.bool false)))⟩,
  ⟨(some 15), none, .mv (.t 14)⟩,
  ⟨(some 16), (some (15, true)), .mv (.t 5)⟩,
  ⟨(some 17), (some (15, true)), .mv (.t 0)⟩,
  ⟨(some 18), (some (15, true)), .len true (.t 17)⟩,
  ⟨(some 19), (some (15, true)), .bin .lss (.t 16) (.t 18)⟩,
  ⟨(some 20), none, .pick (.t 15) (.t 19) (.c (.v (.bool false)))⟩]) (
  .cond (.t 20) (
  .skip) (
  .exit 0))) (
  .block 1 (
  .seq (.seq (.reg [] [
  ⟨(some 21), none, .mv (.t 0)⟩,
  ⟨(some 22), none, .mv (.t 5)⟩,
  ⟨(some 23), none, .ixs (.t 21) (.t 22)⟩,
  ⟨(some 24), none, .bin .neq (.t 23) (.c (.v (.int .u8 39)))⟩]) (
  .cond (.t 24) (
  .seq (.reg [] [
  ⟨(some 25), none, .mv (.t 4)⟩,
  ⟨(some 26), none, .mv (.t 0)⟩,
  ⟨(some 27), none, .mv (.t 5)⟩,
  ⟨(some 28), none, .ixs (.t 26) (.t 27)⟩,
  ⟨(some 29), none, .bsl 1 1 [(.v (.int .u8 0))] [(0, (.t 28))]⟩,
  ⟨(some 30), none, .app false 1 1 (.t 25) (.t 29)⟩,
  ⟨(some 4), none, .mv (.t 30)⟩]) (
  .seq (.reg [] [
  ⟨(some 31), none, .mv (.t 5)⟩,
  ⟨(some 32), none, .bin .add (.t 31) (.c (.v (.int .i64 1)))⟩,
  ⟨(some 5), none, .mv (.t 32)⟩]) (
  .exit 1))) (
  .skip))) (
  .seq (.seq (.reg [] [
  ⟨(some 33), none, .mv (.t 5)⟩,
  ⟨(some 34), none, .bin .add (.t 33) (.c (.v (.int .i64 1)))⟩,
  ⟨(some 35), none, .mv (.t 0)⟩,
  ⟨(some 36), none, .len true (.t 35)⟩,
  ⟨(some 37), none, .bin .geq (.t 34) (.t 36)⟩,
  ⟨(some 38), none, .mv (.t 37)⟩,
  ⟨(some 39), (some (38, false)), .mv (.t 0)⟩,
  ⟨(some 40), (some (38, false)), .mv (.t 5)⟩,
  ⟨(some 41), (some (38, false)), .bin .add (.t 40) (.c (.v (.int .i64 1)))⟩,
  ⟨(some 42), (some (38, false)), .ixs (.t 39) (.t 41)⟩,
  ⟨(some 43), (some (38, false)), .bin .neq (.t 42) (.c (.v (.int .u8 39)))⟩,
  ⟨(some 44), none, .pick (.t 38) (.c (.v (.bool true))) (.t 43)⟩]) (
  .cond (.t 44) (
  .seq (.reg [] [
  ⟨(some 45), none, .mv (.t 4)⟩,
  ⟨(some 46), none, .b2s (.t 45)⟩,
  ⟨(some 47), none, .mv (.t 5)⟩,
  ⟨(some 48), none, .bin .add (.t 47) (.c (.v (.int .i64 1)))⟩,
  ⟨(some 2), none, .mv (.t 46)⟩,
  ⟨(some 3), none, .mv (.t 48)⟩]) (
  .ret)) (
  .skip))) (
  .seq (.reg [] [
  ⟨(some 49), none, .mv (.t 4)⟩,
  ⟨(some 50), none, .bsl 1 1 [(.v (.int .u8 0))] [(0, (.c (.v (.int .u8 39))))]⟩,
  ⟨(some 51), none, .app false 1 1 (.t 49) (.t 50)⟩,
  ⟨(some 4), none, .mv (.t 51)⟩]) (
  .reg [] [
  ⟨(some 52), none, .mv (.t 5)⟩,
  ⟨(some 53), none, .bin .add (.t 52) (.c (.v (.int .i64 2)))⟩,
  ⟨(some 5), none, .mv (.t 53)⟩])))))
def c_ref10_text_s0 : CC := .seq (.reg [] [
  ⟨(some 2), none, .mv (.c (.v (.string ⟨#[]⟩)))⟩,
  ⟨(some 3), none, .mv (.c (.v (.int .i64 0)))⟩]) (
  .ret)
def c_ref10_text : CF := ⟨1, 54,
  .seq (.reg [] [
  ⟨(some 2), none, .mv (.c (.v (.string ⟨#[]⟩)))⟩,
  ⟨(some 3), none, .mv (.c (.v (.int .i64 0)))⟩]) (
  .seq (.reg [] [
  ⟨(some 6), none, .bsl 0 1 [] []⟩,
  ⟨(some 4), none, .mv (.t 6)⟩]) (
  .seq (.reg [] [
  ⟨(some 5), none, .mv (.c (.v (.int .i64 1)))⟩]) (
  .seq (.block 0 (
  .loop k_ref10_text_0 c_ref10_text_b0)) c_ref10_text_s0))),
  [.t 2, .t 3]⟩
def v_ref10_text : List Nat := []
def R_ref10_text_0 (call : Eng.Call) (G : Nat → AV) (n m0 : Nat) (o : Objs) (y0 y5 y4 y6 : AV) : Out := roundsE k_ref10_text_0 (denE 54 call G v_ref10_text n c_ref10_text_b0) m0 [y0, y5, y4, y6] o (eBlock 0 (eSeq (denE 54 call G v_ref10_text n c_ref10_text_s0) (eEnd [.t 2, .t 3])))
set_option maxRecDepth 100000 in
theorem R_ref10_text_0_s (call : Eng.Call) (G : Nat → AV) (n m0 : Nat) (o : Objs) (y0 y5 y4 y6 : AV) : R_ref10_text_0 call G n (m0 + 1) o y0 y5 y4 y6 =
 Xq (.len true (.c y0)) (fun x2 =>
 Xq (.bin .gtr (.c x2) (.c (.v (.int .i64 0)))) (fun x3 =>
 Xgq x3 true (.mv (.c y0)) (fun x4 =>
 Xgq x3 true (.ixs (.c x4) (.c (.v (.int .i64 0)))) (fun x5 =>
 Xgq x3 true (.bin .eql (.c x5) (.c (.v (.int .u8 39)))) (fun x6 =>
 Xq (.pick (.c x3) (.c x6) (.c (.v (.bool false)))) (fun x7 =>
 Xgq x7 true (.mv (.c y5)) (fun x8 =>
 Xgq x7 true (.mv (.c y0)) (fun x9 =>
 Xgq x7 true (.len true (.c x9)) (fun x10 =>
 Xgq x7 true (.bin .lss (.c x8) (.c x10)) (fun x11 =>
 Xq (.pick (.c x7) (.c x11) (.c (.v (.bool false)))) (fun x12 =>
 Xc x12 (fun _ =>
 Xq (.ixs (.c y0) (.c y5)) (fun x13 =>
 Xq (.bin .neq (.c x13) (.c (.v (.int .u8 39)))) (fun x14 =>
 Xc x14 (fun _ =>
 Xq (.ixs (.c y0) (.c y5)) (fun x15 =>
 Xx call o 29 (.bsl 1 1 [(.v (.int .u8 0))] [(0, (.c x15))]) (fun x16 ox16 =>
 Xa ox16 30 false 1 1 y4 x16 (fun x17 ox17 =>
 Xq (.bin .add (.c y5) (.c (.v (.int .i64 1)))) (fun x18 =>
 R_ref10_text_0 call G n m0 (maskO k_ref10_text_0 ox17) (msk k_ref10_text_0 y0) (msk k_ref10_text_0 x18) (msk k_ref10_text_0 x17) (msk k_ref10_text_0 y6)) ()) ()) ()) ()) (fun _ =>
 Xq (.bin .add (.c y5) (.c (.v (.int .i64 1)))) (fun x19 =>
 Xq (.len true (.c y0)) (fun x20 =>
 Xq (.bin .geq (.c x19) (.c x20)) (fun x21 =>
 Xgq x21 false (.mv (.c y0)) (fun x22 =>
 Xgq x21 false (.mv (.c y5)) (fun x23 =>
 Xgq x21 false (.bin .add (.c x23) (.c (.v (.int .i64 1)))) (fun x24 =>
 Xgq x21 false (.ixs (.c x22) (.c x24)) (fun x25 =>
 Xgq x21 false (.bin .neq (.c x25) (.c (.v (.int .u8 39)))) (fun x26 =>
 Xq (.pick (.c x21) (.c (.v (.bool true))) (.c x26)) (fun x27 =>
 Xc x27 (fun _ =>
 Xq (.b2s (.c y4)) (fun x28 =>
 Xq (.bin .add (.c y5) (.c (.v (.int .i64 1)))) (fun x29 =>
 Xr o [some x28, some x29]) ()) ()) (fun _ =>
 Xx call o 50 (.bsl 1 1 [(.v (.int .u8 0))] [(0, (.c (.v (.int .u8 39))))]) (fun x30 ox30 =>
 Xa ox30 51 false 1 1 y4 x30 (fun x31 ox31 =>
 Xq (.bin .add (.c y5) (.c (.v (.int .i64 2)))) (fun x32 =>
 R_ref10_text_0 call G n m0 (maskO k_ref10_text_0 ox31) (msk k_ref10_text_0 y0) (msk k_ref10_text_0 x32) (msk k_ref10_text_0 x31) (msk k_ref10_text_0 y6)) ()) ()) ()) () ()) ()) ()) ()) ()) ()) ()) ()) ()) ()) () ()) ()) ()) (fun _ =>
 Xr o [some (.v (.string ⟨#[]⟩)), some (.v (.int .i64 0))]) () ()) ()) ()) ()) ()) ()) ()) ()) ()) ()) ()) () := by kernel_rfl
set_option maxRecDepth 100000 in
theorem s_ref10_text (call : Eng.Call) (G : Nat → AV) (n : Nat) (x0 : AV) : denFE call G v_ref10_text n c_ref10_text [x0] =
 Xx call [] 6 (.bsl 0 1 [] []) (fun x1 ox1 =>
 R_ref10_text_0 call G n n (maskO k_ref10_text_0 ox1) (msk k_ref10_text_0 x0) (msk k_ref10_text_0 (.v (.int .i64 1))) (msk k_ref10_text_0 x1) (msk k_ref10_text_0 x1)) () := by kernel_rfl
def c_ref10_mark : CF := ⟨1, 33,
  .seq (.reg [] [
  ⟨(some 2), none, .mv (.c (.v (.bool false)))⟩]) (
  .seq (.reg [] [
  ⟨(some 3), none, .mv (.t 0)⟩,
  ⟨(some 4), none, .bin .eql (.t 3) (.c (.v (.int .u8 123)))⟩,
  ⟨(some 5), none, .mv (.t 4)⟩,
  ⟨(some 6), (some (5, false)), .mv (.t 0)⟩,
  ⟨(some 7), (some (5, false)), .bin .eql (.t 6) (.c (.v (.int .u8 125)))⟩,
  ⟨(some 8), none, .pick (.t 5) (.c (.v (.bool true))) (.t 7)⟩,
  ⟨(some 9), none, .mv (.t 8)⟩,
  ⟨(some 10), (some (9, false)), .mv (.t 0)⟩,
  ⟨(some 11), (some (9, false)), .bin .eql (.t 10) (.c (.v (.int .u8 40)))⟩,
  ⟨(some 12), none, .pick (.t 9) (.c (.v (.bool true))) (.t 11)⟩,
  ⟨(some 13), none, .mv (.t 12)⟩,
  ⟨(some 14), (some (13, false)), .mv (.t 0)⟩,
  ⟨(some 15), (some (13, false)), .bin .eql (.t 14) (.c (.v (.int .u8 41)))⟩,
  ⟨(some 16), none, .pick (.t 13) (.c (.v (.bool true))) (.t 15)⟩,
  ⟨(some 17), none, .mv (.t 16)⟩,
  ⟨(some 18), (some (17, false)), .mv (.t 0)⟩,
  ⟨(some 19), (some (17, false)), .bin .eql (.t 18) (.c (.v (.int .u8 61)))⟩,
  ⟨(some 20), none, .pick (.t 17) (.c (.v (.bool true))) (.t 19)⟩,
  ⟨(some 21), none, .mv (.t 20)⟩,
  ⟨(some 22), (some (21, false)), .mv (.t 0)⟩,
  ⟨(some 23), (some (21, false)), .bin .eql (.t 22) (.c (.v (.int .u8 44)))⟩,
  ⟨(some 24), none, .pick (.t 21) (.c (.v (.bool true))) (.t 23)⟩,
  ⟨(some 25), none, .mv (.t 24)⟩,
  ⟨(some 26), (some (25, false)), .mv (.t 0)⟩,
  ⟨(some 27), (some (25, false)), .bin .eql (.t 26) (.c (.v (.int .u8 46)))⟩,
  ⟨(some 28), none, .pick (.t 25) (.c (.v (.bool true))) (.t 27)⟩,
  ⟨(some 29), none, .mv (.t 28)⟩,
  ⟨(some 30), (some (29, false)), .mv (.t 0)⟩,
  ⟨(some 31), (some (29, false)), .bin .eql (.t 30) (.c (.v (.int .u8 59)))⟩,
  ⟨(some 32), none, .pick (.t 29) (.c (.v (.bool true))) (.t 31)⟩,
  ⟨(some 2), none, .mv (.t 32)⟩]) (
  .ret)),
  [.t 2]⟩
def v_ref10_mark : List Nat := []
set_option maxRecDepth 100000 in
theorem s_ref10_mark (call : Eng.Call) (G : Nat → AV) (n : Nat) (x0 : AV) : denFE call G v_ref10_mark n c_ref10_mark [x0] =
 Xq (.bin .eql (.c x0) (.c (.v (.int .u8 123)))) (fun x1 =>
 Xgq x1 false (.mv (.c x0)) (fun x2 =>
 Xgq x1 false (.bin .eql (.c x2) (.c (.v (.int .u8 125)))) (fun x3 =>
 Xq (.pick (.c x1) (.c (.v (.bool true))) (.c x3)) (fun x4 =>
 Xgq x4 false (.mv (.c x0)) (fun x5 =>
 Xgq x4 false (.bin .eql (.c x5) (.c (.v (.int .u8 40)))) (fun x6 =>
 Xq (.pick (.c x4) (.c (.v (.bool true))) (.c x6)) (fun x7 =>
 Xgq x7 false (.mv (.c x0)) (fun x8 =>
 Xgq x7 false (.bin .eql (.c x8) (.c (.v (.int .u8 41)))) (fun x9 =>
 Xq (.pick (.c x7) (.c (.v (.bool true))) (.c x9)) (fun x10 =>
 Xgq x10 false (.mv (.c x0)) (fun x11 =>
 Xgq x10 false (.bin .eql (.c x11) (.c (.v (.int .u8 61)))) (fun x12 =>
 Xq (.pick (.c x10) (.c (.v (.bool true))) (.c x12)) (fun x13 =>
 Xgq x13 false (.mv (.c x0)) (fun x14 =>
 Xgq x13 false (.bin .eql (.c x14) (.c (.v (.int .u8 44)))) (fun x15 =>
 Xq (.pick (.c x13) (.c (.v (.bool true))) (.c x15)) (fun x16 =>
 Xgq x16 false (.mv (.c x0)) (fun x17 =>
 Xgq x16 false (.bin .eql (.c x17) (.c (.v (.int .u8 46)))) (fun x18 =>
 Xq (.pick (.c x16) (.c (.v (.bool true))) (.c x18)) (fun x19 =>
 Xgq x19 false (.mv (.c x0)) (fun x20 =>
 Xgq x19 false (.bin .eql (.c x20) (.c (.v (.int .u8 59)))) (fun x21 =>
 Xq (.pick (.c x19) (.c (.v (.bool true))) (.c x21)) (fun x22 =>
 Xr [] [some x22]) ()) ()) ()) ()) ()) ()) ()) ()) ()) ()) ()) ()) ()) ()) ()) ()) ()) ()) ()) ()) ()) () := by kernel_rfl
def c_scalar_kind : CF := ⟨1, 12,
  .seq (.reg [] [
  ⟨(some 2), none, .mv (.c (.v (.int .i64 0)))⟩]) (
  .seq (.seq (.reg [] [
  ⟨(some 3), none, .mv (.t 0)⟩,
  ⟨(some 4), none, .bin .lss (.t 3) (.c (.v (.int .i64 0)))⟩,
  ⟨(some 5), none, .mv (.t 4)⟩,
  ⟨(some 6), (some (5, false)), .mv (.t 0)⟩,
  ⟨(some 7), (some (5, false)), .bin .geq (.t 6) (.c (.v (.int .i64 16)))⟩,
  ⟨(some 8), none, .pick (.t 5) (.c (.v (.bool true))) (.t 7)⟩]) (
  .cond (.t 8) (
  .seq (.reg [] [
  ⟨(some 2), none, .mv (.c (.v (.int .i64 0)))⟩]) (
  .ret)) (
  .skip))) (
  .seq (.reg [] [
  ⟨(some 9), none, .build [(.v (.int .i64 0)), (.v (.int .i64 0)), (.v (.int .i64 0)), (.v (.int .i64 0)), (.v (.int .i64 0)), (.v (.int .i64 0)), (.v (.int .i64 0)), (.v (.int .i64 0)), (.v (.int .i64 0)), (.v (.int .i64 0)), (.v (.int .i64 0)), (.v (.int .i64 0)), (.v (.int .i64 0)), (.v (.int .i64 0)), (.v (.int .i64 0)), (.v (.int .i64 0))] [(1, 1, (.c (.v (.int .i64 7)))), (2, 1, (.c (.v (.int .i64 15)))), (3, 1, (.c (.v (.int .i64 3)))), (4, 1, (.c (.v (.int .i64 11)))), (5, 1, (.c (.v (.int .i64 7)))), (6, 1, (.c (.v (.int .i64 15)))), (7, 1, (.c (.v (.int .i64 2)))), (8, 1, (.c (.v (.int .i64 3)))), (9, 1, (.c (.v (.int .i64 11)))), (10, 1, (.c (.v (.int .i64 7)))), (11, 1, (.c (.v (.int .i64 15)))), (14, 1, (.c (.v (.int .i64 6))))]⟩,
  ⟨(some 10), none, .mv (.t 0)⟩,
  ⟨(some 11), none, .ixa 16 1 false (.t 9) (.t 10)⟩,
  ⟨(some 2), none, .mv (.t 11)⟩]) (
  .ret))),
  [.t 2]⟩
def v_scalar_kind : List Nat := []
set_option maxRecDepth 100000 in
theorem s_scalar_kind (call : Eng.Call) (G : Nat → AV) (n : Nat) (x0 : AV) : denFE call G v_scalar_kind n c_scalar_kind [x0] =
 Xq (.bin .lss (.c x0) (.c (.v (.int .i64 0)))) (fun x1 =>
 Xgq x1 false (.mv (.c x0)) (fun x2 =>
 Xgq x1 false (.bin .geq (.c x2) (.c (.v (.int .i64 16)))) (fun x3 =>
 Xq (.pick (.c x1) (.c (.v (.bool true))) (.c x3)) (fun x4 =>
 Xc x4 (fun _ =>
 Xr [] [some (.v (.int .i64 0))]) (fun _ =>
 Xq (.build [(.v (.int .i64 0)), (.v (.int .i64 0)), (.v (.int .i64 0)), (.v (.int .i64 0)), (.v (.int .i64 0)), (.v (.int .i64 0)), (.v (.int .i64 0)), (.v (.int .i64 0)), (.v (.int .i64 0)), (.v (.int .i64 0)), (.v (.int .i64 0)), (.v (.int .i64 0)), (.v (.int .i64 0)), (.v (.int .i64 0)), (.v (.int .i64 0)), (.v (.int .i64 0))] [(1, 1, (.c (.v (.int .i64 7)))), (2, 1, (.c (.v (.int .i64 15)))), (3, 1, (.c (.v (.int .i64 3)))), (4, 1, (.c (.v (.int .i64 11)))), (5, 1, (.c (.v (.int .i64 7)))), (6, 1, (.c (.v (.int .i64 15)))), (7, 1, (.c (.v (.int .i64 2)))), (8, 1, (.c (.v (.int .i64 3)))), (9, 1, (.c (.v (.int .i64 11)))), (10, 1, (.c (.v (.int .i64 7)))), (11, 1, (.c (.v (.int .i64 15)))), (14, 1, (.c (.v (.int .i64 6))))]) (fun x5 =>
 Xq (.ixa 16 1 false (.c x5) (.c x0)) (fun x6 =>
 Xr [] [some x6]) ()) ()) () ()) ()) ()) ()) () := by kernel_rfl
def c_ref09_Letter : CF := ⟨1, 17,
  .seq (.reg [] [
  ⟨(some 2), none, .mv (.c (.v (.bool false)))⟩]) (
  .seq (.reg [] [
  ⟨(some 3), none, .mv (.t 0)⟩,
  ⟨(some 4), none, .bin .geq (.t 3) (.c (.v (.int .u8 97)))⟩,
  ⟨(some 5), none, .mv (.t 4)⟩,
  ⟨(some 6), (some (5, true)), .mv (.t 0)⟩,
  ⟨(some 7), (some (5, true)), .bin .leq (.t 6) (.c (.v (.int .u8 122)))⟩,
  ⟨(some 8), none, .pick (.t 5) (.t 7) (.c (.v (.bool false)))⟩,
  ⟨(some 9), none, .mv (.t 8)⟩,
  ⟨(some 10), (some (9, false)), .mv (.t 0)⟩,
  ⟨(some 11), (some (9, false)), .bin .geq (.t 10) (.c (.v (.int .u8 65)))⟩,
  ⟨(some 12), (some (9, false)), .mv (.t 11)⟩,
  ⟨(some 13), (some (12, true)), .mv (.t 0)⟩,
  ⟨(some 14), (some (12, true)), .bin .leq (.t 13) (.c (.v (.int .u8 90)))⟩,
  ⟨(some 15), (some (9, false)), .pick (.t 12) (.t 14) (.c (.v (.bool false)))⟩,
  ⟨(some 16), none, .pick (.t 9) (.c (.v (.bool true))) (.t 15)⟩,
  ⟨(some 2), none, .mv (.t 16)⟩]) (
  .ret)),
  [.t 2]⟩
def v_ref09_Letter : List Nat := []
set_option maxRecDepth 100000 in
theorem s_ref09_Letter (call : Eng.Call) (G : Nat → AV) (n : Nat) (x0 : AV) : denFE call G v_ref09_Letter n c_ref09_Letter [x0] =
 Xq (.bin .geq (.c x0) (.c (.v (.int .u8 97)))) (fun x1 =>
 Xgq x1 true (.mv (.c x0)) (fun x2 =>
 Xgq x1 true (.bin .leq (.c x2) (.c (.v (.int .u8 122)))) (fun x3 =>
 Xq (.pick (.c x1) (.c x3) (.c (.v (.bool false)))) (fun x4 =>
 Xgq x4 false (.mv (.c x0)) (fun x5 =>
 Xgq x4 false (.bin .geq (.c x5) (.c (.v (.int .u8 65)))) (fun x6 =>
 Xgq x4 false (.mv (.c x6)) (fun x7 =>
 Xgq x7 true (.mv (.c x0)) (fun x8 =>
 Xgq x7 true (.bin .leq (.c x8) (.c (.v (.int .u8 90)))) (fun x9 =>
 Xgq x4 false (.pick (.c x7) (.c x9) (.c (.v (.bool false)))) (fun x10 =>
 Xq (.pick (.c x4) (.c (.v (.bool true))) (.c x10)) (fun x11 =>
 Xr [] [some x11]) ()) ()) ()) ()) ()) ()) ()) ()) ()) ()) () := by kernel_rfl
def c_scalar_Wide : CF := ⟨1, 7,
  .seq (.reg [] [
  ⟨(some 2), none, .mv (.c (.v (.bool false)))⟩]) (
  .seq (.reg [] [
  ⟨(some 3), none, .mv (.t 0)⟩,
  ⟨(some 4), none, .call false i_scalar_kind [(.t 3)]⟩,
  ⟨(some 5), none, .bin .and (.t 4) (.c (.v (.int .i64 8)))⟩,
  ⟨(some 6), none, .bin .neq (.t 5) (.c (.v (.int .i64 0)))⟩,
  ⟨(some 2), none, .mv (.t 6)⟩]) (
  .ret)),
  [.t 2]⟩
def v_scalar_Wide : List Nat := []
set_option maxRecDepth 100000 in
theorem s_scalar_Wide (call : Eng.Call) (G : Nat → AV) (n : Nat) (x0 : AV) : denFE call G v_scalar_Wide n c_scalar_Wide [x0] =
 Xx call [] 4 (.call false i_scalar_kind [(.c x0)]) (fun x1 ox1 =>
 Xq (.bin .and (.c x1) (.c (.v (.int .i64 8)))) (fun x2 =>
 Xq (.bin .neq (.c x2) (.c (.v (.int .i64 0)))) (fun x3 =>
 Xr ox1 [some x3]) ()) ()) () := by kernel_rfl
def c_zig_Fits : CF := ⟨1, 8,
  .seq (.reg [] [
  ⟨(some 2), none, .mv (.c (.v (.bool false)))⟩]) (
  .seq (.reg [] [
  ⟨(some 3), none, .mv (.t 0)⟩,
  ⟨(some 4), none, .cvi .i32 (.t 3)⟩,
  ⟨(some 5), none, .cvi .i64 (.t 4)⟩,
  ⟨(some 6), none, .mv (.t 0)⟩,
  ⟨(some 7), none, .bin .eql (.t 5) (.t 6)⟩,
  ⟨(some 2), none, .mv (.t 7)⟩]) (
  .ret)),
  [.t 2]⟩
def v_zig_Fits : List Nat := []
set_option maxRecDepth 100000 in
theorem s_zig_Fits (call : Eng.Call) (G : Nat → AV) (n : Nat) (x0 : AV) : denFE call G v_zig_Fits n c_zig_Fits [x0] =
 Xq (.cvi .i32 (.c x0)) (fun x1 =>
 Xq (.cvi .i64 (.c x1)) (fun x2 =>
 Xq (.bin .eql (.c x2) (.c x0)) (fun x3 =>
 Xr [] [some x3]) ()) ()) () := by kernel_rfl
def c_ref10_digit : CF := ⟨1, 9,
  .seq (.reg [] [
  ⟨(some 2), none, .mv (.c (.v (.bool false)))⟩]) (
  .seq (.reg [] [
  ⟨(some 3), none, .mv (.t 0)⟩,
  ⟨(some 4), none, .bin .geq (.t 3) (.c (.v (.int .u8 48)))⟩,
  ⟨(some 5), none, .mv (.t 4)⟩,
  ⟨(some 6), (some (5, true)), .mv (.t 0)⟩,
  ⟨(some 7), (some (5, true)), .bin .leq (.t 6) (.c (.v (.int .u8 57)))⟩,
  ⟨(some 8), none, .pick (.t 5) (.t 7) (.c (.v (.bool false)))⟩,
  ⟨(some 2), none, .mv (.t 8)⟩]) (
  .ret)),
  [.t 2]⟩
def v_ref10_digit : List Nat := []
set_option maxRecDepth 100000 in
theorem s_ref10_digit (call : Eng.Call) (G : Nat → AV) (n : Nat) (x0 : AV) : denFE call G v_ref10_digit n c_ref10_digit [x0] =
 Xq (.bin .geq (.c x0) (.c (.v (.int .u8 48)))) (fun x1 =>
 Xgq x1 true (.mv (.c x0)) (fun x2 =>
 Xgq x1 true (.bin .leq (.c x2) (.c (.v (.int .u8 57)))) (fun x3 =>
 Xq (.pick (.c x1) (.c x3) (.c (.v (.bool false)))) (fun x4 =>
 Xr [] [some x4]) ()) ()) ()) () := by kernel_rfl
end Go.Proofs.YticmmpiffekbiaaDoor.Ct
