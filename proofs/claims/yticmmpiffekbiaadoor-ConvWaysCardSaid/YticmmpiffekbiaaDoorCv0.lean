/- The small code of what the statement reaches, and what it comes to with names for slots. -/
import Derived.Test.YticmmpiffekbiaaDoorEng5
import Derived.WalkKit
import Derived.ProofKit
namespace Go.Proofs.YticmmpiffekbiaaDoor.Cv
open Go Go.Proofs.YticmmpiffekbiaaDoor.Eng
set_option linter.unusedVariables false
abbrev i_law13_ConvWays : FuncId := 4
abbrev i_conv_Conv : FuncId := 10
abbrev i_law13_live : FuncId := 13
abbrev i_conv_Digits : FuncId := 16
abbrev i_conv_right : FuncId := 31
abbrev i_conv_of : FuncId := 32
abbrev i__conv_number__value : FuncId := 33
abbrev i_lex_Digits : FuncId := 39
abbrev i_scalar_Whole : FuncId := 52
abbrev i_scalar_May : FuncId := 53
abbrev i_scalar_Signed : FuncId := 54
abbrev i_strconv_FormatUint : FuncId := 55
abbrev i_scalar_kind : FuncId := 62
abbrev i_scalar_Wide : FuncId := 67
abbrev i_zig_Fits : FuncId := 68
def c_law13_ConvWays : CF := ⟨2, 55,
  .seq (.reg [] [
  ⟨(some 2), none, .box 3 [0, 0, 0] (.t 0)⟩,
  ⟨(some 4), none, .mv (.c (.v (.bool false)))⟩]) (
  .seq (.reg [] [
  ⟨(some 12), none, .iaa 3 1 (.t 2) (.c (.v (.int .i64 0)))⟩,
  ⟨(some 13), none, .ld false 1 (.t 12)⟩,
  ⟨(some 14), none, .iaa 3 1 (.t 2) (.c (.v (.int .i64 1)))⟩,
  ⟨(some 15), none, .ld false 1 (.t 14)⟩,
  ⟨(some 16), none, .mv (.t 1)⟩,
  ⟨(some 17), none, .call false i_conv_Conv [(.t 13), (.t 15), (.t 16)]⟩,
  ⟨(some 11), none, .mv (.t 17)⟩,
  ⟨(some 18), none, .ext (.t 11) 0⟩,
  ⟨(some 19), none, .ext (.t 11) 1⟩,
  ⟨(some 5), none, .mv (.t 18)⟩,
  ⟨(some 6), none, .mv (.t 19)⟩]) (
  .seq (.reg [] [
  ⟨(some 21), none, .iaa 3 1 (.t 2) (.c (.v (.int .i64 1)))⟩,
  ⟨(some 22), none, .ld false 1 (.t 21)⟩,
  ⟨(some 23), none, .iaa 3 1 (.t 2) (.c (.v (.int .i64 2)))⟩,
  ⟨(some 24), none, .ld false 1 (.t 23)⟩,
  ⟨(some 25), none, .mv (.t 5)⟩,
  ⟨(some 26), none, .call false i_conv_Conv [(.t 22), (.t 24), (.t 25)]⟩,
  ⟨(some 20), none, .mv (.t 26)⟩,
  ⟨(some 27), none, .ext (.t 20) 0⟩,
  ⟨(some 28), none, .ext (.t 20) 1⟩,
  ⟨(some 7), none, .mv (.t 27)⟩,
  ⟨(some 8), none, .mv (.t 28)⟩]) (
  .seq (.reg [] [
  ⟨(some 30), none, .iaa 3 1 (.t 2) (.c (.v (.int .i64 0)))⟩,
  ⟨(some 31), none, .ld false 1 (.t 30)⟩,
  ⟨(some 32), none, .iaa 3 1 (.t 2) (.c (.v (.int .i64 2)))⟩,
  ⟨(some 33), none, .ld false 1 (.t 32)⟩,
  ⟨(some 34), none, .mv (.t 1)⟩,
  ⟨(some 35), none, .call false i_conv_Conv [(.t 31), (.t 33), (.t 34)]⟩,
  ⟨(some 29), none, .mv (.t 35)⟩,
  ⟨(some 36), none, .ext (.t 29) 0⟩,
  ⟨(some 37), none, .ext (.t 29) 1⟩,
  ⟨(some 9), none, .mv (.t 36)⟩,
  ⟨(some 10), none, .mv (.t 37)⟩]) (
  .seq (.reg [] [
  ⟨(some 38), none, .mv (.t 6)⟩,
  ⟨(some 39), none, .not (.t 38)⟩,
  ⟨(some 40), none, .mv (.t 39)⟩,
  ⟨(some 41), (some (40, false)), .mv (.t 8)⟩,
  ⟨(some 42), (some (40, false)), .not (.t 41)⟩,
  ⟨(some 43), none, .pick (.t 40) (.c (.v (.bool true))) (.t 42)⟩,
  ⟨(some 44), none, .mv (.t 43)⟩,
  ⟨(some 45), (some (44, false)), .mv (.t 10)⟩,
  ⟨(some 46), (some (44, false)), .mv (.t 45)⟩,
  ⟨(some 47), (some (46, true)), .mv (.t 7)⟩,
  ⟨(some 48), (some (46, true)), .mv (.t 9)⟩,
  ⟨(some 49), (some (46, true)), .bin .eql (.t 47) (.t 48)⟩,
  ⟨(some 50), (some (44, false)), .pick (.t 46) (.t 49) (.c (.v (.bool false)))⟩,
  ⟨(some 51), none, .pick (.t 44) (.c (.v (.bool true))) (.t 50)⟩,
  ⟨(some 52), none, .mv (.t 51)⟩,
  ⟨(some 53), (some (52, true)), .call false i_law13_live []⟩,
  ⟨(some 54), none, .pick (.t 52) (.t 53) (.c (.v (.bool false)))⟩,
  ⟨(some 4), none, .mv (.t 54)⟩]) (
  .ret))))),
  [.t 4]⟩
def v_law13_ConvWays : List Nat := []
set_option maxRecDepth 100000 in
theorem s_law13_ConvWays (call : Eng.Call) (G : Nat → AV) (n : Nat) (x0 x1 : AV) : denFE call G v_law13_ConvWays n c_law13_ConvWays [x0, x1] =
 Xx call [] 2 (.box 3 [0, 0, 0] (.c x0)) (fun x2 ox2 =>
 Xq (.iaa 3 1 (.c x2) (.c (.v (.int .i64 0)))) (fun x3 =>
 Xx call ox2 13 (.ld false 1 (.c x3)) (fun x4 ox4 =>
 Xq (.iaa 3 1 (.c x2) (.c (.v (.int .i64 1)))) (fun x5 =>
 Xx call ox4 15 (.ld false 1 (.c x5)) (fun x6 ox6 =>
 Xx call ox6 17 (.call false i_conv_Conv [(.c x4), (.c x6), (.c x1)]) (fun x7 ox7 =>
 Xq (.ext (.c x7) 0) (fun x8 =>
 Xq (.ext (.c x7) 1) (fun x9 =>
 Xq (.iaa 3 1 (.c x2) (.c (.v (.int .i64 1)))) (fun x10 =>
 Xx call ox7 22 (.ld false 1 (.c x10)) (fun x11 ox11 =>
 Xq (.iaa 3 1 (.c x2) (.c (.v (.int .i64 2)))) (fun x12 =>
 Xx call ox11 24 (.ld false 1 (.c x12)) (fun x13 ox13 =>
 Xx call ox13 26 (.call false i_conv_Conv [(.c x11), (.c x13), (.c x8)]) (fun x14 ox14 =>
 Xq (.ext (.c x14) 0) (fun x15 =>
 Xq (.ext (.c x14) 1) (fun x16 =>
 Xq (.iaa 3 1 (.c x2) (.c (.v (.int .i64 0)))) (fun x17 =>
 Xx call ox14 31 (.ld false 1 (.c x17)) (fun x18 ox18 =>
 Xq (.iaa 3 1 (.c x2) (.c (.v (.int .i64 2)))) (fun x19 =>
 Xx call ox18 33 (.ld false 1 (.c x19)) (fun x20 ox20 =>
 Xx call ox20 35 (.call false i_conv_Conv [(.c x18), (.c x20), (.c x1)]) (fun x21 ox21 =>
 Xq (.ext (.c x21) 0) (fun x22 =>
 Xq (.ext (.c x21) 1) (fun x23 =>
 Xq (.not (.c x9)) (fun x24 =>
 Xgq x24 false (.mv (.c x16)) (fun x25 =>
 Xgq x24 false (.not (.c x25)) (fun x26 =>
 Xq (.pick (.c x24) (.c (.v (.bool true))) (.c x26)) (fun x27 =>
 Xgq x27 false (.mv (.c x23)) (fun x28 =>
 Xgq x27 false (.mv (.c x28)) (fun x29 =>
 Xgq x29 true (.mv (.c x15)) (fun x30 =>
 Xgq x29 true (.mv (.c x22)) (fun x31 =>
 Xgq x29 true (.bin .eql (.c x30) (.c x31)) (fun x32 =>
 Xgq x27 false (.pick (.c x29) (.c x32) (.c (.v (.bool false)))) (fun x33 =>
 Xq (.pick (.c x27) (.c (.v (.bool true))) (.c x33)) (fun x34 =>
 Xxg call x34 true ox21 53 (.call false i_law13_live []) (fun x35 ox35 =>
 Xq (.pick (.c x34) (.c x35) (.c (.v (.bool false)))) (fun x36 =>
 Xr ox35 [some x36]) ()) ()) ()) ()) ()) ()) ()) ()) ()) ()) ()) ()) ()) ()) ()) ()) ()) ()) ()) ()) ()) ()) ()) ()) ()) ()) ()) ()) ()) ()) ()) ()) ()) ()) () := by kernel_rfl
def c_conv_Conv : CF := ⟨3, 19,
  .seq (.reg [] [
  ⟨(some 6), none, .mv (.c (.v (.int .u64 0)))⟩,
  ⟨(some 7), none, .mv (.c (.v (.bool false)))⟩]) (
  .seq (.seq (.reg [] [
  ⟨(some 8), none, .mv (.t 0)⟩,
  ⟨(some 9), none, .mv (.t 2)⟩,
  ⟨(some 10), none, .call false i_conv_right [(.t 8), (.t 9)]⟩,
  ⟨(some 11), none, .not (.t 10)⟩]) (
  .cond (.t 11) (
  .seq (.reg [] [
  ⟨(some 6), none, .mv (.c (.v (.int .u64 0)))⟩,
  ⟨(some 7), none, .mv (.c (.v (.bool false)))⟩]) (
  .ret)) (
  .skip))) (
  .seq (.reg [] [
  ⟨(some 12), none, .mv (.t 0)⟩,
  ⟨(some 13), none, .mv (.t 2)⟩,
  ⟨(some 14), none, .call false i_conv_of [(.t 12), (.t 13)]⟩,
  ⟨(some 15), none, .mv (.t 1)⟩,
  ⟨(some 16), none, .call false i__conv_number__value [(.t 14), (.t 15)]⟩,
  ⟨(some 17), none, .ext (.t 16) 0⟩,
  ⟨(some 18), none, .ext (.t 16) 1⟩,
  ⟨(some 6), none, .mv (.t 17)⟩,
  ⟨(some 7), none, .mv (.t 18)⟩]) (
  .ret))),
  [.t 6, .t 7]⟩
def v_conv_Conv : List Nat := []
set_option maxRecDepth 100000 in
theorem s_conv_Conv (call : Eng.Call) (G : Nat → AV) (n : Nat) (x0 x1 x2 : AV) : denFE call G v_conv_Conv n c_conv_Conv [x0, x1, x2] =
 Xx call [] 10 (.call false i_conv_right [(.c x0), (.c x2)]) (fun x3 ox3 =>
 Xq (.not (.c x3)) (fun x4 =>
 Xc x4 (fun _ =>
 Xr ox3 [some (.v (.int .u64 0)), some (.v (.bool false))]) (fun _ =>
 Xx call ox3 14 (.call false i_conv_of [(.c x0), (.c x2)]) (fun x5 ox5 =>
 Xx call ox5 16 (.call false i__conv_number__value [(.c x5), (.c x1)]) (fun x6 ox6 =>
 Xq (.ext (.c x6) 0) (fun x7 =>
 Xq (.ext (.c x6) 1) (fun x8 =>
 Xr ox6 [some x7, some x8]) ()) ()) ()) ()) () ()) ()) () := by kernel_rfl
def c_law13_live : CF := ⟨0, 13,
  .seq (.reg [] [
  ⟨(some 0), none, .mv (.c (.v (.bool false)))⟩]) (
  .seq (.reg [] [
  ⟨(some 4), none, .call false i_conv_Conv [(.c (.v (.int .i64 2))), (.c (.v (.int .i64 3))), (.c (.v (.int .u64 18446744073709551615)))]⟩,
  ⟨(some 3), none, .mv (.t 4)⟩,
  ⟨(some 5), none, .ext (.t 3) 0⟩,
  ⟨(some 6), none, .ext (.t 3) 1⟩,
  ⟨(some 1), none, .mv (.t 5)⟩,
  ⟨(some 2), none, .mv (.t 6)⟩]) (
  .seq (.reg [] [
  ⟨(some 7), none, .mv (.t 2)⟩,
  ⟨(some 8), none, .not (.t 7)⟩,
  ⟨(some 9), none, .mv (.t 8)⟩,
  ⟨(some 10), (some (9, true)), .call false i_conv_Digits [(.c (.v (.int .i64 1))), (.c (.v (.int .u64 18446744073709551615)))]⟩,
  ⟨(some 11), (some (9, true)), .bin .eql (.t 10) (.c (.v (.string ⟨#[45, 49]⟩)))⟩,
  ⟨(some 12), none, .pick (.t 9) (.t 11) (.c (.v (.bool false)))⟩,
  ⟨(some 0), none, .mv (.t 12)⟩]) (
  .ret))),
  [.t 0]⟩
def v_law13_live : List Nat := []
set_option maxRecDepth 100000 in
theorem s_law13_live (call : Eng.Call) (G : Nat → AV) (n : Nat) : denFE call G v_law13_live n c_law13_live [] =
 Xx call [] 4 (.call false i_conv_Conv [(.c (.v (.int .i64 2))), (.c (.v (.int .i64 3))), (.c (.v (.int .u64 18446744073709551615)))]) (fun x0 ox0 =>
 Xq (.ext (.c x0) 0) (fun x1 =>
 Xq (.ext (.c x0) 1) (fun x2 =>
 Xq (.not (.c x2)) (fun x3 =>
 Xxg call x3 true ox0 10 (.call false i_conv_Digits [(.c (.v (.int .i64 1))), (.c (.v (.int .u64 18446744073709551615)))]) (fun x4 ox4 =>
 Xgq x3 true (.bin .eql (.c x4) (.c (.v (.string ⟨#[45, 49]⟩)))) (fun x5 =>
 Xq (.pick (.c x3) (.c x5) (.c (.v (.bool false)))) (fun x6 =>
 Xr ox4 [some x6]) ()) ()) ()) ()) ()) ()) () := by kernel_rfl
def c_conv_Digits : CF := ⟨2, 18,
  .seq (.reg [] [
  ⟨(some 4), none, .mv (.c (.v (.string ⟨#[]⟩)))⟩]) (
  .seq (.seq (.reg [] [
  ⟨(some 6), none, .mv (.t 0)⟩,
  ⟨(some 7), none, .mv (.t 1)⟩,
  ⟨(some 8), none, .call false i_conv_right [(.t 6), (.t 7)]⟩,
  ⟨(some 9), none, .not (.t 8)⟩]) (
  .cond (.t 9) (
  .seq (.reg [] [
  ⟨(some 4), none, .mv (.c (.v (.string ⟨#[]⟩)))⟩]) (
  .ret)) (
  .skip))) (
  .seq (.reg [] [
  ⟨(some 10), none, .mv (.t 0)⟩,
  ⟨(some 11), none, .mv (.t 1)⟩,
  ⟨(some 12), none, .call false i_conv_of [(.t 10), (.t 11)]⟩,
  ⟨(some 5), none, .alloc [(.v (.int .u64 0)), (.v (.bool false))] [0, 0]⟩,
  ⟨none, none, .st 2 (.t 5) (.t 12)⟩]) (
  .seq (.reg [] [
  ⟨(some 13), none, .fad (.t 5) 0⟩,
  ⟨(some 14), none, .ld false 1 (.t 13)⟩,
  ⟨(some 15), none, .fad (.t 5) 1⟩,
  ⟨(some 16), none, .ld false 1 (.t 15)⟩,
  ⟨(some 17), none, .call false i_lex_Digits [(.t 14), (.t 16)]⟩,
  ⟨(some 4), none, .mv (.t 17)⟩]) (
  .ret)))),
  [.t 4]⟩
def v_conv_Digits : List Nat := [5]
set_option maxRecDepth 100000 in
theorem s_conv_Digits (call : Eng.Call) (G : Nat → AV) (n : Nat) (x0 x1 : AV) : denFE call G v_conv_Digits n c_conv_Digits [x0, x1] =
 Xx call [] 8 (.call false i_conv_right [(.c x0), (.c x1)]) (fun x2 ox2 =>
 Xq (.not (.c x2)) (fun x3 =>
 Xc x3 (fun _ =>
 Xr ox2 [some (.v (.string ⟨#[]⟩))]) (fun _ =>
 Xx call ox2 12 (.call false i_conv_of [(.c x0), (.c x1)]) (fun x4 ox4 =>
 Xx call ox4 5 (.alloc [(.v (.int .u64 0)), (.v (.bool false))] [0, 0]) (fun x5 ox5 =>
 Xv ox5 2 x5 x4 (fun ox6 =>
 Xq (.fad (.c x5) 0) (fun x7 =>
 Xx call ox6 14 (.ld false 1 (.c x7)) (fun x8 ox8 =>
 Xq (.fad (.c x5) 1) (fun x9 =>
 Xx call ox8 16 (.ld false 1 (.c x9)) (fun x10 ox10 =>
 Xx call ox10 17 (.call false i_lex_Digits [(.c x8), (.c x10)]) (fun x11 ox11 =>
 Xr ox11 [some x11]) ()) ()) ()) ()) ()) ()) ()) ()) () ()) ()) () := by kernel_rfl
def c_conv_right : CF := ⟨2, 12,
  .seq (.reg [] [
  ⟨(some 4), none, .mv (.c (.v (.bool false)))⟩]) (
  .seq (.reg [] [
  ⟨(some 5), none, .mv (.t 0)⟩,
  ⟨(some 6), none, .call false i_scalar_Whole [(.t 5)]⟩,
  ⟨(some 7), none, .mv (.t 6)⟩,
  ⟨(some 8), (some (7, true)), .mv (.t 0)⟩,
  ⟨(some 9), (some (7, true)), .mv (.t 1)⟩,
  ⟨(some 10), (some (7, true)), .call false i_scalar_May [(.t 8), (.t 9)]⟩,
  ⟨(some 11), none, .pick (.t 7) (.t 10) (.c (.v (.bool false)))⟩,
  ⟨(some 4), none, .mv (.t 11)⟩]) (
  .ret)),
  [.t 4]⟩
def v_conv_right : List Nat := []
set_option maxRecDepth 100000 in
theorem s_conv_right (call : Eng.Call) (G : Nat → AV) (n : Nat) (x0 x1 : AV) : denFE call G v_conv_right n c_conv_right [x0, x1] =
 Xx call [] 6 (.call false i_scalar_Whole [(.c x0)]) (fun x2 ox2 =>
 Xgq x2 true (.mv (.c x0)) (fun x3 =>
 Xgq x2 true (.mv (.c x1)) (fun x4 =>
 Xxg call x2 true ox2 10 (.call false i_scalar_May [(.c x3), (.c x4)]) (fun x5 ox5 =>
 Xq (.pick (.c x2) (.c x5) (.c (.v (.bool false)))) (fun x6 =>
 Xr ox5 [some x6]) ()) ()) ()) ()) () := by kernel_rfl
def c_conv_of : CF := ⟨2, 17,
  .seq (.reg [] [
  ⟨(some 4), none, .alloc [(.v (.int .u64 0)), (.v (.bool false))] [0, 0]⟩]) (
  .seq (.seq (.reg [] [
  ⟨(some 5), none, .mv (.t 0)⟩,
  ⟨(some 6), none, .call false i_scalar_Signed [(.t 5)]⟩,
  ⟨(some 7), none, .mv (.t 6)⟩,
  ⟨(some 8), (some (7, true)), .mv (.t 1)⟩,
  ⟨(some 9), (some (7, true)), .cvi .i64 (.t 8)⟩,
  ⟨(some 10), (some (7, true)), .bin .lss (.t 9) (.c (.v (.int .i64 0)))⟩,
  ⟨(some 11), none, .pick (.t 7) (.t 10) (.c (.v (.bool false)))⟩]) (
  .cond (.t 11) (
  .seq (.reg [] [
  ⟨(some 12), none, .mv (.t 1)⟩,
  ⟨(some 13), none, .neg (.t 12)⟩,
  ⟨(some 14), none, .build [(.v (.int .u64 0)), (.v (.bool false))] [(0, 1, (.t 13)), (1, 1, (.c (.v (.bool true))))]⟩,
  ⟨none, none, .st 2 (.t 4) (.t 14)⟩]) (
  .ret)) (
  .skip))) (
  .seq (.reg [] [
  ⟨(some 15), none, .mv (.t 1)⟩,
  ⟨(some 16), none, .build [(.v (.int .u64 0)), (.v (.bool false))] [(0, 1, (.t 15)), (1, 1, (.c (.v (.bool false))))]⟩,
  ⟨none, none, .st 2 (.t 4) (.t 16)⟩]) (
  .ret))),
  [.cell 4 true 2]⟩
def v_conv_of : List Nat := [4]
set_option maxRecDepth 100000 in
theorem s_conv_of (call : Eng.Call) (G : Nat → AV) (n : Nat) (x0 x1 : AV) : denFE call G v_conv_of n c_conv_of [x0, x1] =
 Xx call [] 4 (.alloc [(.v (.int .u64 0)), (.v (.bool false))] [0, 0]) (fun x2 ox2 =>
 Xx call ox2 6 (.call false i_scalar_Signed [(.c x0)]) (fun x3 ox3 =>
 Xgq x3 true (.mv (.c x1)) (fun x4 =>
 Xgq x3 true (.cvi .i64 (.c x4)) (fun x5 =>
 Xgq x3 true (.bin .lss (.c x5) (.c (.v (.int .i64 0)))) (fun x6 =>
 Xq (.pick (.c x3) (.c x6) (.c (.v (.bool false)))) (fun x7 =>
 Xc x7 (fun _ =>
 Xq (.neg (.c x1)) (fun x8 =>
 Xq (.build [(.v (.int .u64 0)), (.v (.bool false))] [(0, 1, (.c x8)), (1, 1, (.c (.v (.bool true))))]) (fun x9 =>
 Xv ox3 2 x2 x9 (fun ox10 =>
 Xr ox10 [cellR ox10 x2 true 2]) ()) ()) ()) (fun _ =>
 Xq (.build [(.v (.int .u64 0)), (.v (.bool false))] [(0, 1, (.c x1)), (1, 1, (.c (.v (.bool false))))]) (fun x11 =>
 Xv ox3 2 x2 x11 (fun ox12 =>
 Xr ox12 [cellR ox12 x2 true 2]) ()) ()) () ()) ()) ()) ()) ()) ()) () := by kernel_rfl
def c__conv_number__value : CF := ⟨2, 30,
  .seq (.reg [] [
  ⟨(some 2), none, .box 2 [0, 0] (.t 0)⟩,
  ⟨(some 4), none, .mv (.c (.v (.int .u64 0)))⟩,
  ⟨(some 5), none, .mv (.c (.v (.bool false)))⟩]) (
  .seq (.reg [] [
  ⟨(some 7), none, .fad (.t 2) 0⟩,
  ⟨(some 8), none, .ld false 1 (.t 7)⟩,
  ⟨(some 6), none, .mv (.t 8)⟩]) (
  .seq (.seq (.reg [] [
  ⟨(some 9), none, .fad (.t 2) 1⟩,
  ⟨(some 10), none, .ld false 1 (.t 9)⟩]) (
  .cond (.t 10) (
  .reg [] [
  ⟨(some 11), none, .mv (.t 6)⟩,
  ⟨(some 12), none, .neg (.t 11)⟩,
  ⟨(some 6), none, .mv (.t 12)⟩]) (
  .skip))) (
  .seq (.seq (.reg [
  ⟨(some 13), none, .mv (.t 1)⟩,
  ⟨(some 14), none, .call false i_scalar_Whole [(.t 13)]⟩,
  ⟨(some 15), none, .not (.t 14)⟩,
  ⟨(some 16), none, .mv (.t 15)⟩,
  ⟨(some 17), (some (16, false)), .mv (.t 1)⟩,
  ⟨(some 18), (some (16, false)), .mv (.t 6)⟩,
  ⟨(some 19), (some (16, false)), .call false i_scalar_May [(.t 17), (.t 18)]⟩,
  ⟨(some 20), (some (16, false)), .not (.t 19)⟩,
  ⟨(some 21), none, .pick (.t 16) (.c (.v (.bool true))) (.t 20)⟩,
  ⟨(some 22), none, .mv (.t 21)⟩,
  ⟨(some 23), (some (22, false)), .mv (.t 1)⟩,
  ⟨(some 24), (some (22, false)), .mv (.t 6)⟩,
  ⟨(some 25), (some (22, false)), .call false i_conv_of [(.t 23), (.t 24)]⟩,
  ⟨(some 26), (some (22, false)), .ld true 2 (.t 2)⟩] [
  ⟨(some 27), (some (22, false)), .eqs true [0, 1] (.t 25) (.t 26)⟩,
  ⟨(some 28), none, .pick (.t 22) (.c (.v (.bool true))) (.t 27)⟩]) (
  .cond (.t 28) (
  .seq (.reg [] [
  ⟨(some 4), none, .mv (.c (.v (.int .u64 0)))⟩,
  ⟨(some 5), none, .mv (.c (.v (.bool false)))⟩]) (
  .ret)) (
  .skip))) (
  .seq (.reg [] [
  ⟨(some 29), none, .mv (.t 6)⟩,
  ⟨(some 4), none, .mv (.t 29)⟩,
  ⟨(some 5), none, .mv (.c (.v (.bool true)))⟩]) (
  .ret))))),
  [.t 4, .t 5]⟩
def v__conv_number__value : List Nat := []
set_option maxRecDepth 100000 in
theorem s__conv_number__value (call : Eng.Call) (G : Nat → AV) (n : Nat) (x0 x1 : AV) : denFE call G v__conv_number__value n c__conv_number__value [x0, x1] =
 Xx call [] 2 (.box 2 [0, 0] (.c x0)) (fun x2 ox2 =>
 Xq (.fad (.c x2) 0) (fun x3 =>
 Xx call ox2 8 (.ld false 1 (.c x3)) (fun x4 ox4 =>
 Xq (.fad (.c x2) 1) (fun x5 =>
 Xx call ox4 10 (.ld false 1 (.c x5)) (fun x6 ox6 =>
 Xc x6 (fun _ =>
 Xq (.neg (.c x4)) (fun x7 =>
 Xp call ox6 14 (.call false i_scalar_Whole [(.c x1)]) (fun x8 nx8 sx8 =>
 Xq (.not (.c x8)) (fun x9 =>
 Xgq x9 false (.mv (.c x1)) (fun x10 =>
 Xgq x9 false (.mv (.c x7)) (fun x11 =>
 Xpg call x9 false ox6 19 (.call false i_scalar_May [(.c x10), (.c x11)]) (fun x12 nx12 sx12 =>
 Xgq x9 false (.not (.c x12)) (fun x13 =>
 Xq (.pick (.c x9) (.c (.v (.bool true))) (.c x13)) (fun x14 =>
 Xgq x14 false (.mv (.c x1)) (fun x15 =>
 Xgq x14 false (.mv (.c x7)) (fun x16 =>
 Xpg call x14 false ox6 25 (.call false i_conv_of [(.c x15), (.c x16)]) (fun x17 nx17 sx17 =>
 Xpg call x14 false ox6 26 (.ld true 2 (.c x2)) (fun x18 nx18 sx18 =>
 Xgq x14 false (.eqs true [0, 1] (.c x17) (.c x18)) (fun x19 =>
 Xq (.pick (.c x14) (.c (.v (.bool true))) (.c x19)) (fun x20 =>
 Xc x20 (fun _ =>
 Xr (finO ox6 (nx8 ++ nx12 ++ nx17 ++ nx18) (sx8 ++ sx12 ++ sx17 ++ sx18)) [some (.v (.int .u64 0)), some (.v (.bool false))]) (fun _ =>
 Xr (finO ox6 (nx8 ++ nx12 ++ nx17 ++ nx18) (sx8 ++ sx12 ++ sx17 ++ sx18)) [some x7, some (.v (.bool true))]) () ()) ()) ()) ()) ()) ()) ()) ()) ()) ()) ()) ()) ()) ()) ()) (fun _ =>
 Xp call ox6 14 (.call false i_scalar_Whole [(.c x1)]) (fun x21 nx21 sx21 =>
 Xq (.not (.c x21)) (fun x22 =>
 Xgq x22 false (.mv (.c x1)) (fun x23 =>
 Xgq x22 false (.mv (.c x4)) (fun x24 =>
 Xpg call x22 false ox6 19 (.call false i_scalar_May [(.c x23), (.c x24)]) (fun x25 nx25 sx25 =>
 Xgq x22 false (.not (.c x25)) (fun x26 =>
 Xq (.pick (.c x22) (.c (.v (.bool true))) (.c x26)) (fun x27 =>
 Xgq x27 false (.mv (.c x1)) (fun x28 =>
 Xgq x27 false (.mv (.c x4)) (fun x29 =>
 Xpg call x27 false ox6 25 (.call false i_conv_of [(.c x28), (.c x29)]) (fun x30 nx30 sx30 =>
 Xpg call x27 false ox6 26 (.ld true 2 (.c x2)) (fun x31 nx31 sx31 =>
 Xgq x27 false (.eqs true [0, 1] (.c x30) (.c x31)) (fun x32 =>
 Xq (.pick (.c x27) (.c (.v (.bool true))) (.c x32)) (fun x33 =>
 Xc x33 (fun _ =>
 Xr (finO ox6 (nx21 ++ nx25 ++ nx30 ++ nx31) (sx21 ++ sx25 ++ sx30 ++ sx31)) [some (.v (.int .u64 0)), some (.v (.bool false))]) (fun _ =>
 Xr (finO ox6 (nx21 ++ nx25 ++ nx30 ++ nx31) (sx21 ++ sx25 ++ sx30 ++ sx31)) [some x4, some (.v (.bool true))]) () ()) ()) ()) ()) ()) ()) ()) ()) ()) ()) ()) ()) ()) ()) () ()) ()) ()) ()) ()) () := by kernel_rfl
def c_lex_Digits : CF := ⟨2, 16,
  .seq (.reg [] [
  ⟨(some 4), none, .mv (.c (.v (.string ⟨#[]⟩)))⟩]) (
  .seq (.reg [] [
  ⟨(some 6), none, .mv (.t 0)⟩,
  ⟨(some 7), none, .call false i_strconv_FormatUint [(.t 6), (.c (.v (.int .i64 10)))]⟩,
  ⟨(some 5), none, .mv (.t 7)⟩]) (
  .seq (.seq (.reg [] [
  ⟨(some 8), none, .mv (.t 1)⟩,
  ⟨(some 9), none, .mv (.t 8)⟩,
  ⟨(some 10), (some (9, true)), .mv (.t 0)⟩,
  ⟨(some 11), (some (9, true)), .bin .neq (.t 10) (.c (.v (.int .u64 0)))⟩,
  ⟨(some 12), none, .pick (.t 9) (.t 11) (.c (.v (.bool false)))⟩]) (
  .cond (.t 12) (
  .seq (.reg [] [
  ⟨(some 13), none, .mv (.t 5)⟩,
  ⟨(some 14), none, .bin .add (.c (.v (.string ⟨#[45]⟩))) (.t 13)⟩,
  ⟨(some 4), none, .mv (.t 14)⟩]) (
  .ret)) (
  .skip))) (
  .seq (.reg [] [
  ⟨(some 15), none, .mv (.t 5)⟩,
  ⟨(some 4), none, .mv (.t 15)⟩]) (
  .ret)))),
  [.t 4]⟩
def v_lex_Digits : List Nat := []
set_option maxRecDepth 100000 in
theorem s_lex_Digits (call : Eng.Call) (G : Nat → AV) (n : Nat) (x0 x1 : AV) : denFE call G v_lex_Digits n c_lex_Digits [x0, x1] =
 Xx call [] 7 (.call false i_strconv_FormatUint [(.c x0), (.c (.v (.int .i64 10)))]) (fun x2 ox2 =>
 Xgq x1 true (.mv (.c x0)) (fun x3 =>
 Xgq x1 true (.bin .neq (.c x3) (.c (.v (.int .u64 0)))) (fun x4 =>
 Xq (.pick (.c x1) (.c x4) (.c (.v (.bool false)))) (fun x5 =>
 Xc x5 (fun _ =>
 Xq (.bin .add (.c (.v (.string ⟨#[45]⟩))) (.c x2)) (fun x6 =>
 Xr ox2 [some x6]) ()) (fun _ =>
 Xr ox2 [some x2]) () ()) ()) ()) ()) () := by kernel_rfl
def c_scalar_Whole : CF := ⟨1, 7,
  .seq (.reg [] [
  ⟨(some 2), none, .mv (.c (.v (.bool false)))⟩]) (
  .seq (.reg [] [
  ⟨(some 3), none, .mv (.t 0)⟩,
  ⟨(some 4), none, .call false i_scalar_kind [(.t 3)]⟩,
  ⟨(some 5), none, .bin .and (.t 4) (.c (.v (.int .i64 1)))⟩,
  ⟨(some 6), none, .bin .neq (.t 5) (.c (.v (.int .i64 0)))⟩,
  ⟨(some 2), none, .mv (.t 6)⟩]) (
  .ret)),
  [.t 2]⟩
def v_scalar_Whole : List Nat := []
set_option maxRecDepth 100000 in
theorem s_scalar_Whole (call : Eng.Call) (G : Nat → AV) (n : Nat) (x0 : AV) : denFE call G v_scalar_Whole n c_scalar_Whole [x0] =
 Xx call [] 4 (.call false i_scalar_kind [(.c x0)]) (fun x1 ox1 =>
 Xq (.bin .and (.c x1) (.c (.v (.int .i64 1)))) (fun x2 =>
 Xq (.bin .neq (.c x2) (.c (.v (.int .i64 0)))) (fun x3 =>
 Xr ox1 [some x3]) ()) ()) () := by kernel_rfl
def c_scalar_May : CF := ⟨2, 34,
  .seq (.reg [] [
  ⟨(some 4), none, .mv (.c (.v (.bool false)))⟩]) (
  .seq (.block 0 (
  .seq (.reg [] [
  ⟨(some 6), none, .mv (.t 0)⟩,
  ⟨(some 7), none, .bin .lss (.t 6) (.c (.v (.int .i64 1)))⟩,
  ⟨(some 8), none, .mv (.t 7)⟩,
  ⟨(some 9), (some (8, false)), .mv (.t 0)⟩,
  ⟨(some 10), (some (8, false)), .bin .gtr (.t 9) (.c (.v (.int .i64 15)))⟩,
  ⟨(some 11), none, .pick (.t 8) (.c (.v (.bool true))) (.t 10)⟩,
  ⟨(some 5), none, .mv (.t 11)⟩]) (
  .cond (.t 5) (
  .seq (.reg [] [
  ⟨(some 4), none, .mv (.c (.v (.bool false)))⟩]) (
  .ret)) (
  .seq (.reg [] [
  ⟨(some 13), none, .mv (.t 0)⟩,
  ⟨(some 14), none, .call false i_scalar_Wide [(.t 13)]⟩,
  ⟨(some 12), none, .mv (.t 14)⟩]) (
  .cond (.t 12) (
  .seq (.reg [] [
  ⟨(some 4), none, .mv (.c (.v (.bool true)))⟩]) (
  .ret)) (
  .seq (.reg [] [
  ⟨(some 16), none, .mv (.t 0)⟩,
  ⟨(some 17), none, .call false i_scalar_Signed [(.t 16)]⟩,
  ⟨(some 15), none, .mv (.t 17)⟩]) (
  .cond (.t 15) (
  .seq (.reg [] [
  ⟨(some 18), none, .mv (.t 1)⟩,
  ⟨(some 19), none, .cvi .i64 (.t 18)⟩,
  ⟨(some 20), none, .call false i_zig_Fits [(.t 19)]⟩,
  ⟨(some 4), none, .mv (.t 20)⟩]) (
  .ret)) (
  .seq (.reg [] [
  ⟨(some 22), none, .mv (.t 0)⟩,
  ⟨(some 23), none, .call false i_scalar_Whole [(.t 22)]⟩,
  ⟨(some 21), none, .mv (.t 23)⟩]) (
  .cond (.t 21) (
  .seq (.reg [] [
  ⟨(some 24), none, .mv (.t 1)⟩,
  ⟨(some 25), none, .bin .shr (.t 24) (.c (.v (.int .u64 32)))⟩,
  ⟨(some 26), none, .bin .eql (.t 25) (.c (.v (.int .u64 0)))⟩,
  ⟨(some 4), none, .mv (.t 26)⟩]) (
  .ret)) (
  .seq (.reg [] [
  ⟨(some 28), none, .mv (.t 0)⟩,
  ⟨(some 29), none, .bin .eql (.t 28) (.c (.v (.int .i64 7)))⟩,
  ⟨(some 27), none, .mv (.t 29)⟩]) (
  .cond (.t 27) (
  .seq (.reg [] [
  ⟨(some 30), none, .mv (.t 1)⟩,
  ⟨(some 31), none, .bin .leq (.t 30) (.c (.v (.int .u64 1)))⟩,
  ⟨(some 4), none, .mv (.t 31)⟩]) (
  .ret)) (
  .skip)))))))))))) (
  .seq (.reg [] [
  ⟨(some 32), none, .mv (.t 1)⟩,
  ⟨(some 33), none, .bin .eql (.t 32) (.c (.v (.int .u64 0)))⟩,
  ⟨(some 4), none, .mv (.t 33)⟩]) (
  .ret))),
  [.t 4]⟩
def v_scalar_May : List Nat := []
set_option maxRecDepth 100000 in
theorem s_scalar_May (call : Eng.Call) (G : Nat → AV) (n : Nat) (x0 x1 : AV) : denFE call G v_scalar_May n c_scalar_May [x0, x1] =
 Xq (.bin .lss (.c x0) (.c (.v (.int .i64 1)))) (fun x2 =>
 Xgq x2 false (.mv (.c x0)) (fun x3 =>
 Xgq x2 false (.bin .gtr (.c x3) (.c (.v (.int .i64 15)))) (fun x4 =>
 Xq (.pick (.c x2) (.c (.v (.bool true))) (.c x4)) (fun x5 =>
 Xc x5 (fun _ =>
 Xr [] [some (.v (.bool false))]) (fun _ =>
 Xx call [] 14 (.call false i_scalar_Wide [(.c x0)]) (fun x6 ox6 =>
 Xc x6 (fun _ =>
 Xr ox6 [some (.v (.bool true))]) (fun _ =>
 Xx call ox6 17 (.call false i_scalar_Signed [(.c x0)]) (fun x7 ox7 =>
 Xc x7 (fun _ =>
 Xq (.cvi .i64 (.c x1)) (fun x8 =>
 Xx call ox7 20 (.call false i_zig_Fits [(.c x8)]) (fun x9 ox9 =>
 Xr ox9 [some x9]) ()) ()) (fun _ =>
 Xx call ox7 23 (.call false i_scalar_Whole [(.c x0)]) (fun x10 ox10 =>
 Xc x10 (fun _ =>
 Xq (.bin .shr (.c x1) (.c (.v (.int .u64 32)))) (fun x11 =>
 Xq (.bin .eql (.c x11) (.c (.v (.int .u64 0)))) (fun x12 =>
 Xr ox10 [some x12]) ()) ()) (fun _ =>
 Xq (.bin .eql (.c x0) (.c (.v (.int .i64 7)))) (fun x13 =>
 Xc x13 (fun _ =>
 Xq (.bin .leq (.c x1) (.c (.v (.int .u64 1)))) (fun x14 =>
 Xr ox10 [some x14]) ()) (fun _ =>
 Xq (.bin .eql (.c x1) (.c (.v (.int .u64 0)))) (fun x15 =>
 Xr ox10 [some x15]) ()) () ()) ()) () ()) ()) () ()) ()) () ()) ()) () ()) ()) ()) ()) () := by kernel_rfl
def c_scalar_Signed : CF := ⟨1, 7,
  .seq (.reg [] [
  ⟨(some 2), none, .mv (.c (.v (.bool false)))⟩]) (
  .seq (.reg [] [
  ⟨(some 3), none, .mv (.t 0)⟩,
  ⟨(some 4), none, .call false i_scalar_kind [(.t 3)]⟩,
  ⟨(some 5), none, .bin .and (.t 4) (.c (.v (.int .i64 4)))⟩,
  ⟨(some 6), none, .bin .neq (.t 5) (.c (.v (.int .i64 0)))⟩,
  ⟨(some 2), none, .mv (.t 6)⟩]) (
  .ret)),
  [.t 2]⟩
def v_scalar_Signed : List Nat := []
set_option maxRecDepth 100000 in
theorem s_scalar_Signed (call : Eng.Call) (G : Nat → AV) (n : Nat) (x0 : AV) : denFE call G v_scalar_Signed n c_scalar_Signed [x0] =
 Xx call [] 4 (.call false i_scalar_kind [(.c x0)]) (fun x1 ox1 =>
 Xq (.bin .and (.c x1) (.c (.v (.int .i64 4)))) (fun x2 =>
 Xq (.bin .neq (.c x2) (.c (.v (.int .i64 0)))) (fun x3 =>
 Xr ox1 [some x3]) ()) ()) () := by kernel_rfl
def c_scalar_kind : CF := ⟨1, 12,
  .seq (.reg [] [
  ⟨(some 2), none, .mv (.c (.v (.int .i64 0)))⟩]) (
  .seq (.seq (.reg [] [
  ⟨(some 3), none, .mv (.t 0)⟩,
  ⟨(some 4), none, .bin .lss (.t 3) (.c (.v (.int .i64 0)))⟩,
  ⟨(some 5), none, .mv (.t 4)⟩,
  ⟨(some 6), (some (5, false)), .mv (.t 0)⟩,
  ⟨(some 7), (some (5, false)), .bin .geq (.t 6) (.c (.v (.int .i64 16)))⟩,
  ⟨(some 8), none, .pick (.t 5) (.c (.v (.bool true))) (.t 7)⟩]) (
  .cond (.t 8) (
  .seq (.reg [] [
  ⟨(some 2), none, .mv (.c (.v (.int .i64 0)))⟩]) (
  .ret)) (
  .skip))) (
  .seq (.reg [] [
  ⟨(some 9), none, .build [(.v (.int .i64 0)), (.v (.int .i64 0)), (.v (.int .i64 0)), (.v (.int .i64 0)), (.v (.int .i64 0)), (.v (.int .i64 0)), (.v (.int .i64 0)), (.v (.int .i64 0)), (.v (.int .i64 0)), (.v (.int .i64 0)), (.v (.int .i64 0)), (.v (.int .i64 0)), (.v (.int .i64 0)), (.v (.int .i64 0)), (.v (.int .i64 0)), (.v (.int .i64 0))] [(1, 1, (.c (.v (.int .i64 7)))), (2, 1, (.c (.v (.int .i64 15)))), (3, 1, (.c (.v (.int .i64 3)))), (4, 1, (.c (.v (.int .i64 11)))), (5, 1, (.c (.v (.int .i64 7)))), (6, 1, (.c (.v (.int .i64 15)))), (7, 1, (.c (.v (.int .i64 2)))), (8, 1, (.c (.v (.int .i64 3)))), (9, 1, (.c (.v (.int .i64 11)))), (10, 1, (.c (.v (.int .i64 7)))), (11, 1, (.c (.v (.int .i64 15)))), (14, 1, (.c (.v (.int .i64 6))))]⟩,
  ⟨(some 10), none, .mv (.t 0)⟩,
  ⟨(some 11), none, .ixa 16 1 false (.t 9) (.t 10)⟩,
  ⟨(some 2), none, .mv (.t 11)⟩]) (
  .ret))),
  [.t 2]⟩
def v_scalar_kind : List Nat := []
set_option maxRecDepth 100000 in
theorem s_scalar_kind (call : Eng.Call) (G : Nat → AV) (n : Nat) (x0 : AV) : denFE call G v_scalar_kind n c_scalar_kind [x0] =
 Xq (.bin .lss (.c x0) (.c (.v (.int .i64 0)))) (fun x1 =>
 Xgq x1 false (.mv (.c x0)) (fun x2 =>
 Xgq x1 false (.bin .geq (.c x2) (.c (.v (.int .i64 16)))) (fun x3 =>
 Xq (.pick (.c x1) (.c (.v (.bool true))) (.c x3)) (fun x4 =>
 Xc x4 (fun _ =>
 Xr [] [some (.v (.int .i64 0))]) (fun _ =>
 Xq (.build [(.v (.int .i64 0)), (.v (.int .i64 0)), (.v (.int .i64 0)), (.v (.int .i64 0)), (.v (.int .i64 0)), (.v (.int .i64 0)), (.v (.int .i64 0)), (.v (.int .i64 0)), (.v (.int .i64 0)), (.v (.int .i64 0)), (.v (.int .i64 0)), (.v (.int .i64 0)), (.v (.int .i64 0)), (.v (.int .i64 0)), (.v (.int .i64 0)), (.v (.int .i64 0))] [(1, 1, (.c (.v (.int .i64 7)))), (2, 1, (.c (.v (.int .i64 15)))), (3, 1, (.c (.v (.int .i64 3)))), (4, 1, (.c (.v (.int .i64 11)))), (5, 1, (.c (.v (.int .i64 7)))), (6, 1, (.c (.v (.int .i64 15)))), (7, 1, (.c (.v (.int .i64 2)))), (8, 1, (.c (.v (.int .i64 3)))), (9, 1, (.c (.v (.int .i64 11)))), (10, 1, (.c (.v (.int .i64 7)))), (11, 1, (.c (.v (.int .i64 15)))), (14, 1, (.c (.v (.int .i64 6))))]) (fun x5 =>
 Xq (.ixa 16 1 false (.c x5) (.c x0)) (fun x6 =>
 Xr [] [some x6]) ()) ()) () ()) ()) ()) ()) () := by kernel_rfl
def c_scalar_Wide : CF := ⟨1, 7,
  .seq (.reg [] [
  ⟨(some 2), none, .mv (.c (.v (.bool false)))⟩]) (
  .seq (.reg [] [
  ⟨(some 3), none, .mv (.t 0)⟩,
  ⟨(some 4), none, .call false i_scalar_kind [(.t 3)]⟩,
  ⟨(some 5), none, .bin .and (.t 4) (.c (.v (.int .i64 8)))⟩,
  ⟨(some 6), none, .bin .neq (.t 5) (.c (.v (.int .i64 0)))⟩,
  ⟨(some 2), none, .mv (.t 6)⟩]) (
  .ret)),
  [.t 2]⟩
def v_scalar_Wide : List Nat := []
set_option maxRecDepth 100000 in
theorem s_scalar_Wide (call : Eng.Call) (G : Nat → AV) (n : Nat) (x0 : AV) : denFE call G v_scalar_Wide n c_scalar_Wide [x0] =
 Xx call [] 4 (.call false i_scalar_kind [(.c x0)]) (fun x1 ox1 =>
 Xq (.bin .and (.c x1) (.c (.v (.int .i64 8)))) (fun x2 =>
 Xq (.bin .neq (.c x2) (.c (.v (.int .i64 0)))) (fun x3 =>
 Xr ox1 [some x3]) ()) ()) () := by kernel_rfl
def c_zig_Fits : CF := ⟨1, 8,
  .seq (.reg [] [
  ⟨(some 2), none, .mv (.c (.v (.bool false)))⟩]) (
  .seq (.reg [] [
  ⟨(some 3), none, .mv (.t 0)⟩,
  ⟨(some 4), none, .cvi .i32 (.t 3)⟩,
  ⟨(some 5), none, .cvi .i64 (.t 4)⟩,
  ⟨(some 6), none, .mv (.t 0)⟩,
  ⟨(some 7), none, .bin .eql (.t 5) (.t 6)⟩,
  ⟨(some 2), none, .mv (.t 7)⟩]) (
  .ret)),
  [.t 2]⟩
def v_zig_Fits : List Nat := []
set_option maxRecDepth 100000 in
theorem s_zig_Fits (call : Eng.Call) (G : Nat → AV) (n : Nat) (x0 : AV) : denFE call G v_zig_Fits n c_zig_Fits [x0] =
 Xq (.cvi .i32 (.c x0)) (fun x1 =>
 Xq (.cvi .i64 (.c x1)) (fun x2 =>
 Xq (.bin .eql (.c x2) (.c x0)) (fun x3 =>
 Xr [] [some x3]) ()) ()) () := by kernel_rfl
end Go.Proofs.YticmmpiffekbiaaDoor.Cv
