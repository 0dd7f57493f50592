/- The small code of what the statement reaches, and what it comes to with names for slots. -/
import Derived.Test.YtddomdjphkalcaaEng5
import Derived.WalkKit
import Derived.ProofKit
namespace Go.Proofs.Ytddomdjphkalcaa.Sm
open Go Go.Proofs.Ytddomdjphkalcaa.Eng
set_option linter.unusedVariables false
abbrev i_law32_SpanMeets : FuncId := 10
abbrev i_span_Of : FuncId := 28
abbrev i_span_In : FuncId := 30
abbrev i_law32_live : FuncId := 32
abbrev i_span_Meet : FuncId := 34
abbrev i_span_Covers : FuncId := 35
abbrev i_scalar_Whole : FuncId := 43
abbrev i_scalar_Signed : FuncId := 46
abbrev i_scalar_Wide : FuncId := 48
abbrev i_scalar_May : FuncId := 49
abbrev i_span_signed : FuncId := 62
abbrev i_span_plain : FuncId := 63
abbrev i_scalar_kind : FuncId := 67
abbrev i_zig_Fits : FuncId := 68
def c_law32_SpanMeets : CF := ⟨2, 74,
  .seq (.reg [] [
  ⟨(some 2), none, .box 3 [0, 0, 0] (.t 0)⟩,
  ⟨(some 4), none, .mv (.c (.v (.bool false)))⟩]) (
  .seq (.reg [] [
  ⟨(some 12), none, .iaa 3 1 (.t 2) (.c (.v (.int .i64 0)))⟩,
  ⟨(some 13), none, .ld false 1 (.t 12)⟩,
  ⟨(some 14), none, .call false i_span_Of [(.t 13)]⟩,
  ⟨(some 11), none, .mv (.t 14)⟩,
  ⟨(some 15), none, .ext (.t 11) 0⟩,
  ⟨(some 16), none, .ext (.t 11) 1⟩,
  ⟨(some 5), none, .alloc [(.v (.int .i64 0)), (.v (.int .u64 0))] [0, 0]⟩,
  ⟨none, none, .st 2 (.t 5) (.t 15)⟩,
  ⟨(some 6), none, .mv (.t 16)⟩]) (
  .seq (.reg [] [
  ⟨(some 18), none, .iaa 3 1 (.t 2) (.c (.v (.int .i64 1)))⟩,
  ⟨(some 19), none, .ld false 1 (.t 18)⟩,
  ⟨(some 20), none, .call false i_span_Of [(.t 19)]⟩,
  ⟨(some 17), none, .mv (.t 20)⟩,
  ⟨(some 21), none, .ext (.t 17) 0⟩,
  ⟨(some 22), none, .ext (.t 17) 1⟩,
  ⟨(some 7), none, .alloc [(.v (.int .i64 0)), (.v (.int .u64 0))] [0, 0]⟩,
  ⟨none, none, .st 2 (.t 7) (.t 21)⟩,
  ⟨(some 8), none, .mv (.t 22)⟩]) (
  .seq (.seq (.reg [] [
  ⟨(some 23), none, .mv (.t 6)⟩,
  ⟨(some 24), none, .not (.t 23)⟩,
  ⟨(some 25), none, .mv (.t 24)⟩,
  ⟨(some 26), (some (25, false)), .mv (.t 8)⟩,
  ⟨(some 27), (some (25, false)), .not (.t 26)⟩,
  ⟨(some 28), none, .pick (.t 25) (.c (.v (.bool true))) (.t 27)⟩]) (
  .cond (.t 28) (
  .seq (.reg [] [
  ⟨(some 29), none, .call false i_law32_live []⟩,
  ⟨(some 4), none, .mv (.t 29)⟩]) (
  .ret)) (
  .skip))) (
  .seq (.reg [] [
  ⟨(some 30), none, .ld true 2 (.t 5)⟩,
  ⟨(some 31), none, .ld true 2 (.t 7)⟩,
  ⟨(some 32), none, .call false i_span_Meet [(.t 30), (.t 31)]⟩,
  ⟨(some 9), none, .alloc [(.v (.int .i64 0)), (.v (.int .u64 0))] [0, 0]⟩,
  ⟨none, none, .st 2 (.t 9) (.t 32)⟩]) (
  .seq (.reg [] [
  ⟨(some 33), none, .ld true 2 (.t 5)⟩,
  ⟨(some 34), none, .iaa 3 1 (.t 2) (.c (.v (.int .i64 2)))⟩,
  ⟨(some 35), none, .ld false 1 (.t 34)⟩,
  ⟨(some 36), none, .mv (.t 1)⟩,
  ⟨(some 37), none, .call false i_span_In [(.t 33), (.t 35), (.t 36)]⟩,
  ⟨(some 38), none, .mv (.t 37)⟩,
  ⟨(some 39), (some (38, true)), .ld true 2 (.t 7)⟩,
  ⟨(some 40), (some (38, true)), .iaa 3 1 (.t 2) (.c (.v (.int .i64 2)))⟩,
  ⟨(some 41), (some (38, true)), .ld false 1 (.t 40)⟩,
  ⟨(some 42), (some (38, true)), .mv (.t 1)⟩,
  ⟨(some 43), (some (38, true)), .call false i_span_In [(.t 39), (.t 41), (.t 42)]⟩,
  ⟨(some 44), none, .pick (.t 38) (.t 43) (.c (.v (.bool false)))⟩,
  ⟨(some 10), none, .mv (.t 44)⟩]) (
  .seq (.reg [
  ⟨(some 45), none, .ld true 2 (.t 9)⟩,
  ⟨(some 46), none, .iaa 3 1 (.t 2) (.c (.v (.int .i64 2)))⟩,
  ⟨(some 47), none, .ld false 1 (.t 46)⟩,
  ⟨(some 48), none, .mv (.t 1)⟩,
  ⟨(some 49), none, .call false i_span_In [(.t 45), (.t 47), (.t 48)]⟩,
  ⟨(some 50), none, .mv (.t 10)⟩,
  ⟨(some 51), none, .eqb false (.t 49) (.t 50)⟩,
  ⟨(some 52), none, .mv (.t 51)⟩,
  ⟨(some 53), (some (52, true)), .ld true 2 (.t 5)⟩,
  ⟨(some 54), (some (52, true)), .ld true 2 (.t 7)⟩,
  ⟨(some 55), (some (52, true)), .call false i_span_Covers [(.t 53), (.t 54)]⟩,
  ⟨(some 56), (some (52, true)), .ld true 2 (.t 9)⟩,
  ⟨(some 57), (some (52, true)), .ld true 2 (.t 7)⟩,
  ⟨(some 58), (some (52, true)), .eqs false [0, 0] (.t 56) (.t 57)⟩,
  ⟨(some 59), (some (52, true)), .eqb false (.t 55) (.t 58)⟩,
  ⟨(some 60), none, .pick (.t 52) (.t 59) (.c (.v (.bool false)))⟩,
  ⟨(some 61), none, .mv (.t 60)⟩,
  ⟨(some 62), (some (61, true)), .ld true 2 (.t 5)⟩,
  ⟨(some 63), (some (61, true)), .ld true 2 (.t 9)⟩,
  ⟨(some 64), (some (61, true)), .call false i_span_Covers [(.t 62), (.t 63)]⟩,
  ⟨(some 65), none, .pick (.t 61) (.t 64) (.c (.v (.bool false)))⟩,
  ⟨(some 66), none, .mv (.t 65)⟩,
  ⟨(some 67), (some (66, true)), .ld true 2 (.t 7)⟩,
  ⟨(some 68), (some (66, true)), .ld true 2 (.t 9)⟩] [
  ⟨(some 69), (some (66, true)), .call false i_span_Covers [(.t 67), (.t 68)]⟩,
  ⟨(some 70), none, .pick (.t 66) (.t 69) (.c (.v (.bool false)))⟩,
  ⟨(some 71), none, .mv (.t 70)⟩,
  ⟨(some 72), (some (71, true)), .call false i_law32_live []⟩,
  ⟨(some 73), none, .pick (.t 71) (.t 72) (.c (.v (.bool false)))⟩,
  ⟨(some 4), none, .mv (.t 73)⟩]) (
  .ret))))))),
  [.t 4]⟩
def v_law32_SpanMeets : List Nat := [5, 7, 9]
set_option maxRecDepth 100000 in
theorem s_law32_SpanMeets (call : Eng.Call) (G : Nat → AV) (n : Nat) (x0 x1 : AV) : denFE call G v_law32_SpanMeets n c_law32_SpanMeets [x0, x1] =
 Xx call [] 2 (.box 3 [0, 0, 0] (.c x0)) (fun x2 ox2 =>
 Xq (.iaa 3 1 (.c x2) (.c (.v (.int .i64 0)))) (fun x3 =>
 Xx call ox2 13 (.ld false 1 (.c x3)) (fun x4 ox4 =>
 Xx call ox4 14 (.call false i_span_Of [(.c x4)]) (fun x5 ox5 =>
 Xq (.ext (.c x5) 0) (fun x6 =>
 Xq (.ext (.c x5) 1) (fun x7 =>
 Xx call ox5 5 (.alloc [(.v (.int .i64 0)), (.v (.int .u64 0))] [0, 0]) (fun x8 ox8 =>
 Xv ox8 2 x8 x6 (fun ox9 =>
 Xq (.iaa 3 1 (.c x2) (.c (.v (.int .i64 1)))) (fun x10 =>
 Xx call ox9 19 (.ld false 1 (.c x10)) (fun x11 ox11 =>
 Xx call ox11 20 (.call false i_span_Of [(.c x11)]) (fun x12 ox12 =>
 Xq (.ext (.c x12) 0) (fun x13 =>
 Xq (.ext (.c x12) 1) (fun x14 =>
 Xx call ox12 7 (.alloc [(.v (.int .i64 0)), (.v (.int .u64 0))] [0, 0]) (fun x15 ox15 =>
 Xv ox15 2 x15 x13 (fun ox16 =>
 Xq (.not (.c x7)) (fun x17 =>
 Xgq x17 false (.mv (.c x14)) (fun x18 =>
 Xgq x17 false (.not (.c x18)) (fun x19 =>
 Xq (.pick (.c x17) (.c (.v (.bool true))) (.c x19)) (fun x20 =>
 Xc x20 (fun _ =>
 Xx call ox16 29 (.call false i_law32_live []) (fun x21 ox21 =>
 Xr ox21 [some x21]) ()) (fun _ =>
 Xx call ox16 30 (.ld true 2 (.c x8)) (fun x22 ox22 =>
 Xx call ox22 31 (.ld true 2 (.c x15)) (fun x23 ox23 =>
 Xx call ox23 32 (.call false i_span_Meet [(.c x22), (.c x23)]) (fun x24 ox24 =>
 Xx call ox24 9 (.alloc [(.v (.int .i64 0)), (.v (.int .u64 0))] [0, 0]) (fun x25 ox25 =>
 Xv ox25 2 x25 x24 (fun ox26 =>
 Xx call ox26 33 (.ld true 2 (.c x8)) (fun x27 ox27 =>
 Xq (.iaa 3 1 (.c x2) (.c (.v (.int .i64 2)))) (fun x28 =>
 Xx call ox27 35 (.ld false 1 (.c x28)) (fun x29 ox29 =>
 Xx call ox29 37 (.call false i_span_In [(.c x27), (.c x29), (.c x1)]) (fun x30 ox30 =>
 Xxg call x30 true ox30 39 (.ld true 2 (.c x15)) (fun x31 ox31 =>
 Xgq x30 true (.iaa 3 1 (.c x2) (.c (.v (.int .i64 2)))) (fun x32 =>
 Xxg call x30 true ox31 41 (.ld false 1 (.c x32)) (fun x33 ox33 =>
 Xgq x30 true (.mv (.c x1)) (fun x34 =>
 Xxg call x30 true ox33 43 (.call false i_span_In [(.c x31), (.c x33), (.c x34)]) (fun x35 ox35 =>
 Xq (.pick (.c x30) (.c x35) (.c (.v (.bool false)))) (fun x36 =>
 Xp call ox35 45 (.ld true 2 (.c x25)) (fun x37 nx37 sx37 =>
 Xq (.iaa 3 1 (.c x2) (.c (.v (.int .i64 2)))) (fun x38 =>
 Xp call ox35 47 (.ld false 1 (.c x38)) (fun x39 nx39 sx39 =>
 Xp call ox35 49 (.call false i_span_In [(.c x37), (.c x39), (.c x1)]) (fun x40 nx40 sx40 =>
 Xq (.eqb false (.c x40) (.c x36)) (fun x41 =>
 Xpg call x41 true ox35 53 (.ld true 2 (.c x8)) (fun x42 nx42 sx42 =>
 Xpg call x41 true ox35 54 (.ld true 2 (.c x15)) (fun x43 nx43 sx43 =>
 Xpg call x41 true ox35 55 (.call false i_span_Covers [(.c x42), (.c x43)]) (fun x44 nx44 sx44 =>
 Xpg call x41 true ox35 56 (.ld true 2 (.c x25)) (fun x45 nx45 sx45 =>
 Xpg call x41 true ox35 57 (.ld true 2 (.c x15)) (fun x46 nx46 sx46 =>
 Xgq x41 true (.eqs false [0, 0] (.c x45) (.c x46)) (fun x47 =>
 Xgq x41 true (.eqb false (.c x44) (.c x47)) (fun x48 =>
 Xq (.pick (.c x41) (.c x48) (.c (.v (.bool false)))) (fun x49 =>
 Xpg call x49 true ox35 62 (.ld true 2 (.c x8)) (fun x50 nx50 sx50 =>
 Xpg call x49 true ox35 63 (.ld true 2 (.c x25)) (fun x51 nx51 sx51 =>
 Xpg call x49 true ox35 64 (.call false i_span_Covers [(.c x50), (.c x51)]) (fun x52 nx52 sx52 =>
 Xq (.pick (.c x49) (.c x52) (.c (.v (.bool false)))) (fun x53 =>
 Xpg call x53 true ox35 67 (.ld true 2 (.c x15)) (fun x54 nx54 sx54 =>
 Xpg call x53 true ox35 68 (.ld true 2 (.c x25)) (fun x55 nx55 sx55 =>
 Xxg call x53 true (finO ox35 (nx37 ++ nx39 ++ nx40 ++ nx42 ++ nx43 ++ nx44 ++ nx45 ++ nx46 ++ nx50 ++ nx51 ++ nx52 ++ nx54 ++ nx55) (sx37 ++ sx39 ++ sx40 ++ sx42 ++ sx43 ++ sx44 ++ sx45 ++ sx46 ++ sx50 ++ sx51 ++ sx52 ++ sx54 ++ sx55)) 69 (.call false i_span_Covers [(.c x54), (.c x55)]) (fun x56 ox56 =>
 Xq (.pick (.c x53) (.c x56) (.c (.v (.bool false)))) (fun x57 =>
 Xxg call x57 true ox56 72 (.call false i_law32_live []) (fun x58 ox58 =>
 Xq (.pick (.c x57) (.c x58) (.c (.v (.bool false)))) (fun x59 =>
 Xr ox58 [some x59]) ()) ()) ()) ()) ()) ()) ()) ()) ()) ()) ()) ()) ()) ()) ()) ()) ()) ()) ()) ()) ()) ()) ()) ()) ()) ()) ()) ()) ()) ()) ()) ()) ()) ()) ()) ()) ()) ()) () ()) ()) ()) ()) ()) ()) ()) ()) ()) ()) ()) ()) ()) ()) ()) ()) ()) ()) ()) () := by kernel_rfl
def c_span_Of : CF := ⟨1, 19,
  .seq (.reg [] [
  ⟨(some 2), none, .alloc [(.v (.int .i64 0)), (.v (.int .u64 0))] [0, 0]⟩,
  ⟨(some 3), none, .mv (.c (.v (.bool false)))⟩]) (
  .seq (.reg [] [
  ⟨(some 4), none, .mv (.c (.v (.int .i64 32)))⟩]) (
  .seq (.seq (.reg [] [
  ⟨(some 5), none, .mv (.t 0)⟩,
  ⟨(some 6), none, .call false i_scalar_Wide [(.t 5)]⟩]) (
  .cond (.t 6) (
  .reg [] [
  ⟨(some 4), none, .mv (.c (.v (.int .i64 64)))⟩]) (
  .skip))) (
  .seq (.block 0 (
  .seq (.reg [] [
  ⟨(some 8), none, .mv (.t 0)⟩,
  ⟨(some 9), none, .call false i_scalar_Whole [(.t 8)]⟩,
  ⟨(some 10), none, .not (.t 9)⟩,
  ⟨(some 7), none, .mv (.t 10)⟩]) (
  .cond (.t 7) (
  .seq (.reg [] [
  ⟨(some 11), none, .build [(.v (.int .i64 0)), (.v (.int .u64 0))] []⟩,
  ⟨none, none, .st 2 (.t 2) (.t 11)⟩,
  ⟨(some 3), none, .mv (.c (.v (.bool false)))⟩]) (
  .ret)) (
  .seq (.reg [] [
  ⟨(some 13), none, .mv (.t 0)⟩,
  ⟨(some 14), none, .call false i_scalar_Signed [(.t 13)]⟩,
  ⟨(some 12), none, .mv (.t 14)⟩]) (
  .cond (.t 12) (
  .seq (.reg [] [
  ⟨(some 15), none, .mv (.t 4)⟩,
  ⟨(some 16), none, .call false i_span_signed [(.t 15)]⟩,
  ⟨none, none, .st 2 (.t 2) (.t 16)⟩,
  ⟨(some 3), none, .mv (.c (.v (.bool true)))⟩]) (
  .ret)) (
  .skip)))))) (
  .seq (.reg [] [
  ⟨(some 17), none, .mv (.t 4)⟩,
  ⟨(some 18), none, .call false i_span_plain [(.t 17)]⟩,
  ⟨none, none, .st 2 (.t 2) (.t 18)⟩,
  ⟨(some 3), none, .mv (.c (.v (.bool true)))⟩]) (
  .ret))))),
  [.cell 2 true 2, .t 3]⟩
def v_span_Of : List Nat := [2]
set_option maxRecDepth 100000 in
theorem s_span_Of (call : Eng.Call) (G : Nat → AV) (n : Nat) (x0 : AV) : denFE call G v_span_Of n c_span_Of [x0] =
 Xx call [] 2 (.alloc [(.v (.int .i64 0)), (.v (.int .u64 0))] [0, 0]) (fun x1 ox1 =>
 Xx call ox1 6 (.call false i_scalar_Wide [(.c x0)]) (fun x2 ox2 =>
 Xc x2 (fun _ =>
 Xx call ox2 9 (.call false i_scalar_Whole [(.c x0)]) (fun x3 ox3 =>
 Xq (.not (.c x3)) (fun x4 =>
 Xc x4 (fun _ =>
 Xq (.build [(.v (.int .i64 0)), (.v (.int .u64 0))] []) (fun x5 =>
 Xv ox3 2 x1 x5 (fun ox6 =>
 Xr ox6 [cellR ox6 x1 true 2, some (.v (.bool false))]) ()) ()) (fun _ =>
 Xx call ox3 14 (.call false i_scalar_Signed [(.c x0)]) (fun x7 ox7 =>
 Xc x7 (fun _ =>
 Xx call ox7 16 (.call false i_span_signed [(.c (.v (.int .i64 64)))]) (fun x8 ox8 =>
 Xv ox8 2 x1 x8 (fun ox9 =>
 Xr ox9 [cellR ox9 x1 true 2, some (.v (.bool true))]) ()) ()) (fun _ =>
 Xx call ox7 18 (.call false i_span_plain [(.c (.v (.int .i64 64)))]) (fun x10 ox10 =>
 Xv ox10 2 x1 x10 (fun ox11 =>
 Xr ox11 [cellR ox11 x1 true 2, some (.v (.bool true))]) ()) ()) () ()) ()) () ()) ()) ()) (fun _ =>
 Xx call ox2 9 (.call false i_scalar_Whole [(.c x0)]) (fun x12 ox12 =>
 Xq (.not (.c x12)) (fun x13 =>
 Xc x13 (fun _ =>
 Xq (.build [(.v (.int .i64 0)), (.v (.int .u64 0))] []) (fun x14 =>
 Xv ox12 2 x1 x14 (fun ox15 =>
 Xr ox15 [cellR ox15 x1 true 2, some (.v (.bool false))]) ()) ()) (fun _ =>
 Xx call ox12 14 (.call false i_scalar_Signed [(.c x0)]) (fun x16 ox16 =>
 Xc x16 (fun _ =>
 Xx call ox16 16 (.call false i_span_signed [(.c (.v (.int .i64 32)))]) (fun x17 ox17 =>
 Xv ox17 2 x1 x17 (fun ox18 =>
 Xr ox18 [cellR ox18 x1 true 2, some (.v (.bool true))]) ()) ()) (fun _ =>
 Xx call ox16 18 (.call false i_span_plain [(.c (.v (.int .i64 32)))]) (fun x19 ox19 =>
 Xv ox19 2 x1 x19 (fun ox20 =>
 Xr ox20 [cellR ox20 x1 true 2, some (.v (.bool true))]) ()) ()) () ()) ()) () ()) ()) ()) () ()) ()) () := by kernel_rfl
def c_span_In : CF := ⟨3, 39,
  .seq (.reg [] [
  ⟨(some 3), none, .box 2 [0, 0] (.t 0)⟩,
  ⟨(some 6), none, .mv (.c (.v (.bool false)))⟩]) (
  .seq (.block 0 (
  .seq (.reg [] [
  ⟨(some 8), none, .mv (.t 1)⟩,
  ⟨(some 9), none, .call false i_scalar_Whole [(.t 8)]⟩,
  ⟨(some 10), none, .not (.t 9)⟩,
  ⟨(some 11), none, .mv (.t 10)⟩,
  ⟨(some 12), (some (11, false)), .mv (.t 1)⟩,
  ⟨(some 13), (some (11, false)), .mv (.t 2)⟩,
  ⟨(some 14), (some (11, false)), .call false i_scalar_May [(.t 12), (.t 13)]⟩,
  ⟨(some 15), (some (11, false)), .not (.t 14)⟩,
  ⟨(some 16), none, .pick (.t 11) (.c (.v (.bool true))) (.t 15)⟩,
  ⟨(some 7), none, .mv (.t 16)⟩]) (
  .cond (.t 7) (
  .seq (.reg [] [
  ⟨(some 6), none, .mv (.c (.v (.bool false)))⟩]) (
  .ret)) (
  .seq (.reg [] [
  ⟨(some 18), none, .mv (.t 1)⟩,
  ⟨(some 19), none, .call false i_scalar_Signed [(.t 18)]⟩,
  ⟨(some 20), none, .mv (.t 19)⟩,
  ⟨(some 21), (some (20, true)), .mv (.t 2)⟩,
  ⟨(some 22), (some (20, true)), .cvi .i64 (.t 21)⟩,
  ⟨(some 23), (some (20, true)), .bin .lss (.t 22) (.c (.v (.int .i64 0)))⟩,
  ⟨(some 24), none, .pick (.t 20) (.t 23) (.c (.v (.bool false)))⟩,
  ⟨(some 17), none, .mv (.t 24)⟩]) (
  .cond (.t 17) (
  .seq (.reg [] [
  ⟨(some 25), none, .mv (.t 2)⟩,
  ⟨(some 26), none, .cvi .i64 (.t 25)⟩,
  ⟨(some 27), none, .fad (.t 3) 0⟩,
  ⟨(some 28), none, .ld false 1 (.t 27)⟩,
  ⟨(some 29), none, .bin .geq (.t 26) (.t 28)⟩,
  ⟨(some 6), none, .mv (.t 29)⟩]) (
  .ret)) (
  .skip)))))) (
  .seq (.reg [] [
  ⟨(some 30), none, .fad (.t 3) 0⟩,
  ⟨(some 31), none, .ld false 1 (.t 30)⟩,
  ⟨(some 32), none, .bin .leq (.t 31) (.c (.v (.int .i64 0)))⟩,
  ⟨(some 33), none, .mv (.t 32)⟩,
  ⟨(some 34), (some (33, true)), .mv (.t 2)⟩,
  ⟨(some 35), (some (33, true)), .fad (.t 3) 1⟩,
  ⟨(some 36), (some (33, true)), .ld false 1 (.t 35)⟩,
  ⟨(some 37), (some (33, true)), .bin .leq (.t 34) (.t 36)⟩,
  ⟨(some 38), none, .pick (.t 33) (.t 37) (.c (.v (.bool false)))⟩,
  ⟨(some 6), none, .mv (.t 38)⟩]) (
  .ret))),
  [.t 6]⟩
def v_span_In : List Nat := []
set_option maxRecDepth 100000 in
theorem s_span_In (call : Eng.Call) (G : Nat → AV) (n : Nat) (x0 x1 x2 : AV) : denFE call G v_span_In n c_span_In [x0, x1, x2] =
 Xx call [] 3 (.box 2 [0, 0] (.c x0)) (fun x3 ox3 =>
 Xx call ox3 9 (.call false i_scalar_Whole [(.c x1)]) (fun x4 ox4 =>
 Xq (.not (.c x4)) (fun x5 =>
 Xgq x5 false (.mv (.c x1)) (fun x6 =>
 Xgq x5 false (.mv (.c x2)) (fun x7 =>
 Xxg call x5 false ox4 14 (.call false i_scalar_May [(.c x6), (.c x7)]) (fun x8 ox8 =>
 Xgq x5 false (.not (.c x8)) (fun x9 =>
 Xq (.pick (.c x5) (.c (.v (.bool true))) (.c x9)) (fun x10 =>
 Xc x10 (fun _ =>
 Xr ox8 [some (.v (.bool false))]) (fun _ =>
 Xx call ox8 19 (.call false i_scalar_Signed [(.c x1)]) (fun x11 ox11 =>
 Xgq x11 true (.mv (.c x2)) (fun x12 =>
 Xgq x11 true (.cvi .i64 (.c x12)) (fun x13 =>
 Xgq x11 true (.bin .lss (.c x13) (.c (.v (.int .i64 0)))) (fun x14 =>
 Xq (.pick (.c x11) (.c x14) (.c (.v (.bool false)))) (fun x15 =>
 Xc x15 (fun _ =>
 Xq (.cvi .i64 (.c x2)) (fun x16 =>
 Xq (.fad (.c x3) 0) (fun x17 =>
 Xx call ox11 28 (.ld false 1 (.c x17)) (fun x18 ox18 =>
 Xq (.bin .geq (.c x16) (.c x18)) (fun x19 =>
 Xr ox18 [some x19]) ()) ()) ()) ()) (fun _ =>
 Xq (.fad (.c x3) 0) (fun x20 =>
 Xx call ox11 31 (.ld false 1 (.c x20)) (fun x21 ox21 =>
 Xq (.bin .leq (.c x21) (.c (.v (.int .i64 0)))) (fun x22 =>
 Xgq x22 true (.mv (.c x2)) (fun x23 =>
 Xgq x22 true (.fad (.c x3) 1) (fun x24 =>
 Xxg call x22 true ox21 36 (.ld false 1 (.c x24)) (fun x25 ox25 =>
 Xgq x22 true (.bin .leq (.c x23) (.c x25)) (fun x26 =>
 Xq (.pick (.c x22) (.c x26) (.c (.v (.bool false)))) (fun x27 =>
 Xr ox25 [some x27]) ()) ()) ()) ()) ()) ()) ()) ()) () ()) ()) ()) ()) ()) ()) () ()) ()) ()) ()) ()) ()) ()) ()) () := by kernel_rfl
def c_law32_live : CF := ⟨0, 13,
  .seq (.reg [] [
  ⟨(some 0), none, .mv (.c (.v (.bool false)))⟩]) (
  .seq (.reg [] [
  ⟨(some 4), none, .call false i_span_Of [(.c (.v (.int .i64 1)))]⟩,
  ⟨(some 3), none, .mv (.t 4)⟩,
  ⟨(some 5), none, .ext (.t 3) 0⟩,
  ⟨(some 6), none, .ext (.t 3) 1⟩,
  ⟨(some 1), none, .alloc [(.v (.int .i64 0)), (.v (.int .u64 0))] [0, 0]⟩,
  ⟨none, none, .st 2 (.t 1) (.t 5)⟩,
  ⟨(some 2), none, .mv (.t 6)⟩]) (
  .seq (.reg [] [
  ⟨(some 7), none, .mv (.t 2)⟩,
  ⟨(some 8), none, .mv (.t 7)⟩,
  ⟨(some 9), (some (8, true)), .ld true 2 (.t 1)⟩,
  ⟨(some 10), (some (8, true)), .build [(.v (.int .i64 0)), (.v (.int .u64 0))] [(0, 1, (.c (.v (.int .i64 (-2147483648))))), (1, 1, (.c (.v (.int .u64 2147483647))))]⟩,
  ⟨(some 11), (some (8, true)), .eqs false [0, 0] (.t 9) (.t 10)⟩,
  ⟨(some 12), none, .pick (.t 8) (.t 11) (.c (.v (.bool false)))⟩,
  ⟨(some 0), none, .mv (.t 12)⟩]) (
  .ret))),
  [.t 0]⟩
def v_law32_live : List Nat := [1]
set_option maxRecDepth 100000 in
theorem s_law32_live (call : Eng.Call) (G : Nat → AV) (n : Nat) : denFE call G v_law32_live n c_law32_live [] =
 Xx call [] 4 (.call false i_span_Of [(.c (.v (.int .i64 1)))]) (fun x0 ox0 =>
 Xq (.ext (.c x0) 0) (fun x1 =>
 Xq (.ext (.c x0) 1) (fun x2 =>
 Xx call ox0 1 (.alloc [(.v (.int .i64 0)), (.v (.int .u64 0))] [0, 0]) (fun x3 ox3 =>
 Xv ox3 2 x3 x1 (fun ox4 =>
 Xxg call x2 true ox4 9 (.ld true 2 (.c x3)) (fun x5 ox5 =>
 Xgq x2 true (.build [(.v (.int .i64 0)), (.v (.int .u64 0))] [(0, 1, (.c (.v (.int .i64 (-2147483648))))), (1, 1, (.c (.v (.int .u64 2147483647))))]) (fun x6 =>
 Xgq x2 true (.eqs false [0, 0] (.c x5) (.c x6)) (fun x7 =>
 Xq (.pick (.c x2) (.c x7) (.c (.v (.bool false)))) (fun x8 =>
 Xr ox5 [some x8]) ()) ()) ()) ()) ()) ()) ()) ()) () := by kernel_rfl
def c_span_Meet : CF := ⟨2, 16,
  .seq (.reg [] [
  ⟨(some 2), none, .box 2 [0, 0] (.t 0)⟩,
  ⟨(some 3), none, .box 2 [0, 0] (.t 1)⟩,
  ⟨(some 4), none, .alloc [(.v (.int .i64 0)), (.v (.int .u64 0))] [0, 0]⟩]) (
  .seq (.reg [] [
  ⟨(some 5), none, .fad (.t 2) 0⟩,
  ⟨(some 6), none, .ld false 1 (.t 5)⟩,
  ⟨(some 7), none, .fad (.t 3) 0⟩,
  ⟨(some 8), none, .ld false 1 (.t 7)⟩,
  ⟨(some 9), none, .mm true (.t 6) (.t 8)⟩,
  ⟨(some 10), none, .fad (.t 2) 1⟩,
  ⟨(some 11), none, .ld false 1 (.t 10)⟩,
  ⟨(some 12), none, .fad (.t 3) 1⟩,
  ⟨(some 13), none, .ld false 1 (.t 12)⟩,
  ⟨(some 14), none, .mm false (.t 11) (.t 13)⟩,
  ⟨(some 15), none, .build [(.v (.int .i64 0)), (.v (.int .u64 0))] [(0, 1, (.t 9)), (1, 1, (.t 14))]⟩,
  ⟨none, none, .st 2 (.t 4) (.t 15)⟩]) (
  .ret)),
  [.cell 4 true 2]⟩
def v_span_Meet : List Nat := [4]
set_option maxRecDepth 100000 in
theorem s_span_Meet (call : Eng.Call) (G : Nat → AV) (n : Nat) (x0 x1 : AV) : denFE call G v_span_Meet n c_span_Meet [x0, x1] =
 Xx call [] 2 (.box 2 [0, 0] (.c x0)) (fun x2 ox2 =>
 Xx call ox2 3 (.box 2 [0, 0] (.c x1)) (fun x3 ox3 =>
 Xx call ox3 4 (.alloc [(.v (.int .i64 0)), (.v (.int .u64 0))] [0, 0]) (fun x4 ox4 =>
 Xq (.fad (.c x2) 0) (fun x5 =>
 Xx call ox4 6 (.ld false 1 (.c x5)) (fun x6 ox6 =>
 Xq (.fad (.c x3) 0) (fun x7 =>
 Xx call ox6 8 (.ld false 1 (.c x7)) (fun x8 ox8 =>
 Xq (.mm true (.c x6) (.c x8)) (fun x9 =>
 Xq (.fad (.c x2) 1) (fun x10 =>
 Xx call ox8 11 (.ld false 1 (.c x10)) (fun x11 ox11 =>
 Xq (.fad (.c x3) 1) (fun x12 =>
 Xx call ox11 13 (.ld false 1 (.c x12)) (fun x13 ox13 =>
 Xq (.mm false (.c x11) (.c x13)) (fun x14 =>
 Xq (.build [(.v (.int .i64 0)), (.v (.int .u64 0))] [(0, 1, (.c x9)), (1, 1, (.c x14))]) (fun x15 =>
 Xv ox13 2 x4 x15 (fun ox16 =>
 Xr ox16 [cellR ox16 x4 true 2]) ()) ()) ()) ()) ()) ()) ()) ()) ()) ()) ()) ()) ()) ()) () := by kernel_rfl
def c_span_Covers : CF := ⟨2, 10,
  .seq (.reg [] [
  ⟨(some 2), none, .box 2 [0, 0] (.t 0)⟩,
  ⟨(some 3), none, .box 2 [0, 0] (.t 1)⟩,
  ⟨(some 4), none, .mv (.c (.v (.bool false)))⟩]) (
  .seq (.reg [
  ⟨(some 5), none, .ld true 2 (.t 2)⟩,
  ⟨(some 6), none, .ld true 2 (.t 3)⟩,
  ⟨(some 7), none, .call false i_span_Meet [(.t 5), (.t 6)]⟩,
  ⟨(some 8), none, .ld true 2 (.t 3)⟩] [
  ⟨(some 9), none, .eqs false [0, 0] (.t 7) (.t 8)⟩,
  ⟨(some 4), none, .mv (.t 9)⟩]) (
  .ret)),
  [.t 4]⟩
def v_span_Covers : List Nat := []
set_option maxRecDepth 100000 in
theorem s_span_Covers (call : Eng.Call) (G : Nat → AV) (n : Nat) (x0 x1 : AV) : denFE call G v_span_Covers n c_span_Covers [x0, x1] =
 Xx call [] 2 (.box 2 [0, 0] (.c x0)) (fun x2 ox2 =>
 Xx call ox2 3 (.box 2 [0, 0] (.c x1)) (fun x3 ox3 =>
 Xp call ox3 5 (.ld true 2 (.c x2)) (fun x4 nx4 sx4 =>
 Xp call ox3 6 (.ld true 2 (.c x3)) (fun x5 nx5 sx5 =>
 Xp call ox3 7 (.call false i_span_Meet [(.c x4), (.c x5)]) (fun x6 nx6 sx6 =>
 Xp call ox3 8 (.ld true 2 (.c x3)) (fun x7 nx7 sx7 =>
 Xq (.eqs false [0, 0] (.c x6) (.c x7)) (fun x8 =>
 Xr (finO ox3 (nx4 ++ nx5 ++ nx6 ++ nx7) (sx4 ++ sx5 ++ sx6 ++ sx7)) [some x8]) ()) ()) ()) ()) ()) ()) () := by kernel_rfl
def c_scalar_Whole : CF := ⟨1, 7,
  .seq (.reg [] [
  ⟨(some 2), none, .mv (.c (.v (.bool false)))⟩]) (
  .seq (.reg [] [
  ⟨(some 3), none, .mv (.t 0)⟩,
  ⟨(some 4), none, .call false i_scalar_kind [(.t 3)]⟩,
  ⟨(some 5), none, .bin .and (.t 4) (.c (.v (.int .i64 1)))⟩,
  ⟨(some 6), none, .bin .neq (.t 5) (.c (.v (.int .i64 0)))⟩,
  ⟨(some 2), none, .mv (.t 6)⟩]) (
  .ret)),
  [.t 2]⟩
def v_scalar_Whole : List Nat := []
set_option maxRecDepth 100000 in
theorem s_scalar_Whole (call : Eng.Call) (G : Nat → AV) (n : Nat) (x0 : AV) : denFE call G v_scalar_Whole n c_scalar_Whole [x0] =
 Xx call [] 4 (.call false i_scalar_kind [(.c x0)]) (fun x1 ox1 =>
 Xq (.bin .and (.c x1) (.c (.v (.int .i64 1)))) (fun x2 =>
 Xq (.bin .neq (.c x2) (.c (.v (.int .i64 0)))) (fun x3 =>
 Xr ox1 [some x3]) ()) ()) () := by kernel_rfl
def c_scalar_Signed : CF := ⟨1, 7,
  .seq (.reg [] [
  ⟨(some 2), none, .mv (.c (.v (.bool false)))⟩]) (
  .seq (.reg [] [
  ⟨(some 3), none, .mv (.t 0)⟩,
  ⟨(some 4), none, .call false i_scalar_kind [(.t 3)]⟩,
  ⟨(some 5), none, .bin .and (.t 4) (.c (.v (.int .i64 4)))⟩,
  ⟨(some 6), none, .bin .neq (.t 5) (.c (.v (.int .i64 0)))⟩,
  ⟨(some 2), none, .mv (.t 6)⟩]) (
  .ret)),
  [.t 2]⟩
def v_scalar_Signed : List Nat := []
set_option maxRecDepth 100000 in
theorem s_scalar_Signed (call : Eng.Call) (G : Nat → AV) (n : Nat) (x0 : AV) : denFE call G v_scalar_Signed n c_scalar_Signed [x0] =
 Xx call [] 4 (.call false i_scalar_kind [(.c x0)]) (fun x1 ox1 =>
 Xq (.bin .and (.c x1) (.c (.v (.int .i64 4)))) (fun x2 =>
 Xq (.bin .neq (.c x2) (.c (.v (.int .i64 0)))) (fun x3 =>
 Xr ox1 [some x3]) ()) ()) () := by kernel_rfl
def c_scalar_Wide : CF := ⟨1, 7,
  .seq (.reg [] [
  ⟨(some 2), none, .mv (.c (.v (.bool false)))⟩]) (
  .seq (.reg [] [
  ⟨(some 3), none, .mv (.t 0)⟩,
  ⟨(some 4), none, .call false i_scalar_kind [(.t 3)]⟩,
  ⟨(some 5), none, .bin .and (.t 4) (.c (.v (.int .i64 8)))⟩,
  ⟨(some 6), none, .bin .neq (.t 5) (.c (.v (.int .i64 0)))⟩,
  ⟨(some 2), none, .mv (.t 6)⟩]) (
  .ret)),
  [.t 2]⟩
def v_scalar_Wide : List Nat := []
set_option maxRecDepth 100000 in
theorem s_scalar_Wide (call : Eng.Call) (G : Nat → AV) (n : Nat) (x0 : AV) : denFE call G v_scalar_Wide n c_scalar_Wide [x0] =
 Xx call [] 4 (.call false i_scalar_kind [(.c x0)]) (fun x1 ox1 =>
 Xq (.bin .and (.c x1) (.c (.v (.int .i64 8)))) (fun x2 =>
 Xq (.bin .neq (.c x2) (.c (.v (.int .i64 0)))) (fun x3 =>
 Xr ox1 [some x3]) ()) ()) () := by kernel_rfl
def c_scalar_May : CF := ⟨2, 34,
  .seq (.reg [] [
  ⟨(some 4), none, .mv (.c (.v (.bool false)))⟩]) (
  .seq (.block 0 (
  .seq (.reg [] [
  ⟨(some 6), none, .mv (.t 0)⟩,
  ⟨(some 7), none, .bin .lss (.t 6) (.c (.v (.int .i64 1)))⟩,
  ⟨(some 8), none, .mv (.t 7)⟩,
  ⟨(some 9), (some (8, false)), .mv (.t 0)⟩,
  ⟨(some 10), (some (8, false)), .bin .gtr (.t 9) (.c (.v (.int .i64 15)))⟩,
  ⟨(some 11), none, .pick (.t 8) (.c (.v (.bool true))) (.t 10)⟩,
  ⟨(some 5), none, .mv (.t 11)⟩]) (
  .cond (.t 5) (
  .seq (.reg [] [
  ⟨(some 4), none, .mv (.c (.v (.bool false)))⟩]) (
  .ret)) (
  .seq (.reg [] [
  ⟨(some 13), none, .mv (.t 0)⟩,
  ⟨(some 14), none, .call false i_scalar_Wide [(.t 13)]⟩,
  ⟨(some 12), none, .mv (.t 14)⟩]) (
  .cond (.t 12) (
  .seq (.reg [] [
  ⟨(some 4), none, .mv (.c (.v (.bool true)))⟩]) (
  .ret)) (
  .seq (.reg [] [
  ⟨(some 16), none, .mv (.t 0)⟩,
  ⟨(some 17), none, .call false i_scalar_Signed [(.t 16)]⟩,
  ⟨(some 15), none, .mv (.t 17)⟩]) (
  .cond (.t 15) (
  .seq (.reg [] [
  ⟨(some 18), none, .mv (.t 1)⟩,
  ⟨(some 19), none, .cvi .i64 (.t 18)⟩,
  ⟨(some 20), none, .call false i_zig_Fits [(.t 19)]⟩,
  ⟨(some 4), none, .mv (.t 20)⟩]) (
  .ret)) (
  .seq (.reg [] [
  ⟨(some 22), none, .mv (.t 0)⟩,
  ⟨(some 23), none, .call false i_scalar_Whole [(.t 22)]⟩,
  ⟨(some 21), none, .mv (.t 23)⟩]) (
  .cond (.t 21) (
  .seq (.reg [] [
  ⟨(some 24), none, .mv (.t 1)⟩,
  ⟨(some 25), none, .bin .shr (.t 24) (.c (.v (.int .u64 32)))⟩,
  ⟨(some 26), none, .bin .eql (.t 25) (.c (.v (.int .u64 0)))⟩,
  ⟨(some 4), none, .mv (.t 26)⟩]) (
  .ret)) (
  .seq (.reg [] [
  ⟨(some 28), none, .mv (.t 0)⟩,
  ⟨(some 29), none, .bin .eql (.t 28) (.c (.v (.int .i64 7)))⟩,
  ⟨(some 27), none, .mv (.t 29)⟩]) (
  .cond (.t 27) (
  .seq (.reg [] [
  ⟨(some 30), none, .mv (.t 1)⟩,
  ⟨(some 31), none, .bin .leq (.t 30) (.c (.v (.int .u64 1)))⟩,
  ⟨(some 4), none, .mv (.t 31)⟩]) (
  .ret)) (
  .skip)))))))))))) (
  .seq (.reg [] [
  ⟨(some 32), none, .mv (.t 1)⟩,
  ⟨(some 33), none, .bin .eql (.t 32) (.c (.v (.int .u64 0)))⟩,
  ⟨(some 4), none, .mv (.t 33)⟩]) (
  .ret))),
  [.t 4]⟩
def v_scalar_May : List Nat := []
set_option maxRecDepth 100000 in
theorem s_scalar_May (call : Eng.Call) (G : Nat → AV) (n : Nat) (x0 x1 : AV) : denFE call G v_scalar_May n c_scalar_May [x0, x1] =
 Xq (.bin .lss (.c x0) (.c (.v (.int .i64 1)))) (fun x2 =>
 Xgq x2 false (.mv (.c x0)) (fun x3 =>
 Xgq x2 false (.bin .gtr (.c x3) (.c (.v (.int .i64 15)))) (fun x4 =>
 Xq (.pick (.c x2) (.c (.v (.bool true))) (.c x4)) (fun x5 =>
 Xc x5 (fun _ =>
 Xr [] [some (.v (.bool false))]) (fun _ =>
 Xx call [] 14 (.call false i_scalar_Wide [(.c x0)]) (fun x6 ox6 =>
 Xc x6 (fun _ =>
 Xr ox6 [some (.v (.bool true))]) (fun _ =>
 Xx call ox6 17 (.call false i_scalar_Signed [(.c x0)]) (fun x7 ox7 =>
 Xc x7 (fun _ =>
 Xq (.cvi .i64 (.c x1)) (fun x8 =>
 Xx call ox7 20 (.call false i_zig_Fits [(.c x8)]) (fun x9 ox9 =>
 Xr ox9 [some x9]) ()) ()) (fun _ =>
 Xx call ox7 23 (.call false i_scalar_Whole [(.c x0)]) (fun x10 ox10 =>
 Xc x10 (fun _ =>
 Xq (.bin .shr (.c x1) (.c (.v (.int .u64 32)))) (fun x11 =>
 Xq (.bin .eql (.c x11) (.c (.v (.int .u64 0)))) (fun x12 =>
 Xr ox10 [some x12]) ()) ()) (fun _ =>
 Xq (.bin .eql (.c x0) (.c (.v (.int .i64 7)))) (fun x13 =>
 Xc x13 (fun _ =>
 Xq (.bin .leq (.c x1) (.c (.v (.int .u64 1)))) (fun x14 =>
 Xr ox10 [some x14]) ()) (fun _ =>
 Xq (.bin .eql (.c x1) (.c (.v (.int .u64 0)))) (fun x15 =>
 Xr ox10 [some x15]) ()) () ()) ()) () ()) ()) () ()) ()) () ()) ()) () ()) ()) ()) ()) () := by kernel_rfl
def c_span_signed : CF := ⟨1, 11,
  .seq (.reg [] [
  ⟨(some 2), none, .alloc [(.v (.int .i64 0)), (.v (.int .u64 0))] [0, 0]⟩]) (
  .seq (.reg [
  ⟨(some 3), none, .mv (.t 0)⟩,
  ⟨(some 4), none, .bin .sub (.t 3) (.c (.v (.int .i64 1)))⟩,
  ⟨(some 5), none, .bin .shl (.c (.v (.int .i64 (-1)))) (.t 4)⟩,
  ⟨(some 6), none, .mv (.t 0)⟩,
  ⟨(some 7), none, .bin .sub (.t 6) (.c (.v (.int .i64 1)))⟩,
  ⟨(some 8), none, .bin .shl (.c (.v (.int .u64 1))) (.t 7)⟩,
  ⟨(some 9), none, .bin .sub (.t 8) (.c (.v (.int .u64 1)))⟩] [
  ⟨(some 10), none, .build [(.v (.int .i64 0)), (.v (.int .u64 0))] [(0, 1, (.t 5)), (1, 1, (.t 9))]⟩,
  ⟨none, none, .st 2 (.t 2) (.t 10)⟩]) (
  .ret)),
  [.cell 2 true 2]⟩
def v_span_signed : List Nat := [2]
set_option maxRecDepth 100000 in
theorem s_span_signed (call : Eng.Call) (G : Nat → AV) (n : Nat) (x0 : AV) : denFE call G v_span_signed n c_span_signed [x0] =
 Xx call [] 2 (.alloc [(.v (.int .i64 0)), (.v (.int .u64 0))] [0, 0]) (fun x1 ox1 =>
 Xq (.bin .sub (.c x0) (.c (.v (.int .i64 1)))) (fun x2 =>
 Xq (.bin .shl (.c (.v (.int .i64 (-1)))) (.c x2)) (fun x3 =>
 Xq (.bin .sub (.c x0) (.c (.v (.int .i64 1)))) (fun x4 =>
 Xq (.bin .shl (.c (.v (.int .u64 1))) (.c x4)) (fun x5 =>
 Xq (.bin .sub (.c x5) (.c (.v (.int .u64 1)))) (fun x6 =>
 Xq (.build [(.v (.int .i64 0)), (.v (.int .u64 0))] [(0, 1, (.c x3)), (1, 1, (.c x6))]) (fun x7 =>
 Xv ox1 2 x1 x7 (fun ox8 =>
 Xr ox8 [cellR ox8 x1 true 2]) ()) ()) ()) ()) ()) ()) ()) () := by kernel_rfl
def c_span_plain : CF := ⟨1, 7,
  .seq (.reg [] [
  ⟨(some 2), none, .alloc [(.v (.int .i64 0)), (.v (.int .u64 0))] [0, 0]⟩]) (
  .seq (.reg [] [
  ⟨(some 3), none, .mv (.t 0)⟩,
  ⟨(some 4), none, .bin .shl (.c (.v (.int .u64 1))) (.t 3)⟩,
  ⟨(some 5), none, .bin .sub (.t 4) (.c (.v (.int .u64 1)))⟩,
  ⟨(some 6), none, .build [(.v (.int .i64 0)), (.v (.int .u64 0))] [(0, 1, (.c (.v (.int .i64 0)))), (1, 1, (.t 5))]⟩,
  ⟨none, none, .st 2 (.t 2) (.t 6)⟩]) (
  .ret)),
  [.cell 2 true 2]⟩
def v_span_plain : List Nat := [2]
set_option maxRecDepth 100000 in
theorem s_span_plain (call : Eng.Call) (G : Nat → AV) (n : Nat) (x0 : AV) : denFE call G v_span_plain n c_span_plain [x0] =
 Xx call [] 2 (.alloc [(.v (.int .i64 0)), (.v (.int .u64 0))] [0, 0]) (fun x1 ox1 =>
 Xq (.bin .shl (.c (.v (.int .u64 1))) (.c x0)) (fun x2 =>
 Xq (.bin .sub (.c x2) (.c (.v (.int .u64 1)))) (fun x3 =>
 Xq (.build [(.v (.int .i64 0)), (.v (.int .u64 0))] [(0, 1, (.c (.v (.int .i64 0)))), (1, 1, (.c x3))]) (fun x4 =>
 Xv ox1 2 x1 x4 (fun ox5 =>
 Xr ox5 [cellR ox5 x1 true 2]) ()) ()) ()) ()) () := by kernel_rfl
def c_scalar_kind : CF := ⟨1, 12,
  .seq (.reg [] [
  ⟨(some 2), none, .mv (.c (.v (.int .i64 0)))⟩]) (
  .seq (.seq (.reg [] [
  ⟨(some 3), none, .mv (.t 0)⟩,
  ⟨(some 4), none, .bin .lss (.t 3) (.c (.v (.int .i64 0)))⟩,
  ⟨(some 5), none, .mv (.t 4)⟩,
  ⟨(some 6), (some (5, false)), .mv (.t 0)⟩,
  ⟨(some 7), (some (5, false)), .bin .geq (.t 6) (.c (.v (.int .i64 16)))⟩,
  ⟨(some 8), none, .pick (.t 5) (.c (.v (.bool true))) (.t 7)⟩]) (
  .cond (.t 8) (
  .seq (.reg [] [
  ⟨(some 2), none, .mv (.c (.v (.int .i64 0)))⟩]) (
  .ret)) (
  .skip))) (
  .seq (.reg [] [
  ⟨(some 9), none, .build [(.v (.int .i64 0)), (.v (.int .i64 0)), (.v (.int .i64 0)), (.v (.int .i64 0)), (.v (.int .i64 0)), (.v (.int .i64 0)), (.v (.int .i64 0)), (.v (.int .i64 0)), (.v (.int .i64 0)), (.v (.int .i64 0)), (.v (.int .i64 0)), (.v (.int .i64 0)), (.v (.int .i64 0)), (.v (.int .i64 0)), (.v (.int .i64 0)), (.v (.int .i64 0))] [(1, 1, (.c (.v (.int .i64 7)))), (2, 1, (.c (.v (.int .i64 15)))), (3, 1, (.c (.v (.int .i64 3)))), (4, 1, (.c (.v (.int .i64 11)))), (5, 1, (.c (.v (.int .i64 7)))), (6, 1, (.c (.v (.int .i64 15)))), (7, 1, (.c (.v (.int .i64 2)))), (8, 1, (.c (.v (.int .i64 3)))), (9, 1, (.c (.v (.int .i64 11)))), (10, 1, (.c (.v (.int .i64 7)))), (11, 1, (.c (.v (.int .i64 15)))), (14, 1, (.c (.v (.int .i64 6))))]⟩,
  ⟨(some 10), none, .mv (.t 0)⟩,
  ⟨(some 11), none, .ixa 16 1 false (.t 9) (.t 10)⟩,
  ⟨(some 2), none, .mv (.t 11)⟩]) (
  .ret))),
  [.t 2]⟩
def v_scalar_kind : List Nat := []
set_option maxRecDepth 100000 in
theorem s_scalar_kind (call : Eng.Call) (G : Nat → AV) (n : Nat) (x0 : AV) : denFE call G v_scalar_kind n c_scalar_kind [x0] =
 Xq (.bin .lss (.c x0) (.c (.v (.int .i64 0)))) (fun x1 =>
 Xgq x1 false (.mv (.c x0)) (fun x2 =>
 Xgq x1 false (.bin .geq (.c x2) (.c (.v (.int .i64 16)))) (fun x3 =>
 Xq (.pick (.c x1) (.c (.v (.bool true))) (.c x3)) (fun x4 =>
 Xc x4 (fun _ =>
 Xr [] [some (.v (.int .i64 0))]) (fun _ =>
 Xq (.build [(.v (.int .i64 0)), (.v (.int .i64 0)), (.v (.int .i64 0)), (.v (.int .i64 0)), (.v (.int .i64 0)), (.v (.int .i64 0)), (.v (.int .i64 0)), (.v (.int .i64 0)), (.v (.int .i64 0)), (.v (.int .i64 0)), (.v (.int .i64 0)), (.v (.int .i64 0)), (.v (.int .i64 0)), (.v (.int .i64 0)), (.v (.int .i64 0)), (.v (.int .i64 0))] [(1, 1, (.c (.v (.int .i64 7)))), (2, 1, (.c (.v (.int .i64 15)))), (3, 1, (.c (.v (.int .i64 3)))), (4, 1, (.c (.v (.int .i64 11)))), (5, 1, (.c (.v (.int .i64 7)))), (6, 1, (.c (.v (.int .i64 15)))), (7, 1, (.c (.v (.int .i64 2)))), (8, 1, (.c (.v (.int .i64 3)))), (9, 1, (.c (.v (.int .i64 11)))), (10, 1, (.c (.v (.int .i64 7)))), (11, 1, (.c (.v (.int .i64 15)))), (14, 1, (.c (.v (.int .i64 6))))]) (fun x5 =>
 Xq (.ixa 16 1 false (.c x5) (.c x0)) (fun x6 =>
 Xr [] [some x6]) ()) ()) () ()) ()) ()) ()) () := by kernel_rfl
def c_zig_Fits : CF := ⟨1, 8,
  .seq (.reg [] [
  ⟨(some 2), none, .mv (.c (.v (.bool false)))⟩]) (
  .seq (.reg [] [
  ⟨(some 3), none, .mv (.t 0)⟩,
  ⟨(some 4), none, .cvi .i32 (.t 3)⟩,
  ⟨(some 5), none, .cvi .i64 (.t 4)⟩,
  ⟨(some 6), none, .mv (.t 0)⟩,
  ⟨(some 7), none, .bin .eql (.t 5) (.t 6)⟩,
  ⟨(some 2), none, .mv (.t 7)⟩]) (
  .ret)),
  [.t 2]⟩
def v_zig_Fits : List Nat := []
set_option maxRecDepth 100000 in
theorem s_zig_Fits (call : Eng.Call) (G : Nat → AV) (n : Nat) (x0 : AV) : denFE call G v_zig_Fits n c_zig_Fits [x0] =
 Xq (.cvi .i32 (.c x0)) (fun x1 =>
 Xq (.cvi .i64 (.c x1)) (fun x2 =>
 Xq (.bin .eql (.c x2) (.c x0)) (fun x3 =>
 Xr [] [some x3]) ()) ()) () := by kernel_rfl
end Go.Proofs.Ytddomdjphkalcaa.Sm
