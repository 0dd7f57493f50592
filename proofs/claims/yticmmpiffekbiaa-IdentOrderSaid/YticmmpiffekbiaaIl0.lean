/- The small code of what the statement reaches, and what it comes to with names for slots. -/
import Derived.Test.YticmmpiffekbiaaEng5
import Derived.WalkKit
import Derived.ProofKit
namespace Go.Proofs.Yticmmpiffekbiaa.Il
open Go Go.Proofs.Yticmmpiffekbiaa.Eng
set_option linter.unusedVariables false
abbrev i_law09_IdentLists : FuncId := 3
abbrev i_law09_IdentOrder : FuncId := 4
abbrev i_law09_live : FuncId := 5
abbrev i_ident_Rise : FuncId := 6
abbrev i_ref09_Rise : FuncId := 7
abbrev i_ident_Once : FuncId := 8
abbrev i_ref09_Once : FuncId := 9
abbrev i_ident_Right : FuncId := 10
abbrev i_ident_word : FuncId := 14
def c_law09_IdentLists : CF := ⟨1, 31,
  .seq (.reg [] [
  ⟨(some 2), none, .mv (.c (.v (.bool false)))⟩]) (
  .seq (.seq (.reg [] [
  ⟨(some 3), none, .mv (.t 0)⟩,
  ⟨(some 4), none, .len false (.t 3)⟩,
  ⟨(some 5), none, .bin .gtr (.t 4) (.c (.v (.int .i64 50)))⟩]) (
  .cond (.t 5) (
  .seq (.reg [] [
  ⟨(some 6), none, .call false i_law09_live []⟩,
  ⟨(some 2), none, .mv (.t 6)⟩]) (
  .ret)) (
  .skip))) (
  .seq (.reg [] [
  ⟨(some 7), none, .mv (.t 0)⟩,
  ⟨(some 8), none, .call false i_ident_Rise [(.t 7)]⟩,
  ⟨(some 9), none, .mv (.t 0)⟩,
  ⟨(some 10), none, .call false i_ref09_Rise [(.t 9)]⟩,
  ⟨(some 11), none, .eqb false (.t 8) (.t 10)⟩,
  ⟨(some 12), none, .mv (.t 11)⟩,
  ⟨(some 13), (some (12, true)), .mv (.t 0)⟩,
  ⟨(some 14), (some (12, true)), .call false i_ident_Once [(.t 13)]⟩,
  ⟨(some 15), (some (12, true)), .mv (.t 0)⟩,
  ⟨(some 16), (some (12, true)), .call false i_ref09_Once [(.t 15)]⟩,
  ⟨(some 17), (some (12, true)), .eqb false (.t 14) (.t 16)⟩,
  ⟨(some 18), none, .pick (.t 12) (.t 17) (.c (.v (.bool false)))⟩,
  ⟨(some 19), none, .mv (.t 18)⟩,
  ⟨(some 20), (some (19, true)), .mv (.t 0)⟩,
  ⟨(some 21), (some (19, true)), .call false i_ident_Rise [(.t 20)]⟩,
  ⟨(some 22), (some (19, true)), .not (.t 21)⟩,
  ⟨(some 23), (some (19, true)), .mv (.t 22)⟩,
  ⟨(some 24), (some (23, false)), .mv (.t 0)⟩,
  ⟨(some 25), (some (23, false)), .call false i_ident_Once [(.t 24)]⟩,
  ⟨(some 26), (some (19, true)), .pick (.t 23) (.c (.v (.bool true))) (.t 25)⟩,
  ⟨(some 27), none, .pick (.t 19) (.t 26) (.c (.v (.bool false)))⟩,
  ⟨(some 28), none, .mv (.t 27)⟩,
  ⟨(some 29), (some (28, true)), .call false i_law09_live []⟩,
  ⟨(some 30), none, .pick (.t 28) (.t 29) (.c (.v (.bool false)))⟩,
  ⟨(some 2), none, .mv (.t 30)⟩]) (
  .ret))),
  [.t 2]⟩
def v_law09_IdentLists : List Nat := []
set_option maxRecDepth 100000 in
theorem s_law09_IdentLists (call : Eng.Call) (G : Nat → AV) (n : Nat) (x0 : AV) : denFE call G v_law09_IdentLists n c_law09_IdentLists [x0] =
 Xq (.len false (.c x0)) (fun x1 =>
 Xq (.bin .gtr (.c x1) (.c (.v (.int .i64 50)))) (fun x2 =>
 Xc x2 (fun _ =>
 Xx call [] 6 (.call false i_law09_live []) (fun x3 ox3 =>
 Xr ox3 [some x3]) ()) (fun _ =>
 Xx call [] 8 (.call false i_ident_Rise [(.c x0)]) (fun x4 ox4 =>
 Xx call ox4 10 (.call false i_ref09_Rise [(.c x0)]) (fun x5 ox5 =>
 Xq (.eqb false (.c x4) (.c x5)) (fun x6 =>
 Xgq x6 true (.mv (.c x0)) (fun x7 =>
 Xxg call x6 true ox5 14 (.call false i_ident_Once [(.c x7)]) (fun x8 ox8 =>
 Xgq x6 true (.mv (.c x0)) (fun x9 =>
 Xxg call x6 true ox8 16 (.call false i_ref09_Once [(.c x9)]) (fun x10 ox10 =>
 Xgq x6 true (.eqb false (.c x8) (.c x10)) (fun x11 =>
 Xq (.pick (.c x6) (.c x11) (.c (.v (.bool false)))) (fun x12 =>
 Xgq x12 true (.mv (.c x0)) (fun x13 =>
 Xxg call x12 true ox10 21 (.call false i_ident_Rise [(.c x13)]) (fun x14 ox14 =>
 Xgq x12 true (.not (.c x14)) (fun x15 =>
 Xgq x12 true (.mv (.c x15)) (fun x16 =>
 Xgq x16 false (.mv (.c x0)) (fun x17 =>
 Xxg call x16 false ox14 25 (.call false i_ident_Once [(.c x17)]) (fun x18 ox18 =>
 Xgq x12 true (.pick (.c x16) (.c (.v (.bool true))) (.c x18)) (fun x19 =>
 Xq (.pick (.c x12) (.c x19) (.c (.v (.bool false)))) (fun x20 =>
 Xxg call x20 true ox18 29 (.call false i_law09_live []) (fun x21 ox21 =>
 Xq (.pick (.c x20) (.c x21) (.c (.v (.bool false)))) (fun x22 =>
 Xr ox21 [some x22]) ()) ()) ()) ()) ()) ()) ()) ()) ()) ()) ()) ()) ()) ()) ()) ()) ()) ()) ()) () ()) ()) () := by kernel_rfl
def c_law09_IdentOrder : CF := ⟨2, 47,
  .seq (.reg [] [
  ⟨(some 4), none, .mv (.c (.v (.bool false)))⟩]) (
  .seq (.seq (.reg [] [
  ⟨(some 7), none, .mv (.t 0)⟩,
  ⟨(some 8), none, .len false (.t 7)⟩,
  ⟨(some 9), none, .bin .gtr (.t 8) (.c (.v (.int .i64 30)))⟩,
  ⟨(some 10), none, .mv (.t 9)⟩,
  ⟨(some 11), (some (10, false)), .mv (.t 1)⟩,
  ⟨(some 12), (some (10, false)), .len false (.t 11)⟩,
  ⟨(some 13), (some (10, false)), .bin .gtr (.t 12) (.c (.v (.int .i64 30)))⟩,
  ⟨(some 14), none, .pick (.t 10) (.c (.v (.bool true))) (.t 13)⟩]) (
  .cond (.t 14) (
  .seq (.reg [] [
  ⟨(some 15), none, .call false i_law09_live []⟩,
  ⟨(some 4), none, .mv (.t 15)⟩]) (
  .ret)) (
  .skip))) (
  .seq (.reg [] [
  ⟨(some 16), none, .bsl 0 1 [] []⟩,
  ⟨(some 17), none, .mv (.t 0)⟩,
  ⟨(some 18), none, .app false 1 16 (.t 16) (.t 17)⟩,
  ⟨(some 19), none, .mv (.t 1)⟩,
  ⟨(some 20), none, .app false 1 16 (.t 18) (.t 19)⟩,
  ⟨(some 5), none, .mv (.t 20)⟩]) (
  .seq (.reg [] [
  ⟨(some 21), none, .bsl 0 1 [] []⟩,
  ⟨(some 22), none, .mv (.t 1)⟩,
  ⟨(some 23), none, .app false 1 16 (.t 21) (.t 22)⟩,
  ⟨(some 24), none, .mv (.t 0)⟩,
  ⟨(some 25), none, .app false 1 16 (.t 23) (.t 24)⟩,
  ⟨(some 6), none, .mv (.t 25)⟩]) (
  .seq (.reg [] [
  ⟨(some 26), none, .mv (.t 5)⟩,
  ⟨(some 27), none, .call false i_ident_Once [(.t 26)]⟩,
  ⟨(some 28), none, .mv (.t 6)⟩,
  ⟨(some 29), none, .call false i_ident_Once [(.t 28)]⟩,
  ⟨(some 30), none, .eqb false (.t 27) (.t 29)⟩,
  ⟨(some 31), none, .mv (.t 30)⟩,
  ⟨(some 32), (some (31, true)), .mv (.t 5)⟩,
  ⟨(some 33), (some (31, true)), .call false i_ident_Once [(.t 32)]⟩,
  ⟨(some 34), (some (31, true)), .not (.t 33)⟩,
  ⟨(some 35), (some (31, true)), .mv (.t 34)⟩,
  ⟨(some 36), (some (35, false)), .mv (.t 0)⟩,
  ⟨(some 37), (some (35, false)), .call false i_ident_Once [(.t 36)]⟩,
  ⟨(some 38), (some (35, false)), .mv (.t 37)⟩,
  ⟨(some 39), (some (38, true)), .mv (.t 1)⟩,
  ⟨(some 40), (some (38, true)), .call false i_ident_Once [(.t 39)]⟩,
  ⟨(some 41), (some (35, false)), .pick (.t 38) (.t 40) (.c (.v (.bool false)))⟩,
  ⟨(some 42), (some (31, true)), .pick (.t 35) (.c (.v (.bool true))) (.t 41)⟩,
  ⟨(some 43), none, .pick (.t 31) (.t 42) (.c (.v (.bool false)))⟩,
  ⟨(some 44), none, .mv (.t 43)⟩,
  ⟨(some 45), (some (44, true)), .call false i_law09_live []⟩,
  ⟨(some 46), none, .pick (.t 44) (.t 45) (.c (.v (.bool false)))⟩,
  ⟨(some 4), none, .mv (.t 46)⟩]) (
  .ret))))),
  [.t 4]⟩
def v_law09_IdentOrder : List Nat := []
set_option maxRecDepth 100000 in
theorem s_law09_IdentOrder (call : Eng.Call) (G : Nat → AV) (n : Nat) (x0 x1 : AV) : denFE call G v_law09_IdentOrder n c_law09_IdentOrder [x0, x1] =
 Xq (.len false (.c x0)) (fun x2 =>
 Xq (.bin .gtr (.c x2) (.c (.v (.int .i64 30)))) (fun x3 =>
 Xgq x3 false (.mv (.c x1)) (fun x4 =>
 Xgq x3 false (.len false (.c x4)) (fun x5 =>
 Xgq x3 false (.bin .gtr (.c x5) (.c (.v (.int .i64 30)))) (fun x6 =>
 Xq (.pick (.c x3) (.c (.v (.bool true))) (.c x6)) (fun x7 =>
 Xc x7 (fun _ =>
 Xx call [] 15 (.call false i_law09_live []) (fun x8 ox8 =>
 Xr ox8 [some x8]) ()) (fun _ =>
 Xx call [] 16 (.bsl 0 1 [] []) (fun x9 ox9 =>
 Xa ox9 18 false 1 16 x9 x0 (fun x10 ox10 =>
 Xa ox10 20 false 1 16 x10 x1 (fun x11 ox11 =>
 Xx call ox11 21 (.bsl 0 1 [] []) (fun x12 ox12 =>
 Xa ox12 23 false 1 16 x12 x1 (fun x13 ox13 =>
 Xa ox13 25 false 1 16 x13 x0 (fun x14 ox14 =>
 Xx call ox14 27 (.call false i_ident_Once [(.c x11)]) (fun x15 ox15 =>
 Xx call ox15 29 (.call false i_ident_Once [(.c x14)]) (fun x16 ox16 =>
 Xq (.eqb false (.c x15) (.c x16)) (fun x17 =>
 Xgq x17 true (.mv (.c x11)) (fun x18 =>
 Xxg call x17 true ox16 33 (.call false i_ident_Once [(.c x18)]) (fun x19 ox19 =>
 Xgq x17 true (.not (.c x19)) (fun x20 =>
 Xgq x17 true (.mv (.c x20)) (fun x21 =>
 Xgq x21 false (.mv (.c x0)) (fun x22 =>
 Xxg call x21 false ox19 37 (.call false i_ident_Once [(.c x22)]) (fun x23 ox23 =>
 Xgq x21 false (.mv (.c x23)) (fun x24 =>
 Xgq x24 true (.mv (.c x1)) (fun x25 =>
 Xxg call x24 true ox23 40 (.call false i_ident_Once [(.c x25)]) (fun x26 ox26 =>
 Xgq x21 false (.pick (.c x24) (.c x26) (.c (.v (.bool false)))) (fun x27 =>
 Xgq x17 true (.pick (.c x21) (.c (.v (.bool true))) (.c x27)) (fun x28 =>
 Xq (.pick (.c x17) (.c x28) (.c (.v (.bool false)))) (fun x29 =>
 Xxg call x29 true ox26 45 (.call false i_law09_live []) (fun x30 ox30 =>
 Xq (.pick (.c x29) (.c x30) (.c (.v (.bool false)))) (fun x31 =>
 Xr ox30 [some x31]) ()) ()) ()) ()) ()) ()) ()) ()) ()) ()) ()) ()) ()) ()) ()) ()) ()) ()) ()) ()) ()) ()) ()) () ()) ()) ()) ()) ()) ()) () := by kernel_rfl
def c_law09_live : CF := ⟨0, 14,
  .seq (.reg [] [
  ⟨(some 0), none, .mv (.c (.v (.bool false)))⟩]) (
  .seq (.reg [] [
  ⟨(some 1), none, .call false i_ident_Right [(.c (.v (.string ⟨#[97, 95, 49]⟩)))]⟩,
  ⟨(some 2), none, .mv (.t 1)⟩,
  ⟨(some 3), (some (2, true)), .call false i_ident_Right [(.c (.v (.string ⟨#[49, 97]⟩)))]⟩,
  ⟨(some 4), (some (2, true)), .not (.t 3)⟩,
  ⟨(some 5), none, .pick (.t 2) (.t 4) (.c (.v (.bool false)))⟩,
  ⟨(some 6), none, .mv (.t 5)⟩,
  ⟨(some 7), (some (6, true)), .call false i_ident_Right [(.c (.v (.string ⟨#[116, 111]⟩)))]⟩,
  ⟨(some 8), (some (6, true)), .not (.t 7)⟩,
  ⟨(some 9), none, .pick (.t 6) (.t 8) (.c (.v (.bool false)))⟩,
  ⟨(some 10), none, .mv (.t 9)⟩,
  ⟨(some 11), (some (10, true)), .call false i_ident_Right [(.c (.v (.string ⟨#[97, 195, 169]⟩)))]⟩,
  ⟨(some 12), (some (10, true)), .not (.t 11)⟩,
  ⟨(some 13), none, .pick (.t 10) (.t 12) (.c (.v (.bool false)))⟩,
  ⟨(some 0), none, .mv (.t 13)⟩]) (
  .ret)),
  [.t 0]⟩
def v_law09_live : List Nat := []
set_option maxRecDepth 100000 in
theorem s_law09_live (call : Eng.Call) (G : Nat → AV) (n : Nat) : denFE call G v_law09_live n c_law09_live [] =
 Xx call [] 1 (.call false i_ident_Right [(.c (.v (.string ⟨#[97, 95, 49]⟩)))]) (fun x0 ox0 =>
 Xxg call x0 true ox0 3 (.call false i_ident_Right [(.c (.v (.string ⟨#[49, 97]⟩)))]) (fun x1 ox1 =>
 Xgq x0 true (.not (.c x1)) (fun x2 =>
 Xq (.pick (.c x0) (.c x2) (.c (.v (.bool false)))) (fun x3 =>
 Xxg call x3 true ox1 7 (.call false i_ident_Right [(.c (.v (.string ⟨#[116, 111]⟩)))]) (fun x4 ox4 =>
 Xgq x3 true (.not (.c x4)) (fun x5 =>
 Xq (.pick (.c x3) (.c x5) (.c (.v (.bool false)))) (fun x6 =>
 Xxg call x6 true ox4 11 (.call false i_ident_Right [(.c (.v (.string ⟨#[97, 195, 169]⟩)))]) (fun x7 ox7 =>
 Xgq x6 true (.not (.c x7)) (fun x8 =>
 Xq (.pick (.c x6) (.c x8) (.c (.v (.bool false)))) (fun x9 =>
 Xr ox7 [some x9]) ()) ()) ()) ()) ()) ()) ()) ()) ()) () := by kernel_rfl
def k_ident_Rise_0 : List Nat := [0, 5, 6, 7]
def c_ident_Rise_b0 : CC := .seq (.reg [] [
  ⟨(some 8), none, .bin .lss (.t 7) (.t 6)⟩]) (
  .seq (.cond (.t 8) (
  .skip) (
  .exit 0)) (
  .seq (.block 1 (
  .seq (.reg [] [
  ⟨(some 9), none, .mv (.t 7)⟩,
  ⟨(some 10), none, .ias 1 (.t 5) (.t 7)⟩,
  ⟨(some 11), none, .ld false 1 (.t 10)⟩,
  ⟨(some 3), none, .mv (.t 9)⟩,
  ⟨(some 4), none, .mv (.t 11)⟩]) (
  .seq (.reg [] [
  ⟨(some 12), none, .mv (.t 3)⟩,
  ⟨(some 13), none, .bin .gtr (.t 12) (.c (.v (.int .i64 0)))⟩,
  ⟨(some 14), none, .mv (.t 13)⟩,
  ⟨(some 15), (some (14, true)), .mv (.t 0)⟩,
  ⟨(some 16), (some (14, true)), .mv (.t 3)⟩,
  ⟨(some 17), (some (14, true)), .bin .sub (.t 16) (.c (.v (.int .i64 1)))⟩,
  ⟨(some 18), (some (14, true)), .ias 1 (.t 15) (.t 17)⟩,
  ⟨(some 19), (some (14, true)), .ld false 1 (.t 18)⟩,
  ⟨(some 20), (some (14, true)), .mv (.t 4)⟩,
  ⟨(some 21), (some (14, true)), .bin .geq (.t 19) (.t 20)⟩,
  ⟨(some 22), none, .pick (.t 14) (.t 21) (.c (.v (.bool false)))⟩]) (
  .cond (.t 22) (
  .seq (.reg [] [
  ⟨(some 2), none, .mv (.c (.v (.bool false)))⟩]) (
  .ret)) (
  .skip))))) (
  .reg [] [
  ⟨(some 23), none, .bin .add (.t 7) (.c (.v (.int .i64 1)))⟩,
  ⟨(some 7), none, .mv (.t 23)⟩])))
def c_ident_Rise_s0 : CC := .seq (.reg [] [
  ⟨(some 2), none, .mv (.c (.v (.bool true)))⟩]) (
  .ret)
def c_ident_Rise : CF := ⟨1, 24,
  .seq (.reg [] [
  ⟨(some 2), none, .mv (.c (.v (.bool false)))⟩]) (
  .seq (.seq (.reg [] [
  ⟨(some 5), none, .mv (.t 0)⟩,
  ⟨(some 6), none, .len false (.t 5)⟩,
  ⟨(some 7), none, .mv (.c (.v (.int .i64 0)))⟩]) (
  .block 0 (
  .loop k_ident_Rise_0 c_ident_Rise_b0))) c_ident_Rise_s0),
  [.t 2]⟩
def v_ident_Rise : List Nat := []
def R_ident_Rise_0 (call : Eng.Call) (G : Nat → AV) (n m0 : Nat) (o : Objs) (y0 y5 y6 y7 : AV) : Out := roundsE k_ident_Rise_0 (denE 24 call G v_ident_Rise n c_ident_Rise_b0) m0 [y0, y5, y6, y7] o (eBlock 0 (eSeq (denE 24 call G v_ident_Rise n c_ident_Rise_s0) (eEnd [.t 2])))
set_option maxRecDepth 100000 in
theorem R_ident_Rise_0_s (call : Eng.Call) (G : Nat → AV) (n m0 : Nat) (o : Objs) (y0 y5 y6 y7 : AV) : R_ident_Rise_0 call G n (m0 + 1) o y0 y5 y6 y7 =
 Xq (.bin .lss (.c y7) (.c y6)) (fun x2 =>
 Xc x2 (fun _ =>
 Xq (.ias 1 (.c y5) (.c y7)) (fun x3 =>
 Xx call o 11 (.ld false 1 (.c x3)) (fun x4 ox4 =>
 Xq (.bin .gtr (.c y7) (.c (.v (.int .i64 0)))) (fun x5 =>
 Xgq x5 true (.mv (.c y0)) (fun x6 =>
 Xgq x5 true (.mv (.c y7)) (fun x7 =>
 Xgq x5 true (.bin .sub (.c x7) (.c (.v (.int .i64 1)))) (fun x8 =>
 Xgq x5 true (.ias 1 (.c x6) (.c x8)) (fun x9 =>
 Xxg call x5 true ox4 19 (.ld false 1 (.c x9)) (fun x10 ox10 =>
 Xgq x5 true (.mv (.c x4)) (fun x11 =>
 Xgq x5 true (.bin .geq (.c x10) (.c x11)) (fun x12 =>
 Xq (.pick (.c x5) (.c x12) (.c (.v (.bool false)))) (fun x13 =>
 Xc x13 (fun _ =>
 Xr ox10 [some (.v (.bool false))]) (fun _ =>
 Xq (.bin .add (.c y7) (.c (.v (.int .i64 1)))) (fun x14 =>
 R_ident_Rise_0 call G n m0 (maskO k_ident_Rise_0 ox10) (msk k_ident_Rise_0 y0) (msk k_ident_Rise_0 y5) (msk k_ident_Rise_0 y6) (msk k_ident_Rise_0 x14)) ()) () ()) ()) ()) ()) ()) ()) ()) ()) ()) ()) ()) ()) (fun _ =>
 Xr o [some (.v (.bool true))]) () ()) () := by kernel_rfl
set_option maxRecDepth 100000 in
theorem s_ident_Rise (call : Eng.Call) (G : Nat → AV) (n : Nat) (x0 : AV) : denFE call G v_ident_Rise n c_ident_Rise [x0] =
 Xq (.len false (.c x0)) (fun x1 =>
 R_ident_Rise_0 call G n n (maskO k_ident_Rise_0 []) (msk k_ident_Rise_0 x0) (msk k_ident_Rise_0 x0) (msk k_ident_Rise_0 x1) (msk k_ident_Rise_0 (.v (.int .i64 0)))) () := by kernel_rfl
def k_ref09_Rise_0 : List Nat := [0, 3]
def c_ref09_Rise_b0 : CC := .seq (.seq (.reg [] [
  ⟨(some 4), none, .mv (.t 3)⟩,
  ⟨(some 5), none, .mv (.t 0)⟩,
  ⟨(some 6), none, .len false (.t 5)⟩,
  ⟨(some 7), none, .bin .lss (.t 4) (.t 6)⟩]) (
  .cond (.t 7) (
  .skip) (
  .exit 0))) (
  .seq (.block 1 (
  .seq (.reg [
  ⟨(some 10), none, .mv (.t 0)⟩,
  ⟨(some 11), none, .mv (.t 3)⟩,
  ⟨(some 12), none, .bin .sub (.t 11) (.c (.v (.int .i64 1)))⟩,
  ⟨(some 13), none, .ias 1 (.t 10) (.t 12)⟩,
  ⟨(some 14), none, .ld false 1 (.t 13)⟩,
  ⟨(some 15), none, .mv (.t 0)⟩,
  ⟨(some 16), none, .mv (.t 3)⟩,
  ⟨(some 17), none, .ias 1 (.t 15) (.t 16)⟩,
  ⟨(some 18), none, .ld false 1 (.t 17)⟩] [
  ⟨(some 19), none, .bin .geq (.t 14) (.t 18)⟩]) (
  .cond (.t 19) (
  .seq (.reg [] [
  ⟨(some 2), none, .mv (.c (.v (.bool false)))⟩]) (
  .ret)) (
  .skip)))) (
  .reg [] [
  ⟨(some 8), none, .mv (.t 3)⟩,
  ⟨(some 9), none, .bin .add (.t 8) (.c (.v (.int .i64 1)))⟩,
  ⟨(some 3), none, .mv (.t 9)⟩]))
def c_ref09_Rise_s0 : CC := .seq (.reg [] [
  ⟨(some 2), none, .mv (.c (.v (.bool true)))⟩]) (
  .ret)
def c_ref09_Rise : CF := ⟨1, 20,
  .seq (.reg [] [
  ⟨(some 2), none, .mv (.c (.v (.bool false)))⟩]) (
  .seq (.seq (.reg [] [
  ⟨(some 3), none, .mv (.c (.v (.int .i64 1)))⟩]) (
  .block 0 (
  .loop k_ref09_Rise_0 c_ref09_Rise_b0))) c_ref09_Rise_s0),
  [.t 2]⟩
def v_ref09_Rise : List Nat := []
def R_ref09_Rise_0 (call : Eng.Call) (G : Nat → AV) (n m0 : Nat) (o : Objs) (y0 y3 : AV) : Out := roundsE k_ref09_Rise_0 (denE 20 call G v_ref09_Rise n c_ref09_Rise_b0) m0 [y0, y3] o (eBlock 0 (eSeq (denE 20 call G v_ref09_Rise n c_ref09_Rise_s0) (eEnd [.t 2])))
set_option maxRecDepth 100000 in
theorem R_ref09_Rise_0_s (call : Eng.Call) (G : Nat → AV) (n m0 : Nat) (o : Objs) (y0 y3 : AV) : R_ref09_Rise_0 call G n (m0 + 1) o y0 y3 =
 Xq (.len false (.c y0)) (fun x1 =>
 Xq (.bin .lss (.c y3) (.c x1)) (fun x2 =>
 Xc x2 (fun _ =>
 Xq (.bin .sub (.c y3) (.c (.v (.int .i64 1)))) (fun x3 =>
 Xq (.ias 1 (.c y0) (.c x3)) (fun x4 =>
 Xp call o 14 (.ld false 1 (.c x4)) (fun x5 nx5 sx5 =>
 Xq (.ias 1 (.c y0) (.c y3)) (fun x6 =>
 Xp call o 18 (.ld false 1 (.c x6)) (fun x7 nx7 sx7 =>
 Xq (.bin .geq (.c x5) (.c x7)) (fun x8 =>
 Xc x8 (fun _ =>
 Xr (finO o (nx5 ++ nx7) (sx5 ++ sx7)) [some (.v (.bool false))]) (fun _ =>
 Xq (.bin .add (.c y3) (.c (.v (.int .i64 1)))) (fun x9 =>
 R_ref09_Rise_0 call G n m0 (maskO k_ref09_Rise_0 (finO o (nx5 ++ nx7) (sx5 ++ sx7))) (msk k_ref09_Rise_0 y0) (msk k_ref09_Rise_0 x9)) ()) () ()) ()) ()) ()) ()) ()) ()) (fun _ =>
 Xr o [some (.v (.bool true))]) () ()) ()) () := by kernel_rfl
set_option maxRecDepth 100000 in
theorem s_ref09_Rise (call : Eng.Call) (G : Nat → AV) (n : Nat) (x0 : AV) : denFE call G v_ref09_Rise n c_ref09_Rise [x0] =
 R_ref09_Rise_0 call G n n (maskO k_ref09_Rise_0 []) (msk k_ref09_Rise_0 x0) (msk k_ref09_Rise_0 (.v (.int .i64 1))) := by kernel_rfl
def k_ref09_Once_0 : List Nat := [0, 3, 4]
def c_ref09_Once_b0 : CC := .seq (.seq (.reg [] [
  ⟨(some 11), none, .mv (.t 4)⟩,
  ⟨(some 12), none, .mv (.t 3)⟩,
  ⟨(some 13), none, .bin .lss (.t 11) (.t 12)⟩]) (
  .cond (.t 13) (
  .skip) (
  .exit 2))) (
  .seq (.block 3 (
  .seq (.reg [
  ⟨(some 16), none, .mv (.t 0)⟩,
  ⟨(some 17), none, .mv (.t 3)⟩,
  ⟨(some 18), none, .ias 1 (.t 16) (.t 17)⟩,
  ⟨(some 19), none, .ld false 1 (.t 18)⟩,
  ⟨(some 20), none, .mv (.t 0)⟩,
  ⟨(some 21), none, .mv (.t 4)⟩,
  ⟨(some 22), none, .ias 1 (.t 20) (.t 21)⟩,
  ⟨(some 23), none, .ld false 1 (.t 22)⟩] [
  ⟨(some 24), none, .bin .eql (.t 19) (.t 23)⟩]) (
  .cond (.t 24) (
  .seq (.reg [] [
  ⟨(some 2), none, .mv (.c (.v (.bool false)))⟩]) (
  .ret)) (
  .skip)))) (
  .reg [] [
  ⟨(some 14), none, .mv (.t 4)⟩,
  ⟨(some 15), none, .bin .add (.t 14) (.c (.v (.int .i64 1)))⟩,
  ⟨(some 4), none, .mv (.t 15)⟩]))
def c_ref09_Once_s0 : CC := .reg [] [
  ⟨(some 9), none, .mv (.t 3)⟩,
  ⟨(some 10), none, .bin .add (.t 9) (.c (.v (.int .i64 1)))⟩,
  ⟨(some 3), none, .mv (.t 10)⟩]
def k_ref09_Once_1 : List Nat := [0, 3]
def c_ref09_Once_b1 : CC := .seq (.seq (.reg [] [
  ⟨(some 5), none, .mv (.t 3)⟩,
  ⟨(some 6), none, .mv (.t 0)⟩,
  ⟨(some 7), none, .len false (.t 6)⟩,
  ⟨(some 8), none, .bin .lss (.t 5) (.t 7)⟩]) (
  .cond (.t 8) (
  .skip) (
  .exit 0))) (
  .seq (.block 1 (
  .seq (.reg [] [
  ⟨(some 4), none, .mv (.c (.v (.int .i64 0)))⟩]) (
  .block 2 (
  .loop k_ref09_Once_0 c_ref09_Once_b0)))) c_ref09_Once_s0)
def c_ref09_Once_s1 : CC := .seq (.reg [] [
  ⟨(some 2), none, .mv (.c (.v (.bool true)))⟩]) (
  .ret)
def c_ref09_Once : CF := ⟨1, 25,
  .seq (.reg [] [
  ⟨(some 2), none, .mv (.c (.v (.bool false)))⟩]) (
  .seq (.seq (.reg [] [
  ⟨(some 3), none, .mv (.c (.v (.int .i64 0)))⟩]) (
  .block 0 (
  .loop k_ref09_Once_1 c_ref09_Once_b1))) c_ref09_Once_s1),
  [.t 2]⟩
def v_ref09_Once : List Nat := []
def R_ref09_Once_0 (call : Eng.Call) (G : Nat → AV) (n m0 m1 : Nat) (o : Objs) (y0 y3 y4 : AV) : Out := roundsE k_ref09_Once_0 (denE 25 call G v_ref09_Once n c_ref09_Once_b0) m0 [y0, y3, y4] o (eBlock 2 (eBlock 1 (eSeq (denE 25 call G v_ref09_Once n c_ref09_Once_s0) (eLoop k_ref09_Once_1 (denE 25 call G v_ref09_Once n c_ref09_Once_b1) m1 (eBlock 0 (eSeq (denE 25 call G v_ref09_Once n c_ref09_Once_s1) (eEnd [.t 2])))))))
def R_ref09_Once_1 (call : Eng.Call) (G : Nat → AV) (n m1 : Nat) (o : Objs) (y0 y3 : AV) : Out := roundsE k_ref09_Once_1 (denE 25 call G v_ref09_Once n c_ref09_Once_b1) m1 [y0, y3] o (eBlock 0 (eSeq (denE 25 call G v_ref09_Once n c_ref09_Once_s1) (eEnd [.t 2])))
set_option maxRecDepth 100000 in
theorem R_ref09_Once_0_s (call : Eng.Call) (G : Nat → AV) (n m0 m1 : Nat) (o : Objs) (y0 y3 y4 : AV) : R_ref09_Once_0 call G n (m0 + 1) m1 o y0 y3 y4 =
 Xq (.bin .lss (.c y4) (.c y3)) (fun x3 =>
 Xc x3 (fun _ =>
 Xq (.ias 1 (.c y0) (.c y3)) (fun x4 =>
 Xp call o 19 (.ld false 1 (.c x4)) (fun x5 nx5 sx5 =>
 Xq (.ias 1 (.c y0) (.c y4)) (fun x6 =>
 Xp call o 23 (.ld false 1 (.c x6)) (fun x7 nx7 sx7 =>
 Xq (.bin .eql (.c x5) (.c x7)) (fun x8 =>
 Xc x8 (fun _ =>
 Xr (finO o (nx5 ++ nx7) (sx5 ++ sx7)) [some (.v (.bool false))]) (fun _ =>
 Xq (.bin .add (.c y4) (.c (.v (.int .i64 1)))) (fun x9 =>
 R_ref09_Once_0 call G n m0 m1 (maskO k_ref09_Once_0 (finO o (nx5 ++ nx7) (sx5 ++ sx7))) (msk k_ref09_Once_0 y0) (msk k_ref09_Once_0 y3) (msk k_ref09_Once_0 x9)) ()) () ()) ()) ()) ()) ()) ()) (fun _ =>
 Xq (.bin .add (.c y3) (.c (.v (.int .i64 1)))) (fun x10 =>
 R_ref09_Once_1 call G n m1 (maskO k_ref09_Once_1 o) (msk k_ref09_Once_1 y0) (msk k_ref09_Once_1 x10)) ()) () ()) () := by kernel_rfl
set_option maxRecDepth 100000 in
theorem R_ref09_Once_1_s (call : Eng.Call) (G : Nat → AV) (n m1 : Nat) (o : Objs) (y0 y3 : AV) : R_ref09_Once_1 call G n (m1 + 1) o y0 y3 =
 Xq (.len false (.c y0)) (fun x1 =>
 Xq (.bin .lss (.c y3) (.c x1)) (fun x2 =>
 Xc x2 (fun _ =>
 R_ref09_Once_0 call G n n m1 (maskO k_ref09_Once_0 o) (msk k_ref09_Once_0 y0) (msk k_ref09_Once_0 y3) (msk k_ref09_Once_0 (.v (.int .i64 0)))) (fun _ =>
 Xr o [some (.v (.bool true))]) () ()) ()) () := by kernel_rfl
set_option maxRecDepth 100000 in
theorem s_ref09_Once (call : Eng.Call) (G : Nat → AV) (n : Nat) (x0 : AV) : denFE call G v_ref09_Once n c_ref09_Once [x0] =
 R_ref09_Once_1 call G n n (maskO k_ref09_Once_1 []) (msk k_ref09_Once_1 x0) (msk k_ref09_Once_1 (.v (.int .i64 0))) := by kernel_rfl
def c_ident_word : CF := ⟨1, 44,
  .seq (.reg [] [
  ⟨(some 2), none, .mv (.c (.v (.bool false)))⟩]) (
  .seq (.seq (.reg [] [
  ⟨(some 3), none, .mv (.t 0)⟩]) (
  .block 0 (
  .seq (.seq (.reg [] [
  ⟨(some 5), none, .bin .eql (.t 3) (.c (.v (.string ⟨#[101, 110, 117, 109]⟩)))⟩,
  ⟨(some 4), none, .mv (.t 5)⟩]) (
  .cond (.t 4) (
  .skip) (
  .seq (.reg [] [
  ⟨(some 6), none, .bin .eql (.t 3) (.c (.v (.string ⟨#[109, 101, 115, 115, 97, 103, 101]⟩)))⟩,
  ⟨(some 4), none, .mv (.t 6)⟩]) (
  .cond (.t 4) (
  .skip) (
  .seq (.reg [] [
  ⟨(some 7), none, .bin .eql (.t 3) (.c (.v (.string ⟨#[111, 110, 101, 111, 102]⟩)))⟩,
  ⟨(some 4), none, .mv (.t 7)⟩]) (
  .cond (.t 4) (
  .skip) (
  .seq (.reg [] [
  ⟨(some 8), none, .bin .eql (.t 3) (.c (.v (.string ⟨#[114, 101, 112, 101, 97, 116, 101, 100]⟩)))⟩,
  ⟨(some 4), none, .mv (.t 8)⟩]) (
  .cond (.t 4) (
  .skip) (
  .seq (.reg [] [
  ⟨(some 9), none, .bin .eql (.t 3) (.c (.v (.string ⟨#[114, 101, 115, 101, 114, 118, 101, 100]⟩)))⟩,
  ⟨(some 4), none, .mv (.t 9)⟩]) (
  .cond (.t 4) (
  .skip) (
  .reg [] [
  ⟨(some 10), none, .bin .eql (.t 3) (.c (.v (.string ⟨#[108, 111, 111, 115, 101]⟩)))⟩,
  ⟨(some 4), none, .mv (.t 10)⟩]))))))))))) (
  .cond (.t 4) (
  .skip) (
  .seq (.seq (.reg [] [
  ⟨(some 12), none, .bin .eql (.t 3) (.c (.v (.string ⟨#[105, 110, 116, 51, 50]⟩)))⟩,
  ⟨(some 11), none, .mv (.t 12)⟩]) (
  .cond (.t 11) (
  .skip) (
  .seq (.reg [] [
  ⟨(some 13), none, .bin .eql (.t 3) (.c (.v (.string ⟨#[105, 110, 116, 54, 52]⟩)))⟩,
  ⟨(some 11), none, .mv (.t 13)⟩]) (
  .cond (.t 11) (
  .skip) (
  .seq (.reg [] [
  ⟨(some 14), none, .bin .eql (.t 3) (.c (.v (.string ⟨#[117, 105, 110, 116, 51, 50]⟩)))⟩,
  ⟨(some 11), none, .mv (.t 14)⟩]) (
  .cond (.t 11) (
  .skip) (
  .seq (.reg [] [
  ⟨(some 15), none, .bin .eql (.t 3) (.c (.v (.string ⟨#[117, 105, 110, 116, 54, 52]⟩)))⟩,
  ⟨(some 11), none, .mv (.t 15)⟩]) (
  .cond (.t 11) (
  .skip) (
  .seq (.reg [] [
  ⟨(some 16), none, .bin .eql (.t 3) (.c (.v (.string ⟨#[115, 105, 110, 116, 51, 50]⟩)))⟩,
  ⟨(some 11), none, .mv (.t 16)⟩]) (
  .cond (.t 11) (
  .skip) (
  .seq (.reg [] [
  ⟨(some 17), none, .bin .eql (.t 3) (.c (.v (.string ⟨#[115, 105, 110, 116, 54, 52]⟩)))⟩,
  ⟨(some 11), none, .mv (.t 17)⟩]) (
  .cond (.t 11) (
  .skip) (
  .reg [] [
  ⟨(some 18), none, .bin .eql (.t 3) (.c (.v (.string ⟨#[98, 111, 111, 108]⟩)))⟩,
  ⟨(some 11), none, .mv (.t 18)⟩]))))))))))))) (
  .cond (.t 11) (
  .skip) (
  .seq (.seq (.reg [] [
  ⟨(some 20), none, .bin .eql (.t 3) (.c (.v (.string ⟨#[102, 105, 120, 101, 100, 51, 50]⟩)))⟩,
  ⟨(some 19), none, .mv (.t 20)⟩]) (
  .cond (.t 19) (
  .skip) (
  .seq (.reg [] [
  ⟨(some 21), none, .bin .eql (.t 3) (.c (.v (.string ⟨#[102, 105, 120, 101, 100, 54, 52]⟩)))⟩,
  ⟨(some 19), none, .mv (.t 21)⟩]) (
  .cond (.t 19) (
  .skip) (
  .seq (.reg [] [
  ⟨(some 22), none, .bin .eql (.t 3) (.c (.v (.string ⟨#[115, 102, 105, 120, 101, 100, 51, 50]⟩)))⟩,
  ⟨(some 19), none, .mv (.t 22)⟩]) (
  .cond (.t 19) (
  .skip) (
  .seq (.reg [] [
  ⟨(some 23), none, .bin .eql (.t 3) (.c (.v (.string ⟨#[115, 102, 105, 120, 101, 100, 54, 52]⟩)))⟩,
  ⟨(some 19), none, .mv (.t 23)⟩]) (
  .cond (.t 19) (
  .skip) (
  .seq (.reg [] [
  ⟨(some 24), none, .bin .eql (.t 3) (.c (.v (.string ⟨#[115, 116, 114, 105, 110, 103]⟩)))⟩,
  ⟨(some 19), none, .mv (.t 24)⟩]) (
  .cond (.t 19) (
  .skip) (
  .reg [] [
  ⟨(some 25), none, .bin .eql (.t 3) (.c (.v (.string ⟨#[98, 121, 116, 101, 115]⟩)))⟩,
  ⟨(some 19), none, .mv (.t 25)⟩]))))))))))) (
  .cond (.t 19) (
  .skip) (
  .seq (.seq (.reg [] [
  ⟨(some 27), none, .bin .eql (.t 3) (.c (.v (.string ⟨#[114, 101, 110, 97, 109, 101]⟩)))⟩,
  ⟨(some 26), none, .mv (.t 27)⟩]) (
  .cond (.t 26) (
  .skip) (
  .seq (.reg [] [
  ⟨(some 28), none, .bin .eql (.t 3) (.c (.v (.string ⟨#[114, 101, 110, 117, 109, 98, 101, 114]⟩)))⟩,
  ⟨(some 26), none, .mv (.t 28)⟩]) (
  .cond (.t 26) (
  .skip) (
  .seq (.reg [] [
  ⟨(some 29), none, .bin .eql (.t 3) (.c (.v (.string ⟨#[114, 101, 116, 121, 112, 101]⟩)))⟩,
  ⟨(some 26), none, .mv (.t 29)⟩]) (
  .cond (.t 26) (
  .skip) (
  .seq (.reg [] [
  ⟨(some 30), none, .bin .eql (.t 3) (.c (.v (.string ⟨#[115, 112, 108, 105, 116]⟩)))⟩,
  ⟨(some 26), none, .mv (.t 30)⟩]) (
  .cond (.t 26) (
  .skip) (
  .seq (.reg [] [
  ⟨(some 31), none, .bin .eql (.t 3) (.c (.v (.string ⟨#[106, 111, 105, 110]⟩)))⟩,
  ⟨(some 26), none, .mv (.t 31)⟩]) (
  .cond (.t 26) (
  .skip) (
  .seq (.reg [] [
  ⟨(some 32), none, .bin .eql (.t 3) (.c (.v (.string ⟨#[119, 114, 97, 112]⟩)))⟩,
  ⟨(some 26), none, .mv (.t 32)⟩]) (
  .cond (.t 26) (
  .skip) (
  .seq (.reg [] [
  ⟨(some 33), none, .bin .eql (.t 3) (.c (.v (.string ⟨#[117, 110, 119, 114, 97, 112]⟩)))⟩,
  ⟨(some 26), none, .mv (.t 33)⟩]) (
  .cond (.t 26) (
  .skip) (
  .seq (.reg [] [
  ⟨(some 34), none, .bin .eql (.t 3) (.c (.v (.string ⟨#[97, 100, 100]⟩)))⟩,
  ⟨(some 26), none, .mv (.t 34)⟩]) (
  .cond (.t 26) (
  .skip) (
  .reg [] [
  ⟨(some 35), none, .bin .eql (.t 3) (.c (.v (.string ⟨#[100, 114, 111, 112]⟩)))⟩,
  ⟨(some 26), none, .mv (.t 35)⟩]))))))))))))))))) (
  .cond (.t 26) (
  .skip) (
  .seq (.seq (.reg [] [
  ⟨(some 37), none, .bin .eql (.t 3) (.c (.v (.string ⟨#[116, 111]⟩)))⟩,
  ⟨(some 36), none, .mv (.t 37)⟩]) (
  .cond (.t 36) (
  .skip) (
  .seq (.reg [] [
  ⟨(some 38), none, .bin .eql (.t 3) (.c (.v (.string ⟨#[105, 110, 116, 111]⟩)))⟩,
  ⟨(some 36), none, .mv (.t 38)⟩]) (
  .cond (.t 36) (
  .skip) (
  .seq (.reg [] [
  ⟨(some 39), none, .bin .eql (.t 3) (.c (.v (.string ⟨#[97, 115]⟩)))⟩,
  ⟨(some 36), none, .mv (.t 39)⟩]) (
  .cond (.t 36) (
  .skip) (
  .seq (.reg [] [
  ⟨(some 40), none, .bin .eql (.t 3) (.c (.v (.string ⟨#[111, 102]⟩)))⟩,
  ⟨(some 36), none, .mv (.t 40)⟩]) (
  .cond (.t 36) (
  .skip) (
  .seq (.reg [] [
  ⟨(some 41), none, .bin .eql (.t 3) (.c (.v (.string ⟨#[100, 101, 102, 97, 117, 108, 116]⟩)))⟩,
  ⟨(some 36), none, .mv (.t 41)⟩]) (
  .cond (.t 36) (
  .skip) (
  .seq (.reg [] [
  ⟨(some 42), none, .bin .eql (.t 3) (.c (.v (.string ⟨#[116, 114, 117, 101]⟩)))⟩,
  ⟨(some 36), none, .mv (.t 42)⟩]) (
  .cond (.t 36) (
  .skip) (
  .reg [] [
  ⟨(some 43), none, .bin .eql (.t 3) (.c (.v (.string ⟨#[102, 97, 108, 115, 101]⟩)))⟩,
  ⟨(some 36), none, .mv (.t 43)⟩]))))))))))))) (
  .cond (.t 36) (
  .skip) (
  .seq (.reg [] [
  ⟨(some 2), none, .mv (.c (.v (.bool false)))⟩]) (
  .ret)))))))))))))) (
  .seq (.reg [] [
  ⟨(some 2), none, .mv (.c (.v (.bool true)))⟩]) (
  .ret))),
  [.t 2]⟩
def v_ident_word : List Nat := []
def J_ident_word_0 (call : Eng.Call) (G : Nat → AV) (n : Nat) (oJ : Objs) (z3z z26z : AV) : Out :=
 Xc z26z (fun _ =>
 Xr oJ [some (.v (.bool true))]) (fun _ =>
 Xq (.bin .eql (.c z3z) (.c (.v (.string ⟨#[116, 111]⟩)))) (fun x1 =>
 Xc x1 (fun _ =>
 Xc x1 (fun _ =>
 Xr oJ [some (.v (.bool true))]) (fun _ =>
 Xr oJ [some (.v (.bool false))]) () ()) (fun _ =>
 Xq (.bin .eql (.c z3z) (.c (.v (.string ⟨#[105, 110, 116, 111]⟩)))) (fun x2 =>
 Xc x2 (fun _ =>
 Xc x2 (fun _ =>
 Xr oJ [some (.v (.bool true))]) (fun _ =>
 Xr oJ [some (.v (.bool false))]) () ()) (fun _ =>
 Xq (.bin .eql (.c z3z) (.c (.v (.string ⟨#[97, 115]⟩)))) (fun x3 =>
 Xc x3 (fun _ =>
 Xc x3 (fun _ =>
 Xr oJ [some (.v (.bool true))]) (fun _ =>
 Xr oJ [some (.v (.bool false))]) () ()) (fun _ =>
 Xq (.bin .eql (.c z3z) (.c (.v (.string ⟨#[111, 102]⟩)))) (fun x4 =>
 Xc x4 (fun _ =>
 Xc x4 (fun _ =>
 Xr oJ [some (.v (.bool true))]) (fun _ =>
 Xr oJ [some (.v (.bool false))]) () ()) (fun _ =>
 Xq (.bin .eql (.c z3z) (.c (.v (.string ⟨#[100, 101, 102, 97, 117, 108, 116]⟩)))) (fun x5 =>
 Xc x5 (fun _ =>
 Xc x5 (fun _ =>
 Xr oJ [some (.v (.bool true))]) (fun _ =>
 Xr oJ [some (.v (.bool false))]) () ()) (fun _ =>
 Xq (.bin .eql (.c z3z) (.c (.v (.string ⟨#[116, 114, 117, 101]⟩)))) (fun x6 =>
 Xc x6 (fun _ =>
 Xc x6 (fun _ =>
 Xr oJ [some (.v (.bool true))]) (fun _ =>
 Xr oJ [some (.v (.bool false))]) () ()) (fun _ =>
 Xq (.bin .eql (.c z3z) (.c (.v (.string ⟨#[102, 97, 108, 115, 101]⟩)))) (fun x7 =>
 Xc x7 (fun _ =>
 Xr oJ [some (.v (.bool true))]) (fun _ =>
 Xr oJ [some (.v (.bool false))]) () ()) ()) () ()) ()) () ()) ()) () ()) ()) () ()) ()) () ()) ()) () ()) ()) () ()
def J_ident_word_1 (call : Eng.Call) (G : Nat → AV) (n : Nat) (oJ : Objs) (z3z z19z : AV) : Out :=
 Xc z19z (fun _ =>
 Xr oJ [some (.v (.bool true))]) (fun _ =>
 Xq (.bin .eql (.c z3z) (.c (.v (.string ⟨#[114, 101, 110, 97, 109, 101]⟩)))) (fun x8 =>
 Xc x8 (fun _ =>
 J_ident_word_0 call G n oJ z3z x8) (fun _ =>
 Xq (.bin .eql (.c z3z) (.c (.v (.string ⟨#[114, 101, 110, 117, 109, 98, 101, 114]⟩)))) (fun x9 =>
 Xc x9 (fun _ =>
 J_ident_word_0 call G n oJ z3z x9) (fun _ =>
 Xq (.bin .eql (.c z3z) (.c (.v (.string ⟨#[114, 101, 116, 121, 112, 101]⟩)))) (fun x10 =>
 Xc x10 (fun _ =>
 J_ident_word_0 call G n oJ z3z x10) (fun _ =>
 Xq (.bin .eql (.c z3z) (.c (.v (.string ⟨#[115, 112, 108, 105, 116]⟩)))) (fun x11 =>
 Xc x11 (fun _ =>
 J_ident_word_0 call G n oJ z3z x11) (fun _ =>
 Xq (.bin .eql (.c z3z) (.c (.v (.string ⟨#[106, 111, 105, 110]⟩)))) (fun x12 =>
 Xc x12 (fun _ =>
 J_ident_word_0 call G n oJ z3z x12) (fun _ =>
 Xq (.bin .eql (.c z3z) (.c (.v (.string ⟨#[119, 114, 97, 112]⟩)))) (fun x13 =>
 Xc x13 (fun _ =>
 J_ident_word_0 call G n oJ z3z x13) (fun _ =>
 Xq (.bin .eql (.c z3z) (.c (.v (.string ⟨#[117, 110, 119, 114, 97, 112]⟩)))) (fun x14 =>
 Xc x14 (fun _ =>
 J_ident_word_0 call G n oJ z3z x14) (fun _ =>
 Xq (.bin .eql (.c z3z) (.c (.v (.string ⟨#[97, 100, 100]⟩)))) (fun x15 =>
 Xc x15 (fun _ =>
 J_ident_word_0 call G n oJ z3z x15) (fun _ =>
 Xq (.bin .eql (.c z3z) (.c (.v (.string ⟨#[100, 114, 111, 112]⟩)))) (fun x16 =>
 J_ident_word_0 call G n oJ z3z x16) ()) () ()) ()) () ()) ()) () ()) ()) () ()) ()) () ()) ()) () ()) ()) () ()) ()) () ()) ()) () ()
def J_ident_word_2 (call : Eng.Call) (G : Nat → AV) (n : Nat) (oJ : Objs) (z3z z11z : AV) : Out :=
 Xc z11z (fun _ =>
 Xr oJ [some (.v (.bool true))]) (fun _ =>
 Xq (.bin .eql (.c z3z) (.c (.v (.string ⟨#[102, 105, 120, 101, 100, 51, 50]⟩)))) (fun x17 =>
 Xc x17 (fun _ =>
 J_ident_word_1 call G n oJ z3z x17) (fun _ =>
 Xq (.bin .eql (.c z3z) (.c (.v (.string ⟨#[102, 105, 120, 101, 100, 54, 52]⟩)))) (fun x18 =>
 Xc x18 (fun _ =>
 J_ident_word_1 call G n oJ z3z x18) (fun _ =>
 Xq (.bin .eql (.c z3z) (.c (.v (.string ⟨#[115, 102, 105, 120, 101, 100, 51, 50]⟩)))) (fun x19 =>
 Xc x19 (fun _ =>
 J_ident_word_1 call G n oJ z3z x19) (fun _ =>
 Xq (.bin .eql (.c z3z) (.c (.v (.string ⟨#[115, 102, 105, 120, 101, 100, 54, 52]⟩)))) (fun x20 =>
 Xc x20 (fun _ =>
 J_ident_word_1 call G n oJ z3z x20) (fun _ =>
 Xq (.bin .eql (.c z3z) (.c (.v (.string ⟨#[115, 116, 114, 105, 110, 103]⟩)))) (fun x21 =>
 Xc x21 (fun _ =>
 J_ident_word_1 call G n oJ z3z x21) (fun _ =>
 Xq (.bin .eql (.c z3z) (.c (.v (.string ⟨#[98, 121, 116, 101, 115]⟩)))) (fun x22 =>
 J_ident_word_1 call G n oJ z3z x22) ()) () ()) ()) () ()) ()) () ()) ()) () ()) ()) () ()) ()) () ()
def J_ident_word_3 (call : Eng.Call) (G : Nat → AV) (n : Nat) (oJ : Objs) (z3z z4z : AV) : Out :=
 Xc z4z (fun _ =>
 Xr oJ [some (.v (.bool true))]) (fun _ =>
 Xq (.bin .eql (.c z3z) (.c (.v (.string ⟨#[105, 110, 116, 51, 50]⟩)))) (fun x23 =>
 Xc x23 (fun _ =>
 J_ident_word_2 call G n oJ z3z x23) (fun _ =>
 Xq (.bin .eql (.c z3z) (.c (.v (.string ⟨#[105, 110, 116, 54, 52]⟩)))) (fun x24 =>
 Xc x24 (fun _ =>
 J_ident_word_2 call G n oJ z3z x24) (fun _ =>
 Xq (.bin .eql (.c z3z) (.c (.v (.string ⟨#[117, 105, 110, 116, 51, 50]⟩)))) (fun x25 =>
 Xc x25 (fun _ =>
 J_ident_word_2 call G n oJ z3z x25) (fun _ =>
 Xq (.bin .eql (.c z3z) (.c (.v (.string ⟨#[117, 105, 110, 116, 54, 52]⟩)))) (fun x26 =>
 Xc x26 (fun _ =>
 J_ident_word_2 call G n oJ z3z x26) (fun _ =>
 Xq (.bin .eql (.c z3z) (.c (.v (.string ⟨#[115, 105, 110, 116, 51, 50]⟩)))) (fun x27 =>
 Xc x27 (fun _ =>
 J_ident_word_2 call G n oJ z3z x27) (fun _ =>
 Xq (.bin .eql (.c z3z) (.c (.v (.string ⟨#[115, 105, 110, 116, 54, 52]⟩)))) (fun x28 =>
 Xc x28 (fun _ =>
 J_ident_word_2 call G n oJ z3z x28) (fun _ =>
 Xq (.bin .eql (.c z3z) (.c (.v (.string ⟨#[98, 111, 111, 108]⟩)))) (fun x29 =>
 J_ident_word_2 call G n oJ z3z x29) ()) () ()) ()) () ()) ()) () ()) ()) () ()) ()) () ()) ()) () ()) ()) () ()
set_option maxRecDepth 100000 in
theorem s_ident_word (call : Eng.Call) (G : Nat → AV) (n : Nat) (x0 : AV) : denFE call G v_ident_word n c_ident_word [x0] =
 Xq (.bin .eql (.c x0) (.c (.v (.string ⟨#[101, 110, 117, 109]⟩)))) (fun x30 =>
 Xc x30 (fun _ =>
 J_ident_word_3 call G n [] x0 x30) (fun _ =>
 Xq (.bin .eql (.c x0) (.c (.v (.string ⟨#[109, 101, 115, 115, 97, 103, 101]⟩)))) (fun x31 =>
 Xc x31 (fun _ =>
 J_ident_word_3 call G n [] x0 x31) (fun _ =>
 Xq (.bin .eql (.c x0) (.c (.v (.string ⟨#[111, 110, 101, 111, 102]⟩)))) (fun x32 =>
 Xc x32 (fun _ =>
 J_ident_word_3 call G n [] x0 x32) (fun _ =>
 Xq (.bin .eql (.c x0) (.c (.v (.string ⟨#[114, 101, 112, 101, 97, 116, 101, 100]⟩)))) (fun x33 =>
 Xc x33 (fun _ =>
 J_ident_word_3 call G n [] x0 x33) (fun _ =>
 Xq (.bin .eql (.c x0) (.c (.v (.string ⟨#[114, 101, 115, 101, 114, 118, 101, 100]⟩)))) (fun x34 =>
 Xc x34 (fun _ =>
 J_ident_word_3 call G n [] x0 x34) (fun _ =>
 Xq (.bin .eql (.c x0) (.c (.v (.string ⟨#[108, 111, 111, 115, 101]⟩)))) (fun x35 =>
 J_ident_word_3 call G n [] x0 x35) ()) () ()) ()) () ()) ()) () ()) ()) () ()) ()) () ()) () := by kernel_rfl
end Go.Proofs.Yticmmpiffekbiaa.Il
